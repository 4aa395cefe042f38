import PyProof.Rows.All
import Wide.All
import OpenK.AllK
import Wide.FinOn
import PySem.Challenge.RW_uf060002_10
set_option Elab.async false
set_option genSizeOf false
set_option genInjectivity false
set_option bootstrap.genMatcherCode false
set_option linter.all false
set_option maxRecDepth 100000
set_option maxHeartbeats 8000000
namespace Mine.Internal
def fA:=@List.mem_cons_self
def fB:=@List.mem_cons_of_mem
def fC:=@List.length_map
def fE:=@List.length_append
def fF:=@Nat.le_trans
def fG:=@List.mem_cons
def fH:=@Option.some_ne_none
def fJ:=@List.mem_singleton
def fM:=@Nat.lt_trans
def fN:=@Nat.le_refl
def fO:=@List.forall_mem_cons
def fP:=@List.length_cons
def fQ:=@List.mem_map
def fR:=@List.mem_append
def fS:=@List.getD_eq_getElem?_getD
def fT:=@Nat.zero_le
def fU:=@List.map_append
def fV:=@List.length_singleton
def fW:=@List.getElem?_eq_getElem
def fX:=@List.nodup_cons
def fY:=@List.getElem?_eq_some_iff
def fZ:=@List.mem_filter
def gA:=@List.mem_append_right
def gB:=@Bool.and_eq_true_iff
def gC:=@List.pairwise_append
def gD:=@List.map_map
def gE:=@List.size_toArray
def gF:=@Array.toList_push
def gG:=@List.map_cons
def gH:=@Bool.false_eq_true
def gI:=@List.append_assoc
def gJ:=@Nat.succ_lt_succ
def gK:=@List.pairwise_cons
def gL:=@List.mem_flatten
def gM:=@List.not_mem_nil
def gN:=@Array.toList_append
def gO:=@List.length_eq_zero_iff
def gP:=@List.mem_append_left
def gQ:=@List.append_nil
def gR:=@Array.length_toList
def gS:=@Int.fmod_nonneg_of_pos
def gT:=@Bool.and_eq_true
def gU:=@List.length_range
def gV:=@Array.getElem?_toList
def gW:=@List.getElem?_append_left
def gX:=@List.mem_flatMap
def gY:=@List.lookup_cons
def gZ:=@List.foldl_cons
def pA:=@Nat.le_of_eq
def pB:=@Nat.mul_le_mul_right
def pC:=@Nat.lt_of_lt_of_le
def pD:=@Nat.le_of_ble_eq_true
def pE:=@List.mem_map_of_mem
def pF:=@List.getElem?_append_right
def pG:=@Nat.succ_le_succ
def pH:=@Nat.le_add_right
def pI:=@Nat.lt_succ_of_le
def pJ:=@Int.fmod_lt_of_pos
def pK:=@List.map_congr_left
def pL:=@Nat.not_lt
def pM:=@List.nodup_append
def pN:=@Array.getElem?_eq_some_iff
def pO:=@Array.toList_extract
def pP:=@List.find?_cons
def pQ:=@List.length_nil
def pR:=@List.drop_eq_getElem_cons
def pS:=@List.extract_eq_take_drop
def pT:=@List.getElem?_map
def pU:=@List.length_filter_le
def pV:=@Option.isSome_iff_exists
def pW:=@Bool.false_ne_true
def pX:=@List.all_eq_true
def pY:=@List.mem_of_getElem?
def pZ:=@Option.bind_eq_some_iff
def fAA:=@Option.map_eq_some_iff
def fAB:=@Nat.le_succ_of_le
def fAC:=@Array.perm_iff_toList_perm
def fAD:=@List.flatMap_cons
def fAE:=@Int.le_add_of_nonneg_right
def fAF:=@List.getElem?_eq_none
def fAG:=@List.mem_iff_getElem?
def fAH:=@Nat.ne_of_lt
def fAI:=@List.mem_range
def fAJ:=@Array.toList_reverse
def fAK:=@List.eq_nil_of_length_eq_zero
def fAL:=@List.getElem?_cons_succ
def fAM:=@Int.eq_ofNat_of_zero_le
def fAN:=@List.pairwise_singleton
def fAO:=@List.dropLast_concat_getLast
def fAP:=@Int.toNat_of_nonneg
def fAQ:=@Int.le_trans
def fAR:=@Nat.add_assoc
def fAS:=@Int.natCast_nonneg
def fAT:=@Int.lt_of_le_of_lt
def fAU:=@List.exists_mem_of_ne_nil
def fAV:=@List.pairwise_map
def fAW:=@Int.le_refl
def fAX:=@Nat.lt_irrefl
def fAY:=@Bool.toNat_le
def fAZ:=@Nat.add_lt_add_left
def fA0:=@Nat.le_of_lt
def fA1:=@Int.ofNat_lt
def fA2:=@List.take_of_length_le
def fA3:=@Nat.add_zero
def fA4:=@List.nil_append
def fA5:=@List.length_replicate
def fA6:=@List.take_append_drop
def fA7:=@Nat.le_succ
def fA8:=@List.mem_of_mem_take
def fA9:=@List.nodup_iff_pairwise_ne
def fBA:=@Int.ofNat_le
def fBB:=@Nat.zero_add
def fBC:=@Nat.succ_mul
def fBD:=@List.pairwise_iff_getElem
def fBE:=@Nat.le_antisymm
def fBF:=@List.of_mem_zip
def fBG:=@Array.forIn_toList
def fBH:=@List.mem_filterMap
def fBI:=@List.append_ne_nil_of_right_ne_nil
def fBJ:=@List.length_zipIdx
def fBK:=@Nat.add_sub_cancel_left
def fBL:=@List.map_id
def fBM:=@List.eraseIdx_append_of_length_le
def fBN:=@Nat.le_of_succ_le_succ
def fBO:=@Nat.sub_self
def fBP:=@Bool.not_eq_true'
def fBQ:=@List.filter_eq_nil_iff
def fBR:=@Nat.ble_eq_true_of_le
def fBS:=@List.eq_nil_or_concat
def fBT:=@List.concat_eq_append
def fBU:=@List.mem_of_mem_erase
def fBV:=@Int.min_eq_right
def fBW:=@Int.not_le
def fBX:=@List.getElem_mem
def fBY:=@List.mem_reverse
def fBZ:=@Int.mul_le_mul_of_nonneg_right
def fB0:=@Bool.and_true
def fB1:=@Nat.succ_lt_succ_iff
def fB2:=@Array.toArray_toList
def fB3:=@Int.mul_le_mul_of_nonneg_left
def fB4:=@Int.min_eq_left
def fB5:=@Nat.not_lt_zero
def fB6:=@Nat.add_le_add_left
def fB7:=@List.reverse_append
def fB8:=@List.length_pos_iff
def fB9:=@Int.le_of_lt
def fCA:=@List.sublist_flatten_of_mem
def fCB:=@List.zip_cons_cons
def fCC:=@List.getElem?_drop
def fCD:=@List.getElem?_eq_none_iff
def fCE:=@List.mem_of_find?_eq_some
def fCF:=@Int.toNat_natCast
def fCG:=@List.take_add_one
def fCH:=@List.ext_getElem?
def fCI:=@Nat.lt_succ_of_lt
def fCJ:=@List.flatten_cons
def fCK:=@List.filter_congr
def fCL:=@Bool.not_true
def fCM:=@Int.lt_irrefl
def fCN:=@Int.max_eq_right
def fCO:=@List.drop_length
def fCP:=@List.map_fst_zip
def fCQ:=@List.length_take
def fCR:=@Nat.lt_succ_self
def fCS:=@List.filter_cons
def fCT:=@List.isEmpty_map
def fCU:=@Int.add_zero
def fCV:=@Int.le_total
def fCW:=@Nat.succ_pos
def fCX:=@Int.max_eq_left
def fCY:=@Nat.min_le_left
def fCZ:=@Bool.or_eq_true
def fC0:=@List.range_succ
def fC1:=@Nat.add_le_add
def fC2:=@Nat.le_zero
def fC3:=@List.nodup_nil
def fC4:=@Nat.not_le
def fC5:=@Nat.blt_eq
def fC6:=@Int.not_lt
open PySem renaming wpAny_bind -> G6, wpAny_pure -> G7, wpAny_mono -> G8, wpAny_holding -> G9, sizeLine_eq -> Ha, wpAny_rule -> Hb, wpAny_forIn_list -> Hc, wpAny_call_entry -> Hd, wpAny_newList -> He, codeAny_mono -> Hf, wpAny_standAt -> Hg, Program -> Hh, codeAny -> Hi, Params -> Hj, mainGlobals -> Hk
open PyProof.Rows renaming wpS_bind -> Hl, wpS_pure -> Hm, wpS_mono -> Hn, pendingOf -> Ho, wpS_forRange -> Hp, listUpdate_at -> Hq, listItems_at -> Hr, arrOf -> Hs, Keyed -> Ht, seqObj -> Hu, get?_update_seq -> Hv
def Hw:=@Option.some.inj
def Hx:=@decide_eq_false
def Hy:=@decide_eq_true
def Hz:=@of_decide_eq_true
def H0:=@eq_of_beq
open PySem PyProof.Rows PySem.SeqAt PySem.W
def zbc{M:Model}{Γ:Ctx}{p:Pos}{t:Sem Fin}{fs:List Frame}{s s':Shared}{e:End}(h:Runs M Γ p t fs s e s'):s.heap.objs.size<=s'.heap.objs.size:=by
 induction h<;>(try simp only[Shared.setGen,Heap.size_after_update,Heap.size_push] at *)<;>omega
def zjT{M:Model}{Γ:Ctx}{p:Pos}{g:Nat}{r:Resume}{s s':Shared}{res:GenResult}(h:Wakes M Γ p g r s res s'):s.heap.objs.size<=s'.heap.objs.size:=by
 unfold Wakes at h;split at h
 .exact h.elim
 .split at h
  .obtain⟨e₁,s₁,hr,_,_,rfl⟩:=h;exact(zbc hr:(s.setGen g .running).heap.objs.size<=s₁.heap.objs.size)
  .rw[h.2];exact fN _
  .rw[h.2];exact fN _
 .obtain⟨e₁,s₁,hr,_,_,rfl⟩:=h;exact(zbc hr:(s.setGen g .running).heap.objs.size<=s₁.heap.objs.size)
 .rw[h.2];exact fN _
 .rw[h.2];exact fN _
def zqm{J:Type}(M:Model)(Γ:Ctx)(n:Nat)(t:Sem J):∀(Q:J->Pos->Shared->Prop) (E:Value->Pos->Shared->Prop) (p:Pos) (s:Shared),n<=s.heap.objs.size->Sem.wp M Γ t Q E p s->
  Sem.wp M Γ t (λa p' s'=>n<=s'.heap.objs.size/\Q a p' s') (λe p' s'=>n<=s'.heap.objs.size/\E e p' s') p s:=by
 induction t with
 | pure a=>intro Q E p s hn h;exact⟨hn,h⟩
 | raise e=>intro Q E p s hn h;exact⟨hn,h⟩
 | unsupported _=>intro Q E p s _ h;exact h
 | finish _=>intro Q E p s _ h;exact h
 | rule _ k ih=>intro Q E p s hn h;exact ih () Q E p s hn h
 | «at» p' k ih=>intro Q E p s hn h;exact ih () Q E p' s hn h
 | load a _ k ih=>intro Q E p s hn h;obtain⟨o,ho,h⟩:=h;exact⟨o,ho,ih o Q E p s hn h⟩
 | update a _ f k ih=>intro Q E p s hn h;exact⟨h.1,ih () Q E p _ (by simpa using hn) h.2⟩
 | loadIfAlive a k ih=>intro Q E p s hn h;exact ih _ Q E p s hn h
 | point _ k ih=>intro Q E p s hn h;exact ih () Q E p s hn h
 | register _ _=>intro Q E p s _ h;exact h
 | alloc o k ih=>intro Q E p s hn h;exact ih _ Q E p _ (by simp;omega) h
 | fresh k ih=>intro Q E p s hn h;exact ih _ Q E p { s with toks:=s.toks+1 } hn h
 | ask k ih=>intro Q E p s hn h;exact ih _ Q E p s hn h
 | choose src m k ih=>intro Q E p s hn h;exact⟨h.1,ih _ Q E p { s with drawn:=s.drawn.bump src } hn h.2⟩
 | os q _ k ih=>intro Q E p s hn h;exact ih _ Q E p { s with os:=(Os.step s.os q).1 } hn h
 | call c hd _ _ k ih=>intro Q E p s hn h;obtain⟨r,s',hr,h⟩:=h;exact⟨r,s',hr,ih r Q E p s' (fF hn (zbc hr)) h⟩
 | handled own k ih=>intro Q E p s hn h;exact ih _ Q E p s hn h
 | genState g k ih=>intro Q E p s hn h;obtain⟨st,hs,h⟩:=h;exact⟨st,hs,ih _ Q E p s hn h⟩
 | newGen c k ih=>intro Q E p s hn h;exact ih _ Q E p { s with gens:=s.gens.push (.fresh c) } hn h
 | resume g r _ k ih=>intro Q E p s hn h;obtain⟨res,s',hw,h⟩:=h;exact⟨res,s',hw,ih res Q E p s' (fF hn (zjT hw)) h⟩
 | yield _ _ _ _=>intro Q E p s _ h;exact h
 | stack k ih=>intro Q E p s hn h;exact ih _ Q E p s hn h
 | fork _ _=>intro Q E p s _ h;exact h
 | thread k ih=>intro Q E p s hn h;exact ih _ Q E p s hn h
 | await _ _ _ _ _=>intro Q E p s _ h;exact h
def zK{J:Type}{M:Model}{A:Around}{s:Shared}{t:Sem J}{Q:J->Shared->Prop}{E:Value->Shared->Prop}
  (h:wpAny M A t (λa s'=>s.heap.objs.size<=s'.heap.objs.size->Q a s') (λe s'=>s.heap.objs.size<=s'.heap.objs.size->E e s') s):wpAny M A t Q E s:=
 λΓ p hΓ=>by
  have:=zqm M Γ s.heap.objs.size t _ _ p s (fN _) (h Γ p hΓ);exact Sem.wp_mono M Γ t (λa _ s' x=>x.2 x.1) (λe _ s' x=>x.2 x.1) p s this
def zk9{M:Model}{A:Around}{s:Shared}{c:Code}{R:Result->Shared->Prop}(h:Hi M A c (λr s'=>s.heap.objs.size<=s'.heap.objs.size->R r s') s):Hi M A c R s:=
 λΓ p hc hΓ=>by obtain⟨r,s',hr,hR⟩:=h Γ p hc hΓ;exact⟨r,s',hr,hR (zbc hr)⟩
section
set_option maxRecDepth 1000000
open PySem.Calls
noncomputable def zsK(P:Hj):BT:=((((((((((BT.nil.ins 0 (boot_o_0 P)).ins 1 (boot_o_1 P)).ins 2 (boot_o_2 P)).ins 3 (boot_o_3 P)).ins 4 (boot_o_4 P)).ins 5 (boot_o_5 P)).ins 6 (boot_o_6 P)).ins 7 (boot_o_7 P)).ins 8 (boot_o_8 P)).ins 9 (boot_o_9 P)).ins 10 (boot_o_10 P)
noncomputable def zmQ(w:World)(os:OsState):SharedT:=⟨zsK w.params,11,(boot_heap w.params).life,Array.mk [],boot_drawn,boot_toks,os⟩
def zmR(w:World)(os:OsState):(zmQ w os).abs=⟨boot_heap w.params,Array.mk [],boot_drawn,boot_toks,os⟩:=by kernel_rfl
def zkY(P:Hj):(boot_heap P).isNs Hk=true:=by kernel_rfl
def zkX(P:Hj):(boot_heap P).objs.size=11:=by kernel_rfl
def zmS(P:Hj):(boot_heap P).nsMap Hk "__annotations__" = some (.ref 6):=by kernel_rfl
def zoo{tb:String->Option Builtin}{p:Hh}{w:World}{n₀:Nat}{ann:Option Value}:∀{n:Nat} {s s':Shared} {t:Thread} {f:Flow} {c:Code} {q:Pos},segRun tb p w n₀ ann 0 n s t=some (f,s',c,q)->topRun tb p w n₀ ann n s t=some s':=by
 intro n
 induction n with
 | zero=>intro s s' t f c q h;cases h
 | succ n ih=>
  intro s s' t f c q h;unfold segRun at h;unfold topRun;have ht:through t=(endAt 0 t).isSome:=by
   obtain⟨cur,code,pos,stack⟩:=t;cases stack with
   | nil=>
    cases cur with
    | pure x=>cases x<;>rfl
    | _=>rfl
   | cons a l=>rfl
  rw[ht];cases he:endAt 0 t with
  | some x=>rw[he] at h;cases h;rfl
  | none=>
   rw[he] at h;dsimp only[Option.isSome_none];cases hk:stepOk n₀ ann t with
   | false=>rw[hk] at h;cases h
   | true=>
    rw[hk] at h;cases hs:step (denote tb) p w s t with
    | halt o s₂=>rw[hs] at h;cases h
    | go s₂ t₂=>rw[hs] at h;exact ih h
noncomputable def zgE{J:Type}(p q:Hh)(loose:List Str)(Xt:Shared->Bool)(Yf:Shared->J)(P:Hj)(s:Shared):=
 (staticsOk (importedModules p.main.body) (boot_heap P) s.heap&&namesBound p s.heap&&gensDone s&&laidKept (boot_heap P) s.heap,openSeen q loose (importedModules p.main.body) Xt true s,Yf s)
def zlF{p q:Hh}{loose:List Str}{Xt:Shared->Bool}{J:Type}{Yf:Shared->J}{Ya:World->J}{N:Nat}
  (e:opening p=plainProg p.main.scope.names)(hN:Nat.ble 600 N=true)(f:∀s,fenceModules? p s=some s)
  (h:∀(w:World) (os:OsState),(segRunT treeTable p w 11 (some (.ref 6)) 0 N (zmQ w os) (topStub p)).map (λr=>zgE p q loose Xt Yf w.params r.2.1.abs)=some (true,openGood q loose,Ya w)):LeftO p q loose Xt Yf Ya N true:=by
 intro w;obtain⟨⟨hp,gs,d,k,os⟩,hs,hv⟩:=fAA.mp (boot_open e hN f w);obtain⟨rfl,rfl,rfl,rfl⟩:hp=boot_heap w.params/\gs=Array.mk []/\d=boot_drawn/\k=boot_toks:=by simpa using hv
 obtain⟨⟨fl,sT,c,q'⟩,hr,hl⟩:=fAA.mp (h w os);obtain⟨l1,l2,l3⟩:_/\_/\_:=by simpa only[zgE,Prod.mk.injEq] using hl
 have r:=zoo (segRun_of hr);rw[zmR] at r;have t:topFrom treeTable p w N ⟨boot_heap w.params,Array.mk [],boot_drawn,boot_toks,os⟩=some sT.abs:=by
  unfold topFrom;dsimp only;rw[zkY,zkX,zmS,r];show (match staticsOk (importedModules p.main.body) (boot_heap w.params) sT.abs.heap&&namesBound p sT.abs.heap&&gensDone sT.abs&&laidKept (boot_heap w.params) sT.abs.heap with|true=>some sT.abs|false=>none)=_;rw[l1]
 unfold openEnds;rw[hs];show (topFrom treeTable p w N _).map _=_;rw[t];exact congrArg some (Prod.ext l2 l3)
noncomputable def fnO(s:Stmt)(pm cd:Value):Obj:=match s with
 | .FunctionDef name args body _ _ _ scope _ _ _=>⟨.type "function",none,.func { name:=name,qualname:=name,params:=args,body:=.stmts body,scope:=scope,globals:=3,closure:=[],defaults:=.none,kwdefaults:=.none,pyModule:=pm,code:=cd },#[]⟩
 | _=>default
noncomputable def fnQ(s:Stmt)(q:Str)(pm cd:Value):Obj:=match s with
 | .FunctionDef name args body _ _ _ scope _ _ _=>⟨.type "function",none,.func { name:=name,qualname:=q,params:=args,body:=.stmts body,scope:=scope,globals:=3,closure:=[],defaults:=.none,kwdefaults:=.none,pyModule:=pm,code:=cd },#[]⟩
 | _=>default
noncomputable def zaO(s:Stmt)(j:Nat):Stmt:=match s with
 | .ClassDef _ _ _ body _ _ _ _ _ _ _=>body.getD j (.Pass ⟨0,0,0,0⟩)
 | s=>s
noncomputable def en(P:Hj)(x:Str)(t:Tok)(v:Value):DictEntry:=⟨PyData.keyHash P x,.str x t,v⟩
end
section
variable{A1 A2 A3 A4 A5 A6 A7 A8 A9 A10 A11 A12 A13 A14 A15 A16:Sort _}{G:Prop}{O1 O2 O3 O4 O5 O6 O7 O8 O9 O10 O11 O12 O13 O14:Prop}{P1 P2 P3 P4 P5 P6 P7 P8:A1->Prop}{Q1 Q2 Q3 Q4 Q5 Q6 Q7 Q8 Q9:A1->A2->Prop}{R1 R2 R3 R4 R5 R6 R7 R8 R9:A1->A2->A3->Prop}{S1 S2 S3 S4 S5 S6 S7 S8 S9:A1->A2->A3->A4->Prop}{T1 T2 T3 T4 T5 T6 T7:A1->A2->A3->A4->A5->Prop}{U1 U2 U3 U4 U5 U6 U7 U8 U9 U10 U11 U12 U13 U14:A1->A2->A3->A4->A5->A6->Prop}{V1 V2 V3 V4 V5 V6 V7 V8 V9 V10 V11 V12 V13 V14:A1->A2->A3->A4->A5->A6->A7->Prop}{W1 W2 W3:A1->A2->A3->A4->A5->A6->A7->A8->Prop}{J1 J2 J3 J4:A1->A2->A3->A4->A5->A6->A7->A8->A9->A10->A11->A12->A13->A14->A15->A16->Prop}
def nos{J:Type}{x:J}{P:Prop}(h:none=some x):P:=nomatch h
def nob{P:Prop}(h:false=true):P:=nomatch h
def jO(h:O1/\O2)(k:O1->O2->G):G:=by obtain⟨p1,p2⟩:=h;exact k p1 p2
def zY(h:∃a,P1 a)(k:∀a,P1 a->G):G:=by obtain⟨a,p1⟩:=h;exact k a p1
def jg(h:O1/\O2/\O3)(k:O1->O2->O3->G):G:=by obtain⟨p1,p2,p3⟩:=h;exact k p1 p2 p3
def z7(h:∃a b,Q1 a b)(k:∀a b,Q1 a b->G):G:=by obtain⟨a,b,p1⟩:=h;exact k a b p1
def zy(h:O1/\O2/\O3/\O4)(k:O1->O2->O3->O4->G):G:=by obtain⟨p1,p2,p3,p4⟩:=h;exact k p1 p2 p3 p4
def qU(h:∃a b c,R1 a b c)(k:∀a b c,R1 a b c->G):G:=by obtain⟨a,b,c,p1⟩:=h;exact k a b c p1
def jV(h:O1/\O2/\O3/\O4/\O5)(k:O1->O2->O3->O4->O5->G):G:=by obtain⟨p1,p2,p3,p4,p5⟩:=h;exact k p1 p2 p3 p4 p5
def zbS(h:∃a b c d,S1 a b c d)(k:∀a b c d,S1 a b c d->G):G:=by obtain⟨a,b,c,d,p1⟩:=h;exact k a b c d p1
def zbQ(h:O1/\O2/\O3/\O4/\O5/\O6)(k:O1->O2->O3->O4->O5->O6->G):G:=by obtain⟨p1,p2,p3,p4,p5,p6⟩:=h;exact k p1 p2 p3 p4 p5 p6
def zdG(h:∃a b c d e,T1 a b c d e)(k:∀a b c d e,T1 a b c d e->G):G:=by obtain⟨a,b,c,d,e,p1⟩:=h;exact k a b c d e p1
def zcw(h:O1/\O2/\O3/\O4/\O5/\O6/\O7)(k:O1->O2->O3->O4->O5->O6->O7->G):G:=by obtain⟨p1,p2,p3,p4,p5,p6,p7⟩:=h;exact k p1 p2 p3 p4 p5 p6 p7
def zld(h:∃a b c d e f,U1 a b c d e f)(k:∀a b c d e f,U1 a b c d e f->G):G:=by obtain⟨a,b,c,d,e,f,p1⟩:=h;exact k a b c d e f p1
def zdB(h:O1/\O2/\O3/\O4/\O5/\O6/\O7/\O8)(k:O1->O2->O3->O4->O5->O6->O7->O8->G):G:=by obtain⟨p1,p2,p3,p4,p5,p6,p7,p8⟩:=h;exact k p1 p2 p3 p4 p5 p6 p7 p8
def zcQ(h:O1/\O2/\O3/\O4/\O5/\O6/\O7/\O8/\O9)(k:O1->O2->O3->O4->O5->O6->O7->O8->O9->G):G:=by obtain⟨p1,p2,p3,p4,p5,p6,p7,p8,p9⟩:=h;exact k p1 p2 p3 p4 p5 p6 p7 p8 p9
def zcx(h:O1/\O2/\O3/\O4/\O5/\O6/\O7/\O8/\O9/\O10/\O11/\O12/\O13/\O14)(k:O1->O2->O3->O4->O5->O6->O7->O8->O9->O10->O11->O12->O13->O14->G):G:=by obtain⟨p1,p2,p3,p4,p5,p6,p7,p8,p9,p10,p11,p12,p13,p14⟩:=h;exact k p1 p2 p3 p4 p5 p6 p7 p8 p9 p10 p11 p12 p13 p14
def qG(h:∃a b c d e f g i j l m n o p q r,J1 a b c d e f g i j l m n o p q r)(k:∀a b c d e f g i j l m n o p q r,J1 a b c d e f g i j l m n o p q r->G):G:=by obtain⟨a,b,c,d,e,f,g,i,j,l,m,n,o,p,q,r,p1⟩:=h;exact k a b c d e f g i j l m n o p q r p1
def zb(h:∃a,P1 a/\P2 a)(k:∀a,P1 a->P2 a->G):G:=zY h λa h=>jO h λp1 p2=>k a p1 p2
def kC(h:O1/\O2/\∃a,P1 a)(k:O1->O2->∀a,P1 a->G):G:=jg h λp1 p2 h=>zY h λa p3=>k p1 p2 a p3
def qT(h:O1/\∃a,P1 a/\P2 a)(k:O1->∀a,P1 a->P2 a->G):G:=jO h λp1 h=>zY h λa h=>jO h λp2 p3=>k p1 a p2 p3
def zl(h:∃a,P1 a/\P2 a/\P3 a)(k:∀a,P1 a->P2 a->P3 a->G):G:=zY h λa h=>jg h λp1 p2 p3=>k a p1 p2 p3
def z0(h:∃a b,Q1 a b/\Q2 a b)(k:∀a b,Q1 a b->Q2 a b->G):G:=z7 h λa b h=>jO h λp1 p2=>k a b p1 p2
def zo8(h:O1/\∃a,P1 a/\P2 a/\P3 a)(k:O1->∀a,P1 a->P2 a->P3 a->G):G:=jO h λp1 h=>zY h λa h=>jg h λp2 p3 p4=>k p1 a p2 p3 p4
def zo9(h:O1/\∃a b,Q1 a b/\Q2 a b)(k:O1->∀a b,Q1 a b->Q2 a b->G):G:=jO h λp1 h=>z7 h λa b h=>jO h λp2 p3=>k p1 a b p2 p3
def zE(h:∃a,P1 a/\P2 a/\P3 a/\P4 a)(k:∀a,P1 a->P2 a->P3 a->P4 a->G):G:=zY h λa h=>zy h λp1 p2 p3 p4=>k a p1 p2 p3 p4
def jz(h:∃a,P1 a/\P2 a/\∃b,Q1 a b)(k:∀a,P1 a->P2 a->∀b,Q1 a b->G):G:=zY h λa h=>jg h λp1 p2 h=>zY h λb p3=>k a p1 p2 b p3
def zn(h:∃a b,Q1 a b/\Q2 a b/\Q3 a b)(k:∀a b,Q1 a b->Q2 a b->Q3 a b->G):G:=z7 h λa b h=>jg h λp1 p2 p3=>k a b p1 p2 p3
def jA(h:∃a b c,R1 a b c/\R2 a b c)(k:∀a b c,R1 a b c->R2 a b c->G):G:=qU h λa b c h=>jO h λp1 p2=>k a b c p1 p2
def zg5(h:O1/\O2/\O3/\O4/\∃a,P1 a)(k:O1->O2->O3->O4->∀a,P1 a->G):G:=jV h λp1 p2 p3 p4 h=>zY h λa p5=>k p1 p2 p3 p4 a p5
def zbR(h:O1/\O2/\∃a b,Q1 a b/\Q2 a b)(k:O1->O2->∀a b,Q1 a b->Q2 a b->G):G:=jg h λp1 p2 h=>z7 h λa b h=>jO h λp3 p4=>k p1 p2 a b p3 p4
def zdC(h:O1/\∃a b c,R1 a b c/\R2 a b c)(k:O1->∀a b c,R1 a b c->R2 a b c->G):G:=jO h λp1 h=>qU h λa b c h=>jO h λp2 p3=>k p1 a b c p2 p3
def zg6(h:∃a,P1 a/\P2 a/\P3 a/\P4 a/\P5 a)(k:∀a,P1 a->P2 a->P3 a->P4 a->P5 a->G):G:=zY h λa h=>jV h λp1 p2 p3 p4 p5=>k a p1 p2 p3 p4 p5
def kH(h:∃a,P1 a/\∃b,Q1 a b/\Q2 a b/\Q3 a b)(k:∀a,P1 a->∀b,Q1 a b->Q2 a b->Q3 a b->G):G:=zY h λa h=>jO h λp1 h=>zY h λb h=>jg h λp2 p3 p4=>k a p1 b p2 p3 p4
def zi(h:∃a b,Q1 a b/\Q2 a b/\Q3 a b/\Q4 a b)(k:∀a b,Q1 a b->Q2 a b->Q3 a b->Q4 a b->G):G:=z7 h λa b h=>zy h λp1 p2 p3 p4=>k a b p1 p2 p3 p4
def jk(h:∃a b c,R1 a b c/\R2 a b c/\R3 a b c)(k:∀a b c,R1 a b c->R2 a b c->R3 a b c->G):G:=qU h λa b c h=>jg h λp1 p2 p3=>k a b c p1 p2 p3
def zlc(h:O1/\∃a b,Q1 a b/\Q2 a b/\Q3 a b/\Q4 a b)(k:O1->∀a b,Q1 a b->Q2 a b->Q3 a b->Q4 a b->G):G:=jO h λp1 h=>z7 h λa b h=>zy h λp2 p3 p4 p5=>k p1 a b p2 p3 p4 p5
def zr(h:∃a b,Q1 a b/\Q2 a b/\Q3 a b/\Q4 a b/\Q5 a b)(k:∀a b,Q1 a b->Q2 a b->Q3 a b->Q4 a b->Q5 a b->G):G:=z7 h λa b h=>jV h λp1 p2 p3 p4 p5=>k a b p1 p2 p3 p4 p5
def zcy(h:∃a b c,R1 a b c/\R2 a b c/\R3 a b c/\R4 a b c)(k:∀a b c,R1 a b c->R2 a b c->R3 a b c->R4 a b c->G):G:=qU h λa b c h=>zy h λp1 p2 p3 p4=>k a b c p1 p2 p3 p4
def qO(h:∃a b c d,S1 a b c d/\S2 a b c d/\S3 a b c d)(k:∀a b c d,S1 a b c d->S2 a b c d->S3 a b c d->G):G:=zbS h λa b c d h=>jg h λp1 p2 p3=>k a b c d p1 p2 p3
def qj(h:O1/\∃a b,Q1 a b/\Q2 a b/\Q3 a b/\Q4 a b/\Q5 a b)(k:O1->∀a b,Q1 a b->Q2 a b->Q3 a b->Q4 a b->Q5 a b->G):G:=jO h λp1 h=>z7 h λa b h=>jV h λp2 p3 p4 p5 p6=>k p1 a b p2 p3 p4 p5 p6
def zdD(h:∃a,P1 a/\P2 a/\P3 a/\P4 a/\P5 a/\P6 a/\P7 a)(k:∀a,P1 a->P2 a->P3 a->P4 a->P5 a->P6 a->P7 a->G):G:=zY h λa h=>zcw h λp1 p2 p3 p4 p5 p6 p7=>k a p1 p2 p3 p4 p5 p6 p7
def zdE(h:∃a b,Q1 a b/\Q2 a b/\Q3 a b/\Q4 a b/\Q5 a b/\Q6 a b)(k:∀a b,Q1 a b->Q2 a b->Q3 a b->Q4 a b->Q5 a b->Q6 a b->G):G:=z7 h λa b h=>zbQ h λp1 p2 p3 p4 p5 p6=>k a b p1 p2 p3 p4 p5 p6
def ziP(h:∃a b,Q1 a b/\Q2 a b/\Q3 a b/\∃c,R1 a b c/\R2 a b c)(k:∀a b,Q1 a b->Q2 a b->Q3 a b->∀c,R1 a b c->R2 a b c->G):G:=z7 h λa b h=>zy h λp1 p2 p3 h=>zY h λc h=>jO h λp4 p5=>k a b p1 p2 p3 c p4 p5
def jZ(h:∃a b c,R1 a b c/\R2 a b c/\R3 a b c/\R4 a b c/\R5 a b c)(k:∀a b c,R1 a b c->R2 a b c->R3 a b c->R4 a b c->R5 a b c->G):G:=qU h λa b c h=>jV h λp1 p2 p3 p4 p5=>k a b c p1 p2 p3 p4 p5
def kr(h:O1/\∃a b,Q1 a b/\Q2 a b/\Q3 a b/\Q4 a b/\Q5 a b/\Q6 a b)(k:O1->∀a b,Q1 a b->Q2 a b->Q3 a b->Q4 a b->Q5 a b->Q6 a b->G):G:=jO h λp1 h=>z7 h λa b h=>zbQ h λp2 p3 p4 p5 p6 p7=>k p1 a b p2 p3 p4 p5 p6 p7
def zg7(h:∃a,P1 a/\P2 a/\P3 a/\P4 a/\P5 a/\P6 a/\P7 a/\P8 a)(k:∀a,P1 a->P2 a->P3 a->P4 a->P5 a->P6 a->P7 a->P8 a->G):G:=zY h λa h=>zdB h λp1 p2 p3 p4 p5 p6 p7 p8=>k a p1 p2 p3 p4 p5 p6 p7 p8
def jd(h:∃a b c,R1 a b c/\R2 a b c/\R3 a b c/\R4 a b c/\R5 a b c/\R6 a b c)(k:∀a b c,R1 a b c->R2 a b c->R3 a b c->R4 a b c->R5 a b c->R6 a b c->G):G:=qU h λa b c h=>zbQ h λp1 p2 p3 p4 p5 p6=>k a b c p1 p2 p3 p4 p5 p6
def zg8(h:∃a b c,R1 a b c/\∃d,S1 a b c d/\S2 a b c d/\∃e,T1 a b c d e)(k:∀a b c,R1 a b c->∀d,S1 a b c d->S2 a b c d->∀e,T1 a b c d e->G):G:=qU h λa b c h=>jO h λp1 h=>zY h λd h=>jg h λp2 p3 h=>zY h λe p4=>k a b c p1 d p2 p3 e p4
def zS(h:∃a b c d,S1 a b c d/\S2 a b c d/\S3 a b c d/\S4 a b c d/\S5 a b c d)(k:∀a b c d,S1 a b c d->S2 a b c d->S3 a b c d->S4 a b c d->S5 a b c d->G):G:=zbS h λa b c d h=>jV h λp1 p2 p3 p4 p5=>k a b c d p1 p2 p3 p4 p5
def jH(h:∃a b c d,S1 a b c d/\S2 a b c d/\S3 a b c d/\S4 a b c d/\S5 a b c d/\S6 a b c d)(k:∀a b c d,S1 a b c d->S2 a b c d->S3 a b c d->S4 a b c d->S5 a b c d->S6 a b c d->G):G:=zbS h λa b c d h=>zbQ h λp1 p2 p3 p4 p5 p6=>k a b c d p1 p2 p3 p4 p5 p6
def zeH(h:∃a b,Q1 a b/\Q2 a b/\Q3 a b/\Q4 a b/\Q5 a b/\Q6 a b/\Q7 a b/\Q8 a b/\Q9 a b)(k:∀a b,Q1 a b->Q2 a b->Q3 a b->Q4 a b->Q5 a b->Q6 a b->Q7 a b->Q8 a b->Q9 a b->G):G:=z7 h λa b h=>zcQ h λp1 p2 p3 p4 p5 p6 p7 p8 p9=>k a b p1 p2 p3 p4 p5 p6 p7 p8 p9
def zeI(h:∃a b c,R1 a b c/\R2 a b c/\R3 a b c/\R4 a b c/\R5 a b c/\R6 a b c/\R7 a b c/\R8 a b c)(k:∀a b c,R1 a b c->R2 a b c->R3 a b c->R4 a b c->R5 a b c->R6 a b c->R7 a b c->R8 a b c->G):G:=qU h λa b c h=>zdB h λp1 p2 p3 p4 p5 p6 p7 p8=>k a b c p1 p2 p3 p4 p5 p6 p7 p8
def zdF(h:∃a b c,R1 a b c/\R2 a b c/\R3 a b c/\R4 a b c/\R5 a b c/\R6 a b c/\R7 a b c/\R8 a b c/\R9 a b c)(k:∀a b c,R1 a b c->R2 a b c->R3 a b c->R4 a b c->R5 a b c->R6 a b c->R7 a b c->R8 a b c->R9 a b c->G):G:=qU h λa b c h=>zcQ h λp1 p2 p3 p4 p5 p6 p7 p8 p9=>k a b c p1 p2 p3 p4 p5 p6 p7 p8 p9
def qV(h:∃a b c d e,T1 a b c d e/\T2 a b c d e/\T3 a b c d e/\T4 a b c d e/\T5 a b c d e/\T6 a b c d e/\T7 a b c d e)(k:∀a b c d e,T1 a b c d e->T2 a b c d e->T3 a b c d e->T4 a b c d e->T5 a b c d e->T6 a b c d e->T7 a b c d e->G):G:=zdG h λa b c d e h=>zcw h λp1 p2 p3 p4 p5 p6 p7=>k a b c d e p1 p2 p3 p4 p5 p6 p7
def qt(h:∃a b c d e f g i j l m n o p q r,J1 a b c d e f g i j l m n o p q r/\J2 a b c d e f g i j l m n o p q r)(k:∀a b c d e f g i j l m n o p q r,J1 a b c d e f g i j l m n o p q r->J2 a b c d e f g i j l m n o p q r->G):G:=qG h λa b c d e f g i j l m n o p q r h=>jO h λp1 p2=>k a b c d e f g i j l m n o p q r p1 p2
def zaa(h:∃a b c d e f,U1 a b c d e f/\U2 a b c d e f/\U3 a b c d e f/\U4 a b c d e f/\U5 a b c d e f/\U6 a b c d e f/\U7 a b c d e f/\U8 a b c d e f/\U9 a b c d e f/\U10 a b c d e f/\U11 a b c d e f/\U12 a b c d e f/\U13 a b c d e f/\U14 a b c d e f)(k:∀a b c d e f,U1 a b c d e f->U2 a b c d e f->U3 a b c d e f->U4 a b c d e f->U5 a b c d e f->U6 a b c d e f->U7 a b c d e f->U8 a b c d e f->U9 a b c d e f->U10 a b c d e f->U11 a b c d e f->U12 a b c d e f->U13 a b c d e f->U14 a b c d e f->G):G:=zld h λa b c d e f h=>zcx h λp1 p2 p3 p4 p5 p6 p7 p8 p9 p10 p11 p12 p13 p14=>k a b c d e f p1 p2 p3 p4 p5 p6 p7 p8 p9 p10 p11 p12 p13 p14
def qc(h:∃a b c d e f g i j l m n o p q r,J1 a b c d e f g i j l m n o p q r/\J2 a b c d e f g i j l m n o p q r/\J3 a b c d e f g i j l m n o p q r/\J4 a b c d e f g i j l m n o p q r)(k:∀a b c d e f g i j l m n o p q r,J1 a b c d e f g i j l m n o p q r->J2 a b c d e f g i j l m n o p q r->J3 a b c d e f g i j l m n o p q r->J4 a b c d e f g i j l m n o p q r->G):G:=qG h λa b c d e f g i j l m n o p q r h=>zy h λp1 p2 p3 p4=>k a b c d e f g i j l m n o p q r p1 p2 p3 p4
def q7(p1:O1)(p2:O2):O1/\O2:=⟨p1,p2⟩
def zaA(a)(p1:P1 a):∃a,P1 a:=⟨a,p1⟩
def zq(p1:O1)(p2:O2)(p3:O3):O1/\O2/\O3:=⟨p1,p2,p3⟩
def jD(a)(b)(p1:Q1 a b):∃a b,Q1 a b:=⟨a,b,p1⟩
def zt(p1:O1)(p2:O2)(p3:O3)(p4:O4):O1/\O2/\O3/\O4:=⟨p1,p2,p3,p4⟩
def jK(a)(b)(c)(p1:R1 a b c):∃a b c,R1 a b c:=⟨a,b,c,p1⟩
def jh(p1:O1)(p2:O2)(p3:O3)(p4:O4)(p5:O5):O1/\O2/\O3/\O4/\O5:=⟨p1,p2,p3,p4,p5⟩
def zkh(a)(b)(c)(d)(p1:S1 a b c d):∃a b c d,S1 a b c d:=⟨a,b,c,d,p1⟩
def jR(p1:O1)(p2:O2)(p3:O3)(p4:O4)(p5:O5)(p6:O6):O1/\O2/\O3/\O4/\O5/\O6:=⟨p1,p2,p3,p4,p5,p6⟩
def znp(a)(b)(c)(d)(e)(p1:T1 a b c d e):∃a b c d e,T1 a b c d e:=⟨a,b,c,d,e,p1⟩
def ze6(p1:O1)(p2:O2)(p3:O3)(p4:O4)(p5:O5)(p6:O6)(p7:O7):O1/\O2/\O3/\O4/\O5/\O6/\O7:=⟨p1,p2,p3,p4,p5,p6,p7⟩
def ze7(a)(b)(c)(d)(e)(f)(p1:U1 a b c d e f):∃a b c d e f,U1 a b c d e f:=⟨a,b,c,d,e,f,p1⟩
def zdM(p1:O1)(p2:O2)(p3:O3)(p4:O4)(p5:O5)(p6:O6)(p7:O7)(p8:O8):O1/\O2/\O3/\O4/\O5/\O6/\O7/\O8:=⟨p1,p2,p3,p4,p5,p6,p7,p8⟩
def ziX(a)(b)(c)(d)(e)(f)(g)(p1:V1 a b c d e f g):∃a b c d e f g,V1 a b c d e f g:=⟨a,b,c,d,e,f,g,p1⟩
def zcU(p1:O1)(p2:O2)(p3:O3)(p4:O4)(p5:O5)(p6:O6)(p7:O7)(p8:O8)(p9:O9):O1/\O2/\O3/\O4/\O5/\O6/\O7/\O8/\O9:=⟨p1,p2,p3,p4,p5,p6,p7,p8,p9⟩
def kJ(p1:O1)(p2:O2)(p3:O3)(p4:O4)(p5:O5)(p6:O6)(p7:O7)(p8:O8)(p9:O9)(p10:O10)(p11:O11)(p12:O12)(p13:O13)(p14:O14):O1/\O2/\O3/\O4/\O5/\O6/\O7/\O8/\O9/\O10/\O11/\O12/\O13/\O14:=⟨p1,p2,p3,p4,p5,p6,p7,p8,p9,p10,p11,p12,p13,p14⟩
def zs0(p1:O1)(a)(p2:P1 a):O1/\∃a,P1 a:=q7 p1 (zaA a p2)
def zc(a)(p1:P1 a)(p2:P2 a):∃a,P1 a/\P2 a:=zaA a (q7 p1 p2)
def zaf(p1:O1)(p2:O2)(a)(p3:P1 a):O1/\O2/\∃a,P1 a:=zq p1 p2 (zaA a p3)
def kD(p1:O1)(a)(p2:P1 a)(p3:P2 a):O1/\∃a,P1 a/\P2 a:=q7 p1 (zaA a (q7 p2 p3))
def zrl(p1:O1)(a)(b)(p2:Q1 a b):O1/\∃a b,Q1 a b:=q7 p1 (jD a b p2)
def zv(a)(p1:P1 a)(p2:P2 a)(p3:P3 a):∃a,P1 a/\P2 a/\P3 a:=zaA a (zq p1 p2 p3)
def zaP(a)(b)(p1:Q1 a b)(p2:Q2 a b):∃a b,Q1 a b/\Q2 a b:=jD a b (q7 p1 p2)
def zpl(p1:O1)(p2:O2)(a)(p3:P1 a)(p4:P2 a):O1/\O2/\∃a,P1 a/\P2 a:=zq p1 p2 (zaA a (q7 p3 p4))
def zf3(p1:O1)(a)(p2:P1 a)(p3:P2 a)(p4:P3 a):O1/\∃a,P1 a/\P2 a/\P3 a:=q7 p1 (zaA a (zq p2 p3 p4))
def zf4(p1:O1)(a)(b)(p2:Q1 a b)(p3:Q2 a b):O1/\∃a b,Q1 a b/\Q2 a b:=q7 p1 (jD a b (q7 p2 p3))
def qJ(a)(p1:P1 a)(p2:P2 a)(p3:P3 a)(p4:P4 a):∃a,P1 a/\P2 a/\P3 a/\P4 a:=zaA a (zt p1 p2 p3 p4)
def qe(a)(p1:P1 a)(p2:P2 a)(b)(p3:Q1 a b):∃a,P1 a/\P2 a/\∃b,Q1 a b:=zaA a (zq p1 p2 (zaA b p3))
def zL(a)(b)(p1:Q1 a b)(p2:Q2 a b)(p3:Q3 a b):∃a b,Q1 a b/\Q2 a b/\Q3 a b:=jD a b (zq p1 p2 p3)
def zah(a)(b)(c)(p1:R1 a b c)(p2:R2 a b c):∃a b c,R1 a b c/\R2 a b c:=jK a b c (q7 p1 p2)
def zno(p1:O1)(a)(b)(c)(p2:R1 a b c)(p3:R2 a b c):O1/\∃a b c,R1 a b c/\R2 a b c:=q7 p1 (jK a b c (q7 p2 p3))
def zdN(a)(p1:P1 a)(p2:P2 a)(p3:P3 a)(p4:P4 a)(p5:P5 a):∃a,P1 a/\P2 a/\P3 a/\P4 a/\P5 a:=zaA a (jh p1 p2 p3 p4 p5)
def zhk(a)(p1:P1 a)(b)(p2:Q1 a b)(p3:Q2 a b)(p4:Q3 a b):∃a,P1 a/\∃b,Q1 a b/\Q2 a b/\Q3 a b:=zaA a (q7 p1 (zaA b (zq p2 p3 p4)))
def zo(a)(b)(p1:Q1 a b)(p2:Q2 a b)(p3:Q3 a b)(p4:Q4 a b):∃a b,Q1 a b/\Q2 a b/\Q3 a b/\Q4 a b:=jD a b (zt p1 p2 p3 p4)
def q8(a)(b)(c)(p1:R1 a b c)(p2:R2 a b c)(p3:R3 a b c):∃a b c,R1 a b c/\R2 a b c/\R3 a b c:=jK a b c (zq p1 p2 p3)
def zcD(p1:O1)(a)(b)(p2:Q1 a b)(p3:Q2 a b)(p4:Q3 a b)(p5:Q4 a b):O1/\∃a b,Q1 a b/\Q2 a b/\Q3 a b/\Q4 a b:=q7 p1 (jD a b (zt p2 p3 p4 p5))
def jl(a)(b)(p1:Q1 a b)(p2:Q2 a b)(p3:Q3 a b)(p4:Q4 a b)(p5:Q5 a b):∃a b,Q1 a b/\Q2 a b/\Q3 a b/\Q4 a b/\Q5 a b:=jD a b (jh p1 p2 p3 p4 p5)
def jI(a)(b)(c)(p1:R1 a b c)(p2:R2 a b c)(p3:R3 a b c)(p4:R4 a b c):∃a b c,R1 a b c/\R2 a b c/\R3 a b c/\R4 a b c:=jK a b c (zt p1 p2 p3 p4)
def jf(p1:O1)(a)(b)(p2:Q1 a b)(p3:Q2 a b)(p4:Q3 a b)(p5:Q4 a b)(p6:Q5 a b):O1/\∃a b,Q1 a b/\Q2 a b/\Q3 a b/\Q4 a b/\Q5 a b:=q7 p1 (jD a b (jh p2 p3 p4 p5 p6))
def zag(a)(p1:P1 a)(p2:P2 a)(p3:P3 a)(p4:P4 a)(p5:P5 a)(p6:P6 a)(p7:P7 a):∃a,P1 a/\P2 a/\P3 a/\P4 a/\P5 a/\P6 a/\P7 a:=zaA a (ze6 p1 p2 p3 p4 p5 p6 p7)
def ziW(a)(p1:P1 a)(b)(c)(p2:R1 a b c)(p3:R2 a b c)(p4:R3 a b c)(p5:R4 a b c):∃a,P1 a/\∃b c,R1 a b c/\R2 a b c/\R3 a b c/\R4 a b c:=zaA a (q7 p1 (jD b c (zt p2 p3 p4 p5)))
def zH(a)(b)(c)(p1:R1 a b c)(p2:R2 a b c)(p3:R3 a b c)(p4:R4 a b c)(p5:R5 a b c):∃a b c,R1 a b c/\R2 a b c/\R3 a b c/\R4 a b c/\R5 a b c:=jK a b c (jh p1 p2 p3 p4 p5)
def j6(p1:O1)(a)(b)(p2:Q1 a b)(p3:Q2 a b)(p4:Q3 a b)(p5:Q4 a b)(p6:Q5 a b)(p7:Q6 a b):O1/\∃a b,Q1 a b/\Q2 a b/\Q3 a b/\Q4 a b/\Q5 a b/\Q6 a b:=q7 p1 (jD a b (jR p2 p3 p4 p5 p6 p7))
def zaR(a)(b)(c)(p1:R1 a b c)(p2:R2 a b c)(p3:R3 a b c)(p4:R4 a b c)(p5:R5 a b c)(p6:R6 a b c):∃a b c,R1 a b c/\R2 a b c/\R3 a b c/\R4 a b c/\R5 a b c/\R6 a b c:=jK a b c (jR p1 p2 p3 p4 p5 p6)
def j7(a)(b)(c)(d)(p1:S1 a b c d)(p2:S2 a b c d)(p3:S3 a b c d)(p4:S4 a b c d)(p5:S5 a b c d):∃a b c d,S1 a b c d/\S2 a b c d/\S3 a b c d/\S4 a b c d/\S5 a b c d:=zkh a b c d (jh p1 p2 p3 p4 p5)
def zf5(p1:O1)(a)(b)(c)(p2:R1 a b c)(p3:R2 a b c)(p4:R3 a b c)(p5:R4 a b c)(p6:R5 a b c)(p7:R6 a b c):O1/\∃a b c,R1 a b c/\R2 a b c/\R3 a b c/\R4 a b c/\R5 a b c/\R6 a b c:=q7 p1 (jK a b c (jR p2 p3 p4 p5 p6 p7))
def qK(a)(b)(c)(d)(p1:S1 a b c d)(p2:S2 a b c d)(p3:S3 a b c d)(p4:S4 a b c d)(p5:S5 a b c d)(p6:S6 a b c d):∃a b c d,S1 a b c d/\S2 a b c d/\S3 a b c d/\S4 a b c d/\S5 a b c d/\S6 a b c d:=zkh a b c d (jR p1 p2 p3 p4 p5 p6)
def zeL(a)(b)(c)(p1:R1 a b c)(p2:R2 a b c)(p3:R3 a b c)(p4:R4 a b c)(p5:R5 a b c)(p6:R6 a b c)(p7:R7 a b c)(p8:R8 a b c):∃a b c,R1 a b c/\R2 a b c/\R3 a b c/\R4 a b c/\R5 a b c/\R6 a b c/\R7 a b c/\R8 a b c:=jK a b c (zdM p1 p2 p3 p4 p5 p6 p7 p8)
def zaQ(a)(b)(p1:Q1 a b)(c)(d)(e)(p2:T1 a b c d e)(p3:T2 a b c d e)(p4:T3 a b c d e)(p5:T4 a b c d e)(p6:T5 a b c d e)(p7:T6 a b c d e):∃a b,Q1 a b/\∃c d e,T1 a b c d e/\T2 a b c d e/\T3 a b c d e/\T4 a b c d e/\T5 a b c d e/\T6 a b c d e:=jD a b (q7 p1 (jK c d e (jR p2 p3 p4 p5 p6 p7)))
def zdO(a)(b)(c)(p1:R1 a b c)(p2:R2 a b c)(p3:R3 a b c)(p4:R4 a b c)(p5:R5 a b c)(p6:R6 a b c)(p7:R7 a b c)(p8:R8 a b c)(p9:R9 a b c):∃a b c,R1 a b c/\R2 a b c/\R3 a b c/\R4 a b c/\R5 a b c/\R6 a b c/\R7 a b c/\R8 a b c/\R9 a b c:=jK a b c (zcU p1 p2 p3 p4 p5 p6 p7 p8 p9)
def qf(a)(b)(c)(d)(e)(p1:T1 a b c d e)(p2:T2 a b c d e)(p3:T3 a b c d e)(p4:T4 a b c d e)(p5:T5 a b c d e)(p6:T6 a b c d e)(p7:T7 a b c d e):∃a b c d e,T1 a b c d e/\T2 a b c d e/\T3 a b c d e/\T4 a b c d e/\T5 a b c d e/\T6 a b c d e/\T7 a b c d e:=znp a b c d e (ze6 p1 p2 p3 p4 p5 p6 p7)
def zdP(a)(b)(c)(d)(e)(f)(g)(p1:V1 a b c d e f g)(p2:V2 a b c d e f g)(p3:V3 a b c d e f g)(p4:V4 a b c d e f g)(p5:V5 a b c d e f g):∃a b c d e f g,V1 a b c d e f g/\V2 a b c d e f g/\V3 a b c d e f g/\V4 a b c d e f g/\V5 a b c d e f g:=ziX a b c d e f g (jh p1 p2 p3 p4 p5)
def zax(a)(p1:P1 a)(b)(c)(d)(p2:S1 a b c d)(p3:S2 a b c d)(p4:S3 a b c d)(p5:S4 a b c d)(p6:S5 a b c d)(p7:S6 a b c d)(p8:S7 a b c d)(p9:S8 a b c d):∃a,P1 a/\∃b c d,S1 a b c d/\S2 a b c d/\S3 a b c d/\S4 a b c d/\S5 a b c d/\S6 a b c d/\S7 a b c d/\S8 a b c d:=zaA a (q7 p1 (jK b c d (zdM p2 p3 p4 p5 p6 p7 p8 p9)))
def zcE(a)(p1:P1 a)(b)(c)(d)(p2:S1 a b c d)(p3:S2 a b c d)(p4:S3 a b c d)(p5:S4 a b c d)(p6:S5 a b c d)(p7:S6 a b c d)(p8:S7 a b c d)(p9:S8 a b c d)(p10:S9 a b c d):∃a,P1 a/\∃b c d,S1 a b c d/\S2 a b c d/\S3 a b c d/\S4 a b c d/\S5 a b c d/\S6 a b c d/\S7 a b c d/\S8 a b c d/\S9 a b c d:=zaA a (q7 p1 (jK b c d (zcU p2 p3 p4 p5 p6 p7 p8 p9 p10)))
def zai(a)(b)(c)(d)(e)(f)(p1:U1 a b c d e f)(p2:U2 a b c d e f)(p3:U3 a b c d e f)(p4:U4 a b c d e f)(p5:U5 a b c d e f)(p6:U6 a b c d e f)(p7:U7 a b c d e f)(p8:U8 a b c d e f)(p9:U9 a b c d e f)(p10:U10 a b c d e f)(p11:U11 a b c d e f)(p12:U12 a b c d e f)(p13:U13 a b c d e f)(p14:U14 a b c d e f):∃a b c d e f,U1 a b c d e f/\U2 a b c d e f/\U3 a b c d e f/\U4 a b c d e f/\U5 a b c d e f/\U6 a b c d e f/\U7 a b c d e f/\U8 a b c d e f/\U9 a b c d e f/\U10 a b c d e f/\U11 a b c d e f/\U12 a b c d e f/\U13 a b c d e f/\U14 a b c d e f:=ze7 a b c d e f (kJ p1 p2 p3 p4 p5 p6 p7 p8 p9 p10 p11 p12 p13 p14)
def jS(a)(p1:P1 a)(b)(c)(d)(e)(f)(g)(p2:V1 a b c d e f g)(p3:V2 a b c d e f g)(p4:V3 a b c d e f g)(p5:V4 a b c d e f g)(p6:V5 a b c d e f g)(p7:V6 a b c d e f g)(p8:V7 a b c d e f g)(p9:V8 a b c d e f g)(p10:V9 a b c d e f g)(p11:V10 a b c d e f g)(p12:V11 a b c d e f g)(p13:V12 a b c d e f g)(p14:V13 a b c d e f g)(p15:V14 a b c d e f g):∃a,P1 a/\∃b c d e f g,V1 a b c d e f g/\V2 a b c d e f g/\V3 a b c d e f g/\V4 a b c d e f g/\V5 a b c d e f g/\V6 a b c d e f g/\V7 a b c d e f g/\V8 a b c d e f g/\V9 a b c d e f g/\V10 a b c d e f g/\V11 a b c d e f g/\V12 a b c d e f g/\V13 a b c d e f g/\V14 a b c d e f g:=zaA a (q7 p1 (ze7 b c d e f g (kJ p2 p3 p4 p5 p6 p7 p8 p9 p10 p11 p12 p13 p14 p15)))
end
section
set_option genSizeOf false
set_option genInjectivity false
namespace La
open Lean.Omega
inductive T where
 | v (i:Nat)|n (k:Nat)|a (s t:T)|s (s t:T)|m (k:Nat) (t:T)|x (s t:T)|y (s t:T)|c (t:T)|g (t:T)|o (t:T)
inductive P where
 | l (b:Bool) (s t:T)|e (b:Bool) (s t:T)|a (p q:P)|o (p q:P)|i (p q:P)|f
noncomputable def tv(z:List Int)(t:T):Nat×Int:=
 T.rec (motive:=λ_=>Nat×Int) (λi=>((IntList.get z i).toNat,IntList.get z i)) (λk=>(k,(k:Int))) (λ_ _ s t=>(s.1+t.1,s.2+t.2)) (λ_ _ s t=>(s.1-t.1,s.2-t.2)) (λk _ t=>(k*t.1,(k:Int)*t.2)) (λ_ _ s t=>(max s.1 t.1,max s.2 t.2)) (λ_ _ s t=>(min s.1 t.1,min s.2 t.2)) (λ_ t=>(t.1,(t.1:Int))) (λ_ t=>(0,- t.2)) (λ_ t=>(t.2.toNat,(t.2.toNat:Int))) t
def dn(z:List Int)(p:P):Prop:=
 P.rec (motive:=λ_=>Prop) (λb s t=>bif b then (tv z s).2<=(tv z t).2 else (tv z s).1<=(tv z t).1) (λb s t=>bif b then (tv z s).2=(tv z t).2 else (tv z s).1=(tv z t).1) (λ_ _ p q=>p/\q) (λ_ _ p q=>p\/q) (λ_ _ p q=>p->q) False p
noncomputable abbrev L:=LinearCombo
noncomputable def cc(k:Int):L:=⟨k,[]⟩
noncomputable abbrev K:=L->List L->Bool
noncomputable def lf(n:Nat)(t:T):Bool->List L->K->Bool:=
 T.rec (motive:=λ_=>Bool->List L->K->Bool)
  (λi b cs k=>(b||i.blt n)&&k (.coordinate i) cs)
  (λj _ cs k=>k (cc j) cs)
  (λ_ _ s t b cs k=>s b cs λl cs=>t b cs λr cs=>k (l+r) cs)
  (λ_ _ s t b cs k=>s b cs λl cs=>t b cs λr cs=>bif b then k (l-r) cs else k (l-r) ((l-r)::cs)&&k (cc 0) ((r-l)::cs))
  (λj _ t b cs k=>t b cs λl cs=>k ((j:Int)*l) cs)
  (λ_ _ s t b cs k=>s b cs λl cs=>t b cs λr cs=>k l ((l-r)::cs)&&k r ((r-l)::cs))
  (λ_ _ s t b cs k=>s b cs λl cs=>t b cs λr cs=>k r ((l-r)::cs)&&k l ((r-l)::cs))
  (λ_ t _ cs k=>t false cs k)
  (λ_ t b cs k=>b&&t b cs λl cs=>k (-l) cs)
  (λ_ t _ cs k=>t true cs λl cs=>k l ((l-cc 0)::cs)&&k (cc 0) ((cc 0-l)::cs)) t
section
variable{z:List Int}{cs:List L}{l r:L}{n:Nat}
def Sat(z:List Int)(cs:List L):Prop:=∀l∈cs,0<=l.eval z
noncomputable def Va(b:Bool)(p:Nat×Int):Int:=bif b then p.2 else p.1
def Sat.sub(h:Sat z cs)(g:r.eval z<=l.eval z):Sat z ((l-r)::cs):=
 fO.mpr ⟨(LinearCombo.sub_eval l r z).symm▸Int.sub_nonneg_of_le g,h⟩
def zbO(k:Int):(cc k).eval z=k:=fCU k
def Sat.lt(h:Sat z cs)(g:r.eval z<l.eval z):Sat z ((l-(r+cc 1))::cs):=
 h.sub (fAQ (Int.le_of_eq ((LinearCombo.add_eval r (cc 1) z).trans (congrArg (r.eval z + ·) (zbO 1)))) g)
def an{a b:Bool}(h:(a&&b)=true):a=true/\b=true:=gB.mp h
def Ok(n:Nat)(z:List Int)(t:T):Prop:=
 ∀(b:Bool) (cs:List L) (k:K),Sat z cs->lf n t b cs k=true->(∀l cs,Sat z cs->l.eval z=Va b (tv z t)->k l cs=true->False)->False
def Bo(z:List Int)(b:Bool)(s t:T)(l r:L)(cs:List L)(k:Bool):Prop:=
 Sat z cs->l.eval z=Va b (tv z s)->r.eval z=Va b (tv z t)->k=true->False
def two{s t:T}(hs:Ok n z s)(ht:Ok n z t){b:Bool}{k:L->L->List L->Bool}(h:Sat z cs)(e:lf n s b cs (λl cs=>lf n t b cs λr cs=>k l r cs)=true)
  (f:∀l r cs,Bo z b s t l r cs (k l r cs)):False:=
 hs b cs _ h e λl cs h1 e1 e=>ht b cs _ h1 e λr cs h2 e2 e=>f l r cs h2 e1 e2 e
def V_n(b:Bool)(k:Nat):Va b (k,(k:Int))=k:=by cases b<;>exact rfl
def zsB(b:Bool)(p q:Nat×Int):Va b (p.1+q.1,p.2+q.2)=Va b p+Va b q:=by cases b<;>exact rfl
def zsE(b:Bool)(k:Nat)(q:Nat×Int):Va b (k*q.1,(k:Int)*q.2)=k*Va b q:=by cases b<;>exact rfl
def zqD(b:Bool)(p q:Nat×Int):Va b (max p.1 q.1,max p.2 q.2)=max (Va b p) (Va b q):=by
 cases b with
 | true=>exact rfl
 | false=>exact(Nat.le_total q.1 p.1).elim (λh=>(congrArg Int.ofNat (Nat.max_eq_left h)).trans (fCX (fBA.mpr h)).symm) λh=>(congrArg Int.ofNat (Nat.max_eq_right h)).trans (fCN (fBA.mpr h)).symm
def zqE(b:Bool)(p q:Nat×Int):Va b (min p.1 q.1,min p.2 q.2)=min (Va b p) (Va b q):=by
 cases b with
 | true=>exact rfl
 | false=>exact(Nat.le_total p.1 q.1).elim (λh=>(congrArg Int.ofNat (Nat.min_eq_left h)).trans (fB4 (fBA.mpr h)).symm) λh=>(congrArg Int.ofNat (Nat.min_eq_right h)).trans (fBV (fBA.mpr h)).symm
def zsF(p q:Nat×Int)(h:Va false q<=Va false p):Va false (p.1-q.1,p.2-q.2)=Va false p-Va false q:=Int.ofNat_sub (fBA.mp h)
def zq2(p q:Nat×Int)(h:Va false p<=Va false q):Va false (p.1-q.1,p.2-q.2)=0:=congrArg Int.ofNat (Nat.sub_eq_zero_of_le (fBA.mp h))
def spl{A B:Bool}{a b:Int}(ea:l.eval z=a)(eb:r.eval z=b)(h:Sat z cs)(e:(A&&B)=true)
  (f:b<=a->Sat z ((l-r)::cs)->A=true->False)(g:a<=b->Sat z ((r-l)::cs)->B=true->False):False:=
 (fCV b a).elim (λq=>f q (h.sub (ea▸eb▸q)) (an e).1) λq=>g q (h.sub (ea▸eb▸q)) (an e).2
def zcX(hn:∀i,i.blt n=true->0<=IntList.get z i)(t:T):Ok n z t:=by
 induction t with
 | v i=>
  intro b cs k h e f;cases b with
  | true=>exact f _ _ h (LinearCombo.coordinate_eval i z) e
  | false=>exact f _ _ h ((LinearCombo.coordinate_eval i z).trans (fAP (hn i (an e).1)).symm) (an e).2
 | n j=>exact λb cs k h e f=>f _ _ h ((zbO _).trans (V_n b j).symm) e
 | a s t hs ht=>exact λb cs k h e f=>two hs ht h e λl r cs h e1 e2 e=>f _ _ h ((LinearCombo.add_eval l r z).trans ((congr (congrArg _ e1) e2).trans (zsB b _ _).symm)) e
 | s s t hs ht=>
  intro b cs k h e f;refine two hs ht h e λl r cs h e1 e2 e=>?_;have e3:=(LinearCombo.sub_eval l r z).trans (congr (congrArg _ e1) e2);cases b with
  | true=>exact f _ _ h e3 e
  | false=>exact spl e1 e2 h e (λq h e=>f _ _ h (e3.trans (zsF _ _ q).symm) e) λq h e=>f _ _ h ((zbO 0).trans (zq2 _ _ q).symm) e
 | m j t ht=>exact λb cs k h e f=>ht b cs _ h e λl cs h e1 e=>f _ _ h ((LinearCombo.smul_eval l j z).trans ((congrArg _ e1).trans (zsE b j _).symm)) e
 | x s t hs ht=>exact λb cs k h e f=>two hs ht h e λl r cs h e1 e2 e=>spl e1 e2 h e (λq h e=>f _ _ h (e1.trans ((zqD b _ _).trans (fCX q)).symm) e) λq h e=>f _ _ h (e2.trans ((zqD b _ _).trans (fCN q)).symm) e
 | y s t hs ht=>exact λb cs k h e f=>two hs ht h e λl r cs h e1 e2 e=>spl e1 e2 h e (λq h e=>f _ _ h (e2.trans ((zqE b _ _).trans (fBV q)).symm) e) λq h e=>f _ _ h (e1.trans ((zqE b _ _).trans (fB4 q)).symm) e
 | c t ht=>exact λb cs k h e f=>ht false cs k h e λl cs h e1 e=>f _ _ h (e1.trans (V_n b _).symm) e
 | g t ht=>
  intro b cs k h e f;cases b with
  | true=>exact ht true cs _ h e λl cs h e1 e=>f _ _ h ((LinearCombo.neg_eval l z).trans (congrArg _ e1)) e
  | false=>exact Bool.noConfusion e
 | o t ht=>exact λb cs k h e f=>ht true cs _ h e λl cs h e1 e=>spl e1 (zbO 0) h e (λq h e=>f _ _ h (e1.trans ((V_n b _).trans (fAP q)).symm) e) λq h e=>f _ _ h ((zbO 0).trans ((V_n b _).trans (congrArg Int.ofNat (Int.toNat_of_nonpos q))).symm) e
abbrev Ja:=List L->(List L->Bool)->Bool
noncomputable def jn(w:Bool)(A B:Ja):Ja:=λcs k=>bif w then A cs (λcs=>B cs k) else A cs k&&B cs k
noncomputable def ps(n:Nat)(p:P):Bool->Ja:=
 P.rec (motive:=λ_=>Bool->Ja)
  (λb s t w cs k=>lf n s b cs λl cs=>lf n t b cs λr cs=>k ((bif w then r-l else l-(r+cc 1))::cs))
  (λb s t w cs k=>lf n s b cs λl cs=>lf n t b cs λr cs=>bif w then k ((r-l)::(l-r)::cs) else k ((r-(l+cc 1))::cs)&&k ((l-(r+cc 1))::cs))
  (λ_ _ p q w=>jn w (p w) (q w)) (λ_ _ p q w=>jn (!w) (p w) (q w)) (λ_ _ p q w=>jn (!w) (p (!w)) (q w)) (λw cs k=>w||k cs) p
def OkJ(z:List Int)(A:Ja)(a:Prop):Prop:=∀(cs:List L) (k:List L->Bool),Sat z cs->a->A cs k=true->(∀cs,Sat z cs->k cs=true->False)->False
def jn1{A B:Ja}{a b:Prop}(ha:OkJ z A a)(hb:OkJ z B b):OkJ z (jn true A B) (a/\b):=
 λcs k h g e f=>ha cs _ h g.1 e λcs h e=>hb cs k h g.2 e f
def jn0{A B:Ja}{a b:Prop}(ha:OkJ z A a)(hb:OkJ z B b):OkJ z (jn false A B) (a\/b):=
 λcs k h g e f=>g.elim (λg=>ha cs k h g (an e).1 f) λg=>hb cs k h g (an e).2 f
def OkJ.of{A:Ja}{a b:Prop}(h:OkJ z A a)(i:b->a):OkJ z A b:=λcs k s g=>h cs k s (i g)
def zsD(b:Bool)(s t:T):dn z (.l b s t)↔Va b (tv z s)<=Va b (tv z t):=by
 cases b with
 | false=>exact fBA.symm
 | true=>exact Iff.rfl
def zsC(b:Bool)(s t:T):dn z (.e b s t)↔Va b (tv z s)=Va b (tv z t):=by
 cases b with
 | false=>exact Int.ofNat_inj.symm
 | true=>exact Iff.rfl
def ztl(hn:∀i,i.blt n=true->0<=IntList.get z i)(p:P):OkJ z (ps n p true) (dn z p)/\OkJ z (ps n p false) (¬dn z p):=by
 induction p with
 | l b s t=>exact⟨λcs k h g e f=>two (zcX hn s) (zcX hn t) h e λl r cs h e1 e2 e=>f _ (h.sub (e1▸e2▸(zsD b s t).mp g)) e,
   λcs k h g e f=>two (zcX hn s) (zcX hn t) h e λl r cs h e1 e2 e=>f _ (h.lt (e1▸e2▸fBW.mp (mt (zsD b s t).mpr g))) e⟩
 | e b s t=>exact⟨λcs k h g e f=>two (zcX hn s) (zcX hn t) h e λl r cs h e1 e2 e=>
    have g:=e1.trans (((zsC b s t).mp g).trans e2.symm)
    f _ ((h.sub (Int.le_of_eq g.symm)).sub (Int.le_of_eq g)) e,
   λcs k h g e f=>two (zcX hn s) (zcX hn t) h e λl r cs h e1 e2 e=>(Int.lt_or_gt_of_ne (mt (zsC b s t).mpr g)).elim (λg=>f _ (h.lt (e1▸e2▸g)) (an e).1) λg=>f _ (h.lt (e1▸e2▸g)) (an e).2⟩
 | a p q hp hq=>exact⟨jn1 hp.1 hq.1,(jn0 hp.2 hq.2).of Classical.not_and_iff_not_or_not.mp⟩
 | o p q hp hq=>exact⟨jn0 hp.1 hq.1,(jn1 hp.2 hq.2).of not_or.mp⟩
 | i p q hp hq=>exact⟨(jn0 hp.2 hq.1).of λg=>(Classical.em _).elim (λa=>.inr (g a)) .inl,(jn1 hp.1 hq.2).of Classical.not_imp.mp⟩
 | f=>exact⟨λ_ _ _ g _ _=>g,λcs k h _ e f=>f cs h e⟩
noncomputable def cm(a b:Nat)(l r:L):List L:=bif (a*b).beq 0 then [] else [(a:Int)*l+(b:Int)*r]
noncomputable def step(i:Nat)(cs:List L):List L:=
 cs.filter (λl=>(IntList.get l.coeffs i).natAbs.beq 0)++cs.flatMap λl=>cs.flatMap λr=>cm (- IntList.get r.coeffs i).toNat (IntList.get l.coeffs i).toNat l r
def zp2(i:Nat)(h:Sat z cs):Sat z (step i cs):=by
 refine List.forall_mem_append.mpr ⟨λl hl=>h l (fZ.mp hl).1,λx hx=>?_⟩;obtain⟨l,hl,hx⟩:=gX.mp hx;obtain⟨r,hr,hx⟩:=gX.mp hx;have go:∀(a b:Nat),x∈cm a b l r->0<=x.eval z:=by
  intro a b hx;unfold cm at hx;cases hc:(a*b).beq 0 with
  | true=>rw[hc] at hx;exact absurd hx gM
  | false=>
   rw[hc] at hx;rw[fJ.mp hx,LinearCombo.add_eval,LinearCombo.smul_eval,LinearCombo.smul_eval];exact Int.add_nonneg (Int.mul_nonneg (fAS a) (h l hl)) (Int.mul_nonneg (fAS b) (h r hr))
 exact go _ _ hx
noncomputable def bad(l:L):Bool:=decide (l.const<0)&&l.coeffs.all λx=>decide (x=0)
noncomputable def ref(n:Nat):List L->Bool:=Nat.rec (motive:=λ_=>List L->Bool) (λcs=>cs.any bad) (λi f cs=>cs.any bad||f (step i cs)) n
def zmN(h:Sat z cs)(e:cs.any bad=true):False:=by
 obtain⟨l,hl,e⟩:=List.any_eq_true.mp e;have e1:l.eval z=l.const:=(congrArg (l.const + ·) (IntList.dot_eq_zero_of_left_eq_zero λx hx=>Hz (pX.mp (an e).2 x hx))).trans (fCU _);exact absurd (e1▸h l hl) (fBW.mpr (Hz (an e).1))
def zrO(n:Nat):∀cs,Sat z cs->ref n cs=true->False:=by
 induction n with
 | zero=>exact λcs h e=>zmN h e
 | succ n ih=>exact λcs h e=>(Bool.or_eq_true_iff.mp e).elim (zmN h) (ih _ (zp2 n h))
def znh(c:List Nat):∀i,i.blt c.length=true->0<=IntList.get (c.map Int.ofNat++z) i:=by
 induction c with
 | nil=>exact λi h=>Bool.noConfusion h
 | cons a c ih=>exact λi h=>Nat.casesOn (motive:=λi=>i.blt (c.length+1)=true->0<=IntList.get (Int.ofNat a::(c.map Int.ofNat++z)) i) i (λ_=>fAS a) (λi h=>ih i h) h
noncomputable def ck(p:P)(c:List Nat)(z:List Int):Bool:=ps c.length p false ((List.range c.length).map .coordinate) (ref (c.length+z.length))
def lin(p:P)(c:List Nat)(z:List Int)(h:ck p c z=true:=by kernel_rfl):dn (c.map Int.ofNat++z) p:=by
 refine Classical.byContradiction λg=>(ztl (znh c) p).2 _ _ (λl hl=>?_) g h (zrO _);obtain⟨i,hi,rfl⟩:=fQ.mp hl;exact LinearCombo.coordinate_eval i _▸znh c i (Nat.ble_eq.mpr (fAI.mp hi))
noncomputable def d1(k:T->T)(p:T×Nat):T×Nat:=(k p.1,p.2)
noncomputable def d2(k:T->T->T)(r:Nat->T×Nat)(p:T×Nat):T×Nat:=d1 (k p.1) (r p.2)
noncomputable def dT(f:Nat):Nat->T×Nat:=Nat.rec (motive:=λ_=>Nat->T×Nat) (λc=>(.v 0,c)) (λ_ r c=>
 bif (c%32).blt 8 then (.v (c%32),c/32) else bif (c%32).blt 18 then (.n (c%32-8),c/32) else bif (c%32).beq 20 then d2 .a r (r (c/32)) else bif (c%32).beq 21 then d2 .s r (r (c/32)) else bif (c%32).beq 18 then (.n (c/32%1048576),c/33554432)
 else bif (c%32).beq 25 then d1 .c (r (c/32)) else bif (c%32).beq 22 then d1 (.m (c/32%1048576)) (r (c/33554432)) else bif (c%32).beq 23 then d2 .x r (r (c/32)) else bif (c%32).beq 24 then d2 .y r (r (c/32)) else bif (c%32).beq 26 then d1 .g (r (c/32)) else bif (c%32).beq 27 then d1 .o (r (c/32)) else (.n (c/32%1152921504606846976),c/36893488147419103232)) f
noncomputable def e1(k:P->P)(p:P×Nat):P×Nat:=(k p.1,p.2)
noncomputable def e2(k:P->P->P)(r:Nat->P×Nat)(p:P×Nat):P×Nat:=e1 (k p.1) (r p.2)
noncomputable def f1(k:T->P)(p:T×Nat):P×Nat:=(k p.1,p.2)
noncomputable def f2(k:T->T->P)(p:T×Nat):P×Nat:=f1 (k p.1) (dT 20 p.2)
noncomputable def dP(f:Nat):Nat->P×Nat:=Nat.rec (motive:=λ_=>Nat->P×Nat) (λc=>(.f,c)) (λ_ r c=>
 bif (c%32).blt 2 then f2 (.l ((c%32).beq 1)) (dT 20 (c/32)) else bif (c%32).blt 4 then f2 (.e ((c%32).beq 3)) (dT 20 (c/32)) else bif (c%32).beq 6 then e2 .i r (r (c/32)) else bif (c%32).beq 4 then e2 .a r (r (c/32)) else bif (c%32).beq 5 then e2 .o r (r (c/32)) else (.f,c/32)) f
def za(n:Nat)(c:List Nat)(z:List Int)(h:ck (dP 20 n).1 c z=true:=by kernel_rfl):dn (c.map Int.ofNat++z) (dP 20 n).1:=lin _ c z h
end
end La
end
section
open La
noncomputable abbrev La.v0:La.T:=.v 0
noncomputable abbrev La.v1:La.T:=.v 1
noncomputable abbrev La.v2:La.T:=.v 2
noncomputable abbrev La.v3:La.T:=.v 3
noncomputable abbrev La.v4:La.T:=.v 4
noncomputable abbrev La.n0:La.T:=.n 0
noncomputable abbrev La.n1:La.T:=.n 1
noncomputable abbrev La.n2:La.T:=.n 2
noncomputable abbrev La.n3:La.T:=.n 3
noncomputable abbrev La.n4:La.T:=.n 4
noncomputable abbrev La.n5:La.T:=.n 5
noncomputable abbrev La.n6:La.T:=.n 6
noncomputable abbrev La.n7:La.T:=.n 7
noncomputable abbrev La.P.p:=P.l false
noncomputable abbrev La.P.z:=P.l true
noncomputable abbrev La.P.q:=P.e false
noncomputable abbrev La.P.w:=P.e true
variable{a b c d e f g i j k m o:Nat}{u v w x y z s t r:Int}
def y0 : -(1000000000000000:Int)<(1:Int):=za 0x1290038d7ea4c680009ea81 [] []
def y1:0+1<=1:=za 0x94a280 [] []
def y2:(1:Int)<1000000000000000:=za 0x71afd498d000134a681 [] []
def y3:(1:Int)>0:=za 0x94a281 [] []
def y4:0<1:=za 0x94a280 [] []
def y5:0<=100:=za 0x324900 [] []
def y6:0<=64:=za 0x204900 [] []
def y7:0<=u/\u<90->u.toNat+1<=90:=za 0x5a9241ba000016a490502040486 [] [u]
def y11 : -1000000000<=u->0-1000000000<=u:=za 0x7735940134542000000003b9aca009e826 [] [u]
def y12 : -1000000000000<u->-1000000000000000<u:=za 0x4801c6bf526340004f54081200001d1a94a20013d5026 [] [u]
def y14:0<u->¬u=0:=za 0x1d001980945026 [] [u]
def y33:u<1000000->u.toNat<1000000:=za 0xf42409241ba03d09024905026 [] [u]
def y34:u<1000000000000->u<1000000000000000:=za 0x1c6bf526340004d20a0400003a3529440026905026 [] [u]
def y41:u<u->False:=za 0x1c0905026 [] [u]
def y42:¬0<=u->u<0:=za 0x2120a04e0404c6 [] [u]
def y43:u+(1-1)=u:=za 0x129a8283 [] [u]
def y47 : -1000000000000<v->u<1000000000000->(((u-v).toNat:Nat):Int)<1000000000000000:=za 0xe35fa931a000269082bbcd0200001d1a94a2001348281305200001d1a94a20013d5026 [] [u,v]
def y54:u.toNat=v.toNat->0<=u->0<=v->u=v:=za 0x100c28098080983b06c46 [] [u,v]
def y55:u<v->u<=v:=za 0x10042905026 [] [u,v]
def y57:v<u->u-v=(((u-v).toNat:Nat):Int):=za 0x415de420a8c090d026 [] [u,v]
def y58:v<u->¬u<=v:=za 0x1c20098090d026 [] [u,v]
def y59:v>u->u<=v:=za 0x10042905026 [] [u,v]
def y60:¬u>v->u<=v:=za 0x40138121a04c6 [] [u,v]
def y61:¬v<u->0=(((u-v).toNat:Nat):Int):=za 0x415de50338121a04c6 [] [u,v]
def y62:¬v<u->u<=v:=za 0x40138121a04c6 [] [u,v]
def y65 : -1000000000000000<(((u-v).toNat:Nat):Int):=za 0x20aef290038d7ea4c680009ea81 [] [u,v]
def y68:u<=w->v=w->u<=v:=za 0x4011046610026 [] [u,v,w]
def y69:v>w->u<w->u<v:=za 0x148281124140982915026 [] [u,v,w]
def y70:v>w->u=w->u<v:=za 0x520a04401982915026 [] [u,v,w]
def y71:x-y<=w->u<=x->y<=v->u-v<=w:=za 0x820a842409860098441d426 [] [u,v,w,x,y]
def y96:u.toNat<a->u<(a:Int):=za 0xca43408121dd006 [a] [u]
def y97:u+1+(a:Int)=u+((a+1:Nat):Int):=za 0x905321a03290d283 [a] [u]
def y98:u+((a+1:Nat):Int)=u+(a:Int)+1:=za 0x906434a2414c8683 [a] [u]
def y99:a<=80/\b<=80->0<=u/\u<(a:Int)->0<=u/\u<90:=za 0x5a9245408901203291502240486000509040000a1200086 [a,b] [u]
def zwq:a<=80/\b<=80->0<=u/\u<(b:Int)->0<=u/\u<90:=za 0x5a9245408901207291502240486000509040000a1200086 [a,b] [u]
def zwr:u.toNat<b->b=a->u.toNat<a:=za 0x48b740002230522dd006 [a,b] [u]
def zws:a+1<=1000000->a<=16777216:=za 0x20000013003d09024905006 [a] []
def zwt:1<=a->¬0+1=a->0+1<a:=za 0x1294528038128a08c602406 [a] []
def zwu:1<=a->¬1=a->1+1<=a:=za 0x129a00e0488c602406 [a] []
def zwv:1<=a->¬1=a->1<a:=za 0x129a00e0488c602406 [a] []
def zww:1<=a->¬a=1->2<=a:=za 0x500e9008c602406 [a] []
def zwx:1<=a->¬a>1->a=1:=za 0x240238129a00c602406 [a] []
def zwy:1<=a->0+1<=a:=za 0x4a28002406 [a] []
def zqn:1<=a->a-1<a:=za 0x1290568002406 [a] []
def zrZ:1<=a->0<a:=za 0x4a28002406 [a] []
def zr0:1<=a->1<=a:=za 0x12002406 [a] []
def ztW:1<=a->a=a-1+1:=za 0x2520ad00202406 [a] []
def ztX:2<=a->¬a-1=1->2<=a-1:=za 0x9055403a520a88c602806 [a] []
def zwz:2<=a->a-2-1+1<a:=za 0x1294a815ad28002806 [a] []
def zwA:2<=a->a-1-1<a-1:=za 0x24154a520ad68002806 [a] []
def zwB:2<=a->a-2+1<a:=za 0x4a540ad28002806 [a] []
def zwC:2<=a->0<a:=za 0x4a28002806 [a] []
def zr1:2<=a->1<=a:=za 0x12002806 [a] []
def zr2:2<=a->2<=a:=za 0x14002806 [a] []
def ztY:a<100->a<=16777216:=za 0x20000013000001924905006 [a] []
def ztZ:a<1000->a+1<=1000:=za 0x1f44920a0000fa24905006 [a] []
def zt0:a<1000000->a<=16777216:=za 0x20000013003d09024905006 [a] []
def zwD:a<2->a<2:=za 0x2920a014905006 [a] []
def zr3:a<400->a+1<590:=za 0x49d24a414a00006424905006 [a] []
def zwE:a<400->a<600:=za 0x12c4920a00006424905006 [a] []
def zwF:a<500->a+1+1<590:=za 0x127492948294a00007d24905006 [a] []
def zwG:a<500->a+1<600:=za 0x4b124a414a00007d24905006 [a] []
def zwH:a<520->a+1<540:=za 0x43924a414a00008224905006 [a] []
def zwI:a<520->a+1<560:=za 0x46124a414a00008224905006 [a] []
def zwJ:a<520->a+1<580:=za 0x48924a414a00008224905006 [a] []
def zwK:a<540->a+1<550:=za 0x44d24a414a00008724905006 [a] []
def zwL:a<540->a+1<570:=za 0x47524a414a00008724905006 [a] []
def zwM:a<540->a+1<590:=za 0x49d24a414a00008724905006 [a] []
def zwN:a<550->a+1<560:=za 0x46124a414a000089a4905006 [a] []
def zwO:a<550->a+1<570:=za 0x47524a414a000089a4905006 [a] []
def zt1:a<560->a+1<570:=za 0x47524a414a00008c24905006 [a] []
def zwP:a<560->a+1<580:=za 0x48924a414a00008c24905006 [a] []
def zwQ:a<560->a+1<590:=za 0x49d24a414a00008c24905006 [a] []
def zt2:a<570->a+1<580:=za 0x48924a414a00008ea4905006 [a] []
def zt3:a<570->a+1<590:=za 0x49d24a414a00008ea4905006 [a] []
def zgG:a<580->a+1<590:=za 0x49d24a414a00009124905006 [a] []
def zwR:a<590->a+1<=600:=za 0x12c4920a000093a4905006 [a] []
def zwS:a<60->a+1<=64:=za 0x204920a00000f24905006 [a] []
def zr4:a<80->a+1<=1000000:=za 0x7a1204920a00001424905006 [a] []
def zwT:a>0->a-1<a:=za 0x4a415a000945006 [a] []
def zwU:a>1->a-2+1<a:=za 0x129502b4a00094d006 [a] []
def zwV:a>1->a-2<a:=za 0x4a815a00094d006 [a] []
def zwW:a<=100->a<=1000:=za 0x1f448000006490006 [a] []
def zwX:a<=100->a<=1000000:=za 0x7a12048000006490006 [a] []
def zcq:a<=1000->a<=1000000:=za 0x7a1204800003e890006 [a] []
def zwY:a<=10000->a<=1000000:=za 0x7a12048000271090006 [a] []
def zwZ:a<=1000000->Nat.succ a<=1000000000000:=za 0x1d1a94a2001348280f424090006 [a] []
def zw0:a<=1000000->a<=16777216+1:=za 0x90000000010000009d000f424090006 [a] []
def zgH:a<=1000000->a<=16777216:=za 0x8000004c00f424090006 [a] []
def zw1:a<=200->a<=16777216+1:=za 0x90000000010000009d000000c890006 [a] []
def zw2:a<=256->a+1<=1000000:=za 0x1e84812482800010090006 [a] []
def zt4:a<=256->a<1000000:=za 0x1e84812482800010090006 [a] []
def zw3:a<=3->0+a<=3:=za 0xb0228058006 [a] []
def zw4:a<=3->a+1<=1000000:=za 0x1e848124828058006 [a] []
def zqo:a<=3->a<=100:=za 0x32480058006 [a] []
def ziq:a<=3->a<=1000:=za 0x1f4480058006 [a] []
def zr5:a<=3->a<=1000000:=za 0x7a120480058006 [a] []
def zw5:a<=300->a<1000000:=za 0x1e84812482800012c90006 [a] []
def zt5:a<=4->a<=1000:=za 0x1f4480060006 [a] []
def zw6:a<=8->0+a<=8:=za 0x100228080006 [a] []
def zt6:a<=8->a<=1000:=za 0x1f4480080006 [a] []
def zr6:a<=8->a<=1000000:=za 0x7a120480080006 [a] []
def zt7:a<=80->a<=1000000:=za 0x7a12048000005090006 [a] []
def zr7:¬a-1=0->1<=a-1:=za 0x9055203a120a88c6 [a] []
def zt8:¬a<2->2<=a:=za 0x1403a920a00c6 [a] []
def zt9:¬a=0->a-1<a:=za 0x4a415a00e8008c6 [a] []
def zw7:¬a=0->0<a:=za 0x128a00e8008c6 [a] []
def zw8:¬a=0->1<=a:=za 0x480e8008c6 [a] []
def zw9:¬a=1->¬a=0->2<=a:=za 0x1403a002318e9008c6 [a] []
def zua:¬a>0->a=0:=za 0x200238128a00c6 [a] []
def zxa:¬a<=1->2<=a:=za 0x500e9000c6 [a] []
def zr8:((a+1:Nat):Int)-1=(a:Int):=za 0xca520a66a3 [a] []
def zxb:((0+a:Nat):Int)=(a:Int):=za 0x32045323 [a] []
def zxc:((a+1:Nat):Int)=(a:Int)+1:=za 0x90668905323 [a] []
def zxd:((a+1:Nat):Int)>0:=za 0x482994a281 [a] []
def zxe:(a:Int)-(a:Int)<=0:=za 0x2019066a1 [a] []
def zxf:a+1-a=1:=za 0x2409052a2 [a] []
def zxg : -((a+1:Nat):Int)<=-1:=za 0x4e920a6741 [a] []
def zub:0+1<=a+1:=za 0x24144a280 [a] []
def zxh:3*(a+1)=3+3*a:=za 0x3b2e890500000ec2 [a] []
def zxi:((a:Int)-0).toNat=a:=za 0x100cd762 [a] []
def zxj:(-1+((a+1:Nat):Int)).toNat=a:=za 0x905329d5362 [a] []
def zxk:min 0 a<=0:=za 0x802300 [a] []
def zxl:a+1<=a+9:=za 0x441448280 [a] []
def zxm:a-0<=a-0:=za 0x2015402a0 [a] []
def zuc:0<=a:=za 0x100 [a] []
def zxn:1<=a+1:=za 0x905120 [a] []
def zud:a<2*a+1:=za 0x4800000ad448280 [a] []
def zoQ:a<a+1:=za 0x241448280 [a] []
def zxo:a<=a+3+1:=za 0x2560a5000 [a] []
def zxp:a<=a+1:=za 0x905000 [a] []
def zue:a<=a:=za 0x0 [a] []
def zxq:¬(a:Int)<0:=za 0x3a120cd026 [a] []
def zxr:¬a+1=a:=za 0x1c0905046 [a] []
def zxs:(a:Int)<(b:Int)->a<b:=za 0x1482800e520cd026 [a,b] []
def zxt:a<=80/\b<=80->a<1000:=za 0x7d1248280000509040000a1200086 [a,b] []
def zuf:b-1-a>0->a+(b-1-a)=b-1:=za 0x90d4090d6a0a08090d6a945006 [a,b] []
def zxu:b<=80/\a<=80->a<1000:=za 0x7d1248280000509000000a1208086 [a,b] []
def zxv:max (a:Int) (b:Int)<=3->a<=3:=za 0x2c0058720cdc26 [a,b] []
def zxw:max (a:Int) (b:Int)<=3->¬max (a:Int) (b:Int)>3:=za 0x1c39066e95d02658720cdc26 [a,b] []
def zxx:max (b:Int) (a:Int)<=3->a<=3:=za 0x2c0058321cdc26 [a,b] []
def zxy:min (a:Int) (b:Int)=1->a+b=0->False:=za 0x1d010504648720ce066 [a,b] []
def zxz:a+(b+1)<100->a<100:=za 0x324920a00001924948680a5006 [a,b] []
def zxA:a+(b+1)<=100000->a+1+b<=100000:=za 0xc350482905280186a09243405006 [a,b] []
def zxB:a+(b+1)<=100000->a+1<=1000000:=za 0x1e8481248280186a09243405006 [a,b] []
def zxC:a+(b+1)<=100000->a+b<=100000:=za 0x30d41208280186a09243405006 [a,b] []
def zug:a+(b+1)<=1000000->a+1+b<=1000000:=za 0x7a120482905280f42409243405006 [a,b] []
def zuh:a+(b+1)<=1000000->a+b<=1000000:=za 0x1e8481208280f42409243405006 [a,b] []
def zui:a+(b+1)<=1000000->a<1000000:=za 0x1e8481248280f42409243405006 [a,b] []
def zxD:a+(b+1)<=3->a+1+b<=3:=za 0x2c29052805a43405006 [a,b] []
def zxE:a+(b+1)<=3->a<=3:=za 0x2c005a43405006 [a,b] []
def zxF:a+(b+1)<=8->a+1<=1000000:=za 0x1e84812482808243405006 [a,b] []
def zxG:a+(b+1)<=8->a+b<=8:=za 0x10082808243405006 [a,b] []
def zuj:a+1<b->¬a+1+1=b->a+1+1<b:=za 0x52948294a00e14a414a08c60a520a5006 [a,b] []
def zxH:a+1<b->a+(b-a)<=b:=za 0x401a82800a520a5006 [a,b] []
def zxI:a+1<b->a+1<b:=za 0x529052800a520a5006 [a,b] []
def zgI:a+1<b->a<b:=za 0x1482800a520a5006 [a,b] []
def zxJ:a+1<b->a<=b:=za 0x4000a520a5006 [a,b] []
def zmz:a+1<=b+1->a<=b:=za 0x4004868905006 [a,b] []
def zuk:a+1<=b->a+1+1<=2*b+1:=za 0x4840000ad44a414a002905006 [a,b] []
def zxK:a+1<=b->a+1+1<=b+1:=za 0x24344a414a002905006 [a,b] []
def zqp:a+1<=b->a<=b:=za 0x10002905006 [a,b] []
def zxL:a+100<b->a+(10+10)<b:=za 0x1480005480002a54052800a40019240a5006 [a,b] []
def zr9:a+3000<b->a+1+100<b:=za 0x14800324920a52800a402ee240a5006 [a,b] []
def zxM:a+3000<b->a+2+2000<b:=za 0x14803e84940a52800a402ee240a5006 [a,b] []
def zxN:a+3000<b->a+100<b:=za 0x52000c92052800a402ee240a5006 [a,b] []
def zul:a+b=0->a=0:=za 0x80090105046 [a,b] []
def zxO:a+b<=256->a<=256:=za 0x2012000004024105006 [a,b] []
def zxP:a-1<b->a<=b:=za 0x4000a520ad006 [a,b] []
def zxQ:b+(a+1)<=8->a+1<=1000:=za 0x7d1248280824140d006 [a,b] []
def zum:b+1<a->0<a-b:=za 0x4154a28002521a5006 [a,b] []
def zun:b+1<=a->1<=a:=za 0x480090d006 [a,b] []
def zuo:b-a>0->a+(b-a)=b:=za 0x401a8282006a945006 [a,b] []
def zup:0<b->a<=b-1->a<b:=za 0x148280486a00182945006 [a,b] []
def zsa:1<=a->a<=b->a-1<b:=za 0x529056800800602406 [a,b] []
def zxR:1<=a->¬a-b>0->a-1<b:=za 0x14a415a00e105528a00c602406 [a,b] []
def zsb:1<=a->1<=a+b:=za 0x10512002406 [a,b] []
def zoR:1<=b->b<=a->1<=a:=za 0x120004060a406 [a,b] []
def zsc:1<=b->a+b-1<a+b:=za 0x4144a420a56800a406 [a,b] []
def zsd:2<=a->a<=b->a-1<b:=za 0x529056800800602806 [a,b] []
def zxS:2<=a->¬a-1-b>0->a-1-1<b:=za 0x14a520ad68038520ad528a00c602806 [a,b] []
def zxT:2<=b->a=b->0<a:=za 0x4a280080460a806 [a,b] []
def zxU:a<b+1->a<b+1:=za 0x2434482804868905006 [a,b] []
def zse:a<b+1->a<=b:=za 0x4004868905006 [a,b] []
def zuq:a<b->b<=1000->(a:Int)<1000000:=za 0xf424092419a0400fa2410182905006 [a,b] []
def zur:a<b->¬a+1=b->a+1<b:=za 0x14a414a00e1482823182905006 [a,b] []
def zus:a<b->0<=(a:Int)/\(a:Int)<(b:Int):=za 0x3948334083280902905006 [a,b] []
def zxV:a<b->a+1+(b-(a+1))<=b:=za 0x148281aa414a002905006 [a,b] []
def zxW:a<b->min (a+1) b=a+1:=za 0x24140a414c082905006 [a,b] []
def zut:a<b->min a b=a:=za 0x20c082905006 [a,b] []
def zxX:a<b->a+0<b:=za 0x14a014a002905006 [a,b] []
def zxY:a<b->a+1<b+1:=za 0x24344a414a002905006 [a,b] []
def zoS:a<b->a+1<=b:=za 0x520a002905006 [a,b] []
def zuu:a<b->a<b+1:=za 0x90d120a002905006 [a,b] []
def zsf:a<b->a<b:=za 0x520a002905006 [a,b] []
def zqq:a<b->a<=b-1:=za 0x24350002905006 [a,b] []
def zgJ:a<b->a<=b:=za 0x10002905006 [a,b] []
def zxZ:a=b+1->b=a->False:=za 0x1c0111921a0046 [a,b] []
def zuv:a=b->b<a->False:=za 0x1c090d00608046 [a,b] []
def zuw:a=b->b<=3->a<=3:=za 0x2c005840608046 [a,b] []
def zx0:a=b->a<=0+b:=za 0x14500008046 [a,b] []
def zx1:a=b->a<=b+1:=za 0x90d00008046 [a,b] []
def zsg:a=b->a<=b:=za 0x40008046 [a,b] []
def zx2:a<=20+8*b->a+1+1<=20+8*(b+1):=za 0x243400008b0000a4a894829400400022c000292a0006 [a,b] []
def zx3:a<=20+8*b->a+3<=20+8*(b+1):=za 0x90d000022c000292a2c1400400022c000292a0006 [a,b] []
def zux:a<=301+b->a+1<=301+(b+1):=za 0x24340012d95120a0020025b2a0006 [a,b] []
def zx4:a<=301+b->a<=301+(b+1):=za 0x90d0004b65400020025b2a0006 [a,b] []
def zx5:a<=max 1 (b-max 0 b)->a<=1:=za 0x900028b86a9b8006 [a,b] []
def zx6:a<=b+1->a-1+1<=b+1:=za 0x24344a415a0121a0006 [a,b] []
def zqr:a<=1000->b<=1000->a+b<=1000000:=za 0x1e8481208280003e890406003e890006 [a,b] []
def zx7:a<=1000000->a-b<=1000000:=za 0x1e84812082a0f424090006 [a,b] []
def zx8:a<=3->b<=3->a+b<=1000000:=za 0x1e84812082805840658006 [a,b] []
def zx9:a<=3->b<=3->a+b<=6:=za 0xe082805840658006 [a,b] []
def zya:a<=b->min (max 0 b) b<=a->a=b:=za 0x40200428be00608006 [a,b] []
def zsh:a<=b->a>=b->a=b:=za 0x4020040608006 [a,b] []
def zyb:a<=b->¬a=b->a+1<=b:=za 0x520a00e1008c608006 [a,b] []
def zyc:a<=b->0+(a-1)<=b:=za 0x520aa28008006 [a,b] []
def zyd:a<=b->0+a<=b:=za 0x10228008006 [a,b] []
def zuy:a<=b->max a b=b:=za 0x1082e208006 [a,b] []
def zsi:a<=b->a+(b-a)=b:=za 0x401a828208006 [a,b] []
def zye:a<=b->a-1<=b-1:=za 0x2435482a008006 [a,b] []
def zjW:a<=b->a<=b:=za 0x40008006 [a,b] []
def zyf:b<100->a<=b+1->a<=100:=za 0x3248004868001800192490d006 [a,b] []
def zyg:b<1000000->b=a->a<=16777216:=za 0x200000130000111bd0902490d006 [a,b] []
def zyh:b<600->a<=301+b->a<1000:=za 0x7d1248280080096ca8001800962490d006 [a,b] []
def zuz:b<a->¬b+1=a->0<a-(b+1):=za 0x243405528a00e048682318090d006 [a,b] []
def zqs:b<a->a+1-(b+1)<a+1-b:=za 0x1482954a43448295a00090d006 [a,b] []
def zyi:b<a->0<(a:Int)-(b:Int):=za 0x720cd528a04090d006 [a,b] []
def zuA:b<a->0<a:=za 0x128a00090d006 [a,b] []
def zyj:b=a+1->a<b:=za 0x520a0120a0446 [a,b] []
def zyk:b=a+1->a≠b:=za 0x1c2011920a0446 [a,b] []
def zyl:b=a+1->a<=b+1:=za 0x243400120a0446 [a,b] []
def zoT:b=a+1->a<=b:=za 0x100120a0446 [a,b] []
def zuB:b=a+1->¬a=b:=za 0x1c2011920a0446 [a,b] []
def zuC:b=a+3->a<=b:=za 0x100160a0446 [a,b] []
def zym:b=1->a<b->a=0:=za 0x8008290500648446 [a,b] []
def zyn:b=a->a=b:=za 0x40200446 [a,b] []
def zqt:b=a->a<=b:=za 0x40000446 [a,b] []
def zuD:b<=100000->a<=b->1+a<=1000000:=za 0x1e848120268008006186a090406 [a,b] []
def zsj:b<=100000->a<=b->a<=1000000:=za 0x7a120480008006186a090406 [a,b] []
def zyo:b<=1000000->a<=b->a<=1000000:=za 0x7a120480008006f424090406 [a,b] []
def zsk:b<=1000000->b=a->(a:Int)<9223372036854775808:=lin (.i (.p v1 (.n 1000000)) (.i (.q v1 v0) (.z (.a (.c v0) n1) (.n 9223372036854775808)))) [a,b] []
def zyp:b<=1000000->b=a->a<=16777216+1:=za 0x90000000010000009d00000446f424090406 [a,b] []
def zuE:b<=1000000->b=a->a<=1000000:=za 0x7a120480000446f424090406 [a,b] []
def zgK:b<=1000000->b=a->a<=16777216:=za 0x8000004c0000446f424090406 [a,b] []
def zyq:b<=256->a=b->a<=256:=za 0x804800080460010090406 [a,b] []
def zyr:b<=256->a<=b+1->a<=300:=za 0x259200121a00060010090406 [a,b] []
def zys:b<=a->a=b+(a-b):=za 0x4150d00200406 [a,b] []
def zyt:¬(b:Int)<(a:Int)->a<=b:=za 0x1000e0ca439a04c6 [a,b] []
def zyu:¬a<b->¬b<a->a=b:=za 0x40238121a00c638520a00c6 [a,b] []
def zyv:¬a<b->¬a+1<b+1:=za 0x1d21a2520a500638520a00c6 [a,b] []
def zyw:¬a>=b+1->a<=b:=za 0x40038121a00c6 [a,b] []
def zyx:¬a>=b->a+(b-a)<=b:=za 0x1006a0a00e0080c6 [a,b] []
def zuF:¬b<a->a<=b:=za 0x40038121a00c6 [a,b] []
def zyy:¬b=0->a=b->a-1<b:=za 0x14a415a0020118e8088c6 [a,b] []
def zqu:¬b=0->a=b->1<=a:=za 0x48020118e8088c6 [a,b] []
def zyz:¬b>=a->1<=a-b:=za 0x415480e1000c6 [a,b] []
def zyA:(a:Int)-((b+1:Nat):Int)=(a:Int)-(b:Int)-1:=za 0x2439066b548699066a3 [a,b] []
def zyB:a+(b+1)-1=a+b:=za 0x4144a434052a2 [a,b] []
def zyC:a+1+b=a+b+1:=za 0x2420a502905282 [a,b] []
def zsl:a+1+b=a+(b+1):=za 0x24340502905282 [a,b] []
def zyD:a-0+(b-1)<=a+b-0:=za 0x808295486a805680 [a,b] []
def zyE:a-1+b<=a+b-0:=za 0x2020a542905680 [a,b] []
def zyF:min (max (max a 1) b) b=b:=za 0x108520bdf02 [a,b] []
def zyG:a+(b+1)=a+b+1:=za 0x2420a5121a0282 [a,b] []
def zuG:a<a+(b+1):=za 0x90d01448280 [a,b] []
def zjX:a<=a+b:=za 0x105000 [a,b] []
def zyH:(b:Int)=u->v<u->v=(a:Int)->a<b:=za 0x1482800646330923a04c20e466 [a,b] [u,v]
def zyI:1=c\/a<b->¬1=c->a<=b:=za 0x400389223182905002488a6 [a,b,c] []
def zyJ:max 0 b+1<=a->a>=b-c:=za 0x106a002428bd006 [a,b,c] []
def zyK:a+2*(b+1)+10<c->a+1+2*b+10<c:=za 0x248000548200005648294a50024800054921a000015814a5006 [a,b,c] []
def zyL:a+2*c+10<b->a<b:=za 0xa41400520001521000015814a5006 [a,b,c] []
def zyM:a+c+1<=b->a<b:=za 0x1482800a440a5006 [a,b,c] []
def zyN:a<b-c\/b+1<=a->¬a=b-c:=za 0x7106a0118090d0020d520a00a6 [a,b,c] []
def zyO:a<=b/\b<c->a<=b:=za 0x1000490d00100086 [a,b,c] []
def zyP:a<=c/\c<b->a+b-1-c<b:=za 0x148921052b5a00291500200086 [a,b,c] []
def zyQ:a<=c/\c<b->a<=a+b-1-c:=za 0x921052b5000291500200086 [a,b,c] []
def zuH:b+(c+1)-(0+1)<=a->a<b+(c+1)->a=b+(c+1)-1:=za 0x2522a069500922a0689050060251448a81a5406 [a,b,c] []
def zyR:b+c-(0+1)<=a->a<b+c->a=b+c-1:=za 0x91069500841a24140180945041a5406 [a,b,c] []
def zyS:b-1-c>0->a<c+(b-1-c)->a<b-1:=za 0x90d520a00490d6a2a2414018490d6a945006 [a,b,c] []
def zyT:b<a\/c<=b->¬(a<=b/\b<c):=za 0x712434004002182200121a00a6 [a,b,c] []
def zyU:c<a-b\/a+1<=c->¬(a-b<c/\c<=a):=za 0x1c020092105680218490500105522a00a6 [a,b,c] []
def zyV:c<=a/\a<b->a<b:=za 0x520a00290500010086 [a,b,c] []
def zuI:a+(b+1)<=c->a+b+1<=c:=za 0x921052801243405006 [a,b,c] []
def zmA:a+(b+1)<=c->a+b<c:=za 0x921052801243405006 [a,b,c] []
def zuJ:a+(b+1)<=c->a+b<=c:=za 0x2082801243405006 [a,b,c] []
def zyW:a+(c+1)=b->a<b:=za 0x1482800a45405046 [a,b,c] []
def zyX:a+(c+1)<=8->b<c+1->a+1+b<=8:=za 0x40290528048a890d0068245405006 [a,b,c] []
def zuK:a+(c+1)<=b->a<b:=za 0x1482800a45405006 [a,b,c] []
def zyY:a+(c+10)<b->a<b:=za 0x520a00290000a90a80a5006 [a,b,c] []
def zyZ:a+2000<c->b+1<=100->a+2*b+10<c:=za 0x1240002a4100002b0294a0000192490d00612401f4240a5006 [a,b,c] []
def zy0:a+3000<c->b<=100->a+2*b+10<c:=za 0x490000a9040000ac0a5280000649040612402ee240a5006 [a,b,c] []
def zy1:a+b<=c->a-1+b<=c:=za 0x20a415a004105006 [a,b,c] []
def zy2:a+b<=c->a+(b-1)<=c:=za 0x2486a0a004105006 [a,b,c] []
def zy3:a+b<=c->a+b<=c:=za 0x820a004105006 [a,b,c] []
def zy4:a+c<=b->1<=c->a<b:=za 0x520a00490182205006 [a,b,c] []
def zy5:a+c<=b->a+(b-a)=b:=za 0x1006a0a082205006 [a,b,c] []
def zy6:a+c<=b->a<=b:=za 0x10002205006 [a,b,c] []
def zuL:a-b=c+1->a-(b+1)=c:=za 0x921a02a248a8105446 [a,b,c] []
def zuM:b-a=c+1->a<b:=za 0x14828048a800d446 [a,b,c] []
def zy7:b-c>0->a<c+(b-c)->a<b:=za 0x520a0041a8a8905006106a945006 [a,b,c] []
def zy8:c+(b+1)<100->a<=c+1->a+b<100:=za 0x3249210528048a80018001924948682a5006 [a,b,c] []
def zy9:c+1<a->1<=a+b:=za 0x10512002522a5006 [a,b,c] []
def zza:c+1=b->c<=a->a<b->a=b-1:=za 0x90d4020a414018020182915046 [a,b,c] []
def zqv:c+1<=b+1->a<c+1->a<=b:=za 0x40048a89050064868915006 [a,b,c] []
def zuN:c+1<=b->a<=a+b-(c+1):=za 0x2454082950002915006 [a,b,c] []
def zzb:c+a<=b->a<=b-c:=za 0x8350002015006 [a,b,c] []
def zsm:1<=b+c->a+(b+c)-1<a+(b+c):=za 0x20d0144a441a0295a0041a2406 [a,b,c] []
def zzc:1<=b->a<=c->a+(a+b)-1-c<a+b:=za 0x4144892105014ad680100060a406 [a,b,c] []
def zzd:1<=c->c<=a->1<=a+b:=za 0x1051200080612406 [a,b,c] []
def zuO:a<b+1+c->a<b+(c+1):=za 0x24540d120a00490d28905006 [a,b,c] []
def zze:a<b+1-min c (b+1)->a<=b-c:=za 0x83500121a0b090d2a905006 [a,b,c] []
def zzf:a<b+c+1->a<=b+c:=za 0x834001220d28905006 [a,b,c] []
def zuP:a<b+(c+1)->¬a<b+c->a=b+c:=za 0x20d002388344828031922a068905006 [a,b,c] []
def zzg:a<b+(c+1)->¬a=b+c->a<b+c:=za 0x20d120a00e20d00231922a068905006 [a,b,c] []
def zuQ:a<b+c->a<b+c:=za 0x834482801068905006 [a,b,c] []
def zzh:a<b+c->a<=b+c-1:=za 0x2441a54001068905006 [a,b,c] []
def zzi:a<c->a+min b (c-a)<=c:=za 0x802a8700a004905006 [a,b,c] []
def zzj:a<c->a-b<c:=za 0x248415a004905006 [a,b,c] []
def zzk:a<c->a-b<=c:=za 0x820a804905006 [a,b,c] []
def zzl:a<c->a<b+(c-b):=za 0x4550d120a004905006 [a,b,c] []
def zuR:a=b+1->c<b->c=a->False:=za 0x7008460a45401921a0046 [a,b,c] []
def zuS:a=b+3->c<b->c=a->False:=za 0x7008460a45401961a0046 [a,b,c] []
def zzm:a=b+c->b<=1000->c<=1000->a<=100000:=za 0x30d41200000fa24201800fa24101841a0046 [a,b,c] []
def zzn:a=c->b=c+1->a<=b:=za 0x100122a044610046 [a,b,c] []
def zoU:a=c->c<b->a<=b:=za 0x1000291500610046 [a,b,c] []
def zzo:a=c->c<=b->a+(b-a)=b:=za 0x401a82820880610046 [a,b,c] []
def zqw:a=c->c<=b->a<=b:=za 0x4000880610046 [a,b,c] []
def zuT:a=c->¬b<c->a<=b:=za 0x40038921a00c610046 [a,b,c] []
def zuU:a<=b+c->¬a=b+c->a<=b+c-1:=za 0x910695000e20d00231841a0006 [a,b,c] []
def zzp:a<=b-(c+1)->a>0->¬c+1+a=b->a<b-(c+1):=za 0x915035482803840915282318094500648a81a8006 [a,b,c] []
def zzq:a<=b-c->a>0->¬c+a=b->a<b-c:=za 0x8354828038402a08c60251401841a8006 [a,b,c] []
def zuV:a<=b->b-a<=c-max 0 c->a=b:=za 0x100848b8aa00d40608006 [a,b,c] []
def zzr:a<=b->min a b-c=a-c:=za 0x205441062a208006 [a,b,c] []
def zqx:a<=c->c<b->a<b:=za 0x520a00291500610006 [a,b,c] []
def zsn:a<=c->c=b->a<=b:=za 0x4000884610006 [a,b,c] []
def zzs:a<=c->c<=b->a<=b:=za 0x4000880610006 [a,b,c] []
def zzt:a<=c->a-b<=c-0:=za 0x2055082a010006 [a,b,c] []
def zzu:b<100->a<=c+1->c=b->a<=200:=za 0x6448000884648a8001800192490d006 [a,b,c] []
def zzv:b<c->max 0 c+1<=a->a>=b+1:=za 0x121a0009122f4018490d006 [a,b,c] []
def zzw:b<c->a+b+1<=a+c:=za 0x81448414a00490d006 [a,b,c] []
def zso:b<c->a+b<a+c:=za 0x81448414a00490d006 [a,b,c] []
def zzx:b<c->a+b<=a+c:=za 0x205020a00490d006 [a,b,c] []
def zsp:b=c+1->a<c->a≠b:=za 0x7080461241401922a0446 [a,b,c] []
def zzy:b=c+1->a=c+3->a≠b:=za 0x70804658a8011922a0446 [a,b,c] []
def zuW:b=c+3->a<c->a≠b:=za 0x7080461241401962a0446 [a,b,c] []
def zzz:b=c->a<c->a<b:=za 0x520a00490500610446 [a,b,c] []
def zqy:b=c->a<c->a<=b:=za 0x1000490500610446 [a,b,c] []
def zsq:b=c->a<=c->a<=b:=za 0x4001000610446 [a,b,c] []
def zzA:b=c->¬c<a->a<=b:=za 0x40038122a00c610446 [a,b,c] []
def zzB:b<=c-(a+1)->b>0->¬a+1+b=c->a+1+b<c:=za 0x248520a52803882905282318294500648282a8406 [a,b,c] []
def zzC:b<=c-(a+1)->b>0->a+1+b<=c:=za 0x20a414a00294500648282a8406 [a,b,c] []
def zuX:b<=c-a->1<=b->a+b<=c:=za 0x820a002901802a8406 [a,b,c] []
def zzD:b<=c-a->b>0->¬a+b+1=c->¬a+b=c->a+b+1<c:=za 0x92908294a00e208282318e248414a08c60a51401802a8406 [a,b,c] []
def zzE:b<=c-a->b>0->a+b<=c:=za 0x2082800a51401802a8406 [a,b,c] []
def zzF:b<=1000->c<=1000->a=b+c->a<=1000000:=za 0x1e8481200041a0046003e890806003e890406 [a,b,c] []
def zzG:b<=1000000->b=c->a=c->a<=16777216:=za 0x8000004c001004610446f424090406 [a,b,c] []
def zzH:b<=8->a<=20+8*c->a+b<=20+8*(c+1):=za 0x915000022c000292a041400800022c000292a000680406 [a,b,c] []
def zuY:b<=a->a<b+c->a-b<c:=za 0x92105680106890500600406 [a,b,c] []
def zoV:b<=c->a+b<=a+c:=za 0x8140828010406 [a,b,c] []
def zzI:c<a+b->a<=a+(a+b)-1-c:=za 0x92105014ad4000828915006 [a,b,c] []
def zzJ:c<0->a<=b:=za 0x10010915006 [a,b,c] []
def zuZ:c<a->a<=b->a-1<b:=za 0x14a415a00200180915006 [a,b,c] []
def zzK:c<b->a+1-min b (a+1)<=a-c:=za 0x81548281c2414a802915006 [a,b,c] []
def zzL:c=a+1->b=c->a<=b:=za 0x10004111920a0846 [a,b,c] []
def zzM:c=b+1->a=c->¬a<b:=za 0x70a4140184011921a0846 [a,b,c] []
def zzN:c=b+3->a=c->¬a<b:=za 0x70a4140184011961a0846 [a,b,c] []
def zzO:c=b->c=a->a=b:=za 0x4020084608846 [a,b,c] []
def zu0:c<=a->a<=b->b<c+1->a=b:=za 0x40248a890d0060800600806 [a,b,c] []
def zzP:c<=a->(a<b->c<b):=za 0x522a00290500600806 [a,b,c] []
def zzQ:c<=b->a<0+(c-1)->a<b:=za 0x520a0122aa2890500608806 [a,b,c] []
def zzR:c<=b->a<0+c->a<b:=za 0x148280122890500608806 [a,b,c] []
def zzS:c<=b->a<c+(b-c)->a<b:=za 0x520a0041a8a890500608806 [a,b,c] []
def zu1:c<=b->c=a->a<=b:=za 0x4000084608806 [a,b,c] []
def zzT:c<=b->a+b-(a+b-(a+c))=a+c:=za 0x81410281052a1052a208806 [a,b,c] []
def zzU:c<=b->(¬a<b->¬a<c):=za 0x1c490500638520a00c608806 [a,b,c] []
def zzV:¬b>=c-a->a+b<c:=za 0x9210528038402a80c6 [a,b,c] []
def zsr:¬c<a+b->a+b<=c:=za 0x820a00e105122a00c6 [a,b,c] []
def zzW:¬c<b->c<=a->a<=b->a=b:=za 0x402080060080638522a00c6 [a,b,c] []
def zzX:¬c=a+b->¬a+b=c:=za 0x1c410504638414108c6 [a,b,c] []
def zzY:¬c=0->a+b+(c-1)=a+(b+c)-1:=za 0x910680a5522a8414a08e8108c6 [a,b,c] []
def zzZ:a+b<=a+b/\a+b<a+b+(c+1):=za 0x915020a5121052800828105004 [a,b,c] []
def zu2:a+(b+c)-(a+b)=c:=za 0x820a0834052a2 [a,b,c] []
def zz0:a+(b+c)-1=a+b+c-1:=za 0x24410529548834052a2 [a,b,c] []
def zz1:a+b-(a+c)<=a+b:=za 0x41410281052a0 [a,b,c] []
def zz2:min (a-b) (c-b)<=c:=za 0x208aa105700 [a,b,c] []
def zu3:a+(b+c)=a+b+c:=za 0x820a5041a0282 [a,b,c] []
def zu4:a<=a+b+c:=za 0x820a5000 [a,b,c] []
def zz3:a<=a+b-(a+b-(a+c)):=za 0x205020a5420a5400 [a,b,c] []
def zz4:¬(a+(b+1)<=a+b/\a+b<a+(b+1)+c):=za 0x71243405289082940041448680a0086 [a,b,c] []
def zz5:a+(b+1)<=c/\c<a+(b+1)+d->a+b<=c/\c<a+b+(d+1):=za 0x91d020a5122a0041050041a434052891500248680a0086 [a,b,c,d] []
def zz6:a+c<b/\b<=a+d->a<=b-1:=za 0x243500060a040148814a0086 [a,b,c,d] []
def zz7:b+(c+1)<=a/\a<b+(c+1)+d->a-(b+c)=a-(b+(c+1))+1:=za 0x2522a0680ad041a02a21a4540d2890500048a81a0086 [a,b,c,d] []
def zz8:b+d<a/\a<=b+c->a-1<b+c:=za 0x8344a415a0041a000048c34a0086 [a,b,c,d] []
def zu5:a+2*max b d+10<c->a+2*b+10<c:=za 0x920001520800015814a50024800054861b800015814a5006 [a,b,c,d] []
def zu6:a+2*max d b+10<c->a+2*b+10<c:=za 0x920001520800015814a50024800054823b800015814a5006 [a,b,c,d] []
def zz9:a+(b+1)-(c+1+1)<=d->a+b-(c+1)<=d:=za 0xd22a0414a806948a9448680a5406 [a,b,c,d] []
def zAa:a+b+(c+1)<=d->a+(b+1)+c<=d:=za 0xc490d014a006915020a5006 [a,b,c,d] []
def zAb:a+b+(d+1)<=c->a+b<c:=za 0x248414a00491d020a5006 [a,b,c,d] []
def zAc:a-b+(c-d)<=a+c-max 0 (a+c)->b+1<a->False:=za 0x1c094869401840a22e2052a315420ad006 [a,b,c,d] []
def zAd:c=d\/a<b->¬c=d->a<=b:=za 0x40038c423182905003108a6 [a,b,c,d] []
def zAe:min a b<=c->1<=d->min (a+1) b<=c+d:=za 0xc540a414c00690184106006 [a,b,c,d] []
def zAf:min c d=1->a=c->b=d->min (a:Int) (b:Int)=1:=za 0x90e419c0c61118401192316046 [a,b,c,d] []
def zAg:a+min b (d-a)<=c->b<d-a->a+b<=c:=za 0x820a0003aa434018401d43805006 [a,b,c,d] []
def zAh:a+3000<d->b<=100->a+1+min b c<d:=za 0xd220e120a528000064904061a402ee240a5006 [a,b,c,d] []
def zu7:a+3000<d->b<=100->a+min b c<d:=za 0x3488380528000064904061a402ee240a5006 [a,b,c,d] []
def zAi:a+b<=c+d-max 0 (c+d)->2<=b->False:=za 0x1c2a01862a22e3152a105006 [a,b,c,d] []
def zAj:a+b<=c-(d+1)->a+b<=c-1:=za 0x915420a0123a0aa105006 [a,b,c,d] []
def zAk:a+d<=c->d-1-b>0->a+b<=c:=za 0x2082800a475aa5140184305006 [a,b,c,d] []
def zss:a+d<=c->b<d->a+b-1<c:=za 0x24a420a56801a4340184305006 [a,b,c,d] []
def zoW:a+d<=c->b<d->a+b<c:=za 0x921052801a4340184305006 [a,b,c,d] []
def zAl:a+d<=c->b<d->a+b<=c:=za 0x2082801a4340184305006 [a,b,c,d] []
def zAm:a+d<=c->b<=d->¬b=d->a+b-1<c:=za 0x24a420a568038c22318610184305006 [a,b,c,d] []
def zst:a+d<=c->b<=d->a+b<=c:=za 0x820a00610184305006 [a,b,c,d] []
def zAn:b+d<=a->a<b+c->a-b<c:=za 0x248415a0041a2414018030d006 [a,b,c,d] []
def zAo:c+d<=b-(a+1)->2<=d->a+1<=b:=za 0x520a006a01920a06a315006 [a,b,c,d] []
def zu8:c+d<=1000000->c=a->d=b->a+b<=16777216:=za 0x8000004c20a00231180211bd09024315006 [a,b,c,d] []
def zAp:d+(b+10)<c->a<=d+9->a+b<c:=za 0x9210528088e80018490000a90683a5006 [a,b,c,d] []
def zAq:d+a<b->b<=c->a<min b c-d:=za 0x31071548280104060a403a5006 [a,b,c,d] []
def zAr:d+b<=c->a<=d->a+b<=c:=za 0x820a0060018411d006 [a,b,c,d] []
def zAs:1<=c+d->d=0->a<b+(c+d)->a-b<c:=za 0x9210568018a81a24140190311862a2406 [a,b,c,d] []
def zAt:1<=a->a+b<=c-d->a-1+b<=c-(d+1):=za 0x2474154290568018aa10500602406 [a,b,c,d] []
def zu9:1<=c->d<=a-b->1<=d->1<=min (a-b) c:=za 0x2082b84806901820a8c0612406 [a,b,c,d] []
def zAu:1<=d->a+d+b<=c->a+(b+1)<=c:=za 0x921a028010460a50061a406 [a,b,c,d] []
def zAv:1<=d->min a b<=c->min (a+1) b<=c+min (b-c) d:=za 0xc41ae0540a414c0041060061a406 [a,b,c,d] []
def zAw:2<=b->a+b<=c-d->a+(b-1)<=c-(d+1):=za 0x247415521a828018aa1050060a806 [a,b,c,d] []
def zAx:a<b+min (max c 1) d->¬c=0->a<b+c:=za 0x20d120a00e8108c61a457c068905006 [a,b,c,d] []
def zAy:a<b+(c+d)->a<=b+(c+d)-1:=za 0x2462a069500062a068905006 [a,b,c,d] []
def zAz:a<b+c->a<b+(c+d):=za 0x315034482801068905006 [a,b,c,d] []
def zAA:a<b+c->a<=b+(c+d)-1:=za 0x918a81a54001068905006 [a,b,c,d] []
def zAB:a<b+c->a<=b+c+d:=za 0xc41a50001068905006 [a,b,c,d] []
def zAC:a=b+(c+d)->a=b+c+d:=za 0xc41a500218a81a0046 [a,b,c,d] []
def zAD:a=c+(d+1)->b=c+(d+1+1)->a+1=b:=za 0x520a09291d282a044648e82a0046 [a,b,c,d] []
def zAE:a=c+d->¬b<c+d->a<=b:=za 0x40038c544868031862a0046 [a,b,c,d] []
def zAF:a=c->b=d->min c d=1->min a b=1:=za 0x2420c0923160461844610046 [a,b,c,d] []
def zAG:a<=0+b->b=c+d->c<=80/\d<=80->a<=10000:=za 0x138848000005090c0000a121008618a8111828a0006 [a,b,c,d] []
def zAH:a<=b-c->a<d->a<=min (b-c) d:=za 0xc41ae0001a41401841a8006 [a,b,c,d] []
def zAI:a<=b->b<=d->d<a+c->a<=b/\b<a+c:=za 0x8144868008004102891d0061840608006 [a,b,c,d] []
def zAJ:a<=d->b<=c->a+b<=c+d:=za 0xc54082801040618006 [a,b,c,d] []
def zva:a<=d->d<b+c->a<b+c:=za 0x83448280106891d00618006 [a,b,c,d] []
def zAK:a<=d->d<=b->b<a+c->a<=b/\b<a+c:=za 0x8144868008004102890d00608c0618006 [a,b,c,d] []
def zAL:a<=d->¬a<b+c->¬a=d->a-(b+c)<d-(b+c):=za 0x20d075488340568038c02318e20d120a00c618006 [a,b,c,d] []
def zAM:a<=d->¬a=b+c->d=b+c->a<b+c:=za 0x20d120a0041a0c4638834008c618006 [a,b,c,d] []
def zAN:b<c->a+b<d->a+b+1<=a+min c (d-a):=za 0x751601448414a006908294018490d006 [a,b,c,d] []
def zAO:b=c+d->a<c+d->a<b:=za 0x520a0062a241401862a0446 [a,b,c,d] []
def zAP:b<=1000000->b=c->d<c->a=d->a+1<=16777216+1:=za 0x90000000010000009d120a0060118491d00610446f424090406 [a,b,c,d] []
def zAQ:b<=1000000->b=c->d<c->a=d->a<=16777216:=za 0x2000001300060118491d00610446f424090406 [a,b,c,d] []
def zAR:b<=c->a<=d->a+b<=c+d:=za 0xc54082801800610406 [a,b,c,d] []
def zsu:c<d->a+b+c<a+(b+d):=za 0xc340512208294a006915006 [a,b,c,d] []
def zAS:c<d->a+b+c<=a+(b+d)-1:=za 0x2461a029510414a006915006 [a,b,c,d] []
def zvb:c=a->c<=d->d<=b->a<=b:=za 0x40008c061880600846 [a,b,c,d] []
def zqz:c=a->d=b->c<=d->a<=b:=za 0x4001880608c4600846 [a,b,c,d] []
def zvc:c=b->d=a->d<=c->a<=b:=za 0x40010c0600c4608846 [a,b,c,d] []
def zvd:c=b->d<=c->a<=d->a<=b:=za 0x4001800610c0608846 [a,b,c,d] []
def zAT:c=d->a<=d->c<=b->a<=b:=za 0x400088061800618846 [a,b,c,d] []
def zAU:c=d->b<d->min b c=a->a=b:=za 0x40200838118690d00618846 [a,b,c,d] []
def zAV:c=d->b=d+1->a<c->¬a=b:=za 0x7080461241401923a044618846 [a,b,c,d] []
def zAW:c<=1000->b<=d->a<=c->d<=8->a+b<=1000000:=za 0x1e848120828080c061000618406003e890806 [a,b,c,d] []
def zAX:c<=3->d<=3->a=c->b=d->max (a:Int) (b:Int)<=3:=za 0x2c39066e1184461004658c0658806 [a,b,c,d] []
def zAY:c<=b->a=d->d<c->a<=b:=za 0x1000491d0061804608806 [a,b,c,d] []
def zAZ:c<=d->d<c->a<b:=za 0x520a00491d00618806 [a,b,c,d] []
def zA0:c<=d->a+b+c<=a+b+d:=za 0xc20a50410528018806 [a,b,c,d] []
def zA1:d<=max 1 (b-c)->a+1=d->a<=max 1 (b-(c+1)):=za 0x24540d5370006905046106a9b8c06 [a,b,c,d] []
def zA2:d<=b+1->a<=d+c->a<=b+(c+1):=za 0x24540d00010e8001921a0c06 [a,b,c,d] []
def zsv:d<=b-a->1<=d->a+min (b-a) c<=b:=za 0x4400d700a006901801a8c06 [a,b,c,d] []
def zA3:d<=c->a<b+(c+1)->¬a=b+d->¬(b+d<a/\a<=b+c)->a<b+c:=za 0x20d120a00e20d00002461a5004318e30d00231922a06890500610c06 [a,b,c,d] []
def zA4:d<=c->d=a+b->¬c=a+b->a+b<=c-1:=za 0x915420a00e10504231820a0c4610c06 [a,b,c,d] []
def zA5:d<=c->a+(a+b)-1-c<=a+(a+b)-1-d:=za 0xd2105014ad44908280a56a010c06 [a,b,c,d] []
def zA6:¬c=a+b->¬(a+(b+1)<=c/\c<a+(b+1)+d)->¬(a+b<=c/\c<a+b+(d+1)):=za 0x748e81052891500208280218e348680a5122a00490d014010c638414108c6 [a,b,c,d] []
def zA7:¬d<a+(b+c)->a+(b+c)+(d-(a+(b+c)))=d:=za 0xc41a0283a8834052823883405123a00c6 [a,b,c,d] []
def zsw:¬d<a+(b+c)->a+(b+c)<=d:=za 0xc41a02803883405123a00c6 [a,b,c,d] []
def zve:a+(b+c)+d-(a+(b+c))=d:=za 0xc41a028310680a52a2 [a,b,c,d] []
def zA8:a+b+(c+d)=a+(b+c)+d:=za 0xc41a029418a8105282 [a,b,c,d] []
def zvf:a+(b+c)<=a+(b+c)+d:=za 0x310680a5041a0280 [a,b,c,d] []
def zA9:a+b+c+e<=d->a+b+c<=d:=za 0x310414a006410414a5006 [a,b,c,d,e] []
def zvg:a+2*max b e+10<d->a+min b c<d:=za 0x6910700a50034800054881b800015814a5006 [a,b,c,d,e] []
def zBa:a+(b+d)+e<=c->¬(a+b<=c/\c<a+(b+d)+e):=za 0x720c340528915002082802184418680a5006 [a,b,c,d,e] []
def zBb:a+b+d<=e->c=e->a+b<=c:=za 0x2082802084620c20a5006 [a,b,c,d,e] []
def zBc:a-b+(c-d)<=a+c-e-1->a-b+(c-d)<=a+c-(e+1):=λh=>fF h (pA (Nat.sub_sub _ _ _))
def zBd:a-b+(c-d)<=e-max 0 (a+c)->a-b+(c-d)<=e-1:=have g {a b e:Nat}:a<=b->a<=e-max 0 b->a<=e-1:=lin (.i (.p v0 v1) (.i (.p v0 (.s v2 (.x n0 v1))) (.p v0 (.s v2 n1)))) [a,b,e] [];g (fC1 (Nat.sub_le _ _) (Nat.sub_le _ _))
def zBe:a-b+(c-d)<=e->a-(b+1)+(c-d)<=e:=za 0x418aa90d015a008315420ad006 [a,b,c,d,e] []
def zBf:a-b+(c-d)<=e->a-b+(c-(d+1))<=e:=za 0x448e82a8415a008315420ad006 [a,b,c,d,e] []
def zBg:a-b+(c-d)<=e->a-b+(c-d)<=e:=za 0x1062a8415a008315420ad006 [a,b,c,d,e] []
def zBh:a<=b\/c<=d->a<=b\/c<=d+e:=za 0x41d0400800518801000a6 [a,b,c,d,e] []
def zBi:a+b<=c+d-e-1->a+b<=c+d-(e+1):=za 0x249418a950828049062a56a105006 [a,b,c,d,e] []
def zBj:a+e<=d->b<e->a+(b-c)<d:=za 0x34883505280224340186405006 [a,b,c,d,e] []
def zBk:a+e<=d->¬c>=e-b->a+(b+c)<d:=za 0xd220d014a00e2092a03186405006 [a,b,c,d,e] []
def zBl:1<=d+e->a+b<=c-max 0 (d+e)->a+b<=c-1:=za 0x915420a0083a22e2a841401883a2406 [a,b,c,d,e] []
def zBm:1<=d->a+b+d<=e->c=e->a+b<c:=za 0x921052802084620c20a50061a406 [a,b,c,d,e] []
def zvh:1<=e->a<b+(c+d)+e->a-(b+(c+d))<e:=za 0x1123150340568020c540d2890500622406 [a,b,c,d,e] []
def zBn:a<b+(c+1)->b+d<e/\e<=b+c->a-1<b+c:=za 0x20d1290568010684011230d28021922a068905006 [a,b,c,d,e] []
def zBo:a=0->a<=b-(c+(d+e)):=za 0x41d0540d40040046 [a,b,c,d,e] []
def zBp:a<=b->c+d<a/\a<=c+e->b=c+d->False:=za 0x718a8111882a000048c54a008608006 [a,b,c,d,e] []
def zBq:a<=b->b<c+(d+1)->c+e<a/\a<=c+d->¬(c+e<b/\b<=c+d)->False:=za 0x738c540802920a94010c618a80001241528021923a0a890d00608006 [a,b,c,d,e] []
def zBr:a<=b->b<c+(d+1)->a=c+e->¬b=c+e->¬(c+e<b/\b<=c+d)->False:=za 0x738c540802920a94010c639054088c620a8011923a0a890d00608006 [a,b,c,d,e] []
def zBs:a<=b->¬(c+d<a/\a<=c+e)->c+d<b/\b<=c+e->a<=b-1:=za 0x243500082a040148c54a0086390540000918a94010c608006 [a,b,c,d,e] []
def zvi:c<a+b->¬(a+b<=c/\c<a+(b+d)+e):=za 0x1c830d014a245400820a00860828915006 [a,b,c,d,e] []
def zBt:c=d->a<=d->b=e->c<=e->a<=b:=za 0x40020806204461800618846 [a,b,c,d,e] []
def zBu:c<=a->a<=b->b<c+min (max d 1) e->d=0->a=b:=za 0x40240c4622477c0a890d0060800600806 [a,b,c,d,e] []
def zBv:d<e->a+(b+c)+d<a+(b+c)+e:=za 0x1041a029448c41a0294a00891d006 [a,b,c,d,e] []
def zBw:d<=a->a<b+(c+1)->d=b+e->¬a=b+e->a-1<b+c:=za 0x20d1290568039034008c62068311922a06890500600c06 [a,b,c,d,e] []
def zBx:d<=b->c<=e->a<d\/e<=a->a<b\/c<=a:=za 0x400a4140140400d20a00a62080608c06 [a,b,c,d,e] []
def zBy:d<=e->a+(b+c)+d<=a+(b+c)+e:=za 0x1041a0294188340528020c06 [a,b,c,d,e] []
def zBz:¬a<b+(c+d)+e->a=b+(c+d)+e+(a-(b+c+(d+e))):=za 0x41d041a501520c540d294008e418a81a5120a00c6 [a,b,c,d,e] []
def zBA:¬b<c+(d+e)+a->a<=b-(c+(d+e)):=za 0x107415035000e020e82a5121a00c6 [a,b,c,d,e] []
def zBB:¬c<a+(b+d)+e->¬(a+b<=c/\c<a+(b+d)+e):=za 0x720c34052891500208280218e418680a5122a00c6 [a,b,c,d,e] []
def zBC:¬c<a+b->c<a+(b+d)+e->a+b<=c/\c<a+(b+d)+e:=za 0x1061a029448a8010414010830d014a2454018e105122a00c6 [a,b,c,d,e] []
def zBD:¬d<a+(b+c)+e->a+(b+c)+(d-(a+(b+c)))=d:=za 0x310680a0ea20d014a08e410680a5123a00c6 [a,b,c,d,e] []
def zBE:¬d<a+(b+c)+e->a+(b+c)<=d:=za 0x310680a00e410680a5123a00c6 [a,b,c,d,e] []
def zvj:¬e<a+(b+c)+d->a+(b+c)+d<=e:=za 0x10620d014a00e310680a5124a00c6 [a,b,c,d,e] []
def zBF:a-b+(c-d)<=e-(f+1)->a-b+(c-d)<=e-1:=have g {a e f:Nat}:a<=e-(f+1)->a<=e-1:=lin (.i (.p v0 (.s v1 (.a v2 n1))) (.p v0 (.s v1 n1))) [a,e,f] [];g
def zBG:a-b+(c-d)<=f->a-b+(c-(d+1+e))<=f:=za 0x14891d282a8415a00a315420ad006 [a,b,c,d,e,f] []
def zBH:a-b+(d-e)<=f->a-(b+c)+(d-e)<=f:=za 0x520ea20d015a00a41d420ad006 [a,b,c,d,e,f] []
def zBI:c-d+(e-f)<=b-(a+1)->d+1<c->a+1<=b:=za 0x520a004948e9401920a06a525462ad006 [a,b,c,d,e,f] []
def zBJ:d<=b\/c<=e->e<=a->a<=f->f<d->a<b\/c<=a:=za 0x400a414014692d006280060100620801180a6 [a,b,c,d,e,f] []
def zBK:d<=b\/c<=e->e<=f->f<=a->a<d->a<b\/c<=a:=za 0x400a4140146905006014062900620801180a6 [a,b,c,d,e,f] []
def zBL:e<=c\/d<=a->a+b+f<=e->a+b<=c\/d<=a:=za 0x180410500521420a500600c02200a6 [a,b,c,d,e,f] []
def zBM:b+1<a->a-b+(c-d)<=e-f->a-(b+1)+(c-d)<=e-(f+1):=have g {a b c e f:Nat}:b+1<a->a-b+c<=e-f->a-(b+1)+c<=e-(f+1):=lin (.i (.p (.a (.a v1 n1) n1) v0) (.i (.p (.a (.s v0 v1) v2) (.s v3 v4)) (.p (.a (.s v0 (.a v1 n1)) v2) (.s v3 (.a v4 n1))))) [a,b,c,e,f] [];g
def zBN:a<=f->f<b+(c+d)+e->a<b+(c+d)+e:=za 0x1062a06944828020c540d2892d00628006 [a,b,c,d,e,f] []
def zBO:c=d->a+(b+e)+f<=d->min (a+b) c=a+b:=za 0x41410414c086520680a500618846 [a,b,c,d,e,f] []
def zBP:d<c->a-b+(c-d)<=e-f->a-b+(c-(d+1))<=e-(f+1):=have g {a c d e f:Nat}:d<c->a+(c-d)<=e-f->a+(c-(d+1))<=e-(f+1):=lin (.i (.p (.a v2 n1) v1) (.i (.p (.a v0 (.s v1 v2)) (.s v3 v4)) (.p (.a v0 (.s v1 (.a v2 n1))) (.s v3 (.a v4 n1))))) [a,c,d,e,f] [];g
def zvk:d=e->a+(b+c)+f<=e->a+(b+c)<=d:=za 0x310680a008510680a500620c46 [a,b,c,d,e,f] []
def zBQ:d=e->1<=b+c->a+(b+c)+f<=e->a+b+c-1<d:=za 0xd2910414a568021441a029401841a240620c46 [a,b,c,d,e,f] []
def zBR:e=f->a+(b+c)+d<=f->a+(b+c)+d<=e:=za 0x10620d014a00a310680a500629046 [a,b,c,d,e,f] []
def zBS:e<=d->a+b+c+f<=e->a+b+c<=d:=za 0x310414a008510414a500619006 [a,b,c,d,e,f] []
def zBT:e<=f->c<a\/a+(b+d)+f<=c->¬(a+b<=c/\c<a+(b+d)+e):=za 0x1c830d014a245400820a008611461a029400122a00a629006 [a,b,c,d,e,f] []
def zvl:f<=e->d<f->a+(b+c)+d<a+(b+c)+e:=za 0x1041a029448c41a0294a00a91d00621406 [a,b,c,d,e,f] []
def zsx:¬e=0->d=f+e->a<b+(c+f)+e->a-(b+c)<d:=za 0x34883405680214540d2890500621683118e8208c6 [a,b,c,d,e,f] []
def zBU:b=d+e->a=f+g->¬c<f+(g+d)+e->a+b<=c:=za 0x820a00e419a85a5122a00c63168011883a0446 [a,b,c,d,e,f,g] []
def zBV:e=f->a+(b+c)+g<=f->d<=g->a+b+0+(c+d)<=e:=za 0x418a8808294a00c3018a610680a500629046 [a,b,c,d,e,f,g] []
def zvm:e=f->a+(b+c)+g<=f->d<=g->a+(b+c)+d<=e:=za 0x10620d014a00c3018a610680a500629046 [a,b,c,d,e,f,g] []
def zBW:¬d=0->c=e+d->b=f+g->a<f+(g+e)+d->a-b<c:=za 0x248415a0064350b4a2414018c5a044619282118e8188c6 [a,b,c,d,e,f,g] []
def zvn:¬e=0->d=f+e->a<=g->g<b+(c+f)+e->a-(b+c)<d:=za 0x34883405680214540d289350063000621683118e8208c6 [a,b,c,d,e,f,g] []
end
section
open La
variable{a b c d e f g i j k m o:Nat}{u v w x y z s t r:Int}
def zBX:u<=v->v<=u->u=v:=za 0x4030042608026 [] [u,v]
def zvo:u<=v->¬v=u->u<v:=za 0x520a04e008cc608026 [] [u,v]
def zBY:v<=u->¬v<u->u=v:=za 0x40338121a04c600426 [] [u,v]
def zBZ:u<=min v w->u<=v:=za 0x100441c0026 [] [u,v,w]
def zB0:u<=min w v->u<=v:=za 0x100422c0026 [] [u,v,w]
def zB1:u<=v+w->u>v+w->False:=za 0x1c091069409841a0026 [] [u,v,w]
def zvp:u<=w->w<v->u<=v:=za 0x1004291502610026 [] [u,v,w]
def zB2:u<=w->w<=v->u<=v:=za 0x4010882610026 [] [u,v,w]
def zB3:w<v->u<w->u<v:=za 0x148281124140982915026 [] [u,v,w]
def zB4:w<v->u=w->u<v:=za 0x520a04401982915026 [] [u,v,w]
def zB5:w<v->v<=w->u<=v:=za 0x1004410982915026 [] [u,v,w]
def zB6:w<v->w=u->u<v:=za 0x520a04021982915026 [] [u,v,w]
def zB7:w<v->¬w<u->u<v:=za 0x520a04e048a813182915026 [] [u,v,w]
def zB8:w=u->w<v->u<v:=za 0x520a04291502600866 [] [u,v,w]
def zB9:¬u>v+w->u<=v+w:=za 0x834004e048834a04c6 [] [u,v,w]
def zCa:¬v<=w->u<=w->u<=v:=za 0x100440098e2084c6 [] [u,v,w]
def zCb:0<=w->x>u+w->x<=v->u<v:=za 0x14828108c261a440a502612026 [] [u,v,w,x]
def zCc:u=w->w<v/\v<=w+x->u<v:=za 0x14828118a8108522a048610066 [] [u,v,w,x]
def zCd:u>v+w->x<=v+w->u<=x->False:=za 0x1c6009841a0c2602441a5026 [] [u,v,w,x]
def zCe:u<=x+w->x<=v->u<=v+w:=za 0x8340042309843a0026 [] [u,v,w,x]
def zCf:u<=w->w<v/\v<=w+x->u<v:=za 0x14828118a8108522a048610026 [] [u,v,w,x]
def zCg:u<=x->x+v<w->u+v<w:=za 0x9210528112423a502618026 [] [u,v,w,x]
def zCh:v=x->x<u/\u<=x+w->u<=v+w:=za 0x20d00110e8008123a048618466 [] [u,v,w,x]
def zCi:x=v->u<=x+w->u<=v+w:=za 0x83400443a002608c66 [] [u,v,w,x]
def zCj:x>u+v->x<=w->u+v<w:=za 0x9210528110c261a420a5026 [] [u,v,w,x]
def zCk:¬v<x->x<u/\u<=x+w->u<=v+w:=za 0x20d00110e8008123a048638d21a04c6 [] [u,v,w,x]
def zCl:a<b+1->a>=b->a=b:=za 0x402004064868905006 [a,b] []
def zCm:a<=b-1->0<b->a+1<=b:=za 0x1482800a51401921a8006 [a,b] []
def zCn:a<=b->a<b+1:=za 0x24344828008006 [a,b] []
def zCo:a<b->a+1<=b+c:=za 0x20d120a002905006 [a,b,c] []
def zCp:b<c+1->a+b<=a+c:=za 0x8140828048a890d006 [a,b,c] []
def zCq:c<=b->a<c->a<b:=za 0x520a00490500608806 [a,b,c] []
def zvq:c<=b->a<c->a<=b:=za 0x1000490500608806 [a,b,c] []
def zCr:d<=c->b<d->a+b<a+c:=za 0x81448414a00690d00610c06 [a,b,c,d] []
def zCs:a+d<=c->e<=d->b<e->a+b<c:=za 0x9210528022434018640184305006 [a,b,c,d,e] []
def zvr:a-e<=c-d->e<=b->a-(b+1)<=c-(d+1):=za 0x247415521a02a00900618aa405406 [a,b,c,d,e] []
def zvs:e-b<=c-d->a<e->a-b<=c-(d+1):=za 0x247415420a80890500618aa125406 [a,b,c,d,e] []
def zCt:a+d<=c->e<d->f<=e->b<f->a+b<c:=za 0x248414a00a90d006214061a4940184305006 [a,b,c,d,e,f] []
def zvw:b-c<=a->c+min a (b-c)<=d->¬d<b:=za 0x1c291d0061883506054018020d406 [a,b,c,d] []
def zvx:b+1<=a->¬d<b+1-min a (b+1):=za 0x748680c2434aa454018090d006 [a,b,d] []
def zCu:1<=u/\u<=3->u=1\/u=2\/u=3:=za 0x2c0350065480655802048486 [] [u]
def zCv:0<=u->0<=5+u:=za 0x6d10102026 [] [u]
def zCw:0<=u->1<=1+u:=za 0x4d12102026 [] [u]
def zCx:u<3->1+u<=3:=za 0x2c09a056905026 [] [u]
def zCy:0<=u->u<(a:Int)->u.toNat<a:=za 0x48774003290d0260a026 [a] [u]
def zCz:b<=a/\c<=d->0<=u/\u<(b:Int)->0<=u/\u<(a:Int):=za 0xca494091012072925024404861880008086 [a,b,c,d] [u]
def zCA:b<=c/\d<=a->0<=u/\u<(d:Int)->0<=u/\u<(a:Int):=za 0xca4940910120f29250244048600c0208086 [a,b,c,d] [u]
def zCB:0<a->0<(a:Int):=za 0x6528a040945006 [a] []
def zCC:0<a->¬(a:Int)=0:=za 0x3a0191980945006 [a] []
def zCD:a<440->a+1<500:=za 0x3e924a414a00006e24905006 [a] []
def zjY:a<440->a+1<590:=za 0x49d24a414a00006e24905006 [a] []
def zvt:a<470->a<480:=za 0xf04920a000075a4905006 [a] []
def zvu:a<470->a<600:=za 0x12c4920a000075a4905006 [a] []
def zCE:a<480->a+1<520:=za 0x41124a414a00007824905006 [a] []
def zCF:a<480->a+1<580:=za 0x48924a414a00007824905006 [a] []
def zCG:a<530->a+1<540:=za 0x43924a414a000084a4905006 [a] []
def zCH:a<530->a+1<570:=za 0x47524a414a000084a4905006 [a] []
def zCI:a<560->a+1+1<580:=za 0x122492948294a00008c24905006 [a] []
def zCJ:a<560->a+1<600:=za 0x4b124a414a00008c24905006 [a] []
def zCK:a<=1000->a+1<=1000000:=za 0x1e8481248280003e890006 [a] []
def zCL:0<((a+1:Nat):Int):=za 0x482994a281 [a] []
def zCM:¬((a+1:Nat):Int)=0:=za 0x3a120a6466 [a] []
def zCN:a+(b+1)<=13->a+1+b<=13:=za 0x6c829052800000d9243405006 [a,b] []
def zCO:a+1=b->a<b:=za 0x520a002905046 [a,b] []
def zCP:a<=b->b-a=0->a=b:=za 0x1009000d44608006 [a,b] []
def zCQ:a<=b->a+1<=b+1:=za 0x24344828008006 [a,b] []
def zCR:a<=b->a<=b+1:=za 0x90d00008006 [a,b] []
def zCS:b<=10000->min a b<=1000000:=za 0x1e84812083000271090406 [a,b] []
def zCT:b<=50->a<=b->a+1<=1000000:=za 0x1e8481248280080060003290406 [a,b] []
def zCU:b<=50->a<=b->a<1000:=za 0x7d1248280080060003290406 [a,b] []
def zCV:u=(a:Int)->u<(b:Int)->a<b:=za 0x1482800e522a04c0c8866 [a,b] [u]
def zCW:(a:Int)=13->min (a-b) c<=13:=za 0xd90820ae000001b206466 [a,b,c] []
def zCX:b<=80/\c<=80->a<=b+c->a<=992:=za 0x7c1200041a0006000509080000a1208086 [a,b,c] []
def zCY:c+1=b->a<c+1->a<b:=za 0x520a0122a24140182915046 [a,b,c] []
def zCZ:a<=b+c->b<=80/\c<=80->a<=1000:=za 0x7d120000014242000028482021841a0006 [a,b,c] []
def zC0:b<=50->a+c<=b->a<80:=za 0x284920a0022050060003290406 [a,b,c] []
def zC1:b<=50->c+a<=b->a<80:=za 0x284920a0020150060003290406 [a,b,c] []
def zC2:a+(b+c)=b+(a+c):=za 0x8140d041a0282 [a,b,c] []
def zC3:(d:Int)<13->(a:Int)=(d:Int)->min (a-b) c<=13:=za 0xd90820ae003c8323300006c923cd026 [a,b,c,d] []
def zC4:a<=c->b<=d->a+b<=c+d:=za 0xc54082801840610006 [a,b,c,d] []
def zC5:b<=50->a<=c+d->c+d<=b->a<=992:=za 0x1f0480008c5401862a00060003290406 [a,b,c,d] []
def zvv:a+b=d+e+1->d+e<=c->a+b<=c+1:=za 0x24540828011074019241d28105046 [a,b,c,d,e] []
def zC6:a<=d->d=e->e=b+c->a<=b+c:=za 0x83400041a104620c4618006 [a,b,c,d,e] []
def zC7:1<=u/\u<=100000000->-1000000000<=u:=za 0x1dcd65004f41000000005f5e1009802048486 [] [u]
def zC8:1<=u/\u<=100000000->u<=1000000000:=za 0x1dcd65004c01000000005f5e1009802048486 [] [u]
def zC9:1<=u/\u<=3->-1000000000<=u:=za 0x1dcd65004f415802048486 [] [u]
def zDa:1<=u/\u<=3->u<=1000000000:=za 0x1dcd65004c015802048486 [] [u]
def zDb:u=1\/u=-1->-1000000000<=u:=za 0x3b9aca009e829d006900ca6 [] [u]
def zDc:u=1\/u=-1->u<=1000000000:=za 0x3b9aca0098029d006900ca6 [] [u]
def zDd:0<=u->u<2->u=0\/u=1:=za 0x900d00195490502602026 [] [u]
def zDe:(a:Int)<=700000000->1000000000-(a:Int)≠0:=za 0x740320000000773594013a8cc000000053724e01306426 [a] []
def zDf:(a:Int)<=700000000->-(1000000000-(a:Int))≠0:=za 0xe80640000000ee6b280275d0cc000000053724e01306426 [a] []
def zDg:(a:Int)<=700000000->-(1000000000-(a:Int))<=1000000000:=za 0x3b9aca0098320000000773594013ae82000000053724e01306426 [a] []
def zDh:(a:Int)<=700000000->-1000000000<=1000000000-(a:Int):=za 0x640000000ee6b28027500000003b9aca009e82000000053724e01306426 [a] []
def zDi:1000000000-(a:Int)<=1000000000:=za 0xee6b280260c80000001dcd65004ea1 [a] []
def zDj : -1000000000<=-(1000000000-(a:Int)):=za 0x640000000ee6b280275d00000001dcd65004f41 [a] []
def zDk:8*a<=512->0+8*a<=512:=za 0x10048000011645000040120000045806 [a] []
def zDl:a<=1000->0+6*a<=6000:=za 0x5dc24000006b2280003e890006 [a] []
def zDm:a+3000<b->a+1+1+2000<b:=za 0x5200fa124a414a52800a402ee240a5006 [a,b] []
def zDn:b-a=0->a<=b->a=b:=za 0x100820019000d446 [a,b] []
def zDo:a<=20+8*b->b<=600->a+3000<9900:=za 0x9ab24900bb89029400012c482030400022c000292a0006 [a,b] []
def zDp:a+6*(c+1)<=6000->b<=6->a+b+6*c<=6000:=za 0x2ee121000035820a500e080c02ee1248a80000d605006 [a,b,c] []
def zDq:a+6*(c+1)<=6000->b<=6->a+b<=1000000:=za 0x3d0902410500e080c02ee1248a80000d605006 [a,b,c] []
def zDr:b-a=c+1->a+1<=b:=za 0x14828048a800d446 [a,b,c] []
def zDs:c+4096*(b+1)<=20480->a<=c+4096->a+4096*b<=20480:=za 0xa001208080058140008004854000c0a0012486802001615006 [a,b,c] []
def zDt:c<b->a<=c->a<b:=za 0x520a00400182915006 [a,b,c] []
def zDu:c<=8->a+8*(d+1)<=512->b<=c->a+b<=1000000:=za 0x3d09024105002080c00401248e80001160500680806 [a,b,c,d] []
def zDv:d=b->a<d->a<b+c:=za 0x20d120a00690500608c46 [a,b,c,d] []
def zDw:d<=8->a+8*(c+1)<=512->b<=d->a+b+8*c<=512:=za 0x40121000045820a5003080c00401248a80001160500680c06 [a,b,c,d] []
def ztB:0<=u->0<=9+u:=za 0x8d10102026 [] [u]
def ztC:u<5->(9+u).toNat<=13:=za 0xd90234d81a905026 [] [u]
def ztD:a<=13->u=0->0<=u+40*(a:Int)/\u+40*(a:Int)<=9999:=za 0x1387c81900028b0681064000a2c1a2024404660000d90006 [a] [u]
def ztE:a<=13->u=5000->0<=u+40*(a:Int)/\u+40*(a:Int)<=9999:=za 0x1387c81900028b0681064000a2c1a202401388904660000d90006 [a] [u]
def ztF:a<=13->0-1000000000<=1+(a:Int)/\1+(a:Int)<=1000000000/\1+(a:Int)≠0:=za 0x3a0194d06600000003b9aca0098329a0480ca680000000773594013454240000d90006 [a] []
def ztG:a<=13->a<=1000000:=za 0x7a12048000000d90006 [a] []
def ztH : -1000000000<=(a:Int):=za 0xc80000001dcd65004f41 [a] []
def ztI:a+(b+1)<=13->13+a<=50:=za 0x652000006ca800000d9243405006 [a,b] []
def ztJ:a+b<=0->a=0:=za 0x80090105006 [a,b] []
def ztK:b+a<=0->a=0:=za 0x8009000d006 [a,b] []
def ztL:a+(b+1)=c->a+1+b=c:=za 0x829052821243405046 [a,b,c] []
def ztM:b<=13->a+(c+1)=b->(a:Int)<=1000000000:=za 0x3b9aca00983210a454050460000d90406 [a,b,c] []
def ztN:b<=13->a+(c+1)=b->a<=13:=za 0x6c8000a454050460000d90406 [a,b,c] []
def ztO:b<=13->c+(d+1)=b->a=c->a<80:=za 0xa1248280100460a474150460000d90406 [a,b,c,d] []
def ztP:a+4096*(b+1)<=20480->a+4096<=90000:=za 0x57e42402001205000a0012486802001605006 [a,b] []
def ztQ:a+1*(b+1)<=c->a+1+1*b<=c:=za 0x2080000d920a5002486800003605006 [a,b,c] []
def ztR:a+1*(b+1)<=c->a+1*b<=c:=za 0x8200003605002486800003605006 [a,b,c] []
def ztS:b<=1000->c<=1000->a=b+c->a<=100000:=za 0x30d41200041a0046003e890806003e890406 [a,b,c] []
def ztT:b<=100000->a+1*(c+1)<=b->a+1<=1000000:=za 0x3d0902490500148a800003605006186a090406 [a,b,c] []
def ztU:c<=90000->a+(d+b)<=c->a+b<=100000:=za 0x30d41208280104740500615f9090806 [a,b,c,d] []
def ztV:a+(c+e)<=d->b<=e->a+b+c<=d:=za 0xc4105280204061905405006 [a,b,c,d,e] []
end
noncomputable def strT:List Str:=["bank","book","","span","rows","ticked","closed","entry","many","other","made","1","banks","Book","bark","boot","ook","matches","barred","group","days","scale","base","seen","step","old"]
noncomputable def kW:Nat:=26
noncomputable def zx(n:Nat):Str:=strT.getD n ""
def zjM:strT.Nodup:=by decide +kernel
def zp5:(strT.all λs=>PyData.strOk s)=true:=by decide +kernel
def zbe{n:Nat}(h:n<kW):strT[n]? = some (zx n):=by
 have h':n<strT.length:=h;unfold zx;rw[fS,fW h'];rfl
def kX{n m:Nat}(hn:n<kW)(hm:m<kW)(h:zx n=zx m):n=m:=by
 have h1:=zbe hn;have h2:=zbe hm;rw[<-h] at h2;exact(List.getElem?_inj (show n<strT.length from hn) zjM).mp (h1.trans h2.symm)
def zgw(b:Bool):b.toNat<kW:=by cases b<;>decide
def side_inj{a b:Bool}:zx a.toNat=zx b.toNat↔a=b:=by
 refine⟨λh=>?_,λh=>by rw[h]⟩;have h2:a.toNat=b.toNat:=kX (zgw a) (zgw b) h;cases a<;>cases b<;>first|rfl|cases h2
def zie{n:Nat}(h:n<kW):PyData.strOk (zx n)=true:=pX.mp zp5 _ (pY (zbe h))
inductive AV where
 | none
 | bool (b:Bool)
 | int (i:Int)
 | str (n:Nat)
 | tup (xs:List AV)
 | lst (xs:List AV)
 | ref (a:Addr)
 | rng (lo hi:Int)
 | exc (c:Addr)
inductive AO where
 | list (xs:List AV)
 | frz (xs:List AV)
 | tdict (kvs:List (List (Bool×Int)×AV))
 | inst (c:Addr) (d:Addr)
 | idict (fs:List (Nat×AV))
noncomputable abbrev zd:=Bool×Int
noncomputable def zD(m:zd):AV:=.tup [.str m.1.toNat,.int m.2]
noncomputable def mkH(w:World)(m:zd):Int:=reduceHash (Builtin.Tuple.tupleHashOf [hashStr w (zx m.1.toNat),hashInt m.2])
noncomputable abbrev zA(ms:List zd):AV:=.tup (ms.map zD)
noncomputable def zto(w:World)(ms:List zd):Int:=reduceHash (Builtin.Tuple.tupleHashOf (ms.map (mkH w)))
noncomputable abbrev AHeap:=Addr->Option AO
noncomputable def AHeap.set(U:AHeap)(a:Addr)(o:AO):AHeap:=λb=>if b=a then some o else U b
noncomputable def zO(vs:List Value)(n:Nat):Obj:={ cls:=.type "list",data:=.seq vs.toArray n }
noncomputable def zej(lo hi:Int)(t u v:Tok):Obj:={ cls:=.type "range",data:=.fields #[.int lo t,.int hi u,.int 1 v] }
noncomputable def exO(c:Addr)(vs:Array Value):Obj:={ cls:=.ref c,dict:=none,data:=.fields vs,slots:=#[] }
mutual
inductive RepV(U:AHeap)(h:Heap):AV->Value->Prop
 | none:RepV U h .none .none
 | bool (b:Bool):RepV U h (.bool b) (.bool b)
 | int (i:Int) (t:Tok):RepV U h (.int i) (.int i t)
 | str {n:Nat} (hn:n<kW) (t:Tok):RepV U h (.str n) (.str (zx n) t)
 | tup {xs:List AV} {a:Addr} {vs:List Value}:xs.length<=1000000->IsTup h a vs.toArray->RepVs U h xs vs->RepV U h (.tup xs) (.ref a)
 | lst {xs:List AV} {a:Addr}:U a=some (.frz xs)->RepV U h (.lst xs) (.ref a)
 | ref (a:Addr):RepV U h (.ref a) (.ref a)
 | rng {lo hi:Int} {a:Addr} {t u v:Tok}:h.get? a=some (zej lo hi t u v)->RepV U h (.rng lo hi) (.ref a)
 | exc {a c:Addr} {vs:Array Value}:h.get? a=some (exO c vs)->RepV U h (.exc c) (.ref a)
inductive RepVs(U:AHeap)(h:Heap):List AV->List Value->Prop
 | nil:RepVs U h [] []
 | cons {x:AV} {xs:List AV} {v:Value} {vs:List Value}:RepV U h x v->RepVs U h xs vs->RepVs U h (x::xs) (v::vs)
end
def RepV.wC{U:AHeap}{h:Heap}{i:Int}{v:Value}(r:RepV U h (.int i) v):∃t,v = .int i t:=by cases r;exact⟨_,rfl⟩
def RepV.wM{U:AHeap}{h:Heap}{b:Bool}{v:Value}(r:RepV U h (.bool b) v):v = .bool b:=by cases r;rfl
def RepV.wL{U:AHeap}{h:Heap}{v:Value}(r:RepV U h .none v):v = .none:=by cases r;rfl
def RepV.wN{U:AHeap}{h:Heap}{a:Addr}{v:Value}(r:RepV U h (.ref a) v):v = .ref a:=by cases r;rfl
def RepV.wK{U:AHeap}{h:Heap}{n:Nat}{v:Value}(r:RepV U h (.str n) v):∃t,v = .str (zx n) t/\n<kW:=by cases r with|str hn t=>exact zc t rfl hn
def RepV.wI{U:AHeap}{h:Heap}{xs:List AV}{v:Value}(r:RepV U h (.tup xs) v):∃a vs,v = .ref a/\xs.length<=1000000/\IsTup h a (List.toArray vs)/\RepVs U h xs vs:=by cases r with|tup hl ht rs=>exact zo _ _ rfl hl ht rs
def RepV.wQ{U:AHeap}{h:Heap}{xs:List AV}{v:Value}(r:RepV U h (.lst xs) v):∃a,v = .ref a/\U a=some (.frz xs):=by cases r with|lst e=>exact zc _ rfl e
def RepVs.wG{U:AHeap}{h:Heap}{vs:List Value}(r:RepVs U h [] vs):vs=[]:=by cases r;rfl
def RepVs.wF{U:AHeap}{h:Heap}{x:AV}{xs:List AV}{vs:List Value}(r:RepVs U h (x::xs) vs):∃u us,vs=u::us/\RepV U h x u/\RepVs U h xs us:=by cases r with|cons a r=>exact zL _ _ rfl a r
def qs(o:Obj):Prop:=(o.cls = .type "tuple"/\∃xs n,o.data = .seq xs n)\/(o.cls = .type "range"/\∃vs,o.data = .fields vs)\/∃c vs,o.cls = .ref c/\o.data = .fields vs
def zvy(o o':Obj):Prop:=o'=o\/∃c vs vs',o=exO c vs/\o'=exO c vs'
structure KeepV(U:AHeap)(h:Heap)(U':AHeap)(h':Heap):Prop where
 obj:∀b o,h.get? b=some o->qs o->∃o',h'.get? b=some o'/\zvy o o'
 frz:∀b xs,U b=some (.frz xs)->U' b=some (.frz xs)
def KeepV.mk'{U:AHeap}{h h':Heap}(k:∀b o,h.get? b=some o->qs o->h'.get? b=some o):KeepV U h U h':=⟨λb o e st=>(zc o (k b o e st) (.inl rfl)),λ_ _ e=>e⟩
def KeepV.ext{U:AHeap}{h h':Heap}(k:∀b o,h.get? b=some o->h'.get? b=some o):KeepV U h U h':=.mk' λb o e _=>k b o e
def KeepV.push{U:AHeap}{h:Heap}(o:Obj):KeepV U h U (h.push o):=.ext λ_ _ e=>Heap.get?_push_of_some _ e
def KeepV.tup{U U':AHeap}{h h':Heap}(k:KeepV U h U' h'){a:Addr}{vs:Array Value}(ht:IsTup h a vs):IsTup h' a vs:=by
 refine jz ht λo ho hc n hd=>?_;obtain⟨o',ho',e|⟨c,_,_,e,_⟩⟩:=k.obj _ _ ho (.inl (zrl hc _ n hd))
 .subst e;exact qe _ ho' hc n hd
 .subst e;cases hc
def KeepV.rng{U U':AHeap}{h h':Heap}(k:KeepV U h U' h'){a:Addr}{lo hi:Int}{t u v:Tok}(ht:h.get? a=some (zej lo hi t u v)):h'.get? a=some (zej lo hi t u v):=by
 obtain⟨o',ho',e|⟨c,_,_,e,_⟩⟩:=k.obj _ _ ht (.inr (.inl (zs0 rfl _ rfl)))
 .subst e;exact ho'
 .cases e
def RepV.mono{U U':AHeap}{h h':Heap}(k:KeepV U h U' h'){x:AV}{v:Value}(r:RepV U h x v):RepV U' h' x v:=by
 refine RepV.rec (motive_1:=λx v _=>RepV U' h' x v) (motive_2:=λxs vs _=>RepVs U' h' xs vs) .none .bool .int (λhn t=>.str hn t) ?_ ?_ .ref ?_ ?_ .nil ?_ r
 .intro xs a vs hl ht _ r;exact .tup hl (k.tup ht) r
 .intro xs a e;exact .lst (k.frz _ _ e)
 .intro lo hi a t u v ho;exact .rng (k.rng ho)
 .intro a c vs ho;obtain⟨o',ho',e|⟨c',_,vs',e,e'⟩⟩:=k.obj _ _ ho (.inr (.inr (zaP _ _ rfl rfl)))
  .subst e;exact .exc ho'
  .cases e;subst e';exact .exc ho'
 .intro x xs v vs _ _ a r;exact .cons a r
def RepVs.mono{U U':AHeap}{h h':Heap}(k:KeepV U h U' h'){xs:List AV}{vs:List Value}(r:RepVs U h xs vs):RepVs U' h' xs vs:=by
 induction xs generalizing vs with
 | nil=>obtain rfl:=RepVs.wG r;exact .nil
 | cons x xs ih=>cases r with|cons a r=>exact .cons (a.mono k) (ih r)
def RepVs.length{U:AHeap}{h:Heap}{xs:List AV}{vs:List Value}(r:RepVs U h xs vs):xs.length=vs.length:=by
 induction xs generalizing vs with
 | nil=>obtain rfl:=RepVs.wG r;rfl
 | cons x xs ih=>cases r with|cons a r=>rw[fP,fP,ih r]
def RepVs.append{U:AHeap}{h:Heap}{xs:List AV}{vs:List Value}{ys:List AV}{us:List Value}(q:RepVs U h xs vs)(r:RepVs U h ys us):RepVs U h (xs++ys) (vs++us):=by
 induction xs generalizing vs with
 | nil=>obtain rfl:=RepVs.wG q;exact r
 | cons x xs ih=>cases q with|cons a q=>exact .cons a (ih q)
def RepVs.get{U:AHeap}{h:Heap}{xs:List AV}{vs:List Value}(r:RepVs U h xs vs):∀{i:Nat} {x:AV},xs[i]? = some x->∃v,vs[i]? = some v/\RepV U h x v:=by
 induction xs generalizing vs with
 | nil=>intro i x e;cases e
 | cons y xs ih=>
  obtain⟨_,_,rfl,a,r⟩:=RepVs.wF r;intro i x e;cases i with
  | zero=>cases e;exact zc _ rfl a
  | succ i=>rw[fAL] at e;exact ih r e
def RepVs.take{U:AHeap}{h:Heap}{xs:List AV}{vs:List Value}(r:RepVs U h xs vs):∀n,RepVs U h (xs.take n) (vs.take n):=by
 induction xs generalizing vs with
 | nil=>intro n;obtain rfl:=RepVs.wG r;rw[List.take_nil,List.take_nil];exact .nil
 | cons y xs ih=>
  obtain⟨_,_,rfl,a,r⟩:=RepVs.wF r;intro n;cases n with
  | zero=>exact .nil
  | succ n=>exact .cons a (ih r n)
def RepVs.drop{U:AHeap}{h:Heap}{xs:List AV}{vs:List Value}(r:RepVs U h xs vs):∀n,RepVs U h (xs.drop n) (vs.drop n):=by
 induction xs generalizing vs with
 | nil=>intro n;obtain rfl:=RepVs.wG r;rw[List.drop_nil,List.drop_nil];exact .nil
 | cons y xs ih=>
  obtain⟨_,_,rfl,a,r⟩:=RepVs.wF r;intro n;cases n with
  | zero=>exact .cons a r
  | succ n=>exact ih r n
structure Cx where
 prog:Hh
 w:World
 h₀:Heap
 os:OsState
 mg:Str->Option Value
 mb:Str->Option Value
 fr:List Addr
 top:Option Env
noncomputable def Cx.push(X:Cx)(L:Env):Cx:=⟨X.prog,X.w,X.h₀,X.os,X.mg,X.mb,L.locals::X.fr,some L⟩
noncomputable abbrev Cx.M(X:Cx):Model:=model X.prog X.w
structure Cx.Ok(X:Cx):Prop where
 g:X.h₀.Ns Hk X.mg
 b:X.h₀.Ns builtinsNs X.mb
 nolimit:X.h₀.NoLimit
inductive RepT(w:World)(U:AHeap)(h:Heap):List (List zd×AV)->List DictEntry->Prop
 | nil:RepT w U h [] []
 | cons {k:List zd} {x:AV} {r:List (List zd×AV)} {e:DictEntry} {es:List DictEntry}:RepV U h (zA k) e.key->RepV U h x e.val->e.hash=zto w k->RepT w U h r es->RepT w U h ((k,x)::r) (e::es)
def RepT.mono{w:World}{U U':AHeap}{h h':Heap}(k:KeepV U h U' h'){kvs:List (List zd×AV)}{es:List DictEntry}(r:RepT w U h kvs es):RepT w U' h' kvs es:=by
 induction r with
 | nil=>exact .nil
 | cons a b c _ ih=>exact .cons (a.mono k) (b.mono k) c ih
inductive SX(U:AHeap)(h:Heap):List (Str×Value)->List (Nat×AV)->Prop
 | nil:SX U h [] []
 | cons {k:Nat} {x:AV} {v:Value} {kvs:List (Str×Value)} {fs:List (Nat×AV)}:k<kW->RepV U h x v->SX U h kvs fs->SX U h ((zx k,v)::kvs) ((k,x)::fs)
def SX.mono{U U':AHeap}{h h':Heap}(k:KeepV U h U' h'){kvs:List (Str×Value)}{fs:List (Nat×AV)}(r:SX U h kvs fs):SX U' h' kvs fs:=by
 induction r with
 | nil=>exact .nil
 | cons hk a _ ih=>exact .cons hk (a.mono k) ih
noncomputable def RepA(X:Cx)(U:AHeap)(h:Heap)(a:Addr):AO->Prop
 | .list xs=>∃vs n,h.get? a=some (zO vs n)/\RepVs U h xs vs/\xs.length<=1000000
 | .frz xs=>∃vs,h.IsList a vs.toArray/\RepVs U h xs vs/\xs.length<=1000000
 | .tdict kvs=>∃es n,h.get? a=some { cls:=.type "dict",data:=.dict es n }/\RepT X.w U h kvs es.toList/\(kvs.map (·.1)).Nodup/\kvs.length<=1000000/\(a==sysModules)=false
 | .inst c d=>h.get? a=some { cls:=.ref c,dict:=some d,data:=.plain }
 | .idict fs=>∃kvs,h.DictOf (strKind X.prog X.w) a kvs/\SX U h kvs fs/\fs.length<=100/\(a==sysModules)=false
def RepA.mono{X:Cx}{U U':AHeap}{h h':Heap}{a:Addr}{o:AO}(k:KeepV U h U' h')(e:∀o,h.get? a=some o->h'.get? a=some o)(r:RepA X U h a o):RepA X U' h' a o:=by
 cases o with
 | list xs=>refine zn r λvs n h1 h2 hl=>?_;exact⟨vs,n,e _ h1,h2.mono k,hl⟩
 | frz xs=>refine zl r λvs h8_1 h2 hl=>?_;refine zb h8_1 λo h1 h3=>?_;exact⟨vs,(zc o (e _ h1) h3),h2.mono k,hl⟩
 | tdict kvs=>refine zn r λes n h1 h2 h3=>?_;exact⟨es,n,e _ h1,h2.mono k,h3⟩
 | inst c d=>exact e _ r
 | idict fs=>refine zl r λkvs h10_1 h2 h3=>?_;refine jA h10_1 λo es ep h1 h4=>?_;exact zv kvs (zah o es ep (e _ h1) h4) (h2.mono k) h3
def RepA.some{X:Cx}{U:AHeap}{h:Heap}{a:Addr}{o:AO}(r:RepA X U h a o):∃ob,h.get? a=some ob/\¬qs ob:=by
 have no:∀{ob:Obj} {t:String},ob.cls = .type t->t≠"tuple"->t≠"range"->¬qs ob:=by
  rintro ob t hc h1 h2 (⟨h,_⟩|⟨h,_⟩|⟨c,vs,h,_⟩)
  .rw[hc] at h;cases h;exact h1 rfl
  .rw[hc] at h;cases h;exact h2 rfl
  .rw[hc] at h;cases h
 cases o with
 | list xs=>refine z0 r λvs n h1 _=>?_;exact⟨_,h1,no (t:="list") rfl (by decide) (by decide)⟩
 | frz xs=>refine zb r λvs h12_1 _=>?_;refine zl h12_1 λo h1 hc _=>?_;exact⟨_,h1,no hc (by decide) (by decide)⟩
 | tdict kvs=>refine z0 r λes n h1 _=>?_;exact⟨_,h1,no (t:="dict") rfl (by decide) (by decide)⟩
 | inst c d=>
  refine zc _ r ?_;rintro(⟨h,_⟩|⟨h,_⟩|⟨c,vs,_,h⟩)
  .cases h
  .cases h
  .cases h
 | idict fs=>refine zb r λkvs h14_1 _=>?_;refine jk h14_1 λo es ep h1 hx _=>?_;exact zc _ h1 (no (t:="dict") hx.1 (by decide) (by decide))
noncomputable def AO.ro:AO->Bool
 | .frz _=>true
 | _=>false
def IsD(h:Heap)(b:Addr):Prop:=∃o es n,h.get? b=some o/\o.data = .dict es n
structure At(X:Cx)(U:AHeap)(s:Shared):Prop where
 keep:∀b o,X.h₀.get? b=some o->s.heap.get? b=some o
 rep:∀a o,U a=some o->RepA X U s.heap a o
 own:∀a o,U a=some o->o.ro=false->X.h₀.get? a=none
 gens:s.gens = #[]
 os:s.os=X.os
 ff:∀L∈X.fr,U L=none/\IsD s.heap L
def At.lt{X:Cx}{U:AHeap}{s:Shared}(a:At X U s){b:Addr}{o:AO}(e:U b=some o):b<s.heap.objs.size:=
 let ⟨_,h,_⟩:=(a.rep b o e).some;Heap.lt_size h
def At.none_of_size{X:Cx}{U:AHeap}{s:Shared}(a:At X U s){b:Addr}(e:s.heap.objs.size<=b):U b=none:=by
 cases h:U b with
 | none=>rfl
 | some o=>exact absurd (a.lt h) (pL.mpr e)
def At.stays{X:Cx}{U:AHeap}{s:Shared}(a:At X U s){b:Addr}{o:Obj}(e:s.heap.get? b=some o)(h:qs o):U b=none:=by
 cases hs:U b with
 | none=>rfl
 | some ao=>
  refine zb ((a.rep b ao hs).some) λob h1 h2=>?_;rw[e] at h1;obtain rfl:=Hw h1;exact absurd h h2
structure Step(B:Addr->Prop)(U:AHeap)(s:Shared)(U':AHeap)(s':Shared):Prop where
 keep:∀b o,s.heap.get? b=some o->U b=none->¬B b->(∀es n,o.data≠.dict es n)->s'.heap.get? b=some o
 keepD:∀b o,s.heap.get? b=some o->U b=none->¬B b->∃sl,s'.heap.get? b=some { o with slots:=sl }
 fresh:∀b,U' b≠none->U b=none->s.heap.objs.size<=b
 size:s.heap.objs.size<=s'.heap.objs.size
 frz:∀b xs,U b=some (.frz xs)->U' b=some (.frz xs)
def Step.mk'{B:Addr->Prop}{U U':AHeap}{s s':Shared}(keep:∀b o,s.heap.get? b=some o->U b=none->¬B b->s'.heap.get? b=some o)(fresh:∀b,U' b≠none->U b=none->s.heap.objs.size<=b)(size:s.heap.objs.size<=s'.heap.objs.size)
  (frz:∀b xs,U b=some (.frz xs)->U' b=some (.frz xs)):Step B U s U' s':=⟨λb o e h1 h2 _=>keep b o e h1 h2,λb o e h1 h2=>⟨o.slots,keep b o e h1 h2⟩,fresh,size,frz⟩
def Step.same{B:Addr->Prop}{U:AHeap}{s s':Shared}(keep:∀b o,s.heap.get? b=some o->¬B b->s'.heap.get? b=some o)(size:s.heap.objs.size<=s'.heap.objs.size):Step B U s U s':=.mk' (λb o e _ h=>keep b o e h) (λ_ h1 h2=>absurd h2 h1) size λ_ _ e=>e
def E0:Addr->Prop:=λ_=>False
def Step.refl(B:Addr->Prop)(U:AHeap)(s:Shared):Step B U s U s:=.same (λ_ _ e _=>e) (fN _)
def Step.gone{B:Addr->Prop}{U U':AHeap}{s s':Shared}(x:Step B U s U' s'){b:Addr}{o:Obj}(e:s.heap.get? b=some o)(h:U b=none):U' b=none:=by
 cases h':U' b with
 | none=>rfl
 | some _=>exact absurd (x.fresh b (by rw[h'];simp) h) (fC4.mpr (Heap.lt_size e))
def Step.trans{B:Addr->Prop}{U U' U'':AHeap}{s s' s'':Shared}(x:Step B U s U' s')(y:Step B U' s' U'' s''):Step B U s U'' s'' where
 keep:=λb o e h1 h2 h3=>y.keep b o (x.keep b o e h1 h2 h3) (x.gone e h1) h2 h3
 keepD:=λb o e h1 h2=>by
  obtain⟨sl,e'⟩:=x.keepD b o e h1 h2;obtain⟨sl',e''⟩:=y.keepD b _ e' (x.gone e h1) h2;exact⟨sl',e''⟩
 fresh:=λb h1 h2=>by
  cases h:U' b with
  | none=>exact fF x.size (y.fresh b h1 h)
  | some _=>exact x.fresh b (by rw[h];simp) h2
 size:=fF x.size y.size
 frz:=λb xs e=>y.frz b xs (x.frz b xs e)
def Step.weaken{B B':Addr->Prop}{U U':AHeap}{s s':Shared}(x:Step B U s U' s')(h:∀b,B b->B' b):Step B' U s U' s':=
 ⟨λb o e h1 h2 h3=>x.keep b o e h1 (λq=>h2 (h b q)) h3,λb o e h1 h2=>x.keepD b o e h1 λq=>h2 (h b q),x.fresh,x.size,x.frz⟩
def Step.drop{B B':Addr->Prop}{U U':AHeap}{s s':Shared}(x:Step B' U s U' s')(h:∀b,B' b->B b\/s.heap.objs.size<=b):Step B U s U' s':=by
 have no:∀b o,s.heap.get? b=some o->¬B b->¬B' b:=λb o e h2 q=>(h b q).elim h2 λq'=>absurd (Heap.lt_size e) (pL.mpr q');exact⟨λb o e h1 h2 h3=>x.keep b o e h1 (no b o e h2) h3,λb o e h1 h2=>x.keepD b o e h1 (no b o e h2),x.fresh,x.size,x.frz⟩
def zoA{o:Obj}(h:qs o)(es:Array DictEntry)(n:Nat):o.data≠.dict es n:=λe=>by
 rcases h with⟨_,_,_,h⟩|⟨_,_,h⟩|⟨_,_,_,h⟩<;>(rw[e] at h;cases h)
def NoStay(B:Addr->Prop)(h:Heap):Prop:=∀b o,B b->h.get? b=some o->¬qs o
def NoStay.e0{h:Heap}:NoStay E0 h:=λ_ _ h=>h.elim
def Step.keepV{X:Cx}{B:Addr->Prop}{U U':AHeap}{s s':Shared}(x:Step B U s U' s')(a:At X U s)(n:NoStay B s.heap):KeepV U s.heap U' s'.heap:=
 ⟨λb o e h=>(zc o (x.keep b o e (a.stays e h) (λq=>n b o q e h) (zoA h)) (.inl rfl)),x.frz⟩
def Step.keepV0{X:Cx}{U U':AHeap}{s s':Shared}(x:Step E0 U s U' s')(a:At X U s):KeepV U s.heap U' s'.heap:=x.keepV a .e0
def AHeap.wA(U:AHeap)(a:Addr)(o:AO):U.set a o a=some o:=by simp[AHeap.set]
def AHeap.wB(U:AHeap){a b:Addr}(o:AO)(h:b≠a):U.set a o b=U b:=by simp[AHeap.set,h]
section
variable{X:Cx}{U U':AHeap}{s s':Shared}
def IsD.kept{h h':Heap}{b:Addr}(x:IsD h b)(k:∀o,h.get? b=some o->h'.get? b=some o):IsD h' b:=by
 refine jA x λo es n e d=>?_;exact zah o es n (k o e) d
def At.ffk(a:At X U s){h':Heap}(k:∀b o,s.heap.get? b=some o->h'.get? b=some o):∀L∈X.fr,U L=none/\IsD h' L:=λL hL=>⟨(a.ff L hL).1,(a.ff L hL).2.kept λo e=>k L o e⟩
def At.toks(a:At X U s)(t:Nat):At X U { s with toks:=t }:=⟨a.keep,a.rep,a.own,a.gens,a.os,a.ff⟩
def Step.toks{B:Addr->Prop}(U:AHeap)(s:Shared)(t:Nat):Step B U s U { s with toks:=t }:=.same (λ_ _ e _=>e) (fN _)
def At.push(a:At X U s)(o:Obj)(t:Nat):At X U { s with heap:=s.heap.push o,toks:=t } where
 keep:=λb ob e=>Heap.get?_push_of_some _ (a.keep b ob e)
 rep:=λb ao e=>(a.rep b ao e).mono (.push o) (λ_ h=>Heap.get?_push_of_some _ h)
 own:=a.own
 gens:=a.gens
 os:=a.os
 ff:=a.ffk λ_ _ e=>Heap.get?_push_of_some _ e
def Step.push{B:Addr->Prop}(U:AHeap)(s:Shared)(o:Obj)(t:Nat):Step B U s U { s with heap:=s.heap.push o,toks:=t }:=
 .same (λ_ _ e _=>Heap.get?_push_of_some _ e) (by simp)
def zdo{b:Addr}{ao:AO}(h:∀xs,U b≠some (.frz xs))(c:Addr)(xs:List AV)(e:U c=some (.frz xs)):U.set b ao c=some (.frz xs):=by
 rw[AHeap.wB _ _ (by rintro rfl;exact h _ e)];exact e
def KeepV.set{h h':Heap}(k:KeepV U h U h'){b:Addr}{ao:AO}(hb:∀xs,U b≠some (.frz xs)):KeepV U h (U.set b ao) h':=⟨k.obj,zdo hb⟩
def zgj{b:Addr}(h:U b=none)(xs:List AV):U b≠some (.frz xs):=by rw[h];exact nofun
def zks{b:Addr}{o:AO}(h:U b=some o)(ho:o.ro=false)(xs:List AV):U b≠some (.frz xs):=by
 rw[h];intro e;obtain rfl:=Hw e;cases ho
def At.alloc(a:At X U s){o:Obj}{ao:AO}(t:Nat)(hr:KeepV U s.heap (U.set s.heap.objs.size ao) (s.heap.push o)->RepA X (U.set s.heap.objs.size ao) (s.heap.push o) s.heap.objs.size ao):At X (U.set s.heap.objs.size ao) { s with heap:=s.heap.push o,toks:=t }:=by
 have kv:KeepV U s.heap (U.set s.heap.objs.size ao) (s.heap.push o):=(KeepV.push o).set (zgj (a.none_of_size (fN _)));refine⟨λb ob e=>Heap.get?_push_of_some _ (a.keep b ob e),λb bo e=>?_,λb bo e hro=>?_,a.gens,a.os,λL hL=>?_⟩
 .by_cases hb:b=s.heap.objs.size
  .subst hb;rw[AHeap.wA] at e;obtain rfl:=Hw e;exact hr kv
  .rw[AHeap.wB _ _ hb] at e;exact(a.rep b bo e).mono kv (λ_ h=>Heap.get?_push_of_some _ h)
 .by_cases hb:b=s.heap.objs.size
  .subst hb;cases h:X.h₀.get? s.heap.objs.size with
   | none=>rfl
   | some ob=>exact absurd (Heap.lt_size (a.keep _ _ h)) (fAX _)
  .rw[AHeap.wB _ _ hb] at e;exact a.own b bo e hro
 .refine zdC (a.ff L hL) λh1 o' es n h2 h3=>?_;exact zno (by rw[AHeap.wB _ _ (fAH (Heap.lt_size h2))];exact h1) o' es n (Heap.get?_push_of_some _ h2) h3
def Step.alloc{B:Addr->Prop}(a:At X U s)(o:Obj)(ao:AO)(t:Nat):Step B U s (U.set s.heap.objs.size ao) { s with heap:=s.heap.push o,toks:=t }:=
 .mk' (λ_ _ e _ _=>Heap.get?_push_of_some _ e) (λb h1 h2=>by
  by_cases hb:b=s.heap.objs.size
  .rw[hb];exact fN _
  .rw[AHeap.wB _ _ hb] at h1;exact absurd h2 h1) (by simp) (zdo (zgj (a.none_of_size (fN _))))
def At.store(a:At X U s){b:Addr}{old ao:AO}{h':Heap}(t:Nat)(e:U b=some old)(hro:old.ro=false)(hs:Heap.SameBut b s.heap h')(hr:KeepV U s.heap (U.set b ao) h'->RepA X (U.set b ao) h' b ao) :
  At X (U.set b ao) { s with heap:=h',toks:=t }:=by
 have kv:KeepV U s.heap (U.set b ao) h':=(KeepV.mk' λc o ho st=>by
  have hc:c≠b:=by rintro rfl;rw[a.stays ho st] at e;exact absurd (Eq.symm e) (fH _)
  rw[hs.2 c hc];exact ho).set (zks e hro)
 refine⟨λc o ho=>?_,λc co ec=>?_,λc co ec hr'=>?_,a.gens,a.os,λL hL=>?_⟩
 .have hc:c≠b:=by rintro rfl;rw[a.own _ _ e hro] at ho;exact absurd (Eq.symm ho) (fH _)
  exact(hs.2 c hc).trans (a.keep c o ho)
 .by_cases hc:c=b
  .subst hc;rw[AHeap.wA] at ec;obtain rfl:=Hw ec;exact hr kv
  .rw[AHeap.wB _ _ hc] at ec;exact(a.rep c co ec).mono kv λo ho=>(hs.2 c hc).trans ho
 .by_cases hc:c=b
  .subst hc;exact a.own _ _ e hro
  .rw[AHeap.wB _ _ hc] at ec;exact a.own c co ec hr'
 .obtain⟨h1,h2⟩:=a.ff L hL;have hc:L≠b:=by rintro rfl;rw[e] at h1;exact absurd h1 (fH _)
  exact⟨by rw[AHeap.wB _ _ hc];exact h1,h2.kept λo ho=>(hs.2 L hc).trans ho⟩
def Step.store{B:Addr->Prop}{b:Addr}{old ao:AO}{h':Heap}(t:Nat)(e:U b=some old)(hro:old.ro=false)(hs:Heap.SameBut b s.heap h'):Step B U s (U.set b ao) { s with heap:=h',toks:=t }:=
 .mk' (λc o ho hc _=>(hs.2 c (by rintro rfl;rw[e] at hc;cases hc)).trans ho) (λc h1 h2=>by
  by_cases hc:c=b
  .subst hc;rw[e] at h2;exact absurd h2 (fH _)
  .rw[AHeap.wB _ _ hc] at h1;exact absurd h2 h1) (pA hs.1.symm) (zdo (zks e hro))
def At.aside(a:At X U s){b:Addr}{h':Heap}(t:Nat)(e:U b=none)(hb:X.h₀.get? b=none)(hn:∀o,s.heap.get? b=some o->¬qs o)(hd:b∈X.fr->IsD h' b)(hs:Heap.SameBut b s.heap h') :
  At X U { s with heap:=h',toks:=t }:=by
 have kv:KeepV U s.heap U h':=.mk' λc o ho st=>by
  have hc:c≠b:=by rintro rfl;exact hn _ ho st
  rw[hs.2 c hc];exact ho
 refine⟨λc o ho=>?_,λc co ec=>?_,a.own,a.gens,a.os,λL hL=>⟨(a.ff L hL).1,?_⟩⟩
 .have hc:c≠b:=by rintro rfl;rw[hb] at ho;exact absurd (Eq.symm ho) (fH _)
  exact(hs.2 c hc).trans (a.keep c o ho)
 .have hc:c≠b:=by rintro rfl;rw[e] at ec;exact absurd (Eq.symm ec) (fH _)
  exact(a.rep c co ec).mono kv λo ho=>(hs.2 c hc).trans ho
 .by_cases hc:L=b
  .subst hc;exact hd hL
  .exact(a.ff L hL).2.kept λo ho=>(hs.2 L hc).trans ho
def Step.aside{B:Addr->Prop}{b:Addr}{h':Heap}(t:Nat)(hB:B b)(hs:Heap.SameBut b s.heap h'):Step B U s U { s with heap:=h',toks:=t }:=
 .same (λc o ho hc=>(hs.2 c (by rintro rfl;exact hc hB)).trans ho) (pA hs.1.symm)
end
abbrev Loc:=List (Option AV)
noncomputable def RepO(U:AHeap)(h:Heap):Option AV->Option Value->Prop
 | none,_=>True
 | some a,some v=>RepV U h a v
 | some _,none=>False
def RepO.mono{U U':AHeap}{h h':Heap}(k:KeepV U h U' h'){a:Option AV}{v:Option Value}(r:RepO U h a v):RepO U' h' a v:=by
 cases a with
 | none=>trivial
 | some _=>cases v with
  | none=>exact r.elim
  | some _=>exact RepV.mono k r
structure EnvOk(env:Env):Prop where
 kind:env.scope.kind = .function
 glob:env.globals=Hk
 bi:env.builtins=builtinsNs
 apart:env.cells.Pairwise λx y=>x.2≠y.2
def zvz(nm:List (Str×Nat))(n:Nat):Prop:=(∀x i,nm.lookup x=some i->i<n)/\∀x y i,nm.lookup x=some i->nm.lookup y=some i->x=y
noncomputable def kg(nm:List (Str×Nat)):Nat:=nm.foldl (λn p=>max n (p.2+1)) 0
structure FR(X:Cx)(env:Env)(nm:List (Str×Nat))(l:Loc)(U:AHeap)(h:Heap):Prop where
 ns:∃m,h.Ns env.locals m/\∀x i,nm.lookup x=some i->env.kindOf x=some .local->RepO U h (l.getD i none) (m x)
 cell:∀x i,nm.lookup x=some i->env.kindOf x=some .cell->∃c v,env.cells.lookup x=some c/\h.IsCell c v/\RepO U h (l.getD i none) v
 out:U env.locals=none/\X.h₀.get? env.locals=none
 nmok:zvz nm l.length
 len:l.length=kg nm
 outc:∀x c,(x,c)∈env.cells->U c=none/\X.h₀.get? c=none/\∃v,h.IsCell c v
def FB(env:Env):Addr->Prop:=λb=>b=env.locals\/∃x,(x,b)∈env.cells
section
variable{X:Cx}{env:Env}{nm:List (Str×Nat)}{l:Loc}{U U':AHeap}{s s':Shared}
def zaY{o:Obj}{es n}(hd:o.data = .dict es n):¬qs o:=by
 rintro(⟨_,_,_,h⟩|⟨_,_,h⟩|⟨_,_,_,h⟩)<;>(rw[hd] at h;cases h)
def zhN{o:Obj}{v}(hd:o.data = .cell v):¬qs o:=by
 rintro(⟨_,_,_,h⟩|⟨_,_,h⟩|⟨_,_,_,h⟩)<;>(rw[hd] at h;cases h)
def kM{h:Heap}{a:Addr}{m}(n:h.Ns a m):∀o,h.get? a=some o->¬qs o:=by
 intro o e;refine jk n λo' es ep ho hd _=>?_;rw[e] at ho;obtain rfl:=Hw ho;exact zaY hd
def kE{h:Heap}{a:Addr}{v}(n:h.IsCell a v):∀o,h.get? a=some o->¬qs o:=by
 intro o e;refine zb n λo' ho hd=>?_;rw[e] at ho;obtain rfl:=Hw ho;exact zhN hd
def znv{h:Heap}{a:Addr}{m}(n:h.Ns a m):IsD h a:=by refine jk n λo es ep ho hd _=>?_;exact zah o es ep ho hd
def znu{h:Heap}{a:Addr}{v}(n:h.IsCell a v):¬IsD h a:=by
 intro hR1;refine jA hR1 λo es ep ho hd=>?_;refine zb n λo' ho' hd'=>?_;rw[ho] at ho';obtain rfl:=Hw ho';rw[hd] at hd';cases hd'
def zbC{h:Heap}{a b:Addr}{m v}(n:h.Ns a m)(c:h.IsCell b v):a≠b:=by
 rintro rfl;refine jk n λo' es ep ho hd _=>?_;refine zb c λo ho' hd'=>?_;rw[ho] at ho';obtain rfl:=Hw ho';rw[hd] at hd';cases hd'
def FR.noStay(F:FR X env nm l U s.heap):NoStay (FB env) s.heap:=by
 rintro b o (rfl|⟨x,hx⟩) e
 .refine zb F.ns λm hn _=>?_;exact kM hn o e
 .refine kC (F.outc x b hx) λ_ _ v hc=>?_;exact kE hc o e
def FR.stepB{B:Addr->Prop}(F:FR X env nm l U s.heap)(a:At X U s)(st:Step B U s U' s')(hB:∀b,FB env b->¬B b)(hn:NoStay B s.heap):FR X env nm l U' s'.heap:=by
 have kv:=st.keepV a hn;refine zb F.ns λm h29_1 hm=>?_;refine jk h29_1 λo es ep ho hd r=>?_;obtain⟨sl,ho'⟩:=st.keepD _ _ ho F.out.1 (hB _ (.inl rfl));have cellK:∀x c o v,(x,c)∈env.cells->s.heap.get? c=some o->o.data = .cell v->U c=none->s'.heap.get? c=some o:=λx c o v hx e hd h=>st.keep c o e h (hB c (.inr ⟨x,hx⟩)) λes n q=>by rw[hd] at q;cases q
 refine⟨(zc m (q8 _ es ep ho' hd r) (λx i hx hk=>(hm x i hx hk).mono kv)),λx i hx hk=>?_,⟨st.gone ho F.out.1,F.out.2⟩,F.nmok,F.len,λx c hx=>?_⟩
 .refine zn (F.cell x i hx hk) λc v hc h31_3 hr=>?_;refine zb h31_3 λo ho hd=>?_;exact zL c v hc (zc o (cellK x c o v (mem_of_lookup hc) ho hd (F.outc x c (mem_of_lookup hc)).1) hd) (hr.mono kv)
 .refine kC (F.outc x c hx) λh1 h2 v h32_3=>?_;refine zb h32_3 λo ho hd=>?_;exact zaf (st.gone ho h1) h2 v (zc o (cellK x c o v hx ho hd h1) hd)
def FR.step(F:FR X env nm l U s.heap)(a:At X U s)(st:Step E0 U s U' s'):FR X env nm l U' s'.heap:=F.stepB a st (λ_ _ h=>h) .e0
def zbY(l:Loc)(i j:Nat)(v:Option AV)(hi:i<l.length):(l.set i v).getD j none=if j=i then v else l.getD j none:=by
 simp only[fS,List.getElem?_set]
 by_cases h:i=j
 .subst h;simp[hi]
 .have:¬j=i:=λe=>h e.symm;simp[h,this]
def zfC{M:Model}{A:Around}{E:Value->Shared->Prop}{x:Str}{i:Nat}{av:AV}{v:Value}{Q:Unit->Shared->Prop}(EO:EnvOk env)(F:FR X env nm l U s.heap)(a:At X U s)
  (hx:nm.lookup x=some i)(hk:env.kindOf x=some .local)(hv:RepV U s.heap av v)
  (h:∀s',FR X env nm (l.set i (some av)) U s'.heap->At X U s'->Step (λb=>b=env.locals) U s U s'->Q () s'):wpAny M A (storeName env x v) Q E s:=by
 have N:=F.nmok;refine zb F.ns λm hn hm=>?_;refine wpAny_storeName_local hk hn (λh' hn' hs'=>?_) (by rw[EO.kind];rfl);have kv:KeepV U s.heap U h':=.mk' λb o e st=>(hs'.2 b (by rintro rfl;exact kM hn o e st)).trans e;refine h _ ⟨(zc _ hn' (λy j hy hky=>?_)),λy j hy hky=>?_,F.out,by simpa using N,by simpa using F.len,λy c hy=>?_⟩ (a.aside _ F.out.1 F.out.2 (kM hn) (λ_=>znv hn') hs') (Step.aside _ rfl hs')
 .rw[zbY _ _ _ _ (N.1 x i hx)]
  by_cases hyx:y=x
  .subst hyx;rw[hx] at hy;obtain rfl:=Hw hy;simp only[if_true];exact hv.mono kv
  .have:j≠i:=λe=>hyx (N.2 y x i (e▸hy) hx);simp only[hyx,this,if_false];exact(hm y j hy hky).mono kv
 .refine zn (F.cell y j hy hky) λc u hc hcc hr=>?_;have hyx:y≠x:=by rintro rfl;rw[hk] at hky;cases hky
  have hji:j≠i:=λe=>hyx (N.2 y x i (e▸hy) hx);rw[zbY _ _ _ _ (N.1 x i hx),if_neg hji];exact zL c u hc (hcc.sameBut hs' (Ne.symm (zbC hn hcc))) (hr.mono kv)
 .refine kC (F.outc y c hy) λh1 h2 u hcc=>?_;exact zaf h1 h2 u (hcc.sameBut hs' (Ne.symm (zbC hn hcc)))
def zeF{M:Model}{A:Around}{E:Value->Shared->Prop}{x:Str}{i:Nat}{av:AV}{v:Value}{Q:Unit->Shared->Prop}(EO:EnvOk env)(F:FR X env nm l U s.heap)(a:At X U s)
  (hx:nm.lookup x=some i)(hk:env.kindOf x=some .local\/env.kindOf x=some .cell)(hv:RepV U s.heap av v)
  (h:∀s',FR X env nm (l.set i (some av)) U s'.heap->At X U s'->Step (FB env) U s U s'->Q () s'):wpAny M A (storeName env x v) Q E s:=by
 have N:=F.nmok
 rcases hk with hk|hk
 .exact zfC EO F a hx hk hv λs' F' a' st=>h s' F' a' (st.weaken λb hb=>.inl hb)
 .refine zb F.ns λm hn hm=>?_;refine zn (F.cell x i hx hk) λc u hc hcc hr=>?_;refine wpAny_storeName_cell EO.kind hk hc hcc λh' hcc' hs'=>?_;have kv:KeepV U s.heap U h':=.mk' λb o e st=>(hs'.2 b (by rintro rfl;exact kE hcc o e st)).trans e;have oc:=F.outc x c (mem_of_lookup hc);refine h { s with heap:=h' } ⟨(zc m (hn.sameBut hs' (zbC hn hcc)) (λy j hy hky=>?_)),λy j hy hky=>?_,F.out,by simpa using N,by simpa using F.len,λy c' hy=>?_⟩ (a.aside (t:=s.toks) (h':=h') oc.1 oc.2.1 (kE hcc) (λhL=>((znu hcc) (a.ff _ hL).2).elim) hs')
   (Step.aside (t:=s.toks) (h':=h') (Or.inr ⟨x,mem_of_lookup hc⟩) hs')
  .have hyx:y≠x:=by rintro rfl;rw[hk] at hky;cases hky
   have hji:j≠i:=λe=>hyx (N.2 y x i (e▸hy) hx);rw[zbY _ _ _ _ (N.1 x i hx),if_neg hji];exact(hm y j hy hky).mono kv
  .rw[zbY _ _ _ _ (N.1 x i hx)]
   by_cases hyx:y=x
   .subst hyx;rw[hx] at hy;obtain rfl:=Hw hy;simp only[if_true];exact zL c (some v) hc hcc' (hv.mono kv)
   .have hji:j≠i:=λe=>hyx (N.2 y x i (e▸hy) hx);simp only[hji,if_false];refine zn (F.cell y j hy hky) λc' u' hc' hcc'' hr'=>?_;refine zL c' u' hc' (hcc''.sameBut hs' ?_) (hr'.mono kv);rintro rfl;exact hyx (name_of_addr EO.apart (mem_of_lookup hc') (mem_of_lookup hc))
  .refine kC (F.outc y c' hy) λh1 h2 u' hcc''=>?_
   by_cases hcc3:c'=c
   .subst hcc3;exact zaf h1 h2 _ hcc'
   .exact zaf h1 h2 u' (hcc''.sameBut hs' hcc3)
def zql{M:Model}{A:Around}{E:Value->Shared->Prop}{x:Str}{i:Nat}{av:AV}{Q:Value->Shared->Prop}(EO:EnvOk env)(F:FR X env nm l U s.heap)
  (hx:nm.lookup x=some i)(hk:env.kindOf x=some .local\/env.kindOf x=some .cell)(hl:l.getD i none=some av)(h:∀v,RepV U s.heap av v->Q v s):wpAny M A (loadName env x) Q E s:=by
 rcases hk with hk|hk
 .refine zb F.ns λm hn hm=>?_;have hr:=hm x i hx hk;rw[hl] at hr;cases hv:m x with
  | none=>rw[hv] at hr;exact hr.elim
  | some v=>rw[hv] at hr;exact wpAny_loadName_local EO.kind hk hn hv (h v hr)
 .refine zn (F.cell x i hx hk) λc u hc hcc hr=>?_;rw[hl] at hr;cases u with
  | none=>exact hr.elim
  | some v=>exact wpAny_loadName_cell EO.kind hk hc hcc (h v hr)
end
def zeO(n:Nat)(P:Prop):Prop:=match Nat.ble n 1000000 with
 | true=>P
 | false=>False
def zJ{n:Nat}{P:Prop}(h:n<=1000000)(q:P):zeO n P:=by unfold zeO;rw[fBR h];exact q
def kz{n:Nat}{P:Prop}(h:zeO n P):n<=1000000/\P:=by
 unfold zeO at h;cases e:Nat.ble n 1000000 with
 | true=>rw[e] at h;exact⟨pD e,h⟩
 | false=>rw[e] at h;exact h.elim
def zu{J:Type}(o:Option J)(F:J->Prop):Prop:=match o with
 | some a=>F a
 | none=>False
def zf{J:Type}{o:Option J}{F:J->Prop}{a:J}(h:o=some a)(q:F a):zu o F:=by rw[h];exact q
def zg{J:Type}{o:Option J}{F:J->Prop}(h:zu o F):∃a,o=some a/\F a:=by
 cases o with
 | none=>exact h.elim
 | some a=>exact zc a rfl h
def onB(b:Bool)(P:Prop):Prop:=match b with
 | true=>P
 | false=>False
def jL{b:Bool}{P:Prop}(h:b=true)(q:P):onB b P:=by rw[h];exact q
def qE{b:Bool}{P:Prop}(h:onB b P):b=true/\P:=by
 cases b with
 | false=>exact h.elim
 | true=>exact⟨rfl,h⟩
noncomputable def AV.int? : AV->Option Int
 | .int i=>some i
 | _=>Option.none
noncomputable def AV.bool? : AV->Option Bool
 | .bool i=>some i
 | _=>Option.none
noncomputable def AV.str? : AV->Option Nat
 | .str i=>some i
 | _=>Option.none
noncomputable def AV.tup? : AV->Option (List AV)
 | .tup i=>some i
 | _=>Option.none
def ji{x:AV}{i:Int}(h:x.int? = some i):x = .int i:=by
 cases x with
 | int j=>cases h;rfl
 | _=>cases h
def zaG{x:AV}{i:Bool}(h:x.bool? = some i):x = .bool i:=by
 cases x with
 | bool j=>cases h;rfl
 | _=>cases h
def zp3{x:AV}{i:Nat}(h:x.str? = some i):x = .str i:=by
 cases x with
 | str j=>cases h;rfl
 | _=>cases h
def zqd{x:AV}{i:List AV}(h:x.tup? = some i):x = .tup i:=by
 cases x with
 | tup j=>cases h;rfl
 | _=>cases h
def cB(c:Bool)(P R:Prop):Prop:=match c with
 | true=>P
 | false=>R
def zaH{c:Bool}{P R:Prop}(h1:c=true->P)(h2:c=false->R):cB c P R:=by
 cases c with
 | true=>exact h1 rfl
 | false=>exact h2 rfl
abbrev zm:=AV->AHeap->Prop
abbrev XP:=Addr->AHeap->Prop
structure Dp where
 n:Nat
 hd:Bool
abbrev AE:=Dp->Loc->zm->XP->AHeap->Prop
structure FrOk(X:Cx)(envs:List Env):Prop where
 is:∀e∈envs,e.scope.kind≠.module/\∃L,e.frame=some L/\L∈X.fr
 out:∀L∈X.fr,X.h₀.get? L=none
structure Live(X:Cx)(d:Dp)(A:Around):Prop where
 depth:A.depth<=301+d.n
 units:A.units<=20+8*d.n
 handled:d.hd=false->A.handled=none
 small:d.n<=600
 frames:∃envs,A.frames=some envs/\FrOk X envs/\∀e,X.top=some e->∃outer,envs=e::outer
def Live.room{X:Cx}{d:Dp}{A:Around}(L:Live X d A):A.units+3000<cLine:=by
 have h1:=L.units;have h2:=L.small;show A.units+3000<9900;exact zDo h1 h2
noncomputable def vis(U:AHeap):AHeap:=λa=>match U a with
 | some (.frz _)=>none
 | o=>o
def zG{U:AHeap}{a:Addr}{o:AO}(h:vis U a=some o):U a=some o/\o.ro=false:=by
 unfold vis at h;split at h
 .exact absurd (Eq.symm h) (fH _)
 .rename_i hne
  refine⟨h,?_⟩;cases o with
  | frz xs=>exact(hne _ h).elim
  | _=>rfl
def zjS{U:AHeap}{a:Addr}{o:AO}(h:U a=some o)(ho:o.ro=false):vis U a=some o:=by
 unfold vis;split
 .rename_i e;rw[e] at h;obtain rfl:=Hw h;cases ho
 .exact h
def qi{U:AHeap}{a:Addr}(h:U a=none):vis U a=none:=by
 unfold vis;rw[h]
def jr{U:AHeap}{a:Addr}{o:AO}(ho:o.ro=false):vis (U.set a o)=(vis U).set a o:=by
 funext b
 by_cases hb:b=a
 .subst hb;rw[AHeap.wA,zjS (AHeap.wA ..) ho]
 .rw[AHeap.wB _ _ hb];unfold vis;rw[AHeap.wB _ _ hb]
def zgF{U:AHeap}{a:Addr}{xs:List AV}(h:U a=none):vis (U.set a (.frz xs))=vis U:=by
 funext b
 by_cases hb:b=a
 .subst hb;unfold vis;rw[AHeap.wA,h]
 .unfold vis;rw[AHeap.wB _ _ hb]
def New(U:AHeap)(s:Shared)(x:Addr):Prop:=∀o,s.heap.get? x=some o->U x≠none
def New.back{B:Addr->Prop}{U U':AHeap}{s s':Shared}{x:Addr}(st:Step B U s U' s')(hB:¬B x)(h:New U' s' x):New U s x:=λo e q=>by
 obtain⟨sl,e'⟩:=st.keepD x o e q hB;exact h _ e' (st.gone e q)
structure Fly(X:Cx)(U:AHeap)(g:Heap)(x c:Addr)(h:Heap):Prop where
 keepS:∀b o,g.get? b=some o->b≠x->∃sl,h.get? b=some { o with slots:=sl }
 keepX:∀b o,g.get? b=some o->b≠x->((∀es n,o.data≠.dict es n)\/U b≠none\/X.h₀.get? b≠none)->h.get? b=some o
 exg:∃vs,g.get? x=some (exO c vs)
 size:g.objs.size<=h.objs.size
 exh:∃vs,h.get? x=some (exO c vs)/\(vs[1]? = some .none\/∃T tc ts,vs[1]? = some (.ref T)/\T≠x/\g.get? T=none/\h.get? T=some { cls:=tc,dict:=none,data:=.fields ts,slots:=#[] }/\ts[3]? = some .none)
def liftQ(X:Cx)(U:AHeap)(s:Shared)(Q:zm):Value->Shared->Prop:=
 λv s'=>∃av U',RepV U' s'.heap av v/\At X U' s'/\Step E0 U s U' s'/\Q av (vis U')
def liftX(X:Cx)(U:AHeap)(s:Shared)(Z:XP):Value->Shared->Prop:=
 λe s'=>∃c U' x g,e = .ref x/\New U s x/\At X U' { s' with heap:=g }/\Step E0 U s U' { s' with heap:=g }/\Fly X U' g x c s'.heap/\Z c (vis U')
def liftB(X:Cx)(U:AHeap)(s:Shared)(Q:Bool->AHeap->Prop):Bool->Shared->Prop:=
 λb s'=>∃U',At X U' s'/\Step E0 U s U' s'/\Q b (vis U')
def zqK(X:Cx)(U:AHeap)(s:Shared)(Q:List AV->AHeap->Prop):List Value->Shared->Prop:=
 λvs s'=>∃avs U',RepVs U' s'.heap avs vs/\At X U' s'/\Step E0 U s U' s'/\Q avs (vis U')
section
variable{X:Cx}{A:Around}{U U':AHeap}{s s':Shared}{Z:XP}
def liftX.back{e:Value}{s'':Shared}(st:Step E0 U s U' s')(h:liftX X U' s' Z e s''):liftX X U s Z e s'':=
 by refine jH h λc U'' x g h1 h2 a st' f z=>?_;exact qK c U'' x g h1 (h2.back st (λh=>h)) a (st.trans st') f z
def liftQ.back{Q:zm}{v:Value}{s'':Shared}(st:Step E0 U s U' s')(h:liftQ X U' s' Q v s''):liftQ X U s Q v s'':=
 by refine zi h λav U'' r a st' q=>?_;exact zo av U'' r a (st.trans st') q
def liftB.back{Q:Bool->AHeap->Prop}{v:Bool}{s'':Shared}(st:Step E0 U s U' s')(h:liftB X U' s' Q v s''):liftB X U s Q v s'':=
 by refine zl h λU'' a st' q=>?_;exact zv U'' a (st.trans st') q
def kU{J:Type}{t:Sem Value}{f:Value->Sem J}{Q1:zm}{R:Value->J->Shared->Prop}(h:wpAny X.M A t (liftQ X U s Q1) (liftX X U s Z) s)
  (k:∀av v σ1 s1,RepV σ1 s1.heap av v->At X σ1 s1->Step E0 U s σ1 s1->Q1 av (vis σ1)->wpAny X.M A (f v) (R v) (liftX X U s Z) s1) :
  wpAny X.M A t (λv s1=>wpAny X.M A (f v) (R v) (liftX X U s Z) s1) (liftX X U s Z) s:=
 G8 h (λv s1 hpz=>zi hpz λav σ1 r a st q=>k av v σ1 s1 r a st q) λ_ _ e=>e
def jN{t:Sem Value}{Q:zm}(st:Step E0 U s U' s')(h:wpAny X.M A t (liftQ X U' s' Q) (liftX X U' s' Z) s'):wpAny X.M A t (liftQ X U s Q) (liftX X U s Z) s':=
 G8 h (λ_ _ h=>h.back st) λ_ _ h=>h.back st
def zeW{t:Sem Bool}{Q:Bool->AHeap->Prop}(st:Step E0 U s U' s')(h:wpAny X.M A t (liftB X U' s' Q) (liftX X U' s' Z) s'):wpAny X.M A t (liftB X U s Q) (liftX X U s Z) s':=
 G8 h (λ_ _ h=>h.back st) λ_ _ h=>h.back st
def zbH{Q:zm}{av:AV}{v:Value}(a:At X U s)(r:RepV U s.heap av v)(q:Q av (vis U)):liftQ X U s Q v s:=(zo av U r a (.refl ..) q)
def kO{Q:zm}{av:AV}{v:Value}{t:Nat}(a:At X U s)(r:RepV U s.heap av v)(q:Q av (vis U)):liftQ X U s Q v { s with toks:=t }:=(zo av U r (a.toks t) (.toks ..) q)
end
def zh(X:Cx)(env:Env)(nm:List (Str×Nat))(e:Expr)(m:AE):Prop:=
 ∀d A l U s Q Z,Live X d A->At X U s->FR X env nm l U s.heap->m d l Q Z (vis U)->wpAny X.M A (eval e env) (liftQ X U s Q) (liftX X U s Z) s
def isB(Q:Bool->AHeap->Prop):zm:=λa U=>zu a.bool? λb=>Q b U
def qB(X:Cx)(env:Env)(nm:List (Str×Nat))(e:Expr)(m:AE):Prop:=
 ∀d A l U s Q Z,Live X d A->At X U s->FR X env nm l U s.heap->m d l (isB Q) Z (vis U)->wpAny X.M A (isTrue e env (eval e env)) (liftB X U s Q) (liftX X U s Z) s
namespace A
def kAt(Q:zm)(U:AHeap)(a:AV):Prop:=Q a U
def loc(i:Nat):AE:=λ_ l Q _ U=>zu (l.getD i none) (kAt Q U)
def k(a:AV):AE:=λ_ _ Q _ U=>Q a U
end A
section
variable{X:Cx}{env:Env}{nm:List (Str×Nat)}
def zmg{x:Str}{pos:Pos}{i:Nat}(EO:EnvOk env)(hx:nm.lookup x=some i)(hk:env.kindOf x=some .local\/env.kindOf x=some .cell)(hd:(x==("__debug__" : Str))=false) :
  zh X env nm (.Name x pos) (A.loc i):=λd A l U s Q Z L a F q=>by
 refine zb (zg q) λav hl q=>?_;exact wpAny_Name (zql EO F hx hk hl λv r=>zbH a r q) hd
def zmd{i:Int}{k pos}:zh X env nm (.Constant (.int i) k pos) (A.k (.int i)):=λd A l U s Q Z L a F q=>
 wpAny_Constant_int (kO a (.int _ _) q)
def zmp{x:Str}{n:Nat}(hn:n<kW)(hx:zx n=x){k pos}:zh X env nm (.Constant (.str x) k pos) (A.k (.str n)):=λd A l U s Q Z L a F q=>by
 subst hx;exact λ_ _ _=>kO a (.str hn _) q
def zjJ{k pos}:zh X env nm (.Constant .none k pos) (A.k .none):=λd A l U s Q Z L a F q=>G7 (zbH a .none q)
def zjC{b:Bool}{k pos}:zh X env nm (.Constant (.bool b) k pos) (A.k (.bool b)):=λd A l U s Q Z L a F q=>G7 (zbH a (.bool b) q)
def zl1{e:Expr}{m:AE}(h:zh X env nm e m)(he:∀whole,isTrue e env whole=(do let v <-whole;standAt e.pos;holding [v] (truthy v))):qB X env nm e m:=λd A l U s Q Z L a F q=>by
 rw[he];refine G6 (kU (h d A l U s (isB Q) Z L a F q) λav v σ1 s1 r a1 st hpx=>?_);refine zb (zg hpx) λb e q1=>?_;have e:=zaG e;subst e;obtain rfl:=RepV.wM r;exact G6 (Hg (G9 (wpAny_truthy_bool (zv σ1 a1 st q1))))
end
inductive Fl where
 | next
 | ret (v:AV)
abbrev zU:=Fl->Loc->AHeap->Prop
abbrev SXP:=Addr->Loc->AHeap->Prop
abbrev AS:=Dp->Loc->zU->SXP->AHeap->Prop
noncomputable def zqC(U:AHeap)(h:Heap):Fl->Flow->Prop
 | .next,.next=>True
 | .ret a,.ret v=>RepV U h a v
 | _,_=>False
def liftS(X:Cx)(env:Env)(nm:List (Str×Nat))(U:AHeap)(s:Shared)(Q:zU):Flow->Shared->Prop:=
 λf s'=>∃fl l' U',zqC U' s'.heap fl f/\At X U' s'/\FR X env nm l' U' s'.heap/\Step (FB env) U s U' s'/\Q fl l' (vis U')
def liftSX(X:Cx)(env:Env)(nm:List (Str×Nat))(U:AHeap)(s:Shared)(Z:SXP):Value->Shared->Prop:=
 λe s'=>∃c l' U' x g,e = .ref x/\(New U s x/\¬FB env x)/\At X U' { s' with heap:=g }/\FR X env nm l' U' g/\Step (FB env) U s U' { s' with heap:=g }/\Fly X U' g x c s'.heap/\Z c l' (vis U')
def jj(X:Cx)(env:Env)(nm:List (Str×Nat))(st:Stmt)(m:AS):Prop:=
 ∀d A l U s Q Z,Live X d A->At X U s->FR X env nm l U s.heap->m d l Q Z (vis U)->wpAny X.M A (exec st env) (liftS X env nm U s Q) (liftSX X env nm U s Z) s
def jU(X:Cx)(env:Env)(nm:List (Str×Nat))(sts:List Stmt)(m:AS):Prop:=
 ∀d A l U s Q Z,Live X d A->At X U s->FR X env nm l U s.heap->m d l Q Z (vis U)->wpAny X.M A (execs sts env) (liftS X env nm U s Q) (liftSX X env nm U s Z) s
namespace A
def nil:AS:=λd l Q Z U=>Q .next l U
def zwa(b:AS)(d:Dp)(Q:zU)(Z:SXP):zU:=λf l' U'=>match f with|.next=>b d l' Q Z U'|.ret v=>Q (.ret v) l' U'
def kZ(Z:SXP)(l:Loc):XP:=λc U'=>Z c l U'
def zwb(i:Nat)(l:Loc)(Q:zU):zm:=λa U'=>Q .next (l.set i (some a)) U'
def zv8(l:Loc)(Q:zU):zm:=λa U'=>Q (.ret a) l U'
def kIf(a b:AS)(d:Dp)(l:Loc)(Q:zU)(Z:SXP)(c:Bool)(U':AHeap):Prop:=cB c (a d l Q Z U') (b d l Q Z U')
def noX:SXP:=λ_ _ _=>False
def wO(I:AHeap->Prop)(K:Loc->AHeap->Prop)(S:zU):zU:=λf l'' U'=>match f with|.next=>I U'/\K l'' U'|.ret v=>S (.ret v) l'' U'
def cons(a b:AS):AS:=λd l Q Z U=>a d l (zwa b d Q Z) Z U
def set(i:Nat)(x:AE):AS:=λd l Q Z U=>x d l (zwb i l Q) (kZ Z l) U
def ret(x:AE):AS:=λd l Q Z U=>x d l (zv8 l Q) (kZ Z l) U
def vJ:AS:=λd l Q Z U=>Q (.ret .none) l U
def if_(t:AE)(a b:AS):AS:=λd l Q Z U=>t d l (isB (kIf a b d l Q Z)) (kZ Z l) U
def w3(t:AE)(a:AS):AS:=λd l Q Z U=>∃(Ja:Nat->Loc->AHeap->Prop) (n:Nat),Ja n l U/\∀n l U,Ja n l U->
 t d l (isB λc U'=>cB c (a d l (λf l' U''=>match f with|.next=>∃m,m<n/\Ja m l' U''|.ret v=>Q (.ret v) l' U'') (λ_ _ _=>False) U') (Q .next l U')) (λ_ _=>False) U
end A
section
variable{X:Cx}{env:Env}{nm:List (Str×Nat)}{U U':AHeap}{s s':Shared}
def FB.wP(b:Addr)(h:E0 b):FB env b:=h.elim
def liftS.back{Q:zU}{f:Flow}{s'':Shared}(st:Step (FB env) U s U' s')(h:liftS X env nm U' s' Q f s''):liftS X env nm U s Q f s'':=
 by refine jZ h λfl l' U'' r a F st' q=>?_;exact zH fl l' U'' r a F (st.trans st') q
def liftSX.back{Z:SXP}{e:Value}{s'':Shared}(st:Step (FB env) U s U' s')(h:liftSX X env nm U' s' Z e s''):liftSX X env nm U s Z e s'':=
 by refine qV h λc l' U'' x g h1 h2 a F st' f q=>?_;exact qf c l' U'' x g h1 ⟨h2.1.back st h2.2,h2.2⟩ a F (st.trans st') f q
def FB.w6{l:Loc}{g:Heap}{x c:Addr}(F:FR X env nm l U g)(h:∃vs,g.get? x=some (exO c vs)):¬FB env x:=by
 obtain⟨vs,h1⟩:=h;rintro(rfl|⟨y,hy⟩)
 .refine zb F.ns λm h3_1 _=>?_;refine jk h3_1 λo' es ep h3 h4 _=>?_;rw[h1] at h3;obtain rfl:=Hw h3;cases h4
 .refine zbR (F.outc y x hy) λ_ _ v o' h3 h4=>?_;rw[h1] at h3;obtain rfl:=Hw h3;cases h4
def liftX.toS{l:Loc}{Z:SXP}{e:Value}{s'':Shared}(a0:At X U s)(F:FR X env nm l U s.heap)(h:liftX X U s (λc U'=>Z c l U') e s''):liftSX X env nm U s Z e s'':=
 by refine jH h λc U'' x g h1 h2 a st' f q=>?_;exact qf c l U'' x g h1 ⟨h2,FB.w6 (F.step a0 st') f.exg⟩ a (F.step a0 st') (st'.weaken FB.wP) f q
def inS{J:Type}{A:Around}{l:Loc}{t:Sem Value}{f:Value->Sem J}{Q1:zm}{Z:SXP}{R:J->Shared->Prop}{E:Value->Shared->Prop}(a0:At X U s)(F:FR X env nm l U s.heap)
  (h:wpAny X.M A t (liftQ X U s Q1) (liftX X U s λc U'=>Z c l U') s)(hE:∀e s',liftSX X env nm U s Z e s'->E e s')
  (k:∀av v σ1 s1,RepV σ1 s1.heap av v->At X σ1 s1->FR X env nm l σ1 s1.heap->Step (FB env) U s σ1 s1->Step E0 U s σ1 s1->Q1 av (vis σ1)->wpAny X.M A (f v) R E s1) :
  wpAny X.M A t (λv s1=>wpAny X.M A (f v) R E s1) E s:=
 G8 h (λv s1 hpz=>zi hpz λav σ1 r a st q=>k av v σ1 s1 r a (F.step a0 st) (st.weaken FB.wP) st q) λe s' x=>hE e s' (x.toS a0 F)
def zml:jU X env nm [] A.nil:=λd A l U s Q Z L a F q=>wpAny_execs_nil (zH .next l U trivial a F (.refl ..) q)
def zjE{st:Stmt}{sts:List Stmt}{m ms:AS}(h:jj X env nm st m)(hs:jU X env nm sts ms):jU X env nm (st::sts) (A.cons m ms):=λd A l U s Q Z L a F q=>by
 refine wpAny_execs_cons (G8 (h d A l U s _ Z L a F q) (λf s1 hpx=>?_) λ_ _ e=>e);refine jZ hpx λfl l1 σ1 r a1 F1 st1 q1=>?_;cases f with
 | next=>
  cases fl with
  | next=>exact G8 (hs d A l1 σ1 s1 Q Z L a1 F1 q1) (λ_ _ x=>x.back st1) λ_ _ x=>x.back st1
  | ret v=>exact r.elim
 | ret v=>
  cases fl with
  | next=>exact r.elim
  | ret av=>exact⟨.ret av,l1,σ1,r,a1,F1,st1,q1⟩
 | brk=>cases fl<;>exact r.elim
 | cont=>cases fl<;>exact r.elim
def zmo{e:Expr}{pos:Pos}{m:AE}(h:zh X env nm e m):jj X env nm (.Return (some e) pos) (A.ret m):=λd A l U s Q Z L a F q=>
 wpAny_Return_some (G8 (h d A l U s _ _ L a F q) (λv s1 hpz=>zi hpz λav σ1 r a1 st q1=>(zH (.ret av) l σ1 r a1 (F.step a st) (st.weaken FB.wP) q1)) λ_ _ x=>x.toS a F)
def zjL{pos:Pos}:jj X env nm (.Return none pos) A.vJ:=λd A l U s Q Z L a F q=>
 wpAny_Return_none (zH (.ret .none) l U RepV.none a F (.refl ..) q)
def zfs{x:Str}{pos' pos:Pos}{value:Expr}{m:AE}{i:Nat}(EO:EnvOk env)(h:zh X env nm value m)(hx:nm.lookup x=some i)(hk:env.kindOf x=some .local\/env.kindOf x=some .cell)
  (hs:swapsWith value (some (.Name x pos')) pos.line env=pure false):jj X env nm (.Assign [.Name x pos'] value pos) (A.set i m):=λd A l U s Q Z L a F q=>
 wpAny_Assign_Name (inS a F (h d A l U s _ _ L a F q) (λ_ _ e=>e) λav v σ1 s1 r a1 F1 st _ q1=>
  zeF EO F1 a1 hx hk r λs2 F2 a2 st2=>(zH .next _ σ1 trivial a2 F2 (st.trans st2) q1)) hs
def zoy{test:Expr}{body orelse:List Stmt}{pos:Pos}{t:AE}{a b:AS}(ht:qB X env nm test t)(ha:jU X env nm body a)(hb:jU X env nm orelse b) :
  jj X env nm (.If test body orelse pos) (A.if_ t a b):=λd A l U s Q Z L a0 F q=>by
 refine wpAny_If (G8 (ht d A l U s _ _ L a0 F q) (λc s1 hpx=>?_) λ_ _ x=>x.toS a0 F);refine zl hpx λσ1 a1 st q1=>?_;have F1:=F.step a0 st;have st':=st.weaken (B':=FB env) FB.wP;cases c with
 | true=>exact G8 (ha d A l σ1 s1 Q Z L a1 F1 q1) (λ_ _ x=>x.back st') λ_ _ x=>x.back st'
 | false=>exact G8 (hb d A l σ1 s1 Q Z L a1 F1 q1) (λ_ _ x=>x.back st') λ_ _ x=>x.back st'
def noX{U:AHeap}{s:Shared}{e:Value}{s':Shared}{P:Prop}(h:liftX X U s (λ_ _=>False) e s'):P:=by refine jH h λ_ _ _ _ _ _ _ _ _ z=>?_;exact z.elim
def zrH{U:AHeap}{s:Shared}{e:Value}{s':Shared}{P:Prop}(h:liftSX X env nm U s (λ_ _ _=>False) e s'):P:=by refine qV h λ_ _ _ _ _ _ _ _ _ _ _ z=>?_;exact z.elim
def zib{test:Expr}{body:List Stmt}{pos:Pos}{t:AE}{m:AS}(ht:qB X env nm test t)(hb:jU X env nm body m) :
  jj X env nm (.While test body [] pos) (A.w3 t m):=λd A l U s Q Z L a0 F hpz=>z0 hpz λJa n hJ hstep=>by
 refine wpAny_While (codeAny_whileLoop (λn s1=>∃l1 σ1,At X σ1 s1/\FR X env nm l1 σ1 s1.heap/\Step (FB env) U s σ1 s1/\Ja n l1 (vis σ1)) ?_ n (zo l U a0 F (.refl ..) hJ));intro n s1 hR1;refine zi hR1 λl1 σ1 a1 F1 st1 hJ1=>?_;refine G8 (ht d A l1 σ1 s1 _ _ L a1 F1 (hstep n l1 (vis σ1) hJ1)) (λc s2 hpx=>?_) λ_ _ x=>noX x;refine zl hpx λσ2 a2 st2 q2=>?_;have F2:=F1.step a1 st2;have st2':=st1.trans (st2.weaken (B':=FB env) FB.wP);cases c with
 | true=>
  refine G8 (hb d A l1 σ2 s2 _ _ L a2 F2 q2) (λf s3 hpx=>?_) λ_ _ x=>zrH x;refine jZ hpx λfl l3 σ3 r a3 F3 st3 q3=>?_;cases f with
  | next=>
   cases fl with
   | next=>refine zb q3 λk hk hJ3=>?_;exact ziW k hk l3 σ3 a3 F3 (st2'.trans st3) hJ3
   | ret v=>exact r.elim
  | ret v=>
   cases fl with
   | next=>exact r.elim
   | ret av=>exact zH (.ret av) l3 σ3 r a3 F3 (st2'.trans st3) q3
  | brk=>cases fl<;>exact r.elim
  | cont=>cases fl<;>exact r.elim
 | false=>
  exact wpAny_execs_nil (zH .next l1 σ2 trivial a2 F2 st2' q2)
end
inductive Tgt where
 | one (i:Nat)
 | many (is:List Nat)
noncomputable def zp0:List Nat->List AV->Loc->Loc
 | i::is,x::xs,l=>zp0 is xs (l.set i (some x))
 | _,_,l=>l
noncomputable def j5:Tgt->AV->Loc->Option Loc
 | .one i,x,l=>some (l.set i (some x))
 | .many is,.tup xs,l=>if xs.length=is.length then some (zp0 is xs l) else none
 | _,_,_=>none
def Sto(B:Addr->Prop)(env:Env)(x:Str):Prop:=(env.kindOf x=some .local/\∀b,b=env.locals->B b)\/(env.kindOf x=some .cell/\∀b,FB env b->B b)
def zfB{X:Cx}{env:Env}{nm:List (Str×Nat)}{l:Loc}{U:AHeap}{s:Shared}{B:Addr->Prop}{M:Model}{A:Around}{E:Value->Shared->Prop}{x:Str}{i:Nat}{av:AV}{v:Value}{Q:Unit->Shared->Prop}(EO:EnvOk env)(F:FR X env nm l U s.heap)(a:At X U s)
  (hx:nm.lookup x=some i)(hk:Sto B env x)(hv:RepV U s.heap av v)
  (h:∀s',FR X env nm (l.set i (some av)) U s'.heap->At X U s'->Step B U s U s'->Q () s'):wpAny M A (storeName env x v) Q E s:=by
 rcases hk with⟨hk,hB⟩|⟨hk,hB⟩
 .exact zfC EO F a hx hk hv λs' F' a' st=>h s' F' a' (st.weaken hB)
 .exact zeF EO F a hx (.inr hk) hv λs' F' a' st=>h s' F' a' (st.weaken hB)
def zrV{env:Env}{x:Str}(hk:env.kindOf x=some .local\/env.kindOf x=some .cell):Sto (FB env) env x:=hk.imp (λh=>⟨h,λ_ h=>.inl h⟩) λh=>⟨h,λ_ h=>h⟩
def zaD(B:Addr->Prop)(X:Cx)(env:Env)(nm:List (Str×Nat))(target:Expr)(t:Tgt):Prop:=
 ∀d A l l' U s x v (Q:Unit->Shared->Prop) E,Live X d A->d.hd=false->At X U s->FR X env nm l U s.heap->RepV U s.heap x v->j5 t x l=some l'->
  (∀s',FR X env nm l' U s'.heap->At X U s'->Step B U s U s'->Q () s')->wpAny X.M A (assign target env v) Q E s
def zjB{B:Addr->Prop}{X:Cx}{env:Env}{nm:List (Str×Nat)}{x:Str}{pos:Pos}{i:Nat}(EO:EnvOk env)(hx:nm.lookup x=some i)(hk:Sto B env x) :
  zaD B X env nm (.Name x pos) (.one i):=λd A l l' U s y v Q E L hd a F r hb h=>by
 cases hb;exact wpAny_assign_Name (zfB EO F a hx hk r h)
structure ItOk(X:Cx)(A:Around)(target:Expr)(it:Value)(I:AHeap->Prop)(xs:List AV)(W:Addr->Prop)(St:Nat->AHeap->Heap->Prop):Prop where
 stable:∀i U h U' h',St i U h->KeepV U h U' h'->(∀b o,W b->h.get? b=some o->h'.get? b=some o)->St i U' h'
 there:∀i U h b,St i U h->W b->∃o,h.get? b=some o/\¬qs o/\(∀es n,o.data≠.dict es n)/\(∀v,o.data≠.cell v)
 item:∀i x U s (Q:Value->Shared->Prop) (Qn:Option Value->Shared->Prop) E,(∀v s1,wpAny X.M A (letOwnedTupleGo target it v) (λ_ s'=>Q v s') E s1->Qn (some v) s1)->
  xs[i]? = some x->At X U s->I (vis U)->St i U s.heap->(∀b,W b->U b=none/\X.h₀.get? b=none)->
  (∀v s',RepV U s'.heap x v->At X U s'->Step W U s U s'->St (i+1) U s'.heap->Q v s')->wpAny X.M A (pyNext it) Qn E s
 done:∀U s (Q:Option Value->Shared->Prop) E,At X U s->I (vis U)->St xs.length U s.heap->(∀b,W b->U b=none/\X.h₀.get? b=none)->
  (∀s',At X U s'->Step W U s U s'->Q none s')->wpAny X.M A (pyNext it) Q E s
 self:∀i U s (Q:Value->Shared->Prop) E,St i U s.heap->Q it s->wpAny X.M A (pyIter it) Q E s
noncomputable def zhd(I:AHeap->Prop)(t:Tgt)(body:AS)(d:Dp)(Q:zU):List AV->Loc->AHeap->Prop
 | [],l,U=>Q .next l U
 | x::xs,l,U=>∃l',j5 t x l=some l'/\body d l' (A.wO I (zhd I t body d Q xs) Q) A.noX U
section
variable{X:Cx}{env:Env}{nm:List (Str×Nat)}{A:Around}{U:AHeap}{s:Shared}
def znc{d:Dp}{target:Expr}{t:Tgt}{body:List Stmt}{m:AS}{it:Value}{I:AHeap->Prop}{xs:List AV}{W:Addr->Prop}{St:Nat->AHeap->Heap->Prop}{l:Loc}{Q:zU}{R:Result->Shared->Prop}
  (L:Live X d A)(hd:d.hd=false)(IT:ItOk X A target it I xs W St)(ht:zaD (FB env) X env nm target t)(hb:jU X env nm body m)(hW:∀b,W b->U b=none/\X.h₀.get? b=none)
  (a0:At X U s)(F:FR X env nm l U s.heap)(hI:I (vis U))(hSt:St 0 U s.heap)(h:zhd I t m d Q xs l (vis U))
  (hR:∀f s',(∃fl l' U',zqC U' s'.heap fl f/\At X U' s'/\FR X env nm l' U' s'.heap/\Step (λb=>FB env b\/W b) U s U' s'/\Q fl l' (vis U'))->R (.ok f) s') :
  Hi X.M A (.forLoop target it body [] env) R s:=by
 refine codeAny_forLoop_any (λk s1=>∃i l1 σ1,k=xs.length+1-i/\i<=xs.length/\At X σ1 s1/\FR X env nm l1 σ1 s1.heap/\Step (λb=>FB env b\/W b) U s σ1 s1/\I (vis σ1)/\St i σ1 s1.heap/\
  (∀b,W b->σ1 b=none/\X.h₀.get? b=none)/\zhd I t m d Q (xs.drop i) l1 (vis σ1)) ?_ (xs.length+1) (zdO 0 l U rfl (fT _) a0 F (.refl ..) hI hSt hW h)
 intro k s1 hR2;refine zdF hR2 λi l1 σ1 e3_3 hi a1 F1 st1 hI1 hSt1 hW1 hf=>?_;subst e3_3;have noW:NoStay W s1.heap:=λb o hb e=>by refine zl (IT.there i _ _ b hSt1 hb) λo' e' h' _=>?_;rw[e] at e';obtain rfl:=Hw e';exact h'
 have ndW:∀{i U h b o},St i U h->W b->h.get? b=some o->∀es n,o.data≠.dict es n:=λ{i U h b o} hs hb e=>by
  refine zE (IT.there i _ _ b hs hb) λo' e' _ h1 _=>?_;rw[e] at e';obtain rfl:=Hw e';exact h1
 have dis:∀b,FB env b->¬W b:=λb hb hw=>by
  refine zE (IT.there i _ _ b hSt1 hw) λo' e' _ h1 h2=>?_
  rcases hb with rfl|⟨x,hx⟩
  .refine zb F1.ns λ_ h16_1 _=>?_;refine jk h16_1 λo es ep ho hd _=>?_;rw[ho] at e';obtain rfl:=Hw e';exact h1 _ _ hd
  .refine zbR (F1.outc x b hx) λ_ _ v o ho hd=>?_;rw[ho] at e';obtain rfl:=Hw e';exact h2 _ hd
 cases hx:xs[i]? with
 | none=>
  have hil:i=xs.length:=fBE hi (fCD.mp hx);subst hil;refine IT.done σ1 s1 _ _ a1 hI1 hSt1 hW1 λs2 a2 st2=>?_;refine wpAny_execs_nil (hR _ _ (zH .next l1 σ1 trivial a2 (F1.stepB a1 st2 dis noW) (st1.trans (st2.weaken λb hb=>.inr hb)) ?_));rw[fCO] at hf;exact hf
 | some x=>
  have hlt:i<xs.length:=(fY.mp hx).1;have hdr:xs.drop i=x::xs.drop (i+1):=by
   rw[pR hlt,(fY.mp hx).2]
  rw[hdr] at hf;refine zb hf λl2 hb2 hf=>?_;refine IT.item i x σ1 s1 _ _ _ (λv s2 hr=>hr) hx a1 hI1 hSt1 hW1 λv s2 rv a2 st2 hSt2=>?_
  .have F2:=F1.stepB a1 st2 dis noW;have noF:=F2.noStay;refine ht d A l1 l2 σ1 s2 x v _ _ L hd a2 F2 rv hb2 λs3 F3 a3 st3=>?_;have hSt3:St (i+1) σ1 s3.heap:=IT.stable _ _ _ _ _ hSt2 (st3.keepV a2 noF) λb o hb e=>st3.keep b o e (hW1 b hb).1 (λq=>dis b q hb) (ndW hSt2 hb e);refine G8 (hb d A l2 σ1 s3 _ _ L a3 F3 hf) (λf s4 hpx=>?_) λ_ _ x=>zrH x;refine jZ hpx λfl l4 σ4 r a4 F4 st4 q4=>?_;have stA:Step (λb=>FB env b\/W b) U s σ4 s4:=st1.trans ((st2.weaken λb hb=>.inr hb).trans ((st3.weaken λb hb=>.inl hb).trans (st4.weaken λb hb=>.inl hb)));cases f with
   | next=>
    cases fl with
    | next=>
     obtain⟨hI4,hf4⟩:=q4;refine zcE (xs.length+1-(i+1)) (zqs hlt) (i+1) l4 σ4 rfl hlt a4 F4 stA hI4 (IT.stable _ _ _ _ _ hSt3 (st4.keepV a3 F3.noStay) (λb o hb e=>st4.keep b o e (hW1 b hb).1 (λq=>dis b q hb) (ndW hSt3 hb e))) (λb hb=>⟨by refine zb (IT.there _ _ _ b hSt3 hb) λo ho _=>?_;exact st4.gone ho (hW1 b hb).1,(hW1 b hb).2⟩) hf4
    | ret v=>exact r.elim
   | ret v=>
    cases fl with
    | next=>exact r.elim
    | ret av=>exact hR _ _ (zH (.ret av) l4 σ4 r a4 F4 stA q4)
   | brk=>cases fl<;>exact r.elim
   | cont=>cases fl<;>exact r.elim
end
section
variable{X:Cx}{U:AHeap}{s:Shared}{W:Addr->Prop}{h':Heap}
def At.moved(a:At X U s)(t:Nat)(hW:∀b,W b->U b=none/\X.h₀.get? b=none)(nW:NoStay W s.heap)(nd:∀b o,W b->s.heap.get? b=some o->∀es n,o.data≠.dict es n)(hk:∀b o,¬W b->s.heap.get? b=some o->h'.get? b=some o) :
  At X U { s with heap:=h',toks:=t }:=by
 have kv:KeepV U s.heap U h':=.mk' λb o e st=>hk b o (λq=>nW b o q e st) e;refine⟨λb o e=>hk b o (λq=>?_) (a.keep b o e),λb ao e=>(a.rep b ao e).mono kv λo ho=>hk b o (λq=>?_) ho,a.own,a.gens,a.os,λL hL=>⟨(a.ff L hL).1,?_⟩⟩
 .rw[(hW b q).2] at e;exact absurd (Eq.symm e) (fH _)
 .rw[(hW b q).1] at e;exact absurd (Eq.symm e) (fH _)
 .refine jA ((a.ff L hL).2) λo es n e d=>?_;exact zah o es n (hk L o (λq=>nd L o q e es n d) e) d
def Step.moved(U:AHeap)(t:Nat)(hk:∀b o,¬W b->s.heap.get? b=some o->h'.get? b=some o)(hsz:s.heap.objs.size<=h'.objs.size):Step W U s U { s with heap:=h',toks:=t }:=
 .same (λb o e h=>hk b o h e) hsz
end
def Plain(o:Obj):Prop:=¬qs o/\(∀es n,o.data≠.dict es n)/\(∀v,o.data≠.cell v)
def Plain.wD{o:Obj}{T:String}{vs:Array Value}(hc:o.cls = .type T)(hd:o.data = .fields vs)(h2:T≠"range"):Plain o:=by
 refine zq ?_ (λes n h=>?_) (λv h=>?_)
 rotate_left
 .rw[hd] at h;cases h
 .rw[hd] at h;cases h
 rintro(⟨h,_,_,h'⟩|⟨h,_⟩|⟨c,vs,h,_⟩)
 .rw[hd] at h';cases h'
 .rw[hc] at h;cases h;exact h2 rfl
 .rw[hc] at h;cases h
section
variable{X:Cx}{A:Around}{target:Expr}
def zav{M:Model}{it:Addr}{v:Value}{o:Obj}{T:String}{vs:Array Value}{s:Shared}{Q:Unit->Shared->Prop}{E:Value->Shared->Prop}(ho:s.heap.get? it=some o)(hc:o.cls = .type T)(hd:o.data = .fields vs)
  (hT:["enumerate","zip","dict_itemiterator","dict_reverseitemiterator","odict_iterator","itertools.zip_longest","itertools.pairwise"].contains T=false)(h:Q () s) :
  wpAny M A (letOwnedTupleGo target (.ref it) v) Q E s:=by
 have go:wpAny M A (letOwnedTupleGo (.List [] ⟨0,0,0,0⟩) (.ref it) v) Q E s:=by
  cases v with
  | ref a=>
   refine G6 (wpAny_load ho ?_);rw[hc,hd];dsimp only;rw[hT];rw[Bool.false_and,if_neg (by decide)];exact G7 h
  | _=>exact G7 h
 cases target with
 | Tuple _ _ _=>exact go
 | List _ _=>exact go
 | _=>exact G7 h
inductive IsL(U:AHeap):AV->List AV->Prop
 | ref {a:Addr} {xs:List AV}:vis U a=some (.list xs)->IsL U (.ref a) xs
 | lst {xs:List AV}:IsL U (.lst xs) xs
def At.isList0{U:AHeap}{s:Shared}(a:At X U s){b:Addr}{xs:List AV}(h:U b=some (.list xs)\/U b=some (.frz xs)):∃vs:List Value,s.heap.IsList b vs.toArray/\RepVs U s.heap xs vs/\xs.length<=1000000:=by
 rcases h with h|h
 .refine zn (a.rep b _ h) λvs n e r hl=>?_;exact zv vs (qe _ e rfl n rfl) r hl
 .refine zl (a.rep b _ h) λvs e r hl=>?_;exact zv vs e r hl
def At.isList{U:AHeap}{s:Shared}(a:At X U s){x:AV}{v:Value}{xs:List AV}(h:IsL U x xs)(r:RepV U s.heap x v):∃(b:Addr) (vs:List Value),v = .ref b/\(U b=some (.list xs)\/U b=some (.frz xs))/\s.heap.IsList b vs.toArray/\RepVs U s.heap xs vs/\xs.length<=1000000:=by
 cases h with
 | @ref b _ h=>
  obtain rfl:=RepV.wN r;have h':=(zG h).1;refine zl (a.isList0 (.inl h')) λvs h1 h2 h3=>?_;exact⟨b,vs,rfl,.inl h',h1,h2,h3⟩
 | lst=>
  refine zb (RepV.wQ r) λb e4_1 h'=>?_;subst e4_1;refine zl (a.isList0 (.inr h')) λvs h1 h2 h3=>?_;exact jl b vs rfl (.inr h') h1 h2 h3
def zdV(x:AV)(xs:List AV)(U:AHeap):Prop:=match x with
 | .ref b=>U b=some (.list xs)
 | _=>True
def stL(x:AV)(b:Addr)(xs:List AV)(U:AHeap):Prop:=match x with
 | .ref c=>c=b
 | _=>U b=some (.frz xs)
def At.ofSt{U:AHeap}{s:Shared}(a:At X U s){x:AV}{b:Addr}{xs:List AV}(h:zdV x xs (vis U))(h':stL x b xs U):∃vs:List Value,s.heap.IsList b vs.toArray/\RepVs U s.heap xs vs:=by
 have:U b=some (.list xs)\/U b=some (.frz xs):=by
  cases x with
  | ref c=>have h':c=b:=h';subst h';exact .inl (zG h).1
  | _=>exact .inr h'
 refine zl (a.isList0 this) λvs h1 h2 _=>?_;exact zc vs h1 h2
def stL.mono{U U':AHeap}{h h':Heap}(k:KeepV U h U' h'){x:AV}{b:Addr}{xs:List AV}(q:stL x b xs U):stL x b xs U':=by
 cases x with
 | ref c=>exact q
 | _=>exact k.frz _ _ q
def zls(hh:A.handled=none)(it b:Addr)(x:AV)(xs:List AV):ItOk X A target (.ref it) (zdV x xs) xs (λc=>c=it) (λi U h=>h.IsListIter it b i/\stL x b xs U) where
 stable:=λi U h U' h' hp kv k=>jO hp λh1 q=>zb h1 λo ho r=>⟨⟨o,k _ _ rfl ho,r⟩,q.mono kv⟩
 there:=λi U h c hp e=>jO hp λh1 _=>zl h1 λo ho hc hd=>by subst e;exact⟨o,ho,Plain.wD hc hd (by decide)⟩
 item:=λi x U s Q Qn E hQn hx a hI hSt hW h=>by
  obtain⟨hSt,hq⟩:=hSt;refine zb (a.ofSt hI hq) λvs hl rv=>?_;refine zb (rv.get hx) λv hv r=>?_;refine zl (id hSt) λo ho hc hd=>?_;have nW:NoStay (λc=>c=it) s.heap:=λc o' e e'=>by subst e;rw[ho] at e';obtain rfl:=Hw e';exact(Plain.wD hc hd (by decide)).1
  have nd:∀b o,b=it->s.heap.get? b=some o->∀es n,o.data≠.dict es n:=λc o' e e'=>by subst e;rw[ho] at e';obtain rfl:=Hw e';exact(Plain.wD hc hd (by decide)).2.1
  refine wpAny_pyNext_list_item hSt hl (by simpa using hv) λh' hit' hs'=>hQn v _ ?_;refine zl (id hit') λo' ho' hc' hd'=>?_;have hk:∀c o,¬c=it->s.heap.get? c=some o->h'.get? c=some o:=λc o hc e=>(hs'.2 c hc).trans e;have kv:KeepV U s.heap U h':=.mk' λc o' e st=>hk c o' (λq=>nW c o' q e st) e;exact zav ho' hc' hd' (by decide) (h v { s with heap:=h' } (r.mono kv) (a.moved (t:=s.toks) hW nW nd hk) (Step.moved U s.toks hk (pA hs'.1.symm)) ⟨hit',hq⟩)
 done:=λU s Q E a hI hSt hW h=>by
  obtain⟨hSt,hq⟩:=hSt;refine zb (a.ofSt hI hq) λvs hl rv=>?_;refine zl (id hSt) λo ho hc hd=>?_;have nW:NoStay (λc=>c=it) s.heap:=λc o' e e'=>by subst e;rw[ho] at e';obtain rfl:=Hw e';exact(Plain.wD hc hd (by decide)).1
  have nd:∀b o,b=it->s.heap.get? b=some o->∀es n,o.data≠.dict es n:=λc o' e e'=>by subst e;rw[ho] at e';obtain rfl:=Hw e';exact(Plain.wD hc hd (by decide)).2.1
  refine zK (wpAny_pyNext_list_end hh hSt hl (by simp[rv.length]) λh' he' hsz=>?_);have hk:∀c o,¬c=it->s.heap.get? c=some o->h'.get? c=some o:=λc o hc e=>he' c o hc e;exact h { s with heap:=h' } (a.moved (t:=s.toks) hW nW nd hk) (Step.moved U s.toks hk hsz)
 self:=λi U s Q E hSt h=>wpAny_pyIter_listiter hSt.1 h
def zi1(hh:A.handled=none)(it b:Addr)(xs:List AV):ItOk X A target (.ref it) (λ_=>True) xs (λc=>c=it) (λi U h=>h.IsTupleIter it b i/\∃vs:List Value,h.IsTuple b vs.toArray/\RepVs U h xs vs) where
 stable:=λi U h U' h' hp kv k=>jO hp λh1 h2=>zb h1 λo ho r=>zb h2 λvs ht rv=>⟨⟨o,k _ _ rfl ho,r⟩,vs,kv.tup ht,rv.mono kv⟩
 there:=λi U h c hp e=>jO hp λh1 _=>zl h1 λo ho hc hd=>by subst e;exact⟨o,ho,Plain.wD hc hd (by decide)⟩
 item:=λi x U s Q Qn E hQn hx a hI hSt hW h=>by
  refine qT hSt λhit vs hl rv=>?_;refine zb (rv.get hx) λv hv r=>?_;refine zl (id hit) λo ho hc hd=>?_;have nW:NoStay (λc=>c=it) s.heap:=λc o' e e'=>by subst e;rw[ho] at e';obtain rfl:=Hw e';exact(Plain.wD hc hd (by decide)).1
  have nd:∀b o,b=it->s.heap.get? b=some o->∀es n,o.data≠.dict es n:=λc o' e e'=>by subst e;rw[ho] at e';obtain rfl:=Hw e';exact(Plain.wD hc hd (by decide)).2.1
  refine wpAny_pyNext_tuple_item hit hl (by simpa using hv) λh' hit' hs'=>hQn v _ ?_;refine zl (id hit') λo' ho' hc' hd'=>?_;have hk:∀c o,¬c=it->s.heap.get? c=some o->h'.get? c=some o:=λc o hc e=>(hs'.2 c hc).trans e;have kv:KeepV U s.heap U h':=.mk' λc o' e st=>hk c o' (λq=>nW c o' q e st) e;exact zav ho' hc' hd' (by decide) (h v { s with heap:=h' } (r.mono kv) (a.moved (t:=s.toks) hW nW nd hk) (Step.moved U s.toks hk (pA hs'.1.symm))
   (kD hit' vs (kv.tup hl) (rv.mono kv)))
 done:=λU s Q E a hI hSt hW h=>by
  refine qT hSt λhit vs hl rv=>?_;refine zl (id hit) λo ho hc hd=>?_;have nW:NoStay (λc=>c=it) s.heap:=λc o' e e'=>by subst e;rw[ho] at e';obtain rfl:=Hw e';exact(Plain.wD hc hd (by decide)).1
  have nd:∀b o,b=it->s.heap.get? b=some o->∀es n,o.data≠.dict es n:=λc o' e e'=>by subst e;rw[ho] at e';obtain rfl:=Hw e';exact(Plain.wD hc hd (by decide)).2.1
  refine zK (wpAny_pyNext_tuple_end hh hit hl (by simp[rv.length]) λh' he' hsz=>?_);have hk:∀c o,¬c=it->s.heap.get? c=some o->h'.get? c=some o:=λc o hc e=>he' c o hc e;exact h { s with heap:=h' } (a.moved (t:=s.toks) hW nW nd hk) (Step.moved U s.toks hk hsz)
 self:=λi U s Q E hSt h=>wpAny_pyIter_tupleiter hSt.1 h
noncomputable def zhn(lo:Int):Nat->List AV
 | 0=>[]
 | n+1=>.int lo::zhn (lo+1) n
def zcV:∀(n:Nat) (lo:Int),(zhn lo n).length=n
 | 0,_=>rfl
 | n+1,lo=>by simp[zhn,zcV n]
def zns(n:Nat):∀(lo:Int) (i:Nat),(zhn lo n)[i]? = if i<n then some (.int (lo+i)) else none:=by
 induction n with
 | zero=>exact λ_ i=>rfl
 | succ n ih=>
  intro lo i;cases i with
  | zero=>rw[if_pos (fCW _),Int.ofNat_zero,fCU];rfl
  | succ i=>
   refine(ih (lo+1) i).trans ?_;rw[show lo+1+(i:Int)=lo+((i+1:Nat):Int) from y97]
   by_cases h:i<n
   .rw[if_pos h,if_pos (zxY h)]
   .rw[if_neg h,if_neg (zyv h)]
def zi0(hh:A.handled=none)(it:Addr)(lo:Int)(n:Nat):ItOk X A target (.ref it) (λ_=>True) (zhn lo n) (λc=>c=it) (λi U h=>IsRangeIter h it (lo+i) ((n:Int)-i) 1) where
 stable:=λi U h U' h' ho _ k=>k _ _ rfl ho
 there:=λi U h c ho e=>by subst e;exact zc _ ho (Plain.wD rfl rfl (by decide))
 item:=λi x U s Q Qn E hQn hx a hI hSt hW h=>by
  rw[zns] at hx
  by_cases hi:i<n
  .simp only[hi,if_true,Option.some.injEq] at hx;subst hx;have nW:NoStay (λc=>c=it) s.heap:=λc o' e e'=>by subst e;rw[hSt] at e';obtain rfl:=Hw e';exact(Plain.wD (T:="range_iterator") rfl rfl (by decide)).1
   have nd:∀b o,b=it->s.heap.get? b=some o->∀es n,o.data≠.dict es n:=λc o' e e'=>by subst e;rw[hSt] at e';obtain rfl:=Hw e';exact(Plain.wD (T:="range_iterator") rfl rfl (by decide)).2.1
   refine wpAny_pyNext_range_item hSt (zyi hi) λh' hit' hs'=>hQn _ _ ?_;have hk:∀c o,¬c=it->s.heap.get? c=some o->h'.get? c=some o:=λc o hc e=>(hs'.2 c hc).trans e;have hit'':IsRangeIter h' it (lo+((i+1:Nat):Int)) ((n:Int)-((i+1:Nat):Int)) 1:=by
    have e1:lo+((i+1:Nat):Int)=lo+(i:Int)+1:=y98;have e2:(n:Int)-((i+1:Nat):Int)=(n:Int)-(i:Int)-1:=zyA;rw[e1,e2];exact hit'
   exact zav hit' rfl rfl (by decide) (h _ { s with heap:=h',toks:=s.toks+1 } (.int _ _) (a.moved (t:=s.toks+1) hW nW nd hk) (Step.moved U (s.toks+1) hk (pA hs'.1.symm)) hit'')
  .simp[hi] at hx
 done:=λU s Q E a hI hSt hW h=>by
  rw[zcV] at hSt;have nW:NoStay (λc=>c=it) s.heap:=λc o' e e'=>by subst e;rw[hSt] at e';obtain rfl:=Hw e';exact(Plain.wD (T:="range_iterator") rfl rfl (by decide)).1
  have nd:∀b o,b=it->s.heap.get? b=some o->∀es n,o.data≠.dict es n:=λc o' e e'=>by subst e;rw[hSt] at e';obtain rfl:=Hw e';exact(Plain.wD (T:="range_iterator") rfl rfl (by decide)).2.1
  refine zK (wpAny_pyNext_range_end hh hSt zxe λh' he' hsz=>?_);have hk:∀c o,¬c=it->s.heap.get? c=some o->h'.get? c=some o:=λc o hc e=>he' c o hc e;exact h { s with heap:=h' } (a.moved (t:=s.toks) hW nW nd hk) (Step.moved U s.toks hk hsz)
 self:=λi U s Q E hSt h=>wpAny_pyIter_rangeiter hSt h
noncomputable def zbT(k:Nat):List AV->List AV
 | []=>[]
 | x::xs=>.tup [.int k,x]::zbT (k+1) xs
def zbU:∀(xs:List AV) (k:Nat),(zbT k xs).length=xs.length
 | [],_=>rfl
 | _::xs,k=>by simp[zbT,zbU xs]
def ze1:∀(xs:List AV) (k i:Nat),(zbT k xs)[i]? = xs[i]?.map λx=>.tup [.int ((k+i:Nat):Int),x]
 | [],_,i=>rfl
 | x::xs,k,0=>rfl
 | x::xs,k,i+1=>by
  simp only[zbT,fAL,ze1 xs];have:k+1+i=k+(i+1):=zsl;rw[this]
def zlr(hh:A.handled=none){elts:List Expr}{x1:Nat}{pos:Pos}(e it b:Addr)(hne:e≠it)(x:AV)(xs:List AV) :
  ItOk X A (.Tuple elts x1 pos) (.ref e) (zdV x xs) (zbT 0 xs) (λc=>c=e\/c=it) (λi U h=>h.IsListIter it b i/\stL x b xs U/\∃old,IsEnum h e it i old) where
 stable:=λi U h U' h' ⟨⟨o,ho,r⟩,q,old,he⟩ kv k=>⟨⟨o,k _ _ (.inr rfl) ho,r⟩,q.mono kv,old,k _ _ (.inl rfl) he⟩
 there:=λi U h c ⟨⟨o,ho,hc,hd⟩,_,old,he⟩ q=>by
  rcases q with rfl|rfl
  .exact zc _ he (Plain.wD rfl rfl (by decide))
  .exact zc o ho (Plain.wD hc hd (by decide))
 item:=λi x U s Q Qn E hQn hx a hI hSt hW h=>by
  refine kC hSt λhit hq old he=>?_;refine zb (a.ofSt hI hq) λvs hl rv=>?_;rw[ze1] at hx;refine zb (fAA.mp hx) λy hy e23_2=>?_;subst e23_2;refine zb (rv.get hy) λv hv r=>?_;refine zl (id hit) λo ho hc hd=>?_;have nW:NoStay (λc=>c=e\/c=it) s.heap:=λc o' q e'=>by
   rcases q with rfl|rfl
   .rw[he] at e';obtain rfl:=Hw e';exact(Plain.wD (T:="enumerate") rfl rfl (by decide)).1
   .rw[ho] at e';obtain rfl:=Hw e';exact(Plain.wD hc hd (by decide)).1
  have nd:∀b o,b=e\/b=it->s.heap.get? b=some o->∀es n,o.data≠.dict es n:=λc o' q e'=>by
   rcases q with rfl|rfl
   .rw[he] at e';obtain rfl:=Hw e';exact(Plain.wD (T:="enumerate") rfl rfl (by decide)).2.1
   .rw[ho] at e';obtain rfl:=Hw e';exact(Plain.wD hc hd (by decide)).2.1
  refine wpAny_pyNext_enum_item he hit hl (by simpa using hv) hne λh' he' hit' htup hsz hk=>hQn _ _ ?_;refine wpAny_letOwnedTupleGo_enum he' λh'' he'' hs''=>?_;have hk':∀c o,¬(c=e\/c=it)->s.heap.get? c=some o->h''.get? c=some o:=λc o hc eo=>by
   have h1:c≠e:=λq=>hc (.inl q);have h2:c≠it:=λq=>hc (.inr q);exact(hs''.2 c h1).trans (hk c o h1 h2 eo)
  have kv:KeepV U s.heap U h'':=.mk' λc o' e st=>hk' c o' (λq=>nW c o' q e st) e;have hes:s.heap.objs.size≠e:=Nat.ne_of_gt (Heap.lt_size he);have hit'':h''.IsListIter it b (i+1):=by
   refine zb hit' λo3 ho3 r3=>?_;exact zc o3 ((hs''.2 it (Ne.symm hne)).trans ho3) r3
  refine h (.ref s.heap.objs.size) { s with heap:=h'',toks:=s.toks+1 } (.tup (vs:=[.int i s.toks,v]) (by simp) (qe _ ((hs''.2 _ hes).trans htup) rfl 0 rfl) (.cons ?_ (.cons (r.mono kv) .nil)))
   (a.moved (t:=s.toks+1) hW nW nd hk') (Step.moved U (s.toks+1) hk' (by rw[hs''.1,hsz];exact zxp)) (zaf hit'' hq v ?_)
  .have:((0+i:Nat):Int)=(i:Int):=by exact zxb
   rw[this];exact .int _ _
  .have:((i+1:Nat):Int)=(i:Int)+1:=by exact zxc
   exact he''
 done:=λU s Q E a hI hSt hW h=>by
  rw[zbU] at hSt;refine kC hSt λhit hq old he=>?_;refine zb (a.ofSt hI hq) λvs hl rv=>?_;refine zl (id hit) λo ho hc hd=>?_;have nW:NoStay (λc=>c=e\/c=it) s.heap:=λc o' q e'=>by
   rcases q with rfl|rfl
   .rw[he] at e';obtain rfl:=Hw e';exact(Plain.wD (T:="enumerate") rfl rfl (by decide)).1
   .rw[ho] at e';obtain rfl:=Hw e';exact(Plain.wD hc hd (by decide)).1
  have nd:∀b o,b=e\/b=it->s.heap.get? b=some o->∀es n,o.data≠.dict es n:=λc o' q e'=>by
   rcases q with rfl|rfl
   .rw[he] at e';obtain rfl:=Hw e';exact(Plain.wD (T:="enumerate") rfl rfl (by decide)).2.1
   .rw[ho] at e';obtain rfl:=Hw e';exact(Plain.wD hc hd (by decide)).2.1
  refine zK (wpAny_pyNext_enum_end hh he hit hl (by simp[rv.length]) λh' he' hsz=>?_);have hk:∀c o,¬(c=e\/c=it)->s.heap.get? c=some o->h'.get? c=some o:=λc o hc e=>he' c o (λq=>hc (.inr q)) e;exact h { s with heap:=h' } (a.moved (t:=s.toks) hW nW nd hk) (Step.moved U s.toks hk hsz)
 self:=λi U s Q E hSt h=>by
  refine kC hSt λ_ _ old he=>?_;exact wpAny_pyIter_enum he h
end
noncomputable def cl1(cells:List (Str×Addr))(p:Str×NameKind)(acc:List (Str×Addr)):List (Str×Addr):=if p.2==.free then (match cells.lookup p.1 with|some c=>(p.1,c)::acc|none=>acc) else acc
noncomputable def clo(cells:List (Str×Addr))(names:List (Str×NameKind))(acc:List (Str×Addr)):List (Str×Addr):=names.foldl (λa p=>cl1 cells p a) acc
def zfO(cells:List (Str×Addr))(p:Str×NameKind)(acc:List (Str×Addr)):(cl1 cells p acc=acc/\(p.2 = .free->cells.lookup p.1=none))\/∃c,p.2 = .free/\cells.lookup p.1=some c/\cl1 cells p acc=(p.1,c)::acc:=by
 unfold cl1;cases hk:p.2==NameKind.free with
 | true=>
  cases hy:cells.lookup p.1 with
  | none=>exact .inl ⟨rfl,λ_=>rfl⟩
  | some c=>exact .inr ⟨c,H0 hk,rfl,rfl⟩
 | false=>exact .inl ⟨rfl,λe=>by rw[e] at hk;cases hk⟩
def zg0{env:Env}(f:Str×NameKind->List (Str×Addr)->Sem (ForInStep (List (Str×Addr))))
  (hf:∀n k cs,f (n,k) cs=if k==.free then (do let c <-cellOf env n;pure (.yield ((n,c)::cs))) else pure (.yield cs))(names:List (Str×NameKind)) :
  ∀(acc:List (Str×Addr)),(∀x,(x,NameKind.free)∈names->(env.cells.lookup x).isSome=true)->(forIn names acc f:Sem (List (Str×Addr)))=pure (clo env.cells names acc):=by
 induction names with
 | nil=>exact λ_ _=>rfl
 | cons p r ih=>
  intro acc h;have e:f p acc=pure (.yield (cl1 env.cells p acc)):=by
   refine(hf p.1 p.2 acc).trans ?_;unfold cl1;cases hk:p.2==NameKind.free with
   | false=>rfl
   | true=>
    obtain⟨c,hc⟩:=pV.mp (h p.1 (by rw[<-H0 hk];exact fA));unfold cellOf;rw[hc];rfl
  rw[List.forIn_cons,e];exact ih _ λy hy=>h y (fB _ hy)
def zaI{scope:Scope}{env:Env}(h:∀x,(x,NameKind.free)∈scope.names->(env.cells.lookup x).isSome=true):closureFor scope env=pure (clo env.cells scope.names []):=by
 unfold closureFor;simp only[bind_pure_comp];rw[zg0 (env:=env) _ (λn k cs=>?_) scope.names [] h]
 .rfl
 .simp
def zj7{cells:List (Str×Addr)}(names:List (Str×NameKind)):∀(acc:List (Str×Addr)) {x:Str} {c:Addr},(x,c)∈clo cells names acc->(x,c)∈acc\/(cells.lookup x=some c/\(x,NameKind.free)∈names):=by
 induction names with
 | nil=>exact λ_ _ _ h=>.inl h
 | cons p r ih=>
  intro acc x c h
  rcases ih (cl1 cells p acc) h with q|q
  .rcases zfO cells p acc with e|⟨d,hk,hy,e⟩
   .rw[e.1] at q;exact .inl q
   .rw[e] at q
    rcases fG.mp q with e|q
    .have e1:x=p.1:=congrArg Prod.fst e;have e2:c=d:=congrArg Prod.snd e;rw[e1,e2,<-hk];exact .inr ⟨hy,fA⟩
    .exact .inl q
  .exact .inr ⟨q.1,fB _ q.2⟩
def zo6{cells:List (Str×Addr)}(names:List (Str×NameKind)):∀(acc:List (Str×Addr)) {p:Str×Addr},p∈acc->p∈clo cells names acc:=by
 induction names with
 | nil=>exact λ_ _ h=>h
 | cons q r ih=>
  intro acc p h
  rcases zfO cells q acc with e|⟨d,_,_,e⟩
  .exact ih (cl1 cells q acc) (e.1.symm▸h)
  .exact ih (cl1 cells q acc) (e▸fB _ h)
def ziM{cells:List (Str×Addr)}{x:Str}{c:Addr}(hc:cells.lookup x=some c)(names:List (Str×NameKind)):∀(acc:List (Str×Addr)),(x,NameKind.free)∈names->(x,c)∈clo cells names acc:=by
 induction names with
 | nil=>exact λ_ h=>nomatch h
 | cons p r ih=>
  intro acc h
  rcases fG.mp h with e|h
  .subst e;refine zo6 r _ ?_;show _∈(match cells.lookup x with|some c=>(x,c)::acc|none=>acc);rw[hc];exact fA
  .exact ih _ h
def zk8{cells:List (Str×Addr)}(hp:cells.Pairwise λx y=>x.2≠y.2)(names:List (Str×NameKind)):∀(acc:List (Str×Addr)),(names.map (·.1)).Nodup->(∀x∈acc,cells.lookup x.1=some x.2/\x.1∉names.map (·.1))->
  (acc.Pairwise λx y=>x.2≠y.2)->(clo cells names acc).Pairwise λx y=>x.2≠y.2:=by
 induction names with
 | nil=>exact λ_ _ _ h=>h
 | cons p r ih=>
  intro acc hn ha h;have hn':=fX.mp hn;have ha':∀x∈acc,cells.lookup x.1=some x.2/\x.1∉r.map (·.1):=λx hx=>⟨(ha x hx).1,λq=>(ha x hx).2 (fB _ q)⟩
  refine ih (cl1 cells p acc) hn'.2 ?_ ?_
  .rcases zfO cells p acc with e|⟨d,_,hy,e⟩
   .rw[e.1];exact ha'
   .rw[e];exact fO.mpr ⟨⟨hy,hn'.1⟩,ha'⟩
  .rcases zfO cells p acc with e|⟨d,_,hy,e⟩
   .rw[e.1];exact h
   .rw[e];refine gK.mpr ⟨λq hq e=>?_,h⟩;have h1:=(ha q hq).1;rw[<-show d=q.2 from e] at h1;exact(ha q hq).2 (name_of_addr hp (mem_of_lookup hy) (mem_of_lookup h1)▸fA)
structure CompOk(sc:List (Str×NameKind))(nm:List (Str×Nat))(N:Nat)(names:List (Str×NameKind))(nm':List (Str×Nat))(k:Nat):Prop where
 nodup:(names.map (·.1)).Nodup
 kinds:∀x kd,(x,kd)∈names->kd = .local\/kd = .globalImplicit\/(kd = .free/\sc.lookup x=some .cell/\∃i,nm.lookup x=some i/\nm'.lookup x=some i)
 vars:∀x i,nm'.lookup x=some i->(names.lookup x=some .local/\N<=i/\i<N+k)\/(names.lookup x=some .free/\nm.lookup x=some i)
 inj:∀x y i,nm'.lookup x=some i->nm'.lookup y=some i->x=y
 len:kg nm'=N+k
def ki{J:Type}:∀{l:List (Str×J)} {n:Str} {c:J},l.lookup n=some c->(n,c)∈l:=mem_of_lookup
def jE{J:Type}{r:List (Str×J)}{n k:Str}{v:J}(h:n≠k):List.lookup n ((k,v)::r)=r.lookup n:=by rw[gY,beq_eq_false_iff_ne.mpr h]
def jW{J:Type}{l:List (Str×J)}{n:Str}{c:J}:(l.map (·.1)).Nodup->(n,c)∈l->l.lookup n=some c:=by
 induction l with
 | nil=>exact λ_ h=>nomatch h
 | cons p r ih=>
  intro hn h;have hn':=fX.mp hn
  rcases fG.mp h with e|h
  .rw[<-e,gY,beq_self_eq_true]
  .exact(jE λe:n=p.1=>hn'.1 (show p.1∈_ from e▸pE (f:=(·.1)) h)).trans (ih hn'.2 h)
section
variable{X:Cx}{env:Env}{nm nm':List (Str×Nat)}{l:Loc}{U:AHeap}{s:Shared}{scope:Scope}{N k:Nat}
def zci(EO:EnvOk env)(CK:CompOk env.scope.names nm N scope.names nm' k)(cl:List (Str×Addr))(C:Addr)(x:Str) :
  (scope.names.lookup x=some .local->(compEnvC scope cl C env).kindOf x=some .local)/\(scope.names.lookup x=some .free->(compEnvC scope cl C env).kindOf x=some .cell):=by
 have gen:∀(names:List (Str×NameKind)),(∀x,(x,NameKind.free)∈names->env.kindOf x=some .cell)->
   (names.lookup x=some .local->(names.map λ(n,k)=>if (k==NameKind.free&&env.scope.kind==.function&&env.kindOf n==some .cell) then (n,NameKind.cell) else (n,k)).lookup x=some .local)/\
   (names.lookup x=some .free->(names.map λ(n,k)=>if (k==NameKind.free&&env.scope.kind==.function&&env.kindOf n==some .cell) then (n,NameKind.cell) else (n,k)).lookup x=some .cell):=by
  intro names
  induction names with
  | nil=>intro _;exact⟨λh=>by simp at h,λh=>by simp at h⟩
  | cons p r ih=>
   intro hk;obtain⟨n,kd⟩:=p;have ih':=ih λy hy=>hk y (fB _ hy);simp only[gG,gY]
   by_cases hx:(x==n)=true
   .have hxn:=beq_iff_eq.mp hx;subst hxn;simp only[beq_self_eq_true];refine⟨λh=>?_,λh=>?_⟩
    .obtain rfl:=Hw h;simp
    .obtain rfl:=Hw h;have:=hk x fA;simp[EO.kind,this]
   .have hx':(x==n)=false:=by simpa using hx
    simp only[hx']
    by_cases hc:(kd==NameKind.free&&env.scope.kind==.function&&env.kindOf n==some .cell)=true
    .rw[if_pos hc,gY,hx'];exact ih'
    .rw[if_neg hc,gY,hx'];exact ih'
 refine gen scope.names λy hy=>?_
 rcases CK.kinds y .free hy with h|h|⟨_,h,_⟩
 .cases h
 .cases h
 .exact h
def CompOk.closure(F:FR X env nm l U s.heap)(CK:CompOk env.scope.names nm N scope.names nm' k):∀x,(x,NameKind.free)∈scope.names->(env.cells.lookup x).isSome=true:=λx hx=>by
 rcases CK.kinds x .free hx with h|h|⟨_,h,i,hi,_⟩
 .cases h
 .cases h
 .refine z0 (F.cell x i hi h) λc v hc _=>?_;rw[hc];rfl
def ziQ(EO:EnvOk env)(CK:CompOk env.scope.names nm N scope.names nm' k)(hk:scope.kind = .function)(C:Addr):EnvOk (compEnvC scope (clo env.cells scope.names []) C env) where
 kind:=hk
 glob:=EO.glob
 bi:=EO.bi
 apart:=zk8 EO.apart _ _ CK.nodup (λ_ h=>nomatch h) .nil
def zpd(EO:EnvOk env)(F:FR X env nm l U s.heap)(hl:l.length=N)(CK:CompOk env.scope.names nm N scope.names nm' k){h':Heap}{C:Addr}(hk:∀b o,s.heap.get? b=some o->h'.get? b=some o)
  (hC:h'.Ns C λ_=>none)(hσC:U C=none)(hCnew:X.h₀.get? C=none) :
  FR X (compEnvC scope (clo env.cells scope.names []) C env) nm' (l++List.replicate k none) U h':=by
 have kv:KeepV U s.heap U h':=.ext hk;refine⟨(zc _ hC (λx i hx hkx=>?_)),λx i hx hkx=>?_,⟨hσC,hCnew⟩,⟨λx i hx=>?_,CK.inj⟩,by rw[fE,fA5,hl,CK.len],λx c hx=>?_⟩
 .rcases CK.vars x i hx with⟨_,h1,h2⟩|⟨h1,_⟩
  .have:(l++List.replicate k none).getD i none=none:=by
    rw[fS,pF (by exact zqw hl h1),List.getElem?_replicate];split<;>rfl
   rw[this];trivial
  .rw[(zci EO CK _ C x).2 h1] at hkx;cases hkx
 .rcases CK.vars x i hx with⟨h1,_⟩|⟨h1,h2⟩
  .rw[(zci EO CK _ C x).1 h1] at hkx;cases hkx
  .have hm:=ki h1
   rcases CK.kinds x .free hm with h|h|⟨_,h,_⟩
   .cases h
   .cases h
   .refine zn (F.cell x i h2 h) λc v hc hcc hr=>?_;refine zL c v ?_ (hcc.keeps hk) ?_
    .have h3:(x,c)∈clo env.cells scope.names []:=ziM hc _ _ hm;cases h4:(clo env.cells scope.names []).lookup x with
     | none=>
      exfalso;have:=List.lookup_eq_none_iff.mp h4 (x,c) h3;simp at this
     | some c'=>
      rcases zj7 _ _ (ki h4) with q|⟨q,_⟩
      .cases q
      .rw[hc] at q;obtain rfl:=Hw q;exact h4
    .have hi:i<l.length:=F.nmok.1 x i h2;rw[fS,gW hi,<-fS];exact hr.mono kv
 .rw[fE,fA5,hl]
  rcases CK.vars x i hx with⟨_,h1,h2⟩|⟨_,h2⟩
  .exact zuQ h2
  .have:=F.nmok.1 x i h2;exact zDv hl this
 .rcases zj7 _ _ hx with q|⟨q,_⟩
  .cases q
  .refine kC (F.outc x c (ki q)) λh1 h2 v h3=>?_;exact zaf h1 h2 v (h3.keeps hk)
end
def zqX(c:Option AE)(d:Dp)(l:Loc)(Q:Bool->AHeap->Prop)(U:AHeap):Prop:=
 match c with
 | none=>Q true U
 | some m=>m d l (isB Q) (λ_ _=>False) U
noncomputable def zaJ(I:AHeap->Prop)(t:Tgt)(c:Option AE)(elt:AE)(d:Dp)(Q:List AV->AHeap->Prop):List AV->List AV->Loc->AHeap->Prop
 | [],acc,l,U=>Q acc U
 | x::xs,acc,l,U=>∃l',j5 t x l=some l'/\zqX c d l' (λok σ1=>cB ok (elt d l' (λv σ2=>I σ2/\acc.length<1000000/\zaJ I t c elt d Q xs (acc++[v]) l' σ2) (λ_ _=>False) σ1)
   (I σ1/\zaJ I t c elt d Q xs acc l' σ1)) U
noncomputable def zfD(X:Cx)(env:Env)(nm:List (Str×Nat)):List Expr->Option AE->Prop
 | [],none=>True
 | [e],some m=>qB X env nm e m
 | _,_=>False
def zaZ(vs:List Value)(n:Nat):¬qs (zO vs n):=by
 rintro(⟨h,_⟩|⟨h,_⟩|⟨_,_,h,_⟩)<;>simp[zO] at h
def zcc(vs:List Value)(n:Nat):∀es m,(zO vs n).data≠.dict es m:=λ_ _=>nofun
def ltA{h:Heap}{a:Nat}{o:Obj}(e:h.get? a=some o):a<h.objs.size:=Heap.lt_size e
def neA{a b:Nat}(h:¬a=b):¬a=b:=h
def leA{a b:Nat}(h:a<=b):a<=b:=h
section
variable{X:Cx}{A:Around}
def zeG{elt target iter:Expr}{ifs:List Expr}{scope:Scope}{pos:Pos}{it acc:Value}{env:Env}{R:Result->Shared->Prop}{s:Shared}(Ja:Nat->Shared->Prop)
  (turn:∀n s,Ja n s->wpAny X.M A (pyNext it) (λr s₁=>match r with
   | none=>R (.ok .next) s₁
   | some v=>wpAny X.M A (letOwnedTupleGo target it v) (λ_ s₁'=>wpAny X.M A (assign target env v) (λ_ s₂=>
     wpAny X.M A (forIn ifs true λc r=>if r=true then do let ok <-isTrue c env (eval c env);pure (ForInStep.yield ok) else pure (ForInStep.yield r)) (λok s₃=>
      if ok=true then wpAny X.M A (eval elt env) (λx s₄=>wpAny X.M A (call (.builtin "list.append") [acc,x]) (λ_ s₅=>∃m,m<n/\Ja m s₅) (λ_ _=>False) s₄) (λ_ _=>False) s₃
      else ∃m,m<n/\Ja m s₃) (λ_ _=>False) s₂) (λ_ _=>False) s₁') (λ_ _=>False) s₁) (λ_ _=>False) s)
  (n:Nat)(h:Ja n s):Hi X.M A (.compLoop (.ListComp elt [⟨target,iter,ifs,0⟩] scope pos) 0 it acc env) R s:=by
 refine codeAny_loop rfl Ja (λn s hI=>?_) n h;show wpAny _ A ((compTurn (.ListComp elt [⟨target,iter,ifs,0⟩] scope pos) 0 it acc env).onRaise (λx=>do noteFrame x env;theTreesLotGoes x)) _ _ s;refine wpAny_noted ?_;rw[compTurn_list];refine G6 (Hg (G6 (G8 (turn n s hI) (λr s₁ h₁=>?_) λ_ _ h'=>h'.elim)));cases r with
 | none=>exact G7 h₁
 | some v=>
  refine G6 (G8 h₁ (λ_ s₁' h₁'=>?_) λ_ _ h'=>h'.elim);refine G6 (G8 h₁' (λ_ s₂ h₂=>G6 (G8 h₂ (λok s₃ h₃=>?_) λ_ _ h'=>h'.elim)) λ_ _ h'=>h'.elim);cases ok with
  | false=>exact G7 ⟨rfl,h₃⟩
  | true=>
   exact G6 (G6 (G8 h₃ (λx s₄ h₄=>G6 (G8 h₄ (λ_ s₅ h₅=>G7 (G7 ⟨rfl,h₅⟩)) λ_ _ h'=>h'.elim)) λ_ _ h'=>h'.elim))
def zij{env:Env}{nm:List (Str×Nat)}{ifs:List Expr}{c:Option AE}{d:Dp}{l:Loc}{U:AHeap}{s:Shared}{Q:Bool->AHeap->Prop}{R:Bool->Shared->Prop}(hc:zfD X env nm ifs c)(L:Live X d A)(a:At X U s)(F:FR X env nm l U s.heap)
  (h:zqX c d l Q (vis U))(k:∀b s',liftB X U s Q b s'->R b s') :
  wpAny X.M A (forIn ifs true λc r=>if r=true then do let ok <-isTrue c env (eval c env);pure (ForInStep.yield ok) else pure (ForInStep.yield r)) R (λ_ _=>False) s:=by
 match ifs,c,hc with
 | [],none,_=>exact wpAny_tests_nil (k _ _ (zv U a (.refl ..) h))
 | [e],some m,hc=>exact wpAny_tests_one (G8 (hc d A l U s Q (λ_ _=>False) L a F h) (λb s' x=>k b s' x) λ_ _ x=>noX x)
def At.adopt{U:AHeap}{s:Shared}(a:At X U s){D:Addr}{ao:AO}(hD:U D=none)(h0:X.h₀.get? D=none)(hL':D∉X.fr)(hr:KeepV U s.heap (U.set D ao) s.heap->RepA X (U.set D ao) s.heap D ao):At X (U.set D ao) s:=by
 have kv:KeepV U s.heap (U.set D ao) s.heap:=(KeepV.ext λ_ _ e=>e).set (zgj hD);refine⟨a.keep,λb bo e=>?_,λb bo e hro=>?_,a.gens,a.os,λL hL=>⟨?_,(a.ff L hL).2⟩⟩
 .by_cases hb:b=D
  .subst hb;rw[AHeap.wA] at e;obtain rfl:=Hw e;exact hr kv
  .rw[AHeap.wB _ _ hb] at e;exact(a.rep b bo e).mono kv λ_ h=>h
 .by_cases hb:b=D
  .subst hb;exact h0
  .rw[AHeap.wB _ _ hb] at e;exact a.own b bo e hro
 .rw[AHeap.wB _ _ (by rintro rfl;exact hL' hL)];exact(a.ff L hL).1
def Step.adopt{B:Addr->Prop}{U U':AHeap}{s s':Shared}(st:Step B U s U' s'){D:Addr}{ao:AO}(hD:U' D=none)(hn:s.heap.objs.size<=D):Step B U s (U'.set D ao) s':=
 ⟨st.keep,st.keepD,λb h1 h2=>by
  by_cases hb:b=D
  .rw[hb];exact hn
  .rw[AHeap.wB _ _ hb] at h1;exact st.fresh b h1 h2,st.size,λb xs e=>zdo (zgj hD) b xs (st.frz b xs e)⟩
def zeZ{env:Env}{nm nm':List (Str×Nat)}{l:Loc}{U:AHeap}{s:Shared}{N k:Nat}{d:Dp}{elt target iter:Expr}{ifs:List Expr}{scope:Scope}{pos:Pos}{it:Value}{I:AHeap->Prop}{xs:List AV}{W:Addr->Prop}
  {St:Nat->AHeap->Heap->Prop}{t:Tgt}{c:Option AE}{m:AE}{Q:List AV->AHeap->Prop}{RR:Value->Addr->Result->Shared->Prop}{E:Value->Shared->Prop}
  (EO:EnvOk env)(L:Live X d A)(hdd:d.hd=false)(a:At X U s)(F:FR X env nm l U s.heap)(hl:l.length=N)(CK:CompOk env.scope.names nm N scope.names nm' k)(hk:scope.kind = .function)
  (IT:ItOk X A target it I xs W St)(hSt:St 0 U s.heap)(hW:∀b,W b->U b=none/\X.h₀.get? b=none)(hI:I (vis U))
  (ht:∀C,zaD (λb=>b=C) X (compEnvC scope (clo env.cells scope.names []) C env) nm' target t)(hc:∀C,zfD X (compEnvC scope (clo env.cells scope.names []) C env) nm' ifs c)(hm:∀C,zh X (compEnvC scope (clo env.cells scope.names []) C env) nm' elt m)
  (h:zaJ I t c m d Q xs [] (l++List.replicate k none) (vis U))
  (hRR:∀D C s' U' acc mC,D∉X.fr->s.heap.objs.size<=D->s.heap.objs.size<=C->D≠C->U' D=none->U' C=none->s'.heap.Ns C mC->(∃ys n,s'.heap.get? D=some (zO ys n)/\RepVs U' s'.heap acc ys/\acc.length<=1000000)->At X U' s'->Step W U s U' s'->Q acc (vis U')->RR (.ref D) C (.ok .next) s') :
  wpAny X.M A (newList []) (λacc s₃=>wpAny X.M A (newFunctionEnv scope env.globals (clo env.cells scope.names []) [] env.qual none .none (some env)) (λcenv s₄=>
   Hi X.M A (.compStart (.ListComp elt [⟨target,iter,ifs,0⟩] scope pos) 0 it acc { cenv with scope:=relabel scope env }) (RR acc cenv.locals) s₄) E s₃) E s:=by
 have hcell:∀y∈scope.names,y.2≠.cell:=λy hy e=>by
  obtain⟨x,kd⟩:=y
  rcases CK.kinds x kd hy with h|h|⟨h,_⟩<;>(dsimp only at e;rw[h] at e;cases e)
 refine wpAny_newObj_type (wpAny_newFunctionEnv hcell (by intro y hy;simp at hy) (λh₁ hns₁ hsb₁=>?_) hk);dsimp only at hns₁ hsb₁ ⊢;generalize hH2:s.heap.push { cls:=.type "list",dict:=none,data:=.seq ([]:List Value).toArray }=H2 at hns₁ hsb₁ ⊢;generalize hDD:s.heap.objs.size=D;generalize hCC:H2.objs.size=C at hns₁ hsb₁ ⊢;have hCD:C=D+1:=by rw[<-hCC,<-hH2,Heap.size_push,hDD]
 have old:∀b o,s.heap.get? b=some o->h₁.get? b=some o:=λb o e=>by
  have hb:=ltA e;exact hsb₁.extBut b o (neA (zAV hDD hCD hb)) (Heap.get?_push_of_some _ (hH2▸Heap.get?_push_of_some _ e))
 have hDobj:h₁.get? D=some (zO [] 0):=by
  refine hsb₁.extBut _ _ (neA (zuB hCD)) (Heap.get?_push_of_some _ ?_);rw[<-hH2,<-hDD];exact Heap.get?_push_size _ rfl
 have hσ:∀b,D<=b->U b=none:=λb hb=>a.none_of_size (by rw[hDD];exact hb);have hDfr:D∉X.fr:=λq=>by
  refine zdC (a.ff D q) λ_ o _ _ e _=>?_;have:=ltA e;exact zuv hDD this
 have hh₀:∀b,D<=b->X.h₀.get? b=none:=λb hb=>by
  cases e:X.h₀.get? b with
  | none=>rfl
  | some o=>have:=ltA (a.keep b o e);lia
 generalize hs1:({ s with heap:=h₁,toks:=s.toks+([]:List (Str×Value)).length }:Shared)=s1;have hs1h:s1.heap=h₁:=by rw[<-hs1]
 have hsz1:s1.heap.objs.size=C+1:=by rw[hs1h,hsb₁.1];simp[hCC]
 have kv1:KeepV U s.heap U s1.heap:=.ext λb o e=>by rw[hs1h];exact old b o e
 have a1:At X U s1:=by
  refine⟨λb o e=>by rw[hs1h];exact old b o (a.keep b o e),λb ao e=>(a.rep b ao e).mono kv1 λo ho=>by rw[hs1h];exact old b o ho,a.own,?_,?_,a.ffk λb o e=>by rw[hs1h];exact old b o e⟩
  .rw[<-hs1];exact a.gens
  .rw[<-hs1];exact a.os
 have F1:=zpd (X:=X) EO F hl CK (h':=s1.heap) (C:=C) (λb o e=>by rw[hs1h];exact old b o e) (by rw[hs1h];exact hns₁) (hσ C (zoT hCD)) (hh₀ C (zoT hCD));have hSt1:St 0 U s1.heap:=IT.stable _ _ _ _ _ hSt kv1 λb o _ e=>by rw[hs1h];exact old b o e
 let W':Addr->Prop:=λb=>W b\/D<=b
 have st1:Step W' U s U s1:=.same (λb o e _=>by rw[hs1h];exact old b o e) (by rw[hsz1,hDD];exact zyl hCD);have loop:Hi X.M A (.compLoop (.ListComp elt [⟨target,iter,ifs,0⟩] scope pos) 0 it (.ref D) (compEnvC scope (clo env.cells scope.names []) C env)) (RR (.ref D) C) s1:=by
  refine zeG (λj s2=>∃i l2 σ2 acc ys n,j=xs.length+1-i/\i<=xs.length/\At X σ2 s2/\FR X (compEnvC scope (clo env.cells scope.names []) C env) nm' l2 σ2 s2.heap/\Step W' U s σ2 s2/\I (vis σ2)/\St i σ2 s2.heap/\
   (∀b,W b->σ2 b=none/\X.h₀.get? b=none)/\σ2 D=none/\s2.heap.get? D=some (zO ys n)/\RepVs σ2 s2.heap acc ys/\acc.length<=1000000/\C<s2.heap.objs.size/\zaJ I t c m d Q (xs.drop i) acc l2 (vis σ2)) ?_ (xs.length+1)
   (zai 0 _ U [] [] 0 rfl (fT _) a1 F1 st1 hI hSt1 hW (hσ D (fN _)) (by rw[hs1h];exact hDobj) .nil (fT _) (zyj hsz1) h)
  intro j s2 hR1;refine zaa hR1 λi l2 σ2 acc ys n e1_6 hi a2 F2 st2 hI2 hSt2 hW2 hD2 hDo rys hacc2 hC2 hf=>?_;subst e1_6;have noW:NoStay W s2.heap:=λb o hb e=>by refine zl (IT.there i _ _ b hSt2 hb) λo' e' h' _=>?_;rw[e] at e';obtain rfl:=Hw e';exact h'
  have ndW:∀{i U h b o},St i U h->W b->h.get? b=some o->∀es n,o.data≠.dict es n:=λ{i U h b o} hs hb e=>by
   refine zE (IT.there i _ _ b hs hb) λo' e' _ h1 _=>?_;rw[e] at e';obtain rfl:=Hw e';exact h1
  have dis:∀b,FB (compEnvC scope (clo env.cells scope.names []) C env) b->¬W b:=λb hb hw=>by
   refine zE (IT.there i _ _ b hSt2 hw) λo' e' _ h1 h2=>?_
   rcases hb with hb|⟨x,hx⟩
   .refine zb F2.ns λ_ h5_1 _=>?_;refine jk h5_1 λo es ep ho hd _=>?_;rw[<-hb,e'] at ho;obtain rfl:=Hw ho;exact h1 _ _ hd
   .refine zbR (F2.outc x b hx) λ_ _ v o ho hd=>?_;rw[ho] at e';obtain rfl:=Hw e';exact h2 _ hd
  have disD:¬W D:=λhw=>by
   refine zb (IT.there 0 _ _ D hSt hw) λo' e' _=>?_;have:=ltA e';exact zuv hDD this
  have hDF:¬FB (compEnvC scope (clo env.cells scope.names []) C env) D:=λhb=>by
   rcases hb with h|⟨x,hx⟩
   .have h:D=C:=h;exact zxZ hCD h
   .refine zbR (F2.outc x D hx) λ_ _ v o ho hd=>?_;rw[hDo] at ho;obtain rfl:=Hw ho;cases hd
  cases hx:xs[i]? with
  | none=>
   have hil:i=xs.length:=fBE hi (fCD.mp hx);subst hil;refine IT.done σ2 s2 _ _ a2 hI2 hSt2 hW2 λs3 a3 st3=>?_;rw[fCO] at hf;refine zb ((F2.stepB a2 st3 dis noW).ns) λmC hmC _=>?_;have hDo3:s3.heap.get? D=some (zO ys n):=st3.keep _ _ hDo hD2 disD (zcc _ _);have kv3:KeepV σ2 s2.heap σ2 s3.heap:=st3.keepV a2 noW;have st3':Step W' U s σ2 s3:=st2.trans (st3.weaken λb hb=>.inl hb);have stF:Step W U s σ2 s3:=st3'.drop (B:=W) λb hb=>hb.imp id λq=>by rw[hDD];exact q
   exact hRR D C s3 σ2 acc mC hDfr (zsg hDD) (zzn hDD hCD) (zyk hCD) hD2 F2.out.1 hmC (zL ys n hDo3 (rys.mono kv3) hacc2) a3 stF hf
  | some x=>
   have hlt:i<xs.length:=(fY.mp hx).1;have hd:xs.drop i=x::xs.drop (i+1):=by rw[pR hlt,(fY.mp hx).2]
   rw[hd] at hf;refine zb hf λl3 hb3 hf=>?_;refine IT.item i x σ2 s2 _ _ _ (λv s3 hr=>hr) hx a2 hI2 hSt2 hW2 λv s3 rv a3 st3 hSt3=>?_;have F3:=F2.stepB a2 st3 dis noW;have hDo3:s3.heap.get? D=some (zO ys n):=st3.keep _ _ hDo hD2 disD (zcc _ _);have rys3:=rys.mono (st3.keepV a2 noW);refine ht C d A l2 l3 σ2 s3 x v _ _ L hdd a3 F3 rv hb3 λs4 F4 a4 st4=>?_;have noC:NoStay (λb=>b=C) s3.heap:=λb o hb e=>F3.noStay b o (.inl hb) e;have hDo4:s4.heap.get? D=some (zO ys n):=st4.keep _ _ hDo3 hD2 (by show ¬D=C;exact zuB hCD) (zcc _ _);have rys4:=rys3.mono (st4.keepV a3 noC);have hSt4:St (i+1) σ2 s4.heap:=IT.stable _ _ _ _ _ hSt3 (st4.keepV a3 noC) λb o hb e=>st4.keep b o e (hW2 b hb).1 (λq=>dis b (.inl q) hb) (ndW hSt3 hb e);refine zij (hc C) L a4 F4 hf λok s5 hpx=>?_;refine zl hpx λσ5 a5 st5 q5=>?_;have hD5:σ5 D=none:=st5.gone hDo4 hD2;have F5:=F4.step a4 st5;have hDo5:s5.heap.get? D=some (zO ys n):=st5.keep _ _ hDo4 hD2 id (zcc _ _);have rys5:=rys4.mono (st5.keepV0 a4);have out5:∀b,W b->σ5 b=none/\X.h₀.get? b=none:=λb hb=>⟨by refine zb (IT.there _ _ _ b hSt4 hb) λo ho _=>?_;exact st5.gone ho (hW2 b hb).1,(hW2 b hb).2⟩
   have hSt5:St (i+1) σ5 s5.heap:=IT.stable _ _ _ _ _ hSt4 (st5.keepV0 a4) λb o hb e=>st5.keep b o e (hW2 b hb).1 id (ndW hSt4 hb e);have stA5:Step W' U s σ5 s5:=st2.trans ((st3.weaken λb hb=>.inl hb).trans ((st4.weaken λb hb=>.inr (leA (by have hb:@Eq Nat b C:=hb;exact zzL hCD (by assumption)))).trans (st5.weaken λb hb=>hb.elim)));have hC5:C<s5.heap.objs.size:=pC hC2 (fF st3.size (fF st4.size st5.size));cases ok with
   | false=>
    simp only[gH,if_false];exact jS (xs.length+1-(i+1)) (zqs hlt) (i+1) l3 σ5 acc ys n rfl hlt a5 F5 stA5 q5.1 hSt5 out5 hD5 hDo5 rys5 hacc2 hC5 q5.2
   | true=>
    simp only[if_true];refine G8 (hm C d A l3 σ5 s5 _ _ L a5 F5 q5) (λy s6 hpx=>?_) λ_ _ x=>noX x;refine zdE hpx λav σ6 r6 a6 st6 hI6 hsz6 hf6=>?_;have hD6:σ6 D=none:=st6.gone hDo5 hD5;have F6:=F5.step a5 st6;have hDo6:s6.heap.get? D=some (zO ys n):=st6.keep _ _ hDo5 hD5 id (zcc _ _);have rys6:=rys5.mono (st6.keepV0 a5);have hSt6:St (i+1) σ6 s6.heap:=IT.stable _ _ _ _ _ hSt5 (st6.keepV0 a5) λb o hb e=>st6.keep b o e (out5 b hb).1 id (ndW hSt5 hb e);have out6:∀b,W b->σ6 b=none/\X.h₀.get? b=none:=λb hb=>⟨by refine zb (IT.there _ _ _ b hSt5 hb) λo ho _=>?_;exact st6.gone ho (out5 b hb).1,(hW2 b hb).2⟩
    refine wpAny_list_append_plain (items:=ys.toArray) ⟨n,hDo6⟩ (λh7 ⟨n7,hl7⟩ hs7=>?_) (by
     have:=rys6.length;rw[Ha];simp;exact zyg hsz6 this)
    have kv7:KeepV σ6 s6.heap σ6 h7:=.mk' λb o e stb=>by
     have hb:b≠D:=by rintro rfl;rw[hDo6] at e;obtain rfl:=Hw e;exact zaZ _ _ stb
     exact(hs7.2 b hb).trans e
    have a7:At X σ6 { s6 with heap:=h7 }:=a6.aside (t:=s6.toks) (h':=h7) hD6 (hh₀ D (fN _)) (λo e=>by rw[hDo6] at e;obtain rfl:=Hw e;exact zaZ _ _) (λq=>absurd q hDfr) hs7;have st7:Step (λb=>b=D) σ6 s6 σ6 { s6 with heap:=h7 }:=Step.aside (t:=s6.toks) (h':=h7) rfl hs7;have noD:NoStay (λb=>b=D) s6.heap:=λb o hb e=>by subst hb;rw[hDo6] at e;obtain rfl:=Hw e;exact zaZ _ _
    have F7:=F6.stepB a6 st7 (λb hb q=>hDF (q▸hb)) noD;refine jS (xs.length+1-(i+1)) (zqs hlt) (i+1) l3 σ6 (acc++[av]) (ys++[y]) n7 rfl hlt a7 F7 (stA5.trans ((st6.weaken λb hb=>hb.elim).trans (st7.weaken λb hb=>.inr (leA (by have hb:@Eq Nat b D:=hb;exact zqt (by assumption)))))) hI6 (IT.stable _ _ _ _ _ hSt6 kv7 λb o hb e=>(hs7.2 b λq=>disD (q▸hb)).trans e) out6 hD6 ?_ ((rys6.mono kv7).append (.cons (r6.mono kv7) .nil)) (by rw[fE];exact hsz6) ?_ hf6
    .have:(ys.toArray.push y)=(ys++[y]).toArray:=by simp
     rw[this] at hl7;exact hl7
    .show C<h7.objs.size;rw[hs7.1];exact pC hC5 st6.size
 show Hi X.M A (.compStart (.ListComp elt [⟨target,iter,ifs,0⟩] scope pos) 0 it (.ref D) (compEnvC scope (clo env.cells scope.names []) C env)) (RR (.ref D) C) s1;exact codeAny_compStart_list loop (IT.self 0 U s1 _ _ hSt1 loop)
end
def RepVs.mem{U:AHeap}{h:Heap}{xs:List AV}{vs:List Value}(r:RepVs U h xs vs):∀v∈vs,∃x∈xs,RepV U h x v:=by
 induction xs generalizing vs with
 | nil=>obtain rfl:=RepVs.wG r;intro v hv;cases hv
 | cons y xs ih=>
  obtain⟨_,_,rfl,a,r⟩:=RepVs.wF r;intro v hv
  rcases fG.mp hv with e|hv
  .subst e;exact zc _ fA a
  .obtain⟨x,hx,q⟩:=ih r v hv;exact zc x (fB _ hx) q
section
variable{prog:Hh}{w:World}
def zds(prog:Hh)(w:World)(h:Heap)(n:Nat)(v:Value)(x:Int)(dr:Nat):Prop:=
 ∀(A:Around) (E:Value->Shared->Prop) (s:Shared) (Q:Int->Shared->Prop),s.heap=h->A.units+n<cLine->Q x { s with toks:=s.toks+dr }->wpAny (model prog w) A (pyHash v) Q E s
inductive HashAll(prog:Hh)(w:World)(h:Heap)(n:Nat):List Value->List Int->Nat->Prop
 | nil:HashAll prog w h n [] [] 0
 | cons {v x dr vs xs drs}:zds prog w h n v x dr->HashAll prog w h n vs xs drs->HashAll prog w h n (v::vs) (x::xs) (dr+drs)
def ziV{h:Heap}{n:Nat}(x:Str)(t:Tok):zds prog w h n (.str x t) (hashStr w x) 1:=λA E s Q _ _ hq=>wpAny_pyHash_str hq
def ziU{h:Heap}{n:Nat}(x:Int)(t:Tok):zds prog w h n (.int x t) (hashInt x) 1:=λA E s Q _ _ hq=>wpAny_pyHash_int hq
def zb0{h:Heap}{n:Nat}{a:Addr}{vs:List Value}{xs:List Int}{dr:Nat}(ht:IsTup h a vs.toArray)(hi:HashAll prog w h n vs xs dr):zds prog w h (n+10) (.ref a) (reduceHash (Builtin.Tuple.tupleHashOf xs)) (dr+1):=λA E s Q hs hu hq=>by
 subst hs;refine jz ht λo ho hc m hd=>?_;have hT:s.TypeIs (.ref a) "tuple":=(zc o ho hc)
 first|unfold pyHashByItsType|skip
 first|refine G6 (wpAny_cRoomFor_or (.inr (zyY hu)) ?_)|skip
 refine G6 (wpAny_specialOf hT F.slot_tuple_hash.lookup ?_);rw[if_neg (by rw[beq_builtin_none];exact pW)];refine G6 (wpAny_specialOf hT F.slot_tuple_hash.lookup ?_);refine G6 (wpAny_callSpecialIfBoundUnlessNone?_slot hT F.slot_tuple_hash (Hd F.slot_tuple_hash hT F.entry_tuple_hash ?_ (F.args_tuple_hash_1 _)));show wpAny _ _ (Builtin.Tuple.tupleItemsOf (.ref a) >>= _) _ _ s;refine G6 (wpAny_tupleItemsOf ho hd ?_);refine G6 ?_;rw[<-fBG];refine Hc _
  (λrest (b:Array Int) s'=>∃(left:List Int) (d1 d2:Nat),xs=b.toList++left/\HashAll prog w s.heap n rest left d2/\dr=d1+d2/\s'={ s with toks:=s.toks+d1 })
  _ ?_ ?_ _ _ (jI xs 0 dr rfl hi (by simp) rfl)
 .intro v rest b s' hR1;refine zcy hR1 λleft d1 d2 hx hl hdr e2_6=>?_;subst e2_6;cases hl with
  | @cons _ x0 e1 _ xs' e2 h1 hl'=>
   refine G6 (h1 _ _ _ _ rfl ?_ ?_)
   .have:∀B:Around,B.units<=A.units+9->B.units+n<cLine:=λB hB=>by exact zAp hu hB
    exact this _ (by show A.units+_<=A.units+9;exact zxl)
   first
    | exact G7 (jI xs' (d1+e1) e2 (by simp[hx]) hl' (zAC hdr) (by simp[fAR]))
    | exact G6 (G7 (G7 ⟨xs',d1+e1,e2,by simp[hx],hl',by lia,by simp[fAR]⟩))
 .intro b s' hR2;refine zcy hR2 λleft d1 d2 hx hl hdr e3_6=>?_;subst e3_6;cases hl;rw[gQ] at hx;subst hdr;show wpAny _ _ (retInt (Builtin.Tuple.tupleHashOf b.toList)) _ _ _;rw[<-hx];refine wpAny_ret_mkInt ?_;show wpAny _ _ (if (decide (-(2:Int) ^ 63<=Builtin.Tuple.tupleHashOf xs)&&decide (Builtin.Tuple.tupleHashOf xs<2 ^ 63))=true then _ else _) Q E _;unfold reduceHash at hq
  by_cases hr:(decide (-(2:Int) ^ 63<=Builtin.Tuple.tupleHashOf xs)&&decide (Builtin.Tuple.tupleHashOf xs<2 ^ 63))=true
  .rw[if_pos hr];rw[if_pos hr] at hq;exact G7 (by simpa [fAR] using hq)
  .rw[if_neg hr];rw[if_neg hr] at hq;exact G6 (Hb (G7 (by simpa [fAR] using hq)))
end
section
variable{prog:Hh}{w:World}
def zbJ(prog:Hh)(w:World)(h:Heap)(k:Nat)(v:Value):Prop:=
 ∀(A:Around) (E:Value->Shared->Prop) (s:Shared) (Q:Bool->Shared->Prop),s.heap=h->Q true s->wpAny (model prog w) A (eqIsQuiet k v) Q E s
def zhX{h:Heap}{k:Nat}{v:Value}(hv:carriedByValue v=true):zbJ prog w h k v:=λA E s Q _ hq=>by
 rw[eqIsQuiet_byValue _ hv];exact G7 hq
def zbq{h:Heap}{k:Nat}{a:Addr}{vs:List Value}(ht:IsTup h a vs.toArray)(hi:∀v∈vs,zbJ prog w h k v):zbJ prog w h (k+1) (.ref a):=λA E s Q hs hq=>by
 subst hs;refine jz ht λo ho hc m hd=>?_;have hT:s.TypeIs (.ref a) "tuple":=(zc o ho hc)
 unfold eqIsQuiet;refine G6 (wpAny_specialOf hT F.slot_tuple_eq.lookup ?_);refine G6 (wpAny_isInstance hT isSubtype_tuple_tuple ?_);simp only[fCL,gH,if_false];refine G6 (wpAny_seqItems ho hd ?_);refine G6 ?_;rw[<-fBG];refine Hc _ (λrest r s'=>r.1=none/\s'=s/\∀v∈rest,zbJ prog w s.heap k v) _ ?_ ?_ _ _ (zq rfl rfl hi)
 .intro v rest r s' hR3;refine jg hR3 λhr e4_1 hall=>?_;subst e4_1;refine G6 (hall v fA _ _ _ _ rfl ?_);simp only[fCL,gH,if_false];exact G7 (zq rfl rfl (λu hu'=>hall u (fB _ hu')))
 .intro hR4;obtain⟨r1,r2⟩:=hR4;intro s' hR5;refine jg hR5 λhr e6_1 _=>?_;subst e6_1;simp only at hr;subst hr;exact G7 hq
end
noncomputable def mkD(m:zd):PyData:=.tuple [.str (zx m.1.toNat),.int m.2]
section
variable{prog:Hh}{w:World}{U:AHeap}{h:Heap}
def zhH{m:zd}{v:Value}(r:RepV U h (zD m) v):∃a t u,v = .ref a/\IsTup h a [Value.str (zx m.1.toNat) t,.int m.2 u].toArray/\(zD m=zD m/\2<=1000000/\m.1.toNat<kW):=by
 refine zi (RepV.wI r) λa vs z1 hl ht rs=>?_;refine zn (RepVs.wF rs) λv1 us z2 r1 rs=>?_;refine zn (RepVs.wF rs) λv2 us2 z3 r2 rs=>?_;refine zb (RepV.wK r1) λt z4 hn=>?_;refine zY (RepV.wC r2) λu z5=>?_;have z6:=RepVs.wG rs;subst z6 z5 z4 z3 z2;exact⟨a,t,u,z1,ht,rfl,hl,hn⟩
def kh{m:zd}{v:Value}(r:RepV U h (zD m) v):∃a t u,v = .ref a/\IsTup h a [Value.str (zx m.1.toNat) t,.int m.2 u].toArray:=
 jk (zhH r) λa t u z ht _=>zah a t u z ht
def zlN{m:zd}{v:Value}(r:RepV U h (zD m) v):zds prog w h 10 v (mkH w m) 3:=by
 refine jA (kh r) λa t u e5_3 ht=>?_;subst e5_3;exact zb0 (n:=0) ht (.cons (ziV _ _) (.cons (ziU _ _) .nil))
def zjd{m:zd}{v:Value}(r:RepV U h (zD m) v):zbJ prog w h 7 v:=by
 refine jA (kh r) λa t u e6_3 ht=>?_;subst e6_3;refine zbq ht λv hv=>zhX ?_;simp at hv
 rcases hv with rfl|rfl<;>rfl
def zju{ms:List zd}{vs:List Value}(r:RepVs U h (ms.map zD) vs):HashAll prog w h 10 vs (ms.map (mkH w)) (3*ms.length):=by
 induction ms generalizing vs with
 | nil=>obtain rfl:=RepVs.wG r;exact .nil
 | cons m ms ih=>
  refine zn (RepVs.wF r) λ_ _ z1 r0 rs=>?_;subst z1
  .have:=HashAll.cons (zlN (prog:=prog) (w:=w) r0) (ih rs);have e:3*(m::ms).length=3+3*ms.length:=by simp;exact zxh
   rw[e];exact this
def ze9{a:Addr}{vs us:List Value}(h1:IsTup h a vs.toArray)(h2:IsTup h a us.toArray):vs=us:=by
 refine jz h1 λo ho hc n hd=>?_;refine jz h2 λo' ho' hc' n' hd'=>?_;rw[ho] at ho';obtain rfl:=Hw ho';rw[hd] at hd';injection hd' with e;simpa using e
def znS{U':AHeap}{m:zd}{v:Value}(r:RepV U h (zD m) v):RepV U' h (zD m) v:=by
 refine jk (zhH r) λa t u z ht q=>?_;subst z;exact .tup q.2.1 ht (.cons (.str q.2.2 t) (.cons (.int _ u) .nil))
def zlO{U':AHeap}{ms:List zd}{vs:List Value}(r:RepVs U h (ms.map zD) vs):RepVs U' h (ms.map zD) vs:=by
 induction ms generalizing vs with
 | nil=>obtain rfl:=RepVs.wG r;exact .nil
 | cons m ms ih=>refine zn (RepVs.wF r) λ_ _ z1 r0 rs=>?_;subst z1;exact .cons (znS r0) (ih rs)
def zck{U':AHeap}{ms:List zd}{v:Value}(r:RepV U h (zA ms) v):RepV U' h (zA ms) v:=by
 refine zi (RepV.wI r) λ_ _ e10_2 hl ht rs=>?_;subst e10_2;exact .tup hl ht (zlO rs)
def znT{m m':zd}{v:Value}(r:RepV U h (zD m) v)(r':RepV U h (zD m') v):m=m':=by
 refine jA (kh r) λa t u e11_3 ht=>?_;subst e11_3;refine jA (kh r') λa' t' u' e ht'=>?_;cases e;have:=ze9 ht ht';simp at this;exact Prod.ext (side_inj.mp this.1.1) this.2.1
def zok{xs ys:List zd}{vs:List Value}(r:RepVs U h (xs.map zD) vs)(r':RepVs U h (ys.map zD) vs):xs=ys:=by
 induction xs generalizing ys vs with
 | nil=>obtain rfl:=RepVs.wG r;cases ys with
  | nil=>rfl
  | cons _ _=>exact zn (RepVs.wF r') λ_ _ z _ _=>nomatch z
 | cons x xs ih=>
  refine zn (RepVs.wF r) λ_ _ z1 r0 rs=>?_;subst z1
  .cases ys with
   | nil=>exact nomatch RepVs.wG r'
   | cons y ys=>refine zn (RepVs.wF r') λ_ _ z1 r' rs'=>?_;obtain⟨rfl,rfl⟩:=List.cons.inj z1;rw[znT r0 r',ih rs rs']
def jv{ms:List zd}{v:Value}(r:RepV U h (zA ms) v):∃a vs,v = .ref a/\IsTup h a vs.toArray/\RepVs U h (ms.map zD) vs:=by
 refine zi (RepV.wI r) λa vs e13_2 hl ht rs=>?_;subst e13_2;exact zL a vs rfl ht rs
def zje{m:zd}{v:Value}(r:RepV U h (zD m) v):Reads h v (mkD m) []:=by
 refine zg8 (kh r) λa t u e14_3 o ho hc n hd=>?_;subst e14_3;exact .tuple ho hc hd (.cons (.str _ _) (.cons (.int _ _) .nil))
def zhI{ms:List zd}{vs:List Value}(r:RepVs U h (ms.map zD) vs):ReadsAll h vs (ms.map mkD) []:=by
 induction ms generalizing vs with
 | nil=>obtain rfl:=RepVs.wG r;exact .nil
 | cons m ms ih=>refine zn (RepVs.wF r) λ_ _ z1 r0 rs=>?_;subst z1;exact ReadsAll.cons (as:=[]) (bs:=[]) (zje r0) (ih rs)
def zfo{ms:List zd}{v:Value}(r:RepV U h (zA ms) v):Reads h v (.tuple (ms.map mkD)) []:=by
 refine zn (jv r) λa vs e15_2 h15_3 rs=>?_;subst e15_2;refine jz h15_3 λo ho hc n hd=>?_;exact .tuple ho hc hd (zhI rs)
def zpO(m m':zd):PyData.eqv (mkD m) (mkD m')=decide (m=m'):=by
 obtain⟨a,b⟩:=m;obtain⟨c,d⟩:=m';simp[mkD,PyData.eqv,PyData.eqvAll,Prod.ext_iff]
 by_cases h1:a=c<;>by_cases h2:b=d<;>simp[h1,h2,side_inj]
def zpY(xs ys:List zd):PyData.eqvAll (xs.map mkD) (ys.map mkD)=decide (xs=ys):=by
 induction xs generalizing ys with
 | nil=>cases ys with
  | nil=>rfl
  | cons y ys=>simp[PyData.eqvAll]
 | cons x xs ih=>cases ys with
  | nil=>simp[PyData.eqvAll]
  | cons y ys=>
   simp only[gG,PyData.eqvAll,zpO,ih,List.cons.injEq]
   by_cases h1:x=y<;>by_cases h2:xs=ys<;>simp[h1,h2]
def zkD(ms:List zd):PyData.canLayAll0 (ms.map mkD)=true/\PyData.depthAll (ms.map mkD)<=5:=by
 induction ms with
 | nil=>exact⟨rfl,by simp[PyData.depthAll]⟩
 | cons m ms ih=>
  have h1:PyData.strOk (zx m.1.toNat)=true:=zie (zgw _);refine⟨by simp[PyData.canLayAll0,mkD,PyData.canLay0,h1,ih.1],?_⟩;have:=ih.2;simp[PyData.depthAll,mkD,PyData.depth];lia
end
noncomputable def zrG:AHeap:=λ_=>none
noncomputable def kB(prog:Hh)(w:World):HeapKind prog w (List zd) where
 is:=λh ms a=>RepV zrG h (zA ms) (.ref a)
 hash:=zto w
 draws:=λms=>3*ms.length+1
 room:=λA=>A.units+100<cLine
 inj:=λhx hy=>by
  refine zn (jv hx) λa vs e ht rs=>?_;refine zn (jv hy) λa' vs' e' ht' rs'=>?_;cases e;cases e';have:=ze9 ht ht';subst this;exact zok rs rs'
 keeps:=λx ho hd hs=>x.mono (.mk' λb o e st=>by
  refine(hs.2 b ?_).trans e;rintro rfl;rw[ho] at e;obtain rfl:=Hw e;exact zaY hd st)
 pyHash:=λhu hk hq=>by
  refine zn (jv hk) λa vs e ht rs=>?_;cases e;exact zb0 (n:=10) ht (zju rs) _ _ _ _ rfl (zxL hu) hq
 eqBool:=λhu hx hy hq=>by
  rename_i k1 k2 _ _ _
  have l1:=zkD k1;have l2:=zkD k2;refine eqAt_reads _ _ _ _ _ _ _ _ (zfo hx) (zfo hy) (by simpa [PyData.canLay0] using l1.1) (by simpa [PyData.canLay0] using l2.1) ?_ _ _ _ _ ?_
  .simp only[PyData.depth];have:=l1.2;have:=l2.2
   lia
  .simp only[PyData.eqv,zpY];exact hq
 quiet:=λhk hq=>by
  refine zn (jv hk) λa vs e ht rs=>?_;cases e;refine zbq (k:=7) ht (λv hv=>?_) _ _ _ _ rfl hq;refine zb (rs.mem v hv) λx hx rx=>?_;refine zb (fQ.mp hx) λm _ e23_2=>?_;subst e23_2;exact zjd rx
abbrev Tab:=List (List zd×AV)
noncomputable def Tab.at(kvs:Tab)(k:List zd):Option AV:=(kvs.find? λx=>decide (x.1=k)).map (·.2)
noncomputable def Tab.put(kvs:Tab)(k:List zd)(v:AV):Tab:=if (kvs.at k).isSome then kvs.map (λx=>if x.1=k then (x.1,v) else x) else kvs++[(k,v)]
inductive TX(U:AHeap)(h:Heap):List (List zd×Addr×Value)->Tab->Prop
 | nil:TX U h [] []
 | cons {k:List zd} {a:Addr} {v:Value} {x:AV} {xs kvs}:RepV U h (zA k) (.ref a)->RepV U h x v->TX U h xs kvs->TX U h ((k,a,v)::xs) ((k,x)::kvs)
section
variable{prog:Hh}{w:World}{U U':AHeap}{h h':Heap}
def TX.keys{xs:List (List zd×Addr×Value)}{kvs:Tab}(t:TX U h xs kvs):xs.map (·.1)=kvs.map (·.1):=by
 induction t with
 | nil=>rfl
 | cons _ _ _ ih=>rw[gG,gG,ih]
def TX.length{xs:List (List zd×Addr×Value)}{kvs:Tab}(t:TX U h xs kvs):xs.length=kvs.length:=by
 have:=congrArg List.length t.keys;rwa [fC,fC] at this
def TX.mono(k:KeepV U h U' h'){xs:List (List zd×Addr×Value)}{kvs:Tab}(t:TX U h xs kvs):TX U' h' xs kvs:=by
 induction t with
 | nil=>exact .nil
 | cons a b _ ih=>exact .cons (a.mono k) (b.mono k) ih
def TX.of{kvs:Tab}{es:List DictEntry}(t:RepT w U h kvs es):∃xs,TX U h xs kvs/\es=xs.map (entryOfKey (kB prog w)):=by
 induction t with
 | nil=>exact⟨[],.nil,rfl⟩
 | @cons k x r e es a b c _ ih=>
  refine zb ih λxs h1 h2=>?_;refine zn (jv a) λad vs ea _ _=>?_;obtain⟨eh,ek,ev⟩:=e;simp only at ea a b c;subst ea;exact zc ((k,ad,ev)::xs) (.cons a b h1) (by rw[h2,gG];congr 1;simp only[entryOfKey];rw[c];rfl)
def TX.to{xs:List (List zd×Addr×Value)}{kvs:Tab}(t:TX U h xs kvs):RepT w U h kvs (xs.map (entryOfKey (kB prog w))):=by
 induction t with
 | nil=>exact .nil
 | cons a b _ ih=>exact .cons a b rfl ih
def TX.at_{k:List zd}{xs:List (List zd×Addr×Value)}{kvs:Tab}(t:TX U h xs kvs):(atKey xs k=none/\Tab.at kvs k=none)\/∃p x,atKey xs k=some p/\Tab.at kvs k=some x/\RepV U h x p.2:=by
 induction t with
 | nil=>exact .inl ⟨rfl,rfl⟩
 | @cons k' a v x xs kvs ra rb r ih=>
  unfold atKey Tab.at at ih ⊢
  by_cases hk:k'=k
  .refine .inr (zL (a,v) x ?_ ?_ rb)<;>rw[pP,Hy hk]<;>rfl
  .rw[pP,pP,Hx hk];exact ih
def TX.snoc{k:List zd}{a:Addr}{v:Value}{x:AV}(ra:RepV U h (zA k) (.ref a))(rb:RepV U h x v){xs:List (List zd×Addr×Value)}{kvs:Tab}(t:TX U h xs kvs):TX U h (xs++[(k,a,v)]) (kvs++[(k,x)]):=by
 induction t with
 | nil=>exact .cons ra rb .nil
 | cons p q _ ih=>exact .cons p q ih
def TX.over{k:List zd}{v:Value}{x:AV}(rb:RepV U h x v){xs:List (List zd×Addr×Value)}{kvs:Tab}(t:TX U h xs kvs):TX U h (xs.map (putAt k v)) (kvs.map λy=>if y.1=k then (y.1,x) else y):=by
 induction t with
 | nil=>exact .nil
 | @cons k' a' v' _ xs kvs p q r ih=>
  rw[gG,gG];unfold putAt at ih ⊢
  by_cases hk:k'=k
  .rw[if_pos hk,if_pos hk];exact .cons p rb ih
  .rw[if_neg hk,if_neg hk];exact .cons p q ih
def TX.put{k:List zd}{a:Addr}{v:Value}{x:AV}(ra:RepV U h (zA k) (.ref a))(rb:RepV U h x v){xs kvs}(t:TX U h xs kvs):TX U h (storedH xs k a v) (Tab.put kvs k x):=by
 unfold Tab.put
 rcases t.at_ (k:=k) with⟨h1,h2⟩|⟨p,y,h1,h2,_⟩
 .rw[storedH_new h1,h2];exact t.snoc ra rb
 .rw[storedH_old h1,h2];exact t.over rb
end
section
variable{X:Cx}{U:AHeap}{s:Shared}{d:Addr}{kvs:Tab}
def At.tab(a:At X U s)(e:U d=some (.tdict kvs)):∃xs,s.heap.DictOfH (kB X.prog X.w) d xs/\TX U s.heap xs kvs:=by
 refine zr (a.rep _ _ e) λes n ho rt nd hl _=>?_;refine zb (TX.of (prog:=X.prog) rt) λxs h1 h2=>?_;refine zc xs (zaR _ es n ho (zq rfl rfl rfl) rfl h2 (λx hx=>?_) (by rw[h1.keys];exact nd)) h1;clear nd hl ho e;clear h2 rt
 induction h1 with
 | nil=>cases hx
 | cons ra rb r ih=>
  rcases fG.mp hx with rfl|hx
  .exact zck ra
  .exact ih hx
def At.tabNe(a:At X U s)(e:U d=some (.tdict kvs)):(d==sysModules)=false:=by
 refine zr (a.rep _ _ e) λes n ho rt nd hl h=>?_;exact h
def Tab.wX(kvs:Tab)(k:List zd)(v:AV):(kvs.put k v).length<=kvs.length+1:=by
 unfold Tab.put;split<;>simp
def zih{h':Heap}{xs:List (List zd×Addr×Value)}{k:List zd}{ad:Addr}{x:AV}{v:Value}(a:At X U s)(e:U d=some (.tdict kvs))(tx:TX U s.heap xs kvs)(rk:RepV U s.heap (zA k) (.ref ad))(rv:RepV U s.heap x v)(hl:kvs.length<1000000){U':AHeap}(kv:KeepV U s.heap U' h')
  (hD':h'.DictOfH (kB X.prog X.w) d (storedH xs k ad v)):RepA X U' h' d (.tdict (kvs.put k x)):=by
 refine jd hD' λo es ep ho h8_4 hd he hi hn=>?_;obtain⟨hc1,hc2,hc3⟩:=h8_4;have tx':=(tx.mono kv).put (rk.mono kv) (rv.mono kv);refine jl es ep ?_ ?_ ?_ ?_ (a.tabNe e)
 .rw[ho];obtain⟨c,di,da,sl⟩:=o;simp only at hc1 hc2 hc3 hd;subst hc1;subst hc2;subst hc3;subst hd;rfl
 .rw[he];exact tx'.to
 .rw[<-tx'.keys];exact hn
 .have:=Tab.wX kvs k x;lia
def zoC{xs:List (List zd×Addr×Value)}{kvs:Tab}(tx:TX U s.heap xs kvs)(k:List zd):(atKey xs k).isSome=(kvs.at k).isSome:=by
 rcases tx.at_ (k:=k) with⟨h1,h2⟩|⟨p,y,h1,h2,_⟩<;>rw[h1,h2]<;>rfl
variable{A:Around}{E:Value->Shared->Prop}{dp:Dp}{Q:zm}{k:List zd}{u:Value}
def zp9{v:Value}{x:AV}{R:Unit->Shared->Prop}(L:Live X dp A)(a:At X U s)(e:U d=some (.tdict kvs))(rk:RepV U s.heap (zA k) u)(rv:RepV U s.heap x v)(hl:kvs.length<1000000)
  (q:∀s',At X (U.set d (.tdict (kvs.put k x))) s'->Step E0 U s (U.set d (.tdict (kvs.put k x))) s'->R () s'):wpAny X.M A (setItem (.ref d) u v) R E s:=by
 refine zn (jv rk) λad vs e10_2 _ _=>?_;subst e10_2;refine zb (a.tab e) λxs hD tx=>?_;have room:=L.room;refine wpAny_setItem_heap (knd:=kB X.prog X.w) (by show A.units+1+100<cLine;exact zr9 room) (zck rk) hD (λh' hD' hs=>?_) (by rw[tx.length,Ha];exact zt0 hl);refine q _ (a.store (t:=_) (ao:=.tdict (kvs.put k x)) e rfl hs λkv=>?_) (Step.store (t:=_) e rfl hs);exact zih a e tx rk rv hl kv hD'
def zp8{v:Value}{x:AV}{R:Unit->Shared->Prop}(L:Live X dp A)(a:At X U s)(e:U d=some (.tdict kvs))(rk:RepV U s.heap (zA k) u)(rv:RepV U s.heap x v)(hl:kvs.length<1000000)
  (q:∀s',At X (U.set d (.tdict (kvs.put k x))) s'->Step E0 U s (U.set d (.tdict (kvs.put k x))) s'->R () s'):wpAny X.M A (dictSet d u v) R E s:=by
 refine zn (jv rk) λad vs e12_2 _ _=>?_;subst e12_2;refine zb (a.tab e) λxs hD tx=>?_;have room:=L.room;refine wpAny_dictSet_heap (knd:=kB X.prog X.w) (by show A.units+100<cLine;exact zxN room) (zck rk) hD (λh' hD' hs=>?_) (by rw[tx.length,Ha];exact zt0 hl);refine q _ (a.store (t:=_) (ao:=.tdict (kvs.put k x)) e rfl hs λkv=>?_) (Step.store (t:=_) e rfl hs);exact zih a e tx rk rv hl kv hD'
def zrW(L:Live X dp A)(a:At X U s)(e:U d=some (.tdict kvs))(rk:RepV U s.heap (zA k) u)(q:Q (.bool (kvs.at k).isSome) (vis U)):wpAny X.M A (compareOp .In u (.ref d)) (liftQ X U s Q) E s:=by
 refine zn (jv rk) λad vs e14_2 _ _=>?_;subst e14_2;refine zb (a.tab e) λxs hD tx=>?_;have room:=L.room;refine wpAny_in_heap (knd:=kB X.prog X.w) (by show A.units+1+100<cLine;exact zr9 room) (zck rk) (a.tabNe e) hD ?_;rw[zoC tx];exact kO a (.bool _) q
def zp7{x:AV}(L:Live X dp A)(a:At X U s)(e:U d=some (.tdict kvs))(rk:RepV U s.heap (zA k) u)(hx:kvs.at k=some x)(q:Q x (vis U)):wpAny X.M A (getItem (.ref d) u) (liftQ X U s Q) E s:=by
 refine zn (jv rk) λad vs e16_2 _ _=>?_;subst e16_2;refine zb (a.tab e) λxs hD tx=>?_;have room:=L.room
 rcases tx.at_ (k:=k) with⟨_,h2⟩|⟨p,y,h1,h2,r⟩
 .rw[hx] at h2;exact absurd h2 (fH _)
 .rw[hx] at h2;obtain rfl:=Hw h2;exact wpAny_getItem_heap (knd:=kB X.prog X.w) (by show A.units+1+100<cLine;exact zr9 room) (zck rk) hD h1 (kO a r q)
end
noncomputable def zaz(fs:List (Nat×AV))(k:Nat):Option AV:=match fs with
 | []=>none
 | p::r=>bif Nat.beq p.1 k then some p.2 else zaz r k
noncomputable def qd(fs:List (Nat×AV))(k:Nat)(v:AV):List (Nat×AV):=match fs with
 | []=>[(k,v)]
 | p::r=>bif Nat.beq p.1 k then (k,v)::r else p::qd r k v
def zrD{a b:Nat}:Nat.beq a b=decide (a=b):=by
 cases h:Nat.beq a b with
 | true=>exact(Hy (Nat.eq_of_beq_eq_true h)).symm
 | false=>exact(Hx (Nat.ne_of_beq_eq_false h)).symm
def zcS(fs:List (Nat×AV))(k:Nat)(v:AV):(qd fs k v).length<=fs.length+1:=by
 induction fs with
 | nil=>exact fN _
 | cons p r ih=>
  unfold qd;cases Nat.beq p.1 k with
  | true=>exact fA7 _
  | false=>exact pG ih
section
variable{X:Cx}{U:AHeap}{s:Shared}{h:Heap}{d:Addr}{fs:List (Nat×AV)}{kvs:List (Str×Value)}
def SX.get(t:SX U h kvs fs){k:Nat}(hk:k<kW):(valueAt kvs (zx k)=none/\zaz fs k=none)\/∃v x,valueAt kvs (zx k)=some v/\zaz fs k=some x/\RepV U h x v:=by
 induction t with
 | nil=>exact .inl ⟨rfl,rfl⟩
 | @cons k' x v kvs fs hk' r t ih=>
  unfold valueAt at ih ⊢;rw[pP,show zaz ((k',x)::fs) k=(bif Nat.beq k' k then some x else zaz fs k) from rfl,zrD]
  by_cases e:k'=k
  .subst e;rw[Hy rfl,Hy rfl];exact .inr (zL v x rfl rfl r)
  .have e':¬zx k'=zx k:=λq=>e (kX hk' hk q);rw[Hx e',Hx e];exact ih
def SX.keys(t:SX U h kvs fs):kvs.map (·.1)=fs.map λf=>zx f.1:=by
 induction t with
 | nil=>rfl
 | cons _ _ _ ih=>rw[gG,gG,ih]
def SX.length(t:SX U h kvs fs):kvs.length=fs.length:=by
 have:=congrArg List.length t.keys;rwa [fC,fC] at this
def zo0{k:Str}:kvs.any (λkv=>decide (kv.1=k))=decide (k∈kvs.map (·.1)):=by
 rw[Bool.eq_iff_iff,List.any_eq_true,decide_eq_true_eq,fQ];exact⟨λ⟨p,h1,h2⟩=>(zc p h1 (Hz h2)),λ⟨p,h1,h2⟩=>(zc p h1 (Hy h2))⟩
def SX.put(t:SX U h kvs fs)(nd:(kvs.map (·.1)).Nodup){k:Nat}{x:AV}{v:Value}(hk:k<kW)(r:RepV U h x v):SX U h (stored kvs (zx k) v) (qd fs k x):=by
 have go:∀{kvs:List (Str×Value)} {fs:List (Nat×AV)},SX U h kvs fs->(kvs.map (·.1)).Nodup->(zx k∈kvs.map (·.1)->SX U h (kvs.map λkv=>if kv.1=zx k then (kv.1,v) else kv) (qd fs k x))/\(zx k∉kvs.map (·.1)->SX U h (kvs++[(zx k,v)]) (qd fs k x)):=by
  intro kvs fs t
  induction t with
  | nil=>intro _;exact⟨λh=>(nomatch h),λ_=>.cons hk r .nil⟩
  | @cons k' x' v' kvs fs hk' r' t ih=>
   intro nd;rw[gG] at nd;have nd':=fX.mp nd;have ih':=ih nd'.2;rw[gG,gG];unfold qd;rw[zrD]
   by_cases e:k'=k
   .subst e;rw[Hy rfl];refine⟨λ_=>?_,λhn=>absurd fA hn⟩;rw[if_pos rfl,map_store_of_not_mem kvs _ v nd'.1];exact .cons hk r t
   .have e':¬zx k'=zx k:=λq=>e (kX hk' hk q);rw[Hx e];rw[if_neg e'];refine⟨λhm=>.cons hk' r' (ih'.1 ?_),λhn=>.cons hk' r' (ih'.2 λq=>hn (fB _ q))⟩
    rcases fG.mp hm with q|q
    .exact absurd q.symm e'
    .exact q
 unfold stored;rw[zo0]
 by_cases hm:zx k∈kvs.map (·.1)
 .rw[Hy hm,if_pos rfl];exact(go t nd).1 hm
 .rw[Hx hm,if_neg pW];exact(go t nd).2 hm
def zdA(hD:h.DictOf (strKind X.prog X.w) d kvs):(kvs.map (·.1)).Nodup:=by refine jd hD λ_ _ _ _ _ _ _ _ n=>?_;exact n
def zf8(n:Nat)(t:Tok):(strKind X.prog X.w).is (zx n) (.str (zx n) t)=true:=strKind_is _ _ _ _
def zlS{A:Around}{E:Value->Shared->Prop}{key c:Value}{P R:Value->Shared->Prop}(h:wpAny X.M A (compareOp .In key c) P E s)(k:∀t s',P (.bool t) s'->R (.bool (!t)) s'):wpAny X.M A (compareOp .NotIn key c) R E s:=by
 have h:wpAny X.M A (do return .bool (<-contains c key)) P E s:=h;refine G6 (λΓ p hΓ=>?_);have:=h Γ p hΓ;rw[Sem.wp_bind'] at this;exact Sem.wp_mono X.M Γ _ (λt _ s' x=>G7 (k t s' (by simpa using x))) (λ_ _ _ x=>x) p s this
variable{A:Around}{E:Value->Shared->Prop}{Q:zm}{k:Nat}{u v:Value}{x:AV}
def ztw(a:At X U s)(e:U d=some (.idict fs))(rk:RepV U s.heap (.str k) u)(q:Q (.bool (zaz fs k).isSome) (vis U)):wpAny X.M A (compareOp .In u (.ref d)) (liftQ X U s Q) E s:=by
 refine zE (a.rep _ _ e) λkvs hD sx hl hs=>?_;refine zb (RepV.wK rk) λt e2_1 hn=>?_;subst e2_1;refine wpAny_in_of (zf8 k t) hs hD.mapOf ?_
 rcases sx.get hn with⟨h1,h2⟩|⟨v,x,h1,h2,_⟩<;>rw[h1]<;>rw[h2] at q<;>exact kO a (.bool _) q
def zrQ(a:At X U s)(e:U d=some (.idict fs))(rk:RepV U s.heap (.str k) u)(hx:zaz fs k=some x)(q:Q x (vis U)):wpAny X.M A (getItem (.ref d) u) (liftQ X U s Q) E s:=by
 refine zE (a.rep _ _ e) λkvs hD sx hl hs=>?_;refine zb (RepV.wK rk) λt e4_1 hn=>?_;subst e4_1
 rcases sx.get hn with⟨h1,h2⟩|⟨v,y,h1,h2,r⟩
 .rw[hx] at h2;exact absurd h2 (fH _)
 .rw[hx] at h2;obtain rfl:=Hw h2;exact wpAny_getItem_of (zf8 k t) hD.mapOf h1 (kO a r q)
def zgt{U':AHeap}{h':Heap}(a:At X U s)(e:U d=some (.idict fs))(hk:k<kW)(rv:RepV U s.heap x v)(hD:s.heap.DictOf (strKind X.prog X.w) d kvs)(sx:SX U s.heap kvs fs)(hl:fs.length<100)(kv:KeepV U s.heap U' h')
  (hD':h'.DictOf (strKind X.prog X.w) d (stored kvs (zx k) v)):RepA X U' h' d (.idict (qd fs k x)):=by
 refine zE (a.rep _ _ e) λ_ _ _ _ hs=>?_;exact qJ _ hD' ((sx.mono kv).put (zdA hD) hk (rv.mono kv)) (by have:=zcS fs k x;exact zyf hl this) hs
def zrS{R:Unit->Shared->Prop}(a:At X U s)(e:U d=some (.idict fs))(rk:RepV U s.heap (.str k) u)(rv:RepV U s.heap x v)(hl:fs.length<100)
  (q:∀s',At X (U.set d (.idict (qd fs k x))) s'->Step E0 U s (U.set d (.idict (qd fs k x))) s'->R () s'):wpAny X.M A (setItem (.ref d) u v) R E s:=by
 refine zE (a.rep _ _ e) λkvs hD sx _ hs=>?_;refine zb (RepV.wK rk) λt e7_1 hn=>?_;subst e7_1;refine wpAny_setItem_pairs (zf8 k t) hD (λh' hD' hs'=>?_) (by rw[sx.length,Ha];exact ztY hl);exact q _ (a.store (t:=_) e rfl hs' λkv=>zgt a e hn rv hD sx hl kv hD') (Step.store (t:=_) e rfl hs')
def zrR{R:Unit->Shared->Prop}(a:At X U s)(e:U d=some (.idict fs))(rk:RepV U s.heap (.str k) u)(rv:RepV U s.heap x v)(hl:fs.length<100)
  (q:∀s',At X (U.set d (.idict (qd fs k x))) s'->Step E0 U s (U.set d (.idict (qd fs k x))) s'->R () s'):wpAny X.M A (dictSet d u v) R E s:=by
 refine zE (a.rep _ _ e) λkvs hD sx _ hs=>?_;refine zb (RepV.wK rk) λt e9_1 hn=>?_;subst e9_1;refine wpAny_dictSet_pairs (hsz:=by rw[sx.length,Ha];exact ztY hl) (zf8 k t) hD λh' hD' hs'=>?_;exact q _ (a.store (t:=_) e rfl hs' λkv=>zgt a e hn rv hD sx hl kv hD') (Step.store (t:=_) e rfl hs')
end
structure FlyB(X:Cx)(U:AHeap)(g:Heap)(x:Addr)(h:Heap):Prop where
 keepS:∀b o,g.get? b=some o->b≠x->∃sl,h.get? b=some { o with slots:=sl }
 keepX:∀b o,g.get? b=some o->b≠x->((∀es n,o.data≠.dict es n)\/U b≠none\/X.h₀.get? b≠none)->h.get? b=some o
 size:g.objs.size<=h.objs.size
def TrAt(g h:Heap)(x c:Addr)(fl:Value):Prop:=∃vs T tc ts,h.get? x=some (exO c vs)/\vs[1]? = some (.ref T)/\T≠x/\g.get? T=none/\h.get? T=some { cls:=tc,dict:=none,data:=.fields ts,slots:=#[] }/\ts[3]? = some fl
structure FOk(X:Cx)(U:AHeap)(g:Heap)(x c:Addr):Prop where
 fr:∀L∈X.fr,U L=none/\IsD g L/\X.h₀.get? L=none
 exg:∃vs,g.get? x=some (exO c vs)
section
variable{X:Cx}{U:AHeap}{g h h':Heap}{x c:Addr}
def FOk.ne(F:FOk X U g x c){L:Addr}(hL:L∈X.fr):L≠x:=by
 rintro rfl;refine jA ((F.fr L hL).2.1) λo es n h1 h2=>?_;obtain⟨vs,h3⟩:=F.exg;rw[h1] at h3;obtain rfl:=Hw h3;cases h2
def FlyB.dict(f:FlyB X U g x h)(F:FOk X U g x c){L:Addr}(hL:L∈X.fr):IsD h L:=by
 refine jA ((F.fr L hL).2.1) λo es n h1 h2=>?_;obtain⟨sl,h3⟩:=f.keepS L o h1 (F.ne hL);exact zah _ es n h3 h2
def FlyB.frames(f:FlyB X U g x h)(F:FOk X U g x c){base:Heap}(hb:∀L∈X.fr,base.get? L=none){envs:List Env}(FO:∀e∈envs,e.scope.kind≠.module/\∃L,e.frame=some L/\L∈X.fr):h.FunFrames base envs:=by
 induction envs with
 | nil=>trivial
 | cons e r ih=>
  refine qT (FO e fA) λh1 L h2 h3=>?_;refine jA (f.dict F h3) λo es n h4 h5=>?_;exact zq h1 (zo L o h2 (hb L h3) h4 (λvs q=>by rw[h5] at q;cases q)) (ih λe he=>FO e (fB _ he))
def FlyB.next(f:FlyB X U g x h)(F:FOk X U g x c)(k:∀b o,h.get? b=some o->b∉X.fr->b≠x->g.get? b≠none->h'.get? b=some o)(k4:∀b o,b∈X.fr->h.get? b=some o->∃sl,h'.get? b=some { o with slots:=sl })(hz:h.objs.size<=h'.objs.size):FlyB X U g x h':=by
 refine⟨λb o e hb=>?_,λb o e hb hc=>?_,fF f.size hz⟩
 .obtain⟨sl,h1⟩:=f.keepS b o e hb
  by_cases hf:b∈X.fr
  .obtain⟨sl',h2⟩:=k4 b _ hf h1;exact⟨sl',h2⟩
  .exact⟨sl,k b _ h1 hf hb (by rw[e];exact λq=>nomatch q)⟩
 .refine k b o (f.keepX b o e hb hc) (λq=>?_) hb (by rw[e];exact λq=>nomatch q);refine jg (F.fr b q) λh1 h8_1 h4=>?_;obtain⟨o',es,n,h2,h3⟩:=h8_1;rw[e] at h2;obtain rfl:=Hw h2
  rcases hc with hc|hc|hc
  .exact hc es n h3
  .exact hc h1
  .exact hc h4
end
section
variable{prog:Hh}{w:World}{A:Around}{E:Value->Shared->Prop}{s:Shared}{X:Cx}{U:AHeap}{g:Heap}{x c L:Addr}{env:Env}{outer:List Env}{Q:Unit->Shared->Prop}
def Fly.b{h:Heap}(f:Fly X U g x c h):FlyB X U g x h:=⟨f.keepS,f.keepX,f.size⟩
def ziR(FO:FrOk X (env::outer))(a:At X U { s with heap:=g }){h:Heap}(f:Fly X U g x c h):FOk X U g x c:=⟨λL hL=>(zq ((a.ff L hL).1) ((a.ff L hL).2) (FO.out L hL)),f.exg⟩
def TrAt.fly{h:Heap}(f:FlyB X U g x h)(F:FOk X U g x c)(t:TrAt g h x c .none):Fly X U g x c h:=by
 refine jH t λvs T tc ts h1 h5 h6 h7 h8 h10=>?_;exact⟨f.keepS,f.keepX,F.exg,f.size,vs,h1,.inr (zH T tc ts h5 h6 h7 h8 h10)⟩
def FlyB.entry{vs:Array Value}{head:Value}{hadNext:Bool}(FO:FrOk X (env::outer))(hfr:A.frames=some (env::outer))(hf:env.frame=some L)(F:FOk X U g x c)(f:FlyB X U g x s.heap)(he:s.heap.get? x=some (exO c vs))(h1:1<vs.size)
  (hQ:∀h',FlyB X U g x h'->TrAt g h' x c (rawInt L)->Q () { s with heap:=h' }) :
  wpAny (model prog w) A (do let a <-frameOf env;let pl <-entryPlaceOf L hadNext;let b <-EntryCells.newEntry head a .none (rawInt L) .none pl;setField (.ref x) 1 b) Q E s:=by
 refine G6 (wpAny_frameOf_fun (base:=hideAll s.heap X.fr) hfr (f.frames F (λL hL=>hideAll_none _ hL) FO.is) hf λh₁ hs₁=>?_);have sub:∀b,b∈(env::outer).filterMap (·.frame)->b∈X.fr:=λb hb=>by
  refine zb (fBH.mp hb) λe he hb=>?_;refine qT (FO.is e he) λ_ M h2 h3=>?_;rw[h2] at hb;obtain rfl:=Hw hb;exact h3
 have f1:FlyB X U g x h₁:=f.next F (λb o e hb _ _=>(hs₁.2.1 b λq=>hb (sub b q)).trans e) (λb o _ e=>hs₁.2.2 b o e) (pA hs₁.1.symm);have he₁:h₁.get? x=some (exO c vs):=(hs₁.2.1 x λq=>F.ne (sub x q) rfl).trans he;refine G6 (wpAny_entryPlaceOf λpl hpl=>?_);refine G6 (wpAny_newObj_type ?_ (hpl.sizeOk5 _ _ _ _ _));have hTx:h₁.objs.size≠x:=Nat.ne_of_gt (Heap.lt_size he₁);refine wpAny_setField_rec (Heap.get?_push_of_some _ he₁) h1 λh' e' sb=>hQ h' ?_ ?_
 .refine f1.next F (λb o e _ hb _=>(sb.2 b hb).trans (Heap.get?_push_of_some _ e)) (λb o hb e=>⟨o.slots,(sb.2 b (F.ne hb)).trans (Heap.get?_push_of_some _ e)⟩) ?_;rw[sb.1,Heap.size_push];exact fA7 _
 .refine qK _ h₁.objs.size _ _ e' (by simp[h1]) hTx ?_ ((sb.2 _ hTx).trans (Heap.get?_push_size _ rfl)) rfl;cases q:g.get? h₁.objs.size with
  | none=>rfl
  | some o=>exact absurd (Heap.lt_size q) (pL.mpr f1.size)
def Fly.note(FO:FrOk X (env::outer))(hfr:A.frames=some (env::outer))(hf:env.frame=some L)(a:At X U { s with heap:=g })(f:Fly X U g x c s.heap)(hQ:∀h',FlyB X U g x h'->TrAt g h' x c (rawInt L)->Q () { s with heap:=h' }):wpAny (model prog w) A (noteFrame (.ref x) env) Q E s:=by
 have F:=ziR FO a f;refine zb f.exh λvs h1 h5=>?_;unfold noteFrame;simp only[hf]
 rcases h5 with h5|⟨T,tc,ts,h5,h6,h7,h8,h10⟩
 .refine G6 (wpAny_field h1 rfl h5 ?_);rw[if_neg (by decide)];exact f.b.entry FO hfr hf F h1 (pN.mp h5).1 hQ
 .refine G6 (wpAny_field h1 rfl h5 ?_);refine G6 (wpAny_field h8 rfl h10 ?_);refine G6 (wpAny_setField_rec h8 (pN.mp h10).1 λh' e' sb=>?_);have hT:∀b,g.get? b≠none->b≠T:=λb hb q=>hb (q▸h7);have f':FlyB X U g x h':=f.b.next F (λb o e _ _ hg=>(sb.2 b (hT b hg)).trans e) (λb o hb e=>⟨o.slots,(sb.2 b (hT b (by refine jA ((F.fr b hb).2.1) λo _ _ h _=>?_;rw[h];exact λq=>nomatch q))).trans e⟩) (pA sb.1.symm);exact FlyB.entry (s:={ s with heap:=h' }) FO hfr hf F f' ((sb.2 x h6.symm).trans h1) (pN.mp h5).1 hQ
def FlyB.vF{fl:Value}(F:FOk X U g x c)(f:FlyB X U g x s.heap)(t:TrAt g s.heap x c fl)(hQ:∀h',Fly X U g x c h'->TrAt g h' x c .none->Q () { s with heap:=h' }):wpAny (model prog w) A (setFlight (.ref x) none) Q E s:=by
 refine jH t λvs T tc ts h1 h5 h6 h7 h8 h10=>?_;have h3:3<ts.size:=(pN.mp h10).1;refine G6 (wpAny_field h1 rfl h5 ?_);refine wpAny_setField_rec h8 h3 λh' e' sb=>?_;have hT:∀b,g.get? b≠none->b≠T:=λb hb q=>hb (q▸h7);have f':FlyB X U g x h':=f.next F (λb o e _ _ hg=>(sb.2 b (hT b hg)).trans e) (λb o hb e=>⟨o.slots,(sb.2 b (hT b (by refine jA ((F.fr b hb).2.1) λo _ _ h _=>?_;rw[h];exact λq=>nomatch q))).trans e⟩) (pA sb.1.symm);have t':TrAt g h' x c .none:=(qK vs T tc _ ((sb.2 x h6.symm).trans h1) h5 h6 h7 e' (by simp[h3]))
 exact hQ h' (TrAt.fly f' F t') t'
def Fly.vH(FO:FrOk X (env::outer))(hfr:A.frames=some (env::outer))(hf:env.frame=some L)(a:At X U { s with heap:=g })(f:Fly X U g x c s.heap)(hQ:∀h',Fly X U g x c h'->Q () { s with heap:=h' }):wpAny (model prog w) A (leaving env (.ref x)) Q E s:=by
 exact G6 (f.note FO hfr hf a λh' f' t'=>FlyB.vF (s:={ s with heap:=h' }) (ziR FO a f) f' t' λh2 f2 _=>hQ h2 f2)
def Fly.keepV{h:Heap}(f:Fly X U g x c h):KeepV U g U h:=⟨λb o e st=>by
 by_cases hb:b=x
 .subst hb;obtain⟨vs1,h1⟩:=f.exg;refine zb f.exh λvs h4 _=>?_;rw[e] at h1;obtain rfl:=Hw h1;exact zc _ h4 (.inr (zah c vs1 vs rfl rfl))
 .refine zc o (f.keepX b o e hb (.inl λes n q=>?_)) (.inl rfl)
  rcases st with⟨_,xs,k,h1⟩|⟨_,vs,h1⟩|⟨_,vs,_,h1⟩<;>(rw[h1] at q;cases q),λ_ _ e=>e⟩
def Fly.at(FOo:∀L∈X.fr,X.h₀.get? L=none)(a:At X U { s with heap:=g })(hx:X.h₀.get? x=none)(f:Fly X U g x c s.heap):At X U s:=by
 have hxσ:U x=none:=by
  obtain⟨vs,h1⟩:=f.exg;exact a.stays h1 (.inr (.inr (zaP c vs rfl rfl)))
 have F:FOk X U g x c:=⟨λL hL=>(zq ((a.ff L hL).1) ((a.ff L hL).2) (FOo L hL)),f.exg⟩
 refine⟨λb o e=>f.keepX b o (a.keep b o e) (λq=>by rw[q,hx] at e;cases e) (.inr (.inr (by rw[e];exact λq=>nomatch q))),λb o e=>(a.rep b o e).mono f.keepV λob hob=>?_,a.own,a.gens,a.os,λL hL=>⟨(a.ff L hL).1,f.b.dict F hL⟩⟩;exact f.keepX b ob hob (λq=>by rw[q,hxσ] at e;cases e) (.inr (.inl (by rw[e];exact λq=>nomatch q)))
def Fly.step{B:Addr->Prop}{U0:AHeap}{s0:Shared}(hx:New U0 s0 x)(st:Step B U0 s0 U { s with heap:=g })(f:Fly X U g x c s.heap):Step B U0 s0 U s:=by
 have hne:∀{b:Addr} {o:Obj},s0.heap.get? b=some o->U0 b=none->b≠x:=λe h q=>hx _ (q▸e) (q▸h);refine⟨λb o e h1 h2 h3=>f.keepX b o (st.keep b o e h1 h2 h3) (hne e h1) (.inl h3),λb o e h1 h2=>?_,st.fresh,fF st.size f.size,st.frz⟩;obtain⟨sl,h3⟩:=st.keepD b o e h1 h2;obtain⟨sl',h4⟩:=f.keepS b _ h3 (hne e h1);exact⟨sl',h4⟩
end
def ztm(X:Cx)(U:AHeap)(s:Shared)(Q:zm)(Z:XP):Result->Shared->Prop:=λr s'=>match r with
 | .ok (.ret v)=>liftQ X U s Q v s'
 | .ok _=>False
 | .error e=>liftX X U s Z e s'
@[irreducible] noncomputable def CallOk(X:Cx)(f:Addr)(d:Dp)(args:List AV)(Q:zm)(Z:XP)(U₀:AHeap):Prop:=
 ∀A s vs U,vis U=U₀->Live X d A->At X U s->RepVs U s.heap args vs->Hi X.M A (.call (.ref f) ⟨vs,[]⟩) (ztm X U s Q Z) s
structure FnOk(X:Cx)(f:Addr)(ps:List Str)(body:List Stmt)(scope:Scope):Prop where
 ex:∃o fd,X.h₀.get? f=some o/\o.data = .func fd/\fd.scope=scope/\fd.body = .stmts body/\fd.closure=[]/\fd.globals=Hk/\fd.builtins=builtinsNs/\X.h₀.CodeRec fd.code fd.qualname/\
  ∀vs,vs.length=ps.length->bindArgs fd ⟨vs,[]⟩=pure (ps.zip vs)
structure NamesOk(names:List (Str×NameKind))(nm:List (Str×Nat))(ps:List Str)(N:Nat):Prop where
 nodup:(names.map (·.1)).Nodup
 kinds:∀x i,nm.lookup x=some i->i<N/\(names.lookup x=some .local\/names.lookup x=some .cell)
 inj:∀x y i,nm.lookup x=some i->nm.lookup y=some i->x=y
 par:∀x i,nm.lookup x=some i->∀p,ps[i]? = some p->p=x
 par':∀(i:Nat) p,ps[i]? = some p->nm.lookup p=some i
 le:ps.length<=N
 len:kg nm=N
 psnd:ps.Nodup
def zbm{x:Str}(names:List (Str×NameKind)):∀(n:Nat) (acc:List (Str×Addr)),names.lookup x=some .cell\/(acc.lookup x).isSome=true->((cellsFrom n names acc).lookup x).isSome=true:=by
 induction names with
 | nil=>exact λ_ _ h=>h.elim (λe=>nomatch e) id
 | cons p r ih=>
  intro n acc h;show ((if (p.2==.cell)=true then cellsFrom (n+1) r ((p.1,n)::acc) else cellsFrom n r acc).lookup x).isSome=true
  by_cases hy:x=p.1
  .subst hy;rw[gY,beq_self_eq_true] at h
   by_cases hk:(p.2==.cell)=true
   .rw[if_pos hk];exact ih _ _ (.inr (by rw[gY,beq_self_eq_true];rfl))
   .rw[if_neg hk];exact ih _ _ (.inr (h.elim (λe=>absurd (by rw[Hw e];rfl) hk) id))
  .have h:=h.imp (λe=>(jE hy).symm.trans e) id;split
   .exact ih _ _ (h.imp id λe=>by rw[jE hy];exact e)
   .exact ih _ _ h
def zdz(names:List (Str×NameKind)):∀(n:Nat) (acc:List (Str×Addr)),(names.map (·.1)).Nodup->(acc.map (·.1)).Nodup->(∀x,x∈acc.map (·.1)->x∉names.map (·.1))->((cellsFrom n names acc).map (·.1)).Nodup:=by
 induction names with
 | nil=>exact λ_ _ _ h _=>h
 | cons p r ih=>
  intro n acc hn ha hd;have hn':=fX.mp hn;have hd':∀x,x∈acc.map (·.1)->x∉r.map (·.1):=λx hx q=>hd x hx (fB _ q);show ((if (p.2==.cell)=true then cellsFrom (n+1) r ((p.1,n)::acc) else cellsFrom n r acc).map (·.1)).Nodup;split
  .exact ih _ _ hn'.2 (fX.mpr ⟨λq=>hd _ q fA,ha⟩) (fO.mpr ⟨hn'.1,hd'⟩)
  .exact ih _ _ hn'.2 ha hd'
def zbz{J:Type}{r:List (Str×J)}{x:Str}(h:x∉r.map (·.1)):r.lookup x=none:=by
 cases e:r.lookup x with
 | none=>rfl
 | some c=>exact absurd (pE (f:=(·.1)) (mem_of_lookup e)) h
def zmP{kindOf:Str->Option NameKind}{x:Str}(hx:kindOf x=some .local)(binds:List (Str×Value)):∀(m:Str->Option Value),(binds.map (·.1)).Nodup->bindL kindOf binds m x=(binds.lookup x).or (m x):=by
 induction binds with
 | nil=>exact λ_ _=>rfl
 | cons p r ih=>
  intro m hn;have hn':=fX.mp hn;show bindL kindOf r (if kindOf p.1=some .local then λy=>if y=p.1 then some p.2 else m y else m) x=_;rw[ih _ hn'.2]
  by_cases hy:x=p.1
  .subst hy;rw[zbz hn'.1,gY,beq_self_eq_true];simp[hx]
  .rw[show List.lookup x (p::r)=_ from jE hy];split
   .simp[hy]
   .rfl
def zmO{kindOf:Str->Option NameKind}{x:Str}(hx:kindOf x=some .cell)(binds:List (Str×Value)):∀(m:Str->Option Value),(binds.map (·.1)).Nodup->bindC kindOf binds m x=(binds.lookup x).or (m x):=by
 induction binds with
 | nil=>exact λ_ _=>rfl
 | cons p r ih=>
  intro m hn;have hn':=fX.mp hn;show bindC kindOf r (if kindOf p.1=some .local then m else λy=>if y=p.1 then some p.2 else m y) x=_;rw[ih _ hn'.2]
  by_cases hy:x=p.1
  .subst hy;rw[zbz hn'.1,gY,beq_self_eq_true];simp[hx]
  .rw[show List.lookup x (p::r)=_ from jE hy];split
   .rfl
   .simp[hy]
def zjZ{ps:List Str}:∀{vs:List Value} {i:Nat} {x:Str},ps.Nodup->ps.length=vs.length->ps[i]? = some x->(ps.zip vs).lookup x=vs[i]?:=by
 induction ps with
 | nil=>intro vs i x _ _ h;cases h
 | cons p ps ih=>
  intro vs i x hn hl h;cases vs with
  | nil=>cases hl
  | cons v vs=>
   cases i with
   | zero=>simp at h;subst h;simp
   | succ i=>
    have hn':=fX.mp hn;rw[fAL] at h;have hne:(x==p)=false:=by
     cases hb:x==p with
     | false=>rfl
     | true=>rw[beq_iff_eq.mp hb] at h;exact absurd (pY h) hn'.1
    rw[fCB,gY,hne,fAL];exact ih hn'.2 (Nat.succ.inj hl) h
def zdj{ps:List Str}{vs:List Value}{x:Str}(h:x∉ps):(ps.zip vs).lookup x=none:=zbz λq=>by
 refine zb (fQ.mp q) λp hp e=>?_;exact h (e▸(fBF (a:=p.1) (b:=p.2) hp).1)
noncomputable def zgb(args:List AV)(N:Nat):Loc:=args.map some++List.replicate (N-args.length) none
def znG(args:List AV)(N i:Nat):(zgb args N).getD i none=args[i]?:=by
 unfold zgb;rw[fS]
 by_cases h:i<args.length
 .rw[gW (by simpa using h),pT];rw[fW h];rfl
 .rw[pF (by simpa using pL.mp h),List.getElem?_replicate,fAF (pL.mp h)];split<;>rfl
noncomputable def zqS:Fl->AV
 | .next=>.none
 | .ret v=>v
def RepVs.getO{U:AHeap}{h:Heap}{xs:List AV}{vs:List Value}(r:RepVs U h xs vs):∀(i:Nat),RepO U h xs[i]? vs[i]?:=by
 induction xs generalizing vs with
 | nil=>obtain rfl:=RepVs.wG r;intro i;simp;trivial
 | cons x xs ih=>
  obtain⟨_,_,rfl,a,r⟩:=RepVs.wF r;intro i;cases i with
  | zero=>exact a
  | succ i=>simpa using ih r i
mutual
inductive Fz(φ:Addr->Option (List AV)):AV->AV->Prop
 | same (x:AV):Fz φ x x
 | lst {a:Addr} {ys:List AV}:φ a=some ys->Fz φ (.ref a) (.lst ys)
 | tup {xs ys:List AV}:FzL φ xs ys->Fz φ (.tup xs) (.tup ys)
inductive FzL(φ:Addr->Option (List AV)):List AV->List AV->Prop
 | nil:FzL φ [] []
 | cons {x y:AV} {xs ys:List AV}:Fz φ x y->FzL φ xs ys->FzL φ (x::xs) (y::ys)
end
structure FzOk(φ:Addr->Option (List AV))(U U':AHeap):Prop where
 lst:∀a ys,φ a=some ys->U' a=none/\∃xs,U a=some (.list xs)/\FzL φ xs ys
 sub:∀a o,U' a=some o->U a=some o
@[irreducible] noncomputable def Ends(Q:zm)(v:AV)(U:AHeap):Prop:=∃φ U' v',FzOk φ U U'/\Fz φ v v'/\Q v' U'
def FzL.length{φ:Addr->Option (List AV)}{xs ys:List AV}(h:FzL φ xs ys):ys.length=xs.length:=by
 induction xs generalizing ys with
 | nil=>cases h;rfl
 | cons x xs ih=>cases h with|cons _ r=>rw[fP,fP,ih r]
noncomputable def fzH(φ:Addr->Option (List AV))(U U':AHeap):AHeap:=λa=>match U a with
 | some (.frz xs)=>some (.frz xs)
 | _=>match φ a with
  | some ys=>some (.frz ys)
  | none=>U' a
section
variable{X:Cx}{φ:Addr->Option (List AV)}{U U':AHeap}{s:Shared}(H:FzOk φ (vis U) U')
include H
theorem zne{a:Addr}{xs:List AV}(h:U a=some (.frz xs)):fzH φ U U' a=some (.frz xs):=by unfold fzH;rw[h]
theorem znf{a:Addr}{ys:List AV}(h:φ a=some ys):fzH φ U U' a=some (.frz ys):=by
 refine qT (H.lst a ys h) λ_ xs h1 _=>?_;unfold fzH;rw[(zG h1).1,h]
theorem zpe{a:Addr}(h1:∀xs,U a≠some (.frz xs))(h2:φ a=none):fzH φ U U' a=U' a:=by
 unfold fzH;split
 .rename_i xs e;exact absurd e (h1 xs)
 .rw[h2]
theorem zaN{a:Addr}{o:AO}(h:fzH φ U U' a=some o):(∃xs,o = .frz xs/\U a=some (.frz xs))\/(∃ys,o = .frz ys/\φ a=some ys)\/(U' a=some o/\U a=some o/\o.ro=false):=by
 unfold fzH at h;split at h
 .rename_i xs e;obtain rfl:=Hw h;exact .inl (zc xs rfl e)
 .split at h
  .rename_i ys e;obtain rfl:=Hw h;exact .inr (.inl (zc ys rfl e))
  .have:=zG (H.sub a o h);exact .inr (.inr (zq h this.1 this.2))
theorem zri:vis (fzH φ U U')=U':=by
 funext a
 cases e:fzH φ U U' a with
 | none=>
  rw[qi e];cases e':U' a with
  | none=>rfl
  | some o=>
   have h1:=zG (H.sub a o e');cases e2:φ a with
   | some ys=>rw[znf H e2] at e;exact absurd e (fH _)
   | none=>rw[zpe H (λxs q=>by rw[h1.1] at q;obtain rfl:=Hw q;cases h1.2) e2,e'] at e;exact absurd e (fH _)
 | some o=>
  rcases zaN H e with⟨xs,rfl,h1⟩|⟨ys,rfl,h1⟩|⟨h1,_,h2⟩
  .have:vis (fzH φ U U') a=none:=by unfold vis;rw[e]
   rw[this];cases e':U' a with
   | none=>rfl
   | some o=>have h3:=zG (H.sub a o e');rw[h1] at h3;have:=h3.1;obtain rfl:=Hw this;cases h3.2
  .have:vis (fzH φ U U') a=none:=by unfold vis;rw[e]
   rw[this,(H.lst a ys h1).1]
  .rw[zjS e h2,h1]
theorem zfZ:KeepV U s.heap (fzH φ U U') s.heap:=⟨λb o e _=>(zc o e (.inl rfl)),λb xs e=>zne H e⟩
theorem zng{x y:AV}{v:Value}(f:Fz φ x y)(r:RepV U s.heap x v):RepV (fzH φ U U') s.heap y v:=by
 refine Fz.rec (motive_1:=λx y _=>∀v,RepV U s.heap x v->RepV (fzH φ U U') s.heap y v) (motive_2:=λxs ys _=>∀vs,RepVs U s.heap xs vs->RepVs (fzH φ U U') s.heap ys vs) ?_ ?_ ?_ ?_ ?_ f v r
 .intro x v r;exact r.mono (zfZ H)
 .intro a ys h v r;obtain rfl:=RepV.wN r;exact .lst (znf H h)
 .intro xs ys h ih v r;refine zi (RepV.wI r) λ_ _ e2_2 hl ht rs=>?_;subst e2_2;exact .tup (by rw[h.length];exact hl) ht (ih _ rs)
 .intro vs r;obtain rfl:=RepVs.wG r;exact .nil
 .intro x y xs ys _ _ h1 h2 vs r;obtain⟨_,_,rfl,a,r⟩:=RepVs.wF r;exact .cons (h1 _ a) (h2 _ r)
theorem zpf{xs ys:List AV}{vs:List Value}(f:FzL φ xs ys)(r:RepVs U s.heap xs vs):RepVs (fzH φ U U') s.heap ys vs:=by
 induction xs generalizing ys vs with
 | nil=>cases f;obtain rfl:=RepVs.wG r;exact .nil
 | cons x xs ih=>cases f with|cons f1 f2=>cases r with|cons r1 r2=>exact .cons (zng H f1 r1) (ih f2 r2)
theorem At.fz(a:At X U s):At X (fzH φ U U') s:=by
 refine⟨a.keep,λb o e=>?_,λb o e hro=>?_,a.gens,a.os,λL hL=>⟨?_,(a.ff L hL).2⟩⟩
 .rcases zaN H e with⟨xs,rfl,h1⟩|⟨ys,rfl,h1⟩|⟨_,h1,_⟩
  .exact(a.rep _ _ h1).mono (zfZ H) λ_ h=>h
  .refine qT (H.lst b ys h1) λ_ xs h2 h3=>?_;refine zl (a.isList0 (.inl (zG h2).1)) λvs h4 h5 h6=>?_;exact zv vs h4 (zpf H h3 h5) (by rw[h3.length];exact h6)
  .exact(a.rep _ _ h1).mono (zfZ H) λ_ h=>h
 .rcases zaN H e with⟨xs,rfl,h1⟩|⟨ys,rfl,h1⟩|⟨_,h1,_⟩
  .cases hro
  .cases hro
  .exact a.own _ _ h1 hro
 .cases e:fzH φ U U' L with
  | none=>rfl
  | some o=>
   have h0:=(a.ff L hL).1
   rcases zaN H e with⟨xs,rfl,h1⟩|⟨ys,rfl,h1⟩|⟨_,h1,_⟩
   .rw[h1] at h0;exact absurd h0 (fH _)
   .refine qT (H.lst L ys h1) λ_ xs h2 _=>?_;rw[(zG h2).1] at h0;exact absurd h0 (fH _)
   .rw[h1] at h0;exact absurd h0 (fH _)
theorem Step.fz{B:Addr->Prop}:Step B U s (fzH φ U U') s:=.mk' (λ_ _ e _ _=>e) (λb h1 h2=>by
  cases e:fzH φ U U' b with
  | none=>exact absurd e h1
  | some o=>
   rcases zaN H e with⟨xs,rfl,h3⟩|⟨ys,rfl,h3⟩|⟨_,h3,_⟩
   .rw[h3] at h2;exact absurd h2 (fH _)
   .refine qT (H.lst b ys h3) λ_ xs h4 _=>?_;rw[(zG h4).1] at h2;exact absurd h2 (fH _)
   .rw[h3] at h2;cases h2) (fN _) λb xs e=>zne H e
end
def At.pop{X:Cx}{L:Env}{U:AHeap}{s:Shared}(a:At (X.push L) U s):At X U s:=⟨a.keep,a.rep,a.own,a.gens,a.os,λM hM=>a.ff M (fB _ hM)⟩
section
variable{X:Cx}
def zk7{f:Addr}{ps:List Str}{body:List Stmt}{scope:Scope}{nm:List (Str×Nat)}{N:Nat}{d:Dp}{m:Env->AS}{args:List AV}{Q:zm}{Z:XP}{U₀:AHeap}(XO:X.Ok)(FN:FnOk X f ps body scope)(NO:NamesOk scope.names nm ps N)
  (hk:scope.kind = .function)(hco:scope.isCoroutine=false)(hgen:scope.isGenerator=false)(hs:∀env,EnvOk env->env.scope=scope->jU (X.push env) env nm body (m env))(hd:d.n<600)(hlen:args.length=ps.length)
  (h:∀L,m L ⟨d.n+1,d.hd⟩ (zgb args N) (λfl _ U'=>Ends Q (zqS fl) U') (λc _ U'=>Z c U') U₀):CallOk X f d args Q Z U₀:=by
 unfold CallOk;intro A s vs U hσ L a rv;subst hσ;refine zeH FN.ex λo fd ho hfd hsc hbd hcl hgl hbi hcd hbind=>?_;have hvl:vs.length=ps.length:=by rw[<-rv.length];exact hlen
 have hps:ps.Nodup:=NO.psnd;have hbn:((ps.zip vs).map (·.1)).Nodup:=by
  have:(ps.zip vs).map (·.1)=ps:=by
   rw[fCP];exact zqt hvl
  rw[this];exact hps
 subst hsc;refine codeAny_call_function (fd:=fd) (by have:=L.depth;have:=L.small;show A.depth<1000;exact zyh hd (by assumption)) (a.keep _ _ ho) hfd hco hgen hbd (hcd.keeps a.keep) ?_;rw[hbind vs hvl,hcl,hgl,hbi];refine G7 (wpAny_newFunctionEnv_cells hk (λx hx=>?_) λenv he s1 IC=>?_)
 .have hm:x.1∈ps:=by
   have:=pE (f:=(·.1)) hx;rwa [fCP (zqt hvl)] at this
  obtain⟨i,hi⟩:=fAG.mp hm
  rcases(NO.kinds x.1 i (NO.par' i _ hi)).2 with q|q
  .exact .inl q
  .exact .inr ⟨q,zbm _ _ _ (.inl q)⟩
 subst he;generalize henv:newEnv fd.scope s.heap.objs.size Hk (cellsFrom (s.heap.objs.size+1) fd.scope.names []) (fd.qualname++".<locals>.") (some f) fd.code none builtinsNs=env at IC ⊢;have eL:env.locals=s.heap.objs.size:=by rw[<-henv];rfl
 have eC:env.cells=cellsFrom (s.heap.objs.size+1) fd.scope.names []:=by rw[<-henv];rfl
 have eS:env.scope=fd.scope:=by rw[<-henv];rfl
 have eK:∀x,env.kindOf x=fd.scope.names.lookup x:=λx=>by unfold Env.kindOf;rw[eS]
 have EO:EnvOk env:=⟨by rw[eS];exact hk,by rw[<-henv];rfl,by rw[<-henv];rfl,IC.apart⟩
 have keep:=IC.toInCall.keep;refine z7 IC.toInCall.same λh1 tk hs1=>?_;have kv:KeepV U s.heap U s1.heap:=.ext keep;have a1:At (X.push env) U s1:=⟨λb o e=>keep b o (a.keep b o e),λb ao e=>(a.rep b ao e).mono kv λo ho=>keep b o ho,a.own,by rw[hs1];exact a.gens,by rw[hs1];exact a.os,λM hM=>by
  rcases fG.mp hM with rfl|hM
  .exact⟨by rw[eL];exact a.none_of_size (fN _),znv IC.toInCall.ns⟩
  .exact a.ffk keep M hM⟩
 have cnd:(env.cells.map (·.1)).Nodup:=by rw[eC];exact zdz _ _ _ NO.nodup .nil λx hx=>by simp at hx
 have new:∀c:Nat,s.heap.objs.size<=c->U c=none/\X.h₀.get? c=none:=λc hc=>⟨a.none_of_size hc,by
  cases e:X.h₀.get? c with
  | none=>rfl
  | some o=>have:=ltA (a.keep c o e);lia⟩
 have val:∀x i,nm.lookup x=some i->RepO U s1.heap ((zgb args N).getD i none) ((ps.zip vs).lookup x):=λx i hx=>by
  rw[znG]
  by_cases hi:i<ps.length
  .have hp:ps[i]? = some ps[i]:=fW hi;have hpx:=NO.par x i hx _ hp;rw[<-hpx,zjZ hps (zyn hvl) hp];exact(rv.getO i).mono kv
  .have:x∉ps:=λq=>by
    obtain⟨j,hj⟩:=fAG.mp q;have h2:=NO.par' j x hj;rw[hx] at h2;obtain rfl:=Hw h2;exact hi (fY.mp hj).1
   rw[zdj this,fAF (zuT hlen hi)]
   trivial
 have F1:FR (X.push env) env nm (zgb args N) U s1.heap:=by
  refine⟨(zc _ IC.toInCall.ns (λx i hx hkx=>?_)),λx i hx hkx=>?_,by rw[eL];exact new _ (fN _),⟨λx i hx=>?_,NO.inj⟩,?_,λx c hx=>?_⟩
  .rw[zmP hkx _ _ hbn,Option.or_none];exact val x i hx
  .have hsome:=zbm (x:=x) fd.scope.names (s.heap.objs.size+1) [] (.inl (by rw[<-eK];exact hkx));rw[<-eC] at hsome;obtain⟨c,hc⟩:=pV.mp hsome;refine zL c _ hc (IC.cell x c hc) ?_;rw[zmO hkx _ _ hbn,Option.or_none];exact val x i hx
  .have:=(NO.kinds x i hx).1;have hle:=NO.le;unfold zgb;rw[fE,fC,fA5];exact zzl this
  .have hle:=NO.le;unfold zgb;rw[fE,fC,fA5,NO.len];exact zzo hlen hle
  .have hc:=IC.above x c hx;rw[eL] at hc;have hc':s.heap.objs.size<=c:=fA0 hc;exact zaf ((new c hc').1) ((new c hc').2) _ (IC.cell x c (jW cnd hx))
 refine⟨XO.nolimit.keeps λb o e=>keep b o (a.keep b o e),?_⟩;refine zk9 (codeAny_func ?_);have eF:env.frame=some env.locals:=by rw[<-henv];rfl
 obtain⟨envs,hfr,FO⟩:∃envs,(A.deeper env).frames=some (env::envs)/\FrOk (X.push env) (env::envs):=by
  refine zl L.frames λenvs h1 h2 _=>?_;refine⟨envs,Around.frames_deeper h1,λe he=>?_,λM hM=>?_⟩
  .rcases fG.mp he with rfl|he
   .exact kD (by rw[eS,hk];decide) _ eF fA
   .refine qT (h2.is e he) λk1 M k2 k3=>?_;exact kD k1 M k2 (fB _ k3)
  .rcases fG.mp hM with rfl|hM
   .rw[eL];exact(new _ (fN _)).2
   .exact h2.out M hM
 have L1:Live (X.push env) ⟨d.n+1,d.hd⟩ (A.deeper env):=⟨by have:=L.depth;show A.depth+1<=301+(d.n+1);exact zux this,by have:=L.units;show A.units+3<=20+8*(d.n+1);exact zx3 this,L.handled,hd,_,hfr,FO,λe he=>by cases he;exact⟨_,rfl⟩⟩
 have szL:s.heap.objs.size<s1.heap.objs.size:=by
  have:=IC.toInCall.ns.lt;rw[eL] at this;exact this
 have back:∀{σ2:AHeap} {s2:Shared},Step (FB env) U s1 σ2 s2->Step E0 U s σ2 s2:=λ{σ2 s2} st2=>by
  have st0:Step (FB env) U s U s1:=.same (λb o e _=>keep b o e) (fA0 szL);refine(st0.trans st2).drop λb hb=>?_
  rcases hb with hb|⟨x,hx⟩
  .rw[eL] at hb;rw[hb];exact .inr (fN _)
  .have hc:=IC.above x b hx;rw[eL] at hc;exact .inr (fA0 hc)
 refine G8 (hs env EO eS ⟨d.n+1,d.hd⟩ (A.deeper env) _ U s1 _ _ L1 a1 F1 (h env)) (λfl s2 hpz hsz=>jZ hpz λafl l2 σ2 r2 a2 F2 st2 q2=>?_) λe s2 hpz=>qV hpz λc l2 σ2 x g he hx a2 F2 st2 f z=>?_
 case refine_2=>
  have hx:=hx.1;subst he;refine Fly.vH FO hfr eF a2 f λh' f' hsz=>?_;exact qK c σ2 x g rfl (λo e q=>hx o (keep _ _ e) q) a2.pop (back st2) ⟨f'.keepS,f'.keepX,f'.exg,f'.size,f'.exh⟩ z
 have st:=back st2;unfold Ends at q2;refine jk q2 λφ σ3 v' fz fv q3=>?_;refine zo v' (fzH φ σ2 σ3) (zng fz fv ?_) ((At.fz fz a2).pop) (st.trans (Step.fz fz)) (by rw[zri fz];exact q3);cases fl with
 | next=>cases afl with
  | next=>exact RepV.none
  | ret v=>exact r2.elim
 | ret v=>cases afl with
  | next=>exact r2.elim
  | ret av=>exact r2
 | brk=>cases afl<;>exact r2.elim
 | cont=>cases afl<;>exact r2.elim
end
def zs9(a:AV)(Q:List AV->AHeap->Prop):List AV->AHeap->Prop:=λas σ2=>Q (a::as) σ2
def zvX(F:Dp->Loc->(List AV->AHeap->Prop)->XP->AHeap->Prop)(d:Dp)(l:Loc)(Q:List AV->AHeap->Prop)(Z:XP):zm:=λa σ1=>F d l (zs9 a Q) Z σ1
def zbn(ms:List AE):Dp->Loc->(List AV->AHeap->Prop)->XP->AHeap->Prop:=match ms with
 | []=>λ_ _ Q _ U=>Q [] U
 | m::ms=>λd l Q Z U=>m d l (zvX (zbn ms) d l Q Z) Z U
noncomputable def jB(e:Expr):Bool:=!Nat.beq e.ctorIdx 22
def zR{e:Expr}{rest:List Expr}{env:Env}(h:jB e=true):starEach (e::rest) env=(false,eval e env)::starEach rest env:=by
 cases e<;>first|rfl|exact nob h
inductive SoundEs(X:Cx)(env:Env)(nm:List (Str×Nat)):List Expr->List AE->Prop
 | nil:SoundEs X env nm [] []
 | cons {e es m ms}:jB e=true->zh X env nm e m->SoundEs X env nm es ms->SoundEs X env nm (e::es) (m::ms)
section
variable{X:Cx}{env:Env}{nm:List (Str×Nat)}
def SoundEs.plain{pos:Pos}{es:List Expr}{ms:List AE}(h:SoundEs X env nm es ms):(backTo pos (starEach es env)).any (·.1)=false:=by
 induction h with
 | nil=>rfl
 | cons hs _ r ih=>
  rw[zR hs];show (false||(backTo pos (starEach _ env)).any (·.1))=false;rw[ih];rfl
def kF{pos:Pos}{es ms}(h0:SoundEs X env nm es ms):∀{d A l U s Q Z},Live X d A->At X U s->FR X env nm l U s.heap->zbn ms d l Q Z (vis U)->
  wpAny X.M A (spliced (backTo pos (starEach es env))) (zqK X U s Q) (liftX X U s Z) s:=by
 induction h0 with
 | nil=>intro d A l U s Q Z L a F q;exact G7 ⟨[],U,.nil,a,.refl ..,q⟩
 | @cons e es m ms hs he r ih=>
  intro d A l U s Q Z L a F q;rw[zR hs];show wpAny X.M A (spliced ((false,eval e env)::backTo pos (starEach es env))) _ _ s;refine Calls.spliced_cons (kU (he d A l U s _ Z L a F q) λav v σ1 s1 rv a1 st1 q1=>?_);refine G8 (ih L a1 (F.step a st1) q1) (λvs s2 x=>?_) λ_ _ x=>x.back st1;refine zi x λavs σ2 rvs a2 st2 q2=>?_;exact zo (av::avs) σ2 (.cons (rv.mono (st2.keepV0 a1)) rvs) a2 (st1.trans st2) q2
def qo{f:Value}{pos:Pos}{es ms}(h:SoundEs X env nm es ms){d A l U s Q Z}(L:Live X d A)(a:At X U s)(F:FR X env nm l U s.heap)(q:zbn ms d l Q Z (vis U)){R:Args->Shared->Prop}
  (k:∀vs s',zqK X U s Q vs s'->R ⟨vs,[]⟩ s'):wpAny X.M A (evalArgs f true (backTo pos (starEach es env)) []) R (liftX X U s Z) s:=by
 cases h with
 | nil=>exact PyProof.Rows.evalArgs_none (k [] s (zo [] U .nil a (.refl ..) q))
 | cons hs he r=>
  have:=kF (pos:=pos) (.cons hs he r) L a F q;rw[zR hs] at this ⊢;exact Calls.evalArgs_plain (G8 this (λvs s' x=>k vs s' x) λ_ _ x=>x)
end
def mkL(r:Bool)(xs:List AV)(Q:zm)(U:AHeap):Prop:=match r with
 | true=>∀p,U p=none->Q (.ref p) (U.set p (.list xs))
 | false=>Q (.lst xs) U
namespace A
def zwc(Q:zm):List AV->AHeap->Prop:=λas U'=>zeO as.length (Q (.tup as) U')
def zv4(r:Bool)(Q:zm):List AV->AHeap->Prop:=λas U'=>zeO as.length (mkL r as Q U')
def zs4(X:Cx)(f:Addr)(d:Dp)(Q:zm)(Z:XP):List AV->AHeap->Prop:=λas U'=>CallOk X f d as Q Z U'
def tup(xs:List AE):AE:=λd l Q Z U=>zbn xs d l (zwc Q) Z U
def lst(r:Bool)(xs:List AE):AE:=λd l Q Z U=>zbn xs d l (zv4 r Q) Z U
def wE(X:Cx)(f:Addr)(args:List AE):AE:=λd l Q Z U=>zbn args d l (zs4 X f d Q Z) Z U
end A
section
variable{X:Cx}{env:Env}{nm:List (Str×Nat)}
def zec{A:Around}{U:AHeap}{s:Shared}{Q:zm}{E}{as:List AV}{vs:List Value}(a:At X U s)(r:RepVs U s.heap as vs)(hl:as.length<=1000000)(q:Q (.tup as) (vis U)):wpAny X.M A (newTuple vs) (liftQ X U s Q) E s:=by
 refine wpAny_newObj_type ?_ (by show vs.toArray.size<=sizeLine;rw[gE,<-r.length,Ha];exact zgH hl);exact zo (.tup as) U (.tup hl (qe _ (Heap.get?_push_size _ rfl) rfl 0 rfl) (r.mono (.push _))) (a.push _ s.toks) (Step.push U s _ s.toks) q
def zrB{r:Bool}{U:AHeap}{s:Shared}{Q:zm}{as:List AV}{vs:List Value}{n:Nat}(a:At X U s)(rv:RepVs U s.heap as vs)(hl:as.length<=1000000)(q:mkL r as Q (vis U)){t:Nat}:liftQ X U s Q (.ref s.heap.objs.size) { s with heap:=s.heap.push (zO vs n),toks:=t }:=by
 have h0:=a.none_of_size (fN _);cases r with
 | true=>exact⟨.ref s.heap.objs.size,_,.ref _,a.alloc (ao:=.list as) t λkv=>(zL vs n (Heap.get?_push_size _ rfl) (rv.mono kv) hl),Step.alloc a _ _ t,by rw[jr rfl];exact q _ (qi h0)⟩
 | false=>exact zo (.lst as) _ (.lst (AHeap.wA ..)) (a.alloc (ao:=.frz as) t λkv=>(zv vs (qe _ (Heap.get?_push_size _ rfl) rfl n rfl) (rv.mono kv) hl)) (Step.alloc a _ _ t) (by rw[zgF h0];exact q)
def zeN{r:Bool}{A:Around}{U:AHeap}{s:Shared}{Q:zm}{E}{as:List AV}{vs:List Value}(a:At X U s)(rv:RepVs U s.heap as vs)(hl:as.length<=1000000)(q:mkL r as Q (vis U)) :
  wpAny X.M A (newList vs) (liftQ X U s Q) E s:=by
 refine wpAny_newObj_type ?_ (by show vs.toArray.size<=sizeLine;rw[gE,<-rv.length,Ha];exact zgH hl);exact zrB (n:=0) (t:=s.toks) a rv hl q
def zms{es:List Expr}{ms:List AE}{k:Nat}{pos:Pos}(h:SoundEs X env nm es ms):zh X env nm (.Tuple es k pos) (A.tup ms):=λd A l U s Q Z L a F q=>
 Tuple_ (G8 (kF h L a F q) (λvs s1 hpz=>zi hpz λavs σ1 r a1 st q1=>jN st (zec a1 r (kz q1).1 (kz q1).2)) λ_ _ x=>x)
def zmh{r:Bool}{es:List Expr}{ms:List AE}{pos:Pos}(h:SoundEs X env nm es ms):zh X env nm (.List es pos) (A.lst r ms):=λd A l U s Q Z L a F q=>
 List_ (G8 (kF h L a F q) (λvs s1 hpz=>zi hpz λavs σ1 rv a1 st q1=>jN st (zeN a1 rv (kz q1).1 (kz q1).2)) λ_ _ x=>x)
def qQ{A:Around}{s:Shared}{U:AHeap}{x:Str}{pos:Pos}{v:Value}{Q:Value->Shared->Prop}{E}(XO:X.Ok)(EO:EnvOk env)(a:At X U s)(hx:env.kindOf x=some .globalImplicit)(hd:(x==("__debug__" : Str))=false)
  (hv:X.mg x=some v)(h:Q v s):wpAny X.M A (eval (.Name x pos) env) Q E s:=
 Calls.Name_function_global EO.kind hx (Calls.loadGlobal_global (by rw[EO.glob];exact XO.g.keeps a.keep) hv h) hd
def j4{A:Around}{s:Shared}{U:AHeap}{x:Str}{pos:Pos}{v:Value}{Q:Value->Shared->Prop}{E}(XO:X.Ok)(EO:EnvOk env)(a:At X U s)(hx:env.kindOf x=some .globalImplicit)(hd:(x==("__debug__" : Str))=false)
  (hn:X.mg x=none)(hv:X.mb x=some v)(h:Q v s):wpAny X.M A (eval (.Name x pos) env) Q E s:=
 Calls.Name_function_global EO.kind hx (Calls.loadGlobal_builtin (by rw[EO.glob];exact XO.g.keeps a.keep) hn (by rw[EO.bi];exact XO.b.keeps a.keep) hv h) hd
def CallOk.call{A:Around}{U:AHeap}{s:Shared}{f:Addr}{d:Dp}{args:List AV}{Q:zm}{Z:XP}{vs:List Value}(h:CallOk X f d args Q Z (vis U))(L:Live X d A)(a:At X U s)(r:RepVs U s.heap args vs) :
  wpAny X.M A (PySem.call (.ref f) vs []) (liftQ X U s Q) (liftX X U s Z) s:=by
 unfold CallOk at h;exact wpAny_call (Hf (h A s vs U rfl L a r) λres s' x=>x)
def zjD{g:Str}{f:Addr}{o:Obj}{fd:FuncData}{es:List Expr}{ms:List AE}{gp pos:Pos}(XO:X.Ok)(EO:EnvOk env)(hx:env.kindOf g=some .globalImplicit)(hd:(g==("__debug__" : Str))=false)(hf:X.mg g=some (.ref f))(ho:X.h₀.get? f=some o)(hfd:o.data = .func fd)(h:SoundEs X env nm es ms) :
  zh X env nm (.Call (.Name g gp) es [] pos) (A.wE X f ms):=λd A l U s Q Z L a F q=>by
 refine Call_ (qQ XO EO a hx hd hf ?_);refine callWith_function_kw (o:=o) (fd:=fd) (qo h L a F q λvs s1 hpz=>zi hpz λavs σ1 r a1 st q1=>⟨⟨a1.keep _ _ ho,hfd⟩,?_⟩);exact jN st (q1.call L a1 r)
end
noncomputable def AO.w8 : AO->Option (List AV)
 | .list xs=>some xs
 | _=>Option.none
noncomputable def jm(U:AHeap):AV->Option (List AV)
 | .lst xs=>some xs
 | .ref p=>(U p).bind AO.w8
 | _=>Option.none
def zz{U:AHeap}{p:Addr}{xs:List AV}(h:U p=some (.list xs)):jm U (.ref p)=some xs:=by
 show (U p).bind AO.w8 = _;rw[h];rfl
def zV{U:AHeap}{x:AV}{xs:List AV}(h:jm (vis U) x=some xs):IsL U x xs:=by
 cases x with
 | lst ys=>cases h;exact .lst
 | ref p=>
  have h:(vis U p).bind AO.w8 = some xs:=h;refine zb (pZ.mp h) λo h1 h2=>?_;cases o with
  | list ys=>cases h2;exact .ref h1
  | _=>cases h2
 | _=>cases h
noncomputable def small(n:Nat):Bool:=Nat.blt n 1152921504606846976
def zsG(r:Bool)(a b:AV)(Q:zm)(U:AHeap):Prop:=zu (jm U a) λxs=>zu (jm U b) λys=>zeO (xs.length+ys.length) (mkL r (xs++ys) Q U)
def zvA(r:Bool)(a b:AV)(Q:zm)(U:AHeap):Prop:=match a with
 | .int i=>zu b.int? λj=>Q (.int (i+j)) U
 | .tup xs=>zu b.tup? λys=>zeO (xs.length+ys.length) (Q (.tup (xs++ys)) U)
 | x=>zsG r x b Q U
noncomputable def zsU(j:Int):Bool:=!(decide (j=0))&&Nat.blt j.natAbs 1073741824
noncomputable def zeb(j:Int):Bool:=!(decide (j=0))
noncomputable def ztj(i j:Int):Bool:=decide (0<=j)&&decide (j<=1000)&&Nat.blt i.natAbs 18446744073709551616
def q9(a b:AV)(K:Int->Int->Prop):Prop:=zu a.int? λi=>zu b.int? λj=>K i j
def zsJ(r:Bool)(op:Operator)(a b:AV)(Q:zm)(U:AHeap):Prop:=match op with
 | .Add=>zvA r a b Q U
 | .Sub=>q9 a b λi j=>Q (.int (i-j)) U
 | .Mult=>q9 a b λi j=>onB (small j.natAbs||small i.natAbs) (Q (.int (i*j)) U)
 | .FloorDiv=>q9 a b λi j=>onB (zsU j) (Q (.int (i.fdiv j)) U)
 | .Mod=>q9 a b λi j=>onB (zeb j) (Q (.int (i.fmod j)) U)
 | .Pow=>q9 a b λi j=>onB (ztj i j) (Q (.int (i ^ j.toNat)) U)
 | _=>False
section
variable{X:Cx}{A:Around}{U:AHeap}{s:Shared}{Q:zm}{E:Value->Shared->Prop}{x y:AV}{u v:Value}
def zaF{i:Int}(h:small i.natAbs=true):Builtin.Int.intBits i<=64:=by
 have h:i.natAbs<2 ^ 60:=by unfold small at h;have:=fC5.mp h;exact this
 unfold Builtin.Int.intBits;split
 .exact y6
 .rename_i h0
  have:i.natAbs.log2<60:=(Nat.log2_lt (by intro e;simp[Int.natAbs_eq_zero] at e;subst e;simp at h0)).mpr h;exact zwS this
def ziu{xs ys:List AV}(a:At X U s)(rx:RepV U s.heap (.tup xs) u)(ry:RepV U s.heap (.tup ys) v)(hq:xs.length+ys.length<=1000000)(q:Q (.tup (xs++ys)) (vis U)):wpAny X.M A (binaryOp .Add u v) (liftQ X U s Q) E s:=by
 refine zi (RepV.wI rx) λt vs e0_2 hla ht rs=>?_;subst e0_2;refine zi (RepV.wI ry) λt2 ws e1_2 hlb ht2 rs2=>?_;subst e1_2;refine jz (id ht) λh2_0 ho hc n hd=>?_;obtain⟨cls,dd,data,sl⟩:=h2_0;refine jz (id ht2) λh3_0 ho2 hc2 n2 hd2=>?_;obtain⟨cls2,dd2,data2,sl2⟩:=h3_0;subst hc hd hc2 hd2;have l1:=rs.length;have l2:=rs2.length;have e:vs.toArray++ws.toArray=(vs++ws).toArray:=by simp
 by_cases hv:vs=[]
 .subst hv;cases rs;exact concat_meets (zc _ ho rfl) (zc _ ho2 rfl) noFill_tuple_add seq_tuple_add PySem.F.slot_tuple_add PySem.F.entry_tuple_add (PySem.F.args_tuple_add_2 _ _)
   (tuple_addW0 t t2 _ ws.toArray n n2 dd dd2 sl sl2 rfl) (zq ho ho2 (zbH a (.tup hlb ht2 rs2) q))
 .by_cases hw:ws=[]
  .subst hw;cases rs2;refine concat_meets (zc _ ho rfl) (zc _ ho2 rfl) noFill_tuple_add seq_tuple_add PySem.F.slot_tuple_add PySem.F.entry_tuple_add (PySem.F.args_tuple_add_2 _ _)
    (tuple_addW1 t t2 vs.toArray _ n n2 dd dd2 sl sl2 (by simpa using hv) rfl) (zq ho ho2 (zbH a (.tup hla ht rs) ?_))
   rwa [gQ] at q
  .refine concat_meets (zc _ ho rfl) (zc _ ho2 rfl) noFill_tuple_add seq_tuple_add PySem.F.slot_tuple_add PySem.F.entry_tuple_add (PySem.F.args_tuple_add_2 _ _)
    (tuple_addW2 t t2 vs.toArray ws.toArray n n2 dd dd2 sl sl2 (by simpa using hv) (by simpa using hw) (by rw[gE,gE,Ha];exact zu8 hq l1 l2)) (zq ho ho2 ?_)
   rw[e];exact zo _ U (.tup (by rw[fE];exact hq) (qe _ (Heap.get?_push_size _ rfl) rfl 0 rfl) ((rs.append rs2).mono (.push _))) (a.push _ s.toks) (Step.push U s _ s.toks) q
def jX{r:Bool}(a:At X U s)(rx:RepV U s.heap x u)(ry:RepV U s.heap y v)(q:zsG r x y Q (vis U)):wpAny X.M A (binaryOp .Add u v) (liftQ X U s Q) E s:=by
 refine zb (zg q) λxs h1 q=>?_;refine zb (zg q) λys h2 q=>?_;obtain⟨hl,q⟩:=kz q;refine zr (a.isList (zV h1) rx) λp vs e7_2 _ ht rs _=>?_;subst e7_2;refine zr (a.isList (zV h2) ry) λp2 ws e8_2 _ ht2 rs2 _=>?_;subst e8_2;refine jz (id ht) λh9_0 ho hc n hd=>?_;obtain⟨cls,dd,data,sl⟩:=h9_0;refine jz (id ht2) λh10_0 ho2 hc2 n2 hd2=>?_;obtain⟨cls2,dd2,data2,sl2⟩:=h10_0;subst hc hd hc2 hd2;have l1:=rs.length;have l2:=rs2.length;have e:vs.toArray++ws.toArray=(vs++ws).toArray:=by simp
 refine concat_meets (zc _ ho rfl) (zc _ ho2 rfl) noFill_list_add seq_list_add PySem.F.slot_list_add PySem.F.entry_list_add (PySem.F.args_list_add_2 _ _)
  (list_addW p p2 vs.toArray ws.toArray n n2 dd dd2 sl sl2 (by rw[gE,gE,Ha];exact zu8 hl l1 l2)) (zq ho ho2 ?_)
 rw[e];exact zrB (n:=0) (t:=s.toks) a (rs.append rs2) (by rw[fE];exact hl) q
def zkW{r:Bool}{op:Operator}(a:At X U s)(rx:RepV U s.heap x u)(ry:RepV U s.heap y v)(q:zsJ r op x y Q (vis U)):wpAny X.M A (binaryOp op u v) (liftQ X U s Q) E s:=by
 have two:∀{K:Int->Int->Prop},q9 x y K->∃i j t t',x = .int i/\y = .int j/\u = .int i t/\v = .int j t'/\K i j:=λq=>by
  refine zb (zg q) λi h1 q=>?_;refine zb (zg q) λj h2 q=>?_;have h1:=ji h1;have h2:=ji h2;subst h1;subst h2;obtain⟨_,rfl⟩:=RepV.wC rx;obtain⟨_,rfl⟩:=RepV.wC ry;exact j7 i j _ _ rfl rfl rfl rfl q
 cases op with
 | Add=>
  cases x with
  | int i=>
   refine zb (zg q) λj h2 q=>?_;have h2:=ji h2;subst h2;obtain⟨_,rfl⟩:=RepV.wC rx;obtain⟨_,rfl⟩:=RepV.wC ry;exact P.add_int (kO a (.int _ _) q)
  | tup xs=>
   refine zb (zg q) λys h2 q=>?_;have h2:=zqd h2;subst h2;exact ziu a rx ry (kz q).1 (kz q).2
  | str n=>exact jX (r:=r) a rx ry q
  | none=>exact jX (r:=r) a rx ry q
  | bool _=>exact jX (r:=r) a rx ry q
  | lst _=>exact jX (r:=r) a rx ry q
  | ref _=>exact jX (r:=r) a rx ry q
  | rng _ _=>exact jX (r:=r) a rx ry q
  | exc _=>exact jX (r:=r) a rx ry q
 | Sub=>refine zS (two q) λi j t t' e29_4 e29_5 e29_6 e29_7 q=>?_;subst e29_4;subst e29_5;subst e29_6;subst e29_7;exact P.sub_int (kO a (.int _ _) q)
 | Mult=>
  refine zS (two q) λi j t t' e34_4 e34_5 e34_6 e34_7 q=>?_;subst e34_4;subst e34_5;subst e34_6;subst e34_7;obtain⟨h,q⟩:=qE q
  rcases Bool.or_eq_true_iff.mp h with h|h
  .exact P.mul_int (kO a (.int _ _) q) (IntMulOk.of_right (zaF h))
  .exact P.mul_int (kO a (.int _ _) q) (IntMulOk.of_left (zaF h))
 | FloorDiv=>
  refine zS (two q) λi j t t' e34_4 e34_5 e34_6 e34_7 q=>?_;subst e34_4;subst e34_5;subst e34_6;subst e34_7;obtain⟨h,q⟩:=qE q;have h:=gB.mp h;have h0:¬j=0:=by simpa using h.1
  exact floordiv_int h0 (kO a (.int _ _) q) (.inl (PyProof.noPylong_small (fC5.mp h.2)))
 | Mod=>
  refine zS (two q) λi j t t' e36_4 e36_5 e36_6 e36_7 q=>?_;subst e36_4;subst e36_5;subst e36_6;subst e36_7;obtain⟨h,q⟩:=qE q;have h0:¬j=0:=by simpa [zeb] using h
  exact mod_int' h0 (kO a (.int _ _) q)
 | Pow=>
  refine zS (two q) λi j t t' e38_4 e38_5 e38_6 e38_7 q=>?_;subst e38_4;subst e38_5;subst e38_6;subst e38_7;obtain⟨h,q⟩:=qE q;have h:=gB.mp h;have h1:=gB.mp h.1;exact pow_int_small (Hz h1.1) (by have:=Hz h1.2;lia) (fC5.mp h.2) (kO a (.int _ _) q)
 | _=>exact q.elim
end
mutual
inductive Rd(U:AHeap):AV->PyData->Prop
 | none:Rd U .none .none
 | bool (b:Bool):Rd U (.bool b) (.bool b)
 | int (i:Int):Rd U (.int i) (.int i)
 | str (n:Nat):Rd U (.str n) (.str (zx n))
 | tup {xs ds}:RdL U xs ds->Rd U (.tup xs) (.tuple ds)
 | lst {xs ds}:RdL U xs ds->Rd U (.lst xs) (.list ds)
 | list {a xs ds}:U a=some (.list xs)->RdL U xs ds->Rd U (.ref a) (.list ds)
inductive RdL(U:AHeap):List AV->List PyData->Prop
 | nil:RdL U [] []
 | cons {x xs d ds}:Rd U x d->RdL U xs ds->RdL U (x::xs) (d::ds)
end
def Rd.wL{U:AHeap}{d:PyData}(r:Rd U .none d):d = .none:=by cases r;rfl
def Rd.wC{U:AHeap}{i:Int}{d:PyData}(r:Rd U (.int i) d):d = .int i:=by cases r;rfl
def Rd.wK{U:AHeap}{n:Nat}{d:PyData}(r:Rd U (.str n) d):d = .str (zx n):=by cases r;rfl
def Rd.wI{U:AHeap}{xs:List AV}{d:PyData}(r:Rd U (.tup xs) d):∃ds,d = .tuple ds/\RdL U xs ds:=by cases r with|tup r=>exact zc _ rfl r
def Rd.wQ{U:AHeap}{xs:List AV}{d:PyData}(r:Rd U (.lst xs) d):∃ds,d = .list ds/\RdL U xs ds:=by cases r with|lst r=>exact zc _ rfl r
def RdL.wG{U:AHeap}{ds:List PyData}(r:RdL U [] ds):ds=[]:=by cases r;rfl
def RdL.wF{U:AHeap}{x:AV}{xs:List AV}{ds:List PyData}(r:RdL U (x::xs) ds):∃e es,ds=e::es/\Rd U x e/\RdL U xs es:=by cases r with|cons a r=>exact zL _ _ rfl a r
def Rd.reads{X:Cx}{U:AHeap}{s:Shared}(a:At X U s){x:AV}{d:PyData}(h:Rd (vis U) x d){v:Value}(r:RepV U s.heap x v):(∃as,Reads s.heap v d as)/\d.canLay0=true:=by
 refine Rd.rec (motive_1:=λx d _=>∀v,RepV U s.heap x v->(∃as,Reads s.heap v d as)/\d.canLay0=true) (motive_2:=λxs ds _=>∀vs,RepVs U s.heap xs vs->(∃as,ReadsAll s.heap vs ds as)/\PyData.canLayAll0 ds=true)
  ?_ ?_ ?_ ?_ ?_ ?_ ?_ ?_ ?_ h v r
 .intro v r;obtain rfl:=RepV.wL r;exact⟨⟨_,.none⟩,by simp only[PyData.canLay0]⟩
 .intro b v r;obtain rfl:=RepV.wM r;exact⟨⟨_,.bool b⟩,by simp only[PyData.canLay0]⟩
 .intro i v r;obtain⟨_,rfl⟩:=RepV.wC r;exact⟨⟨_,.int i _⟩,by simp only[PyData.canLay0]⟩
 .intro n v r;refine zb (RepV.wK r) λt e1_1 hn=>?_;subst e1_1;exact⟨⟨_,.str _ t⟩,by simp only[PyData.canLay0];exact zie hn⟩
 .intro xs ds _ ih v r;refine zi (RepV.wI r) λ_ _ e2_2 hl ht rv=>?_;subst e2_2;refine jz ht λo ho hc n hd=>?_;obtain⟨⟨as,h⟩,h2⟩:=ih _ rv;exact⟨⟨as,.tuple ho hc hd (by simpa using h)⟩,by simp only[PyData.canLay0];exact h2⟩
 .intro xs ds _ ih v r;refine zr (a.isList .lst r) λp vs e5_2 _ h5_4 rv _=>?_;subst e5_2;refine jz h5_4 λo ho hc n hd=>?_;obtain⟨⟨as,h⟩,h2⟩:=ih _ rv;exact⟨⟨_,.list ho hc hd (by simpa using h)⟩,by simp only[PyData.canLay0];exact h2⟩
 .intro p xs ds hp _ ih v r;refine zr (a.isList (.ref hp) r) λp vs e7_2 _ h7_4 rv _=>?_;subst e7_2;refine jz h7_4 λo ho hc n hd=>?_;obtain⟨⟨as,h⟩,h2⟩:=ih _ rv;exact⟨⟨_,.list ho hc hd (by simpa using h)⟩,by simp only[PyData.canLay0];exact h2⟩
 .intro vs r;obtain rfl:=RepVs.wG r;exact⟨⟨_,.nil⟩,rfl⟩
 .intro x xs d ds _ _ h1 h2 vs r;refine zn (RepVs.wF r) λ_ _ e9_2 rv rvs=>?_;subst e9_2;obtain⟨⟨as,g1⟩,k1⟩:=h1 _ rv;obtain⟨⟨bs,g2⟩,k2⟩:=h2 _ rvs;exact⟨⟨_,.cons g1 g2⟩,by simp only[PyData.canLayAll0,k1,k2,Bool.and_self]⟩
def zmB(A:Around)(s:Shared)(x y:Value)(t:Bool):Prop:=
 ∀(prog:Hh) (w:World) (E:Value->Shared->Prop) (Q:Value->Shared->Prop),Q (.bool t) s->wpAny (model prog w) A (richCompare .Lt x y) Q E s
noncomputable def LtZ(A:Around)(s:Shared)(f:Bool):List (Value×Value)->Bool->Prop
 | [],t=>t=f
 | p::r,t=>(EqAt A s p.1 p.2 true/\LtZ A s f r t)\/(EqAt A s p.1 p.2 false/\zmB A s p.1 p.2 t)
def zeT(l b:Value):Builtin.«tuple.__lt__» ⟨[l,b],[]⟩=(do
  if !(<-isInstance b (.type "tuple")) then return <-ret .notImplemented
  let xs <-Builtin.Tuple.tupleItemsOf l
  let ys <-Builtin.Tuple.tupleItemsOf b
  for (x,y) in xs.toList.zip ys.toList do
   if !(<-eqBool x y) then
    rule "tuple.compare.by-the-first-pair-that-differs";return <-ret (<-richCompare .Lt x y)
  ret (Builtin.Tuple.tupleCompareSizes .Lt xs.size ys.size)):=rfl
def zlK{A:Around}{s:Shared}{l b:Addr}{xs ys:List Value}{t:Bool}(hl:IsTup s.heap l xs.toArray)(hb:IsTup s.heap b ys.toArray)(hu:A.units<cLine)(h:LtZ A.in1 s (decide (xs.length<ys.length)) (xs.zip ys) t):zmB A s (.ref l) (.ref b) t:=by
 intro prog w E Q q;refine wpAny_richCompare_same_or (op:=.Lt) hl.typeIs hb.typeIs F.slot_tuple_lt (Hd F.slot_tuple_lt hl.typeIs F.entry_tuple_lt ?_ (F.args_tuple_lt_2 _ _)) (.inr hu);rw[zeT];refine G6 (wpAny_isInstance (T:="tuple") (b:=true) hb.typeIs AutoSeq1.sub_tuple_tuple ?_);refine G6 (tupleItemsOf_ hl (G6 (tupleItemsOf_ hb ?_)));refine G6 ?_;refine Hc _ (λrest b s'=>b=(none,())/\s'=s/\LtZ A.in1 s (decide (xs.length<ys.length)) rest t) _ ?_ ?_ _ _ (zq rfl rfl h)
 .intro p rest b s' hR;refine jg hR λe0 e1 hL=>?_;subst e0 e1
  rcases hL with⟨he,hr⟩|⟨he,hr⟩
  .exact G6 (he prog w _ _ (G7 (zq rfl rfl hr)))
  .refine G6 (he prog w _ _ (G6 (Hb (G6 (hr prog w _ _ (G6 (G7 (G7 ?_))))))));exact G7 (zv _ rfl (λe=>nomatch e) q)
 .intro b s' hR;refine jg hR λe0 e1 hL=>?_;subst e0 e1;have hL:t=decide (xs.length<ys.length):=hL;subst hL;exact G7 (zv _ rfl (λe=>nomatch e) q)
mutual
noncomputable def ltD:PyData->PyData->Option Bool
 | .int i,.int j=>some (decide (i<j))
 | .str x,.str y=>some (decide (x.cps.toList<y.cps.toList))
 | .tuple xs,.tuple ys=>zbA xs ys
 | _,_=>none
noncomputable def zbA:List PyData->List PyData->Option Bool
 | [],[]=>some false
 | [],_::_=>some true
 | _::_,[]=>some false
 | x::xs,y::ys=>if PyData.eqv x y then zbA xs ys else ltD x y
end
def zb5(a b:Int):ltD (.int a) (.int b)=some (decide (a<b)):=rfl
def zkk(x y:Str):ltD (.str x) (.str y)=some (decide (x.cps.toList<y.cps.toList)):=rfl
def zcY(xs ys:List PyData):ltD (.tuple xs) (.tuple ys)=zbA xs ys:=rfl
def zgd:zbA [] []=some false:=rfl
def zpG(y:PyData)(ys:List PyData):zbA [] (y::ys)=some true:=rfl
def zpF(x:PyData)(xs:List PyData):zbA (x::xs) []=some false:=rfl
def qL(x y:PyData)(xs ys:List PyData):zbA (x::xs) (y::ys)=if PyData.eqv x y then zbA xs ys else ltD x y:=rfl
def ju{h:Heap}{vs:List Value}{d:PyData}{ds:List PyData}{as:List Addr}(r:ReadsAll h vs (d::ds) as):∃v vs' a1 a2,vs=v::vs'/\Reads h v d a1/\ReadsAll h vs' ds a2:=
 (readsAll_cons_inv r).imp λ_ h=>h.imp λ_ h=>h.imp λ_ h=>h.imp λ_ h=>⟨h.1,h.2.2⟩
def jJ{h:Heap}{vs:List Value}{as:List Addr}(r:ReadsAll h vs [] as):vs=[]:=(readsAll_nil_inv r).1
def zba{h:Heap}{v:Value}{i:Int}{as:List Addr}(r:Reads h v (.int i) as):∃t,v = .int i t:=(reads_int_inv r).imp λ_ h=>h.1
def zbb{h:Heap}{v:Value}{x:Str}{as:List Addr}(r:Reads h v (.str x) as):∃t,v = .str x t:=(reads_str_inv r).imp λ_ h=>h.1
def zrv{M:PyData->PyData->Bool->Prop}(hi:∀i j:Int,M (.int i) (.int j) (decide (i<j)))(hs:∀x y:Str,M (.str x) (.str y) (decide (x.cps.toList<y.cps.toList)))(ht:∀xs ys t,zbA xs ys=some t->M (.tuple xs) (.tuple ys) t)
  {da db:PyData}{t:Bool}(e:ltD da db=some t):M da db t:=by
 cases da with
 | int i=>cases db with
  | int j=>exact Hw e▸hi i j
  | _=>exact nos e
 | str x=>cases db with
  | str y=>exact Hw e▸hs x y
  | _=>exact nos e
 | tuple xs=>cases db with
  | tuple ys=>exact ht xs ys t e
  | _=>exact nos e
 | _=>exact nos e
def LtR(s:Shared)(da:PyData):Prop:=∀{A:Around} (db:PyData) {a b:Value} {as bs:List Addr} {t:Bool},Reads s.heap a da as->Reads s.heap b db bs->da.canLay0=true->db.canLay0=true->A.units+2*da.depth+10<cLine->ltD da db=some t->zmB A s a b t
def zlI{s:Shared}{xs:List PyData}:(∀x∈xs,LtR s x)->∀{A:Around} {ys:List PyData} {vs ws:List Value} {as bs:List Addr} {f t:Bool},ReadsAll s.heap vs xs as->ReadsAll s.heap ws ys bs->PyData.canLayAll0 xs=true->PyData.canLayAll0 ys=true->A.units+2*PyData.depthAll xs+10<cLine->zbA xs ys=some t->f=decide (vs.length<ws.length)->LtZ A s f (vs.zip ws) t:=by
 induction xs with
 | nil=>
  intro _ A ys vs ws as bs f t rx ry ha hb hu e hf;rw[jJ rx] at hf ⊢;cases ys with
  | nil=>rw[jJ ry] at hf;exact(Hw e).symm.trans hf.symm
  | cons y ys=>refine qO (ju ry) λ_ _ _ _ z1 _ _=>?_;rw[z1] at hf;exact(Hw e).symm.trans hf.symm
 | cons x xs ih=>
  intro H A ys vs ws as bs f t rx ry ha hb hu e hf;refine qO (ju rx) λ_ _ _ _ z1 h1 h2=>?_;rw[z1] at hf ⊢;cases ys with
  | nil=>rw[jJ ry] at hf ⊢;exact(Hw e).symm.trans hf.symm
  | cons y ys=>
   refine qO (ju ry) λ_ _ _ _ z1 k1 k2=>?_;rw[z1] at hf ⊢;have ha:=(gT _ _).mp ha;have hb:=(gT _ _).mp hb;have hu:A.units+2*max x.depth (PyData.depthAll xs)+10<cLine:=hu;have heq:=eqAt_reads x y A s _ _ _ _ h1 k1 ha.1 hb.1 (zvg hu);rw[qL] at e;cases hE:PyData.eqv x y with
   | true=>rw[hE] at e heq;exact .inl ⟨heq,ih (λz hz=>H z (fB _ hz)) h2 k2 ha.2 hb.2 (zu6 hu) e (hf.trans (decide_eq_decide.mpr fB1))⟩
   | false=>rw[hE] at e heq;exact .inr ⟨heq,H x fA y h1 k1 ha.1 hb.1 (zu5 hu) e⟩
def zm5{n:Nat}{xs:List PyData}(h:PyData.depthAll xs<=n):∀x∈xs,x.depth<=n:=by
 induction xs with
 | nil=>exact λ_ h=>nomatch h
 | cons y ys ih=>exact fO.mpr ⟨fF (Nat.le_max_left _ _) h,ih (fF (Nat.le_max_right _ _) h)⟩
def zqL{s:Shared}{n:Nat}(H:∀xs,(PyData.tuple xs).depth<=n->∀x∈xs,LtR s x)(da:PyData)(hn:da.depth<=n):LtR s da:=by
 intro A db a b as bs t ra rb ha hb hu e;refine zrv (M:=λda db t=>da.depth<=n->Reads s.heap a da as->Reads s.heap b db bs->da.canLay0=true->db.canLay0=true->A.units+2*da.depth+10<cLine->zmB A s a b t) ?_ ?_ ?_ e hn ra rb ha hb hu
 .intro i j _ ra rb _ _ _;refine zY (zba ra) λ_ z1=>zY (zba rb) λ_ z2=>?_;rw[z1,z2];exact λprog w E Q q=>P.lt_int q
 .intro i j _ ra rb _ _ _;refine zY (zbb ra) λ_ z1=>zY (zbb rb) λ_ z2=>?_;rw[z1,z2];exact λprog w E Q q=>P.lt_str q
 .intro xs ys t e hn ra rb ha hb hu;refine zn (reads_tuple_items ra) λ_ _ z1 h1 hr=>zn (reads_tuple_items rb) λ_ _ z2 h2 hr2=>?_;rw[z1,z2];exact zlK h1 h2 (zyL hu) (zlI (H xs hn) hr hr2 ha hb (zyK hu) e rfl)
def zlJ{s:Shared}(n:Nat):∀da:PyData,da.depth<=n->LtR s da:=by
 induction n with
 | zero=>exact zqL λxs h=>absurd h (Nat.not_succ_le_zero _)
 | succ n ih=>exact zqL λxs h=>λx hx=>ih x (zm5 (fBN h) x hx)
def zhA{A:Around}{s:Shared}(da db:PyData){a b:Value}{as bs:List Addr}{t:Bool}(ra:Reads s.heap a da as)(rb:Reads s.heap b db bs)(ha:da.canLay0=true)(hb:db.canLay0=true)(hu:A.units+2*da.depth+10<cLine)(e:ltD da db=some t):zmB A s a b t:=zlJ _ da (fN _) db ra rb ha hb hu e
noncomputable def AV.isNone:AV->Bool
 | .none=>true
 | _=>false
@[irreducible] noncomputable def eqG(a b:AV)(Q:Bool->AHeap->Prop)(U:AHeap):Prop:=∃x y,Rd U a x/\Rd U b y/\x.depth<=100/\Q (PyData.eqv x y) U
@[irreducible] noncomputable def ltG(a b:AV)(Q:Bool->AHeap->Prop)(U:AHeap):Prop:=∃x y t,Rd U a x/\Rd U b y/\x.depth<=100/\ltD x y=some t/\Q t U
@[irreducible] noncomputable def inG(x c:AV)(Q:Bool->AHeap->Prop)(U:AHeap):Prop:=∃ds d,(Rd U c (.list ds)\/Rd U c (.tuple ds))/\Rd U x d/\PyData.depthAll ds<=100/\Q (ds.any λy=>PyData.eqv y d) U
@[irreducible] noncomputable def inR(x:AV)(p:Addr)(Q:Bool->AHeap->Prop)(U:AHeap):Prop:=(∃kvs k,U p=some (.tdict kvs)/\x=zA k/\Q (Tab.at kvs k).isSome U)\/(∃fs n,U p=some (.idict fs)/\x = .str n/\Q (zaz fs n).isSome U)\/inG x (.ref p) Q U
def eqF(a b:AV)(Q:Bool->AHeap->Prop)(U:AHeap):Prop:=match a with
 | .int i=>(match b with
  | .int j=>Q (decide (i=j)) U
  | _=>eqG a b Q U)
 | .str n=>(match b with
  | .str m=>Q (Nat.beq n m) U
  | _=>eqG a b Q U)
 | _=>eqG a b Q U
def inF(x c:AV)(Q:Bool->AHeap->Prop)(U:AHeap):Prop:=match c with
 | .ref p=>inR x p Q U
 | _=>inG x c Q U
def ltF(a b:AV)(Q:Bool->AHeap->Prop)(U:AHeap):Prop:=match a with
 | .int i=>zu b.int? λj=>Q (decide (i<j)) U
 | _=>ltG a b Q U
def zsT(op:CmpOp)(a b:AV)(Q:Bool->AHeap->Prop)(U:AHeap):Prop:=match op with
 | .Eq=>eqF a b Q U
 | .NotEq=>eqF a b (λt U'=>Q (!t) U') U
 | .Lt=>ltF a b Q U
 | .LtE=>q9 a b λi j=>Q (decide (i<=j)) U
 | .Gt=>q9 a b λi j=>Q (decide (i>j)) U
 | .GtE=>q9 a b λi j=>Q (decide (i>=j)) U
 | .In=>inF a b Q U
 | .NotIn=>inF a b (λt U'=>Q (!t) U') U
 | .Is=>onB b.isNone (Q a.isNone U)
 | .IsNot=>onB b.isNone (Q (!a.isNone) U)
section
variable{X:Cx}{A:Around}{U:AHeap}{s:Shared}{E:Value->Shared->Prop}{d:Dp}{x y:AV}{u v:Value}
def zcW{R:Bool->Shared->Prop}(rx:RepV U s.heap x u)(h:R x.isNone s):wpAny X.M A (isSame u .none) R E s:=by
 cases rx<;>exact G7 h
def zex{R:Bool->AHeap->Prop}{t:Bool}(a:At X U s)(q:R t (vis U)):liftB X U s R t s:=(zv U a (.refl ..) q)
def zfu(X:Cx)(U:AHeap)(s:Shared)(R:Bool->AHeap->Prop):Value->Shared->Prop:=λw s'=>∃t,w = .bool t/\liftB X U s R t s'
def ze4{R:Bool->AHeap->Prop}(L:Live X d A)(a:At X U s)(rx:RepV U s.heap x u)(ry:RepV U s.heap y v)(q:inG x y R (vis U)):wpAny X.M A (compareOp .In u v) (zfu X U s R) E s:=by
 have room:=L.room;unfold inG at q;obtain⟨ds,dd,hc,hx,hd1,q⟩:=q;obtain⟨⟨as,r1⟩,kd⟩:=hx.reads a rx;have hu:A.units+1+min (PyData.depthAll ds) dd.depth<cLine:=by
  have:min (PyData.depthAll ds) dd.depth<=PyData.depthAll ds:=fCY _ _;exact zAh room hd1
 rcases hc with hc|hc
 .obtain⟨⟨bs,r2⟩,kc⟩:=hc.reads a ry;exact in_list_reads r2 r1 (by simpa only[PyData.canLay0] using kc) kd hu (zc _ rfl (zex a q))
 .obtain⟨⟨bs,r2⟩,kc⟩:=hc.reads a ry;exact in_tuple_reads r2 r1 (by simpa only[PyData.canLay0] using kc) kd hu (zc _ rfl (zex a q))
def zii{R:Bool->AHeap->Prop}{w:Value}{s':Shared}(h:liftQ X U s (λv U'=>∃t,v = .bool t/\R t U') w s'):zfu X U s R w s':=by
 refine ziP h λav U' r a' st t e3_6 q=>?_;subst e3_6;obtain rfl:=RepV.wM r;exact zhk t rfl U' a' st q
def zhm{R:Bool->AHeap->Prop}(L:Live X d A)(a:At X U s)(rx:RepV U s.heap x u)(ry:RepV U s.heap y v)(q:inF x y R (vis U)):wpAny X.M A (compareOp .In u v) (zfu X U s R) E s:=by
 cases y with
 | ref p=>
  have qr:inR x p R (vis U):=q;clear q;unfold inR at qr
  rcases qr with⟨kvs,k,hp,rfl,q⟩|⟨fs,n,hp,rfl,q⟩|q
  .obtain rfl:=RepV.wN ry;exact G8 (zrW (Q:=λv U'=>∃t,v = .bool t/\R t U') L a (zG hp).1 rx (zc _ rfl q)) (λw s' h=>zii h) λ_ _ e=>e
  .obtain rfl:=RepV.wN ry;exact G8 (ztw (Q:=λv U'=>∃t,v = .bool t/\R t U') a (zG hp).1 rx (zc _ rfl q)) (λw s' h=>zii h) λ_ _ e=>e
  .exact ze4 L a rx ry q
 | _=>exact ze4 L a rx ry q
def zha{R:Bool->AHeap->Prop}(L:Live X d A)(a:At X U s)(rx:RepV U s.heap x u)(ry:RepV U s.heap y v)(q:eqF x y R (vis U)) :
  wpAny X.M A (compareOp .Eq u v) (λw s'=>∃t,w = .bool t/\liftB X U s R t s') E s/\wpAny X.M A (compareOp .NotEq u v) (λw s'=>∃t,w = .bool (!t)/\liftB X U s R t s') E s:=by
 have room:=L.room;have gen:eqG x y R (vis U)->wpAny X.M A (compareOp .Eq u v) (λw s'=>∃t,w = .bool t/\liftB X U s R t s') E s/\wpAny X.M A (compareOp .NotEq u v) (λw s'=>∃t,w = .bool (!t)/\liftB X U s R t s') E s:=by
  intro q;unfold eqG at q;refine zi q λda db h1 h2 k1 q=>?_;obtain⟨⟨as,r1⟩,c1⟩:=h1.reads a rx;obtain⟨⟨bs,r2⟩,c2⟩:=h2.reads a ry;have hm:min da.depth db.depth<=da.depth:=fCY _ _;exact⟨compareEq_reads r1 r2 c1 c2 (zu7 room k1) (zc _ rfl (zex a q)),compareNe_reads r1 r2 c1 c2 (zu7 room k1) (zc _ rfl (zex a q))⟩
 cases x with
 | int i=>
  cases y with
  | int j=>
   refine gen ?_;unfold eqG;refine zo _ _ (.int i) (.int j) (by simp only[PyData.depth];exact y5) ?_;have e:PyData.eqv (.int i) (.int j)=decide (i=j):=by
    simp only[PyData.eqv]
    by_cases h:i=j
    .rw[Hy h,beq_iff_eq.mpr h]
    .rw[Hx h,beq_eq_false_iff_ne.mpr h]
   exact q
  | _=>exact gen q
 | str n=>
  cases y with
  | str m=>
   refine gen ?_;unfold eqG;refine zo _ _ (.str n) (.str m) (by simp only[PyData.depth];exact y5) ?_;cases rx with
   | str hn t=>
    refine zb (RepV.wK ry) λt' e7_1 hm=>?_;subst e7_1;have e:PyData.eqv (.str (zx n)) (.str (zx m))=Nat.beq n m:=by
     rw[zrD];simp only[PyData.eqv]
     by_cases h:n=m
     .subst h;rw[Hy rfl,beq_iff_eq.mpr rfl]
     .rw[Hx h,beq_eq_false_iff_ne.mpr λe=>h (kX hn hm e)]
    rw[e];exact q
  | _=>exact gen q
 | _=>exact gen q
def za4{op:CmpOp}{R:Bool->AHeap->Prop}(L:Live X d A)(a:At X U s)(rx:RepV U s.heap x u)(ry:RepV U s.heap y v)(q:zsT op x y R (vis U)):wpAny X.M A (compareOp op u v) (zfu X U s R) E s:=by
 have room:=L.room;have two:∀{K:Int->Int->Prop},q9 x y K->∃i j t t',x = .int i/\y = .int j/\u = .int i t/\v = .int j t'/\K i j:=λq=>by
  refine zb (zg q) λi h1 q=>?_;refine zb (zg q) λj h2 q=>?_;have h1:=ji h1;have h2:=ji h2;subst h1;subst h2;obtain⟨_,rfl⟩:=RepV.wC rx;obtain⟨_,rfl⟩:=RepV.wC ry;exact j7 i j _ _ rfl rfl rfl rfl q
 have neg:∀{w:Value} {s':Shared},(∃t,w = .bool (!t)/\liftB X U s (λt U'=>R (!t) U') t s')->zfu X U s R w s':=λ{w s'} h=>by
  refine kH h λt e U' a' st q=>?_;exact zhk (!t) e U' a' st q
 cases op with
 | Eq=>exact(zha L a rx ry q).1
 | NotEq=>
  have q:eqF x y (λt U'=>R (!t) U') (vis U):=q;exact G8 (zha L a rx ry q).2 (λw s' h=>neg h) λ_ _ e=>e
 | Lt=>
  have gen:ltG x y R (vis U)->wpAny X.M A (compareOp .Lt u v) (zfu X U s R) E s:=by
   intro q;unfold ltG at q;refine jZ q λda db t h1 h2 k1 ht q=>?_;obtain⟨⟨as,r1⟩,c1⟩:=h1.reads a rx;obtain⟨⟨bs,r2⟩,c2⟩:=h2.reads a ry;exact zhA da db r1 r2 c1 c2 (zy0 room k1) ht _ _ _ _ (zc _ rfl (zex a q))
  cases x with
  | int i=>
   refine zb (zg q) λj h2 q=>?_;have h2:=ji h2;subst h2;obtain⟨_,rfl⟩:=RepV.wC rx;obtain⟨_,rfl⟩:=RepV.wC ry;exact P.lt_int (zc _ rfl (zex a q))
  | _=>exact gen q
 | LtE=>refine zS (two q) λi j t t' e19_4 e19_5 e19_6 e19_7 q=>?_;subst e19_4;subst e19_5;subst e19_6;subst e19_7;exact P.le_int ⟨_,rfl,zex a q⟩
 | Gt=>refine zS (two q) λi j t t' e20_4 e20_5 e20_6 e20_7 q=>?_;subst e20_4;subst e20_5;subst e20_6;subst e20_7;exact P.gt_int ⟨_,rfl,zex a q⟩
 | GtE=>refine zS (two q) λi j t t' e21_4 e21_5 e21_6 e21_7 q=>?_;subst e21_4;subst e21_5;subst e21_6;subst e21_7;exact P.ge_int ⟨_,rfl,zex a q⟩
 | In=>exact zhm L a rx ry q
 | NotIn=>
  have q:inF x y (λt U'=>R (!t) U') (vis U):=q;refine zlS (zhm L a rx ry q) λt s' h=>?_;refine kH h λt' e U' a' st q=>?_;cases e;exact⟨_,rfl,U',a',st,q⟩
 | Is=>
  obtain⟨h,q⟩:=qE q;cases y with
  | none=>obtain rfl:=RepV.wL ry;exact G6 (zcW rx (G7 (zc _ rfl (zex a q))))
  | _=>cases h
 | IsNot=>
  obtain⟨h,q⟩:=qE q;cases y with
  | none=>obtain rfl:=RepV.wL ry;exact G6 (zcW rx (G7 (zc _ rfl (zex a q))))
  | _=>cases h
end
namespace A
def zs3(r:Bool)(op:Operator)(Q:zm)(a:AV):zm:=λb σ2=>zsJ r op a b Q σ2
def zvY(r:Bool)(op:Operator)(y:AE)(d:Dp)(l:Loc)(Q:zm)(Z:XP):zm:=λa σ1=>y d l (zs3 r op Q a) Z σ1
def kOr(y:AE)(d:Dp)(l:Loc)(Q:zm)(Z:XP):zm:=λa σ1=>zu a.bool? λb=>cB b (Q (.bool true) σ1) (y d l Q Z σ1)
def zvW(y:AE)(d:Dp)(l:Loc)(Q:zm)(Z:XP):zm:=λa σ1=>zu a.bool? λb=>cB b (y d l Q Z σ1) (Q (.bool false) σ1)
def zv7(Q:zm):zm:=λa σ1=>zu a.bool? λb=>Q (.bool (!b)) σ1
def zv6(Q:zm):zm:=λa σ1=>zu a.int? λi=>Q (.int (-i)) σ1
def bin(r:Bool)(op:Operator)(x y:AE):AE:=λd l Q Z U=>x d l (zvY r op y d l Q Z) Z U
def neg(x:AE):AE:=λd l Q Z U=>x d l (zv6 Q) Z U
def wS(x:AE):AE:=λd l Q Z U=>x d l (zv7 Q) Z U
def vK(x y:AE):AE:=λd l Q Z U=>x d l (zvW y d l Q Z) Z U
def or_(x y:AE):AE:=λd l Q Z U=>x d l (kOr y d l Q Z) Z U
def zvZ(b:AV)(F:AV->AHeap->Prop)(e:Bool)(Q:zm)(t:Bool)(σ2:AHeap):Prop:=match e with
 | true=>Q (.bool t) σ2
 | false=>cB t (F b σ2) (Q (.bool false) σ2)
def zrm(o:CmpOp)(a:AV)(F:AV->AHeap->Prop)(e:Bool)(Q:zm):zm:=λb σ1=>zsT o a b (zvZ b F e Q) σ1
def w7(d:Dp)(l:Loc)(Q:zm)(Z:XP)(a:AV)(ops:List (CmpOp×AE))(U:AHeap):Prop:=match ops with
 | []=>False
 | o::r=>o.2 d l (zrm o.1 a (λb σ2=>w7 d l Q Z b r σ2) r.isEmpty Q) Z U
def zs5(ops:List (CmpOp×AE))(d:Dp)(l:Loc)(Q:zm)(Z:XP):zm:=λa σ1=>w7 d l Q Z a ops σ1
def cmp(x:AE)(ops:List (CmpOp×AE)):AE:=λd l Q Z U=>x d l (zs5 ops d l Q Z) Z U
end A
section
variable{X:Cx}{env:Env}{nm:List (Str×Nat)}
def zl6{r:Bool}{op:Operator}{e1 e2:Expr}{m1 m2:AE}{pos:Pos}(h1:zh X env nm e1 m1)(h2:zh X env nm e2 m2):zh X env nm (.BinOp e1 op e2 pos) (A.bin r op m1 m2):=λd A l U s Q Z L a F q=>
 wpAny_BinOp (kU (h1 d A l U s _ Z L a F q) λav v σ1 s1 rv a1 st1 q1=>
  G8 (h2 d A l σ1 s1 _ Z L a1 (F.step a st1) q1) (λv2 s2 hpz=>zi hpz λav2 σ2 rv2 a2 st2 q2=>jN (st1.trans st2) (zkW a2 (rv.mono (st2.keepV0 a1)) rv2 q2)) λ_ _ x=>x.back st1)
def zmk{e:Expr}{m:AE}{pos:Pos}(h:zh X env nm e m):zh X env nm (.UnaryOp .USub e pos) (A.neg m):=λd A l U s Q Z L a F q=>by
 refine G6 (kU (h d A l U s _ Z L a F q) λav v σ1 s1 rv a1 st1 hpx=>?_);refine zb (zg hpx) λi hi q1=>?_;have hi:=ji hi;subst hi;obtain⟨_,rfl⟩:=RepV.wC rv;exact G6 (Hg (G9 (P.neg_int (liftQ.back st1 (kO a1 (.int _ _) q1)))))
def zmm{e:Expr}{m:AE}{pos:Pos}(h:zh X env nm e m):zh X env nm (.UnaryOp .Not e pos) (A.wS m):=λd A l U s Q Z L a F q=>by
 refine G6 (kU (h d A l U s _ Z L a F q) λav v σ1 s1 rv a1 st1 hpx=>?_);refine zb (zg hpx) λb hb q1=>?_;have hb:=zaG hb;subst hb;obtain rfl:=RepV.wM rv;refine G6 (Hg (G9 ?_));exact G9 (G6 (wpAny_truthy_bool (G7 (liftQ.back st1 (zbH a1 (.bool _) q1)))))
def zjA{e:Expr}{m:AE}{pos:Pos}(h:qB X env nm e m):qB X env nm (.UnaryOp .Not e pos) (A.wS m):=λd A l U s Q Z L a F q=>by
 exact G6 (G8 (h d A l U s (λb σ1=>Q (!b) σ1) Z L a F q) (λb s1 hpz=>zl hpz λσ1 a1 st1 q1=>G7 (zv σ1 a1 st1 q1)) λ_ _ x=>x)
def zbr(ms:List AE):AE:=match ms with
 | []=>λ_ _ _ _ _=>False
 | x::r=>match r with
  | []=>x
  | _::_=>A.vK x (zbr r)
def orL(ms:List AE):AE:=match ms with
 | []=>λ_ _ _ _ _=>False
 | x::r=>match r with
  | []=>x
  | _::_=>A.or_ x (orL r)
inductive SoundEBs(X:Cx)(env:Env)(nm:List (Str×Nat)):List Expr->List AE->Prop
 | nil:SoundEBs X env nm [] []
 | cons {e es m ms}:zh X env nm e m->qB X env nm e m->SoundEBs X env nm es ms->SoundEBs X env nm (e::es) (m::ms)
def zl5{pos:Pos}{es:List Expr}{ms:List AE}(h:SoundEBs X env nm es ms):zh X env nm (.BoolOp .And es pos) (zbr ms):=by
 induction h with
 | nil=>intro d A l U s Q Z L a F q;exact q.elim
 | @cons e es m ms h hb r ih=>
  intro d A l U s Q Z L a F q;show wpAny X.M A (boolOp pos .And (evalEach (e::es) env)) _ _ s;cases r with
  | nil=>exact h d A l U s Q Z L a F q
  | @cons e2 es m2 ms h2 hb2 r=>
   refine G6 (kU (h d A l U s _ Z L a F q) λav v σ1 s1 rv a1 st1 hpx=>?_);refine zb (zg hpx) λb hb' q1=>?_;have hb':=zaG hb';subst hb';obtain rfl:=RepV.wM rv;refine G6 (Hg (G6 (G9 (wpAny_truthy_bool ?_))));cases b with
   | false=>exact G7 (liftQ.back st1 (zbH a1 (.bool _) q1))
   | true=>exact jN st1 (ih d A l σ1 s1 Q Z L a1 (F.step a st1) q1)
def zoz{pos:Pos}{es:List Expr}{ms:List AE}(h:SoundEBs X env nm es ms):zh X env nm (.BoolOp .Or es pos) (orL ms):=by
 induction h with
 | nil=>intro d A l U s Q Z L a F q;exact q.elim
 | @cons e es m ms h hb r ih=>
  intro d A l U s Q Z L a F q;show wpAny X.M A (boolOp pos .Or (evalEach (e::es) env)) _ _ s;cases r with
  | nil=>exact h d A l U s Q Z L a F q
  | @cons e2 es m2 ms h2 hb2 r=>
   refine G6 (kU (h d A l U s _ Z L a F q) λav v σ1 s1 rv a1 st1 hpx=>?_);refine zb (zg hpx) λb hb' q1=>?_;have hb':=zaG hb';subst hb';obtain rfl:=RepV.wM rv;refine G6 (Hg (G6 (G9 (wpAny_truthy_bool ?_))));cases b with
   | true=>exact G7 (liftQ.back st1 (zbH a1 (.bool _) q1))
   | false=>exact jN st1 (ih d A l σ1 s1 Q Z L a1 (F.step a st1) q1)
def zjy{pos:Pos}{es:List Expr}{ms:List AE}(h:SoundEBs X env nm es ms):qB X env nm (.BoolOp .And es pos) (zbr ms):=by
 induction h with
 | nil=>intro d A l U s Q Z L a F q;exact q.elim
 | @cons e es m ms h hb r ih=>
  intro d A l U s Q Z L a F q;show wpAny X.M A (allTrue .And (e::es) env) _ _ s;cases r with
  | nil=>
   refine G6 (G8 (hb d A l U s Q Z L a F q) (λb s1 x=>?_) λ_ _ x=>x);cases b with
   | false=>exact G7 x
   | true=>exact G7 x
  | @cons e2 es m2 ms h2 hb2 r=>
   refine G6 (G8 (hb d A l U s (λb σ1=>cB b (zbr (m2::ms) d l (isB Q) Z σ1) (Q false σ1)) Z L a F q) (λb s1 x=>?_) λ_ _ x=>x);refine zl x λσ1 a1 st1 q1=>?_;cases b with
   | false=>exact G7 (zv σ1 a1 st1 q1)
   | true=>exact zeW st1 (ih d A l σ1 s1 Q Z L a1 (F.step a st1) q1)
def zl2{pos:Pos}{es:List Expr}{ms:List AE}(h:SoundEBs X env nm es ms):qB X env nm (.BoolOp .Or es pos) (orL ms):=by
 induction h with
 | nil=>intro d A l U s Q Z L a F q;exact q.elim
 | @cons e es m ms h hb r ih=>
  intro d A l U s Q Z L a F q;show wpAny X.M A (allTrue .Or (e::es) env) _ _ s;cases r with
  | nil=>
   refine G6 (G8 (hb d A l U s Q Z L a F q) (λb s1 x=>?_) λ_ _ x=>x);cases b with
   | false=>exact G7 x
   | true=>exact G7 x
  | @cons e2 es m2 ms h2 hb2 r=>
   refine G6 (G8 (hb d A l U s (λb σ1=>cB b (Q true σ1) (orL (m2::ms) d l (isB Q) Z σ1)) Z L a F q) (λb s1 x=>?_) λ_ _ x=>x);refine zl x λσ1 a1 st1 q1=>?_;cases b with
   | true=>exact G7 (zv σ1 a1 st1 q1)
   | false=>exact zeW st1 (ih d A l σ1 s1 Q Z L a1 (F.step a st1) q1)
inductive SoundOps(X:Cx)(env:Env)(nm:List (Str×Nat)):List CmpOp->List Expr->List (CmpOp×AE)->Prop
 | one {op e m}:zh X env nm e m->behindInMarks op e=false->SoundOps X env nm [op] [e] [(op,m)]
 | cons {op e m op2 ops es m2 ms}:zh X env nm e m->SoundOps X env nm (op2::ops) es (m2::ms)->SoundOps X env nm (op::op2::ops) (e::es) ((op,m)::m2::ms)
def wp_release{M:Model}{A:Around}{vs keep:List Value}{Q:Unit->Shared->Prop}{E:Value->Shared->Prop}{s:Shared}(h:Q () s):wpAny M A (release vs keep) Q E s:=λΓ p hΓ=>by rw[Sem.wp_release];exact h
def zgZ{pos:Pos}{ops es ms}(h0:SoundOps X env nm ops es ms):∀{d A l U s Q Z av v},Live X d A->At X U s->FR X env nm l U s.heap->RepV U s.heap av v->Mine.Internal.A.w7 d l Q Z av ms (vis U)->
  wpAny X.M A (compareChain pos v ops (markedEach ops es (evalEach es env))) (liftQ X U s Q) (liftX X U s Z) s:=by
 induction h0 with
 | @one op e m h hm=>
  intro d A l U s Q Z av v L a F rv q;show wpAny X.M A (do let rv <-holding [v] (markedBehindIn op e (eval e env));standAt pos;operate [v,rv] (compareOp op v rv)) _ _ s;rw[markedBehindIn_of_false hm];refine G6 (G9 (kU (h d A l U s _ Z L a F q) λav2 v2 σ1 s1 rv2 a1 st1 q1=>?_));refine G6 (Hg ?_);refine jN st1 ?_;refine G6 (G9 (G8 (za4 L a1 (rv.mono (st1.keepV0 a)) rv2 q1) (λr s2 x=>?_) λ_ _ x=>x));refine kH x λt e7_1 σ2 a2 st2 q2=>?_;subst e7_1;exact G6 (wp_release (G7 (zo _ σ2 (.bool t) a2 st2 q2)))
 | @cons op e m op2 ops es m2 ms h hr ih=>
  intro d A l U s Q Z av v L a F rv q;refine G6 (G9 (kU (h d A l U s _ Z L a F q) λav2 v2 σ1 s1 rv2 a1 st1 q1=>?_));refine G6 (Hg ?_);refine jN st1 ?_;refine G6 (G9 (G8 (za4 L a1 (rv.mono (st1.keepV0 a)) rv2 q1) (λc s2 x=>?_) λ_ _ x=>x));refine kH x λt e8_1 σ2 a2 st2 q2=>?_;subst e8_1;refine G6 (wp_release ?_);refine G6 (G9 (wpAny_truthy_bool ?_));cases t with
  | false=>exact G7 (liftQ.back st2 (zbH a2 (.bool _) q2))
  | true=>exact jN st2 (ih L a2 ((F.step a st1).step a1 st2) (rv2.mono (st2.keepV0 a1)) q2)
def zl7{pos:Pos}{e:Expr}{m:AE}{ops es ms}(h:zh X env nm e m)(hr:SoundOps X env nm ops es ms):zh X env nm (.Compare e ops es pos) (A.cmp m ms):=λd A l U s Q Z L a F q=>by
 refine G6 (kU (h d A l U s _ Z L a F q) λav v σ1 s1 rv a1 st1 q1=>?_);exact jN st1 (zgZ hr L a1 (F.step a st1) rv q1)
def zdi{pos:Pos}{ops es ms}(h0:SoundOps X env nm ops es ms):∀{d A l U s Q Z av v},Live X d A->At X U s->FR X env nm l U s.heap->RepV U s.heap av v->Mine.Internal.A.w7 d l (isB Q) Z av ms (vis U)->
  wpAny X.M A (testChain pos v ops (markedEach ops es (evalEach es env))) (liftB X U s Q) (liftX X U s Z) s:=by
 induction h0 with
 | @one op e m h hm=>
  intro d A l U s Q Z av v L a F rv q;show wpAny X.M A (do let rv <-holding [v] (markedBehindIn op e (eval e env));standAt pos;let c <-operate [v,rv] (compareOp op v rv);holding [c] (truthy c)) _ _ s;rw[markedBehindIn_of_false hm];refine G6 (G9 (kU (h d A l U s _ Z L a F q) λav2 v2 σ1 s1 rv2 a1 st1 q1=>?_));refine G6 (Hg ?_);refine zeW st1 ?_;refine G6 (G6 (G9 (G8 (za4 L a1 (rv.mono (st1.keepV0 a)) rv2 q1) (λr s2 hpx=>?_) λ_ _ x=>x)));refine kH hpx λt e9_1 σ2 a2 st2 q2=>?_;subst e9_1;exact G6 (wp_release (G7 (G9 (wpAny_truthy_bool (zv σ2 a2 st2 q2)))))
 | @cons op e m op2 ops es m2 ms h hr ih=>
  intro d A l U s Q Z av v L a F rv q;refine G6 (G9 (kU (h d A l U s _ Z L a F q) λav2 v2 σ1 s1 rv2 a1 st1 q1=>?_));refine G6 (Hg ?_);refine zeW st1 ?_;refine G6 (G9 (G8 (za4 L a1 (rv.mono (st1.keepV0 a)) rv2 q1) (λc s2 hpx=>?_) λ_ _ x=>x));refine kH hpx λt e10_1 σ2 a2 st2 q2=>?_;subst e10_1;refine G6 (wp_release ?_);refine G6 (G9 (wpAny_truthy_bool ?_));cases t with
  | false=>exact G7 (zv σ2 a2 st2 q2)
  | true=>exact zeW st2 (ih L a2 ((F.step a st1).step a1 st2) (rv2.mono (st2.keepV0 a1)) q2)
def zjz{pos:Pos}{e:Expr}{m:AE}{ops es ms}(h:zh X env nm e m)(hr:SoundOps X env nm ops es ms):qB X env nm (.Compare e ops es pos) (A.cmp m ms):=λd A l U s Q Z L a F q=>by
 refine G6 (kU (h d A l U s _ Z L a F q) λav v σ1 s1 rv a1 st1 q1=>?_);exact zeW st1 (zdi hr L a1 (F.step a st1) rv q1)
end
noncomputable def jC{J:Type}(xs:List J)(k:Int):Option J:=if 0<=k then xs[k.toNat]? else if -(xs.length:Int)<=k then xs[(k+xs.length).toNat]? else none
@[irreducible] noncomputable def zdK(p:Addr)(b:AV)(Q:zm)(U:AHeap):Prop:=(∃xs k v,U p=some (.list xs)/\b = .int k/\jC xs k=some v/\Q v U)\/(∃kvs k v,U p=some (.tdict kvs)/\b=zA k/\Tab.at kvs k=some v/\Q v U)\/(∃fs n v,U p=some (.idict fs)/\b = .str n/\zaz fs n=some v/\Q v U)
def zsX(a b:AV)(Q:zm)(U:AHeap):Prop:=match a with
 | .tup xs=>zu b.int? λk=>zu (jC xs k) λv=>Q v U
 | .lst xs=>zu b.int? λk=>zu (jC xs k) λv=>Q v U
 | .ref p=>zdK p b Q U
 | _=>False
def jt{p:Addr}{xs:List AV}{k:Int}{Q:zm}{U:AHeap}(hp:U p=some (.list xs))(h:zu (jC xs k) λv=>Q v U):zdK p (.int k) Q U:=by
 refine zb (zg h) λv e q=>?_;unfold zdK;exact .inl (jI xs k v hp rfl e q)
def zb1{p:Addr}{kvs:Tab}{k:List zd}{v:AV}{Q:zm}{U:AHeap}(hp:U p=some (.tdict kvs))(e:Tab.at kvs k=some v)(q:Q v U):zdK p (zA k) Q U:=by
 unfold zdK;exact .inr (.inl (jI kvs k v hp rfl e q))
def qH{p:Addr}{fs:List (Nat×AV)}{n:Nat}{Q:zm}{U:AHeap}(hp:U p=some (.idict fs))(h:zu (zaz fs n) λv=>Q v U):zdK p (.str n) Q U:=by
 refine zb (zg h) λv e q=>?_;unfold zdK;exact .inr (.inr (jI fs n v hp rfl e q))
noncomputable def cut(xs:List AV)(lo hi:Option Int):List AV:=(xs.drop (lo.elim 0 (clipAt xs.length))).take (hi.elim xs.length (clipAt xs.length)-lo.elim 0 (clipAt xs.length))
def zou(xs:List AV)(lo hi:Option Int)(Q:zm)(U:AHeap):Prop:=match hi with
 | none=>zu lo λk=>onB (decide (1<=k)&&Nat.ble k.toNat xs.length) (Q (.tup (xs.drop k.toNat)) U)
 | some _=>False
def zrU(r:Bool)(a:AV)(lo hi:Option Int)(Q:zm)(U:AHeap):Prop:=match a with
 | .tup xs=>zou xs lo hi Q U
 | x=>zu (jm U x) λxs=>mkL r (cut xs lo hi) Q U
section
variable{X:Cx}{A:Around}{U:AHeap}{s:Shared}{Q:zm}{E:Value->Shared->Prop}{d:Dp}
def zeV{h:Heap}{xs:List AV}{vs:List Value}{k:Int}{x:AV}(r:RepVs U h xs vs)(e:jC xs k=some x):∃v,RepV U h x v/\((0<=k/\vs[k.toNat]? = some v)\/(k<0/\-(vs.length:Int)<=k/\vs[(k+vs.length).toNat]? = some v)):=by
 unfold jC at e;split at e
 .refine zb (r.get e) λv h1 h2=>?_;exact zc v h2 (.inl ⟨by assumption,h1⟩)
 .split at e
  .refine zb (r.get e) λv h1 h2=>?_;rw[r.length] at h1
   rename_i h3 h4
   rw[r.length] at h4;exact zc v h2 (.inr (zq (y42 h3) h4 h1))
  .exact absurd (Eq.symm e) (fH _)
def zgv{xs:List AV}{k:Int}{y:AV}{u:Value}{tk:Tok}{x:AV}(hx:x = .tup xs\/IsL U x xs)(a:At X U s)(rx:RepV U s.heap x u)(hy:jC xs k=some y)(q:Q y (vis U)) :
  wpAny X.M A (getItem u (.int k tk)) (liftQ X U s Q) E s/\∃T id,s.TypeIs u T/\typeLookup (.type T) "__getitem__" = pure (some (.builtin id)):=by
 rcases hx with rfl|hx
 .refine zi (RepV.wI rx) λt vs e4_2 hl ht rs=>?_;subst e4_2;refine zb (zeV rs hy) λw rw_ hw=>?_;have hlen:=rs.length;refine zf4 ?_ ("tuple") _ ht.typeIs slot_tuple_getitem.lookup
  rcases hw with⟨h1,h2⟩|⟨h1,h2,h3⟩
  .have h4:k.toNat<vs.length:=(fY.mp h2).1;exact getItem_tuple ht (by lia) (by lia) (seqIndex_of h1 (by simp;exact y96 h4)) (by simpa using h2) (zbH a rw_ q)
  .exact getItem_tuple ht (by lia) (by lia) (seqIndex_neg h1 (by simpa using h2)) (by simpa using h3) (zbH a rw_ q)
 .refine zr (a.isList hx rx) λp vs e6_2 _ hl rs hm=>?_;subst e6_2;refine zb (zeV rs hy) λw rw_ hw=>?_;have hlen:=rs.length;refine zf4 ?_ ("list") _ hl.typeIs slot_list_getitem.lookup
  rcases hw with⟨h1,h2⟩|⟨h1,h2,h3⟩
  .have h4:k.toNat<vs.length:=(fY.mp h2).1;exact wpAny_getItem_list hl h1 (by lia) (by simpa using h2) (zbH a rw_ q)
  .exact wpAny_getItem_list_neg hl h1 (by simpa using h2) (by lia) (by simpa using h3) (zbH a rw_ q)
def zeK{x i:AV}{u v:Value}{dp:Dp}(L:Live X dp A)(a:At X U s)(rx:RepV U s.heap x u)(ri:RepV U s.heap i v)(q:zsX x i Q (vis U)) :
  wpAny X.M A (getItem u v) (liftQ X U s Q) E s/\∃T id,s.TypeIs u T/\typeLookup (.type T) "__getitem__" = pure (some (.builtin id)):=by
 cases x with
 | tup xs=>
  refine zb (zg q) λk e q1=>?_;refine zb (zg q1) λy hy q2=>?_;have e:=ji e;subst e;obtain⟨_,rfl⟩:=RepV.wC ri;exact zgv (.inl rfl) a rx hy q2
 | lst xs=>
  refine zb (zg q) λk e q1=>?_;refine zb (zg q1) λy hy q2=>?_;have e:=ji e;subst e;obtain⟨_,rfl⟩:=RepV.wC ri;exact zgv (.inr .lst) a rx hy q2
 | ref p=>
  have qr:zdK p i Q (vis U):=q;clear q;unfold zdK at qr
  rcases qr with⟨xs,k,y,hp,rfl,hy,q⟩|⟨kvs,k,y,hp,rfl,hy,q⟩|⟨fs,n,y,hp,rfl,hy,q⟩
  .obtain⟨_,rfl⟩:=RepV.wC ri;exact zgv (.inr (.ref hp)) a rx hy q
  .obtain rfl:=RepV.wN rx;have hp':=(zG hp).1;refine zb (a.tab hp') λxs hD _=>?_;exact zf4 (zp7 L a hp' ri hy q) ("dict") _ hD.typeIs slot_dict_getitem.lookup
  .obtain rfl:=RepV.wN rx;have hp':=(zG hp).1;refine zb (a.rep _ _ hp') λkvs hD _=>?_;exact⟨zrQ a hp' ri hy q,"dict",_,hD.mapOf.typeIs,slot_dict_getitem.lookup⟩
 | _=>exact q.elim
def RepVs.cut{h:Heap}{xs:List AV}{vs:List Value}(r:RepVs U h xs vs)(lo hi:Option Int):RepVs U h (cut xs lo hi) (slicePick vs.toArray lo hi none).toList:=by
 rw[slicePick_plain];unfold Mine.Internal.cut;simp only[gE,r.length];exact(r.drop _).take _
def ziN(xs:List AV)(lo hi:Option Int):(cut xs lo hi).length<=xs.length:=by
 unfold cut;rw[fCQ,List.length_drop];exact zz2
end
noncomputable def zce(e:Expr):Bool:=!Nat.beq e.ctorIdx 26
def zcn{e:Expr}(h:zce e=true)(o i:Value):subscripted e false o i=operate [o,i] (getItem o i):=by
 cases e<;>first|rfl|exact nob h
namespace A
def zs6(Q:zm)(a:AV):zm:=λb σ2=>zsX a b Q σ2
def zv0(i:AE)(d:Dp)(l:Loc)(Q:zm)(Z:XP):zm:=λa σ1=>i d l (zs6 Q a) Z σ1
def idx(x i:AE):AE:=λd l Q Z U=>x d l (zv0 i d l Q Z) Z U
def opt(m:Option AE)(d:Dp)(l:Loc)(Q:Option Int->AHeap->Prop)(Z:XP)(U:AHeap):Prop:=match m with
 | none=>Q none U
 | some m=>m d l (λv σ1=>zu v.int? λi=>Q (some i) σ1) Z U
def wY(r:Bool)(x:AE)(lo hi:Option AE):AE:=λd l Q Z U=>x d l (λa σ1=>opt lo d l (λlo' σ2=>opt hi d l (λhi' σ3=>zrU r a lo' hi' Q σ3) Z σ2) Z σ1) Z U
end A
noncomputable def zfE(X:Cx)(env:Env)(nm:List (Str×Nat)):Option Expr->Option AE->Prop
 | none,none=>True
 | some e,some m=>zh X env nm e m
 | _,_=>False
section
variable{X:Cx}{env:Env}{nm:List (Str×Nat)}
def zmc{e i:Expr}{m mi:AE}{pos:Pos}(h:zh X env nm e m)(hi:zh X env nm i mi)(hn:zce i=true):zh X env nm (.Subscript e i pos) (A.idx m mi):=λd A l U s Q Z L a F q=>by
 refine Subscript_ (kU (h d A l U s _ Z L a F q) λav v σ1 s1 rv a1 st1 q1=>?_);refine G8 (hi d A l σ1 s1 _ Z L a1 (F.step a st1) q1) (λv2 s2 hpx=>?_) λ_ _ x=>x.back st1;refine zi hpx λav2 σ2 rv2 a2 st2 q2=>?_;refine zo9 (zeK (A:=A) (E:=liftX X σ2 s2 Z) L a2 (rv.mono (st2.keepV0 a1)) rv2 q2) λh1 T id hT hl=>?_;exact jN (st1.trans st2) (tail_any hT hl h1 (zcn hn _ _))
def zfi{e:Option Expr}{m:Option AE}(h:zfE X env nm e m){d A l U s Q Z}(L:Live X d A)(a:At X U s)(F:FR X env nm l U s.heap)(q:Mine.Internal.A.opt m d l Q Z (vis U)){R:Value->Shared->Prop}
  (k:∀v o s' U',IsPart v o->At X U' s'->Step E0 U s U' s'->Q o (vis U')->R v s'):wpAny X.M A (valueOrNone (evalOpt e env)) R (liftX X U s Z) s:=by
 cases e with
 | none=>
  cases m with
  | none=>exact G7 (k _ _ _ _ .none a (.refl ..) q)
  | some m=>exact h.elim
 | some e=>
  cases m with
  | none=>exact h.elim
  | some m=>
   refine G8 (h d A l U s _ Z L a F q) (λv s1 hpx=>?_) λ_ _ x=>x;refine zi hpx λav σ1 rv a1 st1 q1=>?_;refine zb (zg q1) λi hi q1=>?_;have hi:=ji hi;subst hi;obtain⟨_,rfl⟩:=RepV.wC rv;exact k _ _ _ _ (.int _ _) a1 st1 q1
def zh9{r:Bool}{e:Expr}{lo hi:Option Expr}{m:AE}{mlo mhi:Option AE}{p pos:Pos}(h:zh X env nm e m)(hlo:zfE X env nm lo mlo)(hhi:zfE X env nm hi mhi) :
  zh X env nm (.Subscript e (.Slice lo hi none p) pos) (A.wY r m mlo mhi):=λd A l U s Q Z L a F q=>by
 refine Subscript_ (kU (h d A l U s _ Z L a F q) λav v σ1 s1 rv a1 st1 q1=>?_);have F1:=F.step a st1;refine G6 (G8 (zfi hlo L a1 F1 q1 (R:=λv2 s2=>∃o σ2,IsPart v2 o/\At X σ2 s2/\Step E0 σ1 s1 σ2 s2/\_) λv2 o s2 σ2 p2 a2 st2 q2=>(zo o σ2 p2 a2 st2 q2)) (λv2 s2 hpx=>?_) λ_ _ x=>x.back st1);refine zi hpx λo σ2 p2 a2 st2 q2=>?_;have F2:=F1.step a1 st2;refine G6 (G9 (G8 (zfi hhi L a2 F2 q2 (R:=λv3 s3=>∃o σ3,IsPart v3 o/\At X σ3 s3/\Step E0 σ2 s2 σ3 s3/\_) λv3 o s3 σ3 p3 a3 st3 q3=>(zo o σ3 p3 a3 st3 q3)) (λv3 s3 hpx=>?_) λ_ _ x=>x.back (st1.trans st2)));refine zi hpx λo3 σ3 p3 a3 st3 q3=>?_;refine G6 (G9 (G7 ?_));refine wpAny_newObj_type ?_;have rv3:=(rv.mono (st2.keepV0 a1)).mono (st3.keepV0 a2);have st13:=st1.trans (st2.trans st3);generalize hso:({ cls:=.type "slice",data:=.fields #[v2,v3,Value.none] }:Obj)=so;have st4:Step E0 σ3 s3 σ3 { s3 with heap:=s3.heap.push so }:=Step.push σ3 s3 so s3.toks;have a4:At X σ3 { s3 with heap:=s3.heap.push so }:=a3.push so s3.toks;have rv4:=rv3.mono (st4.keepV0 a3);have hsl:(s3.heap.push so).IsSliceOf s3.heap.objs.size v2 v3 .none:=by rw[<-hso];exact Heap.IsSliceOf.new ..
 refine jN (st13.trans st4) ?_;have hc:(∃xs,av = .tup xs/\zou xs o o3 Q (vis σ3))\/zu (jm (vis σ3) av) λxs=>mkL r (cut xs o o3) Q (vis σ3):=by
  cases av with
  | tup xs=>exact .inl (zc xs rfl q3)
  | _=>exact .inr q3
 clear q3
 rcases hc with⟨xs,rfl,q3⟩|q3
 .cases o3 with
  | some _=>exact q3.elim
  | none=>
   refine zb (zg q3) λk e24_1 q4=>?_;subst e24_1;obtain⟨hb,q5⟩:=qE q4;have hb:=gB.mp hb;have h2:=pD hb.2;obtain⟨k,rfl⟩:∃n:Nat,k=n:=⟨k.toNat,by lia⟩
   refine zi (RepV.wI rv4) λt vs e26_2 hl ht rs=>?_;subst e26_2;cases p2;cases p3;have hlen:=rs.length;refine tail_any (ops:=[.ref s3.heap.objs.size,_]) ht.typeIs slot_tuple_getitem.lookup (getItem_tuple_from ht hsl (by lia) (by simp;exact zsn h2 hlen) ?_ (by simp[Ha];exact zgK hl hlen)) rfl;generalize hH:({ s3 with heap:=s3.heap.push so }:Shared)=s4 at a4 rs ht ⊢;have hh:s4.heap=s3.heap.push so:=by rw[<-hH]
   refine zo _ σ3 (.tup (by rw[List.length_drop];exact zx7 hl) (vs:=vs.drop k) (qe ({ cls:=.type "tuple",data:=.seq (vs.toArray.toList.drop k).toArray }) ?_ rfl 0 (by simp)) ((rs.drop k).mono (.push _))) (a4.push _ s4.toks) (Step.push σ3 s4 _ s4.toks) q5;exact Heap.get?_push_size _ rfl
 .refine zb (zg q3) λxs hx q4=>?_;refine zr (a4.isList (zV hx) rv4) λp vs e28_2 _ hl rs hm=>?_;subst e28_2;refine tail_any (ops:=[.ref s3.heap.objs.size,_]) hl.typeIs slot_list_getitem.lookup (wpAny_getItem_list_slice hl hsl p2 p3 .none (by simp) ?_ (by simp[<-rs.length,Ha];exact zgH hm)) rfl;generalize hH:({ s3 with heap:=s3.heap.push so }:Shared)=s4 at a4 rs hl ⊢;have:=zrB (t:=s4.toks) (n:=0) (Q:=Q) (r:=r) a4 (rs.cut o o3) (fF (ziN ..) hm) q4;exact this
end
abbrev zbg:=Dp->Bool->List AV->zm->AHeap->Prop
def z8(X:Cx)(f:Value)(p:zbg):Prop:=
 ∀d A U s r as vs Q E,Live X d A->At X U s->RepVs U s.heap as vs->p d r as Q (vis U)->wpAny X.M A (PySem.call f vs) (liftQ X U s Q) E s
namespace A
def wZ(d:Dp)(P:Prop):Prop:=match d.hd with
 | false=>P
 | true=>False
end A
def ky{d:Dp}{P:Prop}(h:A.wZ d P):d.hd=false/\P:=by
 unfold A.wZ at h;cases e:d.hd with
 | false=>rw[e] at h;exact⟨rfl,h⟩
 | true=>rw[e] at h;exact h.elim
namespace A
def zs8(p:zbg)(d:Dp)(r:Bool)(Q:zm):List AV->AHeap->Prop:=λas U'=>p d r as Q U'
def prim(p:zbg)(r:Bool)(args:List AE):AE:=λd l Q Z U=>zbn args d l (zs8 p d r Q) Z U
end A
section
variable{X:Cx}{env:Env}{nm:List (Str×Nat)}
def zjK{r:Bool}{x:Str}{f:Value}{p:zbg}{es:List Expr}{ms:List AE}{gp pos:Pos}(XO:X.Ok)(EO:EnvOk env)(hx:env.kindOf x=some .globalImplicit)(hd:(x==("__debug__" : Str))=false)(hn:X.mg x=none)(hv:X.mb x=some f)
  (hf:(∃id,f = .builtin id)\/∃T,f = .type T)(hp:z8 X f p)(h:SoundEs X env nm es ms):zh X env nm (.Call (.Name x gp) es [] pos) (A.prim p r ms):=λd A l U s Q Z L a F q=>by
 refine Call_ (j4 XO EO a hx hd hn hv ?_)
 rcases hf with⟨id,rfl⟩|⟨T,rfl⟩
 .refine Calls.callWith_builtin h.plain (qo h L a F q λvs s1 hpx=>?_);refine zi hpx λavs σ1 rv a1 st q1=>?_;exact jN st (hp d A σ1 s1 r avs vs Q _ L a1 rv q1)
 .refine PyProof.Rows.callWith_type h.plain (qo h L a F q λvs s1 hpx=>?_);refine zi hpx λavs σ1 rv a1 st q1=>?_;exact jN st (hp d A σ1 s1 r avs vs Q _ L a1 rv q1)
end
def zay(as:List AV)(K:AV->Prop):Prop:=match as with
 | []=>False
 | x::r=>match r with
  | []=>K x
  | _::_=>False
def jy{as:List AV}{K:AV->Prop}(h:zay as K):∃x,as=[x]/\K x:=by
 cases as with
 | nil=>exact h.elim
 | cons x r=>cases r with
  | nil=>exact zc x rfl h
  | cons _ _=>exact h.elim
noncomputable def zkF(U:AHeap)(x:AV):Option (List AV):=match x with
 | .tup xs=>some xs
 | x=>jm U x
def zop{U:AHeap}{x:AV}{xs:List AV}(h:zkF (vis U) x=some xs):x = .tup xs\/IsL U x xs:=by
 cases x with
 | tup ys=>cases h;exact .inl rfl
 | _=>exact .inr (zV h)
def kj:zbg:=λ_ _ as Q U=>zay as λx=>zu (zkF U x) λxs=>Q (.int xs.length) U
def zao:zbg:=λ_ _ as Q U=>match as with
 | []=>False
 | x::r=>zu x.int? λa=>match r with
  | []=>Q (.rng 0 a) U
  | _::_=>zay r λy=>zu y.int? λb=>Q (.rng a b) U
noncomputable def zog(lo hi:Int):List AV:=zhn lo (hi-lo).toNat
def zfj:zbg:=λ_ r as Q U=>zay as λx=>zu (zkF U x) λxs=>mkL r xs Q U
section
variable{X:Cx}
def qn{U:AHeap}{h:Heap}{x:AV}{vs:List Value}(r:RepVs U h [x] vs):∃v,vs=[v]/\RepV U h x v:=by
 obtain⟨_,_,rfl,a,r⟩:=RepVs.wF r;obtain rfl:=RepVs.wG r;exact zc _ rfl a
def zof{U:AHeap}{h:Heap}{x y:AV}{vs:List Value}(r:RepVs U h [x,y] vs):∃v w,vs=[v,w]/\RepV U h x v/\RepV U h y w:=by
 cases r with
 | cons a r=>
  obtain⟨_,_,rfl,b,r⟩:=RepVs.wF r;obtain rfl:=RepVs.wG r;exact zL _ _ rfl a b
def At.isSeq{U:AHeap}{s:Shared}(a:At X U s){x:AV}{v:Value}{xs:List AV}(h:zkF (vis U) x=some xs)(r:RepV U s.heap x v) :
  ∃(b:Addr) (vs:List Value),v = .ref b/\(IsTup s.heap b vs.toArray\/s.heap.IsList b vs.toArray)/\RepVs U s.heap xs vs/\xs.length<=1000000:=by
 rcases zop h with rfl|h
 .refine zi (RepV.wI r) λt vs e6_2 hl ht rs=>?_;subst e6_2;exact zo t vs rfl (.inl ht) rs hl
 .refine zr (a.isList h r) λb vs e _ h1 h2 h3=>?_;exact zo b vs e (.inr h1) h2 h3
def zmf:z8 X (.builtin "len") kj:=λd A U s r as vs Q E L a rv q=>by
 refine zb (jy q) λx e8_1 q=>?_;subst e8_1;refine zb (zg q) λxs hx q=>?_;refine zb (qn rv) λv e10_1 rv1=>?_;subst e10_1;refine zi (a.isSeq hx rv1) λb vs e11_2 ht rs hl=>?_;subst e11_2;have hlen:=rs.length;have e:(vs.toArray.size:Int)=xs.length:=by simp[hlen]
 rcases ht with ht|ht
 .refine len_tuple ht (by simp;exact zsk hl hlen) ?_;rw[e];exact kO a (.int _ _) q
 .refine Calls.call_len_list ht (by simp;exact zsk hl hlen) ?_;rw[e];exact kO a (.int _ _) q
def zh8:z8 X (.type "range") zao:=λd A U s r as vs Q E L a rv q=>by
 cases as with
 | nil=>exact q.elim
 | cons x as=>
  refine zb (zg q) λi hi q1=>?_;have hi:=ji hi;cases as with
  | nil=>
   refine zb (qn rv) λv e13_1 rv1=>?_;subst e13_1;rw[hi] at rv1;obtain⟨_,rfl⟩:=RepV.wC rv1;exact call_range_1 (zo _ U (.rng (Heap.get?_push_size _ rfl)) (a.push _ _) (Step.push U s _ _) q1)
  | cons y as=>
   refine zb (jy q1) λy' e q2=>?_;cases e;refine zb (zg q2) λj hj q3=>?_;have hj:=ji hj;refine zn (zof rv) λv w e17_2 rv1 rw_=>?_;subst e17_2;rw[hi] at rv1;rw[hj] at rw_;obtain⟨_,rfl⟩:=RepV.wC rv1;obtain⟨_,rfl⟩:=RepV.wC rw_;exact call_range_2 (zo _ U (.rng (Heap.get?_push_size _ rfl)) (a.push _ _) (Step.push U s _ _) q3)
def At.grown{U:AHeap}{s:Shared}{h':Heap}(a:At X U s)(t:Nat)(hk:∀b o,s.heap.get? b=some o->h'.get? b=some o):At X U { s with heap:=h',toks:=t }:=
 ⟨λb o e=>hk b o (a.keep b o e),λb ao e=>(a.rep b ao e).mono (.ext hk) λo ho=>hk b o ho,a.own,a.gens,a.os,a.ffk hk⟩
def Step.grown{B:Addr->Prop}(U:AHeap){s:Shared}{h':Heap}(t:Nat)(hk:∀b o,s.heap.get? b=some o->h'.get? b=some o)(hsz:s.heap.objs.size<=h'.objs.size):Step B U s U { s with heap:=h',toks:=t }:=.same (λb o e _=>hk b o e) hsz
def ze3{U:AHeap}{s:Shared}(a:At X U s){b:Addr}(hb:s.heap.objs.size<=b):b∉X.fr:=λq=>by
 refine zdC (a.ff b q) λ_ o _ _ e _=>?_;exact absurd (Heap.lt_size e) (pL.mpr hb)
def zcH{r:Bool}{U:AHeap}{s:Shared}{h':Heap}{t:Nat}{b:Addr}{xs:List AV}{vs:List Value}{n:Nat}{Q:zm}(a:At X U s)(hk:∀b o,s.heap.get? b=some o->h'.get? b=some o)(hb:s.heap.objs.size<=b)(hn:h'.get? b=some (zO vs n))(rv:RepVs U h' xs vs)
  (hl:xs.length<=1000000)(hsz:s.heap.objs.size<=h'.objs.size)(q:mkL r xs Q (vis U)):liftQ X U s Q (.ref b) { s with heap:=h',toks:=t }:=by
 have h0:=a.none_of_size hb;have a1:=a.grown t hk;have st1:Step E0 U s U { s with heap:=h',toks:=t }:=.grown U t hk hsz;have hh0:X.h₀.get? b=none:=by
  cases h:X.h₀.get? b with
  | none=>rfl
  | some ob=>exact absurd (Heap.lt_size (a.keep _ _ h)) (pL.mpr hb)
 cases r with
 | true=>exact⟨.ref b,_,.ref _,a1.adopt (ao:=.list xs) h0 hh0 (ze3 a hb) λkv=>(zL vs n hn (rv.mono kv) hl),st1.adopt h0 hb,by rw[jr rfl];exact q _ (qi h0)⟩
 | false=>exact zo (.lst xs) _ (.lst (AHeap.wA ..)) (a1.adopt (ao:=.frz xs) h0 hh0 (ze3 a hb) λkv=>(zv vs (qe _ hn rfl n rfl) (rv.mono kv) hl)) (st1.adopt h0 hb) (by rw[zgF h0];exact q)
def zjH:z8 X (.type "list") zfj:=λd A U s r as vs Q E L a rv q=>by
 refine zb (jy q) λx e21_1 q=>?_;subst e21_1;refine zb (zg q) λxs hx q=>?_;refine zb (qn rv) λv e23_1 rv1=>?_;subst e23_1;refine zi (a.isSeq hx rv1) λb vs e24_2 ht rs hl=>?_;subst e24_2;have hlen:=rs.length
 rcases ht with⟨o,ho,hc,n,hd⟩|⟨o,ho,hc,n,hd⟩
 .refine zK (call_list_seq _ (.inr rfl) ho hc hd (λh' c' hk hn hsz=>?_) (by simp[Ha];exact zgK hl hlen));exact zcH (t:=s.toks) a hk (fN _) hn (rs.mono (.ext hk)) hl hsz q
 .refine zK (call_list_seq _ (.inl rfl) ho hc hd (λh' c' hk hn hsz=>?_) (by simp[Ha];exact zgK hl hlen));exact zcH (t:=s.toks) a hk (fN _) hn (rs.mono (.ext hk)) hl hsz q
end
inductive PyT where
 | tuple|str|int|bool|list|dict
noncomputable def PyT.name:PyT->String
 | .tuple=>"tuple" | .str=>"str" | .int=>"int" | .bool=>"bool" | .list=>"list" | .dict=>"dict"
noncomputable def zbI(K:String)(T:PyT):Bool:=match T with
 | .tuple=>K=="tuple" | .str=>K=="str" | .int=>K=="int"||K=="bool" | .bool=>K=="bool" | .list=>K=="list" | .dict=>K=="dict"
noncomputable def isO(T:PyT)(o:AO):Option Bool:=match o with
 | .list _=>some (zbI "list" T)
 | .tdict _=>some (zbI "dict" T)
 | .idict _=>some (zbI "dict" T)
 | _=>none
noncomputable def isA(T:PyT)(x:AV)(U:AHeap):Option Bool:=match x with
 | .none=>some (zbI "NoneType" T)
 | .bool _=>some (zbI "bool" T)
 | .int _=>some (zbI "int" T)
 | .str _=>some (zbI "str" T)
 | .tup _=>some (zbI "tuple" T)
 | .lst _=>some (zbI "list" T)
 | .ref p=>(U p).bind (isO T)
 | _=>none
def zaX(T:PyT):typeOf (.type T.name)=pure (.type "type"):=by cases T<;>(unfold PyT.name;kernel_rfl)
noncomputable def kT:List String:=["int","bool","str","tuple","list","dict","NoneType"]
def ztx{K:String}(hK:K∈kT)(T:PyT):isSubtype (.type K) (.type T.name)=pure (zbI K T):=by
 unfold kT at hK;simp only[fG,gM,or_false] at hK
 rcases hK with rfl|rfl|rfl|rfl|rfl|rfl|rfl<;>cases T<;>(rw[isSubtype_type];kernel_rfl)
def zwh{K:String}{T:PyT}(h:zbI K T=false):(Value.type K==Value.type T.name)=false:=by
 have:K≠T.name:=λe=>by subst e;cases T<;>cases h
 simpa using this
def zti(T:PyT)(x:AV)(Q:zm)(U:AHeap):Prop:=zu (isA T x U) λb=>Q (.bool b) U
section
variable{X:Cx}{A:Around}{U:AHeap}{s:Shared}{Q:zm}{E:Value->Shared->Prop}
def zbx{T:PyT}{v:Value}{K:String}(hK:K∈kT)(a:At X U s)(hT:s.TypeIs v K)(q:Q (.bool (zbI K T)) (vis U))
  (no:(Value.type K==Value.type T.name)=false->isSubtype (.type K) (.type T.name)=pure false->liftQ X U s Q (.bool false) { s with toks:=s.toks+1 }->wpAny X.M A (PySem.call (.builtin "isinstance") [v,.type T.name]) (liftQ X U s Q) E s) :
  wpAny X.M A (PySem.call (.builtin "isinstance") [v,.type T.name]) (liftQ X U s Q) E s:=by
 have e:=ztx hK T;cases hb:zbI K T with
 | true=>rw[hb] at e q;exact call_isinstance (isinstance_true (Tx:=K) (zaX T) e) ⟨hT,zbH a (.bool _) q⟩
 | false=>rw[hb] at e q;exact no (zwh hb) e (kO a (.bool _) q)
def zhs{T:PyT}{p:Addr}{vs:Array Value}(a:At X U s)(ht:s.heap.IsList p vs)(q:Q (.bool (zbI "list" T)) (vis U)):wpAny X.M A (PySem.call (.builtin "isinstance") [.ref p,.type T.name]) (liftQ X U s Q) E s:=
 zbx (by decide) a ht.typeIs q λh1 h2 fin=>call_isinstance (isinstance_false_list h1 (zaX T) h2) ⟨ht.typeIs,fin⟩
def zhr{T:PyT}{p:Addr}(a:At X U s)(ht:s.TypeIs (.ref p) "dict")(q:Q (.bool (zbI "dict" T)) (vis U)):wpAny X.M A (PySem.call (.builtin "isinstance") [.ref p,.type T.name]) (liftQ X U s Q) E s:=
 zbx (by decide) a ht q λh1 h2 fin=>call_isinstance (isinstance_false_dict h1 (zaX T) h2) ⟨ht,fin⟩
def zps{T:PyT}{p:Addr}{o:AO}(a:At X U s)(ho:U p=some o)(q:zu (isO T o) λb=>Q (.bool b) (vis U)):wpAny X.M A (PySem.call (.builtin "isinstance") [.ref p,.type T.name]) (liftQ X U s Q) E s:=by
 cases o with
 | list xs=>refine zb (a.isList0 (.inl ho)) λvs ht _=>?_;exact zhs a ht q
 | tdict kvs=>refine zb (a.tab ho) λxs hD _=>?_;exact zhr a hD.typeIs q
 | idict fs=>refine zb (a.rep _ _ ho) λkvs hD _=>?_;exact zhr a hD.mapOf.typeIs q
 | _=>exact q.elim
def zlq{T:PyT}{x:AV}{v:Value}(a:At X U s)(rx:RepV U s.heap x v)(q:zti T x Q (vis U)):wpAny X.M A (PySem.call (.builtin "isinstance") [v,.type T.name]) (liftQ X U s Q) E s:=by
 cases rx with
 | none=>exact zbx (K:="NoneType") (by decide) a rfl q λh1 h2 fin=>call_isinstance (isinstance_false_none h1 (zaX T) h2) fin
 | bool c=>exact zbx (K:="bool") (by decide) a rfl q λh1 h2 fin=>call_isinstance (isinstance_false_bool h1 (zaX T) h2) fin
 | int c t=>exact zbx (K:="int") (by decide) a rfl q λh1 h2 fin=>call_isinstance (isinstance_false_int h1 (zaX T) h2) fin
 | str c t=>exact zbx (K:="str") (by decide) a rfl q λh1 h2 fin=>call_isinstance (isinstance_false_str h1 (zaX T) h2) fin
 | tup hl ht rs=>exact zbx (K:="tuple") (by decide) a ht.typeIs q λh1 h2 fin=>call_isinstance (isinstance_false_tuple h1 (zaX T) h2) ⟨ht.typeIs,fin⟩
 | lst hp=>refine zb (a.isList0 (.inr hp)) λvs ht _=>?_;exact zhs a ht q
 | ref p=>
  refine zb (zg q) λb hb q=>?_;refine zb (pZ.mp hb) λo ho hb=>?_;exact zps a (zG ho).1 (zf hb q)
 | rng _=>exact q.elim
 | exc _=>exact q.elim
end
namespace A
def zv1(T:PyT)(Q:zm):zm:=λa σ1=>zti T a Q σ1
def isa(T:PyT)(x:AE):AE:=λd l Q Z U=>x d l (zv1 T Q) Z U
end A
section
variable{X:Cx}{env:Env}{nm:List (Str×Nat)}
def zme{T:PyT}{Tn:Str}{e:Expr}{m:AE}{gp tp pos:Pos}(XO:X.Ok)(EO:EnvOk env)(hx:env.kindOf "isinstance" = some .globalImplicit)(hn:X.mg "isinstance" = none)(hv:X.mb "isinstance" = some (.builtin "isinstance"))
  (hxT:env.kindOf Tn=some .globalImplicit)(hd:(Tn==("__debug__" : Str))=false)(hnT:X.mg Tn=none)(hvT:X.mb Tn=some (.type T.name))(hs:jB e=true)(h:zh X env nm e m) :
  zh X env nm (.Call (.Name "isinstance" gp) [e,.Name Tn tp] [] pos) (A.isa T m):=λd A l U s Q Z L a F q=>by
 refine Call_ (j4 XO EO a hx (by decide) hn hv ?_);refine Calls.callWith_builtin ?_ ?_
 .rw[zR hs];rfl
 rw[zR hs];refine Calls.evalArgs_plain ?_;show wpAny X.M A (spliced ((false,eval e env)::backTo pos (starEach [.Name Tn tp] env))) _ _ s;refine Calls.spliced_cons (kU (h d A l U s _ Z L a F q) λav v σ1 s1 rv a1 st1 q1=>?_);show wpAny X.M A (spliced ((false,eval (.Name Tn tp) env)::[])) _ _ s1;refine Calls.spliced_cons (j4 XO EO a1 hxT hd hnT hvT (Calls.spliced_nil ?_));exact jN st1 (zlq a1 rv q1)
end
section
variable{X:Cx}{env:Env}{nm:List (Str×Nat)}{B:Addr->Prop}
inductive Names(B:Addr->Prop)(env:Env)(nm:List (Str×Nat)):List Expr->List Nat->Prop
 | nil:Names B env nm [] []
 | cons {x pos es i is}:nm.lookup x=some i->Sto B env x->Names B env nm es is->Names B env nm (.Name x pos::es) (i::is)
def Names.length{es is}(h:Names B env nm es is):es.length=is.length:=by
 induction h with
 | nil=>rfl
 | cons _ _ r ih=>rw[fP,fP,ih]
def zaw(x:Str)(pos:Pos)(es:List Expr):assignEach (.Name x pos::es) env=(false,assign (.Name x pos) env)::assignEach es env:=rfl
def zbK{es is}(h:Names B env nm es is):(assignEach es env).length=es.length/\(assignEach es env).findIdx? (·.1)=none:=by
 induction h with
 | nil=>exact⟨rfl,rfl⟩
 | @cons x pos es i is _ _ r ih=>
  rw[zaw];refine⟨by rw[fP,fP,ih.1],?_⟩;rw[List.findIdx?_cons];simp[ih.2]
def zdf(EO:EnvOk env)(hB:∀b,B b->FB env b){es is}(N0:Names B env nm es is):∀{A:Around} {l:Loc} {U:AHeap} {s:Shared} {xs:List AV} {vs:List Value} {Q:Unit->Shared->Prop} {E:Value->Shared->Prop},At X U s->FR X env nm l U s.heap->RepVs U s.heap xs vs->
  (∀s',FR X env nm (zp0 is xs l) U s'.heap->At X U s'->Step B U s U s'->Q () s')->wpAny X.M A (assignInOrder ((assignEach es env).map (·.2)) vs) Q E s:=by
 induction N0 with
 | nil=>
  intro A l U s xs vs Q E a F r h;have:assignInOrder ([]:List (Value->Sem Unit)) vs=pure ():=by cases vs<;>rfl
  show wpAny X.M A (assignInOrder [] vs) Q E s;exact G7 (h s (by cases xs<;>exact F) a (.refl ..))
 | @cons x pos es i is hx hk nr ih=>
  intro A l U s xs vs Q E a F r h;rw[zaw];cases r with
  | nil=>exact G7 (h s F a (.refl ..))
  | @cons y ys v ws ry rs=>
   refine G6 (G9 (wpAny_assign_Name (zfB EO F a hx hk ry λs1 F1 a1 st1=>?_)));have no:NoStay B s.heap:=λb o hb e=>F.noStay b o (hB b hb) e;refine ih a1 F1 (rs.mono (st1.keepV a no)) λs2 F2 a2 st2=>h s2 F2 a2 (st1.trans st2)
def zh4{es:List Expr}{is:List Nat}{k:Nat}{pos:Pos}(EO:EnvOk env)(hB:∀b,B b->FB env b)(N:Names B env nm es is):zaD B X env nm (.Tuple es k pos) (.many is):=λd A l l' U s x v Q E L hd a F r hb h=>by
 cases x with
 | tup xs=>
  have hb:(if xs.length=is.length then some (zp0 is xs l) else none)=some l':=hb
  by_cases hlen:xs.length=is.length
  .rw[if_pos hlen] at hb;obtain rfl:=Hw hb;refine zi (RepV.wI r) λt vs e0_2 hl ht rs=>?_;subst e0_2;have e:=zbK N;have hvl:=rs.length;refine G6 (Hg ?_);unfold unpack;have en:(assignEach es env).length=vs.toArray.size:=by rw[e.1,N.length,<-hlen,hvl];simp
   rw[e.2,en];refine G6 (G9 (zK (wpAny_unpackItems_tuple (L.handled hd) ht λh' he' hsz=>?_)));have hk:∀b o,s.heap.get? b=some o->h'.get? b=some o:=λb o eo=>he' b o (fAH (Heap.lt_size eo)) eo;have a1:At X U { s with heap:=h' }:=a.grown s.toks hk;have st1:Step E0 U s U { s with heap:=h' }:=.grown U s.toks hk hsz;have rs1:=rs.mono (st1.keepV0 a);have:vs.toArray.toList=vs:=rfl;exact zdf EO hB N a1 (F.step a st1) rs1 λs2 F2 a2 st2=>h s2 F2 a2 ((st1.weaken λb hb=>hb.elim).trans st2)
  .rw[if_neg hlen] at hb;exact absurd (Eq.symm hb) (fH _)
 | _=>cases hb
end
noncomputable def zh0(lo hi:Int):Bool:=Nat.blt lo.natAbs 1000000000000&&Nat.blt hi.natAbs 1000000000000
def nab{i:Int}{c:Nat}(h:i.natAbs<c) : -(c:Int)<i/\i<c:=
 ⟨Int.neg_lt_of_neg_lt (fAT (Int.natAbs_neg i▸Int.le_natAbs) (fA1.mpr h)),fAT Int.le_natAbs (fA1.mpr h)⟩
def zoh{lo hi:Int}(h:zh0 lo hi=true) : -1000000000000<lo/\lo<1000000000000/\-1000000000000<hi/\hi<1000000000000:=
 jO (gB.mp h) λh1 h2=>⟨(nab (pD h1)).1,(nab (pD h1)).2,nab (pD h2)⟩
def znw(v:AV)(U:AHeap)(K:(AHeap->Prop)->List AV->Prop):Prop:=match v with
 | .tup xs=>K (λ_=>True) xs
 | .rng lo hi=>onB (zh0 lo hi) (K (λ_=>True) (zog lo hi))
 | x=>zu (jm U x) λxs=>K (zdV x xs) xs
structure IterAt(X:Cx)(A:Around)(target:Expr)(U:AHeap)(s:Shared)(K:(AHeap->Prop)->List AV->Prop)(it:Value)(s':Shared):Prop where
 ex:∃I xs W St,ItOk X A target it I xs W St/\St 0 U s'.heap/\(∀b,W b->U b=none/\X.h₀.get? b=none/\s.heap.objs.size<=b)/\I (vis U)/\K I xs
 at_:At X U s'
 step:Step E0 U s U s'
section
variable{X:Cx}{A:Around}{U:AHeap}{s:Shared}{E:Value->Shared->Prop}{d:Dp}{target:Expr}
def qh(a:At X U s){b:Nat}(hb:s.heap.objs.size<=b):U b=none/\X.h₀.get? b=none/\s.heap.objs.size<=b:=(zq (a.none_of_size hb) (by
 cases h:X.h₀.get? b with
 | none=>rfl
 | some ob=>exact absurd (Heap.lt_size (a.keep _ _ h)) (pL.mpr hb)) hb)
def zdW{v:AV}{u:Value}{xs:List AV}(a:At X U s)(hx:jm (vis U) v=some xs)(r:RepV U s.heap v u):∃(p:Addr) (vs:List Value),u = .ref p/\s.heap.IsList p vs.toArray/\RepVs U s.heap xs vs/\zdV v xs (vis U)/\stL v p xs U:=by
 refine zr (a.isList (zV hx) r) λp vs e1_2 ho hl rs _=>?_;subst e1_2;refine jl p vs rfl hl rs ?_ ?_
 .cases zV hx with
  | ref h=>exact h
  | lst=>trivial
 .cases r with
  | ref a=>exact rfl
  | lst h=>cases zV hx;exact h
  | tup _ _ _=>cases hx
  | rng _=>cases hx
  | exc _=>cases hx
def zi2{v:AV}{u:Value}{K:(AHeap->Prop)->List AV->Prop}(hh:A.handled=none)(a:At X U s)(r:RepV U s.heap v u)(h:znw v (vis U) K):wpAny X.M A (pyIter u) (IterAt X A target U s K) E s:=by
 have lists:(zu (jm (vis U) v) λxs=>K (zdV v xs) xs)->wpAny X.M A (pyIter u) (IterAt X A target U s K) E s:=λh=>by
  refine zb (zg h) λxs hx k=>?_;refine zr (zdW a hx r) λp vs e3_2 hl rs k1 k2=>?_;subst e3_2;exact wpAny_pyIter_list hl ⟨(j7 _ xs _ _ (zls hh s.heap.objs.size p v xs) ⟨(zv _ (Heap.get?_push_size _ rfl) rfl rfl),k2⟩ (λb hb=>by subst hb;exact qh a (fN _)) k1 k),a.push _ s.toks,Step.push U s _ s.toks⟩
 cases v with
 | tup xs=>
  refine zi (RepV.wI r) λt vs e4_2 hl ht rs=>?_;subst e4_2;exact wpAny_pyIter_tuple ht ⟨(j7 _ _ _ _ (zi1 hh s.heap.objs.size t _) (kD (zv _ (Heap.get?_push_size _ rfl) rfl rfl) vs ((KeepV.push _).tup (U:=U) ht) (rs.mono (.push _))) (λb hb=>by subst hb;exact qh a (fN _)) trivial h),a.push _ s.toks,Step.push U s _ s.toks⟩
 | rng lo hi=>
  cases r with
  | @rng _ _ t x y z ho=>
   obtain⟨hb,k⟩:=qE h;refine zy (zoh hb) λh1 h2 h3 h4=>?_;have hsz:Builtin.Range.rangeSize lo hi 1=(((hi-lo).toNat:Nat):Int):=by
    rw[rangeSize_one];split<;>(first|exact y57 (by assumption)|exact y61 (by assumption))
   have fl:∀z:Int,-1000000000000000<z->z<1000000000000000->Builtin.Range.rangeFitsLong z=true:=λz hz1 hz2=>by
    unfold Builtin.Range.rangeFitsLong;simp only[gT,decide_eq_true_eq];constructor<;>lia
   have hsmall:Builtin.Range.small lo hi 1=true:=by
    unfold Builtin.Range.small;rw[hsz,fl lo (by exact y12 h1) (y34 h2),fl hi (y12 h3) (y34 h4),fl 1 y0 y2,fl _ y65 (y47 h1 h4)];simp only[Bool.true_and,fB0];have:(1:Int)>0:=y3;simp only[this,if_true];rw[show hi+(1-1)=hi by exact y43,fl hi (by exact y12 h3) (by exact y34 h4)];simp
   refine wpAny_pyIter_range (t:=x) (u:=y) (v:=z) ho hsmall ?_;refine⟨(j7 _ (zog lo hi) _ _ (zi0 hh s.heap.objs.size lo (hi-lo).toNat) ?_ (λb hb=>by subst hb;exact qh a (fN _)) trivial k),a.push _ s.toks,Step.push U s _ s.toks⟩;show (s.heap.push _).get? s.heap.objs.size=some _;rw[Heap.get?_push_size _ rfl,hsz];simp[rawInt]
 | none=>exact lists h
 | bool _=>exact lists h
 | int _=>exact lists h
 | str _=>exact lists h
 | lst _=>exact lists h
 | ref _=>exact lists h
 | exc _=>exact lists h
end
noncomputable def zed(e:Expr):Bool:=!Nat.beq e.ctorIdx 7
def zab{e:Expr}{env:Env}(h:zed e=true)(x:Value):foldedSetIterable e env x=pure x:=by
 cases e<;>first|rfl|exact nob h
abbrev AI:=Dp->Loc->(AHeap->(AHeap->Prop)->List AV->Prop)->XP->AHeap->Prop
namespace A
def kIt(K:AHeap->(AHeap->Prop)->List AV->Prop):zm:=λv σ1=>znw v σ1 (K σ1)
def zv2(K:AHeap->(AHeap->Prop)->List AV->Prop):zm:=λv σ1=>zu (jm σ1 v) λxs=>K σ1 (zdV v xs) (zbT 0 xs)
def kFr(t:Tgt)(b:AS)(d:Dp)(l:Loc)(Q:zU)(σ1:AHeap)(I:AHeap->Prop)(xs:List AV):Prop:=zhd I t b d Q xs l σ1
def zv3(r:Bool)(Q:zm):List AV->AHeap->Prop:=λacc U'=>mkL r acc Q U'
def kLc(r:Bool)(t:Tgt)(k:Nat)(c:Option AE)(e:AE)(d:Dp)(l:Loc)(Q:zm)(σ1:AHeap)(I:AHeap->Prop)(xs:List AV):Prop:=zaJ I t c e d (zv3 r Q) xs [] (l++List.replicate k none) σ1
def itP(m:AE):AI:=λd l K Z U=>wZ d (m d l (kIt K) Z U)
def itE(m:AE):AI:=λd l K Z U=>wZ d (m d l (zv2 K) Z U)
def fr(m:AI)(t:Tgt)(b:AS):AS:=λd l Q Z U=>m d l (kFr t b d l Q) (kZ Z l) U
def lc(r:Bool)(m:AI)(t:Tgt)(k:Nat)(c:Option AE)(e:AE):AE:=λd l Q Z U=>m d l (kLc r t k c e d l Q) Z U
end A
section
variable{X:Cx}{env:Env}{nm:List (Str×Nat)}
def zcs(X:Cx)(env:Env)(nm:List (Str×Nat))(target iter:Expr)(m:AI):Prop:=
 ∀d A l U s K Z (R:Value->Shared->Prop) E,Live X d A->At X U s->FR X env nm l U s.heap->m d l K Z (vis U)->(∀e s',liftX X U s Z e s'->E e s')->(d.hd=false->
  ∀σ1 s1 it s2,At X σ1 s1->Step E0 U s σ1 s1->IterAt X A target σ1 s1 (K (vis σ1)) it s2->R it s2)->
  wpAny X.M A (eval iter env) (λx s1=>wpAny X.M A (pyIter x) R E s1) E s
def zgx{target iter:Expr}{m:AE}(h:zh X env nm iter m):zcs X env nm target iter (A.itP m):=λd A l U s K Z R E L a F q hE hR=>by
 obtain⟨hd,q⟩:=ky q;refine G8 (h d A l U s _ Z L a F q) (λx s1 hx=>?_) λe s' x=>hE e s' x;refine zi hx λav σ1 rv a1 st1 q1=>?_;exact G8 (zi2 (target:=target) (L.handled hd) a1 rv q1) (λit s2 x=>hR hd σ1 s1 it s2 a1 st1 x) λ_ _ (e:False)=>e.elim
def zh3{elts:List Expr}{x1:Nat}{tp gp pos:Pos}{e:Expr}{m:AE}(XO:X.Ok)(EO:EnvOk env)(hx:env.kindOf "enumerate" = some .globalImplicit)(hn:X.mg "enumerate" = none)(hv:X.mb "enumerate" = some (.type "enumerate"))(hs:jB e=true)(h:zh X env nm e m) :
  zcs X env nm (.Tuple elts x1 tp) (.Call (.Name "enumerate" gp) [e] [] pos) (A.itE m):=λd A l U s K Z R E L a F q hE hR=>by
 obtain⟨hd,q⟩:=ky q;refine Call_ (j4 XO EO a hx (by decide) hn hv ?_);refine PyProof.Rows.callWith_type ?_ ?_
 .rw[zR hs];rfl
 rw[zR hs];refine Calls.evalArgs_plain ?_;show wpAny X.M A (spliced ((false,eval e env)::[])) _ _ s;refine Calls.spliced_cons (G8 (h d A l U s _ Z L a F q) (λv s1 hpx=>Calls.spliced_nil ?_) λe s' x=>hE e s' x);refine zi hpx λav σ1 rv a1 st1 q1=>?_;refine zb (zg q1) λxs hx1 q2=>?_;refine zr (zdW a1 hx1 rv) λp vs e12_2 hl rs k1 k2=>?_;subst e12_2;refine zK (call_enumerate_list hl λh' he hit hsz hk hsz'=>?_);have a2:At X σ1 { s1 with heap:=h' }:=a1.grown s1.toks hk;have st2:Step E0 σ1 s1 σ1 { s1 with heap:=h' }:=.grown σ1 s1.toks hk hsz';refine wpAny_pyIter_enum he ?_;refine hR hd σ1 s1 _ _ a1 st1 ⟨(j7 _ _ _ _ (zlr (L.handled hd) (s1.heap.objs.size+1) s1.heap.objs.size p (neA zxr) av xs) (zaf hit k2 _ he) (λb hb=>?_) k1 q2),a2,st2⟩
 rcases hb with rfl|rfl
 .exact qh a1 (fA7 _)
 .exact qh a1 (fN _)
def zmb{target iter:Expr}{body:List Stmt}{pos:Pos}{t:Tgt}{b:AS}{m:AI}(hn:zed iter=true)(hi:zcs X env nm target iter m)(ht:zaD (FB env) X env nm target t)(hb:jU X env nm body b) :
  jj X env nm (.For target iter body [] pos) (A.fr m t b):=λd A l U s Q Z L a F q=>by
 refine wpAny_For (hi d A l U s _ _ _ _ L a F q (λe s' x=>x.toS a F) λhd σ1 s1 it s2 a1 st1 IA=>?_) (zab hn);refine zS IA.ex λI xs W St IT hSt hW hI q1=>?_;have F2:=(F.step a st1).step a1 IA.step;refine znc (U:=σ1) (Q:=Q) L hd IT ht hb (λb hb=>⟨(hW b hb).1,(hW b hb).2.1⟩) IA.at_ F2 hI hSt q1 λf s' hpx=>?_;refine jZ hpx λfl l' U' r a' F' st' q'=>?_;refine zH fl l' U' r a' F' ?_ q';have st12:Step (λb=>FB env b\/W b) σ1 s1 σ1 s2:=IA.step.weaken λb hb=>hb.elim;have:=(st12.trans st').drop (B:=FB env) λb hb=>hb.imp id λhb=>(hW b hb).2.2;exact(st1.weaken FB.wP).trans this
structure SoundLC(X:Cx)(env:Env)(nm:List (Str×Nat))(N:Nat)(elt target iter:Expr)(ifs:List Expr)(scope:Scope)(nm':List (Str×Nat))(k:Nat)(t:Tgt)(c:Option AE)(e:AE)(m:AI):Prop where
 ns:zed iter=true
 ck:CompOk env.scope.names nm N scope.names nm' k
 kind:scope.kind = .function
 iter:zcs X env nm target iter m
 tgt:∀C,zaD (λb=>b=C) X (compEnvC scope (clo env.cells scope.names []) C env) nm' target t
 test:∀C,zfD X (compEnvC scope (clo env.cells scope.names []) C env) nm' ifs c
 elt:∀C,zh X (compEnvC scope (clo env.cells scope.names []) C env) nm' elt e
def zc6{sc:List (Str×NameKind)}{N:Nat}{names:List (Str×NameKind)}{nm':List (Str×Nat)}{k:Nat}(CK:CompOk sc nm N names nm' k):∀x∈names,x.2 = .local->names.lookup x.1=some .local:=λx hx h=>by
 have:=jW CK.nodup (n:=x.1) (c:=x.2) hx;rw[h] at this;exact this
def zoE{r:Bool}{B:Addr->Prop}{U U':AHeap}{s s':Shared}{D:Addr}{acc:List AV}{ys:List Value}{n:Nat}{Q:zm}(hDo:s'.heap.get? D=some (zO ys n))(rys:RepVs U' s'.heap acc ys)(hacc:acc.length<=1000000)(a:At X U' s')(st:Step B U s U' s')(hσ:U' D=none)(h0:X.h₀.get? D=none)(hfr:D∉X.fr)(hD:s.heap.objs.size<=D)(q:mkL r acc Q (vis U')) :
  ∃av ao,RepV (U'.set D ao) s'.heap av (.ref D)/\At X (U'.set D ao) s'/\Step B U s (U'.set D ao) s'/\Q av (vis (U'.set D ao)):=by
 cases r with
 | true=>exact⟨.ref D,.list acc,.ref D,a.adopt hσ h0 hfr λkv=>(zL ys n hDo (rys.mono kv) hacc),st.adopt hσ hD,by rw[jr rfl];exact q D (qi hσ)⟩
 | false=>exact zo (.lst acc) (.frz acc) (.lst (AHeap.wA ..)) (a.adopt hσ h0 hfr λkv=>(zv ys (qe _ hDo rfl n rfl) (rys.mono kv) hacc)) (st.adopt hσ hD) (by rw[zgF hσ];exact q)
def zev{r:Bool}{elt target iter:Expr}{ifs:List Expr}{scope:Scope}{pos:Pos}{nm':List (Str×Nat)}{N k:Nat}{t:Tgt}{c:Option AE}{e:AE}{m:AI}
  (EO:EnvOk env)(hN:kg nm=N)(S:SoundLC X env nm N elt target iter ifs scope nm' k t c e m) :
  zh X env nm (.ListComp elt [⟨target,iter,ifs,0⟩] scope pos) (A.lc r m t k c e):=λd A l U s Q Z L a F q=>by
 refine wpAny_comprehension_free (use:=none) rfl (zab S.ns) (zaI (S.ck.closure F)) S.kind (zc6 S.ck) ?_;refine S.iter d A l U s _ Z _ _ L a F q (λe s' x=>x) λhd σ1 s1 it s2 a1 st1 IA=>?_;refine zS IA.ex λI xs W St IT hSt hW hI q1=>?_;have F2:=(F.step a st1).step a1 IA.step;refine zeZ (RR:=λacc C=>compPost X.M A (liftX X U s Z) none (liftQ X U s Q) acc C) EO L hd IA.at_ F2 (F.len.trans hN) S.ck S.kind IT hSt (λb hb=>⟨(hW b hb).1,(hW b hb).2.1⟩) hI S.tgt S.test S.elt q1 ?_;intro D C s' U' acc mC hfr hD hC hDC hσD hσC hns hDo a3 st3 q3;refine zc mC hns (λh' hs'=>?_);refine zn hDo λys n hDo rys hacc=>?_;have hC0:X.h₀.get? C=none:=(qh IA.at_ hC).2.1;have hD0:X.h₀.get? D=none:=(qh IA.at_ hD).2.1;have hCfr:C∉X.fr:=ze3 IA.at_ hC;have kv:KeepV U' s'.heap U' h':=.mk' λb o e st=>(hs'.2 b (by rintro rfl;exact kM hns o e st)).trans e;have a4:At X U' { s' with heap:=h' }:=a3.aside (t:=s'.toks) (h':=h') hσC hC0 (kM hns) (λq=>absurd q hCfr) hs';have hDo':h'.get? D=some (zO ys n):=(hs'.2 D hDC).trans hDo;have st4:Step (λb=>W b\/s1.heap.objs.size<=b) σ1 s1 U' { s' with heap:=h' }:=by
  have x1:Step (λb=>W b\/s1.heap.objs.size<=b) σ1 s1 σ1 s2:=IA.step.weaken λb hb=>hb.elim;have x2:Step (λb=>W b\/s1.heap.objs.size<=b) σ1 s2 U' s':=st3.weaken λb hb=>.inl hb;have x3:Step (λb=>W b\/s1.heap.objs.size<=b) U' s' U' { s' with heap:=h' }:=Step.aside (t:=s'.toks) (h':=h') (.inr (fF IA.step.size hC)) hs';exact x1.trans (x2.trans x3)
 have st5:Step E0 U s U' { s' with heap:=h' }:=st1.trans (st4.drop λb hb=>.inr (hb.elim (λhb=>(hW b hb).2.2) id));have hDs:s.heap.objs.size<=D:=fF st1.size (fF IA.step.size hD);refine zi (zoE hDo' (rys.mono kv) hacc a4 st5 hσD hD0 hfr hDs q3) λav ao h1 h2 h3 h4=>?_;exact zo av _ h1 h2 h3 h4
end
section
variable{X:Cx}{env:Env}{nm:List (Str×Nat)}
def FB.lt{l:Loc}{U:AHeap}{s:Shared}(F:FR X env nm l U s.heap){b:Nat}(h:FB env b):b<s.heap.objs.size:=by
 rcases h with h|⟨x,hx⟩
 .refine zb F.ns λm hn _=>?_;rw[h];exact hn.lt
 .refine kC (F.outc x b hx) λ_ _ v hc=>?_;exact hc.lt
def zeS{r:Bool}{elt target iter:Expr}{ifs:List Expr}{scope:Scope}{cpos py pos:Pos}{y:Str}{i:Nat}{nm':List (Str×Nat)}{N k:Nat}{t:Tgt}{c:Option AE}{e:AE}{m:AI}
  (EO:EnvOk env)(hN:kg nm=N)(S:SoundLC X env nm N elt target iter ifs scope nm' k t c e m)(hy:nm.lookup y=some i)(hky:env.kindOf y=some .local\/env.kindOf y=some .cell) :
  jj X env nm (.Assign [.Name y py] (.ListComp elt [⟨target,iter,ifs,0⟩] scope cpos) pos) (A.set i (A.lc r m t k c e)):=by
 have hsw:swapsWith (.ListComp elt [⟨target,iter,ifs,0⟩] scope cpos) (some (.Name y py)) pos.line env=pure (env.blockKind==.function&&env.kindOf y==some .local&&py.line==cpos.line&&!(scope.names.any λ(n,k)=>n==y&&(k==.local||k==.cell))):=rfl;cases hb:(env.blockKind==.function&&env.kindOf y==some .local&&py.line==cpos.line&&!(scope.names.any λ(n,k)=>n==y&&(k==.local||k==.cell))) with
 | false=>rw[hb] at hsw;exact zfs EO (zev EO hN S) hy hky hsw
 | true=>
  rw[hb] at hsw;intro d A l U s Q Z L a F q;rw[exec_Assign_Name_used _ _ _ _ hsw];refine G6 (Hg (G6 ?_));refine G6 (G8 (wpAny_comprehension_free (use:=some (assign (.Name y py) env)) (Q:=λ_ s'=>liftS X env nm U s Q .next s') rfl (zab S.ns) (zaI (S.ck.closure F)) S.kind (zc6 S.ck) ?_) (λ_ s' hq=>G7 (G7 hq)) λ_ _ e=>e);refine S.iter d A l U s _ _ _ _ L a F q (λe s' x=>x.toS a F) λhd σ1 s1 it s2 a1 st1 IA=>?_;refine zS IA.ex λI xs W St IT hSt hW hI q1=>?_;have F1:=F.step a st1;have F2:=F1.step a1 IA.step;refine zeZ (RR:=λacc C=>compPost X.M A (liftSX X env nm U s Z) (some (assign (.Name y py) env)) (λ_ s'=>liftS X env nm U s Q .next s') acc C) EO L hd IA.at_ F2 (F.len.trans hN) S.ck S.kind IT hSt (λb hb=>⟨(hW b hb).1,(hW b hb).2.1⟩) hI S.tgt S.test S.elt q1 ?_;intro D C s' U' acc mC hfr hD hC hDC hσD hσC hns hDo a3 st3 q3;have hC0:X.h₀.get? C=none:=(qh IA.at_ hC).2.1;have hD0:X.h₀.get? D=none:=(qh IA.at_ hD).2.1;have hCfr:C∉X.fr:=ze3 IA.at_ hC;refine zn hDo λys n hDo rys hacc=>?_;refine zi (zoE hDo rys hacc a3 st3 hσD hD0 hfr hD q3) λav ao r1 a3 st3 q3=>?_;have hCσ:(U'.set D ao) C=none:=by rw[AHeap.wB _ _ (Ne.symm hDC)];exact hσC
  generalize U'.set D ao=σ3 at r1 a3 st3 q3 hCσ;have noW:NoStay W s2.heap:=λb o hb e=>by refine zl (IT.there 0 _ _ b hSt hb) λo' e' h' _=>?_;rw[e] at e';obtain rfl:=Hw e';exact h'
  have dis:∀b,FB env b->¬W b:=λb hb hw=>absurd (FB.lt F1 hb) (pL.mpr (hW b hw).2.2);have F3:=F2.stepB IA.at_ st3 dis noW;refine wpAny_assign_Name (zeF EO F3 a3 hy hky r1 λs4 F4 a4 st4=>?_);have hCF:¬FB env C:=λhb=>absurd (FB.lt F2 hb) (pL.mpr hC);refine jk (id hns) λoC es ep hoC hdC hr=>?_;obtain⟨sl,hoC4⟩:=st4.keepD C oC hoC hCσ hCF;refine zc mC (q8 _ es ep hoC4 hdC hr) (λh' hs'=>?_);have nC:∀o,s4.heap.get? C=some o->¬qs o:=λo ho=>by rw[hoC4] at ho;obtain rfl:=Hw ho;exact zaY hdC
  have a5:At X σ3 { s4 with heap:=h' }:=a4.aside (t:=s4.toks) (h':=h') hCσ hC0 nC (λq=>absurd q hCfr) hs';have st5:Step (λb=>b=C) σ3 s4 σ3 { s4 with heap:=h' }:=Step.aside (t:=s4.toks) (h':=h') rfl hs';have F5:=F4.stepB a4 st5 (λb hb e=>hCF (e▸hb)) (λb o hb e=>by subst hb;exact nC o e);have stA:Step (λb=>FB env b\/s1.heap.objs.size<=b) σ1 s1 σ3 { s4 with heap:=h' }:=by
   have x1:Step (λb=>FB env b\/s1.heap.objs.size<=b) σ1 s1 σ1 s2:=IA.step.weaken λb hb=>hb.elim;have x2:Step (λb=>FB env b\/s1.heap.objs.size<=b) σ1 s2 σ3 s':=st3.weaken λb hb=>.inr (hW b hb).2.2;have x3:Step (λb=>FB env b\/s1.heap.objs.size<=b) σ3 s' σ3 s4:=st4.weaken λb hb=>.inl hb;have x4:Step (λb=>FB env b\/s1.heap.objs.size<=b) σ3 s4 σ3 { s4 with heap:=h' }:=st5.weaken λb hb=>.inr (by rw[hb];exact fF IA.step.size hC);exact x1.trans (x2.trans (x3.trans x4))
  exact zH .next _ _ trivial a5 F5 ((st1.weaken FB.wP).trans (stA.drop λb hb=>hb)) q3
end
section
open PySem.MeetsSeq
abbrev zbk:=List AV->List AV->(AV->List AV->Prop)->Prop
def qM(X:Cx)(id:String)(m:zbk):Prop:=
 ∀d A U s p xs as vs (Q:zm) E,Live X d A->At X U s->RepVs U s.heap as vs->U p=some (.list xs)->m xs as (λv ys=>Q v ((vis U).set p (.list ys)))->wpAny X.M A (PySem.call (.builtin id) (.ref p::vs)) (liftQ X U s Q) E s
def zn5(v:AV)(K:Addr->Prop):Prop:=match v with
 | .ref p=>K p
 | _=>False
def zhP{v:AV}{K:Addr->Prop}(h:zn5 v K):∃p,v = .ref p/\K p:=by
 cases v with
 | ref p=>exact⟨p,rfl,h⟩
 | _=>exact h.elim
def zbE(U:AHeap)(p:Addr)(K:List AV->Prop):Prop:=zu ((U p).bind AO.w8) K
def zp{U:AHeap}{p:Addr}{xs:List AV}{K:List AV->Prop}(h:U p=some (.list xs))(q:K xs):zbE U p K:=by unfold zbE;rw[h];exact q
def zfh{U:AHeap}{p:Addr}{K:List AV->Prop}(h:zbE U p K):∃xs,U p=some (.list xs)/\K xs:=by
 refine zb (zg h) λxs h1 q=>?_;refine zb (pZ.mp h1) λo h2 h3=>?_;cases o with
 | list ys=>cases h3;exact⟨_,h2,q⟩
 | _=>cases h3
namespace A
def w1(p:Addr)(Q:zm)(σ2:AHeap)(v:AV)(ys:List AV):Prop:=Q v (σ2.set p (.list ys))
def zrn(m:zbk)(p:Addr)(Q:zm):List AV->AHeap->Prop:=λas σ2=>zbE σ2 p λxs=>m xs as (w1 p Q σ2)
def zs7(m:zbk)(args:List AE)(d:Dp)(l:Loc)(Q:zm)(Z:XP):zm:=λr σ1=>zn5 r λp=>zbE σ1 p λ_=>zbn args d l (zrn m p Q) Z σ1
def meth(m:zbk)(x:AE)(args:List AE):AE:=λd l Q Z U=>x d l (zs7 m args d l Q Z) Z U
def kEx(l:Loc)(S:zU):zm:=λ_ U'=>S .next l U'
def ex(x:AE):AS:=λd l S SZ U=>x d l (kEx l S) (kZ SZ l) U
end A
section
variable{X:Cx}{env:Env}{nm:List (Str×Nat)}
def zjI{o:Expr}{name:Str}{id:String}{x:AE}{es:List Expr}{ms:List AE}{m:zbk}{apos pos:Pos}(slot:Slot "list" name id)(hty:typeOf (.builtin id)=pure (.type "method_descriptor"))(hm:qM X id m)
  (hb:∀e,attributeBase o name e (eval o e)=eval o e)(hl:(apos.endLine==pos.line)=true)(hn:decide (es.length<30)=true)(hx:zh X env nm o x)(h:SoundEs X env nm es ms) :
  zh X env nm (.Call (.Attribute o name apos) es [] pos) (A.meth m x ms):=λd A l U s Q Z L a F q=>by
 refine wpAny_Call_method (hb env) ?_ hl PySem.F.plainAttrs_list slot hty ?_
 .have h1:(backTo pos (starEach es env)).all (λx=>!x.1)=true:=by
   rw[List.all_eq_not_any_not];simp only[Bool.not_not];rw[h.plain];rfl
  rw[h1];show (true&&true&&decide (es.length+0+0<30))=true
  simpa using hn
 refine G8 (hx d A l U s _ _ L a F q) (λv s1 hpx=>?_) λ_ _ x=>x;refine zi hpx λav σ1 r a1 st q1=>?_;refine zb (zhP q1) λp e3_1 q1=>?_;subst e3_1;refine zb (zfh q1) λxs hp q1=>?_;obtain rfl:=RepV.wN r;refine z0 (a1.rep _ _ (zG hp).1) λvs n ho _=>?_;refine zq (zc _ ho rfl) (λb e=>by cases e;exact(zc _ ho rfl)) ?_;refine Calls.callWith_builtin h.plain (G8 (qo h L a1 (F.step a st) q1 λvs s2 hpx=>?_) (λ_ _ x=>x) λ_ _ x=>x.back st);refine zi hpx λavs σ2 r2 a2 st2 q2=>?_;refine zb (zfh q2) λys hp2 q3=>?_;exact jN (st.trans st2) (hm d A σ2 s2 p ys avs vs Q _ L a2 r2 (zG hp2).1 q3)
def zox{e:Expr}{pos:Pos}{m:AE}(EO:EnvOk env)(h:zh X env nm e m)(hs:swapsWith e none pos.line env=pure false):jj X env nm (.Expr e pos) (A.ex m):=λd A l U s Q Z L a F q=>by
 rw[exec_Expr env e pos (by unfold interactive;rw[EO.kind];rfl) hs];refine G6 (Hg (G6 (G8 (h d A l U s _ _ L a F q) (λv s1 hpz=>zi hpz λav σ1 r a1 st q1=>wpAny_dropValue ?_) λ_ _ x=>x.toS a F)));exact zH .next l σ1 trivial a1 (F.step a st) (st.weaken FB.wP) q1
def zW:zbk:=λxs as K=>zay as λv=>zeO (xs.length+1) (K .none (xs++[v]))
def zrA:zbk:=λxs as K=>match as with
 | []=>zu xs.getLast? λv=>K v xs.dropLast
 | _::_=>zay as λk=>zu k.int? λi=>onB (decide (0<=i)) (zu xs[i.toNat]? λv=>K v (xs.eraseIdx i.toNat))
def RepVs.eraseIdx{U:AHeap}{h:Heap}{xs:List AV}{vs:List Value}(r:RepVs U h xs vs):∀n,RepVs U h (xs.eraseIdx n) (vs.eraseIdx n):=by
 induction xs generalizing vs with
 | nil=>intro n;obtain rfl:=RepVs.wG r;exact .nil
 | cons x xs ih=>
  obtain⟨_,_,rfl,a,r⟩:=RepVs.wF r;intro n;cases n with
  | zero=>exact r
  | succ n=>exact .cons a (ih r n)
def zpq{h:Heap}{p:Addr}{us ws:List Value}{n:Nat}(ho:h.get? p=some (zO us n))(f:Array Value->Array Value)(e:f us.toArray=ws.toArray):∃n',(h.update p (Obj.mapSeq f)).get? p=some (zO ws n'):=by
 have:=IsL.update ho f;rw[e] at this;exact⟨_,this⟩
def zbP{U:AHeap}{s:Shared}{p:Addr}{xs ys:List AV}{us ws:List Value}{n:Nat}{Q:zm}{x:AV}{v:Value}(a:At X U s)(hp:U p=some (.list xs))(ho:s.heap.get? p=some (zO us n))(f:Array Value->Array Value)(e:f us.toArray=ws.toArray)(rw_:RepVs U s.heap ys ws)(hl:ys.length<=1000000)(rx:RepV U s.heap x v)
  (q:Q x ((vis U).set p (.list ys))):liftQ X U s Q v { s with heap:=s.heap.update p (Obj.mapSeq f) }:=by
 have hs:Heap.SameBut p s.heap (s.heap.update p (Obj.mapSeq f)):=Heap.SameBut.update ..;obtain⟨n',hn'⟩:=zpq (ws:=ws) ho f e;have a':=a.store (ao:=.list ys) (t:=s.toks) hp rfl hs λkv=>(zL ws n' hn' (rw_.mono kv) hl)
 have st:Step E0 U s (U.set p (.list ys)) { s with heap:=s.heap.update p (Obj.mapSeq f) }:=Step.store (t:=s.toks) hp rfl hs;exact zo x _ (rx.mono (st.keepV0 a)) a' st (by rw[jr rfl];exact q)
def zgy:qM X "list.append" zW:=λd A U s p xs as vs Q E L a r hp q=>by
 refine zb (jy q) λv0 e10_1 q=>?_;subst e10_1;obtain⟨hl,q⟩:=kz q;refine zb (qn r) λv e12_1 rv=>?_;subst e12_1;refine zn (a.rep _ _ hp) λus n ho ru _=>?_;have hsz:us.toArray.size<=sizeLine:=by rw[gE,<-ru.length,Ha];exact zws hl
 refine call_meets PySem.F.slot_list_append (zc _ ho rfl) PySem.F.entry_list_append (PySem.F.args_list_append_2 _ _) (list_append p us.toArray n v hsz) ⟨ho,?_⟩;exact zbP (ws:=us++[v]) a hp ho _ (by simp) (ru.append (.cons rv .nil)) (by rw[fE];exact hl) .none q
def zfm{d:Dp}{A:Around}{U:AHeap}{s:Shared}{p:Addr}{xs:List AV}{us:List Value}{n k:Nat}{x:AV}{v:Value}{Q:zm}(a:At X U s)(hp:U p=some (.list xs))(ho:s.heap.get? p=some (zO us n))(ru:RepVs U s.heap xs us)(hl:xs.length<=1000000)(hx:xs[k]? = some x)(rx:RepV U s.heap x v)(q:Q x ((vis U).set p (.list (xs.eraseIdx k)))) :
  liftQ X U s Q v { s with heap:=s.heap.update p (Obj.mapSeq λx=>x.eraseIdxIfInBounds k) }:=by
 have hk:k<us.length:=by rw[<-ru.length];exact(fY.mp hx).1
 exact zbP (ws:=us.eraseIdx k) a hp ho _ (by simp[Array.eraseIdxIfInBounds,hk]) (ru.eraseIdx k) (by have:=List.length_eraseIdx_le xs k;exact zyo hl this) rx q
def zmn:qM X "list.pop" zrA:=λd A U s p xs as vs Q E L a r hp q=>by
 refine zn (a.rep _ _ hp) λus n ho ru hl=>?_;have hsz:us.toArray.size<=sizeLine:=by rw[gE,<-ru.length,Ha];exact zgH hl
 cases as with
 | nil=>
  refine zb (zg q) λx hx q1=>?_;obtain rfl:=RepVs.wG r;have hx':xs[xs.length-1]? = some x:=by rw[<-List.getLast?_eq_getElem?];exact hx
  refine zb (ru.get hx') λy hy ry=>?_;have hy':us.toArray[us.toArray.size-1]? = some y:=by rw[gE,<-ru.length];simpa using hy
  refine call_meets PySem.F.slot_list_pop (zc _ ho rfl) PySem.F.entry_list_pop (PySem.F.args_list_pop_1 _) (list_pop_last p us.toArray n y hy' hsz) ⟨ho,?_⟩;have e:us.toArray.size-1=xs.length-1:=by rw[gE,ru.length]
  rw[e];refine zfm (d:=d) (A:=A) a hp ho ru hl hx' ry ?_;rw[List.eraseIdx_length_sub_one];exact q1
 | cons i0 as=>
  have q:zay (i0::as) λk=>zu k.int? λi=>onB (decide (0<=i)) (zu xs[i.toNat]? λv=>Q v ((vis U).set p (.list (xs.eraseIdx i.toNat)))):=q;refine zb (jy q) λkv e q1=>?_;refine zb (zg q1) λi hi q2=>?_;obtain⟨h0,q3⟩:=qE q2;refine zb (zg q3) λx hx q4=>?_;have hi:=ji hi;rw[e,hi] at r;refine zb (qn r) λv e21_1 rv=>?_;subst e21_1;obtain⟨t,rfl⟩:∃t,v = .int i t:=by obtain⟨_,rfl⟩:=RepV.wC rv;exact⟨_,rfl⟩
  obtain⟨k,hki⟩:∃k:Nat,i.toNat=k:=⟨_,rfl⟩
  rw[hki] at hx q4;refine zb (ru.get hx) λy hy ry=>?_;have hk:k<us.length:=(fY.mp hy).1;have hkl:us.length<=1000000:=by rw[<-ru.length];exact hl
  have hik:i=k:=by lia
  have f1:Builtin.List.listFitsIndex i=true:=by
   unfold Builtin.List.listFitsIndex;rw[Hy (by lia),Hy (by lia)];rfl
  have f2:seqIndex? i us.toArray.size=some k:=by
   rw[hik];have e0:¬((k:Int)<0):=by exact zxq
   simp[seqIndex?,e0,hk]
  have f3:us.toArray[k]? = some y:=by simpa using hy
  have meets:=list_pop_at p us.toArray n i t k y f1 f2 f3 hsz;refine call_meets PySem.F.slot_list_pop (zc _ ho rfl) PySem.F.entry_list_pop (PySem.F.args_list_pop_2 _ _) meets ⟨ho,?_⟩;exact zfm (d:=d) (A:=A) a hp ho ru hl hx ry q4
end
end
@[irreducible] noncomputable def zpK(xs:List AV)(Q:zm)(U:AHeap):Prop:=∃ns:List Int,xs=ns.map .int/\ns≠[]/\∀M,M∈ns->(∀a∈ns,a<=M)->Q (.int M) U
@[irreducible] noncomputable def zpN(xs:List AV)(Q:zm)(U:AHeap):Prop:=∃ns:List Int,xs=ns.map .int/\ns≠[]/\∀M,M∈ns->(∀a∈ns,M<=a)->Q (.int M) U
@[irreducible] noncomputable def zp6(xs:List AV)(Q:zm)(U:AHeap):Prop:=∃ns:List Int,xs=ns.map .int/\PySem.SumFits ns/\Q (.int ns.sum) U
def zpT:zbg:=λd _ as Q U=>A.wZ d (match as with
 | []=>False
 | x::r=>match r with
  | []=>zu (jm U x) λxs=>zpK xs Q U
  | _::_=>zay r λy=>q9 x y λi j=>Q (.int (max i j)) U)
def zn9:zbg:=λd _ as Q U=>A.wZ d (match as with
 | []=>False
 | x::r=>match r with
  | []=>zu (jm U x) λxs=>zpN xs Q U
  | _::_=>zay r λy=>q9 x y λi j=>Q (.int (min i j)) U)
def zpU:zbg:=λd _ as Q U=>A.wZ d (zay as λx=>zu (jm U x) λxs=>zp6 xs Q U)
def zpS:zbg:=λ_ _ as Q U=>zay as λx=>zu x.bool? λb=>Q (.int (if b then 1 else 0)) U
def zef:zbg:=λ_ _ as Q U=>zay as λx=>zu (jm U x) λxs=>Q (.tup xs) U
section
variable{X:Cx}{U:AHeap}{s:Shared}
def zbG{h:Heap}{ns:List Int}{vs:List Value}(r:RepVs U h (ns.map .int) vs):∃xs:List (Int×Tok),vs.toArray=intItems xs.toArray/\xs.map (·.1)=ns:=by
 induction ns generalizing vs with
 | nil=>cases r;exact⟨[],by simp[intItems],rfl⟩
 | cons n ns ih=>
  cases r with
  | cons a r=>
   obtain⟨t,rfl⟩:=RepV.wC a;refine zb (ih r) λxs e1 e2=>?_;refine zc ((n,t)::xs) ?_ (by simp[e2]);simp[intItems] at e1 ⊢;exact e1
def zaM{h':Heap}{tk t:Nat}{i:Int}{Q:zm}(a:At X U s)(hk:∀b o,s.heap.get? b=some o->h'.get? b=some o)(hsz:s.heap.objs.size<=h'.objs.size)(q:Q (.int i) (vis U)):liftQ X U s Q (.int i t) { s with heap:=h',toks:=tk }:=(zo _ U (.int _ _) (a.grown tk hk) (.grown U tk hk hsz) q)
def zho{x y:AV}{K:Int->Int->Prop}(h:q9 x y K):∃i j,x = .int i/\y = .int j/\K i j:=by
 refine zb (zg h) λi h1 q=>?_;refine zb (zg q) λj h2 q=>?_;exact zL i j (ji h1) (ji h2) q
def zik{h:Heap}{x y:AV}{vs:List Value}{i j:Int}(r:RepVs U h [x,y] vs)(h1:x = .int i)(h2:y = .int j):∃t u,vs=[.int i t,.int j u]:=by
 subst h1;subst h2;refine zn (zof r) λv w e4_2 rv rw_=>?_;subst e4_2;obtain⟨_,rfl⟩:=RepV.wC rv;obtain⟨_,rfl⟩:=RepV.wC rw_;exact jD _ _ rfl
def zmi:z8 X (.builtin "max") zpT:=λd A U s r as vs Q E L a rv q=>by
 obtain⟨hd,q⟩:=ky q;cases as with
 | nil=>exact q.elim
 | cons x as=>
  cases as with
  | cons y as=>
   have q:zay (y::as) λy=>q9 x y λi j=>Q (.int (max i j)) (vis U):=q;refine zb (jy q) λz e q1=>?_;refine zn (zho q1) λi j h1 h2 q2=>?_;rw[e] at rv;refine z7 (zik rv h1 h2) λt u e9_2=>?_;subst e9_2;refine zK (max_two_ints (L.handled hd) λh' tk hk hsz=>?_)
   by_cases h:j>i
   .rw[if_pos h];rw[fCN (y59 h)] at q2;exact zaM a hk hsz q2
   .rw[if_neg h];rw[fCX (y60 h)] at q2;exact zaM a hk hsz q2
  | nil=>
   refine zb (zg q) λys hx q1=>?_;refine zb (qn rv) λv e11_1 rv1=>?_;subst e11_1;refine zr (a.isList (zV hx) rv1) λp us e12_2 _ hl rs _=>?_;subst e12_2;unfold zpK at q1;refine zl q1 λns e13_1 hne q2=>?_;subst e13_1;refine zb (zbG rs) λxs e1 e2=>?_;rw[e1] at hl;have hx:0<xs.length:=by rw[<-e2] at hne;cases xs<;>simp_all
   refine zK (max_intList (L.handled hd) hl (by simpa using hx) λv h' tk hv hk hsz=>?_);obtain⟨t,rfl⟩:=intItems_at hv;obtain⟨h1,h2⟩:=argBest_gt (numAt xs.toArray) (xs.toArray.size-1);have e3:(xs.toArray.toList.map (·.1))=ns:=e2;refine zaM a hk hsz (q2 _ ?_ λb hb=>?_)
   .rw[numAt_eq,e3];exact PySem.getD_mem (by rw[<-e3,fC,gR];simp at h1 ⊢;exact zup hx h1)
   .rw[<-e3] at hb;refine zb (PySem.mem_getD hb) λj hj e17_2=>?_;subst e17_2;rw[fC,gR] at hj;rw[<-numAt_eq];exact h2 j (zqq hj)
def zmj:z8 X (.builtin "min") zn9:=λd A U s r as vs Q E L a rv q=>by
 obtain⟨hd,q⟩:=ky q;cases as with
 | nil=>exact q.elim
 | cons x as=>
  cases as with
  | cons y as=>
   have q:zay (y::as) λy=>q9 x y λi j=>Q (.int (min i j)) (vis U):=q;refine zb (jy q) λz e q1=>?_;refine zn (zho q1) λi j h1 h2 q2=>?_;rw[e] at rv;refine z7 (zik rv h1 h2) λt u e20_2=>?_;subst e20_2;refine zK (min_two_ints (L.handled hd) λh' tk hk hsz=>?_)
   by_cases h:j<i
   .rw[if_pos h];rw[fBV (y55 h)] at q2;exact zaM a hk hsz q2
   .rw[if_neg h];rw[fB4 (y62 h)] at q2;exact zaM a hk hsz q2
  | nil=>
   refine zb (zg q) λys hx q1=>?_;refine zb (qn rv) λv e22_1 rv1=>?_;subst e22_1;refine zr (a.isList (zV hx) rv1) λp us e23_2 _ hl rs _=>?_;subst e23_2;unfold zpN at q1;refine zl q1 λns e24_1 hne q2=>?_;subst e24_1;refine zb (zbG rs) λxs e1 e2=>?_;rw[e1] at hl;have hx:0<xs.length:=by rw[<-e2] at hne;cases xs<;>simp_all
   refine zK (min_intList (L.handled hd) hl (by simpa using hx) λv h' tk hv hk hsz=>?_);obtain⟨t,rfl⟩:=intItems_at hv;obtain⟨h1,h2⟩:=argBest_lt (numAt xs.toArray) (xs.toArray.size-1);have e3:(xs.toArray.toList.map (·.1))=ns:=e2;refine zaM a hk hsz (q2 _ ?_ λb hb=>?_)
   .rw[numAt_eq,e3];exact PySem.getD_mem (by rw[<-e3,fC,gR];simp at h1 ⊢;exact zup hx h1)
   .rw[<-e3] at hb;refine zb (PySem.mem_getD hb) λj hj e28_2=>?_;subst e28_2;rw[fC,gR] at hj;rw[<-numAt_eq];exact h2 j (zqq hj)
def zmq:z8 X (.builtin "sum") zpU:=λd A U s r as vs Q E L a rv q=>by
 obtain⟨hd,q⟩:=ky q;refine zb (jy q) λx e29_1 q=>?_;subst e29_1;refine zb (zg q) λys hx q1=>?_;refine zb (qn rv) λv e31_1 rv1=>?_;subst e31_1;refine zr (a.isList (zV hx) rv1) λp us e32_2 _ hl rs _=>?_;subst e32_2;unfold zp6 at q1;refine zl q1 λns e33_1 hf q2=>?_;subst e33_1;refine zb (zbG rs) λxs e1 e2=>?_;rw[e1] at hl;have e3:(xs.toArray.toList.map (·.1))=ns:=e2;have e4:ns.length=xs.toArray.size:=by rw[<-e3];simp
 refine zK (sum_intList (L.handled hd) hl (λj hj=>?_) λh' tk t' hk hsz=>?_)
 .rw[numAt_eq,preSum_eq,e3];exact hf j (by rw[e4];exact hj)
 .rw[preSum_eq,e3,fA2 (by rw[e4];exact fN _)];exact zaM a hk hsz q2
def zjG:z8 X (.type "int") zpS:=λd A U s r as vs Q E L a rv q=>by
 refine zb (jy q) λx e35_1 q=>?_;subst e35_1;refine zb (zg q) λb hb q=>?_;have hb:=zaG hb;subst hb;refine zn (RepVs.wF rv) λ_ _ e37_2 r1 r2=>?_;subst e37_2;obtain rfl:=RepVs.wG r2;obtain rfl:=RepV.wM r1;exact call_int_bool (kO a (.int _ _) q)
def zia:z8 X (.type "tuple") zef:=λd A U s r as vs Q E L a rv q=>by
 refine zb (jy q) λx e38_1 q=>?_;subst e38_1;refine zb (zg q) λys hx q1=>?_;refine zb (qn rv) λv e40_1 rv1=>?_;subst e40_1;refine zr (a.isList (zV hx) rv1) λp us e41_2 _ hl rs hm=>?_;subst e41_2;refine zK (call_tuple_list hl (λh' hk hsz=>?_) (by rw[gE,<-rs.length,Ha];exact zgH hm));have hk':∀b o,s.heap.get? b=some o->(h'.push { cls:=.type "tuple",data:=.seq us.toArray }).get? b=some o:=λb o e=>Heap.get?_push_of_some _ (hk b o e);exact zo (.tup ys) U (.tup hm (qe _ (Heap.get?_push_size _ rfl) rfl 0 rfl) (rs.mono (.ext hk'))) (a.grown s.toks hk') (.grown U s.toks hk' hsz) q1
end
section
open PySem.MeetsSeq
def zrL:zbg:=λ_ _ as Q U=>zay as λx=>zu x.int? λi=>Q (.int (i.natAbs:Int)) U
@[irreducible] noncomputable def zoZ(xs:List AV)(Q:zm)(U:AHeap):Prop:=∃bs:List Bool,xs=bs.map .bool/\Q (.bool (bs.all λb=>b)) U
def zpR:zbg:=λd _ as Q U=>A.wZ d (zay as λx=>zu (jm U x) λxs=>zoZ xs Q U)
def zja:zbk:=λxs as K=>match as with
 | []=>K .none []
 | _::_=>False
def RdA(x:AV)(d:PyData):Prop:=∀U,Rd U x d
@[irreducible] noncomputable def rmG(xs:List AV)(v:AV)(K:AV->List AV->Prop):Prop:=∃pre w post d e,xs=pre++w::post/\RdA v d/\RdA w e/\PyData.eqv e d=true/\e.depth<=100/\(∀x∈pre,∃dx,RdA x dx/\PyData.eqv dx d=false/\dx.depth<=100)/\K .none (pre++post)
def zge:zbk:=λxs as K=>zay as λv=>rmG xs v K
section
variable{X:Cx}
def zl3:z8 X (.builtin "abs") zrL:=λd A U s r as vs Q E L a rv q=>by
 obtain⟨x,rfl,q⟩:=jy q;obtain⟨i,hi,q⟩:=zg q;have hi:=ji hi;subst hi;obtain⟨v,rfl,rv1⟩:=qn rv;obtain⟨_,rfl⟩:=RepV.wC rv1;refine call_abs_int λu tk=>?_;have e:(if i<0 then -i else i)=(i.natAbs:Int):=by split<;>lia
 rw[e];exact kO a (.int _ _) q
def zhZ{U:AHeap}{h:Heap}{bs:List Bool}{vs:List Value}(r:RepVs U h (bs.map .bool) vs):vs=bs.map .bool:=by
 induction bs generalizing vs with
 | nil=>cases r;rfl
 | cons b bs ih=>
  cases r with
  | cons a r=>obtain rfl:=RepV.wM a;rw[ih r];rfl
def zl4:z8 X (.builtin "all") zpR:=λd A U s r as vs Q E L a rv q=>by
 obtain⟨hd,q⟩:=ky q;obtain⟨x,rfl,q⟩:=jy q;obtain⟨ys,hx,q1⟩:=zg q;obtain⟨v,rfl,rv1⟩:=qn rv;obtain⟨p,us,rfl,_,hl,rs,_⟩:=a.isList (zV hx) rv1;unfold zoZ at q1;obtain⟨bs,rfl,q2⟩:=q1;have e:=zhZ rs;subst e;refine zK (call_all_walk (wpAny_pyIter_list hl (zdP s.heap.objs.size _ _ _ _ _ (λi=>bs.getD i false) rfl (Walks.list (show A.in1.handled=none from L.handled hd) s.heap.objs.size p ?_ (bs.map Value.bool).toArray) ⟨(zv _ (Heap.get?_push_size _ rfl) rfl rfl),?_⟩ ?_ (λh' tk hk hsz=>?_))))
 .obtain⟨o,ho,_⟩:=id hl;exact neA (λe=>absurd (Heap.lt_size ho) (by rw[e];exact fAX _))
 .exact hl.at λo e=>Heap.get?_push_of_some _ e
 .intro i v s' R E' hP hR;have hP:(bs.map Value.bool).toArray[i]? = some v:=hP;rw[List.getElem?_toArray,pT] at hP;obtain⟨b,hb,rfl⟩:=fAA.mp hP;have:bs.getD i false=b:=by rw[fS,hb];rfl
  have hR:R (bs.getD i false) s':=hR;rw[this] at hR;exact wpAny_truthy_bool hR
 .have hk':∀b o,s.heap.get? b=some o->h'.get? b=some o:=λb o e=>hk b o (by
   intro hm;rw[fJ.mp hm] at e;exact absurd (Heap.lt_size e) (fAX _)) (Heap.get?_push_of_some _ e)
  have en:∀bs:List Bool,((List.range bs.length).all λi=>bs.getD i false)=bs.all λb=>b:=λbs=>by
   induction bs with
   | nil=>rfl
   | cons b bs ih=>
    rw[fP,List.range_succ_eq_map,List.all_cons,List.all_map,List.all_cons];exact congrArg _ ih
  have en:((List.range (bs.map Value.bool).toArray.size).all λi=>bs.getD i false)=bs.all λb=>b:=by
   rw[gE,fC];exact en bs
  rw[en];exact zo _ U (.bool _) (a.grown tk hk') (.grown U tk hk' hsz) q2
def zh5:qM X "list.clear" zja:=λd A U s p xs as vs Q E L a r hp q=>by
 cases as with
 | cons _ _=>exact q.elim
 | nil=>
  obtain rfl:=RepVs.wG r;obtain⟨us,n,ho,ru,hl⟩:=a.rep _ _ hp;have hsz:us.toArray.size<=sizeLine:=by rw[gE,<-ru.length,Ha];exact zgH hl
  refine call_meets PySem.F.slot_list_clear (zc _ ho rfl) PySem.F.entry_list_clear (PySem.F.args_list_clear_1 _) (PySem.AutoSeq1.list_clear_list_0 p us.toArray n hsz) ⟨ho,?_⟩;exact zbP (ws:=[]) a hp ho _ rfl .nil (fT _) .none q
def zeR(l:Addr)(items:Array Value)(n:Nat)(x:Value)(j:Nat)(hj:j<items.size)(k:Nat)(hs1:items.size<=sizeLine) :
  ∀i:Nat,j-i=k->i<=j->Meets (Builtin.«list.remove.loop» ⟨[.ref l,x,rawInt i],[]⟩)
   (λA R s=>s.heap.get? l=some { cls:=.type "list",dict:=none,data:=.seq items n,slots:=#[] }/\(∀m (hm:m<items.size),m<j->EqAt A.in1 s items[m] x false)/\EqAt A.in1 s items[j] x true/\R (.ok (.ret .none)) { s with heap:=s.heap.update l (Obj.mapSeq λxs=>xs.eraseIdxIfInBounds j) }):=by
 induction k with
 | zero=>
  intro i hk hij prog w A R s h;obtain⟨hp,g,d,tk,os⟩:=s;obtain⟨hl,hno,hit,h⟩:=h;have e:i=j:=zDn hk hij;subst e
  wp_walk using wpAny_loadPart' hl
  have hi:items[((i:Nat):Int).toNat]? = some items[i]:=by simp[hj]
  rw[hi];refine G6 (hit prog w _ _ ?_);have hz':(items.eraseIdxIfInBounds i).size<=sizeLine+1:=fF (size_erased items _) (fAB hs1)
  wp_walk using (wpAny_updateSeq hl rfl (hz:=hs1) (_hz':=hz')),wpAny_loadPart' hl
  simpa using h
 | succ k ih=>
  intro i hk hij prog w A R s h;obtain⟨hp,g,d,tk,os⟩:=s;obtain⟨hl,hno,hit,h⟩:=h;have hlt:i<items.size:=zDt hj hij
  wp_walk using wpAny_loadPart' hl
  have hi:items[((i:Nat):Int).toNat]? = some items[i]:=by simp[hlt]
  have hc:((i:Int)+1)=((i+1:Nat):Int):=by push_cast;rfl
  rw[hi];refine G6 (hno i hlt (zuM hk) prog w _ _ ?_)
  wp_walk
  rw[hc];exact⟨plainId_quiet plain_remove_loop _,codeAny_builtin entry_remove_loop (by
   rw[Around.under_plainId plain_remove_loop _];exact ih (i+1) (zuL hk) (zDr hk) prog w A R _ (zt hl hno hit h))⟩
def zeM(l:Addr)(items:Array Value)(n:Nat)(x:Value)(j:Nat)(hj:j<items.size)(hs1:items.size<=sizeLine) :
  Meets (Builtin.«list.remove» ⟨[.ref l,x],[]⟩)
   (λA R s=>s.heap.get? l=some { cls:=.type "list",dict:=none,data:=.seq items n,slots:=#[] }/\(∀m (hm:m<items.size),m<j->EqAt A.in1 s items[m] x false)/\EqAt A.in1 s items[j] x true/\R (.ok (.ret .none)) { s with heap:=s.heap.update l (Obj.mapSeq λxs=>xs.eraseIdxIfInBounds j) }):=by
 intro prog w A R s h;obtain⟨hp,g,d,tk,os⟩:=s;obtain⟨hl,h⟩:=h
 wp_walk using wpAny_loadPart' hl
 exact⟨plainId_quiet plain_remove_loop _,codeAny_builtin entry_remove_loop (by
  rw[Around.under_plainId plain_remove_loop _];exact zeR l items n x j hj _ hs1 0 rfl (fT _) prog w A R _ ⟨hl,h⟩)⟩
def zgz:qM X "list.remove" zge:=λd A U s p xs as vs Q E L a r hp q=>by
 obtain⟨v0,rfl,q'⟩:=jy q;clear q;have q:=q';clear q';unfold rmG at q;obtain⟨pre,w,post,dv,ew,rfl,h1,h2,h3,h4,h5,q⟩:=q;obtain⟨v,rfl,rv⟩:=qn r;obtain⟨us,c,ho,ru,hl⟩:=a.rep _ _ hp;have hsz:us.toArray.size<=sizeLine:=by rw[gE,<-ru.length,Ha];exact zgH hl
 have hll:=ru.length;rw[fE,fP] at hll;have hj:pre.length<us.length:=zyW hll;have room:=L.room;obtain⟨⟨as',r1⟩,c1⟩:=(h1 (vis U)).reads a rv;have at_:∀{m:Nat} {y:AV} {dy:PyData} (hm:m<us.toArray.size),(pre++w::post)[m]? = some y->RdA y dy->dy.depth<=100->EqAt A.in1 s us.toArray[m] v (PyData.eqv dy dv):=λ{m y dy} hm hy rd hd=>by
  obtain⟨u,hu,ry⟩:=ru.get hy;have e:us.toArray[m]=u:=by simpa using (fY.mp hu).2
  rw[e];obtain⟨⟨bs,r2⟩,c2⟩:=(rd (vis U)).reads a ry;refine eqAt_reads _ _ _ _ _ _ _ _ r2 r1 c2 c1 ?_;have hm:=fCY dy.depth dv.depth;have:A.in1.units<=A.units+1:=by first|exact fN _|exact fA7 _|(unfold Around.in1;simp)
  lia
 refine call_meets PySem.F.slot_list_remove (zc _ ho rfl) PySem.F.entry_list_remove (PySem.F.args_list_remove_2 _ _) (zeM p us.toArray c v pre.length (by simpa using hj) hsz) (zt ho (λm hm hmj=>?_) ?_ ?_)
 .have hy:(pre++w::post)[m]? = some pre[m]:=by rw[gW hmj];exact fW hmj
  obtain⟨dx,k1,k2,k3⟩:=h5 pre[m] (fBX hmj);rw[<-k2];exact at_ hm hy k1 k3
 .rw[<-h3];refine at_ (y:=w) (by simpa using hj) ?_ h2 h4;rw[pF (fN _),fBO];rfl
 .refine zbP (ws:=us.eraseIdx pre.length) (ys:=pre++post) a hp ho _ (by simp[Array.eraseIdxIfInBounds,hj]) ?_ (by rw[fE,fP] at hl;rw[fE];exact zuh hl) .none q;have:=ru.eraseIdx pre.length;have e:(pre++w::post).eraseIdx pre.length=pre++post:=by
   rw[fBM (fN _),fBO];rfl
  rw[e] at this;exact this
end
end
structure Gd(X:Cx)(K:Frag):Prop where
 ok:X.Ok
 inn:K.In X.h₀
 bi:∀x:Str,x≠"__name__"->X.mb x=bootBuiltins x
structure EK(env:Env)(names:List (Str×NameKind)):Prop where
 eo:EnvOk env
 nm:env.scope.names=names
noncomputable def zdQ(names:List (Str×NameKind))(x:Str):Bool:=names.lookup x==some .local||names.lookup x==some .cell
noncomputable def qg(names:List (Str×NameKind))(x:Str):Bool:=names.lookup x==some .globalImplicit&&!(x==("__debug__" : Str))
section
variable{X:Cx}{K:Frag}{env:Env}{nm:List (Str×Nat)}{names:List (Str×NameKind)}
def EK.var(E:EK env names){x:Str}(h:zdQ names x=true):env.kindOf x=some .local\/env.kindOf x=some .cell:=by
 unfold Env.kindOf;rw[E.nm];unfold zdQ at h
 simpa using h
def EK.glob(E:EK env names){x:Str}(h:qg names x=true):env.kindOf x=some .globalImplicit/\(x==("__debug__" : Str))=false:=by
 unfold Env.kindOf;rw[E.nm];unfold qg at h;simp only[gT,beq_iff_eq,fBP] at h;exact h
def zlp(K:Frag)(x:Str)(v:Value):Prop:=nsIn K Hk x=some none/\bootBuiltins x=some v/\x≠"__name__"
def Gd.push(G:Gd X K)(L:Env):Gd (X.push L) K:=⟨⟨G.ok.g,G.ok.b,G.ok.nolimit⟩,G.inn,G.bi⟩
def Gd.none(G:Gd X K){x:Str}{v:Value}(h:zlp K x v):X.mg x=none:=mg_none_of G.inn G.ok.g h.1
def Gd.some(G:Gd X K){x:Str}{v:Value}(h:zlp K x v):X.mb x=some v:=(G.bi x h.2.2).trans h.2.1
noncomputable def zkC(names ns:List (Str×NameKind)):List (Str×NameKind):=ns.map λ(n,k)=>if (k==NameKind.free&&true&&names.lookup n==some NameKind.cell) then (n,NameKind.cell) else (n,k)
noncomputable def ja(nm:List (Str×Nat)):Nat->List (Str×NameKind)->List (Str×Nat)
 | _,[]=>[]
 | n,(x,.local)::r=>(x,n)::ja nm (n+1) r
 | n,(x,.free)::r=>(match nm.lookup x with|some i=>(x,i)::ja nm n r|none=>ja nm n r)
 | n,_::r=>ja nm n r
noncomputable def zcF(ns:List (Str×NameKind)):Nat:=(ns.filter λp=>p.2==.local).length
noncomputable def zcJ:List Str->Bool
 | []=>true
 | x::r=>!r.contains x&&zcJ r
def zcd{l:List Str}:zcJ l=true->l.Nodup:=by
 induction l with
 | nil=>exact λ_=>.nil
 | cons x r ih=>
  intro h;have h:=(gT _ _).mp h;exact fX.mpr ⟨λq=>absurd h.1 (by rw[List.contains_iff_mem.mpr q];exact λe=>nomatch e),ih h.2⟩
noncomputable def zpm:List (Str×Nat)->Bool
 | []=>true
 | p::r=>r.all (λq=>!(q.2==p.2))&&zpm r
def ziY{l:List (Str×Nat)}:zpm l=true->∀x y i,(x,i)∈l->(y,i)∈l->x=y:=by
 induction l with
 | nil=>exact λ_ _ _ _ h=>nomatch h
 | cons p r ih=>
  intro h x y i h1 h2;have h:=(gT _ _).mp h;have h3:=pX.mp h.1
  rcases fG.mp h1 with e1|h1<;>rcases fG.mp h2 with e2|h2
  .exact(Prod.mk.inj (e1.trans e2.symm)).1
  .exact absurd (h3 _ h2) (by rw[<-e1];simp)
  .exact absurd (h3 _ h1) (by rw[<-e2];simp)
  .exact ih h.2 x y i h1 h2
noncomputable def zj8(names:List (Str×NameKind))(nm:List (Str×Nat))(N:Nat)(ns:List (Str×NameKind)):Bool:=
 zcJ (ns.map (·.1))&&ns.all (λp=>p.2==.local||p.2==.globalImplicit||(p.2==.free&&names.lookup p.1==some .cell&&(nm.lookup p.1).isSome))&&
 (ja nm N ns).all (λp=>(ns.lookup p.1==some .local&&N<=p.2&&p.2<N+zcF ns)||(ns.lookup p.1==some .free&&nm.lookup p.1==some p.2))&&zpm (ja nm N ns)&&kg (ja nm N ns++nm)==N+zcF ns&&
 ns.all (λp=>!(p.2==.free)||(ja nm N ns++nm).lookup p.1==nm.lookup p.1)&&kg (ja nm N ns)==N+zcF ns
def zeY{N:Nat}{ns:List (Str×NameKind)}(h:zj8 names nm N ns=true):CompOk names nm N ns (ja nm N ns) (zcF ns):=by
 unfold zj8 at h;simp only[gT,pX,beq_iff_eq,fCZ,decide_eq_true_eq,fBP,beq_eq_false_iff_ne,ne_eq] at h;obtain⟨⟨⟨⟨⟨⟨h1,h2⟩,h3⟩,h4⟩,h5⟩,h6⟩,h7⟩:=h;have nd:=zcd h1;have fr:∀(n:Nat) (l:List (Str×NameKind)) x i,(x,NameKind.free)∈l->nm.lookup x=some i->(x,i)∈ja nm n l:=by
  intro n l
  induction l generalizing n with
  | nil=>intro x i hx;cases hx
  | cons p r ih=>
   intro x i hx hi;obtain⟨y,k⟩:=p
   rcases fG.mp hx with e|hx'
   .cases e;unfold ja;rw[hi];exact fA
   .clear hx;cases k<;>unfold ja
    all_goals first
     | exact ih _ x i hx' hi
     | exact fB _ (ih _ x i hx' hi)
     | (split<;>first|exact fB _ (ih _ x i hx' hi)|exact ih _ x i hx' hi)
 have nd':∀(l:List (Str×NameKind)) (n:Nat),(l.map (·.1)).Nodup->((ja nm n l).map (·.1)).Nodup/\∀x,x∈(ja nm n l).map (·.1)->x∈l.map (·.1):=by
  intro l
  induction l with
  | nil=>intro n _;exact⟨.nil,λx hx=>by simp[ja] at hx⟩
  | cons p r ih=>
   intro n hn;obtain⟨y,k⟩:=p;have hn':=fX.mp hn;have stay:∀m,((ja nm m r).map (·.1)).Nodup/\∀x,x∈(ja nm m r).map (·.1)->x∈((y,k)::r).map (·.1):=λm=>⟨(ih m hn'.2).1,λx hx=>fB _ ((ih m hn'.2).2 x hx)⟩
   have more:∀m i,(((y,i)::ja nm m r).map (·.1)).Nodup/\∀x,x∈((y,i)::ja nm m r).map (·.1)->x∈((y,k)::r).map (·.1):=λm i=>
    ⟨fX.mpr ⟨λq=>hn'.1 ((ih m hn'.2).2 y q),(ih m hn'.2).1⟩,λx hx=>by
     rcases fG.mp hx with e|hx
     .rw[e];exact fA
     .exact fB _ ((ih m hn'.2).2 x hx)⟩
   cases k<;>unfold ja
   all_goals first
    | exact stay _
    | exact more _ _
    | (split<;>first|exact more _ _|exact stay _)
 refine⟨nd,λx kd hx=>?_,λx i hx=>?_,λx y i hx hy=>ziY h4 x y i (mem_of_lookup hx) (mem_of_lookup hy),h7⟩
 .rcases h2 (x,kd) hx with(q|q)|⟨⟨q1,q2⟩,q3⟩
  .exact .inl q
  .exact .inr (.inl q)
  .obtain⟨i,hi⟩:=pV.mp q3;simp only at q1;subst q1;exact .inr (.inr (zpl rfl q2 i hi (jW (nd' _ _ nd).1 (fr _ _ _ _ hx hi))))
 .rcases h3 (x,i) (mem_of_lookup hx) with⟨⟨q1,q2⟩,q3⟩|⟨q1,q2⟩
  .exact .inl (zq q1 q2 q3)
  .exact .inr ⟨q1,q2⟩
def EK.comp(E:EK env names){N:Nat}{scope:Scope}(hc:zj8 names nm N scope.names=true)(hk:scope.kind = .function)(C:Addr):EK (compEnvC scope (clo env.cells scope.names []) C env) (zkC names scope.names):=by
 have CK:CompOk env.scope.names nm N scope.names (ja nm N scope.names) (zcF scope.names):=by rw[E.nm];exact zeY hc
 refine⟨ziQ E.eo CK hk C,?_⟩;show List.map _ scope.names=zkC names scope.names;unfold zkC;have:∀n,env.kindOf n=names.lookup n:=λn=>by unfold Env.kindOf;rw[E.nm]
 simp only[this,E.eo.kind]
 rfl
def EK.stoF(E:EK env names){x:Str}(h:zdQ names x=true):Sto (FB env) env x:=zrV (E.var h)
def EK.loc(E:EK env names){x:Str}(h:(names.lookup x==some .local)=true):env.kindOf x=some .local:=by
 unfold Env.kindOf;rw[E.nm];exact beq_iff_eq.mp h
noncomputable def zji(names:List (Str×NameKind))(nm:List (Str×Nat))(ps:List Str):Bool:=
 zcJ (names.map (·.1))&&nm.all (λp=>names.lookup p.1==some .local||names.lookup p.1==some .cell)&&zpm nm&&zcJ (nm.map (·.1))&&(nm.take ps.length==ps.zipIdx)&&zcJ ps
def zca{nm:List (Str×Nat)}{x:Str}{i:Nat}(h:(x,i)∈nm):i<kg nm:=by
 unfold kg;have gen:∀(l:List (Str×Nat)) (n:Nat),n<=l.foldl (λn p=>max n (p.2+1)) n/\∀x i,(x,i)∈l->i<l.foldl (λn p=>max n (p.2+1)) n:=by
  intro l
  induction l with
  | nil=>intro n;exact⟨fN _,λ_ _ h=>nomatch h⟩
  | cons p r ih=>
   intro n;rw[gZ];have:=ih (max n (p.2+1));refine⟨fF (Nat.le_max_left _ _) this.1,λx i hx=>?_⟩
   rcases fG.mp hx with e|hx
   .rw[<-e] at this ⊢;exact pC (fCR i) (fF (Nat.le_max_right _ _) this.1)
   .exact this.2 x i hx
 exact(gen nm 0).2 x i h
def zjj{ps:List Str}(h:zji names nm ps=true):NamesOk names nm ps (kg nm):=by
 unfold zji at h;simp only[gT,pX,beq_iff_eq,fCZ] at h;obtain⟨⟨⟨⟨⟨h1,h2⟩,h3⟩,h4⟩,h5⟩,h6⟩:=h;have nd:=zcd h4;have hz:∀(i:Nat) p,ps[i]? = some p->(p,i)∈nm:=λi p hp=>by
  have:(p,i)∈ps.zipIdx:=List.mk_mem_zipIdx_iff_getElem?.mpr hp;rw[<-h5] at this;exact fA8 this
 refine⟨zcd h1,λx i hx=>⟨zca (mem_of_lookup hx),h2 _ (mem_of_lookup hx)⟩,λx y i hx hy=>ziY h3 x y i (mem_of_lookup hx) (mem_of_lookup hy),λx i hx p hp=>ziY h3 p x i (hz i p hp) (mem_of_lookup hx),
  λi p hp=>jW nd (hz i p hp),?_,rfl,zcd h6⟩
 rcases Nat.eq_zero_or_pos ps.length with e|e
 .rw[e];exact fT _
 .have:(ps[ps.length-1],ps.length-1)∈nm:=hz _ _ (fW (by exact zwT e));have:=zca this;exact zxP this
def zby{J:Type}{l:List J}{n:Nat}(h:l.length=n+1):∃a r,l=a::r/\r.length=n:=by
 cases l with
 | nil=>simp at h
 | cons a r=>exact zaP a r rfl (by simpa using h)
noncomputable def zfX(K:Frag)(f:Addr):Option FuncData:=(K.lookup f).bind λo=>match o.data with
 | .func fd=>some fd
 | _=>none
def zkd{f:Addr}{fd:FuncData}(h:zfX K f=some fd):∃o,K.lookup f=some o/\o.data = .func fd:=by
 refine zb (pZ.mp h) λo h1 h2=>?_;refine zc o h1 ?_;split at h2
 .rename_i e;obtain rfl:=Hw h2;exact e
 .exact absurd (Eq.symm h2) (fH _)
end
section
variable{X:Cx}{K:Frag}{U:AHeap}{s:Shared}{A:Around}{E:Value->Shared->Prop}{Q:zm}
def zhp(name:Str):(λe:DictEntry=>e.key.isStr name)=λe=>(strKind X.prog X.w).is name e.key:=by
 funext e
 cases e.key<;>rfl
def zgu{h:Heap}{d:Addr}{kvs:List (Str×Value)}(hD:h.DictOf (strKind X.prog X.w) d kvs):∃od es ep,h.get? d=some od/\od={ cls:=.type "dict",data:=.dict es ep }/\StrKeys es/\KeysOf (strKind X.prog X.w) es/\Pairs (strKind X.prog X.w) es.toList kvs/\∀name,lookIn name od=some (valueAt kvs name):=by
 refine jd hD λh0_0 es ep ho h0_4 hd hk hp nd=>?_;obtain⟨c,dd,da,sl⟩:=h0_0;obtain⟨h1,h2,h3⟩:=h0_4;simp only at h1 h2 h3 hd;subst h1 h2 h3 hd;have hs:StrKeys es:=λe he=>by
  refine zb (hk e he) λk h1 _=>?_;obtain⟨t,h2⟩:=Value.isStrOf_shape h1;exact jD k t h2
 refine zaR _ es ep ho rfl hs hk hp (λname=>?_);have hany:es.toList.any (·.refKey)=false:=by
  rw[List.any_eq_false];intro e he;refine z7 (hs e (Array.mem_toList_iff.mp he)) λn t h=>?_;simp[DictEntry.refKey,h]
 have hf:=hp.find name;unfold lookIn;dsimp only;rw[zhp (X:=X)];cases h:es.toList.find? (λe=>(strKind X.prog X.w).is name e.key) with
 | some e=>rw[h] at hf;rw[<-hf];rfl
 | none=>rw[h] at hf;rw[<-hf,hany];rfl
def At.inst{x C dx:Addr}{fs:List (Nat×AV)}(a:At X U s)(hx:U x=some (.inst C dx))(hd:U dx=some (.idict fs)) :
  ∃od:Obj,InstAt s.heap x { cls:=.ref C,dict:=some dx,data:=.plain } C (some od)/\∀n,n<kW->∃r,lookIn (zx n) od=some r/\((zaz fs n=none/\r=none)\/∃av v,zaz fs n=some av/\r=some v/\RepV U s.heap av v):=by
 have h1:=a.rep _ _ hx;refine zE (a.rep _ _ hd) λkvs hD sx hl _=>?_;refine jd (zgu hD) λod es ep ho _ _ _ _ hlk=>?_;refine zc od ⟨h1,rfl,rfl,ho⟩ (λn hn=>(zc _ (hlk _) ?_))
 rcases sx.get hn with⟨h2,h3⟩|⟨v,y,h2,h3,r⟩
 .exact .inl ⟨h3,h2⟩
 .exact .inr (zL y v h3 h2 r)
def At.instNo{x C dx:Addr}{fs:List (Nat×AV)}{name:Str}(a:At X U s)(hx:U x=some (.inst C dx))(hd:U dx=some (.idict fs))(hn:name∉strT) :
  ∃od:Obj,InstAt s.heap x { cls:=.ref C,dict:=some dx,data:=.plain } C (some od)/\lookIn name od=some none:=by
 have h1:=a.rep _ _ hx;refine zE (a.rep _ _ hd) λkvs hD sx hl _=>?_;refine jd (zgu hD) λod es ep ho _ _ _ _ hlk=>?_;refine zc od ⟨h1,rfl,rfl,ho⟩ ?_;rw[hlk];have:∀{kvs fs},SX U s.heap kvs fs->valueAt kvs name=none:=by
  intro kvs fs sx
  induction sx with
  | nil=>rfl
  | @cons k x v kvs fs hk _ _ ih=>
   unfold valueAt at ih ⊢;have:¬zx k=name:=λe=>hn (e▸pY (zbe hk));rw[pP,Hx this];exact ih
 rw[this sx]
def zjt{h:Heap}{av:AV}{v:Value}(r:RepV U h av v):handedIn v=true:=by cases r<;>rfl
def zqk{x C dx:Addr}{fs:List (Nat×AV)}{n:Nat}{av:AV}{expr:Bool}(KX:K.In X.h₀)(a:At X U s)(hx:U x=some (.inst C dx))(hd:U dx=some (.idict fs))(hn:n<kW)(hf:zaz fs n=some av)
  (hg:plainGet K C (zx n)=true)(hh:hasDictIn K C=true)(hc:findIn K (.ref C) (zx n)=some none)(q:Q av (vis U)):wpAny X.M A (getAttr (.ref x) (zx n) expr) (liftQ X U s Q) E s:=by
 refine zb (a.inst hx hd) λod I hl=>?_;refine zb (hl n hn) λr h1 h2=>?_
 rcases h2 with⟨h2,_⟩|⟨av',v,h2,rfl,rv⟩
 .rw[hf] at h2;exact absurd h2 (fH _)
 .rw[hf] at h2;obtain rfl:=Hw h2;exact get_value (KX.keeps a.keep) I (plainGet_of hg).1 (findObj_own hh hc rfl h1) (zjt rv) (zo av U rv ⟨a.keep,a.rep,a.own,a.gens,a.os,a.ff⟩ (Step.toks ..) q)
def zlU{h:Heap}{dx:Addr}{es:Array DictEntry}{n:Nat}{kvs:List (Str×Value)}(ho:h.get? dx=some { cls:=.type "dict",data:=.dict es n })(hk:KeysOf (strKind X.prog X.w) es)(hp:Pairs (strKind X.prog X.w) es.toList kvs)(nd:(kvs.map (·.1)).Nodup)(name:Str)(tk:Tok)(v:Value) :
  ∃es' n',(h.update dx (Obj.putName name (hashStr X.w name) (.str name tk) v)).get? dx=some { cls:=.type "dict",data:=.dict es' n' }/\(h.update dx (Obj.putName name (hashStr X.w name) (.str name tk) v)).DictOf (strKind X.prog X.w) dx (stored kvs name v):=by
 have hkey:(strKind X.prog X.w).is name (.str name tk)=true:=strKind_is _ _ _ _;have hidx:es.findIdx? (·.key.isStr name)=es.toList.findIdx? λe=>(strKind X.prog X.w).is name e.key:=by
  rw[zhp (X:=X)];obtain⟨l⟩:=es;exact List.findIdx?_toArray _ _
 have hany:kvs.any (λkv=>decide (kv.1=name))=(es.findIdx? (·.key.isStr name)).isSome:=by
  rw[hidx,hp.findIdx name,List.findIdx?_isSome]
 cases hi:es.findIdx? (·.key.isStr name) with
 | some i=>
  rw[hi] at hany;have hg:=Heap.get?_update_self (Obj.putName name (hashStr X.w name) (.str name tk) v) ho (by simp only[Obj.putName_eq,Obj.putNameByArray,hi];rfl);have he:Obj.putName name (hashStr X.w name) (.str name tk) v { cls:=.type "dict",data:=.dict es n }={ cls:=.type "dict",data:=.dict (es.modify i λe=>{ e with val:=v }) n }:=by simp only[Obj.putName_eq,Obj.putNameByArray,hi]
  rw[he] at hg;have hs:stored kvs name v=kvs.map λkv=>if kv.1=name then (kv.1,v) else kv:=by unfold stored;rw[hany];rfl
  refine zaQ _ _ hg _ _ _ hg (zq rfl rfl rfl) rfl (λe he=>?_) ?_ (by rw[hs,keys_map_store];exact nd)
  .obtain⟨j,hj,rfl⟩:=Array.mem_iff_getElem.mp he;rw[Array.getElem_modify];rw[Array.size_modify] at hj;have:=hk es[j] (Array.getElem_mem hj);split<;>exact this
  .rw[hs,Array.toList_modify];exact hp.modify nd (by rw[<-hidx];exact hi) v
 | none=>
  rw[hi] at hany;have hg:=Heap.get?_update_self (Obj.putName name (hashStr X.w name) (.str name tk) v) ho (by simp only[Obj.putName_eq,Obj.putNameByArray,hi];rfl);have he:Obj.putName name (hashStr X.w name) (.str name tk) v { cls:=.type "dict",data:=.dict es n }={ cls:=.type "dict",data:=.dict (es.push ⟨hashStr X.w name,.str name tk,v⟩) (n+1) }:=by simp only[Obj.putName_eq,Obj.putNameByArray,hi]
  rw[he] at hg;have hs:stored kvs name v=kvs++[(name,v)]:=by unfold stored;rw[hany];rfl
  have hno:name∉kvs.map (·.1):=not_mem_of_findIdx_none (by rw[<-hp.findIdx name,<-hidx];exact hi);refine zaQ _ _ hg _ _ _ hg (zq rfl rfl rfl) rfl (λe he=>?_) ?_ ?_
  .rcases Array.mem_push.mp he with he|rfl
   .exact hk e he
   .exact zc name hkey rfl
  .rw[hs,gF];exact hp.append hkey _ v
  .rw[hs,fU,pM];refine zq nd (fX.mpr ⟨gM,.nil⟩) (λa ha b hb e=>?_);simp at hb;subst e;subst hb;exact hno ha
def zjV{x C dx:Addr}{fs:List (Nat×AV)}{n:Nat}{av:AV}{v:Value}{R:AHeap->Prop}(KX:K.In X.h₀)(a:At X U s)(hx:U x=some (.inst C dx))(hd:U dx=some (.idict fs))(hn:n<kW)(rv:RepV U s.heap av v)(hz:fs.length<100)
  (hs:findIn K (.ref C) "__setattr__" = some (some (.builtin "object.__setattr__")))(hp:plainOver K C=true)(ht:takerIn K C (zx n)=some none)(hh:hasDictIn K C=true)(q:R (U.set dx (.idict (qd fs n av)))) :
  wpAny X.M A (setAttr (.ref x) (zx n) v) (λ_ s'=>∃U',At X U' s'/\Step E0 U s U' s'/\R U') E s:=by
 have KS:=KX.keeps a.keep;have I1:=a.rep _ _ hx;refine zE (a.rep _ _ hd) λkvs hD sx hl hsm=>?_;refine jd (zgu hD) λod es ep D e13_4 hsk hko hpr hlk=>?_;subst e13_4;have I:InstAt s.heap x { cls:=.ref C,dict:=some dx,data:=.plain } C (some { cls:=.type "dict",data:=.dict es ep }):=⟨I1,rfl,rfl,D⟩
 refine set_plain KS I hs ?_;refine osa_open (s:={ s with toks:=s.toks+1 }) KS I hp ht λb=>?_;refine zb (any_some hh) λcd hc hd'=>?_;refine G6 (G7 (G6 (G6 (wpAny_loadPart (s:={ s with toks:=s.toks+1 }) I1 (G6 (looks_clsIn KS hc _ _ _ _ (λ_ _ e=>e) ?_))))));rw[hd'];refine G7 (a:=some dx) (G6 (G7 (G6 ?_)));refine G6 (G6 (wpAny_askSetting (G7 (G6 (wpAny_mkText (G6 (wpAny_loadPart D ?_)))))));have c:(!es.any (·.key.isStr (zx n))&&es.any (·.refKey))=false:=by
  have:es.any (·.refKey)=false:=by
   rw[Array.any_eq_false'];intro e he;refine z7 (hsk e he) λn t h=>?_;simp[DictEntry.refKey,h]
  rw[this,Bool.and_false]
 dsimp only;rw[aRefKeyMayBeTheName_at,c];refine z0 (zlU (X:=X) (h:=s.heap) D hko hpr (zdA hD) (zx n) (s.toks+1) v) λes1 n1 D1 hD1=>?_;refine wpAny_updatePart D ?_;have hl1:es1.size<=200:=by
  refine jd hD1 λ_ es2 _ h1 _ h2 _ h3 _=>?_;have e1:=h1.symm.trans D1;obtain rfl:=Hw e1;cases h2;rw[<-gR,h3.length];have:=stored_length_le kvs (zx n) v;have:=sx.length;exact zzu hz (by assumption) this
 refine G6 (wpAny_lookBehind D1 (by exact pastItsLine_dict (by rw[Ha];exact zw1 hl1)) ?_);refine G7 ?_;have sb:=Heap.SameBut.update s.heap dx (Obj.putName (zx n) (hashStr X.w (zx n)) (.str (zx n) (s.toks+1)) v);exact zv (U.set dx (.idict (qd fs n av))) (a.store _ hd rfl sb λkv=>zgt a hd hn rv hD sx hz kv hD1) (Step.store _ hd rfl sb) q
end
@[irreducible] noncomputable def zbD(U:AHeap)(C:Addr)(v:AV)(R:Addr->Addr->List (Nat×AV)->Prop):Prop:=∃p dx fs,v = .ref p/\U p=some (.inst C dx)/\U dx=some (.idict fs)/\R p dx fs
def ze{U:AHeap}{C p dx:Addr}{fs:List (Nat×AV)}{R:Addr->Addr->List (Nat×AV)->Prop}(h1:U p=some (.inst C dx))(h2:U dx=some (.idict fs))(q:R p dx fs):zbD U C (.ref p) R:=by
 unfold zbD;exact jI p dx fs rfl h1 h2 q
section
variable{X:Cx}{K:Frag}{U:AHeap}{d:Dp}
def zmC(X:Cx)(C fI:Addr)(d:Dp)(args:List AV)(Q:zm)(Z:XP)(U:AHeap):Prop:=
 ∀dx x,U dx=none->U x=none->dx≠x->CallOk X fI ⟨d.n+1,d.hd⟩ (.ref x::args) (λv U'=>v = .none/\Q (.ref x) U') Z ((U.set dx (.idict [])).set x (.inst C dx))
def zgl{s:Shared}(XO:X.Ok)(a:At X U s):(s.heap.objs.size==sysModules)=false:=by
 have h3:(3:Nat)<s.heap.objs.size:=by
  refine jA XO.g λo es ep ho _=>?_;exact Heap.lt_size (a.keep _ _ ho)
 have h4:¬(s.heap.objs.size:Nat)=1:=λe=>by rw[e] at h3;exact absurd h3 (by decide)
 exact beq_false_of_ne h4
def zn1{C fI:Addr}{args:List AV}{Q:zm}{Z:XP}{A:Around}{s:Shared}{vs:List Value}(XO:X.Ok)(KX:K.In X.h₀)(hm:makesIn K C=true)(hi:findIn K (.ref C) "__init__" = some (some (.ref fI)))(hf:typeIn K (.ref fI)=some (.type "function"))
  (L:Live X d A)(hd:d.n<590)(a:At X U s)(r:RepVs U s.heap args vs)(h:zmC X C fI d args Q Z (vis U)):Hi X.M A (.call (.ref C) ⟨vs,[]⟩) (ztm X U s Q Z) s:=by
 have KS:=KX.keeps a.keep;have ns:=zgl XO a;obtain⟨hp,gn,dr,tk,os⟩:=s;refine make_core (makes_of KS hm) (looks_findIn KS hi) (λself=>bind_fn KS self hf) (.inl rfl) ?_;have n0:U hp.objs.size=none:=a.none_of_size (fN _);have n1:U (hp.objs.size+1)=none:=a.none_of_size (fA7 _);have a1:At X (U.set hp.objs.size (.idict [])) ⟨hp.push emptyDict,gn,dr,tk,os⟩:=a.alloc tk λkv=>(qJ [] (Heap.DictOf.new hp) .nil (fT _) ns)
 have hsz:(hp.push emptyDict).objs.size=hp.objs.size+1:=size_push' ..;have a2:=a1.alloc (o:=instObj C hp.objs.size) (ao:=.inst C hp.objs.size) tk λ_=>Heap.get?_push_size _ rfl;have st1:Step E0 U ⟨hp,gn,dr,tk,os⟩ (U.set hp.objs.size (.idict [])) ⟨hp.push emptyDict,gn,dr,tk,os⟩:=Step.alloc a emptyDict _ tk;have st2:=st1.trans (Step.alloc (B:=E0) a1 (instObj C hp.objs.size) (.inst C hp.objs.size) tk);dsimp only at a2 st2;rw[hsz] at a2 st2;have L1:Live X ⟨d.n+1,d.hd⟩ (A.under (.builtin "type.__call__" ⟨.ref C::vs,[]⟩)):=⟨by rw[depth_under_make];have:=L.depth;show A.depth+1<=301+(d.n+1);exact zux this,by
  show A.units+Code.cUnits (.builtin "type.__call__" ⟨.ref C::vs,[]⟩)<=20+8*(d.n+1);have h1:Code.cUnits (.builtin "type.__call__" ⟨.ref C::vs,[]⟩)<=8:=pD (by kernel_rfl);have:=L.units;exact zzH h1 this,L.handled,by show d.n+1<=600;exact zwR hd,L.frames⟩
 have hh:=h hp.objs.size (hp.objs.size+1) (qi n0) (qi n1) (fAH (fCR _));unfold CallOk at hh;refine Hf (hh _ _ (.ref (hp.objs.size+1)::vs) _ (by rw[jr rfl,jr rfl]) L1 a2 (.cons (.ref _) (r.mono (st2.keepV0 a)))) λres s' hr=>?_;cases res with
 | error e=>exact liftX.back st2 hr
 | ok fl=>
  cases fl with
  | next=>exact hr.elim
  | brk=>exact hr.elim
  | cont=>exact hr.elim
  | ret v=>
   refine zr hr λav U' rv a' st' e2_5 q=>?_;subst e2_5;obtain rfl:=RepV.wL rv;exact zcD rfl (.ref (hp.objs.size+1)) U' (.ref _) a' (st2.trans st') q
end
noncomputable def kq(x:Str):Option Nat:=strT.findIdx? λy=>x==y
def jp{x:Str}{n:Nat}(h:kq x=some n):n<kW/\zx n=x:=by
 obtain⟨h1,h2,_⟩:=List.findIdx?_eq_some_iff_getElem.mp h;refine⟨h1,?_⟩;unfold zx;rw[fS,fW h1];exact(beq_iff_eq.mp h2).symm
def zfP{x:Str}(h:kq x=none):x∉strT:=λq=>by
 have:=List.findIdx?_eq_none_iff.mp h x q;simp at this
noncomputable def zrF(fs:List (Nat×AV))(nc:Option Nat):Bool:=match nc with
 | some n=>(zaz fs n).isNone
 | none=>true
namespace A
def zs2(C:Addr)(n:Nat)(Q:zm):zm:=λv σ1=>zbD σ1 C v λ_ _ fs=>zu (zaz fs n) (kAt Q σ1)
def zv5(X:Cx)(f:Addr)(d:Dp)(p:Addr)(Q:zm)(Z:XP):List AV->AHeap->Prop:=λas σ2=>CallOk X f d (.ref p::as) Q Z σ2
def kMc(X:Cx)(C:Addr)(nc:Option Nat)(f:Addr)(ms:List AE)(d:Dp)(l:Loc)(Q:zm)(Z:XP):zm:=λv σ1=>zbD σ1 C v λp _ fs=>onB (zrF fs nc) (zbn ms d l (zv5 X f d p Q Z) Z σ1)
def zv9(C:Addr)(n:Nat)(l:Loc)(Q:zU)(av:AV):zm:=λv σ2=>zbD σ2 C v λ_ dx fs=>onB (Nat.blt fs.length 100) (Q .next l (σ2.set dx (.idict (qd fs n av))))
def kSa(C:Addr)(n:Nat)(x:AE)(d:Dp)(l:Loc)(Q:zU)(Z:SXP):zm:=λav σ1=>x d l (zv9 C n l Q av) (kZ Z l) σ1
def wR(C:Addr)(n:Nat)(x:AE):AE:=λd l Q Z U=>x d l (zs2 C n Q) Z U
def wH(X:Cx)(C:Addr)(nc:Option Nat)(f:Addr)(x:AE)(ms:List AE):AE:=λd l Q Z U=>x d l (kMc X C nc f ms d l Q Z) Z U
def wU(C:Addr)(n:Nat)(x mv:AE):AS:=λd l Q Z U=>mv d l (kSa C n x d l Q Z) (kZ Z l) U
def new(X:Cx)(C fI:Addr)(ms:List AE):AE:=λd l Q Z U=>zbn ms d l (λas U'=>d.n<590/\zmC X C fI d as Q Z U') Z U
end A
section
variable{X:Cx}{K:Frag}{env:Env}{nm:List (Str×Nat)}{names:List (Str×NameKind)}
def zf6{C:Addr}{v:AV}{U:AHeap}{R:Addr->Addr->List (Nat×AV)->Prop}(h:zbD (vis U) C v R):∃p dx fs,v = .ref p/\U p=some (.inst C dx)/\U dx=some (.idict fs)/\R p dx fs:=by
 unfold zbD at h;obtain⟨p,dx,fs,e,h1,h2,q⟩:=h;exact jI p dx fs e ((zG h1).1) ((zG h2).1) q
def zrY{C:Addr}{n:Nat}{name:Str}{o:Expr}{x:AE}{pos:Pos}(G:Gd X K)(hn:n<kW)(hs:zx n=name)(hg:plainGet K C name=true)(hh:hasDictIn K C=true)(hc:findIn K (.ref C) name=some none)(hb:∀e,attributeBase o name e (eval o e)=eval o e)(hx:zh X env nm o x) :
  zh X env nm (.Attribute o name pos) (A.wR C n x):=λd A l U s Q Z L a F q=>by
 rw[arm_eval_Attribute,hb];subst hs;refine G6 (kU (hx d A l U s _ Z L a F q) λav v σ1 s1 rv a1 st1 q1=>?_);obtain⟨p,dx,fs,rfl,hp,hd,q1⟩:=zf6 q1;obtain⟨av,hf,q1⟩:=zg q1;obtain rfl:=RepV.wN rv;refine G6 (Hg ?_);refine G6 (G9 (G8 (jN st1 (zqk (Q:=Q) (E:=liftX X σ1 s1 Z) G.inn a1 hp hd hn hf hg hh hc q1)) (λr s2 h2=>?_) λ_ _ e=>e));exact G6 (wpAny_letTemporaryGo (G7 h2))
def zqf{C f:Addr}{name:Str}{o:Expr}{es:List Expr}{ms:List AE}{x:AE}{apos pos:Pos}{ob:Obj}{fd:FuncData}(G:Gd X K)(hg:plainGet K C name=true)(hf:findIn K (.ref C) name=some (some (.ref f)))(ht:PySem.W.isFn K (.ref f)=true)(ho:K.lookup f=some ob)(hfd:ob.data = .func fd)
  (hb:∀e,attributeBase o name e (eval o e)=eval o e)(hl:(apos.endLine==pos.line)=true)(hn:decide (es.length<30)=true)(hx:zh X env nm o x)(h:SoundEs X env nm es ms) :
  zh X env nm (.Call (.Attribute o name apos) es [] pos) (A.wH X C (kq name) f x ms):=λd A l U s Q Z L a F q=>by
 rw[arm_eval_Call,hb];refine G6 (kU (hx d A l U s _ Z L a F q) λav v σ1 s1 rv a1 st1 q1=>?_);obtain⟨p,dx,fs,rfl,hp,hd,q1⟩:=zf6 q1;obtain⟨hno,q1⟩:=qE q1;obtain rfl:=RepV.wN rv;refine G6 (Hg ?_);have h1:(backTo pos (starEach es env)).all (λx=>!x.1)=true:=by
  rw[List.all_eq_not_any_not];simp only[Bool.not_not];rw[h.plain];rfl
 have hform:methodCallForm (es.length+([]:List Keyword).length) (backTo pos (starEach es env)) (backToKw pos (keywordEach [] env))=true:=by
  unfold methodCallForm;rw[h1];show (true&&true&&decide (es.length+0+0<30))=true
  simpa using hn
 have hpos:methodCallPos true o env apos pos=pure pos:=by unfold methodCallPos;simp[hl]
 obtain⟨od,I,k1⟩:∃od:Obj,InstAt s1.heap p { cls:=.ref C,dict:=some dx,data:=.plain } C (some od)/\lookIn name od=some none:=by
  cases hc:kq name with
  | none=>exact a1.instNo hp hd (zfP hc)
  | some n=>
   obtain⟨c1,rfl⟩:=jp hc;refine zb (a1.inst hp hd) λod I hlk=>?_;obtain⟨r,h2,h3⟩:=hlk n c1;rw[hc] at hno
   rcases h3 with⟨_,rfl⟩|⟨_,_,h3,_⟩
   .exact zc od I h2
   .have hno:(zaz fs n).isNone=true:=hno;rw[h3] at hno;cases hno
 unfold methodCall;rw[hform];refine G6 (G9 (method_fn (G.inn.keeps a1.keep) I (plainGet_of hg).1 (plainGet_of hg).2 hf (beq_iff_eq.mp ht) (by show (lookIn name od).map _=_;rw[k1];rfl) ?_));refine G6 (wpAny_of_eq hpos ?_);refine callWith_function_kw (o:=ob) (fd:=fd) (G8 (qo h L a1 (F.step a st1) q1 λvs s2 hv=>?_) (λ_ _ x=>x) λ_ _ x=>x.back st1);refine zi hv λavs σ2 r2 a2 st2 q2=>?_;refine⟨⟨a2.keep _ _ (G.inn _ _ ho),hfd⟩,?_⟩;exact jN (st1.trans st2) (q2.call L a2 (.cons (.ref p) r2))
def zqg{C:Addr}{n:Nat}{name:Str}{o value:Expr}{x mv:AE}{pos' pos:Pos}(G:Gd X K)(hn:n<kW)(hsn:zx n=name)(hs:findIn K (.ref C) "__setattr__" = some (some (.builtin "object.__setattr__")))(hp:plainOver K C=true)(ht:takerIn K C name=some none)(hh:hasDictIn K C=true)
  (hw:swapsWith value (some (.Attribute o name pos')) pos.line env=pure false)(hv:zh X env nm value mv)(hx:zh X env nm o x) :
  jj X env nm (.Assign [.Attribute o name pos'] value pos) (A.wU C n x mv):=λd A l U s Q Z L a F q=>by
 subst hsn;refine plainObj_wpAny_Assign_Attribute (G8 (hv d A l U s _ _ L a F q) (λv s1 x=>?_) λ_ _ x=>x.toS a F) hw;refine zi x λav σ1 rv a1 st1 q1=>?_;have F1:=F.step a st1;have st1':=st1.weaken (B':=FB env) FB.wP;refine G8 (hx d A l σ1 s1 _ _ L a1 F1 q1) (λu s2 x=>?_) λ_ _ x=>(x.toS a1 F1).back st1';refine zi x λbv σ2 ru a2 st2e q2=>?_;obtain⟨p,dx,fs,rfl,h1,h2,q2⟩:=zf6 q2;obtain⟨h3,q2⟩:=qE q2;obtain rfl:=RepV.wN ru;have F2:=F1.step a1 st2e;have st2':=st1'.trans (st2e.weaken (B':=FB env) FB.wP);refine G8 (zjV (R:=λU'=>U'=σ2.set dx (.idict (qd fs n av))) G.inn a2 h1 h2 hn (rv.mono (st2e.keepV0 a1)) (fC5.mp h3) hs hp ht hh rfl) (λ_ s3 x=>?_) λ_ _ e=>e;refine zl x λσ3 a3 st3 e17_3=>?_;subst e17_3;exact zH .next l _ trivial a3 (F2.step a2 st3) (st2'.trans (st3.weaken FB.wP)) (by rw[jr rfl];exact q2)
def ztA{g:Str}{C fI:Addr}{es:List Expr}{ms:List AE}{gp pos:Pos}(G:Gd X K)(E:EK env names)(hc:nsIn K Hk g=some (some (.ref C)))(hg:qg names g=true)(hkp:keepIn K (.ref C)=true)(hm:makesIn K C=true)
  (hi:findIn K (.ref C) "__init__" = some (some (.ref fI)))(hf:typeIn K (.ref fI)=some (.type "function"))(h:SoundEs X env nm es ms) :
  zh X env nm (.Call (.Name g gp) es [] pos) (A.new X C fI ms):=λd A l U s Q Z L a F q=>by
 refine Call_ (qQ G.ok E.eo a (E.glob hg).1 (E.glob hg).2 (mg_of G.inn G.ok.g hc) ?_);refine callWith_of (P:=λh=>K.In h) (by rw[h.plain];rfl) (λhp X'=>keeps_K hkp hp X') (qo h L a F q λvs s1 hv=>?_);refine zr hv λavs σ1 r a1 st hd q1=>?_;refine⟨G.inn.keeps a1.keep,?_⟩;exact jN st (wpAny_call (Hf (zn1 G.ok G.inn hm hi hf L hd a1 r q1) λres s' x=>x))
end
def A.wJ:AS:=λ_ _ _ _ _=>False
def zh6{X:Cx}{env:Env}{nm:List (Str×Nat)}{st:Stmt}:jj X env nm st A.wJ:=λ_ _ _ _ _ _ _ _ _ _ q=>q.elim
@[irreducible] noncomputable def zhV(p:Addr)(k x:AV)(R:AHeap->Prop)(U:AHeap):Prop:=(∃kvs row,U p=some (.tdict kvs)/\k=zA row/\kvs.length<1000000/\R (U.set p (.tdict (Tab.put kvs row x))))\/
 (∃fs n,U p=some (.idict fs)/\k = .str n/\fs.length<100/\R (U.set p (.idict (qd fs n x))))\/
 (∃xs i,U p=some (.list xs)/\k = .int i/\0<=i/\i.toNat<xs.length/\R (U.set p (.list (xs.set i.toNat x))))
def zei{p:Addr}{kvs:Tab}{row:List zd}{x:AV}{R:AHeap->Prop}{U:AHeap}(h:U p=some (.tdict kvs))(hl:kvs.length<1000000)(q:R (U.set p (.tdict (Tab.put kvs row x)))):zhV p (zA row) x R U:=by
 unfold zhV;exact .inl (zo kvs row h rfl hl q)
def zpW{p:Addr}{fs:List (Nat×AV)}{n:Nat}{x:AV}{R:AHeap->Prop}{U:AHeap}(h:U p=some (.idict fs))(hl:fs.length<100)(q:R (U.set p (.idict (qd fs n x)))):zhV p (.str n) x R U:=by
 unfold zhV;exact .inr (.inl (zo fs n h rfl hl q))
noncomputable def zjR(kvs:List (AV×AV))(fs:List (Nat×AV)):Option (List (Nat×AV)):=match kvs with
 | []=>some fs
 | p::r=>p.1.str?.bind λn=>zjR r (qd fs n p.2)
def zjm(ps:List (AE×AE))(d:Dp)(l:Loc)(Q:List (AV×AV)->AHeap->Prop)(Z:XP)(U:AHeap):Prop:=match ps with
 | []=>Q [] U
 | p::r=>p.1 d l (λk σ1=>p.2 d l (λv σ2=>zjm r d l (λkvs σ3=>Q ((k,v)::kvs) σ3) Z σ2) Z σ1) Z U
namespace A
def kD4(l:Loc)(S:zU)(σ4:AHeap):Prop:=S .next l σ4
def kD3(a b:AV)(l:Loc)(S:zU):zm:=λc σ3=>zn5 b λp=>zhV p c a (kD4 l S) σ3
def kD2(k:AE)(a:AV)(d:Dp)(l:Loc)(S:zU)(SZ:SXP):zm:=λb σ2=>k d l (kD3 a b l S) (kZ SZ l) σ2
def kD1(x k:AE)(d:Dp)(l:Loc)(S:zU)(SZ:SXP):zm:=λa σ1=>x d l (kD2 k a d l S SZ) (kZ SZ l) σ1
def wW(v x k:AE):AS:=λd l S SZ U=>v d l (kD1 x k d l S SZ) (kZ SZ l) U
def dic(ps:List (AE×AE)):AE:=λd l Q Z U=>∀r,U r=none->zjm ps d l (λkvs σ1=>σ1 r=some (.idict [])/\zu (zjR kvs []) λfs=>Q (.ref r) (σ1.set r (.idict fs))) Z (U.set r (.idict []))
def dT0:AE:=λd l Q Z U=>∀r,U r=none->Q (.ref r) (U.set r (.tdict []))
def dT1(k v:AE):AE:=λd l Q Z U=>∀r,U r=none->k d l (λa σ1=>v d l (λb σ2=>∃row,a=zA row/\σ2 r=some (.tdict [])/\Q (.ref r) (σ2.set r (.tdict [(row,b)]))) Z σ1) Z (U.set r (.tdict []))
end A
section
variable{X:Cx}{env:Env}{nm:List (Str×Nat)}{U:AHeap}{s:Shared}{d:Dp}{A:Around}{E:Value->Shared->Prop}
def znF{p:Addr}{us:List Value}{n:Nat}{i:Int}{tk:Tok}{v:Value}{Q:Unit->Shared->Prop}(ho:s.heap.get? p=some (zO us n))(h0:0<=i)(hi:i.toNat<us.length)(hl:us.length<=1000000)(q:Q () { s with heap:=s.heap.update p (Obj.mapSeq (·.setIfInBounds i.toNat v)) }):wpAny X.M A (setItem (.ref p) (.int i tk) v) Q E s:=by
 have hL:s.heap.IsList p us.toArray:=(qe _ ho rfl n rfl)
 obtain⟨y,hx⟩:∃y,us.toArray[i.toNat]? = some y:=⟨us[i.toNat],by simp[hi]⟩
 have hfit:i<2 ^ 63:=by lia
 unfold setItem
 try with_reducible refine G9 ?_
 first|refine G6 (G7 ?_)|skip
 refine G6 (wpAny_sequenceKey hL.typeIs (by decide) ?_);refine G6 (wpAny_callSpecial?_slot (name:=Str.ofString "__setitem__") hL.typeIs slot_list_setitem (Hd slot_list_setitem hL.typeIs entry_list_setitem ?_ (args_list_setitem _ _ _)));show wpAny _ _ (Builtin.List.listSubscript? (.int i tk) >>= _) _ _ s;refine G6 (wpAny_listSubscript_int (fitsIndex_of h0 hfit) ?_);clear hfit;obtain⟨j,rfl⟩:=fAM h0;refine G6 (G6 (wpAny_seqItemAt ho rfl (G7 ?_)));rw[fCF] at hx q;rw[hx];refine G6 (wpAny_setSeqItemAt ho rfl ?_)
 first
  | exact G6 (G7 (G7 (zc .none rfl (G7 q))))
  | exact G7 ⟨.none,rfl,G7 q⟩
def RepVs.set{h:Heap}{xs:List AV}{vs:List Value}(r:RepVs U h xs vs){x:AV}{v:Value}(rx:RepV U h x v):∀n,RepVs U h (xs.set n x) (vs.set n v):=by
 induction xs generalizing vs with
 | nil=>intro n;obtain rfl:=RepVs.wG r;exact .nil
 | cons y xs ih=>
  obtain⟨_,_,rfl,a,r⟩:=RepVs.wF r;intro n;cases n with
  | zero=>exact .cons rx r
  | succ n=>exact .cons a (ih r n)
def zlV{p:Addr}{k x:AV}{u v:Value}{R:AHeap->Prop}(L:Live X d A)(a:At X U s)(rk:RepV U s.heap k u)(rv:RepV U s.heap x v)(q:zhV p k x R (vis U)):wpAny X.M A (setItem (.ref p) u v) (λ_ s'=>∃U',At X U' s'/\Step E0 U s U' s'/\R (vis U')) E s:=by
 unfold zhV at q
 rcases q with⟨kvs,row,hp,rfl,hl,q⟩|⟨fs,n,hp,rfl,hl,q⟩|⟨xs,i,hp,rfl,h0,hi,q⟩
 .exact zp9 L a (zG hp).1 rk rv hl λs' a' st=>(zv _ a' st (by rw[jr rfl];exact q))
 .exact zrS a (zG hp).1 rk rv hl λs' a' st=>(zv _ a' st (by rw[jr rfl];exact q))
 .have hp:=(zG hp).1;refine zn (a.rep _ _ hp) λus n ho ru hl=>?_;obtain⟨tk,rfl⟩:=RepV.wC rk;have hlen:=ru.length;refine znF ho h0 (zwr hi hlen) (zuE hl hlen) ?_;refine zi (zbP (Q:=λ_ U'=>R U') (ys:=xs.set i.toNat x) (ws:=us.set i.toNat v) (x:=.none) (v:=.none) a hp ho (·.setIfInBounds i.toNat v) (by simp) (ru.set rv _) (by rw[List.length_set];exact hl) .none q) λav U' r' a' st' q'=>?_;exact zv U' a' st' q'
end
section
variable{X:Cx}{env:Env}{nm:List (Str×Nat)}{U:AHeap}{s:Shared}
def zjF{o i value:Expr}{pos' pos:Pos}{mv mx mk:AE}(hv:zh X env nm value mv)(hx:zh X env nm o mx)(hk:zh X env nm i mk)(hs:swapsWith value (some (.Subscript o i pos')) pos.line env=pure false) :
  jj X env nm (.Assign [.Subscript o i pos'] value pos) (A.wW mv mx mk):=λd A l U s Q Z L a F q=>by
 refine wpAny_Assign_Subscript (G8 (hv d A l U s _ _ L a F q) (λv s1 x=>?_) λ_ _ x=>x.toS a F) hs;refine zi x λav σ1 rv a1 st1 q1=>?_;have F1:=F.step a st1;have st1':=st1.weaken (B':=FB env) FB.wP;refine G8 (hx d A l σ1 s1 _ _ L a1 F1 q1) (λu s2 x=>?_) λ_ _ x=>(x.toS a1 F1).back st1';refine zi x λbv σ2 ru a2 st2e q2=>?_;have F2:=F1.step a1 st2e;have st2':=st1'.trans (st2e.weaken (B':=FB env) FB.wP);refine G8 (hk d A l σ2 s2 _ _ L a2 F2 q2) (λw s3 x=>?_) λ_ _ x=>(x.toS a2 F2).back st2';refine zi x λcv σ3 rw_ a3 st3e q3=>?_;have F3:=F2.step a2 st3e;have st3':=st2'.trans (st3e.weaken (B':=FB env) FB.wP);have rv3:=(rv.mono (st2e.keepV0 a1)).mono (st3e.keepV0 a2);have ru3:=ru.mono (st3e.keepV0 a2);refine zb (zhP q3) λp e8_1 q3=>?_;subst e8_1;obtain rfl:=RepV.wN ru3;refine G8 (zlV L a3 rw_ rv3 q3) (λ_ s4 x=>?_) λ_ _ e=>e;refine zl x λσ4 a4 st4 q4=>?_;exact zH .next l _ trivial a4 (F3.step a3 st4) (st3'.trans (st4.weaken FB.wP)) q4
def zn0(XO:X.Ok)(a:At X U s):At X (U.set s.heap.objs.size (.tdict [])) { s with heap:=s.heap.push { cls:=.type "dict",data:=.dict #[] } }/\Step E0 U s (U.set s.heap.objs.size (.tdict [])) { s with heap:=s.heap.push { cls:=.type "dict",data:=.dict #[] } }:=
 ⟨a.alloc s.toks λ_=>(jl (#[]) 0 (Heap.get?_push_size _ rfl) .nil .nil (by simp) (zgl XO a)),Step.alloc a _ _ s.toks⟩
def ztg(XO:X.Ok)(a:At X U s):At X (U.set s.heap.objs.size (.idict [])) { s with heap:=s.heap.push { cls:=.type "dict",data:=.dict #[] } }/\Step E0 U s (U.set s.heap.objs.size (.idict [])) { s with heap:=s.heap.push { cls:=.type "dict",data:=.dict #[] } }:=
 ⟨a.alloc s.toks λ_=>(qJ [] (Heap.DictOf.new _) .nil (fT _) (zgl XO a)),Step.alloc a _ _ s.toks⟩
def zl8{pos:Pos}(XO:X.Ok):zh X env nm (.Dict [] [] pos) A.dT0:=λd A l U s Q Z L a F q=>by
 have h:=zn0 XO a;exact wpAny_Dict_empty (zo (.ref _) _ (.ref _) h.1 h.2 (by rw[jr rfl];exact q _ (qi (a.none_of_size (fN _)))))
def zl9{ke ve:Expr}{pos:Pos}{mk mv:AE}(XO:X.Ok)(hk:zh X env nm ke mk)(hv:zh X env nm ve mv):zh X env nm (.Dict [some ke] [ve] pos) (A.dT1 mk mv):=λd A l U s Q Z L a F q=>by
 have hn:=zn0 XO a;have a0:=hn.1;have st0:=hn.2;refine wpAny_Dict_any rfl rfl (by simp) (by simp) ?_;have F0:=F.step a st0;have q0:=q _ (qi (a.none_of_size (fN _)));rw[<-jr rfl] at q0;show wpAny X.M A (do
  let kv <-eval ke env
  let vv <-holding [kv] (do let x <-eval ve env;standAt pos;pure x)
  return (kv,vv)::(<-holding [kv,vv] (evalPairs []))) _ _ _
 refine G6 (G8 (hk d A l _ _ _ _ L a0 F0 q0) (λkv s1 x=>?_) λ_ _ x=>x.back st0);refine zi x λak σ1 rk a1 st1 q1=>?_;refine G6 (G9 (G6 (G8 (hv d A l σ1 s1 _ _ L a1 (F0.step a0 st1) q1) (λvv s2 x=>?_) λ_ _ x=>x.back (st0.trans st1))));refine zi x λax σ2 rx a2 st2 q2=>?_;refine G6 (Hg (G7 (G6 (G9 (G7 (G7 ?_))))));have rk2:=rk.mono (st2.keepV0 a1);refine zl q2 λrow e12_1 hp q3=>?_;subst e12_1;refine Hc _ (λrest _ s'=>(rest=[(kv,vv)]/\s'=s2)\/(rest=[]/\∃σ3,At X σ3 s'/\Step E0 σ2 s2 σ3 s'/\Q (.ref s.heap.objs.size) (vis σ3))) _ ?_ ?_ _ _ (.inl ⟨rfl,rfl⟩)
 .rintro x rest b s' (⟨e,rfl⟩|⟨e,_⟩)
  .cases e;exact G6 (zp8 L a2 (zG hp).1 rk2 rx (by decide) λs4 a4 st4=>G7 (.inr (zf3 rfl _ a4 st4 (by rw[jr rfl];exact q3))))
  .cases e
 .rintro b s' (⟨e,_⟩|⟨_,σ3,a3,st3,q4⟩)
  .cases e
  .exact zo (.ref _) σ3 (.ref _) a3 (st0.trans (st1.trans (st2.trans st3))) q4
inductive SoundPs(X:Cx)(env:Env)(nm:List (Str×Nat)):List (Option Expr)->List Expr->List (AE×AE)->Prop
 | nil:SoundPs X env nm [] [] []
 | cons {k v ks vs mk mv ms}:zh X env nm k mk->zh X env nm v mv->SoundPs X env nm ks vs ms->SoundPs X env nm (some k::ks) (v::vs) ((mk,mv)::ms)
inductive RepPs(U:AHeap)(h:Heap):List (AV×AV)->List (Value×Value)->Prop
 | nil:RepPs U h [] []
 | cons {k x u v kvs uvs}:RepV U h k u->RepV U h x v->RepPs U h kvs uvs->RepPs U h ((k,x)::kvs) ((u,v)::uvs)
def RepPs.mono{U':AHeap}{h h':Heap}(k:KeepV U h U' h'){kvs:List (AV×AV)}{uvs:List (Value×Value)}(r:RepPs U h kvs uvs):RepPs U' h' kvs uvs:=by
 induction r with
 | nil=>exact .nil
 | cons a b _ ih=>exact .cons (a.mono k) (b.mono k) ih
def zhQ{pos:Pos}{ks:List (Option Expr)}{vs:List Expr}{ms:List (AE×AE)}(h:SoundPs X env nm ks vs ms):∀{d A l U s Q Z},Live X d A->At X U s->FR X env nm l U s.heap->zjm ms d l Q Z (vis U)->
  wpAny X.M A (evalPairs (pairTrees ks vs env pos)) (λuvs s'=>∃kvs U',kvs.length=ms.length/\RepPs U' s'.heap kvs uvs/\At X U' s'/\Step E0 U s U' s'/\Q kvs (vis U')) (liftX X U s Z) s:=by
 induction h with
 | nil=>intro d A l U s Q Z L a F q;exact evalPairs_nil ⟨[],U,rfl,.nil,a,.refl ..,q⟩
 | @cons k v ks vs mk mv ms hk hv r ih=>
  intro d A l U s Q Z L a F q;refine evalPairs_cons (G8 (hk d A l U s _ Z L a F q) (λkv s1 x=>?_) λ_ _ x=>x);refine zi x λak σ1 rk a1 st1 q1=>?_;refine G6 (G8 (hv d A l σ1 s1 _ Z L a1 (F.step a st1) q1) (λvv s2 x=>?_) λ_ _ x=>x.back st1);refine zi x λax σ2 rx a2 st2 q2=>?_;refine G6 (Hg (G7 ?_));refine G8 (ih L a2 ((F.step a st1).step a1 st2) q2) (λuvs s3 x=>?_) λ_ _ x=>x.back (st1.trans st2);refine zr x λkvs σ3 hl3 r3 a3 st3 q3=>?_;exact jl ((ak,ax)::kvs) σ3 (by rw[fP,fP,hl3]) (.cons ((rk.mono (st2.keepV0 a1)).mono (st3.keepV0 a2)) (rx.mono (st3.keepV0 a2)) r3) a3 (st1.trans (st2.trans st3)) q3
def zid{A:Around}{E:Value->Shared->Prop}{p:Addr}:∀{uvs:List (Value×Value)} {kvs:List (AV×AV)} {fs gs:List (Nat×AV)} {U:AHeap} {s:Shared} {S:PUnit->Shared->Prop},At X U s->RepPs U s.heap kvs uvs->U p=some (.idict fs)->zjR kvs fs=some gs->fs.length+kvs.length<100->
  (∀U' s',At X U' s'->Step E0 U s U' s'->vis U'=(vis U).set p (.idict gs)->S PUnit.unit s')->wpAny X.M A (storeAll p uvs) S E s:=by
 intro uvs;unfold storeAll
 induction uvs with
 | nil=>
  intro kvs fs gs U s S a r hp ht hl q;cases r;cases ht;refine G7 (q U s a (.refl ..) ?_)
  funext b
  by_cases hb:b=p
  .subst hb;rw[AHeap.wA];exact zjS hp rfl
  .rw[AHeap.wB _ _ hb]
 | cons uv uvs ih=>
  intro kvs fs gs U s S a r hp ht hl q;cases r with
  | @cons k x u v kvs _ rk rx r=>
   refine zb (pZ.mp ht) λn h1 h2=>?_;have h1:=zp3 h1;have h1:k = .str n:=h1;subst h1;rw[fP] at hl;rw[List.forIn_cons];refine G6 (G6 (zrR a hp rk rx (zxz hl) λs1 a1 st1=>G7 ?_));have:=zcS fs n x;refine ih a1 (r.mono (st1.keepV0 a)) (AHeap.wA ..) h2 (zy8 hl this) λU' s' a' st' e=>q U' s' a' (st1.trans st') ?_;rw[e,jr rfl]
   funext b
   by_cases hb:b=p
   .subst hb;rw[AHeap.wA,AHeap.wA]
   .rw[AHeap.wB _ _ hb,AHeap.wB _ _ hb,AHeap.wB _ _ hb]
def SoundPs.all{ks:List (Option Expr)}{vs:List Expr}{ms:List (AE×AE)}(h:SoundPs X env nm ks vs ms):ks.all (·.isSome)=true/\ks.length=vs.length/\ms.length=ks.length:=by
 induction h with
 | nil=>exact⟨rfl,rfl,rfl⟩
 | cons _ _ _ ih=>exact zq (by simpa using ih.1) (by rw[fP,fP,ih.2.1]) (by rw[fP,fP,ih.2.2])
def zma{ks:List (Option Expr)}{vs:List Expr}{pos:Pos}{ms:List (AE×AE)}(XO:X.Ok)(h:SoundPs X env nm ks vs ms)(hl:ks.length<=15):zh X env nm (.Dict ks vs pos) (A.dic ms):=λd A l U s Q Z L a F q=>by
 have hn:=ztg XO a;have a0:=hn.1;have st0:=hn.2;have q0:=q _ (qi (a.none_of_size (fN _)));rw[<-jr rfl] at q0
 by_cases he:ks=[]
 .subst he;cases h;obtain⟨_,q1⟩:=q0;refine wpAny_Dict_empty (zo (.ref _) _ (.ref _) a0 st0 ?_);have e:(vis (U.set s.heap.objs.size (.idict []))).set s.heap.objs.size (.idict [])=vis (U.set s.heap.objs.size (.idict [])):=by
   rw[jr rfl]
   funext b
   by_cases hb:b=s.heap.objs.size
   .subst hb;rw[AHeap.wA,AHeap.wA]
   .rw[AHeap.wB _ _ hb]
  rw[<-e];exact q1
 .have ha:=h.all;refine wpAny_Dict_any ha.1 ha.2.1 he hl ?_;refine G8 (zhQ h L a0 (F.step a st0) q0) (λuvs s1 x=>?_) λ_ _ x=>x.back st0;refine zdE x λkvs σ1 hkl0 r1 a1 st1 hp q1=>?_;refine zb (zg q1) λfs ht q2=>?_;have hkl:kvs.length<100:=by have:=ha.2.2;lia
  exact zid a1 r1 (zG hp).1 ht (by simpa using hkl) λσ2 s2 a2 st2 e=>(zo (.ref _) σ2 (.ref _) a2 (st0.trans (st1.trans st2)) (by rw[e];exact q2))
end
noncomputable def zdn(e:Expr):Bool:=!(Nat.beq e.ctorIdx 8||Nat.beq e.ctorIdx 9||Nat.beq e.ctorIdx 10)
def zda{e:Expr}(h:zdn e=true)(t:Option Expr)(line:Nat)(env:Env):swapsWith e t line env=pure false:=by
 cases e<;>first|rfl|exact nob h
def zjO(e:Expr)(o:Expr)(x:Str)(p:Pos)(line:Nat)(env:Env):swapsWith e (some (.Attribute o x p)) line env=pure false:=by
 cases e<;>rfl
def zmu(e:Expr)(o i:Expr)(p:Pos)(line:Nat)(env:Env):swapsWith e (some (.Subscript o i p)) line env=pure false:=by
 cases e<;>rfl
noncomputable def zcL:Expr->Bool
 | .Call f _ _ _=>(match f with
  | .Name ..=>false
  | _=>true)
 | _=>true
def zbs{o:Expr}(h:zcL o=true)(name:Str)(env:Env)(w:Sem Value):attributeBase o name env w=w:=by
 cases o with
 | Call f _ _ _=>cases f<;>first|rfl|exact nob h
 | _=>rfl
noncomputable def veB:List Value:=[.type "ValueError",.type "Exception",.type "BaseException",.type "object"]
structure ExcCls(h:Heap)(C:Addr)(tl:List Addr):Prop where
 ex:∃nm q N bs hdct sn sub ab col dd k0 k1 k2 k3 k5 mN,h.get? C=some (excClassObj nm q C N bs (tl.map .ref++veB) hdct sn sub ab col dd k0 k1 k2 k3 k5 "ValueError.__new__")/\h.Ns N mN/\mN "__init__" = none/\OwnTail h veB (tl.map .ref++veB)
def zkR(tl:List Addr):(tl.map Value.ref++veB).contains (.type "BaseException")=true:=by
 induction tl with
 | nil=>rfl
 | cons a r ih=>rw[gG,List.cons_append,List.contains_cons,ih,Bool.or_true]
namespace A
def wT(C:Addr):AS:=λd l _ SZ U=>wZ d (SZ C l U)
def vD(b:AS)(hits:List Addr)(n:Option Nat)(h:AS):AS:=λd l S SZ U=>wZ d (b d l S (λc l' U'=>onB (hits.contains c) (match n with
 | none=>h ⟨d.n,true⟩ l' S (λ_ _ _=>False) U'
 | some i=>h ⟨d.n,true⟩ (l'.set i (some (.exc c))) (λf l'' U''=>S f (l''.set i none) U'') (λ_ _ _=>False) U')) U)
end A
section
variable{X:Cx}{env:Env}{nm:List (Str×Nat)}
def zh7{x:Str}{C:Addr}{tl:List Addr}{t:Str}{k:Nat}{np cp cpos pos:Pos}(XO:X.Ok)(EO:EnvOk env)(hx:env.kindOf x=some .globalImplicit)(hd:(x==("__debug__" : Str))=false)(hv:X.mg x=some (.ref C))(hC:ExcCls X.h₀ C tl) :
  jj X env nm (.Raise (some (.Call (.Name x np) [.Constant (.str t) k cp] [] cpos)) none pos) (A.wT C):=λd A l U s Q Z L a F q=>by
 obtain⟨hh,q⟩:=ky q;refine qc hC.ex λnmC qC N bs hdct sn sub ab col dd k0 k1 k2 k3 k5 mN h1 h2 h3 h4=>?_;refine zK (wpAny_Raise_call_subT (nm:=nmC) (q:=qC) (bs:=bs) (hdct:=hdct) (sn:=sn) (sub:=sub) (ab:=ab) (col:=col) (dd:=dd) (k0:=k0) (k1:=k1) (k2:=k2) (k3:=k3) (k5:=k5) (C:=C) (N:=N) (bm:=tl.map .ref++veB) (bmB:=veB) (mN:=mN) PySem.F.excBase_ValueError (zkR tl) (L.handled hh) rfl h3 (qQ XO EO a hx hd hv ⟨rfl,?_⟩));refine Calls.evalArgs_plain ?_;refine Calls.spliced_cons ?_;refine wpAny_mkText (Calls.spliced_nil ?_);refine jR rfl (by show 1<=sizeLine;rw[Ha];decide) (a.keep _ _ h1) (h2.keeps a.keep) (h4.keeps a.keep) (λh' e hm hz=>?_);have kp:∀b o,s.heap.get? b=some o->h'.get? b=some o:=hm.keeps;refine zl hm.there λtu he _ _=>?_;have st:Step E0 U s U { s with heap:=h',toks:=s.toks+1 }:=.grown U _ kp hz;have a':At X U { s with heap:=h',toks:=s.toks+1 }:=a.grown _ kp;have F':=F.step a st;have ex:∃vs,h'.get? e=some (exO C vs):=⟨_,he⟩
 exact qf C l U e h' rfl ⟨λo eo=>(by rw[show s.heap.get? e=none from hm.new] at eo;cases eo),FB.w6 F' ex⟩ a' F' (st.weaken FB.wP) ⟨λb o eb _=>⟨o.slots,eb⟩,λb o eb _ _=>eb,ex,fN _,_,he,.inl rfl⟩ q
end
section
variable{M:Model}{A:Around}{E:Value->Shared->Prop}{h:Heap}{g:Array GenState}{d:Drawn}{t:Nat}{os:OsState}{C':Addr}{tl tl':List Addr}
def zlf{e c:Addr}{oe:Obj}{Q:Bool->Shared->Prop}(hC:ExcCls h c tl)(hC':ExcCls h C' tl')(he:h.get? e=some oe)(hcls:oe.cls = .ref c)(hq:Q ((Value.ref c::(tl.map Value.ref++veB)).contains (.ref C')) ⟨h,g,d,t,os⟩):wpAny M A (excMatches (.ref e) (.ref C')) Q E ⟨h,g,d,t,os⟩:=by
 refine qt hC.ex λnmC qC N bs hdct sn sub ab col dd k0 k1 k2 k3 k5 mN h1 _=>?_;refine qt hC'.ex λnmC' qC' N' bs' hdct' sn' sub' ab' col' dd' k0' k1' k2' k3' k5' mN' h1' _=>?_;have hcB:(Value.ref C'::(tl'.map Value.ref++veB)).contains (.type "BaseException")=true:=by rw[List.contains_cons,zkR,Bool.or_true]
 have f:=tc_notTuple
 repeat (first|(with_reducible refine wpAny_loadPart_at he ?_;rw[hcls])|with_reducible refine wpAny_loadPart_at h1' ?_|(with_reducible refine wpAny_isSubtype_exc h1' ?_;rw[hcB])|with_reducible refine wpAny_isSubtype_exc h1 ?_|wp_step)
 generalize (Value.ref c::(tl.map Value.ref++veB)).contains (.ref C')=b at hq ⊢;cases b<;>(wp_walk;exact hq)
end
def ExcCls.keeps{h h':Heap}{C:Addr}{tl:List Addr}(x:ExcCls h C tl)(k:∀b o,h.get? b=some o->h'.get? b=some o):ExcCls h' C tl:=by
 refine qc x.ex λnmC qC N bs hdct sn sub ab col dd k0 k1 k2 k3 k5 mN h1 h2 h3 h4=>?_;exact⟨nmC,qC,N,bs,hdct,sn,sub,ab,col,dd,k0,k1,k2,k3,k5,mN,k _ _ h1,h2.keeps k,h3,h4.keeps k⟩
section
variable{X:Cx}{env:Env}{nm:List (Str×Nat)}{l:Loc}{U:AHeap}{s:Shared}
def FR.fly{g:Heap}{x c:Addr}(F:FR X env nm l U g)(f:Fly X U g x c s.heap):FR X env nm l U s.heap:=by
 have kv:=f.keepV;have hne:=FB.w6 F f.exg;refine zb F.ns λm h9_1 hm=>?_;refine jk h9_1 λo es ep ho hd r=>?_;obtain⟨sl,ho'⟩:=f.keepS _ _ ho λq=>hne (.inl q.symm);have cellK:∀y b o v,(y,b)∈env.cells->g.get? b=some o->o.data = .cell v->s.heap.get? b=some o:=λy b o v hy e hd=>f.keepX b o e (λq=>hne (.inr ⟨y,q▸hy⟩)) (.inl λes n q=>by rw[hd] at q;cases q);refine⟨(zc m (q8 _ es ep ho' hd r) (λy i hy hk=>(hm y i hy hk).mono kv)),λy i hy hk=>?_,F.out,F.nmok,F.len,λy b hy=>?_⟩
 .refine zn (F.cell y i hy hk) λb v hc h11_3 hr=>?_;refine zb h11_3 λo ho hd=>?_;exact zL b v hc (zc o (cellK y b o v (mem_of_lookup hc) ho hd) hd) (hr.mono kv)
 .refine kC (F.outc y b hy) λh1 h2 v h12_3=>?_;refine zb h12_3 λo ho hd=>?_;exact zaf h1 h2 v (zc o (cellK y b o v hy ho hd) hd)
end
section
variable{X:Cx}{env:Env}{nm:List (Str×Nat)}
def zpa{U σ1:AHeap}{s s1:Shared}{g h:Heap}{x c:Addr}(a:At X U s)(a1:At X σ1 { s1 with heap:=g })(hx:New U s x)(f:Fly X σ1 g x c h):X.h₀.get? x=none:=by
 cases e:X.h₀.get? x with
 | none=>rfl
 | some o=>
  have e1:=a.keep _ _ e;have h1:=hx _ e1;obtain⟨vs,h2⟩:=f.exg;have h5:g.get? x=some o:=a1.keep _ _ e;rw[h5] at h2;obtain rfl:=Hw h2;exact absurd (a.stays e1 (.inr (.inr (zaP c vs rfl rfl)))) h1
def zvC(env:Env)(nm:List (Str×Nat))(name:Option Str)(i:Option Nat):Prop:=match name,i with
 | none,none=>True
 | _,_=>False
def zmr{body:List Stmt}{T:Str}{tp hpos pos:Pos}{name:Option Str}{b0:Stmt}{bs:List Stmt}{C':Addr}{tl' hits:List Addr}{i:Option Nat}{m h:AS}(XO:X.Ok)(EO:EnvOk env)(htop:X.top=some env)
  (hT:env.kindOf T=some .globalImplicit)(hdb:(T==("__debug__" : Str))=false)(hv:X.mg T=some (.ref C'))(hC':ExcCls X.h₀ C' tl')(hh:∀c∈hits,∃tl,ExcCls X.h₀ c tl/\(Value.ref c::(tl.map Value.ref++veB)).contains (.ref C')=true)
  (hn:zvC env nm name i)(hb:jU X env nm body m)(hs:jU X env nm (b0::bs) h) :
  jj X env nm (.Try body [.ExceptHandler (some (.Name T tp)) name (b0::bs) hpos] [] [] pos) (A.vD m hits i h):=λd A l U s Q Z L a F q=>by
 obtain⟨hd,q⟩:=ky q;refine wpAny_Try_except (G8 (hb d A l U s _ _ L a F q) (λf s1 x=>?_) λe s1 x=>?_)
 .cases f with
  | next=>exact wpAny_execs_nil x
  | ret v=>exact x
  | brk=>exact x
  | cont=>exact x
 obtain⟨c,l1,σ1,x,g,rfl,⟨hx,hfb⟩,a1,F1,st1,f,z⟩:=x;obtain⟨hc,z⟩:=qE z;obtain⟨tl,hCc,hin⟩:=hh c (List.contains_iff_mem.mp hc);obtain⟨envs,hfr,FO,ht⟩:=L.frames;obtain⟨outer,rfl⟩:=ht env htop;obtain⟨_,Lf,hf,_⟩:=FO.is env fA;have Fo:=ziR FO a1 f;have hx0:=zpa a a1 hx f;refine Fly.note FO hfr hf a1 f λh2 f2 t2=>?_;refine FlyB.vF (s:={ s1 with heap:=h2 }) Fo f2 t2 λh3 f3 t3=>?_;have a3:At X σ1 { s1 with heap:=h3 }:=Fly.at (s:={ s1 with heap:=h3 }) FO.out a1 hx0 f3;obtain⟨vs,he,_⟩:=f3.exh;have LM:Live X ⟨d.n,true⟩ (A.mark (some (.ref x))):=⟨L.depth,L.units,(λq=>nomatch q),L.small,_,hfr,FO,λe he=>ht e he⟩
 refine wpAny_handleBy_cons (codeAny_handlers_test (qQ XO EO a3 hT hdb hv ?_)) (by intro q;cases q);refine zlf (hCc.keeps a3.keep) (hC'.keeps a3.keep) he rfl ?_;rw[hin];cases name with
 | none=>
  cases i with
  | some _=>exact hn.elim
  | none=>
   refine codeAny_handlers_suite (FlyB.vF (s:={ s1 with heap:=h3 }) Fo f3.b t3 λh4 f4 t4=>?_);have a4:At X σ1 { s1 with heap:=h4 }:=Fly.at (s:={ s1 with heap:=h4 }) FO.out a1 hx0 f4;have F4:=FR.fly (s:={ s1 with heap:=h4 }) F1 f4;have st4:Step (FB env) U s σ1 { s1 with heap:=h4 }:=Fly.step (s:={ s1 with heap:=h4 }) hx st1 f4;exact G8 (hs ⟨d.n,true⟩ _ l1 σ1 _ _ _ LM a4 F4 z) (λfl s5 y=>y.back st4) λ_ _ y=>zrH y
 | some n=>cases i<;>exact hn.elim
end
noncomputable def nsB(K:Frag)(N:Addr):Bool:=match K.lookup N with
 | some o=>(match o.data with
  | .dict es _=>es.all (λe=>match e.key with
   | .str _ _=>true
   | _=>false)&&(nsFind es "__init__").isNone
  | _=>false)
 | none=>false
def zn3{K:Frag}{N:Addr}{h:Heap}(X:K.In h)(e:nsB K N=true):∃m,h.Ns N m/\m "__init__" = none:=by
 unfold nsB at e;split at e
 .rename_i o ho
  split at e
  .rename_i es n hd
   obtain⟨e1,e2⟩:=gB.mp e;refine zc _ (jI o es n (X _ _ ho) hd (λx hx=>?_) (λ_=>rfl)) (Option.isNone_iff_eq_none.mp e2);have hx:=Array.all_eq_true_iff_forall_mem.mp e1 x hx;cases hk:x.key<;>rw[hk] at hx<;>first|exact⟨_,_,rfl⟩|cases hx
  .cases e
 .cases e
noncomputable def zsS(K:Frag)(A:Addr):Bool:=match K.lookup A with
 | some o=>(match o.data with
  | .cls cd=>nsB K cd.ns
  | _=>false)
 | none=>false
noncomputable def sl6(sl:Array (Option Value)):Bool:=match sl.toList with
 | [_,_,_,_,k,_]=>k==some (.builtin "ValueError.__new__")
 | _=>false
def zrT{l:List (Option Value)}(h:sl6 ⟨l⟩=true):∃k0 k1 k2 k3 k5,l=[k0,k1,k2,k3,some (.builtin "ValueError.__new__"),k5]:=by
 cases l with
 | nil=>exact nob h
 | cons k0 l=>cases l with
  | nil=>exact nob h
  | cons k1 l=>cases l with
   | nil=>exact nob h
   | cons k2 l=>cases l with
    | nil=>exact nob h
    | cons k3 l=>cases l with
     | nil=>exact nob h
     | cons k4 l=>cases l with
      | nil=>exact nob h
      | cons k5 l=>cases l with
       | nil=>exact⟨k0,k1,k2,k3,k5,congrArg (λk=>[k0,k1,k2,k3,k,k5]) (H0 h)⟩
       | cons k6 l=>exact nob h
noncomputable def zsV(K:Frag)(C:Addr)(tl:List Addr):Bool:=tl.all (zsS K)&&(match K.lookup C with
 | some o=>o.cls==.type "type"&&sl6 o.slots&&(match o.data with
  | .cls cd=>cd.mro==.ref C::(tl.map .ref++veB)&&!cd.hasDel&&nsB K cd.ns
  | _=>false)
 | none=>false)
def zfW{K:Frag}{C:Addr}{tl:List Addr}{h:Heap}(X:K.In h)(e:zsV K C tl=true):ExcCls h C tl:=by
 obtain⟨e0,e1⟩:=gB.mp e;clear e;have tail:OwnTail h veB (tl.map .ref++veB):=by
  clear e1
  induction tl with
  | nil=>exact .base
  | cons A r ih=>
   obtain⟨e1,e2⟩:=gB.mp e0;unfold zsS at e1;split at e1
   .rename_i o ho
    split at e1
    .rename_i cd hd
     refine zb (zn3 X e1) λm hn hi=>?_;obtain⟨oc,od,oda,osl⟩:=o;cases hd;exact .own (X _ _ ho) hn hi (ih e2)
    .cases e1
   .cases e1
 split at e1
 .rename_i o ho
  obtain⟨e2,e3⟩:=gB.mp e1;obtain⟨e4,e5⟩:=gB.mp e2;clear e1 e2;obtain⟨oc,od,oda,⟨osl⟩⟩:=o;cases oda with
  | cls cd=>
   obtain⟨e6,e7⟩:=gB.mp e3;obtain⟨e8,e9⟩:=gB.mp e6;clear e3 e6;refine zb (zn3 X e7) λm hn hi=>?_;have f1:oc = .type "type":=H0 e4;have f2:cd.mro = .ref C::(tl.map .ref++veB):=H0 e8;clear e4 e8;subst f1;refine zdG (zrT e5) λk0 k1 k2 k3 k5 f3=>?_;clear e5;subst f3;obtain⟨c1,c2,c3,c4,c5,c6,c7,c8,c9,c10,c11⟩:=cd;dsimp only at f2 e9 hn;subst f2;cases c11 with
   | true=>cases e9
   | false=>exact⟨_,_,_,_,_,_,_,_,_,_,_,_,_,_,_,m,X _ _ ho,hn,hi,tail⟩
  | _=>cases e3
 .cases e1
structure ExcIs(K:Frag)(D:Addr)(tl:List Addr):Prop where
 b:zsV K D tl=true
 hg:findIn K (.ref D) "__getattribute__" = some (some (.builtin "BaseException.__getattribute__"))
 hg2:findIn K (.ref D) "__getattr__" = some none
 hf:findObj K D none "__class__" = some (.bind (.builtin "getset_descriptor.__get__") (.builtin "object.__class__"))
 hm:mroIn K D (.type "object")=some true
 hmB:mroIn K D (.type "BaseException")=some true
namespace A
end A
section
variable{X:Cx}{K:Frag}{env:Env}{nm:List (Str×Nat)}
end
def zit(U:AHeap)(x y:AV)(t:Bool):Prop:=∃a b,Rd U x a/\Rd U y b/\a.depth<=100/\b.depth<=100/\ltD a b=some t
def zis(xs:List AV):Prop:=(∀x∈xs,∃i r,x = .tup (.int i::r))\/∀x∈xs,∃i,x = .int i
@[irreducible] noncomputable def zfr(r:Bool)(xs:List AV)(Q:zm)(U:AHeap):Prop:=∃Y:AV->Nat,zis xs/\(∀x∈xs,∀y∈xs,zit U x y (decide (Y x<Y y)))/\∀ys,ys.Perm xs->ys.Pairwise (λx y=>Y x<=Y y)->mkL r ys Q U
def za9:zbg:=λ_ r as Q U=>zay as λx=>zu (jm U x) λxs=>zfr r xs Q U
noncomputable def zjQ:AV->Nat
 | .tup l=>l.length
 | _=>0
@[irreducible] noncomputable def zcm(r:Bool)(xs:List AV)(Q:zm)(U:AHeap):Prop:=(∀x∈xs,∃l,x = .tup l)/\∀ys,ys.Perm xs->ys.Pairwise (λx y=>zjQ x<=zjQ y)->mkL r ys Q U
@[irreducible] noncomputable def zer(X:Cx)(f:Addr)(r:Bool)(d:Dp)(xs:List AV)(Q:zm)(U:AHeap):Prop:=∃(key:AV->AV) (Y:AV->Nat),d.n<590/\(∀x∈xs,CallOk X f ⟨d.n+1,d.hd⟩ [x] (λk U'=>k=key x/\U'=U) (λ_ _=>False) U)/\(∀x∈xs,∃i r,key x = .tup (.int i::r))/\
 (∀x∈xs,∀y∈xs,zit U (key x) (key y) (decide (Y x<Y y)))/\∀ys,ys.Perm xs->ys.Pairwise (λx y=>Y x<=Y y)->mkL r ys Q U
namespace A
def w2(r:Bool)(m:AE):AE:=λd l Q Z U=>m d l (λv σ1=>zu (jm σ1 v) λxs=>zcm r xs Q σ1) Z U
def w9(X:Cx)(f:Addr)(r:Bool)(m:AE):AE:=λd l Q Z U=>m d l (λv σ1=>zu (jm σ1 v) λxs=>zer X f r d xs Q σ1) Z U
end A
structure SB(V:SortKind)(a₀:Array Ht)(st:SortSt):Prop where
 perm:(Hs st).Perm a₀
 kind:kindOf st=V
 failed:failedOf st=none
noncomputable def Rk(Y:Ht->Nat)(xs:Array Ht)(i:Nat):Nat:=match xs[i]? with|some p=>Y p|none=>0
def Srt(Y:Ht->Nat)(xs:Array Ht)(a b:Nat):Prop:=∀i j,a<=i->i<=j->j<b->Rk Y xs i<=Rk Y xs j
def Dsc(Y:Ht->Nat)(xs:Array Ht)(a b:Nat):Prop:=∀i j,a<=i->i<=j->j<b->Rk Y xs j<=Rk Y xs i
def Out(xs ys:Array Ht)(a b:Nat):Prop:=∀k,(k<a\/b<=k)->ys[k]? = xs[k]?
def jM{Y:Ht->Nat}{xs ys:Array Ht}{i j:Nat}(h:xs[i]? = ys[j]?):Rk Y xs i=Rk Y ys j:=by unfold Rk;rw[h]
def zeU{Y:Ht->Nat}{xs:Array Ht}{src d:Nat}(hs:src<xs.size)(hd:d<=src)(k:Nat) :
  Rk Y (bubble xs src d) k=if k=src-d then Rk Y xs src else if src-d<k/\k<=src then Rk Y xs (k-1) else Rk Y xs k:=by
 have e:=getElem?_bubble hs d hd k;split at e
 .rw[if_pos (by assumption)];exact jM e
 .rw[if_neg (by assumption)];split at e
  .rw[if_pos (by assumption)];exact jM e
  .rw[if_neg (by assumption)];exact jM e
def zcr{Y:Ht->Nat}{xs:Array Ht}{i j:Nat}(hj:j<=xs.size)(k:Nat) :
  Rk Y (mirror xs i j ((j-i)/2)) k=if i<=k/\k<j then Rk Y xs (i+j-1-k) else Rk Y xs k:=by
 have e:=getElem?_mirror_all (i:=i) hj k;split at e
 .rw[if_pos (by assumption)];exact jM e
 .rw[if_neg (by assumption)];exact jM e
def k8{Y:Ht->Nat}{xs:Array Ht}{i j:Nat}(hj:j<=xs.size)(he:∀k,i<=k->k<j->Rk Y xs k=Rk Y xs (j-1))(k:Nat):Rk Y (mirror xs i j ((j-i)/2)) k=Rk Y xs k:=by
 rw[zcr hj];split
 .rw[he _ (zyQ (by assumption)) (zyP (by assumption)),he k (zyO (by assumption)) (zyV (by assumption))]
 .rfl
def Out.refl(xs:Array Ht)(a b:Nat):Out xs xs a b:=λ_ _=>rfl
def Out.trans{xs ys zs:Array Ht}{a b:Nat}(h:Out xs ys a b)(h':Out ys zs a b):Out xs zs a b:=λk hk=>(h' k hk).trans (h k hk)
def Out.wide{xs ys:Array Ht}{a b a' b':Nat}(h:Out xs ys a b)(h1:a'<=a)(h2:b<=b'):Out xs ys a' b':=λk hk=>h k (zBx h1 h2 hk)
def zan{xs:Array Ht}{i j:Nat}(hj:j<=xs.size):Out xs (mirror xs i j ((j-i)/2)) i j:=λk hk=>by
 rw[getElem?_mirror_all hj,if_neg (zyT hk)]
def zjl{xs:Array Ht}{src d:Nat}(hs:src<xs.size)(hd:d<=src):Out xs (bubble xs src d) (src-d) (src+1):=λk hk=>by
 rw[getElem?_bubble hs d hd,if_neg (zyN hk),if_neg (zyU hk)]
def SB.size{V:SortKind}{a₀:Array Ht}{st:SortSt}(h:SB V a₀ st):(Hs st).size=a₀.size:=h.perm.size_eq
def SB.setArr{V:SortKind}{a₀:Array Ht}{st:SortSt}(h:SB V a₀ st){xs:Array Ht}(hp:xs.Perm (Hs st)):SB V a₀ (PyProof.Rows.setArr st xs):=⟨hp.trans h.perm,h.kind,h.failed⟩
def SB.at_{V:SortKind}{a₀:Array Ht}{st:SortSt}(h:SB V a₀ st){i:Nat}(hi:i<a₀.size):∃p,(Hs st)[i]? = some p/\p∈a₀.toList:=by
 have hi':i<(Hs st).size:=by rw[h.size];exact hi
 exact zc ((Hs st)[i]) (getElem?_pos _ i hi') ((fAC.mp h.perm).mem_iff.mp (by simp))
def qq(prog:Hh)(w:World)(A:Around)(s:Shared)(V:SortKind)(Y:Ht->Nat)(a₀:Array Ht):Prop:=
 ∀p q,p∈a₀.toList->q∈a₀.toList->∀(Q:Bool->Shared->Prop) (E:Value->Shared->Prop),Q (decide (Y p<Y q)) s->wpAny (model prog w) A (keyLt' V p.1 q.1) Q E s
section
variable{prog:Hh}{w:World}{A:Around}{E:Value->Shared->Prop}{s:Shared}{a₀:Array Ht}{V:SortKind}{Y:Ht->Nat}
def zom(H:qq prog w A s V Y a₀){st:SortSt}(hB:SB V a₀ st){p q:Ht}(hp:p∈a₀.toList)(hq:q∈a₀.toList){Q:Option Bool->SortSt->Prop}(h:Q (some (decide (Y p<Y q))) st):wpS (model prog w) A E s (lt' p q) Q st:=by
 rw[lt'_eq];refine Hl (wpS_get ?_);rw[hB.kind];refine Hl (wpS_lift (wpAny_attempt (H p q hp hq _ _ ⟨rfl,?_⟩)));exact Hm h
def jb{arr:Array Ht}{i:Nat}{p:Ht}{st:SortSt}{Q:Ht->SortSt->Prop}(hp:arr[i]? = some p)(h:Q p st):wpS (model prog w) A E s (elem' arr i) Q st:=by
 rw[elem'_eq,hp];exact Hm h
def zen(H:qq prog w A s V Y a₀){st:SortSt}(hB:SB V a₀ st){i j:Nat}(hi:i<a₀.size)(hj:j<a₀.size){Q:Option Bool->SortSt->Prop}(h:Q (some (decide (Rk Y (Hs st) i<Rk Y (Hs st) j))) st) :
  wpS (model prog w) A E s (ltAt' i j) Q st:=by
 refine zb (hB.at_ hi) λp e1 h1=>?_;refine zb (hB.at_ hj) λq e2 h2=>?_;rw[ltAt'_eq];refine Hl (wpS_get ?_);refine Hl (jb e1 (Hl (jb e2 (zom H hB h1 h2 ?_))));unfold Rk at h;rw[e1,e2] at h;exact h
def zbd{st:SortSt}{i j:Nat}{Q:Unit->SortSt->Prop}(h:Q () (setArr st (mirror (Hs st) i j ((j-i)/2)))):wpS (model prog w) A E s (reverseSlice' i j) Q st:=by
 rw[reverseSlice'_eq];exact wpS_modify h
end
noncomputable def upL(lo a nrem:Nat):StateT SortSt Sem AscSt:=
 forIn [a:nrem] ((none,a):AscSt) λ_ r=>do
  let x <-ltAt' (lo+r.snd) (lo+r.snd-1)
  match x with
  | some smaller=>if smaller=true then pure (ForInStep.done (none,r.snd)) else pure (ForInStep.yield (none,r.snd+1))
  | _=>pure (ForInStep.done (some none,r.snd))
noncomputable def zm6(lo n nrem:Nat):StateT SortSt Sem (Option Nat):=do
 reverseSlice' lo (lo+n)
 let r <-upL lo n nrem
 match r.fst with
 | some r=>pure r
 | none=>pure (some r.snd)
noncomputable def zj9(lo n nrem:Nat):StateT SortSt Sem DescSt:=
 forIn [n:nrem] ((none,n,0):DescSt) λ_ r=>do
  let x <-ltAt' (lo+r.snd.fst) (lo+r.snd.fst-1)
  match x with
  | some smaller=>
   if smaller=true then
    if r.snd.snd>0 then do
     reverseSlice' (lo+r.snd.fst-(r.snd.snd+1)) (lo+r.snd.fst)
     pure (ForInStep.yield (none,r.snd.fst+1,0))
    else pure (ForInStep.yield (none,r.snd.fst+1,0))
   else do
    let x <-ltAt' (lo+r.snd.fst-1) (lo+r.snd.fst)
    match x with
    | some larger=>
     if larger=true then pure (ForInStep.done (none,r.snd.fst,r.snd.snd))
     else pure (ForInStep.yield (none,r.snd.fst+1,r.snd.snd+1))
    | _=>pure (ForInStep.done (some none,r.snd.fst,r.snd.snd))
  | _=>pure (ForInStep.done (some none,r.snd.fst,r.snd.snd))
noncomputable def zg3(lo n nrem:Nat):StateT SortSt Sem (Option Nat):=do
 liftM (rule "list.sort.descending-run")
 let r <-zj9 lo (n+1) nrem
 match r.fst with
 | some r=>pure r
 | none=>
  if r.snd.snd>0 then do
   reverseSlice' (lo+r.snd.fst-(r.snd.snd+1)) (lo+r.snd.fst)
   zm6 lo r.snd.fst nrem
  else zm6 lo r.snd.fst nrem
def zg1(lo nrem:Nat):countRun' lo nrem=(do
  let r <-upL lo 1 nrem
  match r.fst with
  | some r=>pure r
  | none=>
   if (r.snd==nrem)=true then pure (some r.snd)
   else if r.snd>1 then do
    let x <-ltAt' lo (lo+r.snd-1)
    match x with
    | some rose=>if rose=true then pure (some r.snd) else do
      reverseSlice' lo (lo+r.snd)
      zg3 lo r.snd nrem
    | _=>pure none
   else zg3 lo r.snd nrem):=by
 rw[countRun'_eq];unfold zg3 zm6 zj9 upL;dsimp only
 congr 1
 funext r
 obtain⟨r,n⟩:=r;cases r with
 | some r=>rfl
 | none=>
  dsimp only;split
  .rfl
  .split
   .congr 1
    funext x
    cases x with
    | none=>rfl
    | some rose=>
     dsimp only;split
     .rfl
     .congr 1
      funext _r
      congr 1;funext _u;congr 1;congr 1;funext s2;obtain⟨r2,n2,q2⟩:=s2
      cases r2 with
      | some r2=>rfl
      | none=>
       dsimp only;split
       .congr 1;funext _v;congr 1;funext _w;congr 1;funext s3;obtain⟨r3,n3⟩:=s3;cases r3<;>rfl
       .congr 1;funext _w;congr 1;funext s3;obtain⟨r3,n3⟩:=s3;cases r3<;>rfl
   .congr 1;funext _u;congr 1;congr 1;funext s2;obtain⟨r2,n2,q2⟩:=s2
    cases r2 with
    | some r2=>rfl
    | none=>
     dsimp only;split
     .congr 1;funext _v;congr 1;funext _w;congr 1;funext s3;obtain⟨r3,n3⟩:=s3;cases r3<;>rfl
     .congr 1;funext _w;congr 1;funext s3;obtain⟨r3,n3⟩:=s3;cases r3<;>rfl
section
variable{prog:Hh}{w:World}{A:Around}{E:Value->Shared->Prop}{s:Shared}{a₀:Array Ht}{V:SortKind}{Y:Ht->Nat}
def Srt.snoc{xs:Array Ht}{lo x:Nat}(h:Srt Y xs lo (lo+x))(hx:1<=x)(h':Rk Y xs (lo+x-1)<=Rk Y xs (lo+x)):Srt Y xs lo (lo+(x+1)):=λi j hi hij hj=>by
 by_cases hjx:j<lo+x
 .exact h i j hi hij hjx
 .have e:j=lo+x:=by exact zuP hj hjx
  subst e
  by_cases hi':i=lo+x
  .rw[hi'];exact fN _
  .exact fF (h i (lo+x-1) hi (zuU hij hi') (zsc hx)) h'
def Dsc.snoc{xs:Array Ht}{lo x:Nat}(h:Dsc Y xs lo (lo+x))(hx:1<=x)(h':Rk Y xs (lo+x)<=Rk Y xs (lo+x-1)):Dsc Y xs lo (lo+(x+1)):=λi j hi hij hj=>by
 by_cases hjx:j<lo+x
 .exact h i j hi hij hjx
 .have e:j=lo+x:=by exact zuP hj hjx
  subst e
  by_cases hi':i=lo+x
  .rw[hi'];exact fN _
  .exact fF h' (h i (lo+x-1) hi (by exact zuU hij hi') (zsc hx))
def zqT(H:qq prog w A s V Y a₀){st:SortSt}{lo a nrem:Nat}{Q:AscSt->SortSt->Prop}(hn:lo+nrem<=a₀.size)(ha:1<=a)(han:a<=nrem)(hB:SB V a₀ st)(hs:Srt Y (Hs st) lo (lo+a))
  (h:∀n,a<=n->n<=nrem->Srt Y (Hs st) lo (lo+n)->(n=nrem\/Rk Y (Hs st) (lo+n)<Rk Y (Hs st) (lo+n-1))->Q (none,n) st):wpS (model prog w) A E s (upL lo a nrem) Q st:=by
 unfold upL;refine Hp (I:=λx c st'=>st'=st/\c=(none,x)/\Srt Y (Hs st) lo (lo+x)) ?step ?fin (zq rfl rfl hs)
 case fin=>
  intro c st' hR1;refine jg hR1 λe7_0 e7_1 hs'=>?_;subst e7_0;subst e7_1;rw[show max a nrem=nrem by exact zuy han] at hs' ⊢;exact h nrem han (fN _) hs' (.inl rfl)
 case step=>
  intro x c st' hax hxn hR2;refine jg hR2 λe8_0 e8_1 hs'=>?_;subst e8_0;subst e8_1;dsimp only;refine Hl (zen H hB (zoW hn hxn) (zss hn hxn) ?_)
  by_cases hl:Rk Y (Hs st') (lo+x)<Rk Y (Hs st') (lo+x-1)
  .simp only[hl,decide_true,if_true];exact Hm (h x hax (zgJ hxn) hs' (.inr hl))
  .simp only[hl,decide_false,gH,if_false];exact Hm (zq rfl rfl (hs'.snoc (zoR ha hax) (zuF hl)))
structure RunOk(V:SortKind)(Y:Ht->Nat)(a₀:Array Ht)(st:SortSt)(lo nrem m:Nat)(st':SortSt):Prop where
 sb:SB V a₀ st'
 m1:1<=m
 le:m<=nrem
 srt:Srt Y (Hs st') lo (lo+m)
 out:Out (Hs st) (Hs st') lo (lo+nrem)
 pend:Ho st'=Ho st
def zol(H:qq prog w A s V Y a₀){st st₀:SortSt}{lo n nrem:Nat}{Q:Option Nat->SortSt->Prop}(hn:lo+nrem<=a₀.size)(h1:1<=n)(hnn:n<=nrem)(hB:SB V a₀ st)(hs:Dsc Y (Hs st) lo (lo+n))
  (ho:Out (Hs st₀) (Hs st) lo (lo+nrem))(hp:Ho st=Ho st₀)(h:∀m st',RunOk V Y a₀ st₀ lo nrem m st'->Q (some m) st'):wpS (model prog w) A E s (zm6 lo n nrem) Q st:=by
 unfold zm6;have hsz:lo+n<=(Hs st).size:=by rw[hB.size];exact zst hn hnn
 refine Hl (zbd ?_);have hB':SB V a₀ (setArr st (mirror (Hs st) lo (lo+n) ((lo+n-lo)/2))):=hB.setArr (mirror_perm _ _ _ _);refine Hl (zqT H hn h1 hnn hB' ?_ λm hm1 hm2 hsm _=>Hm (h m _ ⟨hB',zoR h1 hm1,hm2,hsm,ho.trans ((zan hsz).wide (fN _) (zoV hnn)),hp⟩));intro i j hi hij hj;show Rk Y (mirror (Hs st) lo (lo+n) ((lo+n-lo)/2)) i<=Rk Y (mirror (Hs st) lo (lo+n) ((lo+n-lo)/2)) j;rw[zcr hsz,zcr hsz,if_pos (zAI hi hij hj),if_pos (zAK hi hij hj)];exact hs _ _ (zzI hj) (zA5 hij) (zzc h1 hi)
def zpZ(H:qq prog w A s V Y a₀){st st₀:SortSt}{lo n nrem:Nat}{Q:DescSt->SortSt->Prop}(hn:lo+nrem<=a₀.size)(h1:1<=n)(hnn:n<=nrem)(hB:SB V a₀ st)(hs:Dsc Y (Hs st) lo (lo+n))
  (ho:Out (Hs st₀) (Hs st) lo (lo+nrem))(hp:Ho st=Ho st₀)
  (h:∀m neq st',SB V a₀ st'->n<=m->m<=nrem->Dsc Y (Hs st') lo (lo+m)->neq+1<=m->(∀i,lo+m-(neq+1)<=i->i<lo+m->Rk Y (Hs st') i=Rk Y (Hs st') (lo+m-1))->
   Out (Hs st₀) (Hs st') lo (lo+nrem)->Ho st'=Ho st₀->Q (none,m,neq) st'):wpS (model prog w) A E s (zj9 lo n nrem) Q st:=by
 unfold zj9;refine Hp (I:=λx c st'=>∃neq,c=(none,x,neq)/\SB V a₀ st'/\Dsc Y (Hs st') lo (lo+x)/\neq+1<=x/\
   (∀i,lo+x-(neq+1)<=i->i<lo+x->Rk Y (Hs st') i=Rk Y (Hs st') (lo+x-1))/\Out (Hs st₀) (Hs st') lo (lo+nrem)/\Ho st'=Ho st₀) ?step ?fin
  (zag 0 rfl hB hs (by exact zwy h1) (λi h1 h2=>by congr 1;exact zyR h1 h2) ho hp)
 case fin=>
  intro c st' hR3;refine zdD hR3 λneq e9_1 hB' hs' hq he ho' hp'=>?_;subst e9_1;rw[show max n nrem=nrem by exact zuy hnn] at hs' hq he ⊢;exact h nrem neq st' hB' hnn (fN _) hs' hq he ho' hp'
 case step=>
  intro x c st' hax hxn hR4;refine zdD hR4 λneq e10_1 hB' hs' hq he ho' hp'=>?_;subst e10_1;dsimp only;have hsz:lo+x<=(Hs st').size:=by rw[hB'.size];exact zAl hn hxn
  refine Hl (zen H hB' (zoW hn hxn) (zss hn hxn) ?_)
  by_cases hl:Rk Y (Hs st') (lo+x)<Rk Y (Hs st') (lo+x-1)
  .simp only[hl,decide_true,if_true]
   by_cases hneq:neq>0
   .rw[if_pos hneq];refine Hl (zbd (Hm (zag 0 rfl (hB'.setArr (mirror_perm _ _ _ _)) ?_ zub (λi h1 h2=>by congr 1;exact zuH h1 h2) (ho'.trans ((zan hsz).wide (zuN hq) (zzx hxn))) hp')));have e:=k8 (Y:=Y) (i:=lo+x-(neq+1)) hsz he;refine Dsc.snoc (λi j hi hij hj=>?_) (zoR h1 hax) ?_
    .show Rk Y (mirror _ _ _ _) j<=Rk Y (mirror _ _ _ _) i;rw[e,e];exact hs' i j hi hij hj
    .show Rk Y (mirror _ _ _ _) _<=Rk Y (mirror _ _ _ _) _;rw[e,e];exact zgJ hl
   .rw[if_neg hneq];exact Hm (zag 0 rfl hB' (hs'.snoc (zoR h1 hax) (zgJ hl)) zub (λi h1 h2=>by congr 1;exact zuH h1 h2) ho' hp')
  .simp only[hl,decide_false,gH,if_false];refine Hl (zen H hB' (zss hn hxn) (zoW hn hxn) ?_)
   by_cases hg:Rk Y (Hs st') (lo+x-1)<Rk Y (Hs st') (lo+x)
   .simp only[hg,decide_true,if_true];exact Hm (h x neq st' hB' hax (zgJ hxn) hs' hq he ho' hp')
   .simp only[hg,decide_false,gH,if_false];have hx:Rk Y (Hs st') (lo+x)=Rk Y (Hs st') (lo+x-1):=zyu hl hg;refine Hm (zag (neq+1) rfl hB' (hs'.snoc (zoR h1 hax) (zuF hg)) (zxK hq) (λi h1 h2=>?_) ho' hp');rw[show lo+(x+1)-1=lo+x by exact zyB]
    by_cases hix:i=lo+x
    .rw[hix]
    .rw[hx];exact he i (zz9 h1) (zzg h2 hix)
def zkE(H:qq prog w A s V Y a₀){st st₀:SortSt}{lo n nrem:Nat}{Q:Option Nat->SortSt->Prop}(hn:lo+nrem<=a₀.size)(hnn:n+1<=nrem)(hB:SB V a₀ st)(hs:Dsc Y (Hs st) lo (lo+(n+1)))
  (ho:Out (Hs st₀) (Hs st) lo (lo+nrem))(hp:Ho st=Ho st₀)(h:∀m st',RunOk V Y a₀ st₀ lo nrem m st'->Q (some m) st'):wpS (model prog w) A E s (zg3 lo n nrem) Q st:=by
 unfold zg3;refine Hl (wpS_lift (Hb ⟨rfl,?_⟩));refine Hl (zpZ H hn zxn hnn hB hs ho hp λm neq st' hB' hm1 hm2 hs' hq he ho' hp'=>?_);dsimp only;have hsz:lo+m<=(Hs st').size:=by rw[hB'.size];exact zst hn hm2
 by_cases hneq:neq>0
 .rw[if_pos hneq];have e:=k8 (Y:=Y) (i:=lo+m-(neq+1)) hsz he;refine Hl (zbd (zol H hn (zun hq) hm2 (hB'.setArr (mirror_perm _ _ _ _)) ?_ (ho'.trans ((zan hsz).wide (zuN hq) (zoV hm2))) hp' h));intro i j hi hij hj;show Rk Y (mirror _ _ _ _) j<=Rk Y (mirror _ _ _ _) i;rw[e,e];exact hs' i j hi hij hj
 .rw[if_neg hneq];exact zol H hn (zun hq) hm2 hB' hs' ho' hp' h
def zjv(H:qq prog w A s V Y a₀){st:SortSt}{lo nrem:Nat}{Q:Option Nat->SortSt->Prop}(hn:lo+nrem<=a₀.size)(h1:1<=nrem)(hB:SB V a₀ st)
  (h:∀m st',RunOk V Y a₀ st lo nrem m st'->Q (some m) st'):wpS (model prog w) A E s (countRun' lo nrem) Q st:=by
 rw[zg1];refine Hl (zqT H hn (fN 1) h1 hB (λi j hi hij hj=>by rw[show i=j by exact zu0 hi hij hj];exact fN _) λn hn1 hn2 hsn hor=>?_);dsimp only
 by_cases hnn:n=nrem
 .rw[if_pos (by simpa using hnn)];exact Hm (h n st ⟨hB,hn1,hn2,hsn,Out.refl _ _ _,rfl⟩)
 .rw[if_neg (by simpa using hnn)]
  by_cases hgt:n>1
  .rw[if_pos hgt];refine Hl (zen H hB (zy4 hn h1) (zAm hn hn2 hnn) ?_)
   by_cases hr:Rk Y (Hs st) lo<Rk Y (Hs st) (lo+n-1)
   .simp only[hr,decide_true,if_true];exact Hm (h n st ⟨hB,hn1,hn2,hsn,Out.refl _ _ _,rfl⟩)
   .simp only[hr,decide_false,gH,if_false];have hsz:lo+n<=(Hs st).size:=by rw[hB.size];exact zst hn hn2
    have hall:∀k,lo<=k->k<lo+n->Rk Y (Hs st) k=Rk Y (Hs st) (lo+n-1):=by
     intro k hk1 hk2;have a1:=hsn lo k zue hk1 hk2;have a2:=hsn k (lo+n-1) hk1 (zzh hk2) (zsc hn1);exact zzW hr a1 a2
    have e:=k8 (Y:=Y) (i:=lo) hsz hall;refine Hl (zbd (zkE H hn (zyb hn2 hnn) (hB.setArr (mirror_perm _ _ _ _)) ?_ ((zan hsz).wide (fN _) (zoV hn2)) rfl h));refine Dsc.snoc (λi j hi hij hj=>?_) (zr0 hn1) ?_
    .show Rk Y (mirror _ _ _ _) j<=Rk Y (mirror _ _ _ _) i;rw[e,e,hall i (zjW hi) (zva hij hj),hall j (zzs hi hij) (zuQ hj)];exact fN _
    .show Rk Y (mirror _ _ _ _) _<=Rk Y (mirror _ _ _ _) _;rw[e,e];exact zAd hor hnn
  .rw[if_neg hgt];have hn1':n=1:=zwx hn1 hgt;subst hn1';refine zkE H hn (by exact zwu h1 hnn) hB (Dsc.snoc (λi j hi hij hj=>by rw[show i=j by exact zu0 hi hij hj];exact fN _) (fN _) (by exact zyI hor hnn)) (Out.refl _ _ _) rfl h
def zwe{l r:Nat}(h:l<r):l<=(l+r)/2/\(l+r)/2<r:=⟨(Nat.le_div_iff_mul_le Nat.two_pos).mpr (Nat.mul_two l▸fB6 (fA0 h) l),Nat.div_lt_of_lt_mul (Nat.two_mul r▸Nat.add_lt_add_right h r)⟩
def zgr(H:qq prog w A s V Y a₀){st:SortSt}{lo n ok:Nat}{Q:Bool->SortSt->Prop}(hn:lo+n<=a₀.size)(hn1:1<=n)(hok:ok<=n)(hB:SB V a₀ st)(hs:Srt Y (Hs st) lo (lo+ok))
  (h:∀st',RunOk V Y a₀ st lo n n st'->Q true st'):wpS (model prog w) A E s (binarySort' lo n ok) Q st:=by
 rw[binarySort'_eq];refine Hl (Hn (Hp (I:=λk c st'=>c=(none,())/\SB V a₀ st'/\Srt Y (Hs st') lo (lo+min k n)/\Out (Hs st) (Hs st') lo (lo+n)/\Ho st'=Ho st)
  (Q:=λc st'=>c=(none,())/\RunOk V Y a₀ st lo n n st') ?step ?fin ?init) ?post)
 case post=>
  rintro c st' ⟨rfl,hR⟩;exact Hm (h st' hR)
 case init=>
  refine jh rfl hB (λi j hi hij hj=>?_) (Out.refl _ _ _) rfl
  by_cases h1:ok=0
  .rw[show i=j by exact zBu hi hij hj h1];exact fN _
  .exact hs i j hi hij (zAx hj h1)
 case fin=>
  intro c st' hR5;refine jV hR5 λhc hB' hs' ho' hp'=>?_;rw[show min (max (max ok 1) n) n=n by exact zyF] at hs';exact⟨hc,hB',hn1,fN _,hs',ho',hp'⟩
 case step=>
  intro k c st' hak hkn hR6;refine jV hR6 λe12_0 hB' hs' ho' hp'=>?_;subst e12_0;rw[show min k n=k by exact zut hkn] at hs';have hk:lo+k<a₀.size:=zoW hn hkn;refine Hl (Hn (Hp (I:=λx c st''=>st''=st'/\∃l r,c=(none,l,r)/\l<=r/\r<=k/\r-l<=k-x/\
    (∀i,i<l->Rk Y (Hs st') (lo+i)<=Rk Y (Hs st') (lo+k))/\(∀i,r<=i->i<k->Rk Y (Hs st') (lo+k)<Rk Y (Hs st') (lo+i)))
   (Q:=λc st''=>st''=st'/\∃l r,c=(none,l,r)/\l<=k/\
    (∀i,i<l->Rk Y (Hs st') (lo+i)<=Rk Y (Hs st') (lo+k))/\(∀i,l<=i->i<k->Rk Y (Hs st') (lo+k)<Rk Y (Hs st') (lo+i))) ?istep ?ifin ?iinit) ?ipost)
  case iinit=>exact j6 rfl 0 k rfl zuc zue zxm (λi hi=>zzJ hi) (λi h1 h2=>zAZ h1 h2)
  case ifin=>
   intro c st'' hR7;refine kr hR7 λe13_0 l r e13_3 hlr hrk hm hlo hhi=>?_;subst e13_0;subst e13_3;have:l=r:=zuV hlr hm;subst this;exact zcD rfl l l rfl hrk hlo hhi
  case istep=>
   intro x c st'' _ hxk hR8;refine kr hR8 λe14_0 l r e14_3 hlr hrk hm hlo hhi=>?_;subst e14_0;subst e14_3;dsimp only
   by_cases hge:l>=r
   .rw[if_pos hge];have:l=r:=zsh hlr hge;subst this;exact Hm (zcD rfl l l rfl hrk hlo hhi)
   .rw[if_neg hge];have hmd:=zwe (Nat.lt_of_not_le hge);generalize (l+r)/2=md at hmd ⊢;have hm1:=hmd.1;have hm2:=hmd.2;clear hmd;refine Hl (zen H hB' hk (zCt hn hkn hrk hm2) ?_)
    by_cases hless:Rk Y (Hs st'') (lo+k)<Rk Y (Hs st'') (lo+md)
    .simp only[hless,decide_true,if_true];refine Hm (j6 rfl l md rfl (zjW hm1) (zvq hrk hm2) (zvs hm hm2) hlo (λi h1 h2=>?_));exact pC hless (hs' _ _ zjX (zoV h1) (zso h2))
    .simp only[hless,decide_false,gH,if_false];refine Hm (j6 rfl (md+1) r rfl (zoS hm2) (zjW hrk) (zvr hm hm1) (λi h1=>?_) hhi);exact fF (hs' (lo+i) (lo+md) (by exact zjX) (by exact zCp h1) (by exact zCr hrk hm2)) (pL.mp hless)
  case ipost=>
   intro c st'' hR9;refine zlc hR9 λe15_0 l r e15_3 hlk hlo hhi=>?_;subst e15_0;subst e15_3;show wpS _ _ _ _ (do moveDown' (lo+k) (lo+l);pure (ForInStep.yield (none,()))) _ _;rw[moveDown'_eq];have hks:lo+k<(Hs st'').size:=by rw[hB'.size];exact hk
   have hd:lo+k-(lo+l)<=lo+k:=zz1;refine Hl (wpS_modify (Hm (jh rfl (hB'.setArr (bubble_perm _ _ _)) ?_ (ho'.trans ((zjl hks hd).wide zz3 (zzw hkn))) hp')));rw[show min (k+1) n=k+1 by exact zxW hkn];intro i j hi hij hj;show Rk Y (bubble (Hs st'') (lo+k) (lo+k-(lo+l))) i<=Rk Y (bubble (Hs st'') (lo+k) (lo+k-(lo+l))) j;rw[zeU hks hd,zeU hks hd,show lo+k-(lo+k-(lo+l))=lo+l by exact zzT hlk];have hlo':∀i,lo<=i->i<lo+l->Rk Y (Hs st'') i<=Rk Y (Hs st'') (lo+k):=λi h1 h2=>by have:=hlo (i-lo) (by exact zuY h1 h2);rwa [show lo+(i-lo)=i by exact zsi h1] at this
   have hhi':∀i,lo+l<=i->i<lo+k->Rk Y (Hs st'') (lo+k)<Rk Y (Hs st'') i:=λi h1 h2=>by have:=hhi (i-lo) (by exact zzb h1) (by exact zAn h1 h2);rwa [show lo+(i-lo)=i by exact zy5 h1] at this
   repeat' split
   all_goals first
    | (exfalso;(first|exact zBr hij hj (by assumption) (by assumption) (by assumption)|exact zBp hij (by assumption) (by assumption)|exact zBq hij hj (by assumption) (by assumption)))
    | exact fN _
    | exact hlo' _ (zjW hi) (zAM hij (by assumption) (by assumption))
    | exact fA0 (hhi' _ (zA4 hij (by assumption) (by assumption)) (zBw hij hj (by assumption) (by assumption)))
    | exact hs' _ _ (by (first|exact zz6 (by assumption)|exact zjW hi)) (by (first|exact zye hij|exact zBs hij (by assumption) (by assumption)|exact zjW hij)) (by (first|exact zBn hj (by assumption)|exact zz8 (by assumption)|exact zA3 hlk hj (by assumption) (by assumption)))
end
def jT{Y:Ht->Nat}{a:Array Ht}(SA:Srt Y a 0 a.size):a.toList.Pairwise λx y=>Y x<=Y y:=by
 rw[fBD];intro i j hi hj hij;have h1:i<a.size:=by simpa using hi
 have h2:j<a.size:=by simpa using hj
 have:=SA i j (fT _) (zgJ hij) h2;have e1:Rk Y a i=Y a.toList[i]:=by unfold Rk;rw[getElem?_pos a i h1];simp
 have e2:Rk Y a j=Y a.toList[j]:=by unfold Rk;rw[getElem?_pos a j h2];simp
 rw[e1,e2] at this;exact this
noncomputable def zac:Bool->Ht->Array Ht->Nat->Nat->Nat->StateT SortSt Sem (Option Nat):=sortPriv% PySem.Builtin.gallop
noncomputable def zfH(left:Bool)(key:Ht)(arr:Array Ht)(base i:Nat):StateT SortSt Sem (Option Bool):=do
 let x <-elem' arr (base+i)
 if left then lt' x key else return (<-lt' key x).map (!·)
section
variable{prog:Hh}{w:World}{A:Around}{E:Value->Shared->Prop}{s:Shared}{a₀:Array Ht}{V:SortKind}{Y:Ht->Nat}
noncomputable def byd(left:Bool)(Y:Ht->Nat)(key:Ht)(arr:Array Ht)(base i:Nat):Bool:=if left then decide (Rk Y arr (base+i)<Y key) else !decide (Y key<Rk Y arr (base+i))
def zcl(H:qq prog w A s V Y a₀){st:SortSt}(hB:SB V a₀ st){left:Bool}{key:Ht}{arr:Array Ht}{base i:Nat}(hk:key∈a₀.toList)(ha:∀p∈arr.toList,p∈a₀.toList)(hi:base+i<arr.size){Q:Option Bool->SortSt->Prop}
  (h:Q (some (byd left Y key arr base i)) st):wpS (model prog w) A E s (zfH left key arr base i) Q st:=by
 have e:arr[base+i]? = some arr[base+i]:=getElem?_pos arr (base+i) hi;have hm:arr[base+i]∈a₀.toList:=ha _ (by simp);have er:Rk Y arr (base+i)=Y arr[base+i]:=by unfold Rk;rw[e]
 unfold byd at h;rw[er] at h;unfold zfH;refine Hl (jb e ?_);cases left with
 | true=>simp only[if_true] at h ⊢;exact zom H hB hm hk h
 | false=>
  simp only[gH,if_false] at h ⊢;exact Hl (zom H hB hk hm (Hm h))
def zwf{l r:Nat}(h:l<r):l<=l+(r-l)/2/\l+(r-l)/2<r:=⟨pH _ _,Nat.add_lt_of_lt_sub' (Nat.div_lt_self (Nat.sub_pos_of_lt h) Nat.one_lt_two)⟩
def kR(H:qq prog w A s V Y a₀){st:SortSt}(hB:SB V a₀ st){left:Bool}{key:Ht}{arr:Array Ht}{base n hint:Nat}(hk:key∈a₀.toList)(ha:∀p∈arr.toList,p∈a₀.toList)(hn:base+n<=arr.size)(hh:hint<n)(hs:Srt Y arr base (base+n))
  {Q:Option Nat->SortSt->Prop}(h:∀p,p<=n->(∀i,i<p->byd left Y key arr base i=true)->(∀i,p<=i->i<n->byd left Y key arr base i=false)->Q (some p) st):wpS (model prog w) A E s (zac left key arr base n hint) Q st:=by
 have mono:∀i j,i<=j->j<n->byd left Y key arr base j=true->byd left Y key arr base i=true:=λi j hij hj=>by
  have:=hs (base+i) (base+j) zjX (zoV hij) (zso hj);unfold byd;cases left
  .simp only[gH,if_false,fBP,decide_eq_false_iff_not];exact zzU this
  .simp only[if_true,decide_eq_true_eq];exact zzP this
 have mono':∀i j,i<=j->j<n->byd left Y key arr base i=false->byd left Y key arr base j=false:=λi j hij hj hi=>by
  cases hb:byd left Y key arr base j with
  | false=>rfl
  | true=>rw[mono i j hij hj hb] at hi;cases hi
 have bin:∀(lo hi:Nat),lo<=hi->hi<=n->(∀i,i<lo->byd left Y key arr base i=true)->(∀i,hi<=i->i<n->byd left Y key arr base i=false)->∀{Q':(Option (Option Nat)×Nat×Nat)->SortSt->Prop},
   (∀p q,p<=n->(∀i,i<p->byd left Y key arr base i=true)->(∀i,p<=i->i<n->byd left Y key arr base i=false)->Q' (none,q,p) st)->
   wpS (model prog w) A E s (forIn [0:n] ((none,lo,hi):Option (Option Nat)×Nat×Nat) λ_ r=>do
    if r.2.1>=r.2.2 then pure (ForInStep.done (none,r.2.1,r.2.2)) else do
     let x <-zfH left key arr base (r.2.1+(r.2.2-r.2.1)/2)
     match x with
     | some more=>if more=true then pure (ForInStep.yield (none,r.2.1+(r.2.2-r.2.1)/2+1,r.2.2)) else pure (ForInStep.yield (none,r.2.1,r.2.1+(r.2.2-r.2.1)/2))
     | _=>pure (ForInStep.done (some none,r.2.1,r.2.2))) Q' st:=by
  intro lo hi hlh hhn hlo hhi Q' hQ;refine Hp (I:=λx c st'=>st'=st/\∃l r,c=(none,l,r)/\l<=r/\r<=n/\r-l<=n-x/\(∀i,i<l->byd left Y key arr base i=true)/\(∀i,r<=i->i<n->byd left Y key arr base i=false)) ?step ?fin (j6 rfl lo hi rfl hlh hhn (zzt hhn) hlo hhi)
  case fin=>
   intro c st' hR1;refine kr hR1 λe0_0 l r e0_3 h1 h2 h3 h4 h5=>?_;subst e0_0;subst e0_3;have:l=r:=zuV h1 h3;subst this;exact hQ l l h2 h4 h5
  case step=>
   intro x c st' _ hx hR2;refine kr hR2 λe1_0 l r e1_3 h1 h2 h3 h4 h5=>?_;subst e1_0;subst e1_3;dsimp only
   by_cases hge:l>=r
   .rw[if_pos hge];have:l=r:=zsh h1 hge;subst this;exact Hm (hQ l l h2 h4 h5)
   .rw[if_neg hge];have hmd:=zwf (Nat.lt_of_not_le hge);generalize l+(r-l)/2=md at hmd ⊢;have hm1:=hmd.1;have hm2:=hmd.2;clear hmd;refine Hl (zcl H hB hk ha (zCs hn h2 hm2) ?_);dsimp only;cases hb:byd left Y key arr base md with
    | true=>
     exact Hm (j6 rfl _ r rfl (zoS hm2) h2 (zvr h3 hm1) (λi hi=>mono i _ (zse hi) (zCq h2 hm2) hb) h5)
    | false=>
     exact Hm (j6 rfl l _ rfl (zjW hm1) (zvq h2 hm2) (zvs h3 hm2) h4 (λi h6 h7=>mono' _ i h6 h7 hb))
 refine Hl (zcl H hB hk ha (zoW hn hh) ?_);dsimp only;cases hb:byd left Y key arr base hint with
 | true=>
  refine Hl (Hn (Hp (I:=λx c st'=>st'=st/\∃a b,c=(none,a,b)/\a<b/\x+1<=b/\hint+a<n/\byd left Y key arr base (hint+a)=true)
   (Q:=λc st'=>st'=st/\∃a b,c=(none,a,b)/\a<b/\hint+a<n/\byd left Y key arr base (hint+a)=true/\(b>=n-hint\/byd left Y key arr base (hint+b)=false)) ?step ?fin (jf rfl 0 1 rfl y4 y1 (zxX hh) (by simpa using hb))) ?post)
  case fin=>
   intro c st' hR3;refine qj hR3 λe2_0 a b e2_3 h1 h2 h3 h4=>?_;subst e2_0;subst e2_3;exact jf rfl a b rfl h1 h3 h4 (.inl (zyJ h2))
  case step=>
   intro x c st' _ hx hR4;refine qj hR4 λe3_0 a b e3_3 h1 h2 h3 h4=>?_;subst e3_0;subst e3_3;dsimp only
   by_cases hge:b>=n-hint
   .rw[if_pos hge];exact Hm (jf rfl a b rfl h1 h3 h4 (.inl hge))
   .rw[if_neg hge];refine Hl (zcl H hB hk ha (zBk hn hge) ?_);dsimp only;cases hb':byd left Y key arr base (hint+b) with
    | true=>exact Hm (jf rfl b _ rfl zud (zuk h2) (zzV hge) hb')
    | false=>exact Hm (jf rfl a b rfl h1 h3 h4 (.inr hb'))
  case post=>
   intro c st' hR5;refine qj hR5 λe4_0 a b e4_3 h1 h3 h4 h5=>?_;subst e4_0;subst e4_3;dsimp only;refine Hl (bin _ _ (zAN h1 h3) (zzi hh) (λi hi=>mono i (hint+a) (zzf hi) h3 h4) (λi h6 h7=>?_) λp q hp hq1 hq2=>Hm (h p hp hq1 hq2))
   rcases h5 with h5|h5
   .exact absurd h7 (zvw h5 h6)
   .rcases Nat.lt_or_ge b (n-hint) with h8|h8
    .exact mono' (hint+b) i (zAg h6 h8) h7 h5
    .exact absurd h7 (zvw h8 h6)
 | false=>
  refine Hl (Hn (Hp (I:=λx c st'=>st'=st/\∃a b,c=(none,a,b)/\a<b/\x+1<=b/\a<=hint/\byd left Y key arr base (hint-a)=false)
   (Q:=λc st'=>st'=st/\∃a b,c=(none,a,b)/\a<b/\a<=hint/\byd left Y key arr base (hint-a)=false/\(b>=hint+1\/byd left Y key arr base (hint-b)=true)) ?step2 ?fin2 (jf rfl 0 1 rfl y4 y1 zuc (by simpa using hb))) ?post2)
  case fin2=>
   intro c st' hR6;refine qj hR6 λe5_0 a b e5_3 h1 h2 h3 h4=>?_;subst e5_0;subst e5_3;exact jf rfl a b rfl h1 h3 h4 (.inl (zzv hh h2))
  case step2=>
   intro x c st' _ hx hR7;refine qj hR7 λe6_0 a b e6_3 h1 h2 h3 h4=>?_;subst e6_0;subst e6_3;dsimp only
   by_cases hge:b>=hint+1
   .rw[if_pos hge];exact Hm (jf rfl a b rfl h1 h3 h4 (.inl hge))
   .rw[if_neg hge];refine Hl (zcl H hB hk ha (zBj hn hh) ?_);dsimp only;cases hb':byd left Y key arr base (hint-b) with
    | true=>exact Hm (jf rfl a b rfl h1 h3 h4 (.inr hb'))
    | false=>exact Hm (jf rfl b _ rfl zud (zuk h2) (zyw hge) hb')
  case post2=>
   intro c st' hR8;refine qj hR8 λe7_0 a b e7_3 h1 h3 h4 h5=>?_;subst e7_0;subst e7_3;dsimp only;refine Hl (bin _ _ (zzK h1) (zzk hh) (λi hi=>?_) (λi h6 h7=>mono' (hint-a) i h6 h7 h4) λp q hp hq1 hq2=>Hm (h p hp hq1 hq2))
   rcases h5 with h5|h5
   .exact absurd hi (zvx h5)
   .rcases Nat.lt_or_ge b (hint+1) with h8|h8
    .exact mono i (hint-b) (zze hi) (zzj hh) h5
    .exact absurd hi (zvx h8)
end
noncomputable def zfq:Nat->StateT SortSt Sem Unit:=sortPriv% PySem.Builtin.setMinGallop
noncomputable abbrev zjx(st:SortSt)(g:Nat):SortSt:=SortSt.mk' (kindOf st) (Hs st) (Ho st) g (failedOf st)
def zoq(g:Nat):zfq g=modify λs=>zjx s g:=rfl
noncomputable def zea:Array Ht->Array Ht->StateT SortSt Sem (Array Ht):=sortPriv% PySem.Builtin.mergeLo
noncomputable def zd9:Array Ht->Array Ht->StateT SortSt Sem (Array Ht):=sortPriv% PySem.Builtin.mergeHi
structure MI(Y:Ht->Nat)(a b out:Array Ht)(ia ib:Nat):Prop where
 la:ia<=a.size
 lb:ib<=b.size
 perm:(out.toList++a.toList.drop ia++b.toList.drop ib).Perm (a.toList++b.toList)
 srt:out.toList.Pairwise λx y=>Y x<=Y y
 oa:∀x∈out.toList,∀y∈a.toList.drop ia,Y x<=Y y
 ob:∀x∈out.toList,∀y∈b.toList.drop ib,Y x<=Y y
structure MR(Y:Ht->Nat)(a b r:Array Ht):Prop where
 perm:r.toList.Perm (a.toList++b.toList)
 srt:r.toList.Pairwise λx y=>Y x<=Y y
def j8{Y:Ht->Nat}{a:Array Ht}{i:Nat}{y:Ht}(h:y∈a.toList.drop i):∃j,i<=j/\j<a.size/\a[j]? = some y/\Rk Y a j=Y y:=by
 obtain⟨k,hk⟩:=fAG.mp h;rw[fCC] at hk;have hk':a[i+k]? = some y:=by rw[<-gV];exact hk
 have hlt:i+k<a.size:=by
  have:=(fY.mp hk).1
  simpa using this
 exact qJ (i+k) zjX hlt hk' (by unfold Rk;rw[hk'])
def qP{Y:Ht->Nat}{a:Array Ht}{i:Nat}{y:Ht}(h:y∈a.toList.take i):∃j,j<i/\j<a.size/\a[j]? = some y/\Rk Y a j=Y y:=by
 obtain⟨k,hk⟩:=fAG.mp h;rw[List.getElem?_take] at hk;split at hk
 .have hk':a[k]? = some y:=by rw[<-gV];exact hk
  have hlt:k<a.size:=by
   have:=(fY.mp hk).1
   simpa using this
  exact qJ k (zsf (by assumption)) hlt hk' (by unfold Rk;rw[hk'])
 .cases hk
def zfR{a:Array Ht}{i:Nat}{x:Ht}(h:a[i]? = some x):a.toList.drop i=x::a.toList.drop (i+1):=by
 have h':a.toList[i]? = some x:=by rw[gV];exact h
 obtain⟨hi,e⟩:=fY.mp h';rw[pR hi,e]
def zkK{a:Array Ht}{i:Nat}{x:Ht}(h:a[i]? = some x):a.toList.take (i+1)=a.toList.take i++[x]:=by
 have h':a.toList[i]? = some x:=by rw[gV];exact h
 rw[fCG,h'];rfl
section
variable{Y:Ht->Nat}{a b out:Array Ht}{ia ib:Nat}
def MI.pushB(M:MI Y a b out ia ib)(SA:Srt Y a 0 a.size)(SBb:Srt Y b 0 b.size){x:Ht}(hx:b[ib]? = some x)(hib:ib<b.size)(hle:ia<a.size->Y x<=Rk Y a ia):MI Y a b (out.push x) ia (ib+1):=by
 have ex:Rk Y b ib=Y x:=by unfold Rk;rw[hx]
 have hd:=zfR hx;refine⟨M.la,zoS hib,?_,?_,?_,?_⟩
 .refine List.Perm.trans ?_ M.perm;rw[hd,gF];simp only[gI,List.singleton_append];refine List.Perm.append_left _ ?_;exact(List.perm_middle (l₁:=List.drop ia a.toList)).symm
 .rw[gF,gC];exact zq M.srt (fAN _ _) (λy hy z hz=>by rw[fJ.mp hz];exact M.ob y hy x (by rw[hd];exact fA))
 .intro y hy z hz;rw[gF,fR,fJ] at hy
  rcases hy with hy|rfl
  .exact M.oa y hy z hz
  .refine zE (j8 (Y:=Y) hz) λj h1 h2 _ h3=>?_;have:=SA ia j (fT _) h1 h2;have:=hle (zqx h1 h2);exact zvd h3 (by assumption) this
 .intro y hy z hz;rw[gF,fR,fJ] at hy
  rcases hy with hy|rfl
  .exact M.ob y hy z (by rw[hd];exact fB _ hz)
  .refine zE (j8 (Y:=Y) hz) λj h1 h2 _ h3=>?_;have:=SBb ib j (fT _) (zqp h1) h2;exact zqz ex h3 this
def MI.pushA(M:MI Y a b out ia ib)(SA:Srt Y a 0 a.size)(SBb:Srt Y b 0 b.size){x:Ht}(hx:a[ia]? = some x)(hia:ia<a.size)(hle:ib<b.size->Y x<=Rk Y b ib):MI Y a b (out.push x) (ia+1) ib:=by
 have ex:Rk Y a ia=Y x:=by unfold Rk;rw[hx]
 have hd:=zfR hx;refine⟨zoS hia,M.lb,?_,?_,?_,?_⟩
 .refine List.Perm.trans ?_ M.perm;rw[hd,gF];simp only[gI,List.cons_append];exact List.Perm.refl _
 .rw[gF,gC];exact zq M.srt (fAN _ _) (λy hy z hz=>by rw[fJ.mp hz];exact M.oa y hy x (by rw[hd];exact fA))
 .intro y hy z hz;rw[gF,fR,fJ] at hy
  rcases hy with hy|rfl
  .exact M.oa y hy z (by rw[hd];exact fB _ hz)
  .refine zE (j8 (Y:=Y) hz) λj h1 h2 _ h3=>?_;have:=SA ia j (fT _) (zqp h1) h2;exact zqz ex h3 this
 .intro y hy z hz;rw[gF,fR,fJ] at hy
  rcases hy with hy|rfl
  .exact M.ob y hy z hz
  .refine zE (j8 (Y:=Y) hz) λj h1 h2 _ h3=>?_;have:=SBb ib j (fT _) h1 h2;have:=hle (zqx h1 h2);exact zvd h3 (by assumption) this
def zbX{a:Array Ht}{i k:Nat}(h:i+k<a.size):a.extract i (i+(k+1))=(a.extract i (i+k)).push a[i+k]:=by
 apply Array.ext';have e:a[i+k]? = some a[i+k]:=getElem?_pos a (i+k) h;have e':a.toList[i+k]? = some a[i+k]:=by rw[gV];exact e
 rw[gF,pO,pO];simp only[pS,fBK];rw[fCG,fCC,e'];rfl
def zbW(a:Array Ht)(i:Nat):a.extract i i = #[]:=by
 apply Array.ext';rw[pO];simp
def append_push(u v:Array Ht)(x:Ht):u++v.push x=(u++v).push x:=by rw[Array.append_push]
def MI.w4(SA:Srt Y a 0 a.size)(SBb:Srt Y b 0 b.size)(M:MI Y a b out ia ib)(k:Nat):ia+k<=a.size->(∀i,i<k->ib<b.size->Rk Y a (ia+i)<=Rk Y b ib)->MI Y a b (out++a.extract ia (ia+k)) (ia+k) ib:=by
 induction k with
 | zero=>intro _ _;rw[fA3,zbW];simpa using M
 | succ k ih=>
  intro hk hle;have ih:=ih (zuJ hk) λi hi=>hle i (zuu hi);have e:a[ia+k]? = some a[ia+k]:=getElem?_pos a (ia+k) (zmA hk);rw[zbX (zmA hk),append_push];exact ih.pushA SA SBb e (zmA hk) λh=>fF (pA (by unfold Rk;rw[e])) (hle k zoQ h)
def MI.w5(SA:Srt Y a 0 a.size)(SBb:Srt Y b 0 b.size)(M:MI Y a b out ia ib)(k:Nat):ib+k<=b.size->(∀i,i<k->ia<a.size->Rk Y b (ib+i)<=Rk Y a ia)->MI Y a b (out++b.extract ib (ib+k)) ia (ib+k):=by
 induction k with
 | zero=>intro _ _;rw[fA3,zbW];simpa using M
 | succ k ih=>
  intro hk hle;have ih:=ih (zuJ hk) λi hi=>hle i (zuu hi);have e:b[ib+k]? = some b[ib+k]:=getElem?_pos b (ib+k) (zmA hk);rw[zbX (zmA hk),append_push];exact ih.pushB SA SBb e (zmA hk) λh=>by have:=hle k zoQ h;unfold Rk at this;rw[e] at this;exact this
def qX(a:Array Ht)(i:Nat):(a.extract i a.size).toList=a.toList.drop i:=by
 rw[pO,pS];exact fA2 (by simp)
def MI.done(M:MI Y a b out ia ib)(SA:Srt Y a 0 a.size)(SBb:Srt Y b 0 b.size)(h:ia=a.size\/ib=b.size):MR Y a b (out++a.extract ia a.size++b.extract ib b.size):=by
 refine⟨by rw[gN,gN,qX,qX];exact M.perm,?_⟩;rw[gN,gN,qX,qX,gC,gC];refine zq (zq M.srt ((jT SA).drop) (λx hx y hy=>M.oa x hx y hy)) ((jT SBb).drop) (λx hx y hy=>?_)
 rcases fR.mp hx with hx|hx
 .exact M.ob x hx y hy
 .rcases h with h|h
  .rw[List.drop_eq_nil_of_le (by simp[h])] at hx;cases hx
  .rw[List.drop_eq_nil_of_le (by simp[h])] at hy;cases hy
def MI.lastA(M:MI Y a b out ia ib)(SA:Srt Y a 0 a.size)(SBb:Srt Y b 0 b.size)(h:ia+1=a.size)(hl:∀i,i<b.size->Rk Y b i<=Rk Y a (a.size-1)):MR Y a b (out++b.extract ib b.size++a.extract ia a.size):=by
 refine⟨?_,?_⟩
 .refine List.Perm.trans ?_ M.perm;simp only[gN,qX,gI];exact List.Perm.append_left _ List.perm_append_comm
 .rw[gN,gN,qX,qX,gC,gC];refine zq (zq M.srt ((jT SBb).drop) (λx hx y hy=>M.ob x hx y hy)) ((jT SA).drop) (λx hx y hy=>?_)
  rcases fR.mp hx with hx|hx
  .exact M.oa x hx y hy
  .refine zE (j8 (Y:=Y) hx) λj h1 h2 _ h3=>?_;refine zE (j8 (Y:=Y) hy) λj' h1' h2' _ h3'=>?_;have:=hl j h2;rw[show j'=a.size-1 by exact zza h h1' h2'] at h3';exact zqz h3 h3' this
end
structure Gl(st st':SortSt):Prop where
 arr:Hs st'=Hs st
 kind:kindOf st'=kindOf st
 pend:Ho st'=Ho st
 failed:failedOf st'=failedOf st
def Gl.refl(st:SortSt):Gl st st:=⟨rfl,rfl,rfl,rfl⟩
def Gl.trans{x y z:SortSt}(h:Gl x y)(h':Gl y z):Gl x z:=⟨h'.arr.trans h.arr,h'.kind.trans h.kind,h'.pend.trans h.pend,h'.failed.trans h.failed⟩
def Gl.gal(st:SortSt)(g:Nat):Gl st (zjx st g):=⟨rfl,rfl,rfl,rfl⟩
def SB.gl{V:SortKind}{a₀:Array Ht}{st st':SortSt}(h:SB V a₀ st)(g:Gl st st'):SB V a₀ st':=⟨by rw[g.arr];exact h.perm,by rw[g.kind];exact h.kind,by rw[g.failed];exact h.failed⟩
noncomputable abbrev St1:=Option (Array Ht)×Array Ht×Nat×Nat×Nat×Nat
noncomputable abbrev St2:=Option (Array Ht)×Array Ht×Nat×Nat×Nat×Nat×Nat
noncomputable abbrev St0:=Option (Array Ht)×Array Ht×Nat×Nat×Nat
noncomputable def t2(a b out:Array Ht)(ia ib mg ac bc:Nat):StateT SortSt Sem (ForInStep St2):=do
 let x <-elem' a ia
 if (ia+1+1==a.size)=true then pure (.done (some (out.push x++b.extract ib b.size++a.extract (ia+1) a.size),out.push x,ia+1,ib,mg,ac,bc))
 else if (decide (ac<7)&&decide (bc<7))=true then pure (.done (none,out.push x,ia+1,ib,mg,ac,bc)) else pure (.yield (none,out.push x,ia+1,ib,mg,ac,bc))
noncomputable def t1(a b out:Array Ht)(ia ib mg ac bc:Nat):StateT SortSt Sem (ForInStep St2):=do
 let x <-elem' b ib
 if (ib+1==b.size)=true then pure (.done (some (out.push x++a.extract ia a.size++b.extract (ib+1) b.size),out.push x,ia,ib+1,mg,ac,bc))
 else do
  let y <-elem' a ia
  let r <-zac true y b (ib+1) (b.size-(ib+1)) 0
  match r with
  | some k=>
   if k>0 then
    if (ib+1+k==b.size)=true then pure (.done (some (out.push x++b.extract (ib+1) (ib+1+k)++a.extract ia a.size++b.extract (ib+1+k) b.size),out.push x++b.extract (ib+1) (ib+1+k),ia,ib+1+k,mg,ac,k))
    else t2 a b (out.push x++b.extract (ib+1) (ib+1+k)) ia (ib+1+k) mg ac k
   else t2 a b (out.push x) ia (ib+1) mg ac k
  | _=>pure (.done (some (out.push x++a.extract ia a.size++b.extract (ib+1) b.size),out.push x,ia,ib+1,mg,ac,bc))
noncomputable def g2(a b out:Array Ht)(ia ib mg ac bc:Nat):StateT SortSt Sem (ForInStep St2):=do
 zfq mg
 let x <-elem' b ib
 let r <-zac false x a ia (a.size-ia) 0
 match r with
 | some k=>
  if k>0 then
   if (ia+k+1==a.size)=true then pure (.done (some (out++a.extract ia (ia+k)++b.extract ib b.size++a.extract (ia+k) a.size),out++a.extract ia (ia+k),ia+k,ib,mg,k,bc))
   else if (ia+k==a.size)=true then pure (.done (some (out++a.extract ia (ia+k)++a.extract (ia+k) a.size++b.extract ib b.size),out++a.extract ia (ia+k),ia+k,ib,mg,k,bc))
   else t1 a b (out++a.extract ia (ia+k)) (ia+k) ib mg k bc
  else t1 a b out ia ib mg k bc
 | _=>pure (.done (some (out++a.extract ia a.size++b.extract ib b.size),out,ia,ib,mg,ac,bc))
noncomputable def b2(a b:Array Ht)(c:St2):StateT SortSt Sem (ForInStep St2):=
 if c.2.2.2.2.1>1 then g2 a b c.2.1 c.2.2.1 c.2.2.2.1 (c.2.2.2.2.1-1) c.2.2.2.2.2.1 c.2.2.2.2.2.2 else g2 a b c.2.1 c.2.2.1 c.2.2.2.1 c.2.2.2.2.1 c.2.2.2.2.2.1 c.2.2.2.2.2.2
noncomputable def b1(a b:Array Ht)(mg:Nat)(c:St1):StateT SortSt Sem (ForInStep St1):=do
 let x <-elem' b c.2.2.2.1
 let y <-elem' a c.2.2.1
 let r <-lt' x y
 match r with
 | some w=>
  if w=true then do
   let x <-elem' b c.2.2.2.1
   if (c.2.2.2.1+1==b.size)=true then pure (.done (some (c.2.1.push x++a.extract c.2.2.1 a.size++b.extract (c.2.2.2.1+1) b.size),c.2.1.push x,c.2.2.1,c.2.2.2.1+1,0,c.2.2.2.2.2+1))
   else if c.2.2.2.2.2+1>=mg then pure (.done (none,c.2.1.push x,c.2.2.1,c.2.2.2.1+1,0,c.2.2.2.2.2+1)) else pure (.yield (none,c.2.1.push x,c.2.2.1,c.2.2.2.1+1,0,c.2.2.2.2.2+1))
  else do
   let x <-elem' a c.2.2.1
   if (c.2.2.1+1+1==a.size)=true then pure (.done (some (c.2.1.push x++b.extract c.2.2.2.1 b.size++a.extract (c.2.2.1+1) a.size),c.2.1.push x,c.2.2.1+1,c.2.2.2.1,c.2.2.2.2.1+1,0))
   else if c.2.2.2.2.1+1>=mg then pure (.done (none,c.2.1.push x,c.2.2.1+1,c.2.2.2.1,c.2.2.2.2.1+1,0)) else pure (.yield (none,c.2.1.push x,c.2.2.1+1,c.2.2.2.1,c.2.2.2.2.1+1,0))
 | _=>pure (.done (some (c.2.1++a.extract c.2.2.1 a.size++b.extract c.2.2.2.1 b.size),c.2.1,c.2.2.1,c.2.2.2.1,c.2.2.2.2.1,c.2.2.2.2.2))
noncomputable def b0(a b:Array Ht)(c:St0):StateT SortSt Sem (ForInStep St0):=do
 let r <-forIn [0:a.size+b.size] ((none,c.2.1,c.2.2.1,c.2.2.2.1,0,0):St1) λ_ r=>b1 a b c.2.2.2.2 r
 match r.1 with
 | some v=>pure (.done (some v,r.2.1,r.2.2.1,r.2.2.2.1,c.2.2.2.2))
 | none=>do
  liftM (rule "list.sort.gallop")
  let q <-forIn [0:a.size+b.size] ((none,r.2.1,r.2.2.1,r.2.2.2.1,c.2.2.2.2+1,r.2.2.2.2.1,r.2.2.2.2.2):St2) λ_ q=>b2 a b q
  match q.1 with
  | some v=>pure (.done (some v,q.2.1,q.2.2.1,q.2.2.2.1,q.2.2.2.2.1))
  | none=>do
   zfq (q.2.2.2.2.1+1)
   pure (.yield (none,q.2.1,q.2.2.1,q.2.2.2.1,q.2.2.2.2.1+1))
noncomputable def mLo(a b:Array Ht):StateT SortSt Sem (Array Ht):=do
 liftM (rule "list.sort.merge-lo")
 let x <-elem' b 0
 if (1==b.size)=true then pure (#[x]++a.extract 0 a.size++b.extract 1 b.size)
 else if (0+1==a.size)=true then pure (#[x]++b.extract 1 b.size++a.extract 0 a.size)
 else do
  let g <-get
  let q <-forIn [0:a.size+b.size] ((none,#[x],0,1,gallopOf g):St0) λ_ q=>b0 a b q
  match q.1 with
  | some v=>pure v
  | none=>liftM (unsupported "internal:list.sort.merge-bound" : Sem (Array Ht))
def zrz(a b:Array Ht):zea a b=mLo a b:=by kernel_rfl
section
variable{prog:Hh}{w:World}{A:Around}{E:Value->Shared->Prop}{s:Shared}{a₀:Array Ht}{V:SortKind}{Y:Ht->Nat}{a b:Array Ht}
def zgs{st:SortSt}{g:Nat}{Q:Unit->SortSt->Prop}(h:Q () (zjx st g)):wpS (model prog w) A E s (zfq g) Q st:=by
 rw[zoq];exact wpS_modify h
structure MG(prog:Hh)(w:World)(A:Around)(s:Shared)(V:SortKind)(Y:Ht->Nat)(a₀ a b:Array Ht):Prop where
 H:qq prog w A s V Y a₀
 ha:∀p∈a.toList,p∈a₀.toList
 hb:∀p∈b.toList,p∈a₀.toList
 SA:Srt Y a 0 a.size
 SBb:Srt Y b 0 b.size
 first:∀i,i<a.size->Rk Y b 0<=Rk Y a i
 last:∀i,i<b.size->Rk Y b i<=Rk Y a (a.size-1)
def zic{x:Array Ht}(h:Srt Y x 0 x.size)(i:Nat)(hi:i<=x.size):Srt Y x i (i+(x.size-i)):=λu v h1 h2 h3=>h u v (fT _) h2 (zzS hi h3)
def at_some{x:Array Ht}{i:Nat}(h:i<x.size):∃p,x[i]? = some p/\p∈x.toList/\Rk Y x i=Y p:=by
 have e:x[i]? = some x[i]:=getElem?_pos x i h;exact zv (x[i]) e (by simp) (by unfold Rk;rw[e])
def InP(Y:Ht->Nat)(a b:Array Ht)(r0:Nat)(out:Array Ht)(ia ib:Nat):Prop:=MI Y a b out ia ib/\ia+1<a.size/\ib<b.size/\(a.size-ia)+(b.size-ib)<=r0
def zsy(Y:Ht->Nat)(a b:Array Ht)(r0:Nat)(c:St2):Prop:=(∃r,c.1=some r/\MR Y a b r)\/(c.1=none/\InP Y a b r0 c.2.1 c.2.2.1 c.2.2.2.1)
def zj0(Y:Ht->Nat)(a b:Array Ht)(r0:Nat)(st:SortSt)(r:ForInStep St2)(st':SortSt):Prop:=Gl st st'/\match r with
 | .done c=>zsy Y a b r0 c
 | .yield c=>c.1=none/\InP Y a b r0 c.2.1 c.2.2.1 c.2.2.2.1
def ztr(M:MG prog w A s V Y a₀ a b){st st0:SortSt}(g:Gl st0 st){out:Array Ht}{ia ib mg ac bc r0:Nat}(I:InP Y a b r0 out ia ib)(hle:Rk Y a ia<=Rk Y b ib):wpS (model prog w) A E s (t2 a b out ia ib mg ac bc) (zj0 Y a b r0 st0) st:=by
 refine zl (at_some (Y:=Y) (x:=a) (i:=ia) (by have:=I.2.1;exact zgI this)) λx hx hm hr=>?_;have I1:=I.1.pushA M.SA M.SBb hx (by have:=I.2.1;exact zgI this) λ_=>zu1 hle hr;refine zy I λ_ h1 h2 h3=>?_;refine Hl (jb hx ?_)
 by_cases he:ia+1+1=a.size
 .rw[if_pos (by simpa using he)];exact Hm ⟨g,.inl (zc _ rfl (I1.lastA M.SA M.SBb he M.last))⟩
 .rw[if_neg (by simpa using he)];have I2:InP Y a b r0 (out.push x) (ia+1) ib:=(zt I1 (zuj h1 he) h2 (zBe h3))
  split
  .exact Hm ⟨g,.inr ⟨rfl,I2⟩⟩
  .exact Hm (zq g rfl I2)
def ztq(M:MG prog w A s V Y a₀ a b){st st0:SortSt}(hB:SB V a₀ st)(g:Gl st0 st){out:Array Ht}{ia ib mg ac bc r0:Nat}(I:InP Y a b r0 out ia ib)(hle:Rk Y b ib<=Rk Y a ia):wpS (model prog w) A E s (t1 a b out ia ib mg ac bc) (zj0 Y a b r0 st0) st:=by
 refine zy I λI0 h1 h2 h3=>?_;refine zl (at_some (Y:=Y) (x:=b) (i:=ib) h2) λx hx hm hr=>?_;refine zl (at_some (Y:=Y) (x:=a) (i:=ia) (zgI h1)) λy hy hmy hry=>?_;have I1:=I0.pushB M.SA M.SBb hx h2 λ_=>zu1 hle hr;refine Hl (jb hx ?_)
 by_cases he:ib+1=b.size
 .rw[if_pos (by simpa using he)];exact Hm ⟨g,.inl (zc _ rfl (I1.done M.SA M.SBb (.inr he)))⟩
 .rw[if_neg (by simpa using he)];refine Hl (jb hy ?_);refine Hl (kR M.H hB (M.ha y hmy) M.hb (zxV h2) (zuz h2 he) (zic M.SBb _ (zoS h2)) λk hk hlt hge=>?_);have hlt':∀i,i<k->Rk Y b (ib+1+i)<Y y:=λi hi=>by have:=hlt i hi;unfold byd at this;simpa using this
  have hge':∀i,k<=i->i<b.size-(ib+1)->Y y<=Rk Y b (ib+1+i):=λi h4 h5=>by have:=hge i h4 h5;unfold byd at this;simpa using this
  dsimp only
  by_cases hk0:k>0
  .rw[if_pos hk0];have I2:=MI.w5 M.SA M.SBb I1 k (zzC hk hk0) λi hi _=>by have:=hlt' i hi;exact zqy hry this
   by_cases he2:ib+1+k=b.size
   .rw[if_pos (by simpa using he2)];exact Hm ⟨g,.inl (zc _ rfl (I2.done M.SA M.SBb (.inr he2)))⟩
   .rw[if_neg (by simpa using he2)];refine ztr M g (zt I2 h1 (zzB hk hk0 he2) (zBG h3)) ?_;have:=hge' k (fN _) (zzp hk hk0 he2);exact zqw hry this
  .rw[if_neg hk0];have hk1:k=0:=zua hk0;subst hk1;refine ztr M g (zt I1 h1 (zur h2 he) (zBf h3)) ?_;have:=hge' 0 (fN _) (zuz h2 he);simp only[fA3] at this;exact zqw hry this
def ztp(M:MG prog w A s V Y a₀ a b){st st0:SortSt}(hB:SB V a₀ st)(g:Gl st0 st){out:Array Ht}{ia ib mg ac bc r0:Nat}(I:InP Y a b r0 out ia ib):wpS (model prog w) A E s (g2 a b out ia ib mg ac bc) (zj0 Y a b r0 st0) st:=by
 refine zy I λI0 h1 h2 h3=>?_;refine zl (at_some (Y:=Y) (x:=b) (i:=ib) h2) λx hx hm hr=>?_;refine Hl (zgs ?_);have g':=g.trans (Gl.gal st mg);have hB':=hB.gl (Gl.gal st mg);refine Hl (jb hx ?_);refine Hl (kR M.H hB' (M.hb x hm) M.ha (zxH h1) (zum h1) (zic M.SA _ (zxJ h1)) λk hk hlt hge=>?_);have hlt':∀i,i<k->Rk Y a (ia+i)<=Y x:=λi hi=>by have:=hlt i hi;unfold byd at this;simpa using this
 have hge':∀i,k<=i->i<a.size-ia->Y x<Rk Y a (ia+i):=λi h4 h5=>by have:=hge i h4 h5;unfold byd at this;simpa using this
 dsimp only
 by_cases hk0:k>0
 .rw[if_pos hk0];have I2:=MI.w4 M.SA M.SBb I0 k (zzE hk hk0) λi hi _=>by have:=hlt' i hi;exact zsq hr this
  by_cases he2:ia+k+1=a.size
  .rw[if_pos (by simpa using he2)];exact Hm ⟨g',.inl (zc _ rfl (I2.lastA M.SA M.SBb he2 M.last))⟩
  .rw[if_neg (by simpa using he2)]
   by_cases he3:ia+k=a.size
   .rw[if_pos (by simpa using he3)];exact Hm ⟨g',.inl (zc _ rfl (I2.done M.SA M.SBb (.inl he3)))⟩
   .rw[if_neg (by simpa using he3)];refine ztq M hB' g' (zt I2 (zzD hk hk0 he2 he3) h2 (zBH h3)) ?_;have:=hge' k (fN _) (zzq hk hk0 he3);exact zoU hr this
 .rw[if_neg hk0];have hk1:k=0:=zua hk0;subst hk1;refine ztq M hB' g' (zt I0 (zxI h1) h2 (zBg h3)) ?_;have:=hge' 0 (fN _) (zum h1);simp only[fA3] at this;exact zoU hr this
def zwl(M:MG prog w A s V Y a₀ a b){st st0:SortSt}(hB:SB V a₀ st)(g:Gl st0 st){c:St2}{r0:Nat}(I:InP Y a b r0 c.2.1 c.2.2.1 c.2.2.2.1):wpS (model prog w) A E s (b2 a b c) (zj0 Y a b r0 st0) st:=by
 unfold b2;split
 .exact ztp M hB g I
 .exact ztp M hB g I
def zwk(M:MG prog w A s V Y a₀ a b){st:SortSt}(hB:SB V a₀ st){c:St1}{mg r0 x:Nat}(I:InP Y a b (r0-x) c.2.1 c.2.2.1 c.2.2.2.1)(hx0:x<=r0){Q:ForInStep St1->SortSt->Prop}
  (hd:∀r,MR Y a b r->∀rest,Q (.done (some r,rest)) st)(hn:∀c':St1,c'.1=none->InP Y a b (r0-(x+1)) c'.2.1 c'.2.2.1 c'.2.2.2.1->Q (.done c') st/\Q (.yield c') st):wpS (model prog w) A E s (b1 a b mg c) Q st:=by
 refine zy I λI0 h1 h2 h3=>?_;refine zl (at_some (Y:=Y) (x:=b) (i:=c.2.2.2.1) h2) λx' hx hm hr=>?_;refine zl (at_some (Y:=Y) (x:=a) (i:=c.2.2.1) (zgI h1)) λy hy hmy hry=>?_;refine Hl (jb hx (Hl (jb hy (Hl (zom M.H hB (M.hb _ hm) (M.ha _ hmy) ?_)))));dsimp only
 by_cases hw:Y x'<Y y
 .rw[Hy hw,if_pos rfl];have I1:=I0.pushB M.SA M.SBb hx h2 λ_=>zqy hry hw;refine Hl (jb hx ?_)
  by_cases he:c.2.2.2.1+1=b.size
  .rw[if_pos (by simpa using he)];exact Hm (hd _ (I1.done M.SA M.SBb (.inr he)) _)
  .rw[if_neg (by simpa using he)];have:=hn (none,c.2.1.push x',c.2.2.1,c.2.2.2.1+1,0,c.2.2.2.2.2+1) rfl (zt I1 h1 (by dsimp only;exact zur h2 he) (by dsimp only;exact zBP h2 h3));split
   .exact Hm this.1
   .exact Hm this.2
 .rw[Hx hw,if_neg (by simp)];have I1:=I0.pushA M.SA M.SBb hy (zgI h1) λ_=>zzA hr hw;refine Hl (jb hy ?_)
  by_cases he:c.2.2.1+1+1=a.size
  .rw[if_pos (by simpa using he)];exact Hm (hd _ (I1.lastA M.SA M.SBb he M.last) _)
  .rw[if_neg (by simpa using he)];have:=hn (none,c.2.1.push y,c.2.2.1+1,c.2.2.2.1,c.2.2.2.2.1+1,0) rfl (zt I1 (by dsimp only;exact zuj h1 he) h2 (by dsimp only;exact zBM h1 h3));split
   .exact Hm this.1
   .exact Hm this.2
def zwj(M:MG prog w A s V Y a₀ a b){st st0:SortSt}(hB:SB V a₀ st)(g:Gl st0 st){c:St0}{r0:Nat}(I:InP Y a b r0 c.2.1 c.2.2.1 c.2.2.2.1){Q:ForInStep St0->SortSt->Prop}
  (hd:∀r st',Gl st0 st'->MR Y a b r->∀rest,Q (.done (some r,rest)) st')(hn:∀(c':St0) st',Gl st0 st'->c'.1=none->InP Y a b (r0-1) c'.2.1 c'.2.2.1 c'.2.2.2.1->Q (.yield c') st'):wpS (model prog w) A E s (b0 a b c) Q st:=by
 have hbig:1<=a.size+b.size:=by have:=I.2.1;exact zy9 this
 refine Hl (Hn (Hp (I:=λx c' st'=>st'=st/\c'.1=none/\InP Y a b (r0-x) c'.2.1 c'.2.2.1 c'.2.2.2.1/\x<=r0)
  (Q:=λc' st'=>st'=st/\((∃r,c'.1=some r/\MR Y a b r)\/(c'.1=none/\InP Y a b (r0-1) c'.2.1 c'.2.2.1 c'.2.2.2.1))) ?step ?fin (zt rfl rfl (by simpa using I) (fT _))) ?post)
 case fin=>
  intro c' st' hR1;refine zy hR1 λe0_0 h1 h2 h3=>?_;subst e0_0;exact⟨rfl,.inr (jh h1 h2.1 h2.2.1 h2.2.2.1 (by have:=h2.2.2.2;exact zBd this))⟩
 case step=>
  intro x c' st' _ hx hR2;refine zy hR2 λe1_0 h1 h2 h3=>?_;subst e1_0;refine zwk M hB h2 h3 (λr hr rest=>⟨rfl,.inl (zc r rfl hr)⟩) λc'' hc I''=>(jh ⟨rfl,.inr (jh hc I''.1 I''.2.1 I''.2.2.1 (by have:=I''.2.2.2;exact zBF this))⟩ rfl hc I'' ?_)
  have:=I''.2.2.2;have:=I''.2.1;have:=I''.2.2.1;exact zBI (by assumption) (by assumption)
 case post=>
  rintro c' st' ⟨rfl,h⟩
  rcases h with⟨r,h1,h2⟩|⟨h1,h2⟩
  .rw[h1];exact Hm (hd r _ g h2 _)
  .rw[h1];refine Hl (wpS_lift (Hb ⟨rfl,?_⟩));refine Hl (Hn (Hp (I:=λx q st''=>Gl st0 st''/\SB V a₀ st''/\q.1=none/\InP Y a b (r0-1) q.2.1 q.2.2.1 q.2.2.2.1) (Q:=λq st''=>Gl st0 st''/\zsy Y a b (r0-1) q) ?step2 ?fin2 (zt g hB rfl h2)) ?post2)
   case fin2=>
    intro q st'' hR3;refine zy hR3 λg' hB' h4 h5=>?_;exact⟨g',.inr ⟨h4,h5⟩⟩
   case step2=>
    intro x q st'' _ hx hR4;refine zy hR4 λg' hB' h4 h5=>?_;refine Hn (zwl M hB' g' h5) λr st3 hl=>?_;cases r with
    | done q'=>exact hl
    | yield q'=>exact zq hl.1 ⟨by rw[hl.1.arr,<-g'.arr];exact hB'.perm,by rw[hl.1.kind,<-g'.kind];exact hB'.kind,by rw[hl.1.failed,<-g'.failed];exact hB'.failed⟩ hl.2
   case post2=>
    rintro q st'' ⟨g',h⟩
    rcases h with⟨r,h4,h5⟩|⟨h4,h5⟩
    .rw[h4];exact Hm (hd r _ g' h5 _)
    .rw[h4];exact Hl (zgs (Hm (hn _ _ (g'.trans (Gl.gal _ _)) rfl h5)))
def zlZ(M:MG prog w A s V Y a₀ a b){st:SortSt}(hB:SB V a₀ st)(h1:1<=a.size)(h2:1<=b.size){Q:Array Ht->SortSt->Prop}(h:∀r st',Gl st st'->MR Y a b r->Q r st'):wpS (model prog w) A E s (zea a b) Q st:=by
 rw[zrz];refine Hl (wpS_lift (Hb ⟨rfl,?_⟩));refine zl (at_some (Y:=Y) (x:=b) (i:=0) (zrZ h2)) λx hx hm hr=>?_;have I0:MI Y a b #[] 0 0:=⟨fT _,fT _,by simp,by simp,by simp,by simp⟩
 have I1:MI Y a b #[x] 0 1:=I0.pushB M.SA M.SBb hx (zrZ h2) λh=>by rw[<-hr];exact M.first 0 h
 refine Hl (jb hx ?_)
 by_cases he:1=b.size
 .rw[if_pos (by simpa using he)];exact Hm (h _ _ (.refl _) (I1.done M.SA M.SBb (.inr he)))
 .rw[if_neg (by simpa using he)]
  by_cases he2:0+1=a.size
  .rw[if_pos (by simpa using he2)];exact Hm (h _ _ (.refl _) (I1.lastA M.SA M.SBb he2 M.last))
  .rw[if_neg (by simpa using he2)];refine Hl (wpS_get ?_);refine Hl (Hn (Hp (I:=λx q st'=>Gl st st'/\q.1=none/\InP Y a b (a.size+b.size-x) q.2.1 q.2.2.1 q.2.2.2.1) (Q:=λq st'=>Gl st st'/\∃r,q.1=some r/\MR Y a b r) ?step ?fin (jR (.refl _) rfl I1 (by dsimp only;exact zwt h1 he2) (by dsimp only;exact zwv h2 he) (by dsimp only;exact zyD))) ?post)
   case fin=>
    intro q st' hR5;refine jg hR5 λg h3 h4=>?_;exfalso;have:=h4.2.2.2;have:=h4.2.1;have:=h4.2.2.1;exact zAc (by assumption) (by assumption)
   case step=>
    intro x q st' _ hx hR6;refine jg hR6 λg h3 h4=>?_;refine zwj M (hB.gl g) g h4 (λr st'' g' hr rest=>(kD g' r rfl hr)) λc' st'' g' h5 h6=>(jR g' h5 h6.1 h6.2.1 h6.2.2.1 (by have:=h6.2.2.2;exact zBc this))
   case post=>
    intro q st' hR7;refine qT hR7 λg r h3 h4=>?_;rw[h3];exact Hm (h r st' g h4)
end
structure MH(Y:Ht->Nat)(a b out:Array Ht)(na nb:Nat):Prop where
 la:na<=a.size
 lb:nb<=b.size
 perm:(a.toList.take na++b.toList.take nb++out.toList.reverse).Perm (a.toList++b.toList)
 srt:out.toList.reverse.Pairwise λx y=>Y x<=Y y
 oa:∀x∈out.toList,∀y∈a.toList.take na,Y y<=Y x
 ob:∀x∈out.toList,∀y∈b.toList.take nb,Y y<=Y x
section
variable{Y:Ht->Nat}{a b out:Array Ht}{na nb:Nat}
def MH.pushB(M:MH Y a b out na (nb+1))(SA:Srt Y a 0 a.size)(SBb:Srt Y b 0 b.size){x:Ht}(hx:b[nb]? = some x)(hle:0<na->Rk Y a (na-1)<=Y x):MH Y a b (out.push x) na nb:=by
 have ex:Rk Y b nb=Y x:=by unfold Rk;rw[hx]
 have hd:=zkK hx;have hnb:nb<b.size:=(pN.mp hx).1;refine⟨M.la,zgJ hnb,?_,?_,?_,?_⟩
 .refine List.Perm.trans ?_ M.perm;rw[hd,gF];simp
 .rw[gF,fB7];refine gK.mpr ⟨λy hy=>?_,M.srt⟩;exact M.ob y (fBY.mp hy) x (by rw[hd];simp)
 .intro y hy z hz;rw[gF,fR,fJ] at hy
  rcases hy with hy|rfl
  .exact M.oa y hy z hz
  .refine zE (qP (Y:=Y) hz) λj h1 h2 _ h3=>?_;have:=SA j (na-1) (fT _) (zqq h1) (by have:=M.la;exact zuZ h1 this);have:=hle (zuA h1);exact zvb h3 (by assumption) this
 .intro y hy z hz;rw[gF,fR,fJ] at hy
  rcases hy with hy|rfl
  .exact M.ob y hy z (by rw[hd];exact gP _ hz)
  .refine zE (qP (Y:=Y) hz) λj h1 h2 _ h3=>?_;have:=SBb j nb (fT _) (zgJ h1) hnb;exact zvc ex h3 this
def MH.pushA(M:MH Y a b out (na+1) nb)(SA:Srt Y a 0 a.size)(SBb:Srt Y b 0 b.size){x:Ht}(hx:a[na]? = some x)(hle:0<nb->Rk Y b (nb-1)<=Y x):MH Y a b (out.push x) na nb:=by
 have ex:Rk Y a na=Y x:=by unfold Rk;rw[hx]
 have hd:=zkK hx;have hna:na<a.size:=(pN.mp hx).1;refine⟨zgJ hna,M.lb,?_,?_,?_,?_⟩
 .refine List.Perm.trans ?_ M.perm;rw[hd,gF];simp only[gI,fB7,List.reverse_cons,List.reverse_nil,fA4,List.singleton_append];refine List.Perm.append_left _ ?_;exact List.perm_middle
 .rw[gF,fB7];refine gK.mpr ⟨λy hy=>?_,M.srt⟩;exact M.oa y (fBY.mp hy) x (by rw[hd];simp)
 .intro y hy z hz;rw[gF,fR,fJ] at hy
  rcases hy with hy|rfl
  .exact M.oa y hy z (by rw[hd];exact gP _ hz)
  .refine zE (qP (Y:=Y) hz) λj h1 h2 _ h3=>?_;have:=SA j na (fT _) (zgJ h1) hna;exact zvc ex h3 this
 .intro y hy z hz;rw[gF,fR,fJ] at hy
  rcases hy with hy|rfl
  .exact M.ob y hy z hz
  .refine zE (qP (Y:=Y) hz) λj h1 h2 _ h3=>?_;have:=SBb j (nb-1) (fT _) (zqq h1) (by have:=M.lb;exact zuZ h1 this);have:=hle (zuA h1);exact zvb h3 (by assumption) this
def zc8{a:Array Ht}{i k:Nat}(h:i+k+1<=a.size):(a.extract i (i+(k+1))).reverse=(a.extract (i+1) (i+1+k)).reverse.push a[i]:=by
 have e:a[i]? = some a[i]:=getElem?_pos a i (zyM h);apply Array.ext';rw[gF,fAJ,fAJ,pO,pO,pS,pS,zfR e];simp only[fBK];rw[List.take_succ_cons,List.reverse_cons]
def MH.w4(SA:Srt Y a 0 a.size)(SBb:Srt Y b 0 b.size)(k:Nat):∀(at_:Nat) {out:Array Ht},MH Y a b out (at_+k) nb->(∀i,at_<=i->i<at_+k->0<nb->Rk Y b (nb-1)<=Rk Y a i)->MH Y a b (out++(a.extract at_ (at_+k)).reverse) at_ nb:=by
 induction k with
 | zero=>intro at_ out M _;rw[fA3,zbW];simpa using M
 | succ k ih=>
  intro at_ out M hle;have hla:=M.la;have ih:=ih (at_+1) ((zsl:at_+1+k=at_+(k+1))▸M) λi h1 h2 h3=>hle i (zqp h1) (zuO h2) h3;have e:a[at_]? = some a[at_]:=getElem?_pos a at_ (zuK hla);rw[zc8 (zuI hla),append_push];exact ih.pushA SA SBb e λh=>fF (hle at_ (fN _) zuG h) (pA (by unfold Rk;rw[e]))
def MH.w5(SA:Srt Y a 0 a.size)(SBb:Srt Y b 0 b.size)(k:Nat):∀(at_:Nat) {out:Array Ht},MH Y a b out na (at_+k)->(∀i,at_<=i->i<at_+k->0<na->Rk Y a (na-1)<=Rk Y b i)->MH Y a b (out++(b.extract at_ (at_+k)).reverse) na at_:=by
 induction k with
 | zero=>intro at_ out M _;rw[fA3,zbW];simpa using M
 | succ k ih=>
  intro at_ out M hle;have hlb:=M.lb;have ih:=ih (at_+1) ((zsl:at_+1+k=at_+(k+1))▸M) λi h1 h2 h3=>hle i (zqp h1) (zuO h2) h3;have e:b[at_]? = some b[at_]:=getElem?_pos b at_ (zuK hlb);rw[zc8 (zuI hlb),append_push];exact ih.pushB SA SBb e λh=>fF (hle at_ (fN _) zuG h) (pA (by unfold Rk;rw[e]))
def qY(a:Array Ht)(i:Nat):(a.extract 0 i).toList=a.toList.take i:=by
 simp
def MH.done(M:MH Y a b out na nb)(SA:Srt Y a 0 a.size)(SBb:Srt Y b 0 b.size)(h:na=0\/nb=0):MR Y a b (a.extract 0 na++b.extract 0 nb++out.reverse):=by
 refine⟨by rw[gN,gN,qY,qY,fAJ];exact M.perm,?_⟩;rw[gN,gN,qY,qY,fAJ,gC,gC];refine zq (zq ((jT SA).take) ((jT SBb).take) (λx hx y hy=>?_)) M.srt (λx hx y hy=>?_)
 .rcases h with h|h
  .subst h;simp at hx
  .subst h;simp at hy
 .have hy':=fBY.mp hy
  rcases fR.mp hx with hx|hx
  .exact M.oa y hy' x hx
  .exact M.ob y hy' x hx
def MH.firstB(M:MH Y a b out na nb)(SA:Srt Y a 0 a.size)(SBb:Srt Y b 0 b.size)(h:nb=1)(hf:∀i,i<a.size->Rk Y b 0<=Rk Y a i):MR Y a b (b.extract 0 nb++a.extract 0 na++out.reverse):=by
 refine⟨?_,?_⟩
 .refine List.Perm.trans ?_ M.perm;simp only[gN,qY,fAJ];exact List.Perm.append_right _ List.perm_append_comm
 .rw[gN,gN,qY,qY,fAJ,gC,gC];refine zq (zq ((jT SBb).take) ((jT SA).take) (λx hx y hy=>?_)) M.srt (λx hx y hy=>?_)
  .refine zE (qP (Y:=Y) hx) λj h1 h2 _ h3=>?_;refine zE (qP (Y:=Y) hy) λj' h1' h2' _ h3'=>?_;have:=hf j' h2';rw[show j=0 by exact zym h h1] at h3;exact zqz h3 h3' this
  .have hy':=fBY.mp hy
   rcases fR.mp hx with hx|hx
   .exact M.ob y hy' x hx
   .exact M.oa y hy' x hx
end
noncomputable abbrev Sh1:=Option (Array Ht)×Nat×Nat×Array Ht×Nat×Nat
noncomputable abbrev Sh2:=Option (Array Ht)×Nat×Nat×Array Ht×Nat×Nat×Nat
noncomputable abbrev Sh0:=Option (Array Ht)×Nat×Nat×Array Ht×Nat
noncomputable def u2(a b out:Array Ht)(na nb mg ac bc:Nat):StateT SortSt Sem (ForInStep Sh2):=do
 let x <-elem' a (na-1)
 if (na-1==0)=true then pure (.done (some (a.extract 0 (na-1)++b.extract 0 nb++(out.push x).reverse),na-1,nb,out.push x,mg,ac,bc))
 else if (decide (ac<7)&&decide (bc<7))=true then pure (.done (none,na-1,nb,out.push x,mg,ac,bc)) else pure (.yield (none,na-1,nb,out.push x,mg,ac,bc))
noncomputable def u1(a b out:Array Ht)(na nb mg ac bc:Nat):StateT SortSt Sem (ForInStep Sh2):=do
 let x <-elem' b (nb-1)
 if (nb-1==1)=true then pure (.done (some (b.extract 0 (nb-1)++a.extract 0 na++(out.push x).reverse),na,nb-1,out.push x,mg,ac,bc))
 else do
  let y <-elem' a (na-1)
  let r <-zac true y b 0 (nb-1) (nb-1-1)
  match r with
  | some p=>
   if nb-1-p>0 then
    if (p==1)=true then pure (.done (some (b.extract 0 p++a.extract 0 na++(out.push x++(b.extract p (nb-1)).reverse).reverse),na,p,out.push x++(b.extract p (nb-1)).reverse,mg,ac,nb-1-p))
    else if (p==0)=true then pure (.done (some (a.extract 0 na++b.extract 0 p++(out.push x++(b.extract p (nb-1)).reverse).reverse),na,p,out.push x++(b.extract p (nb-1)).reverse,mg,ac,nb-1-p))
    else u2 a b (out.push x++(b.extract p (nb-1)).reverse) na p mg ac (nb-1-p)
   else u2 a b (out.push x) na (nb-1) mg ac (nb-1-p)
  | _=>pure (.done (some (a.extract 0 na++b.extract 0 (nb-1)++(out.push x).reverse),na,nb-1,out.push x,mg,ac,bc))
noncomputable def v2(a b out:Array Ht)(na nb mg ac bc:Nat):StateT SortSt Sem (ForInStep Sh2):=do
 zfq mg
 let x <-elem' b (nb-1)
 let r <-zac false x a 0 na (na-1)
 match r with
 | some p=>
  if na-p>0 then
   if (p==0)=true then pure (.done (some (a.extract 0 p++b.extract 0 nb++(out++(a.extract p na).reverse).reverse),p,nb,out++(a.extract p na).reverse,mg,na-p,bc))
   else u1 a b (out++(a.extract p na).reverse) p nb mg (na-p) bc
  else u1 a b out na nb mg (na-p) bc
 | _=>pure (.done (some (a.extract 0 na++b.extract 0 nb++out.reverse),na,nb,out,mg,ac,bc))
noncomputable def h2(a b:Array Ht)(c:Sh2):StateT SortSt Sem (ForInStep Sh2):=
 if c.2.2.2.2.1>1 then v2 a b c.2.2.2.1 c.2.1 c.2.2.1 (c.2.2.2.2.1-1) c.2.2.2.2.2.1 c.2.2.2.2.2.2 else v2 a b c.2.2.2.1 c.2.1 c.2.2.1 c.2.2.2.2.1 c.2.2.2.2.2.1 c.2.2.2.2.2.2
noncomputable def h1(a b:Array Ht)(mg:Nat)(c:Sh1):StateT SortSt Sem (ForInStep Sh1):=do
 let x <-elem' b (c.2.2.1-1)
 let y <-elem' a (c.2.1-1)
 let r <-lt' x y
 match r with
 | some w=>
  if w=true then do
   let x <-elem' a (c.2.1-1)
   if (c.2.1-1==0)=true then pure (.done (some (a.extract 0 (c.2.1-1)++b.extract 0 c.2.2.1++(c.2.2.2.1.push x).reverse),c.2.1-1,c.2.2.1,c.2.2.2.1.push x,c.2.2.2.2.1+1,0))
   else if c.2.2.2.2.1+1>=mg then pure (.done (none,c.2.1-1,c.2.2.1,c.2.2.2.1.push x,c.2.2.2.2.1+1,0)) else pure (.yield (none,c.2.1-1,c.2.2.1,c.2.2.2.1.push x,c.2.2.2.2.1+1,0))
  else do
   let x <-elem' b (c.2.2.1-1)
   if (c.2.2.1-1==1)=true then pure (.done (some (b.extract 0 (c.2.2.1-1)++a.extract 0 c.2.1++(c.2.2.2.1.push x).reverse),c.2.1,c.2.2.1-1,c.2.2.2.1.push x,0,c.2.2.2.2.2+1))
   else if c.2.2.2.2.2+1>=mg then pure (.done (none,c.2.1,c.2.2.1-1,c.2.2.2.1.push x,0,c.2.2.2.2.2+1)) else pure (.yield (none,c.2.1,c.2.2.1-1,c.2.2.2.1.push x,0,c.2.2.2.2.2+1))
 | _=>pure (.done (some (a.extract 0 c.2.1++b.extract 0 c.2.2.1++c.2.2.2.1.reverse),c.2.1,c.2.2.1,c.2.2.2.1,c.2.2.2.2.1,c.2.2.2.2.2))
noncomputable def h0(a b:Array Ht)(c:Sh0):StateT SortSt Sem (ForInStep Sh0):=do
 let r <-forIn [0:a.size+b.size] ((none,c.2.1,c.2.2.1,c.2.2.2.1,0,0):Sh1) λ_ r=>h1 a b c.2.2.2.2 r
 match r.1 with
 | some v=>pure (.done (some v,r.2.1,r.2.2.1,r.2.2.2.1,c.2.2.2.2))
 | none=>do
  liftM (rule "list.sort.gallop")
  let q <-forIn [0:a.size+b.size] ((none,r.2.1,r.2.2.1,r.2.2.2.1,c.2.2.2.2+1,r.2.2.2.2.1,r.2.2.2.2.2):Sh2) λ_ q=>h2 a b q
  match q.1 with
  | some v=>pure (.done (some v,q.2.1,q.2.2.1,q.2.2.2.1,q.2.2.2.2.1))
  | none=>do
   zfq (q.2.2.2.2.1+1)
   pure (.yield (none,q.2.1,q.2.2.1,q.2.2.2.1,q.2.2.2.2.1+1))
noncomputable def mHi(a b:Array Ht):StateT SortSt Sem (Array Ht):=do
 liftM (rule "list.sort.merge-hi")
 let x <-elem' a (a.size-1)
 if (a.size-1==0)=true then pure (a.extract 0 (a.size-1)++b.extract 0 b.size++(#[x]:Array Ht).reverse)
 else if (b.size==1)=true then pure (b.extract 0 b.size++a.extract 0 (a.size-1)++(#[x]:Array Ht).reverse)
 else do
  let g <-get
  let q <-forIn [0:a.size+b.size] ((none,a.size-1,b.size,#[x],gallopOf g):Sh0) λ_ q=>h0 a b q
  match q.1 with
  | some v=>pure v
  | none=>liftM (unsupported "internal:list.sort.merge-bound" : Sem (Array Ht))
def zry(a b:Array Ht):zd9 a b=mHi a b:=by kernel_rfl
section
variable{prog:Hh}{w:World}{A:Around}{E:Value->Shared->Prop}{s:Shared}{a₀:Array Ht}{V:SortKind}{Y:Ht->Nat}{a b:Array Ht}
def InH(Y:Ht->Nat)(a b:Array Ht)(r0:Nat)(out:Array Ht)(na nb:Nat):Prop:=MH Y a b out na nb/\1<=na/\2<=nb/\na+nb<=r0
def zsz(Y:Ht->Nat)(a b:Array Ht)(r0:Nat)(c:Sh2):Prop:=(∃r,c.1=some r/\MR Y a b r)\/(c.1=none/\InH Y a b r0 c.2.2.2.1 c.2.1 c.2.2.1)
def zj1(Y:Ht->Nat)(a b:Array Ht)(r0:Nat)(st:SortSt)(r:ForInStep Sh2)(st':SortSt):Prop:=Gl st st'/\match r with
 | .done c=>zsz Y a b r0 c
 | .yield c=>c.1=none/\InH Y a b r0 c.2.2.2.1 c.2.1 c.2.2.1
def MH.pushA'{out:Array Ht}{na nb:Nat}(M:MH Y a b out na nb)(SA:Srt Y a 0 a.size)(SBb:Srt Y b 0 b.size){x:Ht}(hna:1<=na)(hx:a[na-1]? = some x)(hle:0<nb->Rk Y b (nb-1)<=Y x):MH Y a b (out.push x) (na-1) nb:=by
 obtain⟨n,rfl⟩:∃n,na=n+1:=⟨na-1,ztW hna⟩
 exact M.pushA SA SBb hx hle
def MH.pushB'{out:Array Ht}{na nb:Nat}(M:MH Y a b out na nb)(SA:Srt Y a 0 a.size)(SBb:Srt Y b 0 b.size){x:Ht}(hnb:1<=nb)(hx:b[nb-1]? = some x)(hle:0<na->Rk Y a (na-1)<=Y x):MH Y a b (out.push x) na (nb-1):=by
 obtain⟨n,rfl⟩:∃n,nb=n+1:=⟨nb-1,ztW hnb⟩
 exact M.pushB SA SBb hx hle
def ztu(M:MG prog w A s V Y a₀ a b){st st0:SortSt}(g:Gl st0 st){out:Array Ht}{na nb mg ac bc r0:Nat}(I:InH Y a b r0 out na nb)(hle:Rk Y b (nb-1)<=Rk Y a (na-1)):wpS (model prog w) A E s (u2 a b out na nb mg ac bc) (zj1 Y a b r0 st0) st:=by
 refine zy I λI0 h1 h2 h3=>?_;have hla:=I0.la;refine zl (at_some (Y:=Y) (x:=a) (i:=na-1) (zsa h1 hla)) λx hx hm hr=>?_;have I1:=I0.pushA' M.SA M.SBb h1 hx λ_=>zsn hle hr;refine Hl (jb hx ?_)
 by_cases he:na-1=0
 .rw[if_pos (by simpa using he)];exact Hm ⟨g,.inl (zc _ rfl (I1.done M.SA M.SBb (.inl he)))⟩
 .rw[if_neg (by simpa using he)];have I2:InH Y a b r0 (out.push x) (na-1) nb:=(zt I1 (zr7 he) h2 (zy1 h3))
  split
  .exact Hm ⟨g,.inr ⟨rfl,I2⟩⟩
  .exact Hm (zq g rfl I2)
def ztt(M:MG prog w A s V Y a₀ a b){st st0:SortSt}(hB:SB V a₀ st)(g:Gl st0 st){out:Array Ht}{na nb mg ac bc r0:Nat}(I:InH Y a b r0 out na nb)(hle:Rk Y a (na-1)<=Rk Y b (nb-1)):wpS (model prog w) A E s (u1 a b out na nb mg ac bc) (zj1 Y a b r0 st0) st:=by
 refine zy I λI0 h1 h2 h3=>?_;have hla:=I0.la;have hlb:=I0.lb;refine zl (at_some (Y:=Y) (x:=b) (i:=nb-1) (zsd h2 hlb)) λx hx hm hr=>?_;refine zl (at_some (Y:=Y) (x:=a) (i:=na-1) (zsa h1 hla)) λy hy hmy hry=>?_;have I1:=I0.pushB' M.SA M.SBb (zr1 h2) hx λ_=>zsn hle hr;refine Hl (jb hx ?_)
 by_cases he:nb-1=1
 .rw[if_pos (by simpa using he)];exact Hm ⟨g,.inl (zc _ rfl (I1.firstB M.SA M.SBb he M.first))⟩
 .rw[if_neg (by simpa using he)];refine Hl (jb hy ?_);refine Hl (kR M.H hB (M.ha y hmy) M.hb (by exact zyc hlb) (by exact zwA h2) (λu v h4 h5 h6=>M.SBb u v (fT _) h5 (zzQ hlb h6)) λp hp hlt hge=>?_);have hlt':∀i,i<p->Rk Y b i<Y y:=λi hi=>by have:=hlt i hi;unfold byd at this;simpa using this
  have hge':∀i,p<=i->i<nb-1->Y y<=Rk Y b i:=λi h4 h5=>by have:=hge i h4 h5;unfold byd at this;simpa using this
  dsimp only
  by_cases hk0:nb-1-p>0
  .rw[if_pos hk0];have I2:=MH.w5 (na:=na) M.SA M.SBb (nb-1-p) p (out:=out.push x) (by rw[show p+(nb-1-p)=nb-1 by exact zuf hk0];exact I1) λi h4 h5 _=>by have:=hge' i h4 (by exact zyS hk0 h5);exact zqw hry this
   rw[show p+(nb-1-p)=nb-1 by exact zuf hk0] at I2
   by_cases he2:p=1
   .rw[if_pos (by simpa using he2)];exact Hm ⟨g,.inl (zc _ rfl (I2.firstB M.SA M.SBb he2 M.first))⟩
   .rw[if_neg (by simpa using he2)]
    by_cases he3:p=0
    .rw[if_pos (by simpa using he3)];exact Hm ⟨g,.inl (zc _ rfl (I2.done M.SA M.SBb (.inr he3)))⟩
    .rw[if_neg (by simpa using he3)];refine ztu M g (zt I2 h1 (zw9 he2 he3) (zAk h3 hk0)) ?_;have:=hlt' (p-1) (zt9 he3);exact zqy hry this
  .rw[if_neg hk0];refine ztu M g (zt I1 h1 (by exact ztX h2 he) (zy2 h3)) ?_;have:=hlt' (nb-1-1) (by exact zxS h2 hk0);exact zqy hry this
def ztv(M:MG prog w A s V Y a₀ a b){st st0:SortSt}(hB:SB V a₀ st)(g:Gl st0 st){out:Array Ht}{na nb mg ac bc r0:Nat}(I:InH Y a b r0 out na nb):wpS (model prog w) A E s (v2 a b out na nb mg ac bc) (zj1 Y a b r0 st0) st:=by
 refine zy I λI0 h1 h2 h3=>?_;have hla:=I0.la;have hlb:=I0.lb;refine zl (at_some (Y:=Y) (x:=b) (i:=nb-1) (zsd h2 hlb)) λx hx hm hr=>?_;refine Hl (zgs ?_);have g':=g.trans (Gl.gal st mg);have hB':=hB.gl (Gl.gal st mg);refine Hl (jb hx ?_);refine Hl (kR M.H hB' (M.hb x hm) M.ha (zyd hla) (zqn h1) (λu v h4 h5 h6=>M.SA u v (fT _) h5 (zzR hla h6)) λp hp hlt hge=>?_);have hlt':∀i,i<p->Rk Y a i<=Y x:=λi hi=>by have:=hlt i hi;unfold byd at this;simpa using this
 have hge':∀i,p<=i->i<na->Y x<Rk Y a i:=λi h4 h5=>by have:=hge i h4 h5;unfold byd at this;simpa using this
 dsimp only
 by_cases hk0:na-p>0
 .rw[if_pos hk0];have I2:=MH.w4 (nb:=nb) M.SA M.SBb (na-p) p (out:=out) (by rw[show p+(na-p)=na by exact zuo hk0];exact I0) λi h4 h5 _=>by have:=hge' i h4 (by exact zy7 hk0 h5);exact zoU hr this
  rw[show p+(na-p)=na by exact zuo hk0] at I2
  by_cases he2:p=0
  .rw[if_pos (by simpa using he2)];exact Hm ⟨g',.inl (zc _ rfl (I2.done M.SA M.SBb (.inl he2)))⟩
  .rw[if_neg (by simpa using he2)];refine ztt M hB' g' (zt I2 (zw8 he2) h2 (zAr h3 hp)) ?_;have:=hlt' (p-1) (zt9 he2);exact zsq hr this
 .rw[if_neg hk0];refine ztt M hB' g' (zt I0 (zr0 h1) h2 (zy3 h3)) ?_;have:=hlt' (na-1) (zxR h1 hk0);exact zsq hr this
def zwo(M:MG prog w A s V Y a₀ a b){st st0:SortSt}(hB:SB V a₀ st)(g:Gl st0 st){c:Sh2}{r0:Nat}(I:InH Y a b r0 c.2.2.2.1 c.2.1 c.2.2.1):wpS (model prog w) A E s (h2 a b c) (zj1 Y a b r0 st0) st:=by
 unfold h2;split
 .exact ztv M hB g I
 .exact ztv M hB g I
def zwn(M:MG prog w A s V Y a₀ a b){st:SortSt}(hB:SB V a₀ st){c:Sh1}{mg r0 x:Nat}(I:InH Y a b (r0-x) c.2.2.2.1 c.2.1 c.2.2.1)(hx0:x<=r0){Q:ForInStep Sh1->SortSt->Prop}
  (hd:∀r,MR Y a b r->∀rest,Q (.done (some r,rest)) st)(hn:∀c':Sh1,c'.1=none->InH Y a b (r0-(x+1)) c'.2.2.2.1 c'.2.1 c'.2.2.1->Q (.done c') st/\Q (.yield c') st):wpS (model prog w) A E s (h1 a b mg c) Q st:=by
 refine zy I λI0 h1' h2' h3=>?_;have hla:=I0.la;have hlb:=I0.lb;refine zl (at_some (Y:=Y) (x:=b) (i:=c.2.2.1-1) (zsd h2' hlb)) λx' hx hm hr=>?_;refine zl (at_some (Y:=Y) (x:=a) (i:=c.2.1-1) (zsa h1' hla)) λy hy hmy hry=>?_;refine Hl (jb hx (Hl (jb hy (Hl (zom M.H hB (M.hb _ hm) (M.ha _ hmy) ?_)))));dsimp only
 by_cases hw:Y x'<Y y
 .rw[Hy hw,if_pos rfl];have I1:=I0.pushA' M.SA M.SBb h1' hy λ_=>zoU hr hw;refine Hl (jb hy ?_)
  by_cases he:c.2.1-1=0
  .rw[if_pos (by simpa using he)];exact Hm (hd _ (I1.done M.SA M.SBb (.inl he)) _)
  .rw[if_neg (by simpa using he)];have:=hn (none,c.2.1-1,c.2.2.1,c.2.2.2.1.push y,c.2.2.2.2.1+1,0) rfl (zt I1 (by dsimp only;exact zr7 he) (by dsimp only;exact zr2 h2') (by dsimp only;exact zAt h1' h3));split
   .exact Hm this.1
   .exact Hm this.2
 .rw[Hx hw,if_neg (by simp)];have I1:=I0.pushB' M.SA M.SBb (zr1 h2') hx λ_=>zuT hry hw;refine Hl (jb hx ?_)
  by_cases he:c.2.2.1-1=1
  .rw[if_pos (by simpa using he)];exact Hm (hd _ (I1.firstB M.SA M.SBb he M.first) _)
  .rw[if_neg (by simpa using he)];have:=hn (none,c.2.1,c.2.2.1-1,c.2.2.2.1.push x',0,c.2.2.2.2.2+1) rfl (zt I1 (by dsimp only;exact zr0 h1') (by dsimp only;exact ztX h2' he) (by dsimp only;exact zAw h2' h3));split
   .exact Hm this.1
   .exact Hm this.2
def zwm(M:MG prog w A s V Y a₀ a b){st st0:SortSt}(hB:SB V a₀ st)(g:Gl st0 st){c:Sh0}{r0:Nat}(I:InH Y a b r0 c.2.2.2.1 c.2.1 c.2.2.1){Q:ForInStep Sh0->SortSt->Prop}
  (hd:∀r st',Gl st0 st'->MR Y a b r->∀rest,Q (.done (some r,rest)) st')(hn:∀(c':Sh0) st',Gl st0 st'->c'.1=none->InH Y a b (r0-1) c'.2.2.2.1 c'.2.1 c'.2.2.1->Q (.yield c') st'):wpS (model prog w) A E s (h0 a b c) Q st:=by
 have hbig:1<=a.size+b.size:=by have:=I.2.1;have:=I.1.la;exact zzd (by assumption) this
 refine Hl (Hn (Hp (I:=λx c' st'=>st'=st/\c'.1=none/\InH Y a b (r0-x) c'.2.2.2.1 c'.2.1 c'.2.2.1/\x<=r0)
  (Q:=λc' st'=>st'=st/\((∃r,c'.1=some r/\MR Y a b r)\/(c'.1=none/\InH Y a b (r0-1) c'.2.2.2.1 c'.2.1 c'.2.2.1))) ?step ?fin (zt rfl rfl (by simpa using I) (fT _))) ?post)
 case fin=>
  intro c' st' hR1;refine zy hR1 λe0_0 h1 h2 h3=>?_;subst e0_0;exact⟨rfl,.inr (jh h1 h2.1 h2.2.1 h2.2.2.1 (by have:=h2.2.2.2;exact zBl hbig this))⟩
 case step=>
  intro x c' st' _ hx hR2;refine zy hR2 λe1_0 h1 h2 h3=>?_;subst e1_0;refine zwn M hB h2 h3 (λr hr rest=>⟨rfl,.inl (zc r rfl hr)⟩) λc'' hc I''=>(jh ⟨rfl,.inr (jh hc I''.1 I''.2.1 I''.2.2.1 (by have:=I''.2.2.2;exact zAj this))⟩ rfl hc I'' ?_)
  have:=I''.2.2.2;have:=I''.2.1;have:=I''.2.2.1;exact zAo (by assumption) this
 case post=>
  rintro c' st' ⟨rfl,h⟩
  rcases h with⟨r,h1,h2⟩|⟨h1,h2⟩
  .rw[h1];exact Hm (hd r _ g h2 _)
  .rw[h1];refine Hl (wpS_lift (Hb ⟨rfl,?_⟩));refine Hl (Hn (Hp (I:=λx q st''=>Gl st0 st''/\SB V a₀ st''/\q.1=none/\InH Y a b (r0-1) q.2.2.2.1 q.2.1 q.2.2.1) (Q:=λq st''=>Gl st0 st''/\zsz Y a b (r0-1) q) ?step2 ?fin2 (zt g hB rfl h2)) ?post2)
   case fin2=>
    intro q st'' hR3;refine zy hR3 λg' hB' h4 h5=>?_;exact⟨g',.inr ⟨h4,h5⟩⟩
   case step2=>
    intro x q st'' _ hx hR4;refine zy hR4 λg' hB' h4 h5=>?_;refine Hn (zwo M hB' g' h5) λr st3 hl=>?_;cases r with
    | done q'=>exact hl
    | yield q'=>exact zq hl.1 ⟨by rw[hl.1.arr,<-g'.arr];exact hB'.perm,by rw[hl.1.kind,<-g'.kind];exact hB'.kind,by rw[hl.1.failed,<-g'.failed];exact hB'.failed⟩ hl.2
   case post2=>
    rintro q st'' ⟨g',h⟩
    rcases h with⟨r,h4,h5⟩|⟨h4,h5⟩
    .rw[h4];exact Hm (hd r _ g' h5 _)
    .rw[h4];exact Hl (zgs (Hm (hn _ _ (g'.trans (Gl.gal _ _)) rfl h5)))
def zlY(M:MG prog w A s V Y a₀ a b){st:SortSt}(hB:SB V a₀ st)(h1:1<=a.size)(h2:1<=b.size){Q:Array Ht->SortSt->Prop}(h:∀r st',Gl st st'->MR Y a b r->Q r st'):wpS (model prog w) A E s (zd9 a b) Q st:=by
 rw[zry];refine Hl (wpS_lift (Hb ⟨rfl,?_⟩));refine zl (at_some (Y:=Y) (x:=a) (i:=a.size-1) (zqn h1)) λx hx hm hr=>?_;have I0:MH Y a b #[] a.size b.size:=⟨fN _,fN _,by simp[fA2],by simp,by simp,by simp⟩
 have I1:MH Y a b #[x] (a.size-1) b.size:=I0.pushA' M.SA M.SBb h1 hx λh=>by rw[<-hr];exact M.last _ (zqn h2)
 refine Hl (jb hx ?_)
 by_cases he:a.size-1=0
 .rw[if_pos (by simpa using he)];exact Hm (h _ _ (.refl _) (I1.done M.SA M.SBb (.inl he)))
 .rw[if_neg (by simpa using he)]
  by_cases he2:b.size=1
  .rw[if_pos (by simpa using he2)];exact Hm (h _ _ (.refl _) (I1.firstB M.SA M.SBb he2 M.first))
  .rw[if_neg (by simpa using he2)];refine Hl (wpS_get ?_);refine Hl (Hn (Hp (I:=λx q st'=>Gl st st'/\q.1=none/\InH Y a b (a.size+b.size-x) q.2.2.2.1 q.2.1 q.2.2.1) (Q:=λq st'=>Gl st st'/\∃r,q.1=some r/\MR Y a b r) ?step ?fin (jR (.refl _) rfl I1 (by dsimp only;exact zr7 he) (by dsimp only;exact zww h2 he2) (by dsimp only;exact zyE))) ?post)
   case fin=>
    intro q st' hR5;refine jg hR5 λg h3 h4=>?_;exfalso;have:=h4.2.2.2;have:=h4.2.1;have:=h4.2.2.1;exact zAi (by assumption) this
   case step=>
    intro x q st' _ hx hR6;refine jg hR6 λg h3 h4=>?_;refine zwm M (hB.gl g) g h4 (λr st'' g' hr rest=>(kD g' r rfl hr)) λc' st'' g' h5 h6=>(jR g' h5 h6.1 h6.2.1 h6.2.2.1 (by have:=h6.2.2.2;exact zBi this))
   case post=>
    intro q st' hR7;refine qT hR7 λg r h3 h4=>?_;rw[h3];exact Hm (h r st' g h4)
end
noncomputable def k7(sa:Nat)(l:List Ht)(j0:Nat)(arr:Array Ht):Array Ht:=(l.zipIdx j0).foldl (λa (p:Ht×Nat)=>a.setIfInBounds (sa+p.2) p.1) arr
def zmx(sa:Nat)(l:List Ht):∀(j0:Nat) (arr:Array Ht),sa+j0+l.length<=arr.size->∀k,(k7 sa l j0 arr)[k]? = if sa+j0<=k/\k<sa+j0+l.length then l[k-(sa+j0)]? else arr[k]?:=by
 induction l with
 | nil=>exact λj0 arr h k=>(if_neg λh=>pL.mpr h.1 h.2).symm
 | cons x l ih=>
  intro j0 arr h k;have h:sa+j0+(l.length+1)<=arr.size:=h;show (k7 sa l (j0+1) (arr.setIfInBounds (sa+j0) x))[k]? = if sa+j0<=k/\k<sa+j0+(l.length+1) then _ else _
  rw[ih (j0+1) _ (by rw[Array.size_setIfInBounds];exact zAa h) k,Array.getElem?_setIfInBounds]
  by_cases h1:k=sa+j0
  .rw[h1,if_neg (by exact zz4),if_pos rfl,if_pos (by exact zAb h),if_pos (by exact zzZ),fBO];rfl
  .by_cases h2:sa+(j0+1)<=k/\k<sa+(j0+1)+l.length
   .rw[if_pos h2,if_pos (by exact zz5 h2),show k-(sa+j0)=k-(sa+(j0+1))+1 by exact zz7 h2,fAL]
   .rw[if_neg h2,if_neg (by exact zzX h1),if_neg (by exact zA6 h1 h2)]
def zhJ(i:Nat):mergeAt' i=(do
 let s <-get
 let (some (sa,na,power),some (sb,nb,_)):=((Ho s)[i]?,(Ho s)[i+1]?)|unsupported "internal:list.sort.pending"
 set (setPending s (((Ho s).setIfInBounds i (sa,na+nb,power)).eraseIdxIfInBounds (i+1)))
 let some k <-zac false (<-elem' (Hs s) sb) (Hs s) sa na 0|return false
 let (sa,na):=(sa+k,na-k)
 if na==0 then return true
 let some nb <-zac true (<-elem' (Hs s) (sa+na-1)) (Hs s) sb nb (nb-1)|return false
 if nb==0 then return true
 let x:=(Hs s).extract sa sb
 let y:=(Hs s).extract sb (sb+nb)
 let merged <-if na<=nb then zea x y else zd9 x y
 modify λs=>setArr s (merged.toList.zipIdx.foldl (λa (p,j)=>a.setIfInBounds (sa+j) p) (Hs s))
 return (failedOf (<-get)).isNone):=rfl
section
variable{prog:Hh}{w:World}{A:Around}{E:Value->Shared->Prop}{s:Shared}{a₀:Array Ht}{V:SortKind}{Y:Ht->Nat}
def zqj{U:Type}{M:Model}{x:U}{Q:PUnit->U->Prop}{st:U}(h:Q ⟨⟩ x):wpS M A E s (set x:StateT U Sem PUnit) Q st:=by
 unfold wpS;rw[StateT.run_set];exact G7 ⟨rfl,h⟩
def zdt{x:Array Ht}{i j k:Nat}(h:i+k<j)(hj:j<=x.size):Rk Y (x.extract i j) k=Rk Y x (i+k):=by
 refine jM ?_;rw[Array.getElem?_extract,if_pos (by exact zAq h hj)]
def size_extract{x:Array Ht}{i j:Nat}(hj:j<=x.size):(x.extract i j).size=j-i:=by rw[Array.size_extract];exact zzr hj
structure MA(V:SortKind)(Y:Ht->Nat)(a₀:Array Ht)(st:SortSt)(i sa na pw nb:Nat)(st':SortSt):Prop where
 sb:SB V a₀ st'
 srt:Srt Y (Hs st') sa (sa+na+nb)
 out:Out (Hs st) (Hs st') sa (sa+na+nb)
 pend:Ho st'=((Ho st).setIfInBounds i (sa,na+nb,pw)).eraseIdxIfInBounds (i+1)
def zlX(H:qq prog w A s V Y a₀){st:SortSt}(hB:SB V a₀ st){i sa na pw nb pw':Nat}(h1:(Ho st)[i]? = some (sa,na,pw))(h2:(Ho st)[i+1]? = some (sa+na,nb,pw'))(hna:1<=na)(hnb:1<=nb)(hsz:sa+na+nb<=a₀.size)
  (S1:Srt Y (Hs st) sa (sa+na))(S2:Srt Y (Hs st) (sa+na) (sa+na+nb)){Q:Bool->SortSt->Prop}(h:∀st',MA V Y a₀ st i sa na pw nb st'->Q true st'):wpS (model prog w) A E s (mergeAt' i) Q st:=by
 have hsize:=hB.size;have hin:∀p∈(Hs st).toList,p∈a₀.toList:=λp hp=>(fAC.mp hB.perm).mem_iff.mp hp;rw[zhJ];refine Hl (wpS_get ?_);rw[h1,h2];refine Hl (zqj ?_);obtain⟨st1,hst1⟩:∃x,x=setPending st (((Ho st).setIfInBounds i (sa,na+nb,pw)).eraseIdxIfInBounds (i+1)):=⟨_,rfl⟩
 rw[<-hst1];have ea:Hs st1=Hs st:=by rw[hst1]
 have ep:Ho st1=((Ho st).setIfInBounds i (sa,na+nb,pw)).eraseIdxIfInBounds (i+1):=by rw[hst1]
 have hB1:SB V a₀ st1:=by rw[hst1];exact⟨hB.perm,hB.kind,hB.failed⟩
 clear hst1;refine zl (at_some (Y:=Y) (x:=Hs st) (i:=sa+na) (by exact zBm hnb hsz hsize)) λx hx hmx hrx=>?_;refine Hl (jb hx ?_);refine Hl (kR H hB1 (hin x hmx) hin (by exact zBb hsz hsize) (by exact zrZ hna) S1 λk hk hlt hge=>?_);have hlt':∀j,j<k->Rk Y (Hs st) (sa+j)<=Y x:=λj hj=>by have:=hlt j hj;unfold byd at this;simpa using this
 have hge':∀j,k<=j->j<na->Y x<Rk Y (Hs st) (sa+j):=λj h4 h5=>by have:=hge j h4 h5;unfold byd at this;simpa using this
 obtain⟨n1,rfl⟩:∃n1,na=k+n1:=⟨na-k,by exact zys hk⟩
 simp only[fBK]
 by_cases hn0:n1=0
 .rw[if_pos (by simpa using hn0)];refine Hm (h st1 ⟨hB1,λu v h3 h4 h5=>?_,by rw[ea];exact Out.refl _ _ _,ep⟩);rw[ea]
  by_cases hv:v<sa+(k+n1)
  .exact S1 u v h3 h4 hv
  .by_cases hu:u<sa+(k+n1)
   .have q1:=hlt' (u-sa) (by exact zAs hna hn0 hu);rw[show sa+(u-sa)=u by exact zsi h3] at q1;have q2:=S2 (sa+(k+n1)) v (fN _) (by exact zsw hv) h5;exact zAT hrx q1 q2
   .exact S2 u v (by exact zsw hu) h4 h5
 .rw[if_neg (by simpa using hn0)];refine zl (at_some (Y:=Y) (x:=Hs st) (i:=sa+k+(n1)-1) (by exact zBQ hsize hna hsz)) λy hy hmy hry=>?_;refine Hl (jb hy ?_);refine Hl (kR H hB1 (hin y hmy) hin (by exact zBR hsize hsz) (by exact zqn hnb) S2 λm hm mlt mge=>?_);have mlt':∀j,j<m->Rk Y (Hs st) (sa+(k+n1)+j)<Y y:=λj hj=>by have:=mlt j hj;unfold byd at this;simpa using this
  have mge':∀j,m<=j->j<nb->Y y<=Rk Y (Hs st) (sa+(k+n1)+j):=λj h4 h5=>by have:=mge j h4 h5;unfold byd at this;simpa using this
  have hylast:Rk Y (Hs st) (sa+(k+n1)-1)=Y y:=by rw[show sa+(k+n1)-1=sa+k+(n1)-1 by exact zz0];exact hry
  dsimp only
  by_cases hm0:m=0
  .rw[if_pos (by simpa using hm0)];refine Hm (h st1 ⟨hB1,λu v h3 h4 h5=>?_,by rw[ea];exact Out.refl _ _ _,ep⟩);rw[ea]
   by_cases hv:v<sa+(k+n1)
   .exact S1 u v h3 h4 hv
   .by_cases hu:u<sa+(k+n1)
    .have q1:=S1 u (sa+(k+n1)-1) h3 (by exact zAy hu) (by exact zsm hna);have q2:=mge' (v-(sa+(k+n1))) (by exact zBo hm0) (by exact zvh hnb h5);rw[show sa+(k+n1)+(v-(sa+(k+n1)))=v by exact zA7 hv] at q2
     lia
    .exact S2 u v (by exact zsw hu) h4 h5
  .rw[if_neg (by simpa using hm0)];obtain⟨xa,hxa⟩:∃q,q=(Hs st).extract (sa+k) (sa+(k+n1)):=⟨_,rfl⟩
   obtain⟨yb,hyb⟩:∃q,q=(Hs st).extract (sa+(k+n1)) (sa+(k+n1)+m):=⟨_,rfl⟩
   rw[<-hxa,<-hyb];have sza:xa.size=n1:=by rw[hxa,size_extract (by exact zvk hsize hsz)];exact zu2
   have szb:yb.size=m:=by rw[hyb,size_extract (by exact zvm hsize hsz hm)];exact zve
   have ra:∀j,j<n1->Rk Y xa j=Rk Y (Hs st) (sa+k+j):=λj hj=>by rw[hxa];exact zdt (by exact zsu hj) (by exact zvk hsize hsz)
   have rb:∀j,j<m->Rk Y yb j=Rk Y (Hs st) (sa+(k+n1)+j):=λj hj=>by rw[hyb];exact zdt (by exact zBv hj) (by exact zvm hsize hsz hm)
   have la:xa.toList=((Hs st).toList.drop (sa+k)).take (n1):=by rw[hxa,pO,pS,show sa+(k+n1)-(sa+k)=n1 by exact zu2]
   have lb:yb.toList=((Hs st).toList.drop (sa+(k+n1))).take m:=by rw[hyb,pO,pS,show sa+(k+n1)+m-(sa+(k+n1))=m by exact zve]
   have MGx:MG prog w A s V Y a₀ xa yb:=by
    refine⟨H,λp hp=>hin p ?_,λp hp=>hin p ?_,λu v _ h4 h5=>?_,λu v _ h4 h5=>?_,λj hj=>?_,λj hj=>?_⟩
    .rw[la] at hp;exact List.mem_of_mem_drop (fA8 hp)
    .rw[lb] at hp;exact List.mem_of_mem_drop (fA8 hp)
    .rw[sza] at h5;rw[ra u (by exact zqx h4 h5),ra v (by exact zsf h5)];exact S1 _ _ (by exact zu4) (by exact zA0 h4) (by exact zsu h5)
    .rw[szb] at h5;rw[rb u (by exact zqx h4 h5),rb v (by exact zsf h5)];exact S2 _ _ (by exact zvf) (by exact zBy h4) (by exact zvl hm h5)
    .rw[sza] at hj;rw[rb 0 (by exact zw7 hm0),ra j hj];have:=hge' (k+j) (by exact zjX) (by exact zso hj);simp only[fA3];rw[show sa+(k+j)=sa+k+j by exact zu3] at this;exact zoU hrx this
    .rw[szb] at hj;rw[rb j hj,ra (xa.size-1) (by exact zyy hn0 sza),sza];have:=mlt' j hj;rw[show sa+k+(n1-1)=sa+(k+n1)-1 by exact zzY hn0]
     lia
   have fin:∀r st',Gl st1 st'->MR Y xa yb r->wpS (model prog w) A E s (do
     modify λs=>setArr s (r.toList.zipIdx.foldl (λa (p,j)=>a.setIfInBounds (sa+k+j) p) (Hs s))
     return (failedOf (<-get)).isNone) Q st':=by
    intro r st' g hr0;obtain⟨hrp,hrs⟩:=hr0;obtain⟨rl,hrl⟩:∃l,l=r.toList:=⟨_,rfl⟩
    rw[<-hrl] at hrp hrs ⊢;clear hrl;refine Hl (wpS_modify (Hl (wpS_get (Hm ?_))));have hf:(failedOf (setArr st' (k7 (sa+k) rl 0 (Hs st')))).isNone=true:=by
     rw[g.failed,hB1.failed];rfl
    rw[hf];have lr:rl.length=(n1)+m:=by have:=hrp.length_eq;simp only[fE,gR,sza,szb] at this;exact this
    have tl:((Hs st).toList.take (sa+k)).length=sa+k:=by simp;exact zBO hsize hsz
    have eg:∀j,(k7 (sa+k) rl 0 (Hs st'))[j]? = if sa+k<=j/\j<sa+(k+n1)+m then rl[j-(sa+k)]? else (Hs st)[j]?:=λj=>by
     rw[zmx (sa+k) rl 0 (Hs st') (by rw[g.arr,ea,lr];exact zBV hsize hsz hm) j,lr,g.arr,ea];simp only[fA3];rw[show sa+k+(n1+m)=sa+(k+n1)+m by exact zA8]
    have el:(k7 (sa+k) rl 0 (Hs st')).toList=(Hs st).toList.take (sa+k)++rl++(Hs st).toList.drop (sa+(k+n1)+m):=by
     apply fCH;intro j;rw[gV,eg j]
     by_cases q1:j<sa+k
     .rw[if_neg (by exact zvi q1),gI,gW (by exact zAO tl q1),List.getElem?_take,if_pos q1,gV]
     .by_cases q2:j<sa+(k+n1)+m
      .rw[if_pos (by exact zBC q1 q2),gI,pF (by exact zAE tl q1),gW (by exact zBW hm0 lr tl q2),tl]
      .rw[if_neg (by exact zBB q2),pF (by rw[fE];exact zBU lr tl q2),fCC,gV,fE,tl,lr]
       congr 1;exact zBz q2
    have hperm:(k7 (sa+k) rl 0 (Hs st')).Perm (Hs st):=by
     rw[fAC,el];have e0:(Hs st).toList=(Hs st).toList.take (sa+k)++(xa.toList++yb.toList)++(Hs st).toList.drop (sa+(k+n1)+m):=by
      have e2:xa.toList++yb.toList++(Hs st).toList.drop (sa+(k+n1)+m)=(Hs st).toList.drop (sa+k):=by
       rw[la,lb];have f1:(Hs st).toList.drop (sa+(k+n1))=((Hs st).toList.drop (sa+k)).drop (n1):=by rw[List.drop_drop];congr 1;exact zu3
       have f2:(Hs st).toList.drop (sa+(k+n1)+m)=((Hs st).toList.drop (sa+(k+n1))).drop m:=by rw[List.drop_drop]
       rw[f2,gI,fA6,f1,fA6]
      rw[gI,e2,fA6]
     conv=>rhs;rw[e0]
     exact List.Perm.append_right _ (List.Perm.append_left _ hrp)
    have hsb:SB V a₀ (setArr st' (k7 (sa+k) rl 0 (Hs st'))):=⟨hperm.trans hB.perm,by show kindOf st'=V;rw[g.kind];exact hB1.kind,by show failedOf st'=none;rw[g.failed];exact hB1.failed⟩
    refine h _ ⟨hsb,?_,λj hj=>?_,?_⟩
    .have lo_:∀u,u<sa+k->Rk Y (k7 (sa+k) rl 0 (Hs st')) u=Rk Y (Hs st) u:=λu hu=>jM (by rw[eg u,if_neg (by exact zvi hu)]);have hi_:∀u,sa+(k+n1)+m<=u->Rk Y (k7 (sa+k) rl 0 (Hs st')) u=Rk Y (Hs st) u:=λu hu=>jM (by rw[eg u,if_neg (by exact zBa hu)]);have mid:∀u,sa+k<=u->u<sa+(k+n1)+m->∃p,rl[u-(sa+k)]? = some p/\Rk Y (k7 (sa+k) rl 0 (Hs st')) u=Y p/\((∃j,j<n1/\Y p=Rk Y (Hs st) (sa+k+j))\/∃j,j<m/\Y p=Rk Y (Hs st) (sa+(k+n1)+j)):=λu q1 q2=>by
      have hl:u-(sa+k)<rl.length:=by exact zsx hm0 lr q2
      refine zv (rl[u-(sa+k)]) (fW hl) ?_ ?_
      .unfold Rk;rw[eg u,if_pos ⟨q1,q2⟩,fW hl]
      .have hmem:rl[u-(sa+k)]∈xa.toList++yb.toList:=hrp.mem_iff.mp (fBX hl)
       rcases fR.mp hmem with q|q
       .refine zE (j8 (Y:=Y) (a:=xa) (i:=0) (by simpa using q)) λj _ h6 _ h7=>?_;rw[sza] at h6;exact .inl (zc j h6 (by rw[<-h7,ra j h6]))
       .refine zE (j8 (Y:=Y) (a:=yb) (i:=0) (by simpa using q)) λj _ h6 _ h7=>?_;rw[szb] at h6;exact .inr (zc j h6 (by rw[<-h7,rb j h6]))
     intro u v h3 h4 h5;show Rk Y (k7 (sa+k) rl 0 (Hs st')) u<=Rk Y (k7 (sa+k) rl 0 (Hs st')) v
     by_cases c1:v<sa+k
     .rw[lo_ u (by exact zva h4 c1),lo_ v c1];exact S1 u v h3 h4 (by exact zAz c1)
     .by_cases c2:v<sa+(k+n1)+m
      .refine zl (mid v (by exact zsr c1) c2) λp hp1 hp2 hp3=>?_
       by_cases c3:u<sa+k
       .rw[lo_ u c3,hp2];have q1:=hlt' (u-sa) (by exact zuY h3 c3);rw[show sa+(u-sa)=u by exact zsi h3] at q1
        rcases hp3 with⟨j,h6,h7⟩|⟨j,h6,h7⟩
        .rw[h7];exact S1 u _ h3 (by exact zAB c3) (by exact zsu h6)
        .have:=S2 (sa+(k+n1)) (sa+(k+n1)+j) (fN _) (by exact zvf) (by exact zvl hm h6);exact zBt hrx q1 h7 this
       .clear hp3;refine zl (mid u (by exact zsr c3) (by exact zBN h4 c2)) λp' hp1' hp2' hp3'=>?_;clear hp3';rw[hp2,hp2']
        by_cases c4:u=v
        .subst c4;rw[hp1] at hp1';cases hp1';exact fN _
        .have:=fBD.mp hrs (u-(sa+k)) (v-(sa+k)) (by exact zvn hm0 lr h4 c2) (by exact zsx hm0 lr c2) (by exact zAL h4 c3 c4);rw[fW (by (first|exact zsx hm0 lr c2|exact zvn hm0 lr h4 c2))] at hp1 hp1';rw[<-Hw hp1,<-Hw hp1'];exact this
      .rw[hi_ v (by exact zvj c2)];have q2:Y y<=Rk Y (Hs st) v:=by
        have:=mge' (v-(sa+(k+n1))) (by exact zBA c2) (by exact zvh hnb h5);rwa [show sa+(k+n1)+(v-(sa+(k+n1)))=v by exact zBD c2] at this
       by_cases c3:u<sa+k
       .rw[lo_ u c3];have:=S1 u (sa+(k+n1)-1) h3 (by exact zAA c3) (by exact zsm hna)
        lia
       .by_cases c4:u<sa+(k+n1)+m
        .refine zl (mid u (by exact zsr c3) c4) λp hp1 hp2 hp3=>?_;rw[hp2]
         rcases hp3 with⟨j,h6,h7⟩|⟨j,h6,h7⟩
         .have:=S1 (sa+k+j) (sa+(k+n1)-1) (by exact zu4) (by exact zAS h6) (by exact zsm hna)
          lia
         .have:=mlt' j h6;exact zAY q2 h7 this
        .rw[hi_ u (by exact zvj c4)];exact S2 u v (by exact zBE c4) h4 h5
    .show (k7 (sa+k) rl 0 (Hs st'))[j]? = (Hs st)[j]?;rw[eg j,if_neg (by exact zBT hm hj)]
    .rw[g.pend,ep]
   split
   .exact Hl (zlZ MGx hB1 (by exact zqu hn0 sza) (by exact zqu hm0 szb) fin)
   .exact Hl (zlY MGx hB1 (by exact zqu hn0 sza) (by exact zqu hm0 szb) fin)
end
noncomputable abbrev Run:=Nat×Nat×Nat
noncomputable def RunsL(Y:Ht->Nat)(arr:Array Ht):Nat->List Run->Nat->Prop
 | lo,[],hi=>lo=hi
 | lo,p::r,hi=>p.1=lo/\1<=p.2.1/\Srt Y arr lo (lo+p.2.1)/\RunsL Y arr (lo+p.2.1) r hi
section
variable{Y:Ht->Nat}{arr arr':Array Ht}
def RunsL.len{l:List Run}:∀{lo hi:Nat},RunsL Y arr lo l hi->lo+l.length<=hi:=by
 induction l with
 | nil=>exact λh=>pA h
 | cons p r ih=>exact λh=>(zAu h.2.1 (ih h.2.2.2):_)
def Srt.out{a b x y:Nat}(h:Srt Y arr a b)(o:Out arr arr' x y)(d:b<=x\/y<=a):Srt Y arr' a b:=λi j h1 h2 h3=>by
 have e1:Rk Y arr' i=Rk Y arr i:=jM (o i (zBJ d h1 h2 h3));have e2:Rk Y arr' j=Rk Y arr j:=jM (o j (zBK d h1 h2 h3));rw[e1,e2];exact h i j h1 h2 h3
def RunsL.out{x y:Nat}(o:Out arr arr' x y){l:List Run}:∀{lo hi:Nat},RunsL Y arr lo l hi->(hi<=x\/y<=lo)->RunsL Y arr' lo l hi:=by
 induction l with
 | nil=>exact λh _=>h
 | cons p r ih=>exact λh d=>⟨h.1,h.2.1,h.2.2.1.out o (zBL d (RunsL.len h.2.2.2)),ih h.2.2.2 (zBh d)⟩
def RunsL.split{l1 l2:List Run}:∀{lo hi:Nat},RunsL Y arr lo (l1++l2) hi->∃m,RunsL Y arr lo l1 m/\RunsL Y arr m l2 hi:=by
 induction l1 with
 | nil=>exact λh=>⟨_,rfl,h⟩
 | cons p r ih=>exact λh=>(ih h.2.2.2).imp λm q=>⟨⟨h.1,h.2.1,h.2.2.1,q.1⟩,q.2⟩
def RunsL.join{l1 l2:List Run}:∀{lo m hi:Nat},RunsL Y arr lo l1 m->RunsL Y arr m l2 hi->RunsL Y arr lo (l1++l2) hi:=by
 induction l1 with
 | nil=>exact λh h'=>(show _=_ from h)▸h'
 | cons p r ih=>exact λh h'=>⟨h.1,h.2.1,h.2.2.1,ih h.2.2.2 h'⟩
def RunsL.congr{l:List Run}:∀{l':List Run} {lo hi:Nat},l.map (λp=>(p.1,p.2.1))=l'.map (λp=>(p.1,p.2.1))->RunsL Y arr lo l hi->RunsL Y arr lo l' hi:=by
 induction l with
 | nil=>
  intro l' lo hi e h;cases l' with
  | nil=>exact h
  | cons=>exact nomatch e
 | cons p r ih=>
  intro l' lo hi e h;cases l' with
  | nil=>exact nomatch e
  | cons p' r'=>
   have e':=List.cons.inj e;have e3:(p.1,p.2.1)=(p'.1,p'.2.1):=e'.1;have e1:=(Prod.mk.inj e3).1;have e2:=(Prod.mk.inj e3).2;exact⟨e1▸h.1,e2▸h.2.1,e2▸h.2.2.1,e2▸ih e'.2 h.2.2.2⟩
def zoI{J:Type}{l:List J}{i:Nat}{x y:J}(h1:l[i]? = some x)(h2:l[i+1]? = some y):l=l.take i++x::y::l.drop (i+2):=by
 obtain⟨a1,b1⟩:=fY.mp h1;obtain⟨a2,b2⟩:=fY.mp h2;have e1:l.drop i=x::l.drop (i+1):=by rw[pR a1,b1]
 have e2:l.drop (i+1)=y::l.drop (i+2):=by rw[pR a2,b2]
 rw[<-e2,<-e1,fA6]
def zqe{J:Type}{l:List J}{i:Nat}{x y z:J}(h1:l[i]? = some x)(h2:l[i+1]? = some y):(l.set i z).eraseIdx (i+1)=l.take i++z::l.drop (i+2):=by
 have e:=zoI h1 h2;have hi:i<l.length:=(fY.mp h1).1;have hl:(l.take i).length=i:=by simp;exact zut hi
 conv=>lhs;rw[e]
 rw[List.set_append_right _ _ (by exact zsg hl),hl,fBO,List.set_cons_zero,fBM (by exact zx1 hl),hl,show i+1-i=1 by exact zxf]
 rfl
end
section
variable{prog:Hh}{w:World}{A:Around}{E:Value->Shared->Prop}{s:Shared}{a₀:Array Ht}{V:SortKind}{Y:Ht->Nat}
def zon(H:qq prog w A s V Y a₀){st:SortSt}(hB:SB V a₀ st){i hi:Nat}(hR:RunsL Y (Hs st) 0 (Ho st).toList hi)(hh:hi<=a₀.size)(hi1:i+1<(Ho st).size){Q:Bool->SortSt->Prop}
  (h:∀st',SB V a₀ st'->RunsL Y (Hs st') 0 (Ho st').toList hi->(Ho st').size+1=(Ho st).size->Out (Hs st) (Hs st') 0 hi->Q true st'):wpS (model prog w) A E s (mergeAt' i) Q st:=by
 obtain⟨⟨sa,na,pw⟩,h1⟩:∃p,(Ho st)[i]? = some p:=⟨_,getElem?_pos _ i (by exact zgI hi1)⟩
 obtain⟨⟨sb,nb,pw'⟩,h2⟩:∃p,(Ho st)[i+1]? = some p:=⟨_,getElem?_pos _ (i+1) hi1⟩
 have h1':(Ho st).toList[i]? = some (sa,na,pw):=by rw[gV];exact h1
 have h2':(Ho st).toList[i+1]? = some (sb,nb,pw'):=by rw[gV];exact h2
 have e:=zoI h1' h2';rw[e] at hR;refine zg7 hR.split λm R1 q0 q1 q2 p0 p1 p2 R2=>?_;simp only at q0 q1 q2 p0 p1 p2 R2;subst q0;subst p0;have hle:=R2.len;refine zlX H hB h1 h2 q1 p1 (zBS hh hle) q2 p2 λst' M=>?_;have et:(Ho st').toList=(Ho st).toList.take i++(sa,na+nb,pw)::(Ho st).toList.drop (i+2):=by
  rw[M.pend,Array.toList_eraseIdxIfInBounds,Array.toList_setIfInBounds,zqe h1' h2']
 refine h st' M.sb ?_ ?_ (M.out.wide (fT _) (zA9 hle))
 .rw[et];refine(R1.out M.out (.inl (fN _))).join (zt rfl (by simp only;exact zsb q1) (by rw[<-fAR];exact M.srt) ?_);rw[<-fAR];exact R2.out M.out (.inr (fN _))
 .have l1:=congrArg List.length et;have l2:=congrArg List.length e;simp only[gR,fE,fP] at l1 l2;exact zAD l1 l2
end
noncomputable def zvG(sz pw:Nat):StateT SortSt Sem (ForInStep (Option Unit×Unit)):=do
 let g <-get
 match (if (Ho g).size>1 then (Ho g)[(Ho g).size-2]? else none) with
 | some (_,_,older)=>
  if older<=pw then pure (.done (none,()))
  else do
   let b <-mergeAt' ((Ho g).size-2)
   if (!b)=true then pure (.done (some (),())) else pure (.yield (none,()))
 | _=>pure (.done (none,()))
noncomputable def tR(sz lo n:Nat):StateT SortSt Sem (ForInStep (Option Unit×Nat)):=do
 let g <-get
 match (Ho g).back? with
 | some (s1,n1,_)=>do
  let r <-forIn [0:sz] ((none,()):Option Unit×Unit) λ_ _=>zvG sz (power' sz (2*s1+n1) (2*s1+n1+n1+n) sz)
  match r.1 with
  | some r=>pure (.done (some r,lo))
  | none=>do
   modify λs=>setPending s ((Ho s).modify ((Ho s).size-1) λ(st,len,_)=>(st,len,power' sz (2*s1+n1) (2*s1+n1+n1+n) sz))
   modify λs=>setPending s ((Ho s).push (lo,n,0))
   pure (.yield (none,lo+n))
 | _=>do
  modify λs=>setPending s ((Ho s).push (lo,n,0))
  pure (.yield (none,lo+n))
noncomputable def oL(sz mr:Nat)(c:Option Unit×Nat):StateT SortSt Sem (ForInStep (Option Unit×Nat)):=
 if c.2>=sz then pure (.done (none,c.2))
 else do
  let x <-countRun' c.2 (sz-c.2)
  match x with
  | some zaM=>
   if zaM<mr then do
    liftM (rule "list.sort.binary-insertion")
    let b <-binarySort' c.2 (min (sz-c.2) mr) zaM
    if (!b)=true then pure (.done (some (),c.2)) else tR sz c.2 (min (sz-c.2) mr)
   else tR sz c.2 zaM
  | _=>pure (.done (some (),c.2))
noncomputable def fL:StateT SortSt Sem (ForInStep (Option Unit×Unit)):=do
 let g <-get
 if (Ho g).size<=1 then pure (.done (none,()))
 else do
  let b <-mergeAt' (if Option.any (λx=>decide (x<(Ho g)[(Ho g).size-2+1]?.elim 0 λx=>x.snd.fst)) (if (Ho g).size-2>0 then Option.map (λx=>x.snd.fst) (Ho g)[(Ho g).size-2-1]? else none)=true then (Ho g).size-2-1 else (Ho g).size-2)
  if (!b)=true then pure (.done (some (),())) else pure (.yield (none,()))
noncomputable def ztf:StateT SortSt Sem Unit:=do
 let g <-get
 let r <-forIn [0:(Hs g).size] ((none,0):Option Unit×Nat) λ_ c=>oL (Hs g).size (minRun' (Hs g).size (Hs g).size 0) c
 match r.1 with
 | some r=>pure r
 | none=>do
  let q <-forIn [0:(Hs g).size] ((none,()):Option Unit×Unit) λ_ _=>fL
  match q.1 with
  | some r=>pure r
  | none=>pure ()
def znK:sortRuns'=ztf:=by kernel_rfl
noncomputable def zkH:Nat:=1000000
section
variable{prog:Hh}{w:World}{A:Around}{E:Value->Shared->Prop}{s:Shared}{a₀:Array Ht}{V:SortKind}{Y:Ht->Nat}
def zts(H:qq prog w A s V Y a₀){st:SortSt}(hB:SB V a₀ st){lo n:Nat}(hR:RunsL Y (Hs st) 0 (Ho st).toList lo)(hn:1<=n)(hs:Srt Y (Hs st) lo (lo+n))(hl:lo+n<=a₀.size){Q:ForInStep (Option Unit×Nat)->SortSt->Prop}
  (h:∀st',SB V a₀ st'->RunsL Y (Hs st') 0 (Ho st').toList (lo+n)->Q (.yield (none,lo+n)) st'):wpS (model prog w) A E s (tR a₀.size lo n) Q st:=by
 have fin:∀(st':SortSt),SB V a₀ st'->RunsL Y (Hs st') 0 (Ho st').toList lo->Srt Y (Hs st') lo (lo+n)->Q (.yield (none,lo+n)) (setPending st' ((Ho st').push (lo,n,0))):=λst' hB' hR' hs'=>by
  refine h _ ⟨hB'.perm,hB'.kind,hB'.failed⟩ ?_;rw[gF];exact hR'.join (zt rfl hn hs' rfl)
 refine Hl (wpS_get ?_);cases hb:(Ho st).back? with
 | none=>exact Hl (wpS_modify (Hm (fin st hB hR hs)))
 | some p=>
  obtain⟨s1,n1,pw⟩:=p;generalize power' a₀.size (2*s1+n1) (2*s1+n1+n1+n) a₀.size=pw';refine Hl (Hn (Hp (I:=λx c st'=>c=(none,())/\SB V a₀ st'/\RunsL Y (Hs st') 0 (Ho st').toList lo/\Srt Y (Hs st') lo (lo+n))
   (Q:=λc st'=>c=(none,())/\SB V a₀ st'/\RunsL Y (Hs st') 0 (Ho st').toList lo/\Srt Y (Hs st') lo (lo+n)) ?step (λc st' hh=>hh) (zt rfl hB hR hs)) ?post)
  case step=>
   intro x c st' _ hx hR1;refine zy hR1 λe4_0 hB' hR' hs'=>?_;subst e4_0;refine Hl (wpS_get ?_)
   by_cases hsz:(Ho st').size>1
   .rw[if_pos hsz];obtain⟨⟨u,v,older⟩,hq⟩:∃p,(Ho st')[(Ho st').size-2]? = some p:=⟨_,getElem?_pos _ _ (by exact zwV hsz)⟩
    rw[hq];dsimp only;split
    .exact Hm (zt rfl hB' hR' hs')
    .refine Hl (zon H hB' hR' (zy6 hl) (zwU hsz) λst'' hB'' hR'' _ ho=>?_);exact Hm (zt rfl hB'' hR'' (hs'.out ho (.inr (fN _))))
   .rw[if_neg hsz];exact Hm (zt rfl hB' hR' hs')
  case post=>
   intro c st' hR2;refine zy hR2 λe5_0 hB' hR' hs'=>?_;subst e5_0;refine Hl (wpS_modify (Hl (wpS_modify (Hm ?_))));refine fin (setPending st' _) ⟨hB'.perm,hB'.kind,hB'.failed⟩ ?_ hs';refine RunsL.congr ?_ hR';rw[Array.toList_modify];apply fCH;intro j;simp only[pT,List.getElem?_modify];split<;>cases (Ho st').toList[j]?<;>rfl
def zeo(H:qq prog w A s V Y a₀){st:SortSt}(hB:SB V a₀ st)(hp:Ho st = #[])(h2:2<=a₀.size)(hmx:a₀.size<=zkH){Q:Unit->SortSt->Prop}
  (h:∀st',SB V a₀ st'->Srt Y (Hs st') 0 a₀.size->Q () st'):wpS (model prog w) A E s sortRuns' Q st:=by
 rw[znK];refine Hl (wpS_get ?_);simp only[hB.size];have hmr:1<=minRun' a₀.size a₀.size 0:=by
  have gen:∀f n r,1<=n->1<=minRun' f n r:=by
   intro f
   induction f with
   | zero=>intro n r hn;exact zsb hn
   | succ f ih=>
    intro n r hn;rw[minRun'_succ];split
    .exact zsb hn
    .exact ih _ _ (by lia)
  exact gen _ _ _ (zr1 h2)
 generalize minRun' a₀.size a₀.size 0=mr at hmr;refine Hl (Hn (Hp (I:=λx c st'=>∃lo,c=(none,lo)/\SB V a₀ st'/\RunsL Y (Hs st') 0 (Ho st').toList lo/\lo<=a₀.size/\min x a₀.size<=lo)
  (Q:=λc st'=>c=(none,a₀.size)/\SB V a₀ st'/\RunsL Y (Hs st') 0 (Ho st').toList a₀.size) ?step ?fin (zdN 0 rfl hB (by rw[hp];rfl) (fT _) zxk)) ?post)
 case fin=>
  intro c st' hR3;refine zg6 hR3 λlo e6_1 hB' hR' hl hx=>?_;subst e6_1;have:lo=a₀.size:=zya hl hx;subst this;exact zq rfl hB' hR'
 case step=>
  intro x c st' _ hx hR4;refine zg6 hR4 λlo e7_1 hB' hR' hl hxl=>?_;subst e7_1;unfold oL;dsimp only
  by_cases hge:lo>=a₀.size
  .rw[if_pos hge];have:lo=a₀.size:=zsh hl hge;subst this;exact Hm (zq rfl hB' hR')
  .rw[if_neg hge];refine Hl (zjv H (zyx hge) (zyz hge) hB' λm st2 R=>?_);dsimp only;have hR2:RunsL Y (Hs st2) 0 (Ho st2).toList lo:=by rw[R.pend];exact hR'.out R.out (.inl (fN _))
   have hm:=R.le;have hm1:=R.m1;split
   .rename_i hlt
    refine Hl (wpS_lift (Hb ⟨rfl,?_⟩));refine Hl (zgr H (n:=min (a₀.size-lo) mr) (zsv hm hm1) (zu9 hmr hm hm1) (zAH hm hlt) R.sb R.srt λst3 R3=>?_);simp only[fCL,gH,if_false];have hR3:RunsL Y (Hs st3) 0 (Ho st3).toList lo:=by rw[R3.pend];exact hR2.out R3.out (.inl (fN _))
    exact zts H R3.sb hR3 (zu9 hmr hm hm1) R3.srt (zsv hm hm1) λst4 hB4 hR4=>(zdN _ rfl hB4 hR4 (zsv hm hm1) (zAv hmr hxl))
   .exact zts H R.sb hR2 hm1 R.srt (zuX hm hm1) λst4 hB4 hR4=>(zdN _ rfl hB4 hR4 (zuX hm hm1) (zAe hxl hm1))
 case post=>
  intro c st' hR5;refine jg hR5 λe8_0 hB' hR'=>?_;subst e8_0;refine Hl (Hn (Hp (I:=λx c st''=>c=(none,())/\SB V a₀ st''/\RunsL Y (Hs st'') 0 (Ho st'').toList a₀.size/\(Ho st'').size<=max 1 (a₀.size-x))
   (Q:=λc st''=>c=(none,())/\SB V a₀ st''/\RunsL Y (Hs st'') 0 (Ho st'').toList a₀.size/\(Ho st'').size<=1) ?step2 ?fin2 (zt rfl hB' hR' (by have:=hR'.len;simp at this;lia))) ?post2)
  case fin2=>
   intro c st'' hR6;refine zy hR6 λe9_0 hB2 hR2 hsz=>?_;subst e9_0;exact zt rfl hB2 hR2 (zx5 hsz)
  case step2=>
   intro x c st'' _ hx hR7;refine zy hR7 λe10_0 hB2 hR2 hsz=>?_;subst e10_0;refine Hl (wpS_get ?_)
   by_cases h1:(Ho st'').size<=1
   .rw[if_pos h1];exact Hm (zt rfl hB2 hR2 h1)
   .rw[if_neg h1];refine Hl (zon H hB2 hR2 (fN _) ?_ λst3 hB3 hR3 hs3 _=>?_)
    .have gen:∀(c:Bool) (n:Nat),2<=n->(if c=true then n-2-1 else n-2)+1<n:=λc n hn=>by cases c<;>simp<;>(first|exact zwB hn|exact zwz hn)
     exact gen _ _ (zxa h1)
    .exact Hm (zt rfl hB3 hR3 (zA1 hsz hs3))
  case post2=>
   intro c st'' hR8;refine zy hR8 λe11_0 hB2 hR2 hsz=>?_;subst e11_0;refine Hm (h st'' hB2 ?_);have hl:(Ho st'').toList.length<=1:=by simpa using hsz
   generalize (Ho st'').toList=l at hR2 hl
   match l,hR2,hl with
   | [],hR2,_=>have:0=a₀.size:=hR2;lia
   | [p],⟨_,_,h3,h4⟩,_=>
    have:0+p.2.1=a₀.size:=h4;rw[this] at h3;exact h3
   | _::_::_,_,hl=>simp at hl
end
def zgL{vs:List Value}{out:Array Ht}(h:out.Perm (vs.toArray.zip vs.toArray)):(out.map (·.2)).toList.Perm vs/\∀p∈out.toList,p.1=p.2:=by
 have h':=fAC.mp h;have e:(vs.toArray.zip vs.toArray).toList=vs.zip vs:=by simp
 rw[e] at h';have z:∀(l:List Value),(l.zip l).map (·.2)=l/\∀p∈l.zip l,p.1=p.2:=by
  intro l
  induction l with
  | nil=>exact⟨rfl,λp hp=>by simp at hp⟩
  | cons x l ih=>exact⟨by simp[ih.1],λp hp=>by
    rcases fG.mp hp with e|hp
    .rw[e]
    .exact ih.2 p hp⟩
 refine⟨?_,λp hp=>(z vs).2 p (h'.mem_iff.mp hp)⟩;have:=h'.map (·.2);rw[(z vs).1] at this
 simpa using this
section
variable{prog:Hh}{w:World}{A:Around}{E:Value->Shared->Prop}{s:Shared}
def zjw{a:Addr}{vs:List Value}{n:Nat}{P:PySem.Fin->Shared->Prop}(Y:Value->Nat)(ho:s.heap.get? a=some (Hu "list" vs.toArray n))(hlen:vs.length<=1000000)(hmx:vs.length<=zkH)
  (hk:∀h':Heap,(∀b o,b≠a->s.heap.get? b=some o->h'.get? b=some o)->2<=vs.length->∃V,(∀(Q:SortKind->Shared->Prop),Q V { s with heap:=h' }->wpAny (model prog w) A (keyKind' vs.toArray) Q E { s with heap:=h' })/\
   qq prog w A { s with heap:=h' } V (λp=>Y p.1) (vs.toArray.zip vs.toArray))
  (h:∀(out:List Value) c (h3:Heap),out.Perm vs->out.Pairwise (λx y=>Y x<=Y y)->h3.get? a=some (Hu "list" out.toArray c)->(∀b o,b≠a->s.heap.get? b=some o->h3.get? b=some o)->P (.done (.ret .none)) { s with heap:=h3 }) :
  wpAny (model prog w) A (Builtin.«list.sort» ⟨[.ref a],[]⟩) P E s:=by
 obtain⟨e1,ho1⟩:∃e1,(s.heap.update a (Obj.mapSeq λ_=>(#[]:Array Value))).get? a=some (Hu "list" #[] e1):=⟨_,Hv ho λ_=>#[]⟩
 have s1:=Heap.SameBut.update s.heap a (Obj.mapSeq λ_=>(#[]:Array Value));obtain⟨h2,hh2⟩:∃x,x=((s.heap.update a (Obj.mapSeq λ_=>(#[]:Array Value))).push (Hu "tuple" vs.toArray 0)).push (Hu "list" #[] 0):=⟨_,rfl⟩
 have keep2:∀b o,b≠a->s.heap.get? b=some o->h2.get? b=some o:=λb o hb e=>by
  rw[hh2];exact Heap.get?_push_of_some _ (Heap.get?_push_of_some _ ((s1.2 b hb).trans e))
 have ho2:h2.get? a=some (Hu "list" #[] e1):=by rw[hh2];exact Heap.get?_push_of_some _ (Heap.get?_push_of_some _ ho1)
 rw[list_sort_plain];refine G6 (Hr ho rfl ?_);refine G6 (Hq ho rfl ?_ (by rw[gE,Ha];exact zgH hlen) (fT _));refine G6 (seqEpoch_at ho1 rfl ?_);refine G6 (wpAny_newTuple ?_ (by show vs.length<=_;rw[Ha];exact zgH hlen));refine G6 (He ?_ (fT _));refine G9 ?_;rw[<-hh2];have rest:∀st':SortSt,(Hs st').Perm (vs.toArray.zip vs.toArray)->failedOf st'=none->(Hs st').toList.Pairwise (λx y=>Y x.1<=Y y.1)->wpAny (model prog w) A (do
   let touched:=(<-seqEpoch a) != e1
   Builtin.List.listUpdate (.ref a) λ_=>(Hs st').map (·.2)
   if let some e:=failedOf st' then rule "list.sort.comparison-raised";throw e
   if touched then rule "list.sort.modified";raiseError "ValueError" "list modified during sort"
   ret .none) P E { s with heap:=h2 }:=by
  intro st' hp hf hs;obtain⟨z1,z2⟩:=zgL hp;have hl:=z1.length_eq;obtain⟨c2,hc2⟩:∃c2,(h2.update a (Obj.mapSeq λ_=>(Hs st').map (·.2))).get? a=some (Hu "list" ((Hs st').map (·.2)) c2):=⟨_,Hv ho2 λ_=>(Hs st').map (·.2)⟩
  have s2:=Heap.SameBut.update h2 a (Obj.mapSeq λ_=>(Hs st').map (·.2));refine G6 (seqEpoch_at ho2 rfl ?_);refine G6 (Hq ho2 rfl ?_ (fT _) (by
   have:((Hs st').map (·.2)).size=vs.length:=by rw[<-hl];simp
   rw[this,Ha];exact zw0 hlen))
  rw[hf];simp only[bne_self_eq_false,gH,if_false];refine G7 (h ((Hs st').map (·.2)).toList c2 _ z1 ?_ (by rw[hc2]) λb o hb e=>(s2.2 b hb).trans (keep2 b o hb e));rw[Array.toList_map,fAV];exact hs.imp_of_mem λ{x y} hx hy hxy=>by rw[<-z2 x hx,<-z2 y hy];exact hxy
 by_cases hn:vs.length<2
 .have hn2:vs.toArray.size<2:=by rw[gE];exact hn
  rw[if_pos hn2,if_pos hn2];refine G6 (G7 ?_);refine G6 ?_;refine G7 ?_;refine rest (SortSt.mk' general' (vs.toArray.zip vs.toArray) #[] 7 none) (.refl _) rfl ?_;have:(vs.toArray.zip vs.toArray).toList.length<2:=by simp;exact zwD hn
  generalize (vs.toArray.zip vs.toArray).toList=l at this
  match l,this with
  | [],_=>exact .nil
  | [x],_=>exact fAN _ _
  | _::_::_,h=>simp only[fP] at h;lia
 .have hn2:¬vs.toArray.size<2:=by rw[gE];exact hn
  rw[if_neg hn2,if_neg hn2];refine zb (hk h2 keep2 (zt8 hn)) λV hq H=>?_;refine G6 (hq _ ?_);have hB:SB V (vs.toArray.zip vs.toArray) (SortSt.mk' V (vs.toArray.zip vs.toArray) #[] 7 none):=⟨.refl _,rfl,rfl⟩
  have run:=zeo (E:=E) (Q:=λ_ st'=>(Hs st').Perm (vs.toArray.zip vs.toArray)/\failedOf st'=none/\(Hs st').toList.Pairwise (λx y=>Y x.1<=Y y.1)) H hB rfl (by simp;exact zt8 hn) (by simpa using hmx) λst' hB' hs=>(zq hB'.perm hB'.failed (by
   have:=hB'.size;exact jT (Y:=λp=>Y p.1) (by rw[this];exact hs)))
  refine G6 (G8 run (λr s' hr=>?_) λ_ _ e=>e);obtain⟨⟨⟩,st'⟩:=r;refine zy hr λe3_0 hp hf hs=>?_;subst e3_0;exact rest st' hp hf hs
def zlG{b:Bool}{t:Bool}{Q:Bool->Shared->Prop}(xs:List PyData):∀(ys:List PyData) {vs ws:List Value} {as bs:List Addr} {fin:Bool} {i:Nat},ReadsAll s.heap vs xs as->ReadsAll s.heap ws ys bs->PyData.canLayAll0 xs=true->PyData.canLayAll0 ys=true->A.units+2*PyData.depthAll xs+10<cLine->
  fin=decide (xs.length<ys.length)->(i=0->b=true->∀x y,xs.head? = some x->ys.head? = some y->(∃u v,x = .int u/\y = .int v)\/∃u v,x = .str u/\y = .str v)->zbA xs ys=some t->Q t s->KatLex prog w A b fin Q (vs.zip ws) i s:=by
 induction xs with
 | nil=>
  intro ys vs ws as bs fin i rx ry ha hb hu hf hi e q;rw[jJ rx];have e1:t=fin:=Hw (e.symm.trans (show zbA [] ys=some fin by rw[hf];cases ys<;>rfl));exact kat_nil (e1▸q)
 | cons x xs ih=>
  intro ys vs ws as bs fin i rx ry ha hb hu hf hi e q;refine qO (ju rx) λ_ _ _ _ z1 h1 h2=>?_;rw[z1];cases ys with
  | nil=>rw[jJ ry];exact kat_nil ((Hw e).symm.trans hf.symm▸q)
  | cons y ys=>
   refine qO (ju ry) λ_ _ _ _ z1 k1 k2=>?_;rw[z1];have ha:=(gT _ _).mp ha;have hb:=(gT _ _).mp hb;have hu:A.units+2*max x.depth (PyData.depthAll xs)+10<cLine:=hu;have heq:=eqAt_reads x y A s _ _ _ _ h1 k1 ha.1 hb.1 (zvg hu);rw[qL] at e;refine kat_cons (heq prog w _ _ ?_);cases hE:PyData.eqv x y with
   | true=>
    rw[hE] at e;exact kat_yes (ih ys h2 k2 ha.2 hb.2 (zu6 hu) (hf.trans (decide_eq_decide.mpr fB1)) (λh0=>nomatch h0) e q)
   | false=>
    rw[hE] at e;refine kat_no ?_;cases hbi:(b&&i==0) with
    | false=>
     rw[oneLt'_eq];exact G6 (zhA x y h1 k1 ha.1 hb.1 (zu5 hu) e prog w _ _ (wpAny_truthy_bool q))
    | true=>
     have hbi:=(gT _ _).mp hbi
     rcases hi (beq_iff_eq.mp hbi.2) hbi.1 x y rfl rfl with h|h
     .refine z0 h λu u' f1 f2=>?_;subst f1 f2;refine zY (zba h1) λ_ z1=>zY (zba k1) λ_ z2=>?_;rw[z1,z2];exact oneLt_int ((Hw e).symm▸q)
     .refine z0 h λu u' f1 f2=>?_;subst f1 f2;refine zY (zbb h1) λ_ z1=>zY (zbb k1) λ_ z2=>?_;rw[z1,z2];exact oneLt_str ((Hw e).symm▸q)
end
def zs1{a b:Nat}(h:a<b↔b<a):a=b:=fBE (pL.mp λl=>Nat.lt_asymm l (h.mpr l)) (pL.mp λl=>Nat.lt_asymm l (h.mp l))
def zbF{U:AHeap}{h:Heap}{xs:List AV}{v:Value}{vs:List Value}(r:RepVs U h xs (v::vs)):∃x xs',xs=x::xs'/\RepV U h x v/\RepVs U h xs' vs:=by
 cases r with
 | cons a r=>exact zL _ _ rfl a r
def RepVs.perm{U:AHeap}{h:Heap}{vs ws:List Value}(p:ws.Perm vs):∀{xs},RepVs U h xs vs->∃ys,ys.Perm xs/\RepVs U h ys ws:=by
 induction p with
 | nil=>intro xs r;exact⟨xs,.refl _,r⟩
 | cons v p ih=>
  intro xs r;obtain⟨x,xs',rfl,a,r⟩:=zbF r;obtain⟨ys,h1,h2⟩:=ih r;exact⟨x::ys,.cons x h1,.cons a h2⟩
 | swap v w l=>
  intro xs r;obtain⟨x,xs',rfl,a,r⟩:=zbF r;obtain⟨y,xs'',rfl,b,r⟩:=zbF r;exact⟨y::x::xs'',.swap ..,.cons b (.cons a r)⟩
 | trans p q ih1 ih2=>
  intro xs r;refine zb (ih2 r) λys h1 h2=>?_;refine zb (ih1 h2) λzs h3 h4=>?_;exact zc zs (h3.trans h1) h4
def RepVs.pair{U:AHeap}{h:Heap}{Y:AV->Nat}{YV:Value->Nat}{ys:List AV}:∀{out:List Value},RepVs U h ys out->(∀y∈ys,∀v,RepV U h y v->YV v=Y y)->out.Pairwise (λx y=>YV x<=YV y)->ys.Pairwise (λx y=>Y x<=Y y):=by
 induction ys with
 | nil=>intro out _ _ _;exact .nil
 | cons x ys ih=>
  intro out r hρ hp;obtain⟨v,vs,rfl,a,r⟩:=RepVs.wF r;obtain⟨h1,h2⟩:=gK.mp hp;refine gK.mpr ⟨λy hy=>?_,ih r (λy hy=>hρ y (fB _ hy)) h2⟩;obtain⟨i,hi⟩:=fAG.mp hy;obtain⟨w,hw,rw_⟩:=r.get hi;have:=h1 w (pY hw);rw[hρ x fA v a,hρ y (fB _ hy) w rw_] at this;exact this
def zdU{U:AHeap}{h:Heap}{T:Value}{M:Model}{xs:List AV}:∀{vs:List Value},RepVs U h xs vs->(∀x∈xs,∃y r,x = .tup (y::r)/\∀v,RepV U h y v->Looks M h (typeOf v) T)->∃fs,KatTups h vs fs/\fs.length=vs.length/\∀v∈fs,Looks M h (typeOf v) T:=by
 induction xs with
 | nil=>intro vs r _;obtain rfl:=RepVs.wG r;exact⟨[],.nil,rfl,λv hv=>nomatch hv⟩
 | cons x xs ih=>
  intro vs r hx;cases r with
  | @cons _ _ v vs a r=>
  refine zl (ih r λx hx'=>hx x (fB _ hx')) λfs h1 h2 h3=>?_;refine z0 (hx x fA) λy ys e11_2 hl=>?_;subst e11_2;refine zi (RepV.wI a) λt ws e12_2 hlen ht rs=>?_;subst e12_2;refine jz ht λo ho hc n hd=>?_;refine zn (RepVs.wF rs) λu us e14_2 ru rus=>?_;subst e14_2;exact zv (u::fs) (.cons ho hc hd rfl h1) (by simp[h2]) (λw hw=>by
   rcases fG.mp hw with e|hw
   .subst e;exact hl w ru
   .exact h3 w hw)
def zch{h:Heap}{ds:List PyData}:∀{z:List Value} {as:List Addr},ReadsAll h z ds as->z.length=ds.length:=by
 induction ds with
 | nil=>exact λr=>by rw[jJ r];rfl
 | cons d ds ih=>exact λr=>qO (ju r) λ_ _ _ _ z _ r=>by rw[z];exact congrArg (· + 1) (ih r)
def zkL{X:Cx}{U:AHeap}{s:Shared}{A:Around}{x y:AV}{v1 v2:Value}{t:Bool}{Q:Bool->Shared->Prop}{E:Value->Shared->Prop}(a:At X U s)(hu:A.units+2000<cLine)(rx:RepV U s.heap x v1)(ry:RepV U s.heap y v2)
  (hx:∃i r,x = .tup (.int i::r))(hy:∃i r,y = .tup (.int i::r))(hlt:zit (vis U) x y t)(hQ:Q t s):wpAny X.M A (keyLt' (tuples' true) v1 v2) Q E s:=by
 refine zr hlt λda db ra rb oa ob el=>?_;obtain⟨⟨as1,q1⟩,c1⟩:=ra.reads a rx;obtain⟨⟨as2,q2⟩,c2⟩:=rb.reads a ry;refine z7 hx λi r e3_2=>?_;subst e3_2;refine z7 hy λj r' e4_2=>?_;subst e4_2;refine zb (Rd.wI ra) λds e5_1 rda=>?_;subst e5_1;refine zb (Rd.wI rb) λes e6_1 rdb=>?_;subst e6_1;cases q1 with
 | tuple ho1 hc1 hd1 hr1=>
  cases q2 with
  | tuple ho2 hc2 hd2 hr2=>
   have c3:=oa;simp only[PyData.canLay0] at c1 c2;simp only[PyData.depth] at c3;simp only[zb5,zkk,zcY] at el;refine kat_lt ho1 hd1 ho2 hd2 (zlG ds es hr1 hr2 c1 c2 (zyZ hu c3) (by rw[<-zch hr1,<-zch hr2];simp) (λ_ _ u v hu hv=>?_) el hQ);refine zn (RdL.wF rda) λd1 ds1 z1 g1 g2=>?_;subst z1;refine zn (RdL.wF rdb) λd2 ds2 z2 g3 g4=>?_;subst z2;exact .inl (zaP _ _ ((Hw hu).symm.trans (Rd.wC g1)) ((Hw hv).symm.trans (Rd.wC g3)))
open Classical in
def zgA{X:Cx}:z8 X (.builtin "sorted") za9:=λd A U s rr as vs Q E L a r q=>by
 refine zb (jy q) λx0 e15_1 q=>?_;subst e15_1;refine zb (zg q) λxs hx0 q=>?_;unfold zfr at q
 .refine zb (qn r) λv e17_1 rv=>?_;subst e17_1;refine zl q λY hkd hlt q=>?_;refine zr (a.isList (zV hx0) rv) λp vs e19_2 hp hl rs hm=>?_;subst e19_2;have hlen:=rs.length;have room:=L.room
  -- ranks of values
  have uni:∀x∈xs,∀y∈xs,∀v,RepV U s.heap x v->RepV U s.heap y v->Y x=Y y:=λx hx y hy v rx ry=>by
   refine zr (hlt x hx y hy) λa1 b1 h1 h2 k1 k2 e1=>?_;refine zr (hlt y hy x hx) λa2 b2 h3 h4 k3 k4 e2=>?_;obtain⟨⟨_,q1⟩,cl⟩:=h1.reads a rx;obtain⟨⟨_,q2⟩,_⟩:=h2.reads a ry;obtain⟨⟨_,q3⟩,_⟩:=h3.reads a ry;obtain⟨⟨_,q4⟩,_⟩:=h4.reads a rx;have d1:=PySem.SeqAt.Reads.unique _ _ _ _ _ cl q1 q2;have d2:=PySem.SeqAt.Reads.unique _ _ _ _ _ cl q1 q3;have d3:=PySem.SeqAt.Reads.unique _ _ _ _ _ cl q1 q4;subst d1;subst d2;subst d3;rw[e1] at e2;have:=Hw e2;rw[decide_eq_decide] at this;exact zs1 this
  obtain⟨YV,hρV⟩:∃YV:Value->Nat,∀x∈xs,∀v,RepV U s.heap x v->YV v=Y x:=by
   refine⟨λv=>if h:∃x,x∈xs/\RepV U s.heap x v then Y (choose h) else 0,λx hx v rx=>?_⟩;have h:∃x,x∈xs/\RepV U s.heap x v:=(zc x hx rx)
   simp only[dif_pos h];exact uni _ (choose_spec h).1 x hx v (choose_spec h).2 rx
  refine zK (Calls.call_function_entry kind_sorted plain_sorted entry_sorted (args_sorted1 _) ?_);unfold Builtin.«sorted»;refine G6 (m:=checkCount "sorted" 1 1 _) (G7 ?_);refine G6 (collect_list hl ?_ (by rw[Ha];exact zgK hm hlen));refine G6 (He ?_ (by rw[Ha];exact zgK hm hlen));have hsz:((s.heap.push (Hu "list" #[] 0)).update s.heap.objs.size (Obj.mapSeq (·++vs.toArray))).objs.size=s.heap.objs.size+1:=by
   rw[Heap.size_update,size_push']
  obtain⟨h1,hh1⟩:∃x,x=((s.heap.push (Hu "list" #[] 0)).update s.heap.objs.size (Obj.mapSeq (·++vs.toArray))).push (Hu "list" vs.toArray 0):=⟨_,rfl⟩
  have hoL:h1.get? (s.heap.objs.size+1)=some (Hu "list" vs.toArray 0):=by
   rw[hh1,<-hsz];exact Heap.get?_push_size _ rfl
  have keep:∀b o,s.heap.get? b=some o->h1.get? b=some o:=λb o q=>by
   have hlt:b<s.heap.objs.size:=Heap.lt_size q;rw[hh1,Heap.get?_push_ne _ _ _ (by rw[hsz];exact fAH (fCI hlt)),Heap.get?_update_ne _ _ _ _ (fAH hlt),Heap.get?_push_ne _ _ _ (fAH hlt)];exact q
  show wpAny _ _ _ _ _ { s with heap:=((s.heap.push (Hu "list" #[] 0)).update s.heap.objs.size (Obj.mapSeq (·++vs.toArray))).push (Hu "list" vs.toArray 0) };rw[hsz,<-hh1];have keep':∀h':Heap,(∀b o,b≠s.heap.objs.size+1->h1.get? b=some o->h'.get? b=some o)->∀b o,s.heap.get? b=some o->h'.get? b=some o:=λh' hk b o e=>by
   have hlt:b<s.heap.objs.size:=ltA e;exact hk b o (fAH (fCI hlt)) (keep b o e)
  refine G6 (G9 (Hd slot_list_sort (zc _ hoL rfl) entry_list_sort ?body (args_list_sort _)))
  case body=>
   refine zjw (s:={ s with heap:=h1 }) YV hoL (zuE hm hlen) (by rw[<-hlen];exact hm) (λh' hk' h2=>?_) λout c h3 hperm hsrt ho3 hk3=>?_
   .have kp:=keep' h' hk';have kv:KeepV U s.heap U h':=.ext kp;have a':At X U { s with heap:=h' }:=a.grown s.toks kp;have rs':=rs.mono kv;have mz:∀z,z∈(vs.toArray.zip vs.toArray).toList->z.1∈vs:=λz hz=>by
     have:z∈vs.zip vs:=by simpa using hz
     exact(fBF this).1
    rcases hkd with hkd|hki
    case inr=>
     refine zc oneType' (λQ' hq=>?_) (λp' q' hp' hq' Q' E' hQ=>?_)
     .refine kas_kind (s:={ s with heap:=h' }) (vs:=vs) (T:=.type "int") (zr2 h2) (λv hv=>?_) (by decide) (by decide) hq;refine zb (rs'.mem v hv) λx hx rx=>?_;obtain⟨i,rfl⟩:=hki x hx;obtain⟨_,rfl⟩:=RepV.wC rx;exact .now
     .refine zb (rs.mem p'.1 (mz p' hp')) λx hx rx=>?_;refine zb (rs.mem q'.1 (mz q' hq')) λy hy ry=>?_;have hQ:Q' (decide (Y x<Y y)) { s with heap:=h' }:=by rw[<-hρV x hx _ rx,<-hρV y hy _ ry];exact hQ
      obtain⟨i,rfl⟩:=hki x hx;obtain⟨j,rfl⟩:=hki y hy;refine zr (hlt _ hx _ hy) λda db ra rb oa ob el=>?_;obtain rfl:=Rd.wC ra;obtain rfl:=Rd.wC rb;simp only[zb5,zkk,zcY,Option.some.injEq] at el;rw[<-el] at hQ;generalize p'.1=v1 at rx ⊢;generalize q'.1=v2 at ry ⊢;obtain⟨_,rfl⟩:=RepV.wC rx;obtain⟨_,rfl⟩:=RepV.wC ry;rw[keyLt'_oneType];exact oneLt_int hQ
    have hT3:∀x∈xs,∃y r,x = .tup (y::r)/\∀v,RepV U h' y v->Looks X.M h' (typeOf v) (.type "int"):=λx hx=>by
     refine z7 (hkd x hx) λi r e36_2=>?_;subst e36_2;refine zaP _ r rfl (λv rv=>?_);obtain⟨_,rfl⟩:=RepV.wC rv;exact .now
    refine zl (zdU (M:=X.M) rs' hT3) λfs f1 f2 f3=>?_;refine zc (tuples' true) (λQ' hq=>?_) (λp' q' hp' hq' Q' E' hQ=>?_)
    .refine kat_kind (s:={ s with heap:=h' }) f1 (zxT h2 f2) f3 (by decide) ?_;exact hq
    .refine zb (rs.mem p'.1 (mz p' hp')) λx hx rx=>?_;refine zb (rs.mem q'.1 (mz q' hq')) λy hy ry=>?_;have hQ:Q' (decide (Y x<Y y)) { s with heap:=h' }:=by rw[<-hρV x hx _ rx,<-hρV y hy _ ry];exact hQ
     have rx':=rx.mono kv;have ry':=ry.mono kv;exact zkL a' (by rw[Around.in1_units,Around.in1_units];exact zDm room) rx' ry' (hkd x hx) (hkd y hy) (hlt x hx y hy) hQ
   .have kp:=keep' h3 hk3;have kv:KeepV U s.heap U h3:=.ext kp;refine zb (rs.perm hperm) λys hy1 hy2=>?_;have hys:ys.Pairwise λx y=>Y x<=Y y:=hy2.pair (λy hy v rv=>hρV y (hy1.mem_iff.mp hy) v rv) hsrt;refine zc _ rfl (G7 (zc _ rfl (λhsz'=>?_)));exact zcH (t:=s.toks) a kp (fA7 _) ho3 (hy2.mono kv) (by rw[hy1.length_eq];exact hm) hsz' (q ys hy1 hys)
inductive All2{J β:Type}(R:J->β->Prop):List J->List β->Prop
 | nil:All2 R [] []
 | cons {a:J} {b:β} {as:List J} {bs:List β}:R a b->All2 R as bs->All2 R (a::as) (b::bs)
def All2.perm{J β:Type}{R:J->β->Prop}{bs cs:List β}(p:cs.Perm bs):∀{as:List J},All2 R as bs->∃ds:List J,ds.Perm as/\All2 R ds cs:=by
 induction p with
 | nil=>intro as h;exact⟨as,.refl _,h⟩
 | cons b p ih=>
  intro as h;cases h with
  | @cons a _ as' _ h1 h2=>
   refine zb (ih h2) λds h3 h4=>?_;exact⟨a::ds,.cons a h3,.cons h1 h4⟩
 | swap b c l=>
  intro as h;cases h with
  | @cons a _ as' _ h1 h2=>
   cases h2 with
   | @cons a' _ as' _ h3 h4=>exact⟨a'::a::as',.swap ..,.cons h3 (.cons h1 h4)⟩
 | trans p q ih1 ih2=>
  intro as h;refine zb (ih2 h) λds h1 h2=>?_;refine zb (ih1 h2) λes h3 h4=>?_;exact zc es (h3.trans h1) h4
def All2.mem2{J β:Type}{R:J->β->Prop}:∀{as:List J} {bs:List β},All2 R as bs->∀b∈bs,∃a∈as,R a b:=by
 intro as bs h
 induction h with
 | nil=>intro b hb;cases hb
 | cons h1 h2 ih=>
  intro b hb
  rcases fG.mp hb with e|hb
  .subst e;exact zc _ fA h1
  .refine zb (ih b hb) λa ha hr=>?_;exact zc a (fB _ ha) hr
def All2.pair{J β:Type}{R:J->β->Prop}{f:J->Nat}{g:β->Nat}:∀{as:List J} {bs:List β},All2 R as bs->(∀a∈as,∀b,R a b->g b=f a)->bs.Pairwise (λx y=>g x<=g y)->as.Pairwise (λx y=>f x<=f y):=by
 intro as bs h
 induction h with
 | nil=>intro _ _;exact .nil
 | cons h1 h2 ih=>
  intro he hp;cases hp with
  | cons p1 p2=>
   refine .cons (λb hb=>?_) (ih (λa ha=>he a (fB _ ha)) p2);have:∀{as bs},All2 R as bs->∀a∈as,∃b∈bs,R a b:=by
    intro as bs h
    induction h with
    | nil=>intro b hb;cases hb
    | cons h1 h2 ih=>
     intro b hb
     rcases fG.mp hb with e|hb
     .subst e;exact zc _ fA h1
     .refine zb (ih b hb) λa ha hr=>?_;exact zc a (fB _ ha) hr
   refine zb (this h2 b hb) λc hc hr=>?_;have:=p1 c hc;rw[he _ fA _ h1,he b (fB _ hb) c hr] at this;exact this
def zoX{U:AHeap}{h:Heap}{key:AV->AV}:∀{xs:List AV} {vs ks:List Value},RepVs U h xs vs->RepVs U h (xs.map key) ks->All2 (λx (p:Ht)=>RepV U h x p.2/\RepV U h (key x) p.1) xs (ks.zip vs):=by
 intro xs
 induction xs with
 | nil=>intro vs ks h1 h2;obtain rfl:=RepVs.wG h1;cases h2;exact .nil
 | cons x xs ih=>
  intro vs ks h1 h2;cases h1 with
  | cons a1 r1=>cases h2 with
   | cons a2 r2=>exact .cons ⟨a1,a2⟩ (ih r1 r2)
def zmH{U:AHeap}{h:Heap}{key:AV->AV}:∀{xs:List AV} {ps:List Ht},All2 (λx (p:Ht)=>RepV U h x p.2/\RepV U h (key x) p.1) xs ps->RepVs U h xs (ps.map (·.2)):=by
 intro xs ps h
 induction h with
 | nil=>exact .nil
 | cons h1 h2 ih=>exact .cons h1.1 ih
def zsA(X:Cx)(kf:Value)(Uv:AHeap)(A:Around)(x k:AV):Prop:=∀U s v,vis U=Uv->At X U s->RepV U s.heap x v->wpAny X.M A (PySem.call kf [v] []) (liftQ X U s λk' U'=>k'=k/\U'=Uv) (λ_ _=>False) s
open Classical in
def zeu{X:Cx}{kf:Value}{d:Dp}{A:Around}{U:AHeap}{s:Shared}{x0:AV}{v0:Value}{r:Bool}{xs:List AV}{key:AV->AV}{Y:AV->Nat}{Q:zm}{E:Value->Shared->Prop}(L:Live X d A)(a:At X U s)(hx0:jm (vis U) x0=some xs)(rv0:RepV U s.heap x0 v0)(hkt:∀p:Addr,Builtin.«list.sort» ⟨[.ref p],[(Str.ofString "key",kf)]⟩=ksk_tree p kf false)
  (hk:∀x∈xs,zsA X kf (vis U) A.in1.in1 x (key x))(kd:zis (xs.map key))(hlt:∀x∈xs,∀y∈xs,zit (vis U) (key x) (key y) (decide (Y x<Y y)))
  (q:∀ys:List AV,ys.Perm xs->ys.Pairwise (λx y=>Y x<=Y y)->mkL r ys Q (vis U)) :
  wpAny X.M A (call (.builtin "sorted") [v0] [(Str.ofString "key",kf)]) (liftQ X U s Q) E s:=by
 refine zr (a.isList (zV hx0) rv0) λp vs e13_2 hp hl rs hm=>?_;subst e13_2;have hlen:=rs.length;have room:=L.room;have u1:A.in1.in1.units=A.units+2:=by rw[Around.in1_units,Around.in1_units]
 refine call_function_entry_kw kind_sorted plain_sorted entry_sorted (ksk_s1 _ _) ?_;unfold Builtin.«sorted»;refine G6 (m:=checkCount "sorted" 1 1 _) (G7 ?_);refine G6 (collect_list hl ?_ (by rw[Ha];exact zgK hm hlen));refine G6 (He ?_ (by rw[Ha];exact zgK hm hlen));have hsz:((s.heap.push (Hu "list" #[] 0)).update s.heap.objs.size (Obj.mapSeq (·++vs.toArray))).objs.size=s.heap.objs.size+1:=by
  rw[Heap.size_update,size_push']
 obtain⟨h1,hh1⟩:∃x,x=((s.heap.push (Hu "list" #[] 0)).update s.heap.objs.size (Obj.mapSeq (·++vs.toArray))).push (Hu "list" vs.toArray 0):=⟨_,rfl⟩
 have hoL:h1.get? (s.heap.objs.size+1)=some (Hu "list" vs.toArray 0):=by
  rw[hh1,<-hsz];exact Heap.get?_push_size _ rfl
 have hs1:h1.objs.size=s.heap.objs.size+2:=by rw[hh1,size_push',hsz]
 have keep:∀b o,s.heap.get? b=some o->h1.get? b=some o:=λb o q=>by
  have hlt:b<s.heap.objs.size:=Heap.lt_size q;rw[hh1,Heap.get?_push_ne _ _ _ (by rw[hsz];exact fAH (fCI hlt)),Heap.get?_update_ne _ _ _ _ (fAH hlt),Heap.get?_push_ne _ _ _ (fAH hlt)];exact q
 show wpAny _ _ _ _ _ { s with heap:=((s.heap.push (Hu "list" #[] 0)).update s.heap.objs.size (Obj.mapSeq (·++vs.toArray))).push (Hu "list" vs.toArray 0) };rw[hsz,<-hh1];refine G6 (G9 (wpAny_call_entry_kw slot_list_sort (zc _ hoL rfl) entry_list_sort ?body (ksk_l1 _ _)))
 case body=>
 rw[hkt];obtain⟨D,hD⟩:∃D,D=s.heap.objs.size+1:=⟨_,rfl⟩
 rw[<-hD] at hoL ⊢;obtain⟨e1,ho1⟩:∃e1,(h1.update D (Obj.mapSeq λ_=>(#[]:Array Value))).get? D=some (Hu "list" #[] e1):=⟨_,Hv hoL λ_=>#[]⟩
 have sb1:=Heap.SameBut.update h1 D (Obj.mapSeq λ_=>(#[]:Array Value));have hkS:((h1.update D (Obj.mapSeq λ_=>(#[]:Array Value))).push (Hu "tuple" vs.toArray 0)).objs.size=s.heap.objs.size+3:=by rw[size_push',Heap.size_update,hs1]
 unfold ksk_tree;refine G6 (Hr hoL rfl ?_);refine G6 (Hq hoL rfl ?_ (by rw[gE,Ha];exact zgK hm hlen) (fT _));refine G6 (seqEpoch_at ho1 rfl ?_);refine G6 (wpAny_newTuple ?_ (by show vs.length<=_;rw[Ha];exact zgK hm hlen));refine G6 (He ?_ (fT _));refine G9 ?_;obtain⟨h0,hh0⟩:∃x,x=((h1.update D (Obj.mapSeq λ_=>(#[]:Array Value))).push (Hu "tuple" vs.toArray 0)).push (Hu "list" #[] 0):=⟨_,rfl⟩
 show wpAny X.M A.in1.in1 (ksk_rest D kf false vs.toArray e1 (.ref ((h1.update D (Obj.mapSeq λ_=>(#[]:Array Value))).push (Hu "tuple" vs.toArray 0)).objs.size)) _ E { s with heap:=((h1.update D (Obj.mapSeq λ_=>(#[]:Array Value))).push (Hu "tuple" vs.toArray 0)).push (Hu "list" #[] 0) };obtain⟨kS,hkSe⟩:∃kS,kS=s.heap.objs.size+3:=⟨_,rfl⟩
 have hk0:h0.get? kS=some (Hu "list" #[] 0):=by rw[hh0,hkSe,<-hkS];exact Heap.get?_push_size _ rfl
 have ha0:h0.get? D=some (Hu "list" #[] e1):=by rw[hh0];exact Heap.get?_push_of_some _ (Heap.get?_push_of_some _ ho1)
 have keep0:∀b o,s.heap.get? b=some o->h0.get? b=some o:=λb o e=>by
  have hlt:b<s.heap.objs.size:=Heap.lt_size e;rw[hh0];exact Heap.get?_push_of_some _ (Heap.get?_push_of_some _ ((sb1.2 b (zsp hD hlt)).trans (keep b o e)))
 have hs0:s.heap.objs.size<=h0.objs.size:=by rw[hh0,size_push',hkS];exact zxo
 rw[hkS,<-hkSe,<-hh0];have oD:=qh a (b:=D) (zoT hD);have oK:=qh a (b:=kS) (zuC hkSe);have hDK:kS≠D:=zzy hD hkSe;have fK:kS∉X.fr:=ze3 a (zuC hkSe);have fD:D∉X.fr:=ze3 a (zoT hD);clear hh0 hkS ho1 sb1 hoL keep hs1 hh1 hsz;have a0:At X U { s with heap:=h0 }:=a.grown s.toks keep0;have st0:Step (λb=>b=D\/b=kS) U s U { s with heap:=h0 }:=.same (λb o e _=>keep0 b o e) hs0;have noB:NoStay (λb=>b=D\/b=kS) s.heap:=by
  rintro b o (h|h) e _<;>exact absurd (Heap.lt_size e) (by (first|exact zzM hD h|exact zzN hkSe h))
 have noD:∀{o:Obj} {b:Array Value} {e:Nat},o=Hu "list" b e->∀es n,o.data≠.dict es n:=by
  rintro o b e rfl es n h;cases h
 have noSt:∀{o:Obj} {b:Array Value} {e:Nat},o=Hu "list" b e->¬qs o:=by
  rintro o b e rfl (⟨h,_⟩|⟨h,_⟩|⟨c,vs,h,_⟩)
  .simp[Hu] at h
  .simp[Hu] at h
  .simp[Hu] at h
 unfold ksk_rest;refine G6 (Hb ?_)
 first
  | rw[List.forIn_toArray]
  | (rw[<-fBG];simp only[List.toList_toArray])
  | rw[<-fBG]
 refine G6 (ksk_fold (λj s'=>∃U' kA e,(vis U'=vis U/\U' D=none/\U' kS=none)/\At X U' s'/\Step (λb=>b=D\/b=kS) U s U' s'/\s'.heap.get? kS=some (Hu "list" kA e)/\s'.heap.get? D=some (Hu "list" #[] e1)/\RepVs U' s'.heap ((xs.take j).map key) kA.toList) vs 0 _
  (zaR U (#[]) 0 (zq rfl oD.1 oK.1) a0 st0 hk0 ha0 .nil) ?step ?done)
 case step=>
  intro j v s' hv hR1;refine jd hR1 λU' kA e h2_3 a' st' hk' ha' rk=>?_;obtain⟨hvis,nD,nK⟩:=h2_3;have kv':=st'.keepV a noB;simp only[fBB] at rk ⊢;have hj:j<vs.length:=(fY.mp hv).1;have hjx:j<xs.length:=zzz hlen hj;obtain⟨x,hx⟩:∃x,xs[j]? = some x:=⟨_,fW hjx⟩
  refine zb (rs.get hx) λv' hv' rx=>?_;rw[hv] at hv';obtain rfl:=Hw hv';have hxm:=pY hx;have hz:kA.size=j:=by
   have h1:=rk.length;simp only[fC,fCQ,gR] at h1;exact zAU hlen hj h1
  refine G6 (wpAny_attempt (G8 (hk x hxm U' s' v hvis a' (rx.mono kv')) (λk s2 hr=>?_) λ_ _ h=>h.elim));refine zr hr λav σ2 rv a2 st2 e15_5 hσ=>?_;subst e15_5;have kv2:=st2.keepV0 a';have hk2:=st2.keep kS _ hk' nK (λh=>h) (noD rfl);have ha2:=st2.keep D _ ha' nD (λh=>h) (noD rfl);have nD2:=st2.gone ha' nD;have nK2:=st2.gone hk' nK;have sb:=Heap.SameBut.update s2.heap kS (Obj.mapSeq (·.push k));obtain⟨c2,hc2⟩:∃c2,(s2.heap.update kS (Obj.mapSeq (·.push k))).get? kS=some (Hu "list" (kA.push k) c2):=⟨_,Hv hk2 (·.push k)⟩
  have kv3:KeepV σ2 s2.heap σ2 (s2.heap.update kS (Obj.mapSeq (·.push k))):=.mk' λb o ho st=>by
   by_cases hb:b=kS
   .subst hb;rw[hk2] at ho;exact absurd st (noSt (Hw ho).symm)
   .rw[sb.2 b hb];exact ho
  try dsimp only
  refine G6 (Hq hk2 rfl ?_ (by rw[Ha];exact zAQ hm hlen hj hz) (fF (pA (Array.size_push ..)) (by rw[Ha];exact zAP hm hlen hj hz)));refine G7 (zf5 rfl σ2 (kA.push k) c2 (zq hσ nD2 nK2) (At.aside a2 s2.toks nK2 oK.2.1 (λo ho=>by rw[hk2] at ho;exact noSt (Hw ho).symm) (λq=>absurd q fK) sb) ((st'.trans (st2.weaken λ_ h=>h.elim)).trans (Step.aside s2.toks (.inr rfl) sb)) hc2 ((sb.2 D hDK.symm).trans ha2) ?_);have ek:xs.take (j+1)=xs.take j++[x]:=by rw[fCG,hx];simp
  rw[ek,fU,gF];exact((rk.mono kv2).mono kv3).append (.cons (rv.mono kv3) .nil)
 case done=>
  intro s' hR2;refine jd hR2 λU' kA e h3_3 a' st' hk' ha' rk=>?_;obtain⟨hvis,nD,nK⟩:=h3_3;have e3:xs.take (0+vs.length)=xs:=fA2 (zx0 hlen);rw[e3] at rk
  try dsimp only
  refine G6 (Hr hk' rfl ?_);have hks:kA.size=vs.length:=by have h1:=rk.length;simp only[fC,gR] at h1;exact zzO hlen h1
  have kv':=st'.keepV a noB;have rs':=rs.mono kv';rw[<-hvis] at hlt q;have z:=zoX (key:=key) rs' rk;have ez:(kA.zip vs.toArray).toList=kA.toList.zip vs:=ksk_zip kA vs;rw[<-ez] at z;have uni:∀x∈xs,∀y∈xs,∀k,RepV U' s'.heap (key x) k->RepV U' s'.heap (key y) k->Y x=Y y:=λx hx y hy v rx ry=>by
   refine zr (hlt x hx y hy) λa1 b1 h1 h2 k1 k2 e1=>?_;refine zr (hlt y hy x hx) λa2 b2 h3 h4 k3 k4 e2=>?_;obtain⟨⟨_,q1⟩,cl⟩:=h1.reads a' rx;obtain⟨⟨_,q2⟩,_⟩:=h2.reads a' ry;obtain⟨⟨_,q3⟩,_⟩:=h3.reads a' ry;obtain⟨⟨_,q4⟩,_⟩:=h4.reads a' rx;have d1:=PySem.SeqAt.Reads.unique _ _ _ _ _ cl q1 q2;have d2:=PySem.SeqAt.Reads.unique _ _ _ _ _ cl q1 q3;have d3:=PySem.SeqAt.Reads.unique _ _ _ _ _ cl q1 q4;subst d1;subst d2;subst d3;rw[e1] at e2;exact zs1 (decide_eq_decide.mp (Hw e2))
  obtain⟨YK,hρ⟩:∃YK:Value->Nat,∀x∈xs,∀k,RepV U' s'.heap (key x) k->YK k=Y x:=by
   refine⟨λv=>if h:∃x,x∈xs/\RepV U' s'.heap (key x) v then Y (choose h) else 0,λx hx v rx=>?_⟩;have h:∃x,x∈xs/\RepV U' s'.heap (key x) v:=(zc x hx rx)
   simp only[dif_pos h];exact uni _ (choose_spec h).1 x hx v (choose_spec h).2 rx
  clear uni
  -- the tail: any order of the pairs that is sorted
  have tail:∀st:SortSt,(Hs st).Perm (kA.zip vs.toArray)->failedOf st=none->((Hs st).toList.Pairwise λx y=>YK x.1<=YK y.1)->
    wpAny X.M A.in1.in1 (ksk_tail D false e1 (.ref kS) st) (λfin s''=>∃v,fin = .done (.ret v)/\wpAny X.M A.in1 (do ret (.ref D)) (λfin s''=>∃v,fin = .done (.ret v)/\liftQ X U s Q v s'') E s'') E s':=by
   intro st hp hf hs;refine zb (z.perm (fAC.mp hp)) λys hy1 hy2=>?_;have hys:ys.Pairwise λx y=>Y x<=Y y:=hy2.pair (λy hy pp hpp=>hρ y (hy1.mem_iff.mp hy) _ hpp.2) hs;have s1:=Heap.SameBut.update s'.heap kS (Obj.mapSeq λ_=>(#[]:Array Value));have na1:(s'.heap.update kS (Obj.mapSeq λ_=>(#[]:Array Value))).get? D=some (Hu "list" #[] e1):=(s1.2 D hDK.symm).trans ha';have s2:=Heap.SameBut.update (s'.heap.update kS (Obj.mapSeq λ_=>(#[]:Array Value))) D (Obj.mapSeq λ_=>(Hs st).map (·.2));obtain⟨c2,hc2⟩:∃c2,((s'.heap.update kS (Obj.mapSeq λ_=>(#[]:Array Value))).update D (Obj.mapSeq λ_=>(Hs st).map (·.2))).get? D=some (Hu "list" ((Hs st).map (·.2)) c2):=⟨_,Hv na1 λ_=>(Hs st).map (·.2)⟩
   have hasz:((Hs st).map (·.2)).size=vs.length:=by
    have h1:(Hs st).size=(kA.zip vs.toArray).size:=hp.size_eq;rw[Array.size_zip,hks,gE] at h1;rw[Array.size_map];exact h1.trans (Nat.min_self _)
   unfold ksk_tail
   try dsimp only
   refine G6 (Hq hk' rfl ?_ (by rw[Ha];exact zzG hm hlen hks) (fT _));refine G6 (wpAny_letGo ?_);refine G6 (seqEpoch_at na1 rfl ?_);refine G6 (Hq na1 rfl ?_ (fT _) (fF (pA hasz) (by rw[Ha];exact zyp hm hlen)));rw[hf];simp only[bne_self_eq_false,gH,if_false];refine G7 (zc _ rfl (G7 (zc _ rfl ?_)));obtain⟨H2,hH2⟩:∃x,x=(s'.heap.update kS (Obj.mapSeq λ_=>(#[]:Array Value))).update D (Obj.mapSeq λ_=>(Hs st).map (·.2)):=⟨_,rfl⟩
   rw[<-hH2] at hc2 s2 ⊢;have same:∀b,b≠D->b≠kS->H2.get? b=s'.heap.get? b:=λb h1 h2=>(s2.2 b h1).trans (s1.2 b h2);have kv4:KeepV U' s'.heap U' H2:=.mk' λb o ho st=>by
    rw[same b (λe=>by rw[e,ha'] at ho;exact absurd st (noSt (Hw ho).symm)) (λe=>by rw[e,hk'] at ho;exact absurd st (noSt (Hw ho).symm))];exact ho
   have aa:=At.aside a' s'.toks nK oK.2.1 (λo ho=>by rw[hk'] at ho;exact noSt (Hw ho).symm) (λq=>absurd q fK) s1;have ab:At X U' { s' with heap:=H2 }:=At.aside aa s'.toks nD oD.2.1 (λo ho=>by rw[na1] at ho;exact noSt (Hw ho).symm) (λq=>absurd q fD) s2;have hS2:s.heap.objs.size<=H2.objs.size:=by rw[hH2,Heap.size_update,Heap.size_update];exact st'.size
   have stE:Step E0 U s U' { s' with heap:=H2 }:=⟨λb o e h1 _ hd=>by
     have hlt:b<s.heap.objs.size:=Heap.lt_size e;show H2.get? b=_;rw[same b (zsp hD hlt) (zuW hkSe hlt)];exact st'.keep b o e h1 (by rintro(h|h)<;>(first|exact zuR hD hlt h|exact zuS hkSe hlt h)) hd,λb o e h1 _=>by
     have hlt:b<s.heap.objs.size:=Heap.lt_size e;obtain⟨sl,h⟩:=st'.keepD b o e h1 (by rintro(h|h)<;>(first|exact zuR hD hlt h|exact zuS hkSe hlt h));exact⟨sl,(same b (zsp hD hlt) (zuW hkSe hlt)).trans h⟩,st'.fresh,hS2,st'.frz⟩
   obtain⟨av,ao,o1,o2,o3,o4⟩:=zoE (r:=r) (D:=D) (acc:=ys) (ys:=((Hs st).map (·.2)).toList) (n:=c2) (Q:=Q) (by
      unfold zO;rw[fB2];exact hc2) (by
      have:=(zmH hy2).mono kv4;rwa [<-Array.toList_map] at this) (by rw[hy1.length_eq];exact hm) ab stE nD oD.2.1 fD (zoT hD) (q ys hy1 hys)
   exact zo av _ o1 o2 o3 o4
  unfold ksk_end
  try dsimp only
  by_cases h2:vs.toArray.size<2
  .rw[if_pos h2,if_pos h2];refine G6 (G7 ?_);rw[StateT.run_pure];refine G6 (G7 ?_)
   try dsimp only
   refine tail (SortSt.mk' general' (kA.zip vs.toArray) #[] 7 none) (.refl _) rfl ?_;show (kA.zip vs.toArray).toList.Pairwise _;have:(kA.zip vs.toArray).toList.length<2:=by rw[ez,List.length_zip,gR,hks,Nat.min_self];simpa using h2
   generalize (kA.zip vs.toArray).toList=l at this
   match l,this with
   | [],_=>exact .nil
   | [x],_=>exact fAN _ _
   | _::_::_,h=>simp only[fP] at h;lia
  .rw[if_neg h2,if_neg h2];have h3:2<=vs.length:=by simpa using h2
   have hzs:(kA.zip vs.toArray).size=vs.length:=by rw[Array.size_zip,hks,gE,Nat.min_self]
   obtain⟨V,H,kk⟩:∃V,qq X.prog X.w A.in1.in1 s' V (λp=>YK p.1) (kA.zip vs.toArray)/\wpAny X.M A.in1.in1 (keyKind' kA) (λV' s''=>V'=V/\s''=s') E s':=by
    rcases kd with kd|kd
    .have kd:∀x∈xs,∃i r,key x = .tup (.int i::r):=λx hx=>kd _ (pE hx);obtain⟨fs,f1,f2,f3⟩:=zdU (M:=X.M) (T:=.type "int") rk (λx hx=>by
      refine zb (fQ.mp hx) λy hy e24_2=>?_;subst e24_2;refine z7 (kd y hy) λi r e=>?_;refine zaP _ r e (λv rv=>?_);obtain⟨_,rfl⟩:=RepV.wC rv;exact .now)
     refine zc (tuples' true) (λp' q' hp' hq' Q' E' hQ=>?_) ?_
     .refine zb (z.mem2 p' hp') λx hx rx=>?_;refine zb (z.mem2 q' hq') λy hy ry=>?_;refine zkL a' (by rw[u1];exact zxM room) rx.2 ry.2 (kd x hx) (kd y hy) (hlt x hx y hy) ?_;rw[<-hρ x hx _ rx.2,<-hρ y hy _ ry.2];exact hQ
     .have kk:=kat_kind (A:=A.in1.in1) (E:=E) (s:=s') (Q:=λV s''=>V=tuples' true/\s''=s') f1 (by rw[f2,gR,hks];exact zwC h3) f3 (by decide) ⟨congrArg tuples' (show (Value.type "int" != Value.type "tuple")=true by decide),rfl⟩;rw[fB2] at kk;exact kk
    .have kd:∀x∈xs,∃i,key x = .int i:=λx hx=>kd _ (pE hx);refine zc oneType' (λp' q' hp' hq' Q' E' hQ=>?_) ?_
     .refine zb (z.mem2 p' hp') λx hx rx=>?_;refine zb (z.mem2 q' hq') λy hy ry=>?_;have hl:=hlt x hx y hy;have hQ:Q' (decide (Y x<Y y)) s':=by rw[<-hρ x hx _ rx.2,<-hρ y hy _ ry.2];exact hQ
      have rx:=rx.2;have ry:=ry.2;obtain⟨i,ei⟩:=kd x hx;obtain⟨j,ej⟩:=kd y hy;rw[ei] at rx hl;rw[ej] at ry hl;refine zr hl λda db ra rb oa ob el=>?_;obtain rfl:=Rd.wC ra;obtain rfl:=Rd.wC rb;simp only[zb5,zkk,zcY,Option.some.injEq] at el;rw[<-el] at hQ;generalize p'.1=v1 at rx ⊢;generalize q'.1=v2 at ry ⊢;obtain⟨_,rfl⟩:=RepV.wC rx;obtain⟨_,rfl⟩:=RepV.wC ry;rw[keyLt'_oneType];exact oneLt_int hQ
     .have kk:=kas_kind (M:=X.M) (A:=A.in1.in1) (E:=E) (s:=s') (vs:=kA.toList) (T:=.type "int") (Q:=λV s''=>V=oneType'/\s''=s') (by rw[gR,hks];exact zr2 h3) (λv hv=>by
       refine zb (rk.mem v hv) λx hx rx=>?_;refine zb (fQ.mp hx) λy hy e37_2=>?_;subst e37_2;obtain⟨i,e⟩:=kd y hy;rw[e] at rx;obtain⟨_,rfl⟩:=RepV.wC rx;exact .now) (by decide) (by decide) ⟨rfl,rfl⟩
      rw[fB2] at kk;exact kk
   have hB:SB V (kA.zip vs.toArray) (SortSt.mk' V (kA.zip vs.toArray) #[] 7 none):=⟨.refl _,rfl,rfl⟩
   have run:=zeo (E:=E) (Q:=λ_ st'=>(Hs st').Perm (kA.zip vs.toArray)/\failedOf st'=none/\(Hs st').toList.Pairwise (λx y=>YK x.1<=YK y.1)) H hB rfl (by rw[hzs];exact h3) (by rw[hzs,<-hlen];exact hm) λst' hB' hs=>(zq hB'.perm hB'.failed (by
    have:=hB'.size;exact jT (Y:=λp=>YK p.1) (by rw[this];exact hs)))
   refine G6 (G8 kk (λV s'' hκ=>?_) λ_ _ e=>e);obtain⟨rfl,rfl⟩:=hκ;refine G6 (G8 run (λr s'' hr=>?_) λ_ _ e=>e);obtain⟨⟨⟩,st2⟩:=r;refine zy hr λe42_0 hp2 hf2 hs2=>?_;subst e42_0;exact tail st2 hp2 hf2 hs2
section
variable{X:Cx}{K:Frag}{env:Env}{nm:List (Str×Nat)}{names:List (Str×NameKind)}
def zqh{r:Bool}{e:Expr}{m:AE}{g:Str}{f:Addr}{o:Obj}{fd:FuncData}{gp lp kp pos:Pos}(G:Gd X K)(E:EK env names)(hb:zlp K "sorted" (.builtin "sorted"))(hg:qg names "sorted" = true)(hf:nsIn K Hk g=some (some (.ref f)))(ho:K.lookup f=some o)(hfd:o.data = .func fd)(hgK:qg names g=true)(hs:jB e=true)(h:zh X env nm e m) :
  zh X env nm (.Call (.Name "sorted" gp) [e] [⟨some "key",.Name g lp,kp⟩] pos) (A.w9 X f r m):=λd A l U s Q Z L a F q=>by
 show wpAny X.M A (do callWith pos (<-eval (.Name "sorted" gp) env) [] (backTo pos (starEach [e] env)) (backToKw pos (keywordEach [⟨some "key",.Name g lp,kp⟩] env))) _ _ s;refine G6 (j4 G.ok E.eo a (E.glob hg).1 (by decide) (G.none hb) (G.some hb) ?_);have he:backTo pos (starEach [e] env)=(false,eval e env)::backTo pos (starEach [] env):=by rw[zR hs];rfl
 refine callWith_kw ?_ he (by rw[he];rfl);rw[he];refine Calls.spliced_cons (kU (h d A l U s _ Z L a F q) λav v σ1 s1 rv a1 st1 q1=>?_);refine Calls.spliced_nil ?_;refine kws_cons (qQ G.ok E.eo a1 (E.glob hgK).1 (E.glob hgK).2 (mg_of G.inn G.ok.g hf) (kws_nil ?_));refine zb (zg q1) λxs hx q1=>?_;unfold zer at q1;refine zr q1 λkey Y hd hk kd hlt q2=>?_;have L2:Live X ⟨d.n+1,d.hd⟩ A.in1.in1:=⟨by have:=L.depth;show A.depth<=301+(d.n+1);exact zx4 this,by have:=L.units;rw[Around.in1_units,Around.in1_units];show _<=20+8*(d.n+1);exact zx2 this,L.handled,by show d.n+1<=600;lia,L.frames⟩
 refine jN st1 (zeu L a1 hx rv (λp=>ksk_t1 _ _) (λx hx σ2 s2 v2 hv a2 r2=>?_) (.inl λy hy=>?_) hlt q2)
 .have:=hk x hx;rw[<-hv] at this;refine G8 (this.call L2 a2 (.cons r2 .nil)) (λk s3 hr=>?_) λe s3 hr=>?_
  .refine zr hr λav σ3 h1 h2 h3 h4 h5=>?_;exact jl av σ3 h1 h2 h3 h4 (h5.trans hv)
  .refine jH hr λc σ3 x g _ _ _ _ _ hF=>?_;exact hF
 .refine zb (fQ.mp hy) λx hx e48_2=>?_;subst e48_2;exact kd x hx
def zmw{r:Bool}{e:Expr}{m:AE}{gp lp kp pos:Pos}(G:Gd X K)(E:EK env names)(hb:zlp K "sorted" (.builtin "sorted"))(hbL:zlp K "len" (.builtin "len"))(hg:qg names "sorted" = true)(hgL:qg names "len" = true)(hs:jB e=true)(h:zh X env nm e m) :
  zh X env nm (.Call (.Name "sorted" gp) [e] [⟨some "key",.Name "len" lp,kp⟩] pos) (A.w2 r m):=λd A l U s Q Z L a F q=>by
 show wpAny X.M A (do callWith pos (<-eval (.Name "sorted" gp) env) [] (backTo pos (starEach [e] env)) (backToKw pos (keywordEach [⟨some "key",.Name "len" lp,kp⟩] env))) _ _ s;refine G6 (j4 G.ok E.eo a (E.glob hg).1 (by decide) (G.none hb) (G.some hb) ?_);have he:backTo pos (starEach [e] env)=(false,eval e env)::backTo pos (starEach [] env):=by rw[zR hs];rfl
 refine callWith_kw ?_ he (by rw[he];rfl);rw[he];refine Calls.spliced_cons (kU (h d A l U s _ Z L a F q) λav v σ1 s1 rv a1 st1 q1=>?_);refine Calls.spliced_nil ?_;refine kws_cons (j4 G.ok E.eo a1 (E.glob hgL).1 (by decide) (G.none hbL) (G.some hbL) (kws_nil ?_));refine zb (zg q1) λxs hx q1=>?_;unfold zcm at q1;obtain⟨ht,q2⟩:=q1;refine jN st1 (zeu (key:=λx=>.int (zjQ x)) (Y:=zjQ) L a1 hx rv (λp=>ksk_t4 _ _) (λx hx σ2 s2 v2 hv a2 r2=>?_) (.inr λy hy=>?_) (λx hx y hy=>?_) q2)
 .obtain⟨l,rfl⟩:=ht x hx;refine zi (RepV.wI r2) λb vs e53_2 hl it rs=>?_;subst e53_2;have hlen:=rs.length;have e:(vs.toArray.size:Int)=(zjQ (.tup l):Nat):=by simp[zjQ,hlen]
  refine len_tuple it (by simp;exact zsk hl hlen) ?_;rw[e];exact kO a2 (.int _ _) ⟨rfl,hv⟩
 .refine zb (fQ.mp hy) λx hx e54_2=>?_;subst e54_2;exact⟨_,rfl⟩
 .refine jl _ _ (.int _) (.int _) (fT _) (fT _) ?_;simp[zb5,zkk,zcY]
end
structure CT where
 K:Frag
 C:Addr
 refs:List (Nat×Nat)
 names:List (Str×NameKind)
 nm:List (Str×Nat)
 ex:List (Addr×List Addr)
noncomputable def CT.r(c:CT)(p:Pos):Bool:=c.refs.any λq=>Nat.beq q.1 p.line&&Nat.beq q.2 p.col
noncomputable def zgk(v:Option (Option Value)):Bool:=match v with
 | some none=>true
 | _=>false
noncomputable def biB(K:Frag)(names:List (Str×NameKind))(x:Str)(v:Value):Bool:=
 qg names x&&zgk (nsIn K Hk x)&&bootBuiltins x==some v&&!(x==("__name__" : Str))
structure PrimS where
 name:Str
 val:Value
 prim:zbg
noncomputable def prims:List PrimS:=[⟨"len",.builtin "len",kj⟩,⟨"range",.type "range",zao⟩,⟨"list",.type "list",zfj⟩,⟨"tuple",.type "tuple",zef⟩,⟨"max",.builtin "max",zpT⟩,⟨"min",.builtin "min",zn9⟩,⟨"sum",.builtin "sum",zpU⟩,⟨"sorted",.builtin "sorted",za9⟩,⟨"int",.type "int",zpS⟩,⟨"abs",.builtin "abs",zrL⟩,⟨"all",.builtin "all",zpR⟩]
noncomputable def pyTs:List (Str×PyT):=[("tuple",.tuple),("str",.str),("int",.int),("bool",.bool),("list",.list),("dict",.dict)]
structure MethS where
 name:Str
 id:String
 meth:zbk
noncomputable def meths:List MethS:=[⟨"append","list.append",zW⟩,⟨"pop","list.pop",zrA⟩,⟨"clear","list.clear",zja⟩,⟨"remove","list.remove",zge⟩]
def A.no:AE:=λ_ _ _ _ _=>False
def A.noI:AI:=λ_ _ _ _ _=>False
noncomputable def hh0:Nat:=0
noncomputable def hh1:Nat:=hh0
noncomputable def hh2:Nat:=hh1
noncomputable def hh3:Nat:=hh2
noncomputable def hh4:Nat:=hh3
noncomputable def hh5:Nat:=hh4
noncomputable def hh6:Nat:=hh5
noncomputable def hh7:Nat:=hh6
noncomputable def hh8:Nat:=hh7
noncomputable def hh9:Nat:=hh8
noncomputable def zvI:Nat:=hh9
noncomputable def zvJ:Nat:=zvI
noncomputable def zvK:Nat:=zvJ
noncomputable def zvL:Nat:=zvK
noncomputable def zvM:Nat:=zvL
noncomputable def zvN:Nat:=zvM
noncomputable def zvO:Nat:=zvN
noncomputable def zvP:Nat:=zvO
noncomputable def zvQ:Nat:=zvP
noncomputable def zvR:Nat:=zvQ
noncomputable def zvS:Nat:=zvR
noncomputable def zvT:Nat:=zvS
noncomputable def zvU:Nat:=zvT
noncomputable def zvV:Nat:=zvU
noncomputable def low{β:Type}(z:β):β:=(λ_:Nat=>z) zvV
noncomputable def ck{β:Type}(z:β)(b:Bool)(m:β):β:=match b with
 | true=>m
 | false=>low z
noncomputable def op{J β:Type}(z:β)(o:Option J)(f:J->β):β:=match o with
 | some a=>f a
 | none=>low z
abbrev Go:=Expr->AE
noncomputable def zqJ(v:Option (Option Value)):Option Int:=match v with
 | some (some (.int i _))=>some i
 | _=>none
def zmW(ct:CT)(x:Str):AE:=match zdQ ct.names x&&!(x==("__debug__" : Str)) with
 | true=>op A.no (ct.nm.lookup x) A.loc
 | false=>ck A.no (qg ct.names x) (op A.no (zqJ (nsIn ct.K Hk x)) λi=>A.k (.int i))
def zmU(c:Const):AE:=match c with
 | .int i=>A.k (.int i)
 | .str s=>op A.no (kq s) λn=>A.k (.str n)
 | .none=>A.k .none
 | .bool b=>A.k (.bool b)
 | _=>A.no
noncomputable def zn4(ops:List CmpOp)(es:List Expr):Bool:=match ops with
 | []=>false
 | op::ops=>match es with
  | []=>false
  | e::es=>match ops with
   | []=>es.isEmpty&&!behindInMarks op e
   | _::_=>zn4 ops es
noncomputable def zrN(go:Go)(ops:List CmpOp)(es:List Expr):List (CmpOp×AE):=match ops with
 | []=>low []
 | op::ops=>match es with
  | []=>[]
  | e::es=>(op,go e)::zrN go ops es
def zsO(go:Go)(r:Bool)(x:AE)(i:Expr):AE:=match i with
 | .Slice lo hi st _=>(match st with
  | none=>A.wY r x (lo.map go) (hi.map go)
  | some _=>A.no)
 | i=>ck A.no (zce i) (A.idx x (go i))
noncomputable def zpQ(ks:List (Option Expr))(vs:List Expr):Bool:=match ks with
 | []=>vs.isEmpty
 | k::ks=>match vs with
  | []=>false
  | _::vs=>k.isSome&&zpQ ks vs
noncomputable def rPs(go:Go)(ks:List (Option Expr))(vs:List Expr):List (AE×AE):=match ks with
 | []=>[]
 | k::ks=>match vs with
  | []=>[]
  | v::vs=>(op A.no k go,go v)::rPs go ks vs
noncomputable def zf7(e:Option Expr):Bool:=match e with
 | some (.Constant (.str _) _ _)=>true
 | _=>false
def zmV(go:Go)(r:Bool)(ks:List (Option Expr))(vs:List Expr):AE:=
 match (match ks with|[]=>r|_::_=>ks.all zf7)&&Nat.ble ks.length 15&&zpQ ks vs with
 | true=>A.dic (rPs go ks vs)
 | false=>match ks with
  | []=>ck A.no vs.isEmpty A.dT0
  | k::ks=>match vs with
   | []=>A.no
   | v::vs=>ck A.no (ks.isEmpty&&vs.isEmpty) (op A.no k λk=>A.dT1 (go k) (go v))
noncomputable def zcG(e:Expr):Option Str:=match e with
 | .Name x _=>some x
 | _=>none
noncomputable def tgN(ok:Str->Bool)(nm:List (Str×Nat))(e:Expr):Option Nat:=(zcG e).bind λx=>if ok x then nm.lookup x else none
noncomputable def zty(ok:Str->Bool)(nm:List (Str×Nat))(es:List Expr):Option (List Nat):=match es with
 | []=>some []
 | e::es=>(tgN ok nm e).bind λi=>(zty ok nm es).map λis=>i::is
noncomputable def zq9(ok:Str->Bool)(nm:List (Str×Nat))(e:Expr):Option Tgt:=match e with
 | .Tuple es _ _=>(zty ok nm es).map .many
 | e=>(tgN ok nm e).map .one
noncomputable def zpr:Expr->Bool
 | .Tuple ..=>true
 | _=>false
noncomputable def ziK(e:Expr):Option (Str×List Expr×List Keyword):=match e with
 | .Call f es kws _=>(zcG f).map λx=>(x,es,kws)
 | _=>none
noncomputable def ziL(e:Expr):Option Expr:=(ziK e).bind λp=>match p.2.1 with
 | []=>none
 | a::r=>if r.isEmpty&&p.2.2.isEmpty&&p.1==("enumerate" : Str) then some a else none
def zj6(go:Go)(ct:CT)(target iter:Expr):AI:=match ziL iter with
 | none=>A.itP (go iter)
 | some e=>ck A.noI (biB ct.K ct.names "enumerate" (.type "enumerate")&&jB e&&zpr target) (A.itE (go e))
noncomputable def CT.inn(ct:CT)(ns:List (Str×NameKind)):CT:=⟨ct.K,ct.C,ct.refs,zkC ct.names ns,ja ct.nm (kg ct.nm) ns,ct.ex⟩
noncomputable def zqI(ifs:List Expr):Bool:=Nat.ble ifs.length 1
noncomputable def zsL(go:Go)(ifs:List Expr):Option AE:=match ifs with
 | []=>none
 | e::_=>some (go e)
noncomputable def zrg(ct:CT)(g:Comprehension)(scope:Scope):Bool:=g.is_async==0&&zj8 ct.names ct.nm (kg ct.nm) scope.names&&scope.kind==.function&&zed g.iter&&zqI g.ifs
def zmT(go:CT->Go)(ct:CT)(r:Bool)(elt:Expr)(gens:List Comprehension)(scope:Scope):AE:=match gens with
 | []=>A.no
 | g::gs=>ck A.no (gs.isEmpty&&zrg ct g scope) (op A.no (zq9 (λx=>(ct.inn scope.names).names.lookup x==some .local) (ct.inn scope.names).nm g.target) λt=>
   A.lc r (zj6 (go ct) ct g.target g.iter) t (zcF scope.names) (zsL (go (ct.inn scope.names)) g.ifs) (go (ct.inn scope.names) elt))
noncomputable def zek(v:Option (Option Value)):Option Addr:=match v with
 | some (some (.ref f))=>some f
 | _=>none
def zsM(go:Go)(ct:CT)(es:List Expr):AE:=match es with
 | []=>A.no
 | e::es=>match es with
  | []=>A.no
  | c::es=>ck A.no (biB ct.K ct.names "isinstance" (.builtin "isinstance")&&jB e&&es.isEmpty) (op A.no (zcG c) λT=>match pyTs.lookup T with
   | some t=>ck A.no (biB ct.K ct.names T (.type t.name)) (A.isa t (go e))
   | none=>A.no)
def zvE(X:Cx)(K:Frag)(C:Addr)(ms:List AE):AE:=
 ck A.no (keepIn K (.ref C)&&makesIn K C) (op A.no (zek (findIn K (.ref C) "__init__")) λfI=>ck A.no (typeIn K (.ref fI)==some (.type "function")) (A.new X C fI ms))
def ziz(X:Cx)(go:Go)(ct:CT)(g:Str)(es:List Expr)(pos:Pos):AE:=match g==("isinstance" : Str) with
 | true=>zsM go ct es
 | false=>ck A.no (es.all jB) (match prims.find? (λp=>p.name==g) with
  | some p=>ck A.no (biB ct.K ct.names g p.val) (A.prim p.prim (ct.r pos) (es.map go))
  | none=>ck A.no (qg ct.names g) (op A.no (zek (nsIn ct.K Hk g)) λf=>match (zfX ct.K f).isSome with
   | true=>A.wE X f (es.map go)
   | false=>zvE X ct.K f (es.map go)))
def zmY(X:Cx)(go:Go)(ct:CT)(g:Str)(es:List Expr)(kw:Keyword)(pos:Pos):AE:=match es with
 | []=>A.no
 | e::es=>ck A.no (g==("sorted" : Str)&&kw.arg==some ("key" : Str)&&biB ct.K ct.names "sorted" (.builtin "sorted")&&jB e&&es.isEmpty) (op A.no (zcG kw.value) λk=>match k==("len" : Str) with
  | true=>ck A.no (biB ct.K ct.names "len" (.builtin "len")) (A.w2 (ct.r pos) (go e))
  | false=>ck A.no (qg ct.names k) (op A.no (zek (nsIn ct.K Hk k)) λf=>ck A.no (zfX ct.K f).isSome (A.w9 X f (ct.r pos) (go e))))
def zqH(X:Cx)(go:Go)(ct:CT)(o:Expr)(name:Str)(apos:Pos)(es:List Expr)(pos:Pos):AE:=
 ck A.no (zcL o&&apos.endLine==pos.line&&decide (es.length<30)&&es.all jB) (match meths.find? (λm=>m.name==name) with
  | some m=>A.meth m.meth (go o) (es.map go)
  | none=>ck A.no (plainGet ct.K ct.C name) (op A.no (zek (findIn ct.K (.ref ct.C) name)) λf=>ck A.no (PySem.W.isFn ct.K (.ref f)&&(zfX ct.K f).isSome) (A.wH X ct.C (kq name) f (go o) (es.map go))))
def zqF(go:Go)(ct:CT)(o:Expr)(name:Str):AE:=
 ck A.no (zcL o&&plainGet ct.K ct.C name&&hasDictIn ct.K ct.C&&zgk (findIn ct.K (.ref ct.C) name)) (op A.no (kq name) λn=>A.wR ct.C n (go o))
def zqG(X:Cx)(go:Go)(ct:CT)(f:Expr)(es:List Expr)(kws:List Keyword)(pos:Pos):AE:=match f with
 | .Name g _=>(match kws with
  | []=>ziz X go ct g es pos
  | kw::r=>ck A.no r.isEmpty (zmY X go ct g es kw pos))
 | .Attribute o name apos=>ck A.no kws.isEmpty (zqH X go ct o name apos es pos)
 | _=>A.no
def cE(X:Cx)(n:Nat)(ct:CT)(e:Expr):AE:=match n with
 | 0=>A.no
 | n+1=>match e with
  | .Name x _=>zmW ct x
  | .Constant c _ _=>zmU c
  | .BinOp a o b pos=>A.bin (ct.r pos) o (cE X n ct a) (cE X n ct b)
  | .UnaryOp o a _=>(match o with
   | .USub=>A.neg (cE X n ct a)
   | .Not=>A.wS (cE X n ct a)
   | _=>A.no)
  | .BoolOp o es _=>(match o with
   | .And=>zbr (es.map (cE X n ct))
   | .Or=>orL (es.map (cE X n ct)))
  | .Compare a ops es _=>ck A.no (zn4 ops es) (A.cmp (cE X n ct a) (zrN (cE X n ct) ops es))
  | .Tuple es _ _=>ck A.no (es.all jB) (A.tup (es.map (cE X n ct)))
  | .List es pos=>ck A.no (es.all jB) (A.lst (ct.r pos) (es.map (cE X n ct)))
  | .Subscript a i pos=>zsO (cE X n ct) (ct.r pos) (cE X n ct a) i
  | .ListComp elt gens scope pos=>zmT (cE X n) ct (ct.r pos) elt gens scope
  | .Attribute o name _=>zqF (cE X n ct) ct o name
  | .Dict ks vs pos=>zmV (cE X n ct) (ct.r pos) ks vs
  | .Call f es kws pos=>zqG X (cE X n ct) ct f es kws pos
  | _=>A.no
def zsN(X:Cx)(n:Nat)(ct:CT)(t v:Expr):AS:=match t with
 | .Name x _=>ck A.wJ (zdQ ct.names x) (op A.wJ (ct.nm.lookup x) λi=>(match v with
   | .ListComp elt gens scope pos=>A.set i (zmT (cE X n) ct (ct.r pos) elt gens scope)
   | v=>ck A.wJ (zdn v) (A.set i (cE X n ct v))))
 | .Attribute o name _=>ck A.wJ (findIn ct.K (.ref ct.C) "__setattr__"==some (some (.builtin "object.__setattr__"))&&plainOver ct.K ct.C&&zgk (takerIn ct.K ct.C name)&&hasDictIn ct.K ct.C)
   (op A.wJ (kq name) λk=>A.wU ct.C k (cE X n ct o) (cE X n ct v))
 | .Subscript o i _=>A.wW (cE X n ct v) (cE X n ct o) (cE X n ct i)
 | _=>A.wJ
noncomputable def zkA(e:Expr):Option Str:=(ziK e).bind λp=>match p.2.1 with
 | []=>none
 | a::r=>if zf7 (some a)&&r.isEmpty&&p.2.2.isEmpty then some p.1 else none
noncomputable def zkB(e c:Option Expr):Option Str:=match c with
 | none=>e.bind zkA
 | some _=>none
noncomputable def znl(hs:List ExceptHandler):Option (Str×Option Str×Stmt×List Stmt):=match hs with
 | []=>none
 | .ExceptHandler t name body _::r=>if r.isEmpty then t.bind λt=>(zcG t).bind λT=>(match body with
  | []=>none
  | b0::bs=>some (T,name,b0,bs)) else none
def zq8(ct:CT)(x:Str):AS:=ck A.wJ (qg ct.names x) (op A.wJ (zek (nsIn ct.K Hk x)) λC=>ck A.wJ (ct.ex.lookup C).isSome (A.wT C))
noncomputable def zvB(ct:CT)(name:Option Str):Option (Option Nat):=match name with
 | none=>some none
 | some _=>none
noncomputable def zrk(ct:CT)(C':Addr):List Addr:=(ct.ex.filter λp=>(Value.ref p.1::(p.2.map Value.ref++veB)).contains (.ref C')).map (·.1)
def zvF(ct:CT)(T:Str)(name:Option Str)(x y:AS):AS:=ck A.wJ (qg ct.names T) (op A.wJ (zek (nsIn ct.K Hk T)) λC'=>ck A.wJ (ct.ex.lookup C').isSome (op A.wJ (zvB ct name) λi=>A.vD x (zrk ct C') i y))
def rSs(f:Stmt->AS)(ss:List Stmt):AS:=ss.foldr (λs r=>A.cons (f s) r) (low A.nil)
def cS(X:Cx)(n:Nat)(ct:CT)(s:Stmt):AS:=match n with
 | 0=>A.wJ
 | n+1=>match s with
  | .Return v _=>(match v with
   | none=>A.vJ
   | some e=>A.ret (cE X n ct e))
  | .Assign ts v _=>(match ts with
   | []=>A.wJ
   | t::r=>ck A.wJ r.isEmpty (zsN X n ct t v))
  | .Expr e _=>ck A.wJ (zdn e) (A.ex (cE X n ct e))
  | .If t a b _=>A.if_ (cE X n ct t) (rSs (cS X n ct) a) (rSs (cS X n ct) b)
  | .While t a b _=>ck A.wJ b.isEmpty (A.w3 (cE X n ct t) (rSs (cS X n ct) a))
  | .For tg it a b _=>ck A.wJ (b.isEmpty&&zed it) (op A.wJ (zq9 (zdQ ct.names) ct.nm tg) λt=>A.fr (zj6 (cE X n ct) ct tg it) t (rSs (cS X n ct) a))
  | .Raise e c _=>op A.wJ (zkB e c) (zq8 ct)
  | .Try body hs orelse fin _=>op A.wJ (znl hs) λq=>ck A.wJ (orelse.isEmpty&&fin.isEmpty) (zvF ct q.1 q.2.1 (rSs (cS X n ct) body) (rSs (cS X n ct) (q.2.2.1::q.2.2.2)))
  | _=>A.wJ
noncomputable def cF(X:Cx)(K:Frag)(C:Addr)(ex:List (Addr×List Addr))(f:Addr)(refs:List (Nat×Nat))(ps:List Str)(nm:List (Str×Nat)):Option AS:=(zfX K f).bind λfd=>match fd.body with
 | .stmts body=>if fd.closure.isEmpty&&fd.globals==Hk&&fd.builtins==builtinsNs&&codeIn K fd.code fd.qualname&&zji fd.scope.names nm ps&&fd.scope.kind==.function&&!fd.scope.isCoroutine&&!fd.scope.isGenerator then
   some (rSs (cS X 40 ⟨K,C,refs,fd.scope.names,nm,ex⟩) body) else none
 | _=>none
def zlt{J:Type}{c:Bool}{x:Option J}{b:J}(h:(if c then x else none)=some b):c=true/\x=some b:=by
 cases c with
 | true=>exact⟨rfl,h⟩
 | false=>cases h
def zQ{a b:Bool}(h:(a&&b)=true):a=true/\b=true:=gB.mp h
def zpP{a:Bool}(h:(!a)=true):a=false:=by cases a with
 | true=>cases h
 | false=>rfl
def kL{J:Type}{l:List J}(h:l.isEmpty=true):l=[]:=List.isEmpty_iff.mp h
def zbL{J β:Type}{o:Option J}{f:J->Option β}{b:β}(h:o.bind f=some b):∃a,o=some a/\f a=some b:=pZ.mp h
def zpJ{J β:Type}{o:Option J}{f:J->β}{b:β}(h:o.map f=some b):∃a,o=some a/\f a=b:=fAA.mp h
def zM{β:Type}{z m:β}{b:Bool}{S:β->Prop}(hz:S z)(h:b=true->S m):S (ck z b m):=by cases b with
 | true=>exact h rfl
 | false=>exact hz
def j9{J β:Type}{z:β}{o:Option J}{f:J->β}{S:β->Prop}(hz:S z)(h:∀a,o=some a->S (f a)):S (op z o f):=by cases o with
 | some a=>exact h a rfl
 | none=>exact hz
section
variable{X:Cx}{env:Env}{ct:CT}
def zcK{v:Option (Option Value)}(h:zgk v=true):v=some none:=by
 cases v with
 | none=>exact nob h
 | some o=>cases o with
  | none=>rfl
  | some x=>exact nob h
def kN{v:Option (Option Value)}{f:Addr}(h:zek v=some f):v=some (some (.ref f)):=by
 cases v with
 | none=>exact nos h
 | some o=>cases o with
  | none=>exact nos h
  | some x=>cases x with
   | ref a=>exact congrArg (λa=>some (some (Value.ref a))) (Hw h)
   | _=>exact nos h
def znr{v:Option (Option Value)}{i:Int}(h:zqJ v=some i):∃t,v=some (some (.int i t)):=by
 cases v with
 | none=>exact nos h
 | some o=>cases o with
  | none=>exact nos h
  | some x=>cases x with
   | int a t=>exact⟨t,congrArg (λa=>some (some (Value.int a t))) (Hw h)⟩
   | _=>exact nos h
def kK{e:Expr}{x:Str}(h:zcG e=some x):∃p,e = .Name x p:=by
 cases e with
 | Name y p=>exact⟨p,congrArg (λa=>Expr.Name a p) (Hw h)⟩
 | _=>exact nos h
def zcu{K:Frag}{names:List (Str×NameKind)}{x:Str}{v:Value}(h:biB K names x v=true):qg names x=true/\zlp K x v:=by
 obtain⟨h,h4⟩:=zQ h;obtain⟨h,h3⟩:=zQ h;obtain⟨h1,h2⟩:=zQ h;refine⟨h1,zcK h2,beq_iff_eq.mp h3,λe=>?_⟩;rw[e] at h4;exact absurd h4 (by decide)
def zqA(X:Cx)(env:Env)(nm:List (Str×Nat))(e:Expr)(m:AE):Prop:=zh X env nm e m/\qB X env nm e m
def zbf(X:Cx)(env:Env)(nm:List (Str×Nat))(go:Go):Prop:=∀e,zqA X env nm e (go e)
variable{nm:List (Str×Nat)}{go:Go}
def noE{e:Expr}:zh X env nm e A.no:=λ_ _ _ _ _ _ _ _ _ _ q=>q.elim
def noB{e:Expr}:qB X env nm e A.no:=λ_ _ _ _ _ _ _ _ _ _ q=>q.elim
def noI{t e:Expr}:zcs X env nm t e A.noI:=λ_ _ _ _ _ _ _ _ _ _ _ _ q=>q.elim
def km{e:Expr}{m:AE}(he:∀whole,isTrue e env whole=(do let v <-whole;standAt e.pos;holding [v] (truthy v)))(h:zh X env nm e m):zqA X env nm e m:=⟨h,zl1 h he⟩
def zgU(G:Gd X ct.K)(E:EK env ct.names){x:Str}{pos:Pos}:zh X env ct.nm (.Name x pos) (zmW ct x):=by
 unfold zmW;cases hv:zdQ ct.names x&&!(x==("__debug__" : Str)) with
 | true=>exact j9 noE λi hi=>zmg E.eo hi (E.var (zQ hv).1) (zpP (zQ hv).2)
 | false=>
  refine zM noE λh1=>j9 noE λi h2=>?_;obtain⟨t,e⟩:=znr h2;exact λd A l U s Q Z L a F q=>qQ G.ok E.eo a (E.glob h1).1 (E.glob h1).2 (mg_of G.inn G.ok.g e) (zbH a (.int _ _) q)
def zfK{c:Const}{k:Nat}{pos:Pos}:zh X env nm (.Constant c k pos) (zmU c):=by
 cases c with
 | int i=>exact zmd
 | str s=>exact j9 noE λn hn=>zmp (jp hn).1 (jp hn).2
 | none=>exact zjJ
 | bool b=>exact zjC
 | _=>exact noE
def zfS(H:zbf X env nm go)(es:List Expr):SoundEBs X env nm es (es.map go):=by
 induction es with
 | nil=>exact .nil
 | cons e r ih=>exact .cons (H e).1 (H e).2 ih
def zdk(H:zbf X env nm go){es:List Expr}(h:es.all jB=true):SoundEs X env nm es (es.map go):=by
 induction es with
 | nil=>exact .nil
 | cons e r ih=>exact .cons (zQ h).1 (H e).1 (ih (zQ h).2)
def zn7(H:zbf X env nm go):∀{ops:List CmpOp} {es:List Expr},zn4 ops es=true->SoundOps X env nm ops es (zrN go ops es):=by
 intro ops
 induction ops with
 | nil=>intro es h;cases h
 | cons o ops ih=>
  intro es h;cases es with
  | nil=>cases h
  | cons e es=>
   cases ops with
   | nil=>
    obtain⟨h1,h2⟩:=zQ h;have:=kL h1;subst this;exact .one (H e).1 (zpP h2)
   | cons o2 ops=>
    have:=ih h;cases es with
    | nil=>cases h
    | cons e2 es=>exact .cons (H e).1 this
def zku(H:zbf X env nm go)(e:Option Expr):zfE X env nm e (e.map go):=by
 cases e with
 | none=>trivial
 | some e=>exact(H e).1
def ziD(H:zbf X env nm go){r:Bool}{a i:Expr}{x:AE}{pos:Pos}(hx:zh X env nm a x):zh X env nm (.Subscript a i pos) (zsO go r x i):=by
 have other:zh X env nm (.Subscript a i pos) (ck A.no (zce i) (A.idx x (go i))):=zM noE λh=>zmc hx (H i).1 h;cases i with
 | Slice lo hi st p=>cases st with
  | none=>exact zh9 hx (zku H lo) (zku H hi)
  | some _=>exact noE
 | _=>exact other
def ztk(H:zbf X env nm go):∀{ks:List (Option Expr)} {vs:List Expr},zpQ ks vs=true->SoundPs X env nm ks vs (rPs go ks vs):=by
 intro ks
 induction ks with
 | nil=>intro vs h;have:=kL h;subst this;exact .nil
 | cons k ks ih=>
  intro vs h;cases vs with
  | nil=>cases h
  | cons v vs=>
   obtain⟨h1,h2⟩:=zQ h;cases k with
   | none=>cases h1
   | some k=>exact .cons (H k).1 (H v).1 (ih h2)
def zgS(XO:X.Ok)(H:zbf X env nm go){r:Bool}{ks:List (Option Expr)}{vs:List Expr}{pos:Pos}:zh X env nm (.Dict ks vs pos) (zmV go r ks vs):=by
 unfold zmV;cases hc:(match ks with|[]=>r|_::_=>ks.all zf7)&&Nat.ble ks.length 15&&zpQ ks vs with
 | true=>exact zma XO (ztk H (zQ hc).2) (pD (zQ (zQ hc).1).2)
 | false=>
  cases ks with
  | nil=>exact zM noE λh=>by have:=kL h;subst this;exact zl8 XO
  | cons k ks=>cases vs with
   | nil=>exact noE
   | cons v vs=>
    refine zM noE λh=>j9 noE λk' hk=>?_;have e1:=kL (zQ h).1;have e2:=kL (zQ h).2;subst e1 e2 hk;exact zl9 XO (H k').1 (H v).1
def zoG{ok:Str->Bool}{e:Expr}{i:Nat}(h:tgN ok nm e=some i):∃x p,e = .Name x p/\ok x=true/\nm.lookup x=some i:=by
 obtain⟨x,h1,h2⟩:=zbL h;obtain⟨p,rfl⟩:=kK h1;obtain⟨h3,h4⟩:=zlt h2;exact⟨x,p,rfl,h3,h4⟩
def zdw{B:Addr->Prop}{ok:Str->Bool}(EO:EnvOk env)(hB:∀b,B b->FB env b)(hok:∀x,ok x=true->Sto B env x){e:Expr}{t:Tgt}(h:zq9 ok nm e=some t):zaD B X env nm e t:=by
 have other:(tgN ok nm e).map Tgt.one=some t->zaD B X env nm e t:=λh=>by
  obtain⟨i,h1,rfl⟩:=zpJ h;obtain⟨x,p,rfl,h2,h3⟩:=zoG h1;exact zjB EO h3 (hok _ h2)
 cases e with
 | Tuple es k p=>
  obtain⟨is,h1,rfl⟩:=zpJ h;refine zh4 EO hB ?_;clear h other
  induction es generalizing is with
  | nil=>cases h1;exact .nil
  | cons e r ih=>
   obtain⟨i,h2,h3⟩:=zbL h1;obtain⟨is',h4,rfl⟩:=zpJ h3;obtain⟨x,p,rfl,h5,h6⟩:=zoG h2;exact .cons h6 (hok _ h5) (ih _ h4)
 | _=>exact other h
def zeX{e:Expr}{p:Str×List Expr×List Keyword}(h:ziK e=some p):∃fp pos,e = .Call (.Name p.1 fp) p.2.1 p.2.2 pos:=by
 cases e with
 | Call f es kws pos=>
  refine zb (zpJ h) λy h1 h2=>?_;refine zY (kK h1) λnp e1=>?_;exact⟨np,pos,by rw[<-h2,e1]⟩
 | _=>exact nos h
def zk6{e a:Expr}(h:ziL e=some a):∃fp pos,e = .Call (.Name "enumerate" fp) [a] [] pos:=by
 refine zb (zbL h) λp h1 h2=>z7 (zeX h1) λnp pos e1=>?_;obtain⟨x,es,kws⟩:=p;cases es with
 | nil=>exact nos h2
 | cons b r=>
  refine jO (zlt h2) λh3 h4=>?_;refine jO (zQ h3) λh3 h5=>jO (zQ h3) λh3 h6=>?_;exact⟨np,pos,by rw[e1,kL h3,kL h6,Hw h4,H0 h5]⟩
def zcP(G:Gd X ct.K)(E:EK env ct.names)(H:zbf X env ct.nm go){target iter:Expr}:zcs X env ct.nm target iter (zj6 go ct target iter):=by
 unfold zj6;cases hc:ziL iter with
 | none=>exact zgx (H iter).1
 | some e=>
  refine z7 (zk6 hc) λfp pos e1=>?_;subst e1;refine zM noI λh=>?_;obtain⟨h,h5⟩:=zQ h;obtain⟨h1,h4⟩:=zQ h;obtain⟨b1,b2⟩:=zcu h1;cases target with
  | Tuple elts x1 tp=>exact zh3 G.ok E.eo (E.glob b1).1 (G.none b2) (G.some b2) h4 (H e).1
  | _=>exact nob h5
def ziA(H:zbf X env nm go){ifs:List Expr}(h:zqI ifs=true):zfD X env nm ifs (zsL go ifs):=by
 cases ifs with
 | nil=>trivial
 | cons e r=>cases r with
  | nil=>exact(H e).2
  | cons e2 r=>cases h
def zgM(K:Frag)(ex:List (Addr×List Addr)):Prop:=∀p∈ex,ExcIs K p.1 p.2
def zqB(X:Cx)(go:CT->Go)(K:Frag)(ex:List (Addr×List Addr)):Prop:=∀ct env,ct.K=K->ct.ex=ex->EK env ct.names->zbf X env ct.nm (go ct)
def zcO{go:CT->Go}(G:Gd X ct.K)(E:EK env ct.names)(H:zqB X go ct.K ct.ex){r:Bool}{elt:Expr}{gens:List Comprehension}{scope:Scope}{S:AE->Prop}(hz:S A.no)
  (h:∀target iter ifs k t c e mi,gens=[⟨target,iter,ifs,0⟩]->SoundLC X env ct.nm (kg ct.nm) elt target iter ifs scope (ct.inn scope.names).nm k t c e mi->S (A.lc r mi t k c e)):S (zmT go ct r elt gens scope):=by
 cases gens with
 | nil=>exact hz
 | cons g gs=>
  refine zM hz λh1=>j9 hz λt i2=>?_;obtain⟨hgs,h2⟩:=zQ h1;obtain⟨h3,hifs⟩:=zQ h2;obtain⟨h4,hns⟩:=zQ h3;obtain⟨h5,hk⟩:=zQ h4;obtain⟨ha,hcb⟩:=zQ h5;clear h1 h2 h3 h4 h5;have hgs:=kL hgs;subst hgs;obtain⟨tg,it,ifs,asy⟩:=g;have hasy:asy=0:=H0 ha;subst hasy;have hkf:scope.kind = .function:=H0 hk;have E':=λC=>E.comp hcb hkf C;have H':=λC=>H (ct.inn scope.names) _ rfl rfl (E' C);refine h tg it ifs _ t _ _ _ rfl ⟨hns,by rw[E.nm];exact zeY hcb,hkf,zcP G E (H ct env rfl rfl E),λC=>?_,λC=>ziA (H' C) hifs,λC=>(H' C _).1⟩;exact zdw (E' C).eo (λb hb=>.inl hb) (λx hx=>Or.inl ⟨(E' C).loc hx,λb hb=>hb⟩) i2
def zdY{J β:Type}[BEq J][LawfulBEq J]{l:List (J×β)}{a:J}{b:β}(h:l.lookup a=some b):(a,b)∈l:=by
 induction l with
 | nil=>cases h
 | cons p r ih=>
  rw[gY] at h;split at h
  .rename_i e;obtain rfl:=Hw h;rw[H0 e];exact fA
  .exact fB _ (ih h)
def ziB(G:Gd X ct.K)(HX:zgM ct.K ct.ex)(E:EK env ct.names)(H:zbf X env ct.nm go){es:List Expr}{gp pos:Pos}:zh X env ct.nm (.Call (.Name "isinstance" gp) es [] pos) (zsM go ct es):=by
 cases es with
 | nil=>exact noE
 | cons e es=>cases es with
  | nil=>exact noE
  | cons c es=>
   refine zM noE λh=>j9 noE λT hT=>?_;obtain⟨h2,he⟩:=zQ h;obtain⟨h1,hs⟩:=zQ h2;clear h h2;have he:=kL he;subst he;obtain⟨tp,rfl⟩:=kK hT;obtain⟨b1,b2⟩:=zcu h1;cases hp:pyTs.lookup T with
   | some t=>
    refine zM noE λh5=>?_;obtain⟨c1,c2⟩:=zcu h5;exact zme G.ok E.eo (E.glob b1).1 (G.none b2) (G.some b2) (E.glob c1).1 (E.glob c1).2 (G.none c2) (G.some c2) hs (H e).1
   | none=>exact noE
def PrimS.Ok(X:Cx)(p:PrimS):Prop:=z8 X p.val p.prim/\((∃id,p.val = .builtin id)\/∃T,p.val = .type T)
def zod{p:PrimS}(h:p∈prims):p.Ok X:=(fO.mpr ⟨⟨zmf,.inl ⟨_,rfl⟩⟩,fO.mpr ⟨⟨zh8,.inr ⟨_,rfl⟩⟩,fO.mpr ⟨⟨zjH,.inr ⟨_,rfl⟩⟩,fO.mpr ⟨⟨zia,.inr ⟨_,rfl⟩⟩,fO.mpr ⟨⟨zmi,.inl ⟨_,rfl⟩⟩,fO.mpr ⟨⟨zmj,.inl ⟨_,rfl⟩⟩,fO.mpr ⟨⟨zmq,.inl ⟨_,rfl⟩⟩,fO.mpr ⟨⟨zgA,.inl ⟨_,rfl⟩⟩,fO.mpr ⟨⟨zjG,.inr ⟨_,rfl⟩⟩,fO.mpr ⟨⟨zl3,.inl ⟨_,rfl⟩⟩,fO.mpr ⟨⟨zl4,.inl ⟨_,rfl⟩⟩,λ_ h=>nomatch h⟩⟩⟩⟩⟩⟩⟩⟩⟩⟩⟩:∀p∈prims,p.Ok X) p h
def MethS.Ok(X:Cx)(p:MethS):Prop:=Slot "list" p.name p.id/\typeOf (.builtin p.id)=pure (.type "method_descriptor")/\qM X p.id p.meth
def znW{p:MethS}(h:p∈meths):p.Ok X:=(fO.mpr ⟨⟨PySem.F.slot_list_append,PySem.F.type_list_append,zgy⟩,fO.mpr ⟨⟨PySem.F.slot_list_pop,PySem.F.type_list_pop,zmn⟩,fO.mpr ⟨⟨PySem.F.slot_list_clear,PySem.F.type_list_clear,zh5⟩,fO.mpr ⟨⟨PySem.F.slot_list_remove,PySem.F.type_list_remove,zgz⟩,λ_ h=>nomatch h⟩⟩⟩⟩:∀p∈meths,p.Ok X) p h
def zm8{K:Frag}{f:Addr}(h:(zfX K f).isSome=true):∃fd o,K.lookup f=some o/\o.data = .func fd:=by
 obtain⟨fd,hfd⟩:=pV.mp h;obtain⟨o,ho,hd⟩:=zkd hfd;exact⟨fd,o,ho,hd⟩
def zfJ(G:Gd X ct.K)(HX:zgM ct.K ct.ex)(E:EK env ct.names)(H:zbf X env ct.nm go){g:Str}{es:List Expr}{gp pos:Pos}:zh X env ct.nm (.Call (.Name g gp) es [] pos) (ziz X go ct g es pos):=by
 unfold ziz;cases hi:(g==("isinstance" : Str)) with
 | true=>
  have:=H0 hi;subst this;exact ziB G HX E H
 | false=>
  refine zM noE λhs=>?_;have hm:=zdk H hs;cases hp:prims.find? (λp=>p.name==g) with
  | some p=>
   refine zM noE λh1=>?_;obtain⟨b1,b2⟩:=zcu h1;obtain⟨o1,o2⟩:=zod (X:=X) (fCE hp);exact zjK G.ok E.eo (E.glob b1).1 (E.glob b1).2 (G.none b2) (G.some b2) o2 o1 hm
  | none=>
   refine zM noE λh1=>j9 noE λf h3=>?_;have hg:=kN h3;cases hf:(zfX ct.K f).isSome with
   | true=>
    obtain⟨fd,o,ho,hd⟩:=zm8 hf;exact zjD G.ok E.eo (E.glob h1).1 (E.glob h1).2 (mg_of G.inn G.ok.g hg) (G.inn _ _ ho) hd hm
   | false=>exact zM noE λk1=>j9 noE λfI k4=>zM noE λk6=>ztA G E hg h1 (zQ k1).1 (zQ k1).2 (kN k4) (H0 k6) hm
def zfL(G:Gd X ct.K)(E:EK env ct.names)(H:zbf X env ct.nm go){g:Str}{es:List Expr}{kw:Keyword}{gp pos:Pos}:zh X env ct.nm (.Call (.Name g gp) es [kw] pos) (zmY X go ct g es kw pos):=by
 cases es with
 | nil=>exact noE
 | cons e es=>
  obtain⟨ka,kv,kp⟩:=kw;refine zM noE λh1=>j9 noE λk hk=>?_;obtain⟨h1,he⟩:=zQ h1;obtain⟨h1,hs⟩:=zQ h1;obtain⟨h1,hb⟩:=zQ h1;obtain⟨h1,hk'⟩:=zQ h1;have:=H0 h1;subst this;have:ka=some "key":=H0 hk';subst this;have:=kL he;subst this;obtain⟨lp,hkv⟩:=kK hk;have hkv:kv = .Name k lp:=hkv;subst hkv;obtain⟨b1,b2⟩:=zcu hb;cases hl:(k==("len" : Str)) with
  | true=>
   have:=H0 hl;subst this;refine zM noE λh6=>?_;obtain⟨c1,c2⟩:=zcu h6;exact zmw G E b2 c2 b1 c1 hs (H e).1
  | false=>
   refine zM noE λh6=>j9 noE λf h8=>zM noE λhf=>?_;obtain⟨fd,o,ho,hd⟩:=zm8 hf;exact zqh G E b2 b1 (kN h8) ho hd h6 hs (H e).1
def zgT(G:Gd X ct.K)(E:EK env ct.names)(H:zbf X env ct.nm go){o:Expr}{name:Str}{es:List Expr}{apos pos:Pos}:zh X env ct.nm (.Call (.Attribute o name apos) es [] pos) (zqH X go ct o name apos es pos):=by
 refine zM noE λh1=>?_;obtain⟨h1,hs⟩:=zQ h1;obtain⟨h1,hn⟩:=zQ h1;obtain⟨h1,hl⟩:=zQ h1;have hm:=zdk H hs;cases hp:meths.find? (λm=>m.name==name) with
 | some p=>
  obtain⟨o1,o2,o3⟩:=znW (X:=X) (fCE hp);have hnm:=List.find?_some hp;have hnm:p.name=name:=H0 hnm;subst hnm;exact zjI o1 o2 o3 (λe=>zbs h1 _ _ _) hl hn (H o).1 hm
 | none=>
  refine zM noE λh7=>j9 noE λf h9=>zM noE λhf=>?_;obtain⟨fd,ob,ho,hd⟩:=zm8 (zQ hf).2;exact zqf G h7 (kN h9) (zQ hf).1 ho hd (λe=>zbs h1 _ _ _) hl hn (H o).1 hm
def zgQ(G:Gd X ct.K)(H:zbf X env ct.nm go){o:Expr}{name:Str}{pos:Pos}:zh X env ct.nm (.Attribute o name pos) (zqF go ct o name):=by
 refine zM noE λh1=>j9 noE λn h6=>?_;obtain⟨h1,h3⟩:=zQ h1;obtain⟨h1,h4⟩:=zQ h1;obtain⟨h1,h5⟩:=zQ h1;exact zrY G (jp h6).1 (jp h6).2 h5 h4 (zcK h3) (λe=>zbs h1 _ _ _) (H o).1
def zgR(G:Gd X ct.K)(HX:zgM ct.K ct.ex)(E:EK env ct.names)(H:zbf X env ct.nm go){f:Expr}{es:List Expr}{kws:List Keyword}{pos:Pos}:zh X env ct.nm (.Call f es kws pos) (zqG X go ct f es kws pos):=by
 cases f with
 | Name g gp=>cases kws with
  | nil=>exact zfJ G HX E H
  | cons kw r=>exact zM noE λh=>by have:=kL h;subst this;exact zfL G E H
 | Attribute o name apos=>exact zM noE λh=>by have:=kL h;subst this;exact zgT G E H
 | _=>exact noE
def zdv{K:Frag}{ex:List (Addr×List Addr)}(G:Gd X K)(HX:zgM K ex)(n:Nat):zqB X (cE X n) K ex:=by
 induction n with
 | zero=>intro ct env hK hex E e;exact⟨noE,noB⟩
 | succ n ih=>
  intro ct env hK hex E e;subst hK hex;have H:=ih ct env rfl rfl E;cases e with
  | Name x p=>exact km (λ_=>rfl) (zgU G E)
  | Constant c k p=>exact km (λ_=>rfl) zfK
  | BinOp a o b p=>exact km (λ_=>rfl) (zl6 (H a).1 (H b).1)
  | UnaryOp o a p=>cases o with
   | USub=>exact km (λ_=>rfl) (zmk (H a).1)
   | Not=>exact⟨zmm (H a).1,zjA (H a).2⟩
   | _=>exact⟨noE,noB⟩
  | BoolOp o es p=>cases o with
   | And=>exact⟨zl5 (zfS H es),zjy (zfS H es)⟩
   | Or=>exact⟨zoz (zfS H es),zl2 (zfS H es)⟩
  | Compare a ops es p=>exact⟨zM noE λh=>zl7 (H a).1 (zn7 H h),zM noB λh=>zjz (H a).1 (zn7 H h)⟩
  | Tuple es k p=>exact km (λ_=>rfl) (zM noE λh=>zms (zdk H h))
  | List es p=>exact km (λ_=>rfl) (zM noE λh=>zmh (zdk H h))
  | Subscript a i p=>exact km (λ_=>rfl) (ziD H (H a).1)
  | ListComp elt gens scope p=>exact km (λ_=>rfl) (zcO G E ih noE λtarget iter ifs k t c e mi hg S=>by subst hg;exact zev E.eo rfl S)
  | Attribute o name p=>exact km (λ_=>rfl) (zgQ G H)
  | Dict ks vs p=>exact km (λ_=>rfl) (zgS G.ok H)
  | Call f es kws p=>exact km (λ_=>rfl) (zgR G HX E H)
  | _=>exact⟨noE,noB⟩
def noS{s:Stmt}:jj X env nm s A.wJ:=zh6
def ziC{K:Frag}(G:Gd X K)(hK:ct.K=K)(HX:zgM K ct.ex)(E:EK env ct.names){n:Nat}{t v:Expr}{pos:Pos}:jj X env ct.nm (.Assign [t] v pos) (zsN X n ct t v):=by
 subst hK;have H:=zdv G HX n ct env rfl rfl E;cases t with
 | Name x p=>
  refine zM noS λh1=>j9 noS λi h3=>?_;have other:jj X env ct.nm (.Assign [.Name x p] v pos) (ck A.wJ (zdn v) (A.set i (cE X n ct v))):=zM noS λh5=>zfs E.eo (H v).1 h3 (E.var h1) (zda h5 _ _ _);cases v with
  | ListComp elt gens scope q=>exact zcO (S:=λm=>jj X env ct.nm (.Assign [.Name x p] (.ListComp elt gens scope q) pos) (A.set i m)) G E (zdv G HX n) (λ_ _ _ _ _ _ _ _ _ _ q=>q.elim) λtarget iter ifs k t c e mi hg S=>by subst hg;exact zeS E.eo rfl S h3 (E.var h1)
  | _=>exact other
 | Attribute o name p=>
  refine zM noS λh1=>j9 noS λk h6=>?_;obtain⟨h1,h3⟩:=zQ h1;obtain⟨h1,h4⟩:=zQ h1;obtain⟨h1,h5⟩:=zQ h1;exact zqg G (jp h6).1 (jp h6).2 (H0 h1) h5 (zcK h4) h3 (zjO _ _ _ _ _ _) (H v).1 (H o).1
 | Subscript o i p=>exact zjF (H v).1 (H o).1 (H i).1 (zmu _ _ _ _ _ _)
 | _=>exact noS
def zqV{f:Stmt->AS}(H:∀s,jj X env nm s (f s))(ss:List Stmt):jU X env nm ss (rSs f ss):=by
 induction ss with
 | nil=>exact zml
 | cons s r ih=>exact zjE (H s) ih
def zp4{a:Expr}(h:zf7 (some a)=true):∃t k p,a = .Constant (.str t) k p:=by
 cases a with
 | Constant c k p=>cases c with
  | str t=>exact⟨t,k,p,rfl⟩
  | _=>exact nob h
 | _=>exact nob h
def zjq{e:Expr}{x:Str}(h:zkA e=some x):∃np t k cp cpos,e = .Call (.Name x np) [.Constant (.str t) k cp] [] cpos:=by
 refine zb (zbL h) λp h1 h2=>z7 (zeX h1) λnp pos e1=>?_;obtain⟨y,es,kws⟩:=p;cases es with
 | nil=>exact nos h2
 | cons a r=>
  refine jO (zlt h2) λh3 h4=>?_;refine jO (zQ h3) λh3 h5=>jO (zQ h3) λh3 h6=>?_;refine qU (zp4 h3) λt k cp e2=>?_;exact⟨np,t,k,cp,pos,by rw[e1,e2,kL h6,kL h5,Hw h4]⟩
def zjr{e c:Option Expr}{x:Str}(h:zkB e c=some x):∃np t k cp cpos,e=some (.Call (.Name x np) [.Constant (.str t) k cp] [] cpos)/\c=none:=by
 cases c with
 | none=>
  refine zb (zbL h) λe' h1 h2=>zdG (zjq h2) λnp t k cp cpos h3=>?_;exact⟨np,t,k,cp,cpos,h1.trans (congrArg some h3),rfl⟩
 | some _=>exact nos h
def zlo{hs:List ExceptHandler}{q:Str×Option Str×Stmt×List Stmt}(h:znl hs=some q):∃tp pos,hs=[.ExceptHandler (some (.Name q.1 tp)) q.2.1 (q.2.2.1::q.2.2.2) pos]:=by
 cases hs with
 | nil=>exact nos h
 | cons x r=>
  obtain⟨t,name,body,pos⟩:=x;refine jO (zlt h) λh1 h2=>zb (zbL h2) λt' e1 h3=>zb (zbL h3) λT h4 h5=>?_;cases body with
  | nil=>exact nos h5
  | cons b0 bs=>
   have e0:=Hw h5;refine zY (kK h4) λtp e2=>?_;exact⟨tp,pos,by rw[<-e0,e1,e2,kL h1]⟩
def zmX{K:Frag}{ex:List (Addr×List Addr)}(G:Gd X K)(HX:zgM K ex)(n:Nat):∀ct env,ct.K=K->ct.ex=ex->EK env ct.names->X.top=some env->∀s,jj X env ct.nm s (cS X n ct s):=by
 induction n with
 | zero=>intro ct env hK hex E ht s;exact noS
 | succ n ih=>
  intro ct env hK hex E ht s;have HS:=zqV (ih ct env hK hex E ht);have H:=zdv G HX n ct env hK hex E;subst hK hex;cases s with
  | Return v p=>cases v with
   | none=>exact zjL
   | some e=>exact zmo (H e).1
  | Assign ts v p=>cases ts with
   | nil=>exact noS
   | cons t r=>exact zM noS λh=>by have:=kL h;subst this;exact ziC G rfl HX E
  | Expr e p=>exact zM noS λh=>zox E.eo (H e).1 (zda h _ _ _)
  | If t a b p=>exact zoy (H t).2 (HS a) (HS b)
  | While t a b p=>exact zM noS λh=>by have:=kL h;subst this;exact zib (H t).2 (HS a)
  | For tg it a b p=>
   refine zM noS λh=>j9 noS λt ht=>?_;have:=kL (zQ h).1;subst this;exact zmb (zQ h).2 (zcP G E H) (zdw E.eo (λb hb=>hb) (λy hy=>E.stoF hy) ht) (HS a)
  | Raise e c p=>
   refine j9 noS λx h=>?_;obtain⟨np,t,k,cp,cpos,rfl,rfl⟩:=zjr h;refine zM noS λh1=>j9 noS λC h3=>zM noS λh5=>?_;obtain⟨tl,h7⟩:=pV.mp h5;exact zh7 G.ok E.eo (E.glob h1).1 (E.glob h1).2 (mg_of G.inn G.ok.g (kN h3)) (zfW G.inn (HX _ (zdY h7)).b)
  | Try body hs orelse fin p=>
   refine j9 noS λq hq0=>?_;obtain⟨T,name,b0,bs⟩:=q;refine z7 (zlo hq0) λtp hpos ehs=>?_;subst ehs
   .clear hq0;refine zM noS λh=>?_;have e1:=kL (zQ h).1;have e2:=kL (zQ h).2;subst e1 e2;refine zM noS λg1=>j9 noS λC' h9=>zM noS λh11=>j9 noS λi h13=>?_;obtain⟨tl',h14⟩:=pV.mp h11;refine zmr G.ok E.eo ht (E.glob g1).1 (E.glob g1).2 (mg_of G.inn G.ok.g (kN h9)) (zfW G.inn (HX _ (zdY h14)).b) (λc hc=>?_) ?_ (HS body) (HS (b0::bs))
    .obtain⟨q,hq,rfl⟩:=fQ.mp hc;obtain⟨q1,q2⟩:=fZ.mp hq;exact⟨q.2,zfW G.inn (HX _ q1).b,q2⟩
    .cases name with
     | none=>cases h13;trivial
     | some nn=>exact nos h13
  | _=>exact noS
def k9{o:Option FuncData}{p:Str}(h:∀a0,o.map (λfd=>bindArgs fd ⟨[a0],[]⟩)=some (pure [(p,a0)]))(vs:List Value)(hl:vs.length=[p].length):o.map (λfd=>bindArgs fd ⟨vs,[]⟩)=some (pure ([p].zip vs)):=by
 refine z0 (zby hl) λa0 v0 e179_2 h0=>?_;subst e179_2;have e:=gO.mp h0;subst e;exact h a0
def jY{o:Option FuncData}{p q:Str}(h:∀a0 a1,o.map (λfd=>bindArgs fd ⟨[a0,a1],[]⟩)=some (pure [(p,a0),(q,a1)]))(vs:List Value)(hl:vs.length=[p,q].length):o.map (λfd=>bindArgs fd ⟨vs,[]⟩)=some (pure ([p,q].zip vs)):=by
 refine z0 (zby hl) λa0 v0 e180_2 h0=>?_;subst e180_2;refine z0 (zby h0) λa1 v1 e181_2 h1=>?_;subst e181_2;have e:=gO.mp h1;subst e;exact h a0 a1
def zbt{o:Option FuncData}{p q r:Str}(h:∀a0 a1 a2,o.map (λfd=>bindArgs fd ⟨[a0,a1,a2],[]⟩)=some (pure [(p,a0),(q,a1),(r,a2)]))(vs:List Value)(hl:vs.length=[p,q,r].length):o.map (λfd=>bindArgs fd ⟨vs,[]⟩)=some (pure ([p,q,r].zip vs)):=by
 refine z0 (zby hl) λa0 v0 e182_2 h0=>?_;subst e182_2;refine z0 (zby h0) λa1 v1 e183_2 h1=>?_;subst e183_2;refine z0 (zby h1) λa2 v2 e184_2 h2=>?_;subst e184_2;have e:=gO.mp h2;subst e;exact h a0 a1 a2
def zfI{o:Option FuncData}{p q r t:Str}(h:∀a0 a1 a2 a3,o.map (λfd=>bindArgs fd ⟨[a0,a1,a2,a3],[]⟩)=some (pure [(p,a0),(q,a1),(r,a2),(t,a3)]))(vs:List Value)(hl:vs.length=[p,q,r,t].length):o.map (λfd=>bindArgs fd ⟨vs,[]⟩)=some (pure ([p,q,r,t].zip vs)):=by
 refine z0 (zby hl) λa0 v0 e185_2 h0=>?_;subst e185_2;refine z0 (zby h0) λa1 v1 e186_2 h1=>?_;subst e186_2;refine z0 (zby h1) λa2 v2 e187_2 h2=>?_;subst e187_2;refine z0 (zby h2) λa3 v3 e188_2 h3=>?_;subst e188_2;have e:=gO.mp h3;subst e;exact h a0 a1 a2 a3
def zq7{o:Option FuncData}{p q r t u:Str}(h:∀a0 a1 a2 a3 a4,o.map (λfd=>bindArgs fd ⟨[a0,a1,a2,a3,a4],[]⟩)=some (pure [(p,a0),(q,a1),(r,a2),(t,a3),(u,a4)]))(vs:List Value)(hl:vs.length=[p,q,r,t,u].length):o.map (λfd=>bindArgs fd ⟨vs,[]⟩)=some (pure ([p,q,r,t,u].zip vs)):=by
 refine z0 (zby hl) λa0 v0 e189_2 h0=>?_;subst e189_2;refine z0 (zby h0) λa1 v1 e190_2 h1=>?_;subst e190_2;refine z0 (zby h1) λa2 v2 e191_2 h2=>?_;subst e191_2;refine z0 (zby h2) λa3 v3 e192_2 h3=>?_;subst e192_2;refine z0 (zby h3) λa4 v4 e193_2 h4=>?_;subst e193_2;have e:=gO.mp h4;subst e;exact h a0 a1 a2 a3 a4
def A.vE(Q:zm):zU:=λfl _ U'=>Ends Q (zqS fl) U'
def A.kEz(Z:XP):SXP:=λc _ U'=>Z c U'
def zsR{K:Frag}{ex:List (Addr×List Addr)}{C f:Addr}{refs:List (Nat×Nat)}(ps:List Str)(nm:List (Str×Nat)){d:Dp}{m:Cx->AS}{args:List AV}{Q:zm}{Z:XP}{U:AHeap}(G:Gd X K)(HX:zgM K ex)(hc:∀X,cF X K C ex f refs ps nm=some (m X))
  (hbind:∀vs,vs.length=ps.length->(zfX K f).map (λfd=>bindArgs fd ⟨vs,[]⟩)=some (pure (ps.zip vs)))(hd:d.n<600)(hlen:args.length=ps.length)
  (h:∀L,m (X.push L) ⟨d.n+1,d.hd⟩ (zgb args (kg nm)) (A.vE Q) (A.kEz Z) U):CallOk X f d args Q Z U:=by
 refine zb (zbL (hc X)) λfd hfd h1=>?_;split at h1
 .rename_i body hbd
  obtain⟨h1,_⟩:=zlt h1;obtain⟨h1,i1⟩:=zQ h1;obtain⟨h1,i2⟩:=zQ h1;obtain⟨h1,i3⟩:=zQ h1;obtain⟨h1,i4⟩:=zQ h1;obtain⟨h1,i5⟩:=zQ h1;obtain⟨h1,i6⟩:=zQ h1;obtain⟨h1,i7⟩:=zQ h1;refine zb (zkd hfd) λo ho hod=>?_;refine zk7 (m:=λL=>m (X.push L)) G.ok (scope:=fd.scope) ⟨o,fd,G.inn _ _ ho,hod,rfl,hbd,List.isEmpty_iff.mp h1,H0 i7,H0 i6,codeRec_of G.inn i5,λvs hv=>by have:=hbind vs hv;rw[hfd] at this;exact Hw this⟩ (zjj i4) (H0 i3) (zpP i2) (zpP i1) (λenv EO es=>?_) hd hlen h;refine zb (zbL (hc (X.push env))) λfd' hfd' h2=>?_;rw[hfd] at hfd';obtain rfl:=Hw hfd';rw[hbd] at h2;obtain⟨_,h2⟩:=zlt h2;rw[<-Hw h2];exact zqV (zmX (G.push _) HX 40 ⟨K,C,refs,fd.scope.names,nm,ex⟩ env rfl rfl ⟨EO,by rw[es]⟩ rfl) body
 .exact absurd (Eq.symm h1) (fH _)
end
inductive Flat:Nat->AV->Prop
 | none {k:Nat}:Flat k .none
 | int {k:Nat} (i:Int):Flat k (.int i)
 | str {k n:Nat} (h:n<kW):Flat k (.str n)
 | tup {k:Nat} {xs:List AV}:(∀x∈xs,Flat k x)->Flat (k+1) (.tup xs)
 | lst {k:Nat} {xs:List AV}:(∀x∈xs,Flat k x)->Flat (k+1) (.lst xs)
section
variable{U:AHeap}
def Flat.up{k:Nat}{x:AV}(h:Flat k x):∀{j:Nat},k<=j->Flat j x:=by
 induction h with
 | none=>intro j _;exact .none
 | int i=>intro j _;exact .int i
 | str h=>intro j _;exact .str h
 | tup _ ih=>intro j hj;cases j with
  | zero=>lia
  | succ j=>exact .tup λx hx=>ih x hx (zmz hj)
 | lst _ ih=>intro j hj;cases j with
  | zero=>lia
  | succ j=>exact .lst λx hx=>ih x hx (zmz hj)
def zcN{k:Nat}{xs:List AV}(h:∀x∈xs,∃d,Rd U x d/\d.depth<=k):∃ds,RdL U xs ds/\PyData.depthAll ds<=k:=by
 induction xs with
 | nil=>exact⟨[],.nil,fT _⟩
 | cons x xs ih=>
  refine zb (h x fA) λd h1 h2=>?_;refine zb (ih λy hy=>h y (fB _ hy)) λds h3 h4=>?_;exact zc (d::ds) (.cons h1 h3) (by simp only[PyData.depthAll];exact Nat.max_le.mpr ⟨h2,h4⟩)
def Flat.rd{k:Nat}{x:AV}(h:Flat k x):∃d,Rd U x d/\d.depth<=k:=by
 induction h with
 | none=>exact⟨_,.none,by simp only[PyData.depth];exact fT _⟩
 | int i=>exact⟨_,.int i,by simp only[PyData.depth];exact fT _⟩
 | str h=>exact⟨_,.str _,by simp only[PyData.depth];exact fT _⟩
 | tup _ ih=>
  refine zb (zcN ih) λds h1 h2=>?_;exact⟨_,.tup h1,by simp only[PyData.depth];exact pG h2⟩
 | lst _ ih=>
  refine zb (zcN ih) λds h1 h2=>?_;exact zc _ (.lst h1) (by simp only[PyData.depth];exact pG h2)
def zkc{xs ys:List AV}{ds es:List PyData}(hx:RdL U xs ds)(hy:RdL U ys es)(h:∀x∈xs,∀y∈ys,∀d e,Rd U x d->Rd U y e->(PyData.eqv d e=true↔x=y)):PyData.eqvAll ds es=true↔xs=ys:=by
 induction xs generalizing ys ds es with
 | nil=>
  obtain rfl:=RdL.wG hx;cases hy with
  | nil=>simp only[PyData.eqvAll]
  | cons _ _=>simp only[PyData.eqvAll,gH,false_iff];exact λe=>nomatch e
 | cons x xs ih=>
  refine zn (RdL.wF hx) λ_ _ e4_2 h1 h2=>?_;subst e4_2;cases hy with
  | nil=>simp only[PyData.eqvAll,gH,false_iff];exact λe=>nomatch e
  | cons h3 h4=>
   simp only[PyData.eqvAll,gT,List.cons.injEq];exact and_congr (h _ fA _ fA _ _ h1 h3) (ih h2 h4 λa ha b hb=>h a (fB _ ha) b (fB _ hb))
def zq4{i j:Int}(h:AV.int i = .int j):i=j:=by injection h
def zq5{i j:Nat}(h:AV.str i = .str j):i=j:=by injection h
def zq6{i j:List AV}(h:AV.tup i = .tup j):i=j:=by injection h
def zmM{i j:List AV}(h:AV.lst i = .lst j):i=j:=by injection h
def mis{P:Prop}(h:¬P):(false=true↔P):=⟨nob,λp=>absurd p h⟩
def Flat.eqv{k:Nat}{x:AV}(h:Flat k x):∀{j:Nat} {y:AV},Flat j y->∀d e,Rd U x d->Rd U y e->(PyData.eqv d e=true↔x=y):=by
 induction h with
 | none=>
  intro j y hy d e hd he;obtain rfl:=Rd.wL hd;cases hy with
  | none=>
   obtain rfl:=Rd.wL he;exact⟨λ_=>rfl,λ_=>rfl⟩
  | int i'=>
   obtain rfl:=Rd.wC he;exact mis nofun
  | str h'=>
   obtain rfl:=Rd.wK he;exact mis nofun
  | tup hy=>
   refine zb (Rd.wI he) λ_ e6 ry=>?_;subst e6;exact mis nofun
  | lst hy=>
   refine zb (Rd.wQ he) λ_ e6 ry=>?_;subst e6;exact mis nofun
 | int i=>
  intro j y hy d e hd he;obtain rfl:=Rd.wC hd;cases hy with
  | none=>
   obtain rfl:=Rd.wL he;exact mis nofun
  | int i'=>
   obtain rfl:=Rd.wC he;exact⟨λe=>congrArg AV.int (H0 e),λe=>beq_iff_eq.mpr (zq4 e)⟩
  | str h'=>
   obtain rfl:=Rd.wK he;exact mis nofun
  | tup hy=>
   refine zb (Rd.wI he) λ_ e6 ry=>?_;subst e6;exact mis nofun
  | lst hy=>
   refine zb (Rd.wQ he) λ_ e6 ry=>?_;subst e6;exact mis nofun
 | str h=>
  intro j y hy d e hd he;obtain rfl:=Rd.wK hd;cases hy with
  | none=>
   obtain rfl:=Rd.wL he;exact mis nofun
  | int i'=>
   obtain rfl:=Rd.wC he;exact mis nofun
  | str h'=>
   obtain rfl:=Rd.wK he;exact⟨λe=>congrArg AV.str (kX h h' (H0 e)),λe=>by obtain rfl:=zq5 e;exact BEq.rfl⟩
  | tup hy=>
   refine zb (Rd.wI he) λ_ e6 ry=>?_;subst e6;exact mis nofun
  | lst hy=>
   refine zb (Rd.wQ he) λ_ e6 ry=>?_;subst e6;exact mis nofun
 | tup _ ih=>
  intro j y hy d e hd he;refine zb (Rd.wI hd) λ_ e5 rx=>?_;subst e5;cases hy with
  | none=>
   obtain rfl:=Rd.wL he;exact mis nofun
  | int i'=>
   obtain rfl:=Rd.wC he;exact mis nofun
  | str h'=>
   obtain rfl:=Rd.wK he;exact mis nofun
  | tup hy=>
   refine zb (Rd.wI he) λ_ e6 ry=>?_;subst e6;exact Iff.trans (zkc rx ry λa ha b hb=>ih a ha (hy b hb)) ⟨congrArg AV.tup,zq6⟩
  | lst hy=>
   refine zb (Rd.wQ he) λ_ e6 ry=>?_;subst e6;exact mis nofun
 | lst _ ih=>
  intro j y hy d e hd he;refine zb (Rd.wQ hd) λ_ e5 rx=>?_;subst e5;cases hy with
  | none=>
   obtain rfl:=Rd.wL he;exact mis nofun
  | int i'=>
   obtain rfl:=Rd.wC he;exact mis nofun
  | str h'=>
   obtain rfl:=Rd.wK he;exact mis nofun
  | tup hy=>
   refine zb (Rd.wI he) λ_ e6 ry=>?_;subst e6;exact mis nofun
  | lst hy=>
   refine zb (Rd.wQ he) λ_ e6 ry=>?_;subst e6;exact Iff.trans (zkc rx ry λa ha b hb=>ih a ha (hy b hb)) ⟨congrArg AV.lst,zmM⟩
def zaK{k j:Nat}{x y:AV}{Q:Bool->AHeap->Prop}(hx:Flat k x)(hy:Flat j y)(hk:k<=100)(h1:x=y->Q true U)(h2:x≠y->Q false U):eqG x y Q U:=by
 refine zb (hx.rd (U:=U)) λd r1 l1=>?_;refine zb (hy.rd (U:=U)) λe r2 l2=>?_;have:=hx.eqv hy d e r1 r2;unfold eqG;refine zo d e r1 r2 (fF l1 hk) ?_;cases hb:PyData.eqv d e with
 | true=>exact h1 (this.mp hb)
 | false=>exact h2 λq=>by rw[this.mpr q] at hb;cases hb
def zmK{k:Nat}{x:AV}{d:PyData}{xs:List AV}{ds:List PyData}(hx:Flat k x)(hd:Rd U x d)(h:∀y∈xs,Flat k y)(r:RdL U xs ds):(ds.any λy=>PyData.eqv y d)=true↔x∈xs:=by
 induction xs generalizing ds with
 | nil=>obtain rfl:=RdL.wG r;simp
 | cons y ys ih=>
  refine zn (RdL.wF r) λ_ _ e11_2 r1 r2=>?_;subst e11_2;rw[List.any_cons,fCZ,ih (λz hz=>h z (fB _ hz)) r2,(h y fA).eqv hx _ _ r1 hd,fG];exact or_congr ⟨Eq.symm,Eq.symm⟩ Iff.rfl
def zhi{k:Nat}{x c:AV}{xs:List AV}{Q:Bool->AHeap->Prop}(hc:c = .lst xs\/c = .tup xs)(hx:Flat k x)(h:∀y∈xs,Flat k y)(hk:k<=100)(h1:x∈xs->Q true U)(h2:x∉xs->Q false U):inG x c Q U:=by
 refine zb (hx.rd (U:=U)) λd r1 l1=>?_;refine zb (zcN (U:=U) λy hy=>(h y hy).rd) λds r2 l2=>?_;have:=zmK hx r1 h r2;unfold inG;refine zo ds d ?_ r1 (fF l2 hk) ?_
 .rcases hc with rfl|rfl
  .exact .inl (.lst r2)
  .exact .inr (.tup r2)
 cases hb:(ds.any λy=>PyData.eqv y d) with
 | true=>exact h1 (this.mp hb)
 | false=>exact h2 λq=>by rw[this.mpr q] at hb;cases hb
def zhj{k:Nat}{x:AV}{p:Addr}{xs:List AV}{Q:Bool->AHeap->Prop}(hp:U p=some (.list xs))(hx:Flat k x)(h:∀y∈xs,Flat k y)(hk:k<=100)(h1:x∈xs->Q true U)(h2:x∉xs->Q false U):inR x p Q U:=by
 refine zb (hx.rd (U:=U)) λd r1 l1=>?_;refine zb (zcN (U:=U) λy hy=>(h y hy).rd) λds r2 l2=>?_;have:=zmK hx r1 h r2;unfold inR inG;refine .inr (.inr (zo ds d (.inl (.list hp r2)) r1 (fF l2 hk) ?_));cases hb:(ds.any λy=>PyData.eqv y d) with
 | true=>exact h1 (this.mp hb)
 | false=>exact h2 λq=>by rw[this.mpr q] at hb;cases hb
def zpk{row:List zd}{p:Addr}{kvs:Tab}{Q:Bool->AHeap->Prop}(hp:U p=some (.tdict kvs))(q:Q (Tab.at kvs row).isSome U):inR (zA row) p Q U:=by
 unfold inR;exact .inl (zL kvs row hp rfl q)
def Ends.same{Q:zm}{v:AV}(q:Q v U):Ends Q v U:=by
 unfold Ends;exact q8 (λ_=>none) U v ⟨λ_ _ h=>(by cases h),λ_ _ h=>h⟩ (.same v) q
def Ends.drop{Q:zm}{v:AV}{U':AHeap}(h:∀a o,U' a=some o->U a=some o)(q:Q v U'):Ends Q v U:=by
 unfold Ends;exact q8 (λ_=>none) U' v ⟨λ_ _ h=>(by cases h),h⟩ (.same v) q
def Ends.one{Q:zm}{p:Addr}{xs:List AV}{U':AHeap}(h:∀a o,U' a=some o->U a=some o)(hp:U p=some (.list xs))(hp':U' p=none)(q:Q (.lst xs) U'):Ends Q (.ref p) U:=by
 have same:∀φ (l:List AV),FzL φ l l:=λφ l=>by
  induction l with
  | nil=>exact .nil
  | cons x l ih=>exact .cons (.same x) ih
 unfold Ends;refine q8 (λa=>if a=p then some xs else none) U' (.lst xs) ⟨λa ys h1=>?_,h⟩ (.lst (if_pos rfl)) q;split at h1
 .rename_i e;subst e;obtain rfl:=Hw h1;exact kD hp' xs hp (same _ _)
 .exact absurd (Eq.symm h1) (fH _)
end
section
variable{I:AHeap->Prop}{t:Tgt}{d:Dp}{U:AHeap}{l:Loc}
def zcA{J β:Type}{body:AS}{S:zU}{g:J->AV}(Ja:List J->β->Loc->AHeap->Prop)(f:β->J->β)
  (step:∀x xs b l U (K:Loc->AHeap->Prop),Ja (x::xs) b l U->(∀l' U',Ja xs (f b x) l' U'->K l' U')->
   ∃l',j5 t (g x) l=some l'/\body d l' (A.wO I K S) A.noX U)
  {xs:List J}{b:β}(fin:∀l U,Ja [] (xs.foldl f b) l U->S .next l U)(h:Ja xs b l U):zhd I t body d S (xs.map g) l U:=by
 induction xs generalizing l U b with
 | nil=>exact fin l U h
 | cons x xs ih=>exact step x xs b l U _ h λl' U'=>ih (b:=f b x) fin
def zF{J β:Type}{body:AS}{S:zU}{g:J->AV}(Ja:List J->β->Loc->AHeap->Prop)(f:β->J->β)
  (step:∀x xs b l U (K:Loc->AHeap->Prop) (S:zU),Ja (x::xs) b l U->(∀l' U',Ja xs (f b x) l' U'->K l' U')->
   ∃l',j5 t (g x) l=some l'/\body d l' (A.wO I K S) A.noX U)
  {xs:List J}{b:β}(fin:∀l U,Ja [] (xs.foldl f b) l U->S .next l U)(h:Ja xs b l U):zhd I t body d S (xs.map g) l U:=by
 induction xs generalizing l U b with
 | nil=>exact fin l U h
 | cons x xs ih=>exact step x xs b l U _ _ h λl' U'=>ih (b:=f b x) fin
def zla{J:Type}{c elt:AE}{Q:List AV->AHeap->Prop}(p:J->Bool)(g f:J->AV)(lx:J->Loc){xs:List J}{acc:List AV}(h0:∀x∈xs,j5 t (g x) l=some (lx x))(h1:∀x∈xs,∀y∈xs,j5 t (g x) (lx y)=some (lx x))
  (hc:∀x∈xs,∀R:Bool->AHeap->Prop,R (p x) U->c d (lx x) (isB R) (λ_ _=>False) U)
  (he:∀x∈xs,p x=true->∀R:zm,R (f x) U->elt d (lx x) R (λ_ _=>False) U)(hI:I U)(hl:acc.length+xs.length<=1000000)(q:Q (acc++(xs.filter p).map f) U):zaJ I t (some c) elt d Q (xs.map g) acc l U:=by
 induction xs generalizing acc l with
 | nil=>simpa [zaJ] using q
 | cons x xs ih=>
  simp only[fP] at hl;refine zc (lx x) (h0 x fA) ?_;refine hc x fA _ ?_;have go:=λacc'=>ih (acc:=acc') (l:=lx x) (λy hy=>h1 y (fB _ hy) x fA) (λy hy z hz=>h1 y (fB _ hy) z (fB _ hz)) (λy hy=>hc y (fB _ hy)) (λy hy=>he y (fB _ hy));rw[fCS] at q;cases hp:p x with
  | true=>
   rw[if_pos hp] at q;refine he x fA hp _ (zq hI (zui hl) (go _ (by rw[fE,fV];exact zug hl) ?_));rw[gI];exact q
  | false=>
   rw[if_neg (by rw[hp];exact pW)] at q;exact⟨hI,go _ (zuh hl) q⟩
def z9{J:Type}{c elt:AE}{Q:List AV->AHeap->Prop}{xs:List J}{g:J->AV}(p:J->Bool)(f:J->AV){lx:J->Loc}(h0:∀x,j5 t (g x) l=some (lx x))(h1:∀x y,j5 t (g x) (lx y)=some (lx x))
  (hc:∀x∈xs,∀R:Bool->AHeap->Prop,R (p x) U->c d (lx x) (isB R) (λ_ _=>False) U)
  (he:∀x∈xs,p x=true->∀R:zm,R (f x) U->elt d (lx x) R (λ_ _=>False) U)(hI:I U)(hl:xs.length<=1000000)(q:Q ((xs.filter p).map f) U):zaJ I t (some c) elt d Q (xs.map g) [] l U:=
 zla p g f lx (λx _=>h0 x) (λx _ y _=>h1 x y) hc he hI (by rw[pQ,fBB];exact hl) q
def zm3{J:Type}{elt:AE}{Q:List AV->AHeap->Prop}(g f:J->AV)(lx:J->Loc){xs:List J}{acc:List AV}(h0:∀x∈xs,j5 t (g x) l=some (lx x))(h1:∀x∈xs,∀y∈xs,j5 t (g x) (lx y)=some (lx x))
  (he:∀x∈xs,∀R:zm,R (f x) U->elt d (lx x) R (λ_ _=>False) U)(hI:I U)(hl:acc.length+xs.length<=1000000)(q:Q (acc++xs.map f) U):zaJ I t none elt d Q (xs.map g) acc l U:=by
 induction xs generalizing acc l with
 | nil=>simpa [zaJ] using q
 | cons x xs ih=>
  simp only[fP] at hl;refine zc (lx x) (h0 x fA) (he x fA _ (zq hI (zui hl) ?_));refine ih (λy hy=>h1 y (fB _ hy) x fA) (λy hy z hz=>h1 y (fB _ hy) z (fB _ hz)) (λy hy=>he y (fB _ hy)) (by rw[fE,fV];exact zug hl) ?_;rw[gI];exact q
def zX{J:Type}{elt:AE}{Q:List AV->AHeap->Prop}{xs:List J}{g:J->AV}(f:J->AV){lx:J->Loc}(h0:∀x,j5 t (g x) l=some (lx x))(h1:∀x y,j5 t (g x) (lx y)=some (lx x))
  (he:∀x∈xs,∀R:zm,R (f x) U->elt d (lx x) R (λ_ _=>False) U)(hI:I U)(hl:xs.length<=1000000)(q:Q (xs.map f) U):zaJ I t none elt d Q (xs.map g) [] l U:=
 zm3 g f lx (λx _=>h0 x) (λx _ y _=>h1 x y) he hI (by rw[pQ,fBB];exact hl) q
end
def zpn(lo:Int)(n:Nat):zhn lo n=(List.range n).map (λi:Nat=>AV.int (lo+i)):=by
 induction n generalizing lo with
 | zero=>rfl
 | succ n ih=>
  rw[List.range_succ_eq_map,gG,gD];show AV.int lo::zhn (lo+1) n=_;rw[ih];refine congr (congrArg List.cons (by rw[Int.natCast_zero,fCU])) (pK λi _=>?_)
  congr 1;exact y97
def zpX(n:Nat):zog 0 n=(List.range n).map (λi:Nat=>AV.int i):=by
 unfold zog;rw[zpn];have:((n:Int)-0).toNat=n:=zxi;rw[this];exact pK λi _=>by rw[Int.zero_add]
def zlW{n:Nat}(hn:n<=1000000):zh0 0 n=true:=by
 unfold zh0;rw[Int.natAbs_natCast,gB];exact⟨rfl,fBR (zwZ hn)⟩
def zee{n:Nat}{K:List AV->Prop}(hn:n<=1000000)(h:K ((List.range n).map λi:Nat=>AV.int i)):onB (zh0 0 n) (K (zog 0 n)):=jL (zlW hn) (by rw[zpX];exact h)
def atIdx_nat{J:Type}{xs:List J}{n:Nat}:jC xs (n:Int)=xs[n]?:=by unfold jC;rw[if_pos (fAS n),fCF]
section
open PySem.Spec
def zpo{U:AHeap}{h:Heap}{vs:List Value}{ns:List Int}(hi:IntsAre vs ns):RepVs U h (ns.map AV.int) vs:=by
 induction hi with
 | nil=>exact .nil
 | cons _ _ _ ih=>exact .cons (.int _ _) ih
def head_of{prog:Hh}{w:World}{s₁:Shared}{mg mb:Str->Option Value}{K:Frag}{c:ClaimW}{cl:Str->Option Addr}{mean:ExcName->Option Value}{args:List WData}{l fa:Addr}{vs:List Value}{ns:List Int}
  (G:Gd ⟨prog,w,s₁.heap,s₁.os,mg,mb,[],none⟩ K)(hl:s₁.heap.IsList l vs.toArray)(hi:IntsAre vs ns)(hlen:ns.length<=1000000)(hg:s₁.gens = #[])(hr:∀cls,c.raises args cls=false)(hpost:c.post args (.bool true) args=true)
  (hcall:∀(Q:zm) (Z:XP) (U:AHeap),(∀U',Q (.bool true) U')->CallOk ⟨prog,w,s₁.heap,s₁.os,mg,mb,[],none⟩ fa ⟨0,false⟩ [.lst (ns.map .int)] Q Z U) :
  Hi (model prog w) callerA (.call (.ref fa) ⟨[.ref l],[]⟩) (GoodW c cl mean args s₁) s₁:=by
 have a:At ⟨prog,w,s₁.heap,s₁.os,mg,mb,[],none⟩ (λb=>if b=l then some (.frz (ns.map .int)) else none) s₁:=by
  refine⟨λb o e=>e,λb o e=>?_,λb o e hro=>?_,hg,rfl,(λL hL=>nomatch hL)⟩
  .split at e
   .rename_i hb;subst hb;obtain rfl:=Hw e;exact zv vs hl (zpo hi) (by simpa using hlen)
   .exact absurd (Eq.symm e) (fH _)
  .split at e
   .obtain rfl:=Hw e;cases hro
   .exact absurd (Eq.symm e) (fH _)
 have L:Live ⟨prog,w,s₁.heap,s₁.os,mg,mb,[],none⟩ ⟨0,false⟩ callerA:=⟨by decide,by decide,λ_=>rfl,by decide,[],rfl,⟨(λe he=>nomatch he),(λL hL=>nomatch hL)⟩,(λe he=>nomatch he)⟩
 have hc:=hcall (λv _=>v = .bool true) (λ_ _=>False) (vis λb=>if b=l then some (.frz (ns.map .int)) else none) λ_=>rfl;unfold CallOk at hc;refine Hf (hc callerA s₁ [.ref l] _ rfl L a (.cons (.lst (if_pos rfl)) .nil)) λr s' x=>?_;cases r with
 | ok f=>
  cases f with
  | ret v=>
   refine zi x λav U' rv a' st e0_5=>?_;subst e0_5;obtain rfl:=RepV.wM rv;exact zt (.inl (zH _ _ [] rfl hr (.bool true) hpost (λ_=>⟨.nil,λ_ h=>nomatch h⟩))) a'.keep a'.os a'.gens
  | next=>exact x.elim
  | brk=>exact x.elim
  | cont=>exact x.elim
 | error e=>exact noX x
end
section
set_option maxRecDepth 1000000
open PySem.Calls
noncomputable abbrev pw:Hh:=PySem.Challenge.pw_uf060002_10
noncomputable abbrev rw_:OpenLaw:=PySem.Challenge.rw_uf060002_10
noncomputable def st(i:Nat):Stmt:=pw.main.body.getD i (.Pass ⟨0,0,0,0⟩)
noncomputable def co(x q:Str)(n:Nat)(l a:Int)(r s:Nat)(v w:Value)(z k:Nat):Obj:=⟨.type "code",none,.fields #[.str x n,.str q (n+1),.str "/claim/cut.py" (n+2),.int l 0,.int a 0,.int 0 0,.int 0 0,.int 3 0,.ref r,.bool Bool.true,.int 181 0,.ref s,.none,v,w,.ref z,.int (k:Int) 0,.int l 0,.str "/claim/cut.py" (k+1)],#[]⟩
noncomputable def hK(P:Hj):Frag:=[(3,⟨.type "dict",none,.dict #[en P "__name__" 165 (.str "law_uf060002_10" 510),en P "__doc__" 166 (.none),en P "__package__" 167 (.none),en P "__loader__" 168 (.builtin "__main__.__loader__#opaque"),en P "__spec__" 169 (.none),en P "__annotations__" 170 (.ref 6),en P "__builtins__" 171 (.ref 4),en P "__file__" 173 (.str "/claim/cut.py" 172),en P "__cached__" 174 (.none),en P "MOST_DAY" 190 (.int 9999 189),en P "MOST_CENTS" 192 (.int 1000000000 191),en P "is_whole" 199 (.ref 21),en P "is_entry" 207 (.ref 28),en P "entry_of" 216 (.ref 35),en P "in_order" 222 (.ref 40),en P "groups" 235 (.ref 47),en P "TickError" 255 (.ref 57),en P "BadEntry" 271 (.ref 70),en P "BadSpan" 287 (.ref 82),en P "TooMany" 303 (.ref 94),en P "NoMatch" 319 (.ref 106),en P "MOST_BESIDE" 323 (.int 3 322),en P "is_rising" 332 (.ref 115),en P "marks_of" 338 (.ref 120),en P "fits" 344 (.ref 125),en P "rows_of" 350 (.ref 130),en P "by_size" 357 (.ref 137),en P "within" 363 (.ref 142),en P "without" 371 (.ref 147),en P "taken_out" 383 (.ref 154),en P "table" 389 (.ref 159),en P "picked" 395 (.ref 164),en P "MOST_SPAN" 399 (.int 30 398),en P "MOST_MARKS" 401 (.int 8 400),en P "Ledger" 509 (.ref 245),en P "_law_cell_at" 519 (.ref 256),en P "_law_group_of" 525 (.ref 261),en P "_law_marks" 531 (.ref 266),en P "_law_apart" 537 (.ref 271),en P "_law_put" 554 (.ref 278),en P "_law_deed" 560 (.ref 283),en P "_law_first_told" 572 (.ref 290),en P "_law_entries_stay" 584 (.ref 297),en P "_law_lead" 596 (.ref 304),en P "law" 602 (.ref 309)] 45,#[]⟩),(20,co "is_whole" "is_whole" 193 4 1 15 16 (.ref 17) (.ref 18) 19 197),(21,fnO (st 3) (.str "tickoff.entries" 187) (.ref 20)),(27,co "is_entry" "is_entry" 200 6 2 22 23 (.ref 24) (.ref 25) 26 205),(28,fnO (st 4) (.str "tickoff.entries" 187) (.ref 27)),(34,co "entry_of" "entry_of" 208 10 3 29 30 (.ref 31) (.ref 32) 33 214),(35,fnO (st 5) (.str "tickoff.entries" 187) (.ref 34)),(39,co "in_order" "in_order" 217 14 2 36 37 (.none) (.none) 38 220),(40,fnO (st 6) (.str "tickoff.entries" 187) (.ref 39)),(46,co "groups" "groups" 223 18 3 41 42 (.ref 43) (.ref 44) 45 233),(47,fnO (st 7) (.str "tickoff.entries" 187) (.ref 46)),(56,⟨.type "dict",none,.dict #[en P "__module__" 245 (.str "tickoff.errors" 236),en P "__firstlineno__" 249 (.int 29 248),en P "__static_attributes__" 250 (.ref 55),en P "__weakref__" 252 (.ref 58),en P "__doc__" 253 (.none)] 3,#[]⟩),(57,{ cls:=.type "type",data:=.cls       { name:="TickError",bases:=[.type "ValueError"],mro:=[.ref 57,.type "ValueError",.type "Exception",.type "BaseException",.type "object"],ns:=56,qualname:="TickError",subclasses:=[.ref 70,.ref 82,.ref 94,.ref 106] },slots:=#[Option.some (.ref 48),Option.none,Option.some (.str "TickError" 238),Option.some (.str "TickError" 246),Option.some (.builtin "ValueError.__new__"),Option.some (.bool Bool.true)] }),(69,⟨.type "dict",none,.dict #[en P "__module__" 263 (.str "tickoff.errors" 236),en P "__firstlineno__" 267 (.int 31 266),en P "__static_attributes__" 268 (.ref 68),en P "__doc__" 269 (.none)] 2,#[]⟩),(70,{ cls:=.type "type",data:=.cls       { name:="BadEntry",bases:=[.ref 57],mro:=[.ref 70,.ref 57,.type "ValueError",.type "Exception",.type "BaseException",.type "object"],ns:=69,qualname:="BadEntry" },slots:=#[Option.some (.ref 61),Option.none,Option.some (.str "BadEntry" 256),Option.some (.str "BadEntry" 264),Option.some (.builtin "ValueError.__new__"),Option.some (.bool Bool.true)] }),(81,⟨.type "dict",none,.dict #[en P "__module__" 279 (.str "tickoff.errors" 236),en P "__firstlineno__" 283 (.int 33 282),en P "__static_attributes__" 284 (.ref 80),en P "__doc__" 285 (.none)] 2,#[]⟩),(82,{ cls:=.type "type",data:=.cls       { name:="BadSpan",bases:=[.ref 57],mro:=[.ref 82,.ref 57,.type "ValueError",.type "Exception",.type "BaseException",.type "object"],ns:=81,qualname:="BadSpan" },slots:=#[Option.some (.ref 73),Option.none,Option.some (.str "BadSpan" 272),Option.some (.str "BadSpan" 280),Option.some (.builtin "ValueError.__new__"),Option.some (.bool Bool.true)] }),(93,⟨.type "dict",none,.dict #[en P "__module__" 295 (.str "tickoff.errors" 236),en P "__firstlineno__" 299 (.int 35 298),en P "__static_attributes__" 300 (.ref 92),en P "__doc__" 301 (.none)] 2,#[]⟩),(94,{ cls:=.type "type",data:=.cls       { name:="TooMany",bases:=[.ref 57],mro:=[.ref 94,.ref 57,.type "ValueError",.type "Exception",.type "BaseException",.type "object"],ns:=93,qualname:="TooMany" },slots:=#[Option.some (.ref 85),Option.none,Option.some (.str "TooMany" 288),Option.some (.str "TooMany" 296),Option.some (.builtin "ValueError.__new__"),Option.some (.bool Bool.true)] }),(105,⟨.type "dict",none,.dict #[en P "__module__" 311 (.str "tickoff.errors" 236),en P "__firstlineno__" 315 (.int 37 314),en P "__static_attributes__" 316 (.ref 104),en P "__doc__" 317 (.none)] 2,#[]⟩),(106,{ cls:=.type "type",data:=.cls       { name:="NoMatch",bases:=[.ref 57],mro:=[.ref 106,.ref 57,.type "ValueError",.type "Exception",.type "BaseException",.type "object"],ns:=105,qualname:="NoMatch" },slots:=#[Option.some (.ref 97),Option.none,Option.some (.str "NoMatch" 304),Option.some (.str "NoMatch" 312),Option.some (.builtin "ValueError.__new__"),Option.some (.bool Bool.true)] }),(114,co "is_rising" "is_rising" 324 41 2 109 110 (.ref 111) (.ref 112) 113 330),(115,fnO (st 16) (.str "tickoff.matching" 320) (.ref 114)),(119,co "marks_of" "marks_of" 333 48 1 116 117 (.none) (.none) 118 336),(120,fnO (st 17) (.str "tickoff.matching" 320) (.ref 119)),(124,co "fits" "fits" 339 50 4 121 122 (.none) (.none) 123 342),(125,fnO (st 18) (.str "tickoff.matching" 320) (.ref 124)),(129,co "rows_of" "rows_of" 345 61 2 126 127 (.none) (.none) 128 348),(130,fnO (st 19) (.str "tickoff.matching" 320) (.ref 129)),(136,co "by_size" "by_size" 351 69 1 131 132 (.ref 133) (.ref 134) 135 355),(137,fnO (st 20) (.str "tickoff.matching" 320) (.ref 136)),(141,co "within" "within" 358 71 4 138 139 (.none) (.none) 140 361),(142,fnO (st 21) (.str "tickoff.matching" 320) (.ref 141)),(146,co "without" "without" 366 82 2 143 144 (.none) (.none) 145 369),(147,fnO (st 23) (.str "tickoff.picking" 364) (.ref 146)),(153,co "taken_out" "taken_out" 372 87 2 148 149 (.ref 150) (.ref 151) 152 381),(154,fnO (st 24) (.str "tickoff.picking" 364) (.ref 153)),(158,co "table" "table" 384 96 2 155 156 (.none) (.none) 157 387),(159,fnO (st 25) (.str "tickoff.picking" 364) (.ref 158)),(163,co "picked" "picked" 390 118 2 160 161 (.none) (.none) 162 393),(164,fnO (st 26) (.str "tickoff.picking" 364) (.ref 163)),(177,co "__init__" "Ledger.__init__" 414 135 2 172 173 (.ref 174) (.ref 175) 176 419),(178,fnQ (zaO (st 30) 0) "Ledger.__init__" (.str "tickoff.ledger" 396) (.ref 177)),(184,co "all_groups" "Ledger.all_groups" 422 143 1 179 180 (.ref 181) (.ref 182) 183 426),(185,fnQ (zaO (st 30) 1) "Ledger.all_groups" (.str "tickoff.ledger" 396) (.ref 184)),(189,co "pick" "Ledger.pick" 429 146 2 186 187 (.none) (.none) 188 432),(190,fnQ (zaO (st 30) 2) "Ledger.pick" (.str "tickoff.ledger" 396) (.ref 189)),(196,co "put" "Ledger.put" 435 151 4 191 192 (.ref 193) (.ref 194) 195 444),(197,fnQ (zaO (st 30) 3) "Ledger.put" (.str "tickoff.ledger" 396) (.ref 196)),(203,co "entry" "Ledger.entry" 447 163 3 198 199 (.ref 200) (.ref 201) 202 453),(204,fnQ (zaO (st 30) 4) "Ledger.entry" (.str "tickoff.ledger" 396) (.ref 203)),(210,co "matches" "Ledger.matches" 456 166 1 205 206 (.ref 207) (.ref 208) 209 460),(211,fnQ (zaO (st 30) 5) "Ledger.matches" (.str "tickoff.ledger" 396) (.ref 210)),(217,co "barred" "Ledger.barred" 463 169 1 212 213 (.ref 214) (.ref 215) 216 467),(218,fnQ (zaO (st 30) 6) "Ledger.barred" (.str "tickoff.ledger" 396) (.ref 217)),(222,co "left" "Ledger.left" 470 172 2 219 220 (.none) (.none) 221 473),(223,fnQ (zaO (st 30) 7) "Ledger.left" (.str "tickoff.ledger" 396) (.ref 222)),(227,co "group_of" "Ledger.group_of" 476 178 3 224 225 (.none) (.none) 226 479),(228,fnQ (zaO (st 30) 8) "Ledger.group_of" (.str "tickoff.ledger" 396) (.ref 227)),(234,co "take_back" "Ledger.take_back" 482 181 2 229 230 (.ref 231) (.ref 232) 233 487),(235,fnQ (zaO (st 30) 9) "Ledger.take_back" (.str "tickoff.ledger" 396) (.ref 234)),(241,co "again" "Ledger.again" 490 187 1 236 237 (.ref 238) (.ref 239) 240 495),(242,fnQ (zaO (st 30) 10) "Ledger.again" (.str "tickoff.ledger" 396) (.ref 241)),(244,⟨.type "dict",none,.dict #[en P "__module__" 409 (.str "tickoff.ledger" 396),en P "__firstlineno__" 413 (.int 133 412),en P "__init__" 421 (.ref 178),en P "all_groups" 428 (.ref 185),en P "pick" 434 (.ref 190),en P "put" 446 (.ref 197),en P "entry" 455 (.ref 204),en P "matches" 462 (.ref 211),en P "barred" 469 (.ref 218),en P "left" 475 (.ref 223),en P "group_of" 481 (.ref 228),en P "take_back" 489 (.ref 235),en P "again" 497 (.ref 242),en P "__static_attributes__" 502 (.ref 243),en P "__dict__" 504 (.ref 246),en P "__weakref__" 506 (.ref 247),en P "__doc__" 507 (.none)] 4,#[]⟩),(245,{ cls:=.type "type",data:=.cls       { name:="Ledger",bases:=[.type "object"],mro:=[.ref 245,.type "object"],ns:=244,qualname:="Ledger" },slots:=#[Option.none,Option.none,Option.some (.str "Ledger" 402),Option.some (.str "Ledger" 410),Option.some (.builtin "object.__new__"),Option.some (.bool Bool.true)] }),(255,co "_law_cell_at" "_law_cell_at" 512 191 2 250 251 (.ref 252) (.ref 253) 254 517),(256,fnO (st 32) (.str "law_uf060002_10" 510) (.ref 255)),(260,co "_law_group_of" "_law_group_of" 520 195 3 257 258 (.none) (.none) 259 523),(261,fnO (st 33) (.str "law_uf060002_10" 510) (.ref 260)),(265,co "_law_marks" "_law_marks" 526 206 1 262 263 (.none) (.none) 264 529),(266,fnO (st 34) (.str "law_uf060002_10" 510) (.ref 265)),(270,co "_law_apart" "_law_apart" 532 208 2 267 268 (.none) (.none) 269 535),(271,fnO (st 35) (.str "law_uf060002_10" 510) (.ref 270)),(277,co "_law_put" "_law_put" 538 210 5 272 273 (.ref 274) (.ref 275) 276 552),(278,fnO (st 36) (.str "law_uf060002_10" 510) (.ref 277)),(282,co "_law_deed" "_law_deed" 555 228 4 279 280 (.none) (.none) 281 558),(283,fnO (st 37) (.str "law_uf060002_10" 510) (.ref 282)),(289,co "_law_first_told" "_law_first_told" 561 244 3 284 285 (.ref 286) (.ref 287) 288 570),(290,fnO (st 38) (.str "law_uf060002_10" 510) (.ref 289)),(296,co "_law_entries_stay" "_law_entries_stay" 573 257 2 291 292 (.ref 293) (.ref 294) 295 582),(297,fnO (st 39) (.str "law_uf060002_10" 510) (.ref 296)),(303,co "_law_lead" "_law_lead" 585 264 3 298 299 (.ref 300) (.ref 301) 302 594),(304,fnO (st 40) (.str "law_uf060002_10" 510) (.ref 303)),(308,co "law" "law" 597 270 1 305 306 (.none) (.none) 307 600),(309,fnO (st 41) (.str "law_uf060002_10" 510) (.ref 308))]
noncomputable def hA:List Addr:=[3,20,21,27,28,34,35,39,40,46,47,56,57,69,70,81,82,93,94,105,106,114,115,119,120,124,125,129,130,136,137,141,142,146,147,153,154,158,159,163,164,177,178,184,185,189,190,196,197,203,204,210,211,217,218,222,223,227,228,234,235,241,242,244,245,255,256,260,261,265,266,270,271,277,278,282,283,289,290,296,297,303,304,308,309]
noncomputable def qv:Hh:={ pw with main:={ pw.main with body:=[st 41] } }
noncomputable def lsv:List Str:=[("MOST_DAY" : Str),("MOST_CENTS" : Str),("is_whole" : Str),("is_entry" : Str),("entry_of" : Str),("in_order" : Str),("groups" : Str),("TickError" : Str),("BadEntry" : Str),("BadSpan" : Str),("TooMany" : Str),("NoMatch" : Str),("MOST_BESIDE" : Str),("is_rising" : Str),("marks_of" : Str),("fits" : Str),("rows_of" : Str),("by_size" : Str),("within" : Str),("without" : Str),("taken_out" : Str),("table" : Str),("picked" : Str),("MOST_SPAN" : Str),("MOST_MARKS" : Str),("Ledger" : Str),("_law_cell_at" : Str),("_law_group_of" : Str),("_law_marks" : Str),("_law_apart" : Str),("_law_put" : Str),("_law_deed" : Str),("_law_first_told" : Str),("_law_entries_stay" : Str),("_law_lead" : Str)]
noncomputable def hH:Hook:=kHook hK hA (λ_=>by kernel_rfl)
noncomputable def hX(s:Shared):Bool:=xlAt qv [] s&&recOk [] s
noncomputable def dL:DefRec×List (Str×Expr):=(defOf qv "law").get (by kernel_rfl)
def zwp:rw_.wellSaid=true:=by
 rw[PySem.W.Fast.te9446332074065402090]
 kernel_rfl
def ztd(w:World)(os:OsState):(PySem.W.Fast.tw10110043849684766642 PySem.W.Fast.tw14364793385576792824 pw w 11 (some (.ref 6)) 0 2418 (zmQ w os) (topStub pw)).map (λr=>zgE pw qv lsv hX hH.obs w.params r.2.1.abs)=some (true,openGood qv lsv,hH.val w):=by kernel_rfl
def left:LeftO pw qv lsv hX hH.obs hH.val 2418:=by
 refine zlF (by kernel_rfl) (by kernel_rfl) (λs=>by kernel_rfl) λw os=>?_;rw[PySem.W.Fast.te10110043849684766642,PySem.W.Fast.te14364793385576792824];exact ztd w os
def hd(h:WalkO qv lsv (XL qv []) hH.says rw_.row.toRowW dL.1 dL.2 λf vs=>PySem.call f vs):rw_.Holds:=by
 refine holds_law zwp λsaid'=>?_;refine holds_open (q:=qv) (loose:=lsv) (Xt:=hX) (XP:=XL qv []) (Yf:=hH.obs) (Ya:=hH.val) (YP:=hH.says) (N:=2418) (d:=dL.1) (kwd:=dL.2) left hH.of hH.keeps (λs e=>xl_of s (gB.mp e).1) XL.keeps (by kernel_rfl) (by kernel_rfl) (by kernel_rfl) (λs e=>recFacts_of (gB.mp e).2) (by kernel_rfl) said' (by kernel_rfl) ⟨rfl,rfl,rfl,rfl,rfl,by decide +kernel⟩ ?hw h;exact⟨[.list []],by decide +kernel,by decide +kernel⟩
def dL_name:dL.1.name = "law":=by kernel_rfl
end
open A renaming loc -> Ga, k -> Gb, cons -> Gc, nil -> Ge, idx -> Gf, bin -> Gg, cmp -> Gh, set -> Gi, ret -> Gj, wE -> Gk, prim -> Gm, itP -> Gn, tup -> Gp, if_ -> Gq, lst -> Gr, wH -> Gs, lc -> Gu, ex -> Gv, meth -> Gw, fr -> Gx, wR -> Gy, wO -> Gz, noX -> G0, wS -> G1, wW -> G2, neg -> G3, wU -> G4, wY -> G5
section
set_option maxRecDepth 1000000
noncomputable abbrev KOf(f:Addr)(m:Cx->AS)(as:List AV)(l:Loc):Prop:=∀{P:Hj} {X:Cx} {n:Nat} {hb:Bool} {Q:zm} {Z:XP} {U:AHeap},Gd X (hK P)->n<600->(∀L,m (X.push L) ⟨n+1,hb⟩ l (A.vE Q) (A.kEz Z) U)->CallOk X f ⟨n,hb⟩ as Q Z U
variable{a0 a1 a2 a3 a4 a5:AV}
noncomputable def exs:List (Addr×List Addr):=[(57,[]),(70,[57]),(82,[57]),(94,[57]),(106,[57])]
def zrh(P:Hj):zgM (hK P) exs:=by
 intro p hp;simp only[exs,fG,gM,or_false] at hp
 rcases hp with rfl|rfl|rfl|rfl|rfl
 all_goals exact⟨by kernel_rfl,by kernel_rfl,by kernel_rfl,by kernel_rfl,by kernel_rfl,by kernel_rfl⟩
def kOf{f:Addr}{m:Cx->AS}{as:List AV}{l:Loc}{refs:List (Nat×Nat)}{v:List Str}{k:Nat}(c:∀P X,cF X (hK P) 245 exs f refs (List.take k v) (List.zipIdx v)=some (m X))(b:∀P vs,vs.length=(List.take k v).length->(zfX (hK P) f).map (λfd=>bindArgs fd ⟨vs,[]⟩)=some (pure ((List.take k v).zip vs)))(hl:as.length=(List.take k v).length)(e:zgb as (kg (List.zipIdx v))=l):KOf f m as l:=λ{P} _ _ _ _ _ _ G hd h=>zsR _ _ G (zrh P) (c P) (b P) hd hl λL=>e▸h L
def zd4(X:Cx):AS:=(Gc (Gj (zbr [A.isa .int (Ga 0),G1 (A.isa .bool (Ga 0))])) Ge)
noncomputable def zeD:List Str:=["thing"]
def ziI(P:Hj)(X:Cx):cF X (hK P) 245 exs 21 [] (List.take 1 zeD) (List.zipIdx zeD)=some (zd4 X):=by kernel_rfl
def zi6:KOf 21 zd4 [a0] [some a0]:=@kOf _ _ _ _ _ _ _ ziI (λP=>k9 λa0=>by kernel_rfl) rfl rfl
def zd2(X:Cx):AS:=(Gc (Gq (orL [G1 (Gk X 21 [Ga 0]),G1 (Gk X 21 [Ga 1]),Gh (Ga 1) [(.Eq,(Gb (.int 0)))]]) (Gc (Gj (Gb (.bool false))) Ge) Ge) (Gc (Gj (zbr [Gh (Gb (.int 0)) [(.LtE,(Ga 0)),(.LtE,(Gb (.int 9999)))],Gh (Gg false .Sub (Gb (.int 0)) (Gb (.int 1000000000))) [(.LtE,(Ga 1)),(.LtE,(Gb (.int 1000000000)))]])) Ge))
noncomputable def zeC:List Str:=["day","cents"]
def ziH(P:Hj)(X:Cx):cF X (hK P) 245 exs 28 [] (List.take 2 zeC) (List.zipIdx zeC)=some (zd2 X):=by kernel_rfl
def zi5:KOf 28 zd2 [a0,a1] [some a0,some a1]:=@kOf _ _ _ _ _ _ _ ziH (λP=>jY λa0 a1=>by kernel_rfl) rfl rfl
def zdZ(X:Cx):AS:=(Gc (Gq (Gh (Gf (Ga 2) (Gb (.int 0))) [(.Eq,(Gb (.str 0)))]) (Gc (Gj (Gf (Ga 0) (Gf (Ga 2) (Gb (.int 1))))) Ge) Ge) (Gc (Gj (Gf (Ga 1) (Gf (Ga 2) (Gb (.int 1))))) Ge))
noncomputable def zez:List Str:=["banks","books","mark"]
def ziE(P:Hj)(X:Cx):cF X (hK P) 245 exs 35 [] (List.take 3 zez) (List.zipIdx zez)=some (zdZ X):=by kernel_rfl
def zi3:KOf 35 zdZ [a0,a1,a2] [some a0,some a1,some a2]:=@kOf _ _ _ _ _ _ _ ziE (λP=>zbt λa0 a1 a2=>by kernel_rfl) rfl rfl
def zd1(X:Cx):AS:=(Gc (Gi 2 (Gu false (Gn (Gm zao false [Gm kj false [Ga 0]])) (.one 4) 2 none (Gp [Gf (Gf (Ga 0) (Ga 4)) (Gb (.int 0)),Gb (.str 0),Ga 4]))) (Gc (Gi 2 (Gg false .Add (Ga 2) (Gu false (Gn (Gm zao false [Gm kj false [Ga 1]])) (.one 4) 2 none (Gp [Gf (Gf (Ga 1) (Ga 4)) (Gb (.int 0)),Gb (.str 1),Ga 4])))) (Gc (Gj (Gu false (Gn (Gm za9 false [Ga 2])) (.many [4,5,6]) 4 none (Gp [Ga 5,Ga 6]))) Ge)))
noncomputable def zeB:List Str:=["banks","books","rows"]
def ziG(P:Hj)(X:Cx):cF X (hK P) 245 exs 40 [] (List.take 2 zeB) (List.zipIdx zeB)=some (zd1 X):=by kernel_rfl
def zi4:KOf 40 zd1 [a0,a1] [some a0,some a1,none]:=@kOf _ _ _ _ _ _ _ ziG (λP=>jY λa0 a1=>by kernel_rfl) rfl rfl
def zcZ(X:Cx):AS:=(Gc (Gi 6 (Gf (Gk X 35 [Ga 0,Ga 1,Ga 5]) (Gb (.int 0)))) (Gc (Gq (orL [Gh (Ga 4) [(.Is,(Gb .none))],Gh (Ga 6) [(.Gt,(Gg false .Add (Ga 4) (Ga 2)))]]) (Gc (Gv (Gw zW (Ga 3) [Gr true []])) Ge) Ge) (Gc (Gv (Gw zW (Gf (Ga 3) (G3 (Gb (.int 1)))) [Ga 5])) (Gc (Gi 4 (Ga 6)) Ge))))
def zhC(X:Cx):AS:=(Gc (Gi 3 (Gr true [])) (Gc (Gi 4 (Gb .none)) (Gc (Gx (Gn (Gk X 40 [Ga 0,Ga 1])) (.one 5) (zcZ X)) (Gc (Gj (Ga 3)) Ge))))
noncomputable def zim:List Str:=["banks","books","span","found","last","mark","day"]
def zm0(P:Hj)(X:Cx):cF X (hK P) 245 exs 47 [(19,12),(24,25)] (List.take 3 zim) (List.zipIdx zim)=some (zhC X):=by kernel_rfl
def zny:KOf 47 zhC [a0,a1,a2] [some a0,some a1,some a2,none,none,none,none]:=@kOf _ _ _ _ _ _ _ zm0 (λP=>zbt λa0 a1 a2=>by kernel_rfl) rfl rfl
def zd3(X:Cx):AS:=(Gc (Gq (G1 (Gh (Gb (.int 0)) [(.LtE,(Gf (Ga 0) (Ga 2))),(.Lt,(Ga 1))])) (Gc (Gj (Gb (.bool false))) Ge) Ge) (Gc (Gq (zbr [Gh (Ga 2) [(.Gt,(Gb (.int 0)))],Gh (Gf (Ga 0) (Ga 2)) [(.LtE,(Gf (Ga 0) (Gg false .Sub (Ga 2) (Gb (.int 1)))))]]) (Gc (Gj (Gb (.bool false))) Ge) Ge) Ge))
def zc0(X:Cx):AS:=(Gc (Gx (Gn (Gm zao false [Gm kj false [Ga 0]])) (.one 2) (zd3 X)) (Gc (Gj (Gb (.bool true))) Ge))
noncomputable def zdc:List Str:=["places","many","k"]
def zgV(P:Hj)(X:Cx):cF X (hK P) 245 exs 115 [] (List.take 2 zdc) (List.zipIdx zdc)=some (zc0 X):=by kernel_rfl
def zht:KOf 115 zc0 [a0,a1] [some a0,some a1,none]:=@kOf _ _ _ _ _ _ _ zgV (λP=>jY λa0 a1=>by kernel_rfl) rfl rfl
def zd6(X:Cx):AS:=(Gc (Gj (Gg false .Add (Gu false (Gn (Gf (Ga 0) (Gb (.int 0)))) (.one 2) 2 none (Gp [Gb (.str 0),Ga 2])) (Gu false (Gn (Gf (Ga 0) (Gb (.int 1)))) (.one 2) 2 none (Gp [Gb (.str 1),Ga 2])))) Ge)
noncomputable def zeE:List Str:=["match"]
def ziJ(P:Hj)(X:Cx):cF X (hK P) 245 exs 120 [] (List.take 1 zeE) (List.zipIdx zeE)=some (zd6 X):=by kernel_rfl
def zi7:KOf 120 zd6 [a0] [some a0]:=@kOf _ _ _ _ _ _ _ ziJ (λP=>k9 λa0=>by kernel_rfl) rfl rfl
def znM(X:Cx):AS:=(Gc (Gi 4 (Gm zn9 false [Gm kj false [Gf (Ga 3) (Gb (.int 0))],Gm kj false [Gf (Ga 3) (Gb (.int 1))]])) (Gc (Gi 5 (Gm zpT false [Gm kj false [Gf (Ga 3) (Gb (.int 0))],Gm kj false [Gf (Ga 3) (Gb (.int 1))]])) (Gc (Gq (orL [Gh (Ga 4) [(.NotEq,(Gb (.int 1)))],Gh (Ga 5) [(.Gt,(Gb (.int 3)))]]) (Gc (Gj (Gb (.bool false))) Ge) Ge) (Gc (Gq (orL [G1 (Gk X 115 [Gf (Ga 3) (Gb (.int 0)),Gm kj false [Ga 0]]),G1 (Gk X 115 [Gf (Ga 3) (Gb (.int 1)),Gm kj false [Ga 1]])]) (Gc (Gj (Gb (.bool false))) Ge) Ge) (Gc (Gq (Gh (Gm zpU false [Gu false (Gn (Gf (Ga 3) (Gb (.int 0)))) (.one 8) 2 none (Gf (Gf (Ga 0) (Ga 8)) (Gb (.int 1)))]) [(.NotEq,(Gm zpU false [Gu false (Gn (Gf (Ga 3) (Gb (.int 1)))) (.one 8) 2 none (Gf (Gf (Ga 1) (Ga 8)) (Gb (.int 1)))]))]) (Gc (Gj (Gb (.bool false))) Ge) Ge) (Gc (Gi 6 (Gu false (Gn (Gk X 120 [Ga 3])) (.one 8) 2 none (Gf (Gk X 35 [Ga 0,Ga 1,Ga 8]) (Gb (.int 0))))) (Gc (Gj (Gh (Gg false .Sub (Gm zpT false [Ga 6]) (Gm zn9 false [Ga 6])) [(.LtE,(Ga 2))])) Ge)))))))
noncomputable def zoK:List Str:=["banks","books","span","match","few","many","days"]
def zrb(P:Hj)(X:Cx):cF X (hK P) 245 exs 125 [] (List.take 4 zoK) (List.zipIdx zoK)=some (znM X):=by kernel_rfl
def zrp:KOf 125 znM [a0,a1,a2,a3] [some a0,some a1,some a2,some a3,none,none,none]:=@kOf _ _ _ _ _ _ _ zrb (λP=>zfI λa0 a1 a2 a3=>by kernel_rfl) rfl rfl
def zgg(X:Cx):AS:=(Gc (Gi 4 (Gg false .Add (Ga 4) (Gu false (Gn (Ga 0)) (.one 7) 2 (some (orL [Gh (Ga 5) [(.Eq,(Gp []))],Gh (Ga 7) [(.Gt,(Gf (Ga 5) (G3 (Gb (.int 1)))))]])) (Gg false .Add (Ga 5) (Gp [Ga 7]))))) Ge)
def zgf(X:Cx):AS:=(Gc (Gi 4 (Gr false [])) (Gc (Gx (Gn (Ga 2)) (.one 5) (zgg X)) (Gc (Gi 2 (Ga 4)) Ge)))
def zfe(X:Cx):AS:=(Gc (Gi 2 (Gr false [Gp []])) (Gc (Gx (Gn (Gm zao false [Ga 1])) (.one 3) (zgf X)) (Gc (Gj (Ga 2)) Ge)))
noncomputable def zfz:List Str:=["places","many","rows","turn","longer","row"]
def zk4(P:Hj)(X:Cx):cF X (hK P) 245 exs 130 [] (List.take 2 zfz) (List.zipIdx zfz)=some (zfe X):=by kernel_rfl
def zlz:KOf 130 zfe [a0,a1] [some a0,some a1,none,none,none,none]:=@kOf _ _ _ _ _ _ _ zk4 (λP=>jY λa0 a1=>by kernel_rfl) rfl rfl
def zfa(X:Cx):AS:=(Gc (Gj (Gp [Gg false .Add (Gm kj false [Gf (Ga 0) (Gb (.int 0))]) (Gm kj false [Gf (Ga 0) (Gb (.int 1))]),Ga 0])) Ge)
noncomputable def zfv:List Str:=["match"]
def zk0(P:Hj)(X:Cx):cF X (hK P) 245 exs 137 [] (List.take 1 zfv) (List.zipIdx zfv)=some (zfa X):=by kernel_rfl
def zlv:KOf 137 zfa [a0] [some a0]:=@kOf _ _ _ _ _ _ _ zk0 (λP=>k9 λa0=>by kernel_rfl) rfl rfl
def zc5(X:Cx):AS:=(Gc (Gq (Gk X 125 [Ga 0,Ga 1,Ga 2,Gp [Ga 8,Ga 9]]) (Gc (Gv (Gw zW (Ga 6) [Gp [Ga 8,Ga 9]])) Ge) Ge) Ge)
def zc4(X:Cx):AS:=(Gc (Gx (Gn (Gk X 130 [Ga 5,Gf (Ga 7) (Gb (.int 1))])) (.one 9) (zc5 X)) Ge)
def zc3(X:Cx):AS:=(Gc (Gx (Gn (Gk X 130 [Ga 4,Gf (Ga 7) (Gb (.int 0))])) (.one 8) (zc4 X)) Ge)
def zhG(X:Cx):AS:=(Gc (Gi 4 (Gm za9 false [Gu false (Gn (Ga 3)) (.many [11,12]) 3 (some (Gh (Ga 11) [(.Eq,(Gb (.str 0)))])) (Ga 12)])) (Gc (Gi 5 (Gm za9 false [Gu false (Gn (Ga 3)) (.many [11,12]) 3 (some (Gh (Ga 11) [(.Eq,(Gb (.str 1)))])) (Ga 12)])) (Gc (Gi 6 (Gr true [])) (Gc (Gx (Gn (Gp [Gp [Gb (.int 1),Gb (.int 1)],Gp [Gb (.int 1),Gb (.int 2)],Gp [Gb (.int 2),Gb (.int 1)],Gp [Gb (.int 1),Gb (.int 3)],Gp [Gb (.int 3),Gb (.int 1)]])) (.one 7) (zc3 X)) (Gc (Gj (A.w9 X 137 false (Ga 6))) Ge)))))
noncomputable def zio:List Str:=["banks","books","span","group","ones","others","found","sizes","left","right"]
def zm2(P:Hj)(X:Cx):cF X (hK P) 245 exs 142 [(74,12)] (List.take 4 zio) (List.zipIdx zio)=some (zhG X):=by kernel_rfl
def znA:KOf 142 zhG [a0,a1,a2,a3] [some a0,some a1,some a2,some a3,none,none,none,none,none,none]:=@kOf _ _ _ _ _ _ _ zm2 (λP=>zfI λa0 a1 a2 a3=>by kernel_rfl) rfl rfl
def zgh(X:Cx):AS:=(Gc (Gq (Gh (Ga 2) [(.NotIn,(Ga 0))]) (Gc (Gj (Gb .none)) Ge) Ge) Ge)
def zff(X:Cx):AS:=(Gc (Gx (Gn (Ga 1)) (.one 2) (zgh X)) (Gc (Gj (Gm zef false [Gu false (Gn (Ga 0)) (.one 4) 2 (some (Gh (Ga 4) [(.NotIn,(Ga 1))])) (Ga 4)])) Ge))
noncomputable def zfA:List Str:=["rest","marks","mark"]
def zk5(P:Hj)(X:Cx):cF X (hK P) 245 exs 147 [] (List.take 2 zfA) (List.zipIdx zfA)=some (zff X):=by kernel_rfl
def zlA:KOf 147 zff [a0,a1] [some a0,some a1,none]:=@kOf _ _ _ _ _ _ _ zk5 (λP=>jY λa0 a1=>by kernel_rfl) rfl rfl
def zd8(X:Cx):AS:=(Gc (Gi 4 (Gk X 120 [Ga 3])) (Gc (Gq (Gh (Gf (Ga 0) (Gb (.int 0))) [(.In,(Ga 4))]) (Gc (Gi 5 (Gk X 147 [Ga 0,Ga 4])) (Gc (Gq (Gh (Ga 5) [(.IsNot,(Gb .none))]) (Gc (Gv (Gw zW (Ga 2) [Gp [Ga 3,Ga 5]])) Ge) Ge) Ge)) Ge) Ge))
def zc2(X:Cx):AS:=(Gc (Gi 2 (Gr true [])) (Gc (Gx (Gn (Ga 1)) (.one 3) (zd8 X)) (Gc (Gj (Ga 2)) Ge)))
noncomputable def zde:List Str:=["rest","matches","found","match","marks","behind"]
def zgX(P:Hj)(X:Cx):cF X (hK P) 245 exs 154 [(88,12)] (List.take 2 zde) (List.zipIdx zde)=some (zc2 X):=by kernel_rfl
def zhv:KOf 154 zc2 [a0,a1] [some a0,some a1,none,none,none,none]:=@kOf _ _ _ _ _ _ _ zgX (λP=>jY λa0 a1=>by kernel_rfl) rfl rfl
def zbB(X:Cx):AS:=(Gc (Gq (Gh (Ga 8) [(.NotIn,(Ga 3))]) (Gc (G2 (Gb (.bool true)) (Ga 3) (Ga 8)) (Gc (Gv (Gw zW (Ga 4) [Ga 8])) Ge)) Ge) Ge)
def zjc(X:Cx):AS:=(Gc (Gi 6 (Gf (Ga 4) (Ga 5))) (Gc (Gi 5 (Gg false .Add (Ga 5) (Gb (.int 1)))) (Gc (Gi 7 (Gr false [])) (Gc (Gq (Gh (Ga 6) [(.NotEq,(Gp []))]) (Gc (Gi 7 (Gg false .Add (Gr false [G5 false (Ga 6) (some (Gb (.int 1))) none]) (Gu false (Gn (Gk X 154 [Ga 6,Ga 1])) (.many [12,13]) 3 none (Ga 13)))) Ge) Ge) (Gc (Gx (Gn (Ga 7)) (.one 8) (zbB X)) Ge)))))
def zd7(X:Cx):AS:=(Gc (G2 (Gb (.int 0)) (Ga 9) (Ga 6)) (Gc (Gq (Gh (Ga 6) [(.NotEq,(Gp []))]) (Gc (Gi 10 (Gu false (Gn (Gk X 154 [Ga 6,Ga 1])) (.many [12,13]) 3 none (Gf (Ga 9) (Ga 13)))) (Gc (G2 (Gm zn9 false [Gg false .Add (Gr false [Gg false .Add (Gb (.int 1)) (Gf (Ga 9) (G5 false (Ga 6) (some (Gb (.int 1))) none))]) (Ga 10)]) (Ga 9) (Ga 6)) Ge)) Ge) Ge))
def zkp(X:Cx):AS:=(Gc (Gi 2 (Gm zef false [Ga 0])) (Gc (Gi 3 (A.dT1 (Ga 2) (Gb (.bool true)))) (Gc (Gi 4 (Gr true [Ga 2])) (Gc (Gi 5 (Gb (.int 0))) (Gc (A.w3 (Gh (Ga 5) [(.Lt,(Gm kj false [Ga 4]))]) (zjc X)) (Gc (Gi 9 A.dT0) (Gc (Gx (Gn (A.w2 false (Ga 4))) (.one 6) (zd7 X)) (Gc (Gj (Ga 9)) Ge))))))))
noncomputable def zkQ:List Str:=["group","matches","begin","met","row","at","rest","nexts","behind","least","some"]
def zo5(P:Hj)(X:Cx):cF X (hK P) 245 exs 159 [(99,10)] (List.take 2 zkQ) (List.zipIdx zkQ)=some (zkp X):=by kernel_rfl
def zpy:KOf 159 zkp [a0,a1] [some a0,some a1,none,none,none,none,none,none,none,none,none]:=@kOf _ _ _ _ _ _ _ zo5 (λP=>jY λa0 a1=>by kernel_rfl) rfl rfl
def zhF(X:Cx):AS:=(Gc (Gi 5 (Gu false (Gn (Gk X 154 [Ga 3,Ga 1])) (.many [7,8]) 3 (some (Gh (Gf (Ga 2) (Ga 8)) [(.Eq,(Gf (Ga 2) (Ga 3)))])) (Gp [Ga 7,Ga 8]))) (Gc (Gq (Gh (Ga 5) [(.Eq,(Gr false []))]) (Gc (Gi 3 (G5 false (Ga 3) (some (Gb (.int 1))) none)) Ge) (Gc (Gv (Gw zW (Ga 4) [Gf (Gf (Ga 5) (Gb (.int 0))) (Gb (.int 0))])) (Gc (Gi 3 (Gf (Gf (Ga 5) (Gb (.int 0))) (Gb (.int 1)))) Ge))) Ge))
def zhE(X:Cx):AS:=(Gc (Gi 2 (Gk X 159 [Ga 0,Ga 1])) (Gc (Gi 3 (Gm zef false [Ga 0])) (Gc (Gi 4 (Gr true [])) (Gc (A.w3 (Gh (Ga 3) [(.NotEq,(Gp []))]) (zhF X)) (Gc (Gj (Ga 4)) Ge)))))
noncomputable def zin:List Str:=["group","matches","least","rest","found","good"]
def zm1(P:Hj)(X:Cx):cF X (hK P) 245 exs 164 [(121,12)] (List.take 2 zin) (List.zipIdx zin)=some (zhE X):=by kernel_rfl
def znz:KOf 164 zhE [a0,a1] [some a0,some a1,none,none,none,none]:=@kOf _ _ _ _ _ _ _ zm1 (λP=>jY λa0 a1=>by kernel_rfl) rfl rfl
def znO(X:Cx):AS:=(Gc (Gq (orL [G1 (Gk X 21 [Ga 1]),G1 (Gh (Gb (.int 0)) [(.LtE,(Ga 1)),(.LtE,(Gb (.int 30)))])]) (Gc (A.wT 82) Ge) Ge) (Gc (G4 245 3 (Ga 0) (Ga 1)) (Gc (G4 245 4 (Ga 0) (A.dic [((Gb (.str 0)),(Gr true [])),((Gb (.str 1)),(Gr true []))])) (Gc (G4 245 5 (Ga 0) (Gr true [])) (Gc (G4 245 6 (Ga 0) (Gr true [])) Ge)))))
noncomputable def zoL:List Str:=["self","span"]
def zrc(P:Hj)(X:Cx):cF X (hK P) 245 exs 178 [(140,22),(141,22),(139,29),(139,41)] (List.take 2 zoL) (List.zipIdx zoL)=some (znO X):=by kernel_rfl
def zrq:KOf 178 znO [a0,a1] [some a0,some a1]:=@kOf _ _ _ _ _ _ _ zrc (λP=>jY λa0 a1=>by kernel_rfl) rfl rfl
def zb6(X:Cx):AS:=(Gc (Gj (Gk X 47 [Gf (Gy 245 4 (Ga 0)) (Gb (.str 0)),Gf (Gy 245 4 (Ga 0)) (Gb (.str 1)),Gy 245 3 (Ga 0)])) Ge)
noncomputable def zco:List Str:=["self"]
def zfM(P:Hj)(X:Cx):cF X (hK P) 245 exs 185 [] (List.take 1 zco) (List.zipIdx zco)=some (zb6 X):=by kernel_rfl
def zb3:KOf 185 zb6 [a0] [some a0]:=@kOf _ _ _ _ _ _ _ zfM (λP=>k9 λa0=>by kernel_rfl) rfl rfl
def znR(X:Cx):AS:=(Gc (G4 245 5 (Ga 0) (Gu true (Gn (Gy 245 5 (Ga 0))) (.one 4) 2 (some (Gh (Gf (Gk X 120 [Ga 4]) (Gb (.int 0))) [(.NotIn,(Ga 1))])) (Ga 4))) (Gc (Gi 2 (Gk X 142 [Gf (Gy 245 4 (Ga 0)) (Gb (.str 0)),Gf (Gy 245 4 (Ga 0)) (Gb (.str 1)),Gy 245 3 (Ga 0),Ga 1])) (Gc (G4 245 5 (Ga 0) (Gg true .Add (Gy 245 5 (Ga 0)) (Gk X 164 [Ga 1,Gu false (Gn (Ga 2)) (.one 4) 2 (some (Gh (Ga 4) [(.NotIn,(Gy 245 6 (Ga 0)))])) (Ga 4)]))) Ge)))
noncomputable def zoO:List Str:=["self","group","some"]
def zrf(P:Hj)(X:Cx):cF X (hK P) 245 exs 190 [(147,22),(149,22)] (List.take 2 zoO) (List.zipIdx zoO)=some (znR X):=by kernel_rfl
def zrt:KOf 190 znR [a0,a1] [some a0,some a1,none]:=@kOf _ _ _ _ _ _ _ zrf (λP=>jY λa0 a1=>by kernel_rfl) rfl rfl
def zqN(X:Cx):AS:=(Gc (Gq (orL [Gh (Ga 1) [(.NotIn,(Gp [Gb (.str 0),Gb (.str 1)]))],G1 (Gk X 28 [Ga 2,Ga 3])]) (Gc (A.wT 70) Ge) Ge) (Gc (Gi 4 (Gf (Gy 245 4 (Ga 0)) (Ga 1))) (Gc (Gv (Gw zW (Ga 4) [Gp [Ga 2,Ga 3]])) (Gc (Gi 5 (Gs X 245 none 228 (Ga 0) [Ga 1,Gg false .Sub (Gm kj false [Ga 4]) (Gb (.int 1))])) (Gc (Gq (Gh (Gm kj false [Ga 5]) [(.Gt,(Gb (.int 8)))]) (Gc (Gv (Gw zrA (Ga 4) [])) (Gc (A.wT 94) Ge)) Ge) (Gc (Gv (Gs X 245 none 190 (Ga 0) [Ga 5])) (Gc (Gj (Gg false .Sub (Gm kj false [Ga 4]) (Gb (.int 1)))) Ge)))))))
noncomputable def zq1:List Str:=["self","side","day","cents","row","group"]
def zsQ(P:Hj)(X:Cx):cF X (hK P) 245 exs 197 [(154,14)] (List.take 4 zq1) (List.zipIdx zq1)=some (zqN X):=by kernel_rfl
def ztb:KOf 197 zqN [a0,a1,a2,a3] [some a0,some a1,some a2,some a3,none,none]:=@kOf _ _ _ _ _ _ _ zsQ (λP=>zfI λa0 a1 a2 a3=>by kernel_rfl) rfl rfl
def zkn(X:Cx):AS:=(Gc (Gj (Gf (Gf (Gy 245 4 (Ga 0)) (Ga 1)) (Ga 2))) Ge)
noncomputable def zkO:List Str:=["self","side","place"]
def zo3(P:Hj)(X:Cx):cF X (hK P) 245 exs 204 [] (List.take 3 zkO) (List.zipIdx zkO)=some (zkn X):=by kernel_rfl
def zpw:KOf 204 zkn [a0,a1,a2] [some a0,some a1,some a2]:=@kOf _ _ _ _ _ _ _ zo3 (λP=>zbt λa0 a1 a2=>by kernel_rfl) rfl rfl
def zfd(X:Cx):AS:=(Gc (Gj (A.w9 X 137 false (Gy 245 5 (Ga 0)))) Ge)
noncomputable def zfy:List Str:=["self"]
def zk3(P:Hj)(X:Cx):cF X (hK P) 245 exs 211 [] (List.take 1 zfy) (List.zipIdx zfy)=some (zfd X):=by kernel_rfl
def zly:KOf 211 zfd [a0] [some a0]:=@kOf _ _ _ _ _ _ _ zk3 (λP=>k9 λa0=>by kernel_rfl) rfl rfl
def zhB(X:Cx):AS:=(Gc (Gj (Gm zfj false [Gy 245 6 (Ga 0)])) Ge)
noncomputable def zil:List Str:=["self"]
def zmZ(P:Hj)(X:Cx):cF X (hK P) 245 exs 218 [] (List.take 1 zil) (List.zipIdx zil)=some (zhB X):=by kernel_rfl
def znx:KOf 218 zhB [a0] [some a0]:=@kOf _ _ _ _ _ _ _ zmZ (λP=>k9 λa0=>by kernel_rfl) rfl rfl
def zlM(X:Cx):AS:=(Gc (Gi 2 (Gg false .Add (Ga 2) (Gk X 120 [Ga 3]))) Ge)
def znQ(X:Cx):AS:=(Gc (Gi 2 (Gr false [])) (Gc (Gx (Gn (Gy 245 5 (Ga 0))) (.one 3) (zlM X)) (Gc (Gj (Gu false (Gn (Gm zao false [Gm kj false [Gf (Gy 245 4 (Ga 0)) (Ga 1)]])) (.one 5) 2 (some (Gh (Gp [Ga 1,Ga 5]) [(.NotIn,(Ga 2))])) (Ga 5))) Ge)))
noncomputable def zoN:List Str:=["self","side","told","match"]
def zre(P:Hj)(X:Cx):cF X (hK P) 245 exs 223 [] (List.take 2 zoN) (List.zipIdx zoN)=some (znQ X):=by kernel_rfl
def zrs:KOf 223 znQ [a0,a1] [some a0,some a1,none,none]:=@kOf _ _ _ _ _ _ _ zre (λP=>jY λa0 a1=>by kernel_rfl) rfl rfl
def zd0(X:Cx):AS:=(Gc (Gj (Gf (Gu false (Gn (Gs X 245 none 185 (Ga 0) [])) (.one 4) 2 (some (Gh (Gp [Ga 1,Ga 2]) [(.In,(Ga 4))])) (Ga 4)) (Gb (.int 0)))) Ge)
noncomputable def zeA:List Str:=["self","side","place"]
def ziF(P:Hj)(X:Cx):cF X (hK P) 245 exs 228 [] (List.take 3 zeA) (List.zipIdx zeA)=some (zd0 X):=by kernel_rfl
def zdS:KOf 228 zd0 [a0,a1,a2] [some a0,some a1,some a2]:=@kOf _ _ _ _ _ _ _ ziF (λP=>zbt λa0 a1 a2=>by kernel_rfl) rfl rfl
def zc1(X:Cx):AS:=(Gc (Gq (Gh (Ga 1) [(.NotIn,(Gy 245 5 (Ga 0)))]) (Gc (A.wT 106) Ge) Ge) (Gc (Gv (Gw zge (Gy 245 5 (Ga 0)) [Ga 1])) (Gc (Gv (Gw zW (Gy 245 6 (Ga 0)) [Ga 1])) Ge)))
noncomputable def zdd:List Str:=["self","match"]
def zgW(P:Hj)(X:Cx):cF X (hK P) 245 exs 235 [] (List.take 2 zdd) (List.zipIdx zdd)=some (zc1 X):=by kernel_rfl
def zhu:KOf 235 zc1 [a0,a1] [some a0,some a1]:=@kOf _ _ _ _ _ _ _ zgW (λP=>jY λa0 a1=>by kernel_rfl) rfl rfl
def zjb(X:Cx):AS:=(Gc (Gv (Gs X 245 none 190 (Ga 0) [Ga 1])) Ge)
def zkl(X:Cx):AS:=(Gc (Gx (Gn (Gs X 245 none 185 (Ga 0) [])) (.one 1) (zjb X)) Ge)
noncomputable def zkM:List Str:=["self","group"]
def zo1(P:Hj)(X:Cx):cF X (hK P) 245 exs 242 [] (List.take 1 zkM) (List.zipIdx zkM)=some (zkl X):=by kernel_rfl
def zpu:KOf 242 zkl [a0] [some a0,none]:=@kOf _ _ _ _ _ _ _ zo1 (λP=>k9 λa0=>by kernel_rfl) rfl rfl
def zfb(X:Cx):AS:=(Gc (Gq (Gh (Ga 1) [(.Lt,(Gm kj false [Ga 0]))]) (Gc (Gj (Gf (Ga 0) (Ga 1))) Ge) Ge) (Gc (Gj (Gb (.int 0))) Ge))
noncomputable def zfw:List Str:=["_law_script","_law_k"]
def zk1(P:Hj)(X:Cx):cF X (hK P) 245 exs 256 [] (List.take 2 zfw) (List.zipIdx zfw)=some (zfb X):=by kernel_rfl
def zlw:KOf 256 zfb [a0,a1] [some a0,some a1]:=@kOf _ _ _ _ _ _ _ zk1 (λP=>jY λa0 a1=>by kernel_rfl) rfl rfl
def kt(X:Cx):AS:=(Gc (Gq (zbr [Gh (Ga 5) [(.Gt,(Gb (.int 0)))],Gh (Gg false .Sub (Gf (Gf (Ga 3) (Ga 5)) (Gb (.int 0))) (Gf (Gf (Ga 3) (Gg false .Sub (Ga 5) (Gb (.int 1)))) (Gb (.int 0)))) [(.Gt,(Ga 1))]]) (Gc (Gq (Gh (Ga 2) [(.In,(Ga 4))]) (Gc (Gj (Ga 4)) Ge) Ge) (Gc (Gi 4 (Gr true [])) Ge)) Ge) (Gc (Gv (Gw zW (Ga 4) [Gp [Gf (Gf (Ga 3) (Ga 5)) (Gb (.int 1)),Gf (Gf (Ga 3) (Ga 5)) (Gb (.int 2))]])) Ge))
def zaW(X:Cx):AS:=(Gc (Gi 3 (Gu false (A.itE (Gf (Ga 0) (Gb (.str 0)))) (.many [7,8]) 3 none (Gp [Gf (Ga 8) (Gb (.int 0)),Gb (.str 0),Ga 7]))) (Gc (Gi 3 (Gm za9 false [Gg false .Add (Ga 3) (Gu false (A.itE (Gf (Ga 0) (Gb (.str 1)))) (.many [7,8]) 3 none (Gp [Gf (Ga 8) (Gb (.int 0)),Gb (.str 1),Ga 7]))])) (Gc (Gi 4 (Gr true [])) (Gc (Gx (Gn (Gm zao false [Gm kj false [Ga 3]])) (.one 5) (kt X)) (Gc (Gj (Ga 4)) Ge)))))
noncomputable def za3:List Str:=["_law_own","_law_span","_law_mark","_law_rows","_law_found","_law_k"]
def zdy(P:Hj)(X:Cx):cF X (hK P) 245 exs 261 [(198,17),(203,25)] (List.take 3 za3) (List.zipIdx za3)=some (zaW X):=by kernel_rfl
def zdT:KOf 261 zaW [a0,a1,a2] [some a0,some a1,some a2,none,none,none]:=@kOf _ _ _ _ _ _ _ zdy (λP=>zbt λa0 a1 a2=>by kernel_rfl) rfl rfl
def zko(X:Cx):AS:=(Gc (Gj (Gg false .Add (Gu false (Gn (Gf (Ga 0) (Gb (.int 0)))) (.one 2) 2 none (Gp [Gb (.str 0),Ga 2])) (Gu false (Gn (Gf (Ga 0) (Gb (.int 1)))) (.one 2) 2 none (Gp [Gb (.str 1),Ga 2])))) Ge)
noncomputable def zkP:List Str:=["_law_match"]
def zo4(P:Hj)(X:Cx):cF X (hK P) 245 exs 266 [] (List.take 1 zkP) (List.zipIdx zkP)=some (zko X):=by kernel_rfl
def zpx:KOf 266 zko [a0] [some a0]:=@kOf _ _ _ _ _ _ _ zo4 (λP=>k9 λa0=>by kernel_rfl) rfl rfl
def zkm(X:Cx):AS:=(Gc (Gj (Gu false (Gn (Ga 0)) (.one 3) 2 (some (Gh (Gu false (Gn (Gk X 266 [Ga 3])) (.one 5) 2 (some (Gh (Ga 5) [(.In,(Ga 1))])) (Ga 5)) [(.Eq,(Gr false []))])) (Ga 3))) Ge)
noncomputable def zkN:List Str:=["_law_ticked","_law_group"]
def zo2(P:Hj)(X:Cx):cF X (hK P) 245 exs 271 [] (List.take 2 zkN) (List.zipIdx zkN)=some (zkm X):=by kernel_rfl
def zpv:KOf 271 zkm [a0,a1] [some a0,some a1]:=@kOf _ _ _ _ _ _ _ zo2 (λP=>jY λa0 a1=>by kernel_rfl) rfl rfl
def zfc(X:Cx):AS:=(Gc (Gi 5 (Gf (Gr false [Gb (.str 0),Gb (.str 1)]) (Gg false .Mod (Ga 2) (Gb (.int 2))))) (Gc (Gi 6 (Gg false .Add (Gf (Ga 1) (Gb (.str 22))) (Gg false .Mult (Gg false .Mod (Gg false .FloorDiv (Ga 2) (Gb (.int 2))) (Gf (Ga 1) (Gb (.str 20)))) (Gf (Ga 1) (Gb (.str 24)))))) (Gc (Gi 7 (Gp [Ga 6,Gg false .Mult (Gf (Gr false [Gb (.int 1),Gb (.int 2),Gb (.int 3),Gb (.int 4),Gb (.int 5),Gb (.int 7),G3 (Gb (.int 2)),G3 (Gb (.int 3))]) (Gg false .Mod (Gg false .FloorDiv (Ga 2) (Gb (.int 80))) (Gb (.int 8)))) (Gf (Ga 1) (Gb (.str 21)))])) (Gc (Gq (Gh (Gg false .Mod (Gg false .FloorDiv (Ga 2) (Gb (.int 640))) (Gb (.int 6))) [(.Eq,(Gb (.int 1)))]) (Gc (Gi 7 (Gp [Ga 6,Gg false .Mult (Gg false .Sub (Gg false .Pow (Gb (.int 10)) (Gb (.int 9))) (Gm zrL false [Gf (Ga 7) (Gb (.int 1))])) (Gf (Gr false [Gb (.int 1),G3 (Gb (.int 1))]) (Gm zpS false [Gh (Gf (Ga 7) (Gb (.int 1))) [(.Lt,(Gb (.int 0)))]]))])) Ge) Ge) (Gc (A.vD (Gc (Gi 8 (Gs X 245 none 197 (Ga 0) [Ga 5,Gf (Ga 7) (Gb (.int 0)),Gf (Ga 7) (Gb (.int 1))])) Ge) [94] none (Gc (Gj (zbr [Gh (Gs X 245 (some 17) 211 (Ga 0) []) [(.Eq,(Gf (Ga 4) (Gb (.int 0))))],Gh (Gs X 245 (some 18) 218 (Ga 0) []) [(.Eq,(Gf (Ga 4) (Gb (.int 1))))]])) Ge)) (Gc (Gv (Gw zW (Gf (Ga 1) (Ga 5)) [Ga 7])) (Gc (Gi 9 (Gk X 261 [Ga 1,Ga 3,Gp [Ga 5,Ga 8]])) (Gc (Gq (orL [Gh (Gs X 245 (some 18) 218 (Ga 0) []) [(.NotEq,(Gf (Ga 4) (Gb (.int 1))))],Gh (Gp [Ga 5,Ga 8]) [(.NotIn,(Ga 9))]]) (Gc (Gj (Gb (.bool false))) Ge) Ge) (Gc (Gi 10 (Gf (Ga 9) (Gg false .Mod (Gg false .FloorDiv (Ga 2) (Gb (.int 640))) (Gm kj false [Ga 9])))) (Gc (Gq (orL [Gh (Gs X 245 none 228 (Ga 0) [Ga 5,Ga 8]) [(.NotEq,(Ga 9))],Gh (Gs X 245 none 228 (Ga 0) [Gf (Ga 10) (Gb (.int 0)),Gf (Ga 10) (Gb (.int 1))]) [(.NotEq,(Ga 9))]]) (Gc (Gj (Gb (.bool false))) Ge) Ge) (Gc (Gj (Gh (Gk X 271 [Gs X 245 (some 17) 211 (Ga 0) [],Ga 9]) [(.Eq,(Gk X 271 [Gf (Ga 4) (Gb (.int 0)),Ga 9]))])) Ge)))))))))))
noncomputable def zfx:List Str:=["_law_ledger","_law_own","_law_cell","_law_span","_law_ahead","_law_side","_law_day","_law_entry","_law_place","_law_group","_law_mark"]
def zk2(P:Hj)(X:Cx):cF X (hK P) 245 exs 278 [] (List.take 5 zfx) (List.zipIdx zfx)=some (zfc X):=by kernel_rfl
def zlx:KOf 278 zfc [a0,a1,a2,a3,a4] [some a0,some a1,some a2,some a3,some a4,none,none,none,none,none,none]:=@kOf _ _ _ _ _ _ _ zk2 (λP=>zq7 λa0 a1 a2 a3 a4=>by kernel_rfl) rfl rfl
def znL(X:Cx):AS:=(Gc (Gi 4 (Gp [Gm zfj false [Gs X 245 (some 17) 211 (Ga 0) []],Gm zfj false [Gs X 245 (some 18) 218 (Ga 0) []]])) (Gc (Gq (zbr [Gh (Gg false .Mod (Ga 2) (Gb (.int 8))) [(.Eq,(Gb (.int 6)))],Gh (Gf (Ga 4) (Gb (.int 0))) [(.NotEq,(Gr false []))]]) (Gc (Gi 5 (Gf (Gf (Ga 4) (Gb (.int 0))) (Gg false .Mod (Gg false .FloorDiv (Ga 2) (Gb (.int 8))) (Gm kj false [Gf (Ga 4) (Gb (.int 0))])))) (Gc (Gv (Gs X 245 none 235 (Ga 0) [Ga 5])) (Gc (Gq (Gh (Gs X 245 (some 18) 218 (Ga 0) []) [(.NotEq,(Gg false .Add (Gf (Ga 4) (Gb (.int 1))) (Gr false [Ga 5])))]) (Gc (Gj (Gb (.bool false))) Ge) Ge) (Gc (Gj (Gh (Gs X 245 (some 17) 211 (Ga 0) []) [(.Eq,(Gu false (Gn (Gf (Ga 4) (Gb (.int 0)))) (.one 8) 2 (some (Gh (Ga 8) [(.NotEq,(Ga 5))])) (Ga 8)))])) Ge)))) Ge) (Gc (Gq (Gh (Gg false .Mod (Ga 2) (Gb (.int 8))) [(.Eq,(Gb (.int 7)))]) (Gc (Gv (Gs X 245 none 242 (Ga 0) [])) (Gc (Gi 6 (Gs X 245 (some 17) 211 (Ga 0) [])) (Gc (Gv (Gs X 245 none 242 (Ga 0) [])) (Gc (Gj (zbr [Gh (Gs X 245 (some 17) 211 (Ga 0) []) [(.Eq,(Ga 6))],Gh (Gs X 245 (some 18) 218 (Ga 0) []) [(.Eq,(Gf (Ga 4) (Gb (.int 1))))]])) Ge)))) Ge) (Gc (Gq (Gh (Gg false .Mod (Ga 2) (Gb (.int 8))) [(.Eq,(Gb (.int 6)))]) (Gc (Gj (Gb (.bool true))) Ge) Ge) (Gc (Gj (Gk X 278 [Ga 0,Ga 1,Gg false .FloorDiv (Ga 2) (Gb (.int 8)),Ga 3,Ga 4])) Ge)))))
noncomputable def zoJ:List Str:=["_law_ledger","_law_own","_law_cell","_law_span","_law_ahead","_law_match","_law_once"]
def zra(P:Hj)(X:Cx):cF X (hK P) 245 exs 283 [] (List.take 4 zoJ) (List.zipIdx zoJ)=some (znL X):=by kernel_rfl
def zro:KOf 283 znL [a0,a1,a2,a3] [some a0,some a1,some a2,some a3,none,none,none]:=@kOf _ _ _ _ _ _ _ zra (λP=>zfI λa0 a1 a2 a3=>by kernel_rfl) rfl rfl
def zdh(X:Cx):AS:=(Gc (Gq (Gh (Gf (Ga 1) (Ga 3)) [(.NotEq,(Gr false []))]) (Gc (Gq (Gh (Gs X 245 (some 7) 204 (Ga 0) [Ga 3,Gb (.int 0)]) [(.NotEq,(Gf (Gf (Ga 1) (Ga 3)) (Gb (.int 0))))]) (Gc (Gj (Gb (.bool false))) Ge) Ge) (Gc (Gi 4 (Gs X 245 none 228 (Ga 0) [Ga 3,Gb (.int 0)])) (Gc (Gi 5 (Gk X 261 [Ga 1,Ga 2,Gp [Ga 3,Gb (.int 0)]])) (Gc (Gq (Gh (Ga 4) [(.NotEq,(Ga 5))]) (Gc (Gj (Gb (.bool false))) Ge) Ge) (Gc (Gv (Gw zja (Ga 4) [])) (Gc (Gq (Gh (Gs X 245 none 228 (Ga 0) [Ga 3,Gb (.int 0)]) [(.NotEq,(Ga 5))]) (Gc (Gj (Gb (.bool false))) Ge) Ge) Ge)))))) Ge) Ge)
def zb9(X:Cx):AS:=(Gc (Gx (Gn (Gp [Gb (.str 0),Gb (.str 1)])) (.one 3) (zdh X)) (Gc (Gj (Gb (.bool true))) Ge))
noncomputable def zcp:List Str:=["_law_ledger","_law_own","_law_span","_law_side","_law_told","_law_due"]
def zfN(P:Hj)(X:Cx):cF X (hK P) 245 exs 290 [] (List.take 3 zcp) (List.zipIdx zcp)=some (zb9 X):=by kernel_rfl
def zf9:KOf 290 zb9 [a0,a1,a2] [some a0,some a1,some a2,none,none,none]:=@kOf _ _ _ _ _ _ _ zfN (λP=>zbt λa0 a1 a2=>by kernel_rfl) rfl rfl
def zb8(X:Cx):AS:=(Gc (Gi 5 (Gs X 245 (some 7) 204 (Ga 0) [Ga 2,Ga 3])) (Gc (Gq (orL [G1 (A.isa .tuple (Ga 5)),Gh (Ga 5) [(.NotEq,(Ga 4))]]) (Gc (Gj (Gb (.bool false))) Ge) Ge) Ge))
def zb7(X:Cx):AS:=(Gc (Gx (A.itE (Gf (Ga 1) (Ga 2))) (.many [3,4]) (zb8 X)) Ge)
def zaV(X:Cx):AS:=(Gc (Gx (Gn (Gp [Gb (.str 0),Gb (.str 1)])) (.one 2) (zb7 X)) (Gc (Gj (Gb (.bool true))) Ge))
noncomputable def za2:List Str:=["_law_ledger","_law_own","_law_side","_law_place","_law_entry","_law_told"]
def zdx(P:Hj)(X:Cx):cF X (hK P) 245 exs 297 [] (List.take 2 za2) (List.zipIdx za2)=some (zaV X):=by kernel_rfl
def zdR:KOf 297 zaV [a0,a1] [some a0,some a1,none,none,none,none]:=@kOf _ _ _ _ _ _ _ zdx (λP=>jY λa0 a1=>by kernel_rfl) rfl rfl
def zlL(X:Cx):AS:=(Gc (Gv (Gs X 245 none 197 (Ga 0) [Ga 4,Gg false .Add (Ga 3) (Gg false .Mult (Gb (.int 40)) (Ga 5)),Gg false .Add (Gb (.int 1)) (Ga 5)])) (Gc (Gv (Gw zW (Gf (Ga 1) (Ga 4)) [Gp [Gg false .Add (Ga 3) (Gg false .Mult (Gb (.int 40)) (Ga 5)),Gg false .Add (Gb (.int 1)) (Ga 5)]])) Ge))
def znP(X:Cx):AS:=(Gc (Gi 3 (Gf (Gr false [Gb (.int 5000),Gb (.int 0)]) (Gm zpS false [Gh (Gf (Ga 1) (Gb (.str 22))) [(.Gt,(Gb (.int 2000)))]]))) (Gc (Gi 4 (Gf (Gr false [Gb (.str 0),Gb (.str 1)]) (Gg false .Mod (Gg false .FloorDiv (Ga 2) (Gb (.int 4))) (Gb (.int 2))))) (Gc (Gx (Gn (Gm zao false [Gf (Gr false [Gb (.int 0),Gb (.int 0),Gb (.int 0),Gg false .Add (Gb (.int 9)) (Gg false .Mod (Gg false .FloorDiv (Ga 2) (Gb (.int 8))) (Gb (.int 5)))]) (Gg false .Mod (Ga 2) (Gb (.int 4)))])) (.one 5) (zlL X)) Ge)))
noncomputable def zoM:List Str:=["_law_ledger","_law_own","_law_cell","_law_first","_law_side","_law_k"]
def zrd(P:Hj)(X:Cx):cF X (hK P) 245 exs 304 [] (List.take 3 zoM) (List.zipIdx zoM)=some (znP X):=by kernel_rfl
def zrr:KOf 304 znP [a0,a1,a2] [some a0,some a1,some a2,none,none,none]:=@kOf _ _ _ _ _ _ _ zrd (λP=>zbt λa0 a1 a2=>by kernel_rfl) rfl rfl
def zhD(X:Cx):AS:=(Gc (Gq (Gh (Gf (Ga 2) (Ga 8)) [(.NotEq,(Gr false []))]) (Gc (Gv (Gw zW (Ga 6) [Gs X 245 none 228 (Ga 3) [Ga 8,Gb (.int 0)]])) (Gc (Gv (Gw zW (Ga 7) [Gk X 261 [Ga 2,Ga 1,Gp [Ga 8,Gb (.int 0)]]])) Ge)) Ge) Ge)
def zd5(X:Cx):AS:=(Gc (Gi 6 (Gr true [Gs X 245 (some 17) 211 (Ga 3) [],Gs X 245 (some 18) 218 (Ga 3) [],Gs X 245 none 223 (Ga 3) [Gb (.str 0)],Gs X 245 none 223 (Ga 3) [Gb (.str 1)]])) (Gc (Gi 7 (Gu true (Gn (Ga 6)) (.one 10) 2 none (Gm zfj false [Ga 10]))) (Gc (Gx (Gn (Gp [Gb (.str 0),Gb (.str 1)])) (.one 8) (zhD X)) (Gc (Gv (Gw zW (Ga 4) [Gp [Ga 6,Ga 7]])) (Gc (Gq (orL [Gh (Ga 6) [(.NotEq,(Ga 7))],G1 (Gk X 283 [Ga 3,Ga 2,Ga 5,Ga 1]),Gh (Ga 6) [(.NotEq,(Ga 7))]]) (Gc (Gj (Gb (.bool false))) Ge) Ge) (Gc (Gq (G1 (Gk X 290 [Ga 3,Ga 2,Ga 1])) (Gc (Gj (Gb (.bool false))) Ge) Ge) Ge))))))
def zqM(X:Cx):AS:=(Gc (Gi 1 (Gg false .Mod (Gk X 256 [Ga 0,Gb (.int 0)]) (Gb (.int 5)))) (Gc (Gq (Gh (Gg false .Mod (Gg false .FloorDiv (Gk X 256 [Ga 0,Gb (.int 0)]) (Gb (.int 5))) (Gb (.int 3))) [(.Eq,(Gb (.int 1)))]) (Gc (Gi 1 (Gg false .Add (Gb (.int 5)) (Gg false .Mod (Gg false .FloorDiv (Gk X 256 [Ga 0,Gb (.int 0)]) (Gb (.int 15))) (Gb (.int 26))))) Ge) Ge) (Gc (Gi 2 (A.dic [((Gb (.str 0)),(Gr true [])),((Gb (.str 1)),(Gr true [])),((Gb (.str 20)),(Gf (Gr false [Gb (.int 8),Gb (.int 40)]) (Gg false .Mod (Gk X 256 [Ga 0,Gb (.int 1)]) (Gb (.int 2))))),((Gb (.str 21)),(Gb (.int 1)))])) (Gc (G2 (Gg false .Add (Gb (.int 1)) (Gg false .Mult (Gg false .Mod (Gg false .FloorDiv (Gk X 256 [Ga 0,Gb (.int 1)]) (Gb (.int 2))) (Gb (.int 2))) (Gg false .Mod (Gg false .FloorDiv (Gk X 256 [Ga 0,Gb (.int 1)]) (Gb (.int 4))) (Gg false .Pow (Gb (.int 10)) (Gb (.int 8)))))) (Ga 2) (Gb (.str 21))) (Gc (G2 (Gg false .Mod (Gg false .FloorDiv (Gk X 256 [Ga 0,Gb (.int 0)]) (Gb (.int 390))) (Gb (.int 9883))) (Ga 2) (Gb (.str 22))) (Gc (G2 (Gg false .Add (Gb (.int 1)) (Gg false .Mod (Gk X 256 [Ga 0,Gb (.int 14)]) (Gb (.int 3)))) (Ga 2) (Gb (.str 24))) (Gc (Gi 3 (A.new X 245 178 [Ga 1])) (Gc (Gv (Gk X 304 [Ga 3,Ga 2,Gk X 256 [Ga 0,Gb (.int 13)]])) (Gc (Gi 4 (Gr true [])) (Gc (Gx (Gn (G5 false (Ga 0) (some (Gb (.int 2))) (some (Gb (.int 13))))) (.one 5) (zd5 X)) (Gc (Gj (zbr [Gm zpR false [Gu false (Gn (Ga 4)) (.many [10,11]) 3 none (Gh (Ga 10) [(.Eq,(Ga 11))])],Gk X 297 [Ga 3,Ga 2]])) Ge)))))))))))
noncomputable def zq0:List Str:=["_law_script","_law_span","_law_own","_law_ledger","_law_held","_law_cell","_law_told","_law_kept","_law_side"]
def zsP(P:Hj)(X:Cx):cF X (hK P) 245 exs 309 [(280,16),(274,24),(274,36),(282,20),(283,20)] (List.take 1 zq0) (List.zipIdx zq0)=some (zqM X):=by kernel_rfl
def zta:KOf 309 zqM [a0] [some a0,none,none,none,none,none,none,none,none]:=@kOf _ _ _ _ _ _ _ zsP (λP=>k9 λa0=>by kernel_rfl) rfl rfl
end
section
variable{P:Hj}{X:Cx}{n:Nat}{Q:zm}{Z:XP}{U:AHeap}
def qb{J:Type}{f:J->AV}{xs:List J}{k:Nat}{x:J}(h:xs[k]? = some x):jC (xs.map f) (k:Int)=some (f x):=by rw[atIdx_nat,pT,h];rfl
def jo(G:Gd X (hK P))(hd:n<590){ns:List Int}{k:Nat}(q:Q (.int (ns.getD k 0)) U):CallOk X 256 ⟨n,false⟩ [.lst (ns.map .int),.int k] Q Z U:=by
 refine zlw G (fM hd (by decide)) λL=>?_;refine zaH (λh=>?_) λh=>?_
 .have h:=Hz h;rw[fC] at h;have hk:k<ns.length:=zxs h;have e:ns[k]? = some (ns.getD k 0):=by rw[fS,fW hk];rfl
  exact zf (qb e) (Ends.same q)
 .have h:=of_decide_eq_false h;rw[fC] at h;have hk:ns.length<=k:=zyt h;rw[fS,fAF hk] at q;exact Ends.same q
abbrev Mt:=List Int×List Int
noncomputable def zC(m:Mt):AV:=.tup [.tup (m.1.map .int),.tup (m.2.map .int)]
noncomputable def zk(m:Mt):List zd:=m.1.map (λk=>(false,k))++m.2.map λk=>(true,k)
def ziy{hb:Bool}(G:Gd X (hK P))(hd:n<590){m:Mt}(q:Q (.tup [.int ((m.1.length:Int)+m.2.length),zC m]) U):CallOk X 137 ⟨n,hb⟩ [zC m] Q Z U:=by
 refine zlv G (fM hd (by decide)) λL=>?_
 conv=>whnf
 rw[fC,fC];exact Ends.same q
def ku(G:Gd X (hK P))(hd:n<590){m:Mt}(h1:m.1.length<=1000)(h2:m.2.length<=1000)(q:Q (.lst ((zk m).map zD)) U):CallOk X 120 ⟨n,false⟩ [zC m] Q Z U:=by
 refine zi7 G (fM hd (by decide)) λL=>?_;refine zX (λk=>zD (false,k)) (λ_=>rfl) (λ_ _=>rfl) (λx _ R q=>q) trivial (zcq h1) ?_;refine zX (λk=>zD (true,k)) (λ_=>rfl) (λ_ _=>rfl) (λx _ R q=>q) trivial (zcq h2) ?_;refine zJ (by rw[fC,fC];exact zqr h1 h2) (Ends.same ?_);unfold zk at q;rw[fU,gD,gD] at q;exact q
def zaS(G:Gd X (hK P))(hd:n<590){i:Int}(q:Q (.bool true) U):CallOk X 21 ⟨n,false⟩ [.int i] Q Z U:=
 zi6 G (fM hd (by decide)) λL=>Ends.same q
noncomputable def kI(d c:Int):Bool:=decide (0<=d)&&decide (d<=9999)&&decide (0-1000000000<=c)&&decide (c<=1000000000)&&!decide (c=0)
def zhq(G:Gd X (hK P))(hd:n<580){i c:Int}(q:Q (.bool (kI i c)) U):CallOk X 28 ⟨n,false⟩ [.int i,.int c] Q Z U:=by
 refine zi5 G (fM hd (by decide)) λL=>?_;refine zaS (G.push L) (zgG hd) ?_;refine zaS (G.push L) (zgG hd) ?_;have fin:∀b,kI i c=b->Ends Q (.bool b) U:=λb e=>Ends.same (e▸q);unfold kI at fin
 repeat' ((conv=>whnf);(refine zaH (λ_=>?_) λ_=>?_))
 all_goals (refine fin _ ?_;simp only[*,fB0,Bool.true_and,Bool.and_false,Bool.false_and,fCL,Bool.not_false])
def zcR(G:Gd X (hK P))(hd:n<590){pb pk:Addr}{es fs:List AV}{m:zd}{k:Nat}{e:AV}(hb:U pb=some (.list es))(hk:U pk=some (.list fs))(he:(if m.1 then fs else es)[k]? = some e)(hm:m.2=k)(q:Q e U) :
  CallOk X 35 ⟨n,false⟩ [.ref pb,.ref pk,zD m] Q Z U:=by
 obtain⟨b,i⟩:=m;cases hm;refine zi3 G (fM hd (by decide)) λL=>?_;cases b with
 | false=>
  refine jt hb (zf (atIdx_nat.trans he) (Ends.same q))
 | true=>
  refine jt hk (zf (atIdx_nat.trans he) (Ends.same q))
def za6(m:zd):Flat 1 (zD m):=.tup λx hx=>by
 rcases fG.mp hx with rfl|hx
 .exact .str (by cases m.1<;>decide)
 .rcases fG.mp hx with rfl|hx
  .exact .int _
  .cases hx
def znX{m m':zd}(h:zD m=zD m'):m=m':=by
 obtain⟨b,i⟩:=m;obtain⟨b',i'⟩:=m';cases b<;>cases b'<;>cases h<;>rfl
def zgi{m:zd}{ms:List zd}:zD m∈ms.map zD↔m∈ms:=⟨λh=>by refine zb (fQ.mp h) λx h1 h2=>?_;rw[<-znX h2];exact h1,λh=>pE h⟩
def inM{m:zd}{ms:List zd}{c:AV}{R:Bool->AHeap->Prop}(hc:c = .lst (ms.map zD)\/c = .tup (ms.map zD))(q:R (decide (m∈ms)) U):inG (zD m) c R U:=by
 refine zhi hc (za6 m) (λy hy=>?_) (by decide) (λh=>?_) λh=>?_
 .refine zb (fQ.mp hy) λx _ e4_2=>?_;subst e4_2;exact za6 x
 .rw[zgi] at h;rw[Hy h] at q;exact q
 .rw[zgi] at h;rw[Hx h] at q;exact q
noncomputable def zqW(r ms:List zd):List zd:=r.filter λy=>!decide (y∈ms)
def zjU(G:Gd X (hK P))(hd:n<590){r ms:List zd}(hl:r.length<=1000)(q:Q (if ∀y∈ms,y∈r then zA (zqW r ms) else .none) U) :
  CallOk X 147 ⟨n,false⟩ [zA r,.lst (ms.map zD)] Q Z U:=by
 refine zlA G (fM hd (by decide)) λL=>?_;refine zcA (β:=Unit) (g:=zD) (λxs _ l U'=>U'=U/\(∃x,l=[some (zA r),some (.lst (ms.map zD)),x])/\(∀y∈ms,y∈xs\/y∈r)/\∀y∈xs,y∈ms) (λb _=>b) ?_ (b:=()) ?_ (zt rfl ⟨_,rfl⟩ (λy hy=>.inl hy) (λy hy=>hy))
 .rintro x xs _ l U' K ⟨rfl,⟨v,rfl⟩,h1,h2⟩ hK;refine zc _ rfl ?_;refine inM (.inr rfl) ?_
  by_cases hx:x∈r
  .rw[Hy hx];refine⟨trivial,hK _ _ (zt rfl ⟨_,rfl⟩ (λy hy=>?_) (λy hy=>h2 y (fB _ hy)))⟩
   rcases h1 y hy with h|h
   .rcases fG.mp h with rfl|h
    .exact .inr hx
    .exact .inl h
   .exact .inr h
  .rw[Hx hx];rw[if_neg λh=>hx (h x (h2 x fA))] at q;exact Ends.same q
 .rintro l U' ⟨rfl,⟨v,rfl⟩,h1,_⟩;rw[if_pos λy hy=>(h1 y hy).resolve_left (by intro h;cases h)] at q;refine z9 (g:=zD) (λy=>!decide (y∈ms)) zD (λ_=>rfl) (λ_ _=>rfl) (λx _ R q=>?_) (λx _ _ R q=>q) trivial (zcq hl) ?_
  .exact inM (.inl rfl) q
  .exact Ends.same q
end
section
variable{P:Hj}{X:Cx}{n:Nat}{Q:zm}{Z:XP}{U:AHeap}
def zdp{U:AHeap}{p:Addr}{o o':AO}:(U.set p o).set p o'=U.set p o':=by
 funext b
 by_cases h:b=p
 .subst h;rw[AHeap.wA,AHeap.wA]
 .rw[AHeap.wB _ _ h,AHeap.wB _ _ h,AHeap.wB _ _ h]
def zP{U:AHeap}{p:Addr}{o:AO}(h:U p=none):∀a o',U a=some o'->U.set p o a=some o':=λa o' e=>by
 rw[AHeap.wB _ _ (by rintro rfl;rw[h] at e;cases e)];exact e
def Ends.vG{p:Addr}{xs:List AV}(h:U p=none)(q:Q (.lst xs) U):Ends Q (.ref p) (U.set p (.list xs)):=.one (zP h) (AHeap.wA ..) h q
noncomputable def qD(r:List zd)(m:Mt):Option (List zd):=match r with
 | []=>none
 | x::t=>if x∈zk m/\∀y∈zk m,y∈x::t then some ((x::t).filter λy=>!decide (y∈zk m)) else none
noncomputable def tk(ms:List Mt)(r:List zd):List (Mt×List zd):=ms.filterMap λm=>(qD r m).map λb=>(m,b)
noncomputable def zqa(x:Mt×List zd):AV:=.tup [zC x.1,zA x.2]
def zlR(m:Mt):Prop:=m.1.length<=4/\m.2.length<=4
noncomputable def tk1(r:List zd)(b:List (Mt×List zd))(m:Mt):List (Mt×List zd):=b++((qD r m).map λy=>(m,y)).toList
def zqc(r:List zd)(ms:List Mt)(b:List (Mt×List zd)):ms.foldl (tk1 r) b=b++tk ms r:=by
 induction ms generalizing b with
 | nil=>exact(gQ b).symm
 | cons m ms ih=>
  rw[gZ,ih];unfold tk1 tk;rw[List.filterMap_cons];cases qD r m with
  | none=>simp
  | some y=>simp
def zau(G:Gd X (hK P))(hd:n<570){x:zd}{t:List zd}{ms:List Mt}(hl:(x::t).length<=1000)(hm:∀m∈ms,zlR m)(hml:ms.length<=100000)(q:Q (.lst ((tk ms (x::t)).map zqa)) U) :
  CallOk X 154 ⟨n,false⟩ [zA (x::t),.lst (ms.map zC)] Q Z U:=by
 refine zhv G (fM hd (by decide)) λL=>?_;intro p hp;refine zF (g:=zC) (λxs b l U'=>U'=U.set p (.list (b.map zqa))/\(∃u v w,l=[some (zA (x::t)),some (.lst (ms.map zC)),some (.ref p),u,v,w])/\b.length+xs.length<=100000/\∀y∈xs,zlR y) (tk1 (x::t)) ?_ (b:=[]) ?_ (zt rfl (jK _ _ _ rfl) (by simpa using hml) hm)
 .intro m xs b l U' K S_ hR1;refine zy hR1 λe0_0 h0_1 h1 h2=>?_;subst e0_0;obtain⟨u,v,w,rfl⟩:=h0_1;intro hK;refine zc _ rfl ?_;have hmo:=h2 m fA;refine ku (G.push L) (zt3 hd) (by have:=hmo.1;exact zt5 this) (by have:=hmo.2;exact zt5 this) ?_;refine inM (.inl rfl) ?_;have hle:(tk1 (x::t) b m).length+xs.length<=100000:=by
   unfold tk1;cases qD (x::t) m<;>simp<;>(first|exact zxC h1|exact zxA h1)
  have hK:=λu v w=>hK _ _ (zt rfl (jK u v w rfl) hle (λy hy=>h2 y (fB _ hy)));have hlo:qD (x::t) m=if x∈zk m/\∀y∈zk m,y∈x::t then some (zqW (x::t) (zk m)) else none:=rfl
  refine zaH (λh=>?_) λh=>?_
  .have h:=Hz h;refine zjU (G.push L) (zt3 hd) hl ?_
   by_cases hy:∀y∈zk m,y∈x::t
   .rw[if_pos hy];rw[if_pos ⟨h,hy⟩] at hlo;refine zp (AHeap.wA ..) ?_;refine zp (AHeap.wA ..) ?_;refine zJ (by rw[fC];exact zxB h1) ?_;refine⟨trivial,?_⟩;rw[zdp];unfold tk1 at hK;rw[hlo,Option.map_some,Option.toList_some,fU] at hK;exact hK _ _ _
   .rw[if_neg hy];rw[if_neg λh=>hy h.2] at hlo;unfold tk1 at hK;rw[hlo,Option.map_none,Option.toList_none,gQ] at hK;exact⟨trivial,hK _ _ _⟩
  .have h:=of_decide_eq_false h;rw[if_neg λq=>h q.1] at hlo;unfold tk1 at hK;rw[hlo,Option.map_none,Option.toList_none,gQ] at hK;exact⟨trivial,hK _ _ _⟩
 .intro l U' hR2;refine zy hR2 λe1_0 h1_1 _ _=>?_;subst e1_0;obtain⟨u,v,w,rfl⟩:=h1_1;rw[zqc,fA4];exact Ends.vG hp q
end
section
variable{P:Hj}{X:Cx}{n:Nat}{Q:zm}{Z:XP}{U:AHeap}
def zgp{J:Type}{f:J->AV}{u:AV->J}(hu:∀x,u (f x)=x){ys:List AV}{xs:List J}(h:ys.Perm (xs.map f)):(ys.map u).Perm xs/\ys=(ys.map u).map f:=by
 have h1:(ys.map u).Perm ((xs.map f).map u):=h.map u;rw[gD] at h1;have h2:xs.map (u∘f)=xs:=by
  have:u∘f=id:=funext hu;rw[this,fBL]
 rw[h2] at h1;refine⟨h1,?_⟩;rw[gD];refine(fBL ys).symm.trans (pK λy hy=>?_);refine zb (fQ.mp (h.mem_iff.mp hy)) λx _ e0_2=>?_;subst e0_2;show f x=f (u (f x));rw[hu]
noncomputable def srt{J:Type}(Y:J->Nat)(xs:List J):List J:=xs.mergeSort λa b=>decide (Y a<=Y b)
def je{J:Type}(Y:J->Nat)(xs:List J):(srt Y xs).Perm xs:=List.mergeSort_perm xs _
def zgC{J:Type}(Y:J->Nat)(xs:List J):(srt Y xs).Pairwise λa b=>Y a<=Y b:=by
 have h:=List.pairwise_mergeSort (le:=λa b=>decide (Y a<=Y b)) (λa b c h1 h2=>Hy (fF (Hz h1) (Hz h2))) (λa b=>by
  rcases Nat.le_total (Y a) (Y b) with h|h
  .rw[Hy h];rfl
  .rw[Hy h,Bool.or_true]) xs
 exact h.imp λh=>Hz h
def zew{J:Type}{Y:J->Nat}{xs ys:List J}(hi:∀x∈xs,∀y∈xs,Y x=Y y->x=y)(h1:ys.Perm xs)(h2:ys.Pairwise λa b=>Y a<=Y b):ys=srt Y xs:=
 List.Perm.eq_of_pairwise (λa b ha hb h1' h2'=>hi a (h1.mem_iff.mp ha) b ((je Y xs).mem_iff.mp hb) (fBE h1' h2')) h2 (zgC Y xs) (h1.trans (je Y xs).symm)
def zet{J:Type}{f:J->AV}{r:Bool}(u:AV->J)(hu:∀x,u (f x)=x){xs:List J}(Y:J->Nat)(hi:∀x∈xs,∀y∈xs,Y x=Y y->x=y)(hk:zis (xs.map f))(hlt:∀x∈xs,∀y∈xs,zit U (f x) (f y) (decide (Y x<Y y)))
  (q:mkL r ((srt Y xs).map f) Q U):zfr r (xs.map f) Q U:=by
 unfold zfr;refine zv (λv=>Y (u v)) hk (λa ha b hb=>?_) (λys h1 h2=>?_)
 .refine zb (fQ.mp ha) λx hx e1_2=>?_;subst e1_2;refine zb (fQ.mp hb) λy hy e2_2=>?_;subst e2_2;simp only[hu];exact hlt x hx y hy
 .obtain⟨p1,p2⟩:=zgp hu h1;rw[p2,zew hi p1 (fAV.mpr h2)];exact q
noncomputable abbrev Ent:=Int×Int
noncomputable def zw(e:Ent):AV:=.tup [.int e.1,.int e.2]
noncomputable abbrev Tr:=Int×zd
noncomputable def zaC(t:Tr):AV:=.tup [.int t.1,.str t.2.1.toNat,.int t.2.2]
noncomputable def zrX(v:AV):Tr:=match v with
 | .tup [.int d,.str s,.int k]=>(d,(Nat.beq s 1,k))
 | _=>(0,(false,0))
def zqZ(t:Tr):zrX (zaC t)=t:=by
 obtain⟨d,b,k⟩:=t;cases b<;>rfl
noncomputable def zas(t:Tr):Nat:=(t.1.toNat*2+t.2.1.toNat)*1000000+t.2.2.toNat
structure TrOk(t:Tr):Prop where
 day:0<=t.1
 lo:0<=t.2.2
 hi:t.2.2<1000000
def zal{M x y k k':Nat}(h:k<M)(h':k'<M)(e:x*M+k=y*M+k'):x=y/\k=k':=by
 have e1:x=y:=by
  rcases Nat.lt_trichotomy x y with hl|hl|hl
  .exact absurd e (fAH (pC (fAZ h _) (fF (fBC x M▸pB M hl) (pH ..))))
  .exact hl
  .exact absurd e (Nat.ne_of_gt (pC (fAZ h' _) (fF (fBC y M▸pB M hl) (pH ..))))
 subst e1;exact⟨rfl,Nat.add_left_cancel e⟩
def zaU{M x y k k':Nat}(h:k<M)(h':k'<M):x*M+k<y*M+k'↔x<y\/x=y/\k<k':=by
 constructor
 .intro e
  rcases Nat.lt_trichotomy x y with hl|hl|hl
  .exact .inl hl
  .subst hl;exact .inr ⟨rfl,Nat.lt_of_add_lt_add_left e⟩
  .exact absurd e (Nat.not_lt_of_ge (fA0 (pC (fAZ h' _) (fF (fBC y M▸pB M hl) (pH ..)))))
 .rintro(hl|⟨rfl,hl⟩)
  .exact pC (fAZ h _) (fF (fBC x M▸pB M hl) (pH ..))
  .exact fAZ hl _
def qa{k:Int}(h:k<1000000):k.toNat<1000000:=y33 h
def kY{a b:Int}(ha:0<=a)(hb:0<=b)(e:a.toNat=b.toNat):a=b:=by rw[<-fAP ha,e,fAP hb]
def za1{a b:Int}(ha:0<=a)(hb:0<=b):a.toNat<b.toNat↔a<b:=by rw[Int.lt_toNat,fAP ha]
def zel{t u:Tr}(ht:TrOk t)(hu:TrOk u)(h:zas t=zas u):t=u:=by
 obtain⟨d,b,k⟩:=t;obtain⟨d',b',k'⟩:=u;obtain⟨h1,h2⟩:=zal (qa ht.hi) (qa hu.hi) h;obtain⟨h3,h4⟩:=zal (pI (fAY b)) (pI (fAY b')) h1;have e1:d=d':=kY ht.day hu.day h3;have e2:k=k':=kY ht.lo hu.lo h2;subst e1 e2;cases b<;>cases b'<;>first|rfl|cases h4
def zm4(a c:Int)(b:Str):(PyData.tuple [.int a,.str b,.int c]).depth<=100:=by simp only[PyData.depth,PyData.depthAll];decide
def zkG:∀c:Bool,PyData.eqv (.str (zx c.toNat)) (.str (zx (!c).toNat))=false:=by decide +kernel
def zh1:∀c:Bool,ltD (.str (zx c.toNat)) (.str (zx (!c).toNat))=some (!c):=by
 intro c;cases c<;>decide +kernel
def zfQ{p q:Prop}[Decidable p][Decidable q](h:p↔q):some (decide p)=some (decide q):=congrArg some (decide_eq_decide.mpr h)
def zqY{t u:Tr}(ht:TrOk t)(hu:TrOk u):zit U (zaC t) (zaC u) (decide (zas t<zas u)):=by
 obtain⟨d,b,k⟩:=t;obtain⟨d',b',k'⟩:=u;refine jl _ _ (.tup (.cons (.int _) (.cons (.str _) (.cons (.int _) .nil)))) (.tup (.cons (.int _) (.cons (.str _) (.cons (.int _) .nil)))) (zm4 ..) (zm4 ..) ?_;have hd:=za1 ht.day hu.day;have hk:=za1 ht.lo hu.lo;have key:zas (d,b,k)<zas (d',b',k')↔d<d'\/d=d'/\(b.toNat<b'.toNat\/b.toNat=b'.toNat/\k<k'):=by
  unfold zas;dsimp only at hd hk ⊢;rw[zaU (qa ht.hi) (qa hu.hi),zaU (pI (fAY b)) (pI (fAY b')),hd,hk];constructor
  .rintro((h|⟨h1,h2⟩)|⟨h1,h2⟩)
   .exact .inl h
   .exact .inr ⟨kY ht.day hu.day h1,.inl h2⟩
   .obtain⟨h3,h4⟩:=zal (pI (fAY b)) (pI (fAY b')) h1;exact .inr ⟨kY ht.day hu.day h3,.inr ⟨h4,h2⟩⟩
  .rintro(h|⟨rfl,h|⟨h1,h2⟩⟩)
   .exact .inl (.inl h)
   .exact .inl (.inr ⟨rfl,h⟩)
   .exact .inr ⟨by rw[h1],h2⟩
 rw[zcY,qL]
 by_cases e:d=d'
 .subst e;rw[if_pos (by simp only[PyData.eqv,BEq.rfl]),qL];have key:zas (d,b,k)<zas (d,b',k')↔(b.toNat<b'.toNat\/b.toNat=b'.toNat/\k<k'):=key.trans ⟨λh=>(h.resolve_left (fCM d)).2,λh=>.inr ⟨rfl,h⟩⟩;have same:∀c:Bool,(if PyData.eqv (.str (zx c.toNat)) (.str (zx c.toNat)) then zbA [.int k] [.int k'] else ltD (.str (zx c.toNat)) (.str (zx c.toNat)))=some (decide (k<k')):=λc=>by
   rw[if_pos (by simp only[PyData.eqv,BEq.rfl]),qL]
   by_cases ek:k=k'
   .subst ek;rw[if_pos (by simp only[PyData.eqv,BEq.rfl]),zgd,Hx (fCM k)]
   .rw[if_neg (by simpa only[PyData.eqv,beq_iff_eq] using ek),zb5]
  cases b<;>cases b'
  .exact(same false).trans (zfQ (key.trans ⟨λh=>(h.resolve_left (fAX 0)).2,λh=>.inr ⟨rfl,h⟩⟩).symm)
  .refine Eq.trans ?_ (congrArg some (Hy (key.mpr (.inl Nat.zero_lt_one))).symm);exact(if_neg (ne_true_of_eq_false (zkG false))).trans (zh1 false)
  .refine Eq.trans ?_ (congrArg some (Hx λh=>(key.mp h).elim (fB5 _) λh=>nomatch h.1).symm);exact(if_neg (ne_true_of_eq_false (zkG true))).trans (zh1 true)
  .exact(same true).trans (zfQ (key.trans ⟨λh=>(h.resolve_left (fAX 1)).2,λh=>.inr ⟨rfl,h⟩⟩).symm)
 .rw[if_neg (by simpa only[PyData.eqv,beq_iff_eq] using e),zb5];exact zfQ (key.trans ⟨λh=>h.resolve_right λh=>e h.1,.inl⟩).symm
noncomputable def ko(s:Bool)(es:List Ent):List Tr:=(List.range es.length).map λi=>((es.getD i (0,0)).1,(s,(i:Int)))
noncomputable def zbh(es fs:List Ent):List Tr:=ko false es++ko true fs
noncomputable def inO(es fs:List Ent):List Tr:=srt zas (zbh es fs)
structure EsOk(es:List Ent):Prop where
 day:∀e∈es,0<=e.1/\e.1<=9999
 cents:∀e∈es,e.2.natAbs<=1000000000
 len:es.length<=1000
def getD_mem{J:Type}{l:List J}{k:Nat}{d:J}(h:k<l.length):l.getD k d∈l:=by
 rw[fS,fW h];exact fBX h
def js{J:Type}{l:List J}{k:Nat}{d:J}(h:k<l.length):l[k]? = some (l.getD k d):=by
 rw[fS,fW h];rfl
def jx{es fs:List Ent}(he:EsOk es)(hf:EsOk fs){t:Tr}(h:t∈zbh es fs):TrOk t/\∃k:Nat,t.2.2=k/\k<(if t.2.1 then fs else es).length/\((if t.2.1 then fs else es).getD k (0,0)).1=t.1:=by
 rcases fR.mp h with h|h<;>obtain⟨i,hi,rfl⟩:=fQ.mp h<;>have hi:=fAI.mp hi
 .have:=he.len;exact zf3 ⟨(he.day _ (getD_mem hi)).1,fAS i,by show (i:Int)<1000000;exact zuq hi this⟩ i rfl hi rfl
 .have:=hf.len;exact zf3 ⟨(hf.day _ (getD_mem hi)).1,fAS i,by show (i:Int)<1000000;exact zuq hi this⟩ i rfl hi rfl
def zmI(es fs:List Ent):(zbh es fs).length=es.length+fs.length:=by unfold zbh ko;simp
def inO_mem{es fs:List Ent}{t:Tr}:t∈inO es fs↔t∈zbh es fs:=(je ..).mem_iff
def zae(es fs:List Ent):(inO es fs).length=es.length+fs.length:=by rw[<-zmI];exact(je ..).length_eq
def zhl(G:Gd X (hK P))(hd:n<590){pb pk:Addr}{es fs:List Ent}(hb:U pb=some (.list (es.map zw)))(hk:U pk=some (.list (fs.map zw)))(he:EsOk es)(hf:EsOk fs)(q:Q (.lst ((inO es fs).map λt=>zD t.2)) U) :
  CallOk X 40 ⟨n,false⟩ [.ref pb,.ref pk] Q Z U:=by
 refine zi4 G (fM hd (by decide)) λL=>?_;have l1:=he.len;have l2:=hf.len;refine zf (zz hb) ?_;rw[fC];refine zee (zcq l1) ?_;refine zX (λi=>zaC ((es.getD i (0,0)).1,(false,(i:Int)))) (λ_=>rfl) (λ_ _=>rfl) (λi hi R q=>?_) trivial (by rw[gU];exact zcq l1) ?_
 .refine jt hb (zf (qb (js (d:=(0,0)) (fAI.mp hi))) ?_);exact q
 refine zf (zz hk) ?_;rw[fC];refine zee (zcq l2) ?_;refine zX (λi=>zaC ((fs.getD i (0,0)).1,(true,(i:Int)))) (λ_=>rfl) (λ_ _=>rfl) (λi hi R q=>?_) trivial (by rw[gU];exact zcq l2) ?_
 .refine jt hk (zf (qb (js (d:=(0,0)) (fAI.mp hi))) ?_);exact q
 refine zJ (by rw[fC,fC,gU,gU];exact zqr l1 l2) ?_;have e:((List.range es.length).map λi=>zaC ((es.getD i (0,0)).1,(false,(i:Int))))++((List.range fs.length).map λi=>zaC ((fs.getD i (0,0)).1,(true,(i:Int))))=(zbh es fs).map zaC:=by
  unfold zbh ko;rw[fU,gD,gD];rfl
 rw[e];refine zet zrX zqZ zas (λx hx y hy=>zel (jx he hf hx).1 (jx he hf hy).1) (.inl λx hx=>?_) (λx hx y hy=>zqY (jx he hf hx).1 (jx he hf hy).1) ?_
 .refine zb (fQ.mp hx) λt _ e13_2=>?_;subst e13_2;exact jD _ _ rfl
 refine zX (λt=>zD t.2) (λ_=>rfl) (λ_ _=>rfl) (λt ht R q=>q) trivial (by have:=zae es fs;unfold inO at this;exact zzF l1 l2 this) ?_;exact Ends.same q
end
section
variable{P:Hj}{X:Cx}{n:Nat}{Q:zm}{Z:XP}{U:AHeap}
inductive Hold(U:AHeap):List Addr->List (List AV)->Prop
 | nil:Hold U [] []
 | cons {r:Addr} {rs:List Addr} {g:List AV} {gs:List (List AV)}:U r=some (.list g)->Hold U rs gs->Hold U (r::rs) (g::gs)
def Hold.set{p:Addr}{o:AO}{rs gs}(h:Hold U rs gs)(hp:p∉rs):Hold (U.set p o) rs gs:=by
 induction h with
 | nil=>exact .nil
 | cons h r ih=>exact .cons (by rw[AHeap.wB _ _ (λe=>hp (by rw[e];exact fA))];exact h) (ih λq=>hp (fB _ q))
def Hold.snoc{p:Addr}{g:List AV}(hp:U p=some (.list g)){rs gs}(h:Hold U rs gs):Hold U (rs++[p]) (gs++[g]):=by
 induction h with
 | nil=>exact .cons hp .nil
 | cons h r ih=>exact .cons h ih
def Hold.unsnoc{gs:List (List AV)}{g:List AV}{rs:List Addr}(h:Hold U rs (gs++[g])):∃rs' r,rs=rs'++[r]/\Hold U rs' gs/\U r=some (.list g):=by
 induction gs generalizing rs with
 | nil=>cases h with|cons h r=>cases r;exact⟨[],_,rfl,.nil,h⟩
 | cons g' gs ih=>
  cases h with
  | cons h r=>
   refine zn (ih r) λrs' q e h1 h2=>?_;exact zL (_::rs') q (by rw[e];rfl) (.cons h h1) h2
def Hold.at_{rs:List Addr}{gs:List (List AV)}(h:Hold U rs gs){a:Addr}{g:List AV}(e:(rs.zip gs).lookup a=some g):a∈rs/\U a=some (.list g):=by
 induction h with
 | nil=>cases e
 | @cons r rs g' gs h hr ih=>
  rw[fCB,gY] at e;split at e
  .rename_i e';obtain rfl:=Hw e;rw[H0 e'];exact⟨fA,h⟩
  .exact⟨fB _ (ih e).1,(ih e).2⟩
def znd{φ:Addr->Option (List AV)}(l:List AV):FzL φ l l:=by
 induction l with
 | nil=>exact .nil
 | cons x l ih=>exact .cons (.same x) ih
def Ends.lists{U':AHeap}{p:Addr}{rs:List Addr}{gs:List (List AV)}(hs:∀a o,U a=some o->U' a=some o)(hp:U' p=some (.list (rs.map .ref)))(h:Hold U' rs gs)(nd:(p::rs).Nodup)(hn:∀a∈p::rs,U a=none)(q:Q (.lst (gs.map .lst)) U):Ends Q (.ref p) U':=by
 have nd':=fX.mp nd;unfold Ends;refine q8 (λa=>if a=p then some (gs.map .lst) else (rs.zip gs).lookup a) U _ ⟨λa ys e=>?_,hs⟩ (.lst (if_pos rfl)) q;split at e
 .rename_i e';subst e';cases e
  refine kD (hn _ fA) _ hp ?_;have gen:∀(φ:Addr->Option (List AV)) (rs:List Addr) (gs:List (List AV)),rs.length=gs.length->(∀r g,(r,g)∈rs.zip gs->φ r=some g)->FzL φ (rs.map .ref) (gs.map .lst):=λφ rs=>by
   induction rs with
   | nil=>intro gs hl _;cases gs with
    | nil=>exact .nil
    | cons _ _=>cases hl
   | cons r rs ih=>intro gs hl hφ;cases gs with
    | nil=>cases hl
    | cons g gs=>exact .cons (.lst (hφ r g fA)) (ih gs (Nat.succ.inj hl) λr g h=>hφ r g (fB _ h))
  have hl:rs.length=gs.length:=by clear hp nd nd' hn q;induction h with
   | nil=>rfl
   | cons _ _ ih=>rw[fP,fP,ih]
  refine gen _ rs gs hl λr g hrg=>?_;have hr:r∈rs:=(fBF hrg).1;rw[if_neg (λe:r=a=>nd'.1 (e▸hr))];clear hp hn nd h q hr;have nd:=nd'.2;clear nd'
  induction rs generalizing gs with
  | nil=>cases hrg
  | cons r' rs ih=>
   cases gs with
   | nil=>cases hl
   | cons g' gs=>
    have nd:=fX.mp nd;rw[fCB,gY]
    rcases fG.mp hrg with e|hrg
    .cases e;rw[BEq.rfl]
    .have hne:(r==r')=false:=beq_eq_false_iff_ne.mpr λe=>nd.1 (e▸(fBF hrg).1);rw[hne];exact ih (Nat.succ.inj hl) hrg nd.2
 .obtain⟨h1,h2⟩:=h.at_ e;exact kD (hn _ (fB _ h1)) _ h2 (znd _)
def zj4(xs:List AV)(x:AV):jC (xs++[x]) (-1)=some x:=by
 unfold jC;rw[if_neg (by decide),fE,fV,if_pos zxg];have:(-1+((xs.length+1:Nat):Int)).toNat=xs.length:=zxj;rw[this,pF (fN _),fBO];rfl
noncomputable def zc7(span:Int)(l:Option Int)(d:Int):Bool:=match l with
 | none=>true
 | some l=>decide (d>l+span)
noncomputable def jw(gs:List (List zd))(m:zd):List (List zd):=match gs.getLast? with
 | none=>gs
 | some g=>gs.dropLast++[g++[m]]
def jc(gs:List (List zd))(g:List zd)(m:zd):jw (gs++[g]) m=gs++[g++[m]]:=by unfold jw;simp
noncomputable def jQ(span:Int)(b:List (List zd)×Option Int)(t:Tr):List (List zd)×Option Int:=(jw (if zc7 span b.2 t.1 then b.1++[[]] else b.1) t.2,some t.1)
noncomputable def grps(es fs:List Ent)(span:Int):List (List zd):=((inO es fs).foldl (jQ span) ([],none)).1
noncomputable def znB(l:Option Int):AV:=match l with
 | none=>.none
 | some i=>.int i
noncomputable def gAV(g:List zd):AV:=.lst (g.map zD)
structure GrpAt(U U':AHeap)(p:Addr)(gs:List (List zd)):Prop where
 ex:∃rs:List Addr,U' p=some (.list (rs.map .ref))/\Hold U' rs (gs.map λg=>g.map zD)/\(p::rs).Nodup/\∀a∈p::rs,U a=none
 sub:∀a o,U a=some o->U' a=some o
def zhh{rs:List Addr}{gs:List (List AV)}(h:Hold U rs gs):rs.length=gs.length:=by
 induction h with
 | nil=>rfl
 | cons _ _ ih=>rw[fP,fP,ih]
def Hold.some{rs:List Addr}{gs:List (List AV)}(h:Hold U rs gs){r:Addr}(hr:r∈rs):U r≠none:=by
 induction h with
 | nil=>cases hr
 | cons h' _ ih=>
  rcases fG.mp hr with rfl|hr
  .rw[h'];exact λe=>nomatch e
  .exact ih hr
def GrpAt.vI{U':AHeap}{p r:Addr}{rs:List Addr}{gs:List (List zd)}(h1:U' p=some (.list (rs.map .ref)))(h2:Hold U' rs (gs.map λg=>g.map zD))(h3:(p::rs).Nodup)(h4:∀a∈p::rs,U a=none)(hs:∀a o,U a=some o->U' a=some o)(hr:U' r=none) :
  GrpAt U ((U'.set r (.list [])).set p (.list (rs.map .ref++[.ref r]))) p (gs++[[]]):=by
 have hrp:r≠p:=by rintro rfl;rw[h1] at hr;exact absurd hr (fH _)
 have hrs:r∉rs:=λh=>h2.some h hr;have hrσ:U r=none:=by
  cases e:U r with
  | none=>rfl
  | some o=>rw[hs r o e] at hr;exact absurd hr (fH _)
 have nd:=fX.mp h3;refine⟨(qJ (rs++[r]) ?_ ?_ ?_ ?_),λa o e=>?_⟩
 .rw[AHeap.wA,fU];rfl
 .rw[fU];exact Hold.snoc (by rw[AHeap.wB _ _ hrp];exact AHeap.wA ..) ((h2.set hrs).set nd.1)
 .refine fX.mpr ⟨λh=>?_,pM.mpr (zq nd.2 (fX.mpr ⟨gM,.nil⟩) (λa ha b hb e=>?_))⟩
  .rcases fR.mp h with h|h
   .exact nd.1 h
   .exact hrp (fJ.mp h).symm
  .rw[fJ.mp hb] at e;exact hrs (e▸ha)
 .intro a ha
  rcases fG.mp ha with rfl|ha
  .exact h4 _ fA
  .rcases fR.mp ha with ha|ha
   .exact h4 _ (fB _ ha)
   .rw[fJ.mp ha];exact hrσ
 .rw[AHeap.wB _ _ (by rintro rfl;rw[h4 _ fA] at e;cases e),AHeap.wB _ _ (by rintro rfl;rw[hrσ] at e;cases e)];exact hs a o e
def GrpAt.last{U':AHeap}{p:Addr}{gs:List (List zd)}(h:GrpAt U U' p gs)(hne:gs≠[]):∃xs r g,U' p=some (.list (xs++[.ref r]))/\U' r=some (.list (g.map zD))/\g∈gs/\∀m,GrpAt U (U'.set r (.list (g.map zD++[zD m]))) p (jw gs m):=by
 obtain⟨⟨rs,h1,h2,h3,h4⟩,hs⟩:=h;obtain⟨g0,g,rfl⟩:∃g0 g,gs=g0++[g]:=(jD _ _ ((fAO hne).symm))
 rw[fU] at h2;refine zn h2.unsnoc λrs' r e2_2 hr1 hr2=>?_;subst e2_2;have nd:=fX.mp h3;have hpr:r≠p:=λe=>nd.1 (by rw[e];simp);have hrr:r∉rs':=λh=>(pM.mp nd.2).2.2 r h r fA rfl;rw[fU] at h1;refine jI (rs'.map .ref) r g h1 hr2 (gA _ fA) (λm=>?_);rw[jc];refine⟨(qJ (rs'++[r]) ?_ ?_ h3 h4),λa o e=>?_⟩
 .rw[AHeap.wB _ _ (Ne.symm hpr),fU];exact h1
 .have e:(g0++[g++[m]]).map (λg=>g.map zD)=g0.map (λg=>g.map zD)++[(g++[m]).map zD]:=fU ..;rw[e];exact(hr1.set hrr).snoc (by rw[AHeap.wA,fU];rfl)
 .rw[AHeap.wB _ _ (by rintro rfl;rw[h4 a (by simp)] at e;cases e)];exact hs a o e
def zp1{J:Type}{l:List J}(h:l≠[]):∃a b,l=a++[b]:=jD _ _ (fAO h).symm
def zmD{gs:List (List zd)}(h:gs≠[]){m:zd}{k:Nat}(h1:gs.length<=k)(h2:∀g∈gs,g.length<k):jw gs m≠[]/\(jw gs m).length<=k/\∀g∈jw gs m,g.length<=k:=by
 refine z7 (zp1 h) λg0 g e=>?_;subst e;rw[jc];refine⟨fBI _ (λe=>nomatch e),by rw[fE] at h1 ⊢;exact h1,λz hz=>(fR.mp hz).elim (λh=>fA0 (h2 z (gP _ h))) λh=>?_⟩;rw[fJ.mp h,fE];exact h2 g (gA _ fA)
def zn6{gs:List (List zd)}{k:Nat}(h1:gs.length<=k)(h2:∀g∈gs,g.length<=k):gs++[[]]≠[]/\(gs++[[]]).length<=k+1/\∀g∈gs++[[]],g.length<k+1:=
 ⟨fBI _ (λe=>nomatch e),by rw[fE];exact pG h1,λz hz=>(fR.mp hz).elim (λh=>pI (h2 z h)) λh=>by rw[fJ.mp h];exact fCW k⟩
noncomputable def gsL(pb pk:Addr)(span:Int)(p:Addr)(a:AV)(u v:Option AV):Loc:=[some (.ref pb),some (.ref pk),some (.int span),some (.ref p),some a,u,v]
structure GsI(U:AHeap)(es fs:List Ent)(span:Int)(pb pk p:Addr)(xs:List Tr)(b:List (List zd)×Option Int)(l:Loc)(U':AHeap):Prop where
 gr:GrpAt U U' p b.1
 ne:b.2=none\/b.1≠[]
 hl:∃u v,l=gsL pb pk span p (znB b.2) u v
 few:∃j,j+xs.length<=100000/\b.1.length<=j/\∀g∈b.1,g.length<=j
 hx:∀t∈xs,t∈zbh es fs
section
variable{es fs:List Ent}{span:Int}{pb pk p:Addr}{t:Tr}{xs:List Tr}{I:AHeap->Prop}{K:Loc->AHeap->Prop}{S:zU}
def zkg{d:Dp}{gs:List (List zd)}{a:AV}{j:Nat}{U':AHeap}(hI:∀U,I U)(h:GrpAt U U' p gs)(hne:gs≠[])(hj:j+xs.length<=100000)(h1:gs.length<=j)(h2:∀g∈gs,g.length<j)(hx:∀t∈xs,t∈zbh es fs)(hK:∀l' U',GsI U es fs span pb pk p xs (jw gs t.2,some t.1) l' U'->K l' U') :
  (Gc (Gv (Gw zW (Gf (Ga 3) (G3 (Gb (.int 1)))) [(Ga 5)])) (Gc (Gi 4 (Ga 6)) Ge)) d (gsL pb pk span p a (some (zD t.2)) (some (.int t.1))) (Gz I K S) G0 U':=by
 refine zcy (h.last hne) λys r g k1 k2 k3 k4=>?_;have hf:=zmD hne h1 h2 (m:=t.2);have hg:=h2 g k3;refine jt k1 (zf (zj4 _ _) (zp k2 (zp k2 (zJ (by rw[fC];exact fF hg (fF (pH _ _) (fF hj (by decide)))) ?_))));exact⟨hI _,hK _ _ ⟨k4 t.2,.inr hf.1,jD _ _ rfl,zv j hj hf.2.1 hf.2.2,hx⟩⟩
def zpj{d:Nat}(G:Gd X (hK P))(hd:d<581)(hb:U pb=some (.list (es.map zw)))(hk:U pk=some (.list (fs.map zw)))(he:EsOk es)(hf:EsOk fs){b:List (List zd)×Option Int}{l:Loc}{U':AHeap}(hI:∀U,I U)(h:GsI U es fs span pb pk p (t::xs) b l U')(hK:∀l' U',GsI U es fs span pb pk p xs (jQ span b t) l' U'->K l' U') :
  ∃l',j5 (.one 5) (zD t.2) l=some l'/\zcZ X ⟨d,false⟩ l' (Gz I K S) G0 U':=by
 refine z7 h.hl λu v el=>zl h.few λj hj h1 h2=>?_;subst el;have hx:=fO.mp h.hx;have hs:=h.gr.sub;rw[fP] at hj;refine zo8 (jx he hf hx.1) λ_ k hk1 hk2 hk3=>?_;refine zc _ rfl ?_;refine zcR G (fM hd (by decide)) (hs _ _ hb) (hs _ _ hk) (m:=t.2) (k:=k) (e:=.tup [.int t.1,.int ((if t.2.1 then fs else es).getD k (0,0)).2]) ?_ hk1 ?_
 .rw[<-hk3];cases hbb:t.2.1<;>rw[hbb] at hk2<;>simp only[gH,if_false,if_true] at hk2 ⊢<;>rw[pT,js (d:=(0,0)) hk2]<;>rfl
 have hj1:j+1+xs.length<=100000:=by rw[fAR,Nat.add_comm 1];exact hj
 have hn:=zn6 h1 h2;have opn:zc7 span b.2 t.1=true->zbE U' p λ_=>∀r,U' r=none->zbE (U'.set r (.list [])) p λys=>zeO (ys.length+1) ((Gc (Gv (Gw zW (Gf (Ga 3) (G3 (Gb (.int 1)))) [(Ga 5)])) (Gc (Gi 4 (Ga 6)) Ge)) ⟨d,false⟩ (gsL pb pk span p (znB b.2) (some (zD t.2)) (some (.int t.1))) (Gz I K S) G0 ((U'.set r (.list [])).set p (.list (ys++[.ref r])))):=λho=>by
  refine zE h.gr.ex λrs g1 g2 g3 g4=>?_;refine zp g1 λr hr=>?_;have hrp:p≠r:=λe=>by rw[<-e,g1] at hr;exact absurd hr (fH _)
  refine zp ((AHeap.wB _ _ hrp).trans g1) (zJ (by rw[fC,zhh g2,fC];exact fF (pG h1) (fF (pH _ _) (fF hj1 (by decide)))) ?_);refine zkg hI (GrpAt.vI g1 g2 g3 g4 hs hr) hn.1 hj1 hn.2.1 hn.2.2 hx.2 ?_;unfold jQ at hK;rw[ho] at hK;exact hK
 cases hla:b.2 with
 | none=>
  rw[hla] at opn;exact opn rfl
 | some la=>
  rw[hla] at opn;refine zaH (λho=>opn ho) λho=>?_;refine zkg hI h.gr (h.ne.resolve_left λe=>by rw[hla] at e;cases e) hj1 (fAB h1) (λg hg=>pI (h2 g hg)) hx.2 ?_;have ho:zc7 span b.2 t.1=false:=by rw[hla];exact ho
  unfold jQ at hK;rw[ho] at hK;exact hK
end
def zcT(G:Gd X (hK P))(hd:n<580){pb pk:Addr}{es fs:List Ent}{span:Int}(hb:U pb=some (.list (es.map zw)))(hk:U pk=some (.list (fs.map zw)))(he:EsOk es)(hf:EsOk fs)(q:∀U' p,GrpAt U U' p (grps es fs span)->Ends Q (.ref p) U') :
  CallOk X 47 ⟨n,false⟩ [.ref pb,.ref pk,.int span] Q Z U:=by
 refine zny G (fM hd (by decide)) λL=>?_;intro p hp;refine zhl (G.push L) (zgG hd) (zP hp _ _ hb) (zP hp _ _ hk) he hf ?_;refine zF (g:=λt:Tr=>zD t.2) (GsI U es fs span pb pk p) (jQ span) (λt xs b l U' K S_ h hK=>zpj (G.push L) (gJ hd) hb hk he hf (λ_=>trivial) h hK) (b:=([],none)) (λl U' h=>?_)
  ⟨⟨qJ [] (AHeap.wA ..) .nil (fX.mpr ⟨gM,.nil⟩) (λa ha=>by rw[fJ.mp ha];exact hp),zP hp⟩,.inl rfl,jD _ _ rfl,zv 0 (by have:=zae es fs;have:=he.len;have:=hf.len;rw[fBB];exact zzm (by assumption) (by assumption) this) (fN 0) (λg hg=>nomatch hg),λt ht=>inO_mem.mp ht⟩
 refine z7 h.hl λu v el=>?_;subst el;exact q U' p h.gr
def zlk(G:Gd X (hK P))(hd:n<580){pb pk:Addr}{es fs:List Ent}{span:Int}(hb:U pb=some (.list (es.map zw)))(hk:U pk=some (.list (fs.map zw)))(he:EsOk es)(hf:EsOk fs)(q:Q (.lst ((grps es fs span).map gAV)) U) :
  CallOk X 47 ⟨n,false⟩ [.ref pb,.ref pk,.int span] Q Z U:=by
 refine zcT G hd hb hk he hf λU' p hG=>?_;obtain⟨⟨rs,h1,h2,h3,h4⟩,hs⟩:=hG;refine Ends.lists hs h1 h2 h3 h4 ?_;rw[gD];exact q
end
section
variable{P:Hj}{X:Cx}{n:Nat}{Q:zm}{Z:XP}{U:AHeap}
noncomputable def zaB(r:List Int):AV:=.tup (r.map .int)
def zfn(r:List Int):Flat 1 (zaB r):=.tup λx hx=>by refine zb (fQ.mp hx) λi _ e0_2=>?_;subst e0_2;exact .int i
def zkb{xs:List AV}{k:Nat}{R:Bool->AHeap->Prop}(hf:∀x∈xs,Flat k x)(hk:k<100)(q:R xs.isEmpty U):eqG (.tup xs) (.tup []) R U:=by
 refine zaK (k:=k+1) (j:=1) (.tup hf) (.tup λx hx=>nomatch hx) hk (λh=>?_) λh=>?_
 .cases h;exact q
 .cases xs with
  | nil=>exact absurd rfl h
  | cons _ _=>exact q
noncomputable def zaj(r:List Int)(p:Int):Bool:=match r.getLast? with
 | none=>true
 | some q=>decide (p>q)
noncomputable def zbu(ps:List Int)(r:List Int):List (List Int):=(ps.filter (zaj r)).map λp=>r++[p]
noncomputable def qA(ps:List Int)(k:Nat):List (List Int):=match k with
 | 0=>[[]]
 | k+1=>(qA ps k).flatMap (zbu ps)
def zdJ(ps r:List Int):(zbu ps r).length<=ps.length:=by unfold zbu;rw[fC];exact pU _ _
def zhc{J:Type}{f:J->List (List Int)}{c:Nat}(h:∀a,(f a).length<=c)(l:List J):(l.flatMap f).length<=l.length*c:=by
 induction l with
 | nil=>exact fT _
 | cons a l ih=>rw[fAD,fE,fP,fBC];have:=h a;exact zAR ih this
def zlg{ps:List Int}(rs:List (List Int))(acc:List (List Int)):rs.foldl (λb r=>b++zbu ps r) acc=acc++rs.flatMap (zbu ps):=by
 induction rs generalizing acc with
 | nil=>exact(gQ _).symm
 | cons r rs ih=>rw[gZ,ih,fAD,gI]
def zlh{ps:List Int}(k:Nat):(List.range k).foldl (λb _=>b.flatMap (zbu ps)) [[]]=qA ps k:=by
 induction k with
 | zero=>rfl
 | succ k ih=>rw[fC0,List.foldl_append,ih];rfl
def zem(G:Gd X (hK P))(hd:n<590){ps:List Int}{m:Nat}(hl:ps.length<=8)(hm:m<=3)(q:Q (.lst ((qA ps m).map zaB)) U):CallOk X 130 ⟨n,false⟩ [.lst (ps.map .int),.int m] Q Z U:=by
 refine zlz G (fM hd (by decide)) λL=>?_;refine zee (zr5 hm) ?_;refine zF (g:=λi:Nat=>AV.int i) (λxs b l U'=>U=U'/\(∃u v w,l=[some (.lst (ps.map .int)),some (.int m),some (.lst (b.map zaB)),u,v,w])/\b.length*8 ^ xs.length<=512/\∀r∈b,r.length+xs.length<=3) (λb _=>b.flatMap (zbu ps)) ?_ (b:=[[]]) ?_ (zt rfl (jK _ _ _ rfl) ?_ (λr hr=>by rw[fJ.mp hr,gU,pQ];exact zw3 hm))
 .intro i xs b l U' K S_ hR1;refine zy hR1 λe0_0 h0_1 hb hr3=>?_;subst e0_0;obtain⟨u,v,w,rfl⟩:=h0_1;intro hK;rw[fP,Nat.pow_succ] at hb;rw[fP] at hr3;have hx:1<=8 ^ xs.length:=Nat.pow_pos (by decide);have hb1:8*b.length<=512:=Nat.mul_comm b.length 8▸fF (Nat.mul_le_mul_left _ (by lia)) hb;have hb2:(b.flatMap (zbu ps)).length*8 ^ xs.length<=512:=by
   refine fF (pB _ (zhc (c:=8) (λa=>fF (zdJ ps a) hl) b)) ?_;rw[Nat.mul_assoc,Nat.mul_comm 8];exact hb
  refine zc _ rfl ?_;refine zF (g:=zaB) (λys acc l U'=>U=U'/\(∃w,l=[some (.lst (ps.map .int)),some (.int m),some (.lst (b.map zaB)),some (.int i),some (.lst (acc.map zaB)),w])/\acc.length+8*ys.length<=512/\∀r∈ys,r.length<=3) (λacc r=>acc++zbu ps r) ?_ (b:=[]) ?_ (zt rfl ⟨_,rfl⟩ (by rw[pQ];exact zDk hb1) (λr hr=>by have:=hr3 r hr;exact zxE this))
  .intro r ys acc l U' K' S_ hR2;refine zy hR2 λe1_0 h1_1 ha hy3=>?_;subst e1_0;obtain⟨w,rfl⟩:=h1_1;intro hK';rw[fP] at ha;have hel:=zdJ ps r;refine zc _ rfl ?_;refine z9 (g:=AV.int) (zaj r) (λp=>zaB (r++[p])) (λ_=>rfl) (λ_ _=>rfl) (λp hp R q=>?_) (λp hp _ R q=>?_) trivial (zr6 hl) ?_
   .refine zkb (k:=0) (λx hx=>by refine zb (fQ.mp hx) λi _ e1_2=>?_;subst e1_2;exact .int i) (by decide) ?_;unfold zaj at q
    rcases fBS r with rfl|⟨r',x,rfl⟩
    .exact q
    .rw[fBT] at q ⊢;rw[List.getLast?_append,List.getLast?_singleton] at q;have e:(List.map AV.int (r'++[x])).isEmpty=false:=by rw[fU];cases r'.map AV.int<;>rfl
     rw[e]
     conv=>whnf
     rw[fU];exact zf (zj4 _ _) q
   .have:=hy3 r fA;refine zJ (by rw[fC,fV];exact zw4 this) ?_;unfold zaB at q;rw[fU] at q;exact q
   .refine zJ (by rw[fC,fC];unfold zbu at hel;rw[fC] at hel;exact zDu hl ha hel) ?_;have e:acc.map zaB++(ps.filter (zaj r)).map (λp=>zaB (r++[p]))=(acc++zbu ps r).map zaB:=by unfold zbu;rw[fU,gD];rfl
    rw[e];exact⟨trivial,hK' _ _ (zt rfl ⟨_,rfl⟩ (by rw[fE];exact zDw hl ha hel) (λr hr=>hy3 r (fB _ hr)))⟩
  .intro l U' hR3;refine zy hR3 λe2_0 h2_1 _ _=>?_;subst e2_0;obtain⟨w,rfl⟩:=h2_1;rw[zlg,fA4];refine⟨trivial,hK _ _ (zt rfl (jK _ _ _ rfl) hb2 (λr hr=>?_))⟩;refine zb (gX.mp hr) λr0 h0 h1=>?_;refine zb (fQ.mp h1) λp _ e3_2=>?_;subst e3_2;have:=hr3 r0 h0;rw[fE,fV];exact zxD this
 .intro l U' hR4;refine zy hR4 λe3_0 h3_1 _ _=>?_;subst e3_0;obtain⟨u,v,w,rfl⟩:=h3_1;rw[zlh];exact Ends.same q
 .rw[gU,fV,Nat.one_mul];exact fF (Nat.pow_le_pow_right (by decide) hm) (by decide)
end
section
variable{P:Hj}{X:Cx}{n:Nat}{Q:zm}{Z:XP}{U:AHeap}
def zbN{c:Bool}{A B:Prop}(h:c=true)(q:A):cB c A B:=by rw[h];exact q
def zbM{c:Bool}{A B:Prop}(h:c=false)(q:B):cB c A B:=by rw[h];exact q
def Rise(ns:List Int)(n:Int):Prop:=ns.Pairwise (· < ·)/\∀p∈ns,0<=p/\p<n
def Rise.lt{ns:List Int}{n:Int}(h:Rise ns n){i:Nat}(hi:i+1<ns.length):ns.getD i 0<ns.getD (i+1) 0:=by
 have:=fBD.mp h.1 i (i+1) (zgI hi) hi (fCR i);rw[fS,fS,fW hi,fW (zgI hi:i<ns.length)];exact this
def zb2(G:Gd X (hK P))(hd:n<590){ns:List Int}{m:Int}(hl:ns.length<=100)(hr:Rise ns m)(q:Q (.bool true) U):CallOk X 115 ⟨n,false⟩ [zaB ns,.int m] Q Z U:=by
 refine zht G (fM hd (by decide)) λL=>?_
 conv=>whnf
 rw[fC];refine zee (zwX hl) ?_;refine zcA (β:=Unit) (g:=λi:Nat=>AV.int i) (λxs _ l U'=>U=U'/\(∃u,l=[some (zaB ns),some (.int m),u])/\∀i∈xs,i<ns.length) (λb _=>b) ?_ (b:=()) ?_ (zq rfl ⟨_,rfl⟩ (λi hi=>fAI.mp hi))
 .rintro i xs _ l U' K ⟨rfl,⟨u,rfl⟩,hx⟩ hK;have hi:=hx i fA;have hp:=hr.2 _ (getD_mem (d:=0) hi);have hK:=hK _ _ (zq rfl ⟨some (.int i),rfl⟩ (λj hj=>hx j (fB _ hj)));refine zc _ rfl ?_;refine zf (qb (js (d:=0) hi)) ?_;refine zbN (Hy hp.1) ?_
  conv=>whnf
  rw[Hy hp.2];cases i with
  | zero=>exact⟨trivial,hK⟩
  | succ i=>
   refine zbN (Hy zxd) ?_;refine zf (qb (js (d:=0) hi)) ?_
   conv=>whnf
   have e:(((i+1:Nat):Int)-1)=(i:Int):=zr8;rw[e];refine zf (qb (js (d:=0) (zgI hi))) ?_
   conv=>whnf
   have:=hr.lt hi;refine zbM (Hx (y58 this)) ?_;exact⟨trivial,hK⟩
 .rintro l U' ⟨rfl,⟨u,rfl⟩,_⟩;exact Ends.same q
noncomputable def qF(es:List Ent)(p:Int):Int:=(es.getD p.toNat (0,0)).1
noncomputable def zN(es:List Ent)(p:Int):Int:=(es.getD p.toNat (0,0)).2
noncomputable def zgB(l:List Int)(span:Int):Bool:=l.all λa=>l.all λb=>decide (a-b<=span)
noncomputable def zcv(es fs:List Ent)(m:Mt):List Int:=m.1.map (qF es)++m.2.map (qF fs)
def zmt{l:List Int}{M m span:Int}(h1:M∈l)(h2:∀a∈l,a<=M)(h3:m∈l)(h4:∀a∈l,m<=a):decide (M-m<=span)=zgB l span:=by
 unfold zgB;rw[Bool.eq_iff_iff,decide_eq_true_iff,pX];refine⟨λh a ha=>pX.mpr λb hb=>Hy ?_,λh=>?_⟩
 .have:=h2 a ha;have:=h4 b hb;exact y71 h (by assumption) this
 .exact Hz (pX.mp (h M h1) m h3)
def zmL{es:List Ent}{p:Int}(h0:0<=p)(h1:p<es.length):jC (es.map zw) p=some (.tup [.int (qF es p),.int (zN es p)]):=by
 obtain⟨k,rfl⟩:=fAM h0;refine(qb (js (d:=(0,0)) (by lia))).trans ?_;unfold qF zN
 rfl
noncomputable def zbi(es fs:List Ent)(span:Int)(m:Mt):Bool:=decide ((m.1.map (zN es)).sum=(m.2.map (zN fs)).sum)&&zgB (zcv es fs m) span
def zgY{es:List Ent}(h:EsOk es)(p:Int):(zN es p).natAbs<=1000000000:=by
 unfold zN
 by_cases hk:p.toNat<es.length
 .exact h.cents _ (getD_mem hk)
 .rw[fS,fAF (pL.mp hk)];decide
def ze5{x:Int}(h:x.natAbs<=1000000000000000):PySem.InLong x:=
 have n:=nab (pI h)
 ⟨fB9 (Int.lt_trans (by decide) n.1),Int.lt_trans n.2 (by decide)⟩
def zjN{ns:List Int}(hl:ns.length<=1000)(h:∀a∈ns,a.natAbs<=1000000000000):PySem.SumFits ns:=by
 have gen:∀(l:List Int),(∀a∈l,a.natAbs<=1000000000000)->l.sum.natAbs<=l.length*1000000000000:=by
  intro l
  induction l with
  | nil=>intro _;simp
  | cons a l ih=>
   intro h;have h1:=h a fA;have h2:=ih λb hb=>h b (fB _ hb);simp only[List.sum_cons,fP];exact fF (Int.natAbs_add_le a l.sum) (fF (fC1 h1 h2) (pA (by rw[fBC,Nat.add_comm])))
 intro j hj;have h1:=h (ns.getD j 0) (PySem.getD_mem hj);have h2:=gen (ns.take (j+1)) λa ha=>h a (fA8 ha);have h3:(ns.take (j+1)).length<=1000:=fF (List.length_take_le' _ _) hl;exact⟨ze5 (fF h1 (by decide)),ze5 (fF h2 (pB _ h3))⟩
def zft{es:List Ent}(h:EsOk es){ms:List Int}(hl:ms.length<=100):PySem.SumFits (ms.map (zN es)):=
 zjN (by rw[fC];exact zwW hl) λa ha=>by
  refine zb (fQ.mp ha) λp _ e1_2=>?_;subst e1_2;have:=zgY h p;lia
def zkJ{xs:List AV}{ns:List Int}(e:xs=ns.map .int)(h:PySem.SumFits ns)(q:Q (.int ns.sum) U):zp6 xs Q U:=by unfold zp6;exact zv ns e h q
def zpL{ns:List Int}(h:ns≠[])(q:∀M,M∈ns->(∀a∈ns,a<=M)->Q (.int M) U):zpK (ns.map .int) Q U:=by unfold zpK;exact zv ns rfl h q
def zkr{ns:List Int}(h:ns≠[])(q:∀M,M∈ns->(∀a∈ns,M<=a)->Q (.int M) U):zpN (ns.map .int) Q U:=by unfold zpN;exact zv ns rfl h q
def zpc(G:Gd X (hK P))(hd:n<580){pb pk:Addr}{es fs:List Ent}{span:Int}{m:Mt}(hb:U pb=some (.list (es.map zw)))(hk:U pk=some (.list (fs.map zw)))(he:EsOk es)(hf:EsOk fs)
  (h1:min (m.1.length:Int) m.2.length=1)(h2:max (m.1.length:Int) m.2.length<=3)(r1:Rise m.1 es.length)(r2:Rise m.2 fs.length)(q:Q (.bool (zbi es fs span m)) U):CallOk X 125 ⟨n,false⟩ [.ref pb,.ref pk,.int span,zC m] Q Z U:=by
 refine zrp G (fM hd (by decide)) λL=>?_;have l1:m.1.length<=3:=zxv h2;have l2:m.2.length<=3:=zxx h2
 conv=>whnf
 rw[fC,fC];rw[h1];refine zbM (Hx (zxw h2)) ?_;refine zf (zz hb) ?_;rw[fC];refine zb2 (G.push L) (zgG hd) (zqo l1) r1 ?_
 conv=>whnf
 refine zf (zz hk) ?_;rw[fC];refine zb2 (G.push L) (zgG hd) (zqo l2) r2 ?_;have a1:∀p∈m.1,jC (es.map zw) p=some (.tup [.int (qF es p),.int (zN es p)]):=λp hp=>zmL (r1.2 p hp).1 (r1.2 p hp).2;have a2:∀p∈m.2,jC (fs.map zw) p=some (.tup [.int (qF fs p),.int (zN fs p)]):=λp hp=>zmL (r2.2 p hp).1 (r2.2 p hp).2;refine zX (λp=>.int (zN es p)) (λ_=>rfl) (λ_ _=>rfl) (λp hp R q=>?_) trivial (zr5 l1) ?_
 .exact jt hb (zf (a1 p hp) q)
 refine zkJ (ns:=m.1.map (zN es)) (by rw[gD];rfl) (zft he (zqo l1)) ?_;refine zX (λp=>.int (zN fs p)) (λ_=>rfl) (λ_ _=>rfl) (λp hp R q=>?_) trivial (zr5 l2) ?_
 .exact jt hk (zf (a2 p hp) q)
 refine zkJ (ns:=m.2.map (zN fs)) (by rw[gD];rfl) (zft hf (zqo l2)) ?_;unfold zbi at q
 conv=>whnf
 by_cases hs:(m.1.map (zN es)).sum=(m.2.map (zN fs)).sum
 .rw[Hy hs] at q ⊢;rw[Bool.true_and] at q;refine ku (G.push L) (zgG hd) (ziq l1) (ziq l2) ?_;refine zX (λx=>.int (qF (if x.1 then fs else es) x.2)) (λ_=>rfl) (λ_ _=>rfl) (λx hx R q=>?_) trivial ?_ ?_
  .have hx:(0<=x.2/\x.2<(if x.1 then fs else es).length):=by
    rcases fR.mp hx with h|h<;>obtain⟨p,hp,rfl⟩:=fQ.mp h
    .exact r1.2 p hp
    .exact r2.2 p hp
   obtain⟨k,hk'⟩:=fAM hx.1;refine zcR (G.push L) (zgG hd) hb hk (k:=k) (e:=zw ((if x.1 then fs else es).getD k (0,0))) ?_ hk' ?_
   .have:=hx.2;cases hbb:x.1<;>rw[hbb] at this<;>simp only[gH,if_false,if_true] at this ⊢<;>rw[pT,js (d:=(0,0)) (by lia)]<;>rfl
   .unfold qF at q;rw[hk',fCF] at q;exact q
  .unfold zk;rw[fE,fC,fC];exact zx8 l1 l2
  have ed:(zk m).map (λx=>AV.int (qF (if x.1 then fs else es) x.2))=(zcv es fs m).map .int:=by
   unfold zk zcv;rw[fU,fU,gD,gD,gD,gD];rfl
  rw[ed];have ne:zcv es fs m≠[]:=λe=>by
   have:=congrArg List.length e;unfold zcv at this;rw[fE,fC,fC,pQ] at this;exact zxy h1 this
  refine zpL ne λM hM1 hM2=>?_
  conv=>whnf
  refine zkr ne λM' hM3 hM4=>?_;rw[<-zmt hM1 hM2 hM3 hM4] at q;exact Ends.same q
 .rw[Hx hs] at q ⊢;exact Ends.same q
end
def zfV{i j:Int}:PyData.eqv (.int i) (.int j)=(i==j):=by simp[PyData.eqv]
noncomputable def qz(r:List Int):PyData:=.tuple (r.map .int)
noncomputable def szs:List (Nat×Nat):=[(1,1),(1,2),(2,1),(1,3),(3,1)]
def mem_ext{ps r s:List Int}:s∈zbu ps r↔∃p∈ps,zaj r p=true/\s=r++[p]:=by
 unfold zbu;rw[fQ];constructor
 .intro hR1;refine zb hR1 λp hp e0_2=>?_;subst e0_2;exact zv p ((fZ.mp hp).1) ((fZ.mp hp).2) rfl
 .intro hR2;refine zl hR2 λp hp hl e1_3=>?_;subst e1_3;exact zc p (fZ.mpr ⟨hp,hl⟩) rfl
def zn2{J β:Type}{f:J->β}:∀{l:List J},l.Nodup->(∀a∈l,∀b∈l,f a=f b->a=b)->(l.map f).Nodup:=by
 intro l hn h;rw[fA9,fAV];exact(List.Pairwise.and_mem.mp (fA9.mp hn)).imp λ{a b} ⟨ha,hb,hne⟩ e=>hne (h a ha b hb e)
def Up(ps s:List Int):Prop:=s.Pairwise (· < ·)/\∀p∈s,p∈ps
def zdX{r:List Int}{p:Int}(h:r.Pairwise (· < ·)):zaj r p=true↔∀a∈r,a<p:=by
 rcases fBS r with rfl|⟨r0,z,rfl⟩
 .simp[zaj]
 .rw[fBT] at h ⊢;have hll:zaj (r0++[z]) p=decide (p>z):=by unfold zaj;simp
  rw[hll,decide_eq_true_iff];have h3:=(gC.mp h).2.2;constructor
  .intro hz a ha
   rcases fR.mp ha with ha|ha
   .have:=h3 a ha z fA;exact y69 hz this
   .have:a=z:=by simpa using ha
    exact y70 hz this
  .intro hz;exact hz z (gA _ fA)
def mem_rowsN{ps:List Int}{k:Nat}:∀{s:List Int},s∈qA ps k↔s.length=k/\Up ps s:=by
 induction k with
 | zero=>
  intro s;constructor
  .intro h;rw[fJ.mp h];exact zq rfl .nil (λ_ h=>nomatch h)
  .rintro⟨h,_⟩;rw[gO.mp h];exact fJ.mpr rfl
 | succ k ih=>
  intro s;show s∈(qA ps k).flatMap (zbu ps)↔_;rw[gX];constructor
  .intro hR3;refine zb hR3 λr h1 h2=>?_;refine zl (mem_ext.mp h2) λp hp hl e2_3=>?_;subst e2_3;obtain⟨e,hu⟩:=ih.mp h1;rw[zdX hu.1] at hl;refine zq (by rw[fE,e];rfl) (gC.mpr (zq hu.1 (fAN _ _) (λa ha b hb=>?_))) (λq hq=>?_)
   .have:b=p:=by simpa using hb
    rw[this];exact hl a ha
   .rcases fR.mp hq with hq|hq
    .exact hu.2 q hq
    .have:q=p:=by simpa using hq
     rw[this];exact hp
  .rintro⟨e,hu⟩
   rcases fBS s with rfl|⟨r,p,rfl⟩
   .cases e
   .rw[fBT] at *;refine jg (gC.mp hu.1) λu1 u2 u3=>?_;exact zc r (ih.mpr (zq (by rw[fE] at e;simpa using e) u1 (λq hq=>hu.2 q (gP _ hq)))) (mem_ext.mpr (zv p (hu.2 p (gA _ fA)) ((zdX u1).mpr λa ha=>u3 a ha p fA) rfl))
noncomputable def qp(fit:Mt->Bool)(bs:List Int)(k:Nat)(l:List Int):List Mt:=((qA bs k).filter λr=>fit (l,r)).map λr=>(l,r)
noncomputable def zkZ(fit:Mt->Bool)(as bs:List Int)(z:Nat×Nat):List Mt:=(qA as z.1).flatMap (qp fit bs z.2)
noncomputable def zsI(fit:Mt->Bool)(as bs:List Int):List Mt:=szs.flatMap (zkZ fit as bs)
def mem_matchOf{fit:Mt->Bool}{bs l:List Int}{k:Nat}{x:Mt}:x∈qp fit bs k l↔x.1=l/\x.2.length=k/\Up bs x.2/\fit (l,x.2)=true:=by
 unfold qp;rw[fQ];constructor
 .intro hR4;refine zb hR4 λr hr e5_2=>?_;subst e5_2;obtain⟨h1,h2⟩:=fZ.mp hr;obtain⟨h3,h4⟩:=mem_rowsN.mp h1;exact zt rfl h3 h4 h2
 .intro hR5;refine zy hR5 λh1 h2 h3 h4=>?_;exact zc x.2 (fZ.mpr ⟨mem_rowsN.mpr ⟨h2,h3⟩,h4⟩) (by rw[<-h1])
def mem_bySz{fit:Mt->Bool}{as bs:List Int}{z:Nat×Nat}{x:Mt}:x∈zkZ fit as bs z↔x.1.length=z.1/\Up as x.1/\x.2.length=z.2/\Up bs x.2/\fit x=true:=by
 unfold zkZ;rw[gX];constructor
 .intro hR6;refine zb hR6 λl hl hx=>?_;obtain⟨rfl,h2⟩:=mem_matchOf.mp hx;obtain⟨h3,h4⟩:=mem_rowsN.mp hl;exact zq h3 h4 h2
 .intro hR7;refine jg hR7 λh1 h2 h3=>?_;exact zc x.1 (mem_rowsN.mpr ⟨h1,h2⟩) (mem_matchOf.mpr ⟨rfl,h3⟩)
noncomputable def enc:Nat->List Int->Nat
 | 0,_=>0
 | _+1,[]=>0
 | n+1,x::xs=>(x.toNat+1)*100 ^ n+enc n xs
def Sm(l:List Int):Prop:=l.length<=3/\∀p∈l,0<=p/\p<90
def qk:∀(n:Nat) {l:List Int},(∀p∈l,0<=p/\p<90)->enc n l<100 ^ n
 | 0,_,_=>(fN _)
 | n+1,[],_=>Nat.pow_pos (by decide)
 | n+1,x::xs,h=>by
  have h1:=qk n (l:=xs) λp hp=>h p (fB _ hp);have h2:=h x fA;show (x.toNat+1)*100 ^ n+enc n xs<100 ^ (n+1);have h3:(x.toNat+1)*100 ^ n<=90*100 ^ n:=pB _ (y7 h2);rw[Nat.pow_succ]
  lia
def zka(n:Nat):∀{l r:List Int},l.length<=n->r.length<=n->(∀p∈l,0<=p/\p<90)->(∀p∈r,0<=p/\p<90)->zbA (l.map .int) (r.map .int)=some (decide (enc n l<enc n r))/\(enc n l=enc n r->l=r):=by
 have pos:∀(x:Int) (xs:List Int) (n:Nat),0<enc (n+1) (x::xs):=λx xs n=>pC (Nat.mul_pos (fCW _) (Nat.pow_pos (by decide))) (pH _ _)
 induction n with
 | zero=>
  intro l r h1 h2 _ _;rw[gO.mp (fC2.mp h1),gO.mp (fC2.mp h2)];exact⟨rfl,λ_=>rfl⟩
 | succ n ih=>
  intro l r h1 h2 s1 s2;cases l with
  | nil=>cases r with
   | nil=>exact⟨rfl,λ_=>rfl⟩
   | cons y ys=>
    have h3:=pos y ys n;refine⟨?_,λe=>absurd h3 (Nat.not_lt_of_le (pA e.symm))⟩;rw[Hy (show enc (n+1) []<enc (n+1) (y::ys) from h3)];exact zpG ..
  | cons x xs=>cases r with
   | nil=>
    have h3:=pos x xs n;refine⟨?_,λe=>absurd h3 (Nat.not_lt_of_le (pA e))⟩;rw[Hx (show ¬enc (n+1) (x::xs)<enc (n+1) [] from fB5 _)];exact zpF ..
   | cons y ys=>
    obtain⟨g1,g2⟩:=ih (l:=xs) (r:=ys) (fBN h1) (fBN h2) (λp hp=>s1 p (fB _ hp)) λp hp=>s2 p (fB _ hp);have a1:=qk n (l:=xs) λp hp=>s1 p (fB _ hp);have a2:=qk n (l:=ys) λp hp=>s2 p (fB _ hp);have b1:=(s1 x fA).1;have b2:=(s2 y fA).1;have key:enc (n+1) (x::xs)<enc (n+1) (y::ys)↔x<y\/x=y/\enc n xs<enc n ys:=(zaU (M:=100 ^ n) (x:=x.toNat+1) (y:=y.toNat+1) a1 a2).trans (or_congr (fB1.trans (za1 b1 b2)) (and_congr ⟨λe=>kY b1 b2 (Nat.succ.inj e),λe=>by rw[e]⟩ Iff.rfl));refine⟨?_,λe=>?_⟩
    .simp only[gG,qL,zfV]
     by_cases he:x=y
     .subst he;rw[beq_self_eq_true,if_pos rfl,g1];exact congrArg some (decide_eq_decide.mpr (key.trans ⟨λh=>(h.resolve_left (fCM x)).2,λh=>.inr ⟨rfl,h⟩⟩).symm)
     .rw[beq_eq_false_iff_ne.mpr he,if_neg pW,zb5];exact congrArg some (decide_eq_decide.mpr (key.trans ⟨λh=>h.resolve_right λh=>he h.1,.inl⟩).symm)
    .have e':=zal (M:=100 ^ n) (x:=x.toNat+1) (y:=y.toNat+1) a1 a2 e;rw[kY b1 b2 (Nat.succ.inj e'.1),g2 e'.2]
def zbV:∀(l r:List Int),PyData.eqv (qz l) (qz r)=decide (l=r):=by
 intro l r;unfold qz;simp only[PyData.eqv]
 induction l generalizing r with
 | nil=>cases r<;>simp[PyData.eqvAll]
 | cons x xs ih=>
  cases r with
  | nil=>simp[PyData.eqvAll]
  | cons y ys=>
   simp only[gG,PyData.eqvAll,zfV,ih]
   by_cases h:x=y
   .subst h;simp
   .simp[h]
def znJ{l r:List Int}(hl:Sm l)(hr:Sm r):ltD (qz l) (qz r)=some (decide (enc 3 l<enc 3 r)):=by
 unfold qz;simp only[zcY];exact(zka 3 hl.1 hr.1 hl.2 hr.2).1
def zfT{l r:List Int}(hl:Sm l)(hr:Sm r)(e:enc 3 l=enc 3 r):l=r:=(zka 3 hl.1 hr.1 hl.2 hr.2).2 e
noncomputable def num(x:Mt):Nat:=(x.1.length+x.2.length)*1000000000000+enc 3 x.1*1000000+enc 3 x.2
def SmM(x:Mt):Prop:=Sm x.1/\Sm x.2
def zwd(a b c:Nat):a*1000000000000+b*1000000+c=(a*100 ^ 3+b)*100 ^ 3+c:=by rw[Nat.add_mul (a*100 ^ 3) b,Nat.mul_assoc]
def zgm(x:Mt):num x=((x.1.length+x.2.length)*100 ^ 3+enc 3 x.1)*100 ^ 3+enc 3 x.2:=zwd _ _ _
def zkt{x y:Mt}(hx:SmM x)(hy:SmM y)(e:num x=num y):x=y:=by
 have a1:=qk 3 hx.1.2;have a2:=qk 3 hx.2.2;have a3:=qk 3 hy.1.2;have a4:=qk 3 hy.2.2;rw[zgm,zgm] at e;have e1:=zal a2 a4 e;have h1:=(zal a1 a3 e1.1).2;have h2:=e1.2;exact Prod.ext (zfT hx.1 hy.1 h1) (zfT hx.2 hy.2 h2)
noncomputable def szI(x:Mt):Int:=(x.1.length:Int)+x.2.length
noncomputable def zlB(x:Mt):PyData:=.tuple [.int (szI x),.tuple [qz x.1,qz x.2]]
def znI{x y:Mt}(hx:SmM x)(hy:SmM y):zbA [qz x.1,qz x.2] [qz y.1,qz y.2]=some (decide (enc 3 x.1*1000000+enc 3 x.2<enc 3 y.1*1000000+enc 3 y.2)):=by
 have a2:=qk 3 hx.2.2;have a4:=qk 3 hy.2.2;simp only[qL,zgd,zbV,decide_eq_true_eq]
 by_cases h1:x.1=y.1
 .rw[if_pos h1,h1]
  by_cases h2:x.2=y.2
  .rw[if_pos h2,h2,Hx (fAX _)]
  .rw[if_neg h2,znJ hx.2 hy.2];exact congrArg some (decide_eq_decide.mpr Nat.add_lt_add_iff_left.symm)
 .rw[if_neg h1,znJ hx.1 hy.1];exact congrArg some (decide_eq_decide.mpr ((zaU (M:=1000000) a2 a4).trans ⟨λh=>h.resolve_right λh=>h1 (zfT hx.1 hy.1 h.1),.inl⟩).symm)
def zrI{x y:Mt}(hx:SmM x)(hy:SmM y)(hne:x.1.length+x.2.length≠y.1.length+y.2.length):x.1.length+x.2.length<y.1.length+y.2.length↔num x<num y:=by
 have a1:=qk 3 hx.1.2;have a2:=qk 3 hx.2.2;have a3:=qk 3 hy.1.2;have a4:=qk 3 hy.2.2;rw[zgm,zgm,zaU a2 a4,zaU a1 a3];refine⟨λh=>.inl (.inl h),λh=>h.elim (λh=>h.resolve_right λh=>hne h.1) λh=>absurd (zal a1 a3 h.1).1 hne⟩
def zhz{x y:Mt}(hx:SmM x)(hy:SmM y){t:Option Bool}(h:szI x=szI y->t=some (decide (enc 3 x.1*1000000+enc 3 x.2<enc 3 y.1*1000000+enc 3 y.2))):(if (szI x==szI y)=true then t else ltD (.int (szI x)) (.int (szI y)))=some (decide (num x<num y)):=by
 by_cases e:szI x=szI y
 .rw[e,beq_self_eq_true,if_pos rfl,h e];unfold num;exact congrArg some (decide_eq_decide.mpr (by rw[fAR,fAR (_*_),show x.1.length+x.2.length=y.1.length+y.2.length from Int.ofNat.inj e,Nat.add_lt_add_iff_left]))
 .rw[beq_eq_false_iff_ne.mpr e,if_neg (by decide)];unfold szI at e ⊢;simp only[zb5];refine congrArg some (decide_eq_decide.mpr (Iff.trans fA1 (zrI hx hy λh=>e (congrArg Int.ofNat h))))
def zrw{x y:Mt}(hx:SmM x)(hy:SmM y):ltD (zlB x) (zlB y)=some (decide (num x<num y)):=by
 unfold zlB;rw[zcY,qL,zfV];refine zhz hx hy λ_=>?_;simp only[qL,zgd,zcY,zb5,PyData.eqv,PyData.eqvAll,fB0]
 by_cases h:x=y
 .subst h;rw[if_pos (by simp[zbV]),Hx (fAX _)]
 .have:¬((PyData.eqv (qz x.1) (qz y.1)&&PyData.eqv (qz x.2) (qz y.2))=true):=by
   rw[zbV,zbV,gT,decide_eq_true_eq,decide_eq_true_eq];exact λe=>h (Prod.ext e.1 e.2)
  rw[if_neg this];exact znI hx hy
section
variable{P:Hj}{X:Cx}{n:Nat}{Q:zm}{Z:XP}{U:AHeap}
noncomputable def zep(s:Bool)(g:List zd):List Int:=(g.filter λm=>m.1==s).map (·.2)
structure GOk(g:List zd)(na nb:Nat):Prop where
 nodup:g.Nodup
 inn:∀m∈g,0<=m.2/\m.2<((if m.1 then nb else na:Nat):Int)
 few:g.length<=8
 small:na<=80/\nb<=80
noncomputable def unI(v:AV):Int:=match v with
 | .int i=>i
 | _=>0
def zos{s:Bool}{g:List zd}(h:g.length<=8):(zep s g).length<=8:=by unfold zep;rw[fC];exact fF (pU ..) h
def side_mem{s:Bool}{g:List zd}{p:Int}:p∈zep s g↔(s,p)∈g:=by
 unfold zep;rw[fQ];constructor
 .intro hR1;refine zb hR1 λh0_0 h e0_2=>?_;obtain⟨b,i⟩:=h0_0;subst e0_2;obtain⟨h1,h2⟩:=fZ.mp h;have h2:b=s:=H0 h2;subst h2;exact h1
 .intro h;exact zc (s,p) (fZ.mpr ⟨h,BEq.rfl⟩) rfl
def zqU{r:Bool}{ns:List Int}(h0:∀p∈ns,0<=p)(q:mkL r ((srt Int.toNat ns).map .int) Q U):zfr r (ns.map .int) Q U:=by
 refine zet unI (λ_=>rfl) Int.toNat (λx hx y hy e=>by have:=h0 x hx;have:=h0 y hy;exact y54 e (by assumption) this) (.inr λx hx=>?_) (λx hx y hy=>?_) q
 .refine zb (fQ.mp hx) λi _ e1_2=>?_;subst e1_2;exact⟨i,rfl⟩
 .refine jl _ _ (.int _) (.int _) (by simp[PyData.depth]) (by simp[PyData.depth]) ?_;exact congrArg some (decide_eq_decide.mpr (za1 (h0 x hx) (h0 y hy)).symm)
noncomputable def ups(s:Bool)(g:List zd):List Int:=srt Int.toNat (zep s g)
def ups_mem{s:Bool}{g:List zd}{p:Int}:p∈ups s g↔(s,p)∈g:=(je ..).mem_iff.trans side_mem
def zdr{s:Bool}{g:List zd}(h:g.length<=8):(ups s g).length<=8:=by unfold ups;rw[(je ..).length_eq];exact zos h
noncomputable def win(es fs:List Ent)(span:Int)(g:List zd):List Mt:=srt num (zsI (zbi es fs span) (ups false g) (ups true g))
def kQ{ps:List Int}(h:ps.length<=8)(k:Nat):(qA ps k).length<=8 ^ k:=by
 induction k with
 | zero=>exact fN 1
 | succ k ih=>exact fF (zhc (c:=8) (λa=>fF (zdJ ps a) h) _) (by rw[Nat.pow_succ];exact pB 8 ih)
def zpz{x y:Mt}(hx:SmM x)(hy:SmM y):zit U (.tup [.int ((x.1.length:Int)+x.2.length),zC x]) (.tup [.int ((y.1.length:Int)+y.2.length),zC y]) (decide (num x<num y)):=by
 have rdI:∀l:List Int,RdL U (l.map .int) (l.map .int):=λl=>by
  induction l with
  | nil=>exact .nil
  | cons i l ih=>exact .cons (.int i) ih
 have rd:∀z:Mt,Rd U (.tup [.int ((z.1.length:Int)+z.2.length),zC z]) (zlB z):=λz=>.tup (.cons (.int _) (.cons (.tup (.cons (.tup (rdI _)) (.cons (.tup (rdI _)) .nil))) .nil));have dI:∀l:List Int,PyData.depthAll (l.map .int)=0:=λl=>by
  induction l with
  | nil=>rfl
  | cons i l ih=>rw[gG,PyData.depthAll,ih];rfl
 have dp:∀z:Mt,(zlB z).depth<=100:=λz=>by
  unfold zlB qz;simp only[PyData.depth,PyData.depthAll,dI];decide
 exact jl _ _ (rd x) (rd y) (dp x) (dp y) (zrw hx hy)
def zix{fit:Mt->Bool}{g:List zd}{na nb:Nat}(hg:GOk g na nb){x:Mt}(h:x∈zsI fit (ups false g) (ups true g)):SmM x/\Rise x.1 na/\Rise x.2 nb/\min x.1.length x.2.length=1/\fit x=true:=by
 refine zb (gX.mp h) λz hz hx=>?_;refine jV (mem_bySz.mp hx) λh1 u1 h2 u2 h3=>?_;have hzl:∀z∈szs,z.1<=3/\z.2<=3/\min z.1 z.2=1:=by decide
 refine jg (hzl z hz) λz1 z2 z3=>?_;have i1:∀p∈x.1,0<=p/\p<(na:Int):=λp hp=>hg.inn _ (ups_mem.mp (u1.2 p hp));have i2:∀p∈x.2,0<=p/\p<(nb:Int):=λp hp=>hg.inn _ (ups_mem.mp (u2.2 p hp));have:=hg.small;exact jh (zq ⟨zuw h1 z1,λp hp=>by have:=i1 p hp;exact y99 (by assumption) this⟩ (zuw h2 z2) (λp hp=>by have:=i2 p hp;exact zwq (by assumption) this)) ⟨u1.1,i1⟩ ⟨u2.1,i2⟩ (zAF h1 h2 z3) h3
def ztz:∃u:AV->Mt,∀x,u (zC x)=x:=⟨λv=>match v with
  | .tup [.tup a,.tup b]=>(a.map unI,b.map unI)
  | _=>([],[]),λx=>by
   show (_,_)=x;rw[gD,gD];have:unI∘AV.int=id:=rfl;rw[this,fBL,fBL]⟩
def zl0{hb:Bool}{X:Cx}{xs:List Mt}{f:Addr}(hc:∀{m:Mt} {Q:zm} {Z:XP},Q (.tup [.int ((m.1.length:Int)+m.2.length),zC m]) U->CallOk X f ⟨n+1,hb⟩ [zC m] Q Z U)(hd:n<580)(h:∀x∈xs,SmM x){r:Bool}(q:mkL r ((srt num xs).map zC) Q U):zer X f r ⟨n,hb⟩ (xs.map zC) Q U:=by
 refine zY ztz λu hu=>?_;unfold zer;refine jl (λv=>.tup [.int (((u v).1.length:Int)+(u v).2.length),v]) (λv=>num (u v)) (by lia) (λv hv=>?_) (λv hv=>(jD _ _ rfl)) (λv hv w hw=>?_) (λys h1 h2=>?_)
 .refine zb (fQ.mp hv) λx hx e6_2=>?_;subst e6_2;refine hc ?_;exact⟨by dsimp only;rw[hu],rfl⟩
 .refine zb (fQ.mp hv) λx hx e7_2=>?_;subst e7_2;refine zb (fQ.mp hw) λy hy e8_2=>?_;subst e8_2;simp only[hu];exact zpz (h x hx) (h y hy)
 .obtain⟨p1,p2⟩:=zgp hu h1;rw[p2,zew (λx hx y hy=>zkt (h x hx) (h y hy)) p1 (fAV.mpr h2)];exact q
def zes{hb:Bool}{X:Cx}{xs:List Mt}(G:Gd X (hK P))(hd:n<580)(h:∀x∈xs,SmM x){r:Bool}(q:mkL r ((srt num xs).map zC) Q U):zer X 137 r ⟨n,hb⟩ (xs.map zC) Q U:=zl0 (λq=>ziy G (zgG hd) q) hd h q
noncomputable def zig(z:Nat×Nat):AV:=.tup [.int (z.1:Nat),.int (z.2:Nat)]
def zaL{J β:Type}(f:J->List β)(xs:List J)(acc:List β):xs.foldl (λb x=>b++f x) acc=acc++xs.flatMap f:=by
 induction xs generalizing acc with
 | nil=>exact(gQ _).symm
 | cons x xs ih=>rw[gZ,ih,fAD,gI]
noncomputable def wiL(pb pk:Addr)(span:Int)(g:List zd)(p:Addr)(u v w:Option AV):Loc:=[some (.ref pb),some (.ref pk),some (.int span),some (gAV g),some (.lst ((ups false g).map .int)),some (.lst ((ups true g).map .int)),some (.ref p),u,v,w]
def Wi(U:AHeap)(p:Addr)(L:(Nat->Option AV)->Loc)(N c:Nat){J:Type}(W xs:List J)(b:List Mt)(l:Loc)(U':AHeap):Prop:=(∃Ua,l=L Ua)/\U'=U.set p (.list (b.map zC))/\b.length+c*xs.length<=N/\∀x∈xs,x∈W
section
variable{pb pk p:Addr}{es fs:List Ent}{span:Int}{g:List zd}{I:AHeap->Prop}{K:Loc->AHeap->Prop}{S:zU}{d N:Nat}{z:Nat×Nat}{lr:List Int}{l:Loc}{U':AHeap}
def wi3(G:Gd X (hK P))(hd:d<571)(hb:U pb=some (.list (es.map zw)))(hk:U pk=some (.list (fs.map zw)))(he:EsOk es)(hf:EsOk fs)(hg:GOk g es.length fs.length)(hp:U p=none)(hI:∀U,I U)(hN:N<=100000)(hz:z∈szs)(hlr:lr∈qA (ups false g) z.1){rr:List Int}{ws:List (List Int)}{a:List Mt}
  (h:Wi U p (λUa=>wiL pb pk span g p (some (zig z)) (some (zaB lr)) (Ua 0)) N 1 (qA (ups true g) z.2) (rr::ws) a l U')(hK:∀l' U',Wi U p (λUa=>wiL pb pk span g p (some (zig z)) (some (zaB lr)) (Ua 0)) N 1 (qA (ups true g) z.2) ws (a++if zbi es fs span (lr,rr) then [(lr,rr)] else []) l' U'->K l' U') :
  ∃l',j5 (.one 9) (zaB rr) l=some l'/\zc5 X ⟨d,false⟩ l' (Gz I K S) G0 U':=by
 refine zy h λhl hs hle hw=>zY hl λUa el=>?_;have hw:=fO.mp hw;clear h;subst el hs;rw[fP] at hle;have hzl:∀z∈szs,z.1<=3/\z.2<=3/\min z.1 z.2=1:=by decide
 refine jg (hzl z hz) λz1 z2 z3=>jO (mem_rowsN.mp hlr) λm1 m2=>jO (mem_rowsN.mp hw.1) λm3 m4=>?_;refine zc _ rfl ?_;refine zpc G (fM hd (by decide)) (m:=(lr,rr)) (zP hp _ _ hb) (zP hp _ _ hk) he hf (by dsimp only;exact zAf z3 m1 m3) (by dsimp only;exact zAX z1 z2 m1 m3) ⟨m2.1,λp hp=>hg.inn _ (ups_mem.mp (m2.2 p hp))⟩ ⟨m4.1,λp hp=>hg.inn _ (ups_mem.mp (m4.2 p hp))⟩ ?_;cases hfit:zbi es fs span (lr,rr) with
 | true=>
  rw[hfit,if_pos rfl] at hK;exact zp (AHeap.wA ..) (zp (AHeap.wA ..) (zJ (by rw[fC];exact ztT hN hle) ⟨hI _,hK _ _ (zt ⟨λ_=>_,rfl⟩ (by rw[fU];exact zdp) (by rw[fE,fV];exact ztQ hle) hw.2)⟩))
 | false=>
  rw[hfit,if_neg pW,gQ] at hK;exact⟨hI _,hK _ _ (zt ⟨λ_=>_,rfl⟩ rfl (ztR hle) hw.2)⟩
def zlP{fit:Mt->Bool}{bs lr:List Int}(h:bs.length<=8)(k:Nat):(qp fit bs k lr).length<=8 ^ k:=by
 unfold qp;rw[fC];exact fF (pU ..) (kQ h k)
def zjf{fit:Mt->Bool}{bs lr:List Int}{k:Nat}:(qA bs k).flatMap (λr=>if fit (lr,r) then [(lr,r)] else [])=qp fit bs k lr:=by
 unfold qp;generalize qA bs k=rs
 induction rs with
 | nil=>rfl
 | cons r rs ih=>
  rw[fAD,fCS,ih];cases fit (lr,r)<;>rfl
def wi2(G:Gd X (hK P))(hd:d<571)(hb:U pb=some (.list (es.map zw)))(hk:U pk=some (.list (fs.map zw)))(he:EsOk es)(hf:EsOk fs)(hg:GOk g es.length fs.length)(hp:U p=none)(hI:∀U,I U)(hN:N<=90000)(hz:z∈szs){ys:List (List Int)}{c:List Mt}
  (h:Wi U p (λUa=>wiL pb pk span g p (some (zig z)) (Ua 0) (Ua 1)) N (8 ^ z.2) (qA (ups false g) z.1) (lr::ys) c l U')(hK:∀l' U',Wi U p (λUa=>wiL pb pk span g p (some (zig z)) (Ua 0) (Ua 1)) N (8 ^ z.2) (qA (ups false g) z.1) ys (c++qp (zbi es fs span) (ups true g) z.2 lr) l' U'->K l' U') :
  ∃l',j5 (.one 8) (zaB lr) l=some l'/\zc4 X ⟨d,false⟩ l' (Gz I K S) G0 U':=by
 refine zy h λhl hs hle hy=>zY hl λUa el=>?_;have hy:=fO.mp hy;clear h;subst el;rw[fP,Nat.mul_succ] at hle;have hzl:∀z∈szs,z.2<=3/\8 ^ z.2<=512:=by decide
 have l2:=zdr (s:=true) hg.few;have r2:=kQ l2 z.2;refine zc _ rfl ?_;refine zem G (fM hd (by decide)) l2 (hzl z hz).1 ?_;refine zF (Wi U p (λUa=>wiL pb pk span g p (some (zig z)) (some (zaB lr)) (Ua 0)) (c.length+8 ^ z.2) 1 (qA (ups true g) z.2)) (λa r=>a++if zbi es fs span (lr,r) then [(lr,r)] else []) (λrr ws a l U' K' S_ h hK'=>wi3 G hd hb hk he hf hg hp (λ_=>trivial) (ztU hN hle) hz hy.1 h hK') (b:=c) (λl U' h=>?_) (zt ⟨λ_=>_,rfl⟩ hs (by rw[Nat.one_mul];exact fB6 r2 _) (λr hr=>hr));refine zy h λhl hs _ _=>zY hl λUa el=>?_;rw[zaL,zjf] at hs;have hm:=zlP (fit:=zbi es fs span) (lr:=lr) l2 z.2;exact⟨hI _,hK _ _ (zt ⟨λi=>[_,_].getD i none,el⟩ hs (by rw[fE];exact ztV hle hm) hy.2)⟩
def wi1(G:Gd X (hK P))(hd:d<571)(hb:U pb=some (.list (es.map zw)))(hk:U pk=some (.list (fs.map zw)))(he:EsOk es)(hf:EsOk fs)(hg:GOk g es.length fs.length)(hp:U p=none)(hI:∀U,I U){xs:List (Nat×Nat)}{b:List Mt}
  (h:Wi U p (λUa=>wiL pb pk span g p (Ua 0) (Ua 1) (Ua 2)) 20480 4096 szs (z::xs) b l U')(hK:∀l' U',Wi U p (λUa=>wiL pb pk span g p (Ua 0) (Ua 1) (Ua 2)) 20480 4096 szs xs (b++zkZ (zbi es fs span) (ups false g) (ups true g) z) l' U'->K l' U') :
  ∃l',j5 (.one 7) (zig z) l=some l'/\zc3 X ⟨d,false⟩ l' (Gz I K S) G0 U':=by
 refine zy h λhl hs hle hx=>zY hl λUa el=>?_;have hx:=fO.mp hx;clear h;subst el;rw[fP] at hle;have hzl:∀z∈szs,z.1<=3/\8 ^ z.1*8 ^ z.2<=4096:=by decide
 have l1:=zdr (s:=false) hg.few;have r1:=fF (pB (8 ^ z.2) (kQ l1 z.1)) (hzl z hx.1).2;refine zc _ rfl ?_;refine zem G (fM hd (by decide)) l1 (hzl z hx.1).1 ?_;refine zF (Wi U p (λUa=>wiL pb pk span g p (some (zig z)) (Ua 0) (Ua 1)) (b.length+4096) (8 ^ z.2) (qA (ups false g) z.1)) (λc r=>c++qp (zbi es fs span) (ups true g) z.2 r) (λlr ys c l U' K' S_ h hK'=>wi2 G hd hb hk he hf hg hp (λ_=>trivial) (ztP hle) hx.1 h hK') (b:=b) (λl U' h=>?_) (zt ⟨λi=>[_,_].getD i none,rfl⟩ hs (by rw[Nat.mul_comm];exact fB6 r1 _) (λr hr=>hr));refine zy h λhl hs hle' _=>zY hl λUa el=>?_;rw[zaL] at hs hle';exact⟨hI _,hK _ _ (zt ⟨λi=>[_,_,_].getD i none,el⟩ hs (by have hle':(b++zkZ (zbi es fs span) (ups false g) (ups true g) z).length<=b.length+4096:=fF (pH _ _) hle';exact zDs hle hle') hx.2)⟩
end
def zmy(G:Gd X (hK P))(hd:n<570){pb pk:Addr}{es fs:List Ent}{span:Int}{g:List zd}(hb:U pb=some (.list (es.map zw)))(hk:U pk=some (.list (fs.map zw)))(he:EsOk es)(hf:EsOk fs)(hg:GOk g es.length fs.length)
  (q:Q (.lst ((win es fs span g).map zC)) U):CallOk X 142 ⟨n,false⟩ [.ref pb,.ref pk,.int span,gAV g] Q Z U:=by
 refine znA G (fM hd (by decide)) λL=>?_;have lg:=hg.few;have e1:∀s,(g.filter λm=>m.1==s).map (λm:zd=>AV.int m.2)=(zep s g).map .int:=λs=>by unfold zep;rw[gD];rfl
 refine z9 (λm:zd=>m.1==false) (λm=>.int m.2) (λ_=>rfl) (λ_ _=>rfl) (λm hm R q=>?_) (λm hm _ R q=>q) trivial (zr6 lg) ?_
 .obtain⟨b,i⟩:=m;cases b<;>exact q
 rw[e1];refine zqU (λp hp=>(hg.inn _ (side_mem.mp hp)).1) ?_;refine z9 (λm:zd=>m.1==true) (λm=>.int m.2) (λ_=>rfl) (λ_ _=>rfl) (λm hm R q=>?_) (λm hm _ R q=>q) trivial (zr6 lg) ?_
 .obtain⟨b,i⟩:=m;cases b<;>exact q
 rw[e1];refine zqU (λp hp=>(hg.inn _ (side_mem.mp hp)).1) ?_;intro p hp;change zhd _ _ _ _ _ (szs.map zig) _ _;refine zF (Wi U p (λUa=>wiL pb pk span g p (Ua 0) (Ua 1) (Ua 2)) 20480 4096 szs) (λb z=>b++zkZ (zbi es fs span) (ups false g) (ups true g) z) (λz xs b l U' K S_ h hK=>wi1 (G.push L) (gJ hd) hb hk he hf hg hp (λ_=>trivial) h hK) (b:=[]) (λl U' h=>?_) (zt ⟨λi=>[_,_,_].getD i none,rfl⟩ rfl (by decide) (λz hz=>hz));refine zy h λhl hs _ _=>zY hl λUa el=>?_;rw[zaL,fA4] at hs;subst el hs;clear h;refine zf (zz (AHeap.wA ..)) ?_;refine zes (G.push L) (zt2 hd) (λx hx=>(zix hg hx).1) ?_;exact Ends.drop (zP hp) q
end
noncomputable def zeP(ms:List Mt)(r:List zd):List (List zd):=ms.filterMap (qD r)
noncomputable def jG(ms:List Mt)(r:List zd):List (List zd):=match r with|[]=>[]|_::t=>t::zeP ms r
noncomputable def zbv(row nx:List (List zd)):List (List zd):=nx.foldl (λw b=>if b∈w then w else w++[b]) row
noncomputable def zI(ms:List Mt)(g:List zd):Nat->List (List zd)
 | 0=>[g]
 | k+1=>match (zI ms g k)[k]? with|some r=>zbv (zI ms g k) (jG ms r)|none=>zI ms g k
def znE{r b:List zd}{m:Mt}(h:qD r m=some b):b.Sublist r.tail:=by
 unfold qD at h;split at h
 .exact absurd (Eq.symm h) (fH _)
 .rename_i x t
  split at h
  .rename_i hc
   obtain rfl:=Hw h;rw[fCS];have:(!decide (x∈zk m))=false:=by simp[hc.1]
   rw[this];simp only[gH,if_false,List.tail_cons];exact List.filter_sublist
  .exact absurd (Eq.symm h) (fH _)
def zcI{ms:List Mt}{r b:List zd}(h:b∈jG ms r):b.Sublist r.tail:=by
 unfold jG at h;split at h
 .cases h
 .rename_i x t
  rcases fG.mp h with rfl|h
  .exact List.Sublist.refl _
  .refine zb (fBH.mp h) λm _ hm=>?_;exact znE hm
def qm{ms:List Mt}{r b:List zd}(h:b∈jG ms r):b.length<r.length:=by
 have h1:=(zcI h).length_le;cases r with
 | nil=>cases h
 | cons x t=>simp at h1 ⊢;exact zCn h1
noncomputable def zoB:List zd->List (List zd)
 | []=>[[]]
 | x::t=>zoB t++(zoB t).map (x::·)
def zif:∀l:List zd,(zoB l).length=2 ^ l.length
 | []=>rfl
 | x::t=>by simp only[zoB,fE,fC,zif t,fP];lia
def znV{l b:List zd}(h:b.Sublist l):b∈zoB l:=by
 induction h with
 | slnil=>exact fJ.mpr rfl
 | cons a h ih=>exact gP _ ih
 | cons_cons a h ih=>exact gA _ (fQ.mpr (zc _ ih rfl))
def zhO{J:Type}[DecidableEq J]{l:List J}:∀{u:List J},l.Nodup->(∀x∈l,x∈u)->l.length<=u.length:=by
 induction l with
 | nil=>exact λ_ _=>fT _
 | cons a l ih=>
  intro u hn hs;have ha:=hs a fA;obtain⟨hn1,hn2⟩:=fX.mp hn;have:=ih (u:=u.erase a) hn2 λx hx=>(List.mem_erase_of_ne λe:x=a=>hn1 (by rw[<-e];exact hx)).mpr (hs x (fB _ hx));rw[List.length_erase_of_mem ha] at this;have h0:0<u.length:=List.length_pos_of_mem ha;simp only[fP];exact zCm this h0
def zpi(nx:List (List zd)):∀(row:List (List zd)),∃ex,zbv row nx=row++ex:=by
 induction nx with
 | nil=>exact λrow=>⟨[],(gQ _).symm⟩
 | cons b nx ih=>
  intro row;unfold zbv;rw[gZ];split
  .exact ih row
  .obtain⟨ex,h⟩:=ih (row++[b]);exact⟨b::ex,by unfold zbv at h;rw[h,gI];rfl⟩
def ziT(nx:List (List zd)):∀(row:List (List zd)),row.Nodup->(zbv row nx).Nodup:=by
 induction nx with
 | nil=>exact λrow h=>h
 | cons b nx ih=>
  intro row h;unfold zbv;rw[gZ];split
  .exact ih row h
  .rename_i hb
   refine ih (row++[b]) ?_;rw[pM];exact zq h (fX.mpr ⟨gM,.nil⟩) (λx hx y hy e=>hb (by simp at hy;rw[<-hy,<-e];exact hx))
def zhf{b:List zd}(nx:List (List zd)):∀(row:List (List zd)),b∈zbv row nx↔b∈row\/b∈nx:=by
 induction nx with
 | nil=>exact λrow=>⟨.inl,λh=>h.resolve_right gM⟩
 | cons c nx ih=>
  intro row;unfold zbv;rw[gZ];split
  .rename_i hc
   have:=ih row;unfold zbv at this;rw[this,fG];exact⟨λh=>h.elim .inl λh=>.inr (.inr h),λh=>h.elim .inl λh=>h.elim (λe=>.inl (e▸hc)) .inr⟩
  .have:=ih (row++[c]);unfold zbv at this;rw[this,fR,fJ,fG];exact⟨λh=>h.elim (λh=>h.elim .inl λh=>.inr (.inl h)) λh=>.inr (.inr h),λh=>h.elim (λh=>.inl (.inl h)) λh=>h.elim (λh=>.inl (.inr h)) .inr⟩
section
variable{ms:List Mt}{g:List zd}
def zat{k:Nat}{r:List zd}(h:(zI ms g k)[k]? = some r):zI ms g (k+1)=zbv (zI ms g k) (jG ms r):=by
 show (match (zI ms g k)[k]? with|some r=>zbv (zI ms g k) (jG ms r)|none=>zI ms g k)=_;rw[h]
def zoj(k j:Nat):∃ex,zI ms g (k+j)=zI ms g k++ex:=by
 induction j with
 | zero=>exact⟨[],(gQ _).symm⟩
 | succ j ih=>
  refine zY ih λex h=>?_;show ∃ex,(match (zI ms g (k+j))[k+j]? with|some r=>zbv (zI ms g (k+j)) (jG ms r)|none=>zI ms g (k+j))=_;cases (zI ms g (k+j))[k+j]? with
  | some r=>exact zY (zpi (jG ms r) (zI ms g (k+j))) λex' h'=>⟨ex++ex',h'.trans (by rw[h,gI])⟩
  | none=>exact⟨ex,h⟩
def zcj{k n:Nat}(h:k<=n):∃ex,zI ms g n=zI ms g k++ex:=by
 obtain⟨j,rfl⟩:=Nat.exists_eq_add_of_le h;exact zoj k j
def qy:∀k,(zI ms g k).Nodup
 | 0=>(fX.mpr ⟨gM,.nil⟩)
 | k+1=>by
  show (match (zI ms g k)[k]? with|some r=>zbv (zI ms g k) (jG ms r)|none=>zI ms g k).Nodup;split
  .exact ziT _ _ (qy k)
  .exact qy k
def kP(k:Nat):∀r∈zI ms g k,r.Sublist g:=by
 induction k with
 | zero=>intro r h;have:r=g:=fJ.mp h;subst this;exact List.Sublist.refl _
 | succ k ih=>
  intro r h;have h:r∈(match (zI ms g k)[k]? with|some r=>zbv (zI ms g k) (jG ms r)|none=>zI ms g k):=h;split at h
  .rename_i r' hr'
   rcases(zhf _ _).mp h with h|h
   .exact ih r h
   .exact((zcI h).trans (List.tail_sublist _)).trans (ih r' (pY hr'))
  .exact ih r h
def zkI{w:List (List zd)}(hn:w.Nodup)(hs:∀r∈w,r.Sublist g)(hg:g.length<=8):w.length<=256:=by
 refine fF (zhO hn λx hx=>znV (hs x hx)) ?_;rw[zif];exact fF (Nat.pow_le_pow_right (by decide) hg) (by decide)
def Turns(ms:List Mt)(g:List zd)(k:Nat):Prop:=k<=(zI ms g k).length/\∀j,j<k->j<(zI ms g j).length
def Turns.zero:Turns ms g 0:=⟨fT _,λj h=>absurd h (fB5 j)⟩
def Turns.succ{k:Nat}(h:Turns ms g k)(hk:k<(zI ms g k).length):Turns ms g (k+1):=by
 refine⟨?_,λj hj=>?_⟩
 .obtain⟨ex,e⟩:=zcj (ms:=ms) (g:=g) (fA7 k);rw[e,fE];exact zCo hk
 .rcases Nat.lt_or_ge j k with h1|h1
  .exact h.2 j h1
  .have:j=k:=by exact zCl hj h1
   subst this;exact hk
def End(ms:List Mt)(g:List zd)(n:Nat):Prop:=Turns ms g n/\(zI ms g n).length<=n
def End.closed{n:Nat}(h:End ms g n){r b:List zd}(hr:r∈zI ms g n)(hb:b∈jG ms r):b∈zI ms g n:=by
 obtain⟨j,hj⟩:=fAG.mp hr;have hl:j<(zI ms g n).length:=(fY.mp hj).1;have hjn:j<n:=pC hl h.2;have hjj:=h.1.2 j hjn;obtain⟨ex,e⟩:=zcj (ms:=ms) (g:=g) (fA0 hjn);have hj':(zI ms g j)[j]? = some r:=by rw[e,gW hjj] at hj;exact hj
 obtain⟨ex',e'⟩:=zcj (ms:=ms) (g:=g) (show j+1<=n from hjn);rw[e'];refine gP _ ?_;rw[zat hj'];exact(zhf _ _).mpr (.inr hb)
end
def IsMin(i:Int)(l:List Int):Prop:=i∈l/\∀b∈l,i<=b
def IsMin.vL{i j:Int}{l:List Int}(h:IsMin i l)(h':IsMin j l):i=j:=by
 have:=h.2 j h'.1;have:=h'.2 i h.1;exact zBX (by assumption) this
def ziZ(l:List Int):∀(a:Int),IsMin (l.foldl min a) (a::l):=by
 induction l with
 | nil=>exact λa=>⟨fA,λb hb=>(fJ.mp hb)▸fAW _⟩
 | cons x l ih=>
  intro a;have h:=ih (min a x);have h0:l.foldl min (min a x)<=min a x:=h.2 _ fA;refine⟨?_,fO.mpr ⟨zBZ h0,fO.mpr ⟨zB0 h0,λb hb=>h.2 b (fB _ hb)⟩⟩⟩
  rcases fG.mp h.1 with e|hm
  .rw[gZ,e]
   rcases fCV a x with q|q
   .rw[fB4 q];exact fA
   .rw[fBV q];exact fB _ fA
  .exact fB _ (fB _ hm)
noncomputable def lvF(ms:List Mt):Nat->List zd->Int
 | 0,_=>0
 | n+1,[]=>0
 | n+1,x::t=>((zeP ms (x::t)).map (lvF ms n)).foldl min (1+lvF ms n t)
def zrx(ms:List Mt)(n:Nat):∀(m:Nat) (r:List zd),r.length<=n->r.length<=m->lvF ms n r=lvF ms m r:=by
 induction n with
 | zero=>
  intro m r h _;rw[fAK (fC2.mp h)];cases m<;>rfl
 | succ n ih=>
  intro m r h1 h2;cases r with
  | nil=>cases m<;>rfl
  | cons x t=>
   cases m with
   | zero=>exact absurd h2 (Nat.not_succ_le_zero _)
   | succ m=>
    have h1:t.length+1<=n+1:=h1;have h2:t.length+1<=m+1:=h2;have e:(zeP ms (x::t)).map (lvF ms n)=(zeP ms (x::t)).map (lvF ms m):=pK λb hb=>by
     have h:b.length<t.length+1:=qm (ms:=ms) (r:=x::t) (b:=b) (fB _ hb);exact ih m b (zqv h1 h) (zqv h2 h)
    simp only[lvF];rw[e,ih m t (zmz h1) (zmz h2)]
structure Lv(ms:List Mt)(lv:List zd->Int):Prop where
 nil:lv []=0
 cons:∀x t,IsMin (lv (x::t)) ((1+lv t)::(zeP ms (x::t)).map lv)
noncomputable def zbj(ms:List Mt)(r:List zd):Int:=lvF ms r.length r
def zte(ms:List Mt):Lv ms (zbj ms):=by
 refine⟨rfl,λx t=>?_⟩;have e:(zeP ms (x::t)).map (zbj ms)=(zeP ms (x::t)).map (lvF ms t.length):=by
  refine pK λb hb=>zrx ms _ _ b (fN _) ?_;have:=qm (ms:=ms) (r:=x::t) (b:=b) (fB _ hb);simp at this;exact zse this
 rw[e];exact ziZ _ _
def zdq(ms:List Mt)(r:List zd):(tk ms r).map (·.2)=zeP ms r:=by
 unfold tk zeP;rw[List.map_filterMap]
 congr 1;funext m
 cases qD r m<;>rfl
def zjP{ms:List Mt}{r:List zd}:(tk ms r).length<=ms.length:=List.length_filterMap_le _ _
section
variable{kvs:Tab}{k k':List zd}{v:AV}
def Tab.at_some(h:k∈kvs.map (·.1)):(kvs.at k).isSome=true:=by
 unfold Tab.at;rw[Option.isSome_map,List.find?_isSome];refine zb (fQ.mp h) λx hx e12_2=>?_;subst e12_2;exact zc x hx (by simp)
def Tab.w0(h:k∉kvs.map (·.1)):kvs.at k=none:=by
 unfold Tab.at;rw[Option.map_eq_none_iff,List.find?_eq_none];intro x hx e;exact h (fQ.mpr (zc x hx (by simpa using e)))
def Tab.vA:(kvs.at k).isSome=decide (k∈kvs.map (·.1)):=by
 by_cases h:k∈kvs.map (·.1)
 .rw[Tab.at_some h,Hy h]
 .rw[Tab.w0 h,Hx h];rfl
def Tab.vB(h:k∉kvs.map (·.1)):(kvs.put k v).map (·.1)=kvs.map (·.1)++[k]:=by
 unfold Tab.put;rw[Tab.w0 h];simp
def Tab.vC(h:k∈kvs.map (·.1)):(kvs.put k v).map (·.1)=kvs.map (·.1):=by
 unfold Tab.put;rw[if_pos (Tab.at_some h),gD];apply pK;intro x _;simp only[Function.comp];split<;>rfl
def Tab.wV:(kvs.put k v).at k'=if k'=k then some v else kvs.at k':=by
 unfold Tab.put;split
 .rename_i hs
  induction kvs with
  | nil=>simp[Tab.at] at hs
  | cons x kvs ih=>
   unfold Tab.at at hs ih ⊢;rw[gG,pP,pP];rw[pP] at hs
   by_cases hx:x.1=k
   .rw[if_pos hx]
    by_cases hk:k'=k
    .rw[if_pos hk];simp[hx,hk]
    .rw[if_neg hk];have h1:decide (x.1=k')=false:=Hx λe=>hk (e.symm.trans hx);simp only[h1];clear hs ih
     induction kvs with
     | nil=>rfl
     | cons y kvs ih2=>
      rw[gG,pP,pP]
      by_cases hy:y.1=k
      .rw[if_pos hy];have h2:decide (y.1=k')=false:=Hx λe=>hk (e.symm.trans hy);simp only[h2];exact ih2
      .rw[if_neg hy]
       by_cases hy':y.1=k'
       .simp[hy']
       .simp only[Hx hy'];exact ih2
   .rw[if_neg hx]
    by_cases hx':x.1=k'
    .have hk:¬k'=k:=λe=>hx (hx'.trans e);rw[if_neg hk];simp[hx']
    .have h2:decide (x.1=k)=false:=Hx hx;simp only[h2] at hs;simp only[Hx hx'];exact ih hs
 .rename_i hs
  unfold Tab.at at hs ⊢;rw[List.find?_append]
  by_cases hk:k'=k
  .rw[if_pos hk];have:(kvs.find? λx=>decide (x.1=k'))=none:=by
    rw[hk];cases hf:kvs.find? λx=>decide (x.1=k) with
    | none=>rfl
    | some y=>rw[hf] at hs;exact absurd rfl hs
   rw[this];simp[hk]
  .rw[if_neg hk];have h1:decide (k=k')=false:=Hx λe=>hk e.symm;simp[pP,h1]
end
noncomputable abbrev zjh(w:List (List zd)):Tab:=w.map λr=>(r,.bool true)
def zhK(w:List (List zd)):(zjh w).map (·.1)=w:=by rw[gD];simp[Function.comp_def]
def zpM{w:List (List zd)}{b:List zd}(h:b∉w):(zjh w).put b (.bool true)=zjh (w++[b]):=by
 unfold Tab.put;rw[Tab.w0 (by rw[zhK];exact h)];simp[zjh]
def zsH{ms:List Mt}{done rest:List (List zd)}{r b:List zd}(hs:(done++r::rest).Pairwise λx y=>x.length<=y.length)(hb:b∈done++r::rest)(hn:b∈jG ms r):b∈done:=by
 have hlt:=qm hn
 rcases fR.mp hb with h|h
 .exact h
 .have h2:=(gC.mp hs).2.1
  rcases fG.mp h with rfl|h
  .exact absurd hlt (fAX _)
  .exact absurd ((gK.mp h2).1 b h) (fC4.mpr hlt)
section
variable{P:Hj}{X:Cx}{n:Nat}{Q:zm}{Z:XP}{U:AHeap}
def Sub(U U':AHeap):Prop:=∀a o,U a=some o->U' a=some o
def Sub.put{U U':AHeap}{p:Addr}{o:AO}(e:Sub U U')(h:U p=none):Sub U (U'.set p o):=λa o' q=>by
 rw[AHeap.wB _ _ (by rintro rfl;rw[h] at q;cases q)];exact e a o' q
def Sub.none{U U':AHeap}(h:Sub U U'){p:Addr}(e:U' p=none):U p=none:=by
 cases q:U p with
 | none=>rfl
 | some o=>rw[h p o q] at e;exact absurd e (fH _)
def kn(r:List zd):∀x∈r.map zD,Flat 1 x:=λx hx=>by refine zb (fQ.mp hx) λm _ e0_2=>?_;subst e0_2;exact za6 m
def zgq{r:List zd}{R:Bool->AHeap->Prop}(q:R r.isEmpty U):eqG (zA r) (.tup []) R U:=zkb (kn r) (by decide) (by rw[fCT];exact q)
structure Reach(ms:List Mt)(g:List zd)(W:List (List zd)):Prop where
 self:g∈W
 closed:∀r∈W,∀b∈jG ms r,b∈W
 sub:∀r∈W,r.Sublist g
def zh2{r:Bool}{xs:List (List zd)}(q:∀ys:List (List zd),ys.Perm xs->ys.Pairwise (λx y=>x.length<=y.length)->mkL r (ys.map zA) Q U):zcm r (xs.map zA) Q U:=by
 have un:∃u:AV->List zd,∀x,u (zA x)=x:=⟨λv=>match v with
  | .tup l=>l.map λv=>match v with
   | .tup [.str s,.int k]=>(Nat.beq s 1,k)
   | _=>(false,0)
  | _=>[],λx=>by
   show (x.map zD).map _=x;rw[gD];refine(pK λm _=>?_).trans (fBL x);obtain⟨b,i⟩:=m;cases b<;>rfl⟩
 obtain⟨u,hu⟩:=un;unfold zcm;refine⟨λv hv=>by refine zb (fQ.mp hv) λx _ e3_2=>?_;subst e3_2;exact⟨_,rfl⟩,λys h1 h2=>?_⟩;obtain⟨p1,p2⟩:=zgp hu h1;rw[p2] at h2 ⊢;refine q _ p1 ?_;rw[fAV] at h2;refine h2.imp λ{a b} h=>?_;have e:∀x:List zd,zjQ (zA x)=x.length:=λx=>fC ..;rw[e,e] at h;exact h
noncomputable def tbL(g:List zd)(ms:List Mt)(rm rr:Addr)(k:Int)(a b c d e:Option AV):Loc:=[some (gAV g),some (.lst (ms.map zC)),some (zA g),some (.ref rm),some (.ref rr),some (.int k),a,b,c,d,e]
structure GrI(U:AHeap)(g:List zd)(ms:List Mt)(rm rr:Addr)(k:Int)(a b:Option AV)(xs w:List (List zd))(l:Loc)(U':AHeap):Prop where
 e:Sub U U'
 lr:U' rr=some (.list (w.map zA))
 lm:U' rm=some (.tdict (zjh w))
 hl:∃c,l=tbL g ms rm rr k a b c none none
 wn:w.Nodup
 ws:∀r∈w,r.Sublist g
 hx:∀b∈xs,b.Sublist g
def zph{d:Dp}{g:List zd}{ms:List Mt}{rm rr:Addr}{k:Int}{a b:Option AV}(hgl:g.length<=8)(hm:U rm=none)(hr:U rr=none)(hn:rr≠rm){x:List zd}{xs w:List (List zd)}{l:Loc}{U':AHeap}{I:AHeap->Prop}{K:Loc->AHeap->Prop}{S:zU}(hI:∀U,I U)
  (h:GrI U g ms rm rr k a b (x::xs) w l U')(hK:∀l' U',GrI U g ms rm rr k a b xs (if x∈w then w else w++[x]) l' U'->K l' U'):∃l',j5 (.one 8) (zA x) l=some l'/\zbB X d l' (Gz I K S) G0 U':=by
 refine zY h.hl λc el=>?_;subst el;have hx:=fO.mp h.hx;have hw256:=zkI h.wn h.ws hgl;refine zc _ rfl ?_;refine zpk h.lm ?_;rw[Tab.vA,zhK]
 by_cases hw:x∈w
 .rw[if_pos hw] at hK;rw[Hy hw];exact⟨hI _,hK _ _ ⟨h.e,h.lr,h.lm,⟨_,rfl⟩,h.wn,h.ws,hx.2⟩⟩
 .rw[if_neg hw] at hK;rw[Hx hw];refine zei h.lm (by rw[fC];exact zt4 hw256) ?_;rw[zpM hw];have lr3:=(AHeap.wB U' (.tdict (zjh (w++[x]))) hn).trans h.lr;refine zp lr3 (zp lr3 (zJ (by rw[fC];exact zw2 hw256) ?_));refine⟨hI _,hK _ _ ⟨(h.e.put hm).put hr,by rw[AHeap.wA,fU];rfl,by rw[AHeap.wB _ _ hn.symm,AHeap.wA],⟨_,rfl⟩,?_,?_,hx.2⟩⟩
  .exact pM.mpr ⟨h.wn,fX.mpr ⟨gM,.nil⟩,λy hy z hz e=>hw (fJ.mp hz▸e▸hy)⟩
  .exact λr h'=>(fR.mp h').elim (h.ws r) λh'=>fJ.mp h'▸hx.1
structure LsI(U:AHeap)(g:List zd)(ms:List Mt)(rm rr rl:Addr)(k:Int)(ys xs b:List (List zd))(l:Loc)(U':AHeap):Prop where
 e:Sub U U'
 hy:b++xs=ys
 tb:∃kvs:Tab,U' rl=some (.tdict kvs)/\kvs.map (·.1)=b/\∀k∈b,Tab.at kvs k=some (.int (zbj ms k))
 hl:∃a b c e,l=tbL g ms rm rr k a b c (some (.ref rl)) e
def zpE{d:Nat}(G:Gd X (hK P))(hd:d<561){g:List zd}{ms:List Mt}{rm rr rl:Addr}{k:Int}(hm:∀m∈ms,zlR m)(hml:ms.length<=100000)(h0:U rl=none){ys:List (List zd)}(hyn:ys.Nodup)(hyl:ys.length<=256)(hs:ys.Pairwise λx y=>x.length<=y.length)(hc:∀r∈ys,∀b∈jG ms r,b∈ys)(h8:∀r∈ys,r.length<=8)
  {r:List zd}{xs b:List (List zd)}{l:Loc}{U':AHeap}{I:AHeap->Prop}{K:Loc->AHeap->Prop}{S:zU}(hI:∀U,I U)(h:LsI U g ms rm rr rl k ys (r::xs) b l U')(hK:∀l' U',LsI U g ms rm rr rl k ys xs (b++[r]) l' U'->K l' U'):∃l',j5 (.one 6) (zA r) l=some l'/\zd7 X ⟨d,false⟩ l' (Gz I K S) G0 U':=by
 refine zbS h.hl λa' b' c' c'' el=>?_;refine zl h.tb λkvs ll hk hv=>?_;subst el;have hy:=h.hy;have hry:r∈ys:=by rw[<-hy];exact gA _ fA
 have hrl:=h8 r hry;have hbl:b.length<=256:=by rw[<-hy,fE] at hyl;exact zxO hyl
 have hkl:kvs.length<=256:=by have:=congrArg List.length hk;rw[fC] at this;exact zyq hbl this
 have hnew:r∉b:=by
  rw[<-hy] at hyn;exact λh=>(pM.mp hyn).2.2 r h r fA rfl
 have hnew':r∉kvs.map (·.1):=by rw[hk];exact hnew
 have fin:∀σ2 (kv2:Tab) a b0 c c',Sub U σ2->σ2 rl=some (.tdict kv2)->kv2.map (·.1)=b++[r]->Tab.at kv2 r=some (.int (zbj ms r))->(∀b,b≠r->Tab.at kv2 b=Tab.at kvs b)->I σ2/\K (tbL g ms rm rr k a b0 c (some (.ref rl)) c') σ2:=λσ2 kv2 a b0 c c' g1 g3 g4 g5 g6=>
  ⟨hI _,hK _ _ ⟨g1,by rw[gI];exact hy,zv kv2 g3 g4 (λz hz=>(fR.mp hz).elim (λh=>(g6 z λe=>hnew (e▸h)).trans (hv z h)) λh=>by rw[fJ.mp h];exact g5),_,_,_,_,rfl⟩⟩
 have hav:∀b∈jG ms r,Tab.at (kvs.put r (.int 0)) b=some (.int (zbj ms b)):=λc hb=>by
  have hcm:=hc r hry c hb;rw[<-hy] at hs hcm;have hbm:=zsH hs hcm hb;rw[Tab.wV,if_neg λe:c=r=>hnew (e▸hbm)];exact hv c hbm
 have hl1:(kvs.put r (.int 0)).length<=300:=by have:=Tab.wX kvs r (.int 0);exact zyr hkl this
 have hk1:(kvs.put r (.int 0)).map (·.1)=b++[r]:=by rw[Tab.vB hnew',hk]
 have hat:∀b,b≠r->Tab.at (kvs.put r (.int 0)) b=Tab.at kvs b:=λb hb=>by rw[Tab.wV,if_neg hb]
 have hat0:Tab.at (kvs.put r (.int 0)) r=some (.int 0):=by rw[Tab.wV,if_pos rfl]
 refine zc _ rfl ?_;refine zei ll (zt4 hkl) ?_;have e6:Sub U (U'.set rl (.tdict (kvs.put r (.int 0)))):=h.e.put h0;have l6:(U'.set rl (.tdict (kvs.put r (.int 0)))) rl=some (.tdict (kvs.put r (.int 0))):=AHeap.wA ..;generalize U'.set rl (.tdict (kvs.put r (.int 0)))=σ6 at e6 l6;generalize kvs.put r (.int 0)=kv1 at hav hl1 hk1 hat hat0 l6;refine zgq ?_;cases r with
 | nil=>exact fin _ _ _ _ _ _ e6 l6 hk1 hat0 hat
 | cons x t=>
  refine zau G (fM hd (by decide)) (zt6 hrl) hm hml ?_;have htl:=zjP (ms:=ms) (r:=x::t);refine zX (λz=>.int (zbj ms z.2)) (λ_=>rfl) (λ_ _=>rfl) (λz hz R q=>zb1 l6 (hav _ (fB _ (by rw[<-zdq];exact pE hz))) q) trivial (zsj hml htl) ?_;refine zb1 (k:=t) l6 (hav t fA) ?_;refine zJ (by rw[fC,fV];exact zuD hml htl) ?_;rw[show [AV.int (1+zbj ms t)]++(tk ms (x::t)).map (λz=>AV.int (zbj ms z.2))=((1+zbj ms t)::(zeP ms (x::t)).map (zbj ms)).map .int by rw[<-zdq,gD,gG,gD];rfl];refine zkr (λe=>nomatch e) λM hM1 hM2=>?_;have hMv:M=zbj ms (x::t):=IsMin.vL ⟨hM1,hM2⟩ ((zte ms).cons x t);subst hMv;refine zei l6 (zw5 hl1) ?_;exact fin _ _ _ _ _ _ (e6.put h0) (AHeap.wA ..) ((Tab.vC (by rw[hk1];exact gA _ fA)).trans hk1) (by rw[Tab.wV,if_pos rfl]) λb hb=>by rw[Tab.wV,if_neg hb];exact hat b hb
structure TbI(U:AHeap)(g:List zd)(ms:List Mt)(rm rr:Addr)(k:Nat)(U':AHeap):Prop where
 ht:Turns ms g k
 e:Sub U U'
 lr:U' rr=some (.list ((zI ms g k).map zA))
 lm:U' rm=some (.tdict (zjh (zI ms g k)))
def TbJ(U:AHeap)(g:List zd)(ms:List Mt)(rm rr:Addr)(n:Nat)(l:Loc)(U':AHeap):Prop:=∃k:Nat,n=257-k/\TbI U g ms rm rr k U'/\∃a b c,l=tbL g ms rm rr k a b c none none
def zoD(G:Gd X (hK P))(hd:n<560){g:List zd}{ms:List Mt}(hgl:g.length<=8)(hm:∀m∈ms,zlR m)(hml:ms.length<=100000)
  (q:∀r kvs W,U r=none->Reach ms g W->(∀k∈W,Tab.at kvs k=some (.int (zbj ms k)))->Q (.ref r) (U.set r (.tdict kvs))):CallOk X 159 ⟨n,false⟩ [gAV g,.lst (ms.map zC)] Q Z U:=by
 refine zpy G (fM hd (by decide)) λL=>?_;intro rm hrm;refine zv g rfl (AHeap.wA ..) ?_;intro rr hrr;rw[zdp] at hrr ⊢;have hrr0:U rr=none:=Sub.none (zP hrm) hrr;have hnr:rr≠rm:=λe=>by rw[e,AHeap.wA] at hrr;exact absurd hrr (fH _)
 refine⟨TbJ U g ms rm rr,257,⟨0,rfl,⟨.zero,λa o h=>zP hrr a o (zP hrm a o h),AHeap.wA ..,by rw[AHeap.wB _ _ hnr.symm,AHeap.wA];rfl⟩,_,_,_,rfl⟩,?_⟩;intro N l' U' hR;refine zl hR λk eN H hR=>qU hR λa b c el=>?_;subst el eN;have hlen:(zI ms g k).length<=256:=zkI (qy k) (kP k) hgl;refine zf (zz H.lr) ?_;rw[fC];refine zaH (λhc=>?_) λhc=>?_
 .have hc:k<(zI ms g k).length:=fA1.mp (Hz hc);obtain⟨r,hr⟩:∃r,(zI ms g k)[k]? = some r:=⟨_,fW hc⟩
  have hrm':r∈zI ms g k:=pY hr;have hrg:=kP k r hrm';have hrl:r.length<=8:=fF hrg.length_le hgl;refine jt H.lr (zf (qb hr) ?_);have tail:∀c {S:zU},(∀l σ2,GrI U g ms rm rr ((k:Int)+1) (some (zA r)) (some (.lst ((jG ms r).map zA))) [] (zI ms g (k+1)) l σ2->S .next l σ2)->zhd (λ_=>True) (.one 8) (zbB (X.push L)) ⟨n+1,false⟩ S ((jG ms r).map zA) (tbL g ms rm rr ((k:Int)+1) (some (zA r)) (some (.lst ((jG ms r).map zA))) c none none) U':=λc S q=>
   zF (g:=zA) (GrI U g ms rm rr ((k:Int)+1) (some (zA r)) (some (.lst ((jG ms r).map zA)))) (λw b=>if b∈w then w else w++[b]) (λx xs w l σ2 K S_ h hK=>zph hgl hrm hrr0 hnr (λ_=>trivial) h hK) (b:=zI ms g k) (λl σ2 h=>q l σ2 (zat hr▸h)) ⟨H.e,H.lr,H.lm,⟨_,rfl⟩,qy k,kP k,λb hb=>((zcI hb).trans (List.tail_sublist _)).trans hrg⟩
  have fin:∀{S:zU},(∀l σ2,TbJ U g ms rm rr (257-(k+1)) l σ2->S .next l σ2)->∀l σ2,GrI U g ms rm rr ((k:Int)+1) (some (zA r)) (some (.lst ((jG ms r).map zA))) [] (zI ms g (k+1)) l σ2->S .next l σ2:=λq l σ2 h=>
   zY h.hl λc el=>q l σ2 ⟨k+1,rfl,⟨H.ht.succ hc,h.e,h.lr,h.lm⟩,_,_,_,el⟩
  have hlt:257-(k+1)<257-k:=zqs (a:=256) (pC hc hlen);refine zgq ?_;cases r with
  | nil=>exact zc _ hlt ⟨k+1,rfl,⟨H.ht.succ hc,H.e,by rw[zat hr];exact H.lr,by rw[zat hr];exact H.lm⟩,_,_,_,rfl⟩
  | cons x t=>
   refine zau (G.push L) (zt1 hd) (zt6 hrl) hm hml ?_;have htl:=zjP (ms:=ms) (r:=x::t);refine zX (λz=>zA z.2) (λ_=>rfl) (λ_ _=>rfl) (λz hz R q=>q) trivial (zsj hml htl) ?_;refine zJ (by rw[fC,fV];exact zuD hml htl) ?_;have e8:[AV.tup (List.drop (Int.toNat 1) (List.map zD (x::t)))]++(tk ms (x::t)).map (λz=>zA z.2)=(jG ms (x::t)).map zA:=by
    show zA t::_=zA t::_;rw[<-zdq,gD];rfl
   rw[e8];refine tail c (fin ?_);exact λl σ2 h=>zc _ hlt h
 .have hE:End ms g k:=⟨H.ht,pL.mp λh=>of_decide_eq_false hc (fA1.mpr h)⟩
  intro rl hrl;have hrl0:=H.e.none hrl;have hlr:rr≠rl:=λe=>by rw[<-e,H.lr] at hrl;exact absurd hrl (fH _)
  refine zf (zz ((AHeap.wB _ _ hlr).trans H.lr)) ?_;refine zh2 λys hp hs=>?_;refine zF (g:=zA) (LsI U g ms rm rr rl k ys) (λb x=>b++[x]) (λr xs b l σ2 K S_ h hK=>zpE (G.push L) (gJ hd) hm hml hrl0 (hp.nodup_iff.mpr (qy k)) (by rw[hp.length_eq];exact hlen) hs (λr hr b hb=>hp.mem_iff.mpr (hE.closed (hp.mem_iff.mp hr) hb)) (λr hr=>fF (kP k r (hp.mem_iff.mp hr)).length_le hgl) (λ_=>trivial) h hK) (b:=[]) (λl σ2 h=>?_) ⟨H.e.put hrl0,rfl,zv [] (AHeap.wA ..) rfl (λk hk=>nomatch hk),_,_,_,_,rfl⟩;rw[show ys.foldl (λb x=>b++[x]) []=ys by have:=zaL (λx:List zd=>[x]) ys [];rw[this,fA4,List.flatMap_singleton']] at h;refine zbS h.hl λa' b' c' c'' el=>zl h.tb λkvs ll hk hv=>?_;subst el;refine Ends.drop (U':=U.set rl (.tdict kvs)) (λa o ho=>?_) (q rl kvs ys hrl0 ⟨hp.mem_iff.mpr ?_,λr hr b hb=>hp.mem_iff.mpr (hE.closed (hp.mem_iff.mp hr) hb),λr hr=>kP k r (hp.mem_iff.mp hr)⟩ hv)
  .by_cases ha:a=rl
   .rw[ha,AHeap.wA] at ho;rw[ha,ll,ho]
   .rw[AHeap.wB _ _ ha] at ho;exact h.e a o ho
  .refine zY (zcj (ms:=ms) (g:=g) (fT k)) λex e=>?_;rw[e];exact gP _ (fJ.mpr rfl)
end
section
variable{P:Hj}{X:Cx}{n:Nat}{Q:zm}{Z:XP}{U:AHeap}
def za7(m:Mt):Flat 2 (zC m):=.tup λx hx=>by
 rcases fG.mp hx with rfl|hx
 .exact zfn m.1
 .rw[fJ.mp hx];exact zfn m.2
def zqb(z:Mt×List zd):Flat 3 (zqa z):=.tup λx hx=>by
 rcases fG.mp hx with rfl|hx
 .exact za7 z.1
 .rw[fJ.mp hx];exact .tup (kn z.2)
def zfU{xs:List AV}{k:Nat}{R:Bool->AHeap->Prop}(hf:∀x∈xs,Flat k x)(hk:k<100)(q:R xs.isEmpty U):eqG (.lst xs) (.lst []) R U:=by
 refine zaK (k:=k+1) (j:=1) (.lst hf) (.lst λx hx=>nomatch hx) hk (λh=>?_) λh=>?_
 .cases h;exact q
 .cases xs with
  | nil=>exact absurd rfl h
  | cons _ _=>exact q
noncomputable def zbp(ms:List Mt)(r:List zd):List (Mt×List zd):=(tk ms r).filter λz=>decide (zbj ms z.2=zbj ms r)
noncomputable def pkF(ms:List Mt)(n:Nat)(r:List zd):List Mt:=match n,r with
 | 0,_=>[]
 | _+1,[]=>[]
 | n+1,x::t=>match zbp ms (x::t) with
  | []=>pkF ms n t
  | z::_=>z.1::pkF ms n z.2
noncomputable def pk(ms:List Mt)(r:List zd):List Mt:=pkF ms r.length r
def qZ{ms:List Mt}{r:List zd}{z:Mt×List zd}(h:z∈zbp ms r):r≠[]/\z.2∈jG ms r/\z.1∈ms/\qD r z.1=some z.2:=by
 have h1:=(fZ.mp h).1;refine zb (fBH.mp h1) λm hm h2=>?_;refine zb (fAA.mp h2) λb h3 e1_2=>?_;subst e1_2;cases r with
 | nil=>cases h3
 | cons x t=>exact zt (λe=>nomatch e) (fB _ (fBH.mpr (zc m hm h3))) hm h3
def zrM(ms:List Mt):∀(n m:Nat) (r:List zd),r.length<=n->r.length<=m->pkF ms n r=pkF ms m r:=by
 intro n
 induction n with
 | zero=>intro m r h1 h2;rw[gO.mp (fC2.mp h1)];cases m<;>rfl
 | succ n ih=>
  intro m r h1 h2;cases r with
  | nil=>cases m<;>rfl
  | cons x t=>
   cases m with
   | zero=>cases h2
   | succ m=>
    rw[fP] at h1 h2;unfold pkF;cases hg:zbp ms (x::t) with
    | nil=>exact ih m t (zmz h1) (zmz h2)
    | cons z zs=>
     have h3:=qm (qZ (ms:=ms) (r:=x::t) (z:=z) (by rw[hg];exact fA)).2.1;rw[fP] at h3;dsimp only;rw[ih m z.2 (zqv h1 h3) (zqv h2 h3)]
def zob(ms:List Mt):pk ms []=[]:=rfl
def zkx{ms:List Mt}{x:zd}{t:List zd}(h:zbp ms (x::t)=[]):pk ms (x::t)=pk ms t:=by
 show pkF ms (t.length+1) (x::t)=_;unfold pkF;rw[h];rfl
def zky{ms:List Mt}{x:zd}{t:List zd}{z:Mt×List zd}{zs:List (Mt×List zd)}(h:zbp ms (x::t)=z::zs):pk ms (x::t)=z.1::pk ms z.2:=by
 have h3:=qm (qZ (ms:=ms) (r:=x::t) (z:=z) (by rw[h];exact fA)).2.1;show pkF ms (t.length+1) (x::t)=_;unfold pkF;rw[h];dsimp only;rw[zrM ms t.length z.2.length z.2 (zse h3) (fN _)];rfl
def zlT(G:Gd X (hK P))(hd:n<550){g:List zd}{ms:List Mt}(hgl:g.length<=8)(hm:∀m∈ms,zlR m)(hml:ms.length<=100000)(q:Q (.lst ((pk ms g).map zC)) U):CallOk X 164 ⟨n,false⟩ [gAV g,.lst (ms.map zC)] Q Z U:=by
 refine znz G (fM hd (by decide)) λL=>?_;refine zoD (G.push L) (zwN hd) hgl hm hml λrt kvs W hrt hW hkv=>?_;intro rf hrf;have hrf0:U rf=none:=Sub.none (zP hrt) hrf;have hne:rt≠rf:=by rintro rfl;rw[AHeap.wA] at hrf;exact absurd hrf (fH _)
 have e0:Sub U ((U.set rt (.tdict kvs)).set rf (.list [])):=λa o h=>zP hrf a o (zP hrt a o h);have lt0:((U.set rt (.tdict kvs)).set rf (.list [])) rt=some (.tdict kvs):=by rw[AHeap.wB _ _ hne,AHeap.wA]
 have lf0:((U.set rt (.tdict kvs)).set rf (.list [])) rf=some (.list (([]:List Mt).map zC)):=AHeap.wA ..;generalize (U.set rt (.tdict kvs)).set rf (.list [])=U0 at e0 lt0 lf0;refine⟨λn l' U'=>∃(r:List zd) (fs:List Mt) (a5:Option AV),n=r.length/\Sub U U'/\U' rf=some (.list (fs.map zC))/\U' rt=some (.tdict kvs)/\r∈W/\fs++pk ms r=pk ms g/\fs.length+r.length<=8/\l'=[some (gAV g),some (.lst (ms.map zC)),some (.ref rt),some (zA r),some (.ref rf),a5],
  g.length,(zeL g [] _ rfl e0 lf0 lt0 hW.self rfl (by rw[pQ];exact zw6 hgl) rfl),?_⟩
 clear e0 lt0 lf0;intro N l' U' hR1;refine zeI hR1 λr fs a5 e0_3 e lf lt' hrW hpk hlen e0_10=>?_;subst e0_3;subst e0_10;refine zgq ?_;cases r with
 | nil=>
  rw[zob,gQ] at hpk;rw[<-hpk] at q;exact Ends.one e lf hrf0 q
 | cons x t=>
  refine zau (G.push L) (zwO hd) (by rw[fP];exact zxQ hlen) hm hml ?_;have hnx:∀z∈tk ms (x::t),z.2∈jG ms (x::t):=λz hz=>fB _ (by rw[<-zdq];exact pE hz);have htl:=zjP (ms:=ms) (r:=x::t);refine z9 (λz=>decide (zbj ms z.2=zbj ms (x::t))) zqa (λ_=>rfl) (λ_ _=>rfl) (λz hz R q=>?_) (λz hz _ R q=>q) trivial (zsj hml htl) ?_
  .refine zb1 lt' (hkv _ (hW.closed _ hrW _ (hnx z hz))) ?_;refine zb1 lt' (hkv _ hrW) ?_;exact q
  refine zfU (k:=3) (λy hy=>by refine zb (fQ.mp hy) λz _ e2_2=>?_;subst e2_2;exact zqb z) (by decide) ?_;cases hg:zbp ms (x::t) with
  | nil=>
   unfold zbp at hg;rw[hg];exact zax t.length (by rw[fP];exact zoQ) t fs _ rfl e lf lt' (hW.closed _ hrW t fA) (by rw[<-hpk,zkx hg]) (zxG hlen) rfl
  | cons z zs=>
   have hz:=qZ (ms:=ms) (r:=x::t) (z:=z) (by rw[hg];exact fA);have h3:=qm hz.2.1;have hps:=zky hg;unfold zbp at hg;rw[hg];refine zp lf ?_;refine zp lf ?_;refine zJ (by rw[fC];exact zxF hlen) ?_;refine zax z.2.length (by rw[fP];exact zxU h3) z.2 (fs++[z.1]) _ rfl (e.put hrf0) ?_ ?_ (hW.closed _ hrW _ hz.2.1) ?_ ?_ rfl
   .rw[AHeap.wA,fU];rfl
   .rw[AHeap.wB _ _ hne];exact lt'
   .rw[<-hpk,hps,gI];rfl
   .rw[fE,fV];exact zyX hlen h3
end
section
variable{P:Hj}{X:Cx}{n:Nat}{Q:zm}{Z:XP}{U:AHeap}
structure Led where
 es:List Ent
 fs:List Ent
 span:Int
 tick:List Mt
 clos:List Mt
structure LA where
 self:Addr
 dx:Addr
 rd:Addr
 pb:Addr
 pk:Addr
 pt:Addr
 pc:Addr
noncomputable def zi9(a:LA)(D:Led):List (Nat×AV):=[(3,.int D.span),(4,.ref a.rd),(5,.ref a.pt),(6,.ref a.pc)]
structure LAt(U:AHeap)(a:LA)(D:Led):Prop where
 s:U a.self=some (.inst 245 a.dx)
 d:U a.dx=some (.idict (zi9 a D))
 r:U a.rd=some (.idict [(0,.ref a.pb),(1,.ref a.pk)])
 b:U a.pb=some (.list (D.es.map zw))
 k:U a.pk=some (.list (D.fs.map zw))
 t:U a.pt=some (.list (D.tick.map zC))
 c:U a.pc=some (.list (D.clos.map zC))
 dr:a.dx≠a.rd
 nd:[a.pb,a.pk,a.pt,a.pc].Nodup
def zlQ(m:Mt):Prop:=SmM m/\m.1≠[]/\m.2≠[]
structure LOk(D:Led):Prop where
 es:EsOk D.es
 fs:EsOk D.fs
 few:D.es.length<=80/\D.fs.length<=80
 tick:∀m∈D.tick,zlQ m
 clos:∀m∈D.clos,zlQ m
 tl:D.tick.length<=1000
 cl:D.clos.length<=1000
noncomputable def Led.row(D:Led)(s:Bool):List Ent:=if s then D.fs else D.es
noncomputable def LA.row(a:LA)(s:Bool):Addr:=if s then a.pk else a.pb
noncomputable def Led.grps(D:Led):List (List zd):=Mine.Internal.grps D.es D.fs D.span
def LAt.row{a:LA}{D:Led}(h:LAt U a D)(s:Bool):U (a.row s)=some (.list ((D.row s).map zw)):=by
 cases s with
 | false=>exact h.b
 | true=>exact h.k
def qI{a:LA}{D:Led}(h:LAt U a D){s:Bool}(q:Q (.ref (a.row s)) U):zdK a.rd (.str s.toNat) Q U:=by
 refine qH h.r ?_;cases s<;>exact q
def zbl(G:Gd X (hK P))(hd:n<570){a:LA}{D:Led}(h:LAt U a D)(ho:LOk D)(q:Q (.lst (D.grps.map gAV)) U):CallOk X 185 ⟨n,false⟩ [.ref a.self] Q Z U:=by
 refine zb3 G (fM hd (by decide)) λL=>?_;refine ze h.s h.d ?_;refine qI (s:=false) h ?_;refine ze h.s h.d ?_;refine qI (s:=true) h ?_;refine ze h.s h.d ?_;refine zlk (G.push L) (zt2 hd) h.b h.k ho.es ho.fs ?_;exact Ends.same q
noncomputable def Led.holding(D:Led)(m:zd):List (List zd):=D.grps.filter λg=>decide (m∈g)
def grps_len{ts:List Tr}{span:Int}(b:List (List zd)×Option Int):(ts.foldl (jQ span) b).1.length<=b.1.length+ts.length:=by
 induction ts generalizing b with
 | nil=>exact fN _
 | cons t ts ih=>
  have h:(jQ span b t).1.length<=b.1.length+1:=by
   unfold jQ jw;dsimp only;split
   .rename_i hg
    split at hg<;>simp_all
   .rename_i g hg
    have:(if zc7 span b.2 t.1 then b.1++[[]] else b.1).length<=b.1.length+1:=by split<;>simp
    rw[fE,List.length_dropLast,fV];have hne:(if zc7 span b.2 t.1 then b.1++[[]] else b.1)≠[]:=λe=>by rw[e] at hg;cases hg
    have:=fB8.mpr hne;exact zx6 (by assumption)
  have:=ih (jQ span b t);exact zA2 h this
def Led.grps_len{D:Led}(h:LOk D):D.grps.length<=10000:=by
 have h1:=Mine.Internal.grps_len (ts:=inO D.es D.fs) (span:=D.span) ([],none);have h2:=zae D.es D.fs;have:=h.few;unfold Led.grps Mine.Internal.grps;exact zAG h1 h2 this
def qw(G:Gd X (hK P))(hd:n<560){a:LA}{D:Led}(h:LAt U a D)(ho:LOk D){m:zd}{g:List zd}{gs:List (List zd)}(hg:D.holding m=g::gs)(q:Q (gAV g) U):CallOk X 228 ⟨n,false⟩ [.ref a.self,.str m.1.toNat,.int m.2] Q Z U:=by
 refine zdS G (fM hd (by decide)) λL=>?_;refine ze h.s h.d ?_;refine zbl (G.push L) (zt1 hd) h ho ?_;have:=Led.grps_len ho;refine z9 (λg=>decide (m∈g)) gAV (λ_=>rfl) (λ_ _=>rfl) (λg _ R q=>?_) (λg _ _ R q=>q) trivial (zwY this) ?_
 .exact inM (.inl rfl) q
 unfold Led.holding at hg;rw[hg];exact Ends.same q
def zg9(G:Gd X (hK P))(hd:n<560){a:LA}{D:Led}(h:LAt U a D){s:Bool}{k:Nat}{e:Ent}(he:(D.row s)[k]? = some e)(q:Q (zw e) U):CallOk X 204 ⟨n,false⟩ [.ref a.self,.str s.toNat,.int k] Q Z U:=by
 refine zpw G (fM hd (by decide)) λL=>?_;refine ze h.s h.d ?_;refine qI h ?_
 conv=>whnf
 exact jt (h.row s) (zf (qb he) (Ends.same q))
def j3{hb:Bool}(G:Gd X (hK P))(hd:n<560){a:LA}{D:Led}(h:LAt U a D)(ho:LOk D)(q:Q (.lst ((srt num D.tick).map zC)) U):CallOk X 211 ⟨n,hb⟩ [.ref a.self] Q Z U:=by
 refine zly G (fM hd (by decide)) λL=>?_;refine ze h.s h.d ?_
 conv=>whnf
 refine zf (zz h.t) ?_;refine zes (G.push L) (zwP hd) (λm hm=>(ho.tick m hm).1) ?_;exact Ends.same q
noncomputable def Led.told(D:Led):List zd:=D.tick.flatMap zk
noncomputable def Led.left(D:Led)(s:Bool):List Nat:=(List.range (D.row s).length).filter λi=>!decide ((s,(i:Int))∈D.told)
def zfg{m:Mt}(h:SmM m):(zk m).length<=6:=by
 unfold zk;rw[fE,fC,fC];have h1:m.1.length<=3:=h.1.1;have h2:m.2.length<=3:=h.2.1;exact zx9 h1 h2
def zkj(G:Gd X (hK P))(hd:n<560){a:LA}{D:Led}(h:LAt U a D)(ho:LOk D){s:Bool}(q:Q (.lst ((D.left s).map λi:Nat=>.int i)) U):CallOk X 223 ⟨n,false⟩ [.ref a.self,.str s.toNat] Q Z U:=by
 refine zrs G (fM hd (by decide)) λL=>?_;have htl:=ho.tl;refine ze h.s h.d ?_
 conv=>whnf
 refine zf (zz h.t) ?_;refine zF (g:=zC) (λxs b l U'=>U=U'/\(∃u,l=[some (.ref a.self),some (.str s.toNat),some (.lst (b.map zD)),u])/\b.length+6*xs.length<=6000/\∀m∈xs,m∈D.tick) (λb m=>b++zk m) ?_ (b:=[]) ?_ (zt rfl ⟨_,rfl⟩ (by rw[pQ];exact zDl htl) (λm hm=>hm))
 .rintro m xs b l U' K S_ ⟨rfl,⟨u,rfl⟩,hl,hx⟩ hK;rw[fP] at hl;have hm:=(ho.tick m (hx m fA)).1;have hml:=zfg hm;have h1:m.1.length<=3:=hm.1.1;have h2:m.2.length<=3:=hm.2.1;refine zc _ rfl ?_;refine ku (G.push L) (zwQ hd) (ziq h1) (ziq h2) ?_;refine zJ (by rw[fC,fC];exact zDq hl hml) ?_;rw[<-fU];exact⟨h.t,hK _ _ (zt rfl ⟨_,rfl⟩ (by rw[fE];exact zDp hl hml) (λy hy=>hx y (fB _ hy)))⟩
 .rintro l U' ⟨rfl,⟨u,rfl⟩,_,_⟩;rw[zaL,fA4];refine ze h.s h.d ?_;refine qI h ?_;refine zf (zz (h.row s)) ?_;rw[fC];have hrl:(D.row s).length<=80:=by
   cases s with
   | false=>exact ho.few.1
   | true=>exact ho.few.2
  refine zee (zt7 hrl) ?_;refine z9 (λi:Nat=>!decide ((s,(i:Int))∈D.told)) (λi:Nat=>.int i) (λ_=>rfl) (λ_ _=>rfl) (λi _ R q=>?_) (λi _ _ R q=>q) trivial (by rw[gU];exact zt7 hrl) ?_
  .exact inM (m:=(s,(i:Int))) (ms:=D.told) (.inl rfl) q
  .exact Ends.same q
end
section
variable{P:Hj}{X:Cx}{n:Nat}{Q:zm}{Z:XP}{U:AHeap}
def zke{J β:Type}{f:J->List β}{c:Nat}{l:List J}(h:∀a∈l,(f a).length<=c):(l.flatMap f).length<=l.length*c:=by
 induction l with
 | nil=>exact fT _
 | cons a l ih=>
  rw[fAD,fE,fP,fBC];have:=h a fA;have:=ih λb hb=>h b (fB _ hb);exact zAJ (by assumption) this
def zqi{es fs:List Ent}{span:Int}{g:List zd}(h:g.length<=8):(win es fs span g).length<=20480:=by
 unfold win;rw[(je ..).length_eq];refine fF (zke (c:=4096) λz hz=>?_) (by decide);have hzl:∀z∈szs,8 ^ z.1*8 ^ z.2<=4096:=by decide
 refine fF (zke (c:=8 ^ z.2) λl hl=>?_) (fF (pB _ (kQ (zdr h) z.1)) (hzl z hz));unfold qp;rw[fC];exact fF (pU ..) (kQ (zdr h) z.2)
noncomputable def zT(m:Mt):zd:=(zk m).headD (false,0)
noncomputable def Led.pick(D:Led)(g:List zd):Led:={ D with tick:=(D.tick.filter λm=>!decide (zT m∈g))++pk ((win D.es D.fs D.span g).filter λm=>!decide (m∈D.clos)) g }
def LAt.ticks{a:LA}{D:Led}(h:LAt U a D){p:Addr}(hp:U p=none)(tk:List Mt):LAt ((U.set p (.list (tk.map zC))).set a.dx (.idict (zi9 { a with pt:=p } D))) { a with pt:=p } { D with tick:=tk }:=by
 have ne:∀{q:Addr} {o:AO},U q=some o->q≠p:=λe q=>by rw[q,hp] at e;exact absurd (Eq.symm e) (fH _)
 have nd:∀{q:Addr} {xs:List AV},U q=some (.list xs)->q≠a.dx:=λe q=>by rw[q,h.d] at e;cases e
 have hdp:a.dx≠p:=ne h.d;have hsd:a.self≠a.dx:=λq=>by have:=h.s;rw[q,h.d] at this;cases this
 have st:∀{q:Addr} {o:AO},U q=some o->q≠a.dx->((U.set p (.list (tk.map zC))).set a.dx (.idict (zi9 { a with pt:=p } D))) q=some o:=λe hq=>by rw[AHeap.wB _ _ hq,AHeap.wB _ _ (ne e)];exact e
 obtain⟨n1,n2⟩:=fX.mp h.nd;obtain⟨n3,n4⟩:=fX.mp n2;obtain⟨n5,n6⟩:=fX.mp n4;refine⟨st h.s hsd,AHeap.wA ..,st h.r h.dr.symm,st h.b (nd h.b),st h.k (nd h.k),?_,st h.c (nd h.c),h.dr,?_⟩
 .rw[AHeap.wB _ _ (Ne.symm hdp)];exact AHeap.wA ..
 .show [a.pb,a.pk,p,a.pc].Nodup;have e1:=ne h.b;have e2:=ne h.k;have e3:=ne h.c;simp only[fX,fG,gM,or_false,not_or,not_false_eq_true,fC3,and_true] at n1 n3 n5 ⊢;exact zq (zq n1.1 e1 n1.2.2) ⟨e2,n3.2⟩ e3.symm
def zdb{a:LA}{D:Led}{p:Addr}(hp:U p=none)(tk:List Mt){x:Addr}{o:AO}(hx:x≠a.dx)(e:U x=some o):((U.set p (.list (tk.map zC))).set a.dx (.idict (zi9 { a with pt:=p } D))) x=some o:=by
 rw[AHeap.wB _ _ hx,AHeap.wB _ _ (by rintro rfl;rw[hp] at e;cases e)];exact e
def zhL{m m':Mt}(h:zC m=zC m'):m=m':=by
 obtain⟨a,b⟩:=m;obtain⟨c,d⟩:=m';have inj:∀{l r:List Int},l.map AV.int=r.map AV.int->l=r:=λ{l r} e=>by
  have:=congrArg (List.map unI) e;rw[gD,gD] at this;have hi:unI∘AV.int=id:=rfl;rw[hi,fBL,fBL] at this;exact this
 unfold zC at h;injection h with h
 injection h with h1 h2
 injection h2 with h2 _
 injection h1 with h1
 injection h2 with h2
 have e1:a=c:=inj h1;have e2:b=d:=inj h2;subst e1 e2;rfl
def znU{m:Mt}{ms:List Mt}:zC m∈ms.map zC↔m∈ms:=⟨λh=>by refine zb (fQ.mp h) λx h1 h2=>?_;rw[<-zhL h2];exact h1,λh=>pE h⟩
def zsY{m:Mt}{ms:List Mt}{p:Addr}{R:Bool->AHeap->Prop}(hp:U p=some (.list (ms.map zC)))(q:R (decide (m∈ms)) U):inR (zC m) p R U:=by
 refine zhj hp (za7 m) (λy hy=>?_) (by decide) (λh=>?_) λh=>?_
 .refine zb (fQ.mp hy) λx _ e6_2=>?_;subst e6_2;exact za7 x
 .rw[znU] at h;rw[Hy h] at q;exact q
 .rw[znU] at h;rw[Hx h] at q;exact q
def zoP{es fs:List Ent}{span:Int}{g:List zd}(hg:GOk g es.length fs.length){m:Mt}(h:m∈win es fs span g):zlQ m:=by
 refine jV (zix hg ((je ..).mem_iff.mp h)) λh1 _ _ h2 _=>?_;refine(zq h1 (λe=>?_) (λe=>?_))<;>rw[e,pQ] at h2<;>simp at h2
def zsW{m:Mt}(h:zlQ m):zlR m:=⟨fAB h.1.1.1,fAB h.1.2.1⟩
def zjn(ms:List Mt)(r:List zd):(pk ms r).length<=r.length:=by
 have gen:∀n r,(pkF ms n r).length<=n:=λn=>by
  induction n with
  | zero=>intro r;exact fN 0
  | succ n ih=>
   intro r;cases r with
   | nil=>exact fT _
   | cons x t=>
    unfold pkF;split
    .exact fAB (ih t)
    .exact pG (ih _)
 exact gen _ _
def zkw(G:Gd X (hK P))(hd:n<540){a:LA}{D:Led}(h:LAt U a D)(ho:LOk D){g:List zd}(hg:GOk g D.es.length D.fs.length)
  (q:∀U' pt',(∀x o,x≠a.dx->U x=some o->U' x=some o)->U pt'=none->LAt U' { a with pt:=pt' } (D.pick g)->Q .none U'):CallOk X 190 ⟨n,false⟩ [.ref a.self,gAV g] Q Z U:=by
 refine zrt G (fM hd (by decide)) λL=>?_;have htl:=ho.tl
 conv=>whnf
 refine ze h.s h.d ?_
 conv=>whnf
 refine zf (zz h.t) ?_;refine z9 (λm=>!decide (zT m∈g)) zC (λ_=>rfl) (λ_ _=>rfl) (λm hm R q=>?_) (λm hm _ R q=>q) h.t (zcq htl) ?_
 .have hgo:=ho.tick m hm;have h1:m.1.length<=3:=hgo.1.1.1;have h2:m.2.length<=3:=hgo.1.2.1;refine ku (G.push L) (zwM hd) (ziq h1) (ziq h2) ?_;unfold zT at q;cases hmm:zk m with
  | nil=>
   exfalso;have:=congrArg List.length hmm;unfold zk at this;rw[fE,fC,pQ] at this;exact hgo.2.1 (gO.mp (zul this))
  | cons x t=>
   rw[hmm] at q;exact inM (.inl rfl) q
 intro p1 hp1;refine ze ((zP hp1) _ _ h.s) ((zP hp1) _ _ h.d) ?_;have h1:=h.ticks hp1 (D.tick.filter λm=>!decide (zT m∈g));have fr1:=λx o (hx:x≠a.dx) e=>zdb (a:=a) (D:=D) hp1 (D.tick.filter λm=>!decide (zT m∈g)) (x:=x) (o:=o) hx e;refine jL rfl ?_;have ef:qd (zi9 a D) 5 (.ref p1)=zi9 { a with pt:=p1 } D:=rfl;rw[ef];generalize (U.set p1 (.list ((D.tick.filter λm=>!decide (zT m∈g)).map zC))).set a.dx (.idict (zi9 { a with pt:=p1 } D))=σ1 at h1 fr1 ⊢;refine ze h1.s h1.d ?_;refine qI (s:=false) h1 ?_;refine ze h1.s h1.d ?_;refine qI (s:=true) h1 ?_;refine ze h1.s h1.d ?_;refine zmy (G.push L) (zwL hd) h1.b h1.k ho.es ho.fs hg ?_;refine ze h1.s h1.d ?_;have hwl:=zqi (es:=D.es) (fs:=D.fs) (span:=D.span) hg.few;refine z9 (λm=>!decide (m∈D.clos)) zC (λ_=>rfl) (λ_ _=>rfl) (λm hm R q=>?_) (λm hm _ R q=>q) trivial (by lia) ?_
 .refine ze h1.s h1.d ?_;exact zsY h1.c q
 refine zlT (G.push L) (zwK hd) hg.few (λm hm=>zsW (zoP hg (fZ.mp hm).1)) (fF (pU ..) (by lia)) ?_;refine zf (zz h1.t) ?_;have hpl:=zjn ((win D.es D.fs D.span g).filter λm=>!decide (m∈D.clos)) g;have hfl:=pU (λm=>!decide (zT m∈g)) D.tick;have hgf:=hg.few;refine zJ (by rw[fC,fC];dsimp only;exact zAW htl hpl hfl hgf) ?_;intro p2 hp2;refine ze ((zP hp2) _ _ h1.s) ((zP hp2) _ _ h1.d) ?_;rw[<-fU];have h2:=h1.ticks hp2 ((D.tick.filter λm=>!decide (zT m∈g))++pk ((win D.es D.fs D.span g).filter λm=>!decide (m∈D.clos)) g);refine Ends.same (q _ p2 (λx o hx e=>zdb hp2 _ hx (fr1 x o hx e)) ?_ h2);cases e:U p2 with
 | none=>rfl
 | some o=>
  by_cases hx:p2=a.dx
  .rw[hx] at hp2;have:=h1.d;rw[hp2] at this;exact absurd (Eq.symm this) (fH _)
  .rw[fr1 p2 o hx e] at hp2;exact absurd hp2 (fH _)
end
section
variable{P:Hj}{X:Cx}{n:Nat}{Q:zm}{Z:XP}{U:AHeap}
def zmE{gs:List (List zd)}(h:gs≠[])(m:zd):(jw gs m).flatten=gs.flatten++[m]:=by
 obtain⟨g0,g,rfl⟩:∃g0 g,gs=g0++[g]:=(jD _ _ ((fAO h).symm))
 rw[jc];simp
def zq3{gs:List (List zd)}(h:gs≠[])(m:zd):jw gs m≠[]:=by
 obtain⟨g0,g,rfl⟩:∃g0 g,gs=g0++[g]:=(jD _ _ ((fAO h).symm))
 rw[jc];simp
def ziS{span:Int}(ts:List Tr)(b:List (List zd)×Option Int)(hb:b.2=none\/b.1≠[]):(ts.foldl (jQ span) b).1.flatten=b.1.flatten++ts.map (·.2):=by
 induction ts generalizing b with
 | nil=>exact(gQ _).symm
 | cons t ts ih=>
  rw[gZ];have hne:(if zc7 span b.2 t.1 then b.1++[[]] else b.1)≠[]:=by
   split
   .simp
   .rename_i ho
    exact hb.resolve_left λe=>ho (by rw[e];rfl)
  have hfl:(if zc7 span b.2 t.1 then b.1++[[]] else b.1).flatten=b.1.flatten:=by split<;>simp
  rw[ih _ (.inr (zq3 hne _))];unfold jQ;dsimp only;rw[zmE hne,hfl,gG,gI];rfl
def ql(es fs:List Ent)(span:Int):(grps es fs span).flatten=(inO es fs).map (·.2):=by
 unfold grps;rw[ziS _ _ (.inl rfl)];rfl
def zc9(s:Bool)(es:List Ent):((ko s es).map (·.2)).Nodup:=by
 unfold ko;rw[gD];refine zn2 List.nodup_range λa _ b _ e=>?_;have:=congrArg Prod.snd e;exact Int.ofNat.inj this
def ziw(es fs:List Ent):((zbh es fs).map (·.2)).Nodup:=by
 unfold zbh;rw[fU,pM];refine zq (zc9 _ _) (zc9 _ _) (λa ha b hb e=>?_);refine zb (fQ.mp ha) λx hx e0_2=>?_;subst e0_2;refine zb (fQ.mp hb) λy hy e1_2=>?_;subst e1_2;refine zb (fQ.mp hx) λi _ e2_2=>?_;subst e2_2;refine zb (fQ.mp hy) λj _ e3_2=>?_;subst e3_2;cases e
def zcC(es fs:List Ent):((inO es fs).map (·.2)).Nodup:=((je zas (zbh es fs)).map _).nodup_iff.mpr (ziw es fs)
def mem_inO{es fs:List Ent}{m:zd}:m∈(inO es fs).map (·.2)↔∃k:Nat,m.2=k/\k<(if m.1 then fs else es).length:=by
 obtain⟨b,i⟩:=m;constructor
 .intro h;refine zb (fQ.mp h) λt ht e=>?_;have ht:=inO_mem.mp ht
  rcases fR.mp ht with h|h<;>obtain⟨k,hk,rfl⟩:=fQ.mp h<;>cases e<;>exact zc k rfl (fAI.mp hk)
 .intro hR1;obtain⟨k,hk,hl⟩:=hR1;cases hk;cases b with
  | false=>exact fQ.mpr (zc _ (inO_mem.mpr (gP _ (fQ.mpr (zc k (fAI.mpr hl) rfl)))) rfl)
  | true=>exact fQ.mpr (zc _ (inO_mem.mpr (gA _ (fQ.mpr (zc k (fAI.mpr hl) rfl)))) rfl)
def zbo{J:Type}{gs:List (List J)}(h:gs.flatten.Nodup){g:List J}(hg:g∈gs):g.Nodup:=List.Nodup.sublist (fCA hg) h
def zdl{es fs:List Ent}{span:Int}{g:List zd}(hg:g∈grps es fs span)(h8:g.length<=8)(hs:es.length<=80/\fs.length<=80):GOk g es.length fs.length:=by
 have hfl:=ql es fs span;refine⟨zbo (by rw[hfl];exact zcC es fs) hg,λm hm=>?_,h8,hs⟩;have:m∈(inO es fs).map (·.2):=by rw[<-hfl];exact gL.mpr (zc g hg hm)
 refine zb (mem_inO.mp this) λk h1 h2=>?_;rw[h1];cases hb:m.1<;>rw[hb] at h2<;>simp only[gH,if_false,if_true] at h2 ⊢<;>exact zus h2
def zad(D:Led){m:zd}{k:Nat}(hk:m.2=k)(hl:k<(D.row m.1).length):∃g gs,D.holding m=g::gs/\g∈D.grps/\m∈g:=by
 have:m∈D.grps.flatten:=by
  unfold Led.grps;rw[ql];exact mem_inO.mpr (zc k hk hl)
 refine zb (gL.mp this) λg h1 h2=>?_;have hm:g∈D.holding m:=fZ.mpr ⟨h1,Hy h2⟩;cases hh:D.holding m with
 | nil=>rw[hh] at hm;cases hm
 | cons g' gs=>
  have hg':g'∈D.holding m:=by rw[hh];exact fA
  exact zL g' gs rfl ((fZ.mp hg').1) (Hz (fZ.mp hg').2)
noncomputable def Led.add(D:Led)(s:Bool)(e:Ent):Led:=match s with
 | false=>{ D with es:=D.es++[e] }
 | true=>{ D with fs:=D.fs++[e] }
def zfF(D:Led)(s:Bool)(e:Ent):(D.add s e).row s=D.row s++[e]:=by cases s<;>rfl
def zhb{es:List Ent}(h:EsOk es){e:Ent}(he:kI e.1 e.2=true)(hl:es.length<1000):EsOk (es++[e]):=by
 unfold kI at he;simp only[gT,decide_eq_true_eq,fBP] at he;obtain⟨⟨⟨⟨h1,h2⟩,h3⟩,h4⟩,_⟩:=he;refine⟨λx hx=>?_,λx hx=>?_,by rw[fE,fV];exact ztZ hl⟩
 .rcases fR.mp hx with h'|h'
  .exact h.day x h'
  .rw[fJ.mp h'];exact⟨h1,h2⟩
 .rcases fR.mp hx with h'|h'
  .exact h.cents x h'
  .rw[fJ.mp h'];lia
def zgc{D:Led}(h:LOk D){s:Bool}{e:Ent}(he:kI e.1 e.2=true)(hl:(D.row s).length<80):LOk (D.add s e):=by
 have hf:=h.few;cases s with
 | false=>exact⟨zhb h.es he (zxt hf),h.fs,⟨by show (D.es++[e]).length<=80;rw[fE,fV];exact hl,hf.2⟩,h.tick,h.clos,h.tl,h.cl⟩
 | true=>exact⟨h.es,zhb h.fs he (zxu hf),⟨hf.1,by show (D.fs++[e]).length<=80;rw[fE,fV];exact hl⟩,h.tick,h.clos,h.tl,h.cl⟩
def LAt.add{a:LA}{D:Led}(h:LAt U a D)(s:Bool)(e:Ent):LAt (U.set (a.row s) (.list (((D.row s)++[e]).map zw))) a (D.add s e):=by
 have nd:∀{q:Addr} {o:AO},U q=some o->(∀xs,o≠.list xs)->q≠a.row s:=λeq hq q=>by rw[q,h.row s] at eq;obtain rfl:=Hw eq;exact hq _ rfl
 obtain⟨n1,n2⟩:=fX.mp h.nd;obtain⟨n3,n4⟩:=fX.mp n2;simp only[fG,gM,or_false,not_or] at n1 n3;have e1:U.set (a.row s) (.list (((D.row s)++[e]).map zw)) a.self=_:=(AHeap.wB _ _ (nd h.s (λ_ q=>nomatch q))).trans h.s;have e2:U.set (a.row s) (.list (((D.row s)++[e]).map zw)) a.dx=_:=(AHeap.wB _ _ (nd h.d (λ_ q=>nomatch q))).trans h.d;have e3:U.set (a.row s) (.list (((D.row s)++[e]).map zw)) a.rd=_:=(AHeap.wB _ _ (nd h.r (λ_ q=>nomatch q))).trans h.r;cases s with
 | false=>exact⟨e1,e2,e3,AHeap.wA ..,(AHeap.wB _ _ (Ne.symm n1.1)).trans h.k,(AHeap.wB _ _ (Ne.symm n1.2.1)).trans h.t,(AHeap.wB _ _ (Ne.symm n1.2.2)).trans h.c,h.dr,h.nd⟩
 | true=>exact⟨e1,e2,e3,(AHeap.wB _ _ n1.1).trans h.b,AHeap.wA ..,(AHeap.wB _ _ (Ne.symm n3.1)).trans h.t,(AHeap.wB _ _ (Ne.symm n3.2)).trans h.c,h.dr,h.nd⟩
def zor{p:Addr}{o o':AO}(h:U p=some o):(U.set p o').set p o=U:=by
 funext b
 by_cases hb:b=p
 .subst hb;rw[AHeap.wA,h]
 .rw[AHeap.wB _ _ hb,AHeap.wB _ _ hb]
def zeq:∀y∈[AV.str 0,AV.str 1],Flat 0 y:=λy hy=>by
 rcases fG.mp hy with rfl|hy
 .exact .str (by decide)
 .rw[fJ.mp hy];exact .str (by decide)
def znq{s:Bool}{R:Bool->AHeap->Prop}(q:R true U):inG (.str s.toNat) (.tup [.str 0,.str 1]) R U:=by
 have hs:AV.str s.toNat∈[AV.str 0,AV.str 1]:=by
  cases s with
  | false=>exact fA
  | true=>exact fB _ fA
 exact zhi (xs:=[.str 0,.str 1]) (.inr rfl) (zeq _ hs) zeq (by decide) (λ_=>q) λhn=>absurd hs hn
def zoe(G:Gd X (hK P))(hd:n<520){a:LA}{D:Led}(h:LAt U a D)(ho:LOk D){s:Bool}{e:Ent}(he:kI e.1 e.2=true)(hl:(D.row s).length<80){g:List zd}{gs:List (List zd)}(hg:(D.add s e).holding (s,((D.row s).length:Int))=g::gs)
  (q:g.length<=8->∀U' pt',(∀x o,x≠a.dx->x≠a.row s->U x=some o->U' x=some o)->U pt'=none->LAt U' { a with pt:=pt' } ((D.add s e).pick g)->Q (.int (D.row s).length) U')(qx:8<g.length->Z 94 U) :
  CallOk X 197 ⟨n,false⟩ [.ref a.self,.str s.toNat,.int e.1,.int e.2] Q Z U:=by
 refine ztb G (fM hd (by decide)) λL=>?_;refine znq ?_;refine zhq (G.push L) (zwJ hd) ?_;rw[he];refine ze h.s h.d ?_;refine qI h ?_;refine zp (h.row s) ?_;refine zp (h.row s) ?_;refine zJ (by rw[fC];exact zr4 hl) ?_;have h1:=h.add s e;have ho1:=zgc ho he hl;have hr1:(U.set (a.row s) (.list (((D.row s)++[e]).map zw))) (a.row s)=some (.list ((D.row s).map zw++[zw e])):=by rw[AHeap.wA,fU];rfl
 have fr1:∀x o,x≠a.row s->U x=some o->(U.set (a.row s) (.list (((D.row s)++[e]).map zw))) x=some o:=λx o hx ex=>(AHeap.wB _ _ hx).trans ex;have bk:(U.set (a.row s) (.list (((D.row s)++[e]).map zw))).set (a.row s) (.list ((D.row s).map zw))=U:=zor (h.row s);have nn:∀x,(U.set (a.row s) (.list (((D.row s)++[e]).map zw))) x=none->U x=none:=λx hx=>by
  by_cases hxr:x=a.row s
  .rw[hxr,AHeap.wA] at hx;exact absurd hx (fH _)
  .rw[AHeap.wB _ _ hxr] at hx;exact hx
 have eL:(D.row s).map zw++[zw e]=((D.row s)++[e]).map zw:=by rw[fU];rfl
 rw[show AV.tup [AV.int e.1,AV.int e.2]=zw e from rfl,eL];unfold A.w1;generalize U.set (a.row s) (.list (((D.row s)++[e]).map zw))=σ1 at h1 hr1 fr1 bk nn ⊢;refine ze h1.s h1.d ?_;refine zf (zz hr1) ?_;have el:(((D.row s).map zw++[zw e]).length:Int)-1=(D.row s).length:=by rw[fE,fC,fV];exact zr8
 conv=>whnf
 rw[el];refine qw (m:=(s,((D.row s).length:Int))) (G.push L) (zwI hd) h1 ho1 hg ?_
 conv=>whnf
 rw[fC];refine zaH (λh8=>?_) λh8=>?_
 .have h8:8<g.length:=fA1.mp (Hz h8);refine zp hr1 ?_;refine zp hr1 ?_;refine zf List.getLast?_concat ?_;rw[List.dropLast_concat]
  conv=>whnf
  rw[bk];exact qx h8
 .have h8:g.length<=8:=pL.mp λh=>of_decide_eq_false h8 (fA1.mpr h);have hgm:g∈(D.add s e).grps:=by
   have:g∈(D.add s e).holding (s,((D.row s).length:Int)):=by rw[hg];exact fA
   exact(fZ.mp this).1
  refine ze h1.s h1.d ?_;refine zkw (G.push L) (zwH hd) h1 ho1 (zdl hgm h8 ho1.few) λσ2 pt' fr2 hp2 h2=>?_;have hr2:σ2 (a.row s)=some (.list ((D.row s).map zw++[zw e])):=fr2 _ _ (λq=>by rw[q,h1.d] at hr1;cases hr1) hr1;refine zf (zz hr2) ?_
  conv=>whnf
  rw[el];exact Ends.same (q h8 σ2 pt' (λx o hx hx' ex=>fr2 x o hx (fr1 x o hx' ex)) (nn _ hp2) h2)
end
section
variable{P:Hj}{X:Cx}{n:Nat}{Q:zm}{Z:XP}{U:AHeap}
noncomputable def zni(i:Int):Bool:=decide (0<=i)&&decide (i<=30)
def kx{U:AHeap}{p q:Addr}{o:AO}(h:U q=some o)(hp:U p=none):q≠p:=λe=>by rw[e,hp] at h;exact absurd (Eq.symm h) (fH _)
def zB{U:AHeap}{p q:Addr}{o o':AO}(h:U q=some o)(hp:U p=none):U.set p o' q=some o:=(AHeap.wB _ _ (kx h hp)).trans h
def zj{U:AHeap}{p q:Addr}{o o':AO}(h:U q=some o)(hp:q≠p):U.set p o' q=some o:=(AHeap.wB _ _ hp).trans h
noncomputable def LA.all(a:LA):List Addr:=[a.self,a.dx,a.rd,a.pb,a.pk,a.pt,a.pc]
def zrE(G:Gd X (hK P))(hd:n<500){i:Int}(hi:zni i=true)(q:∀U' a,(∀x o,U x=some o->U' x=some o)->(∀x∈a.all,U x=none)->LAt U' a ⟨[],[],i,[],[]⟩->Q (.ref a.self) U'):zmC X 245 178 ⟨n,false⟩ [.int i] Q Z U:=by
 intro dx x hdx hx hne;obtain⟨i1,i2⟩:=gB.mp hi;refine zrq G (by dsimp only;exact zwG hd) λL=>?_;have s0:Sub U ((U.set dx (.idict [])).set x (.inst 245 dx)):=λa o e=>zj (zB e hdx) (kx e hx);have x0:((U.set dx (.idict [])).set x (.inst 245 dx)) x=some (.inst 245 dx):=AHeap.wA ..;have d0:((U.set dx (.idict [])).set x (.inst 245 dx)) dx=some (.idict []):=zj (AHeap.wA ..) hne;generalize (U.set dx (.idict [])).set x (.inst 245 dx)=U0 at s0 x0 d0 ⊢;refine zaS (G.push L) (by dsimp only;exact zwF hd) ?_;refine zbN i1 ?_
 conv=>whnf
 rw[i2];refine ze x0 d0 ?_;refine jL rfl ?_;have s1:Sub U (U0.set dx (.idict (qd [] 3 (.int i)))):=s0.put hdx;have x1:(U0.set dx (.idict (qd [] 3 (.int i)))) x=some (.inst 245 dx):=zj x0 hne.symm;have d1:(U0.set dx (.idict (qd [] 3 (.int i)))) dx=some (.idict [(3,.int i)]):=AHeap.wA ..;generalize U0.set dx (.idict (qd [] 3 (.int i)))=σ1 at s1 x1 d1 ⊢;clear s0 x0 d0;intro rd hrd;have hrσ:=s1.none hrd;have s2:Sub U (σ1.set rd (.idict [])):=s1.put hrσ;have x2:=zB (o':=.idict []) x1 hrd;have d2:=zB (o':=.idict []) d1 hrd;have r2:(σ1.set rd (.idict [])) rd=some (.idict []):=AHeap.wA ..;have hdr:=kx d1 hrd;have hxr:=kx x1 hrd;generalize σ1.set rd (.idict [])=σ2 at s2 x2 d2 r2 ⊢;clear s1 x1 d1;intro pb hpb;have fpb:=s2.none hpb;have s3:Sub U (σ2.set pb (.list [])):=s2.put (s2.none hpb);have x3:=zB (o':=.list []) x2 hpb;have d3:=zB (o':=.list []) d2 hpb;have r3:=zB (o':=.list []) r2 hpb;have b3:(σ2.set pb (.list [])) pb=some (.list []):=AHeap.wA ..;generalize σ2.set pb (.list [])=σ3 at s3 x3 d3 r3 b3 ⊢;clear s2 x2 d2 r2;intro pk hpk;have fpk:=s3.none hpk;have s4:Sub U (σ3.set pk (.list [])):=s3.put (s3.none hpk);have x4:=zB (o':=.list []) x3 hpk;have d4:=zB (o':=.list []) d3 hpk;have r4:=zB (o':=.list []) r3 hpk;have b4:=zB (o':=.list []) b3 hpk;have k4:(σ3.set pk (.list [])) pk=some (.list []):=AHeap.wA ..;have hbk:=kx b3 hpk;generalize σ3.set pk (.list [])=σ4 at s4 x4 d4 r4 b4 k4 ⊢;clear s3 x3 d3 r3 b3;refine⟨r4,?_⟩;have hxd:x≠dx:=hne.symm
 have s5:Sub U ((σ4.set rd (.idict [(0,.ref pb),(1,.ref pk)])).set dx (.idict [(3,.int i),(4,.ref rd)])):=(s4.put hrσ).put hdx;have x5:((σ4.set rd (.idict [(0,.ref pb),(1,.ref pk)])).set dx (.idict [(3,.int i),(4,.ref rd)])) x=_:=zj (zj x4 hxr) hxd;have d5:((σ4.set rd (.idict [(0,.ref pb),(1,.ref pk)])).set dx (.idict [(3,.int i),(4,.ref rd)])) dx=_:=AHeap.wA ..;have r5:((σ4.set rd (.idict [(0,.ref pb),(1,.ref pk)])).set dx (.idict [(3,.int i),(4,.ref rd)])) rd=_:=zj (AHeap.wA ..) hdr.symm;have nl:∀{q:Addr},σ4 q=some (.list [])->q≠rd/\q≠dx:=λe=>⟨(λh=>by rw[h,r4] at e;cases e),(λh=>by rw[h,d4] at e;cases e)⟩
 have b5:((σ4.set rd (.idict [(0,.ref pb),(1,.ref pk)])).set dx (.idict [(3,.int i),(4,.ref rd)])) pb=_:=zj (zj b4 (nl b4).1) (nl b4).2;have k5:((σ4.set rd (.idict [(0,.ref pb),(1,.ref pk)])).set dx (.idict [(3,.int i),(4,.ref rd)])) pk=_:=zj (zj k4 (nl k4).1) (nl k4).2;refine ze (zj x4 hxr) (zj d4 hdr) ?_;refine jL rfl ?_;rw[show qd (qd [] 0 (AV.str 0,AV.ref pb).snd) 1 (AV.str 1,AV.ref pk).snd=[(0,.ref pb),(1,.ref pk)] from rfl,show qd [(3,AV.int i)] 4 (.ref rd)=[(3,.int i),(4,.ref rd)] from rfl];generalize (σ4.set rd (.idict [(0,.ref pb),(1,.ref pk)])).set dx (.idict [(3,.int i),(4,.ref rd)])=σ5 at s5 x5 d5 r5 b5 k5 ⊢;clear s4 x4 d4 r4 b4 k4 nl;intro pt hpt;refine ze (zB x5 hpt) (zB d5 hpt) ?_;refine jL rfl ?_;have npt:U pt=none:=s5.none hpt;have s6:Sub U ((σ5.set pt (.list [])).set dx (.idict [(3,.int i),(4,.ref rd),(5,.ref pt)])):=(s5.put npt).put hdx;have nd5:∀{q:Addr} {xs:List AV},σ5 q=some (.list xs)->q≠dx:=λe h=>by rw[h,d5] at e;cases e
 have x6:((σ5.set pt (.list [])).set dx (.idict [(3,.int i),(4,.ref rd),(5,.ref pt)])) x=_:=zj (zB x5 hpt) hxd;have d6:((σ5.set pt (.list [])).set dx (.idict [(3,.int i),(4,.ref rd),(5,.ref pt)])) dx=_:=AHeap.wA ..;have r6:((σ5.set pt (.list [])).set dx (.idict [(3,.int i),(4,.ref rd),(5,.ref pt)])) rd=_:=zj (zB r5 hpt) hdr.symm;have b6:((σ5.set pt (.list [])).set dx (.idict [(3,.int i),(4,.ref rd),(5,.ref pt)])) pb=_:=zj (zB b5 hpt) (nd5 b5);have k6:((σ5.set pt (.list [])).set dx (.idict [(3,.int i),(4,.ref rd),(5,.ref pt)])) pk=_:=zj (zB k5 hpt) (nd5 k5);have t6:((σ5.set pt (.list [])).set dx (.idict [(3,.int i),(4,.ref rd),(5,.ref pt)])) pt=some (.list []):=zj (AHeap.wA ..) (Ne.symm (kx d5 hpt));have hbt:=kx b5 hpt;have hkt:=kx k5 hpt;rw[show qd [(3,AV.int i),(4,AV.ref rd)] 5 (.ref pt)=[(3,.int i),(4,.ref rd),(5,.ref pt)] from rfl];generalize (σ5.set pt (.list [])).set dx (.idict [(3,.int i),(4,.ref rd),(5,.ref pt)])=σ6 at s6 x6 d6 r6 b6 k6 t6 ⊢;clear s5 x5 d5 r5 b5 k5 nd5;intro pc hpc;refine ze (zB x6 hpc) (zB d6 hpc) ?_;refine jL rfl ?_;have nd6:∀{q:Addr} {xs:List AV},σ6 q=some (.list xs)->q≠dx:=λe h=>by rw[h,d6] at e;cases e
 have hfr:∀y∈LA.all ⟨x,dx,rd,pb,pk,pt,pc⟩,U y=none:=λy hy=>by
  simp only[LA.all,fG,gM,or_false] at hy
  rcases hy with rfl|rfl|rfl|rfl|rfl|rfl|rfl
  .exact hx
  .exact hdx
  .exact hrσ
  .exact fpb
  .exact fpk
  .exact npt
  .exact s6.none hpc
 refine Ends.same ⟨rfl,q _ ⟨x,dx,rd,pb,pk,pt,pc⟩ ((s6.put (s6.none hpc)).put hdx) hfr ⟨zj (zB x6 hpc) hxd,AHeap.wA ..,zj (zB r6 hpc) hdr.symm,zj (zB b6 hpc) (nd6 b6),zj (zB k6 hpc) (nd6 k6),zj (zB t6 hpc) (nd6 t6),zj (AHeap.wA ..) (Ne.symm (kx d6 hpc)),hdr,?_⟩⟩;have e1:=kx b6 hpc;have e2:=kx k6 hpc;have e3:=kx t6 hpc;show [pb,pk,pt,pc].Nodup;simp only[fX,fG,gM,or_false,not_or,not_false_eq_true,fC3,and_true];exact zq (zq hbk hbt e1) ⟨hkt,e2⟩ e3
end
noncomputable def zaT{J:Type}(c:Bool)(t:J)(gs:List (List J)):List (List J):=match gs with
 | []=>[[t]]
 | g::gs=>match c with
  | true=>[t]::g::gs
  | false=>(t::g)::gs
noncomputable def gap{J:Type}(f:J->Int)(span:Int)(t:J)(ts:List J):Bool:=match ts with
 | []=>true
 | u::_=>decide (f u>f t+span)
noncomputable def zZ{J:Type}(f:J->Int)(span:Int):List J->List (List J)
 | []=>[]
 | t::ts=>zaT (gap f span t ts) t (zZ f span ts)
def zlu{J:Type}(c:Bool)(t:J)(gs:List (List J)):(zaT c t gs).flatten=t::gs.flatten:=by
 cases gs with
 | nil=>rfl
 | cons g gs=>cases c<;>rfl
def zpt{J:Type}(c:Bool)(t:J)(gs:List (List J)):∃h hs,zaT c t gs=(t::h)::hs:=by
 cases gs with
 | nil=>exact⟨_,_,rfl⟩
 | cons g gs=>cases c<;>exact jD _ _ rfl
def jq{J:Type}{f:J->Int}{span:Int}(ts:List J):(zZ f span ts).flatten=ts:=by
 induction ts with
 | nil=>rfl
 | cons t ts ih=>unfold zZ;rw[zlu,ih]
def zcf{J:Type}(f:J->Int)(span:Int)(t:J)(ts:List J):∃h hs,zZ f span (t::ts)=(t::h)::hs:=zpt ..
def zeg{J:Type}{f:J->Int}{span:Int}{ts:List J}:∀g∈zZ f span ts,g≠[]:=by
 induction ts with
 | nil=>intro g hg;cases hg
 | cons t ts ih=>
  intro g hg;unfold zZ zaT at hg;cases e:zZ f span ts with
  | nil=>rw[e] at hg;rw[fJ.mp hg];exact λe=>nomatch e
  | cons g' gs'=>
   rw[e] at hg ih;cases hc:gap f span t ts with
   | true=>
    rw[hc] at hg
    rcases fG.mp hg with rfl|hg
    .exact λe=>nomatch e
    .exact ih g hg
   | false=>
    rw[hc] at hg
    rcases fG.mp hg with rfl|hg
    .exact λe=>nomatch e
    .exact ih g (fB _ hg)
noncomputable def zrJ(g:List zd)(hs:List (List zd)):List (List zd):=match hs with
 | []=>[]
 | h::hs=>(g++h)::hs
def zhe{span:Int}(ts:List Tr):∀(gs:List (List zd)) (g:List zd) (u:Tr),(ts.foldl (jQ span) (gs++[g++[u.2]],some u.1)).1=gs++zrJ g ((zZ (·.1) span (u::ts)).map (List.map (·.2))):=by
 induction ts with
 | nil=>intro gs g u;rfl
 | cons t ts ih=>
  intro gs g u;rw[gZ];refine z7 (zcf (·.1) span t ts) λh hs e=>?_;have eu:zZ (·.1) span (u::t::ts)=zaT (decide (t.1>u.1+span)) u ((t::h)::hs):=by rw[<-e];rfl
  have es:jQ span (gs++[g++[u.2]],some u.1) t=(jw (if decide (t.1>u.1+span) then gs++[g++[u.2]]++[[]] else gs++[g++[u.2]]) t.2,some t.1):=rfl;rw[eu,es];cases hc:decide (t.1>u.1+span) with
  | true=>
   rw[if_pos rfl,jc,ih,e];simp[zrJ,zaT]
  | false=>
   rw[if_neg pW,jc,ih,e];simp[zrJ,zaT]
def zli{span:Int}(ts:List Tr):(ts.foldl (jQ span) ([],none)).1=(zZ (·.1) span ts).map (List.map (·.2)):=by
 cases ts with
 | nil=>rfl
 | cons t ts=>
  rw[gZ];have:jQ span ([],none) t=([]++[[]++[t.2]],some t.1):=rfl;rw[this,zhe];refine z7 (zcf (·.1) span t ts) λh hs e=>?_;rw[e];rfl
def zb4{J:Type}(f:J->Int)(span:Int)(S:List J)(a b:Int):Prop:=∀x∈S,a<=f x->f x<b->∃y∈S,f x<f y/\f y<=f x+span
def zlH{J:Type}{f:J->Int}{span:Int}{S:List J}{t:J}{a b:Int}(h:zb4 f span (t::S) a b)(ht:∀y∈S,f t<=f y):zb4 f span S a b:=λx hx h1 h2=>by
 refine zl (h x (fB _ hx) h1 h2) λy hy h3 h4=>?_
 rcases fG.mp hy with rfl|hy
 .exact absurd h3 (fC6.mpr (ht x hx))
 .exact zv y hy h3 h4
def zlb{J:Type}{f:J->Int}{span:Int}{S:List J}{t:J}{a b:Int}(h:zb4 f span S a b)(ht:a<=f t->f t<b->∃y∈S,f t<f y/\f y<=f t+span):zb4 f span (t::S) a b:=λx hx h1 h2=>by
 rcases fG.mp hx with rfl|hx
 .refine zb (ht h1 h2) λy hy h3=>?_;exact zc y (fB _ hy) h3
 .refine zb (h x hx h1 h2) λy hy h3=>?_;exact zc y (fB _ hy) h3
def zhT{J:Type}{f:J->Int}{span:Int}(h0:0<=span):∀{ts:List J} {t:J} {g:List J} {gs:List (List J)},(t::ts).Pairwise (λa b=>f a<=f b)->zZ f span (t::ts)=g::gs->(∀x,x∈g->x∈t::ts/\zb4 f span (t::ts) (f t) (f x))/\(∀x,x∈gs.flatten->¬zb4 f span (t::ts) (f t) (f x)/\∀y∈g,f y+span<f x):=by
 intro ts
 induction ts with
 | nil=>
  intro t g gs hs e;cases e;refine⟨λx hx=>⟨hx,?_⟩,λx hx=>nomatch hx⟩;rw[fJ.mp hx];exact λy hy h1 h2=>absurd h1 (fBW.mpr h2)
 | cons u us ih=>
  intro t g gs hs e;obtain⟨ht,hs'⟩:=gK.mp hs;have htu:=ht u fA;refine z7 (zcf f span u us) λg' gs' e'=>?_;obtain⟨i1,i2⟩:=ih hs' e';have huf:∀x∈us,f u<=f x:=(gK.mp hs').1;have ee:zaT (decide (f u>f t+span)) t ((u::g')::gs')=g::gs:=by rw[<-e'];exact e
  unfold zaT at ee;dsimp only at ee;have hfl:=jq (f:=f) (span:=span) (u::us);rw[e'] at hfl
  by_cases hc:f u>f t+span
  .rw[Hy hc] at ee;cases ee;refine⟨λx hx=>?_,λx hx=>?_⟩
   .rw[fJ.mp hx];exact⟨fA,λy hy h1 h2=>absurd h1 (fBW.mpr h2)⟩
   .rw[hfl] at hx;have hux:f u<=f x:=by
     rcases fG.mp hx with rfl|hx
     .exact fAW _
     .exact huf x hx
    refine⟨λhl=>?_,λy hy=>by rw[fJ.mp hy];exact zCj hc hux⟩;refine zl (hl t fA (fAW _) (zCb h0 hc hux)) λy hy h1 h2=>?_
    rcases fG.mp hy with rfl|hy
    .exact y41 h1
    .rcases fG.mp hy with rfl|hy
     .exact zB1 h2 hc
     .have:=huf y hy;exact zCd hc h2 this
  .rw[Hx hc] at ee;cases ee;refine⟨λx hx=>?_,λx hx=>?_⟩
   .rcases fG.mp hx with rfl|hx
    .exact⟨fA,λy hy h1 h2=>absurd h1 (fBW.mpr h2)⟩
    .obtain⟨j1,j2⟩:=i1 x hx;refine⟨fB _ j1,zlb (λy hy h1 h2=>?_) λh1 h2=>?_⟩
     .have:f u<=f y:=by
       rcases fG.mp hy with rfl|hy
       .exact fAW _
       .exact huf y hy
      exact j2 y hy this h2
     .by_cases hlt:f t<f u
      .exact zv u fA hlt (zB9 hc)
      .have hut:f u=f t:=by exact zBY htu hlt
       refine zb (j2 u fA (fAW _) (zB7 h2 hlt)) λy hy h3=>?_;exact zv y hy (zCf htu h3) (zCk hlt h3)
   .obtain⟨j1,j2⟩:=i2 x hx;refine⟨λhl=>j1 λy hy h1 h2=>?_,λy hy=>?_⟩
    .exact zlH hl ht y hy (zB2 htu h1) h2
    .rcases fG.mp hy with rfl|hy
     .have:=j2 u fA;exact zCg htu this
     .exact j2 y hy
def zeh{J:Type}{f:J->Int}{span:Int}:∀{ts:List J} {g:List J} {gs:List (List J)},zZ f span ts=g::gs->∃ts',ts=g++ts'/\gs=zZ f span ts':=by
 intro ts
 induction ts with
 | nil=>intro g gs e;cases e
 | cons t ts ih=>
  intro g gs e;have hfl:=jq (f:=f) (span:=span) ts;have e:zaT (gap f span t ts) t (zZ f span ts)=g::gs:=e;cases ep:zZ f span ts with
  | nil=>
   rw[ep] at e hfl;cases e;exact zc [] (by rw[<-hfl];rfl) rfl
  | cons g' gs'=>
   rw[ep] at e;cases hc:gap f span t ts with
   | true=>rw[hc] at e;cases e;exact zc ts rfl ep.symm
   | false=>
    rw[hc] at e;cases e;refine zb (ih ep) λts' h1 h2=>?_;exact zc ts' (by rw[h1];rfl) h2
section
variable{J:Type}{f:J->Int}{span:Int}
def zcg(h0:0<=span){ts g:List J}{gs:List (List J)}(hs:ts.Pairwise (λa b=>f a<=f b))(e:zZ f span ts=g::gs):∃t∈g,(∀x∈ts,f t<=f x)/\(∀x,x∈g->zb4 f span ts (f t) (f x))/\(∀x,x∈gs.flatten->¬zb4 f span ts (f t) (f x)/\∀y∈g,f y+span<f x):=by
 cases ts with
 | nil=>cases e
 | cons t ts=>
  refine z7 (zcf f span t ts) λh hs' e'=>?_;have ht:t∈g:=by rw[e'] at e;cases e;exact fA
  obtain⟨h1,h2⟩:=zhT h0 hs e;refine qJ t ht (λx hx=>?_) (λx hx=>(h1 x hx).2) h2
  rcases fG.mp hx with rfl|hx
  .exact fAW _
  .exact(gK.mp hs).1 x hx
def zhS(h0:0<=span):∀{gs:List (List J)} {ts:List J},ts.Pairwise (λa b=>f a<=f b)->zZ f span ts=gs->gs.Pairwise (λg g'=>∀a∈g,∀b∈g',f a+span<f b):=by
 intro gs
 induction gs with
 | nil=>intro ts _ _;exact .nil
 | cons g gs ih=>
  intro ts hs e;refine zb (zeh e) λts' h1 h2=>?_;refine zE (zcg h0 hs e) λt ht hmin h3 h4=>?_;refine gK.mpr ⟨λg' hg' a ha b hb=>(h4 b (gL.mpr (zc g' hg' hb))).2 a ha,ih (ts:=ts') ?_ h2.symm⟩;rw[h1] at hs;exact(gC.mp hs).2.1
def kl(h0:0<=span):∀{gs:List (List J)} {ts:List J},ts.Pairwise (λa b=>f a<=f b)->zZ f span ts=gs->∀{g:List J},g∈gs->∀{x y:J},x∈g->y∈ts->f x<=f y->(y∈g↔zb4 f span ts (f x) (f y)):=by
 intro gs
 induction gs with
 | nil=>intro ts _ _ g hg;cases hg
 | cons g1 gs ih=>
  intro ts hs e g hg x y hx hy hxy;refine zb (zeh e) λts' h1 h2=>?_;refine zE (zcg h0 hs e) λt ht hmin h3 h4=>?_;have hfl:gs.flatten=ts':=by rw[h2];exact jq ts'
  rcases fG.mp hg with rfl|hg
  .constructor
   .intro hyg z hz hz1 hz2;exact h3 y hyg z hz (hmin z hz) hz2
   .intro hl;rw[h1] at hy
    rcases fR.mp hy with hy|hy
    .exact hy
    .exfalso;refine(h4 y (by rw[hfl];exact hy)).1 λz hz hz1 hz2=>?_
     by_cases hzx:f z<f x
     .exact h3 x hx z hz hz1 hzx
     .exact hl z hz (y62 hzx) hz2
  .have hxf:x∈gs.flatten:=gL.mpr (zc g hg hx);have hbelow:=(h4 x hxf).2;have hy':y∈ts':=by
    rw[h1] at hy
    rcases fR.mp hy with hy|hy
    .exact absurd hxy (fBW.mpr (fAT (fAE h0) (hbelow y hy)))
    .exact hy
   have hs':ts'.Pairwise (λa b=>f a<=f b):=by rw[h1] at hs;exact(gC.mp hs).2.1
   rw[ih hs' h2.symm hg hx hy' hxy];have mem:∀z,f x<=f z->(z∈ts↔z∈ts'):=λz hz=>by
    rw[h1];refine⟨λh=>?_,λh=>gA _ h⟩
    rcases fR.mp h with h|h
    .exact absurd hz (fBW.mpr (fAT (fAE h0) (hbelow z h)))
    .exact h
   constructor
   .intro hl z hz hz1 hz2;refine zl (hl z ((mem z hz1).mp hz) hz1 hz2) λw hw hw1 hw2=>?_;exact zv w ((mem w (zvp hz1 hw1)).mpr hw) hw1 hw2
   .intro hl z hz hz1 hz2;refine zl (hl z ((mem z hz1).mpr hz) hz1 hz2) λw hw hw1 hw2=>?_;exact zv w ((mem w (zvp hz1 hw1)).mp hw) hw1 hw2
def zfl(h0:0<=span){ts:List J}(hs:ts.Pairwise (λa b=>f a<=f b)){g g':List J}(hg:g∈zZ f span ts)(hg':g'∈zZ f span ts){x:J}(hx:x∈g)(hx':x∈g'):g=g':=by
 have h:=zhS h0 hs rfl;generalize zZ f span ts=gs at h hg hg'
 induction gs with
 | nil=>cases hg
 | cons g1 gs ih=>
  obtain⟨h1,h2⟩:=gK.mp h
  rcases fG.mp hg with e|i
  .rcases fG.mp hg' with e'|i'
   .rw[e,e']
   .subst e;exact absurd (h1 g' i' x hx x hx') (fC6.mpr (fAE h0))
  .rcases fG.mp hg' with e'|i'
   .subst e';exact absurd (h1 g i x hx' x hx) (fC6.mpr (fAE h0))
   .exact ih h2 i i'
def zaq(h0:0<=span){ts:List J}(hs:ts.Pairwise (λa b=>f a<=f b)){g:List J}(hg:g∈zZ f span ts){x y:J}(hx:x∈g)(hy:y∈ts)(hxy:f y<=f x):y∈g↔zb4 f span ts (f y) (f x):=by
 have hy':=hy;rw[<-jq (f:=f) (span:=span) ts] at hy';refine zb (gL.mp hy') λg' hg' hyg=>?_;have hxt:x∈ts:=by rw[<-jq (f:=f) (span:=span) ts];exact gL.mpr (zc g hg hx)
 rw[<-kl h0 hs rfl hg' hyg hxt hxy];constructor
 .intro h;rw[zfl h0 hs hg' hg hyg h];exact hx
 .intro h;rw[zfl h0 hs hg hg' hx h];exact hyg
end
def zrC{J:Type}{f:J->Int}:∀{l:List J},l≠[]->∃z∈l,∀w∈l,f w<=f z:=by
 intro l
 induction l with
 | nil=>intro h;exact absurd rfl h
 | cons x l ih=>
  intro _
  by_cases hl:l=[]
  .subst hl;exact zc x fA (λw hw=>by rw[fJ.mp hw];exact fAW _)
  .refine zb (ih hl) λz hz h=>?_
   by_cases hxz:f x<=f z
   .refine zc z (fB _ hz) (λw hw=>?_)
    rcases fG.mp hw with rfl|hw
    .exact hxz
    .exact h w hw
   .refine zc x fA (λw hw=>?_)
    rcases fG.mp hw with rfl|hw
    .exact fAW _
    .have:=h w hw;exact zCa hxz this
section
variable{J:Type}{f:J->Int}{span:Int}{ts ts':List J}{n:J}
def zhy(hm:∀y,y∈ts'↔y∈ts\/y=n){x:J}(hx:x∈ts){b:Int}(h:zb4 f span ts (f x) b):zb4 f span ts' (f x) b:=λz hz h1 h2=>by
 rcases(hm z).mp hz with hz|rfl
 .refine zb (h z hz h1 h2) λw hw h3=>?_;exact zc w ((hm w).mpr (.inl hw)) h3
 .by_cases he:f z=f x
  .refine zb (h x hx (fAW _) (zB6 h2 he)) λw hw h3=>?_;exact zv w ((hm w).mpr (.inl hw)) (zCc he h3) (zCh he h3)
  .have hne:(ts.filter λw=>decide (f x<=f w/\f w<f z))≠[]:=λe=>by
    have:x∈ts.filter λw=>decide (f x<=f w/\f w<f z):=fZ.mpr ⟨hx,Hy ⟨fAW _,zvo h1 he⟩⟩;rw[e] at this;cases this
   refine zb (zrC (f:=f) hne) λy hy hmax=>?_;obtain⟨hyt,hy2⟩:=fZ.mp hy;obtain⟨hy3,hy4⟩:=Hz hy2;refine zl (h y hyt hy3 (Int.lt_trans hy4 h2)) λw hw h3 h4=>?_;have hwz:f z<=f w:=by
    by_cases hlt:f w<f z
    .have:=hmax w (fZ.mpr ⟨hw,Hy ⟨fB9 (fAT hy3 h3),hlt⟩⟩);exact zB5 h3 this
    .exact y62 hlt
   by_cases hwe:f w=f z
   .refine zl (h w hw (y68 h1 hwe) (zB4 h2 hwe)) λv hv h5 h6=>?_;exact zv v ((hm v).mpr (.inl hv)) (zB8 hwe h5) (zCi hwe h6)
   .exact zv w ((hm w).mpr (.inl hw)) (zvo hwz hwe) (fAQ h4 (Int.add_le_add_right (fB9 hy4) _))
def zki{ts:List J}{x:J}(hx:x∈ts):∃G∈zZ f span ts,x∈G:=by
 rw[<-jq (f:=f) (span:=span) ts] at hx;exact gL.mp hx
def zap{ts G:List J}(hG:G∈zZ f span ts){x:J}(hx:x∈G):x∈ts:=by
 rw[<-jq (f:=f) (span:=span) ts];exact gL.mpr (zc G hG hx)
def zfk(h0:0<=span)(hs:ts.Pairwise (λa b=>f a<=f b))(hs':ts'.Pairwise (λa b=>f a<=f b))(hm:∀y,y∈ts'↔y∈ts\/y=n){G G':List J}(hG:G∈zZ f span ts)(hG':G'∈zZ f span ts'){x:J}(hx:x∈G)(hx':x∈G'):∀y∈G,y∈G':=λy hy=>by
 have hyt:=zap hG hy;have hxt:=zap hG hx;have hyt':=(hm y).mpr (.inl hyt)
 rcases fCV (f x) (f y) with h|h
 .exact(kl h0 hs' rfl hG' hx' hyt' h).mpr (zhy hm hxt ((kl h0 hs rfl hG hx hyt h).mp hy))
 .exact(zaq h0 hs' hG' hx' hyt' h).mpr (zhy hm hyt ((zaq h0 hs hG hx hyt h).mp hy))
def zoa(h0:0<=span)(hs:ts.Pairwise (λa b=>f a<=f b))(hs':ts'.Pairwise (λa b=>f a<=f b))(hm:∀y,y∈ts'↔y∈ts\/y=n){G G':List J}(hG:G∈zZ f span ts)(hG':G'∈zZ f span ts'){x:J}(hx:x∈G)(hx':x∈G')(hn:n∉G'):∀y∈G',y∈G:=λy hy=>by
 have nt:n∈ts':=(hm n).mpr (.inr rfl);have hyt':=zap hG' hy;have hyt:y∈ts:=((hm y).mp hyt').resolve_right λe=>hn (e▸hy);have key:∀a b,a∈G'->zb4 f span ts' (f a) b->zb4 f span ts (f a) b:=λa b ha hl z hz h1 h2=>by
  refine zl (hl z ((hm z).mpr (.inl hz)) h1 h2) λw hw h3 h4=>?_
  rcases(hm w).mp hw with hw|rfl
  .exact zv w hw h3 h4
  .exfalso;have hzG:z∈G':=(kl h0 hs' rfl hG' ha ((hm z).mpr (.inl hz)) h1).mpr λv hv h5 h6=>hl v hv h5 (zB3 h2 h6);exact hn ((kl h0 hs' rfl hG' hzG nt (y55 h3)).mpr λv hv h5 h6=>(zv w nt h6 (zCe h4 h5)))
 rcases fCV (f x) (f y) with h|h
 .exact(kl h0 hs rfl hG hx hyt h).mpr (key x (f y) hx' ((kl h0 hs' rfl hG' hx' hyt' h).mp hy))
 .exact(zaq h0 hs hG hx hyt h).mpr (key y (f x) hy ((zaq h0 hs' hG' hx' hyt' h).mp hy))
end
def zoi{t u:Tr}(ht:TrOk t)(hu:TrOk u)(h:zas t<=zas u):t.1<=u.1:=
 fC6.mp λhlt=>absurd h (fC4.mpr ((zaU (qa hu.hi) (qa ht.hi)).mpr (.inl ((zaU (pI (fAY _)) (pI (fAY _))).mpr (.inl ((za1 hu.day ht.day).mpr hlt))))))
def zdL{es fs:List Ent}(he:EsOk es)(hf:EsOk fs):(inO es fs).Pairwise λa b=>a.1<=b.1:=
 (zgC zas (zbh es fs)).imp_of_mem λha hb h=>zoi (jx he hf (inO_mem.mp ha)).1 (jx he hf (inO_mem.mp hb)).1 h
def q6(es fs:List Ent)(span:Int):grps es fs span=(zZ (·.1) span (inO es fs)).map (List.map (·.2)):=zli _
def znn(es fs:List Ent):(inO es fs).Nodup:=by
 have:=zcC es fs;generalize inO es fs=l at this
 induction l with
 | nil=>exact .nil
 | cons x l ih=>
  rw[gG] at this;obtain⟨n1,n2⟩:=fX.mp this;exact fX.mpr ⟨λh=>n1 (pE h),ih n2⟩
def zhR{es fs:List Ent}{span:Int}{G:List Tr}(hG:G∈zZ (·.1) span (inO es fs)):G.Nodup/\∀t∈G,t∈inO es fs:=by
 have hfl:=jq (f:=λt:Tr=>t.1) (span:=span) (inO es fs);refine⟨zbo (by rw[hfl];exact znn es fs) hG,λt ht=>by rw[<-hfl];exact gL.mpr (zc G hG ht)⟩
def zfp(s:Bool)(es:List Ent)(e:Ent):ko s (es++[e])=ko s es++[(e.1,(s,(es.length:Int)))]:=by
 unfold ko;rw[fE,fV,fC0,fU];refine congr (congrArg _ (pK λi hi=>?_)) ?_
 .have:=fAI.mp hi;rw[fS,gW this,<-fS]
 .rw[List.map_singleton,fS,pF (fN _),fBO];rfl
noncomputable def Led.trs(D:Led):List Tr:=inO D.es D.fs
def zkq{D:Led}{s:Bool}{e:Ent}{t:Tr}:t∈(D.add s e).trs↔t∈D.trs\/t=(e.1,(s,((D.row s).length:Int))):=by
 unfold Led.trs;rw[inO_mem,inO_mem];unfold zbh;cases s with
 | false=>
  show t∈ko false (D.es++[e])++ko true D.fs↔_;rw[zfp];simp only[fR,fJ];show _↔(_\/_)\/t=(e.1,(false,(D.es.length:Int)))
  constructor
  .rintro((h|h)|h)
   .exact .inl (.inl h)
   .exact .inr h
   .exact .inl (.inr h)
  .rintro((h|h)|h)
   .exact .inl (.inl h)
   .exact .inr h
   .exact .inl (.inr h)
 | true=>
  show t∈ko false D.es++ko true (D.fs++[e])↔_;rw[zfp];simp only[fR,fJ];show _↔(_\/_)\/t=(e.1,(true,(D.fs.length:Int)))
  constructor
  .rintro(h|h|h)
   .exact .inl (.inl h)
   .exact .inl (.inr h)
   .exact .inr h
  .rintro((h|h)|h)
   .exact .inl h
   .exact .inr (.inl h)
   .exact .inr (.inr h)
def zjo{ms:List Mt}{r:List zd}{m:Mt}(h:m∈pk ms r):m∈ms:=by
 have gen:∀n r,m∈pkF ms n r->m∈ms:=λn=>by
  induction n with
  | zero=>intro r h;cases h
  | succ n ih=>
   intro r h;cases r with
   | nil=>cases h
   | cons x t=>
    unfold pkF at h;cases hg:zbp ms (x::t) with
    | nil=>rw[hg] at h;exact ih t h
    | cons z zs=>
     rw[hg] at h
     rcases fG.mp h with rfl|h
     .exact(qZ (by rw[hg];exact fA)).2.2.1
     .exact ih _ h
 exact gen _ _ h
def znH{D:Led}(h:LOk D){g:List zd}(hg:GOk g D.es.length D.fs.length)(hl:D.tick.length<=992):LOk (D.pick g):=by
 have hpl:=zjn ((win D.es D.fs D.span g).filter λm=>!decide (m∈D.clos)) g;have hfl:=pU (λm=>!decide (zT m∈g)) D.tick;have h8:=hg.few;refine⟨h.es,h.fs,h.few,λm hm=>?_,h.clos,?_,h.cl⟩
 .rcases fR.mp hm with hm|hm
  .exact h.tick m (fZ.mp hm).1
  .exact zoP hg (fZ.mp (zjo hm)).1
 .show ((D.tick.filter _)++pk _ g).length<=1000;rw[fE];exact fC1 (fF hfl hl) (fF hpl h8)
def qR(D:Led)(s:Bool)(e:Ent):(D.add s e).span=D.span:=by cases s<;>rfl
noncomputable abbrev szM(m:Mt):Nat:=(zk m).length
noncomputable def zrP(r:List zd)(m:Mt):List zd:=r.filter λy=>!decide (y∈zk m)
noncomputable def tot(S:List Mt):Nat:=(S.map szM).sum
structure Pack(r:List zd)(ms S:List Mt):Prop where
 sub:∀m∈S,m∈ms
 fit:∀m∈S,∀y∈zk m,y∈r
 dis:S.Pairwise λa b=>∀y∈zk a,y∉zk b
def zoH{S T:List Mt}(p:S.Perm T):tot S=tot T:=by
 unfold tot
 induction p with
 | nil=>rfl
 | cons x p ih=>simp[ih]
 | swap x y l=>simp;exact zC2
 | trans p q h1 h2=>rw[h1,h2]
def zg2{a b:Mt}(h:∀y∈zk a,y∉zk b):∀y∈zk b,y∉zk a:=λy hy hy'=>h y hy' hy
def Pack.split{r:List zd}{ms S:List Mt}{m:Mt}(P:Pack r ms S)(h:m∈S):tot S=szM m+tot (S.erase m)/\Pack (zrP r m) ms (S.erase m):=by
 have p:=List.perm_cons_erase h;have d:=(p.pairwise_iff (R:=λa b:Mt=>∀y∈zk a,y∉zk b) (λh=>zg2 h)).mp P.dis;obtain⟨d1,d2⟩:=gK.mp d;refine⟨by rw[zoH p];rfl,λa ha=>P.sub a (fBU ha),λa ha y hy=>?_,d2⟩;unfold zrP;rw[fZ];exact⟨P.fit a (fBU ha) y hy,by simpa using zg2 (d1 a ha) y hy⟩
section
variable{ms:List Mt}
end
def zpC{r b:List zd}{m:Mt}(h:qD r m=some b):(∃x t,r=x::t/\x∈zk m)/\(∀y∈zk m,y∈r)/\b=zrP r m:=by
 cases r with
 | nil=>cases h
 | cons x t=>
  unfold qD at h;dsimp only at h;split at h
  .rename_i hc;cases h;exact zq (zaP x t rfl hc.1) hc.2 rfl
  .cases h
def zar(ms:List Mt):∀{r:List zd},Pack r ms (pk ms r):=by
 intro r
 induction hl:r.length using Nat.strongRecOn generalizing r with
 | _ n ih=>
  cases r with
  | nil=>rw[zob];exact⟨(λm hm=>nomatch hm),(λm hm=>nomatch hm),.nil⟩
  | cons x t=>
   rw[fP] at hl;cases hg:zbp ms (x::t) with
   | nil=>
    rw[zkx hg];have P:=ih t.length (zCO hl) rfl;exact⟨P.sub,λm hm y hy=>fB _ (P.fit m hm y hy),P.dis⟩
   | cons z zs=>
    rw[zky hg];refine zy (qZ (ms:=ms) (r:=x::t) (z:=z) (by rw[hg];exact fA)) λ_ h2 h3 h4=>?_;have hlt:=qm h2;rw[fP] at hlt;refine jg (zpC h4) λ_ h5 h6=>?_;have P:=ih z.2.length (zCY hl hlt) rfl;refine⟨λm hm=>?_,λm hm y hy=>?_,gK.mpr ⟨λm hm y hy hy'=>?_,P.dis⟩⟩
    .rcases fG.mp hm with rfl|hm
     .exact h3
     .exact P.sub m hm
    .rcases fG.mp hm with rfl|hm
     .exact h5 y hy
     .have:=P.fit m hm y hy;rw[h6] at this;exact(fZ.mp this).1
    .have:=P.fit m hm y hy';rw[h6] at this;have:=(fZ.mp this).2;simp[hy] at this
def zna{J:Type}{gs:List (List J)}(h:gs.flatten.Nodup){g g':List J}(hg:g∈gs)(hg':g'∈gs){x:J}(hx:x∈g)(hx':x∈g'):g=g':=by
 induction gs with
 | nil=>cases hg
 | cons g1 gs ih=>
  rw[fCJ,pM] at h;refine jg h λh1 h2 h3=>?_
  rcases fG.mp hg with e|i
  .rcases fG.mp hg' with e'|i'
   .rw[e,e']
   .exact absurd rfl (h3 x (e▸hx) x (gL.mpr (zc g' i' hx')))
  .rcases fG.mp hg' with e'|i'
   .exact absurd rfl (h3 x (e'▸hx') x (gL.mpr (zc g i hx)))
   .exact ih h2 i i'
def zbw(D:Led):D.grps.flatten.Nodup:=by unfold Led.grps;rw[ql];exact zcC _ _
def zbZ{D:Led}{g g':List zd}(hg:g∈D.grps)(hg':g'∈D.grps){x:zd}(hx:x∈g)(hx':x∈g'):g=g':=zna (zbw D) hg hg' hx hx'
section
variable{D:Led}{s:Bool}{e:Ent}
def zkv{es fs:List Ent}{span:Int}{G:List Tr}(hG:G∈zZ (·.1) span (inO es fs)):G.Pairwise λa b=>zas a<=zas b:=by
 have h:G.Sublist (inO es fs):=by
  have:=fCA hG;rw[jq] at this;exact this
 exact(zgC zas (zbh es fs)).sublist h
def znk(ho:LOk D)(ho':LOk (D.add s e))(h0:0<=D.span){g:List zd}(hg:g∈(D.add s e).grps)(hn:(s,((D.row s).length:Int))∉g):g∈D.grps:=by
 unfold Led.grps at hg ⊢;rw[qR] at hg;rw[q6] at hg ⊢;refine zb (fQ.mp hg) λG' hG' e1_2=>?_;subst e1_2;have hn':((e.1,(s,((D.row s).length:Int))):Tr)∉G':=λh=>hn (fQ.mpr (zc _ h rfl));obtain⟨x,hx'⟩:∃x,x∈G':=fAU _ (zeg G' hG');have hm:∀y,y∈inO (D.add s e).es (D.add s e).fs↔y∈inO D.es D.fs\/y=(e.1,(s,((D.row s).length:Int))):=λy=>zkq;have hxt:x∈inO D.es D.fs:=((hm x).mp (zap hG' hx')).resolve_right λe=>hn' (e▸hx');refine zb (zki (f:=λt:Tr=>t.1) (span:=D.span) hxt) λG hG hx=>?_;have hs:=zdL ho.es ho.fs;have hs':=zdL ho'.es ho'.fs;have e1:∀y,y∈G'↔y∈G:=λy=>⟨zoa h0 hs hs' hm hG hG' hx hx' hn' y,zfk h0 hs hs' hm hG hG' hx hx' y⟩
 have:G'=G:=List.Perm.eq_of_pairwise (λa b ha hb h1 h2=>zel (jx ho'.es ho'.fs (inO_mem.mp (zap hG' ha))).1 (jx ho.es ho.fs (inO_mem.mp (zap hG hb))).1 (fBE h1 h2)) (zkv hG') (zkv hG) ((List.perm_ext_iff_of_nodup (zhR hG').1 (zhR hG).1).mpr e1);rw[this];exact fQ.mpr (zc G hG rfl)
def zlm(ho:LOk D)(ho':LOk (D.add s e))(h0:0<=D.span){g:List zd}(hg:g∈D.grps):∃g'∈(D.add s e).grps,∀y∈g,y∈g':=by
 unfold Led.grps at hg ⊢;rw[qR,q6];rw[q6] at hg;refine zb (fQ.mp hg) λG hG e3_2=>?_;subst e3_2;obtain⟨x,hx⟩:∃x,x∈G:=fAU _ (zeg G hG);have hm:∀y,y∈inO (D.add s e).es (D.add s e).fs↔y∈inO D.es D.fs\/y=(e.1,(s,((D.row s).length:Int))):=λy=>zkq;refine zb (zki (f:=λt:Tr=>t.1) (span:=D.span) ((hm x).mpr (.inl (zap hG hx)))) λG' hG' hx'=>?_;refine zc _ (fQ.mpr (zc G' hG' rfl)) (λy hy=>?_);refine zb (fQ.mp hy) λt ht e5_2=>?_;subst e5_2;exact fQ.mpr (zc t (zfk h0 (zdL ho.es ho.fs) (zdL ho'.es ho'.fs) hm hG hG' hx hx' t ht) rfl)
end
def za5{es:List Ent}{e:Ent}{p:Int}(h0:0<=p)(h1:p<es.length):qF (es++[e]) p=qF es p/\zN (es++[e]) p=zN es p:=by
 unfold qF zN;have:p.toNat<es.length:=zCy h0 h1;rw[fS,gW this,<-fS];exact⟨rfl,rfl⟩
def zdm{f f':Int->Int}{l:List Int}(h:∀p∈l,f p=f' p):l.map f=l.map f':=pK h
def zpb{D:Led}{s:Bool}{e:Ent}{m:Mt}(h1:∀p∈m.1,0<=p/\p<D.es.length)(h2:∀p∈m.2,0<=p/\p<D.fs.length):zbi (D.add s e).es (D.add s e).fs (D.add s e).span m=zbi D.es D.fs D.span m:=by
 have a1:m.1.map (zN (D.add s e).es)=m.1.map (zN D.es)/\m.1.map (qF (D.add s e).es)=m.1.map (qF D.es):=by
  cases s with
  | false=>exact⟨zdm λp hp=>(za5 (h1 p hp).1 (h1 p hp).2).2,zdm λp hp=>(za5 (h1 p hp).1 (h1 p hp).2).1⟩
  | true=>exact⟨rfl,rfl⟩
 have a2:m.2.map (zN (D.add s e).fs)=m.2.map (zN D.fs)/\m.2.map (qF (D.add s e).fs)=m.2.map (qF D.fs):=by
  cases s with
  | false=>exact⟨rfl,rfl⟩
  | true=>exact⟨zdm λp hp=>(za5 (h2 p hp).1 (h2 p hp).2).2,zdm λp hp=>(za5 (h2 p hp).1 (h2 p hp).2).1⟩
 unfold zbi zcv;rw[a1.1,a1.2,a2.1,a2.2,qR]
def zcB{D:Led}{g:List zd}(hg:g∈D.grps){m:zd}(hm:m∈g):0<=m.2/\m.2<(D.row m.1).length:=by
 have:m∈(inO D.es D.fs).map (·.2):=by rw[<-ql D.es D.fs D.span];exact gL.mpr (zc g hg hm)
 refine zb (mem_inO.mp this) λk h1 h2=>?_;unfold Led.row;rw[h1];exact zus h2
structure FitM(D:Led)(m:Mt):Prop where
 sm:SmM m
 r1:Rise m.1 D.es.length
 r2:Rise m.2 D.fs.length
 one:min m.1.length m.2.length=1
 fit:zbi D.es D.fs D.span m=true
structure Inv(D:Led):Prop where
 ok:LOk D
 lo:0<=D.span
 hi:D.span<=30
 few:∀g∈D.grps,g.length<=8
 whole:∀m∈D.tick,∃g∈D.grps,∀y∈zk m,y∈g
 apart:D.tick.Pairwise λa b=>∀y∈zk a,y∉zk b
 fits:∀m∈D.tick,FitM D m
 free:∀m∈D.tick,m∉D.clos
noncomputable def Led.able(D:Led)(g:List zd):List Mt:=(win D.es D.fs D.span g).filter λm=>!decide (m∈D.clos)
def FitM.go{D:Led}{m:Mt}(h:FitM D m):zlQ m:=by
 refine(zq h.sm (λe=>?_) (λe=>?_))<;>have:=h.one<;>rw[e,pQ] at this<;>simp at this
def mem_marks{m:Mt}{y:zd}:y∈zk m↔(y.1=false/\y.2∈m.1)\/(y.1=true/\y.2∈m.2):=by
 obtain⟨b,k⟩:=y;unfold zk;rw[fR,fQ,fQ];constructor
 .rintro(⟨x,hx,e⟩|⟨x,hx,e⟩)<;>cases e
  .exact .inl ⟨rfl,hx⟩
  .exact .inr ⟨rfl,hx⟩
 .rintro(⟨h1,h2⟩|⟨h1,h2⟩)
  .have h1:b=false:=h1;subst h1;exact .inl (zc k h2 rfl)
  .have h1:b=true:=h1;subst h1;exact .inr (zc k h2 rfl)
def qu{m:Mt}(h:zlQ m):zk m≠[]:=λe=>by
 have:=congrArg List.length e;unfold zk at this;rw[fE,fC,pQ] at this;exact h.2.1 (gO.mp (zul this))
def jP{m:Mt}(h:zk m≠[]):zT m∈zk m:=by
 unfold zT;cases hm:zk m with
 | nil=>exact absurd hm h
 | cons y l=>exact fA
def zcb{D:Led}{g:List zd}(hg:GOk g D.es.length D.fs.length){m:Mt}(h:m∈win D.es D.fs D.span g):FitM D m/\∀y∈zk m,y∈g:=by
 have h1:=(je ..).mem_iff.mp h;refine jV (zix hg h1) λa b c d e=>?_;refine⟨⟨a,b,c,d,e⟩,λy hy=>?_⟩;refine zb (gX.mp h1) λz _ hz=>?_;refine jV (mem_bySz.mp hz) λ_ u1 _ u2 _=>?_;obtain⟨s,k⟩:=y
 rcases mem_marks.mp hy with⟨h2,h3⟩|⟨h2,h3⟩
 .have h2:s=false:=h2;subst h2;exact ups_mem.mp (u1.2 k h3)
 .have h2:s=true:=h2;subst h2;exact ups_mem.mp (u2.2 k h3)
def kG{D:Led}{g:List zd}{m:Mt}(h:m∈D.able g):m∈win D.es D.fs D.span g/\m∉D.clos:=by
 obtain⟨h1,h2⟩:=fZ.mp h;exact⟨h1,by simpa using h2⟩
def zf2{D:Led}(h:LOk D){g:List zd}(hg:g∈D.grps)(h8:g.length<=8):GOk g D.es.length D.fs.length:=zdl hg h8 h.few
def zkS(D:Led)(s:Bool)(e:Ent):D.es.length<=(D.add s e).es.length/\D.fs.length<=(D.add s e).fs.length:=by
 cases s
 .exact⟨by show _<=(D.es++[e]).length;rw[fE];exact zjX,fN _⟩
 .exact⟨fN _,by show _<=(D.fs++[e]).length;rw[fE];exact zjX⟩
def zm9{D:Led}{s:Bool}{e:Ent}{m:Mt}(h:FitM D m):FitM (D.add s e) m:=by
 have hl:=zkS D s e;exact⟨h.sm,⟨h.r1.1,λp hp=>by have:=h.r1.2 p hp;exact zCz hl this⟩,⟨h.r2.1,λp hp=>by have:=h.r2.2 p hp;exact zCA hl this⟩,h.one,by rw[zpb h.r1.2 h.r2.2];exact h.fit⟩
def qS(D:Led)(s:Bool)(e:Ent):(D.add s e).tick=D.tick:=by cases s<;>rfl
def zdu(D:Led)(s:Bool)(e:Ent):(D.add s e).clos=D.clos:=by cases s<;>rfl
section
variable{D:Led}{s:Bool}{e:Ent}{g:List zd}
def zrK(hg:g∈D.grps){m:Mt}(hw:∃g'∈D.grps,∀y∈zk m,y∈g')(hne:zk m≠[])(hf:zT m∉g):∀y∈zk m,y∉g:=λy hy h=>by
 refine zb hw λg' h1 h2=>?_;rw[zbZ h1 hg (h2 y hy) h] at h2;exact hf (h2 _ (jP hne))
def zhU(ho:LOk D)(lo:0<=D.span)(hi:D.span<=30)(few:∀g∈D.grps,g.length<=8)(whole:∀m∈D.tick,∃g∈D.grps,∀y∈zk m,y∈g)(apart:D.tick.Pairwise λa b=>∀y∈zk a,y∉zk b)(fits:∀m∈D.tick,FitM D m)(free:∀m∈D.tick,m∉D.clos)
  (hg:g∈D.grps)(tl:D.tick.length<=992):Inv (D.pick g):=by
 have h8:=few g hg;have hgo:=zf2 ho hg h8;have P:=zar (D.able g) (r:=g);refine⟨znH ho hgo tl,lo,hi,few,λm hm=>?_,?_,λm hm=>?_,λm hm=>?_⟩
 .rcases fR.mp hm with hm|hm
  .exact whole m (fZ.mp hm).1
  .exact zc g hg (P.fit m hm)
 .refine gC.mpr (zq (apart.sublist List.filter_sublist) P.dis (λa ha b hb y hy hy'=>?_));obtain⟨h1,h2⟩:=fZ.mp ha;exact zrK hg (whole a h1) (qu (fits a h1).go) (by simpa using h2) y hy (P.fit b hb y hy')
 .rcases fR.mp hm with hm|hm
  .have:=fits m (fZ.mp hm).1;exact⟨this.sm,this.r1,this.r2,this.one,this.fit⟩
  .have:=(zcb hgo (kG (P.sub m hm)).1).1;exact⟨this.sm,this.r1,this.r2,this.one,this.fit⟩
 .rcases fR.mp hm with hm|hm
  .exact free m (fZ.mp hm).1
  .exact(kG (P.sub m hm)).2
def zoY(h:Inv D)(ho':LOk (D.add s e))(hg:g∈(D.add s e).grps)(hm:(s,((D.row s).length:Int))∈g)(h8:g.length<=8):∀g'∈(D.add s e).grps,g'.length<=8:=λg' hg'=>by
 by_cases hn:(s,((D.row s).length:Int))∈g'
 .rw[zbZ hg' hg hn hm];exact h8
 .exact h.few g' (znk h.ok ho' h.lo hg' hn)
def zkz(h:Inv D)(ho':LOk (D.add s e))(hg:g∈(D.add s e).grps)(hm:(s,((D.row s).length:Int))∈g)(h8:g.length<=8)(tl:D.tick.length<=992):Inv ((D.add s e).pick g):=by
 refine zhU ho' (by rw[qR];exact h.lo) (by rw[qR];exact h.hi) (zoY h ho' hg hm h8) ?_ ?_ ?_ ?_ hg (by rw[qS];exact tl)
 .intro m hm;rw[qS] at hm;refine zb (h.whole m hm) λg1 h1 h2=>?_;refine zb (zlm (s:=s) (e:=e) h.ok ho' h.lo h1) λg2 h3 h4=>?_;exact zc g2 h3 (λy hy=>h4 y (h2 y hy))
 .rw[qS];exact h.apart
 .intro m hm;rw[qS] at hm;exact zm9 (h.fits m hm)
 .intro m hm;rw[qS] at hm;rw[zdu];exact h.free m hm
end
noncomputable def Led.take(D:Led)(m:Mt):Led:={ D with tick:=D.tick.erase m,clos:=D.clos++[m] }
def zey{D:Led}(h:Inv D):D.tick.Nodup:=by
 refine(h.apart.imp_of_mem (S:=λa b=>a≠b) λ{a b} ha hb hd e=>?_);subst e;exact hd _ (jP (qu (h.fits a ha).go)) (jP (qu (h.fits a ha).go))
def zoF{D:Led}(h:Inv D){m:Mt}(hm:m∈D.tick)(hc:D.clos.length<1000):Inv (D.take m):=by
 have nd:=zey h;have sub:∀a∈D.tick.erase m,a∈D.tick:=λa ha=>fBU ha;have ok:=h.ok;refine⟨⟨ok.es,ok.fs,ok.few,λa ha=>ok.tick a (sub a ha),λa ha=>?_,?_,?_⟩,h.lo,h.hi,h.few,λa ha=>h.whole a (sub a ha),h.apart.sublist List.erase_sublist,λa ha=>?_,λa ha hc'=>?_⟩
 .rcases fR.mp ha with ha|ha
  .exact ok.clos a ha
  .rw[fJ.mp ha];exact ok.tick m hm
 .exact fF (List.erase_sublist.length_le) ok.tl
 .show (D.clos++[m]).length<=1000;rw[fE,fV];exact ztZ hc
 .have:=h.fits a (sub a ha);exact⟨this.sm,this.r1,this.r2,this.one,this.fit⟩
 .rcases fR.mp hc' with hc'|hc'
  .exact h.free a (sub a ha) hc'
  .rw[fJ.mp hc'] at ha;exact(List.Nodup.mem_erase_iff nd).mp ha |>.1 rfl
noncomputable def Led.again(D:Led):Led:={ D with tick:=D.grps.flatMap λg=>pk (D.able g) g }
def zmF{D:Led}(few:∀g∈D.grps,g.length<=8)(ho:LOk D):∀(gs2 gs1:List (List zd)) (t:List Mt),D.grps=gs1++gs2->
  (gs2.foldl Led.pick { D with tick:=t++gs1.flatMap λg=>pk (D.able g) g })={ D with tick:=(t.filter λm=>!decide (zT m∈gs2.flatten))++D.grps.flatMap λg=>pk (D.able g) g }:=by
 intro gs2
 induction gs2 with
 | nil=>
  intro gs1 t e;rw[gQ] at e;rw[e];have:(t.filter λm=>!decide (zT m∈([]:List (List zd)).flatten))=t:=by
   refine List.filter_eq_self.mpr λm _=>?_;rw[List.flatten_nil,Hx gM];rfl
  rw[this];rfl
 | cons g gs2 ih=>
  intro gs1 t e;rw[gZ];have hgm:g∈D.grps:=by rw[e];exact gA _ fA
  have e':D.grps=(gs1++[g])++gs2:=by rw[e,gI];rfl
  have ep:Led.pick { D with tick:=t++gs1.flatMap λg=>pk (D.able g) g } g={ D with tick:=(t.filter λm=>!decide (zT m∈g))++(gs1++[g]).flatMap λg=>pk (D.able g) g }:=by
   have keep:((gs1.flatMap λg=>pk (D.able g) g).filter λm=>!decide (zT m∈g))=gs1.flatMap λg=>pk (D.able g) g:=by
    refine List.filter_eq_self.mpr λm hm=>?_;refine zb (gX.mp hm) λg1 h1 h2=>?_;have hg1:g1∈D.grps:=by rw[e];exact gP _ h1
    have P:=zar (D.able g1) (r:=g1);have hgo:=(zcb (zf2 ho hg1 (few g1 hg1)) (kG (P.sub m h2)).1).1.go;have hf:=P.fit m h2 _ (jP (qu hgo));rw[Hx λhfg=>?_];rfl;have hnd:=zbw D;rw[e,List.flatten_append,pM] at hnd;exact hnd.2.2 _ (gL.mpr (zc g1 h1 hf)) _ (gL.mpr (zc g fA hfg)) rfl
   show ({ D with tick:=((t++gs1.flatMap λg=>pk (D.able g) g).filter λm=>!decide (zT m∈g))++pk (D.able g) g }:Led)=_;rw[List.filter_append,keep,List.flatMap_append,gI];simp only[fAD,List.flatMap_nil,gQ]
  rw[ep,ih (gs1++[g]) _ e',List.filter_filter];have:(t.filter λm=>(!decide (zT m∈gs2.flatten))&&!decide (zT m∈g))=t.filter λm=>!decide (zT m∈(g::gs2).flatten):=by
   refine fCK λm _=>?_;rw[fCJ]
   by_cases h1:zT m∈g<;>by_cases h2:zT m∈gs2.flatten<;>simp[h1,h2]
  rw[this]
def ziv{D:Led}(h:Inv D):D.grps.foldl Led.pick D=D.again:=by
 have:=zmF h.few h.ok D.grps [] D.tick rfl;simp only[List.flatMap_nil,gQ] at this;rw[this];have:(D.tick.filter λm=>!decide (zT m∈D.grps.flatten))=[]:=by
  refine fBQ.mpr λm hm=>?_;refine zb (h.whole m hm) λg h1 h2=>?_;rw[Hy (gL.mpr (zc g h1 (h2 _ (jP (qu (h.fits m hm).go)))))];exact pW
 rw[this];rfl
def zeQ{J β:Type}{R:β->β->Prop}{f:J->List β}{l:List J}(h1:∀a∈l,(f a).Pairwise R)(h2:l.Pairwise λa b=>∀x∈f a,∀y∈f b,R x y):(l.flatMap f).Pairwise R:=by
 induction l with
 | nil=>exact .nil
 | cons a l ih=>
  obtain⟨h3,h4⟩:=gK.mp h2;rw[fAD,gC];refine zq (h1 a fA) (ih (λb hb=>h1 b (fB _ hb)) h4) (λx hx y hy=>?_);refine zb (gX.mp hy) λb hb hy=>?_;exact h3 b hb x hx y hy
def zll(D:Led):D.grps.Pairwise λg g'=>∀y∈g,y∉g':=by
 have h:=zbw D;generalize D.grps=gs at h
 induction gs with
 | nil=>exact .nil
 | cons g gs ih=>
  rw[fCJ,pM] at h;exact gK.mpr ⟨λg' hg' y hy hy'=>h.2.2 y hy y (gL.mpr (zc g' hg' hy')) rfl,ih h.2.1⟩
def znb{J β:Type}{f:J->List β}{c:J->Nat}:∀{l:List J},(∀a∈l,(f a).length<=c a)->(l.flatMap f).length<=(l.map c).sum:=by
 intro l
 induction l with
 | nil=>intro _;exact fN _
 | cons a l ih=>
  intro h;rw[fAD,fE,gG,List.sum_cons];have:=h a fA;have:=ih λb hb=>h b (fB _ hb);exact zC4 (by assumption) this
def zmG(D:Led):D.again.tick.length<=D.es.length+D.fs.length:=by
 have h1:=znb (f:=λg=>pk (D.able g) g) (c:=λg=>g.length) (l:=D.grps) λg _=>zjn _ _;have h2:(D.grps.map λg=>g.length).sum=D.grps.flatten.length:=by rw[List.length_flatten]
 have h3:D.grps.flatten.length=D.es.length+D.fs.length:=by unfold Led.grps;rw[ql,fC,zae]
 show (D.grps.flatMap λg=>pk (D.able g) g).length<=_;exact zC6 h1 h2 h3
def zkU{D:Led}(h:Inv D):Inv D.again:=by
 have ok:=h.ok;have mem:∀m∈D.again.tick,∃g∈D.grps,m∈pk (D.able g) g:=λm hm=>gX.mp hm;have fit:∀m∈D.again.tick,FitM D m/\m∉D.clos:=λm hm=>by
  refine zb (mem m hm) λg h1 h2=>?_;have:=kG ((zar (D.able g) (r:=g)).sub m h2);exact⟨(zcb (zf2 ok h1 (h.few g h1)) this.1).1,this.2⟩
 have tl:=zmG D;have few:=ok.few;refine⟨⟨ok.es,ok.fs,ok.few,λm hm=>(fit m hm).1.go,ok.clos,zCZ tl few,ok.cl⟩,h.lo,h.hi,h.few,λm hm=>?_,?_,λm hm=>?_,λm hm=>(fit m hm).2⟩
 .refine zb (mem m hm) λg h1 h2=>?_;exact zc g h1 ((zar (D.able g) (r:=g)).fit m h2)
 .refine zeQ (λg _=>(zar (D.able g) (r:=g)).dis) ((zll D).imp λ{g g'} hd a ha b hb y hy hy'=>?_);exact hd y ((zar (D.able g) (r:=g)).fit a ha y hy) ((zar (D.able g') (r:=g')).fit b hb y hy')
 .have:=(fit m hm).1;exact⟨this.sm,this.r1,this.r2,this.one,this.fit⟩
def zrj{D:Led}{g:List zd}(hg:g∈D.grps):g≠[]:=by
 unfold Led.grps at hg;rw[q6] at hg;refine zb (fQ.mp hg) λG hG e1_2=>?_;subst e1_2;exact λe=>zeg G hG (List.map_eq_nil_iff.mp e)
noncomputable def zam(span:Int)(prev:Option Int)(t:Tr):Bool:=match prev with
 | none=>false
 | some p=>decide (span<t.1-p)
noncomputable def lgF(span:Int)(m:zd)(f:List zd)(prev:Option Int):List Tr->List zd
 | []=>f
 | t::ts=>match zam span prev t with
  | false=>lgF span m (f++[t.2]) (some t.1) ts
  | true=>match decide (m∈f) with
   | true=>f
   | false=>lgF span m [t.2] (some t.1) ts
def zhg{span:Int}{gs:List (List zd)}{f:List zd}{p:Int}{t:Tr}:jQ span (gs++[f],some p) t=(if zam span (some p) t then ((gs++[f])++[[t.2]],some t.1) else (gs++[f++[t.2]],some t.1)):=by
 have e:zc7 span (some p) t.1=zam span (some p) t:=decide_eq_decide.mpr ⟨λh=>Int.lt_sub_left_of_add_lt h,λh=>Int.add_lt_of_lt_sub_left h⟩;unfold jQ;dsimp only;rw[e];cases zam span (some p) t with
 | true=>show (jw (gs++[f]++[[]]) t.2,some t.1)=_;rw[jc];rfl
 | false=>show (jw (gs++[f]) t.2,some t.1)=_;rw[jc];rfl
def zlj{span:Int}(ts:List Tr):∀(gs:List (List zd)) (f:List zd) (p:Int),∃r,(ts.foldl (jQ span) (gs++[f],some p)).1=gs++r:=by
 induction ts with
 | nil=>exact λgs f p=>⟨[f],rfl⟩
 | cons t ts ih=>
  intro gs f p;rw[gZ,zhg];cases zam span (some p) t with
  | true=>exact zY (ih (gs++[f]) [t.2] t.1) λr h=>⟨[f]++r,h.trans (gI ..)⟩
  | false=>exact ih gs (f++[t.2]) t.1
def ztc{span:Int}{m:zd}(ts:List Tr):∀(gs:List (List zd)) (f:List zd) (p:Int),(m∈f\/m∈ts.map (·.2))->lgF span m f (some p) ts∈(ts.foldl (jQ span) (gs++[f],some p)).1/\m∈lgF span m f (some p) ts:=by
 induction ts with
 | nil=>exact λgs f p h=>⟨gA _ fA,h.resolve_right λh=>nomatch h⟩
 | cons t ts ih=>
  intro gs f p h;rw[gZ,zhg];unfold lgF;cases zam span (some p) t with
  | false=>exact ih gs (f++[t.2]) t.1 (h.elim (λh=>.inl (gP _ h)) λh=>(fG.mp h).elim (λe=>.inl (by rw[e];exact gA _ fA)) .inr)
  | true=>
   by_cases hm:m∈f
   .rw[Hy hm];refine⟨?_,hm⟩;refine zY (zlj (span:=span) ts (gs++[f]) [t.2] t.1) λr e=>?_;have e:(ts.foldl (jQ span) (gs++[f]++[[t.2]],some t.1)).1=_:=e;show f∈(ts.foldl (jQ span) (gs++[f]++[[t.2]],some t.1)).1;rw[e];exact gP _ (gA _ fA)
   .rw[Hx hm];exact ih (gs++[f]) [t.2] t.1 (h.elim (λh=>absurd h hm) λh=>(fG.mp h).elim (λe=>.inl (by rw[e];exact fA)) .inr)
def zru{D:Led}{m:zd}{g:List zd}(hg:g∈D.grps)(hm:m∈g):lgF D.span m [] none (inO D.es D.fs)=g:=by
 have hin:m∈(inO D.es D.fs).map (·.2):=by rw[<-ql D.es D.fs D.span];exact gL.mpr (zc g hg hm)
 have key:lgF D.span m [] none (inO D.es D.fs)∈D.grps/\m∈lgF D.span m [] none (inO D.es D.fs):=by
  unfold Led.grps grps;generalize inO D.es D.fs=T at hin;cases T with
  | nil=>cases hin
  | cons t ts=>exact ztc ts [] [t.2] t.1 ((fG.mp hin).elim (λe=>.inl (by rw[e];exact fA)) .inr)
 exact zbZ key.1 hg key.2 hm
def zfY{ms:List Mt}(h:∀m∈ms,SmM m)(p:Mt->Bool):(srt num ms).filter p=srt num (ms.filter p):=
 zew (λx hx y hy=>zkt (h x (fZ.mp hx).1) (h y (fZ.mp hy).1)) ((je num ms).filter p) ((zgC num ms).filter p)
noncomputable def zaE(g:List zd)(m:Mt):Bool:=((zk m).filter λy=>decide (y∈g)).isEmpty
def zgO{g:List zd}{m:Mt}(h:∃y∈zk m,y∈g):zaE g m=false:=by
 unfold zaE;refine zb h λy hy hg=>?_;cases e:(zk m).filter λy=>decide (y∈g) with
 | nil=>exact absurd (Hy hg) (fBQ.mp e y hy)
 | cons a l=>rfl
def zkV{D:Led}{s:Bool}{e:Ent}{g:List zd}(hf:∀m∈D.tick,FitM D m)(hg:GOk g (D.add s e).es.length (D.add s e).fs.length):((D.add s e).pick g).tick.filter (zaE g)=D.tick.filter (zaE g):=by
 have h1:∀m∈D.tick,zk m≠[]:=λm hm=>qu (hf m hm).go;show ((D.add s e).tick.filter (λm=>!decide (zT m∈g))++pk ((D.add s e).able g) g).filter (zaE g)=_;rw[List.filter_append,qS];have e2:(pk ((D.add s e).able g) g).filter (zaE g)=[]:=fBQ.mpr λm hm=>by
  have hw:=zcb hg (kG (zjo hm)).1;have hn:=jP (qu hw.1.go);rw[zgO (zc _ hn (hw.2 _ hn))];exact pW
 rw[e2,gQ,List.filter_filter];refine fCK λm hm=>?_
 by_cases h:zT m∈g
 .rw[zgO (zc _ (jP (h1 m hm)) h)];rfl
 .rw[Hx h];exact fB0 _
def zle{D:Led}(I:Inv D)(m:Mt):D.tick.erase m=D.tick.filter λx=>!decide (x=m):=by
 rw[List.Nodup.erase_eq_filter (zey I)];refine fCK λx _=>congrArg Bool.not ?_
 by_cases h:x=m
 .rw[Hy h,beq_iff_eq.mpr h]
 .rw[Hx h,beq_eq_false_iff_ne.mpr h]
section
variable{P:Hj}{X:Cx}{n:Nat}{Q:zm}{Z:XP}{U:AHeap}
def zct{xs:List AV}{c:Int}(m:Int)(h:(xs.length:Int)=m)(hp:0<m):∃v,v∈xs/\jC xs (c.fmod m)=some v:=by
 have h1:=gS c hp;have h2:=pJ c hp;obtain⟨j,hj⟩:=fAM h1;have hl:j<xs.length:=zyH h h2 hj;exact zc (xs[j]) (fBX hl) (by rw[hj];exact atIdx_nat.trans (fW hl))
def zj5(c:Int):∃s:Bool,jC [AV.str 0,.str 1] (c.fmod 2)=some (.str s.toNat):=by
 refine zb (zct (c:=c) (xs:=[AV.str 0,.str 1]) 2 rfl (by decide)) λv hv e=>?_
 rcases fG.mp hv with h|h
 .exact⟨false,h▸e⟩
 .exact⟨true,fJ.mp h▸e⟩
def zj2(D:Led)(s:Bool)(e:Ent):(D.add s e).es.length+(D.add s e).fs.length=D.es.length+D.fs.length+1:=by
 cases s
 .show (D.es++[e]).length+_=_;rw[fE,fV];show _+_+D.fs.length=_;exact zyC
 .show _+(D.fs++[e]).length=_;rw[fE,fV];show D.es.length+_=_;exact zyG
def LAt.other{U:AHeap}{a:LA}{D:Led}(h:LAt U a D){p:Addr}{o:AO}(hp:p∉a.all):LAt (U.set p o) a D:=by
 simp only[LA.all,fG,gM,or_false,not_or] at hp;refine zcw hp λh1 h2 h3 h4 h5 h6 h7=>?_;exact⟨zj h.s (Ne.symm h1),zj h.d (Ne.symm h2),zj h.r (Ne.symm h3),zj h.b (Ne.symm h4),zj h.k (Ne.symm h5),zj h.t (Ne.symm h6),zj h.c (Ne.symm h7),h.dr,h.nd⟩
structure OA where
 od:Addr
 ob:Addr
 ok:Addr
structure OV where
 days:Int
 scale:Int
 base:Int
 step:Int
noncomputable def OA.all(o:OA):List Addr:=[o.od,o.ob,o.ok]
noncomputable def OA.row(o:OA)(s:Bool):Addr:=if s then o.ok else o.ob
noncomputable def zwi(o:OA)(v:OV):List (Nat×AV):=[(0,.ref o.ob),(1,.ref o.ok),(20,.int v.days),(21,.int v.scale),(22,.int v.base),(24,.int v.step)]
structure OVOk(v:OV):Prop where
 days:v.days=8\/v.days=40
 scale:1<=v.scale/\v.scale<=100000000
 base:0<=v.base/\v.base<=9882
 step:1<=v.step/\v.step<=3
structure OAt(U:AHeap)(o:OA)(v:OV)(D:Led):Prop where
 d:U o.od=some (.idict (zwi o v))
 b:U o.ob=some (.list (D.es.map zw))
 k:U o.ok=some (.list (D.fs.map zw))
 nd:o.ob≠o.ok
structure St(U:AHeap)(a:LA)(o:OA)(v:OV)(D:Led)(k:Nat):Prop where
 L:LAt U a D
 O:OAt U o v D
 dis:∀x∈o.all,x∉a.all
 I:Inv D
 few:D.es.length+D.fs.length<=k
 clk:D.clos.length<=k
def Fr(U:AHeap)(a:LA)(o:OA)(U':AHeap)(pt:Addr):Prop:=∀x z,U x=some z->x∉a.all->x∉o.all->U' x=some z/\x≠pt
variable{o:OA}{v:OV}{D:Led}
def OAt.row(h:OAt U o v D)(s:Bool):U (o.row s)=some (.list ((D.row s).map zw)):=by
 cases s with
 | false=>exact h.b
 | true=>exact h.k
def zth(o:OA):o.od∈o.all:=fA
def zqO(o:OA):o.ob∈o.all:=fB _ fA
def zqP(o:OA):o.ok∈o.all:=fB _ (fB _ fA)
def OAt.keep{U':AHeap}(h:OAt U o v D)(s:∀x∈o.all,∀z,U x=some z->U' x=some z):OAt U' o v D:=
 ⟨s _ (zth o) _ h.d,s _ (zqO o) _ h.b,s _ (zqP o) _ h.k,h.nd⟩
def OAt.add(h:OAt U o v D)(s:Bool)(e:Ent):OAt (U.set (o.row s) (.list (((D.row s)++[e]).map zw))) o v (D.add s e):=by
 have hd:o.od≠o.row s:=λq=>by have:=h.d;rw[q,h.row s] at this;cases this
 cases s with
 | false=>exact⟨zj h.d hd,AHeap.wA ..,zj h.k (Ne.symm h.nd),h.nd⟩
 | true=>exact⟨zj h.d hd,zj h.b h.nd,AHeap.wA ..,h.nd⟩
def zgn(o:OA)(s:Bool):o.row s∈o.all:=by
 cases s
 .exact zqO o
 .exact zqP o
def zg4(a:LA):a.dx∈a.all:=fB _ fA
def zqQ(a:LA):a.pc∈a.all:=gA [a.self,a.dx,a.rd,a.pb,a.pk,a.pt] fA
def zfG(a:LA)(s:Bool):a.row s∈a.all:=by
 cases s
 .exact gA [a.self,a.dx,a.rd] (fA (a:=a.pb) (l:=[a.pk,a.pt,a.pc]))
 .exact gA [a.self,a.dx,a.rd,a.pb] (fA (a:=a.pk) (l:=[a.pt,a.pc]))
def zjg{a:LA}{pt x:Addr}(h:x∈({ a with pt:=pt }:LA).all):x=pt\/x∈a.all:=
 (fR.mp (show x∈[a.self,a.dx,a.rd,a.pb,a.pk]++pt::[a.pc] from h)).elim (λh=>.inr (gP (a.pt::[a.pc]) h)) λh=>(fG.mp h).elim .inl λh=>.inr (gA [a.self,a.dx,a.rd,a.pb,a.pk] (fB _ h))
def zcM(a:LA):a.pt∈a.all:=gA [a.self,a.dx,a.rd,a.pb,a.pk] (fA (a:=a.pt) (l:=[a.pc]))
def OAt.some(h:OAt U o v D){x:Addr}(hx:x∈o.all):U x≠none:=by
 refine(fO.mpr ⟨?_,fO.mpr ⟨?_,fO.mpr ⟨?_,λ_ h=>nomatch h⟩⟩⟩:∀x∈o.all,U x≠none) x hx
 .rw[h.d];exact fH _
 .rw[h.b];exact fH _
 .rw[h.k];exact fH _
def ziO{a:LA}(h:OAt U o v D)(dis:∀x∈o.all,x∉a.all){pt:Addr}(hp:pt=a.pt\/U pt=none):∀x∈o.all,x∉({ a with pt:=pt }:LA).all:=λx hx hx'=>
 (zjg hx').elim (λe=>hp.elim (λe'=>dis x hx (by rw[e,e'];exact zcM a)) λhn=>h.some hx (by rw[e];exact hn)) (dis x hx)
def St.mono{a:LA}{k:Nat}(h:St U a o v D k):St U a o v D (k+1):=⟨h.L,h.O,h.dis,h.I,fAB h.few,fAB h.clk⟩
def za8(h:OAt U o v D){s:Bool}(q:Q (.ref (o.row s)) U):zdK o.od (.str s.toNat) Q U:=by
 refine qH h.d ?_;cases s<;>exact q
def Fr.refl(a:LA)(o:OA):Fr U a o U a.pt:=λx z e h _=>⟨e,λq=>h (q▸zcM a)⟩
def znZ{x pt:Addr}{z:AO}(e:U x=some z)(h:U pt=none):x≠pt:=λq=>by rw[q,h] at e;exact absurd (Eq.symm e) (fH _)
end
section
variable{P:Hj}{X:Cx}{n:Nat}{Q:zm}{Z:XP}{U:AHeap}
def zdI{J:Type}(f:J->AV)(xs:List J)(k:Nat):zbT k (xs.map f)=(xs.zipIdx k).map λp=>AV.tup [.int (p.2:Nat),f p.1]:=by
 induction xs generalizing k with
 | nil=>rfl
 | cons x xs ih=>rw[gG,zbT,ih,List.zipIdx_cons,gG]
def zir(s:Bool)(es:List Ent):(es.zipIdx 0).map (λp=>zaC (p.1.1,(s,(p.2:Int))))=(ko s es).map zaC:=by
 unfold ko;rw[gD];refine fCH λi=>?_;rw[pT,pT,List.getElem?_zipIdx]
 by_cases h:i<es.length
 .rw[fW h,fW (by rw[gU];exact h),List.getElem_range];show some _=some (zaC ((es.getD i (0,0)).1,_));rw[fS,fW h,fBB];rfl
 .rw[fAF (pL.mp h),fAF (by rw[gU];exact pL.mp h)];rfl
def zow{es fs:List Ent}(he:EsOk es)(hf:EsOk fs){r:Bool}(q:mkL r ((inO es fs).map zaC) Q U):zfr r ((zbh es fs).map zaC) Q U:=by
 refine zet zrX zqZ zas (λx hx y hy=>zel (jx he hf hx).1 (jx he hf hy).1) (.inl λx hx=>?_) (λx hx y hy=>zqY (jx he hf hx).1 (jx he hf hy).1) q;refine zb (fQ.mp hx) λt _ e0_2=>?_;subst e0_2;exact jD _ _ rfl
end
section
variable{P:Hj}{X:Cx}{n:Nat}{Q:zm}{Z:XP}{U:AHeap}
def LAt.sub{U U':AHeap}{a:LA}{D:Led}(h:LAt U a D)(s:Sub U U'):LAt U' a D:=⟨s _ _ h.s,s _ _ h.d,s _ _ h.r,s _ _ h.b,s _ _ h.k,s _ _ h.t,s _ _ h.c,h.dr,h.nd⟩
def znm{rs:List Addr}{gs:List (List zd)}(h:Hold U rs (gs.map λg=>g.map zD)):∀z∈rs.zip gs,U z.1=some (AO.list (z.2.map zD)):=by
 induction gs generalizing rs with
 | nil=>intro z hz;rw[List.zip_nil_right] at hz;cases hz
 | cons g gs ih=>
  cases h with
  | @cons r rs _ _ h1 h2=>
   intro z hz
   rcases fG.mp hz with rfl|hz
   .exact h1
   .exact ih h2 z hz
def zsZ{m:zd}{ms:List zd}{p:Addr}{R:Bool->AHeap->Prop}(hp:U p=some (.list (ms.map zD)))(q:R (decide (m∈ms)) U):inR (zD m) p R U:=by
 refine zhj hp (za6 m) (λy hy=>?_) (by decide) (λh=>?_) λh=>?_
 .refine zb (fQ.mp hy) λx _ e0_2=>?_;subst e0_2;exact za6 x
 .rw[zgi] at h;rw[Hy h] at q;exact q
 .rw[zgi] at h;rw[Hx h] at q;exact q
def zf1(G:Gd X (hK P))(hd:n<560){a:LA}{D:Led}(h:LAt U a D)(ho:LOk D){m:zd}{g:List zd}{gs:List (List zd)}(hg:D.holding m=g::gs)
  (q:∀U' r,Sub U U'->U r=none->U' r=some (.list (g.map zD))->Q (.ref r) U'):CallOk X 228 ⟨n,false⟩ [.ref a.self,.str m.1.toNat,.int m.2] Q Z U:=by
 refine zdS G (fM hd (by decide)) λL=>?_;refine ze h.s h.d ?_;refine zb3 (G.push L) (zCJ hd) λL'=>?_;refine ze h.s h.d ?_;refine qI (s:=false) h ?_;refine ze h.s h.d ?_;refine qI (s:=true) h ?_;refine ze h.s h.d ?_;refine zcT ((G.push L).push L') (zCI hd) h.b h.k ho.es ho.fs λU' p hG=>?_;obtain⟨⟨rs,h1,h2,h3,h4⟩,hs⟩:=hG;refine Ends.same (Ends.same ?_);have hgl:=Led.grps_len ho;have hlen:=zhh h2;rw[fC] at hlen;unfold Led.grps at hgl;have hz:=znm h2;unfold Led.holding Led.grps at hg;generalize Mine.Internal.grps D.es D.fs D.span=GS at *;have ez:rs.map AV.ref=(rs.zip GS).map λz=>AV.ref z.1:=by
  have:(rs.zip GS).map Prod.fst=rs:=fCP (zsg hlen)
  conv=>lhs;rw[<-this]
  rw[gD];rfl
 refine zf (zz h1) ?_;rw[ez] at h1 ⊢;refine z9 (λz=>decide (m∈z.2)) (λz=>AV.ref z.1) (λ_=>rfl) (λ_ _=>rfl) (λz hz' R q=>?_) (λz _ _ R q=>q) h1 (by rw[List.length_zip];exact zCS hgl) ?_
 .exact zsZ (hz z hz') q
 have hsnd:(rs.zip GS).map Prod.snd=GS:=List.map_snd_zip (zqt hlen);have hf:((rs.zip GS).filter λz=>decide (m∈z.2)).map Prod.snd=g::gs:=by
  rw[<-hg]
  conv=>rhs;rw[<-hsnd]
  rw[List.filter_map];rfl
 cases hzf:(rs.zip GS).filter λz=>decide (m∈z.2) with
 | nil=>rw[hzf] at hf;cases hf
 | cons z zs=>
  rw[hzf,gG] at hf;have hzm:z∈rs.zip GS:=(fZ.mp (show z∈(rs.zip GS).filter λz=>decide (m∈z.2) by rw[hzf];exact fA)).1;have e:z.2=g:=(List.cons.inj hf).1;have:=hz z hzm;rw[e] at this;exact Ends.same (q U' z.1 hs (h4 _ (fB _ (fBF hzm).1)) this)
def zjs(m:Mt):RdA (zC m) (.tuple [qz m.1,qz m.2]):=λU=>by
 have rdI:∀l:List Int,RdL U (l.map .int) (l.map .int):=λl=>by
  induction l with
  | nil=>exact .nil
  | cons i l ih=>exact .cons (.int i) ih
 exact .tup (.cons (.tup (rdI _)) (.cons (.tup (rdI _)) .nil))
def zhM(m:Mt):(PyData.tuple [qz m.1,qz m.2]).depth<=100:=by
 have dI:∀l:List Int,PyData.depthAll (l.map .int)=0:=λl=>by
  induction l with
  | nil=>rfl
  | cons i l ih=>rw[gG,PyData.depthAll,ih];rfl
 unfold qz;simp only[PyData.depth,PyData.depthAll,dI];decide
def znY(m m':Mt):PyData.eqv (.tuple [qz m.1,qz m.2]) (.tuple [qz m'.1,qz m'.2])=decide (m=m'):=by
 simp only[PyData.eqv,PyData.eqvAll,zbV,fB0];obtain⟨a,b⟩:=m;obtain⟨c,d⟩:=m'
 by_cases h1:a=c<;>by_cases h2:b=d<;>simp[h1,h2]
def ztn{m:Mt}{ms:List Mt}(h:m∈ms){K:AV->List AV->Prop}(q:K .none ((ms.erase m).map zC)):rmG (ms.map zC) (zC m) K:=by
 refine zn (List.exists_erase_eq h) λpre post h1 h2 h3=>?_;unfold rmG;refine qf (pre.map zC) (zC m) (post.map zC) _ _ (by rw[h2,fU,gG]) (zjs m) (zjs m) (by rw[znY,Hy rfl]) (zhM m) (λx hx=>?_) ?_
 .refine zb (fQ.mp hx) λm' hm' e5_2=>?_;subst e5_2;exact zv _ (zjs m') (by rw[znY];exact Hx λe=>h1 (by rw[<-e];exact hm')) (zhM m')
 .rw[<-fU,<-h3];exact q
def nd4{a b c d:Addr}:[a,b,c,d].Nodup↔(a≠b/\a≠c/\a≠d)/\(b≠c/\b≠d)/\c≠d:=by simp only[fX,fG,gM,or_false,not_or,not_false_eq_true,fC3,and_true]
def zgD(G:Gd X (hK P))(hd:n<560){a:LA}{D:Led}(h:LAt U a D)(ho:LOk D){m:Mt}(hm:m∈D.tick)
  (q:∀U',(∀x o,x≠a.pt->x≠a.pc->U x=some o->U' x=some o)->LAt U' a (D.take m)->Q .none U'):CallOk X 235 ⟨n,false⟩ [.ref a.self,zC m] Q Z U:=by
 refine zhu G (fM hd (by decide)) λL=>?_;refine ze h.s h.d ?_;refine zsY h.t ?_;rw[Hy hm];refine ze h.s h.d ?_;refine zp h.t ?_;refine zp h.t ?_;refine ztn hm ?_;have n4:=h.nd;have npc:a.pt≠a.pc/\a.pb≠a.pt/\a.pk≠a.pt/\a.pb≠a.pc/\a.pk≠a.pc:=by
  have n4:=nd4.mp n4;exact jh n4.2.2 n4.1.2.1 n4.2.1.1 n4.1.2.2 n4.2.1.2
 have nt:∀{q:Addr} {o:AO},U q=some o->(∀xs,o≠.list xs)->q≠a.pt/\q≠a.pc:=λe ho=>⟨λq=>by rw[q,h.t] at e;cases e;exact ho _ rfl,λq=>by rw[q,h.c] at e;cases e;exact ho _ rfl⟩
 have s1:=nt h.s (λ_ q=>nomatch q);have s2:=nt h.d (λ_ q=>nomatch q);have s3:=nt h.r (λ_ q=>nomatch q);refine ze (zj h.s s1.1) (zj h.d s2.1) ?_;have kc:(U.set a.pt (.list ((D.tick.erase m).map zC))) a.pc=some (.list (D.clos.map zC)):=zj h.c npc.1.symm;refine zp kc ?_;refine zp kc ?_;refine zJ (by rw[fC];have:=ho.cl;exact zCK this) ?_;have e:D.clos.map zC++[zC m]=(D.clos++[m]).map zC:=by rw[fU];rfl
 rw[e];refine Ends.same (q _ (λx o h1 h2 e=>zj (zj e h1) h2) ⟨zj (zj h.s s1.1) s1.2,zj (zj h.d s2.1) s2.2,zj (zj h.r s3.1) s3.2,zj (zj h.b npc.2.1) npc.2.2.2.1,zj (zj h.k npc.2.2.1) npc.2.2.2.2,zj (AHeap.wA ..) npc.1,AHeap.wA ..,h.dr,h.nd⟩)
def znt{D:Led}(h:Inv D):D.tick.length<=D.es.length+D.fs.length:=by
 have hne:∀m∈D.tick,zk m≠[]:=λm hm=>qu (h.fits m hm).go;have nd:(D.tick.map zT).Nodup:=by
  rw[fA9,fAV];exact h.apart.imp_of_mem λ{a b} ha hb hd e=>hd _ (jP (hne a ha)) (e▸jP (hne b hb))
 have:=zhO nd (u:=(inO D.es D.fs).map (·.2)) λy hy=>by
  refine zb (fQ.mp hy) λm hm e6_2=>?_;subst e6_2;refine zb (h.whole m hm) λg h1 h2=>?_;rw[<-ql D.es D.fs D.span];exact gL.mpr (zc g h1 (h2 _ (jP (hne m hm))))
 rw[fC,fC,zae] at this;exact this
def zgN(G:Gd X (hK P))(hd:n<530){a:LA}{D:Led}(h:LAt U a D)(I:Inv D)
  (q:∀U' pt',(∀x o,x≠a.dx->U x=some o->U' x=some o)->(pt'=a.pt\/U pt'=none)->LAt U' { a with pt:=pt' } D.again->Q .none U'):CallOk X 242 ⟨n,false⟩ [.ref a.self] Q Z U:=by
 refine zpu G (fM hd (by decide)) λL=>?_;refine ze h.s h.d ?_;refine zbl (G.push L) (zCH hd) h I.ok ?_;refine zF (g:=gAV) (λxs b l U'=>(∃pt',(∀x o,x≠a.dx->U x=some o->U' x=some o)/\(pt'=a.pt\/U pt'=none)/\LAt U' { a with pt:=pt' } b)/\Inv b/\(b.es=D.es/\b.fs=D.fs/\b.span=D.span)/\(∀g∈xs,g∈D.grps)/\∃u,l=[some (.ref a.self),u]) Led.pick ?_ (b:=D) ?_ ⟨⟨a.pt,λ_ _ _ e=>e,.inl rfl,h⟩,I,⟨rfl,rfl,rfl⟩,λg hg=>hg,_,rfl⟩
 .intro g xs b l U' K S_ hR1;refine zg5 hR1 λh8_0 Ib h8_2 hx u e8_5=>?_;obtain⟨pt,fr,hpt,hL⟩:=h8_0;obtain⟨e1,e2,e3⟩:=h8_2;subst e8_5;intro hK;refine zc _ rfl ?_;have hgb:g∈b.grps:=by unfold Led.grps;rw[e1,e2,e3];exact hx g fA
  have h8:=Ib.few g hgb;refine ze hL.s hL.d ?_;refine zkw (G.push L) (zCG hd) hL Ib.ok (zdl hgb h8 Ib.ok.few) λσ2 pt2 fr2 hp2 hL2=>?_;have hfew:=Ib.ok.few;have Ib2:=zhU Ib.ok Ib.lo Ib.hi Ib.few Ib.whole Ib.apart Ib.fits Ib.free hgb (by have:=znt Ib;exact zCX hfew this);refine⟨trivial,hK _ _ ⟨⟨pt2,λx o hx e=>fr2 x o hx (fr x o hx e),?_,hL2⟩,Ib2,⟨e1,e2,e3⟩,λg hg=>hx g (fB _ hg),_,rfl⟩⟩;refine .inr ?_;cases e:U pt2 with
  | none=>rfl
  | some o=>
   by_cases hx:pt2=a.dx
   .rw[hx] at hp2;have:=hL.d;rw[hp2] at this;cases this
   .rw[fr pt2 o hx e] at hp2;cases hp2
 .intro l U' hR2;refine zg5 hR2 λh9_0 Ib _ _ u e9_5=>?_;obtain⟨pt,fr,hpt,hL⟩:=h9_0;subst e9_5;rw[ziv I] at hL;exact Ends.same (q U' pt fr hpt hL)
end
section
variable{P:Hj}{X:Cx}{n:Nat}{Q:zm}{Z:XP}{U:AHeap}
noncomputable def gfL(od:Addr)(span:Int)(m:zd)(T:List Tr)(p:Addr)(u:Option AV):Loc:=[some (.ref od),some (.int span),some (zD m),some (.lst (T.map zaC)),some (.ref p),u]
noncomputable def zoc(T:List Tr)(k:Nat):Option Int:=match k with
 | 0=>none
 | j+1=>some (T.getD j (0,(false,0))).1
structure GfS(U:AHeap)(span:Int)(m:zd)(g:List zd)(T:List Tr)(xs:List Nat)(k:Nat)(f:List zd)(p:Addr)(U':AHeap):Prop where
 hxs:xs=List.range' k (T.length-k)
 hk:k<=T.length
 out:lgF span m f (zoc T k) (T.drop k)=g
 nw:U p=none
 at_:U' p=some (.list (f.map zD))
 sub:Sub U U'
 len:f.length<=k
def GfI(U:AHeap)(od:Addr)(span:Int)(m:zd)(g:List zd)(T:List Tr)(xs:List Nat)(_:Unit)(l:Loc)(U':AHeap):Prop:=∃k f p u,l=gfL od span m T p u/\GfS U span m g T xs k f p U'
def znN:AS:=(Gc (Gv (Gw zW (Ga 4) [(Gp [(Gf (Gf (Ga 3) (Ga 5)) (Gb (.int 1))),(Gf (Gf (Ga 3) (Ga 5)) (Gb (.int 2)))])])) Ge)
section
variable{od:Addr}{span:Int}{m:zd}{g:List zd}{T:List Tr}{xs:List Nat}{I:AHeap->Prop}{K:Loc->AHeap->Prop}{S:zU}{k:Nat}{t:Tr}{U':AHeap}
def zkf{d:Dp}{f:List zd}{p:Addr}(hI:∀U,I U)(hT:T.length<=100000)(hk:k<T.length)(ht:T[k]? = some t)(hf:f.length<=k)(hp:U' p=some (.list (f.map zD)))
  (hK:K (gfL od span m T p (some (.int (k:Nat)))) (U'.set p (.list ((f++[t.2]).map zD)))):znN d (gfL od span m T p (some (.int (k:Nat)))) (Gz I K S) G0 U':=by
 refine zp hp (zf (qb ht) (zf (qb ht) (zp hp (zJ (by rw[fC];exact fF (pG hf) (fF hk (fF hT (by decide)))) ?_))));rw[fU] at hK;exact⟨hI _,hK⟩
def zpD{f:List zd}{prev:Option Int}{ts:List Tr}:lgF span m f prev (t::ts)=(match zam span prev t with
  | false=>lgF span m (f++[t.2]) (some t.1) ts
  | true=>match decide (m∈f) with
   | true=>f
   | false=>lgF span m [t.2] (some t.1) ts):=rfl
def zpg{d:Nat}(hT:T.length<=100000){i:Nat}{l:Loc}(hI:∀U,I U)(h:GfI U od span m g T (i::xs) () l U')(hS:∀p l U',Sub U U'->U p=none->U' p=some (.list (g.map zD))->S (.ret (.ref p)) l U')(hK:∀l' U',GfI U od span m g T xs () l' U'->K l' U'):∃l',j5 (.one 5) (.int (i:Nat)) l=some l'/\kt X ⟨d,false⟩ l' (Gz I K S) G0 U':=by
 obtain⟨k,f,p,u,el,H⟩:=h;subst el;obtain⟨rfl,hxs',hlt⟩:i=k/\xs=List.range' (k+1) (T.length-(k+1))/\k<T.length:=by
  have hxs:=H.hxs;cases hm:T.length-k with
  | zero=>rw[hm] at hxs;cases hxs
  | succ j=>
   rw[hm,List.range'_succ] at hxs;cases hxs;exact zq rfl (by rw[show T.length-(i+1)=j by exact zuL hm]) (by exact zuM hm)
 have ht:=js (d:=((0,(false,0)):Tr)) hlt;have hdr:T.drop i=T.getD i (0,(false,0))::T.drop (i+1):=by rw[pR hlt];exact congrArg (·::_) (Hw ((fW hlt).symm.trans ht))
 have out:=H.out;rw[hdr,zpD] at out;refine zc _ rfl ?_;have fin:∀f' p',U p'=none->Sub U (U'.set p' (.list ((f'++[(T.getD i (0,(false,0))).2]).map zD)))->f'.length<=i->lgF span m (f'++[(T.getD i (0,(false,0))).2]) (some (T.getD i (0,(false,0))).1) (T.drop (i+1))=g->K (gfL od span m T p' (some (.int (i:Nat)))) (U'.set p' (.list ((f'++[(T.getD i (0,(false,0))).2]).map zD))):=λf' p' hp' hs hl ho=>
  hK _ _ ⟨i+1,_,p',_,rfl,hxs',hlt,ho,hp',AHeap.wA ..,hs,by rw[fE,fV];exact pG hl⟩
 have go:lgF span m (f++[(T.getD i (0,(false,0))).2]) (some (T.getD i (0,(false,0))).1) (T.drop (i+1))=g->znN ⟨d,false⟩ (gfL od span m T p (some (.int (i:Nat)))) (Gz I K S) G0 U':=λho=>zkf hI hT hlt ht H.len H.at_ (fin f p H.nw (H.sub.put H.nw) H.len ho);cases i with
 | zero=>exact go out
 | succ i=>
  have ht':=js (d:=((0,(false,0)):Tr)) (Nat.lt_of_succ_lt hlt);refine zbN (Hy (fA1.mpr (fCW i))) ?_;refine zf (qb ht) ?_;refine zf (show jC (T.map zaC) (((i+1:Nat):Int)-1)=some (zaC (T.getD i (0,(false,0)))) by rw[show (((i+1:Nat):Int)-1)=(i:Int) by exact zr8];exact qb ht') ?_;refine zaH (λh=>?_) λh=>?_
  .have ho:zam span (zoc T (i+1)) (T.getD (i+1) (0,(false,0)))=true:=h;rw[ho] at out;refine zsZ H.at_ ?_;cases hm:decide (m∈f) with
   | true=>
    rw[hm] at out;have out:f=g:=out;exact hS _ _ _ H.sub H.nw (out▸H.at_)
   | false=>
    rw[hm] at out;intro p' hp';refine zkf (f:=[]) hI hT hlt ht (fT _) (AHeap.wA ..) ?_;rw[zdp];exact fin [] p' (H.sub.none hp') (H.sub.put (H.sub.none hp')) (fT _) out
  .have ho:zam span (zoc T (i+1)) (T.getD (i+1) (0,(false,0)))=false:=h;rw[ho] at out;exact go out
end
def zak(G:Gd X (hK P))(hd:n<580){od ob ok:Addr}{F:List (Nat×AV)}{D:Led}(h0:U od=some (.idict F))(f0:zaz F 0=some (.ref ob))(f1:zaz F 1=some (.ref ok))(hb:U ob=some (.list (D.es.map zw)))(hk:U ok=some (.list (D.fs.map zw)))(he:EsOk D.es)(hf:EsOk D.fs)
  {m:zd}{g:List zd}(hg:g∈D.grps)(hm:m∈g)(q:Q (gAV g) U):CallOk X 261 ⟨n,false⟩ [.ref od,.int D.span,zD m] Q Z U:=by
 refine zdT G (fM hd (by decide)) λL=>?_;have l1:=he.len;have l2:=hf.len;refine qH h0 (zf f0 ?_);refine zf (zz hb) ?_;rw[zdI];refine zX (λp=>zaC (p.1.1,(false,(p.2:Int)))) (λ_=>rfl) (λ_ _=>rfl) (λp hp R q=>q) hb (by rw[fBJ];exact zcq l1) ?_;refine qH h0 (zf f1 ?_);refine zf (zz hk) ?_;rw[zdI];refine zX (λp=>zaC (p.1.1,(true,(p.2:Int)))) (λ_=>rfl) (λ_ _=>rfl) (λp hp R q=>q) hk (by rw[fBJ];exact zcq l2) ?_;refine zJ (by rw[fC,fC,fBJ,fBJ];exact zqr l1 l2) ?_;rw[zir,zir,<-fU];refine zow he hf ?_;intro p hp;have hT:(inO D.es D.fs).length<=100000:=by have:=zae D.es D.fs;exact ztS l1 l2 this
 have out:=zru hg hm;generalize inO D.es D.fs=T at hT out ⊢
 conv=>whnf
 rw[fC];refine zee (fF hT (by decide)) ?_;have fin:∀p U',Sub U U'->U p=none->U' p=some (.list (g.map zD))->Ends Q (.ref p) U':=λp U' hs hp hp'=>Ends.one hs hp' hp q;refine zcA (g:=λi:Nat=>AV.int i) (GfI U od D.span m g T) (λb _=>b) (λi xs b l U' K h hK=>zpg hT (λ_=>trivial) h (λp l U' h1 h2 h3=>fin p U' h1 h2 h3) hK) (b:=()) (λl U' h=>?_) ⟨0,[],p,_,rfl,List.range_eq_range',fT _,out,hp,AHeap.wA ..,zP hp,fN _⟩;obtain⟨k,f,p,u,el,H⟩:=h;subst el;have hk':k=T.length:=by
  have hxs:=H.hxs;cases hm:T.length-k with
  | zero=>exact zCP H.hk hm
  | succ j=>rw[hm] at hxs;cases hxs
 have out:=H.out;rw[hk',fCO] at out;have out:f=g:=out;exact fin p U' H.sub H.nw (out▸H.at_)
end
section
variable{P:Hj}{X:Cx}{n:Nat}{Q:zm}{Z:XP}{U:AHeap}
def qN{hb:Bool}(G:Gd X (hK P))(hd:n<560){a:LA}{D:Led}(h:LAt U a D)(q:Q (.lst (D.clos.map zC)) U):CallOk X 218 ⟨n,hb⟩ [.ref a.self] Q Z U:=by
 refine znx G (fM hd (by decide)) λL=>?_;refine ze h.s h.d ?_
 conv=>whnf
 exact zf (zz h.c) (Ends.same q)
def jF(ms:List Mt):∀x∈ms.map zC,Flat 2 x:=λx hx=>by refine zb (fQ.mp hx) λm _ e=>?_;rw[<-e];exact za7 m
def qW{k:Nat}{xs:List AV}(hf:∀x∈xs,Flat k x)(hk:k<100){R:Bool->AHeap->Prop}(q:R true U):eqG (.lst xs) (.lst xs) R U:=zaK (.lst hf) (.lst hf) hk (λ_=>q) λh=>absurd rfl h
def zvH{m m':Mt}{R:Bool->AHeap->Prop}(q:R (decide (m=m')) U):eqG (zC m) (zC m') R U:=
 zaK (za7 m) (za7 m') (by decide) (λh=>by rw[Hy (zhL h)] at q;exact q) λh=>by rw[Hx λe=>h (congrArg zC e)] at q;exact q
def zcz{k:Nat}{p:Addr}{b:AV}{xs ys:List AV}(hp:U p=some (.list xs))(hb:b = .lst ys\/∃r,b = .ref r/\U r=some (.list ys))(hx:∀x∈xs,Flat k x)(hy:∀y∈ys,Flat k y)(hk:k<100){R:Bool->AHeap->Prop}(h1:xs=ys->R true U)(h2:xs≠ys->R false U):eqG (.ref p) b R U:=by
 refine zb (zcN (U:=U) λx h=>(hx x h).rd) λds r1 l1=>?_;refine zb (zcN (U:=U) λx h=>(hy x h).rd) λes r2 l2=>?_;have e:=(Flat.lst hx).eqv (Flat.lst hy) (.list ds) (.list es) (.lst r1) (.lst r2);have hr:Rd U b (.list es):=hb.elim (λh=>h▸.lst r2) λh=>zb h λr h1 h2=>h1▸.list h2 r2;have hq:R (PyData.eqv (.list ds) (.list es)) U:=by
  cases hv:PyData.eqv (.list ds) (.list es) with
  | true=>exact h1 (zmM (e.mp hv))
  | false=>exact h2 λq=>by rw[e.mpr (congrArg AV.lst q)] at hv;exact nob hv.symm
 unfold eqG;exact zo (.list ds) (.list es) (.list hp r1) hr (by simp only[PyData.depth];exact Nat.succ_le_of_lt (Nat.lt_of_le_of_lt l1 hk)) hq
def zga(G:Gd X (hK P))(hd:n<590){m:Mt}(h1:m.1.length<=1000)(h2:m.2.length<=1000)(q:Q (.lst ((zk m).map zD)) U):CallOk X 266 ⟨n,false⟩ [zC m] Q Z U:=by
 refine zpx G (fM hd (by decide)) λL=>?_;refine zX (λk=>zD (false,k)) (λ_=>rfl) (λ_ _=>rfl) (λx _ R q=>q) trivial (zcq h1) ?_;refine zX (λk=>zD (true,k)) (λ_=>rfl) (λ_ _=>rfl) (λx _ R q=>q) trivial (zcq h2) ?_;refine zJ (by rw[fC,fC];exact zqr h1 h2) (Ends.same ?_);unfold zk at q;rw[fU,gD,gD] at q;exact q
def zgP(G:Gd X (hK P))(hd:n<580){T:List Mt}(hT:∀m∈T,SmM m){g:List zd}(hl:T.length<=1000)(q:Q (.lst ((T.filter (zaE g)).map zC)) U):CallOk X 271 ⟨n,false⟩ [.lst (T.map zC),gAV g] Q Z U:=by
 refine zpv G (fM hd (by decide)) λL=>?_;refine z9 (zaE g) zC (λ_=>rfl) (λ_ _=>rfl) (λm hm R q=>?_) (λm hm _ R q=>q) trivial (zcq hl) ?_
 .have hs:=hT m hm;have h1:m.1.length<=3:=hs.1.1;have h2:m.2.length<=3:=hs.2.1;refine zga (G.push L) (zgG hd) (ziq h1) (ziq h2) ?_;refine z9 (λy=>decide (y∈g)) zD (λ_=>rfl) (λ_ _=>rfl) (λy _ R q=>inM (.inl rfl) q) (λy _ _ R q=>q) trivial (fF (zfg hs) (by decide)) ?_;refine zfU (k:=1) (λx hx=>by refine zb (fQ.mp hx) λy _ e=>?_;rw[<-e];exact za6 y) (by decide) ?_;rw[fCT];exact q
 .exact Ends.same q
end
section
variable{P:Hj}{X:Cx}{n:Nat}{Q:zm}{Z:XP}{U:AHeap}{o:OA}{v:OV}{D:Led}
noncomputable def zj3(D:Led):AV:=.tup [.lst ((srt num D.tick).map zC),.lst (D.clos.map zC)]
def zpI(X:Cx):AS:=(Gc (A.vD (Gc (Gi 8 (Gs X 245 none 197 (Ga 0) [Ga 5,Gf (Ga 7) (Gb (.int 0)),Gf (Ga 7) (Gb (.int 1))])) Ge) [94] none (Gc (Gj (zbr [Gh (Gs X 245 (some 17) 211 (Ga 0) []) [(.Eq,(Gf (Ga 4) (Gb (.int 0))))],Gh (Gs X 245 (some 18) 218 (Ga 0) []) [(.Eq,(Gf (Ga 4) (Gb (.int 1))))]])) Ge)) (Gc (Gv (Gw zW (Gf (Ga 1) (Ga 5)) [Ga 7])) (Gc (Gi 9 (Gk X 261 [Ga 1,Ga 3,Gp [Ga 5,Ga 8]])) (Gc (Gq (orL [Gh (Gs X 245 (some 18) 218 (Ga 0) []) [(.NotEq,(Gf (Ga 4) (Gb (.int 1))))],Gh (Gp [Ga 5,Ga 8]) [(.NotIn,(Ga 9))]]) (Gc (Gj (Gb (.bool false))) Ge) Ge) (Gc (Gi 10 (Gf (Ga 9) (Gg false .Mod (Gg false .FloorDiv (Ga 2) (Gb (.int 640))) (Gm kj false [Ga 9])))) (Gc (Gq (orL [Gh (Gs X 245 none 228 (Ga 0) [Ga 5,Ga 8]) [(.NotEq,(Ga 9))],Gh (Gs X 245 none 228 (Ga 0) [Gf (Ga 10) (Gb (.int 0)),Gf (Ga 10) (Gb (.int 1))]) [(.NotEq,(Ga 9))]]) (Gc (Gj (Gb (.bool false))) Ge) Ge) (Gc (Gj (Gh (Gk X 271 [Gs X 245 (some 17) 211 (Ga 0) [],Ga 9]) [(.Eq,(Gk X 271 [Gf (Ga 4) (Gb (.int 0)),Ga 9]))])) Ge)))))))
def zhW{L:Env}(G:Gd (X.push L) (hK P))(hd:n<480){a:LA}{k:Nat}(S:St U a o v D k)(hk:k<=50){s:Bool}{e:Ent}(he:kI e.1 e.2=true){c:Int}{x6 x8 x9 x10:Option AV}{Sp:zU}{SZ:Addr->Loc->AHeap->Prop}
  (q:∀U' pt D' l,St U' { a with pt:=pt } o v D' (k+1)->D'.span=D.span->Fr U a o U' pt->Sp (.ret (.bool true)) l U') :
  zpI (X.push L) ⟨n+1,false⟩ [some (.ref a.self),some (.ref o.od),some (.int c),some (.int D.span),some (zj3 D),some (.str s.toNat),x6,some (.tup [.int e.1,.int e.2]),x8,x9,x10] Sp SZ U:=by
 have I:=S.I;have hrl:(D.row s).length<80:=by have:=S.few;cases s<;>(first|(show D.es.length<80;exact zC0 hk this)|(show D.fs.length<80;exact zC1 hk this))
 have ho1:=zgc I.ok he hrl;refine zn (zad (D.add s e) (m:=(s,((D.row s).length:Int))) (k:=(D.row s).length) rfl (by show _<((D.add s e).row s).length;rw[zfF,fE,fV];exact zoQ)) λg gs hg hgm hgx=>?_;refine ze S.L.s S.L.d ?_;refine zoe G (zCE hd) S.L I.ok he hrl hg (λh8 σ1 pt fr hp hL=>?_) λh9=>?_
 .have I1:=zkz I ho1 hgm hgx h8 (by have:=znt I;have:=S.few;exact zC5 hk (by assumption) this);have hO1:=S.O.keep (U':=σ1) λx hx z e=>fr x z (λh=>S.dis x hx (h▸zg4 a)) (λh=>S.dis x hx (h▸zfG a s)) e;have dis1:=ziO S.O S.dis (pt:=pt) (.inr hp);refine za8 hO1 ?_;refine zp (hO1.row s) ?_;refine zp (hO1.row s) ?_;refine zJ (by rw[fC];exact zr4 hrl) ?_;have hO2:=hO1.add s e;rw[fU] at hO2;have hL2:LAt (σ1.set (o.row s) (.list ((D.row s).map zw++[e].map zw))) { a with pt:=pt } ((D.add s e).pick g):=hL.other (dis1 _ (zgn o s));have fr2:Fr U a o (σ1.set (o.row s) (.list ((D.row s).map zw++[e].map zw))) pt:=λx z ez h1 h2=>⟨zj (fr x z (λh=>h1 (h▸zg4 a)) (λh=>h1 (h▸zfG a s)) ez) (λh=>h2 (h▸zgn o s)),znZ ez hp⟩
  have eE:(D.row s).map zw++[.tup [.int e.1,.int e.2]]=(D.row s).map zw++[e].map zw:=rfl;rw[eE];unfold A.w1;generalize σ1.set (o.row s) (.list ((D.row s).map zw++[e].map zw))=σ2 at hO2 hL2 fr2 ⊢;have hlen:=zj2 D s e;have hsp:=qR D s e;have hcl:=zdu D s e;have hap:=zkV (D:=D) (s:=s) (e:=e) I.fits (zdl hgm h8 ho1.few);have hfew:(D.add s e).es.length+(D.add s e).fs.length<=k+1:=by have:=S.few;exact zvv hlen this
  have hclk:(D.add s e).clos.length<=k+1:=by rw[hcl];have:=S.clk;exact zCR this
  rw[<-hsp];generalize D.add s e=E at hsp hcl hfew hclk ho1 hg hgm hL hO2 hL2 I1 hap ⊢;clear hL hlen;have hgr:g∈(E.pick g).grps:=hgm;refine zak (D:=E) G (zCF hd) hO2.d rfl rfl hO2.b hO2.k ho1.es ho1.fs hgm hgx ?_;refine ze hL2.s hL2.d ?_;refine qN (a:={ a with pt:=pt }) G (fM (gJ hd) (by decide)) hL2 ?_;have ec:(E.pick g).clos=D.clos:=hcl;rw[ec];refine qW (jF _) (by decide) ?_;refine inM (m:=(s,((D.row s).length:Int))) (.inl rfl) ?_;rw[Hy hgx];have hne:0<g.length:=fB8.mpr (zrj hgm);refine jL (b:=zeb ((g.map zD).length:Int)) (by unfold zeb;rw[fC,Hx (zCC hne)];rfl) ?_;refine zb (zct (c:=c.fdiv 640) (xs:=g.map zD) _ rfl (by rw[fC];exact zCB hne)) λz hz ez=>?_;refine zb (fQ.mp hz) λm hm e3=>?_;subst e3;refine zf ez ?_;have grp:∀{y:zd},y∈g->∃gs',(E.pick g).holding y=g::gs':=λ{y} hy=>by
   obtain⟨k',hk'⟩:=fAM (zcB hgr hy).1;refine zn (zad (E.pick g) (m:=y) (k:=k') hk' (by have:=(zcB hgr hy).2;exact zCV hk' this)) λg' gs' hh hg' hm'=>?_;have eg:g'=g:=zbZ hg' hgr hm' hy;exact⟨gs',eg▸hh⟩
  have gfl:∀x∈g.map zD,Flat 1 x:=kn g;refine zY (grp hgx) λgs1 hh1=>zY (grp hm) λgs2 hh2=>?_;refine ze hL2.s hL2.d ?_;refine qw (a:={ a with pt:=pt }) (m:=(s,((D.row s).length:Int))) G (fM (gJ hd) (by decide)) hL2 I1.ok hh1 ?_;refine qW gfl (by decide) ?_;refine ze hL2.s hL2.d ?_;refine qw (a:={ a with pt:=pt }) (m:=m) G (fM (gJ hd) (by decide)) hL2 I1.ok hh2 ?_;refine qW gfl (by decide) ?_;refine ze hL2.s hL2.d ?_;refine j3 (a:={ a with pt:=pt }) G (fM (gJ hd) (by decide)) hL2 I1.ok ?_;have sm1:∀m∈(E.pick g).tick,SmM m:=λm hm=>(I1.fits m hm).go.1;have sm0:∀m∈D.tick,SmM m:=λm hm=>(I.fits m hm).go.1;have p1:=je num (E.pick g).tick;have p0:=je num D.tick;refine zgP G (fM (gJ hd) (by decide)) (λm hm=>sm1 m (p1.mem_iff.mp hm)) (p1.length_eq▸I1.ok.tl) ?_;refine zgP G (fM (gJ hd) (by decide)) (λm hm=>sm0 m (p0.mem_iff.mp hm)) (p0.length_eq▸I.ok.tl) ?_;rw[zfY sm1,zfY sm0,hap];refine qW (jF _) (by decide) ?_;exact q σ2 pt (E.pick g) _ ⟨hL2,⟨hO2.d,hO2.b,hO2.k,hO2.nd⟩,dis1,I1,hfew,hclk⟩ hsp fr2
 .refine ze S.L.s S.L.d ?_;refine j3 G (fM (gJ hd) (by decide)) S.L I.ok ?_;refine qW (jF _) (by decide) ?_;refine ze S.L.s S.L.d ?_;refine qN G (fM (gJ hd) (by decide)) S.L ?_;refine qW (jF _) (by decide) ?_;exact q U a.pt D _ S.mono rfl (Fr.refl a o)
def zwg{x s:Int}(h:x≠0/\-7<=x/\x<=7)(h1:1<=s)(h2:s<=100000000):x*s≠0/\-700000000<=x*s/\x*s<=700000000:=by
 have h0:(0:Int)<=s:=fAQ (by decide) h1;refine⟨Int.mul_ne_zero h.1 λe=>by rw[e] at h1;exact absurd h1 (by decide),fAQ ?_ (fBZ h.2.1 h0),fAQ (fBZ h.2.2 h0) ?_⟩
 .rw[Int.neg_mul];exact Int.neg_le_neg (fB3 (c:=7) h2 (by decide))
 .exact fB3 (c:=7) h2 (by decide)
def at8(c:Int):∃x:Int,jC [AV.int 1,.int 2,.int 3,.int 4,.int 5,.int 7,.int (-2),.int (-3)] (c.fmod 8)=some (.int x)/\∀s:Int,1<=s->s<=100000000->x*s≠0/\-700000000<=x*s/\x*s<=700000000:=by
 refine zb (zct (c:=c) (xs:=([1,2,3,4,5,7,-2,-3]:List Int).map AV.int) 8 rfl (by decide)) λv hv e=>?_;refine zb (fQ.mp hv) λx hx ex=>?_;subst ex;exact zc x e λs h1 h2=>zwg ((by decide:∀x∈([1,2,3,4,5,7,-2,-3]:List Int),x≠0/\-7<=x/\x<=7) x hx) h1 h2
def za0{i j:Int}(h1 : -1000000000<=j)(h2:j<=1000000000):(small j.natAbs||small i.natAbs)=true:=by
 have h:j.natAbs<=1000000000:=by lia
 unfold small;rw[show Nat.blt j.natAbs 1152921504606846976=true from fBR (Nat.lt_of_le_of_lt h (by decide))];rfl
def zf0{d c:Int}(h1:0<=d/\d<=9999)(h2:c≠0)(h3 : -1000000000<=c)(h4:c<=1000000000):kI d c=true:=by
 unfold kI;rw[Hy h1.1,Hy h1.2,Hy (y11 h3:0-1000000000<=c),Hy h4,Hx h2];rfl
def zjk{x:Int}(h1 : -700000000<=x)(h2:x<=700000000):(x.natAbs:Int)<=700000000:=by lia
def zi8(G:Gd X (hK P))(hd:n<470){a:LA}{k:Nat}(S:St U a o v D k)(hv:OVOk v)(hk:k<=50){c:Int}
  (q:∀U' pt D',St U' { a with pt:=pt } o v D' (k+1)->D'.span=D.span->Fr U a o U' pt->Q (.bool true) U'):CallOk X 278 ⟨n,false⟩ [.ref a.self,.ref o.od,.int c,.int D.span,zj3 D] Q Z U:=by
 refine zlx G (zvu hd) λL=>?_;obtain⟨s,es⟩:=zj5 c;refine zf es ?_;refine qH S.O.d (zf rfl ?_);refine qH S.O.d (zf rfl ?_);have hd0:=hv.days;have hdp:0<v.days:=by rcases hd0 with h|h<;>rw[h]<;>decide
 refine jL (by unfold zeb;rw[Hx (y14 hdp)];rfl) ?_;refine qH S.O.d (zf rfl ?_);have b1:=gS (c.fdiv 2) hdp;have b2:=pJ (c.fdiv 2) hdp;have b3:=hv.step;have b4:=hv.base;have b5:=hv.scale;refine jL (za0 (zC9 b3) (zDa b3)) ?_;generalize (c.fdiv 2).fmod v.days=x at b1 b2 ⊢;have hday:0<=v.base+x*v.step/\v.base+x*v.step<=9999:=by
  have hst:v.step=1\/v.step=2\/v.step=3:=zCu b3
  rcases hst with h|h|h<;>rw[h,Int.mul_comm]<;>lia
 obtain⟨y,ey,hy⟩:=at8 (c.fdiv 80);refine zf ey ?_;refine qH S.O.d (zf rfl ?_);refine jL (za0 (zC7 b5) (zC8 b5)) ?_;obtain⟨y1,y2,y3⟩:=hy v.scale b5.1 b5.2;have at2:∃z:Int,jC [AV.int 1,.int (-1)] (if decide (y*v.scale<0)=true then 1 else 0)=some (.int z)/\(z=1\/z = -1):=by
  cases decide (y*v.scale<0)
  .exact zc 1 rfl (.inl rfl)
  .exact zc (-1) rfl (.inr rfl)
 obtain⟨z,ez,hz⟩:=at2;refine zaH (λh1=>?_) λh1=>?_
 .refine zf ez ?_;refine jL (za0 (zDb hz) (zDc hz)) ?_;have hc:kI (v.base+x*v.step) ((10 ^ Int.toNat 9-((y*v.scale).natAbs:Int))*z)=true:=by
   have e9:(10:Int) ^ Int.toNat 9=1000000000:=by decide
   rw[e9];have ha:((y*v.scale).natAbs:Int)<=700000000:=zjk y2 y3;generalize (y*v.scale).natAbs=a at ha ⊢
   rcases hz with rfl|rfl
   .rw[Int.mul_one];exact zf0 hday (zDe ha) (zDh ha) zDi
   .rw[Int.mul_neg,Int.mul_one];exact zf0 hday (zDf ha) zDj (zDg ha)
  exact zhW (n:=n) (s:=s) (e:=(v.base+x*v.step,(10 ^ Int.toNat 9-((y*v.scale).natAbs:Int))*z)) (G.push L) (zvt hd) S hk hc λU' pt D' l hS hsp hf=>Ends.same (q U' pt D' hS hsp hf)
 .exact zhW (n:=n) (s:=s) (e:=(v.base+x*v.step,y*v.scale)) (G.push L) (zvt hd) S hk (zf0 hday y1 (fAQ (by decide) y2) (fAQ y3 (by decide))) λU' pt D' l hS hsp hf=>Ends.same (q U' pt D' hS hsp hf)
end
section
variable{P:Hj}{X:Cx}{n:Nat}{Q:zm}{Z:XP}{U:AHeap}{o:OA}{v:OV}{D:Led}
def Fr.trans{σ1 σ2:AHeap}{a:LA}{pt pt2:Addr}(h:Fr U a o σ1 pt)(h2:Fr σ1 { a with pt:=pt } o σ2 pt2):Fr U a o σ2 pt2:=λx z e k1 k2=>
 h2 x z (h x z e k1 k2).1 (λq=>(zjg q).elim (h x z e k1 k2).2 k1) k2
def Fr.dx{σ1:AHeap}{a:LA}{pt:Addr}(fr:∀x z,x≠a.dx->U x=some z->σ1 x=some z)(hpt:pt=a.pt\/U pt=none):Fr U a o σ1 pt:=λx z e k1 k2=>
 ⟨fr x z (λh=>k1 (h▸zg4 a)) e,λq=>hpt.elim (λh=>k1 (by rw[q,h];exact zcM a)) λh=>znZ e h q⟩
def St.again{σ1:AHeap}{a:LA}{pt:Addr}{k:Nat}(S:St U a o v D k)(fr:∀x z,x≠a.dx->U x=some z->σ1 x=some z)(hpt:pt=a.pt\/U pt=none)(hL:LAt σ1 { a with pt:=pt } D.again):St σ1 { a with pt:=pt } o v D.again k:=
 ⟨hL,let h:=S.O.keep (λy hy z e=>fr y z (λh=>S.dis y hy (h▸zg4 _)) e);⟨h.d,h.b,h.k,h.nd⟩,ziO S.O S.dis hpt,zkU S.I,S.few,S.clk⟩
def zo7(G:Gd X (hK P))(hd:n<460){a:LA}{k:Nat}(S:St U a o v D k)(hv:OVOk v)(hk:k<=50){c:Int}
  (q:∀U' pt D',St U' { a with pt:=pt } o v D' (k+1)->D'.span=D.span->Fr U a o U' pt->Q (.bool true) U'):CallOk X 283 ⟨n,false⟩ [.ref a.self,.ref o.od,.int c,.int D.span] Q Z U:=by
 have hd1:n+1<470:=fM (gJ hd) (by decide);refine zro G (fM hd (by decide)) λL=>?_;have I:=S.I;have hsm:∀x∈D.tick,SmM x:=λx hx=>(I.fits x hx).go.1;refine ze S.L.s S.L.d ?_;refine j3 (G.push L) (fM hd1 (by decide)) S.L I.ok ?_;refine ze S.L.s S.L.d ?_;refine qN (G.push L) (fM hd1 (by decide)) S.L ?_;have no7:c.fmod 8=6->decide (c.fmod 8=7)=false:=λh=>Hx (by rw[h];decide);refine zaH (λh6=>?_) λh6=>?_
 .refine zfU (k:=2) (jF _) (by decide) ?_;rw[fCT];have hp:=je num D.tick;cases hT:srt num D.tick with
  | nil=>
   refine zbM (no7 (Hz h6)) ?_;refine zbN h6 ?_;exact Ends.same (q U a.pt D S.mono rfl (Fr.refl a o))
  | cons m0 t0=>
   have hlen:((m0::t0).map zC).length=t0.length+1:=by rw[fC,fP]
   conv=>whnf
   refine jL (b:=zeb (((m0::t0).map zC).length:Int)) (by unfold zeb;rw[hlen,Hx zCM];rfl) ?_;obtain⟨w,hw,ew⟩:=zct (c:=c.fdiv 8) (xs:=(m0::t0).map zC) _ rfl (by rw[hlen];exact zCL);obtain⟨m,hm,rfl⟩:=fQ.mp hw;have hm:m∈D.tick:=hp.mem_iff.mp (hT▸hm);refine zf ew ?_;have hcl:=S.clk;refine ze S.L.s S.L.d ?_;refine zgD (G.push L) (fM hd1 (by decide)) S.L I.ok hm λσ3 fr hL3=>?_;have I3:=zoF I hm (zCU hk hcl);have fr3:Fr U a o σ3 a.pt:=λx z e h1 h2=>⟨fr x z (λh=>h1 (h▸zcM a)) (λh=>h1 (h▸zqQ a)) e,λh=>h1 (h▸zcM a)⟩
   have hO3:=S.O.keep (λy hy z e=>fr y z (λh=>S.dis y hy (h▸zcM a)) (λh=>S.dis y hy (h▸zqQ a)) e);have S3:St σ3 a o v (D.take m) (k+1):=⟨hL3,⟨hO3.d,hO3.b,hO3.k,hO3.nd⟩,S.dis,I3,fAB S.few,by show (D.clos++[m]).length<=k+1;rw[fE,fV];exact zCQ hcl⟩
   refine ze hL3.s hL3.d ?_;refine qN (G.push L) (fM hd1 (by decide)) hL3 ?_;refine zJ (by rw[fC];exact zCT hk hcl) ?_;have e1:D.clos.map zC++[zC m]=(D.take m).clos.map zC:=(fU (l₁:=D.clos) (l₂:=[m])).symm;rw[e1];refine qW (jF _) (by decide) ?_;refine ze hL3.s hL3.d ?_;refine j3 (G.push L) (fM hd1 (by decide)) hL3 I3.ok ?_;refine z9 (xs:=m0::t0) (λx=>!decide (x=m)) zC (λ_=>rfl) (λ_ _=>rfl) (λx hx R q=>zvH q) (λx hx _ R q=>q) trivial (by rw[<-hT,hp.length_eq];exact zcq I.ok.tl) ?_;have e2:(D.take m).tick=D.tick.erase m:=rfl;rw[<-hT,zfY hsm,e2,zle I];refine qW (jF _) (by decide) ?_;exact Ends.same (q σ3 a.pt (D.take m) S3 rfl fr3)
 .refine zaH (λh7=>?_) λh7=>?_
  .refine ze S.L.s S.L.d ?_;refine zgN (G.push L) (fM hd1 (by decide)) S.L I λσ3 pt fr hpt hL3=>?_;have S3:=S.again fr hpt hL3;refine ze hL3.s hL3.d ?_;refine j3 (a:={ a with pt:=pt }) (G.push L) (fM hd1 (by decide)) hL3 S3.I.ok ?_;refine ze hL3.s hL3.d ?_;refine zgN (a:={ a with pt:=pt }) (G.push L) (fM hd1 (by decide)) hL3 S3.I λσ4 pt4 fr4 hpt4 hL4=>?_;have S4:=S3.again fr4 hpt4 hL4;refine ze hL4.s hL4.d ?_;refine j3 (a:={ a with pt:=pt4 }) (G.push L) (fM hd1 (by decide)) hL4 S4.I.ok ?_;refine qW (jF _) (by decide) ?_;refine ze hL4.s hL4.d ?_;refine qN (a:={ a with pt:=pt4 }) (G.push L) (fM hd1 (by decide)) hL4 ?_;refine qW (jF D.clos) (by decide) ?_;exact Ends.same (q σ4 pt4 D.again S4.mono rfl ((Fr.dx fr hpt).trans (Fr.dx fr4 hpt4)))
  .refine zbM h6 ?_;exact zi8 (G.push L) hd1 S hv hk λU' pt D' h1 h2 h3=>Ends.same (q U' pt D' h1 h2 h3)
end
section
variable{P:Hj}{X:Cx}{n:Nat}{Q:zm}{Z:XP}{U:AHeap}{o:OA}{v:OV}{D:Led}
def zdH(e:Ent):Flat 1 (zw e):=.tup λx hx=>(fG.mp hx).elim (λh=>h▸.int _) λh=>fJ.mp h▸.int _
def ze0(es:List Ent):∀x∈es.map zw,Flat 1 x:=λx hx=>by refine zb (fQ.mp hx) λm _ e=>?_;rw[<-e];exact zdH m
def OAt.sub{U':AHeap}(h:OAt U o v D)(s:Sub U U'):OAt U' o v D:=h.keep λx _ z e=>s x z e
noncomputable def zot:List Bool:=[false,true]
def zm7(e:Ent){R:Bool->AHeap->Prop}(q:R true U):eqG (zw e) (zw e) R U:=zaK (zdH e) (zdH e) (by decide) (λ_=>q) λh=>absurd rfl h
def ze2(I:Inv D){s:Bool}(h:D.row s≠[]):∃g gs,D.holding (s,0)=g::gs/\g∈D.grps/\(s,0)∈g:=
 zad D (m:=(s,0)) (k:=0) rfl (fB8.mpr h)
def zeJ(G:Gd X (hK P))(hd:n<460){a:LA}{k:Nat}(S:St U a o v D k)(q:Q (.bool true) U):CallOk X 290 ⟨n,false⟩ [.ref a.self,.ref o.od,.int D.span] Q Z U:=by
 have hd1:n+1<470:=fM (gJ hd) (by decide);refine zf9 G (fM hd (by decide)) λL=>?_;have I:=S.I;refine zF (β:=Unit) (xs:=zot) (g:=λs:Bool=>AV.str s.toNat) (λxs _ l U'=>Sub U U'/\∃u w x,l=[some (.ref a.self),some (.ref o.od),some (.int D.span),u,w,x]) (λ_ _=>()) ?_ (b:=()) ?_ ⟨λ_ _ e=>e,_,_,_,rfl⟩
 .intro s xs _ l U' K S_ hR hK;obtain⟨sb,u,w,x,rfl⟩:=hR;have hL:=S.L.sub sb;have hO:=S.O.sub sb;have go:∀σ2,Sub U σ2->∀u w x,True/\K [some (.ref a.self),some (.ref o.od),some (.int D.span),u,w,x] σ2:=λσ2 h2 u w x=>⟨trivial,hK _ _ ⟨h2,_,_,_,rfl⟩⟩
  refine zc _ rfl ?_;refine za8 hO ?_;refine zcz (k:=1) (ys:=[]) (hO.row s) (.inl rfl) (ze0 _) (λ_ h=>nomatch h) (by decide) (λ_=>go _ sb _ _ _) λhne=>?_;have hne:D.row s≠[]:=λh=>hne (by rw[h];rfl);refine zn (ze2 I hne) λg gs hh hg hm=>?_;obtain⟨e,es,he⟩:=List.exists_cons_of_ne_nil hne;have he0:(D.row s)[0]? = some e:=by rw[he];rfl
  refine ze hL.s hL.d ?_;refine zg9 (k:=0) (G.push L) (fM hd1 (by decide)) hL he0 ?_;refine za8 hO ?_;refine jt (hO.row s) (zf (qb (k:=0) he0) ?_);refine zm7 e ?_;refine ze hL.s hL.d ?_;refine zf1 (m:=(s,0)) (G.push L) (fM hd1 (by decide)) hL I.ok hh λσ2 r s2 hr hr2=>?_;have sb2:Sub U σ2:=λx z e=>s2 _ _ (sb _ _ e);have hO2:=S.O.sub sb2;refine zak (D:=D) (m:=(s,0)) (G.push L) (fM hd1 (by decide)) hO2.d rfl rfl hO2.b hO2.k I.ok.es I.ok.fs hg hm ?_;refine zcz (k:=1) hr2 (.inl rfl) (kn g) (kn g) (by decide) (λ_=>?_) λh=>absurd rfl h;refine zp hr2 ?_;refine zp hr2 ?_;have hrσ:U r=none:=sb.none hr;have sb3:Sub U (σ2.set r (.list [])):=λy z e=>zj (sb2 _ _ e) (znZ e hrσ);have hL3:=S.L.sub sb3;refine ze hL3.s hL3.d ?_;refine qw (m:=(s,0)) (G.push L) (fM hd1 (by decide)) hL3 I.ok hh ?_;refine qW (kn g) (by decide) ?_;exact go _ sb3 _ _ _
 .intro l U' hR;obtain⟨sb,u,w,x,rfl⟩:=hR;exact Ends.drop sb q
def zdg(G:Gd X (hK P))(hd:n<460){a:LA}{k:Nat}(S:St U a o v D k)(q:Q (.bool true) U):CallOk X 297 ⟨n,false⟩ [.ref a.self,.ref o.od] Q Z U:=by
 have hd1:n+1<470:=fM (gJ hd) (by decide);refine zdR G (fM hd (by decide)) λL=>?_;refine zF (β:=Unit) (xs:=zot) (g:=λs:Bool=>AV.str s.toNat) (λxs _ l U'=>U=U'/\∃u w x y,l=[some (.ref a.self),some (.ref o.od),u,w,x,y]) (λ_ _=>()) ?_ (b:=()) ?_ ⟨rfl,_,_,_,_,rfl⟩
 .intro s xs _ l U' K S_ hR hK;obtain⟨rfl,u,w,x,y,rfl⟩:=hR;refine zc _ rfl ?_;refine za8 S.O ?_;refine zf (zz (S.O.row s)) ?_;rw[zdI];refine zF (β:=Unit) (xs:=(D.row s).zipIdx 0) (g:=λp:Ent×Nat=>AV.tup [.int (p.2:Nat),zw p.1]) (λxs _ l U'=>U=U'/\(∀p∈xs,(D.row s)[p.2]? = some p.1)/\∃w x y,l=[some (.ref a.self),some (.ref o.od),some (.str s.toNat),w,x,y]) (λ_ _=>()) ?_ (b:=()) ?_ ⟨rfl,λp hp=>?_,_,_,_,rfl⟩
  .intro p xs _ l U' K2 S2 hR hK2;obtain⟨rfl,hx,w,x,y,rfl⟩:=hR;have hp:=hx p fA;refine zc _ rfl ?_;refine ze S.L.s S.L.d ?_;refine zg9 (k:=p.2) (G.push L) (fM hd1 (by decide)) S.L hp ?_;refine zm7 p.1 ?_;exact⟨S.O.row s,hK2 _ _ ⟨rfl,λp hp=>hx p (fB _ hp),_,_,_,rfl⟩⟩
  .intro l U' hR;obtain⟨rfl,_,w,x,y,rfl⟩:=hR;exact⟨trivial,hK _ _ ⟨rfl,_,_,_,_,rfl⟩⟩
  .have:=List.mem_zipIdx_iff_getElem?.mp hp;exact this
 .intro l U' hR;obtain⟨rfl,u,w,x,y,rfl⟩:=hR;exact Ends.same q
end
section
variable{P:Hj}{X:Cx}{n:Nat}{Q:zm}{Z:XP}{U:AHeap}{o:OA}{v:OV}{D:Led}
def zhY{a m i:Nat}{xs:List Nat}(h:i::xs=List.range' a m):i=a/\∃j,m=j+1/\xs=List.range' (a+1) j:=by
 cases m with
 | zero=>cases h
 | succ j=>rw[List.range'_succ] at h;cases h;exact kD rfl j rfl rfl
def zgo{J:Type}{f:J->Int}{span:Int}{ts:List J}(h:ts.Pairwise λa b=>f a+span<f b):zZ f span ts=ts.map λt=>[t]:=by
 induction ts with
 | nil=>rfl
 | cons t ts ih=>
  have h:=gK.mp h;show zaT (gap f span t ts) t (zZ f span ts)=_;rw[ih h.2];cases ts with
  | nil=>rfl
  | cons u us=>
   have e:gap f span t (u::us)=true:=Hy (h.1 u fA);rw[e];rfl
noncomputable def kb(f:Int)(j:Nat):Ent:=(f+40*j,1+j)
structure Lead(D:Led)(s:Bool)(f:Int)(j:Nat):Prop where
 row:D.row s=(List.range j).map (kb f)
 no:D.row (!s)=[]
 tick:D.tick=[]
 clos:D.clos=[]
def zhx{s:Bool}{f:Int}{j:Nat}(I:LOk D)(h:Lead D s f j){t:Tr}(ht:t∈inO D.es D.fs):∃k:Nat,t=(f+40*k,(s,(k:Int))):=by
 refine zl (jx I.es I.fs (inO_mem.mp ht)).2 λk e1 hk e2=>?_;have hk:k<(D.row t.2.1).length:=hk;have e2:((D.row t.2.1).getD k (0,0)).1=t.1:=e2;have hs:t.2.1=s:=by
  refine Classical.byContradiction λhn=>?_;have:t.2.1 = !s:=by cases s<;>cases ht:t.2.1<;>first|rfl|exact absurd ht hn
  rw[this,h.no] at hk;exact absurd hk (fB5 _)
 rw[hs,h.row] at hk e2;rw[fC,gU] at hk;rw[fS,pT,List.getElem?_range hk] at e2;refine⟨k,?_⟩;have e3:t.2=(s,(k:Int)):=Prod.ext hs e1;exact Prod.ext e2.symm e3
def zlD{s:Bool}{f:Int}{j:Nat}(I:LOk D)(hi:D.span<=30)(h:Lead D s f j){g:List zd}(hg:g∈D.grps):g.length<=8:=by
 unfold Led.grps at hg;rw[q6,zgo] at hg
 .refine zb (fQ.mp hg) λG hG e=>?_;refine zb (fQ.mp hG) λt _ e'=>?_;rw[<-e,<-e'];exact pD rfl
 .refine List.Pairwise.imp_of_mem ?_ ((zdL I.es I.fs).and (znn D.es D.fs));intro a b ha hb hab;refine zY (zhx I h ha) λk e=>zY (zhx I h hb) λl e'=>?_;have h1:a.1<=b.1:=hab.1;have h2:k≠l:=λe2=>hab.2 (by rw[e,e',e2]);rw[e,e'] at h1 ⊢;have h1:f+40*(k:Int)<=f+40*(l:Int):=h1;show f+40*(k:Int)+D.span<f+40*(l:Int)
  lia
def zpB{s:Bool}{f:Int}{j:Nat}(I:LOk D)(h:Lead D s f j){g:List zd}(hg:g∈D.grps)(h8:g.length<=8):pk (D.able g) g=[]:=by
 refine List.eq_nil_iff_forall_not_mem.mpr λm hm=>?_;have hw:=zcb (zf2 I hg h8) (kG (zjo hm)).1;have go:=hw.1.go.2;have no:∀p,(!s,p)∈zk m->False:=λp hp=>by
  have:=(zcB hg (hw.2 _ hp))
  have h2:p<((D.row (!s)).length:Int):=this.2;rw[h.no] at h2;exact absurd (fAT this.1 h2) (fCM _)
 cases s with
 | false=>exact zY (fAU _ go.2) λp hp=>no p (mem_marks.mpr (.inr ⟨rfl,hp⟩))
 | true=>exact zY (fAU _ go.1) λp hp=>no p (mem_marks.mpr (.inl ⟨rfl,hp⟩))
def zkT(D:Led)(s:Bool)(e:Ent):(D.add s e).row (!s)=D.row (!s):=by cases s<;>rfl
def znD{s:Bool}{f:Int}{j:Nat}(h:Lead D s f j):Lead (D.add s (kb f j)) s f (j+1):=
 ⟨by rw[zfF,h.row,fC0,fU];rfl,by rw[zkT];exact h.no,by rw[qS];exact h.tick,by rw[zdu];exact h.clos⟩
def zlE{s:Bool}{f:Int}{j:Nat}(I:LOk D)(h:Lead D s f j){g:List zd}(hg:g∈D.grps)(h8:g.length<=8):Lead (D.pick g) s f j:=by
 refine⟨h.row,h.no,?_,h.clos⟩;show (D.tick.filter _)++pk (D.able g) g=[]
 rw[zpB I h hg h8,h.tick];rfl
def zlC{f:Int}{j:Nat}(h:f=5000\/f=0)(hj:j<=13):kI (kb f j).1 (kb f j).2=true:=by
 unfold kI kb;have h1:0<=f+40*(j:Int)/\f+40*(j:Int)<=9999:=by rcases h with h|h<;>(first|exact ztE hj h|exact ztD hj h)
 have h2:0-1000000000<=1+(j:Int)/\1+(j:Int)<=1000000000/\1+(j:Int)≠0:=ztF hj;rw[Hy h1.1,Hy h1.2,Hy h2.1,Hy h2.2.1,Hx h2.2.2];rfl
def zpA(G:Gd X (hK P))(hd:n<470){a:LA}(S:St U a o v D 0)(h0:D.tick=[]/\D.clos=[])(hv:OVOk v){c:Int}
  (q:∀U' pt D',St U' { a with pt:=pt } o v D' 13->D'.span=D.span->Q .none U'):CallOk X 304 ⟨n,false⟩ [.ref a.self,.ref o.od,.int c] Q Z U:=by
 refine zrr G (zvu hd) λL=>?_;refine qH S.O.d (zf rfl ?_);have at2:∃f:Int,jC [AV.int 5000,.int 0] (if decide (v.base>2000)=true then 1 else 0)=some (.int f)/\(f=5000\/f=0):=by
  cases decide (v.base>2000)
  .exact zc 5000 rfl (.inl rfl)
  .exact zc 0 rfl (.inr rfl)
 refine zb at2 λf ef hf=>?_;refine zf ef ?_;refine zY (zj5 (c.fdiv 4)) λs es=>?_;refine zf es ?_;have hN:∃N:Nat,jC [AV.int 0,.int 0,.int 0,.int (9+(c.fdiv 8).fmod 5)] (c.fmod 4)=some (.int (N:Nat))/\N<=13:=by
  have b1:=gS (c.fdiv 8) (show (0:Int)<5 by decide);have b2:=pJ (c.fdiv 8) (show (0:Int)<5 by decide);refine zb (zct (c:=c) (xs:=[AV.int 0,.int 0,.int 0,.int (9+(c.fdiv 8).fmod 5)]) 4 rfl (by decide)) λw hw ew=>?_;generalize (c.fdiv 8).fmod 5=y at b1 b2 hw ew ⊢;have h:w = .int 0\/w = .int (9+y):=by
   rcases fG.mp hw with e|hw
   .exact .inl e
   .rcases fG.mp hw with e|hw
    .exact .inl e
    .rcases fG.mp hw with e|hw
     .exact .inl e
     .exact .inr (fJ.mp hw)
  rcases h with e|e
  .exact⟨0,by rw[ew,e];rfl,by decide⟩
  .refine⟨(9+y).toNat,?_,ztC b2⟩;rw[ew,e,fAP (ztB b1)]
 refine zb hN λN eN hN=>?_;refine zf eN ?_;refine zee (ztG hN) ?_;refine zF (g:=λi:Nat=>AV.int i) (λxs (j:Nat) l U'=>(∃pt E,St U' { a with pt:=pt } o v E j/\Lead E s f j/\E.span=D.span)/\xs=List.range' j xs.length/\j+xs.length=N/\∃u,l=[some (.ref a.self),some (.ref o.od),some (.int c),some (.int f),some (.str s.toNat),u]) (λj _=>j+1) ?_ (b:=0) ?_ ⟨⟨a.pt,D,S,?_,rfl⟩,?_,?_,_,rfl⟩
 .intro i xs j l U' K S_ hR hK;obtain⟨⟨pt,E,SE,hL,hsp⟩,hxs,hl,u,rfl⟩:=hR;obtain⟨ei,m,em,ex⟩:=zhY hxs;subst ei;rw[fP] at hl em;have em:xs.length=m:=Nat.succ.inj em;have I:=SE.I;have hlen:(E.row s).length=i:=by rw[hL.row,fC,gU]
  have hi:i<=13:=ztN hN hl;have hrl:(E.row s).length<80:=ztO hN hl hlen;have he:=zlC hf hi;have ho1:=zgc I.ok he hrl;have hL1:=znD hL;have hs1:=qR E s (kb f i);refine zn (zad (E.add s (kb f i)) (m:=(s,((E.row s).length:Int))) (k:=(E.row s).length) rfl (by show _<((E.add s (kb f i)).row s).length;rw[zfF,fE,fV];exact zoQ)) λg gs hg hgm hgx=>?_;have h8:=zlD ho1 (by rw[hs1];exact I.hi) hL1 hgm;have hmul:(small ((i:Nat):Int).natAbs||small (40:Int).natAbs)=true:=za0 ztH (ztM hN hl);refine zc _ rfl ?_;refine ze SE.L.s SE.L.d ?_;refine jL rfl ?_;refine jL hmul ?_;refine zoe (a:={ a with pt:=pt }) (e:=kb f i) (G.push L) (fM (gJ hd) (by decide)) SE.L I.ok he hrl hg (λ_ σ1 pt1 fr hp hLA=>?_) λh9=>absurd h8 (fC4.mpr h9);have I1:=zkz I ho1 hgm hgx h8 (by rw[hL.tick];exact fT _);have hO1:=SE.O.keep (U':=σ1) λx hx z e=>fr x z (λh=>SE.dis x hx (h▸zg4 _)) (λh=>SE.dis x hx (h▸zfG _ s)) e;have dis1:=ziO SE.O SE.dis (pt:=pt1) (.inr hp);refine za8 hO1 ?_;refine zp (hO1.row s) ?_;refine jL hmul ?_;refine zp (hO1.row s) ?_;refine zJ (by rw[fC];exact zr4 hrl) ?_;have hO2:=hO1.add s (kb f i);rw[fU] at hO2;have hL2:LAt (σ1.set (o.row s) (.list ((E.row s).map zw++[kb f i].map zw))) { a with pt:=pt1 } ((E.add s (kb f i)).pick g):=hLA.other (dis1 _ (zgn o s));have hL3:=zlE ho1 hL1 hgm h8;refine⟨trivial,hK _ _ ⟨⟨pt1,_,⟨hL2,⟨hO2.d,hO2.b,hO2.k,hO2.nd⟩,dis1,I1,?_,?_⟩,hL3,hs1.trans hsp⟩,by rw[em];exact ex,ztL hl,_,rfl⟩⟩
  .have:=zj2 E s (kb f i);have:=SE.few;show (E.add s (kb f i)).es.length+(E.add s (kb f i)).fs.length<=i+1;exact zvv (by assumption) this
  .rw[hL3.clos];exact fT _
 .intro l U' hR;obtain⟨⟨pt,E,SE,hL,hsp⟩,_,hl,u,rfl⟩:=hR;have hl:List.foldl (λj x=>j+1) 0 (List.range N)=N:=hl;rw[hl] at SE;exact Ends.same (q U' pt E ⟨SE.L,SE.O,SE.dis,SE.I,fF SE.few hN,fF SE.clk hN⟩ hsp)
 .have:=S.few;have h1:D.es=[]:=fAK (ztJ this);have h2:D.fs=[]:=fAK (ztK this);exact⟨by cases s<;>first|exact h1|exact h2,by cases s<;>first|exact h1|exact h2,h0.1,h0.2⟩
 .rw[gU,List.range_eq_range']
 .rw[gU,fBB]
end
section
variable{P:Hj}{X:Cx}{n:Nat}{Q:zm}{Z:XP}{U:AHeap}{o:OA}{v:OV}{D:Led}
noncomputable abbrev Pr:=Addr×Addr×List AV
noncomputable def zpV(h:Pr):AV:=.tup [.ref h.1,.ref h.2.1]
noncomputable def zln(ph:Addr)(hs:List Pr):List Addr:=ph::hs.flatMap λh=>[h.1,h.2.1]
structure HOk(U:AHeap)(a:LA)(o:OA)(ph:Addr)(hs:List Pr):Prop where
 here:U ph=some (.list (hs.map zpV))
 each:∀h∈hs,(U h.1=some (.list h.2.2)/\U h.2.1=some (.list h.2.2))/\∀x∈h.2.2,Flat 3 x
 ne:∀h∈hs,h.1≠ph/\h.2.1≠ph
 out:∀x∈zln ph hs,x∉a.all/\x∉o.all
def zqR{ph:Addr}{hs:List Pr}{h:Pr}(hh:h∈hs):h.1∈zln ph hs/\h.2.1∈zln ph hs:=
 ⟨fB _ (gX.mpr ⟨h,hh,fA⟩),fB _ (gX.mpr ⟨h,hh,fB _ fA⟩)⟩
def HOk.frame{U':AHeap}{a:LA}{ph pt:Addr}{hs:List Pr}(H:HOk U a o ph hs)(fr:Fr U a o U' pt):HOk U' { a with pt:=pt } o ph hs:=by
 have go:∀x z,x∈zln ph hs->U x=some z->U' x=some z/\x≠pt:=λx z hx e=>fr x z e (H.out x hx).1 (H.out x hx).2;have some_:∀x∈zln ph hs,∃z,U x=some z:=λx hx=>by
  rcases fG.mp hx with h|h
  .exact⟨_,h▸H.here⟩
  .refine zb (gX.mp h) λp hp hx=>?_;have:=(H.each p hp).1
   rcases fG.mp hx with h|h
   .exact⟨_,h▸this.1⟩
   .exact⟨_,fJ.mp h▸this.2⟩
 refine⟨(go _ _ fA H.here).1,λh hh=>⟨⟨(go _ _ (zqR hh).1 (H.each h hh).1.1).1,(go _ _ (zqR hh).2 (H.each h hh).1.2).1⟩,(H.each h hh).2⟩,H.ne,λx hx=>⟨λhq=>?_,(H.out x hx).2⟩⟩;refine zY (some_ x hx) λz e=>?_;exact(zjg hq).elim (go x z hx e).2 (H.out x hx).1
def LAt.some{a:LA}(h:LAt U a D){x:Addr}(hx:x∈a.all):U x≠none:=by
 refine(fO.mpr ⟨?_,fO.mpr ⟨?_,fO.mpr ⟨?_,fO.mpr ⟨?_,fO.mpr ⟨?_,fO.mpr ⟨?_,fO.mpr ⟨?_,λ_ h=>nomatch h⟩⟩⟩⟩⟩⟩⟩:∀x∈a.all,U x≠none) x hx
 .rw[h.s];exact fH _
 .rw[h.d];exact fH _
 .rw[h.r];exact fH _
 .rw[h.b];exact fH _
 .rw[h.k];exact fH _
 .rw[h.t];exact fH _
 .rw[h.c];exact fH _
def HOk.more{U':AHeap}{a:LA}{ph p r:Addr}{hs:List Pr}{ys:List AV}(H:HOk U a o ph hs)(S:LAt U a D)(O:OAt U o v D)(sb:Sub U U')(hp:U p=none)(hr:U r=none)(hp':U' p=some (.list ys))(hr':U' r=some (.list ys))(hf:∀x∈ys,Flat 3 x) :
  HOk (U'.set ph (.list (hs.map zpV++[.tup [.ref p,.ref r]]))) a o ph (hs++[(p,r,ys)]):=by
 have nph:∀{x:Addr},U x=none->x≠ph:=λe q=>by rw[q,H.here] at e;cases e
 have old:∀x∈zln ph hs,x∉a.all/\x∉o.all:=H.out;have new:∀{x:Addr},U x=none->x∉a.all/\x∉o.all:=λe=>⟨λq=>S.some q e,λq=>O.some q e⟩
 refine⟨by rw[AHeap.wA,fU];rfl,λh hh=>?_,λh hh=>?_,λx hx=>?_⟩
 .rcases fR.mp hh with hh|hh
  .have e:=H.each h hh;have n:=H.ne h hh;exact⟨⟨zj (sb _ _ e.1.1) n.1,zj (sb _ _ e.1.2) n.2⟩,e.2⟩
  .rw[fJ.mp hh];exact⟨⟨zj hp' (nph hp),zj hr' (nph hr)⟩,hf⟩
 .rcases fR.mp hh with hh|hh
  .exact H.ne h hh
  .rw[fJ.mp hh];exact⟨nph hp,nph hr⟩
 .rcases fG.mp hx with h|h
  .exact h▸old ph fA
  .rw[List.flatMap_append] at h
   rcases fR.mp h with h|h
   .exact old x (fB _ h)
   .rcases fG.mp (show x∈[p,r] from h) with h|h
    .exact h▸new hp
    .exact fJ.mp h▸new hr
def ze8(l:List Nat):∀x∈l.map (λi:Nat=>AV.int i),Flat 2 x:=λx hx=>by refine zb (fQ.mp hx) λm _ e=>?_;rw[<-e];exact .int _
def zmv{L:Env}(G:Gd (X.push L) (hK P))(hd:n<440){a:LA}{k:Nat}(S:St U a o v D k){p r:Addr}(hp:U p=none)(hr:U r=none)(hpr:p≠r){U':AHeap}(sb:Sub U U'){ys:List AV}(hp':U' p=some (.list ys))(hr':U' r=some (.list ys))(hf:∀x∈ys,Flat 3 x)(hl:ys.length<=100){s:Bool}{x0 x4 x5:Option AV}{I:AHeap->Prop}(hI:∀U,I U){K:Loc->AHeap->Prop}{S_:zU}
  (hK:∀σ2 zs,Sub U σ2->σ2 p=some (.list zs)->σ2 r=some (.list zs)->(∀x∈zs,Flat 3 x)->zs.length<=ys.length+1->K [x0,some (.int D.span),some (.ref o.od),some (.ref a.self),x4,x5,some (.ref p),some (.ref r),some (.str s.toNat)] σ2) :
  zhD (X.push L) ⟨n+1,false⟩ [x0,some (.int D.span),some (.ref o.od),some (.ref a.self),x4,x5,some (.ref p),some (.ref r),some (.str s.toNat)] (Gz I K S_) G0 U':=by
 have I_:=S.I;have hO:=S.O.sub sb;have hL:=S.L.sub sb;have hd1:n+1<470:=fM (gJ hd) (by decide);refine za8 hO ?_;refine zcz (k:=1) (ys:=[]) (hO.row s) (.inl rfl) (ze0 _) (λ_ h=>nomatch h) (by decide) (λ_=>⟨hI _,hK U' ys sb hp' hr' hf (fA7 _)⟩) λhne=>?_;have hne:D.row s≠[]:=λh=>hne (by rw[h];rfl);refine zn (ze2 I_ hne) λg gs hh hg hm=>?_;refine zp hp' ?_;refine ze hL.s hL.d ?_;refine qw (m:=(s,0)) G (fM hd1 (by decide)) hL I_.ok hh ?_;refine zp hp' ?_;refine zJ (fF (pG hl) (by decide)) ?_;have sb2:Sub U (U'.set p (.list (ys++[gAV g]))):=sb.put hp;have hO2:=S.O.sub sb2;have hr2:(U'.set p (.list (ys++[gAV g]))) r=some (.list ys):=zj hr' hpr.symm;refine zp hr2 ?_;refine zak (D:=D) (m:=(s,0)) G (fM hd1 (by decide)) hO2.d rfl rfl hO2.b hO2.k I_.ok.es I_.ok.fs hg hm ?_;refine zp hr2 ?_;refine zJ (fF (pG hl) (by decide)) ?_;refine⟨hI _,hK _ (ys++[gAV g]) (sb2.put hr) (zj (AHeap.wA ..) hpr) (AHeap.wA ..) (λx hx=>?_) (by rw[fE,fV];exact fN _)⟩
 rcases fR.mp hx with h|h
 .exact hf x h
 .rw[fJ.mp h];exact .lst λy hy=>(kn g y hy).up (by decide)
def znC{L:Env}(G:Gd (X.push L) (hK P))(hd:n<440){a:LA}{k:Nat}{ph:Addr}{hs:List Pr}(S:St U a o v D k)(H:HOk U a o ph hs)(hv:OVOk v)(hk:k<=50)(hh:hs.length<=50){c:Int}{x0 u w x:Option AV}{I:AHeap->Prop}(hI:∀U,I U){K:Loc->AHeap->Prop}{S_:zU}
  (hK:∀U' pt D' hs' u w x,St U' { a with pt:=pt } o v D' (k+1)->D'.span=D.span->HOk U' { a with pt:=pt } o ph hs'->hs'.length<=hs.length+1->K [x0,some (.int D.span),some (.ref o.od),some (.ref a.self),some (.ref ph),some (.int c),u,w,x] U') :
  zd5 (X.push L) ⟨n+1,false⟩ [x0,some (.int D.span),some (.ref o.od),some (.ref a.self),some (.ref ph),some (.int c),u,w,x] (Gz I K S_) G0 U:=by
 have I_:=S.I;have hd1:n+1<460:=fM (gJ hd) (by decide);have hph:=H.out ph fA;refine ze S.L.s S.L.d ?_;refine j3 G (fM hd1 (by decide)) S.L I_.ok ?_;refine ze S.L.s S.L.d ?_;refine qN G (fM hd1 (by decide)) S.L ?_;refine ze S.L.s S.L.d ?_;refine zkj (s:=false) G (fM hd1 (by decide)) S.L I_.ok ?_;refine ze S.L.s S.L.d ?_;refine zkj (s:=true) G (fM hd1 (by decide)) S.L I_.ok ?_;intro p hp;refine zf (zz (AHeap.wA ..)) ?_;refine zX (xs:=[(srt num D.tick).map zC,D.clos.map zC,(D.left false).map (λi:Nat=>AV.int i),(D.left true).map (λi:Nat=>AV.int i)]) (g:=AV.lst) AV.lst (λ_=>rfl) (λ_ _=>rfl) (λx _ R q=>q) (AHeap.wA ..) (pD rfl) ?_;intro r hr;have fl:∀x∈[(srt num D.tick).map zC,D.clos.map zC,(D.left false).map (λi:Nat=>AV.int i),(D.left true).map (λi:Nat=>AV.int i)].map AV.lst,Flat 3 x:=
  fO.mpr ⟨.lst (jF _),fO.mpr ⟨.lst (jF _),fO.mpr ⟨.lst (ze8 _),fO.mpr ⟨.lst (ze8 _),λ_ h=>nomatch h⟩⟩⟩⟩
 have hpr:p≠r:=kx (AHeap.wA ..) hr;have hrσ:U r=none:=Sub.none (zP hp) hr;refine zF (β:=Unit) (xs:=zot) (g:=λs:Bool=>AV.str s.toNat) (λxs _ l U'=>(∃ys,Sub U U'/\U' p=some (.list ys)/\U' r=some (.list ys)/\(∀x∈ys,Flat 3 x)/\ys.length+xs.length<=6)/\∃u,l=[x0,some (.int D.span),some (.ref o.od),some (.ref a.self),some (.ref ph),some (.int c),some (.ref p),some (.ref r),u]) (λ_ _=>()) ?_ (b:=()) ?_ ⟨⟨_,Sub.put (zP hp) hrσ,zj (AHeap.wA ..) hpr,AHeap.wA ..,fl,fN 6⟩,_,rfl⟩
 .intro s xs _ l U' K2 S2 hR hK2;obtain⟨⟨ys,sb,hp',hr',hf,hl⟩,u,rfl⟩:=hR;rw[fP] at hl;refine zc _ rfl ?_;exact zmv G hd S hp hrσ hpr sb hp' hr' hf (fF (pH _ _) (fF hl (by decide))) (λ_=>trivial) λσ2 zs h1 h2 h3 h4 h5=>hK2 _ _ ⟨⟨zs,h1,h2,h3,h4,fF (Nat.add_le_add_right h5 _) (by rw[Nat.add_right_comm];exact hl)⟩,_,rfl⟩
 .intro l U' hR;obtain⟨⟨ys,sb,hp',hr',hf,hl⟩,u,rfl⟩:=hR;have hph':=sb _ _ H.here;refine zp hph' ?_;refine zp hph' ?_;refine zJ (by rw[fC];exact fF (pG hh) (by decide)) ?_;have H3:=H.more S.L S.O sb hp hrσ hp' hr' hf;have S3:St (U'.set ph (.list (hs.map zpV++[.tup [.ref p,.ref r]]))) a o v D k:=⟨(S.L.sub sb).other hph.1,(S.O.sub sb).keep λx hx z e=>zj e (λq=>hph.2 (q▸hx)),S.dis,S.I,S.few,S.clk⟩
  unfold A.w1;generalize U'.set ph (.list (hs.map zpV++[.tup [.ref p,.ref r]]))=σ3 at H3 S3 ⊢;have mem:(p,r,ys)∈hs++[(p,r,ys)]:=gA _ fA;have e3:=(H3.each _ mem).1;refine zcz (k:=3) e3.1 (.inr ⟨r,rfl,e3.2⟩) hf hf (by decide) (λ_=>?_) λh=>absurd rfl h;refine zo7 G hd1 S3 hv hk λσ4 pt D4 S4 hsp fr=>?_;have H4:=H3.frame fr;have e4:=(H4.each _ mem).1;refine zcz (k:=3) e4.1 (.inr ⟨r,rfl,e4.2⟩) hf hf (by decide) (λ_=>?_) λh=>absurd rfl h;rw[<-hsp] at hK ⊢;refine zeJ (a:={ a with pt:=pt }) G hd1 S4 ?_;exact⟨hI _,hK σ4 pt D4 _ _ _ _ S4 rfl H4 (by rw[fE,fV];exact fN _)⟩
structure Bd(U:AHeap)(r ob ok:Addr)(F:List (Nat×AV)):Prop where
 d:U r=some (.idict F)
 b:U ob=some (.list [])
 k:U ok=some (.list [])
 nd:ob≠ok
def Bd.put{r ob ok:Addr}{F:List (Nat×AV)}(B:Bd U r ob ok F)(F':List (Nat×AV)):Bd (U.set r (.idict F')) r ob ok F':=by
 have nr:∀{q:Addr},U q=some (.list [])->q≠r:=λe h=>by rw[h,B.d] at e;cases e
 exact⟨AHeap.wA ..,zj B.b (nr B.b),zj B.k (nr B.k),B.nd⟩
def zjp{r ob ok:Addr}{F F':List (Nat×AV)}(B:Bd U r ob ok F){n:Nat}{x:AV}(hl:F.length<100)(e:qd F n x=F'){R:AHeap->Prop}(q:∀U',Bd U' r ob ok F'->R U'):zhV r (.str n) x R U:=zpW B.d hl (q _ (e▸B.put _))
def Bd.new{r ob ok:Addr}(hr:U r=none)(hob:(U.set r (.idict [])) ob=none)(hok:((U.set r (.idict [])).set ob (.list [])) ok=none):Bd (((U.set r (.idict [])).set ob (.list [])).set ok (.list [])) r ob ok []:=by
 have r1:=zB (o':=.list []) (AHeap.wA U r (.idict [])) hob;have b1:((U.set r (.idict [])).set ob (.list [])) ob=some (.list []):=AHeap.wA ..;exact⟨zB r1 hok,zB b1 hok,AHeap.wA ..,kx b1 hok⟩
end
section
variable{P:Hj}{X:Cx}{n:Nat}{Q:zm}{Z:XP}{U:AHeap}
def bit{x:Int}(h1:0<=x)(h2:x<2):x=0\/x=1:=zDd h1 h2
def znj(sp:Int):Led.grps ⟨[],[],sp,[],[]⟩=[]:=by
 have h2:inO [] []=[]:=fAK (by rw[zae];rfl);unfold Led.grps grps;rw[h2];rfl
def zpp{sp:Int}(h0:0<=sp)(h1:sp<=30):Inv ⟨[],[],sp,[],[]⟩:=by
 refine⟨⟨⟨(λ_ h=>nomatch h),(λ_ h=>nomatch h),fT _⟩,⟨(λ_ h=>nomatch h),(λ_ h=>nomatch h),fT _⟩,⟨fT _,fT _⟩,(λ_ h=>nomatch h),(λ_ h=>nomatch h),fT _,fT _⟩,h0,h1,λg h=>?_,(λ_ h=>nomatch h),.nil,(λ_ h=>nomatch h),(λ_ h=>nomatch h)⟩;rw[znj] at h;cases h
def zvD(c:Int):∃d:Int,jC [AV.int 8,.int 40] (c.fmod 2)=some (.int d)/\(d=8\/d=40):=by
 refine zb (zct (c:=c) (xs:=[AV.int 8,.int 40]) 2 rfl (by decide)) λw hw ew=>?_
 rcases fG.mp hw with h|hw
 .exact zc 8 (h▸ew) (.inl rfl)
 .exact zc 40 (fJ.mp hw▸ew) (.inr rfl)
def zov{i:Int}(c:Int):(small (c.fmod (10 ^ Int.toNat 8)).natAbs||small i.natAbs)=true:=za0 (fAQ (by decide) (gS c (show (0:Int)<10 ^ Int.toNat 8 by decide))) (fAQ (fB9 (pJ c (show (0:Int)<10 ^ Int.toNat 8 by decide))) (by decide))
def zn8(ns:List Int){dy:Int}(hdy:dy=8\/dy=40):OVOk ⟨dy,1+((ns.getD 1 0).fdiv 2).fmod 2*((ns.getD 1 0).fdiv 4).fmod (10 ^ Int.toNat 8),((ns.getD 0 0).fdiv 390).fmod 9883,1+(ns.getD 14 0).fmod 3⟩:=by
 have s1:=gS ((ns.getD 1 0).fdiv 2) (show (0:Int)<2 by decide);have s2:=pJ ((ns.getD 1 0).fdiv 2) (show (0:Int)<2 by decide);have s3:=gS ((ns.getD 1 0).fdiv 4) (show (0:Int)<10 ^ Int.toNat 8 by decide);have s4:=pJ ((ns.getD 1 0).fdiv 4) (show (0:Int)<10 ^ Int.toNat 8 by decide);have t2:=pJ ((ns.getD 0 0).fdiv 390) (show (0:Int)<9883 by decide);have u1:=gS (ns.getD 14 0) (show (0:Int)<3 by decide);have u2:=pJ (ns.getD 14 0) (show (0:Int)<3 by decide);generalize ((ns.getD 1 0).fdiv 2).fmod 2=a at s1 s2 ⊢;generalize ((ns.getD 1 0).fdiv 4).fmod (10 ^ Int.toNat 8)=b at s3 s4 ⊢;refine⟨hdy,?_,⟨gS _ (by decide),by lia⟩,⟨zCw u1,zCx u2⟩⟩
 rcases bit s1 s2 with rfl|rfl
 .show 1<=1+0*b/\1+0*b<=100000000;rw[Int.zero_mul];decide
 .show 1<=1+1*b/\1+1*b<=100000000;rw[Int.one_mul];exact⟨fAE s3,Int.add_one_le_of_lt (a:=_) s4 |> (Int.add_comm 1 _▸·)⟩
def zpH(X:Cx):AS:=(Gc (Gi 2 (A.dic [((Gb (.str 0)),(Gr true [])),((Gb (.str 1)),(Gr true [])),((Gb (.str 20)),(Gf (Gr false [Gb (.int 8),Gb (.int 40)]) (Gg false .Mod (Gk X 256 [Ga 0,Gb (.int 1)]) (Gb (.int 2))))),((Gb (.str 21)),(Gb (.int 1)))])) (Gc (G2 (Gg false .Add (Gb (.int 1)) (Gg false .Mult (Gg false .Mod (Gg false .FloorDiv (Gk X 256 [Ga 0,Gb (.int 1)]) (Gb (.int 2))) (Gb (.int 2))) (Gg false .Mod (Gg false .FloorDiv (Gk X 256 [Ga 0,Gb (.int 1)]) (Gb (.int 4))) (Gg false .Pow (Gb (.int 10)) (Gb (.int 8)))))) (Ga 2) (Gb (.str 21))) (Gc (G2 (Gg false .Mod (Gg false .FloorDiv (Gk X 256 [Ga 0,Gb (.int 0)]) (Gb (.int 390))) (Gb (.int 9883))) (Ga 2) (Gb (.str 22))) (Gc (G2 (Gg false .Add (Gb (.int 1)) (Gg false .Mod (Gk X 256 [Ga 0,Gb (.int 14)]) (Gb (.int 3)))) (Ga 2) (Gb (.str 24))) (Gc (Gi 3 (A.new X 245 178 [Ga 1])) (Gc (Gv (Gk X 304 [Ga 3,Ga 2,Gk X 256 [Ga 0,Gb (.int 13)]])) (Gc (Gi 4 (Gr true [])) (Gc (Gx (Gn (G5 false (Ga 0) (some (Gb (.int 2))) (some (Gb (.int 13))))) (.one 5) (zd5 X)) (Gc (Gj (zbr [Gm zpR false [Gu false (Gn (Ga 4)) (.many [10,11]) 3 none (Gh (Ga 10) [(.Eq,(Ga 11))])],Gk X 297 [Ga 3,Ga 2]])) Ge)))))))))
def zmJ{J:Type}(l:List J):((l.map λ_=>true).all λb=>b)=true:=pX.mpr λb hb=>by refine zb (fQ.mp hb) λ_ _ e=>?_;exact e.symm
def zhw{L:Env}(G:Gd (X.push L) (hK P))(hd:n<430){ns:List Int}{sp:Int}(h0:0<=sp)(h1:sp<=30)(q:∀U',Q (.bool true) U'){x2 x3 x4 x5 x6 x7 x8:Option AV} :
  zpH (X.push L) ⟨n+1,false⟩ [some (.lst (ns.map .int)),some (.int sp),x2,x3,x4,x5,x6,x7,x8] (A.vE Q) (A.kEz Z) U:=by
 have hd2:n<440:=fM hd (by decide);intro r hr ob hob ok hok;have B:=Bd.new hr hob hok;generalize (((U.set r (.idict [])).set ob (.list [])).set ok (.list []))=σ3 at B ⊢;refine jo G (zjY hd2) (k:=1) ?_;refine zb (zvD (ns.getD 1 0)) λdy ew hdy=>?_;refine zf ew ?_;refine⟨B.d,zf (a:=[(0,.ref ob),(1,.ref ok),(20,.int dy),(21,.int 1)]) rfl ?_⟩;have B:=B.put [(0,.ref ob),(1,.ref ok),(20,.int dy),(21,.int 1)];generalize σ3.set r _=σ4 at B ⊢;refine jo G (zjY hd2) (k:=1) ?_;refine jo G (zjY hd2) (k:=1) ?_;refine jL (zov _) ?_;refine zjp B (show 4<100 by decide) rfl λσ5 B=>?_;refine jo G (zjY hd2) (k:=0) ?_;refine zjp B (show 4<100 by decide) rfl λσ6 B=>?_;refine jo G (zjY hd2) (k:=14) ?_;refine zjp B (show 5<100 by decide) rfl λσ7 B=>?_;have hv:=zn8 ns hdy;have hO:OAt σ7 ⟨r,ob,ok⟩ ⟨dy,1+((ns.getD 1 0).fdiv 2).fmod 2*((ns.getD 1 0).fdiv 4).fmod (10 ^ Int.toNat 8),((ns.getD 0 0).fdiv 390).fmod 9883,1+(ns.getD 14 0).fmod 3⟩ ⟨[],[],sp,[],[]⟩:=⟨B.d,B.b,B.k,B.nd⟩
 generalize (⟨dy,1+((ns.getD 1 0).fdiv 2).fmod 2*((ns.getD 1 0).fdiv 4).fmod (10 ^ Int.toNat 8),((ns.getD 0 0).fdiv 390).fmod 9883,1+(ns.getD 14 0).fmod 3⟩:OV)=v at hv hO;have hoa:OA.od ⟨r,ob,ok⟩=r:=rfl;rw[<-hoa];generalize (⟨r,ob,ok⟩:OA)=o at hO ⊢;refine⟨(show n+1<590 by exact zjY hd2),zrE G (zCD hd2) (show zni sp=true by unfold zni;rw[Hy h0,Hy h1];rfl) λσ8 a s8 fr hL=>?_⟩;have dis:∀x∈o.all,x∉a.all:=λx hx hx'=>hO.some hx (fr x hx');have S0:St σ8 a o v ⟨[],[],sp,[],[]⟩ 0:=⟨hL,hO.keep (λx _ z e=>s8 x z e),dis,zpp h0 h1,fN _,fN _⟩
 refine jo G (zjY hd2) (k:=13) ?_;refine zpA G (fM (gJ hd) (by decide)) S0 ⟨rfl,rfl⟩ hv λσ9 pt D1 S1 hsp1=>?_;have hsp1:D1.span=sp:=hsp1;intro ph hph;have S2:St (σ9.set ph (.list [])) { a with pt:=pt } o v D1 13:=⟨S1.L.sub (zP hph),S1.O.sub (zP hph),S1.dis,S1.I,S1.few,S1.clk⟩
 have H2:HOk (σ9.set ph (.list [])) { a with pt:=pt } o ph []:=⟨AHeap.wA ..,(λ_ h=>nomatch h),(λ_ h=>nomatch h),λx hx=>by
  rw[fJ.mp hx];exact⟨λq=>S1.L.some q hph,λq=>S1.O.some q hph⟩⟩
 have hcut:∃M:List Int,cut (ns.map AV.int) (some 2) (some 13)=M.map .int/\M.length<=13:=by
  refine zc ((ns.drop (clipAt (ns.map AV.int).length 2)).take (clipAt (ns.map AV.int).length 13-clipAt (ns.map AV.int).length 2)) (by unfold cut;rw[List.map_take,List.map_drop];rfl) ?_;have h13:=clipAt_min (n:=(ns.map AV.int).length) (y:=13) (by decide);rw[fCQ];split at h13<;>(first|exact zC3 (by assumption) h13|exact zCW h13)
 refine zb hcut λM hM hMl=>?_
 conv=>whnf
 rw[hM];refine zF (g:=AV.int) (λxs b l U'=>(∃pt D hs,St U' { a with pt:=pt } o v D (13+b)/\D.span=sp/\HOk U' { a with pt:=pt } o ph hs/\hs.length<=b)/\b+xs.length<=13/\∃u w x y,l=[some (.lst (ns.map .int)),some (.int sp),some (.ref o.od),some (.ref a.self),some (.ref ph),u,w,x,y]) (λb _=>b+1) ?_ (b:=0) ?_ ⟨⟨pt,D1,[],S2,hsp1,H2,fN _⟩,by rw[fBB];exact hMl,_,_,_,_,rfl⟩
 .intro c xs b l U' K S_ hR hK;obtain⟨⟨pt,D,hs,S,hsp,H,hl⟩,hb,u,w,x,y,rfl⟩:=hR;rw[fP] at hb;have hb':b<=13:=fF (pH _ _) hb;refine zc _ rfl ?_;subst hsp;exact znC (a:={ a with pt:=pt }) G hd2 S H hv (ztI hb) (fF hl (fF hb' (by decide))) (λ_=>trivial) λσ2 pt2 D2 hs2 u w x S2 e2 H2 l2=>hK _ _ ⟨⟨pt2,D2,hs2,S2,e2,H2,fF l2 (pG hl)⟩,zCN hb,_,_,_,_,rfl⟩
 .intro l U' hR;obtain⟨⟨pt,D,hs,S,hsp,H,hl⟩,hb,u,w,x,y,rfl⟩:=hR;refine zf (zz H.here) ?_;have hl:hs.length<=13:=fF hl (fF (pH _ _) hb);refine zX (λ_=>.bool true) (λ_=>rfl) (λ_ _=>rfl) (λh hh R q=>?_) H.here (fF hl (by decide)) ?_
  .have e:=H.each h hh;exact zcz (k:=3) e.1.1 (.inr ⟨_,rfl,e.1.2⟩) e.2 e.2 (by decide) (λ_=>q) λh=>absurd rfl h
  .show zoZ _ _ _;unfold zoZ;refine zc (hs.map λ_=>true) (by rw[gD];rfl) ?_;rw[zmJ hs];exact zdg (a:={ a with pt:=pt }) G (fM (gJ hd) (by decide)) S (Ends.same (q _))
def law_ok(G:Gd X (hK P))(hd:n<400){ns:List Int}(q:∀U',Q (.bool true) U'):CallOk X 309 ⟨n,false⟩ [.lst (ns.map .int)] Q Z U:=by
 refine zta G (zwE hd) λL=>?_;have G':=G.push L;refine jo G' (zr3 hd) (k:=0) ?_;refine jo G' (zr3 hd) (k:=0) ?_;generalize ns.getD 0 0=c0;have a1:=gS c0 (show (0:Int)<5 by decide);refine zaH (λh=>?_) λh=>?_
 .refine jo G' (zr3 hd) (k:=0) ?_;have b1:=gS ((ns.getD 0 0).fdiv 15) (show (0:Int)<26 by decide);have b2:=pJ ((ns.getD 0 0).fdiv 15) (show (0:Int)<26 by decide);exact zhw G' (fM hd (by decide)) (zCv b1) (Int.add_le_add_left (Int.le_sub_one_of_lt b2) 5) q
 .have a2:=pJ c0 (show (0:Int)<5 by decide);exact zhw G' (fM hd (by decide)) a1 (fAQ (fB9 a2) (by decide)) q
end
end Mine.Internal
open PySem PySem.W PyProof.Rows
theorem PySem.Challenge.cw_uf060002_10_holds : PySem.Challenge.rw_uf060002_10.Holds := by
 refine Mine.Internal.hd ?_;intro w s₀ s₁ mg mb G Yb fa o pm cd doc dV kV ho hd hcd hD hmg hg args vals as hpre hlay hrd hwl hlo;have KX:=kIn_of Yb;refine Ground.open G ?_;intro T B D TE TW;have hfa:=mg_of KX T.g (n:="law") (v:=.ref 309) (by kernel_rfl);rw[Mine.Internal.dL_name,hfa] at hmg;cases hmg
 wrow_args hpre hlay hrd hwl hlo
 refine enter_call ?_;refine codeAny_mono ?_ (λ_ _ g=>GoodW.toG g);refine Mine.Internal.head_of (K:=Mine.Internal.hK w.params) ⟨⟨T.g,T.b,T.nolimit⟩,KX,T.builtins⟩ (by assumption) (by assumption) (by omega) hg (λ_=>rfl) ?post ?_
 case post=>exact postW_of rfl (w_eq_bool rfl rfl) rfl
 intro Q Z U q;exact Mine.Internal.law_ok ⟨⟨T.g,T.b,T.nolimit⟩,KX,T.builtins⟩ (by omega) q
