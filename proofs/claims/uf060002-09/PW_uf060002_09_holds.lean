import PyProof.Rows.All
import Wide.All
import OpenK.AllK
import Wide.FinOn
import PySem.Challenge.RW_uf060002_09
set_option Elab.async false
set_option genSizeOf false
set_option genInjectivity false
set_option bootstrap.genMatcherCode false
set_option linter.all false
set_option maxRecDepth 100000
set_option maxHeartbeats 8000000
namespace Mine.Internal
def fA:=@List.mem_cons_of_mem
def fB:=@List.mem_cons_self
def fC:=@List.length_map
def fE:=@List.length_append
def fF:=@List.mem_cons
def fG:=@List.mem_singleton
def fH:=@List.length_cons
def fJ:=@Option.some_ne_none
def fM:=@Nat.le_refl
def fN:=@Nat.le_trans
def fO:=@List.mem_map
def fP:=@List.mem_filter
def fQ:=@List.map_append
def fR:=@List.mem_append
def fS:=@List.length_singleton
def fT:=@List.getD_eq_getElem?_getD
def fU:=@List.nodup_cons
def fV:=@List.getElem?_eq_getElem
def fW:=@Nat.zero_le
def fX:=@List.getElem?_eq_some_iff
def fY:=@List.map_map
def fZ:=@List.pairwise_cons
def gA:=@Bool.and_eq_true_iff
def gB:=@List.not_mem_nil
def gC:=@List.pairwise_append
def gD:=@Array.toList_push
def gE:=@List.append_assoc
def gF:=@List.map_cons
def gG:=@Bool.false_eq_true
def gH:=@List.size_toArray
def gI:=@Nat.lt_trans
def gJ:=@List.length_nil
def gK:=@List.mem_append_right
def gL:=@List.mem_flatMap
def gM:=@Array.toList_append
def gN:=@List.mem_flatten
def gO:=@List.append_nil
def gP:=@Nat.mul_le_mul_right
def gQ:=@List.flatMap_cons
def gR:=@List.mem_append_left
def gS:=@List.length_eq_zero_iff
def gT:=@Nat.le_of_ble_eq_true
def gU:=@List.length_filter_le
def gV:=@Array.length_toList
def gW:=@Bool.and_eq_true
def gX:=@List.nodup_append
def gY:=@Array.getElem?_toList
def gZ:=@List.mem_map_of_mem
def pA:=@List.getElem?_append_left
def pB:=@List.lookup_cons
def pC:=@Nat.le_of_eq
def pD:=@List.length_range
def pE:=@Int.fmod_nonneg_of_pos
def pF:=@Nat.lt_of_lt_of_le
def pG:=@List.map_congr_left
def pH:=@List.mem_range
def pI:=@List.getElem?_append_right
def pJ:=@List.pairwise_singleton
def pK:=@Nat.le_succ_of_le
def pL:=@Bool.false_ne_true
def pM:=@List.foldl_cons
def pN:=@Nat.not_lt
def pO:=@List.mem_of_getElem?
def pP:=@Array.getElem?_eq_some_iff
def pQ:=@Array.toList_extract
def pR:=@Int.fmod_lt_of_pos
def pS:=@List.find?_cons
def pT:=@List.extract_eq_take_drop
def pU:=@List.filter_sublist
def pV:=@Nat.lt_succ_of_le
def pW:=@Option.isSome_iff_exists
def pX:=@List.nil_append
def pY:=@List.dropLast_concat_getLast
def pZ:=@List.mem_filterMap
def fAA:=@Option.bind_eq_some_iff
def fAB:=@Int.eq_ofNat_of_zero_le
def fAC:=@Nat.le_of_succ_le_succ
def fAD:=@Array.perm_iff_toList_perm
def fAE:=@Int.le_add_of_nonneg_right
def fAF:=@Nat.le_antisymm
def fAG:=@List.drop_eq_getElem_cons
def fAH:=@List.getElem?_eq_none
def fAI:=@List.mem_iff_getElem?
def fAJ:=@List.all_eq_true
def fAK:=@Nat.succ_le_succ
def fAL:=@List.filter_cons
def fAM:=@Nat.ne_of_lt
def fAN:=@List.forall_mem_cons
def fAO:=@Array.toList_reverse
def fAP:=@List.getElem?_cons_succ
def fAQ:=@List.getElem?_map
def fAR:=@Option.map_eq_some_iff
def fAS:=@Int.le_trans
def fAT:=@List.take_of_length_le
def fAU:=@List.filter_eq_nil_iff
def fAV:=@Nat.add_assoc
def fAW:=@Int.natCast_nonneg
def fAX:=@Nat.ble_eq_true_of_le
def fAY:=@List.pairwise_iff_getElem
def fAZ:=@List.exists_mem_of_ne_nil
def fA0:=@Nat.add_zero
def fA1:=@List.pairwise_map
def fA2:=@Int.le_refl
def fA3:=@List.filter_congr
def fA4:=@List.mem_range'_1
def fA5:=@Bool.toNat_le
def fA6:=@Int.toNat_of_nonneg
def fA7:=@Nat.add_lt_add_left
def fA8:=@Nat.le_add_right
def fA9:=@Int.lt_of_le_of_lt
def fBA:=@Int.ofNat_lt
def fBB:=@Nat.succ_mul
def fBC:=@List.length_replicate
def fBD:=@List.take_append_drop
def fBE:=@Nat.not_succ_le_zero
def fBF:=@List.mem_of_mem_take
def fBG:=@List.nodup_iff_pairwise_ne
def fBH:=@Int.ofNat_le
def fBI:=@Nat.le_of_lt
def fBJ:=@List.length_drop
def fBK:=@List.getElem_mem
def fBL:=@Nat.zero_add
def fBM:=@List.isEmpty_iff
def fBN:=@Bool.or_eq_true_iff
def fBO:=@Nat.add_le_add_left
def fBP:=@Nat.lt_irrefl
def fBQ:=@List.of_mem_zip
def fBR:=@Array.forIn_toList
def fBS:=@List.filter_append
def fBT:=@List.filter_filter
def fBU:=@List.length_zipIdx
def fBV:=@List.length_range'
def fBW:=@Nat.le_succ
def fBX:=@Nat.add_sub_cancel_left
def fBY:=@List.map_id
def fBZ:=@List.eraseIdx_append_of_length_le
def fB0:=@Nat.sub_self
def fB1:=@Bool.not_eq_true'
def fB2:=@List.take_add_one
def fB3:=@List.length_pos_of_mem
def fB4:=@List.eq_nil_or_concat
def fB5:=@List.concat_eq_append
def fB6:=@List.mem_of_mem_erase
def fB7:=@Int.min_eq_right
def fB8:=@Int.not_le
def fB9:=@List.mem_reverse
def fCA:=@List.isEmpty_map
def fCB:=@Int.mul_le_mul_of_nonneg_right
def fCC:=@Bool.not_true
def fCD:=@Bool.and_true
def fCE:=@Nat.succ_lt_succ_iff
def fCF:=@List.mem_of_mem_drop
def fCG:=@Array.toArray_toList
def fCH:=@List.eq_nil_of_length_eq_zero
def fCI:=@Int.mul_le_mul_of_nonneg_left
def fCJ:=@Int.min_eq_left
def fCK:=@List.reverse_append
def fCL:=@List.filter_eq_self
def fCM:=@Int.le_of_lt
def fCN:=@List.sublist_flatten_of_mem
def fCO:=@List.zip_cons_cons
def fCP:=@List.getElem?_drop
def fCQ:=@Int.natAbs_natCast
def fCR:=@List.nodup_nil
def fCS:=@List.getElem?_eq_none_iff
def fCT:=@List.mem_of_find?_eq_some
def fCU:=@Int.toNat_natCast
def fCV:=@List.ext_getElem?
def fCW:=@Nat.lt_succ_of_lt
def fCX:=@Nat.lt_trichotomy
def fCY:=@List.foldl_append
def fCZ:=@List.flatten_cons
def fC0:=@Int.lt_irrefl
def fC1:=@Int.max_eq_right
def fC2:=@List.map_fst_zip
def fC3:=@List.length_take
def fC4:=@Nat.lt_succ_self
def fC5:=@List.zipIdx_cons
def fC6:=@Int.add_zero
def fC7:=@Nat.le_total
def fC8:=@Int.le_total
def fC9:=@Int.lt_trans
def fDA:=@Int.max_eq_left
def fDB:=@Nat.min_le_left
def fDC:=@Bool.or_eq_true
def fDD:=@Nat.not_lt_zero
def fDE:=@Nat.le_add_left
def fDF:=@Nat.add_le_add
def fDG:=@Bool.and_false
def fDH:=@Nat.one_mul
def fDI:=@Nat.le_zero
def fDJ:=@Nat.sub_le
def fDK:=@Nat.blt_eq
def fDL:=@Int.not_lt
open PySem renaming wpAny_bind -> Ga, wpAny_pure -> Gb, wpAny_mono -> Gc, wpAny_holding -> Ge, sizeLine_eq -> Gf, wpAny_rule -> Gg, wpAny_forIn_list -> Gh, wpAny_call_entry -> Gi, wpAny_newList -> Gj, codeAny_mono -> Gk, wpAny_standAt -> Gm, Program -> Gn, codeAny -> Gp, Params -> Gq, mainGlobals -> Gr
open PyProof.Rows renaming wpS_bind -> Gs, wpS_pure -> Gu, wpS_mono -> Gv, pendingOf -> Gw, wpS_forRange -> Gx, listUpdate_at -> Gy, listItems_at -> Gz, arrOf -> G0, Keyed -> G1, seqObj -> G2, get?_update_seq -> G3
def G4:=@Option.some.inj
def G5:=@decide_eq_false
def G6:=@decide_eq_true
def G7:=@of_decide_eq_true
def G8:=@eq_of_beq
open PySem PyProof.Rows PySem.SeqAt PySem.W
theorem zbs{M:Model}{Γ:Ctx}{p:Pos}{t:Sem Fin}{fs:List Frame}{s s':Shared}{e:End}(h:Runs M Γ p t fs s e s'):s.heap.objs.size<=s'.heap.objs.size:=by
 induction h<;>(try simp only[Shared.setGen,Heap.size_after_update,Heap.size_push] at *)<;>omega
theorem zj5{M:Model}{Γ:Ctx}{p:Pos}{g:Nat}{r:Resume}{s s':Shared}{res:GenResult}(h:Wakes M Γ p g r s res s'):s.heap.objs.size<=s'.heap.objs.size:=by
 unfold Wakes at h;split at h
 .exact h.elim
 .split at h
  .obtain⟨e₁,s₁,hr,_,_,rfl⟩:=h;exact(zbs hr:(s.setGen g .running).heap.objs.size<=s₁.heap.objs.size)
  .rw[h.2];exact fM _
  .rw[h.2];exact fM _
 .obtain⟨e₁,s₁,hr,_,_,rfl⟩:=h;exact(zbs hr:(s.setGen g .running).heap.objs.size<=s₁.heap.objs.size)
 .rw[h.2];exact fM _
 .rw[h.2];exact fM _
theorem zpT{J:Type}(M:Model)(Γ:Ctx)(n:Nat)(t:Sem J):∀(Q:J->Pos->Shared->Prop) (E:Value->Pos->Shared->Prop) (p:Pos) (s:Shared),n<=s.heap.objs.size->Sem.wp M Γ t Q E p s->
  Sem.wp M Γ t (fun a p' s'=>n<=s'.heap.objs.size/\Q a p' s') (fun e p' s'=>n<=s'.heap.objs.size/\E e p' s') p s:=by
 induction t with
 | pure a=>intro Q E p s hn h;exact⟨hn,h⟩
 | raise e=>intro Q E p s hn h;exact⟨hn,h⟩
 | unsupported _=>intro Q E p s _ h;exact h
 | finish _=>intro Q E p s _ h;exact h
 | rule _ k ih=>intro Q E p s hn h;exact ih () Q E p s hn h
 | «at» p' k ih=>intro Q E p s hn h;exact ih () Q E p' s hn h
 | load a _ k ih=>intro Q E p s hn h;obtain⟨o,ho,h⟩:=h;exact⟨o,ho,ih o Q E p s hn h⟩
 | update a _ f k ih=>intro Q E p s hn h;exact⟨h.1,ih () Q E p _ (by simpa using hn) h.2⟩
 | loadIfAlive a k ih=>intro Q E p s hn h;exact ih _ Q E p s hn h
 | point _ k ih=>intro Q E p s hn h;exact ih () Q E p s hn h
 | register _ _=>intro Q E p s _ h;exact h
 | alloc o k ih=>intro Q E p s hn h;exact ih _ Q E p _ (by simp;omega) h
 | fresh k ih=>intro Q E p s hn h;exact ih _ Q E p { s with toks:=s.toks+1 } hn h
 | ask k ih=>intro Q E p s hn h;exact ih _ Q E p s hn h
 | choose src m k ih=>intro Q E p s hn h;exact⟨h.1,ih _ Q E p { s with drawn:=s.drawn.bump src } hn h.2⟩
 | os q _ k ih=>intro Q E p s hn h;exact ih _ Q E p { s with os:=(Os.step s.os q).1 } hn h
 | call c hd _ _ k ih=>intro Q E p s hn h;obtain⟨r,s',hr,h⟩:=h;exact⟨r,s',hr,ih r Q E p s' (fN hn (zbs hr)) h⟩
 | handled own k ih=>intro Q E p s hn h;exact ih _ Q E p s hn h
 | genState g k ih=>intro Q E p s hn h;obtain⟨st,hs,h⟩:=h;exact⟨st,hs,ih _ Q E p s hn h⟩
 | newGen c k ih=>intro Q E p s hn h;exact ih _ Q E p { s with gens:=s.gens.push (.fresh c) } hn h
 | resume g r _ k ih=>intro Q E p s hn h;obtain⟨res,s',hw,h⟩:=h;exact⟨res,s',hw,ih res Q E p s' (fN hn (zj5 hw)) h⟩
 | yield _ _ _ _=>intro Q E p s _ h;exact h
 | stack k ih=>intro Q E p s hn h;exact ih _ Q E p s hn h
 | fork _ _=>intro Q E p s _ h;exact h
 | thread k ih=>intro Q E p s hn h;exact ih _ Q E p s hn h
 | await _ _ _ _ _=>intro Q E p s _ h;exact h
theorem zW{J:Type}{M:Model}{A:Around}{s:Shared}{t:Sem J}{Q:J->Shared->Prop}{E:Value->Shared->Prop}
  (h:wpAny M A t (fun a s'=>s.heap.objs.size<=s'.heap.objs.size->Q a s') (fun e s'=>s.heap.objs.size<=s'.heap.objs.size->E e s') s):wpAny M A t Q E s:=
 fun Γ p hΓ=>by
  have:=zpT M Γ s.heap.objs.size t _ _ p s (fM _) (h Γ p hΓ);exact Sem.wp_mono M Γ t (fun a _ s' x=>x.2 x.1) (fun e _ s' x=>x.2 x.1) p s this
theorem zk2{M:Model}{A:Around}{s:Shared}{c:Code}{R:Result->Shared->Prop}(h:Gp M A c (fun r s'=>s.heap.objs.size<=s'.heap.objs.size->R r s') s):Gp M A c R s:=
 fun Γ p hc hΓ=>by obtain⟨r,s',hr,hR⟩:=h Γ p hc hΓ;exact⟨r,s',hr,hR (zbs hr)⟩
section
set_option maxRecDepth 1000000
open PySem.Calls
noncomputable def zsw(P:Gq):BT:=((((((((((BT.nil.ins 0 (boot_o_0 P)).ins 1 (boot_o_1 P)).ins 2 (boot_o_2 P)).ins 3 (boot_o_3 P)).ins 4 (boot_o_4 P)).ins 5 (boot_o_5 P)).ins 6 (boot_o_6 P)).ins 7 (boot_o_7 P)).ins 8 (boot_o_8 P)).ins 9 (boot_o_9 P)).ins 10 (boot_o_10 P)
noncomputable def zmD(w:World)(os:OsState):SharedT:=⟨zsw w.params,11,(boot_heap w.params).life,Array.mk [],boot_drawn,boot_toks,os⟩
theorem zmE(w:World)(os:OsState):(zmD w os).abs=⟨boot_heap w.params,Array.mk [],boot_drawn,boot_toks,os⟩:=by kernel_rfl
theorem zkS(P:Gq):(boot_heap P).isNs Gr=true:=by kernel_rfl
theorem zkR(P:Gq):(boot_heap P).objs.size=11:=by kernel_rfl
theorem zmF(P:Gq):(boot_heap P).nsMap Gr "__annotations__" = some (.ref 6):=by kernel_rfl
theorem zob{tb:String->Option Builtin}{p:Gn}{w:World}{n₀:Nat}{ann:Option Value}:∀{n:Nat} {s s':Shared} {t:Thread} {f:Flow} {c:Code} {q:Pos},segRun tb p w n₀ ann 0 n s t=some (f,s',c,q)->topRun tb p w n₀ ann n s t=some s':=by
 intro n
 induction n with
 | zero=>intro s s' t f c q h;cases h
 | succ n ih=>
  intro s s' t f c q h;unfold segRun at h;unfold topRun;have ht:through t=(endAt 0 t).isSome:=by
   obtain⟨cur,code,pos,stack⟩:=t;cases stack with
   | nil=>
    cases cur with
    | pure x=>cases x<;>rfl
    | _=>rfl
   | cons a l=>rfl
  rw[ht];cases he:endAt 0 t with
  | some x=>rw[he] at h;cases h;rfl
  | none=>
   rw[he] at h;dsimp only[Option.isSome_none];cases hk:stepOk n₀ ann t with
   | false=>rw[hk] at h;cases h
   | true=>
    rw[hk] at h;cases hs:step (denote tb) p w s t with
    | halt o s₂=>rw[hs] at h;cases h
    | go s₂ t₂=>rw[hs] at h;exact ih h
noncomputable def zgN{J:Type}(p q:Gn)(loose:List Str)(Xt:Shared->Bool)(Yf:Shared->J)(P:Gq)(s:Shared):=
 (staticsOk (importedModules p.main.body) (boot_heap P) s.heap&&namesBound p s.heap&&gensDone s&&laidKept (boot_heap P) s.heap,openSeen q loose (importedModules p.main.body) Xt true s,Yf s)
theorem zlr{p q:Gn}{loose:List Str}{Xt:Shared->Bool}{J:Type}{Yf:Shared->J}{Ya:World->J}{N:Nat}
  (e:opening p=plainProg p.main.scope.names)(hN:Nat.ble 600 N=true)(f:∀s,fenceModules? p s=some s)
  (h:∀(w:World) (os:OsState),(segRunT treeTable p w 11 (some (.ref 6)) 0 N (zmD w os) (topStub p)).map (fun r=>zgN p q loose Xt Yf w.params r.2.1.abs)=some (true,openGood q loose,Ya w)):LeftO p q loose Xt Yf Ya N true:=by
 intro w;obtain⟨⟨hp,gs,d,k,os⟩,hs,hv⟩:=fAR.mp (boot_open e hN f w);obtain⟨rfl,rfl,rfl,rfl⟩:hp=boot_heap w.params/\gs=Array.mk []/\d=boot_drawn/\k=boot_toks:=by simpa using hv
 obtain⟨⟨fl,sT,c,q'⟩,hr,hl⟩:=fAR.mp (h w os);obtain⟨l1,l2,l3⟩:_/\_/\_:=by simpa only[zgN,Prod.mk.injEq] using hl
 have r:=zob (segRun_of hr);rw[zmE] at r;have t:topFrom treeTable p w N ⟨boot_heap w.params,Array.mk [],boot_drawn,boot_toks,os⟩=some sT.abs:=by
  unfold topFrom;dsimp only;rw[zkS,zkR,zmF,r];show (match staticsOk (importedModules p.main.body) (boot_heap w.params) sT.abs.heap&&namesBound p sT.abs.heap&&gensDone sT.abs&&laidKept (boot_heap w.params) sT.abs.heap with|true=>some sT.abs|false=>none)=_;rw[l1]
 unfold openEnds;rw[hs];show (topFrom treeTable p w N _).map _=_;rw[t];exact congrArg some (Prod.ext l2 l3)
noncomputable def fnO(s:Stmt)(pm cd:Value):Obj:=match s with
 | .FunctionDef name args body _ _ _ scope _ _ _=>⟨.type "function",none,.func { name:=name,qualname:=name,params:=args,body:=.stmts body,scope:=scope,globals:=3,closure:=[],defaults:=.none,kwdefaults:=.none,pyModule:=pm,code:=cd },#[]⟩
 | _=>default
noncomputable def fnQ(s:Stmt)(q:Str)(pm cd:Value):Obj:=match s with
 | .FunctionDef name args body _ _ _ scope _ _ _=>⟨.type "function",none,.func { name:=name,qualname:=q,params:=args,body:=.stmts body,scope:=scope,globals:=3,closure:=[],defaults:=.none,kwdefaults:=.none,pyModule:=pm,code:=cd },#[]⟩
 | _=>default
noncomputable def za5(s:Stmt)(j:Nat):Stmt:=match s with
 | .ClassDef _ _ _ body _ _ _ _ _ _ _=>body.getD j (.Pass ⟨0,0,0,0⟩)
 | s=>s
noncomputable def en(P:Gq)(x:Str)(t:Tok)(v:Value):DictEntry:=⟨PyData.keyHash P x,.str x t,v⟩
end
section
variable{A1 A2 A3 A4 A5 A6 A7 A8 A9 A10 A11 A12 A13 A14 A15 A16:Sort _}{G:Prop}{O1 O2 O3 O4 O5 O6 O7 O8 O9 O10 O11 O12 O13 O14:Prop}{P1 P2 P3 P4 P5 P6 P7 P8:A1->Prop}{Q1 Q2 Q3 Q4 Q5 Q6 Q7 Q8 Q9:A1->A2->Prop}{R1 R2 R3 R4 R5 R6 R7 R8 R9:A1->A2->A3->Prop}{S1 S2 S3 S4 S5 S6 S7 S8 S9:A1->A2->A3->A4->Prop}{T1 T2 T3 T4 T5 T6 T7:A1->A2->A3->A4->A5->Prop}{U1 U2 U3 U4 U5 U6 U7 U8 U9 U10 U11 U12 U13 U14:A1->A2->A3->A4->A5->A6->Prop}{V1 V2 V3 V4 V5 V6 V7 V8 V9 V10 V11 V12 V13 V14:A1->A2->A3->A4->A5->A6->A7->Prop}{W1 W2 W3:A1->A2->A3->A4->A5->A6->A7->A8->Prop}{J1 J2 J3 J4:A1->A2->A3->A4->A5->A6->A7->A8->A9->A10->A11->A12->A13->A14->A15->A16->Prop}
theorem nos{J:Type}{x:J}{P:Prop}(h:none=some x):P:=nomatch h
theorem nob{P:Prop}(h:false=true):P:=nomatch h
theorem qc(h:O1/\O2)(k:O1->O2->G):G:=by obtain⟨p1,p2⟩:=h;exact k p1 p2
theorem jU(h:∃a,P1 a)(k:∀a,P1 a->G):G:=by obtain⟨a,p1⟩:=h;exact k a p1
theorem zY(h:O1/\O2/\O3)(k:O1->O2->O3->G):G:=by obtain⟨p1,p2,p3⟩:=h;exact k p1 p2 p3
theorem jc(h:∃a b,Q1 a b)(k:∀a b,Q1 a b->G):G:=by obtain⟨a,b,p1⟩:=h;exact k a b p1
theorem zx(h:O1/\O2/\O3/\O4)(k:O1->O2->O3->O4->G):G:=by obtain⟨p1,p2,p3,p4⟩:=h;exact k p1 p2 p3 p4
theorem qO(h:∃a b c,R1 a b c)(k:∀a b c,R1 a b c->G):G:=by obtain⟨a,b,c,p1⟩:=h;exact k a b c p1
theorem jw(h:O1/\O2/\O3/\O4/\O5)(k:O1->O2->O3->O4->O5->G):G:=by obtain⟨p1,p2,p3,p4,p5⟩:=h;exact k p1 p2 p3 p4 p5
theorem zf1(h:∃a b c d,S1 a b c d)(k:∀a b c d,S1 a b c d->G):G:=by obtain⟨a,b,c,d,p1⟩:=h;exact k a b c d p1
theorem za0(h:O1/\O2/\O3/\O4/\O5/\O6)(k:O1->O2->O3->O4->O5->O6->G):G:=by obtain⟨p1,p2,p3,p4,p5,p6⟩:=h;exact k p1 p2 p3 p4 p5 p6
theorem zb3(h:∃a b c d e,T1 a b c d e)(k:∀a b c d e,T1 a b c d e->G):G:=by obtain⟨a,b,c,d,e,p1⟩:=h;exact k a b c d e p1
theorem zbj(h:O1/\O2/\O3/\O4/\O5/\O6/\O7)(k:O1->O2->O3->O4->O5->O6->O7->G):G:=by obtain⟨p1,p2,p3,p4,p5,p6,p7⟩:=h;exact k p1 p2 p3 p4 p5 p6 p7
theorem zk6(h:∃a b c d e f,U1 a b c d e f)(k:∀a b c d e f,U1 a b c d e f->G):G:=by obtain⟨a,b,c,d,e,f,p1⟩:=h;exact k a b c d e f p1
theorem zdK(h:O1/\O2/\O3/\O4/\O5/\O6/\O7/\O8)(k:O1->O2->O3->O4->O5->O6->O7->O8->G):G:=by obtain⟨p1,p2,p3,p4,p5,p6,p7,p8⟩:=h;exact k p1 p2 p3 p4 p5 p6 p7 p8
theorem zc6(h:O1/\O2/\O3/\O4/\O5/\O6/\O7/\O8/\O9)(k:O1->O2->O3->O4->O5->O6->O7->O8->O9->G):G:=by obtain⟨p1,p2,p3,p4,p5,p6,p7,p8,p9⟩:=h;exact k p1 p2 p3 p4 p5 p6 p7 p8 p9
theorem zcL(h:O1/\O2/\O3/\O4/\O5/\O6/\O7/\O8/\O9/\O10/\O11/\O12/\O13/\O14)(k:O1->O2->O3->O4->O5->O6->O7->O8->O9->O10->O11->O12->O13->O14->G):G:=by obtain⟨p1,p2,p3,p4,p5,p6,p7,p8,p9,p10,p11,p12,p13,p14⟩:=h;exact k p1 p2 p3 p4 p5 p6 p7 p8 p9 p10 p11 p12 p13 p14
theorem qQ(h:∃a b c d e f g i j l m n o p q r,J1 a b c d e f g i j l m n o p q r)(k:∀a b c d e f g i j l m n o p q r,J1 a b c d e f g i j l m n o p q r->G):G:=by obtain⟨a,b,c,d,e,f,g,i,j,l,m,n,o,p,q,r,p1⟩:=h;exact k a b c d e f g i j l m n o p q r p1
theorem zb(h:∃a,P1 a/\P2 a)(k:∀a,P1 a->P2 a->G):G:=jU h fun a h=>qc h fun p1 p2=>k a p1 p2
theorem qN(h:O1/\O2/\∃a,P1 a)(k:O1->O2->∀a,P1 a->G):G:=zY h fun p1 p2 h=>jU h fun a p3=>k p1 p2 a p3
theorem kj(h:O1/\∃a,P1 a/\P2 a)(k:O1->∀a,P1 a->P2 a->G):G:=qc h fun p1 h=>jU h fun a h=>qc h fun p2 p3=>k p1 a p2 p3
theorem zk(h:∃a,P1 a/\P2 a/\P3 a)(k:∀a,P1 a->P2 a->P3 a->G):G:=jU h fun a h=>zY h fun p1 p2 p3=>k a p1 p2 p3
theorem jx(h:∃a b,Q1 a b/\Q2 a b)(k:∀a b,Q1 a b->Q2 a b->G):G:=jc h fun a b h=>qc h fun p1 p2=>k a b p1 p2
theorem zoR(h:O1/\∃a,P1 a/\P2 a/\P3 a)(k:O1->∀a,P1 a->P2 a->P3 a->G):G:=qc h fun p1 h=>jU h fun a h=>zY h fun p2 p3 p4=>k p1 a p2 p3 p4
theorem zoS(h:O1/\∃a b,Q1 a b/\Q2 a b)(k:O1->∀a b,Q1 a b->Q2 a b->G):G:=qc h fun p1 h=>jc h fun a b h=>qc h fun p2 p3=>k p1 a b p2 p3
theorem zI(h:∃a,P1 a/\P2 a/\P3 a/\P4 a)(k:∀a,P1 a->P2 a->P3 a->P4 a->G):G:=jU h fun a h=>zx h fun p1 p2 p3 p4=>k a p1 p2 p3 p4
theorem jC(h:∃a,P1 a/\P2 a/\∃b,Q1 a b)(k:∀a,P1 a->P2 a->∀b,Q1 a b->G):G:=jU h fun a h=>zY h fun p1 p2 h=>jU h fun b p3=>k a p1 p2 b p3
theorem zp(h:∃a b,Q1 a b/\Q2 a b/\Q3 a b)(k:∀a b,Q1 a b->Q2 a b->Q3 a b->G):G:=jc h fun a b h=>zY h fun p1 p2 p3=>k a b p1 p2 p3
theorem jD(h:∃a b c,R1 a b c/\R2 a b c)(k:∀a b c,R1 a b c->R2 a b c->G):G:=qO h fun a b c h=>qc h fun p1 p2=>k a b c p1 p2
theorem zha(h:O1/\O2/\O3/\O4/\∃a,P1 a)(k:O1->O2->O3->O4->∀a,P1 a->G):G:=jw h fun p1 p2 p3 p4 h=>jU h fun a p5=>k p1 p2 p3 p4 a p5
theorem zb1(h:O1/\O2/\∃a b,Q1 a b/\Q2 a b)(k:O1->O2->∀a b,Q1 a b->Q2 a b->G):G:=zY h fun p1 p2 h=>jc h fun a b h=>qc h fun p3 p4=>k p1 p2 a b p3 p4
theorem zhb(h:O1/\O2/\∃a b c,R1 a b c)(k:O1->O2->∀a b c,R1 a b c->G):G:=zY h fun p1 p2 h=>qO h fun a b c p3=>k p1 p2 a b c p3
theorem zdM(h:O1/\∃a b c,R1 a b c/\R2 a b c)(k:O1->∀a b c,R1 a b c->R2 a b c->G):G:=qc h fun p1 h=>qO h fun a b c h=>qc h fun p2 p3=>k p1 a b c p2 p3
theorem zhc(h:∃a,P1 a/\P2 a/\P3 a/\P4 a/\P5 a)(k:∀a,P1 a->P2 a->P3 a->P4 a->P5 a->G):G:=jU h fun a h=>jw h fun p1 p2 p3 p4 p5=>k a p1 p2 p3 p4 p5
theorem zaa(h:∃a,P1 a/\∃b,Q1 a b/\Q2 a b/\Q3 a b)(k:∀a,P1 a->∀b,Q1 a b->Q2 a b->Q3 a b->G):G:=jU h fun a h=>qc h fun p1 h=>jU h fun b h=>zY h fun p2 p3 p4=>k a p1 b p2 p3 p4
theorem zj(h:∃a b,Q1 a b/\Q2 a b/\Q3 a b/\Q4 a b)(k:∀a b,Q1 a b->Q2 a b->Q3 a b->Q4 a b->G):G:=jc h fun a b h=>zx h fun p1 p2 p3 p4=>k a b p1 p2 p3 p4
theorem jm(h:∃a b c,R1 a b c/\R2 a b c/\R3 a b c)(k:∀a b c,R1 a b c->R2 a b c->R3 a b c->G):G:=qO h fun a b c h=>zY h fun p1 p2 p3=>k a b c p1 p2 p3
theorem zk5(h:O1/\∃a b,Q1 a b/\Q2 a b/\Q3 a b/\Q4 a b)(k:O1->∀a b,Q1 a b->Q2 a b->Q3 a b->Q4 a b->G):G:=qc h fun p1 h=>jc h fun a b h=>zx h fun p2 p3 p4 p5=>k p1 a b p2 p3 p4 p5
theorem zfc(h:∃a,P1 a/\P2 a/\P3 a/\P4 a/\P5 a/\P6 a)(k:∀a,P1 a->P2 a->P3 a->P4 a->P5 a->P6 a->G):G:=jU h fun a h=>za0 h fun p1 p2 p3 p4 p5 p6=>k a p1 p2 p3 p4 p5 p6
theorem zt(h:∃a b,Q1 a b/\Q2 a b/\Q3 a b/\Q4 a b/\Q5 a b)(k:∀a b,Q1 a b->Q2 a b->Q3 a b->Q4 a b->Q5 a b->G):G:=jc h fun a b h=>jw h fun p1 p2 p3 p4 p5=>k a b p1 p2 p3 p4 p5
theorem zcM(h:∃a b c,R1 a b c/\R2 a b c/\R3 a b c/\R4 a b c)(k:∀a b c,R1 a b c->R2 a b c->R3 a b c->R4 a b c->G):G:=qO h fun a b c h=>zx h fun p1 p2 p3 p4=>k a b c p1 p2 p3 p4
theorem qY(h:∃a b c d,S1 a b c d/\S2 a b c d/\S3 a b c d)(k:∀a b c d,S1 a b c d->S2 a b c d->S3 a b c d->G):G:=zf1 h fun a b c d h=>zY h fun p1 p2 p3=>k a b c d p1 p2 p3
theorem zdL(h:O1/\O2/\∃a,P1 a/\∃b c d,S1 a b c d)(k:O1->O2->∀a,P1 a->∀b c d,S1 a b c d->G):G:=zY h fun p1 p2 h=>jU h fun a h=>qc h fun p3 h=>qO h fun b c d p4=>k p1 p2 a p3 b c d p4
theorem qA(h:O1/\∃a b,Q1 a b/\Q2 a b/\Q3 a b/\Q4 a b/\Q5 a b)(k:O1->∀a b,Q1 a b->Q2 a b->Q3 a b->Q4 a b->Q5 a b->G):G:=qc h fun p1 h=>jc h fun a b h=>jw h fun p2 p3 p4 p5 p6=>k p1 a b p2 p3 p4 p5 p6
theorem zdN(h:∃a,P1 a/\P2 a/\P3 a/\P4 a/\P5 a/\P6 a/\P7 a)(k:∀a,P1 a->P2 a->P3 a->P4 a->P5 a->P6 a->P7 a->G):G:=jU h fun a h=>zbj h fun p1 p2 p3 p4 p5 p6 p7=>k a p1 p2 p3 p4 p5 p6 p7
theorem zdO(h:∃a b,Q1 a b/\Q2 a b/\Q3 a b/\Q4 a b/\Q5 a b/\Q6 a b)(k:∀a b,Q1 a b->Q2 a b->Q3 a b->Q4 a b->Q5 a b->Q6 a b->G):G:=jc h fun a b h=>za0 h fun p1 p2 p3 p4 p5 p6=>k a b p1 p2 p3 p4 p5 p6
theorem zi0(h:∃a b,Q1 a b/\Q2 a b/\Q3 a b/\∃c,R1 a b c/\R2 a b c)(k:∀a b,Q1 a b->Q2 a b->Q3 a b->∀c,R1 a b c->R2 a b c->G):G:=jc h fun a b h=>zx h fun p1 p2 p3 h=>jU h fun c h=>qc h fun p4 p5=>k a b p1 p2 p3 c p4 p5
theorem qd(h:∃a b c,R1 a b c/\R2 a b c/\R3 a b c/\R4 a b c/\R5 a b c)(k:∀a b c,R1 a b c->R2 a b c->R3 a b c->R4 a b c->R5 a b c->G):G:=qO h fun a b c h=>jw h fun p1 p2 p3 p4 p5=>k a b c p1 p2 p3 p4 p5
theorem kG(h:O1/\∃a b,Q1 a b/\Q2 a b/\Q3 a b/\Q4 a b/\Q5 a b/\Q6 a b)(k:O1->∀a b,Q1 a b->Q2 a b->Q3 a b->Q4 a b->Q5 a b->Q6 a b->G):G:=qc h fun p1 h=>jc h fun a b h=>za0 h fun p2 p3 p4 p5 p6 p7=>k p1 a b p2 p3 p4 p5 p6 p7
theorem zhd(h:∃a,P1 a/\P2 a/\P3 a/\P4 a/\P5 a/\P6 a/\P7 a/\P8 a)(k:∀a,P1 a->P2 a->P3 a->P4 a->P5 a->P6 a->P7 a->P8 a->G):G:=jU h fun a h=>zdK h fun p1 p2 p3 p4 p5 p6 p7 p8=>k a p1 p2 p3 p4 p5 p6 p7 p8
theorem jd(h:∃a b c,R1 a b c/\R2 a b c/\R3 a b c/\R4 a b c/\R5 a b c/\R6 a b c)(k:∀a b c,R1 a b c->R2 a b c->R3 a b c->R4 a b c->R5 a b c->R6 a b c->G):G:=qO h fun a b c h=>za0 h fun p1 p2 p3 p4 p5 p6=>k a b c p1 p2 p3 p4 p5 p6
theorem zhe(h:∃a b c,R1 a b c/\∃d,S1 a b c d/\S2 a b c d/\∃e,T1 a b c d e)(k:∀a b c,R1 a b c->∀d,S1 a b c d->S2 a b c d->∀e,T1 a b c d e->G):G:=qO h fun a b c h=>qc h fun p1 h=>jU h fun d h=>zY h fun p2 p3 h=>jU h fun e p4=>k a b c p1 d p2 p3 e p4
theorem zV(h:∃a b c d,S1 a b c d/\S2 a b c d/\S3 a b c d/\S4 a b c d/\S5 a b c d)(k:∀a b c d,S1 a b c d->S2 a b c d->S3 a b c d->S4 a b c d->S5 a b c d->G):G:=zf1 h fun a b c d h=>jw h fun p1 p2 p3 p4 p5=>k a b c d p1 p2 p3 p4 p5
theorem zb0(h:O1/\O2/\O3/\O4/\∃a b c d e,T1 a b c d e)(k:O1->O2->O3->O4->∀a b c d e,T1 a b c d e->G):G:=jw h fun p1 p2 p3 p4 h=>zb3 h fun a b c d e p5=>k p1 p2 p3 p4 a b c d e p5
theorem zb2(h:∃a b,Q1 a b/\Q2 a b/\Q3 a b/\Q4 a b/\Q5 a b/\Q6 a b/\∃c,R1 a b c)(k:∀a b,Q1 a b->Q2 a b->Q3 a b->Q4 a b->Q5 a b->Q6 a b->∀c,R1 a b c->G):G:=jc h fun a b h=>zbj h fun p1 p2 p3 p4 p5 p6 h=>jU h fun c p7=>k a b p1 p2 p3 p4 p5 p6 c p7
theorem jM(h:∃a b c d,S1 a b c d/\S2 a b c d/\S3 a b c d/\S4 a b c d/\S5 a b c d/\S6 a b c d)(k:∀a b c d,S1 a b c d->S2 a b c d->S3 a b c d->S4 a b c d->S5 a b c d->S6 a b c d->G):G:=zf1 h fun a b c d h=>za0 h fun p1 p2 p3 p4 p5 p6=>k a b c d p1 p2 p3 p4 p5 p6
theorem zeO(h:∃a b,Q1 a b/\Q2 a b/\Q3 a b/\Q4 a b/\Q5 a b/\Q6 a b/\Q7 a b/\Q8 a b/\Q9 a b)(k:∀a b,Q1 a b->Q2 a b->Q3 a b->Q4 a b->Q5 a b->Q6 a b->Q7 a b->Q8 a b->Q9 a b->G):G:=jc h fun a b h=>zc6 h fun p1 p2 p3 p4 p5 p6 p7 p8 p9=>k a b p1 p2 p3 p4 p5 p6 p7 p8 p9
theorem zeP(h:∃a b c,R1 a b c/\R2 a b c/\R3 a b c/\R4 a b c/\R5 a b c/\R6 a b c/\R7 a b c/\R8 a b c)(k:∀a b c,R1 a b c->R2 a b c->R3 a b c->R4 a b c->R5 a b c->R6 a b c->R7 a b c->R8 a b c->G):G:=qO h fun a b c h=>zdK h fun p1 p2 p3 p4 p5 p6 p7 p8=>k a b c p1 p2 p3 p4 p5 p6 p7 p8
theorem zdP(h:∃a b c,R1 a b c/\R2 a b c/\R3 a b c/\R4 a b c/\R5 a b c/\R6 a b c/\R7 a b c/\R8 a b c/\R9 a b c)(k:∀a b c,R1 a b c->R2 a b c->R3 a b c->R4 a b c->R5 a b c->R6 a b c->R7 a b c->R8 a b c->R9 a b c->G):G:=qO h fun a b c h=>zc6 h fun p1 p2 p3 p4 p5 p6 p7 p8 p9=>k a b c p1 p2 p3 p4 p5 p6 p7 p8 p9
theorem kl(h:∃a b c d e,T1 a b c d e/\T2 a b c d e/\T3 a b c d e/\T4 a b c d e/\T5 a b c d e/\T6 a b c d e/\T7 a b c d e)(k:∀a b c d e,T1 a b c d e->T2 a b c d e->T3 a b c d e->T4 a b c d e->T5 a b c d e->T6 a b c d e->T7 a b c d e->G):G:=zb3 h fun a b c d e h=>zbj h fun p1 p2 p3 p4 p5 p6 p7=>k a b c d e p1 p2 p3 p4 p5 p6 p7
theorem qJ(h:∃a b c d e f g i j l m n o p q r,J1 a b c d e f g i j l m n o p q r/\J2 a b c d e f g i j l m n o p q r)(k:∀a b c d e f g i j l m n o p q r,J1 a b c d e f g i j l m n o p q r->J2 a b c d e f g i j l m n o p q r->G):G:=qQ h fun a b c d e f g i j l m n o p q r h=>qc h fun p1 p2=>k a b c d e f g i j l m n o p q r p1 p2
theorem zar(h:∃a b c d e f,U1 a b c d e f/\U2 a b c d e f/\U3 a b c d e f/\U4 a b c d e f/\U5 a b c d e f/\U6 a b c d e f/\U7 a b c d e f/\U8 a b c d e f/\U9 a b c d e f/\U10 a b c d e f/\U11 a b c d e f/\U12 a b c d e f/\U13 a b c d e f/\U14 a b c d e f)(k:∀a b c d e f,U1 a b c d e f->U2 a b c d e f->U3 a b c d e f->U4 a b c d e f->U5 a b c d e f->U6 a b c d e f->U7 a b c d e f->U8 a b c d e f->U9 a b c d e f->U10 a b c d e f->U11 a b c d e f->U12 a b c d e f->U13 a b c d e f->U14 a b c d e f->G):G:=zk6 h fun a b c d e f h=>zcL h fun p1 p2 p3 p4 p5 p6 p7 p8 p9 p10 p11 p12 p13 p14=>k a b c d e f p1 p2 p3 p4 p5 p6 p7 p8 p9 p10 p11 p12 p13 p14
theorem qn(h:∃a b c d e f g i j l m n o p q r,J1 a b c d e f g i j l m n o p q r/\J2 a b c d e f g i j l m n o p q r/\J3 a b c d e f g i j l m n o p q r/\J4 a b c d e f g i j l m n o p q r)(k:∀a b c d e f g i j l m n o p q r,J1 a b c d e f g i j l m n o p q r->J2 a b c d e f g i j l m n o p q r->J3 a b c d e f g i j l m n o p q r->J4 a b c d e f g i j l m n o p q r->G):G:=qQ h fun a b c d e f g i j l m n o p q r h=>zx h fun p1 p2 p3 p4=>k a b c d e f g i j l m n o p q r p1 p2 p3 p4
theorem qT(p1:O1)(p2:O2):O1/\O2:=⟨p1,p2⟩
theorem zay(a)(p1:P1 a):∃a,P1 a:=⟨a,p1⟩
theorem zq(p1:O1)(p2:O2)(p3:O3):O1/\O2/\O3:=⟨p1,p2,p3⟩
theorem jf(a)(b)(p1:Q1 a b):∃a b,Q1 a b:=⟨a,b,p1⟩
theorem zn(p1:O1)(p2:O2)(p3:O3)(p4:O4):O1/\O2/\O3/\O4:=⟨p1,p2,p3,p4⟩
theorem z8(a)(b)(c)(p1:R1 a b c):∃a b c,R1 a b c:=⟨a,b,c,p1⟩
theorem jb(p1:O1)(p2:O2)(p3:O3)(p4:O4)(p5:O5):O1/\O2/\O3/\O4/\O5:=⟨p1,p2,p3,p4,p5⟩
theorem zbn(a)(b)(c)(d)(p1:S1 a b c d):∃a b c d,S1 a b c d:=⟨a,b,c,d,p1⟩
theorem jI(p1:O1)(p2:O2)(p3:O3)(p4:O4)(p5:O5)(p6:O6):O1/\O2/\O3/\O4/\O5/\O6:=⟨p1,p2,p3,p4,p5,p6⟩
theorem znf(a)(b)(c)(d)(e)(p1:T1 a b c d e):∃a b c d e,T1 a b c d e:=⟨a,b,c,d,e,p1⟩
theorem zac(p1:O1)(p2:O2)(p3:O3)(p4:O4)(p5:O5)(p6:O6)(p7:O7):O1/\O2/\O3/\O4/\O5/\O6/\O7:=⟨p1,p2,p3,p4,p5,p6,p7⟩
theorem zfk(a)(b)(c)(d)(e)(f)(p1:U1 a b c d e f):∃a b c d e f,U1 a b c d e f:=⟨a,b,c,d,e,f,p1⟩
theorem zdV(p1:O1)(p2:O2)(p3:O3)(p4:O4)(p5:O5)(p6:O6)(p7:O7)(p8:O8):O1/\O2/\O3/\O4/\O5/\O6/\O7/\O8:=⟨p1,p2,p3,p4,p5,p6,p7,p8⟩
theorem zda(p1:O1)(p2:O2)(p3:O3)(p4:O4)(p5:O5)(p6:O6)(p7:O7)(p8:O8)(p9:O9):O1/\O2/\O3/\O4/\O5/\O6/\O7/\O8/\O9:=⟨p1,p2,p3,p4,p5,p6,p7,p8,p9⟩
theorem zad(p1:O1)(p2:O2)(p3:O3)(p4:O4)(p5:O5)(p6:O6)(p7:O7)(p8:O8)(p9:O9)(p10:O10)(p11:O11)(p12:O12)(p13:O13)(p14:O14):O1/\O2/\O3/\O4/\O5/\O6/\O7/\O8/\O9/\O10/\O11/\O12/\O13/\O14:=⟨p1,p2,p3,p4,p5,p6,p7,p8,p9,p10,p11,p12,p13,p14⟩
theorem zsJ(p1:O1)(a)(p2:P1 a):O1/\∃a,P1 a:=qT p1 (zay a p2)
theorem zc(a)(p1:P1 a)(p2:P2 a):∃a,P1 a/\P2 a:=zay a (qT p1 p2)
theorem kq(p1:O1)(p2:O2)(a)(p3:P1 a):O1/\O2/\∃a,P1 a:=zq p1 p2 (zay a p3)
theorem zax(p1:O1)(a)(p2:P1 a)(p3:P2 a):O1/\∃a,P1 a/\P2 a:=qT p1 (zay a (qT p2 p3))
theorem zqS(p1:O1)(a)(b)(p2:Q1 a b):O1/\∃a b,Q1 a b:=qT p1 (jf a b p2)
theorem zv(a)(p1:P1 a)(p2:P2 a)(p3:P3 a):∃a,P1 a/\P2 a/\P3 a:=zay a (zq p1 p2 p3)
theorem za6(a)(b)(p1:Q1 a b)(p2:Q2 a b):∃a b,Q1 a b/\Q2 a b:=jf a b (qT p1 p2)
theorem zo1(p1:O1)(p2:O2)(a)(p3:P1 a)(p4:P2 a):O1/\O2/\∃a,P1 a/\P2 a:=zq p1 p2 (zay a (qT p3 p4))
theorem zgc(p1:O1)(a)(p2:P1 a)(p3:P2 a)(p4:P3 a):O1/\∃a,P1 a/\P2 a/\P3 a:=qT p1 (zay a (zq p2 p3 p4))
theorem zgd(p1:O1)(a)(b)(p2:Q1 a b)(p3:Q2 a b):O1/\∃a b,Q1 a b/\Q2 a b:=qT p1 (jf a b (qT p2 p3))
theorem jN(a)(p1:P1 a)(p2:P2 a)(p3:P3 a)(p4:P4 a):∃a,P1 a/\P2 a/\P3 a/\P4 a:=zay a (zn p1 p2 p3 p4)
theorem qo(a)(p1:P1 a)(p2:P2 a)(b)(p3:Q1 a b):∃a,P1 a/\P2 a/\∃b,Q1 a b:=zay a (zq p1 p2 (zay b p3))
theorem zP(a)(b)(p1:Q1 a b)(p2:Q2 a b)(p3:Q3 a b):∃a b,Q1 a b/\Q2 a b/\Q3 a b:=jf a b (zq p1 p2 p3)
theorem qU(a)(b)(c)(p1:R1 a b c)(p2:R2 a b c):∃a b c,R1 a b c/\R2 a b c:=z8 a b c (qT p1 p2)
theorem zne(p1:O1)(a)(b)(c)(p2:R1 a b c)(p3:R2 a b c):O1/\∃a b c,R1 a b c/\R2 a b c:=qT p1 (z8 a b c (qT p2 p3))
theorem zdX(a)(p1:P1 a)(p2:P2 a)(p3:P3 a)(p4:P4 a)(p5:P5 a):∃a,P1 a/\P2 a/\P3 a/\P4 a/\P5 a:=zay a (jb p1 p2 p3 p4 p5)
theorem zht(a)(p1:P1 a)(b)(p2:Q1 a b)(p3:Q2 a b)(p4:Q3 a b):∃a,P1 a/\∃b,Q1 a b/\Q2 a b/\Q3 a b:=zay a (qT p1 (zay b (zq p2 p3 p4)))
theorem zr(a)(b)(p1:Q1 a b)(p2:Q2 a b)(p3:Q3 a b)(p4:Q4 a b):∃a b,Q1 a b/\Q2 a b/\Q3 a b/\Q4 a b:=jf a b (zn p1 p2 p3 p4)
theorem kr(a)(b)(c)(p1:R1 a b c)(p2:R2 a b c)(p3:R3 a b c):∃a b c,R1 a b c/\R2 a b c/\R3 a b c:=z8 a b c (zq p1 p2 p3)
theorem zcQ(p1:O1)(a)(b)(p2:Q1 a b)(p3:Q2 a b)(p4:Q3 a b)(p5:Q4 a b):O1/\∃a b,Q1 a b/\Q2 a b/\Q3 a b/\Q4 a b:=qT p1 (jf a b (zn p2 p3 p4 p5))
theorem jr(a)(b)(p1:Q1 a b)(p2:Q2 a b)(p3:Q3 a b)(p4:Q4 a b)(p5:Q5 a b):∃a b,Q1 a b/\Q2 a b/\Q3 a b/\Q4 a b/\Q5 a b:=jf a b (jb p1 p2 p3 p4 p5)
theorem jO(a)(b)(c)(p1:R1 a b c)(p2:R2 a b c)(p3:R3 a b c)(p4:R4 a b c):∃a b c,R1 a b c/\R2 a b c/\R3 a b c/\R4 a b c:=z8 a b c (zn p1 p2 p3 p4)
theorem zdW(p1:O1)(p2:O2)(p3:O3)(a)(b)(c)(d)(p4:S1 a b c d):O1/\O2/\O3/\∃a b c d,S1 a b c d:=zn p1 p2 p3 (zbn a b c d p4)
theorem jg(p1:O1)(a)(b)(p2:Q1 a b)(p3:Q2 a b)(p4:Q3 a b)(p5:Q4 a b)(p6:Q5 a b):O1/\∃a b,Q1 a b/\Q2 a b/\Q3 a b/\Q4 a b/\Q5 a b:=qT p1 (jf a b (jb p2 p3 p4 p5 p6))
theorem zaz(a)(p1:P1 a)(p2:P2 a)(p3:P3 a)(p4:P4 a)(p5:P5 a)(p6:P6 a)(p7:P7 a):∃a,P1 a/\P2 a/\P3 a/\P4 a/\P5 a/\P6 a/\P7 a:=zay a (zac p1 p2 p3 p4 p5 p6 p7)
theorem zi8(a)(p1:P1 a)(b)(c)(p2:R1 a b c)(p3:R2 a b c)(p4:R3 a b c)(p5:R4 a b c):∃a,P1 a/\∃b c,R1 a b c/\R2 a b c/\R3 a b c/\R4 a b c:=zay a (qT p1 (jf b c (zn p2 p3 p4 p5)))
theorem zM(a)(b)(c)(p1:R1 a b c)(p2:R2 a b c)(p3:R3 a b c)(p4:R4 a b c)(p5:R5 a b c):∃a b c,R1 a b c/\R2 a b c/\R3 a b c/\R4 a b c/\R5 a b c:=z8 a b c (jb p1 p2 p3 p4 p5)
theorem qg(p1:O1)(a)(b)(p2:Q1 a b)(p3:Q2 a b)(p4:Q3 a b)(p5:Q4 a b)(p6:Q5 a b)(p7:Q6 a b):O1/\∃a b,Q1 a b/\Q2 a b/\Q3 a b/\Q4 a b/\Q5 a b/\Q6 a b:=qT p1 (jf a b (jI p2 p3 p4 p5 p6 p7))
theorem za8(a)(b)(c)(p1:R1 a b c)(p2:R2 a b c)(p3:R3 a b c)(p4:R4 a b c)(p5:R5 a b c)(p6:R6 a b c):∃a b c,R1 a b c/\R2 a b c/\R3 a b c/\R4 a b c/\R5 a b c/\R6 a b c:=z8 a b c (jI p1 p2 p3 p4 p5 p6)
theorem qh(a)(b)(c)(d)(p1:S1 a b c d)(p2:S2 a b c d)(p3:S3 a b c d)(p4:S4 a b c d)(p5:S5 a b c d):∃a b c d,S1 a b c d/\S2 a b c d/\S3 a b c d/\S4 a b c d/\S5 a b c d:=zbn a b c d (jb p1 p2 p3 p4 p5)
theorem zge(p1:O1)(a)(b)(c)(p2:R1 a b c)(p3:R2 a b c)(p4:R3 a b c)(p5:R4 a b c)(p6:R5 a b c)(p7:R6 a b c):O1/\∃a b c,R1 a b c/\R2 a b c/\R3 a b c/\R4 a b c/\R5 a b c/\R6 a b c:=qT p1 (z8 a b c (jI p2 p3 p4 p5 p6 p7))
theorem qp(a)(b)(c)(d)(p1:S1 a b c d)(p2:S2 a b c d)(p3:S3 a b c d)(p4:S4 a b c d)(p5:S5 a b c d)(p6:S6 a b c d):∃a b c d,S1 a b c d/\S2 a b c d/\S3 a b c d/\S4 a b c d/\S5 a b c d/\S6 a b c d:=zbn a b c d (jI p1 p2 p3 p4 p5 p6)
theorem zeR(a)(b)(c)(p1:R1 a b c)(p2:R2 a b c)(p3:R3 a b c)(p4:R4 a b c)(p5:R5 a b c)(p6:R6 a b c)(p7:R7 a b c)(p8:R8 a b c):∃a b c,R1 a b c/\R2 a b c/\R3 a b c/\R4 a b c/\R5 a b c/\R6 a b c/\R7 a b c/\R8 a b c:=z8 a b c (zdV p1 p2 p3 p4 p5 p6 p7 p8)
theorem zdY(a)(p1:P1 a)(b)(c)(d)(e)(p2:T1 a b c d e)(p3:T2 a b c d e)(p4:T3 a b c d e)(p5:T4 a b c d e)(p6:T5 a b c d e)(p7:T6 a b c d e):∃a,P1 a/\∃b c d e,T1 a b c d e/\T2 a b c d e/\T3 a b c d e/\T4 a b c d e/\T5 a b c d e/\T6 a b c d e:=zay a (qT p1 (zbn b c d e (jI p2 p3 p4 p5 p6 p7)))
theorem za7(a)(b)(p1:Q1 a b)(c)(d)(e)(p2:T1 a b c d e)(p3:T2 a b c d e)(p4:T3 a b c d e)(p5:T4 a b c d e)(p6:T5 a b c d e)(p7:T6 a b c d e):∃a b,Q1 a b/\∃c d e,T1 a b c d e/\T2 a b c d e/\T3 a b c d e/\T4 a b c d e/\T5 a b c d e/\T6 a b c d e:=jf a b (qT p1 (z8 c d e (jI p2 p3 p4 p5 p6 p7)))
theorem zdZ(a)(b)(c)(p1:R1 a b c)(p2:R2 a b c)(p3:R3 a b c)(p4:R4 a b c)(p5:R5 a b c)(p6:R6 a b c)(p7:R7 a b c)(p8:R8 a b c)(p9:R9 a b c):∃a b c,R1 a b c/\R2 a b c/\R3 a b c/\R4 a b c/\R5 a b c/\R6 a b c/\R7 a b c/\R8 a b c/\R9 a b c:=z8 a b c (zda p1 p2 p3 p4 p5 p6 p7 p8 p9)
theorem qq(a)(b)(c)(d)(e)(p1:T1 a b c d e)(p2:T2 a b c d e)(p3:T3 a b c d e)(p4:T4 a b c d e)(p5:T5 a b c d e)(p6:T6 a b c d e)(p7:T7 a b c d e):∃a b c d e,T1 a b c d e/\T2 a b c d e/\T3 a b c d e/\T4 a b c d e/\T5 a b c d e/\T6 a b c d e/\T7 a b c d e:=znf a b c d e (zac p1 p2 p3 p4 p5 p6 p7)
theorem zaO(a)(p1:P1 a)(b)(c)(d)(p2:S1 a b c d)(p3:S2 a b c d)(p4:S3 a b c d)(p5:S4 a b c d)(p6:S5 a b c d)(p7:S6 a b c d)(p8:S7 a b c d)(p9:S8 a b c d):∃a,P1 a/\∃b c d,S1 a b c d/\S2 a b c d/\S3 a b c d/\S4 a b c d/\S5 a b c d/\S6 a b c d/\S7 a b c d/\S8 a b c d:=zay a (qT p1 (z8 b c d (zdV p2 p3 p4 p5 p6 p7 p8 p9)))
theorem zcR(a)(p1:P1 a)(b)(c)(d)(p2:S1 a b c d)(p3:S2 a b c d)(p4:S3 a b c d)(p5:S4 a b c d)(p6:S5 a b c d)(p7:S6 a b c d)(p8:S7 a b c d)(p9:S8 a b c d)(p10:S9 a b c d):∃a,P1 a/\∃b c d,S1 a b c d/\S2 a b c d/\S3 a b c d/\S4 a b c d/\S5 a b c d/\S6 a b c d/\S7 a b c d/\S8 a b c d/\S9 a b c d:=zay a (qT p1 (z8 b c d (zda p2 p3 p4 p5 p6 p7 p8 p9 p10)))
theorem zaA(a)(b)(c)(d)(e)(f)(p1:U1 a b c d e f)(p2:U2 a b c d e f)(p3:U3 a b c d e f)(p4:U4 a b c d e f)(p5:U5 a b c d e f)(p6:U6 a b c d e f)(p7:U7 a b c d e f)(p8:U8 a b c d e f)(p9:U9 a b c d e f)(p10:U10 a b c d e f)(p11:U11 a b c d e f)(p12:U12 a b c d e f)(p13:U13 a b c d e f)(p14:U14 a b c d e f):∃a b c d e f,U1 a b c d e f/\U2 a b c d e f/\U3 a b c d e f/\U4 a b c d e f/\U5 a b c d e f/\U6 a b c d e f/\U7 a b c d e f/\U8 a b c d e f/\U9 a b c d e f/\U10 a b c d e f/\U11 a b c d e f/\U12 a b c d e f/\U13 a b c d e f/\U14 a b c d e f:=zfk a b c d e f (zad p1 p2 p3 p4 p5 p6 p7 p8 p9 p10 p11 p12 p13 p14)
theorem j4(a)(p1:P1 a)(b)(c)(d)(e)(f)(g)(p2:V1 a b c d e f g)(p3:V2 a b c d e f g)(p4:V3 a b c d e f g)(p5:V4 a b c d e f g)(p6:V5 a b c d e f g)(p7:V6 a b c d e f g)(p8:V7 a b c d e f g)(p9:V8 a b c d e f g)(p10:V9 a b c d e f g)(p11:V10 a b c d e f g)(p12:V11 a b c d e f g)(p13:V12 a b c d e f g)(p14:V13 a b c d e f g)(p15:V14 a b c d e f g):∃a,P1 a/\∃b c d e f g,V1 a b c d e f g/\V2 a b c d e f g/\V3 a b c d e f g/\V4 a b c d e f g/\V5 a b c d e f g/\V6 a b c d e f g/\V7 a b c d e f g/\V8 a b c d e f g/\V9 a b c d e f g/\V10 a b c d e f g/\V11 a b c d e f g/\V12 a b c d e f g/\V13 a b c d e f g/\V14 a b c d e f g:=zay a (qT p1 (zfk b c d e f g (zad p2 p3 p4 p5 p6 p7 p8 p9 p10 p11 p12 p13 p14 p15)))
end
section
set_option genSizeOf false
set_option genInjectivity false
namespace La
open Lean.Omega
inductive T where
 | v (i:Nat)|n (k:Nat)|a (s t:T)|s (s t:T)|m (k:Nat) (t:T)|x (s t:T)|y (s t:T)|c (t:T)|g (t:T)|o (t:T)
inductive P where
 | l (b:Bool) (s t:T)|e (b:Bool) (s t:T)|a (p q:P)|o (p q:P)|i (p q:P)|f
noncomputable def tv(z:List Int)(t:T):Nat×Int:=
 T.rec (motive:=fun _=>Nat×Int) (fun i=>((IntList.get z i).toNat,IntList.get z i)) (fun k=>(k,(k:Int))) (fun _ _ s t=>(s.1+t.1,s.2+t.2)) (fun _ _ s t=>(s.1-t.1,s.2-t.2)) (fun k _ t=>(k*t.1,(k:Int)*t.2)) (fun _ _ s t=>(max s.1 t.1,max s.2 t.2)) (fun _ _ s t=>(min s.1 t.1,min s.2 t.2)) (fun _ t=>(t.1,(t.1:Int))) (fun _ t=>(0,- t.2)) (fun _ t=>(t.2.toNat,(t.2.toNat:Int))) t
def dn(z:List Int)(p:P):Prop:=
 P.rec (motive:=fun _=>Prop) (fun b s t=>bif b then (tv z s).2<=(tv z t).2 else (tv z s).1<=(tv z t).1) (fun b s t=>bif b then (tv z s).2=(tv z t).2 else (tv z s).1=(tv z t).1) (fun _ _ p q=>p/\q) (fun _ _ p q=>p\/q) (fun _ _ p q=>p->q) False p
noncomputable abbrev L:=LinearCombo
noncomputable def cc(k:Int):L:=⟨k,[]⟩
noncomputable abbrev K:=L->List L->Bool
noncomputable def lf(n:Nat)(t:T):Bool->List L->K->Bool:=
 T.rec (motive:=fun _=>Bool->List L->K->Bool)
  (fun i b cs k=>(b||i.blt n)&&k (.coordinate i) cs)
  (fun j _ cs k=>k (cc j) cs)
  (fun _ _ s t b cs k=>s b cs fun l cs=>t b cs fun r cs=>k (l+r) cs)
  (fun _ _ s t b cs k=>s b cs fun l cs=>t b cs fun r cs=>bif b then k (l-r) cs else k (l-r) ((l-r)::cs)&&k (cc 0) ((r-l)::cs))
  (fun j _ t b cs k=>t b cs fun l cs=>k ((j:Int)*l) cs)
  (fun _ _ s t b cs k=>s b cs fun l cs=>t b cs fun r cs=>k l ((l-r)::cs)&&k r ((r-l)::cs))
  (fun _ _ s t b cs k=>s b cs fun l cs=>t b cs fun r cs=>k r ((l-r)::cs)&&k l ((r-l)::cs))
  (fun _ t _ cs k=>t false cs k)
  (fun _ t b cs k=>b&&t b cs fun l cs=>k (-l) cs)
  (fun _ t _ cs k=>t true cs fun l cs=>k l ((l-cc 0)::cs)&&k (cc 0) ((cc 0-l)::cs)) t
section
variable{z:List Int}{cs:List L}{l r:L}{n:Nat}
def Sat(z:List Int)(cs:List L):Prop:=∀l∈cs,0<=l.eval z
noncomputable def Va(b:Bool)(p:Nat×Int):Int:=bif b then p.2 else p.1
theorem Sat.sub(h:Sat z cs)(g:r.eval z<=l.eval z):Sat z ((l-r)::cs):=
 fAN.mpr ⟨(LinearCombo.sub_eval l r z).symm▸Int.sub_nonneg_of_le g,h⟩
theorem zbY(k:Int):(cc k).eval z=k:=fC6 k
theorem Sat.lt(h:Sat z cs)(g:r.eval z<l.eval z):Sat z ((l-(r+cc 1))::cs):=
 h.sub (fAS (Int.le_of_eq ((LinearCombo.add_eval r (cc 1) z).trans (congrArg (r.eval z + ·) (zbY 1)))) g)
theorem an{a b:Bool}(h:(a&&b)=true):a=true/\b=true:=gA.mp h
def Ok(n:Nat)(z:List Int)(t:T):Prop:=
 ∀(b:Bool) (cs:List L) (k:K),Sat z cs->lf n t b cs k=true->(∀l cs,Sat z cs->l.eval z=Va b (tv z t)->k l cs=true->False)->False
def Bo(z:List Int)(b:Bool)(s t:T)(l r:L)(cs:List L)(k:Bool):Prop:=
 Sat z cs->l.eval z=Va b (tv z s)->r.eval z=Va b (tv z t)->k=true->False
theorem two{s t:T}(hs:Ok n z s)(ht:Ok n z t){b:Bool}{k:L->L->List L->Bool}(h:Sat z cs)(e:lf n s b cs (fun l cs=>lf n t b cs fun r cs=>k l r cs)=true)
  (f:∀l r cs,Bo z b s t l r cs (k l r cs)):False:=
 hs b cs _ h e fun l cs h1 e1 e=>ht b cs _ h1 e fun r cs h2 e2 e=>f l r cs h2 e1 e2 e
theorem V_n(b:Bool)(k:Nat):Va b (k,(k:Int))=k:=by cases b<;>exact rfl
theorem zso(b:Bool)(p q:Nat×Int):Va b (p.1+q.1,p.2+q.2)=Va b p+Va b q:=by cases b<;>exact rfl
theorem zsr(b:Bool)(k:Nat)(q:Nat×Int):Va b (k*q.1,(k:Int)*q.2)=k*Va b q:=by cases b<;>exact rfl
theorem zqe(b:Bool)(p q:Nat×Int):Va b (max p.1 q.1,max p.2 q.2)=max (Va b p) (Va b q):=by
 cases b with
 | true=>exact rfl
 | false=>exact(fC7 q.1 p.1).elim (fun h=>(congrArg Int.ofNat (Nat.max_eq_left h)).trans (fDA (fBH.mpr h)).symm) fun h=>(congrArg Int.ofNat (Nat.max_eq_right h)).trans (fC1 (fBH.mpr h)).symm
theorem zqf(b:Bool)(p q:Nat×Int):Va b (min p.1 q.1,min p.2 q.2)=min (Va b p) (Va b q):=by
 cases b with
 | true=>exact rfl
 | false=>exact(fC7 p.1 q.1).elim (fun h=>(congrArg Int.ofNat (Nat.min_eq_left h)).trans (fCJ (fBH.mpr h)).symm) fun h=>(congrArg Int.ofNat (Nat.min_eq_right h)).trans (fB7 (fBH.mpr h)).symm
theorem zss(p q:Nat×Int)(h:Va false q<=Va false p):Va false (p.1-q.1,p.2-q.2)=Va false p-Va false q:=Int.ofNat_sub (fBH.mp h)
theorem zqz(p q:Nat×Int)(h:Va false p<=Va false q):Va false (p.1-q.1,p.2-q.2)=0:=congrArg Int.ofNat (Nat.sub_eq_zero_of_le (fBH.mp h))
theorem spl{A B:Bool}{a b:Int}(ea:l.eval z=a)(eb:r.eval z=b)(h:Sat z cs)(e:(A&&B)=true)
  (f:b<=a->Sat z ((l-r)::cs)->A=true->False)(g:a<=b->Sat z ((r-l)::cs)->B=true->False):False:=
 (fC8 b a).elim (fun q=>f q (h.sub (ea▸eb▸q)) (an e).1) fun q=>g q (h.sub (ea▸eb▸q)) (an e).2
theorem zdd(hn:∀i,i.blt n=true->0<=IntList.get z i)(t:T):Ok n z t:=by
 induction t with
 | v i=>
  intro b cs k h e f;cases b with
  | true=>exact f _ _ h (LinearCombo.coordinate_eval i z) e
  | false=>exact f _ _ h ((LinearCombo.coordinate_eval i z).trans (fA6 (hn i (an e).1)).symm) (an e).2
 | n j=>exact fun b cs k h e f=>f _ _ h ((zbY _).trans (V_n b j).symm) e
 | a s t hs ht=>exact fun b cs k h e f=>two hs ht h e fun l r cs h e1 e2 e=>f _ _ h ((LinearCombo.add_eval l r z).trans ((congr (congrArg _ e1) e2).trans (zso b _ _).symm)) e
 | s s t hs ht=>
  intro b cs k h e f;refine two hs ht h e fun l r cs h e1 e2 e=>?_;have e3:=(LinearCombo.sub_eval l r z).trans (congr (congrArg _ e1) e2);cases b with
  | true=>exact f _ _ h e3 e
  | false=>exact spl e1 e2 h e (fun q h e=>f _ _ h (e3.trans (zss _ _ q).symm) e) fun q h e=>f _ _ h ((zbY 0).trans (zqz _ _ q).symm) e
 | m j t ht=>exact fun b cs k h e f=>ht b cs _ h e fun l cs h e1 e=>f _ _ h ((LinearCombo.smul_eval l j z).trans ((congrArg _ e1).trans (zsr b j _).symm)) e
 | x s t hs ht=>exact fun b cs k h e f=>two hs ht h e fun l r cs h e1 e2 e=>spl e1 e2 h e (fun q h e=>f _ _ h (e1.trans ((zqe b _ _).trans (fDA q)).symm) e) fun q h e=>f _ _ h (e2.trans ((zqe b _ _).trans (fC1 q)).symm) e
 | y s t hs ht=>exact fun b cs k h e f=>two hs ht h e fun l r cs h e1 e2 e=>spl e1 e2 h e (fun q h e=>f _ _ h (e2.trans ((zqf b _ _).trans (fB7 q)).symm) e) fun q h e=>f _ _ h (e1.trans ((zqf b _ _).trans (fCJ q)).symm) e
 | c t ht=>exact fun b cs k h e f=>ht false cs k h e fun l cs h e1 e=>f _ _ h (e1.trans (V_n b _).symm) e
 | g t ht=>
  intro b cs k h e f;cases b with
  | true=>exact ht true cs _ h e fun l cs h e1 e=>f _ _ h ((LinearCombo.neg_eval l z).trans (congrArg _ e1)) e
  | false=>exact Bool.noConfusion e
 | o t ht=>exact fun b cs k h e f=>ht true cs _ h e fun l cs h e1 e=>spl e1 (zbY 0) h e (fun q h e=>f _ _ h (e1.trans ((V_n b _).trans (fA6 q)).symm) e) fun q h e=>f _ _ h ((zbY 0).trans ((V_n b _).trans (congrArg Int.ofNat (Int.toNat_of_nonpos q))).symm) e
abbrev Ja:=List L->(List L->Bool)->Bool
noncomputable def jn(w:Bool)(A B:Ja):Ja:=fun cs k=>bif w then A cs (fun cs=>B cs k) else A cs k&&B cs k
noncomputable def ps(n:Nat)(p:P):Bool->Ja:=
 P.rec (motive:=fun _=>Bool->Ja)
  (fun b s t w cs k=>lf n s b cs fun l cs=>lf n t b cs fun r cs=>k ((bif w then r-l else l-(r+cc 1))::cs))
  (fun b s t w cs k=>lf n s b cs fun l cs=>lf n t b cs fun r cs=>bif w then k ((r-l)::(l-r)::cs) else k ((r-(l+cc 1))::cs)&&k ((l-(r+cc 1))::cs))
  (fun _ _ p q w=>jn w (p w) (q w)) (fun _ _ p q w=>jn (!w) (p w) (q w)) (fun _ _ p q w=>jn (!w) (p (!w)) (q w)) (fun w cs k=>w||k cs) p
def OkJ(z:List Int)(A:Ja)(a:Prop):Prop:=∀(cs:List L) (k:List L->Bool),Sat z cs->a->A cs k=true->(∀cs,Sat z cs->k cs=true->False)->False
theorem jn1{A B:Ja}{a b:Prop}(ha:OkJ z A a)(hb:OkJ z B b):OkJ z (jn true A B) (a/\b):=
 fun cs k h g e f=>ha cs _ h g.1 e fun cs h e=>hb cs k h g.2 e f
theorem jn0{A B:Ja}{a b:Prop}(ha:OkJ z A a)(hb:OkJ z B b):OkJ z (jn false A B) (a\/b):=
 fun cs k h g e f=>g.elim (fun g=>ha cs k h g (an e).1 f) fun g=>hb cs k h g (an e).2 f
theorem OkJ.of{A:Ja}{a b:Prop}(h:OkJ z A a)(i:b->a):OkJ z A b:=fun cs k s g=>h cs k s (i g)
theorem zsq(b:Bool)(s t:T):dn z (.l b s t)↔Va b (tv z s)<=Va b (tv z t):=by
 cases b with
 | false=>exact fBH.symm
 | true=>exact Iff.rfl
theorem zsp(b:Bool)(s t:T):dn z (.e b s t)↔Va b (tv z s)=Va b (tv z t):=by
 cases b with
 | false=>exact Int.ofNat_inj.symm
 | true=>exact Iff.rfl
theorem zs2(hn:∀i,i.blt n=true->0<=IntList.get z i)(p:P):OkJ z (ps n p true) (dn z p)/\OkJ z (ps n p false) (¬dn z p):=by
 induction p with
 | l b s t=>exact⟨fun cs k h g e f=>two (zdd hn s) (zdd hn t) h e fun l r cs h e1 e2 e=>f _ (h.sub (e1▸e2▸(zsq b s t).mp g)) e,
   fun cs k h g e f=>two (zdd hn s) (zdd hn t) h e fun l r cs h e1 e2 e=>f _ (h.lt (e1▸e2▸fB8.mp (mt (zsq b s t).mpr g))) e⟩
 | e b s t=>exact⟨fun cs k h g e f=>two (zdd hn s) (zdd hn t) h e fun l r cs h e1 e2 e=>
    have g:=e1.trans (((zsp b s t).mp g).trans e2.symm)
    f _ ((h.sub (Int.le_of_eq g.symm)).sub (Int.le_of_eq g)) e,
   fun cs k h g e f=>two (zdd hn s) (zdd hn t) h e fun l r cs h e1 e2 e=>(Int.lt_or_gt_of_ne (mt (zsp b s t).mpr g)).elim (fun g=>f _ (h.lt (e1▸e2▸g)) (an e).1) fun g=>f _ (h.lt (e1▸e2▸g)) (an e).2⟩
 | a p q hp hq=>exact⟨jn1 hp.1 hq.1,(jn0 hp.2 hq.2).of Classical.not_and_iff_not_or_not.mp⟩
 | o p q hp hq=>exact⟨jn0 hp.1 hq.1,(jn1 hp.2 hq.2).of not_or.mp⟩
 | i p q hp hq=>exact⟨(jn0 hp.2 hq.1).of fun g=>(Classical.em _).elim (fun a=>.inr (g a)) .inl,(jn1 hp.1 hq.2).of Classical.not_imp.mp⟩
 | f=>exact⟨fun _ _ _ g _ _=>g,fun cs k h _ e f=>f cs h e⟩
noncomputable def cm(a b:Nat)(l r:L):List L:=bif (a*b).beq 0 then [] else [(a:Int)*l+(b:Int)*r]
noncomputable def step(i:Nat)(cs:List L):List L:=
 cs.filter (fun l=>(IntList.get l.coeffs i).natAbs.beq 0)++cs.flatMap fun l=>cs.flatMap fun r=>cm (- IntList.get r.coeffs i).toNat (IntList.get l.coeffs i).toNat l r
theorem zpy(i:Nat)(h:Sat z cs):Sat z (step i cs):=by
 refine List.forall_mem_append.mpr ⟨fun l hl=>h l (fP.mp hl).1,fun x hx=>?_⟩;obtain⟨l,hl,hx⟩:=gL.mp hx;obtain⟨r,hr,hx⟩:=gL.mp hx;have go:∀(a b:Nat),x∈cm a b l r->0<=x.eval z:=by
  intro a b hx;unfold cm at hx;cases hc:(a*b).beq 0 with
  | true=>rw[hc] at hx;exact absurd hx gB
  | false=>
   rw[hc] at hx;rw[fG.mp hx,LinearCombo.add_eval,LinearCombo.smul_eval,LinearCombo.smul_eval];exact Int.add_nonneg (Int.mul_nonneg (fAW a) (h l hl)) (Int.mul_nonneg (fAW b) (h r hr))
 exact go _ _ hx
noncomputable def bad(l:L):Bool:=decide (l.const<0)&&l.coeffs.all fun x=>decide (x=0)
noncomputable def ref(n:Nat):List L->Bool:=Nat.rec (motive:=fun _=>List L->Bool) (fun cs=>cs.any bad) (fun i f cs=>cs.any bad||f (step i cs)) n
theorem zmA(h:Sat z cs)(e:cs.any bad=true):False:=by
 obtain⟨l,hl,e⟩:=List.any_eq_true.mp e;have e1:l.eval z=l.const:=(congrArg (l.const + ·) (IntList.dot_eq_zero_of_left_eq_zero fun x hx=>G7 (fAJ.mp (an e).2 x hx))).trans (fC6 _);exact absurd (e1▸h l hl) (fB8.mpr (G7 (an e).1))
theorem zrr(n:Nat):∀cs,Sat z cs->ref n cs=true->False:=by
 induction n with
 | zero=>exact fun cs h e=>zmA h e
 | succ n ih=>exact fun cs h e=>(fBN.mp e).elim (zmA h) (ih _ (zpy n h))
theorem zm8(c:List Nat):∀i,i.blt c.length=true->0<=IntList.get (c.map Int.ofNat++z) i:=by
 induction c with
 | nil=>exact fun i h=>Bool.noConfusion h
 | cons a c ih=>exact fun i h=>Nat.casesOn (motive:=fun i=>i.blt (c.length+1)=true->0<=IntList.get (Int.ofNat a::(c.map Int.ofNat++z)) i) i (fun _=>fAW a) (fun i h=>ih i h) h
noncomputable def ck(p:P)(c:List Nat)(z:List Int):Bool:=ps c.length p false ((List.range c.length).map .coordinate) (ref (c.length+z.length))
theorem lin(p:P)(c:List Nat)(z:List Int)(h:ck p c z=true:=by kernel_rfl):dn (c.map Int.ofNat++z) p:=by
 refine Classical.byContradiction fun g=>(zs2 (zm8 c) p).2 _ _ (fun l hl=>?_) g h (zrr _);obtain⟨i,hi,rfl⟩:=fO.mp hl;exact LinearCombo.coordinate_eval i _▸zm8 c i (Nat.ble_eq.mpr (pH.mp hi))
noncomputable def d1(k:T->T)(p:T×Nat):T×Nat:=(k p.1,p.2)
noncomputable def d2(k:T->T->T)(r:Nat->T×Nat)(p:T×Nat):T×Nat:=d1 (k p.1) (r p.2)
noncomputable def dT(f:Nat):Nat->T×Nat:=Nat.rec (motive:=fun _=>Nat->T×Nat) (fun c=>(.v 0,c)) (fun _ r c=>
 bif (c%32).blt 8 then (.v (c%32),c/32) else bif (c%32).blt 18 then (.n (c%32-8),c/32) else bif (c%32).beq 20 then d2 .a r (r (c/32)) else bif (c%32).beq 21 then d2 .s r (r (c/32)) else bif (c%32).beq 18 then (.n (c/32%1048576),c/33554432)
 else bif (c%32).beq 25 then d1 .c (r (c/32)) else bif (c%32).beq 22 then d1 (.m (c/32%1048576)) (r (c/33554432)) else bif (c%32).beq 23 then d2 .x r (r (c/32)) else bif (c%32).beq 24 then d2 .y r (r (c/32)) else bif (c%32).beq 26 then d1 .g (r (c/32)) else bif (c%32).beq 27 then d1 .o (r (c/32)) else (.n (c/32%1152921504606846976),c/36893488147419103232)) f
noncomputable def e1(k:P->P)(p:P×Nat):P×Nat:=(k p.1,p.2)
noncomputable def e2(k:P->P->P)(r:Nat->P×Nat)(p:P×Nat):P×Nat:=e1 (k p.1) (r p.2)
noncomputable def f1(k:T->P)(p:T×Nat):P×Nat:=(k p.1,p.2)
noncomputable def f2(k:T->T->P)(p:T×Nat):P×Nat:=f1 (k p.1) (dT 20 p.2)
noncomputable def dP(f:Nat):Nat->P×Nat:=Nat.rec (motive:=fun _=>Nat->P×Nat) (fun c=>(.f,c)) (fun _ r c=>
 bif (c%32).blt 2 then f2 (.l ((c%32).beq 1)) (dT 20 (c/32)) else bif (c%32).blt 4 then f2 (.e ((c%32).beq 3)) (dT 20 (c/32)) else bif (c%32).beq 6 then e2 .i r (r (c/32)) else bif (c%32).beq 4 then e2 .a r (r (c/32)) else bif (c%32).beq 5 then e2 .o r (r (c/32)) else (.f,c/32)) f
theorem za(n:Nat)(c:List Nat)(z:List Int)(h:ck (dP 20 n).1 c z=true:=by kernel_rfl):dn (c.map Int.ofNat++z) (dP 20 n).1:=lin _ c z h
end
end La
end
section
open La
noncomputable abbrev La.v0:La.T:=.v 0
noncomputable abbrev La.v1:La.T:=.v 1
noncomputable abbrev La.v2:La.T:=.v 2
noncomputable abbrev La.v3:La.T:=.v 3
noncomputable abbrev La.v4:La.T:=.v 4
noncomputable abbrev La.n0:La.T:=.n 0
noncomputable abbrev La.n1:La.T:=.n 1
noncomputable abbrev La.n2:La.T:=.n 2
noncomputable abbrev La.n3:La.T:=.n 3
noncomputable abbrev La.n4:La.T:=.n 4
noncomputable abbrev La.n5:La.T:=.n 5
noncomputable abbrev La.n6:La.T:=.n 6
noncomputable abbrev La.n7:La.T:=.n 7
noncomputable abbrev La.P.p:=P.l false
noncomputable abbrev La.P.z:=P.l true
noncomputable abbrev La.P.q:=P.e false
noncomputable abbrev La.P.w:=P.e true
variable{a b c d e f g i j k m o:Nat}{u v w x y z s t r:Int}
theorem y0 : -(1000000000000000:Int)<(1:Int):=za 0x1290038d7ea4c680009ea81 [] []
theorem y1:0+1<=1:=za 0x94a280 [] []
theorem y2:(1:Int)<1000000000000000:=za 0x71afd498d000134a681 [] []
theorem y3:(1:Int)>0:=za 0x94a281 [] []
theorem y4:0<1:=za 0x94a280 [] []
theorem y5:0<=100:=za 0x324900 [] []
theorem y6:0<=64:=za 0x204900 [] []
theorem y7:0<=u/\u<90->u.toNat+1<=90:=za 0x5a9241ba000016a490502040486 [] [u]
theorem y11 : -1000000000<=u->0-1000000000<=u:=za 0x7735940134542000000003b9aca009e826 [] [u]
theorem y12 : -1000000000000<u->-1000000000000000<u:=za 0x4801c6bf526340004f54081200001d1a94a20013d5026 [] [u]
theorem y14:0<u->¬u=0:=za 0x1d001980945026 [] [u]
theorem y33:u<1000000->u.toNat<1000000:=za 0xf42409241ba03d09024905026 [] [u]
theorem y34:u<1000000000000->u<1000000000000000:=za 0x1c6bf526340004d20a0400003a3529440026905026 [] [u]
theorem y41:u<u->False:=za 0x1c0905026 [] [u]
theorem y42:¬0<=u->u<0:=za 0x2120a04e0404c6 [] [u]
theorem y43:u+(1-1)=u:=za 0x129a8283 [] [u]
theorem y47 : -1000000000000<v->u<1000000000000->(((u-v).toNat:Nat):Int)<1000000000000000:=za 0xe35fa931a000269082bbcd0200001d1a94a2001348281305200001d1a94a20013d5026 [] [u,v]
theorem y54:u.toNat=v.toNat->0<=u->0<=v->u=v:=za 0x100c28098080983b06c46 [] [u,v]
theorem y55:u<v->u<=v:=za 0x10042905026 [] [u,v]
theorem y57:v<u->u-v=(((u-v).toNat:Nat):Int):=za 0x415de420a8c090d026 [] [u,v]
theorem y58:v<u->¬u<=v:=za 0x1c20098090d026 [] [u,v]
theorem y59:v>u->u<=v:=za 0x10042905026 [] [u,v]
theorem y60:¬u>v->u<=v:=za 0x40138121a04c6 [] [u,v]
theorem y61:¬v<u->0=(((u-v).toNat:Nat):Int):=za 0x415de50338121a04c6 [] [u,v]
theorem y62:¬v<u->u<=v:=za 0x40138121a04c6 [] [u,v]
theorem y65 : -1000000000000000<(((u-v).toNat:Nat):Int):=za 0x20aef290038d7ea4c680009ea81 [] [u,v]
theorem y68:u<=w->v=w->u<=v:=za 0x4011046610026 [] [u,v,w]
theorem y69:v>w->u<w->u<v:=za 0x148281124140982915026 [] [u,v,w]
theorem y70:v>w->u=w->u<v:=za 0x520a04401982915026 [] [u,v,w]
theorem y71:x-y<=w->u<=x->y<=v->u-v<=w:=za 0x820a842409860098441d426 [] [u,v,w,x,y]
theorem y96:u.toNat<a->u<(a:Int):=za 0xca43408121dd006 [a] [u]
theorem y97:u+1+(a:Int)=u+((a+1:Nat):Int):=za 0x905321a03290d283 [a] [u]
theorem y98:u+((a+1:Nat):Int)=u+(a:Int)+1:=za 0x906434a2414c8683 [a] [u]
theorem y99:a<=80/\b<=80->0<=u/\u<(a:Int)->0<=u/\u<90:=za 0x5a9245408901203291502240486000509040000a1200086 [a,b] [u]
theorem zvU:a<=80/\b<=80->0<=u/\u<(b:Int)->0<=u/\u<90:=za 0x5a9245408901207291502240486000509040000a1200086 [a,b] [u]
theorem zvV:u.toNat<b->b=a->u.toNat<a:=za 0x48b740002230522dd006 [a,b] [u]
theorem zvW:a+1<=1000000->a<=16777216:=za 0x20000013003d09024905006 [a] []
theorem zvX:1<=a->¬0+1=a->0+1<a:=za 0x1294528038128a08c602406 [a] []
theorem zvY:1<=a->¬1=a->1+1<=a:=za 0x129a00e0488c602406 [a] []
theorem zvZ:1<=a->¬1=a->1<a:=za 0x129a00e0488c602406 [a] []
theorem zv0:1<=a->¬a=1->2<=a:=za 0x500e9008c602406 [a] []
theorem zv1:1<=a->¬a>1->a=1:=za 0x240238129a00c602406 [a] []
theorem zv2:1<=a->0+1<=a:=za 0x4a28002406 [a] []
theorem zpU:1<=a->a-1<a:=za 0x1290568002406 [a] []
theorem zrG:1<=a->0<a:=za 0x4a28002406 [a] []
theorem zrH:1<=a->1<=a:=za 0x12002406 [a] []
theorem zth:1<=a->a=a-1+1:=za 0x2520ad00202406 [a] []
theorem zti:2<=a->¬a-1=1->2<=a-1:=za 0x9055403a520a88c602806 [a] []
theorem zv3:2<=a->a-2-1+1<a:=za 0x1294a815ad28002806 [a] []
theorem zv4:2<=a->a-1-1<a-1:=za 0x24154a520ad68002806 [a] []
theorem zv5:2<=a->a-2+1<a:=za 0x4a540ad28002806 [a] []
theorem zv6:2<=a->0<a:=za 0x4a28002806 [a] []
theorem zrI:2<=a->1<=a:=za 0x12002806 [a] []
theorem zrJ:2<=a->2<=a:=za 0x14002806 [a] []
theorem ztj:a<100->a<=16777216:=za 0x20000013000001924905006 [a] []
theorem ztk:a<1000->a+1<=1000:=za 0x1f44920a0000fa24905006 [a] []
theorem ztl:a<1000000->a<=16777216:=za 0x20000013003d09024905006 [a] []
theorem zv7:a<2->a<2:=za 0x2920a014905006 [a] []
theorem zrK:a<400->a+1<590:=za 0x49d24a414a00006424905006 [a] []
theorem zv8:a<400->a<600:=za 0x12c4920a00006424905006 [a] []
theorem zv9:a<500->a+1+1<590:=za 0x127492948294a00007d24905006 [a] []
theorem zwa:a<500->a+1<600:=za 0x4b124a414a00007d24905006 [a] []
theorem zwb:a<520->a+1<540:=za 0x43924a414a00008224905006 [a] []
theorem zwc:a<520->a+1<560:=za 0x46124a414a00008224905006 [a] []
theorem zwd:a<520->a+1<580:=za 0x48924a414a00008224905006 [a] []
theorem zwe:a<540->a+1<550:=za 0x44d24a414a00008724905006 [a] []
theorem zwf:a<540->a+1<570:=za 0x47524a414a00008724905006 [a] []
theorem zwg:a<540->a+1<590:=za 0x49d24a414a00008724905006 [a] []
theorem zrL:a<550->a+1<560:=za 0x46124a414a000089a4905006 [a] []
theorem zwh:a<550->a+1<570:=za 0x47524a414a000089a4905006 [a] []
theorem zrM:a<560->a+1<570:=za 0x47524a414a00008c24905006 [a] []
theorem zwi:a<560->a+1<580:=za 0x48924a414a00008c24905006 [a] []
theorem zwj:a<560->a+1<590:=za 0x49d24a414a00008c24905006 [a] []
theorem zrN:a<570->a+1<580:=za 0x48924a414a00008ea4905006 [a] []
theorem zml:a<570->a+1<590:=za 0x49d24a414a00008ea4905006 [a] []
theorem zix:a<580->a+1<590:=za 0x49d24a414a00009124905006 [a] []
theorem zwk:a<590->a+1<=600:=za 0x12c4920a000093a4905006 [a] []
theorem zwl:a<60->a+1<=64:=za 0x204920a00000f24905006 [a] []
theorem ztm:a<80->a+1<=1000000:=za 0x7a1204920a00001424905006 [a] []
theorem zwm:a>0->a-1<a:=za 0x4a415a000945006 [a] []
theorem zwn:a>1->a-2+1<a:=za 0x129502b4a00094d006 [a] []
theorem zwo:a>1->a-2<a:=za 0x4a815a00094d006 [a] []
theorem zwp:a<=100->a<=1000:=za 0x1f448000006490006 [a] []
theorem zwq:a<=100->a<=1000000:=za 0x7a12048000006490006 [a] []
theorem ze2:a<=1000->a<=1000000:=za 0x7a1204800003e890006 [a] []
theorem zwr:a<=10000->a<=1000000:=za 0x7a12048000271090006 [a] []
theorem zrO:a<=1000000->Nat.succ a<=1000000000000:=za 0x1d1a94a2001348280f424090006 [a] []
theorem zws:a<=1000000->a<=16777216+1:=za 0x90000000010000009d000f424090006 [a] []
theorem zgP:a<=1000000->a<=16777216:=za 0x8000004c00f424090006 [a] []
theorem zwt:a<=200->a<=16777216+1:=za 0x90000000010000009d000000c890006 [a] []
theorem zwu:a<=256->a+1<=1000000:=za 0x1e84812482800010090006 [a] []
theorem ztn:a<=256->a<1000000:=za 0x1e84812482800010090006 [a] []
theorem zwv:a<=3->0+a<=3:=za 0xb0228058006 [a] []
theorem zww:a<=3->a+1<=1000000:=za 0x1e848124828058006 [a] []
theorem zmm:a<=3->a<=100:=za 0x32480058006 [a] []
theorem zmn:a<=3->a<=1000:=za 0x1f4480058006 [a] []
theorem zgQ:a<=3->a<=1000000:=za 0x7a120480058006 [a] []
theorem zwx:a<=300->a<1000000:=za 0x1e84812482800012c90006 [a] []
theorem zto:a<=4->a<=1000:=za 0x1f4480060006 [a] []
theorem zwy:a<=8->0+a<=8:=za 0x100228080006 [a] []
theorem ztp:a<=8->a<=1000:=za 0x1f4480080006 [a] []
theorem ze3:a<=8->a<=1000000:=za 0x7a120480080006 [a] []
theorem zpV:a<=80->a<=1000000:=za 0x7a12048000005090006 [a] []
theorem zrP:¬a-1=0->1<=a-1:=za 0x9055203a120a88c6 [a] []
theorem ztq:¬a<2->2<=a:=za 0x1403a920a00c6 [a] []
theorem ztr:¬a=0->a-1<a:=za 0x4a415a00e8008c6 [a] []
theorem zwz:¬a=0->0<a:=za 0x128a00e8008c6 [a] []
theorem zwA:¬a=0->1<=a:=za 0x480e8008c6 [a] []
theorem zwB:¬a=1->¬a=0->2<=a:=za 0x1403a002318e9008c6 [a] []
theorem zts:¬a>0->a=0:=za 0x200238128a00c6 [a] []
theorem zwC:¬a<=1->2<=a:=za 0x500e9000c6 [a] []
theorem zrQ:((a+1:Nat):Int)-1=(a:Int):=za 0xca520a66a3 [a] []
theorem zwD:((0+a:Nat):Int)=(a:Int):=za 0x32045323 [a] []
theorem zwE:((a+1:Nat):Int)=(a:Int)+1:=za 0x90668905323 [a] []
theorem zwF:((a+1:Nat):Int)>0:=za 0x482994a281 [a] []
theorem zwG:(a:Int)-(a:Int)<=0:=za 0x2019066a1 [a] []
theorem zwH:a+1-a=1:=za 0x2409052a2 [a] []
theorem zwI : -((a+1:Nat):Int)<=-1:=za 0x4e920a6741 [a] []
theorem ztt:0+1<=a+1:=za 0x24144a280 [a] []
theorem zwJ:3*(a+1)=3+3*a:=za 0x3b2e890500000ec2 [a] []
theorem zwK:((a:Int)-0).toNat=a:=za 0x100cd762 [a] []
theorem zwL:(-1+((a+1:Nat):Int)).toNat=a:=za 0x905329d5362 [a] []
theorem zwM:min 0 a<=0:=za 0x802300 [a] []
theorem zwN:a+1<=a+9:=za 0x441448280 [a] []
theorem zwO:a-0<=a-0:=za 0x2015402a0 [a] []
theorem ztu:0<=a:=za 0x100 [a] []
theorem zwP:1<=a+1:=za 0x905120 [a] []
theorem ztv:a<2*a+1:=za 0x4800000ad448280 [a] []
theorem zpW:a<a+1:=za 0x241448280 [a] []
theorem zwQ:a<=a+3+1:=za 0x2560a5000 [a] []
theorem zwR:a<=a+1:=za 0x905000 [a] []
theorem ztw:a<=a:=za 0x0 [a] []
theorem zwS:¬(a:Int)<0:=za 0x3a120cd026 [a] []
theorem zwT:¬a+1=a:=za 0x1c0905046 [a] []
theorem zwU:(a:Int)<(b:Int)->a<b:=za 0x1482800e520cd026 [a,b] []
theorem zwV:a<=80/\b<=80->a<1000:=za 0x7d1248280000509040000a1200086 [a,b] []
theorem ztx:b-1-a>0->a+(b-1-a)=b-1:=za 0x90d4090d6a0a08090d6a945006 [a,b] []
theorem zwW:b<=80/\a<=80->a<1000:=za 0x7d1248280000509000000a1208086 [a,b] []
theorem zwX:max (a:Int) (b:Int)<=3->a<=3:=za 0x2c0058720cdc26 [a,b] []
theorem zwY:max (a:Int) (b:Int)<=3->¬max (a:Int) (b:Int)>3:=za 0x1c39066e95d02658720cdc26 [a,b] []
theorem zwZ:max (b:Int) (a:Int)<=3->a<=3:=za 0x2c0058321cdc26 [a,b] []
theorem zw0:min (a:Int) (b:Int)=1->a+b=0->False:=za 0x1d010504648720ce066 [a,b] []
theorem zw1:a+(b+1)<100->a<100:=za 0x324920a00001924948680a5006 [a,b] []
theorem zty:a+(b+1)<=100000->a+1+b<=100000:=za 0xc350482905280186a09243405006 [a,b] []
theorem ztz:a+(b+1)<=100000->a+1<=1000000:=za 0x1e8481248280186a09243405006 [a,b] []
theorem ztA:a+(b+1)<=100000->a+b<=100000:=za 0x30d41208280186a09243405006 [a,b] []
theorem ztB:a+(b+1)<=1000000->a+1+b<=1000000:=za 0x7a120482905280f42409243405006 [a,b] []
theorem ztC:a+(b+1)<=1000000->a+b<=1000000:=za 0x1e8481208280f42409243405006 [a,b] []
theorem ztD:a+(b+1)<=1000000->a<1000000:=za 0x1e8481248280f42409243405006 [a,b] []
theorem zw2:a+(b+1)<=3->a+1+b<=3:=za 0x2c29052805a43405006 [a,b] []
theorem zw3:a+(b+1)<=3->a<=3:=za 0x2c005a43405006 [a,b] []
theorem zw4:a+(b+1)<=8->a+1<=1000000:=za 0x1e84812482808243405006 [a,b] []
theorem zw5:a+(b+1)<=8->a+b<=8:=za 0x10082808243405006 [a,b] []
theorem ztE:a+1<b->¬a+1+1=b->a+1+1<b:=za 0x52948294a00e14a414a08c60a520a5006 [a,b] []
theorem zw6:a+1<b->a+(b-a)<=b:=za 0x401a82800a520a5006 [a,b] []
theorem zw7:a+1<b->a+1<b:=za 0x529052800a520a5006 [a,b] []
theorem zgR:a+1<b->a<b:=za 0x1482800a520a5006 [a,b] []
theorem zw8:a+1<b->a<=b:=za 0x4000a520a5006 [a,b] []
theorem zpX:a+1<=b+1->a<=b:=za 0x4004868905006 [a,b] []
theorem ztF:a+1<=b->a+1+1<=2*b+1:=za 0x4840000ad44a414a002905006 [a,b] []
theorem zw9:a+1<=b->a+1+1<=b+1:=za 0x24344a414a002905006 [a,b] []
theorem zpY:a+1<=b->a<=b:=za 0x10002905006 [a,b] []
theorem zxa:a+100<b->a+(10+10)<b:=za 0x1480005480002a54052800a40019240a5006 [a,b] []
theorem zrR:a+3000<b->a+1+100<b:=za 0x14800324920a52800a402ee240a5006 [a,b] []
theorem zxb:a+3000<b->a+2+2000<b:=za 0x14803e84940a52800a402ee240a5006 [a,b] []
theorem zxc:a+3000<b->a+100<b:=za 0x52000c92052800a402ee240a5006 [a,b] []
theorem ztG:a+b=0->a=0:=za 0x80090105046 [a,b] []
theorem zxd:a+b<=256->a<=256:=za 0x2012000004024105006 [a,b] []
theorem zxe:a-1<b->a<=b:=za 0x4000a520ad006 [a,b] []
theorem zxf:b+(a+1)<=8->a+1<=1000:=za 0x7d1248280824140d006 [a,b] []
theorem ztH:b+1<a->0<a-b:=za 0x4154a28002521a5006 [a,b] []
theorem ztI:b+1<=a->1<=a:=za 0x480090d006 [a,b] []
theorem ztJ:b-a>0->a+(b-a)=b:=za 0x401a8282006a945006 [a,b] []
theorem ztK:0<b->a<=b-1->a<b:=za 0x148280486a00182945006 [a,b] []
theorem zrS:1<=a->a<=b->a-1<b:=za 0x529056800800602406 [a,b] []
theorem zxg:1<=a->¬a-b>0->a-1<b:=za 0x14a415a00e105528a00c602406 [a,b] []
theorem zrT:1<=a->1<=a+b:=za 0x10512002406 [a,b] []
theorem zoy:1<=b->b<=a->1<=a:=za 0x120004060a406 [a,b] []
theorem zrU:1<=b->a+b-1<a+b:=za 0x4144a420a56800a406 [a,b] []
theorem zrV:2<=a->a<=b->a-1<b:=za 0x529056800800602806 [a,b] []
theorem zxh:2<=a->¬a-1-b>0->a-1-1<b:=za 0x14a520ad68038520ad528a00c602806 [a,b] []
theorem zxi:2<=b->a=b->0<a:=za 0x4a280080460a806 [a,b] []
theorem zxj:a<b+1->a<b+1:=za 0x2434482804868905006 [a,b] []
theorem zrW:a<b+1->a<=b:=za 0x4004868905006 [a,b] []
theorem ztL:a<b->b<=1000->(a:Int)<1000000:=za 0xf424092419a0400fa2410182905006 [a,b] []
theorem ztM:a<b->¬a+1=b->a+1<b:=za 0x14a414a00e1482823182905006 [a,b] []
theorem ztN:a<b->0<=(a:Int)/\(a:Int)<(b:Int):=za 0x3948334083280902905006 [a,b] []
theorem zxk:a<b->a+1+(b-(a+1))<=b:=za 0x148281aa414a002905006 [a,b] []
theorem zxl:a<b->min (a+1) b=a+1:=za 0x24140a414c082905006 [a,b] []
theorem ztO:a<b->min a b=a:=za 0x20c082905006 [a,b] []
theorem zxm:a<b->a+0<b:=za 0x14a014a002905006 [a,b] []
theorem zxn:a<b->a+1<b+1:=za 0x24344a414a002905006 [a,b] []
theorem zoz:a<b->a+1<=b:=za 0x520a002905006 [a,b] []
theorem ztP:a<b->a<b+1:=za 0x90d120a002905006 [a,b] []
theorem zrX:a<b->a<b:=za 0x520a002905006 [a,b] []
theorem zpZ:a<b->a<=b-1:=za 0x24350002905006 [a,b] []
theorem zgS:a<b->a<=b:=za 0x10002905006 [a,b] []
theorem zxo:a=b+1->b=a->False:=za 0x1c0111921a0046 [a,b] []
theorem ztQ:a=b->b<a->False:=za 0x1c090d00608046 [a,b] []
theorem zp0:a=b->b<=3->a<=3:=za 0x2c005840608046 [a,b] []
theorem zxp:a=b->a<=0+b:=za 0x14500008046 [a,b] []
theorem zxq:a=b->a<=b+1:=za 0x90d00008046 [a,b] []
theorem zrY:a=b->a<=b:=za 0x40008046 [a,b] []
theorem zxr:a<=20+8*b->a+1+1<=20+8*(b+1):=za 0x243400008b0000a4a894829400400022c000292a0006 [a,b] []
theorem zxs:a<=20+8*b->a+3<=20+8*(b+1):=za 0x90d000022c000292a2c1400400022c000292a0006 [a,b] []
theorem ztR:a<=301+b->a+1<=301+(b+1):=za 0x24340012d95120a0020025b2a0006 [a,b] []
theorem zxt:a<=301+b->a<=301+(b+1):=za 0x90d0004b65400020025b2a0006 [a,b] []
theorem zxu:a<=max 1 (b-max 0 b)->a<=1:=za 0x900028b86a9b8006 [a,b] []
theorem zxv:a<=b+1->a-1+1<=b+1:=za 0x24344a415a0121a0006 [a,b] []
theorem zrZ:a<=1000->b<=1000->a+b<=1000000:=za 0x1e8481208280003e890406003e890006 [a,b] []
theorem zxw:a<=1000000->a-b<=1000000:=za 0x1e84812082a0f424090006 [a,b] []
theorem zr0:a<=3->b<=3->a+b<=1000000:=za 0x1e84812082805840658006 [a,b] []
theorem zxx:a<=3->b<=3->a+b<=6:=za 0xe082805840658006 [a,b] []
theorem zxy:a<=b->min (max 0 b) b<=a->a=b:=za 0x40200428be00608006 [a,b] []
theorem zr1:a<=b->a>=b->a=b:=za 0x4020040608006 [a,b] []
theorem zxz:a<=b->¬a=b->a+1<=b:=za 0x520a00e1008c608006 [a,b] []
theorem zxA:a<=b->0+(a-1)<=b:=za 0x520aa28008006 [a,b] []
theorem zxB:a<=b->0+a<=b:=za 0x10228008006 [a,b] []
theorem ztS:a<=b->max a b=b:=za 0x1082e208006 [a,b] []
theorem zr2:a<=b->a+(b-a)=b:=za 0x401a828208006 [a,b] []
theorem zxC:a<=b->a-1<=b-1:=za 0x2435482a008006 [a,b] []
theorem zj8:a<=b->a<=b:=za 0x40008006 [a,b] []
theorem zxD:b<100->a<=b+1->a<=100:=za 0x3248004868001800192490d006 [a,b] []
theorem zxE:b<1000000->b=a->a<=16777216:=za 0x200000130000111bd0902490d006 [a,b] []
theorem zxF:b<600->a<=301+b->a<1000:=za 0x7d1248280080096ca8001800962490d006 [a,b] []
theorem ztT:b<a->¬b+1=a->0<a-(b+1):=za 0x243405528a00e048682318090d006 [a,b] []
theorem zp1:b<a->a+1-(b+1)<a+1-b:=za 0x1482954a43448295a00090d006 [a,b] []
theorem zxG:b<a->0<(a:Int)-(b:Int):=za 0x720cd528a04090d006 [a,b] []
theorem ztU:b<a->0<a:=za 0x128a00090d006 [a,b] []
theorem zxH:b=a+1->a<b:=za 0x520a0120a0446 [a,b] []
theorem zxI:b=a+1->a≠b:=za 0x1c2011920a0446 [a,b] []
theorem zxJ:b=a+1->a<=b+1:=za 0x243400120a0446 [a,b] []
theorem zoA:b=a+1->a<=b:=za 0x100120a0446 [a,b] []
theorem ztV:b=a+1->¬a=b:=za 0x1c2011920a0446 [a,b] []
theorem ztW:b=a+3->a<=b:=za 0x100160a0446 [a,b] []
theorem zxK:b=1->a<b->a=0:=za 0x8008290500648446 [a,b] []
theorem zxL:b=a->a=b:=za 0x40200446 [a,b] []
theorem zp2:b=a->a<=b:=za 0x40000446 [a,b] []
theorem ztX:b<=100000->a<=b->1+a<=1000000:=za 0x1e848120268008006186a090406 [a,b] []
theorem zr3:b<=100000->a<=b->a<=1000000:=za 0x7a120480008006186a090406 [a,b] []
theorem zxM:b<=1000000->a<=b->a<=1000000:=za 0x7a120480008006f424090406 [a,b] []
theorem zr4:b<=1000000->b=a->(a:Int)<9223372036854775808:=lin (.i (.p v1 (.n 1000000)) (.i (.q v1 v0) (.z (.a (.c v0) n1) (.n 9223372036854775808)))) [a,b] []
theorem zxN:b<=1000000->b=a->a<=16777216+1:=za 0x90000000010000009d00000446f424090406 [a,b] []
theorem ztY:b<=1000000->b=a->a<=1000000:=za 0x7a120480000446f424090406 [a,b] []
theorem zj9:b<=1000000->b=a->a<=16777216:=za 0x8000004c0000446f424090406 [a,b] []
theorem zxO:b<=256->a=b->a<=256:=za 0x804800080460010090406 [a,b] []
theorem zxP:b<=256->a<=b+1->a<=300:=za 0x259200121a00060010090406 [a,b] []
theorem zxQ:b<=a->a=b+(a-b):=za 0x4150d00200406 [a,b] []
theorem zxR:¬(b:Int)<(a:Int)->a<=b:=za 0x1000e0ca439a04c6 [a,b] []
theorem zxS:¬a<b->¬b<a->a=b:=za 0x40238121a00c638520a00c6 [a,b] []
theorem zxT:¬a<b->¬a+1<b+1:=za 0x1d21a2520a500638520a00c6 [a,b] []
theorem zxU:¬a>=b+1->a<=b:=za 0x40038121a00c6 [a,b] []
theorem zxV:¬a>=b->a+(b-a)<=b:=za 0x1006a0a00e0080c6 [a,b] []
theorem ztZ:¬b<a->a<=b:=za 0x40038121a00c6 [a,b] []
theorem zxW:¬b=0->a=b->a-1<b:=za 0x14a415a0020118e8088c6 [a,b] []
theorem zp3:¬b=0->a=b->1<=a:=za 0x48020118e8088c6 [a,b] []
theorem zxX:¬b>=a->1<=a-b:=za 0x415480e1000c6 [a,b] []
theorem zxY:(a:Int)-((b+1:Nat):Int)=(a:Int)-(b:Int)-1:=za 0x2439066b548699066a3 [a,b] []
theorem zxZ:a+(b+1)-1=a+b:=za 0x4144a434052a2 [a,b] []
theorem zx0:a+1+b=a+b+1:=za 0x2420a502905282 [a,b] []
theorem zr5:a+1+b=a+(b+1):=za 0x24340502905282 [a,b] []
theorem zx1:a-0+(b-1)<=a+b-0:=za 0x808295486a805680 [a,b] []
theorem zx2:a-1+b<=a+b-0:=za 0x2020a542905680 [a,b] []
theorem zx3:min (max (max a 1) b) b=b:=za 0x108520bdf02 [a,b] []
theorem zx4:a+(b+1)=a+b+1:=za 0x2420a5121a0282 [a,b] []
theorem zt0:a<a+(b+1):=za 0x90d01448280 [a,b] []
theorem zka:a<=a+b:=za 0x105000 [a,b] []
theorem zx5:(b:Int)=u->v<u->v=(a:Int)->a<b:=za 0x1482800646330923a04c20e466 [a,b] [u,v]
theorem zx6:1=c\/a<b->¬1=c->a<=b:=za 0x400389223182905002488a6 [a,b,c] []
theorem zx7:max 0 b+1<=a->a>=b-c:=za 0x106a002428bd006 [a,b,c] []
theorem zx8:a+2*(b+1)+10<c->a+1+2*b+10<c:=za 0x248000548200005648294a50024800054921a000015814a5006 [a,b,c] []
theorem zx9:a+2*c+10<b->a<b:=za 0xa41400520001521000015814a5006 [a,b,c] []
theorem zya:a+c+1<=b->a<b:=za 0x1482800a440a5006 [a,b,c] []
theorem zyb:a<b-c\/b+1<=a->¬a=b-c:=za 0x7106a0118090d0020d520a00a6 [a,b,c] []
theorem zyc:a<=b/\b<c->a<=b:=za 0x1000490d00100086 [a,b,c] []
theorem zyd:a<=c/\c<b->a+b-1-c<b:=za 0x148921052b5a00291500200086 [a,b,c] []
theorem zye:a<=c/\c<b->a<=a+b-1-c:=za 0x921052b5000291500200086 [a,b,c] []
theorem zt1:b+(c+1)-(0+1)<=a->a<b+(c+1)->a=b+(c+1)-1:=za 0x2522a069500922a0689050060251448a81a5406 [a,b,c] []
theorem zyf:b+c-(0+1)<=a->a<b+c->a=b+c-1:=za 0x91069500841a24140180945041a5406 [a,b,c] []
theorem zyg:b-1-c>0->a<c+(b-1-c)->a<b-1:=za 0x90d520a00490d6a2a2414018490d6a945006 [a,b,c] []
theorem zyh:b<a\/c<=b->¬(a<=b/\b<c):=za 0x712434004002182200121a00a6 [a,b,c] []
theorem zyi:c<a-b\/a+1<=c->¬(a-b<c/\c<=a):=za 0x1c020092105680218490500105522a00a6 [a,b,c] []
theorem zyj:c<=a/\a<b->a<b:=za 0x520a00290500010086 [a,b,c] []
theorem zt2:a+(b+1)<=c->a+b+1<=c:=za 0x921052801243405006 [a,b,c] []
theorem zmo:a+(b+1)<=c->a+b<c:=za 0x921052801243405006 [a,b,c] []
theorem zt3:a+(b+1)<=c->a+b<=c:=za 0x2082801243405006 [a,b,c] []
theorem zyk:a+(c+1)=b->a<b:=za 0x1482800a45405046 [a,b,c] []
theorem zyl:a+(c+1)<=8->b<c+1->a+1+b<=8:=za 0x40290528048a890d0068245405006 [a,b,c] []
theorem zt4:a+(c+1)<=b->a<b:=za 0x1482800a45405006 [a,b,c] []
theorem zym:a+(c+10)<b->a<b:=za 0x520a00290000a90a80a5006 [a,b,c] []
theorem zyn:a+2000<c->b+1<=100->a+2*b+10<c:=za 0x1240002a4100002b0294a0000192490d00612401f4240a5006 [a,b,c] []
theorem zyo:a+3000<c->b<=100->a+2*b+10<c:=za 0x490000a9040000ac0a5280000649040612402ee240a5006 [a,b,c] []
theorem zyp:a+b<=c->a-1+b<=c:=za 0x20a415a004105006 [a,b,c] []
theorem zyq:a+b<=c->a+(b-1)<=c:=za 0x2486a0a004105006 [a,b,c] []
theorem zyr:a+b<=c->a+b<=c:=za 0x820a004105006 [a,b,c] []
theorem zys:a+c<=b->1<=c->a<b:=za 0x520a00490182205006 [a,b,c] []
theorem zyt:a+c<=b->a+(b-a)=b:=za 0x1006a0a082205006 [a,b,c] []
theorem zyu:a+c<=b->a<=b:=za 0x10002205006 [a,b,c] []
theorem zt5:a-b=c+1->a-(b+1)=c:=za 0x921a02a248a8105446 [a,b,c] []
theorem zt6:b-a=c+1->a<b:=za 0x14828048a800d446 [a,b,c] []
theorem zyv:b-c>0->a<c+(b-c)->a<b:=za 0x520a0041a8a8905006106a945006 [a,b,c] []
theorem zyw:c+(b+1)<100->a<=c+1->a+b<100:=za 0x3249210528048a80018001924948682a5006 [a,b,c] []
theorem zyx:c+1<a->1<=a+b:=za 0x10512002522a5006 [a,b,c] []
theorem zyy:c+1=b->c<=a->a<b->a=b-1:=za 0x90d4020a414018020182915046 [a,b,c] []
theorem zp4:c+1<=b+1->a<c+1->a<=b:=za 0x40048a89050064868915006 [a,b,c] []
theorem zt7:c+1<=b->a<=a+b-(c+1):=za 0x2454082950002915006 [a,b,c] []
theorem zyz:c+a<=b->a<=b-c:=za 0x8350002015006 [a,b,c] []
theorem zr6:1<=b+c->a+(b+c)-1<a+(b+c):=za 0x20d0144a441a0295a0041a2406 [a,b,c] []
theorem zyA:1<=b->a<=c->a+(a+b)-1-c<a+b:=za 0x4144892105014ad680100060a406 [a,b,c] []
theorem zyB:1<=c->c<=a->1<=a+b:=za 0x1051200080612406 [a,b,c] []
theorem zt8:a<b+1+c->a<b+(c+1):=za 0x24540d120a00490d28905006 [a,b,c] []
theorem zyC:a<b+1-min c (b+1)->a<=b-c:=za 0x83500121a0b090d2a905006 [a,b,c] []
theorem zyD:a<b+c+1->a<=b+c:=za 0x834001220d28905006 [a,b,c] []
theorem zt9:a<b+(c+1)->¬a<b+c->a=b+c:=za 0x20d002388344828031922a068905006 [a,b,c] []
theorem zyE:a<b+(c+1)->¬a=b+c->a<b+c:=za 0x20d120a00e20d00231922a068905006 [a,b,c] []
theorem zua:a<b+c->a<b+c:=za 0x834482801068905006 [a,b,c] []
theorem zyF:a<b+c->a<=b+c-1:=za 0x2441a54001068905006 [a,b,c] []
theorem zyG:a<c->a+min b (c-a)<=c:=za 0x802a8700a004905006 [a,b,c] []
theorem zyH:a<c->a-b<c:=za 0x248415a004905006 [a,b,c] []
theorem zyI:a<c->a-b<=c:=za 0x820a804905006 [a,b,c] []
theorem zyJ:a<c->a<b+(c-b):=za 0x4550d120a004905006 [a,b,c] []
theorem zub:a=b+1->c<b->c=a->False:=za 0x7008460a45401921a0046 [a,b,c] []
theorem zuc:a=b+3->c<b->c=a->False:=za 0x7008460a45401961a0046 [a,b,c] []
theorem zyK:a=b+c->b<=1000->c<=1000->a<=100000:=za 0x30d41200000fa24201800fa24101841a0046 [a,b,c] []
theorem zyL:a=c->b=c+1->a<=b:=za 0x100122a044610046 [a,b,c] []
theorem zoB:a=c->c<b->a<=b:=za 0x1000291500610046 [a,b,c] []
theorem zyM:a=c->c<=b->a+(b-a)=b:=za 0x401a82820880610046 [a,b,c] []
theorem zp5:a=c->c<=b->a<=b:=za 0x4000880610046 [a,b,c] []
theorem zud:a=c->¬b<c->a<=b:=za 0x40038921a00c610046 [a,b,c] []
theorem zue:a<=b+c->¬a=b+c->a<=b+c-1:=za 0x910695000e20d00231841a0006 [a,b,c] []
theorem zyN:a<=b-(c+1)->a>0->¬c+1+a=b->a<b-(c+1):=za 0x915035482803840915282318094500648a81a8006 [a,b,c] []
theorem zyO:a<=b-c->a>0->¬c+a=b->a<b-c:=za 0x8354828038402a08c60251401841a8006 [a,b,c] []
theorem zuf:a<=b->b-a<=c-max 0 c->a=b:=za 0x100848b8aa00d40608006 [a,b,c] []
theorem zyP:a<=b->min a b-c=a-c:=za 0x205441062a208006 [a,b,c] []
theorem zp6:a<=c->c<b->a<b:=za 0x520a00291500610006 [a,b,c] []
theorem zr7:a<=c->c=b->a<=b:=za 0x4000884610006 [a,b,c] []
theorem zyQ:a<=c->c<=b->a<=b:=za 0x4000880610006 [a,b,c] []
theorem zyR:a<=c->a-b<=c-0:=za 0x2055082a010006 [a,b,c] []
theorem zyS:b<100->a<=c+1->c=b->a<=200:=za 0x6448000884648a8001800192490d006 [a,b,c] []
theorem zyT:b<c->max 0 c+1<=a->a>=b+1:=za 0x121a0009122f4018490d006 [a,b,c] []
theorem zyU:b<c->a+b+1<=a+c:=za 0x81448414a00490d006 [a,b,c] []
theorem zr8:b<c->a+b<a+c:=za 0x81448414a00490d006 [a,b,c] []
theorem zyV:b<c->a+b<=a+c:=za 0x205020a00490d006 [a,b,c] []
theorem zr9:b=c+1->a<c->a≠b:=za 0x7080461241401922a0446 [a,b,c] []
theorem zyW:b=c+1->a=c+3->a≠b:=za 0x70804658a8011922a0446 [a,b,c] []
theorem zug:b=c+3->a<c->a≠b:=za 0x7080461241401962a0446 [a,b,c] []
theorem zyX:b=c->a<c->a<b:=za 0x520a00490500610446 [a,b,c] []
theorem zp7:b=c->a<c->a<=b:=za 0x1000490500610446 [a,b,c] []
theorem zsa:b=c->a<=c->a<=b:=za 0x4001000610446 [a,b,c] []
theorem zyY:b=c->¬c<a->a<=b:=za 0x40038122a00c610446 [a,b,c] []
theorem zyZ:b<=c-(a+1)->b>0->¬a+1+b=c->a+1+b<c:=za 0x248520a52803882905282318294500648282a8406 [a,b,c] []
theorem zy0:b<=c-(a+1)->b>0->a+1+b<=c:=za 0x20a414a00294500648282a8406 [a,b,c] []
theorem zuh:b<=c-a->1<=b->a+b<=c:=za 0x820a002901802a8406 [a,b,c] []
theorem zy1:b<=c-a->b>0->¬a+b+1=c->¬a+b=c->a+b+1<c:=za 0x92908294a00e208282318e248414a08c60a51401802a8406 [a,b,c] []
theorem zy2:b<=c-a->b>0->a+b<=c:=za 0x2082800a51401802a8406 [a,b,c] []
theorem zui:b<=1000->c<=1000->a=b+c->a<=1000000:=za 0x1e8481200041a0046003e890806003e890406 [a,b,c] []
theorem zy3:b<=1000000->b=c->a=c->a<=16777216:=za 0x8000004c001004610446f424090406 [a,b,c] []
theorem zy4:b<=8->a<=20+8*c->a+b<=20+8*(c+1):=za 0x915000022c000292a041400800022c000292a000680406 [a,b,c] []
theorem zuj:b<=a->a<b+c->a-b<c:=za 0x92105680106890500600406 [a,b,c] []
theorem zoC:b<=c->a+b<=a+c:=za 0x8140828010406 [a,b,c] []
theorem zy5:c<a+b->a<=a+(a+b)-1-c:=za 0x92105014ad4000828915006 [a,b,c] []
theorem zy6:c<0->a<=b:=za 0x10010915006 [a,b,c] []
theorem zuk:c<a->a<=b->a-1<b:=za 0x14a415a00200180915006 [a,b,c] []
theorem zy7:c<b->a+1-min b (a+1)<=a-c:=za 0x81548281c2414a802915006 [a,b,c] []
theorem zy8:c=a+1->b=c->a<=b:=za 0x10004111920a0846 [a,b,c] []
theorem zy9:c=b+1->a=c->¬a<b:=za 0x70a4140184011921a0846 [a,b,c] []
theorem zza:c=b+3->a=c->¬a<b:=za 0x70a4140184011961a0846 [a,b,c] []
theorem zzb:c=b->c=a->a=b:=za 0x4020084608846 [a,b,c] []
theorem zzc:c<=4096->b<=c->a+b<=a+4096:=za 0x800481408280104060100090806 [a,b,c] []
theorem zul:c<=a->a<=b->b<c+1->a=b:=za 0x40248a890d0060800600806 [a,b,c] []
theorem zzd:c<=a->(a<b->c<b):=za 0x522a00290500600806 [a,b,c] []
theorem zze:c<=b->a<0+(c-1)->a<b:=za 0x520a0122aa2890500608806 [a,b,c] []
theorem zzf:c<=b->a<0+c->a<b:=za 0x148280122890500608806 [a,b,c] []
theorem zzg:c<=b->a<c+(b-c)->a<b:=za 0x520a0041a8a890500608806 [a,b,c] []
theorem zum:c<=b->c=a->a<=b:=za 0x4000084608806 [a,b,c] []
theorem zzh:c<=b->a+b-(a+b-(a+c))=a+c:=za 0x81410281052a1052a208806 [a,b,c] []
theorem zzi:c<=b->(¬a<b->¬a<c):=za 0x1c490500638520a00c608806 [a,b,c] []
theorem zzj:¬b>=c-a->a+b<c:=za 0x9210528038402a80c6 [a,b,c] []
theorem zsb:¬c<a+b->a+b<=c:=za 0x820a00e105122a00c6 [a,b,c] []
theorem zzk:¬c<b->c<=a->a<=b->a=b:=za 0x402080060080638522a00c6 [a,b,c] []
theorem zzl:¬c=a+b->¬a+b=c:=za 0x1c410504638414108c6 [a,b,c] []
theorem zzm:¬c=0->a+b+(c-1)=a+(b+c)-1:=za 0x910680a5522a8414a08e8108c6 [a,b,c] []
theorem zzn:a+b<=a+b/\a+b<a+b+(c+1):=za 0x915020a5121052800828105004 [a,b,c] []
theorem zun:a+(b+c)-(a+b)=c:=za 0x820a0834052a2 [a,b,c] []
theorem zzo:a+(b+c)-1=a+b+c-1:=za 0x24410529548834052a2 [a,b,c] []
theorem zzp:a+b-(a+c)<=a+b:=za 0x41410281052a0 [a,b,c] []
theorem zzq:min (a-b) (c-b)<=c:=za 0x208aa105700 [a,b,c] []
theorem zuo:a+(b+c)=a+b+c:=za 0x820a5041a0282 [a,b,c] []
theorem zup:a<=a+b+c:=za 0x820a5000 [a,b,c] []
theorem zzr:a<=a+b-(a+b-(a+c)):=za 0x205020a5420a5400 [a,b,c] []
theorem zzs:¬(a+(b+1)<=a+b/\a+b<a+(b+1)+c):=za 0x71243405289082940041448680a0086 [a,b,c] []
theorem zzt:a+(b+1)<=c/\c<a+(b+1)+d->a+b<=c/\c<a+b+(d+1):=za 0x91d020a5122a0041050041a434052891500248680a0086 [a,b,c,d] []
theorem zzu:a+c<b/\b<=a+d->a<=b-1:=za 0x243500060a040148814a0086 [a,b,c,d] []
theorem zzv:b+(c+1)<=a/\a<b+(c+1)+d->a-(b+c)=a-(b+(c+1))+1:=za 0x2522a0680ad041a02a21a4540d2890500048a81a0086 [a,b,c,d] []
theorem zzw:b+d<a/\a<=b+c->a-1<b+c:=za 0x8344a415a0041a000048c34a0086 [a,b,c,d] []
theorem zuq:a+2*max b d+10<c->a+2*b+10<c:=za 0x920001520800015814a50024800054861b800015814a5006 [a,b,c,d] []
theorem zur:a+2*max d b+10<c->a+2*b+10<c:=za 0x920001520800015814a50024800054823b800015814a5006 [a,b,c,d] []
theorem zzx:a+(b+1)-(c+1+1)<=d->a+b-(c+1)<=d:=za 0xd22a0414a806948a9448680a5406 [a,b,c,d] []
theorem zzy:a+b+(c+1)<=d->a+(b+1)+c<=d:=za 0xc490d014a006915020a5006 [a,b,c,d] []
theorem zzz:a+b+(d+1)<=c->a+b<c:=za 0x248414a00491d020a5006 [a,b,c,d] []
theorem zzA:a-b+(c-d)<=a+c-max 0 (a+c)->b+1<a->False:=za 0x1c094869401840a22e2052a315420ad006 [a,b,c,d] []
theorem zzB:c=d\/a<b->¬c=d->a<=b:=za 0x40038c423182905003108a6 [a,b,c,d] []
theorem zzC:min a b<=c->1<=d->min (a+1) b<=c+d:=za 0xc540a414c00690184106006 [a,b,c,d] []
theorem zzD:min c d=1->a=c->b=d->min (a:Int) (b:Int)=1:=za 0x90e419c0c61118401192316046 [a,b,c,d] []
theorem zzE:a+min b (d-a)<=c->b<d-a->a+b<=c:=za 0x820a0003aa434018401d43805006 [a,b,c,d] []
theorem zzF:a+(b+1)<=c+d->a+1+b<=c+d:=za 0xc540a414a0062a243405006 [a,b,c,d] []
theorem zzG:a+(b+1)<=c+d->a+b<=c+d:=za 0x315020a0062a243405006 [a,b,c,d] []
theorem zzH:a+3000<d->b<=100->a+1+min b c<d:=za 0xd220e120a528000064904061a402ee240a5006 [a,b,c,d] []
theorem zus:a+3000<d->b<=100->a+min b c<d:=za 0x3488380528000064904061a402ee240a5006 [a,b,c,d] []
theorem zzI:a+b<=c+d-max 0 (c+d)->2<=b->False:=za 0x1c2a01862a22e3152a105006 [a,b,c,d] []
theorem zzJ:a+b<=c-(d+1)->a+b<=c-1:=za 0x915420a0123a0aa105006 [a,b,c,d] []
theorem zzK:a+d<=c->d-1-b>0->a+b<=c:=za 0x2082800a475aa5140184305006 [a,b,c,d] []
theorem zsc:a+d<=c->b<d->a+b-1<c:=za 0x24a420a56801a4340184305006 [a,b,c,d] []
theorem zoD:a+d<=c->b<d->a+b<c:=za 0x921052801a4340184305006 [a,b,c,d] []
theorem zzL:a+d<=c->b<d->a+b<=c:=za 0x2082801a4340184305006 [a,b,c,d] []
theorem zzM:a+d<=c->b<=d->¬b=d->a+b-1<c:=za 0x24a420a568038c22318610184305006 [a,b,c,d] []
theorem zsd:a+d<=c->b<=d->a+b<=c:=za 0x820a00610184305006 [a,b,c,d] []
theorem zzN:b+d<=a->a<b+c->a-b<c:=za 0x248415a0041a2414018030d006 [a,b,c,d] []
theorem zzO:c+d<=b-(a+1)->2<=d->a+1<=b:=za 0x520a006a01920a06a315006 [a,b,c,d] []
theorem zut:c+d<=1000000->c=a->d=b->a+b<=16777216:=za 0x8000004c20a00231180211bd09024315006 [a,b,c,d] []
theorem zzP:d+(b+10)<c->a<=d+9->a+b<c:=za 0x9210528088e80018490000a90683a5006 [a,b,c,d] []
theorem zzQ:d+a<b->b<=c->a<min b c-d:=za 0x31071548280104060a403a5006 [a,b,c,d] []
theorem zzR:d+b<=c->a<=d->a+b<=c:=za 0x820a0060018411d006 [a,b,c,d] []
theorem zzS:1<=c+d->d=0->a<b+(c+d)->a-b<c:=za 0x9210568018a81a24140190311862a2406 [a,b,c,d] []
theorem zzT:1<=a->a+b<=c-d->a-1+b<=c-(d+1):=za 0x2474154290568018aa10500602406 [a,b,c,d] []
theorem zuu:1<=c->d<=a-b->1<=d->1<=min (a-b) c:=za 0x2082b84806901820a8c0612406 [a,b,c,d] []
theorem zzU:1<=d->a+d+b<=c->a+(b+1)<=c:=za 0x921a028010460a50061a406 [a,b,c,d] []
theorem zzV:1<=d->min a b<=c->min (a+1) b<=c+min (b-c) d:=za 0xc41ae0540a414c0041060061a406 [a,b,c,d] []
theorem zzW:2<=b->a+b<=c-d->a+(b-1)<=c-(d+1):=za 0x247415521a828018aa1050060a806 [a,b,c,d] []
theorem zzX:a<b+min (max c 1) d->¬c=0->a<b+c:=za 0x20d120a00e8108c61a457c068905006 [a,b,c,d] []
theorem zzY:a<b+(c+d)->a<=b+(c+d)-1:=za 0x2462a069500062a068905006 [a,b,c,d] []
theorem zzZ:a<b+c->a<b+(c+d):=za 0x315034482801068905006 [a,b,c,d] []
theorem zz0:a<b+c->a<=b+(c+d)-1:=za 0x918a81a54001068905006 [a,b,c,d] []
theorem zz1:a<b+c->a<=b+c+d:=za 0xc41a50001068905006 [a,b,c,d] []
theorem zz2:a=b+(c+d)->a=b+c+d:=za 0xc41a500218a81a0046 [a,b,c,d] []
theorem zz3:a=c+(d+1)->b=c+(d+1+1)->a+1=b:=za 0x520a09291d282a044648e82a0046 [a,b,c,d] []
theorem zz4:a=c+d->¬b<c+d->a<=b:=za 0x40038c544868031862a0046 [a,b,c,d] []
theorem zz5:a=c->b=d->min c d=1->min a b=1:=za 0x2420c0923160461844610046 [a,b,c,d] []
theorem zz6:a<=0+b->b=c+d->c<=80/\d<=80->a<=10000:=za 0x138848000005090c0000a121008618a8111828a0006 [a,b,c,d] []
theorem zz7:a<=b-c->a<d->a<=min (b-c) d:=za 0xc41ae0001a41401841a8006 [a,b,c,d] []
theorem zz8:a<=b->b<=d->d<a+c->a<=b/\b<a+c:=za 0x8144868008004102891d0061840608006 [a,b,c,d] []
theorem zz9:a<=d->b<=c->a+b<=c+d:=za 0xc54082801040618006 [a,b,c,d] []
theorem zuv:a<=d->d<b+c->a<b+c:=za 0x83448280106891d00618006 [a,b,c,d] []
theorem zAa:a<=d->d<=b->b<a+c->a<=b/\b<a+c:=za 0x8144868008004102890d00608c0618006 [a,b,c,d] []
theorem zAb:a<=d->¬a<b+c->¬a=d->a-(b+c)<d-(b+c):=za 0x20d075488340568038c02318e20d120a00c618006 [a,b,c,d] []
theorem zAc:a<=d->¬a=b+c->d=b+c->a<b+c:=za 0x20d120a0041a0c4638834008c618006 [a,b,c,d] []
theorem zAd:b<c->a+b<d->a+b+1<=a+min c (d-a):=za 0x751601448414a006908294018490d006 [a,b,c,d] []
theorem zAe:b=c+d->a<c+d->a<b:=za 0x520a0062a241401862a0446 [a,b,c,d] []
theorem zAf:b<=1000000->b=c->d<c->a=d->a+1<=16777216+1:=za 0x90000000010000009d120a0060118491d00610446f424090406 [a,b,c,d] []
theorem zAg:b<=1000000->b=c->d<c->a=d->a<=16777216:=za 0x2000001300060118491d00610446f424090406 [a,b,c,d] []
theorem zAh:b<=c->a<=d->a+b<=c+d:=za 0xc54082801800610406 [a,b,c,d] []
theorem zse:c<d->a+b+c<a+(b+d):=za 0xc340512208294a006915006 [a,b,c,d] []
theorem zAi:c<d->a+b+c<=a+(b+d)-1:=za 0x2461a029510414a006915006 [a,b,c,d] []
theorem zuw:c=a->c<=d->d<=b->a<=b:=za 0x40008c061880600846 [a,b,c,d] []
theorem zp8:c=a->d=b->c<=d->a<=b:=za 0x4001880608c4600846 [a,b,c,d] []
theorem zux:c=b->d=a->d<=c->a<=b:=za 0x40010c0600c4608846 [a,b,c,d] []
theorem zuy:c=b->d<=c->a<=d->a<=b:=za 0x4001800610c0608846 [a,b,c,d] []
theorem zAj:c=d->a<=d->c<=b->a<=b:=za 0x400088061800618846 [a,b,c,d] []
theorem zAk:c=d->b<d->min b c=a->a=b:=za 0x40200838118690d00618846 [a,b,c,d] []
theorem zAl:c=d->b=d+1->a<c->¬a=b:=za 0x7080461241401923a044618846 [a,b,c,d] []
theorem zAm:c<=1000->b<=d->a<=c->d<=8->a+b<=1000000:=za 0x1e848120828080c061000618406003e890806 [a,b,c,d] []
theorem zAn:c<=3->d<=3->a=c->b=d->max (a:Int) (b:Int)<=3:=za 0x2c39066e1184461004658c0658806 [a,b,c,d] []
theorem zAo:c<=b->a=d->d<c->a<=b:=za 0x1000491d0061804608806 [a,b,c,d] []
theorem zAp:c<=d->d<c->a<b:=za 0x520a00491d00618806 [a,b,c,d] []
theorem zAq:c<=d->a+b+c<=a+b+d:=za 0xc20a50410528018806 [a,b,c,d] []
theorem zAr:d<=max 1 (b-c)->a+1=d->a<=max 1 (b-(c+1)):=za 0x24540d5370006905046106a9b8c06 [a,b,c,d] []
theorem zAs:d<=b+1->a<=d+c->a<=b+(c+1):=za 0x24540d00010e8001921a0c06 [a,b,c,d] []
theorem zsf:d<=b-a->1<=d->a+min (b-a) c<=b:=za 0x4400d700a006901801a8c06 [a,b,c,d] []
theorem zAt:d<=c->a<b+(c+1)->¬a=b+d->¬(b+d<a/\a<=b+c)->a<b+c:=za 0x20d120a00e20d00002461a5004318e30d00231922a06890500610c06 [a,b,c,d] []
theorem zAu:d<=c->d=a+b->¬c=a+b->a+b<=c-1:=za 0x915420a00e10504231820a0c4610c06 [a,b,c,d] []
theorem zAv:d<=c->a+(a+b)-1-c<=a+(a+b)-1-d:=za 0xd2105014ad44908280a56a010c06 [a,b,c,d] []
theorem zAw:¬c=a+b->¬(a+(b+1)<=c/\c<a+(b+1)+d)->¬(a+b<=c/\c<a+b+(d+1)):=za 0x748e81052891500208280218e348680a5122a00490d014010c638414108c6 [a,b,c,d] []
theorem zAx:¬d<a+(b+c)->a+(b+c)+(d-(a+(b+c)))=d:=za 0xc41a0283a8834052823883405123a00c6 [a,b,c,d] []
theorem zsg:¬d<a+(b+c)->a+(b+c)<=d:=za 0xc41a02803883405123a00c6 [a,b,c,d] []
theorem zuz:a+(b+c)+d-(a+(b+c))=d:=za 0xc41a028310680a52a2 [a,b,c,d] []
theorem zAy:a+b+(c+d)=a+(b+c)+d:=za 0xc41a029418a8105282 [a,b,c,d] []
theorem zuA:a+(b+c)<=a+(b+c)+d:=za 0x310680a5041a0280 [a,b,c,d] []
theorem zAz:a+b+c+e<=d->a+b+c<=d:=za 0x310414a006410414a5006 [a,b,c,d,e] []
theorem zuB:a+2*max b e+10<d->a+min b c<d:=za 0x6910700a50034800054881b800015814a5006 [a,b,c,d,e] []
theorem zAA:a+(b+d)+e<=c->¬(a+b<=c/\c<a+(b+d)+e):=za 0x720c340528915002082802184418680a5006 [a,b,c,d,e] []
theorem zAB:a+b+d<=e->c=e->a+b<=c:=za 0x2082802084620c20a5006 [a,b,c,d,e] []
theorem zAC:a-b+(c-d)<=a+c-e-1->a-b+(c-d)<=a+c-(e+1):=fun h=>fN h (pC (Nat.sub_sub _ _ _))
theorem zAD:a-b+(c-d)<=e-max 0 (a+c)->a-b+(c-d)<=e-1:=have g {a b e:Nat}:a<=b->a<=e-max 0 b->a<=e-1:=lin (.i (.p v0 v1) (.i (.p v0 (.s v2 (.x n0 v1))) (.p v0 (.s v2 n1)))) [a,b,e] [];g (fDF (fDJ _ _) (fDJ _ _))
theorem zAE:a-b+(c-d)<=e->a-(b+1)+(c-d)<=e:=za 0x418aa90d015a008315420ad006 [a,b,c,d,e] []
theorem zAF:a-b+(c-d)<=e->a-b+(c-(d+1))<=e:=za 0x448e82a8415a008315420ad006 [a,b,c,d,e] []
theorem zAG:a-b+(c-d)<=e->a-b+(c-d)<=e:=za 0x1062a8415a008315420ad006 [a,b,c,d,e] []
theorem zAH:a<=b\/c<=d->a<=b\/c<=d+e:=za 0x41d0400800518801000a6 [a,b,c,d,e] []
theorem zAI:a+(c+e)<=d+4096->b<=e->a+b+c<=d+4096:=za 0x800487410414a00810180400243a105405006 [a,b,c,d,e] []
theorem zAJ:a+b<=c+d-e-1->a+b<=c+d-(e+1):=za 0x249418a950828049062a56a105006 [a,b,c,d,e] []
theorem zAK:a+e<=d->b<e->a+(b-c)<d:=za 0x34883505280224340186405006 [a,b,c,d,e] []
theorem zAL:a+e<=d->¬c>=e-b->a+(b+c)<d:=za 0xd220d014a00e2092a03186405006 [a,b,c,d,e] []
theorem zAM:1<=d+e->a+b<=c-max 0 (d+e)->a+b<=c-1:=za 0x915420a0083a22e2a841401883a2406 [a,b,c,d,e] []
theorem zAN:1<=d->a+b+d<=e->c=e->a+b<c:=za 0x921052802084620c20a50061a406 [a,b,c,d,e] []
theorem zuC:1<=e->a<b+(c+d)+e->a-(b+(c+d))<e:=za 0x1123150340568020c540d2890500622406 [a,b,c,d,e] []
theorem zAO:a<b+(c+1)->b+d<e/\e<=b+c->a-1<b+c:=za 0x20d1290568010684011230d28021922a068905006 [a,b,c,d,e] []
theorem zAP:a=0->a<=b-(c+(d+e)):=za 0x41d0540d40040046 [a,b,c,d,e] []
theorem zAQ:a<=b->c+d<a/\a<=c+e->b=c+d->False:=za 0x718a8111882a000048c54a008608006 [a,b,c,d,e] []
theorem zAR:a<=b->b<c+(d+1)->c+e<a/\a<=c+d->¬(c+e<b/\b<=c+d)->False:=za 0x738c540802920a94010c618a80001241528021923a0a890d00608006 [a,b,c,d,e] []
theorem zAS:a<=b->b<c+(d+1)->a=c+e->¬b=c+e->¬(c+e<b/\b<=c+d)->False:=za 0x738c540802920a94010c639054088c620a8011923a0a890d00608006 [a,b,c,d,e] []
theorem zAT:a<=b->¬(c+d<a/\a<=c+e)->c+d<b/\b<=c+e->a<=b-1:=za 0x243500082a040148c54a0086390540000918a94010c608006 [a,b,c,d,e] []
theorem zuD:c<a+b->¬(a+b<=c/\c<a+(b+d)+e):=za 0x1c830d014a245400820a00860828915006 [a,b,c,d,e] []
theorem zAU:c=d->a<=d->b=e->c<=e->a<=b:=za 0x40020806204461800618846 [a,b,c,d,e] []
theorem zAV:c<=a->a<=b->b<c+min (max d 1) e->d=0->a=b:=za 0x40240c4622477c0a890d0060800600806 [a,b,c,d,e] []
theorem zAW:d<e->a+(b+c)+d<a+(b+c)+e:=za 0x1041a029448c41a0294a00891d006 [a,b,c,d,e] []
theorem zAX:d<=a->a<b+(c+1)->d=b+e->¬a=b+e->a-1<b+c:=za 0x20d1290568039034008c62068311922a06890500600c06 [a,b,c,d,e] []
theorem zAY:d<=b->c<=e->a<d\/e<=a->a<b\/c<=a:=za 0x400a4140140400d20a00a62080608c06 [a,b,c,d,e] []
theorem zAZ:d<=e->a+(b+c)+d<=a+(b+c)+e:=za 0x1041a0294188340528020c06 [a,b,c,d,e] []
theorem zA0:¬a<b+(c+d)+e->a=b+(c+d)+e+(a-(b+c+(d+e))):=za 0x41d041a501520c540d294008e418a81a5120a00c6 [a,b,c,d,e] []
theorem zA1:¬b<c+(d+e)+a->a<=b-(c+(d+e)):=za 0x107415035000e020e82a5121a00c6 [a,b,c,d,e] []
theorem zA2:¬c<a+(b+d)+e->¬(a+b<=c/\c<a+(b+d)+e):=za 0x720c34052891500208280218e418680a5122a00c6 [a,b,c,d,e] []
theorem zA3:¬c<a+b->c<a+(b+d)+e->a+b<=c/\c<a+(b+d)+e:=za 0x1061a029448a8010414010830d014a2454018e105122a00c6 [a,b,c,d,e] []
theorem zA4:¬d<a+(b+c)+e->a+(b+c)+(d-(a+(b+c)))=d:=za 0x310680a0ea20d014a08e410680a5123a00c6 [a,b,c,d,e] []
theorem zA5:¬d<a+(b+c)+e->a+(b+c)<=d:=za 0x310680a00e410680a5123a00c6 [a,b,c,d,e] []
theorem zuE:¬e<a+(b+c)+d->a+(b+c)+d<=e:=za 0x10620d014a00e310680a5124a00c6 [a,b,c,d,e] []
theorem zA6:a-b+(c-d)<=e-(f+1)->a-b+(c-d)<=e-1:=have g {a e f:Nat}:a<=e-(f+1)->a<=e-1:=lin (.i (.p v0 (.s v1 (.a v2 n1))) (.p v0 (.s v1 n1))) [a,e,f] [];g
theorem zA7:a-b+(c-d)<=f->a-b+(c-(d+1+e))<=f:=za 0x14891d282a8415a00a315420ad006 [a,b,c,d,e,f] []
theorem zA8:a-b+(d-e)<=f->a-(b+c)+(d-e)<=f:=za 0x520ea20d015a00a41d420ad006 [a,b,c,d,e,f] []
theorem zA9:c-d+(e-f)<=b-(a+1)->d+1<c->a+1<=b:=za 0x520a004948e9401920a06a525462ad006 [a,b,c,d,e,f] []
theorem zBa:d<=b\/c<=e->e<=a->a<=f->f<d->a<b\/c<=a:=za 0x400a414014692d006280060100620801180a6 [a,b,c,d,e,f] []
theorem zBb:d<=b\/c<=e->e<=f->f<=a->a<d->a<b\/c<=a:=za 0x400a4140146905006014062900620801180a6 [a,b,c,d,e,f] []
theorem zBc:e<=c\/d<=a->a+b+f<=e->a+b<=c\/d<=a:=za 0x180410500521420a500600c02200a6 [a,b,c,d,e,f] []
theorem zBd:b+1<a->a-b+(c-d)<=e-f->a-(b+1)+(c-d)<=e-(f+1):=have g {a b c e f:Nat}:b+1<a->a-b+c<=e-f->a-(b+1)+c<=e-(f+1):=lin (.i (.p (.a (.a v1 n1) n1) v0) (.i (.p (.a (.s v0 v1) v2) (.s v3 v4)) (.p (.a (.s v0 (.a v1 n1)) v2) (.s v3 (.a v4 n1))))) [a,b,c,e,f] [];g
theorem zBe:a<=f->f<b+(c+d)+e->a<b+(c+d)+e:=za 0x1062a06944828020c540d2892d00628006 [a,b,c,d,e,f] []
theorem zBf:c=d->a+(b+e)+f<=d->min (a+b) c=a+b:=za 0x41410414c086520680a500618846 [a,b,c,d,e,f] []
theorem zBg:d<c->a-b+(c-d)<=e-f->a-b+(c-(d+1))<=e-(f+1):=have g {a c d e f:Nat}:d<c->a+(c-d)<=e-f->a+(c-(d+1))<=e-(f+1):=lin (.i (.p (.a v2 n1) v1) (.i (.p (.a v0 (.s v1 v2)) (.s v3 v4)) (.p (.a v0 (.s v1 (.a v2 n1))) (.s v3 (.a v4 n1))))) [a,c,d,e,f] [];g
theorem zuF:d=e->a+(b+c)+f<=e->a+(b+c)<=d:=za 0x310680a008510680a500620c46 [a,b,c,d,e,f] []
theorem zBh:d=e->1<=b+c->a+(b+c)+f<=e->a+b+c-1<d:=za 0xd2910414a568021441a029401841a240620c46 [a,b,c,d,e,f] []
theorem zBi:e=f->a+(b+c)+d<=f->a+(b+c)+d<=e:=za 0x10620d014a00a310680a500629046 [a,b,c,d,e,f] []
theorem zBj:e<=d->a+b+c+f<=e->a+b+c<=d:=za 0x310414a008510414a500619006 [a,b,c,d,e,f] []
theorem zBk:e<=f->c<a\/a+(b+d)+f<=c->¬(a+b<=c/\c<a+(b+d)+e):=za 0x1c830d014a245400820a008611461a029400122a00a629006 [a,b,c,d,e,f] []
theorem zuG:f<=e->d<f->a+(b+c)+d<a+(b+c)+e:=za 0x1041a029448c41a0294a00a91d00621406 [a,b,c,d,e,f] []
theorem zsh:¬e=0->d=f+e->a<b+(c+f)+e->a-(b+c)<d:=za 0x34883405680214540d2890500621683118e8208c6 [a,b,c,d,e,f] []
theorem zBl:b=d+e->a=f+g->¬c<f+(g+d)+e->a+b<=c:=za 0x820a00e419a85a5122a00c63168011883a0446 [a,b,c,d,e,f,g] []
theorem zBm:e=f->a+(b+c)+g<=f->d<=g->a+b+0+(c+d)<=e:=za 0x418a8808294a00c3018a610680a500629046 [a,b,c,d,e,f,g] []
theorem zuH:e=f->a+(b+c)+g<=f->d<=g->a+(b+c)+d<=e:=za 0x10620d014a00c3018a610680a500629046 [a,b,c,d,e,f,g] []
theorem zBn:¬d=0->c=e+d->b=f+g->a<f+(g+e)+d->a-b<c:=za 0x248415a0064350b4a2414018c5a044619282118e8188c6 [a,b,c,d,e,f,g] []
theorem zuI:¬e=0->d=f+e->a<=g->g<b+(c+f)+e->a-(b+c)<d:=za 0x34883405680214540d289350063000621683118e8208c6 [a,b,c,d,e,f,g] []
end
section
open La
variable{a b c d e f g i j k m o:Nat}{u v w x y z s t r:Int}
theorem zBo:u<=v->v<=u->u=v:=za 0x4030042608026 [] [u,v]
theorem zuJ:u<=v->¬v=u->u<v:=za 0x520a04e008cc608026 [] [u,v]
theorem zBp:v<=u->¬v<u->u=v:=za 0x40338121a04c600426 [] [u,v]
theorem zBq:u<=min v w->u<=v:=za 0x100441c0026 [] [u,v,w]
theorem zBr:u<=min w v->u<=v:=za 0x100422c0026 [] [u,v,w]
theorem zBs:u<=v+w->u>v+w->False:=za 0x1c091069409841a0026 [] [u,v,w]
theorem zuK:u<=w->w<v->u<=v:=za 0x1004291502610026 [] [u,v,w]
theorem zBt:u<=w->w<=v->u<=v:=za 0x4010882610026 [] [u,v,w]
theorem zBu:w<v->u<w->u<v:=za 0x148281124140982915026 [] [u,v,w]
theorem zBv:w<v->u=w->u<v:=za 0x520a04401982915026 [] [u,v,w]
theorem zBw:w<v->v<=w->u<=v:=za 0x1004410982915026 [] [u,v,w]
theorem zBx:w<v->w=u->u<v:=za 0x520a04021982915026 [] [u,v,w]
theorem zBy:w<v->¬w<u->u<v:=za 0x520a04e048a813182915026 [] [u,v,w]
theorem zBz:w=u->w<v->u<v:=za 0x520a04291502600866 [] [u,v,w]
theorem zBA:¬u>v+w->u<=v+w:=za 0x834004e048834a04c6 [] [u,v,w]
theorem zBB:¬v<=w->u<=w->u<=v:=za 0x100440098e2084c6 [] [u,v,w]
theorem zBC:0<=w->x>u+w->x<=v->u<v:=za 0x14828108c261a440a502612026 [] [u,v,w,x]
theorem zBD:u=w->w<v/\v<=w+x->u<v:=za 0x14828118a8108522a048610066 [] [u,v,w,x]
theorem zBE:u>v+w->x<=v+w->u<=x->False:=za 0x1c6009841a0c2602441a5026 [] [u,v,w,x]
theorem zBF:u<=x+w->x<=v->u<=v+w:=za 0x8340042309843a0026 [] [u,v,w,x]
theorem zBG:u<=w->w<v/\v<=w+x->u<v:=za 0x14828118a8108522a048610026 [] [u,v,w,x]
theorem zBH:u<=x->x+v<w->u+v<w:=za 0x9210528112423a502618026 [] [u,v,w,x]
theorem zBI:v=x->x<u/\u<=x+w->u<=v+w:=za 0x20d00110e8008123a048618466 [] [u,v,w,x]
theorem zBJ:x=v->u<=x+w->u<=v+w:=za 0x83400443a002608c66 [] [u,v,w,x]
theorem zBK:x>u+v->x<=w->u+v<w:=za 0x9210528110c261a420a5026 [] [u,v,w,x]
theorem zBL:¬v<x->x<u/\u<=x+w->u<=v+w:=za 0x20d00110e8008123a048638d21a04c6 [] [u,v,w,x]
theorem zBM:a<b+1->a>=b->a=b:=za 0x402004064868905006 [a,b] []
theorem zBN:a<=b-1->0<b->a+1<=b:=za 0x1482800a51401921a8006 [a,b] []
theorem zBO:a<=b->a<b+1:=za 0x24344828008006 [a,b] []
theorem zBP:a<b->a+1<=b+c:=za 0x20d120a002905006 [a,b,c] []
theorem zBQ:b<c+1->a+b<=a+c:=za 0x8140828048a890d006 [a,b,c] []
theorem zBR:c<=b->a<c->a<b:=za 0x520a00490500608806 [a,b,c] []
theorem zuL:c<=b->a<c->a<=b:=za 0x1000490500608806 [a,b,c] []
theorem zBS:d<=c->b<d->a+b<a+c:=za 0x81448414a00690d00610c06 [a,b,c,d] []
theorem zBT:a+d<=c->e<=d->b<e->a+b<c:=za 0x9210528022434018640184305006 [a,b,c,d,e] []
theorem zuM:a-e<=c-d->e<=b->a-(b+1)<=c-(d+1):=za 0x247415521a02a00900618aa405406 [a,b,c,d,e] []
theorem zuN:e-b<=c-d->a<e->a-b<=c-(d+1):=za 0x247415420a80890500618aa125406 [a,b,c,d,e] []
theorem zBU:a+d<=c->e<d->f<=e->b<f->a+b<c:=za 0x248414a00a90d006214061a4940184305006 [a,b,c,d,e,f] []
theorem zu1:b-c<=a->c+min a (b-c)<=d->¬d<b:=za 0x1c291d0061883506054018020d406 [a,b,c,d] []
theorem zu2:b+1<=a->¬d<b+1-min a (b+1):=za 0x748680c2434aa454018090d006 [a,b,d] []
theorem zBV:1<=u/\u<=3->u=1\/u=2\/u=3:=za 0x2c0350065480655802048486 [] [u]
theorem zBW:u=5\/u=20->0<u:=za 0x4a281000149006d00ca6 [] [u]
theorem zBX:0<=u->0<=5+u:=za 0x6d10102026 [] [u]
theorem zBY:0<=u->1<=1+u:=za 0x4d12102026 [] [u]
theorem zBZ:u<3->1+u<=3:=za 0x2c09a056905026 [] [u]
theorem zB0:u<9943->u<=9942:=za 0x4dad200409b5e4905026 [] [u]
theorem zB1:u<v->u=v->False:=za 0x1c201982905026 [] [u,v]
theorem zB2:0<=u->u<(a:Int)->u.toNat<a:=za 0x48774003290d0260a026 [a] [u]
theorem zB3:c+1=a->v=(c:Int)-(d:Int)->u<=1+v->b=d->u<=(a:Int)-(b:Int):=za 0x720cd481184462a68409879166a51980915046 [a,b,c,d] [u,v]
theorem zB4:b<=a/\c<=d->0<=u/\u<(b:Int)->0<=u/\u<(a:Int):=za 0xca494091012072925024404861880008086 [a,b,c,d] [u]
theorem zB5:b<=c/\d<=a->0<=u/\u<(d:Int)->0<=u/\u<(a:Int):=za 0xca4940910120f29250244048600c0208086 [a,b,c,d] [u]
theorem zB6:c+1=a->b=d+e->u<=v->v=(f:Int)-(e:Int)->f+d=c+1->u<=(a:Int)-(b:Int):=za 0x720cd4c148a832d046264b9a9c663982620e811180915046 [a,b,c,d,e,f] [u,v]
theorem zB7:0<a->0<(a:Int):=za 0x6528a040945006 [a] []
theorem zB8:0<a->¬(a:Int)=0:=za 0x3a0191980945006 [a] []
theorem zuO:1<=a->a<=3->a=1\/a=2\/a=3:=za 0x2c0250045480455800602406 [a] []
theorem zuP:a<400->a<440:=za 0xdc4920a00006424905006 [a] []
theorem zsi:a<440->a+1<470:=za 0x3ad24a414a00006e24905006 [a] []
theorem zB9:a<440->a+1<500:=za 0x3e924a414a00006e24905006 [a] []
theorem zCa:a<440->a+1<530:=za 0x42524a414a00006e24905006 [a] []
theorem zmp:a<440->a+1<590:=za 0x49d24a414a00006e24905006 [a] []
theorem zCb:a<470->a+1<530:=za 0x42524a414a000075a4905006 [a] []
theorem zCc:a<470->a+1<550:=za 0x44d24a414a000075a4905006 [a] []
theorem zsj:a<470->a+1<560:=za 0x46124a414a000075a4905006 [a] []
theorem zCd:a<470->a+1<570:=za 0x47524a414a000075a4905006 [a] []
theorem zCe:a<470->a+1<580:=za 0x48924a414a000075a4905006 [a] []
theorem zuQ:a<470->a<480:=za 0xf04920a000075a4905006 [a] []
theorem zuR:a<470->a<600:=za 0x12c4920a000075a4905006 [a] []
theorem zCf:a<480->a+1<520:=za 0x41124a414a00007824905006 [a] []
theorem zCg:a<480->a+1<580:=za 0x48924a414a00007824905006 [a] []
theorem zCh:a<530->a+1<540:=za 0x43924a414a000084a4905006 [a] []
theorem zCi:a<530->a+1<570:=za 0x47524a414a000084a4905006 [a] []
theorem zCj:a<560->a+1+1<580:=za 0x122492948294a00008c24905006 [a] []
theorem zCk:a<560->a+1<600:=za 0x4b124a414a00008c24905006 [a] []
theorem zCl:a<=1->a+1<=100:=za 0xc924828048006 [a] []
theorem zCm:a<=1000->a+1<=1000000:=za 0x1e8481248280003e890006 [a] []
theorem zCn:0<((a+1:Nat):Int):=za 0x482994a281 [a] []
theorem zCo:0<=(a:Int)+1:=za 0x120cd101 [a] []
theorem zCp:((a:Int)+1).toNat=a+1:=za 0x905120cd362 [a] []
theorem zCq:¬((a+1:Nat):Int)=0:=za 0x3a120a6466 [a] []
theorem zCr:¬a+1=0:=za 0x1d0905046 [a] []
theorem zCs:a+(b+1)<=13->a+1+b<=13:=za 0x6c829052800000d9243405006 [a,b] []
theorem zCt:a+(b+1)<=13->a<=50:=za 0x1948000000d9243405006 [a,b] []
theorem zp9:a+1=b->a<b:=za 0x520a002905046 [a,b] []
theorem zCu:a+b<580->a<600:=za 0x4b12482800024492420a5006 [a,b] []
theorem zCv:b+a<580->a<=1000000:=za 0x7a12048000024492401a5006 [a,b] []
theorem zCw:0=a->b=0->0=(a:Int)-(b:Int):=za 0x720cd5034044602046 [a,b] []
theorem zCx:a<470->b<=8->a+1+b<580:=za 0x122492148294a02010180075a4905006 [a,b] []
theorem zCy:a<b->(a:Int)+1<=(b:Int):=za 0x1ca419a042905006 [a,b] []
theorem zuS:a=b->1<=b->1<=a:=za 0x1200a40608046 [a,b] []
theorem zCz:a=b->a=max 0 b:=za 0x145c0208046 [a,b] []
theorem zCA:a<=400000->a-(b+1)<=400000:=za 0x30d404921a02a061a8090006 [a,b] []
theorem zCB:a<=80->b<=80->a+b<=1000000:=za 0x1e848120828000050904060005090006 [a,b] []
theorem zCC:a<=b->b-a=0->a=b:=za 0x1009000d44608006 [a,b] []
theorem zsk:a<=b->a+1<=b+1:=za 0x24344828008006 [a,b] []
theorem zuT:a<=b->a<=b+1:=za 0x90d00008006 [a,b] []
theorem zCD:b<=10000->min a b<=1000000:=za 0x1e84812083000271090406 [a,b] []
theorem zuU:b<=50->a<=b->a+1<=1000000:=za 0x1e8481248280080060003290406 [a,b] []
theorem zCE:b<=50->a<=b->a<1000:=za 0x7d1248280080060003290406 [a,b] []
theorem zuV:b<=8->a<b->a+1<=1000000:=za 0x7a1204920a00290500680406 [a,b] []
theorem zCF:(a:Int)+(b:Int)=((a+b:Nat):Int):=za 0x20a643906683 [a,b] []
theorem zCG:((a:Int)-(b:Int)).toNat=a-b:=za 0x20a8720cd762 [a,b] []
theorem zCH:max a b=max a (max 0 b):=za 0x145c17082e2 [a,b] []
theorem zCI:u=(a:Int)->u<(b:Int)->a<b:=za 0x1482800e522a04c0c8866 [a,b] [u]
theorem zCJ:u<v->v<u->a<b:=za 0x148280124740986915026 [a,b] [u,v]
theorem zCK:c+1=b->(a:Int)=(c:Int)-u->(a:Int)=(b:Int)-(1+u):=za 0xd340e6a0c8c62cd4191982915046 [a,b,c] [u]
theorem zCL:c+1=a->v=(c:Int)-(d:Int)->d<=b->u=1+v->(a:Int)-(b:Int)<=u:=za 0x1039066a12a6841982301879166a51980915046 [a,b,c,d] [u,v]
theorem zCM:c+1=a->v=u->v=(d:Int)-(e:Int)->d+f=c+1->f+e<=b->(a:Int)-(b:Int)<=u:=za 0x1839066a1090b401922a1474118991e6a7198c71980915046 [a,b,c,d,e,f] [u,v]
theorem zuW:a+1<=b/\b<a+1+(c-(a+1))->a<b:=za 0x14828048282aa414a243400520a0086 [a,b,c] []
theorem zqa:c+1<=a/\a<c+1+(b-(c+1))->a<b:=za 0x14828048a81aa454a241400122a0086 [a,b,c] []
theorem zCN:(a:Int)=13->min (a-b) c<=13:=za 0xd90820ae000001b206466 [a,b,c] []
theorem zCO:b<=80/\c<=80->a<=b+c->a<=992:=za 0x7c1200041a0006000509080000a1208086 [a,b,c] []
theorem zCP:a+(b+1)<=c+584->a+1+b<=c+584:=za 0x12448540a414a000092242a243405006 [a,b,c] []
theorem zCQ:a+(b+1)<=c+584->a+b<=c+584:=za 0x491215020a000092242a243405006 [a,b,c] []
theorem zCR:a+(b+1)<=c+9->a+1+b<=c+9:=za 0x44540a414a0222a243405006 [a,b,c] []
theorem zCS:a+b=c->a+1+b=c+1:=za 0x24540a414a084105046 [a,b,c] []
theorem zCT:a+b=c->a+(b+1)=c+1:=za 0x245448680a084105046 [a,b,c] []
theorem zCU:a+c=b->(a:Int)=(b:Int)-(c:Int):=za 0x590e6a0c8c2205046 [a,b,c] []
theorem zuX:c+1=b->a<c+1->a<b:=za 0x520a0122a24140182915046 [a,b,c] []
theorem zuY:a<b->b<c->a+1<=b/\b<a+1+(c-(a+1)):=za 0x241415520a5121a002905004124340182905006 [a,b,c] []
theorem zuZ:a<c->c<b->a<b:=za 0x1482800a4540184905006 [a,b,c] []
theorem zCV:a<=b+c->b<=80/\c<=80->a<=1000:=za 0x7d120000014242000028482021841a0006 [a,b,c] []
theorem zCW:a<=c->b<a->a-(b+1)<c:=za 0x9290d015a00090d00610006 [a,b,c] []
theorem zCX:a<=c->c<=b->a<=b+1:=za 0x90d0000880610006 [a,b,c] []
theorem zCY:a<=c->a<=max b c:=za 0x20dc0010006 [a,b,c] []
theorem zCZ:b<=50->a+c<=b->a<80:=za 0x284920a0022050060003290406 [a,b,c] []
theorem zC0:b<=50->c+a<=b->a<80:=za 0x284920a0020150060003290406 [a,b,c] []
theorem zC1:b<=50->a<=c->c<=b->a<=1000000:=za 0x7a120480008806100060003290406 [a,b,c] []
theorem zC2:b<=8->a+1+(b-(c+1))<=a+9:=za 0x1105122a06a90528080406 [a,b,c] []
theorem zC3:a+(b+c)=b+(a+c):=za 0x8140d041a0282 [a,b,c] []
theorem zC4:(a:Int)=(c:Int)-u->u=(c:Int)-(b:Int)->a=b:=za 0x4020e459a8c6618b3506466 [a,b,c] [u]
theorem zC5:d+1=c->e+a=d+1->(b:Int)=(e:Int)-v->v=u->((a+b:Nat):Int)=(c:Int)-u:=za 0x1459a8414c8ca6198c4cd43919923a0094118491d046 [a,b,c,d,e] [u,v]
theorem zC6:(d:Int)<13->(a:Int)=(d:Int)->min (a-b) c<=13:=za 0xd90820ae003c8323300006c923cd026 [a,b,c,d] []
theorem zu0:c+1=b->a+d=c+1->0<d->a<b:=za 0x1482801a51401922a0c141182915046 [a,b,c,d] []
theorem zC7:c+1=b->a=d->d<=c->a<=b:=za 0x100043018601182915046 [a,b,c,d] []
theorem zC8:a=c->b=d->c=1\/d=1->a=1\/b=1:=za 0x24224804548c49108a61844610046 [a,b,c,d] []
theorem zC9:a=d->b+c<=d->a=max (b+c) d:=za 0x310697008620d00618046 [a,b,c,d] []
theorem zDa:a<=c->b<=d->a+b<=c+d:=za 0xc54082801840610006 [a,b,c,d] []
theorem zDb:b=c->d<=a+c->a+b=max (a+c) d:=za 0xc40a5c20a0840a0c0610446 [a,b,c,d] []
theorem zDc:b<=50->a<=c+d->c+d<=b->a<=992:=za 0x1f0480008c5401862a00060003290406 [a,b,c,d] []
theorem zDd:b<=c->a+b<=max (a+c) d:=za 0x3102970828010406 [a,b,c,d] []
theorem zDe:d=b->d+a=c->a+b=c:=za 0x820a08401d04608c46 [a,b,c,d] []
theorem zDf:a+b=d+e+1->d+e<=c->a+b<=c+1:=za 0x24540828011074019241d28105046 [a,b,c,d,e] []
theorem zDg:e+b=d->a+c=e->a+(b+c)=d:=za 0xc41a0282208141186125046 [a,b,c,d,e] []
theorem zDh:a<=d->d=e->e=b+c->a<=b+c:=za 0x83400041a104620c4618006 [a,b,c,d,e] []
theorem zDi:b<=1000->c<=1000->d=b+c->e<d->a<=e->a+1<=1000000:=za 0x1e8481248280200061a49401841a0c46003e890806003e890406 [a,b,c,d,e] []
theorem zDj:d=a->d=b+e->e<=c->a<=b+c:=za 0x8340004401881a0c4600c46 [a,b,c,d,e] []
theorem zDk:c+1=b->a=d+e->f+d=c+1->e<=f->a<=b:=za 0x4002900648a832d04620e801182915046 [a,b,c,d,e,f] []
theorem zDl:1<=u/\u<=100000000->-1000000000<=u:=za 0x1dcd65004f41000000005f5e1009802048486 [] [u]
theorem zDm:1<=u/\u<=100000000->u<=1000000000:=za 0x1dcd65004c01000000005f5e1009802048486 [] [u]
theorem zDn:1<=u/\u<=3->-1000000000<=u:=za 0x1dcd65004f415802048486 [] [u]
theorem zDo:1<=u/\u<=3->u<=1000000000:=za 0x1dcd65004c015802048486 [] [u]
theorem zDp:u=1\/u=-1->-1000000000<=u:=za 0x3b9aca009e829d006900ca6 [] [u]
theorem zDq:u=1\/u=-1->u<=1000000000:=za 0x3b9aca0098029d006900ca6 [] [u]
theorem zDr:0<=u->u<2->u=0\/u=1:=za 0x900d00195490502602026 [] [u]
theorem zDs:w=5\/w=20->0<=u/\u<=9942->0<=v->v<w->0<=u+1*v/\u+1*v<=9999:=za 0x1387c820000360502100001b0288090490d0260a026026d69002040486000149086d10ca6 [] [u,v,w]
theorem zDt:w=5\/w=20->0<=u/\u<=9942->0<=v->v<w->0<=u+2*v/\u+2*v<=9999:=za 0x1387c820000560502100002b0288090490d0260a026026d69002040486000149086d10ca6 [] [u,v,w]
theorem zDu:w=5\/w=20->0<=u/\u<=9942->0<=v->v<w->0<=u+3*v/\u+3*v<=9999:=za 0x1387c820000760502100003b0288090490d0260a026026d69002040486000149086d10ca6 [] [u,v,w]
theorem zDv:(a:Int)<=700000000->1000000000-(a:Int)≠0:=za 0x740320000000773594013a8cc000000053724e01306426 [a] []
theorem zDw:(a:Int)<=700000000->-(1000000000-(a:Int))≠0:=za 0xe80640000000ee6b280275d0cc000000053724e01306426 [a] []
theorem zDx:(a:Int)<=700000000->-(1000000000-(a:Int))<=1000000000:=za 0x3b9aca0098320000000773594013ae82000000053724e01306426 [a] []
theorem zDy:(a:Int)<=700000000->-1000000000<=1000000000-(a:Int):=za 0x640000000ee6b28027500000003b9aca009e82000000053724e01306426 [a] []
theorem zDz:a<=8->0+73*a<=584:=za 0x9224000049b228080006 [a] []
theorem zDA:1000000000-(a:Int)<=1000000000:=za 0xee6b280260c80000001dcd65004ea1 [a] []
theorem zDB : -1000000000<=-(1000000000-(a:Int)):=za 0x640000000ee6b280275d00000001dcd65004f41 [a] []
theorem zDC:a+73*(b+1)<=584->a+1<=1000000:=za 0x3d0902490500004912486800093605006 [a,b] []
theorem zDD:max (a:Int) (b:Int)=((max a b:Nat):Int):=za 0x20be439066e3 [a,b] []
theorem zDE:a+c<580->b<c->a+1+b<580:=za 0x122492148294a00490d0060024492440a5006 [a,b,c] []
theorem zDF:c+584*(b+1)<=341056->a+0<=c+584->a+584*b<=341056:=za 0x29a20482004916050000491215100a00ca68812486800491615006 [a,b,c] []
theorem zDG:c+73*(b+1)<=584->a+9*0<=c+73->a+73*b<=584:=za 0x24890400126c0a000012642a2000026c0a00c004912486800093615006 [a,b,c] []
theorem zDH:b<=8->a+1+9*(b-(c+1))<=a+73:=za 0x12640a24540d400026c90528080406 [a,b,c] []
theorem zDI:b+73*(c+1)<=584->a+9*(d+1)<=b+73->a+1<=1000000:=za 0x1e848124828000049906891d000026c0a00c00491248a80009360d006 [a,b,c,d] []
theorem zDJ:d+9*(b+1)<=c+73->a+0<=d+9->a+9*b<=c+73:=za 0x24c854080004d8140447440280300024c85448680001361d006 [a,b,c,d] []
theorem zDK:b<=1000->c<=1000->d=b+c->a<d->Nat.succ a<=1000000:=za 0x1e84812482801a41401841a0c46003e890806003e890406 [a,b,c,d] []
theorem zDL:b+73*(c+1)<=584->d+9*(e+1)<=b+73->a+(f+1)<=d+9->a+1<=1000000:=za 0x7a1204920a0223a24b405006000499068925000026c3a00c00491248a80009360d006 [a,b,c,d,e,f] []
theorem zDM:8*a<=512->0+8*a<=512:=za 0x10048000011645000040120000045806 [a] []
theorem zDN:a<=1000->0+6*a<=6000:=za 0x5dc24000006b2280003e890006 [a] []
theorem zDO:a+3000<b->a+1+1+2000<b:=za 0x5200fa124a414a52800a402ee240a5006 [a,b] []
theorem zDP:b-a=0->a<=b->a=b:=za 0x100820019000d446 [a,b] []
theorem zDQ:a<=20+8*b->b<=600->a+3000<9900:=za 0x9ab24900bb89029400012c482030400022c000292a0006 [a,b] []
theorem zDR:a+6*(c+1)<=6000->b<=6->a+b+6*c<=6000:=za 0x2ee121000035820a500e080c02ee1248a80000d605006 [a,b,c] []
theorem zDS:a+6*(c+1)<=6000->b<=6->a+b<=1000000:=za 0x3d0902410500e080c02ee1248a80000d605006 [a,b,c] []
theorem zDT:b-a=c+1->a+1<=b:=za 0x14828048a800d446 [a,b,c] []
theorem zDU:c+4096*(b+1)<=20480->a<=c+4096->a+4096*b<=20480:=za 0xa001208080058140008004854000c0a0012486802001615006 [a,b,c] []
theorem zDV:c<b->a<=c->a<b:=za 0x520a00400182915006 [a,b,c] []
theorem zDW:c<=8->a+8*(d+1)<=512->b<=c->a+b<=1000000:=za 0x3d09024105002080c00401248e80001160500680806 [a,b,c,d] []
theorem zDX:d=b->a<d->a<b+c:=za 0x20d120a00690500608c46 [a,b,c,d] []
theorem zDY:d<=8->a+8*(c+1)<=512->b<=d->a+b+8*c<=512:=za 0x40121000045820a5003080c00401248a80001160500680c06 [a,b,c,d] []
end
noncomputable def strT:List Str:=["bank","book","","span","rows","ticked","closed","entry","many","other","made","1","banks","Book","bark","boot","ook","matches","barred","group","days","scale","base","seen","step","old"]
noncomputable def zal:Nat:=26
noncomputable def zy(n:Nat):Str:=strT.getD n ""
theorem zjX:strT.Nodup:=by decide +kernel
theorem zpB:(strT.all fun s=>PyData.strOk s)=true:=by decide +kernel
theorem zbu{n:Nat}(h:n<zal):strT[n]? = some (zy n):=by
 have h':n<strT.length:=h;unfold zy;rw[fT,fV h'];rfl
theorem zam{n m:Nat}(hn:n<zal)(hm:m<zal)(h:zy n=zy m):n=m:=by
 have h1:=zbu hn;have h2:=zbu hm;rw[<-h] at h2;exact(List.getElem?_inj (show n<strT.length from hn) zjX).mp (h1.trans h2.symm)
theorem zgF(b:Bool):b.toNat<zal:=by cases b<;>decide
theorem side_inj{a b:Bool}:zy a.toNat=zy b.toNat↔a=b:=by
 refine⟨fun h=>?_,fun h=>by rw[h]⟩;have h2:a.toNat=b.toNat:=zam (zgF a) (zgF b) h;cases a<;>cases b<;>first|rfl|cases h2
theorem zir{n:Nat}(h:n<zal):PyData.strOk (zy n)=true:=fAJ.mp zpB _ (pO (zbu h))
inductive AV where
 | none
 | bool (b:Bool)
 | int (i:Int)
 | str (n:Nat)
 | tup (xs:List AV)
 | lst (xs:List AV)
 | ref (a:Addr)
 | rng (lo hi:Int)
 | exc (c:Addr)
inductive AO where
 | list (xs:List AV)
 | frz (xs:List AV)
 | tdict (kvs:List (List (Bool×Int)×AV))
 | inst (c:Addr) (d:Addr)
 | idict (fs:List (Nat×AV))
noncomputable abbrev zd:=Bool×Int
noncomputable def zz(m:zd):AV:=.tup [.str m.1.toNat,.int m.2]
noncomputable def mkH(w:World)(m:zd):Int:=reduceHash (Builtin.Tuple.tupleHashOf [hashStr w (zy m.1.toNat),hashInt m.2])
noncomputable abbrev zA(ms:List zd):AV:=.tup (ms.map zz)
noncomputable def zs5(w:World)(ms:List zd):Int:=reduceHash (Builtin.Tuple.tupleHashOf (ms.map (mkH w)))
noncomputable abbrev AHeap:=Addr->Option AO
noncomputable def AHeap.set(U:AHeap)(a:Addr)(o:AO):AHeap:=fun b=>if b=a then some o else U b
noncomputable def zR(vs:List Value)(n:Nat):Obj:={ cls:=.type "list",data:=.seq vs.toArray n }
noncomputable def zet(lo hi:Int)(t u v:Tok):Obj:={ cls:=.type "range",data:=.fields #[.int lo t,.int hi u,.int 1 v] }
noncomputable def exO(c:Addr)(vs:Array Value):Obj:={ cls:=.ref c,dict:=none,data:=.fields vs,slots:=#[] }
mutual
inductive RepV(U:AHeap)(h:Heap):AV->Value->Prop
 | none:RepV U h .none .none
 | bool (b:Bool):RepV U h (.bool b) (.bool b)
 | int (i:Int) (t:Tok):RepV U h (.int i) (.int i t)
 | str {n:Nat} (hn:n<zal) (t:Tok):RepV U h (.str n) (.str (zy n) t)
 | tup {xs:List AV} {a:Addr} {vs:List Value}:xs.length<=1000000->IsTup h a vs.toArray->RepVs U h xs vs->RepV U h (.tup xs) (.ref a)
 | lst {xs:List AV} {a:Addr}:U a=some (.frz xs)->RepV U h (.lst xs) (.ref a)
 | ref (a:Addr):RepV U h (.ref a) (.ref a)
 | rng {lo hi:Int} {a:Addr} {t u v:Tok}:h.get? a=some (zet lo hi t u v)->RepV U h (.rng lo hi) (.ref a)
 | exc {a c:Addr} {vs:Array Value}:h.get? a=some (exO c vs)->RepV U h (.exc c) (.ref a)
inductive RepVs(U:AHeap)(h:Heap):List AV->List Value->Prop
 | nil:RepVs U h [] []
 | cons {x:AV} {xs:List AV} {v:Value} {vs:List Value}:RepV U h x v->RepVs U h xs vs->RepVs U h (x::xs) (v::vs)
end
theorem RepV.wC{U:AHeap}{h:Heap}{i:Int}{v:Value}(r:RepV U h (.int i) v):∃t,v = .int i t:=by cases r;exact⟨_,rfl⟩
theorem RepV.wN{U:AHeap}{h:Heap}{b:Bool}{v:Value}(r:RepV U h (.bool b) v):v = .bool b:=by cases r;rfl
theorem RepV.wL{U:AHeap}{h:Heap}{v:Value}(r:RepV U h .none v):v = .none:=by cases r;rfl
theorem RepV.wM{U:AHeap}{h:Heap}{a:Addr}{v:Value}(r:RepV U h (.ref a) v):v = .ref a:=by cases r;rfl
theorem RepV.wJ{U:AHeap}{h:Heap}{n:Nat}{v:Value}(r:RepV U h (.str n) v):∃t,v = .str (zy n) t/\n<zal:=by cases r with|str hn t=>exact zc t rfl hn
theorem RepV.wH{U:AHeap}{h:Heap}{xs:List AV}{v:Value}(r:RepV U h (.tup xs) v):∃a vs,v = .ref a/\xs.length<=1000000/\IsTup h a (List.toArray vs)/\RepVs U h xs vs:=by cases r with|tup hl ht rs=>exact zr _ _ rfl hl ht rs
theorem RepV.wQ{U:AHeap}{h:Heap}{xs:List AV}{v:Value}(r:RepV U h (.lst xs) v):∃a,v = .ref a/\U a=some (.frz xs):=by cases r with|lst e=>exact zc _ rfl e
theorem RepVs.wG{U:AHeap}{h:Heap}{vs:List Value}(r:RepVs U h [] vs):vs=[]:=by cases r;rfl
theorem RepVs.wE{U:AHeap}{h:Heap}{x:AV}{xs:List AV}{vs:List Value}(r:RepVs U h (x::xs) vs):∃u us,vs=u::us/\RepV U h x u/\RepVs U h xs us:=by cases r with|cons a r=>exact zP _ _ rfl a r
def qI(o:Obj):Prop:=(o.cls = .type "tuple"/\∃xs n,o.data = .seq xs n)\/(o.cls = .type "range"/\∃vs,o.data = .fields vs)\/∃c vs,o.cls = .ref c/\o.data = .fields vs
def zu3(o o':Obj):Prop:=o'=o\/∃c vs vs',o=exO c vs/\o'=exO c vs'
structure KeepV(U:AHeap)(h:Heap)(U':AHeap)(h':Heap):Prop where
 obj:∀b o,h.get? b=some o->qI o->∃o',h'.get? b=some o'/\zu3 o o'
 frz:∀b xs,U b=some (.frz xs)->U' b=some (.frz xs)
theorem KeepV.mk'{U:AHeap}{h h':Heap}(k:∀b o,h.get? b=some o->qI o->h'.get? b=some o):KeepV U h U h':=⟨fun b o e st=>(zc o (k b o e st) (.inl rfl)),fun _ _ e=>e⟩
theorem KeepV.ext{U:AHeap}{h h':Heap}(k:∀b o,h.get? b=some o->h'.get? b=some o):KeepV U h U h':=.mk' fun b o e _=>k b o e
theorem KeepV.push{U:AHeap}{h:Heap}(o:Obj):KeepV U h U (h.push o):=.ext fun _ _ e=>Heap.get?_push_of_some _ e
theorem KeepV.tup{U U':AHeap}{h h':Heap}(k:KeepV U h U' h'){a:Addr}{vs:Array Value}(ht:IsTup h a vs):IsTup h' a vs:=by
 refine jC ht fun o ho hc n hd=>?_;obtain⟨o',ho',e|⟨c,_,_,e,_⟩⟩:=k.obj _ _ ho (.inl (zqS hc _ n hd))
 .subst e;exact qo _ ho' hc n hd
 .subst e;cases hc
theorem KeepV.rng{U U':AHeap}{h h':Heap}(k:KeepV U h U' h'){a:Addr}{lo hi:Int}{t u v:Tok}(ht:h.get? a=some (zet lo hi t u v)):h'.get? a=some (zet lo hi t u v):=by
 obtain⟨o',ho',e|⟨c,_,_,e,_⟩⟩:=k.obj _ _ ht (.inr (.inl (zsJ rfl _ rfl)))
 .subst e;exact ho'
 .cases e
theorem RepV.mono{U U':AHeap}{h h':Heap}(k:KeepV U h U' h'){x:AV}{v:Value}(r:RepV U h x v):RepV U' h' x v:=by
 refine RepV.rec (motive_1:=fun x v _=>RepV U' h' x v) (motive_2:=fun xs vs _=>RepVs U' h' xs vs) .none .bool .int (fun hn t=>.str hn t) ?_ ?_ .ref ?_ ?_ .nil ?_ r
 .intro xs a vs hl ht _ r;exact .tup hl (k.tup ht) r
 .intro xs a e;exact .lst (k.frz _ _ e)
 .intro lo hi a t u v ho;exact .rng (k.rng ho)
 .intro a c vs ho;obtain⟨o',ho',e|⟨c',_,vs',e,e'⟩⟩:=k.obj _ _ ho (.inr (.inr (za6 _ _ rfl rfl)))
  .subst e;exact .exc ho'
  .cases e;subst e';exact .exc ho'
 .intro x xs v vs _ _ a r;exact .cons a r
theorem RepVs.mono{U U':AHeap}{h h':Heap}(k:KeepV U h U' h'){xs:List AV}{vs:List Value}(r:RepVs U h xs vs):RepVs U' h' xs vs:=by
 induction xs generalizing vs with
 | nil=>obtain rfl:=RepVs.wG r;exact .nil
 | cons x xs ih=>cases r with|cons a r=>exact .cons (a.mono k) (ih r)
theorem RepVs.length{U:AHeap}{h:Heap}{xs:List AV}{vs:List Value}(r:RepVs U h xs vs):xs.length=vs.length:=by
 induction xs generalizing vs with
 | nil=>obtain rfl:=RepVs.wG r;rfl
 | cons x xs ih=>cases r with|cons a r=>rw[fH,fH,ih r]
theorem RepVs.append{U:AHeap}{h:Heap}{xs:List AV}{vs:List Value}{ys:List AV}{us:List Value}(q:RepVs U h xs vs)(r:RepVs U h ys us):RepVs U h (xs++ys) (vs++us):=by
 induction xs generalizing vs with
 | nil=>obtain rfl:=RepVs.wG q;exact r
 | cons x xs ih=>cases q with|cons a q=>exact .cons a (ih q)
theorem RepVs.get{U:AHeap}{h:Heap}{xs:List AV}{vs:List Value}(r:RepVs U h xs vs):∀{i:Nat} {x:AV},xs[i]? = some x->∃v,vs[i]? = some v/\RepV U h x v:=by
 induction xs generalizing vs with
 | nil=>intro i x e;cases e
 | cons y xs ih=>
  obtain⟨_,_,rfl,a,r⟩:=RepVs.wE r;intro i x e;cases i with
  | zero=>cases e;exact zc _ rfl a
  | succ i=>rw[fAP] at e;exact ih r e
theorem RepVs.take{U:AHeap}{h:Heap}{xs:List AV}{vs:List Value}(r:RepVs U h xs vs):∀n,RepVs U h (xs.take n) (vs.take n):=by
 induction xs generalizing vs with
 | nil=>intro n;obtain rfl:=RepVs.wG r;rw[List.take_nil,List.take_nil];exact .nil
 | cons y xs ih=>
  obtain⟨_,_,rfl,a,r⟩:=RepVs.wE r;intro n;cases n with
  | zero=>exact .nil
  | succ n=>exact .cons a (ih r n)
theorem RepVs.drop{U:AHeap}{h:Heap}{xs:List AV}{vs:List Value}(r:RepVs U h xs vs):∀n,RepVs U h (xs.drop n) (vs.drop n):=by
 induction xs generalizing vs with
 | nil=>intro n;obtain rfl:=RepVs.wG r;rw[List.drop_nil,List.drop_nil];exact .nil
 | cons y xs ih=>
  obtain⟨_,_,rfl,a,r⟩:=RepVs.wE r;intro n;cases n with
  | zero=>exact .cons a r
  | succ n=>exact ih r n
structure Cx where
 prog:Gn
 w:World
 h₀:Heap
 os:OsState
 mg:Str->Option Value
 mb:Str->Option Value
 fr:List Addr
 top:Option Env
noncomputable def Cx.push(X:Cx)(L:Env):Cx:=⟨X.prog,X.w,X.h₀,X.os,X.mg,X.mb,L.locals::X.fr,some L⟩
noncomputable abbrev Cx.M(X:Cx):Model:=model X.prog X.w
structure Cx.Ok(X:Cx):Prop where
 g:X.h₀.Ns Gr X.mg
 b:X.h₀.Ns builtinsNs X.mb
 nolimit:X.h₀.NoLimit
inductive RepT(w:World)(U:AHeap)(h:Heap):List (List zd×AV)->List DictEntry->Prop
 | nil:RepT w U h [] []
 | cons {k:List zd} {x:AV} {r:List (List zd×AV)} {e:DictEntry} {es:List DictEntry}:RepV U h (zA k) e.key->RepV U h x e.val->e.hash=zs5 w k->RepT w U h r es->RepT w U h ((k,x)::r) (e::es)
theorem RepT.mono{w:World}{U U':AHeap}{h h':Heap}(k:KeepV U h U' h'){kvs:List (List zd×AV)}{es:List DictEntry}(r:RepT w U h kvs es):RepT w U' h' kvs es:=by
 induction r with
 | nil=>exact .nil
 | cons a b c _ ih=>exact .cons (a.mono k) (b.mono k) c ih
inductive SX(U:AHeap)(h:Heap):List (Str×Value)->List (Nat×AV)->Prop
 | nil:SX U h [] []
 | cons {k:Nat} {x:AV} {v:Value} {kvs:List (Str×Value)} {fs:List (Nat×AV)}:k<zal->RepV U h x v->SX U h kvs fs->SX U h ((zy k,v)::kvs) ((k,x)::fs)
theorem SX.mono{U U':AHeap}{h h':Heap}(k:KeepV U h U' h'){kvs:List (Str×Value)}{fs:List (Nat×AV)}(r:SX U h kvs fs):SX U' h' kvs fs:=by
 induction r with
 | nil=>exact .nil
 | cons hk a _ ih=>exact .cons hk (a.mono k) ih
noncomputable def RepA(X:Cx)(U:AHeap)(h:Heap)(a:Addr):AO->Prop
 | .list xs=>∃vs n,h.get? a=some (zR vs n)/\RepVs U h xs vs/\xs.length<=1000000
 | .frz xs=>∃vs,h.IsList a vs.toArray/\RepVs U h xs vs/\xs.length<=1000000
 | .tdict kvs=>∃es n,h.get? a=some { cls:=.type "dict",data:=.dict es n }/\RepT X.w U h kvs es.toList/\(kvs.map (·.1)).Nodup/\kvs.length<=1000000/\(a==sysModules)=false
 | .inst c d=>h.get? a=some { cls:=.ref c,dict:=some d,data:=.plain }
 | .idict fs=>∃kvs,h.DictOf (strKind X.prog X.w) a kvs/\SX U h kvs fs/\fs.length<=100/\(a==sysModules)=false
theorem RepA.mono{X:Cx}{U U':AHeap}{h h':Heap}{a:Addr}{o:AO}(k:KeepV U h U' h')(e:∀o,h.get? a=some o->h'.get? a=some o)(r:RepA X U h a o):RepA X U' h' a o:=by
 cases o with
 | list xs=>refine zp r fun vs n h1 h2 hl=>?_;exact⟨vs,n,e _ h1,h2.mono k,hl⟩
 | frz xs=>refine zk r fun vs h8_1 h2 hl=>?_;refine zb h8_1 fun o h1 h3=>?_;exact⟨vs,(zc o (e _ h1) h3),h2.mono k,hl⟩
 | tdict kvs=>refine zp r fun es n h1 h2 h3=>?_;exact⟨es,n,e _ h1,h2.mono k,h3⟩
 | inst c d=>exact e _ r
 | idict fs=>refine zk r fun kvs h10_1 h2 h3=>?_;refine jD h10_1 fun o es ep h1 h4=>?_;exact zv kvs (qU o es ep (e _ h1) h4) (h2.mono k) h3
theorem RepA.some{X:Cx}{U:AHeap}{h:Heap}{a:Addr}{o:AO}(r:RepA X U h a o):∃ob,h.get? a=some ob/\¬qI ob:=by
 have no:∀{ob:Obj} {t:String},ob.cls = .type t->t≠"tuple"->t≠"range"->¬qI ob:=by
  rintro ob t hc h1 h2 (⟨h,_⟩|⟨h,_⟩|⟨c,vs,h,_⟩)
  .rw[hc] at h;cases h;exact h1 rfl
  .rw[hc] at h;cases h;exact h2 rfl
  .rw[hc] at h;cases h
 cases o with
 | list xs=>refine jx r fun vs n h1 _=>?_;exact⟨_,h1,no (t:="list") rfl (by decide) (by decide)⟩
 | frz xs=>refine zb r fun vs h12_1 _=>?_;refine zk h12_1 fun o h1 hc _=>?_;exact⟨_,h1,no hc (by decide) (by decide)⟩
 | tdict kvs=>refine jx r fun es n h1 _=>?_;exact⟨_,h1,no (t:="dict") rfl (by decide) (by decide)⟩
 | inst c d=>
  refine zc _ r ?_;rintro(⟨h,_⟩|⟨h,_⟩|⟨c,vs,_,h⟩)
  .cases h
  .cases h
  .cases h
 | idict fs=>refine zb r fun kvs h14_1 _=>?_;refine jm h14_1 fun o es ep h1 hx _=>?_;exact zc _ h1 (no (t:="dict") hx.1 (by decide) (by decide))
noncomputable def AO.ro:AO->Bool
 | .frz _=>true
 | _=>false
def IsD(h:Heap)(b:Addr):Prop:=∃o es n,h.get? b=some o/\o.data = .dict es n
structure At(X:Cx)(U:AHeap)(s:Shared):Prop where
 keep:∀b o,X.h₀.get? b=some o->s.heap.get? b=some o
 rep:∀a o,U a=some o->RepA X U s.heap a o
 own:∀a o,U a=some o->o.ro=false->X.h₀.get? a=none
 gens:s.gens = #[]
 os:s.os=X.os
 ff:∀L∈X.fr,U L=none/\IsD s.heap L
theorem At.lt{X:Cx}{U:AHeap}{s:Shared}(a:At X U s){b:Addr}{o:AO}(e:U b=some o):b<s.heap.objs.size:=
 let ⟨_,h,_⟩:=(a.rep b o e).some;Heap.lt_size h
theorem At.none_of_size{X:Cx}{U:AHeap}{s:Shared}(a:At X U s){b:Addr}(e:s.heap.objs.size<=b):U b=none:=by
 cases h:U b with
 | none=>rfl
 | some o=>exact absurd (a.lt h) (pN.mpr e)
theorem At.stays{X:Cx}{U:AHeap}{s:Shared}(a:At X U s){b:Addr}{o:Obj}(e:s.heap.get? b=some o)(h:qI o):U b=none:=by
 cases hs:U b with
 | none=>rfl
 | some ao=>
  refine zb ((a.rep b ao hs).some) fun ob h1 h2=>?_;rw[e] at h1;obtain rfl:=G4 h1;exact absurd h h2
structure Step(B:Addr->Prop)(U:AHeap)(s:Shared)(U':AHeap)(s':Shared):Prop where
 keep:∀b o,s.heap.get? b=some o->U b=none->¬B b->(∀es n,o.data≠.dict es n)->s'.heap.get? b=some o
 keepD:∀b o,s.heap.get? b=some o->U b=none->¬B b->∃sl,s'.heap.get? b=some { o with slots:=sl }
 fresh:∀b,U' b≠none->U b=none->s.heap.objs.size<=b
 size:s.heap.objs.size<=s'.heap.objs.size
 frz:∀b xs,U b=some (.frz xs)->U' b=some (.frz xs)
theorem Step.mk'{B:Addr->Prop}{U U':AHeap}{s s':Shared}(keep:∀b o,s.heap.get? b=some o->U b=none->¬B b->s'.heap.get? b=some o)(fresh:∀b,U' b≠none->U b=none->s.heap.objs.size<=b)(size:s.heap.objs.size<=s'.heap.objs.size)
  (frz:∀b xs,U b=some (.frz xs)->U' b=some (.frz xs)):Step B U s U' s':=⟨fun b o e h1 h2 _=>keep b o e h1 h2,fun b o e h1 h2=>⟨o.slots,keep b o e h1 h2⟩,fresh,size,frz⟩
theorem Step.same{B:Addr->Prop}{U:AHeap}{s s':Shared}(keep:∀b o,s.heap.get? b=some o->¬B b->s'.heap.get? b=some o)(size:s.heap.objs.size<=s'.heap.objs.size):Step B U s U s':=.mk' (fun b o e _ h=>keep b o e h) (fun _ h1 h2=>absurd h2 h1) size fun _ _ e=>e
def E0:Addr->Prop:=fun _=>False
theorem Step.refl(B:Addr->Prop)(U:AHeap)(s:Shared):Step B U s U s:=.same (fun _ _ e _=>e) (fM _)
theorem Step.gone{B:Addr->Prop}{U U':AHeap}{s s':Shared}(x:Step B U s U' s'){b:Addr}{o:Obj}(e:s.heap.get? b=some o)(h:U b=none):U' b=none:=by
 cases h':U' b with
 | none=>rfl
 | some _=>exact absurd (x.fresh b (by rw[h'];simp) h) (Nat.not_le.mpr (Heap.lt_size e))
theorem Step.trans{B:Addr->Prop}{U U' U'':AHeap}{s s' s'':Shared}(x:Step B U s U' s')(y:Step B U' s' U'' s''):Step B U s U'' s'' where
 keep:=fun b o e h1 h2 h3=>y.keep b o (x.keep b o e h1 h2 h3) (x.gone e h1) h2 h3
 keepD:=fun b o e h1 h2=>by
  obtain⟨sl,e'⟩:=x.keepD b o e h1 h2;obtain⟨sl',e''⟩:=y.keepD b _ e' (x.gone e h1) h2;exact⟨sl',e''⟩
 fresh:=fun b h1 h2=>by
  cases h:U' b with
  | none=>exact fN x.size (y.fresh b h1 h)
  | some _=>exact x.fresh b (by rw[h];simp) h2
 size:=fN x.size y.size
 frz:=fun b xs e=>y.frz b xs (x.frz b xs e)
theorem Step.weaken{B B':Addr->Prop}{U U':AHeap}{s s':Shared}(x:Step B U s U' s')(h:∀b,B b->B' b):Step B' U s U' s':=
 ⟨fun b o e h1 h2 h3=>x.keep b o e h1 (fun q=>h2 (h b q)) h3,fun b o e h1 h2=>x.keepD b o e h1 fun q=>h2 (h b q),x.fresh,x.size,x.frz⟩
theorem Step.drop{B B':Addr->Prop}{U U':AHeap}{s s':Shared}(x:Step B' U s U' s')(h:∀b,B' b->B b\/s.heap.objs.size<=b):Step B U s U' s':=by
 have no:∀b o,s.heap.get? b=some o->¬B b->¬B' b:=fun b o e h2 q=>(h b q).elim h2 fun q'=>absurd (Heap.lt_size e) (pN.mpr q');exact⟨fun b o e h1 h2 h3=>x.keep b o e h1 (no b o e h2) h3,fun b o e h1 h2=>x.keepD b o e h1 (no b o e h2),x.fresh,x.size,x.frz⟩
theorem zon{o:Obj}(h:qI o)(es:Array DictEntry)(n:Nat):o.data≠.dict es n:=fun e=>by
 rcases h with⟨_,_,_,h⟩|⟨_,_,h⟩|⟨_,_,_,h⟩<;>(rw[e] at h;cases h)
def NoStay(B:Addr->Prop)(h:Heap):Prop:=∀b o,B b->h.get? b=some o->¬qI o
theorem NoStay.e0{h:Heap}:NoStay E0 h:=fun _ _ h=>h.elim
theorem Step.keepV{X:Cx}{B:Addr->Prop}{U U':AHeap}{s s':Shared}(x:Step B U s U' s')(a:At X U s)(n:NoStay B s.heap):KeepV U s.heap U' s'.heap:=
 ⟨fun b o e h=>(zc o (x.keep b o e (a.stays e h) (fun q=>n b o q e h) (zon h)) (.inl rfl)),x.frz⟩
theorem Step.keepV0{X:Cx}{U U':AHeap}{s s':Shared}(x:Step E0 U s U' s')(a:At X U s):KeepV U s.heap U' s'.heap:=x.keepV a .e0
theorem AHeap.wA(U:AHeap)(a:Addr)(o:AO):U.set a o a=some o:=by simp[AHeap.set]
theorem AHeap.wB(U:AHeap){a b:Addr}(o:AO)(h:b≠a):U.set a o b=U b:=by simp[AHeap.set,h]
section
variable{X:Cx}{U U':AHeap}{s s':Shared}
theorem IsD.kept{h h':Heap}{b:Addr}(x:IsD h b)(k:∀o,h.get? b=some o->h'.get? b=some o):IsD h' b:=by
 refine jD x fun o es n e d=>?_;exact qU o es n (k o e) d
theorem At.ffk(a:At X U s){h':Heap}(k:∀b o,s.heap.get? b=some o->h'.get? b=some o):∀L∈X.fr,U L=none/\IsD h' L:=fun L hL=>⟨(a.ff L hL).1,(a.ff L hL).2.kept fun o e=>k L o e⟩
theorem At.toks(a:At X U s)(t:Nat):At X U { s with toks:=t }:=⟨a.keep,a.rep,a.own,a.gens,a.os,a.ff⟩
theorem Step.toks{B:Addr->Prop}(U:AHeap)(s:Shared)(t:Nat):Step B U s U { s with toks:=t }:=.same (fun _ _ e _=>e) (fM _)
theorem At.push(a:At X U s)(o:Obj)(t:Nat):At X U { s with heap:=s.heap.push o,toks:=t } where
 keep:=fun b ob e=>Heap.get?_push_of_some _ (a.keep b ob e)
 rep:=fun b ao e=>(a.rep b ao e).mono (.push o) (fun _ h=>Heap.get?_push_of_some _ h)
 own:=a.own
 gens:=a.gens
 os:=a.os
 ff:=a.ffk fun _ _ e=>Heap.get?_push_of_some _ e
theorem Step.push{B:Addr->Prop}(U:AHeap)(s:Shared)(o:Obj)(t:Nat):Step B U s U { s with heap:=s.heap.push o,toks:=t }:=
 .same (fun _ _ e _=>Heap.get?_push_of_some _ e) (by simp)
theorem zdx{b:Addr}{ao:AO}(h:∀xs,U b≠some (.frz xs))(c:Addr)(xs:List AV)(e:U c=some (.frz xs)):U.set b ao c=some (.frz xs):=by
 rw[AHeap.wB _ _ (by rintro rfl;exact h _ e)];exact e
theorem KeepV.set{h h':Heap}(k:KeepV U h U h'){b:Addr}{ao:AO}(hb:∀xs,U b≠some (.frz xs)):KeepV U h (U.set b ao) h':=⟨k.obj,zdx hb⟩
theorem zgs{b:Addr}(h:U b=none)(xs:List AV):U b≠some (.frz xs):=by rw[h];exact nofun
theorem zky{b:Addr}{o:AO}(h:U b=some o)(ho:o.ro=false)(xs:List AV):U b≠some (.frz xs):=by
 rw[h];intro e;obtain rfl:=G4 e;cases ho
theorem At.alloc(a:At X U s){o:Obj}{ao:AO}(t:Nat)(hr:KeepV U s.heap (U.set s.heap.objs.size ao) (s.heap.push o)->RepA X (U.set s.heap.objs.size ao) (s.heap.push o) s.heap.objs.size ao):At X (U.set s.heap.objs.size ao) { s with heap:=s.heap.push o,toks:=t }:=by
 have kv:KeepV U s.heap (U.set s.heap.objs.size ao) (s.heap.push o):=(KeepV.push o).set (zgs (a.none_of_size (fM _)));refine⟨fun b ob e=>Heap.get?_push_of_some _ (a.keep b ob e),fun b bo e=>?_,fun b bo e hro=>?_,a.gens,a.os,fun L hL=>?_⟩
 .by_cases hb:b=s.heap.objs.size
  .subst hb;rw[AHeap.wA] at e;obtain rfl:=G4 e;exact hr kv
  .rw[AHeap.wB _ _ hb] at e;exact(a.rep b bo e).mono kv (fun _ h=>Heap.get?_push_of_some _ h)
 .by_cases hb:b=s.heap.objs.size
  .subst hb;cases h:X.h₀.get? s.heap.objs.size with
   | none=>rfl
   | some ob=>exact absurd (Heap.lt_size (a.keep _ _ h)) (fBP _)
  .rw[AHeap.wB _ _ hb] at e;exact a.own b bo e hro
 .refine zdM (a.ff L hL) fun h1 o' es n h2 h3=>?_;exact zne (by rw[AHeap.wB _ _ (fAM (Heap.lt_size h2))];exact h1) o' es n (Heap.get?_push_of_some _ h2) h3
theorem Step.alloc{B:Addr->Prop}(a:At X U s)(o:Obj)(ao:AO)(t:Nat):Step B U s (U.set s.heap.objs.size ao) { s with heap:=s.heap.push o,toks:=t }:=
 .mk' (fun _ _ e _ _=>Heap.get?_push_of_some _ e) (fun b h1 h2=>by
  by_cases hb:b=s.heap.objs.size
  .rw[hb];exact fM _
  .rw[AHeap.wB _ _ hb] at h1;exact absurd h2 h1) (by simp) (zdx (zgs (a.none_of_size (fM _))))
theorem At.store(a:At X U s){b:Addr}{old ao:AO}{h':Heap}(t:Nat)(e:U b=some old)(hro:old.ro=false)(hs:Heap.SameBut b s.heap h')(hr:KeepV U s.heap (U.set b ao) h'->RepA X (U.set b ao) h' b ao) :
  At X (U.set b ao) { s with heap:=h',toks:=t }:=by
 have kv:KeepV U s.heap (U.set b ao) h':=(KeepV.mk' fun c o ho st=>by
  have hc:c≠b:=by rintro rfl;rw[a.stays ho st] at e;exact absurd (Eq.symm e) (fJ _)
  rw[hs.2 c hc];exact ho).set (zky e hro)
 refine⟨fun c o ho=>?_,fun c co ec=>?_,fun c co ec hr'=>?_,a.gens,a.os,fun L hL=>?_⟩
 .have hc:c≠b:=by rintro rfl;rw[a.own _ _ e hro] at ho;exact absurd (Eq.symm ho) (fJ _)
  exact(hs.2 c hc).trans (a.keep c o ho)
 .by_cases hc:c=b
  .subst hc;rw[AHeap.wA] at ec;obtain rfl:=G4 ec;exact hr kv
  .rw[AHeap.wB _ _ hc] at ec;exact(a.rep c co ec).mono kv fun o ho=>(hs.2 c hc).trans ho
 .by_cases hc:c=b
  .subst hc;exact a.own _ _ e hro
  .rw[AHeap.wB _ _ hc] at ec;exact a.own c co ec hr'
 .obtain⟨h1,h2⟩:=a.ff L hL;have hc:L≠b:=by rintro rfl;rw[e] at h1;exact absurd h1 (fJ _)
  exact⟨by rw[AHeap.wB _ _ hc];exact h1,h2.kept fun o ho=>(hs.2 L hc).trans ho⟩
theorem Step.store{B:Addr->Prop}{b:Addr}{old ao:AO}{h':Heap}(t:Nat)(e:U b=some old)(hro:old.ro=false)(hs:Heap.SameBut b s.heap h'):Step B U s (U.set b ao) { s with heap:=h',toks:=t }:=
 .mk' (fun c o ho hc _=>(hs.2 c (by rintro rfl;rw[e] at hc;cases hc)).trans ho) (fun c h1 h2=>by
  by_cases hc:c=b
  .subst hc;rw[e] at h2;exact absurd h2 (fJ _)
  .rw[AHeap.wB _ _ hc] at h1;exact absurd h2 h1) (pC hs.1.symm) (zdx (zky e hro))
theorem At.aside(a:At X U s){b:Addr}{h':Heap}(t:Nat)(e:U b=none)(hb:X.h₀.get? b=none)(hn:∀o,s.heap.get? b=some o->¬qI o)(hd:b∈X.fr->IsD h' b)(hs:Heap.SameBut b s.heap h') :
  At X U { s with heap:=h',toks:=t }:=by
 have kv:KeepV U s.heap U h':=.mk' fun c o ho st=>by
  have hc:c≠b:=by rintro rfl;exact hn _ ho st
  rw[hs.2 c hc];exact ho
 refine⟨fun c o ho=>?_,fun c co ec=>?_,a.own,a.gens,a.os,fun L hL=>⟨(a.ff L hL).1,?_⟩⟩
 .have hc:c≠b:=by rintro rfl;rw[hb] at ho;exact absurd (Eq.symm ho) (fJ _)
  exact(hs.2 c hc).trans (a.keep c o ho)
 .have hc:c≠b:=by rintro rfl;rw[e] at ec;exact absurd (Eq.symm ec) (fJ _)
  exact(a.rep c co ec).mono kv fun o ho=>(hs.2 c hc).trans ho
 .by_cases hc:L=b
  .subst hc;exact hd hL
  .exact(a.ff L hL).2.kept fun o ho=>(hs.2 L hc).trans ho
theorem Step.aside{B:Addr->Prop}{b:Addr}{h':Heap}(t:Nat)(hB:B b)(hs:Heap.SameBut b s.heap h'):Step B U s U { s with heap:=h',toks:=t }:=
 .same (fun c o ho hc=>(hs.2 c (by rintro rfl;exact hc hB)).trans ho) (pC hs.1.symm)
end
abbrev Loc:=List (Option AV)
noncomputable def RepO(U:AHeap)(h:Heap):Option AV->Option Value->Prop
 | none,_=>True
 | some a,some v=>RepV U h a v
 | some _,none=>False
theorem RepO.mono{U U':AHeap}{h h':Heap}(k:KeepV U h U' h'){a:Option AV}{v:Option Value}(r:RepO U h a v):RepO U' h' a v:=by
 cases a with
 | none=>trivial
 | some _=>cases v with
  | none=>exact r.elim
  | some _=>exact RepV.mono k r
structure EnvOk(env:Env):Prop where
 kind:env.scope.kind = .function
 glob:env.globals=Gr
 bi:env.builtins=builtinsNs
 apart:env.cells.Pairwise fun x y=>x.2≠y.2
def zu4(nm:List (Str×Nat))(n:Nat):Prop:=(∀x i,nm.lookup x=some i->i<n)/\∀x y i,nm.lookup x=some i->nm.lookup y=some i->x=y
noncomputable def kI(nm:List (Str×Nat)):Nat:=nm.foldl (fun n p=>max n (p.2+1)) 0
structure FR(X:Cx)(env:Env)(nm:List (Str×Nat))(l:Loc)(U:AHeap)(h:Heap):Prop where
 ns:∃m,h.Ns env.locals m/\∀x i,nm.lookup x=some i->env.kindOf x=some .local->RepO U h (l.getD i none) (m x)
 cell:∀x i,nm.lookup x=some i->env.kindOf x=some .cell->∃c v,env.cells.lookup x=some c/\h.IsCell c v/\RepO U h (l.getD i none) v
 out:U env.locals=none/\X.h₀.get? env.locals=none
 nmok:zu4 nm l.length
 len:l.length=kI nm
 outc:∀x c,(x,c)∈env.cells->U c=none/\X.h₀.get? c=none/\∃v,h.IsCell c v
def FB(env:Env):Addr->Prop:=fun b=>b=env.locals\/∃x,(x,b)∈env.cells
section
variable{X:Cx}{env:Env}{nm:List (Str×Nat)}{l:Loc}{U U':AHeap}{s s':Shared}
theorem zbd{o:Obj}{es n}(hd:o.data = .dict es n):¬qI o:=by
 rintro(⟨_,_,_,h⟩|⟨_,_,h⟩|⟨_,_,_,h⟩)<;>(rw[hd] at h;cases h)
theorem zh1{o:Obj}{v}(hd:o.data = .cell v):¬qI o:=by
 rintro(⟨_,_,_,h⟩|⟨_,_,h⟩|⟨_,_,_,h⟩)<;>(rw[hd] at h;cases h)
theorem zag{h:Heap}{a:Addr}{m}(n:h.Ns a m):∀o,h.get? a=some o->¬qI o:=by
 intro o e;refine jm n fun o' es ep ho hd _=>?_;rw[e] at ho;obtain rfl:=G4 ho;exact zbd hd
theorem kX{h:Heap}{a:Addr}{v}(n:h.IsCell a v):∀o,h.get? a=some o->¬qI o:=by
 intro o e;refine zb n fun o' ho hd=>?_;rw[e] at ho;obtain rfl:=G4 ho;exact zh1 hd
theorem znl{h:Heap}{a:Addr}{m}(n:h.Ns a m):IsD h a:=by refine jm n fun o es ep ho hd _=>?_;exact qU o es ep ho hd
theorem znk{h:Heap}{a:Addr}{v}(n:h.IsCell a v):¬IsD h a:=by
 intro hR1;refine jD hR1 fun o es ep ho hd=>?_;refine zb n fun o' ho' hd'=>?_;rw[ho] at ho';obtain rfl:=G4 ho';rw[hd] at hd';cases hd'
theorem zbO{h:Heap}{a b:Addr}{m v}(n:h.Ns a m)(c:h.IsCell b v):a≠b:=by
 rintro rfl;refine jm n fun o' es ep ho hd _=>?_;refine zb c fun o ho' hd'=>?_;rw[ho] at ho';obtain rfl:=G4 ho';rw[hd] at hd';cases hd'
theorem FR.noStay(F:FR X env nm l U s.heap):NoStay (FB env) s.heap:=by
 rintro b o (rfl|⟨x,hx⟩) e
 .refine zb F.ns fun m hn _=>?_;exact zag hn o e
 .refine qN (F.outc x b hx) fun _ _ v hc=>?_;exact kX hc o e
theorem FR.stepB{B:Addr->Prop}(F:FR X env nm l U s.heap)(a:At X U s)(st:Step B U s U' s')(hB:∀b,FB env b->¬B b)(hn:NoStay B s.heap):FR X env nm l U' s'.heap:=by
 have kv:=st.keepV a hn;refine zb F.ns fun m h29_1 hm=>?_;refine jm h29_1 fun o es ep ho hd r=>?_;obtain⟨sl,ho'⟩:=st.keepD _ _ ho F.out.1 (hB _ (.inl rfl));have cellK:∀x c o v,(x,c)∈env.cells->s.heap.get? c=some o->o.data = .cell v->U c=none->s'.heap.get? c=some o:=fun x c o v hx e hd h=>st.keep c o e h (hB c (.inr ⟨x,hx⟩)) fun es n q=>by rw[hd] at q;cases q
 refine⟨(zc m (kr _ es ep ho' hd r) (fun x i hx hk=>(hm x i hx hk).mono kv)),fun x i hx hk=>?_,⟨st.gone ho F.out.1,F.out.2⟩,F.nmok,F.len,fun x c hx=>?_⟩
 .refine zp (F.cell x i hx hk) fun c v hc h31_3 hr=>?_;refine zb h31_3 fun o ho hd=>?_;exact zP c v hc (zc o (cellK x c o v (mem_of_lookup hc) ho hd (F.outc x c (mem_of_lookup hc)).1) hd) (hr.mono kv)
 .refine qN (F.outc x c hx) fun h1 h2 v h32_3=>?_;refine zb h32_3 fun o ho hd=>?_;exact kq (st.gone ho h1) h2 v (zc o (cellK x c o v hx ho hd h1) hd)
theorem FR.step(F:FR X env nm l U s.heap)(a:At X U s)(st:Step E0 U s U' s'):FR X env nm l U' s'.heap:=F.stepB a st (fun _ _ h=>h) .e0
theorem zb9(l:Loc)(i j:Nat)(v:Option AV)(hi:i<l.length):(l.set i v).getD j none=if j=i then v else l.getD j none:=by
 simp only[fT,List.getElem?_set]
 by_cases h:i=j
 .subst h;simp[hi]
 .have:¬j=i:=fun e=>h e.symm;simp[h,this]
theorem zfJ{M:Model}{A:Around}{E:Value->Shared->Prop}{x:Str}{i:Nat}{av:AV}{v:Value}{Q:Unit->Shared->Prop}(EO:EnvOk env)(F:FR X env nm l U s.heap)(a:At X U s)
  (hx:nm.lookup x=some i)(hk:env.kindOf x=some .local)(hv:RepV U s.heap av v)
  (h:∀s',FR X env nm (l.set i (some av)) U s'.heap->At X U s'->Step (fun b=>b=env.locals) U s U s'->Q () s'):wpAny M A (storeName env x v) Q E s:=by
 have N:=F.nmok;refine zb F.ns fun m hn hm=>?_;refine wpAny_storeName_local hk hn (fun h' hn' hs'=>?_) (by rw[EO.kind];rfl);have kv:KeepV U s.heap U h':=.mk' fun b o e st=>(hs'.2 b (by rintro rfl;exact zag hn o e st)).trans e;refine h _ ⟨(zc _ hn' (fun y j hy hky=>?_)),fun y j hy hky=>?_,F.out,by simpa using N,by simpa using F.len,fun y c hy=>?_⟩ (a.aside _ F.out.1 F.out.2 (zag hn) (fun _=>znl hn') hs') (Step.aside _ rfl hs')
 .rw[zb9 _ _ _ _ (N.1 x i hx)]
  by_cases hyx:y=x
  .subst hyx;rw[hx] at hy;obtain rfl:=G4 hy;simp only[if_true];exact hv.mono kv
  .have:j≠i:=fun e=>hyx (N.2 y x i (e▸hy) hx);simp only[hyx,this,if_false];exact(hm y j hy hky).mono kv
 .refine zp (F.cell y j hy hky) fun c u hc hcc hr=>?_;have hyx:y≠x:=by rintro rfl;rw[hk] at hky;cases hky
  have hji:j≠i:=fun e=>hyx (N.2 y x i (e▸hy) hx);rw[zb9 _ _ _ _ (N.1 x i hx),if_neg hji];exact zP c u hc (hcc.sameBut hs' (Ne.symm (zbO hn hcc))) (hr.mono kv)
 .refine qN (F.outc y c hy) fun h1 h2 u hcc=>?_;exact kq h1 h2 u (hcc.sameBut hs' (Ne.symm (zbO hn hcc)))
theorem zeK{M:Model}{A:Around}{E:Value->Shared->Prop}{x:Str}{i:Nat}{av:AV}{v:Value}{Q:Unit->Shared->Prop}(EO:EnvOk env)(F:FR X env nm l U s.heap)(a:At X U s)
  (hx:nm.lookup x=some i)(hk:env.kindOf x=some .local\/env.kindOf x=some .cell)(hv:RepV U s.heap av v)
  (h:∀s',FR X env nm (l.set i (some av)) U s'.heap->At X U s'->Step (FB env) U s U s'->Q () s'):wpAny M A (storeName env x v) Q E s:=by
 have N:=F.nmok
 rcases hk with hk|hk
 .exact zfJ EO F a hx hk hv fun s' F' a' st=>h s' F' a' (st.weaken fun b hb=>.inl hb)
 .refine zb F.ns fun m hn hm=>?_;refine zp (F.cell x i hx hk) fun c u hc hcc hr=>?_;refine wpAny_storeName_cell EO.kind hk hc hcc fun h' hcc' hs'=>?_;have kv:KeepV U s.heap U h':=.mk' fun b o e st=>(hs'.2 b (by rintro rfl;exact kX hcc o e st)).trans e;have oc:=F.outc x c (mem_of_lookup hc);refine h { s with heap:=h' } ⟨(zc m (hn.sameBut hs' (zbO hn hcc)) (fun y j hy hky=>?_)),fun y j hy hky=>?_,F.out,by simpa using N,by simpa using F.len,fun y c' hy=>?_⟩ (a.aside (t:=s.toks) (h':=h') oc.1 oc.2.1 (kX hcc) (fun hL=>((znk hcc) (a.ff _ hL).2).elim) hs')
   (Step.aside (t:=s.toks) (h':=h') (Or.inr ⟨x,mem_of_lookup hc⟩) hs')
  .have hyx:y≠x:=by rintro rfl;rw[hk] at hky;cases hky
   have hji:j≠i:=fun e=>hyx (N.2 y x i (e▸hy) hx);rw[zb9 _ _ _ _ (N.1 x i hx),if_neg hji];exact(hm y j hy hky).mono kv
  .rw[zb9 _ _ _ _ (N.1 x i hx)]
   by_cases hyx:y=x
   .subst hyx;rw[hx] at hy;obtain rfl:=G4 hy;simp only[if_true];exact zP c (some v) hc hcc' (hv.mono kv)
   .have hji:j≠i:=fun e=>hyx (N.2 y x i (e▸hy) hx);simp only[hji,if_false];refine zp (F.cell y j hy hky) fun c' u' hc' hcc'' hr'=>?_;refine zP c' u' hc' (hcc''.sameBut hs' ?_) (hr'.mono kv);rintro rfl;exact hyx (name_of_addr EO.apart (mem_of_lookup hc') (mem_of_lookup hc))
  .refine qN (F.outc y c' hy) fun h1 h2 u' hcc''=>?_
   by_cases hcc3:c'=c
   .subst hcc3;exact kq h1 h2 _ hcc'
   .exact kq h1 h2 u' (hcc''.sameBut hs' hcc3)
theorem zpS{M:Model}{A:Around}{E:Value->Shared->Prop}{x:Str}{i:Nat}{av:AV}{Q:Value->Shared->Prop}(EO:EnvOk env)(F:FR X env nm l U s.heap)
  (hx:nm.lookup x=some i)(hk:env.kindOf x=some .local\/env.kindOf x=some .cell)(hl:l.getD i none=some av)(h:∀v,RepV U s.heap av v->Q v s):wpAny M A (loadName env x) Q E s:=by
 rcases hk with hk|hk
 .refine zb F.ns fun m hn hm=>?_;have hr:=hm x i hx hk;rw[hl] at hr;cases hv:m x with
  | none=>rw[hv] at hr;exact hr.elim
  | some v=>rw[hv] at hr;exact wpAny_loadName_local EO.kind hk hn hv (h v hr)
 .refine zp (F.cell x i hx hk) fun c u hc hcc hr=>?_;rw[hl] at hr;cases u with
  | none=>exact hr.elim
  | some v=>exact wpAny_loadName_cell EO.kind hk hc hcc (h v hr)
end
def zeX(n:Nat)(P:Prop):Prop:=match Nat.ble n 1000000 with
 | true=>P
 | false=>False
theorem zG{n:Nat}{P:Prop}(h:n<=1000000)(q:P):zeX n P:=by unfold zeX;rw[fAX h];exact q
theorem kK{n:Nat}{P:Prop}(h:zeX n P):n<=1000000/\P:=by
 unfold zeX at h;cases e:Nat.ble n 1000000 with
 | true=>rw[e] at h;exact⟨gT e,h⟩
 | false=>rw[e] at h;exact h.elim
def zw{J:Type}(o:Option J)(F:J->Prop):Prop:=match o with
 | some a=>F a
 | none=>False
theorem ze{J:Type}{o:Option J}{F:J->Prop}{a:J}(h:o=some a)(q:F a):zw o F:=by rw[h];exact q
theorem zg{J:Type}{o:Option J}{F:J->Prop}(h:zw o F):∃a,o=some a/\F a:=by
 cases o with
 | none=>exact h.elim
 | some a=>exact zc a rfl h
def onB(b:Bool)(P:Prop):Prop:=match b with
 | true=>P
 | false=>False
theorem qw{b:Bool}{P:Prop}(h:b=true)(q:P):onB b P:=by rw[h];exact q
theorem qP{b:Bool}{P:Prop}(h:onB b P):b=true/\P:=by
 cases b with
 | false=>exact h.elim
 | true=>exact⟨rfl,h⟩
noncomputable def AV.int? : AV->Option Int
 | .int i=>some i
 | _=>Option.none
noncomputable def AV.bool? : AV->Option Bool
 | .bool i=>some i
 | _=>Option.none
noncomputable def AV.str? : AV->Option Nat
 | .str i=>some i
 | _=>Option.none
noncomputable def AV.tup? : AV->Option (List AV)
 | .tup i=>some i
 | _=>Option.none
theorem jj{x:AV}{i:Int}(h:x.int? = some i):x = .int i:=by
 cases x with
 | int j=>cases h;rfl
 | _=>cases h
theorem zaW{x:AV}{i:Bool}(h:x.bool? = some i):x = .bool i:=by
 cases x with
 | bool j=>cases h;rfl
 | _=>cases h
theorem zpz{x:AV}{i:Nat}(h:x.str? = some i):x = .str i:=by
 cases x with
 | str j=>cases h;rfl
 | _=>cases h
theorem zpJ{x:AV}{i:List AV}(h:x.tup? = some i):x = .tup i:=by
 cases x with
 | tup j=>cases h;rfl
 | _=>cases h
def cB(c:Bool)(P R:Prop):Prop:=match c with
 | true=>P
 | false=>R
theorem kh{c:Bool}{P R:Prop}(h1:c=true->P)(h2:c=false->R):cB c P R:=by
 cases c with
 | true=>exact h1 rfl
 | false=>exact h2 rfl
abbrev zm:=AV->AHeap->Prop
abbrev XP:=Addr->AHeap->Prop
structure Dp where
 n:Nat
 hd:Bool
abbrev AE:=Dp->Loc->zm->XP->AHeap->Prop
structure FrOk(X:Cx)(envs:List Env):Prop where
 is:∀e∈envs,e.scope.kind≠.module/\∃L,e.frame=some L/\L∈X.fr
 out:∀L∈X.fr,X.h₀.get? L=none
structure Live(X:Cx)(d:Dp)(A:Around):Prop where
 depth:A.depth<=301+d.n
 units:A.units<=20+8*d.n
 handled:d.hd=false->A.handled=none
 small:d.n<=600
 frames:∃envs,A.frames=some envs/\FrOk X envs/\∀e,X.top=some e->∃outer,envs=e::outer
theorem Live.room{X:Cx}{d:Dp}{A:Around}(L:Live X d A):A.units+3000<cLine:=by
 have h1:=L.units;have h2:=L.small;show A.units+3000<9900;exact zDQ h1 h2
noncomputable def vis(U:AHeap):AHeap:=fun a=>match U a with
 | some (.frz _)=>none
 | o=>o
theorem zK{U:AHeap}{a:Addr}{o:AO}(h:vis U a=some o):U a=some o/\o.ro=false:=by
 unfold vis at h;split at h
 .exact absurd (Eq.symm h) (fJ _)
 .rename_i hne
  refine⟨h,?_⟩;cases o with
  | frz xs=>exact(hne _ h).elim
  | _=>rfl
theorem zj4{U:AHeap}{a:Addr}{o:AO}(h:U a=some o)(ho:o.ro=false):vis U a=some o:=by
 unfold vis;split
 .rename_i e;rw[e] at h;obtain rfl:=G4 h;cases ho
 .exact h
theorem qy{U:AHeap}{a:Addr}(h:U a=none):vis U a=none:=by
 unfold vis;rw[h]
theorem jz{U:AHeap}{a:Addr}{o:AO}(ho:o.ro=false):vis (U.set a o)=(vis U).set a o:=by
 funext b
 by_cases hb:b=a
 .subst hb;rw[AHeap.wA,zj4 (AHeap.wA ..) ho]
 .rw[AHeap.wB _ _ hb];unfold vis;rw[AHeap.wB _ _ hb]
theorem zgO{U:AHeap}{a:Addr}{xs:List AV}(h:U a=none):vis (U.set a (.frz xs))=vis U:=by
 funext b
 by_cases hb:b=a
 .subst hb;unfold vis;rw[AHeap.wA,h]
 .unfold vis;rw[AHeap.wB _ _ hb]
def New(U:AHeap)(s:Shared)(x:Addr):Prop:=∀o,s.heap.get? x=some o->U x≠none
theorem New.back{B:Addr->Prop}{U U':AHeap}{s s':Shared}{x:Addr}(st:Step B U s U' s')(hB:¬B x)(h:New U' s' x):New U s x:=fun o e q=>by
 obtain⟨sl,e'⟩:=st.keepD x o e q hB;exact h _ e' (st.gone e q)
structure Fly(X:Cx)(U:AHeap)(g:Heap)(x c:Addr)(h:Heap):Prop where
 keepS:∀b o,g.get? b=some o->b≠x->∃sl,h.get? b=some { o with slots:=sl }
 keepX:∀b o,g.get? b=some o->b≠x->((∀es n,o.data≠.dict es n)\/U b≠none\/X.h₀.get? b≠none)->h.get? b=some o
 exg:∃vs,g.get? x=some (exO c vs)
 size:g.objs.size<=h.objs.size
 exh:∃vs,h.get? x=some (exO c vs)/\(vs[1]? = some .none\/∃T tc ts,vs[1]? = some (.ref T)/\T≠x/\g.get? T=none/\h.get? T=some { cls:=tc,dict:=none,data:=.fields ts,slots:=#[] }/\ts[3]? = some .none)
def liftQ(X:Cx)(U:AHeap)(s:Shared)(Q:zm):Value->Shared->Prop:=
 fun v s'=>∃av U',RepV U' s'.heap av v/\At X U' s'/\Step E0 U s U' s'/\Q av (vis U')
def liftX(X:Cx)(U:AHeap)(s:Shared)(Z:XP):Value->Shared->Prop:=
 fun e s'=>∃c U' x g,e = .ref x/\New U s x/\At X U' { s' with heap:=g }/\Step E0 U s U' { s' with heap:=g }/\Fly X U' g x c s'.heap/\Z c (vis U')
def liftB(X:Cx)(U:AHeap)(s:Shared)(Q:Bool->AHeap->Prop):Bool->Shared->Prop:=
 fun b s'=>∃U',At X U' s'/\Step E0 U s U' s'/\Q b (vis U')
def zql(X:Cx)(U:AHeap)(s:Shared)(Q:List AV->AHeap->Prop):List Value->Shared->Prop:=
 fun vs s'=>∃avs U',RepVs U' s'.heap avs vs/\At X U' s'/\Step E0 U s U' s'/\Q avs (vis U')
section
variable{X:Cx}{A:Around}{U U':AHeap}{s s':Shared}{Z:XP}
theorem liftX.back{e:Value}{s'':Shared}(st:Step E0 U s U' s')(h:liftX X U' s' Z e s''):liftX X U s Z e s'':=
 by refine jM h fun c U'' x g h1 h2 a st' f z=>?_;exact qp c U'' x g h1 (h2.back st (fun h=>h)) a (st.trans st') f z
theorem liftQ.back{Q:zm}{v:Value}{s'':Shared}(st:Step E0 U s U' s')(h:liftQ X U' s' Q v s''):liftQ X U s Q v s'':=
 by refine zj h fun av U'' r a st' q=>?_;exact zr av U'' r a (st.trans st') q
theorem liftB.back{Q:Bool->AHeap->Prop}{v:Bool}{s'':Shared}(st:Step E0 U s U' s')(h:liftB X U' s' Q v s''):liftB X U s Q v s'':=
 by refine zk h fun U'' a st' q=>?_;exact zv U'' a (st.trans st') q
theorem zak{J:Type}{t:Sem Value}{f:Value->Sem J}{Q1:zm}{R:Value->J->Shared->Prop}(h:wpAny X.M A t (liftQ X U s Q1) (liftX X U s Z) s)
  (k:∀av v σ1 s1,RepV σ1 s1.heap av v->At X σ1 s1->Step E0 U s σ1 s1->Q1 av (vis σ1)->wpAny X.M A (f v) (R v) (liftX X U s Z) s1) :
  wpAny X.M A t (fun v s1=>wpAny X.M A (f v) (R v) (liftX X U s Z) s1) (liftX X U s Z) s:=
 Gc h (fun v s1 hpz=>zj hpz fun av σ1 r a st q=>k av v σ1 s1 r a st q) fun _ _ e=>e
theorem jX{t:Sem Value}{Q:zm}(st:Step E0 U s U' s')(h:wpAny X.M A t (liftQ X U' s' Q) (liftX X U' s' Z) s'):wpAny X.M A t (liftQ X U s Q) (liftX X U s Z) s':=
 Gc h (fun _ _ h=>h.back st) fun _ _ h=>h.back st
theorem ze7{t:Sem Bool}{Q:Bool->AHeap->Prop}(st:Step E0 U s U' s')(h:wpAny X.M A t (liftB X U' s' Q) (liftX X U' s' Z) s'):wpAny X.M A t (liftB X U s Q) (liftX X U s Z) s':=
 Gc h (fun _ _ h=>h.back st) fun _ _ h=>h.back st
theorem zbS{Q:zm}{av:AV}{v:Value}(a:At X U s)(r:RepV U s.heap av v)(q:Q av (vis U)):liftQ X U s Q v s:=(zr av U r a (.refl ..) q)
theorem zai{Q:zm}{av:AV}{v:Value}{t:Nat}(a:At X U s)(r:RepV U s.heap av v)(q:Q av (vis U)):liftQ X U s Q v { s with toks:=t }:=(zr av U r (a.toks t) (.toks ..) q)
end
def zh(X:Cx)(env:Env)(nm:List (Str×Nat))(e:Expr)(m:AE):Prop:=
 ∀d A l U s Q Z,Live X d A->At X U s->FR X env nm l U s.heap->m d l Q Z (vis U)->wpAny X.M A (eval e env) (liftQ X U s Q) (liftX X U s Z) s
def isB(Q:Bool->AHeap->Prop):zm:=fun a U=>zw a.bool? fun b=>Q b U
def qM(X:Cx)(env:Env)(nm:List (Str×Nat))(e:Expr)(m:AE):Prop:=
 ∀d A l U s Q Z,Live X d A->At X U s->FR X env nm l U s.heap->m d l (isB Q) Z (vis U)->wpAny X.M A (isTrue e env (eval e env)) (liftB X U s Q) (liftX X U s Z) s
namespace A
def kAt(Q:zm)(U:AHeap)(a:AV):Prop:=Q a U
def loc(i:Nat):AE:=fun _ l Q _ U=>zw (l.getD i none) (kAt Q U)
def k(a:AV):AE:=fun _ _ Q _ U=>Q a U
end A
section
variable{X:Cx}{env:Env}{nm:List (Str×Nat)}
theorem zl4{x:Str}{pos:Pos}{i:Nat}(EO:EnvOk env)(hx:nm.lookup x=some i)(hk:env.kindOf x=some .local\/env.kindOf x=some .cell)(hd:(x==("__debug__" : Str))=false) :
  zh X env nm (.Name x pos) (A.loc i):=fun d A l U s Q Z L a F q=>by
 refine zb (zg q) fun av hl q=>?_;exact wpAny_Name (zpS EO F hx hk hl fun v r=>zbS a r q) hd
theorem zl1{i:Int}{k pos}:zh X env nm (.Constant (.int i) k pos) (A.k (.int i)):=fun d A l U s Q Z L a F q=>
 wpAny_Constant_int (zai a (.int _ _) q)
theorem zmd{x:Str}{n:Nat}(hn:n<zal)(hx:zy n=x){k pos}:zh X env nm (.Constant (.str x) k pos) (A.k (.str n)):=fun d A l U s Q Z L a F q=>by
 subst hx;exact fun _ _ _=>zai a (.str hn _) q
theorem zjU{k pos}:zh X env nm (.Constant .none k pos) (A.k .none):=fun d A l U s Q Z L a F q=>Gb (zbS a .none q)
theorem zjO{b:Bool}{k pos}:zh X env nm (.Constant (.bool b) k pos) (A.k (.bool b)):=fun d A l U s Q Z L a F q=>Gb (zbS a (.bool b) q)
theorem zlQ{e:Expr}{m:AE}(h:zh X env nm e m)(he:∀whole,isTrue e env whole=(do let v <-whole;standAt e.pos;holding [v] (truthy v))):qM X env nm e m:=fun d A l U s Q Z L a F q=>by
 rw[he];refine Ga (zak (h d A l U s (isB Q) Z L a F q) fun av v σ1 s1 r a1 st hpx=>?_);refine zb (zg hpx) fun b e q1=>?_;have e:=zaW e;subst e;obtain rfl:=RepV.wN r;exact Ga (Gm (Ge (wpAny_truthy_bool (zv σ1 a1 st q1))))
end
inductive Fl where
 | next
 | ret (v:AV)
abbrev jt:=Fl->Loc->AHeap->Prop
abbrev SXP:=Addr->Loc->AHeap->Prop
abbrev AS:=Dp->Loc->jt->SXP->AHeap->Prop
noncomputable def zqd(U:AHeap)(h:Heap):Fl->Flow->Prop
 | .next,.next=>True
 | .ret a,.ret v=>RepV U h a v
 | _,_=>False
def liftS(X:Cx)(env:Env)(nm:List (Str×Nat))(U:AHeap)(s:Shared)(Q:jt):Flow->Shared->Prop:=
 fun f s'=>∃fl l' U',zqd U' s'.heap fl f/\At X U' s'/\FR X env nm l' U' s'.heap/\Step (FB env) U s U' s'/\Q fl l' (vis U')
def liftSX(X:Cx)(env:Env)(nm:List (Str×Nat))(U:AHeap)(s:Shared)(Z:SXP):Value->Shared->Prop:=
 fun e s'=>∃c l' U' x g,e = .ref x/\(New U s x/\¬FB env x)/\At X U' { s' with heap:=g }/\FR X env nm l' U' g/\Step (FB env) U s U' { s' with heap:=g }/\Fly X U' g x c s'.heap/\Z c l' (vis U')
def jl(X:Cx)(env:Env)(nm:List (Str×Nat))(st:Stmt)(m:AS):Prop:=
 ∀d A l U s Q Z,Live X d A->At X U s->FR X env nm l U s.heap->m d l Q Z (vis U)->wpAny X.M A (exec st env) (liftS X env nm U s Q) (liftSX X env nm U s Z) s
def j6(X:Cx)(env:Env)(nm:List (Str×Nat))(sts:List Stmt)(m:AS):Prop:=
 ∀d A l U s Q Z,Live X d A->At X U s->FR X env nm l U s.heap->m d l Q Z (vis U)->wpAny X.M A (execs sts env) (liftS X env nm U s Q) (liftSX X env nm U s Z) s
namespace A
def nil:AS:=fun d l Q Z U=>Q .next l U
def zvF(b:AS)(d:Dp)(Q:jt)(Z:SXP):jt:=fun f l' U'=>match f with|.next=>b d l' Q Z U'|.ret v=>Q (.ret v) l' U'
def kZ(Z:SXP)(l:Loc):XP:=fun c U'=>Z c l U'
def zvG(i:Nat)(l:Loc)(Q:jt):zm:=fun a U'=>Q .next (l.set i (some a)) U'
def zvD(l:Loc)(Q:jt):zm:=fun a U'=>Q (.ret a) l U'
def kIf(a b:AS)(d:Dp)(l:Loc)(Q:jt)(Z:SXP)(c:Bool)(U':AHeap):Prop:=cB c (a d l Q Z U') (b d l Q Z U')
def noX:SXP:=fun _ _ _=>False
def vC(I:AHeap->Prop)(K:Loc->AHeap->Prop)(S:jt):jt:=fun f l'' U'=>match f with|.next=>I U'/\K l'' U'|.ret v=>S (.ret v) l'' U'
def cons(a b:AS):AS:=fun d l Q Z U=>a d l (zvF b d Q Z) Z U
def set(i:Nat)(x:AE):AS:=fun d l Q Z U=>x d l (zvG i l Q) (kZ Z l) U
def ret(x:AE):AS:=fun d l Q Z U=>x d l (zvD l Q) (kZ Z l) U
def vF:AS:=fun d l Q Z U=>Q (.ret .none) l U
def if_(t:AE)(a b:AS):AS:=fun d l Q Z U=>t d l (isB (kIf a b d l Q Z)) (kZ Z l) U
def w3(t:AE)(a:AS):AS:=fun d l Q Z U=>∃(Ja:Nat->Loc->AHeap->Prop) (n:Nat),Ja n l U/\∀n l U,Ja n l U->
 t d l (isB fun c U'=>cB c (a d l (fun f l' U''=>match f with|.next=>∃m,m<n/\Ja m l' U''|.ret v=>Q (.ret v) l' U'') (fun _ _ _=>False) U') (Q .next l U')) (fun _ _=>False) U
end A
section
variable{X:Cx}{env:Env}{nm:List (Str×Nat)}{U U':AHeap}{s s':Shared}
theorem FB.wP(b:Addr)(h:E0 b):FB env b:=h.elim
theorem liftS.back{Q:jt}{f:Flow}{s'':Shared}(st:Step (FB env) U s U' s')(h:liftS X env nm U' s' Q f s''):liftS X env nm U s Q f s'':=
 by refine qd h fun fl l' U'' r a F st' q=>?_;exact zM fl l' U'' r a F (st.trans st') q
theorem liftSX.back{Z:SXP}{e:Value}{s'':Shared}(st:Step (FB env) U s U' s')(h:liftSX X env nm U' s' Z e s''):liftSX X env nm U s Z e s'':=
 by refine kl h fun c l' U'' x g h1 h2 a F st' f q=>?_;exact qq c l' U'' x g h1 ⟨h2.1.back st h2.2,h2.2⟩ a F (st.trans st') f q
theorem FB.w6{l:Loc}{g:Heap}{x c:Addr}(F:FR X env nm l U g)(h:∃vs,g.get? x=some (exO c vs)):¬FB env x:=by
 obtain⟨vs,h1⟩:=h;rintro(rfl|⟨y,hy⟩)
 .refine zb F.ns fun m h3_1 _=>?_;refine jm h3_1 fun o' es ep h3 h4 _=>?_;rw[h1] at h3;obtain rfl:=G4 h3;cases h4
 .refine zb1 (F.outc y x hy) fun _ _ v o' h3 h4=>?_;rw[h1] at h3;obtain rfl:=G4 h3;cases h4
theorem liftX.toS{l:Loc}{Z:SXP}{e:Value}{s'':Shared}(a0:At X U s)(F:FR X env nm l U s.heap)(h:liftX X U s (fun c U'=>Z c l U') e s''):liftSX X env nm U s Z e s'':=
 by refine jM h fun c U'' x g h1 h2 a st' f q=>?_;exact qq c l U'' x g h1 ⟨h2,FB.w6 (F.step a0 st') f.exg⟩ a (F.step a0 st') (st'.weaken FB.wP) f q
theorem inS{J:Type}{A:Around}{l:Loc}{t:Sem Value}{f:Value->Sem J}{Q1:zm}{Z:SXP}{R:J->Shared->Prop}{E:Value->Shared->Prop}(a0:At X U s)(F:FR X env nm l U s.heap)
  (h:wpAny X.M A t (liftQ X U s Q1) (liftX X U s fun c U'=>Z c l U') s)(hE:∀e s',liftSX X env nm U s Z e s'->E e s')
  (k:∀av v σ1 s1,RepV σ1 s1.heap av v->At X σ1 s1->FR X env nm l σ1 s1.heap->Step (FB env) U s σ1 s1->Step E0 U s σ1 s1->Q1 av (vis σ1)->wpAny X.M A (f v) R E s1) :
  wpAny X.M A t (fun v s1=>wpAny X.M A (f v) R E s1) E s:=
 Gc h (fun v s1 hpz=>zj hpz fun av σ1 r a st q=>k av v σ1 s1 r a (F.step a0 st) (st.weaken FB.wP) st q) fun e s' x=>hE e s' (x.toS a0 F)
theorem zl9:j6 X env nm [] A.nil:=fun d A l U s Q Z L a F q=>wpAny_execs_nil (zM .next l U trivial a F (.refl ..) q)
theorem zjQ{st:Stmt}{sts:List Stmt}{m ms:AS}(h:jl X env nm st m)(hs:j6 X env nm sts ms):j6 X env nm (st::sts) (A.cons m ms):=fun d A l U s Q Z L a F q=>by
 refine wpAny_execs_cons (Gc (h d A l U s _ Z L a F q) (fun f s1 hpx=>?_) fun _ _ e=>e);refine qd hpx fun fl l1 σ1 r a1 F1 st1 q1=>?_;cases f with
 | next=>
  cases fl with
  | next=>exact Gc (hs d A l1 σ1 s1 Q Z L a1 F1 q1) (fun _ _ x=>x.back st1) fun _ _ x=>x.back st1
  | ret v=>exact r.elim
 | ret v=>
  cases fl with
  | next=>exact r.elim
  | ret av=>exact⟨.ret av,l1,σ1,r,a1,F1,st1,q1⟩
 | brk=>cases fl<;>exact r.elim
 | cont=>cases fl<;>exact r.elim
theorem zmc{e:Expr}{pos:Pos}{m:AE}(h:zh X env nm e m):jl X env nm (.Return (some e) pos) (A.ret m):=fun d A l U s Q Z L a F q=>
 wpAny_Return_some (Gc (h d A l U s _ _ L a F q) (fun v s1 hpz=>zj hpz fun av σ1 r a1 st q1=>(zM (.ret av) l σ1 r a1 (F.step a st) (st.weaken FB.wP) q1)) fun _ _ x=>x.toS a F)
theorem zjW{pos:Pos}:jl X env nm (.Return none pos) A.vF:=fun d A l U s Q Z L a F q=>
 wpAny_Return_none (zM (.ret .none) l U RepV.none a F (.refl ..) q)
theorem zfF{x:Str}{pos' pos:Pos}{value:Expr}{m:AE}{i:Nat}(EO:EnvOk env)(h:zh X env nm value m)(hx:nm.lookup x=some i)(hk:env.kindOf x=some .local\/env.kindOf x=some .cell)
  (hs:swapsWith value (some (.Name x pos')) pos.line env=pure false):jl X env nm (.Assign [.Name x pos'] value pos) (A.set i m):=fun d A l U s Q Z L a F q=>
 wpAny_Assign_Name (inS a F (h d A l U s _ _ L a F q) (fun _ _ e=>e) fun av v σ1 s1 r a1 F1 st _ q1=>
  zeK EO F1 a1 hx hk r fun s2 F2 a2 st2=>(zM .next _ σ1 trivial a2 F2 (st.trans st2) q1)) hs
theorem zol{test:Expr}{body orelse:List Stmt}{pos:Pos}{t:AE}{a b:AS}(ht:qM X env nm test t)(ha:j6 X env nm body a)(hb:j6 X env nm orelse b) :
  jl X env nm (.If test body orelse pos) (A.if_ t a b):=fun d A l U s Q Z L a0 F q=>by
 refine wpAny_If (Gc (ht d A l U s _ _ L a0 F q) (fun c s1 hpx=>?_) fun _ _ x=>x.toS a0 F);refine zk hpx fun σ1 a1 st q1=>?_;have F1:=F.step a0 st;have st':=st.weaken (B':=FB env) FB.wP;cases c with
 | true=>exact Gc (ha d A l σ1 s1 Q Z L a1 F1 q1) (fun _ _ x=>x.back st') fun _ _ x=>x.back st'
 | false=>exact Gc (hb d A l σ1 s1 Q Z L a1 F1 q1) (fun _ _ x=>x.back st') fun _ _ x=>x.back st'
theorem noX{U:AHeap}{s:Shared}{e:Value}{s':Shared}{P:Prop}(h:liftX X U s (fun _ _=>False) e s'):P:=by refine jM h fun _ _ _ _ _ _ _ _ _ z=>?_;exact z.elim
theorem zrg{U:AHeap}{s:Shared}{e:Value}{s':Shared}{P:Prop}(h:liftSX X env nm U s (fun _ _ _=>False) e s'):P:=by refine kl h fun _ _ _ _ _ _ _ _ _ _ _ z=>?_;exact z.elim
theorem zim{test:Expr}{body:List Stmt}{pos:Pos}{t:AE}{m:AS}(ht:qM X env nm test t)(hb:j6 X env nm body m) :
  jl X env nm (.While test body [] pos) (A.w3 t m):=fun d A l U s Q Z L a0 F hpz=>jx hpz fun Ja n hJ hstep=>by
 refine wpAny_While (codeAny_whileLoop (fun n s1=>∃l1 σ1,At X σ1 s1/\FR X env nm l1 σ1 s1.heap/\Step (FB env) U s σ1 s1/\Ja n l1 (vis σ1)) ?_ n (zr l U a0 F (.refl ..) hJ));intro n s1 hR1;refine zj hR1 fun l1 σ1 a1 F1 st1 hJ1=>?_;refine Gc (ht d A l1 σ1 s1 _ _ L a1 F1 (hstep n l1 (vis σ1) hJ1)) (fun c s2 hpx=>?_) fun _ _ x=>noX x;refine zk hpx fun σ2 a2 st2 q2=>?_;have F2:=F1.step a1 st2;have st2':=st1.trans (st2.weaken (B':=FB env) FB.wP);cases c with
 | true=>
  refine Gc (hb d A l1 σ2 s2 _ _ L a2 F2 q2) (fun f s3 hpx=>?_) fun _ _ x=>zrg x;refine qd hpx fun fl l3 σ3 r a3 F3 st3 q3=>?_;cases f with
  | next=>
   cases fl with
   | next=>refine zb q3 fun k hk hJ3=>?_;exact zi8 k hk l3 σ3 a3 F3 (st2'.trans st3) hJ3
   | ret v=>exact r.elim
  | ret v=>
   cases fl with
   | next=>exact r.elim
   | ret av=>exact zM (.ret av) l3 σ3 r a3 F3 (st2'.trans st3) q3
  | brk=>cases fl<;>exact r.elim
  | cont=>cases fl<;>exact r.elim
 | false=>
  exact wpAny_execs_nil (zM .next l1 σ2 trivial a2 F2 st2' q2)
end
inductive Tgt where
 | one (i:Nat)
 | many (is:List Nat)
noncomputable def zpx:List Nat->List AV->Loc->Loc
 | i::is,x::xs,l=>zpx is xs (l.set i (some x))
 | _,_,l=>l
noncomputable def k9:Tgt->AV->Loc->Option Loc
 | .one i,x,l=>some (l.set i (some x))
 | .many is,.tup xs,l=>if xs.length=is.length then some (zpx is xs l) else none
 | _,_,_=>none
def Sto(B:Addr->Prop)(env:Env)(x:Str):Prop:=(env.kindOf x=some .local/\∀b,b=env.locals->B b)\/(env.kindOf x=some .cell/\∀b,FB env b->B b)
theorem zfI{X:Cx}{env:Env}{nm:List (Str×Nat)}{l:Loc}{U:AHeap}{s:Shared}{B:Addr->Prop}{M:Model}{A:Around}{E:Value->Shared->Prop}{x:Str}{i:Nat}{av:AV}{v:Value}{Q:Unit->Shared->Prop}(EO:EnvOk env)(F:FR X env nm l U s.heap)(a:At X U s)
  (hx:nm.lookup x=some i)(hk:Sto B env x)(hv:RepV U s.heap av v)
  (h:∀s',FR X env nm (l.set i (some av)) U s'.heap->At X U s'->Step B U s U s'->Q () s'):wpAny M A (storeName env x v) Q E s:=by
 rcases hk with⟨hk,hB⟩|⟨hk,hB⟩
 .exact zfJ EO F a hx hk hv fun s' F' a' st=>h s' F' a' (st.weaken hB)
 .exact zeK EO F a hx (.inr hk) hv fun s' F' a' st=>h s' F' a' (st.weaken hB)
theorem zrB{env:Env}{x:Str}(hk:env.kindOf x=some .local\/env.kindOf x=some .cell):Sto (FB env) env x:=hk.imp (fun h=>⟨h,fun _ h=>.inl h⟩) fun h=>⟨h,fun _ h=>h⟩
def zaR(B:Addr->Prop)(X:Cx)(env:Env)(nm:List (Str×Nat))(target:Expr)(t:Tgt):Prop:=
 ∀d A l l' U s x v (Q:Unit->Shared->Prop) E,Live X d A->d.hd=false->At X U s->FR X env nm l U s.heap->RepV U s.heap x v->k9 t x l=some l'->
  (∀s',FR X env nm l' U s'.heap->At X U s'->Step B U s U s'->Q () s')->wpAny X.M A (assign target env v) Q E s
theorem zjN{B:Addr->Prop}{X:Cx}{env:Env}{nm:List (Str×Nat)}{x:Str}{pos:Pos}{i:Nat}(EO:EnvOk env)(hx:nm.lookup x=some i)(hk:Sto B env x) :
  zaR B X env nm (.Name x pos) (.one i):=fun d A l l' U s y v Q E L hd a F r hb h=>by
 cases hb;exact wpAny_assign_Name (zfI EO F a hx hk r h)
structure ItOk(X:Cx)(A:Around)(target:Expr)(it:Value)(I:AHeap->Prop)(xs:List AV)(W:Addr->Prop)(St:Nat->AHeap->Heap->Prop):Prop where
 stable:∀i U h U' h',St i U h->KeepV U h U' h'->(∀b o,W b->h.get? b=some o->h'.get? b=some o)->St i U' h'
 there:∀i U h b,St i U h->W b->∃o,h.get? b=some o/\¬qI o/\(∀es n,o.data≠.dict es n)/\(∀v,o.data≠.cell v)
 item:∀i x U s (Q:Value->Shared->Prop) (Qn:Option Value->Shared->Prop) E,(∀v s1,wpAny X.M A (letOwnedTupleGo target it v) (fun _ s'=>Q v s') E s1->Qn (some v) s1)->
  xs[i]? = some x->At X U s->I (vis U)->St i U s.heap->(∀b,W b->U b=none/\X.h₀.get? b=none)->
  (∀v s',RepV U s'.heap x v->At X U s'->Step W U s U s'->St (i+1) U s'.heap->Q v s')->wpAny X.M A (pyNext it) Qn E s
 done:∀U s (Q:Option Value->Shared->Prop) E,At X U s->I (vis U)->St xs.length U s.heap->(∀b,W b->U b=none/\X.h₀.get? b=none)->
  (∀s',At X U s'->Step W U s U s'->Q none s')->wpAny X.M A (pyNext it) Q E s
 self:∀i U s (Q:Value->Shared->Prop) E,St i U s.heap->Q it s->wpAny X.M A (pyIter it) Q E s
noncomputable def zhm(I:AHeap->Prop)(t:Tgt)(body:AS)(d:Dp)(Q:jt):List AV->Loc->AHeap->Prop
 | [],l,U=>Q .next l U
 | x::xs,l,U=>∃l',k9 t x l=some l'/\body d l' (A.vC I (zhm I t body d Q xs) Q) A.noX U
section
variable{X:Cx}{env:Env}{nm:List (Str×Nat)}{A:Around}{U:AHeap}{s:Shared}
theorem zm3{d:Dp}{target:Expr}{t:Tgt}{body:List Stmt}{m:AS}{it:Value}{I:AHeap->Prop}{xs:List AV}{W:Addr->Prop}{St:Nat->AHeap->Heap->Prop}{l:Loc}{Q:jt}{R:Result->Shared->Prop}
  (L:Live X d A)(hd:d.hd=false)(IT:ItOk X A target it I xs W St)(ht:zaR (FB env) X env nm target t)(hb:j6 X env nm body m)(hW:∀b,W b->U b=none/\X.h₀.get? b=none)
  (a0:At X U s)(F:FR X env nm l U s.heap)(hI:I (vis U))(hSt:St 0 U s.heap)(h:zhm I t m d Q xs l (vis U))
  (hR:∀f s',(∃fl l' U',zqd U' s'.heap fl f/\At X U' s'/\FR X env nm l' U' s'.heap/\Step (fun b=>FB env b\/W b) U s U' s'/\Q fl l' (vis U'))->R (.ok f) s') :
  Gp X.M A (.forLoop target it body [] env) R s:=by
 refine codeAny_forLoop_any (fun k s1=>∃i l1 σ1,k=xs.length+1-i/\i<=xs.length/\At X σ1 s1/\FR X env nm l1 σ1 s1.heap/\Step (fun b=>FB env b\/W b) U s σ1 s1/\I (vis σ1)/\St i σ1 s1.heap/\
  (∀b,W b->σ1 b=none/\X.h₀.get? b=none)/\zhm I t m d Q (xs.drop i) l1 (vis σ1)) ?_ (xs.length+1) (zdZ 0 l U rfl (fW _) a0 F (.refl ..) hI hSt hW h)
 intro k s1 hR2;refine zdP hR2 fun i l1 σ1 e3_3 hi a1 F1 st1 hI1 hSt1 hW1 hf=>?_;subst e3_3;have noW:NoStay W s1.heap:=fun b o hb e=>by refine zk (IT.there i _ _ b hSt1 hb) fun o' e' h' _=>?_;rw[e] at e';obtain rfl:=G4 e';exact h'
 have ndW:∀{i U h b o},St i U h->W b->h.get? b=some o->∀es n,o.data≠.dict es n:=fun {i U h b o} hs hb e=>by
  refine zI (IT.there i _ _ b hs hb) fun o' e' _ h1 _=>?_;rw[e] at e';obtain rfl:=G4 e';exact h1
 have dis:∀b,FB env b->¬W b:=fun b hb hw=>by
  refine zI (IT.there i _ _ b hSt1 hw) fun o' e' _ h1 h2=>?_
  rcases hb with rfl|⟨x,hx⟩
  .refine zb F1.ns fun _ h16_1 _=>?_;refine jm h16_1 fun o es ep ho hd _=>?_;rw[ho] at e';obtain rfl:=G4 e';exact h1 _ _ hd
  .refine zb1 (F1.outc x b hx) fun _ _ v o ho hd=>?_;rw[ho] at e';obtain rfl:=G4 e';exact h2 _ hd
 cases hx:xs[i]? with
 | none=>
  have hil:i=xs.length:=fAF hi (fCS.mp hx);subst hil;refine IT.done σ1 s1 _ _ a1 hI1 hSt1 hW1 fun s2 a2 st2=>?_;refine wpAny_execs_nil (hR _ _ (zM .next l1 σ1 trivial a2 (F1.stepB a1 st2 dis noW) (st1.trans (st2.weaken fun b hb=>.inr hb)) ?_));rw[List.drop_length] at hf;exact hf
 | some x=>
  have hlt:i<xs.length:=(fX.mp hx).1;have hdr:xs.drop i=x::xs.drop (i+1):=by
   rw[fAG hlt,(fX.mp hx).2]
  rw[hdr] at hf;refine zb hf fun l2 hb2 hf=>?_;refine IT.item i x σ1 s1 _ _ _ (fun v s2 hr=>hr) hx a1 hI1 hSt1 hW1 fun v s2 rv a2 st2 hSt2=>?_
  .have F2:=F1.stepB a1 st2 dis noW;have noF:=F2.noStay;refine ht d A l1 l2 σ1 s2 x v _ _ L hd a2 F2 rv hb2 fun s3 F3 a3 st3=>?_;have hSt3:St (i+1) σ1 s3.heap:=IT.stable _ _ _ _ _ hSt2 (st3.keepV a2 noF) fun b o hb e=>st3.keep b o e (hW1 b hb).1 (fun q=>dis b q hb) (ndW hSt2 hb e);refine Gc (hb d A l2 σ1 s3 _ _ L a3 F3 hf) (fun f s4 hpx=>?_) fun _ _ x=>zrg x;refine qd hpx fun fl l4 σ4 r a4 F4 st4 q4=>?_;have stA:Step (fun b=>FB env b\/W b) U s σ4 s4:=st1.trans ((st2.weaken fun b hb=>.inr hb).trans ((st3.weaken fun b hb=>.inl hb).trans (st4.weaken fun b hb=>.inl hb)));cases f with
   | next=>
    cases fl with
    | next=>
     obtain⟨hI4,hf4⟩:=q4;refine zcR (xs.length+1-(i+1)) (zp1 hlt) (i+1) l4 σ4 rfl hlt a4 F4 stA hI4 (IT.stable _ _ _ _ _ hSt3 (st4.keepV a3 F3.noStay) (fun b o hb e=>st4.keep b o e (hW1 b hb).1 (fun q=>dis b q hb) (ndW hSt3 hb e))) (fun b hb=>⟨by refine zb (IT.there _ _ _ b hSt3 hb) fun o ho _=>?_;exact st4.gone ho (hW1 b hb).1,(hW1 b hb).2⟩) hf4
    | ret v=>exact r.elim
   | ret v=>
    cases fl with
    | next=>exact r.elim
    | ret av=>exact hR _ _ (zM (.ret av) l4 σ4 r a4 F4 stA q4)
   | brk=>cases fl<;>exact r.elim
   | cont=>cases fl<;>exact r.elim
end
section
variable{X:Cx}{U:AHeap}{s:Shared}{W:Addr->Prop}{h':Heap}
theorem At.moved(a:At X U s)(t:Nat)(hW:∀b,W b->U b=none/\X.h₀.get? b=none)(nW:NoStay W s.heap)(nd:∀b o,W b->s.heap.get? b=some o->∀es n,o.data≠.dict es n)(hk:∀b o,¬W b->s.heap.get? b=some o->h'.get? b=some o) :
  At X U { s with heap:=h',toks:=t }:=by
 have kv:KeepV U s.heap U h':=.mk' fun b o e st=>hk b o (fun q=>nW b o q e st) e;refine⟨fun b o e=>hk b o (fun q=>?_) (a.keep b o e),fun b ao e=>(a.rep b ao e).mono kv fun o ho=>hk b o (fun q=>?_) ho,a.own,a.gens,a.os,fun L hL=>⟨(a.ff L hL).1,?_⟩⟩
 .rw[(hW b q).2] at e;exact absurd (Eq.symm e) (fJ _)
 .rw[(hW b q).1] at e;exact absurd (Eq.symm e) (fJ _)
 .refine jD ((a.ff L hL).2) fun o es n e d=>?_;exact qU o es n (hk L o (fun q=>nd L o q e es n d) e) d
theorem Step.moved(U:AHeap)(t:Nat)(hk:∀b o,¬W b->s.heap.get? b=some o->h'.get? b=some o)(hsz:s.heap.objs.size<=h'.objs.size):Step W U s U { s with heap:=h',toks:=t }:=
 .same (fun b o e h=>hk b o h e) hsz
end
def Plain(o:Obj):Prop:=¬qI o/\(∀es n,o.data≠.dict es n)/\(∀v,o.data≠.cell v)
theorem Plain.wD{o:Obj}{T:String}{vs:Array Value}(hc:o.cls = .type T)(hd:o.data = .fields vs)(h2:T≠"range"):Plain o:=by
 refine zq ?_ (fun es n h=>?_) (fun v h=>?_)
 rotate_left
 .rw[hd] at h;cases h
 .rw[hd] at h;cases h
 rintro(⟨h,_,_,h'⟩|⟨h,_⟩|⟨c,vs,h,_⟩)
 .rw[hd] at h';cases h'
 .rw[hc] at h;cases h;exact h2 rfl
 .rw[hc] at h;cases h
section
variable{X:Cx}{A:Around}{target:Expr}
theorem zaM{M:Model}{it:Addr}{v:Value}{o:Obj}{T:String}{vs:Array Value}{s:Shared}{Q:Unit->Shared->Prop}{E:Value->Shared->Prop}(ho:s.heap.get? it=some o)(hc:o.cls = .type T)(hd:o.data = .fields vs)
  (hT:["enumerate","zip","dict_itemiterator","dict_reverseitemiterator","odict_iterator","itertools.zip_longest","itertools.pairwise"].contains T=false)(h:Q () s) :
  wpAny M A (letOwnedTupleGo target (.ref it) v) Q E s:=by
 have go:wpAny M A (letOwnedTupleGo (.List [] ⟨0,0,0,0⟩) (.ref it) v) Q E s:=by
  cases v with
  | ref a=>
   refine Ga (wpAny_load ho ?_);rw[hc,hd];dsimp only;rw[hT];rw[Bool.false_and,if_neg (by decide)];exact Gb h
  | _=>exact Gb h
 cases target with
 | Tuple _ _ _=>exact go
 | List _ _=>exact go
 | _=>exact Gb h
inductive IsL(U:AHeap):AV->List AV->Prop
 | ref {a:Addr} {xs:List AV}:vis U a=some (.list xs)->IsL U (.ref a) xs
 | lst {xs:List AV}:IsL U (.lst xs) xs
theorem At.isList0{U:AHeap}{s:Shared}(a:At X U s){b:Addr}{xs:List AV}(h:U b=some (.list xs)\/U b=some (.frz xs)):∃vs:List Value,s.heap.IsList b vs.toArray/\RepVs U s.heap xs vs/\xs.length<=1000000:=by
 rcases h with h|h
 .refine zp (a.rep b _ h) fun vs n e r hl=>?_;exact zv vs (qo _ e rfl n rfl) r hl
 .refine zk (a.rep b _ h) fun vs e r hl=>?_;exact zv vs e r hl
theorem At.isList{U:AHeap}{s:Shared}(a:At X U s){x:AV}{v:Value}{xs:List AV}(h:IsL U x xs)(r:RepV U s.heap x v):∃(b:Addr) (vs:List Value),v = .ref b/\(U b=some (.list xs)\/U b=some (.frz xs))/\s.heap.IsList b vs.toArray/\RepVs U s.heap xs vs/\xs.length<=1000000:=by
 cases h with
 | @ref b _ h=>
  obtain rfl:=RepV.wM r;have h':=(zK h).1;refine zk (a.isList0 (.inl h')) fun vs h1 h2 h3=>?_;exact⟨b,vs,rfl,.inl h',h1,h2,h3⟩
 | lst=>
  refine zb (RepV.wQ r) fun b e4_1 h'=>?_;subst e4_1;refine zk (a.isList0 (.inr h')) fun vs h1 h2 h3=>?_;exact jr b vs rfl (.inr h') h1 h2 h3
def zd3(x:AV)(xs:List AV)(U:AHeap):Prop:=match x with
 | .ref b=>U b=some (.list xs)
 | _=>True
def stL(x:AV)(b:Addr)(xs:List AV)(U:AHeap):Prop:=match x with
 | .ref c=>c=b
 | _=>U b=some (.frz xs)
theorem At.ofSt{U:AHeap}{s:Shared}(a:At X U s){x:AV}{b:Addr}{xs:List AV}(h:zd3 x xs (vis U))(h':stL x b xs U):∃vs:List Value,s.heap.IsList b vs.toArray/\RepVs U s.heap xs vs:=by
 have:U b=some (.list xs)\/U b=some (.frz xs):=by
  cases x with
  | ref c=>have h':c=b:=h';subst h';exact .inl (zK h).1
  | _=>exact .inr h'
 refine zk (a.isList0 this) fun vs h1 h2 _=>?_;exact zc vs h1 h2
theorem stL.mono{U U':AHeap}{h h':Heap}(k:KeepV U h U' h'){x:AV}{b:Addr}{xs:List AV}(q:stL x b xs U):stL x b xs U':=by
 cases x with
 | ref c=>exact q
 | _=>exact k.frz _ _ q
theorem zli(hh:A.handled=none)(it b:Addr)(x:AV)(xs:List AV):ItOk X A target (.ref it) (zd3 x xs) xs (fun c=>c=it) (fun i U h=>h.IsListIter it b i/\stL x b xs U) where
 stable:=fun i U h U' h' hp kv k=>qc hp fun h1 q=>zb h1 fun o ho r=>⟨⟨o,k _ _ rfl ho,r⟩,q.mono kv⟩
 there:=fun i U h c hp e=>qc hp fun h1 _=>zk h1 fun o ho hc hd=>by subst e;exact⟨o,ho,Plain.wD hc hd (by decide)⟩
 item:=fun i x U s Q Qn E hQn hx a hI hSt hW h=>by
  obtain⟨hSt,hq⟩:=hSt;refine zb (a.ofSt hI hq) fun vs hl rv=>?_;refine zb (rv.get hx) fun v hv r=>?_;refine zk (id hSt) fun o ho hc hd=>?_;have nW:NoStay (fun c=>c=it) s.heap:=fun c o' e e'=>by subst e;rw[ho] at e';obtain rfl:=G4 e';exact(Plain.wD hc hd (by decide)).1
  have nd:∀b o,b=it->s.heap.get? b=some o->∀es n,o.data≠.dict es n:=fun c o' e e'=>by subst e;rw[ho] at e';obtain rfl:=G4 e';exact(Plain.wD hc hd (by decide)).2.1
  refine wpAny_pyNext_list_item hSt hl (by simpa using hv) fun h' hit' hs'=>hQn v _ ?_;refine zk (id hit') fun o' ho' hc' hd'=>?_;have hk:∀c o,¬c=it->s.heap.get? c=some o->h'.get? c=some o:=fun c o hc e=>(hs'.2 c hc).trans e;have kv:KeepV U s.heap U h':=.mk' fun c o' e st=>hk c o' (fun q=>nW c o' q e st) e;exact zaM ho' hc' hd' (by decide) (h v { s with heap:=h' } (r.mono kv) (a.moved (t:=s.toks) hW nW nd hk) (Step.moved U s.toks hk (pC hs'.1.symm)) ⟨hit',hq⟩)
 done:=fun U s Q E a hI hSt hW h=>by
  obtain⟨hSt,hq⟩:=hSt;refine zb (a.ofSt hI hq) fun vs hl rv=>?_;refine zk (id hSt) fun o ho hc hd=>?_;have nW:NoStay (fun c=>c=it) s.heap:=fun c o' e e'=>by subst e;rw[ho] at e';obtain rfl:=G4 e';exact(Plain.wD hc hd (by decide)).1
  have nd:∀b o,b=it->s.heap.get? b=some o->∀es n,o.data≠.dict es n:=fun c o' e e'=>by subst e;rw[ho] at e';obtain rfl:=G4 e';exact(Plain.wD hc hd (by decide)).2.1
  refine zW (wpAny_pyNext_list_end hh hSt hl (by simp[rv.length]) fun h' he' hsz=>?_);have hk:∀c o,¬c=it->s.heap.get? c=some o->h'.get? c=some o:=fun c o hc e=>he' c o hc e;exact h { s with heap:=h' } (a.moved (t:=s.toks) hW nW nd hk) (Step.moved U s.toks hk hsz)
 self:=fun i U s Q E hSt h=>wpAny_pyIter_listiter hSt.1 h
theorem zjc(hh:A.handled=none)(it b:Addr)(xs:List AV):ItOk X A target (.ref it) (fun _=>True) xs (fun c=>c=it) (fun i U h=>h.IsTupleIter it b i/\∃vs:List Value,h.IsTuple b vs.toArray/\RepVs U h xs vs) where
 stable:=fun i U h U' h' hp kv k=>qc hp fun h1 h2=>zb h1 fun o ho r=>zb h2 fun vs ht rv=>⟨⟨o,k _ _ rfl ho,r⟩,vs,kv.tup ht,rv.mono kv⟩
 there:=fun i U h c hp e=>qc hp fun h1 _=>zk h1 fun o ho hc hd=>by subst e;exact⟨o,ho,Plain.wD hc hd (by decide)⟩
 item:=fun i x U s Q Qn E hQn hx a hI hSt hW h=>by
  refine kj hSt fun hit vs hl rv=>?_;refine zb (rv.get hx) fun v hv r=>?_;refine zk (id hit) fun o ho hc hd=>?_;have nW:NoStay (fun c=>c=it) s.heap:=fun c o' e e'=>by subst e;rw[ho] at e';obtain rfl:=G4 e';exact(Plain.wD hc hd (by decide)).1
  have nd:∀b o,b=it->s.heap.get? b=some o->∀es n,o.data≠.dict es n:=fun c o' e e'=>by subst e;rw[ho] at e';obtain rfl:=G4 e';exact(Plain.wD hc hd (by decide)).2.1
  refine wpAny_pyNext_tuple_item hit hl (by simpa using hv) fun h' hit' hs'=>hQn v _ ?_;refine zk (id hit') fun o' ho' hc' hd'=>?_;have hk:∀c o,¬c=it->s.heap.get? c=some o->h'.get? c=some o:=fun c o hc e=>(hs'.2 c hc).trans e;have kv:KeepV U s.heap U h':=.mk' fun c o' e st=>hk c o' (fun q=>nW c o' q e st) e;exact zaM ho' hc' hd' (by decide) (h v { s with heap:=h' } (r.mono kv) (a.moved (t:=s.toks) hW nW nd hk) (Step.moved U s.toks hk (pC hs'.1.symm))
   (zax hit' vs (kv.tup hl) (rv.mono kv)))
 done:=fun U s Q E a hI hSt hW h=>by
  refine kj hSt fun hit vs hl rv=>?_;refine zk (id hit) fun o ho hc hd=>?_;have nW:NoStay (fun c=>c=it) s.heap:=fun c o' e e'=>by subst e;rw[ho] at e';obtain rfl:=G4 e';exact(Plain.wD hc hd (by decide)).1
  have nd:∀b o,b=it->s.heap.get? b=some o->∀es n,o.data≠.dict es n:=fun c o' e e'=>by subst e;rw[ho] at e';obtain rfl:=G4 e';exact(Plain.wD hc hd (by decide)).2.1
  refine zW (wpAny_pyNext_tuple_end hh hit hl (by simp[rv.length]) fun h' he' hsz=>?_);have hk:∀c o,¬c=it->s.heap.get? c=some o->h'.get? c=some o:=fun c o hc e=>he' c o hc e;exact h { s with heap:=h' } (a.moved (t:=s.toks) hW nW nd hk) (Step.moved U s.toks hk hsz)
 self:=fun i U s Q E hSt h=>wpAny_pyIter_tupleiter hSt.1 h
noncomputable def zhw(lo:Int):Nat->List AV
 | 0=>[]
 | n+1=>.int lo::zhw (lo+1) n
theorem zdb:∀(n:Nat) (lo:Int),(zhw lo n).length=n
 | 0,_=>rfl
 | n+1,lo=>by simp[zhw,zdb n]
theorem zni(n:Nat):∀(lo:Int) (i:Nat),(zhw lo n)[i]? = if i<n then some (.int (lo+i)) else none:=by
 induction n with
 | zero=>exact fun _ i=>rfl
 | succ n ih=>
  intro lo i;cases i with
  | zero=>rw[if_pos (Nat.succ_pos _),Int.ofNat_zero,fC6];rfl
  | succ i=>
   refine(ih (lo+1) i).trans ?_;rw[show lo+1+(i:Int)=lo+((i+1:Nat):Int) from y97]
   by_cases h:i<n
   .rw[if_pos h,if_pos (zxn h)]
   .rw[if_neg h,if_neg (zxT h)]
theorem zjb(hh:A.handled=none)(it:Addr)(lo:Int)(n:Nat):ItOk X A target (.ref it) (fun _=>True) (zhw lo n) (fun c=>c=it) (fun i U h=>IsRangeIter h it (lo+i) ((n:Int)-i) 1) where
 stable:=fun i U h U' h' ho _ k=>k _ _ rfl ho
 there:=fun i U h c ho e=>by subst e;exact zc _ ho (Plain.wD rfl rfl (by decide))
 item:=fun i x U s Q Qn E hQn hx a hI hSt hW h=>by
  rw[zni] at hx
  by_cases hi:i<n
  .simp only[hi,if_true,Option.some.injEq] at hx;subst hx;have nW:NoStay (fun c=>c=it) s.heap:=fun c o' e e'=>by subst e;rw[hSt] at e';obtain rfl:=G4 e';exact(Plain.wD (T:="range_iterator") rfl rfl (by decide)).1
   have nd:∀b o,b=it->s.heap.get? b=some o->∀es n,o.data≠.dict es n:=fun c o' e e'=>by subst e;rw[hSt] at e';obtain rfl:=G4 e';exact(Plain.wD (T:="range_iterator") rfl rfl (by decide)).2.1
   refine wpAny_pyNext_range_item hSt (zxG hi) fun h' hit' hs'=>hQn _ _ ?_;have hk:∀c o,¬c=it->s.heap.get? c=some o->h'.get? c=some o:=fun c o hc e=>(hs'.2 c hc).trans e;have hit'':IsRangeIter h' it (lo+((i+1:Nat):Int)) ((n:Int)-((i+1:Nat):Int)) 1:=by
    have e1:lo+((i+1:Nat):Int)=lo+(i:Int)+1:=y98;have e2:(n:Int)-((i+1:Nat):Int)=(n:Int)-(i:Int)-1:=zxY;rw[e1,e2];exact hit'
   exact zaM hit' rfl rfl (by decide) (h _ { s with heap:=h',toks:=s.toks+1 } (.int _ _) (a.moved (t:=s.toks+1) hW nW nd hk) (Step.moved U (s.toks+1) hk (pC hs'.1.symm)) hit'')
  .simp[hi] at hx
 done:=fun U s Q E a hI hSt hW h=>by
  rw[zdb] at hSt;have nW:NoStay (fun c=>c=it) s.heap:=fun c o' e e'=>by subst e;rw[hSt] at e';obtain rfl:=G4 e';exact(Plain.wD (T:="range_iterator") rfl rfl (by decide)).1
  have nd:∀b o,b=it->s.heap.get? b=some o->∀es n,o.data≠.dict es n:=fun c o' e e'=>by subst e;rw[hSt] at e';obtain rfl:=G4 e';exact(Plain.wD (T:="range_iterator") rfl rfl (by decide)).2.1
  refine zW (wpAny_pyNext_range_end hh hSt zwG fun h' he' hsz=>?_);have hk:∀c o,¬c=it->s.heap.get? c=some o->h'.get? c=some o:=fun c o hc e=>he' c o hc e;exact h { s with heap:=h' } (a.moved (t:=s.toks) hW nW nd hk) (Step.moved U s.toks hk hsz)
 self:=fun i U s Q E hSt h=>wpAny_pyIter_rangeiter hSt h
noncomputable def zb4(k:Nat):List AV->List AV
 | []=>[]
 | x::xs=>.tup [.int k,x]::zb4 (k+1) xs
theorem zb5:∀(xs:List AV) (k:Nat),(zb4 k xs).length=xs.length
 | [],_=>rfl
 | _::xs,k=>by simp[zb4,zb5 xs]
theorem zfd:∀(xs:List AV) (k i:Nat),(zb4 k xs)[i]? = xs[i]?.map fun x=>.tup [.int ((k+i:Nat):Int),x]
 | [],_,i=>rfl
 | x::xs,k,0=>rfl
 | x::xs,k,i+1=>by
  simp only[zb4,fAP,zfd xs];have:k+1+i=k+(i+1):=zr5;rw[this]
theorem zlh(hh:A.handled=none){elts:List Expr}{x1:Nat}{pos:Pos}(e it b:Addr)(hne:e≠it)(x:AV)(xs:List AV) :
  ItOk X A (.Tuple elts x1 pos) (.ref e) (zd3 x xs) (zb4 0 xs) (fun c=>c=e\/c=it) (fun i U h=>h.IsListIter it b i/\stL x b xs U/\∃old,IsEnum h e it i old) where
 stable:=fun i U h U' h' ⟨⟨o,ho,r⟩,q,old,he⟩ kv k=>⟨⟨o,k _ _ (.inr rfl) ho,r⟩,q.mono kv,old,k _ _ (.inl rfl) he⟩
 there:=fun i U h c ⟨⟨o,ho,hc,hd⟩,_,old,he⟩ q=>by
  rcases q with rfl|rfl
  .exact zc _ he (Plain.wD rfl rfl (by decide))
  .exact zc o ho (Plain.wD hc hd (by decide))
 item:=fun i x U s Q Qn E hQn hx a hI hSt hW h=>by
  refine qN hSt fun hit hq old he=>?_;refine zb (a.ofSt hI hq) fun vs hl rv=>?_;rw[zfd] at hx;refine zb (fAR.mp hx) fun y hy e23_2=>?_;subst e23_2;refine zb (rv.get hy) fun v hv r=>?_;refine zk (id hit) fun o ho hc hd=>?_;have nW:NoStay (fun c=>c=e\/c=it) s.heap:=fun c o' q e'=>by
   rcases q with rfl|rfl
   .rw[he] at e';obtain rfl:=G4 e';exact(Plain.wD (T:="enumerate") rfl rfl (by decide)).1
   .rw[ho] at e';obtain rfl:=G4 e';exact(Plain.wD hc hd (by decide)).1
  have nd:∀b o,b=e\/b=it->s.heap.get? b=some o->∀es n,o.data≠.dict es n:=fun c o' q e'=>by
   rcases q with rfl|rfl
   .rw[he] at e';obtain rfl:=G4 e';exact(Plain.wD (T:="enumerate") rfl rfl (by decide)).2.1
   .rw[ho] at e';obtain rfl:=G4 e';exact(Plain.wD hc hd (by decide)).2.1
  refine wpAny_pyNext_enum_item he hit hl (by simpa using hv) hne fun h' he' hit' htup hsz hk=>hQn _ _ ?_;refine wpAny_letOwnedTupleGo_enum he' fun h'' he'' hs''=>?_;have hk':∀c o,¬(c=e\/c=it)->s.heap.get? c=some o->h''.get? c=some o:=fun c o hc eo=>by
   have h1:c≠e:=fun q=>hc (.inl q);have h2:c≠it:=fun q=>hc (.inr q);exact(hs''.2 c h1).trans (hk c o h1 h2 eo)
  have kv:KeepV U s.heap U h'':=.mk' fun c o' e st=>hk' c o' (fun q=>nW c o' q e st) e;have hes:s.heap.objs.size≠e:=Nat.ne_of_gt (Heap.lt_size he);have hit'':h''.IsListIter it b (i+1):=by
   refine zb hit' fun o3 ho3 r3=>?_;exact zc o3 ((hs''.2 it (Ne.symm hne)).trans ho3) r3
  refine h (.ref s.heap.objs.size) { s with heap:=h'',toks:=s.toks+1 } (.tup (vs:=[.int i s.toks,v]) (by simp) (qo _ ((hs''.2 _ hes).trans htup) rfl 0 rfl) (.cons ?_ (.cons (r.mono kv) .nil)))
   (a.moved (t:=s.toks+1) hW nW nd hk') (Step.moved U (s.toks+1) hk' (by rw[hs''.1,hsz];exact zwR)) (kq hit'' hq v ?_)
  .have:((0+i:Nat):Int)=(i:Int):=by exact zwD
   rw[this];exact .int _ _
  .have:((i+1:Nat):Int)=(i:Int)+1:=by exact zwE
   exact he''
 done:=fun U s Q E a hI hSt hW h=>by
  rw[zb5] at hSt;refine qN hSt fun hit hq old he=>?_;refine zb (a.ofSt hI hq) fun vs hl rv=>?_;refine zk (id hit) fun o ho hc hd=>?_;have nW:NoStay (fun c=>c=e\/c=it) s.heap:=fun c o' q e'=>by
   rcases q with rfl|rfl
   .rw[he] at e';obtain rfl:=G4 e';exact(Plain.wD (T:="enumerate") rfl rfl (by decide)).1
   .rw[ho] at e';obtain rfl:=G4 e';exact(Plain.wD hc hd (by decide)).1
  have nd:∀b o,b=e\/b=it->s.heap.get? b=some o->∀es n,o.data≠.dict es n:=fun c o' q e'=>by
   rcases q with rfl|rfl
   .rw[he] at e';obtain rfl:=G4 e';exact(Plain.wD (T:="enumerate") rfl rfl (by decide)).2.1
   .rw[ho] at e';obtain rfl:=G4 e';exact(Plain.wD hc hd (by decide)).2.1
  refine zW (wpAny_pyNext_enum_end hh he hit hl (by simp[rv.length]) fun h' he' hsz=>?_);have hk:∀c o,¬(c=e\/c=it)->s.heap.get? c=some o->h'.get? c=some o:=fun c o hc e=>he' c o (fun q=>hc (.inr q)) e;exact h { s with heap:=h' } (a.moved (t:=s.toks) hW nW nd hk) (Step.moved U s.toks hk hsz)
 self:=fun i U s Q E hSt h=>by
  refine qN hSt fun _ _ old he=>?_;exact wpAny_pyIter_enum he h
end
noncomputable def cl1(cells:List (Str×Addr))(p:Str×NameKind)(acc:List (Str×Addr)):List (Str×Addr):=if p.2==.free then (match cells.lookup p.1 with|some c=>(p.1,c)::acc|none=>acc) else acc
noncomputable def clo(cells:List (Str×Addr))(names:List (Str×NameKind))(acc:List (Str×Addr)):List (Str×Addr):=names.foldl (fun a p=>cl1 cells p a) acc
theorem zfW(cells:List (Str×Addr))(p:Str×NameKind)(acc:List (Str×Addr)):(cl1 cells p acc=acc/\(p.2 = .free->cells.lookup p.1=none))\/∃c,p.2 = .free/\cells.lookup p.1=some c/\cl1 cells p acc=(p.1,c)::acc:=by
 unfold cl1;cases hk:p.2==NameKind.free with
 | true=>
  cases hy:cells.lookup p.1 with
  | none=>exact .inl ⟨rfl,fun _=>rfl⟩
  | some c=>exact .inr ⟨c,G8 hk,rfl,rfl⟩
 | false=>exact .inl ⟨rfl,fun e=>by rw[e] at hk;cases hk⟩
theorem zg7{env:Env}(f:Str×NameKind->List (Str×Addr)->Sem (ForInStep (List (Str×Addr))))
  (hf:∀n k cs,f (n,k) cs=if k==.free then (do let c <-cellOf env n;pure (.yield ((n,c)::cs))) else pure (.yield cs))(names:List (Str×NameKind)) :
  ∀(acc:List (Str×Addr)),(∀x,(x,NameKind.free)∈names->(env.cells.lookup x).isSome=true)->(forIn names acc f:Sem (List (Str×Addr)))=pure (clo env.cells names acc):=by
 induction names with
 | nil=>exact fun _ _=>rfl
 | cons p r ih=>
  intro acc h;have e:f p acc=pure (.yield (cl1 env.cells p acc)):=by
   refine(hf p.1 p.2 acc).trans ?_;unfold cl1;cases hk:p.2==NameKind.free with
   | false=>rfl
   | true=>
    obtain⟨c,hc⟩:=pW.mp (h p.1 (by rw[<-G8 hk];exact fB));unfold cellOf;rw[hc];rfl
  rw[List.forIn_cons,e];exact ih _ fun y hy=>h y (fA _ hy)
theorem zaY{scope:Scope}{env:Env}(h:∀x,(x,NameKind.free)∈scope.names->(env.cells.lookup x).isSome=true):closureFor scope env=pure (clo env.cells scope.names []):=by
 unfold closureFor;simp only[bind_pure_comp];rw[zg7 (env:=env) _ (fun n k cs=>?_) scope.names [] h]
 .rfl
 .simp
theorem zkf{cells:List (Str×Addr)}(names:List (Str×NameKind)):∀(acc:List (Str×Addr)) {x:Str} {c:Addr},(x,c)∈clo cells names acc->(x,c)∈acc\/(cells.lookup x=some c/\(x,NameKind.free)∈names):=by
 induction names with
 | nil=>exact fun _ _ _ h=>.inl h
 | cons p r ih=>
  intro acc x c h
  rcases ih (cl1 cells p acc) h with q|q
  .rcases zfW cells p acc with e|⟨d,hk,hy,e⟩
   .rw[e.1] at q;exact .inl q
   .rw[e] at q
    rcases fF.mp q with e|q
    .have e1:x=p.1:=congrArg Prod.fst e;have e2:c=d:=congrArg Prod.snd e;rw[e1,e2,<-hk];exact .inr ⟨hy,fB⟩
    .exact .inl q
  .exact .inr ⟨q.1,fA _ q.2⟩
theorem zoP{cells:List (Str×Addr)}(names:List (Str×NameKind)):∀(acc:List (Str×Addr)) {p:Str×Addr},p∈acc->p∈clo cells names acc:=by
 induction names with
 | nil=>exact fun _ _ h=>h
 | cons q r ih=>
  intro acc p h
  rcases zfW cells q acc with e|⟨d,_,_,e⟩
  .exact ih (cl1 cells q acc) (e.1.symm▸h)
  .exact ih (cl1 cells q acc) (e▸fA _ h)
theorem ziX{cells:List (Str×Addr)}{x:Str}{c:Addr}(hc:cells.lookup x=some c)(names:List (Str×NameKind)):∀(acc:List (Str×Addr)),(x,NameKind.free)∈names->(x,c)∈clo cells names acc:=by
 induction names with
 | nil=>exact fun _ h=>nomatch h
 | cons p r ih=>
  intro acc h
  rcases fF.mp h with e|h
  .subst e;refine zoP r _ ?_;show _∈(match cells.lookup x with|some c=>(x,c)::acc|none=>acc);rw[hc];exact fB
  .exact ih _ h
theorem zk1{cells:List (Str×Addr)}(hp:cells.Pairwise fun x y=>x.2≠y.2)(names:List (Str×NameKind)):∀(acc:List (Str×Addr)),(names.map (·.1)).Nodup->(∀x∈acc,cells.lookup x.1=some x.2/\x.1∉names.map (·.1))->
  (acc.Pairwise fun x y=>x.2≠y.2)->(clo cells names acc).Pairwise fun x y=>x.2≠y.2:=by
 induction names with
 | nil=>exact fun _ _ _ h=>h
 | cons p r ih=>
  intro acc hn ha h;have hn':=fU.mp hn;have ha':∀x∈acc,cells.lookup x.1=some x.2/\x.1∉r.map (·.1):=fun x hx=>⟨(ha x hx).1,fun q=>(ha x hx).2 (fA _ q)⟩
  refine ih (cl1 cells p acc) hn'.2 ?_ ?_
  .rcases zfW cells p acc with e|⟨d,_,hy,e⟩
   .rw[e.1];exact ha'
   .rw[e];exact fAN.mpr ⟨⟨hy,hn'.1⟩,ha'⟩
  .rcases zfW cells p acc with e|⟨d,_,hy,e⟩
   .rw[e.1];exact h
   .rw[e];refine fZ.mpr ⟨fun q hq e=>?_,h⟩;have h1:=(ha q hq).1;rw[<-show d=q.2 from e] at h1;exact(ha q hq).2 (name_of_addr hp (mem_of_lookup hy) (mem_of_lookup h1)▸fB)
structure CompOk(sc:List (Str×NameKind))(nm:List (Str×Nat))(N:Nat)(names:List (Str×NameKind))(nm':List (Str×Nat))(k:Nat):Prop where
 nodup:(names.map (·.1)).Nodup
 kinds:∀x kd,(x,kd)∈names->kd = .local\/kd = .globalImplicit\/(kd = .free/\sc.lookup x=some .cell/\∃i,nm.lookup x=some i/\nm'.lookup x=some i)
 vars:∀x i,nm'.lookup x=some i->(names.lookup x=some .local/\N<=i/\i<N+k)\/(names.lookup x=some .free/\nm.lookup x=some i)
 inj:∀x y i,nm'.lookup x=some i->nm'.lookup y=some i->x=y
 len:kI nm'=N+k
theorem kx{J:Type}:∀{l:List (Str×J)} {n:Str} {c:J},l.lookup n=some c->(n,c)∈l:=mem_of_lookup
theorem jJ{J:Type}{r:List (Str×J)}{n k:Str}{v:J}(h:n≠k):List.lookup n ((k,v)::r)=r.lookup n:=by rw[pB,beq_eq_false_iff_ne.mpr h]
theorem j9{J:Type}{l:List (Str×J)}{n:Str}{c:J}:(l.map (·.1)).Nodup->(n,c)∈l->l.lookup n=some c:=by
 induction l with
 | nil=>exact fun _ h=>nomatch h
 | cons p r ih=>
  intro hn h;have hn':=fU.mp hn
  rcases fF.mp h with e|h
  .rw[<-e,pB,beq_self_eq_true]
  .exact(jJ fun e:n=p.1=>hn'.1 (show p.1∈_ from e▸gZ (f:=(·.1)) h)).trans (ih hn'.2 h)
section
variable{X:Cx}{env:Env}{nm nm':List (Str×Nat)}{l:Loc}{U:AHeap}{s:Shared}{scope:Scope}{N k:Nat}
theorem zcx(EO:EnvOk env)(CK:CompOk env.scope.names nm N scope.names nm' k)(cl:List (Str×Addr))(C:Addr)(x:Str) :
  (scope.names.lookup x=some .local->(compEnvC scope cl C env).kindOf x=some .local)/\(scope.names.lookup x=some .free->(compEnvC scope cl C env).kindOf x=some .cell):=by
 have gen:∀(names:List (Str×NameKind)),(∀x,(x,NameKind.free)∈names->env.kindOf x=some .cell)->
   (names.lookup x=some .local->(names.map fun (n,k)=>if (k==NameKind.free&&env.scope.kind==.function&&env.kindOf n==some .cell) then (n,NameKind.cell) else (n,k)).lookup x=some .local)/\
   (names.lookup x=some .free->(names.map fun (n,k)=>if (k==NameKind.free&&env.scope.kind==.function&&env.kindOf n==some .cell) then (n,NameKind.cell) else (n,k)).lookup x=some .cell):=by
  intro names
  induction names with
  | nil=>intro _;exact⟨fun h=>by simp at h,fun h=>by simp at h⟩
  | cons p r ih=>
   intro hk;obtain⟨n,kd⟩:=p;have ih':=ih fun y hy=>hk y (fA _ hy);simp only[gF,pB]
   by_cases hx:(x==n)=true
   .have hxn:=beq_iff_eq.mp hx;subst hxn;simp only[beq_self_eq_true];refine⟨fun h=>?_,fun h=>?_⟩
    .obtain rfl:=G4 h;simp
    .obtain rfl:=G4 h;have:=hk x fB;simp[EO.kind,this]
   .have hx':(x==n)=false:=by simpa using hx
    simp only[hx']
    by_cases hc:(kd==NameKind.free&&env.scope.kind==.function&&env.kindOf n==some .cell)=true
    .rw[if_pos hc,pB,hx'];exact ih'
    .rw[if_neg hc,pB,hx'];exact ih'
 refine gen scope.names fun y hy=>?_
 rcases CK.kinds y .free hy with h|h|⟨_,h,_⟩
 .cases h
 .cases h
 .exact h
theorem CompOk.closure(F:FR X env nm l U s.heap)(CK:CompOk env.scope.names nm N scope.names nm' k):∀x,(x,NameKind.free)∈scope.names->(env.cells.lookup x).isSome=true:=fun x hx=>by
 rcases CK.kinds x .free hx with h|h|⟨_,h,i,hi,_⟩
 .cases h
 .cases h
 .refine jx (F.cell x i hi h) fun c v hc _=>?_;rw[hc];rfl
theorem zi1(EO:EnvOk env)(CK:CompOk env.scope.names nm N scope.names nm' k)(hk:scope.kind = .function)(C:Addr):EnvOk (compEnvC scope (clo env.cells scope.names []) C env) where
 kind:=hk
 glob:=EO.glob
 bi:=EO.bi
 apart:=zk1 EO.apart _ _ CK.nodup (fun _ h=>nomatch h) .nil
theorem zoV(EO:EnvOk env)(F:FR X env nm l U s.heap)(hl:l.length=N)(CK:CompOk env.scope.names nm N scope.names nm' k){h':Heap}{C:Addr}(hk:∀b o,s.heap.get? b=some o->h'.get? b=some o)
  (hC:h'.Ns C fun _=>none)(hσC:U C=none)(hCnew:X.h₀.get? C=none) :
  FR X (compEnvC scope (clo env.cells scope.names []) C env) nm' (l++List.replicate k none) U h':=by
 have kv:KeepV U s.heap U h':=.ext hk;refine⟨(zc _ hC (fun x i hx hkx=>?_)),fun x i hx hkx=>?_,⟨hσC,hCnew⟩,⟨fun x i hx=>?_,CK.inj⟩,by rw[fE,fBC,hl,CK.len],fun x c hx=>?_⟩
 .rcases CK.vars x i hx with⟨_,h1,h2⟩|⟨h1,_⟩
  .have:(l++List.replicate k none).getD i none=none:=by
    rw[fT,pI (by exact zp5 hl h1),List.getElem?_replicate];split<;>rfl
   rw[this];trivial
  .rw[(zcx EO CK _ C x).2 h1] at hkx;cases hkx
 .rcases CK.vars x i hx with⟨h1,_⟩|⟨h1,h2⟩
  .rw[(zcx EO CK _ C x).1 h1] at hkx;cases hkx
  .have hm:=kx h1
   rcases CK.kinds x .free hm with h|h|⟨_,h,_⟩
   .cases h
   .cases h
   .refine zp (F.cell x i h2 h) fun c v hc hcc hr=>?_;refine zP c v ?_ (hcc.keeps hk) ?_
    .have h3:(x,c)∈clo env.cells scope.names []:=ziX hc _ _ hm;cases h4:(clo env.cells scope.names []).lookup x with
     | none=>
      exfalso;have:=List.lookup_eq_none_iff.mp h4 (x,c) h3;simp at this
     | some c'=>
      rcases zkf _ _ (kx h4) with q|⟨q,_⟩
      .cases q
      .rw[hc] at q;obtain rfl:=G4 q;exact h4
    .have hi:i<l.length:=F.nmok.1 x i h2;rw[fT,pA hi,<-fT];exact hr.mono kv
 .rw[fE,fBC,hl]
  rcases CK.vars x i hx with⟨_,h1,h2⟩|⟨_,h2⟩
  .exact zua h2
  .have:=F.nmok.1 x i h2;exact zDX hl this
 .rcases zkf _ _ hx with q|⟨q,_⟩
  .cases q
  .refine qN (F.outc x c (kx q)) fun h1 h2 v h3=>?_;exact kq h1 h2 v (h3.keeps hk)
end
def zqw(c:Option AE)(d:Dp)(l:Loc)(Q:Bool->AHeap->Prop)(U:AHeap):Prop:=
 match c with
 | none=>Q true U
 | some m=>m d l (isB Q) (fun _ _=>False) U
noncomputable def zaZ(I:AHeap->Prop)(t:Tgt)(c:Option AE)(elt:AE)(d:Dp)(Q:List AV->AHeap->Prop):List AV->List AV->Loc->AHeap->Prop
 | [],acc,l,U=>Q acc U
 | x::xs,acc,l,U=>∃l',k9 t x l=some l'/\zqw c d l' (fun ok σ1=>cB ok (elt d l' (fun v σ2=>I σ2/\acc.length<1000000/\zaZ I t c elt d Q xs (acc++[v]) l' σ2) (fun _ _=>False) σ1)
   (I σ1/\zaZ I t c elt d Q xs acc l' σ1)) U
noncomputable def zfK(X:Cx)(env:Env)(nm:List (Str×Nat)):List Expr->Option AE->Prop
 | [],none=>True
 | [e],some m=>qM X env nm e m
 | _,_=>False
theorem zbe(vs:List Value)(n:Nat):¬qI (zR vs n):=by
 rintro(⟨h,_⟩|⟨h,_⟩|⟨_,_,h,_⟩)<;>simp[zR] at h
theorem zcm(vs:List Value)(n:Nat):∀es m,(zR vs n).data≠.dict es m:=fun _ _=>nofun
theorem ltA{h:Heap}{a:Nat}{o:Obj}(e:h.get? a=some o):a<h.objs.size:=Heap.lt_size e
theorem neA{a b:Nat}(h:¬a=b):¬a=b:=h
theorem leA{a b:Nat}(h:a<=b):a<=b:=h
section
variable{X:Cx}{A:Around}
theorem zeN{elt target iter:Expr}{ifs:List Expr}{scope:Scope}{pos:Pos}{it acc:Value}{env:Env}{R:Result->Shared->Prop}{s:Shared}(Ja:Nat->Shared->Prop)
  (turn:∀n s,Ja n s->wpAny X.M A (pyNext it) (fun r s₁=>match r with
   | none=>R (.ok .next) s₁
   | some v=>wpAny X.M A (letOwnedTupleGo target it v) (fun _ s₁'=>wpAny X.M A (assign target env v) (fun _ s₂=>
     wpAny X.M A (forIn ifs true fun c r=>if r=true then do let ok <-isTrue c env (eval c env);pure (ForInStep.yield ok) else pure (ForInStep.yield r)) (fun ok s₃=>
      if ok=true then wpAny X.M A (eval elt env) (fun x s₄=>wpAny X.M A (call (.builtin "list.append") [acc,x]) (fun _ s₅=>∃m,m<n/\Ja m s₅) (fun _ _=>False) s₄) (fun _ _=>False) s₃
      else ∃m,m<n/\Ja m s₃) (fun _ _=>False) s₂) (fun _ _=>False) s₁') (fun _ _=>False) s₁) (fun _ _=>False) s)
  (n:Nat)(h:Ja n s):Gp X.M A (.compLoop (.ListComp elt [⟨target,iter,ifs,0⟩] scope pos) 0 it acc env) R s:=by
 refine codeAny_loop rfl Ja (fun n s hI=>?_) n h;show wpAny _ A ((compTurn (.ListComp elt [⟨target,iter,ifs,0⟩] scope pos) 0 it acc env).onRaise (fun x=>do noteFrame x env;theTreesLotGoes x)) _ _ s;refine wpAny_noted ?_;rw[compTurn_list];refine Ga (Gm (Ga (Gc (turn n s hI) (fun r s₁ h₁=>?_) fun _ _ h'=>h'.elim)));cases r with
 | none=>exact Gb h₁
 | some v=>
  refine Ga (Gc h₁ (fun _ s₁' h₁'=>?_) fun _ _ h'=>h'.elim);refine Ga (Gc h₁' (fun _ s₂ h₂=>Ga (Gc h₂ (fun ok s₃ h₃=>?_) fun _ _ h'=>h'.elim)) fun _ _ h'=>h'.elim);cases ok with
  | false=>exact Gb ⟨rfl,h₃⟩
  | true=>
   exact Ga (Ga (Gc h₃ (fun x s₄ h₄=>Ga (Gc h₄ (fun _ s₅ h₅=>Gb (Gb ⟨rfl,h₅⟩)) fun _ _ h'=>h'.elim)) fun _ _ h'=>h'.elim))
theorem ziv{env:Env}{nm:List (Str×Nat)}{ifs:List Expr}{c:Option AE}{d:Dp}{l:Loc}{U:AHeap}{s:Shared}{Q:Bool->AHeap->Prop}{R:Bool->Shared->Prop}(hc:zfK X env nm ifs c)(L:Live X d A)(a:At X U s)(F:FR X env nm l U s.heap)
  (h:zqw c d l Q (vis U))(k:∀b s',liftB X U s Q b s'->R b s') :
  wpAny X.M A (forIn ifs true fun c r=>if r=true then do let ok <-isTrue c env (eval c env);pure (ForInStep.yield ok) else pure (ForInStep.yield r)) R (fun _ _=>False) s:=by
 match ifs,c,hc with
 | [],none,_=>exact wpAny_tests_nil (k _ _ (zv U a (.refl ..) h))
 | [e],some m,hc=>exact wpAny_tests_one (Gc (hc d A l U s Q (fun _ _=>False) L a F h) (fun b s' x=>k b s' x) fun _ _ x=>noX x)
theorem At.adopt{U:AHeap}{s:Shared}(a:At X U s){D:Addr}{ao:AO}(hD:U D=none)(h0:X.h₀.get? D=none)(hL':D∉X.fr)(hr:KeepV U s.heap (U.set D ao) s.heap->RepA X (U.set D ao) s.heap D ao):At X (U.set D ao) s:=by
 have kv:KeepV U s.heap (U.set D ao) s.heap:=(KeepV.ext fun _ _ e=>e).set (zgs hD);refine⟨a.keep,fun b bo e=>?_,fun b bo e hro=>?_,a.gens,a.os,fun L hL=>⟨?_,(a.ff L hL).2⟩⟩
 .by_cases hb:b=D
  .subst hb;rw[AHeap.wA] at e;obtain rfl:=G4 e;exact hr kv
  .rw[AHeap.wB _ _ hb] at e;exact(a.rep b bo e).mono kv fun _ h=>h
 .by_cases hb:b=D
  .subst hb;exact h0
  .rw[AHeap.wB _ _ hb] at e;exact a.own b bo e hro
 .rw[AHeap.wB _ _ (by rintro rfl;exact hL' hL)];exact(a.ff L hL).1
theorem Step.adopt{B:Addr->Prop}{U U':AHeap}{s s':Shared}(st:Step B U s U' s'){D:Addr}{ao:AO}(hD:U' D=none)(hn:s.heap.objs.size<=D):Step B U s (U'.set D ao) s':=
 ⟨st.keep,st.keepD,fun b h1 h2=>by
  by_cases hb:b=D
  .rw[hb];exact hn
  .rw[AHeap.wB _ _ hb] at h1;exact st.fresh b h1 h2,st.size,fun b xs e=>zdx (zgs hD) b xs (st.frz b xs e)⟩
theorem zfa{env:Env}{nm nm':List (Str×Nat)}{l:Loc}{U:AHeap}{s:Shared}{N k:Nat}{d:Dp}{elt target iter:Expr}{ifs:List Expr}{scope:Scope}{pos:Pos}{it:Value}{I:AHeap->Prop}{xs:List AV}{W:Addr->Prop}
  {St:Nat->AHeap->Heap->Prop}{t:Tgt}{c:Option AE}{m:AE}{Q:List AV->AHeap->Prop}{RR:Value->Addr->Result->Shared->Prop}{E:Value->Shared->Prop}
  (EO:EnvOk env)(L:Live X d A)(hdd:d.hd=false)(a:At X U s)(F:FR X env nm l U s.heap)(hl:l.length=N)(CK:CompOk env.scope.names nm N scope.names nm' k)(hk:scope.kind = .function)
  (IT:ItOk X A target it I xs W St)(hSt:St 0 U s.heap)(hW:∀b,W b->U b=none/\X.h₀.get? b=none)(hI:I (vis U))
  (ht:∀C,zaR (fun b=>b=C) X (compEnvC scope (clo env.cells scope.names []) C env) nm' target t)(hc:∀C,zfK X (compEnvC scope (clo env.cells scope.names []) C env) nm' ifs c)(hm:∀C,zh X (compEnvC scope (clo env.cells scope.names []) C env) nm' elt m)
  (h:zaZ I t c m d Q xs [] (l++List.replicate k none) (vis U))
  (hRR:∀D C s' U' acc mC,D∉X.fr->s.heap.objs.size<=D->s.heap.objs.size<=C->D≠C->U' D=none->U' C=none->s'.heap.Ns C mC->(∃ys n,s'.heap.get? D=some (zR ys n)/\RepVs U' s'.heap acc ys/\acc.length<=1000000)->At X U' s'->Step W U s U' s'->Q acc (vis U')->RR (.ref D) C (.ok .next) s') :
  wpAny X.M A (newList []) (fun acc s₃=>wpAny X.M A (newFunctionEnv scope env.globals (clo env.cells scope.names []) [] env.qual none .none (some env)) (fun cenv s₄=>
   Gp X.M A (.compStart (.ListComp elt [⟨target,iter,ifs,0⟩] scope pos) 0 it acc { cenv with scope:=relabel scope env }) (RR acc cenv.locals) s₄) E s₃) E s:=by
 have hcell:∀y∈scope.names,y.2≠.cell:=fun y hy e=>by
  obtain⟨x,kd⟩:=y
  rcases CK.kinds x kd hy with h|h|⟨h,_⟩<;>(dsimp only at e;rw[h] at e;cases e)
 refine wpAny_newObj_type (wpAny_newFunctionEnv hcell (by intro y hy;simp at hy) (fun h₁ hns₁ hsb₁=>?_) hk);dsimp only at hns₁ hsb₁ ⊢;generalize hH2:s.heap.push { cls:=.type "list",dict:=none,data:=.seq ([]:List Value).toArray }=H2 at hns₁ hsb₁ ⊢;generalize hDD:s.heap.objs.size=D;generalize hCC:H2.objs.size=C at hns₁ hsb₁ ⊢;have hCD:C=D+1:=by rw[<-hCC,<-hH2,Heap.size_push,hDD]
 have old:∀b o,s.heap.get? b=some o->h₁.get? b=some o:=fun b o e=>by
  have hb:=ltA e;exact hsb₁.extBut b o (neA (by exact zAl hDD hCD hb)) (Heap.get?_push_of_some _ (hH2▸Heap.get?_push_of_some _ e))
 have hDobj:h₁.get? D=some (zR [] 0):=by
  refine hsb₁.extBut _ _ (neA (by exact ztV hCD)) (Heap.get?_push_of_some _ ?_);rw[<-hH2,<-hDD];exact Heap.get?_push_size _ rfl
 have hσ:∀b,D<=b->U b=none:=fun b hb=>a.none_of_size (by rw[hDD];exact hb);have hDfr:D∉X.fr:=fun q=>by
  refine zdM (a.ff D q) fun _ o _ _ e _=>?_;have:=ltA e;exact ztQ hDD this
 have hh₀:∀b,D<=b->X.h₀.get? b=none:=fun b hb=>by
  cases e:X.h₀.get? b with
  | none=>rfl
  | some o=>have:=ltA (a.keep b o e);lia
 generalize hs1:({ s with heap:=h₁,toks:=s.toks+([]:List (Str×Value)).length }:Shared)=s1;have hs1h:s1.heap=h₁:=by rw[<-hs1]
 have hsz1:s1.heap.objs.size=C+1:=by rw[hs1h,hsb₁.1];simp[hCC]
 have kv1:KeepV U s.heap U s1.heap:=.ext fun b o e=>by rw[hs1h];exact old b o e
 have a1:At X U s1:=by
  refine⟨fun b o e=>by rw[hs1h];exact old b o (a.keep b o e),fun b ao e=>(a.rep b ao e).mono kv1 fun o ho=>by rw[hs1h];exact old b o ho,a.own,?_,?_,a.ffk fun b o e=>by rw[hs1h];exact old b o e⟩
  .rw[<-hs1];exact a.gens
  .rw[<-hs1];exact a.os
 have F1:=zoV (X:=X) EO F hl CK (h':=s1.heap) (C:=C) (fun b o e=>by rw[hs1h];exact old b o e) (by rw[hs1h];exact hns₁) (hσ C (by exact zoA hCD)) (hh₀ C (by exact zoA hCD));have hSt1:St 0 U s1.heap:=IT.stable _ _ _ _ _ hSt kv1 fun b o _ e=>by rw[hs1h];exact old b o e
 let W':Addr->Prop:=fun b=>W b\/D<=b
 have st1:Step W' U s U s1:=.same (fun b o e _=>by rw[hs1h];exact old b o e) (by rw[hsz1,hDD];exact zxJ hCD);have loop:Gp X.M A (.compLoop (.ListComp elt [⟨target,iter,ifs,0⟩] scope pos) 0 it (.ref D) (compEnvC scope (clo env.cells scope.names []) C env)) (RR (.ref D) C) s1:=by
  refine zeN (fun j s2=>∃i l2 σ2 acc ys n,j=xs.length+1-i/\i<=xs.length/\At X σ2 s2/\FR X (compEnvC scope (clo env.cells scope.names []) C env) nm' l2 σ2 s2.heap/\Step W' U s σ2 s2/\I (vis σ2)/\St i σ2 s2.heap/\
   (∀b,W b->σ2 b=none/\X.h₀.get? b=none)/\σ2 D=none/\s2.heap.get? D=some (zR ys n)/\RepVs σ2 s2.heap acc ys/\acc.length<=1000000/\C<s2.heap.objs.size/\zaZ I t c m d Q (xs.drop i) acc l2 (vis σ2)) ?_ (xs.length+1)
   (zaA 0 _ U [] [] 0 rfl (fW _) a1 F1 st1 hI hSt1 hW (hσ D (fM _)) (by rw[hs1h];exact hDobj) .nil (fW _) (by exact zxH hsz1) h)
  intro j s2 hR1;refine zar hR1 fun i l2 σ2 acc ys n e1_6 hi a2 F2 st2 hI2 hSt2 hW2 hD2 hDo rys hacc2 hC2 hf=>?_;subst e1_6;have noW:NoStay W s2.heap:=fun b o hb e=>by refine zk (IT.there i _ _ b hSt2 hb) fun o' e' h' _=>?_;rw[e] at e';obtain rfl:=G4 e';exact h'
  have ndW:∀{i U h b o},St i U h->W b->h.get? b=some o->∀es n,o.data≠.dict es n:=fun {i U h b o} hs hb e=>by
   refine zI (IT.there i _ _ b hs hb) fun o' e' _ h1 _=>?_;rw[e] at e';obtain rfl:=G4 e';exact h1
  have dis:∀b,FB (compEnvC scope (clo env.cells scope.names []) C env) b->¬W b:=fun b hb hw=>by
   refine zI (IT.there i _ _ b hSt2 hw) fun o' e' _ h1 h2=>?_
   rcases hb with hb|⟨x,hx⟩
   .refine zb F2.ns fun _ h5_1 _=>?_;refine jm h5_1 fun o es ep ho hd _=>?_;rw[<-hb,e'] at ho;obtain rfl:=G4 ho;exact h1 _ _ hd
   .refine zb1 (F2.outc x b hx) fun _ _ v o ho hd=>?_;rw[ho] at e';obtain rfl:=G4 e';exact h2 _ hd
  have disD:¬W D:=fun hw=>by
   refine zb (IT.there 0 _ _ D hSt hw) fun o' e' _=>?_;have:=ltA e';exact ztQ hDD this
  have hDF:¬FB (compEnvC scope (clo env.cells scope.names []) C env) D:=fun hb=>by
   rcases hb with h|⟨x,hx⟩
   .have h:D=C:=h;exact zxo hCD h
   .refine zb1 (F2.outc x D hx) fun _ _ v o ho hd=>?_;rw[hDo] at ho;obtain rfl:=G4 ho;cases hd
  cases hx:xs[i]? with
  | none=>
   have hil:i=xs.length:=fAF hi (fCS.mp hx);subst hil;refine IT.done σ2 s2 _ _ a2 hI2 hSt2 hW2 fun s3 a3 st3=>?_;rw[List.drop_length] at hf;refine zb ((F2.stepB a2 st3 dis noW).ns) fun mC hmC _=>?_;have hDo3:s3.heap.get? D=some (zR ys n):=st3.keep _ _ hDo hD2 disD (zcm _ _);have kv3:KeepV σ2 s2.heap σ2 s3.heap:=st3.keepV a2 noW;have st3':Step W' U s σ2 s3:=st2.trans (st3.weaken fun b hb=>.inl hb);have stF:Step W U s σ2 s3:=st3'.drop (B:=W) fun b hb=>hb.imp id fun q=>by rw[hDD];exact q
   exact hRR D C s3 σ2 acc mC hDfr (by exact zrY hDD) (by exact zyL hDD hCD) (by exact zxI hCD) hD2 F2.out.1 hmC (zP ys n hDo3 (rys.mono kv3) hacc2) a3 stF hf
  | some x=>
   have hlt:i<xs.length:=(fX.mp hx).1;have hd:xs.drop i=x::xs.drop (i+1):=by rw[fAG hlt,(fX.mp hx).2]
   rw[hd] at hf;refine zb hf fun l3 hb3 hf=>?_;refine IT.item i x σ2 s2 _ _ _ (fun v s3 hr=>hr) hx a2 hI2 hSt2 hW2 fun v s3 rv a3 st3 hSt3=>?_;have F3:=F2.stepB a2 st3 dis noW;have hDo3:s3.heap.get? D=some (zR ys n):=st3.keep _ _ hDo hD2 disD (zcm _ _);have rys3:=rys.mono (st3.keepV a2 noW);refine ht C d A l2 l3 σ2 s3 x v _ _ L hdd a3 F3 rv hb3 fun s4 F4 a4 st4=>?_;have noC:NoStay (fun b=>b=C) s3.heap:=fun b o hb e=>F3.noStay b o (.inl hb) e;have hDo4:s4.heap.get? D=some (zR ys n):=st4.keep _ _ hDo3 hD2 (by show ¬D=C;exact ztV hCD) (zcm _ _);have rys4:=rys3.mono (st4.keepV a3 noC);have hSt4:St (i+1) σ2 s4.heap:=IT.stable _ _ _ _ _ hSt3 (st4.keepV a3 noC) fun b o hb e=>st4.keep b o e (hW2 b hb).1 (fun q=>dis b (.inl q) hb) (ndW hSt3 hb e);refine ziv (hc C) L a4 F4 hf fun ok s5 hpx=>?_;refine zk hpx fun σ5 a5 st5 q5=>?_;have hD5:σ5 D=none:=st5.gone hDo4 hD2;have F5:=F4.step a4 st5;have hDo5:s5.heap.get? D=some (zR ys n):=st5.keep _ _ hDo4 hD2 id (zcm _ _);have rys5:=rys4.mono (st5.keepV0 a4);have out5:∀b,W b->σ5 b=none/\X.h₀.get? b=none:=fun b hb=>⟨by refine zb (IT.there _ _ _ b hSt4 hb) fun o ho _=>?_;exact st5.gone ho (hW2 b hb).1,(hW2 b hb).2⟩
   have hSt5:St (i+1) σ5 s5.heap:=IT.stable _ _ _ _ _ hSt4 (st5.keepV0 a4) fun b o hb e=>st5.keep b o e (hW2 b hb).1 id (ndW hSt4 hb e);have stA5:Step W' U s σ5 s5:=st2.trans ((st3.weaken fun b hb=>.inl hb).trans ((st4.weaken fun b hb=>.inr (leA (by have hb:@Eq Nat b C:=hb;exact zy8 hCD (by assumption)))).trans (st5.weaken fun b hb=>hb.elim)));have hC5:C<s5.heap.objs.size:=pF hC2 (fN st3.size (fN st4.size st5.size));cases ok with
   | false=>
    simp only[gG,if_false];exact j4 (xs.length+1-(i+1)) (by exact zp1 hlt) (i+1) l3 σ5 acc ys n rfl hlt a5 F5 stA5 q5.1 hSt5 out5 hD5 hDo5 rys5 hacc2 hC5 q5.2
   | true=>
    simp only[if_true];refine Gc (hm C d A l3 σ5 s5 _ _ L a5 F5 q5) (fun y s6 hpx=>?_) fun _ _ x=>noX x;refine zdO hpx fun av σ6 r6 a6 st6 hI6 hsz6 hf6=>?_;have hD6:σ6 D=none:=st6.gone hDo5 hD5;have F6:=F5.step a5 st6;have hDo6:s6.heap.get? D=some (zR ys n):=st6.keep _ _ hDo5 hD5 id (zcm _ _);have rys6:=rys5.mono (st6.keepV0 a5);have hSt6:St (i+1) σ6 s6.heap:=IT.stable _ _ _ _ _ hSt5 (st6.keepV0 a5) fun b o hb e=>st6.keep b o e (out5 b hb).1 id (ndW hSt5 hb e);have out6:∀b,W b->σ6 b=none/\X.h₀.get? b=none:=fun b hb=>⟨by refine zb (IT.there _ _ _ b hSt5 hb) fun o ho _=>?_;exact st6.gone ho (out5 b hb).1,(hW2 b hb).2⟩
    refine wpAny_list_append_plain (items:=ys.toArray) ⟨n,hDo6⟩ (fun h7 ⟨n7,hl7⟩ hs7=>?_) (by
     have:=rys6.length;rw[Gf];simp;exact zxE hsz6 this)
    have kv7:KeepV σ6 s6.heap σ6 h7:=.mk' fun b o e stb=>by
     have hb:b≠D:=by rintro rfl;rw[hDo6] at e;obtain rfl:=G4 e;exact zbe _ _ stb
     exact(hs7.2 b hb).trans e
    have a7:At X σ6 { s6 with heap:=h7 }:=a6.aside (t:=s6.toks) (h':=h7) hD6 (hh₀ D (fM _)) (fun o e=>by rw[hDo6] at e;obtain rfl:=G4 e;exact zbe _ _) (fun q=>absurd q hDfr) hs7;have st7:Step (fun b=>b=D) σ6 s6 σ6 { s6 with heap:=h7 }:=Step.aside (t:=s6.toks) (h':=h7) rfl hs7;have noD:NoStay (fun b=>b=D) s6.heap:=fun b o hb e=>by subst hb;rw[hDo6] at e;obtain rfl:=G4 e;exact zbe _ _
    have F7:=F6.stepB a6 st7 (fun b hb q=>hDF (q▸hb)) noD;refine j4 (xs.length+1-(i+1)) (by exact zp1 hlt) (i+1) l3 σ6 (acc++[av]) (ys++[y]) n7 rfl hlt a7 F7 (stA5.trans ((st6.weaken fun b hb=>hb.elim).trans (st7.weaken fun b hb=>.inr (leA (by have hb:@Eq Nat b D:=hb;exact zp2 (by assumption)))))) hI6 (IT.stable _ _ _ _ _ hSt6 kv7 fun b o hb e=>(hs7.2 b fun q=>disD (q▸hb)).trans e) out6 hD6 ?_ ((rys6.mono kv7).append (.cons (r6.mono kv7) .nil)) (by rw[fE];exact hsz6) ?_ hf6
    .have:(ys.toArray.push y)=(ys++[y]).toArray:=by simp
     rw[this] at hl7;exact hl7
    .show C<h7.objs.size;rw[hs7.1];exact pF hC5 st6.size
 show Gp X.M A (.compStart (.ListComp elt [⟨target,iter,ifs,0⟩] scope pos) 0 it (.ref D) (compEnvC scope (clo env.cells scope.names []) C env)) (RR (.ref D) C) s1;exact codeAny_compStart_list loop (IT.self 0 U s1 _ _ hSt1 loop)
end
theorem RepVs.mem{U:AHeap}{h:Heap}{xs:List AV}{vs:List Value}(r:RepVs U h xs vs):∀v∈vs,∃x∈xs,RepV U h x v:=by
 induction xs generalizing vs with
 | nil=>obtain rfl:=RepVs.wG r;intro v hv;cases hv
 | cons y xs ih=>
  obtain⟨_,_,rfl,a,r⟩:=RepVs.wE r;intro v hv
  rcases fF.mp hv with e|hv
  .subst e;exact zc _ fB a
  .obtain⟨x,hx,q⟩:=ih r v hv;exact zc x (fA _ hx) q
section
variable{prog:Gn}{w:World}
def zdB(prog:Gn)(w:World)(h:Heap)(n:Nat)(v:Value)(x:Int)(dr:Nat):Prop:=
 ∀(A:Around) (E:Value->Shared->Prop) (s:Shared) (Q:Int->Shared->Prop),s.heap=h->A.units+n<cLine->Q x { s with toks:=s.toks+dr }->wpAny (model prog w) A (pyHash v) Q E s
inductive HashAll(prog:Gn)(w:World)(h:Heap)(n:Nat):List Value->List Int->Nat->Prop
 | nil:HashAll prog w h n [] [] 0
 | cons {v x dr vs xs drs}:zdB prog w h n v x dr->HashAll prog w h n vs xs drs->HashAll prog w h n (v::vs) (x::xs) (dr+drs)
theorem zi7{h:Heap}{n:Nat}(x:Str)(t:Tok):zdB prog w h n (.str x t) (hashStr w x) 1:=fun A E s Q _ _ hq=>wpAny_pyHash_str hq
theorem zi6{h:Heap}{n:Nat}(x:Int)(t:Tok):zdB prog w h n (.int x t) (hashInt x) 1:=fun A E s Q _ _ hq=>wpAny_pyHash_int hq
theorem zca{h:Heap}{n:Nat}{a:Addr}{vs:List Value}{xs:List Int}{dr:Nat}(ht:IsTup h a vs.toArray)(hi:HashAll prog w h n vs xs dr):zdB prog w h (n+10) (.ref a) (reduceHash (Builtin.Tuple.tupleHashOf xs)) (dr+1):=fun A E s Q hs hu hq=>by
 subst hs;refine jC ht fun o ho hc m hd=>?_;have hT:s.TypeIs (.ref a) "tuple":=(zc o ho hc)
 first|unfold pyHashByItsType|skip
 first|refine Ga (wpAny_cRoomFor_or (.inr (zym hu)) ?_)|skip
 refine Ga (wpAny_specialOf hT F.slot_tuple_hash.lookup ?_);rw[if_neg (by rw[beq_builtin_none];exact pL)];refine Ga (wpAny_specialOf hT F.slot_tuple_hash.lookup ?_);refine Ga (wpAny_callSpecialIfBoundUnlessNone?_slot hT F.slot_tuple_hash (Gi F.slot_tuple_hash hT F.entry_tuple_hash ?_ (F.args_tuple_hash_1 _)));show wpAny _ _ (Builtin.Tuple.tupleItemsOf (.ref a) >>= _) _ _ s;refine Ga (wpAny_tupleItemsOf ho hd ?_);refine Ga ?_;rw[<-fBR];refine Gh _
  (fun rest (b:Array Int) s'=>∃(left:List Int) (d1 d2:Nat),xs=b.toList++left/\HashAll prog w s.heap n rest left d2/\dr=d1+d2/\s'={ s with toks:=s.toks+d1 })
  _ ?_ ?_ _ _ (jO xs 0 dr rfl hi (by simp) rfl)
 .intro v rest b s' hR1;refine zcM hR1 fun left d1 d2 hx hl hdr e2_6=>?_;subst e2_6;cases hl with
  | @cons _ x0 e1 _ xs' e2 h1 hl'=>
   refine Ga (h1 _ _ _ _ rfl ?_ ?_)
   .have:∀B:Around,B.units<=A.units+9->B.units+n<cLine:=fun B hB=>by exact zzP hu hB
    exact this _ (by show A.units+_<=A.units+9;exact zwN)
   first
    | exact Gb (jO xs' (d1+e1) e2 (by simp[hx]) hl' (zz2 hdr) (by simp[fAV]))
    | exact Ga (Gb (Gb ⟨xs',d1+e1,e2,by simp[hx],hl',by lia,by simp[fAV]⟩))
 .intro b s' hR2;refine zcM hR2 fun left d1 d2 hx hl hdr e3_6=>?_;subst e3_6;cases hl;rw[gO] at hx;subst hdr;show wpAny _ _ (retInt (Builtin.Tuple.tupleHashOf b.toList)) _ _ _;rw[<-hx];refine wpAny_ret_mkInt ?_;show wpAny _ _ (if (decide (-(2:Int) ^ 63<=Builtin.Tuple.tupleHashOf xs)&&decide (Builtin.Tuple.tupleHashOf xs<2 ^ 63))=true then _ else _) Q E _;unfold reduceHash at hq
  by_cases hr:(decide (-(2:Int) ^ 63<=Builtin.Tuple.tupleHashOf xs)&&decide (Builtin.Tuple.tupleHashOf xs<2 ^ 63))=true
  .rw[if_pos hr];rw[if_pos hr] at hq;exact Gb (by simpa [fAV] using hq)
  .rw[if_neg hr];rw[if_neg hr] at hq;exact Ga (Gg (Gb (by simpa [fAV] using hq)))
end
section
variable{prog:Gn}{w:World}
def zbV(prog:Gn)(w:World)(h:Heap)(k:Nat)(v:Value):Prop:=
 ∀(A:Around) (E:Value->Shared->Prop) (s:Shared) (Q:Bool->Shared->Prop),s.heap=h->Q true s->wpAny (model prog w) A (eqIsQuiet k v) Q E s
theorem zia{h:Heap}{k:Nat}{v:Value}(hv:carriedByValue v=true):zbV prog w h k v:=fun A E s Q _ hq=>by
 rw[eqIsQuiet_byValue _ hv];exact Gb hq
theorem zbG{h:Heap}{k:Nat}{a:Addr}{vs:List Value}(ht:IsTup h a vs.toArray)(hi:∀v∈vs,zbV prog w h k v):zbV prog w h (k+1) (.ref a):=fun A E s Q hs hq=>by
 subst hs;refine jC ht fun o ho hc m hd=>?_;have hT:s.TypeIs (.ref a) "tuple":=(zc o ho hc)
 unfold eqIsQuiet;refine Ga (wpAny_specialOf hT F.slot_tuple_eq.lookup ?_);refine Ga (wpAny_isInstance hT isSubtype_tuple_tuple ?_);simp only[fCC,gG,if_false];refine Ga (wpAny_seqItems ho hd ?_);refine Ga ?_;rw[<-fBR];refine Gh _ (fun rest r s'=>r.1=none/\s'=s/\∀v∈rest,zbV prog w s.heap k v) _ ?_ ?_ _ _ (zq rfl rfl hi)
 .intro v rest r s' hR3;refine zY hR3 fun hr e4_1 hall=>?_;subst e4_1;refine Ga (hall v fB _ _ _ _ rfl ?_);simp only[fCC,gG,if_false];exact Gb (zq rfl rfl (fun u hu'=>hall u (fA _ hu')))
 .intro hR4;obtain⟨r1,r2⟩:=hR4;intro s' hR5;refine zY hR5 fun hr e6_1 _=>?_;subst e6_1;simp only at hr;subst hr;exact Gb hq
end
noncomputable def mkD(m:zd):PyData:=.tuple [.str (zy m.1.toNat),.int m.2]
section
variable{prog:Gn}{w:World}{U:AHeap}{h:Heap}
theorem zhV{m:zd}{v:Value}(r:RepV U h (zz m) v):∃a t u,v = .ref a/\IsTup h a [Value.str (zy m.1.toNat) t,.int m.2 u].toArray/\(zz m=zz m/\2<=1000000/\m.1.toNat<zal):=by
 refine zj (RepV.wH r) fun a vs z1 hl ht rs=>?_;refine zp (RepVs.wE rs) fun v1 us z2 r1 rs=>?_;refine zp (RepVs.wE rs) fun v2 us2 z3 r2 rs=>?_;refine zb (RepV.wJ r1) fun t z4 hn=>?_;refine jU (RepV.wC r2) fun u z5=>?_;have z6:=RepVs.wG rs;subst z6 z5 z4 z3 z2;exact⟨a,t,u,z1,ht,rfl,hl,hn⟩
theorem ku{m:zd}{v:Value}(r:RepV U h (zz m) v):∃a t u,v = .ref a/\IsTup h a [Value.str (zy m.1.toNat) t,.int m.2 u].toArray:=
 jm (zhV r) fun a t u z ht _=>qU a t u z ht
theorem zlB{m:zd}{v:Value}(r:RepV U h (zz m) v):zdB prog w h 10 v (mkH w m) 3:=by
 refine jD (ku r) fun a t u e5_3 ht=>?_;subst e5_3;exact zca (n:=0) ht (.cons (zi7 _ _) (.cons (zi6 _ _) .nil))
theorem zjp{m:zd}{v:Value}(r:RepV U h (zz m) v):zbV prog w h 7 v:=by
 refine jD (ku r) fun a t u e6_3 ht=>?_;subst e6_3;refine zbG ht fun v hv=>zia ?_;simp at hv
 rcases hv with rfl|rfl<;>rfl
theorem zjF{ms:List zd}{vs:List Value}(r:RepVs U h (ms.map zz) vs):HashAll prog w h 10 vs (ms.map (mkH w)) (3*ms.length):=by
 induction ms generalizing vs with
 | nil=>obtain rfl:=RepVs.wG r;exact .nil
 | cons m ms ih=>
  refine zp (RepVs.wE r) fun _ _ z1 r0 rs=>?_;subst z1
  .have:=HashAll.cons (zlB (prog:=prog) (w:=w) r0) (ih rs);have e:3*(m::ms).length=3+3*ms.length:=by simp;exact zwJ
   rw[e];exact this
theorem zfl{a:Addr}{vs us:List Value}(h1:IsTup h a vs.toArray)(h2:IsTup h a us.toArray):vs=us:=by
 refine jC h1 fun o ho hc n hd=>?_;refine jC h2 fun o' ho' hc' n' hd'=>?_;rw[ho] at ho';obtain rfl:=G4 ho';rw[hd] at hd';injection hd' with e;simpa using e
theorem znG{U':AHeap}{m:zd}{v:Value}(r:RepV U h (zz m) v):RepV U' h (zz m) v:=by
 refine jm (zhV r) fun a t u z ht q=>?_;subst z;exact .tup q.2.1 ht (.cons (.str q.2.2 t) (.cons (.int _ u) .nil))
theorem zlC{U':AHeap}{ms:List zd}{vs:List Value}(r:RepVs U h (ms.map zz) vs):RepVs U' h (ms.map zz) vs:=by
 induction ms generalizing vs with
 | nil=>obtain rfl:=RepVs.wG r;exact .nil
 | cons m ms ih=>refine zp (RepVs.wE r) fun _ _ z1 r0 rs=>?_;subst z1;exact .cons (znG r0) (ih rs)
theorem zcA{U':AHeap}{ms:List zd}{v:Value}(r:RepV U h (zA ms) v):RepV U' h (zA ms) v:=by
 refine zj (RepV.wH r) fun _ _ e10_2 hl ht rs=>?_;subst e10_2;exact .tup hl ht (zlC rs)
theorem znH{m m':zd}{v:Value}(r:RepV U h (zz m) v)(r':RepV U h (zz m') v):m=m':=by
 refine jD (ku r) fun a t u e11_3 ht=>?_;subst e11_3;refine jD (ku r') fun a' t' u' e ht'=>?_;cases e;have:=zfl ht ht';simp at this;exact Prod.ext (side_inj.mp this.1.1) this.2.1
theorem zn7{xs ys:List zd}{vs:List Value}(r:RepVs U h (xs.map zz) vs)(r':RepVs U h (ys.map zz) vs):xs=ys:=by
 induction xs generalizing ys vs with
 | nil=>obtain rfl:=RepVs.wG r;cases ys with
  | nil=>rfl
  | cons _ _=>exact zp (RepVs.wE r') fun _ _ z _ _=>nomatch z
 | cons x xs ih=>
  refine zp (RepVs.wE r) fun _ _ z1 r0 rs=>?_;subst z1
  .cases ys with
   | nil=>exact nomatch RepVs.wG r'
   | cons y ys=>refine zp (RepVs.wE r') fun _ _ z1 r' rs'=>?_;obtain⟨rfl,rfl⟩:=List.cons.inj z1;rw[znH r0 r',ih rs rs']
theorem jB{ms:List zd}{v:Value}(r:RepV U h (zA ms) v):∃a vs,v = .ref a/\IsTup h a vs.toArray/\RepVs U h (ms.map zz) vs:=by
 refine zj (RepV.wH r) fun a vs e13_2 hl ht rs=>?_;subst e13_2;exact zP a vs rfl ht rs
theorem zjq{m:zd}{v:Value}(r:RepV U h (zz m) v):Reads h v (mkD m) []:=by
 refine zhe (ku r) fun a t u e14_3 o ho hc n hd=>?_;subst e14_3;exact .tuple ho hc hd (.cons (.str _ _) (.cons (.int _ _) .nil))
theorem zhW{ms:List zd}{vs:List Value}(r:RepVs U h (ms.map zz) vs):ReadsAll h vs (ms.map mkD) []:=by
 induction ms generalizing vs with
 | nil=>obtain rfl:=RepVs.wG r;exact .nil
 | cons m ms ih=>refine zp (RepVs.wE r) fun _ _ z1 r0 rs=>?_;subst z1;exact ReadsAll.cons (as:=[]) (bs:=[]) (zjq r0) (ih rs)
theorem zfB{ms:List zd}{v:Value}(r:RepV U h (zA ms) v):Reads h v (.tuple (ms.map mkD)) []:=by
 refine zp (jB r) fun a vs e15_2 h15_3 rs=>?_;subst e15_2;refine jC h15_3 fun o ho hc n hd=>?_;exact .tuple ho hc hd (zhW rs)
theorem zpk(m m':zd):PyData.eqv (mkD m) (mkD m')=decide (m=m'):=by
 obtain⟨a,b⟩:=m;obtain⟨c,d⟩:=m';simp[mkD,PyData.eqv,PyData.eqvAll,Prod.ext_iff]
 by_cases h1:a=c<;>by_cases h2:b=d<;>simp[h1,h2,side_inj]
theorem zpv(xs ys:List zd):PyData.eqvAll (xs.map mkD) (ys.map mkD)=decide (xs=ys):=by
 induction xs generalizing ys with
 | nil=>cases ys with
  | nil=>rfl
  | cons y ys=>simp[PyData.eqvAll]
 | cons x xs ih=>cases ys with
  | nil=>simp[PyData.eqvAll]
  | cons y ys=>
   simp only[gF,PyData.eqvAll,zpk,ih,List.cons.injEq]
   by_cases h1:x=y<;>by_cases h2:xs=ys<;>simp[h1,h2]
theorem zkG(ms:List zd):PyData.canLayAll0 (ms.map mkD)=true/\PyData.depthAll (ms.map mkD)<=5:=by
 induction ms with
 | nil=>exact⟨rfl,by simp[PyData.depthAll]⟩
 | cons m ms ih=>
  have h1:PyData.strOk (zy m.1.toNat)=true:=zir (zgF _);refine⟨by simp[PyData.canLayAll0,mkD,PyData.canLay0,h1,ih.1],?_⟩;have:=ih.2;simp[PyData.depthAll,mkD,PyData.depth];lia
end
noncomputable def zrf:AHeap:=fun _=>none
noncomputable def kN(prog:Gn)(w:World):HeapKind prog w (List zd) where
 is:=fun h ms a=>RepV zrf h (zA ms) (.ref a)
 hash:=zs5 w
 draws:=fun ms=>3*ms.length+1
 room:=fun A=>A.units+100<cLine
 inj:=fun hx hy=>by
  refine zp (jB hx) fun a vs e ht rs=>?_;refine zp (jB hy) fun a' vs' e' ht' rs'=>?_;cases e;cases e';have:=zfl ht ht';subst this;exact zn7 rs rs'
 keeps:=fun x ho hd hs=>x.mono (.mk' fun b o e st=>by
  refine(hs.2 b ?_).trans e;rintro rfl;rw[ho] at e;obtain rfl:=G4 e;exact zbd hd st)
 pyHash:=fun hu hk hq=>by
  refine zp (jB hk) fun a vs e ht rs=>?_;cases e;exact zca (n:=10) ht (zjF rs) _ _ _ _ rfl (zxa hu) hq
 eqBool:=fun hu hx hy hq=>by
  rename_i k1 k2 _ _ _
  have l1:=zkG k1;have l2:=zkG k2;refine eqAt_reads _ _ _ _ _ _ _ _ (zfB hx) (zfB hy) (by simpa [PyData.canLay0] using l1.1) (by simpa [PyData.canLay0] using l2.1) ?_ _ _ _ _ ?_
  .simp only[PyData.depth];have:=l1.2;have:=l2.2
   lia
  .simp only[PyData.eqv,zpv];exact hq
 quiet:=fun hk hq=>by
  refine zp (jB hk) fun a vs e ht rs=>?_;cases e;refine zbG (k:=7) ht (fun v hv=>?_) _ _ _ _ rfl hq;refine zb (rs.mem v hv) fun x hx rx=>?_;refine zb (fO.mp hx) fun m _ e23_2=>?_;subst e23_2;exact zjp rx
abbrev Tab:=List (List zd×AV)
noncomputable def Tab.at(kvs:Tab)(k:List zd):Option AV:=(kvs.find? fun x=>decide (x.1=k)).map (·.2)
noncomputable def Tab.put(kvs:Tab)(k:List zd)(v:AV):Tab:=if (kvs.at k).isSome then kvs.map (fun x=>if x.1=k then (x.1,v) else x) else kvs++[(k,v)]
inductive TX(U:AHeap)(h:Heap):List (List zd×Addr×Value)->Tab->Prop
 | nil:TX U h [] []
 | cons {k:List zd} {a:Addr} {v:Value} {x:AV} {xs kvs}:RepV U h (zA k) (.ref a)->RepV U h x v->TX U h xs kvs->TX U h ((k,a,v)::xs) ((k,x)::kvs)
section
variable{prog:Gn}{w:World}{U U':AHeap}{h h':Heap}
theorem TX.keys{xs:List (List zd×Addr×Value)}{kvs:Tab}(t:TX U h xs kvs):xs.map (·.1)=kvs.map (·.1):=by
 induction t with
 | nil=>rfl
 | cons _ _ _ ih=>rw[gF,gF,ih]
theorem TX.length{xs:List (List zd×Addr×Value)}{kvs:Tab}(t:TX U h xs kvs):xs.length=kvs.length:=by
 have:=congrArg List.length t.keys;rwa [fC,fC] at this
theorem TX.mono(k:KeepV U h U' h'){xs:List (List zd×Addr×Value)}{kvs:Tab}(t:TX U h xs kvs):TX U' h' xs kvs:=by
 induction t with
 | nil=>exact .nil
 | cons a b _ ih=>exact .cons (a.mono k) (b.mono k) ih
theorem TX.of{kvs:Tab}{es:List DictEntry}(t:RepT w U h kvs es):∃xs,TX U h xs kvs/\es=xs.map (entryOfKey (kN prog w)):=by
 induction t with
 | nil=>exact⟨[],.nil,rfl⟩
 | @cons k x r e es a b c _ ih=>
  refine zb ih fun xs h1 h2=>?_;refine zp (jB a) fun ad vs ea _ _=>?_;obtain⟨eh,ek,ev⟩:=e;simp only at ea a b c;subst ea;exact zc ((k,ad,ev)::xs) (.cons a b h1) (by rw[h2,gF];congr 1;simp only[entryOfKey];rw[c];rfl)
theorem TX.to{xs:List (List zd×Addr×Value)}{kvs:Tab}(t:TX U h xs kvs):RepT w U h kvs (xs.map (entryOfKey (kN prog w))):=by
 induction t with
 | nil=>exact .nil
 | cons a b _ ih=>exact .cons a b rfl ih
theorem TX.at_{k:List zd}{xs:List (List zd×Addr×Value)}{kvs:Tab}(t:TX U h xs kvs):(atKey xs k=none/\Tab.at kvs k=none)\/∃p x,atKey xs k=some p/\Tab.at kvs k=some x/\RepV U h x p.2:=by
 induction t with
 | nil=>exact .inl ⟨rfl,rfl⟩
 | @cons k' a v x xs kvs ra rb r ih=>
  unfold atKey Tab.at at ih ⊢
  by_cases hk:k'=k
  .refine .inr (zP (a,v) x ?_ ?_ rb)<;>rw[pS,G6 hk]<;>rfl
  .rw[pS,pS,G5 hk];exact ih
theorem TX.snoc{k:List zd}{a:Addr}{v:Value}{x:AV}(ra:RepV U h (zA k) (.ref a))(rb:RepV U h x v){xs:List (List zd×Addr×Value)}{kvs:Tab}(t:TX U h xs kvs):TX U h (xs++[(k,a,v)]) (kvs++[(k,x)]):=by
 induction t with
 | nil=>exact .cons ra rb .nil
 | cons p q _ ih=>exact .cons p q ih
theorem TX.over{k:List zd}{v:Value}{x:AV}(rb:RepV U h x v){xs:List (List zd×Addr×Value)}{kvs:Tab}(t:TX U h xs kvs):TX U h (xs.map (putAt k v)) (kvs.map fun y=>if y.1=k then (y.1,x) else y):=by
 induction t with
 | nil=>exact .nil
 | @cons k' a' v' _ xs kvs p q r ih=>
  rw[gF,gF];unfold putAt at ih ⊢
  by_cases hk:k'=k
  .rw[if_pos hk,if_pos hk];exact .cons p rb ih
  .rw[if_neg hk,if_neg hk];exact .cons p q ih
theorem TX.put{k:List zd}{a:Addr}{v:Value}{x:AV}(ra:RepV U h (zA k) (.ref a))(rb:RepV U h x v){xs kvs}(t:TX U h xs kvs):TX U h (storedH xs k a v) (Tab.put kvs k x):=by
 unfold Tab.put
 rcases t.at_ (k:=k) with⟨h1,h2⟩|⟨p,y,h1,h2,_⟩
 .rw[storedH_new h1,h2];exact t.snoc ra rb
 .rw[storedH_old h1,h2];exact t.over rb
end
section
variable{X:Cx}{U:AHeap}{s:Shared}{d:Addr}{kvs:Tab}
theorem At.tab(a:At X U s)(e:U d=some (.tdict kvs)):∃xs,s.heap.DictOfH (kN X.prog X.w) d xs/\TX U s.heap xs kvs:=by
 refine zt (a.rep _ _ e) fun es n ho rt nd hl _=>?_;refine zb (TX.of (prog:=X.prog) rt) fun xs h1 h2=>?_;refine zc xs (za8 _ es n ho (zq rfl rfl rfl) rfl h2 (fun x hx=>?_) (by rw[h1.keys];exact nd)) h1;clear nd hl ho e;clear h2 rt
 induction h1 with
 | nil=>cases hx
 | cons ra rb r ih=>
  rcases fF.mp hx with rfl|hx
  .exact zcA ra
  .exact ih hx
theorem At.tabNe(a:At X U s)(e:U d=some (.tdict kvs)):(d==sysModules)=false:=by
 refine zt (a.rep _ _ e) fun es n ho rt nd hl h=>?_;exact h
theorem Tab.wY(kvs:Tab)(k:List zd)(v:AV):(kvs.put k v).length<=kvs.length+1:=by
 unfold Tab.put;split<;>simp
theorem zit{h':Heap}{xs:List (List zd×Addr×Value)}{k:List zd}{ad:Addr}{x:AV}{v:Value}(a:At X U s)(e:U d=some (.tdict kvs))(tx:TX U s.heap xs kvs)(rk:RepV U s.heap (zA k) (.ref ad))(rv:RepV U s.heap x v)(hl:kvs.length<1000000){U':AHeap}(kv:KeepV U s.heap U' h')
  (hD':h'.DictOfH (kN X.prog X.w) d (storedH xs k ad v)):RepA X U' h' d (.tdict (kvs.put k x)):=by
 refine jd hD' fun o es ep ho h8_4 hd he hi hn=>?_;obtain⟨hc1,hc2,hc3⟩:=h8_4;have tx':=(tx.mono kv).put (rk.mono kv) (rv.mono kv);refine jr es ep ?_ ?_ ?_ ?_ (a.tabNe e)
 .rw[ho];obtain⟨c,di,da,sl⟩:=o;simp only at hc1 hc2 hc3 hd;subst hc1;subst hc2;subst hc3;subst hd;rfl
 .rw[he];exact tx'.to
 .rw[<-tx'.keys];exact hn
 .have:=Tab.wY kvs k x;lia
theorem zop{xs:List (List zd×Addr×Value)}{kvs:Tab}(tx:TX U s.heap xs kvs)(k:List zd):(atKey xs k).isSome=(kvs.at k).isSome:=by
 rcases tx.at_ (k:=k) with⟨h1,h2⟩|⟨p,y,h1,h2,_⟩<;>rw[h1,h2]<;>rfl
variable{A:Around}{E:Value->Shared->Prop}{dp:Dp}{Q:zm}{k:List zd}{u:Value}
theorem zpF{v:Value}{x:AV}{R:Unit->Shared->Prop}(L:Live X dp A)(a:At X U s)(e:U d=some (.tdict kvs))(rk:RepV U s.heap (zA k) u)(rv:RepV U s.heap x v)(hl:kvs.length<1000000)
  (q:∀s',At X (U.set d (.tdict (kvs.put k x))) s'->Step E0 U s (U.set d (.tdict (kvs.put k x))) s'->R () s'):wpAny X.M A (setItem (.ref d) u v) R E s:=by
 refine zp (jB rk) fun ad vs e10_2 _ _=>?_;subst e10_2;refine zb (a.tab e) fun xs hD tx=>?_;have room:=L.room;refine wpAny_setItem_heap (knd:=kN X.prog X.w) (by show A.units+1+100<cLine;exact zrR room) (zcA rk) hD (fun h' hD' hs=>?_) (by rw[tx.length,Gf];exact ztl hl);refine q _ (a.store (t:=_) (ao:=.tdict (kvs.put k x)) e rfl hs fun kv=>?_) (Step.store (t:=_) e rfl hs);exact zit a e tx rk rv hl kv hD'
theorem zpE{v:Value}{x:AV}{R:Unit->Shared->Prop}(L:Live X dp A)(a:At X U s)(e:U d=some (.tdict kvs))(rk:RepV U s.heap (zA k) u)(rv:RepV U s.heap x v)(hl:kvs.length<1000000)
  (q:∀s',At X (U.set d (.tdict (kvs.put k x))) s'->Step E0 U s (U.set d (.tdict (kvs.put k x))) s'->R () s'):wpAny X.M A (dictSet d u v) R E s:=by
 refine zp (jB rk) fun ad vs e12_2 _ _=>?_;subst e12_2;refine zb (a.tab e) fun xs hD tx=>?_;have room:=L.room;refine wpAny_dictSet_heap (knd:=kN X.prog X.w) (by show A.units+100<cLine;exact zxc room) (zcA rk) hD (fun h' hD' hs=>?_) (by rw[tx.length,Gf];exact ztl hl);refine q _ (a.store (t:=_) (ao:=.tdict (kvs.put k x)) e rfl hs fun kv=>?_) (Step.store (t:=_) e rfl hs);exact zit a e tx rk rv hl kv hD'
theorem zrD(L:Live X dp A)(a:At X U s)(e:U d=some (.tdict kvs))(rk:RepV U s.heap (zA k) u)(q:Q (.bool (kvs.at k).isSome) (vis U)):wpAny X.M A (compareOp .In u (.ref d)) (liftQ X U s Q) E s:=by
 refine zp (jB rk) fun ad vs e14_2 _ _=>?_;subst e14_2;refine zb (a.tab e) fun xs hD tx=>?_;have room:=L.room;refine wpAny_in_heap (knd:=kN X.prog X.w) (by show A.units+1+100<cLine;exact zrR room) (zcA rk) (a.tabNe e) hD ?_;rw[zop tx];exact zai a (.bool _) q
theorem zpD{x:AV}(L:Live X dp A)(a:At X U s)(e:U d=some (.tdict kvs))(rk:RepV U s.heap (zA k) u)(hx:kvs.at k=some x)(q:Q x (vis U)):wpAny X.M A (getItem (.ref d) u) (liftQ X U s Q) E s:=by
 refine zp (jB rk) fun ad vs e16_2 _ _=>?_;subst e16_2;refine zb (a.tab e) fun xs hD tx=>?_;have room:=L.room
 rcases tx.at_ (k:=k) with⟨_,h2⟩|⟨p,y,h1,h2,r⟩
 .rw[hx] at h2;exact absurd h2 (fJ _)
 .rw[hx] at h2;obtain rfl:=G4 h2;exact wpAny_getItem_heap (knd:=kN X.prog X.w) (by show A.units+1+100<cLine;exact zrR room) (zcA rk) hD h1 (zai a r q)
end
noncomputable def kP(fs:List (Nat×AV))(k:Nat):Option AV:=match fs with
 | []=>none
 | p::r=>bif Nat.beq p.1 k then some p.2 else kP r k
noncomputable def jY(fs:List (Nat×AV))(k:Nat)(v:AV):List (Nat×AV):=match fs with
 | []=>[(k,v)]
 | p::r=>bif Nat.beq p.1 k then (k,v)::r else p::jY r k v
theorem zrc{a b:Nat}:Nat.beq a b=decide (a=b):=by
 cases h:Nat.beq a b with
 | true=>exact(G6 (Nat.eq_of_beq_eq_true h)).symm
 | false=>exact(G5 (Nat.ne_of_beq_eq_false h)).symm
theorem zc8(fs:List (Nat×AV))(k:Nat)(v:AV):(jY fs k v).length<=fs.length+1:=by
 induction fs with
 | nil=>exact fM _
 | cons p r ih=>
  unfold jY;cases Nat.beq p.1 k with
  | true=>exact fBW _
  | false=>exact fAK ih
section
variable{X:Cx}{U:AHeap}{s:Shared}{h:Heap}{d:Addr}{fs:List (Nat×AV)}{kvs:List (Str×Value)}
theorem SX.get(t:SX U h kvs fs){k:Nat}(hk:k<zal):(valueAt kvs (zy k)=none/\kP fs k=none)\/∃v x,valueAt kvs (zy k)=some v/\kP fs k=some x/\RepV U h x v:=by
 induction t with
 | nil=>exact .inl ⟨rfl,rfl⟩
 | @cons k' x v kvs fs hk' r t ih=>
  unfold valueAt at ih ⊢;rw[pS,show kP ((k',x)::fs) k=(bif Nat.beq k' k then some x else kP fs k) from rfl,zrc]
  by_cases e:k'=k
  .subst e;rw[G6 rfl,G6 rfl];exact .inr (zP v x rfl rfl r)
  .have e':¬zy k'=zy k:=fun q=>e (zam hk' hk q);rw[G5 e',G5 e];exact ih
theorem SX.keys(t:SX U h kvs fs):kvs.map (·.1)=fs.map fun f=>zy f.1:=by
 induction t with
 | nil=>rfl
 | cons _ _ _ ih=>rw[gF,gF,ih]
theorem SX.length(t:SX U h kvs fs):kvs.length=fs.length:=by
 have:=congrArg List.length t.keys;rwa [fC,fC] at this
theorem zoK{k:Str}:kvs.any (fun kv=>decide (kv.1=k))=decide (k∈kvs.map (·.1)):=by
 rw[Bool.eq_iff_iff,List.any_eq_true,decide_eq_true_eq,fO];exact⟨fun ⟨p,h1,h2⟩=>(zc p h1 (G7 h2)),fun ⟨p,h1,h2⟩=>(zc p h1 (G6 h2))⟩
theorem SX.put(t:SX U h kvs fs)(nd:(kvs.map (·.1)).Nodup){k:Nat}{x:AV}{v:Value}(hk:k<zal)(r:RepV U h x v):SX U h (stored kvs (zy k) v) (jY fs k x):=by
 have go:∀{kvs:List (Str×Value)} {fs:List (Nat×AV)},SX U h kvs fs->(kvs.map (·.1)).Nodup->(zy k∈kvs.map (·.1)->SX U h (kvs.map fun kv=>if kv.1=zy k then (kv.1,v) else kv) (jY fs k x))/\(zy k∉kvs.map (·.1)->SX U h (kvs++[(zy k,v)]) (jY fs k x)):=by
  intro kvs fs t
  induction t with
  | nil=>intro _;exact⟨fun h=>(nomatch h),fun _=>.cons hk r .nil⟩
  | @cons k' x' v' kvs fs hk' r' t ih=>
   intro nd;rw[gF] at nd;have nd':=fU.mp nd;have ih':=ih nd'.2;rw[gF,gF];unfold jY;rw[zrc]
   by_cases e:k'=k
   .subst e;rw[G6 rfl];refine⟨fun _=>?_,fun hn=>absurd fB hn⟩;rw[if_pos rfl,map_store_of_not_mem kvs _ v nd'.1];exact .cons hk r t
   .have e':¬zy k'=zy k:=fun q=>e (zam hk' hk q);rw[G5 e];rw[if_neg e'];refine⟨fun hm=>.cons hk' r' (ih'.1 ?_),fun hn=>.cons hk' r' (ih'.2 fun q=>hn (fA _ q))⟩
    rcases fF.mp hm with q|q
    .exact absurd q.symm e'
    .exact q
 unfold stored;rw[zoK]
 by_cases hm:zy k∈kvs.map (·.1)
 .rw[G6 hm,if_pos rfl];exact(go t nd).1 hm
 .rw[G5 hm,if_neg pL];exact(go t nd).2 hm
theorem zdI(hD:h.DictOf (strKind X.prog X.w) d kvs):(kvs.map (·.1)).Nodup:=by refine jd hD fun _ _ _ _ _ _ _ _ n=>?_;exact n
theorem zgi(n:Nat)(t:Tok):(strKind X.prog X.w).is (zy n) (.str (zy n) t)=true:=strKind_is _ _ _ _
theorem zlF{A:Around}{E:Value->Shared->Prop}{key c:Value}{P R:Value->Shared->Prop}(h:wpAny X.M A (compareOp .In key c) P E s)(k:∀t s',P (.bool t) s'->R (.bool (!t)) s'):wpAny X.M A (compareOp .NotIn key c) R E s:=by
 have h:wpAny X.M A (do return .bool (<-contains c key)) P E s:=h;refine Ga (fun Γ p hΓ=>?_);have:=h Γ p hΓ;rw[Sem.wp_bind'] at this;exact Sem.wp_mono X.M Γ _ (fun t _ s' x=>Gb (k t s' (by simpa using x))) (fun _ _ _ x=>x) p s this
variable{A:Around}{E:Value->Shared->Prop}{Q:zm}{k:Nat}{u v:Value}{x:AV}
theorem ztd(a:At X U s)(e:U d=some (.idict fs))(rk:RepV U s.heap (.str k) u)(q:Q (.bool (kP fs k).isSome) (vis U)):wpAny X.M A (compareOp .In u (.ref d)) (liftQ X U s Q) E s:=by
 refine zI (a.rep _ _ e) fun kvs hD sx hl hs=>?_;refine zb (RepV.wJ rk) fun t e2_1 hn=>?_;subst e2_1;refine wpAny_in_of (zgi k t) hs hD.mapOf ?_
 rcases sx.get hn with⟨h1,h2⟩|⟨v,x,h1,h2,_⟩<;>rw[h1]<;>rw[h2] at q<;>exact zai a (.bool _) q
theorem zrw(a:At X U s)(e:U d=some (.idict fs))(rk:RepV U s.heap (.str k) u)(hx:kP fs k=some x)(q:Q x (vis U)):wpAny X.M A (getItem (.ref d) u) (liftQ X U s Q) E s:=by
 refine zI (a.rep _ _ e) fun kvs hD sx hl hs=>?_;refine zb (RepV.wJ rk) fun t e4_1 hn=>?_;subst e4_1
 rcases sx.get hn with⟨h1,h2⟩|⟨v,y,h1,h2,r⟩
 .rw[hx] at h2;exact absurd h2 (fJ _)
 .rw[hx] at h2;obtain rfl:=G4 h2;exact wpAny_getItem_of (zgi k t) hD.mapOf h1 (zai a r q)
theorem zgC{U':AHeap}{h':Heap}(a:At X U s)(e:U d=some (.idict fs))(hk:k<zal)(rv:RepV U s.heap x v)(hD:s.heap.DictOf (strKind X.prog X.w) d kvs)(sx:SX U s.heap kvs fs)(hl:fs.length<100)(kv:KeepV U s.heap U' h')
  (hD':h'.DictOf (strKind X.prog X.w) d (stored kvs (zy k) v)):RepA X U' h' d (.idict (jY fs k x)):=by
 refine zI (a.rep _ _ e) fun _ _ _ _ hs=>?_;exact jN _ hD' ((sx.mono kv).put (zdI hD) hk (rv.mono kv)) (by have:=zc8 fs k x;exact zxD hl this) hs
theorem zry{R:Unit->Shared->Prop}(a:At X U s)(e:U d=some (.idict fs))(rk:RepV U s.heap (.str k) u)(rv:RepV U s.heap x v)(hl:fs.length<100)
  (q:∀s',At X (U.set d (.idict (jY fs k x))) s'->Step E0 U s (U.set d (.idict (jY fs k x))) s'->R () s'):wpAny X.M A (setItem (.ref d) u v) R E s:=by
 refine zI (a.rep _ _ e) fun kvs hD sx _ hs=>?_;refine zb (RepV.wJ rk) fun t e7_1 hn=>?_;subst e7_1;refine wpAny_setItem_pairs (zgi k t) hD (fun h' hD' hs'=>?_) (by rw[sx.length,Gf];exact ztj hl);exact q _ (a.store (t:=_) e rfl hs' fun kv=>zgC a e hn rv hD sx hl kv hD') (Step.store (t:=_) e rfl hs')
theorem zrx{R:Unit->Shared->Prop}(a:At X U s)(e:U d=some (.idict fs))(rk:RepV U s.heap (.str k) u)(rv:RepV U s.heap x v)(hl:fs.length<100)
  (q:∀s',At X (U.set d (.idict (jY fs k x))) s'->Step E0 U s (U.set d (.idict (jY fs k x))) s'->R () s'):wpAny X.M A (dictSet d u v) R E s:=by
 refine zI (a.rep _ _ e) fun kvs hD sx _ hs=>?_;refine zb (RepV.wJ rk) fun t e9_1 hn=>?_;subst e9_1;refine wpAny_dictSet_pairs (hsz:=by rw[sx.length,Gf];exact ztj hl) (zgi k t) hD fun h' hD' hs'=>?_;exact q _ (a.store (t:=_) e rfl hs' fun kv=>zgC a e hn rv hD sx hl kv hD') (Step.store (t:=_) e rfl hs')
end
structure FlyB(X:Cx)(U:AHeap)(g:Heap)(x:Addr)(h:Heap):Prop where
 keepS:∀b o,g.get? b=some o->b≠x->∃sl,h.get? b=some { o with slots:=sl }
 keepX:∀b o,g.get? b=some o->b≠x->((∀es n,o.data≠.dict es n)\/U b≠none\/X.h₀.get? b≠none)->h.get? b=some o
 size:g.objs.size<=h.objs.size
def TrAt(g h:Heap)(x c:Addr)(fl:Value):Prop:=∃vs T tc ts,h.get? x=some (exO c vs)/\vs[1]? = some (.ref T)/\T≠x/\g.get? T=none/\h.get? T=some { cls:=tc,dict:=none,data:=.fields ts,slots:=#[] }/\ts[3]? = some fl
structure FOk(X:Cx)(U:AHeap)(g:Heap)(x c:Addr):Prop where
 fr:∀L∈X.fr,U L=none/\IsD g L/\X.h₀.get? L=none
 exg:∃vs,g.get? x=some (exO c vs)
section
variable{X:Cx}{U:AHeap}{g h h':Heap}{x c:Addr}
theorem FOk.ne(F:FOk X U g x c){L:Addr}(hL:L∈X.fr):L≠x:=by
 rintro rfl;refine jD ((F.fr L hL).2.1) fun o es n h1 h2=>?_;obtain⟨vs,h3⟩:=F.exg;rw[h1] at h3;obtain rfl:=G4 h3;cases h2
theorem FlyB.dict(f:FlyB X U g x h)(F:FOk X U g x c){L:Addr}(hL:L∈X.fr):IsD h L:=by
 refine jD ((F.fr L hL).2.1) fun o es n h1 h2=>?_;obtain⟨sl,h3⟩:=f.keepS L o h1 (F.ne hL);exact qU _ es n h3 h2
theorem FlyB.frames(f:FlyB X U g x h)(F:FOk X U g x c){base:Heap}(hb:∀L∈X.fr,base.get? L=none){envs:List Env}(FO:∀e∈envs,e.scope.kind≠.module/\∃L,e.frame=some L/\L∈X.fr):h.FunFrames base envs:=by
 induction envs with
 | nil=>trivial
 | cons e r ih=>
  refine kj (FO e fB) fun h1 L h2 h3=>?_;refine jD (f.dict F h3) fun o es n h4 h5=>?_;exact zq h1 (zr L o h2 (hb L h3) h4 (fun vs q=>by rw[h5] at q;cases q)) (ih fun e he=>FO e (fA _ he))
theorem FlyB.next(f:FlyB X U g x h)(F:FOk X U g x c)(k:∀b o,h.get? b=some o->b∉X.fr->b≠x->g.get? b≠none->h'.get? b=some o)(k4:∀b o,b∈X.fr->h.get? b=some o->∃sl,h'.get? b=some { o with slots:=sl })(hz:h.objs.size<=h'.objs.size):FlyB X U g x h':=by
 refine⟨fun b o e hb=>?_,fun b o e hb hc=>?_,fN f.size hz⟩
 .obtain⟨sl,h1⟩:=f.keepS b o e hb
  by_cases hf:b∈X.fr
  .obtain⟨sl',h2⟩:=k4 b _ hf h1;exact⟨sl',h2⟩
  .exact⟨sl,k b _ h1 hf hb (by rw[e];exact fun q=>nomatch q)⟩
 .refine k b o (f.keepX b o e hb hc) (fun q=>?_) hb (by rw[e];exact fun q=>nomatch q);refine zY (F.fr b q) fun h1 h8_1 h4=>?_;obtain⟨o',es,n,h2,h3⟩:=h8_1;rw[e] at h2;obtain rfl:=G4 h2
  rcases hc with hc|hc|hc
  .exact hc es n h3
  .exact hc h1
  .exact hc h4
end
section
variable{prog:Gn}{w:World}{A:Around}{E:Value->Shared->Prop}{s:Shared}{X:Cx}{U:AHeap}{g:Heap}{x c L:Addr}{env:Env}{outer:List Env}{Q:Unit->Shared->Prop}
theorem Fly.b{h:Heap}(f:Fly X U g x c h):FlyB X U g x h:=⟨f.keepS,f.keepX,f.size⟩
theorem zi3(FO:FrOk X (env::outer))(a:At X U { s with heap:=g }){h:Heap}(f:Fly X U g x c h):FOk X U g x c:=⟨fun L hL=>(zq ((a.ff L hL).1) ((a.ff L hL).2) (FO.out L hL)),f.exg⟩
theorem TrAt.fly{h:Heap}(f:FlyB X U g x h)(F:FOk X U g x c)(t:TrAt g h x c .none):Fly X U g x c h:=by
 refine jM t fun vs T tc ts h1 h5 h6 h7 h8 h10=>?_;exact⟨f.keepS,f.keepX,F.exg,f.size,vs,h1,.inr (zM T tc ts h5 h6 h7 h8 h10)⟩
theorem FlyB.entry{vs:Array Value}{head:Value}{hadNext:Bool}(FO:FrOk X (env::outer))(hfr:A.frames=some (env::outer))(hf:env.frame=some L)(F:FOk X U g x c)(f:FlyB X U g x s.heap)(he:s.heap.get? x=some (exO c vs))(h1:1<vs.size)
  (hQ:∀h',FlyB X U g x h'->TrAt g h' x c (rawInt L)->Q () { s with heap:=h' }) :
  wpAny (model prog w) A (do let a <-frameOf env;let pl <-entryPlaceOf L hadNext;let b <-EntryCells.newEntry head a .none (rawInt L) .none pl;setField (.ref x) 1 b) Q E s:=by
 refine Ga (wpAny_frameOf_fun (base:=hideAll s.heap X.fr) hfr (f.frames F (fun L hL=>hideAll_none _ hL) FO.is) hf fun h₁ hs₁=>?_);have sub:∀b,b∈(env::outer).filterMap (·.frame)->b∈X.fr:=fun b hb=>by
  refine zb (pZ.mp hb) fun e he hb=>?_;refine kj (FO.is e he) fun _ M h2 h3=>?_;rw[h2] at hb;obtain rfl:=G4 hb;exact h3
 have f1:FlyB X U g x h₁:=f.next F (fun b o e hb _ _=>(hs₁.2.1 b fun q=>hb (sub b q)).trans e) (fun b o _ e=>hs₁.2.2 b o e) (pC hs₁.1.symm);have he₁:h₁.get? x=some (exO c vs):=(hs₁.2.1 x fun q=>F.ne (sub x q) rfl).trans he;refine Ga (wpAny_entryPlaceOf fun pl hpl=>?_);refine Ga (wpAny_newObj_type ?_ (hpl.sizeOk5 _ _ _ _ _));have hTx:h₁.objs.size≠x:=Nat.ne_of_gt (Heap.lt_size he₁);refine wpAny_setField_rec (Heap.get?_push_of_some _ he₁) h1 fun h' e' sb=>hQ h' ?_ ?_
 .refine f1.next F (fun b o e _ hb _=>(sb.2 b hb).trans (Heap.get?_push_of_some _ e)) (fun b o hb e=>⟨o.slots,(sb.2 b (F.ne hb)).trans (Heap.get?_push_of_some _ e)⟩) ?_;rw[sb.1,Heap.size_push];exact fBW _
 .refine qp _ h₁.objs.size _ _ e' (by simp[h1]) hTx ?_ ((sb.2 _ hTx).trans (Heap.get?_push_size _ rfl)) rfl;cases q:g.get? h₁.objs.size with
  | none=>rfl
  | some o=>exact absurd (Heap.lt_size q) (pN.mpr f1.size)
theorem Fly.note(FO:FrOk X (env::outer))(hfr:A.frames=some (env::outer))(hf:env.frame=some L)(a:At X U { s with heap:=g })(f:Fly X U g x c s.heap)(hQ:∀h',FlyB X U g x h'->TrAt g h' x c (rawInt L)->Q () { s with heap:=h' }):wpAny (model prog w) A (noteFrame (.ref x) env) Q E s:=by
 have F:=zi3 FO a f;refine zb f.exh fun vs h1 h5=>?_;unfold noteFrame;simp only[hf]
 rcases h5 with h5|⟨T,tc,ts,h5,h6,h7,h8,h10⟩
 .refine Ga (wpAny_field h1 rfl h5 ?_);rw[if_neg (by decide)];exact f.b.entry FO hfr hf F h1 (pP.mp h5).1 hQ
 .refine Ga (wpAny_field h1 rfl h5 ?_);refine Ga (wpAny_field h8 rfl h10 ?_);refine Ga (wpAny_setField_rec h8 (pP.mp h10).1 fun h' e' sb=>?_);have hT:∀b,g.get? b≠none->b≠T:=fun b hb q=>hb (q▸h7);have f':FlyB X U g x h':=f.b.next F (fun b o e _ _ hg=>(sb.2 b (hT b hg)).trans e) (fun b o hb e=>⟨o.slots,(sb.2 b (hT b (by refine jD ((F.fr b hb).2.1) fun o _ _ h _=>?_;rw[h];exact fun q=>nomatch q))).trans e⟩) (pC sb.1.symm);exact FlyB.entry (s:={ s with heap:=h' }) FO hfr hf F f' ((sb.2 x h6.symm).trans h1) (pP.mp h5).1 hQ
theorem FlyB.vH{fl:Value}(F:FOk X U g x c)(f:FlyB X U g x s.heap)(t:TrAt g s.heap x c fl)(hQ:∀h',Fly X U g x c h'->TrAt g h' x c .none->Q () { s with heap:=h' }):wpAny (model prog w) A (setFlight (.ref x) none) Q E s:=by
 refine jM t fun vs T tc ts h1 h5 h6 h7 h8 h10=>?_;have h3:3<ts.size:=(pP.mp h10).1;refine Ga (wpAny_field h1 rfl h5 ?_);refine wpAny_setField_rec h8 h3 fun h' e' sb=>?_;have hT:∀b,g.get? b≠none->b≠T:=fun b hb q=>hb (q▸h7);have f':FlyB X U g x h':=f.next F (fun b o e _ _ hg=>(sb.2 b (hT b hg)).trans e) (fun b o hb e=>⟨o.slots,(sb.2 b (hT b (by refine jD ((F.fr b hb).2.1) fun o _ _ h _=>?_;rw[h];exact fun q=>nomatch q))).trans e⟩) (pC sb.1.symm);have t':TrAt g h' x c .none:=(qp vs T tc _ ((sb.2 x h6.symm).trans h1) h5 h6 h7 e' (by simp[h3]))
 exact hQ h' (TrAt.fly f' F t') t'
theorem Fly.vI(FO:FrOk X (env::outer))(hfr:A.frames=some (env::outer))(hf:env.frame=some L)(a:At X U { s with heap:=g })(f:Fly X U g x c s.heap)(hQ:∀h',Fly X U g x c h'->Q () { s with heap:=h' }):wpAny (model prog w) A (leaving env (.ref x)) Q E s:=by
 exact Ga (f.note FO hfr hf a fun h' f' t'=>FlyB.vH (s:={ s with heap:=h' }) (zi3 FO a f) f' t' fun h2 f2 _=>hQ h2 f2)
theorem Fly.keepV{h:Heap}(f:Fly X U g x c h):KeepV U g U h:=⟨fun b o e st=>by
 by_cases hb:b=x
 .subst hb;obtain⟨vs1,h1⟩:=f.exg;refine zb f.exh fun vs h4 _=>?_;rw[e] at h1;obtain rfl:=G4 h1;exact zc _ h4 (.inr (qU c vs1 vs rfl rfl))
 .refine zc o (f.keepX b o e hb (.inl fun es n q=>?_)) (.inl rfl)
  rcases st with⟨_,xs,k,h1⟩|⟨_,vs,h1⟩|⟨_,vs,_,h1⟩<;>(rw[h1] at q;cases q),fun _ _ e=>e⟩
theorem Fly.at(FOo:∀L∈X.fr,X.h₀.get? L=none)(a:At X U { s with heap:=g })(hx:X.h₀.get? x=none)(f:Fly X U g x c s.heap):At X U s:=by
 have hxσ:U x=none:=by
  obtain⟨vs,h1⟩:=f.exg;exact a.stays h1 (.inr (.inr (za6 c vs rfl rfl)))
 have F:FOk X U g x c:=⟨fun L hL=>(zq ((a.ff L hL).1) ((a.ff L hL).2) (FOo L hL)),f.exg⟩
 refine⟨fun b o e=>f.keepX b o (a.keep b o e) (fun q=>by rw[q,hx] at e;cases e) (.inr (.inr (by rw[e];exact fun q=>nomatch q))),fun b o e=>(a.rep b o e).mono f.keepV fun ob hob=>?_,a.own,a.gens,a.os,fun L hL=>⟨(a.ff L hL).1,f.b.dict F hL⟩⟩;exact f.keepX b ob hob (fun q=>by rw[q,hxσ] at e;cases e) (.inr (.inl (by rw[e];exact fun q=>nomatch q)))
theorem Fly.step{B:Addr->Prop}{U0:AHeap}{s0:Shared}(hx:New U0 s0 x)(st:Step B U0 s0 U { s with heap:=g })(f:Fly X U g x c s.heap):Step B U0 s0 U s:=by
 have hne:∀{b:Addr} {o:Obj},s0.heap.get? b=some o->U0 b=none->b≠x:=fun e h q=>hx _ (q▸e) (q▸h);refine⟨fun b o e h1 h2 h3=>f.keepX b o (st.keep b o e h1 h2 h3) (hne e h1) (.inl h3),fun b o e h1 h2=>?_,st.fresh,fN st.size f.size,st.frz⟩;obtain⟨sl,h3⟩:=st.keepD b o e h1 h2;obtain⟨sl',h4⟩:=f.keepS b _ h3 (hne e h1);exact⟨sl',h4⟩
end
def zs3(X:Cx)(U:AHeap)(s:Shared)(Q:zm)(Z:XP):Result->Shared->Prop:=fun r s'=>match r with
 | .ok (.ret v)=>liftQ X U s Q v s'
 | .ok _=>False
 | .error e=>liftX X U s Z e s'
@[irreducible] noncomputable def CallOk(X:Cx)(f:Addr)(d:Dp)(args:List AV)(Q:zm)(Z:XP)(U₀:AHeap):Prop:=
 ∀A s vs U,vis U=U₀->Live X d A->At X U s->RepVs U s.heap args vs->Gp X.M A (.call (.ref f) ⟨vs,[]⟩) (zs3 X U s Q Z) s
structure FnOk(X:Cx)(f:Addr)(ps:List Str)(body:List Stmt)(scope:Scope):Prop where
 ex:∃o fd,X.h₀.get? f=some o/\o.data = .func fd/\fd.scope=scope/\fd.body = .stmts body/\fd.closure=[]/\fd.globals=Gr/\fd.builtins=builtinsNs/\X.h₀.CodeRec fd.code fd.qualname/\
  ∀vs,vs.length=ps.length->bindArgs fd ⟨vs,[]⟩=pure (ps.zip vs)
structure NamesOk(names:List (Str×NameKind))(nm:List (Str×Nat))(ps:List Str)(N:Nat):Prop where
 nodup:(names.map (·.1)).Nodup
 kinds:∀x i,nm.lookup x=some i->i<N/\(names.lookup x=some .local\/names.lookup x=some .cell)
 inj:∀x y i,nm.lookup x=some i->nm.lookup y=some i->x=y
 par:∀x i,nm.lookup x=some i->∀p,ps[i]? = some p->p=x
 par':∀(i:Nat) p,ps[i]? = some p->nm.lookup p=some i
 le:ps.length<=N
 len:kI nm=N
 psnd:ps.Nodup
theorem zbA{x:Str}(names:List (Str×NameKind)):∀(n:Nat) (acc:List (Str×Addr)),names.lookup x=some .cell\/(acc.lookup x).isSome=true->((cellsFrom n names acc).lookup x).isSome=true:=by
 induction names with
 | nil=>exact fun _ _ h=>h.elim (fun e=>nomatch e) id
 | cons p r ih=>
  intro n acc h;show ((if (p.2==.cell)=true then cellsFrom (n+1) r ((p.1,n)::acc) else cellsFrom n r acc).lookup x).isSome=true
  by_cases hy:x=p.1
  .subst hy;rw[pB,beq_self_eq_true] at h
   by_cases hk:(p.2==.cell)=true
   .rw[if_pos hk];exact ih _ _ (.inr (by rw[pB,beq_self_eq_true];rfl))
   .rw[if_neg hk];exact ih _ _ (.inr (h.elim (fun e=>absurd (by rw[G4 e];rfl) hk) id))
  .have h:=h.imp (fun e=>(jJ hy).symm.trans e) id;split
   .exact ih _ _ (h.imp id fun e=>by rw[jJ hy];exact e)
   .exact ih _ _ h
theorem zdH(names:List (Str×NameKind)):∀(n:Nat) (acc:List (Str×Addr)),(names.map (·.1)).Nodup->(acc.map (·.1)).Nodup->(∀x,x∈acc.map (·.1)->x∉names.map (·.1))->((cellsFrom n names acc).map (·.1)).Nodup:=by
 induction names with
 | nil=>exact fun _ _ _ h _=>h
 | cons p r ih=>
  intro n acc hn ha hd;have hn':=fU.mp hn;have hd':∀x,x∈acc.map (·.1)->x∉r.map (·.1):=fun x hx q=>hd x hx (fA _ q);show ((if (p.2==.cell)=true then cellsFrom (n+1) r ((p.1,n)::acc) else cellsFrom n r acc).map (·.1)).Nodup;split
  .exact ih _ _ hn'.2 (fU.mpr ⟨fun q=>hd _ q fB,ha⟩) (fAN.mpr ⟨hn'.1,hd'⟩)
  .exact ih _ _ hn'.2 ha hd'
theorem zbM{J:Type}{r:List (Str×J)}{x:Str}(h:x∉r.map (·.1)):r.lookup x=none:=by
 cases e:r.lookup x with
 | none=>rfl
 | some c=>exact absurd (gZ (f:=(·.1)) (mem_of_lookup e)) h
theorem zmC{kindOf:Str->Option NameKind}{x:Str}(hx:kindOf x=some .local)(binds:List (Str×Value)):∀(m:Str->Option Value),(binds.map (·.1)).Nodup->bindL kindOf binds m x=(binds.lookup x).or (m x):=by
 induction binds with
 | nil=>exact fun _ _=>rfl
 | cons p r ih=>
  intro m hn;have hn':=fU.mp hn;show bindL kindOf r (if kindOf p.1=some .local then fun y=>if y=p.1 then some p.2 else m y else m) x=_;rw[ih _ hn'.2]
  by_cases hy:x=p.1
  .subst hy;rw[zbM hn'.1,pB,beq_self_eq_true];simp[hx]
  .rw[show List.lookup x (p::r)=_ from jJ hy];split
   .simp[hy]
   .rfl
theorem zmB{kindOf:Str->Option NameKind}{x:Str}(hx:kindOf x=some .cell)(binds:List (Str×Value)):∀(m:Str->Option Value),(binds.map (·.1)).Nodup->bindC kindOf binds m x=(binds.lookup x).or (m x):=by
 induction binds with
 | nil=>exact fun _ _=>rfl
 | cons p r ih=>
  intro m hn;have hn':=fU.mp hn;show bindC kindOf r (if kindOf p.1=some .local then m else fun y=>if y=p.1 then some p.2 else m y) x=_;rw[ih _ hn'.2]
  by_cases hy:x=p.1
  .subst hy;rw[zbM hn'.1,pB,beq_self_eq_true];simp[hx]
  .rw[show List.lookup x (p::r)=_ from jJ hy];split
   .rfl
   .simp[hy]
theorem zkb{ps:List Str}:∀{vs:List Value} {i:Nat} {x:Str},ps.Nodup->ps.length=vs.length->ps[i]? = some x->(ps.zip vs).lookup x=vs[i]?:=by
 induction ps with
 | nil=>intro vs i x _ _ h;cases h
 | cons p ps ih=>
  intro vs i x hn hl h;cases vs with
  | nil=>cases hl
  | cons v vs=>
   cases i with
   | zero=>simp at h;subst h;simp
   | succ i=>
    have hn':=fU.mp hn;rw[fAP] at h;have hne:(x==p)=false:=by
     cases hb:x==p with
     | false=>rfl
     | true=>rw[beq_iff_eq.mp hb] at h;exact absurd (pO h) hn'.1
    rw[fCO,pB,hne,fAP];exact ih hn'.2 (Nat.succ.inj hl) h
theorem zdr{ps:List Str}{vs:List Value}{x:Str}(h:x∉ps):(ps.zip vs).lookup x=none:=zbM fun q=>by
 refine zb (fO.mp q) fun p hp e=>?_;exact h (e▸(fBQ (a:=p.1) (b:=p.2) hp).1)
noncomputable def zhH(args:List AV)(N:Nat):Loc:=args.map some++List.replicate (N-args.length) none
theorem znt(args:List AV)(N i:Nat):(zhH args N).getD i none=args[i]?:=by
 unfold zhH;rw[fT]
 by_cases h:i<args.length
 .rw[pA (by simpa using h),fAQ];rw[fV h];rfl
 .rw[pI (by simpa using pN.mp h),List.getElem?_replicate,fAH (pN.mp h)];split<;>rfl
noncomputable def zqs:Fl->AV
 | .next=>.none
 | .ret v=>v
theorem RepVs.getO{U:AHeap}{h:Heap}{xs:List AV}{vs:List Value}(r:RepVs U h xs vs):∀(i:Nat),RepO U h xs[i]? vs[i]?:=by
 induction xs generalizing vs with
 | nil=>obtain rfl:=RepVs.wG r;intro i;simp;trivial
 | cons x xs ih=>
  obtain⟨_,_,rfl,a,r⟩:=RepVs.wE r;intro i;cases i with
  | zero=>exact a
  | succ i=>simpa using ih r i
mutual
inductive Fz(φ:Addr->Option (List AV)):AV->AV->Prop
 | same (x:AV):Fz φ x x
 | lst {a:Addr} {ys:List AV}:φ a=some ys->Fz φ (.ref a) (.lst ys)
 | tup {xs ys:List AV}:FzL φ xs ys->Fz φ (.tup xs) (.tup ys)
inductive FzL(φ:Addr->Option (List AV)):List AV->List AV->Prop
 | nil:FzL φ [] []
 | cons {x y:AV} {xs ys:List AV}:Fz φ x y->FzL φ xs ys->FzL φ (x::xs) (y::ys)
end
structure FzOk(φ:Addr->Option (List AV))(U U':AHeap):Prop where
 lst:∀a ys,φ a=some ys->U' a=none/\∃xs,U a=some (.list xs)/\FzL φ xs ys
 sub:∀a o,U' a=some o->U a=some o
@[irreducible] noncomputable def Ends(Q:zm)(v:AV)(U:AHeap):Prop:=∃φ U' v',FzOk φ U U'/\Fz φ v v'/\Q v' U'
theorem FzL.length{φ:Addr->Option (List AV)}{xs ys:List AV}(h:FzL φ xs ys):ys.length=xs.length:=by
 induction xs generalizing ys with
 | nil=>cases h;rfl
 | cons x xs ih=>cases h with|cons _ r=>rw[fH,fH,ih r]
noncomputable def fzH(φ:Addr->Option (List AV))(U U':AHeap):AHeap:=fun a=>match U a with
 | some (.frz xs)=>some (.frz xs)
 | _=>match φ a with
  | some ys=>some (.frz ys)
  | none=>U' a
section
variable{X:Cx}{φ:Addr->Option (List AV)}{U U':AHeap}{s:Shared}(H:FzOk φ (vis U) U')
include H
theorem zm5{a:Addr}{xs:List AV}(h:U a=some (.frz xs)):fzH φ U U' a=some (.frz xs):=by unfold fzH;rw[h]
theorem zm6{a:Addr}{ys:List AV}(h:φ a=some ys):fzH φ U U' a=some (.frz ys):=by
 refine kj (H.lst a ys h) fun _ xs h1 _=>?_;unfold fzH;rw[(zK h1).1,h]
theorem zoW{a:Addr}(h1:∀xs,U a≠some (.frz xs))(h2:φ a=none):fzH φ U U' a=U' a:=by
 unfold fzH;split
 .rename_i xs e;exact absurd e (h1 xs)
 .rw[h2]
theorem za3{a:Addr}{o:AO}(h:fzH φ U U' a=some o):(∃xs,o = .frz xs/\U a=some (.frz xs))\/(∃ys,o = .frz ys/\φ a=some ys)\/(U' a=some o/\U a=some o/\o.ro=false):=by
 unfold fzH at h;split at h
 .rename_i xs e;obtain rfl:=G4 h;exact .inl (zc xs rfl e)
 .split at h
  .rename_i ys e;obtain rfl:=G4 h;exact .inr (.inl (zc ys rfl e))
  .have:=zK (H.sub a o h);exact .inr (.inr (zq h this.1 this.2))
theorem zqO:vis (fzH φ U U')=U':=by
 funext a
 cases e:fzH φ U U' a with
 | none=>
  rw[qy e];cases e':U' a with
  | none=>rfl
  | some o=>
   have h1:=zK (H.sub a o e');cases e2:φ a with
   | some ys=>rw[zm6 H e2] at e;exact absurd e (fJ _)
   | none=>rw[zoW H (fun xs q=>by rw[h1.1] at q;obtain rfl:=G4 q;cases h1.2) e2,e'] at e;exact absurd e (fJ _)
 | some o=>
  rcases za3 H e with⟨xs,rfl,h1⟩|⟨ys,rfl,h1⟩|⟨h1,_,h2⟩
  .have:vis (fzH φ U U') a=none:=by unfold vis;rw[e]
   rw[this];cases e':U' a with
   | none=>rfl
   | some o=>have h3:=zK (H.sub a o e');rw[h1] at h3;have:=h3.1;obtain rfl:=G4 this;cases h3.2
  .have:vis (fzH φ U U') a=none:=by unfold vis;rw[e]
   rw[this,(H.lst a ys h1).1]
  .rw[zj4 e h2,h1]
theorem zf6:KeepV U s.heap (fzH φ U U') s.heap:=⟨fun b o e _=>(zc o e (.inl rfl)),fun b xs e=>zm5 H e⟩
theorem zm7{x y:AV}{v:Value}(f:Fz φ x y)(r:RepV U s.heap x v):RepV (fzH φ U U') s.heap y v:=by
 refine Fz.rec (motive_1:=fun x y _=>∀v,RepV U s.heap x v->RepV (fzH φ U U') s.heap y v) (motive_2:=fun xs ys _=>∀vs,RepVs U s.heap xs vs->RepVs (fzH φ U U') s.heap ys vs) ?_ ?_ ?_ ?_ ?_ f v r
 .intro x v r;exact r.mono (zf6 H)
 .intro a ys h v r;obtain rfl:=RepV.wM r;exact .lst (zm6 H h)
 .intro xs ys h ih v r;refine zj (RepV.wH r) fun _ _ e2_2 hl ht rs=>?_;subst e2_2;exact .tup (by rw[h.length];exact hl) ht (ih _ rs)
 .intro vs r;obtain rfl:=RepVs.wG r;exact .nil
 .intro x y xs ys _ _ h1 h2 vs r;obtain⟨_,_,rfl,a,r⟩:=RepVs.wE r;exact .cons (h1 _ a) (h2 _ r)
theorem zoX{xs ys:List AV}{vs:List Value}(f:FzL φ xs ys)(r:RepVs U s.heap xs vs):RepVs (fzH φ U U') s.heap ys vs:=by
 induction xs generalizing ys vs with
 | nil=>cases f;obtain rfl:=RepVs.wG r;exact .nil
 | cons x xs ih=>cases f with|cons f1 f2=>cases r with|cons r1 r2=>exact .cons (zm7 H f1 r1) (ih f2 r2)
theorem At.fz(a:At X U s):At X (fzH φ U U') s:=by
 refine⟨a.keep,fun b o e=>?_,fun b o e hro=>?_,a.gens,a.os,fun L hL=>⟨?_,(a.ff L hL).2⟩⟩
 .rcases za3 H e with⟨xs,rfl,h1⟩|⟨ys,rfl,h1⟩|⟨_,h1,_⟩
  .exact(a.rep _ _ h1).mono (zf6 H) fun _ h=>h
  .refine kj (H.lst b ys h1) fun _ xs h2 h3=>?_;refine zk (a.isList0 (.inl (zK h2).1)) fun vs h4 h5 h6=>?_;exact zv vs h4 (zoX H h3 h5) (by rw[h3.length];exact h6)
  .exact(a.rep _ _ h1).mono (zf6 H) fun _ h=>h
 .rcases za3 H e with⟨xs,rfl,h1⟩|⟨ys,rfl,h1⟩|⟨_,h1,_⟩
  .cases hro
  .cases hro
  .exact a.own _ _ h1 hro
 .cases e:fzH φ U U' L with
  | none=>rfl
  | some o=>
   have h0:=(a.ff L hL).1
   rcases za3 H e with⟨xs,rfl,h1⟩|⟨ys,rfl,h1⟩|⟨_,h1,_⟩
   .rw[h1] at h0;exact absurd h0 (fJ _)
   .refine kj (H.lst L ys h1) fun _ xs h2 _=>?_;rw[(zK h2).1] at h0;exact absurd h0 (fJ _)
   .rw[h1] at h0;exact absurd h0 (fJ _)
theorem Step.fz{B:Addr->Prop}:Step B U s (fzH φ U U') s:=.mk' (fun _ _ e _ _=>e) (fun b h1 h2=>by
  cases e:fzH φ U U' b with
  | none=>exact absurd e h1
  | some o=>
   rcases za3 H e with⟨xs,rfl,h3⟩|⟨ys,rfl,h3⟩|⟨_,h3,_⟩
   .rw[h3] at h2;exact absurd h2 (fJ _)
   .refine kj (H.lst b ys h3) fun _ xs h4 _=>?_;rw[(zK h4).1] at h2;exact absurd h2 (fJ _)
   .rw[h3] at h2;cases h2) (fM _) fun b xs e=>zm5 H e
end
theorem At.pop{X:Cx}{L:Env}{U:AHeap}{s:Shared}(a:At (X.push L) U s):At X U s:=⟨a.keep,a.rep,a.own,a.gens,a.os,fun M hM=>a.ff M (fA _ hM)⟩
section
variable{X:Cx}
theorem zkZ{f:Addr}{ps:List Str}{body:List Stmt}{scope:Scope}{nm:List (Str×Nat)}{N:Nat}{d:Dp}{m:Env->AS}{args:List AV}{Q:zm}{Z:XP}{U₀:AHeap}(XO:X.Ok)(FN:FnOk X f ps body scope)(NO:NamesOk scope.names nm ps N)
  (hk:scope.kind = .function)(hco:scope.isCoroutine=false)(hgen:scope.isGenerator=false)(hs:∀env,EnvOk env->env.scope=scope->j6 (X.push env) env nm body (m env))(hd:d.n<600)(hlen:args.length=ps.length)
  (h:∀L,m L ⟨d.n+1,d.hd⟩ (zhH args N) (fun fl _ U'=>Ends Q (zqs fl) U') (fun c _ U'=>Z c U') U₀):CallOk X f d args Q Z U₀:=by
 unfold CallOk;intro A s vs U hσ L a rv;subst hσ;refine zeO FN.ex fun o fd ho hfd hsc hbd hcl hgl hbi hcd hbind=>?_;have hvl:vs.length=ps.length:=by rw[<-rv.length];exact hlen
 have hps:ps.Nodup:=NO.psnd;have hbn:((ps.zip vs).map (·.1)).Nodup:=by
  have:(ps.zip vs).map (·.1)=ps:=by
   rw[fC2];exact zp2 hvl
  rw[this];exact hps
 subst hsc;refine codeAny_call_function (fd:=fd) (by have:=L.depth;have:=L.small;show A.depth<1000;exact zxF hd (by assumption)) (a.keep _ _ ho) hfd hco hgen hbd (hcd.keeps a.keep) ?_;rw[hbind vs hvl,hcl,hgl,hbi];refine Gb (wpAny_newFunctionEnv_cells hk (fun x hx=>?_) fun env he s1 IC=>?_)
 .have hm:x.1∈ps:=by
   have:=gZ (f:=(·.1)) hx;rwa [fC2 (zp2 hvl)] at this
  obtain⟨i,hi⟩:=fAI.mp hm
  rcases(NO.kinds x.1 i (NO.par' i _ hi)).2 with q|q
  .exact .inl q
  .exact .inr ⟨q,zbA _ _ _ (.inl q)⟩
 subst he;generalize henv:newEnv fd.scope s.heap.objs.size Gr (cellsFrom (s.heap.objs.size+1) fd.scope.names []) (fd.qualname++".<locals>.") (some f) fd.code none builtinsNs=env at IC ⊢;have eL:env.locals=s.heap.objs.size:=by rw[<-henv];rfl
 have eC:env.cells=cellsFrom (s.heap.objs.size+1) fd.scope.names []:=by rw[<-henv];rfl
 have eS:env.scope=fd.scope:=by rw[<-henv];rfl
 have eK:∀x,env.kindOf x=fd.scope.names.lookup x:=fun x=>by unfold Env.kindOf;rw[eS]
 have EO:EnvOk env:=⟨by rw[eS];exact hk,by rw[<-henv];rfl,by rw[<-henv];rfl,IC.apart⟩
 have keep:=IC.toInCall.keep;refine jc IC.toInCall.same fun h1 tk hs1=>?_;have kv:KeepV U s.heap U s1.heap:=.ext keep;have a1:At (X.push env) U s1:=⟨fun b o e=>keep b o (a.keep b o e),fun b ao e=>(a.rep b ao e).mono kv fun o ho=>keep b o ho,a.own,by rw[hs1];exact a.gens,by rw[hs1];exact a.os,fun M hM=>by
  rcases fF.mp hM with rfl|hM
  .exact⟨by rw[eL];exact a.none_of_size (fM _),znl IC.toInCall.ns⟩
  .exact a.ffk keep M hM⟩
 have cnd:(env.cells.map (·.1)).Nodup:=by rw[eC];exact zdH _ _ _ NO.nodup .nil fun x hx=>by simp at hx
 have new:∀c:Nat,s.heap.objs.size<=c->U c=none/\X.h₀.get? c=none:=fun c hc=>⟨a.none_of_size hc,by
  cases e:X.h₀.get? c with
  | none=>rfl
  | some o=>have:=ltA (a.keep c o e);lia⟩
 have val:∀x i,nm.lookup x=some i->RepO U s1.heap ((zhH args N).getD i none) ((ps.zip vs).lookup x):=fun x i hx=>by
  rw[znt]
  by_cases hi:i<ps.length
  .have hp:ps[i]? = some ps[i]:=fV hi;have hpx:=NO.par x i hx _ hp;rw[<-hpx,zkb hps (zxL hvl) hp];exact(rv.getO i).mono kv
  .have:x∉ps:=fun q=>by
    obtain⟨j,hj⟩:=fAI.mp q;have h2:=NO.par' j x hj;rw[hx] at h2;obtain rfl:=G4 h2;exact hi (fX.mp hj).1
   rw[zdr this,fAH (zud hlen hi)]
   trivial
 have F1:FR (X.push env) env nm (zhH args N) U s1.heap:=by
  refine⟨(zc _ IC.toInCall.ns (fun x i hx hkx=>?_)),fun x i hx hkx=>?_,by rw[eL];exact new _ (fM _),⟨fun x i hx=>?_,NO.inj⟩,?_,fun x c hx=>?_⟩
  .rw[zmC hkx _ _ hbn,Option.or_none];exact val x i hx
  .have hsome:=zbA (x:=x) fd.scope.names (s.heap.objs.size+1) [] (.inl (by rw[<-eK];exact hkx));rw[<-eC] at hsome;obtain⟨c,hc⟩:=pW.mp hsome;refine zP c _ hc (IC.cell x c hc) ?_;rw[zmB hkx _ _ hbn,Option.or_none];exact val x i hx
  .have:=(NO.kinds x i hx).1;have hle:=NO.le;unfold zhH;rw[fE,fC,fBC];exact zyJ this
  .have hle:=NO.le;unfold zhH;rw[fE,fC,fBC,NO.len];exact zyM hlen hle
  .have hc:=IC.above x c hx;rw[eL] at hc;have hc':s.heap.objs.size<=c:=fBI hc;exact kq ((new c hc').1) ((new c hc').2) _ (IC.cell x c (j9 cnd hx))
 refine⟨XO.nolimit.keeps fun b o e=>keep b o (a.keep b o e),?_⟩;refine zk2 (codeAny_func ?_);have eF:env.frame=some env.locals:=by rw[<-henv];rfl
 obtain⟨envs,hfr,FO⟩:∃envs,(A.deeper env).frames=some (env::envs)/\FrOk (X.push env) (env::envs):=by
  refine zk L.frames fun envs h1 h2 _=>?_;refine⟨envs,Around.frames_deeper h1,fun e he=>?_,fun M hM=>?_⟩
  .rcases fF.mp he with rfl|he
   .exact zax (by rw[eS,hk];decide) _ eF fB
   .refine kj (h2.is e he) fun k1 M k2 k3=>?_;exact zax k1 M k2 (fA _ k3)
  .rcases fF.mp hM with rfl|hM
   .rw[eL];exact(new _ (fM _)).2
   .exact h2.out M hM
 have L1:Live (X.push env) ⟨d.n+1,d.hd⟩ (A.deeper env):=⟨by have:=L.depth;show A.depth+1<=301+(d.n+1);exact ztR this,by have:=L.units;show A.units+3<=20+8*(d.n+1);exact zxs this,L.handled,hd,_,hfr,FO,fun e he=>by cases he;exact⟨_,rfl⟩⟩
 have szL:s.heap.objs.size<s1.heap.objs.size:=by
  have:=IC.toInCall.ns.lt;rw[eL] at this;exact this
 have back:∀{σ2:AHeap} {s2:Shared},Step (FB env) U s1 σ2 s2->Step E0 U s σ2 s2:=fun {σ2 s2} st2=>by
  have st0:Step (FB env) U s U s1:=.same (fun b o e _=>keep b o e) (fBI szL);refine(st0.trans st2).drop fun b hb=>?_
  rcases hb with hb|⟨x,hx⟩
  .rw[eL] at hb;rw[hb];exact .inr (fM _)
  .have hc:=IC.above x b hx;rw[eL] at hc;exact .inr (fBI hc)
 refine Gc (hs env EO eS ⟨d.n+1,d.hd⟩ (A.deeper env) _ U s1 _ _ L1 a1 F1 (h env)) (fun fl s2 hpz hsz=>qd hpz fun afl l2 σ2 r2 a2 F2 st2 q2=>?_) fun e s2 hpz=>kl hpz fun c l2 σ2 x g he hx a2 F2 st2 f z=>?_
 case refine_2=>
  have hx:=hx.1;subst he;refine Fly.vI FO hfr eF a2 f fun h' f' hsz=>?_;exact qp c σ2 x g rfl (fun o e q=>hx o (keep _ _ e) q) a2.pop (back st2) ⟨f'.keepS,f'.keepX,f'.exg,f'.size,f'.exh⟩ z
 have st:=back st2;unfold Ends at q2;refine jm q2 fun φ σ3 v' fz fv q3=>?_;refine zr v' (fzH φ σ2 σ3) (zm7 fz fv ?_) ((At.fz fz a2).pop) (st.trans (Step.fz fz)) (by rw[zqO fz];exact q3);cases fl with
 | next=>cases afl with
  | next=>exact RepV.none
  | ret v=>exact r2.elim
 | ret v=>cases afl with
  | next=>exact r2.elim
  | ret av=>exact r2
 | brk=>cases afl<;>exact r2.elim
 | cont=>cases afl<;>exact r2.elim
end
def zsS(a:AV)(Q:List AV->AHeap->Prop):List AV->AHeap->Prop:=fun as σ2=>Q (a::as) σ2
def zvs(F:Dp->Loc->(List AV->AHeap->Prop)->XP->AHeap->Prop)(d:Dp)(l:Loc)(Q:List AV->AHeap->Prop)(Z:XP):zm:=fun a σ1=>F d l (zsS a Q) Z σ1
def zbB(ms:List AE):Dp->Loc->(List AV->AHeap->Prop)->XP->AHeap->Prop:=match ms with
 | []=>fun _ _ Q _ U=>Q [] U
 | m::ms=>fun d l Q Z U=>m d l (zvs (zbB ms) d l Q Z) Z U
noncomputable def jE(e:Expr):Bool:=!Nat.beq e.ctorIdx 22
theorem zU{e:Expr}{rest:List Expr}{env:Env}(h:jE e=true):starEach (e::rest) env=(false,eval e env)::starEach rest env:=by
 cases e<;>first|rfl|exact nob h
inductive SoundEs(X:Cx)(env:Env)(nm:List (Str×Nat)):List Expr->List AE->Prop
 | nil:SoundEs X env nm [] []
 | cons {e es m ms}:jE e=true->zh X env nm e m->SoundEs X env nm es ms->SoundEs X env nm (e::es) (m::ms)
section
variable{X:Cx}{env:Env}{nm:List (Str×Nat)}
theorem SoundEs.plain{pos:Pos}{es:List Expr}{ms:List AE}(h:SoundEs X env nm es ms):(backTo pos (starEach es env)).any (·.1)=false:=by
 induction h with
 | nil=>rfl
 | cons hs _ r ih=>
  rw[zU hs];show (false||(backTo pos (starEach _ env)).any (·.1))=false;rw[ih];rfl
theorem kY{pos:Pos}{es ms}(h0:SoundEs X env nm es ms):∀{d A l U s Q Z},Live X d A->At X U s->FR X env nm l U s.heap->zbB ms d l Q Z (vis U)->
  wpAny X.M A (spliced (backTo pos (starEach es env))) (zql X U s Q) (liftX X U s Z) s:=by
 induction h0 with
 | nil=>intro d A l U s Q Z L a F q;exact Gb ⟨[],U,.nil,a,.refl ..,q⟩
 | @cons e es m ms hs he r ih=>
  intro d A l U s Q Z L a F q;rw[zU hs];show wpAny X.M A (spliced ((false,eval e env)::backTo pos (starEach es env))) _ _ s;refine Calls.spliced_cons (zak (he d A l U s _ Z L a F q) fun av v σ1 s1 rv a1 st1 q1=>?_);refine Gc (ih L a1 (F.step a st1) q1) (fun vs s2 x=>?_) fun _ _ x=>x.back st1;refine zj x fun avs σ2 rvs a2 st2 q2=>?_;exact zr (av::avs) σ2 (.cons (rv.mono (st2.keepV0 a1)) rvs) a2 (st1.trans st2) q2
theorem qE{f:Value}{pos:Pos}{es ms}(h:SoundEs X env nm es ms){d A l U s Q Z}(L:Live X d A)(a:At X U s)(F:FR X env nm l U s.heap)(q:zbB ms d l Q Z (vis U)){R:Args->Shared->Prop}
  (k:∀vs s',zql X U s Q vs s'->R ⟨vs,[]⟩ s'):wpAny X.M A (evalArgs f true (backTo pos (starEach es env)) []) R (liftX X U s Z) s:=by
 cases h with
 | nil=>exact PyProof.Rows.evalArgs_none (k [] s (zr [] U .nil a (.refl ..) q))
 | cons hs he r=>
  have:=kY (pos:=pos) (.cons hs he r) L a F q;rw[zU hs] at this ⊢;exact Calls.evalArgs_plain (Gc this (fun vs s' x=>k vs s' x) fun _ _ x=>x)
end
def mkL(r:Bool)(xs:List AV)(Q:zm)(U:AHeap):Prop:=match r with
 | true=>∀p,U p=none->Q (.ref p) (U.set p (.list xs))
 | false=>Q (.lst xs) U
namespace A
def zvH(Q:zm):List AV->AHeap->Prop:=fun as U'=>zeX as.length (Q (.tup as) U')
def zvz(r:Bool)(Q:zm):List AV->AHeap->Prop:=fun as U'=>zeX as.length (mkL r as Q U')
def zsN(X:Cx)(f:Addr)(d:Dp)(Q:zm)(Z:XP):List AV->AHeap->Prop:=fun as U'=>CallOk X f d as Q Z U'
def tup(xs:List AE):AE:=fun d l Q Z U=>zbB xs d l (zvH Q) Z U
def lst(r:Bool)(xs:List AE):AE:=fun d l Q Z U=>zbB xs d l (zvz r Q) Z U
def wF(X:Cx)(f:Addr)(args:List AE):AE:=fun d l Q Z U=>zbB args d l (zsN X f d Q Z) Z U
end A
section
variable{X:Cx}{env:Env}{nm:List (Str×Nat)}
theorem zel{A:Around}{U:AHeap}{s:Shared}{Q:zm}{E}{as:List AV}{vs:List Value}(a:At X U s)(r:RepVs U s.heap as vs)(hl:as.length<=1000000)(q:Q (.tup as) (vis U)):wpAny X.M A (newTuple vs) (liftQ X U s Q) E s:=by
 refine wpAny_newObj_type ?_ (by show vs.toArray.size<=sizeLine;rw[gH,<-r.length,Gf];exact zgP hl);exact zr (.tup as) U (.tup hl (qo _ (Heap.get?_push_size _ rfl) rfl 0 rfl) (r.mono (.push _))) (a.push _ s.toks) (Step.push U s _ s.toks) q
theorem zq9{r:Bool}{U:AHeap}{s:Shared}{Q:zm}{as:List AV}{vs:List Value}{n:Nat}(a:At X U s)(rv:RepVs U s.heap as vs)(hl:as.length<=1000000)(q:mkL r as Q (vis U)){t:Nat}:liftQ X U s Q (.ref s.heap.objs.size) { s with heap:=s.heap.push (zR vs n),toks:=t }:=by
 have h0:=a.none_of_size (fM _);cases r with
 | true=>exact⟨.ref s.heap.objs.size,_,.ref _,a.alloc (ao:=.list as) t fun kv=>(zP vs n (Heap.get?_push_size _ rfl) (rv.mono kv) hl),Step.alloc a _ _ t,by rw[jz rfl];exact q _ (qy h0)⟩
 | false=>exact zr (.lst as) _ (.lst (AHeap.wA ..)) (a.alloc (ao:=.frz as) t fun kv=>(zv vs (qo _ (Heap.get?_push_size _ rfl) rfl n rfl) (rv.mono kv) hl)) (Step.alloc a _ _ t) (by rw[zgO h0];exact q)
theorem zeW{r:Bool}{A:Around}{U:AHeap}{s:Shared}{Q:zm}{E}{as:List AV}{vs:List Value}(a:At X U s)(rv:RepVs U s.heap as vs)(hl:as.length<=1000000)(q:mkL r as Q (vis U)) :
  wpAny X.M A (newList vs) (liftQ X U s Q) E s:=by
 refine wpAny_newObj_type ?_ (by show vs.toArray.size<=sizeLine;rw[gH,<-rv.length,Gf];exact zgP hl);exact zq9 (n:=0) (t:=s.toks) a rv hl q
theorem zmg{es:List Expr}{ms:List AE}{k:Nat}{pos:Pos}(h:SoundEs X env nm es ms):zh X env nm (.Tuple es k pos) (A.tup ms):=fun d A l U s Q Z L a F q=>
 Tuple_ (Gc (kY h L a F q) (fun vs s1 hpz=>zj hpz fun avs σ1 r a1 st q1=>jX st (zel a1 r (kK q1).1 (kK q1).2)) fun _ _ x=>x)
theorem zl5{r:Bool}{es:List Expr}{ms:List AE}{pos:Pos}(h:SoundEs X env nm es ms):zh X env nm (.List es pos) (A.lst r ms):=fun d A l U s Q Z L a F q=>
 List_ (Gc (kY h L a F q) (fun vs s1 hpz=>zj hpz fun avs σ1 rv a1 st q1=>jX st (zeW a1 rv (kK q1).1 (kK q1).2)) fun _ _ x=>x)
theorem q9{A:Around}{s:Shared}{U:AHeap}{x:Str}{pos:Pos}{v:Value}{Q:Value->Shared->Prop}{E}(XO:X.Ok)(EO:EnvOk env)(a:At X U s)(hx:env.kindOf x=some .globalImplicit)(hd:(x==("__debug__" : Str))=false)
  (hv:X.mg x=some v)(h:Q v s):wpAny X.M A (eval (.Name x pos) env) Q E s:=
 Calls.Name_function_global EO.kind hx (Calls.loadGlobal_global (by rw[EO.glob];exact XO.g.keeps a.keep) hv h) hd
theorem qf{A:Around}{s:Shared}{U:AHeap}{x:Str}{pos:Pos}{v:Value}{Q:Value->Shared->Prop}{E}(XO:X.Ok)(EO:EnvOk env)(a:At X U s)(hx:env.kindOf x=some .globalImplicit)(hd:(x==("__debug__" : Str))=false)
  (hn:X.mg x=none)(hv:X.mb x=some v)(h:Q v s):wpAny X.M A (eval (.Name x pos) env) Q E s:=
 Calls.Name_function_global EO.kind hx (Calls.loadGlobal_builtin (by rw[EO.glob];exact XO.g.keeps a.keep) hn (by rw[EO.bi];exact XO.b.keeps a.keep) hv h) hd
theorem CallOk.call{A:Around}{U:AHeap}{s:Shared}{f:Addr}{d:Dp}{args:List AV}{Q:zm}{Z:XP}{vs:List Value}(h:CallOk X f d args Q Z (vis U))(L:Live X d A)(a:At X U s)(r:RepVs U s.heap args vs) :
  wpAny X.M A (PySem.call (.ref f) vs []) (liftQ X U s Q) (liftX X U s Z) s:=by
 unfold CallOk at h;exact wpAny_call (Gk (h A s vs U rfl L a r) fun res s' x=>x)
theorem zjP{g:Str}{f:Addr}{o:Obj}{fd:FuncData}{es:List Expr}{ms:List AE}{gp pos:Pos}(XO:X.Ok)(EO:EnvOk env)(hx:env.kindOf g=some .globalImplicit)(hd:(g==("__debug__" : Str))=false)(hf:X.mg g=some (.ref f))(ho:X.h₀.get? f=some o)(hfd:o.data = .func fd)(h:SoundEs X env nm es ms) :
  zh X env nm (.Call (.Name g gp) es [] pos) (A.wF X f ms):=fun d A l U s Q Z L a F q=>by
 refine Call_ (q9 XO EO a hx hd hf ?_);refine callWith_function_kw (o:=o) (fd:=fd) (qE h L a F q fun vs s1 hpz=>zj hpz fun avs σ1 r a1 st q1=>⟨⟨a1.keep _ _ ho,hfd⟩,?_⟩);exact jX st (q1.call L a1 r)
end
noncomputable def AO.w8 : AO->Option (List AV)
 | .list xs=>some xs
 | _=>Option.none
noncomputable def jh(U:AHeap):AV->Option (List AV)
 | .lst xs=>some xs
 | .ref p=>(U p).bind AO.w8
 | _=>Option.none
theorem zE{U:AHeap}{p:Addr}{xs:List AV}(h:U p=some (.list xs)):jh U (.ref p)=some xs:=by
 show (U p).bind AO.w8 = _;rw[h];rfl
theorem z0{U:AHeap}{x:AV}{xs:List AV}(h:jh (vis U) x=some xs):IsL U x xs:=by
 cases x with
 | lst ys=>cases h;exact .lst
 | ref p=>
  have h:(vis U p).bind AO.w8 = some xs:=h;refine zb (fAA.mp h) fun o h1 h2=>?_;cases o with
  | list ys=>cases h2;exact .ref h1
  | _=>cases h2
 | _=>cases h
noncomputable def small(n:Nat):Bool:=Nat.blt n 1152921504606846976
def zst(r:Bool)(a b:AV)(Q:zm)(U:AHeap):Prop:=zw (jh U a) fun xs=>zw (jh U b) fun ys=>zeX (xs.length+ys.length) (mkL r (xs++ys) Q U)
def zu5(r:Bool)(a b:AV)(Q:zm)(U:AHeap):Prop:=match a with
 | .int i=>zw b.int? fun j=>Q (.int (i+j)) U
 | .tup xs=>zw b.tup? fun ys=>zeX (xs.length+ys.length) (Q (.tup (xs++ys)) U)
 | x=>zst r x b Q U
noncomputable def zsF(j:Int):Bool:=!(decide (j=0))&&Nat.blt j.natAbs 1073741824
noncomputable def zej(j:Int):Bool:=!(decide (j=0))
noncomputable def zs0(i j:Int):Bool:=decide (0<=j)&&decide (j<=1000)&&Nat.blt i.natAbs 18446744073709551616
def kt(a b:AV)(K:Int->Int->Prop):Prop:=zw a.int? fun i=>zw b.int? fun j=>K i j
def zsv(r:Bool)(op:Operator)(a b:AV)(Q:zm)(U:AHeap):Prop:=match op with
 | .Add=>zu5 r a b Q U
 | .Sub=>kt a b fun i j=>Q (.int (i-j)) U
 | .Mult=>kt a b fun i j=>onB (small j.natAbs||small i.natAbs) (Q (.int (i*j)) U)
 | .FloorDiv=>kt a b fun i j=>onB (zsF j) (Q (.int (i.fdiv j)) U)
 | .Mod=>kt a b fun i j=>onB (zej j) (Q (.int (i.fmod j)) U)
 | .Pow=>kt a b fun i j=>onB (zs0 i j) (Q (.int (i ^ j.toNat)) U)
 | _=>False
section
variable{X:Cx}{A:Around}{U:AHeap}{s:Shared}{Q:zm}{E:Value->Shared->Prop}{x y:AV}{u v:Value}
theorem zaV{i:Int}(h:small i.natAbs=true):Builtin.Int.intBits i<=64:=by
 have h:i.natAbs<2 ^ 60:=by unfold small at h;have:=fDK.mp h;exact this
 unfold Builtin.Int.intBits;split
 .exact y6
 .rename_i h0
  have:i.natAbs.log2<60:=(Nat.log2_lt (by intro e;simp[Int.natAbs_eq_zero] at e;subst e;simp at h0)).mpr h;exact zwl this
theorem ziB{xs ys:List AV}(a:At X U s)(rx:RepV U s.heap (.tup xs) u)(ry:RepV U s.heap (.tup ys) v)(hq:xs.length+ys.length<=1000000)(q:Q (.tup (xs++ys)) (vis U)):wpAny X.M A (binaryOp .Add u v) (liftQ X U s Q) E s:=by
 refine zj (RepV.wH rx) fun t vs e0_2 hla ht rs=>?_;subst e0_2;refine zj (RepV.wH ry) fun t2 ws e1_2 hlb ht2 rs2=>?_;subst e1_2;refine jC (id ht) fun h2_0 ho hc n hd=>?_;obtain⟨cls,dd,data,sl⟩:=h2_0;refine jC (id ht2) fun h3_0 ho2 hc2 n2 hd2=>?_;obtain⟨cls2,dd2,data2,sl2⟩:=h3_0;subst hc hd hc2 hd2;have l1:=rs.length;have l2:=rs2.length;have e:vs.toArray++ws.toArray=(vs++ws).toArray:=by simp
 by_cases hv:vs=[]
 .subst hv;cases rs;exact concat_meets (zc _ ho rfl) (zc _ ho2 rfl) noFill_tuple_add seq_tuple_add PySem.F.slot_tuple_add PySem.F.entry_tuple_add (PySem.F.args_tuple_add_2 _ _)
   (tuple_addW0 t t2 _ ws.toArray n n2 dd dd2 sl sl2 rfl) (zq ho ho2 (zbS a (.tup hlb ht2 rs2) q))
 .by_cases hw:ws=[]
  .subst hw;cases rs2;refine concat_meets (zc _ ho rfl) (zc _ ho2 rfl) noFill_tuple_add seq_tuple_add PySem.F.slot_tuple_add PySem.F.entry_tuple_add (PySem.F.args_tuple_add_2 _ _)
    (tuple_addW1 t t2 vs.toArray _ n n2 dd dd2 sl sl2 (by simpa using hv) rfl) (zq ho ho2 (zbS a (.tup hla ht rs) ?_))
   rwa [gO] at q
  .refine concat_meets (zc _ ho rfl) (zc _ ho2 rfl) noFill_tuple_add seq_tuple_add PySem.F.slot_tuple_add PySem.F.entry_tuple_add (PySem.F.args_tuple_add_2 _ _)
    (tuple_addW2 t t2 vs.toArray ws.toArray n n2 dd dd2 sl sl2 (by simpa using hv) (by simpa using hw) (by rw[gH,gH,Gf];exact zut hq l1 l2)) (zq ho ho2 ?_)
   rw[e];exact zr _ U (.tup (by rw[fE];exact hq) (qo _ (Heap.get?_push_size _ rfl) rfl 0 rfl) ((rs.append rs2).mono (.push _))) (a.push _ s.toks) (Step.push U s _ s.toks) q
theorem qb{r:Bool}(a:At X U s)(rx:RepV U s.heap x u)(ry:RepV U s.heap y v)(q:zst r x y Q (vis U)):wpAny X.M A (binaryOp .Add u v) (liftQ X U s Q) E s:=by
 refine zb (zg q) fun xs h1 q=>?_;refine zb (zg q) fun ys h2 q=>?_;obtain⟨hl,q⟩:=kK q;refine zt (a.isList (z0 h1) rx) fun p vs e7_2 _ ht rs _=>?_;subst e7_2;refine zt (a.isList (z0 h2) ry) fun p2 ws e8_2 _ ht2 rs2 _=>?_;subst e8_2;refine jC (id ht) fun h9_0 ho hc n hd=>?_;obtain⟨cls,dd,data,sl⟩:=h9_0;refine jC (id ht2) fun h10_0 ho2 hc2 n2 hd2=>?_;obtain⟨cls2,dd2,data2,sl2⟩:=h10_0;subst hc hd hc2 hd2;have l1:=rs.length;have l2:=rs2.length;have e:vs.toArray++ws.toArray=(vs++ws).toArray:=by simp
 refine concat_meets (zc _ ho rfl) (zc _ ho2 rfl) noFill_list_add seq_list_add PySem.F.slot_list_add PySem.F.entry_list_add (PySem.F.args_list_add_2 _ _)
  (list_addW p p2 vs.toArray ws.toArray n n2 dd dd2 sl sl2 (by rw[gH,gH,Gf];exact zut hl l1 l2)) (zq ho ho2 ?_)
 rw[e];exact zq9 (n:=0) (t:=s.toks) a (rs.append rs2) (by rw[fE];exact hl) q
theorem zkQ{r:Bool}{op:Operator}(a:At X U s)(rx:RepV U s.heap x u)(ry:RepV U s.heap y v)(q:zsv r op x y Q (vis U)):wpAny X.M A (binaryOp op u v) (liftQ X U s Q) E s:=by
 have two:∀{K:Int->Int->Prop},kt x y K->∃i j t t',x = .int i/\y = .int j/\u = .int i t/\v = .int j t'/\K i j:=fun q=>by
  refine zb (zg q) fun i h1 q=>?_;refine zb (zg q) fun j h2 q=>?_;have h1:=jj h1;have h2:=jj h2;subst h1;subst h2;obtain⟨_,rfl⟩:=RepV.wC rx;obtain⟨_,rfl⟩:=RepV.wC ry;exact qh i j _ _ rfl rfl rfl rfl q
 cases op with
 | Add=>
  cases x with
  | int i=>
   refine zb (zg q) fun j h2 q=>?_;have h2:=jj h2;subst h2;obtain⟨_,rfl⟩:=RepV.wC rx;obtain⟨_,rfl⟩:=RepV.wC ry;exact P.add_int (zai a (.int _ _) q)
  | tup xs=>
   refine zb (zg q) fun ys h2 q=>?_;have h2:=zpJ h2;subst h2;exact ziB a rx ry (kK q).1 (kK q).2
  | str n=>exact qb (r:=r) a rx ry q
  | none=>exact qb (r:=r) a rx ry q
  | bool _=>exact qb (r:=r) a rx ry q
  | lst _=>exact qb (r:=r) a rx ry q
  | ref _=>exact qb (r:=r) a rx ry q
  | rng _ _=>exact qb (r:=r) a rx ry q
  | exc _=>exact qb (r:=r) a rx ry q
 | Sub=>refine zV (two q) fun i j t t' e29_4 e29_5 e29_6 e29_7 q=>?_;subst e29_4;subst e29_5;subst e29_6;subst e29_7;exact P.sub_int (zai a (.int _ _) q)
 | Mult=>
  refine zV (two q) fun i j t t' e34_4 e34_5 e34_6 e34_7 q=>?_;subst e34_4;subst e34_5;subst e34_6;subst e34_7;obtain⟨h,q⟩:=qP q
  rcases fBN.mp h with h|h
  .exact P.mul_int (zai a (.int _ _) q) (IntMulOk.of_right (zaV h))
  .exact P.mul_int (zai a (.int _ _) q) (IntMulOk.of_left (zaV h))
 | FloorDiv=>
  refine zV (two q) fun i j t t' e34_4 e34_5 e34_6 e34_7 q=>?_;subst e34_4;subst e34_5;subst e34_6;subst e34_7;obtain⟨h,q⟩:=qP q;have h:=gA.mp h;have h0:¬j=0:=by simpa using h.1
  exact floordiv_int h0 (zai a (.int _ _) q) (.inl (PyProof.noPylong_small (fDK.mp h.2)))
 | Mod=>
  refine zV (two q) fun i j t t' e36_4 e36_5 e36_6 e36_7 q=>?_;subst e36_4;subst e36_5;subst e36_6;subst e36_7;obtain⟨h,q⟩:=qP q;have h0:¬j=0:=by simpa [zej] using h
  exact mod_int' h0 (zai a (.int _ _) q)
 | Pow=>
  refine zV (two q) fun i j t t' e38_4 e38_5 e38_6 e38_7 q=>?_;subst e38_4;subst e38_5;subst e38_6;subst e38_7;obtain⟨h,q⟩:=qP q;have h:=gA.mp h;have h1:=gA.mp h.1;exact pow_int_small (G7 h1.1) (by have:=G7 h1.2;lia) (fDK.mp h.2) (zai a (.int _ _) q)
 | _=>exact q.elim
end
mutual
inductive Rd(U:AHeap):AV->PyData->Prop
 | none:Rd U .none .none
 | bool (b:Bool):Rd U (.bool b) (.bool b)
 | int (i:Int):Rd U (.int i) (.int i)
 | str (n:Nat):Rd U (.str n) (.str (zy n))
 | tup {xs ds}:RdL U xs ds->Rd U (.tup xs) (.tuple ds)
 | lst {xs ds}:RdL U xs ds->Rd U (.lst xs) (.list ds)
 | list {a xs ds}:U a=some (.list xs)->RdL U xs ds->Rd U (.ref a) (.list ds)
inductive RdL(U:AHeap):List AV->List PyData->Prop
 | nil:RdL U [] []
 | cons {x xs d ds}:Rd U x d->RdL U xs ds->RdL U (x::xs) (d::ds)
end
theorem Rd.wL{U:AHeap}{d:PyData}(r:Rd U .none d):d = .none:=by cases r;rfl
theorem Rd.wC{U:AHeap}{i:Int}{d:PyData}(r:Rd U (.int i) d):d = .int i:=by cases r;rfl
theorem Rd.wJ{U:AHeap}{n:Nat}{d:PyData}(r:Rd U (.str n) d):d = .str (zy n):=by cases r;rfl
theorem Rd.wH{U:AHeap}{xs:List AV}{d:PyData}(r:Rd U (.tup xs) d):∃ds,d = .tuple ds/\RdL U xs ds:=by cases r with|tup r=>exact zc _ rfl r
theorem Rd.wQ{U:AHeap}{xs:List AV}{d:PyData}(r:Rd U (.lst xs) d):∃ds,d = .list ds/\RdL U xs ds:=by cases r with|lst r=>exact zc _ rfl r
theorem RdL.wG{U:AHeap}{ds:List PyData}(r:RdL U [] ds):ds=[]:=by cases r;rfl
theorem RdL.wE{U:AHeap}{x:AV}{xs:List AV}{ds:List PyData}(r:RdL U (x::xs) ds):∃e es,ds=e::es/\Rd U x e/\RdL U xs es:=by cases r with|cons a r=>exact zP _ _ rfl a r
theorem Rd.reads{X:Cx}{U:AHeap}{s:Shared}(a:At X U s){x:AV}{d:PyData}(h:Rd (vis U) x d){v:Value}(r:RepV U s.heap x v):(∃as,Reads s.heap v d as)/\d.canLay0=true:=by
 refine Rd.rec (motive_1:=fun x d _=>∀v,RepV U s.heap x v->(∃as,Reads s.heap v d as)/\d.canLay0=true) (motive_2:=fun xs ds _=>∀vs,RepVs U s.heap xs vs->(∃as,ReadsAll s.heap vs ds as)/\PyData.canLayAll0 ds=true)
  ?_ ?_ ?_ ?_ ?_ ?_ ?_ ?_ ?_ h v r
 .intro v r;obtain rfl:=RepV.wL r;exact⟨⟨_,.none⟩,by simp only[PyData.canLay0]⟩
 .intro b v r;obtain rfl:=RepV.wN r;exact⟨⟨_,.bool b⟩,by simp only[PyData.canLay0]⟩
 .intro i v r;obtain⟨_,rfl⟩:=RepV.wC r;exact⟨⟨_,.int i _⟩,by simp only[PyData.canLay0]⟩
 .intro n v r;refine zb (RepV.wJ r) fun t e1_1 hn=>?_;subst e1_1;exact⟨⟨_,.str _ t⟩,by simp only[PyData.canLay0];exact zir hn⟩
 .intro xs ds _ ih v r;refine zj (RepV.wH r) fun _ _ e2_2 hl ht rv=>?_;subst e2_2;refine jC ht fun o ho hc n hd=>?_;obtain⟨⟨as,h⟩,h2⟩:=ih _ rv;exact⟨⟨as,.tuple ho hc hd (by simpa using h)⟩,by simp only[PyData.canLay0];exact h2⟩
 .intro xs ds _ ih v r;refine zt (a.isList .lst r) fun p vs e5_2 _ h5_4 rv _=>?_;subst e5_2;refine jC h5_4 fun o ho hc n hd=>?_;obtain⟨⟨as,h⟩,h2⟩:=ih _ rv;exact⟨⟨_,.list ho hc hd (by simpa using h)⟩,by simp only[PyData.canLay0];exact h2⟩
 .intro p xs ds hp _ ih v r;refine zt (a.isList (.ref hp) r) fun p vs e7_2 _ h7_4 rv _=>?_;subst e7_2;refine jC h7_4 fun o ho hc n hd=>?_;obtain⟨⟨as,h⟩,h2⟩:=ih _ rv;exact⟨⟨_,.list ho hc hd (by simpa using h)⟩,by simp only[PyData.canLay0];exact h2⟩
 .intro vs r;obtain rfl:=RepVs.wG r;exact⟨⟨_,.nil⟩,rfl⟩
 .intro x xs d ds _ _ h1 h2 vs r;refine zp (RepVs.wE r) fun _ _ e9_2 rv rvs=>?_;subst e9_2;obtain⟨⟨as,g1⟩,k1⟩:=h1 _ rv;obtain⟨⟨bs,g2⟩,k2⟩:=h2 _ rvs;exact⟨⟨_,.cons g1 g2⟩,by simp only[PyData.canLayAll0,k1,k2,Bool.and_self]⟩
def zmq(A:Around)(s:Shared)(x y:Value)(t:Bool):Prop:=
 ∀(prog:Gn) (w:World) (E:Value->Shared->Prop) (Q:Value->Shared->Prop),Q (.bool t) s->wpAny (model prog w) A (richCompare .Lt x y) Q E s
noncomputable def LtZ(A:Around)(s:Shared)(f:Bool):List (Value×Value)->Bool->Prop
 | [],t=>t=f
 | p::r,t=>(EqAt A s p.1 p.2 true/\LtZ A s f r t)\/(EqAt A s p.1 p.2 false/\zmq A s p.1 p.2 t)
theorem ze1(l b:Value):Builtin.«tuple.__lt__» ⟨[l,b],[]⟩=(do
  if !(<-isInstance b (.type "tuple")) then return <-ret .notImplemented
  let xs <-Builtin.Tuple.tupleItemsOf l
  let ys <-Builtin.Tuple.tupleItemsOf b
  for (x,y) in xs.toList.zip ys.toList do
   if !(<-eqBool x y) then
    rule "tuple.compare.by-the-first-pair-that-differs";return <-ret (<-richCompare .Lt x y)
  ret (Builtin.Tuple.tupleCompareSizes .Lt xs.size ys.size)):=rfl
theorem zlw{A:Around}{s:Shared}{l b:Addr}{xs ys:List Value}{t:Bool}(hl:IsTup s.heap l xs.toArray)(hb:IsTup s.heap b ys.toArray)(hu:A.units<cLine)(h:LtZ A.in1 s (decide (xs.length<ys.length)) (xs.zip ys) t):zmq A s (.ref l) (.ref b) t:=by
 intro prog w E Q q;refine wpAny_richCompare_same_or (op:=.Lt) hl.typeIs hb.typeIs F.slot_tuple_lt (Gi F.slot_tuple_lt hl.typeIs F.entry_tuple_lt ?_ (F.args_tuple_lt_2 _ _)) (.inr hu);rw[ze1];refine Ga (wpAny_isInstance (T:="tuple") (b:=true) hb.typeIs AutoSeq1.sub_tuple_tuple ?_);refine Ga (tupleItemsOf_ hl (Ga (tupleItemsOf_ hb ?_)));refine Ga ?_;refine Gh _ (fun rest b s'=>b=(none,())/\s'=s/\LtZ A.in1 s (decide (xs.length<ys.length)) rest t) _ ?_ ?_ _ _ (zq rfl rfl h)
 .intro p rest b s' hR;refine zY hR fun e0 e1 hL=>?_;subst e0 e1
  rcases hL with⟨he,hr⟩|⟨he,hr⟩
  .exact Ga (he prog w _ _ (Gb (zq rfl rfl hr)))
  .refine Ga (he prog w _ _ (Ga (Gg (Ga (hr prog w _ _ (Ga (Gb (Gb ?_))))))));exact Gb (zv _ rfl (fun e=>nomatch e) q)
 .intro b s' hR;refine zY hR fun e0 e1 hL=>?_;subst e0 e1;have hL:t=decide (xs.length<ys.length):=hL;subst hL;exact Gb (zv _ rfl (fun e=>nomatch e) q)
mutual
noncomputable def ltD:PyData->PyData->Option Bool
 | .int i,.int j=>some (decide (i<j))
 | .str x,.str y=>some (decide (x.cps.toList<y.cps.toList))
 | .tuple xs,.tuple ys=>zbN xs ys
 | _,_=>none
noncomputable def zbN:List PyData->List PyData->Option Bool
 | [],[]=>some false
 | [],_::_=>some true
 | _::_,[]=>some false
 | x::xs,y::ys=>if PyData.eqv x y then zbN xs ys else ltD x y
end
theorem zcg(a b:Int):ltD (.int a) (.int b)=some (decide (a<b)):=rfl
theorem zks(x y:Str):ltD (.str x) (.str y)=some (decide (x.cps.toList<y.cps.toList)):=rfl
theorem zde(xs ys:List PyData):ltD (.tuple xs) (.tuple ys)=zbN xs ys:=rfl
theorem zgk:zbN [] []=some false:=rfl
theorem zpd(y:PyData)(ys:List PyData):zbN [] (y::ys)=some true:=rfl
theorem zpc(x:PyData)(xs:List PyData):zbN (x::xs) []=some false:=rfl
theorem qV(x y:PyData)(xs ys:List PyData):zbN (x::xs) (y::ys)=if PyData.eqv x y then zbN xs ys else ltD x y:=rfl
theorem jA{h:Heap}{vs:List Value}{d:PyData}{ds:List PyData}{as:List Addr}(r:ReadsAll h vs (d::ds) as):∃v vs' a1 a2,vs=v::vs'/\Reads h v d a1/\ReadsAll h vs' ds a2:=
 (readsAll_cons_inv r).imp fun _ h=>h.imp fun _ h=>h.imp fun _ h=>h.imp fun _ h=>⟨h.1,h.2.2⟩
theorem jP{h:Heap}{vs:List Value}{as:List Addr}(r:ReadsAll h vs [] as):vs=[]:=(readsAll_nil_inv r).1
theorem zbo{h:Heap}{v:Value}{i:Int}{as:List Addr}(r:Reads h v (.int i) as):∃t,v = .int i t:=(reads_int_inv r).imp fun _ h=>h.1
theorem zbp{h:Heap}{v:Value}{x:Str}{as:List Addr}(r:Reads h v (.str x) as):∃t,v = .str x t:=(reads_str_inv r).imp fun _ h=>h.1
theorem zq3{M:PyData->PyData->Bool->Prop}(hi:∀i j:Int,M (.int i) (.int j) (decide (i<j)))(hs:∀x y:Str,M (.str x) (.str y) (decide (x.cps.toList<y.cps.toList)))(ht:∀xs ys t,zbN xs ys=some t->M (.tuple xs) (.tuple ys) t)
  {da db:PyData}{t:Bool}(e:ltD da db=some t):M da db t:=by
 cases da with
 | int i=>cases db with
  | int j=>exact G4 e▸hi i j
  | _=>exact nos e
 | str x=>cases db with
  | str y=>exact G4 e▸hs x y
  | _=>exact nos e
 | tuple xs=>cases db with
  | tuple ys=>exact ht xs ys t e
  | _=>exact nos e
 | _=>exact nos e
def LtR(s:Shared)(da:PyData):Prop:=∀{A:Around} (db:PyData) {a b:Value} {as bs:List Addr} {t:Bool},Reads s.heap a da as->Reads s.heap b db bs->da.canLay0=true->db.canLay0=true->A.units+2*da.depth+10<cLine->ltD da db=some t->zmq A s a b t
theorem zlu{s:Shared}{xs:List PyData}:(∀x∈xs,LtR s x)->∀{A:Around} {ys:List PyData} {vs ws:List Value} {as bs:List Addr} {f t:Bool},ReadsAll s.heap vs xs as->ReadsAll s.heap ws ys bs->PyData.canLayAll0 xs=true->PyData.canLayAll0 ys=true->A.units+2*PyData.depthAll xs+10<cLine->zbN xs ys=some t->f=decide (vs.length<ws.length)->LtZ A s f (vs.zip ws) t:=by
 induction xs with
 | nil=>
  intro _ A ys vs ws as bs f t rx ry ha hb hu e hf;rw[jP rx] at hf ⊢;cases ys with
  | nil=>rw[jP ry] at hf;exact(G4 e).symm.trans hf.symm
  | cons y ys=>refine qY (jA ry) fun _ _ _ _ z1 _ _=>?_;rw[z1] at hf;exact(G4 e).symm.trans hf.symm
 | cons x xs ih=>
  intro H A ys vs ws as bs f t rx ry ha hb hu e hf;refine qY (jA rx) fun _ _ _ _ z1 h1 h2=>?_;rw[z1] at hf ⊢;cases ys with
  | nil=>rw[jP ry] at hf ⊢;exact(G4 e).symm.trans hf.symm
  | cons y ys=>
   refine qY (jA ry) fun _ _ _ _ z1 k1 k2=>?_;rw[z1] at hf ⊢;have ha:=(gW _ _).mp ha;have hb:=(gW _ _).mp hb;have hu:A.units+2*max x.depth (PyData.depthAll xs)+10<cLine:=hu;have heq:=eqAt_reads x y A s _ _ _ _ h1 k1 ha.1 hb.1 (by exact zuB hu);rw[qV] at e;cases hE:PyData.eqv x y with
   | true=>rw[hE] at e heq;exact .inl ⟨heq,ih (fun z hz=>H z (fA _ hz)) h2 k2 ha.2 hb.2 (zur hu) e (hf.trans (decide_eq_decide.mpr fCE))⟩
   | false=>rw[hE] at e heq;exact .inr ⟨heq,H x fB y h1 k1 ha.1 hb.1 (by exact zuq hu) e⟩
theorem zmU{n:Nat}{xs:List PyData}(h:PyData.depthAll xs<=n):∀x∈xs,x.depth<=n:=by
 induction xs with
 | nil=>exact fun _ h=>nomatch h
 | cons y ys ih=>exact fAN.mpr ⟨fN (Nat.le_max_left _ _) h,ih (fN (Nat.le_max_right _ _) h)⟩
theorem zqm{s:Shared}{n:Nat}(H:∀xs,(PyData.tuple xs).depth<=n->∀x∈xs,LtR s x)(da:PyData)(hn:da.depth<=n):LtR s da:=by
 intro A db a b as bs t ra rb ha hb hu e;refine zq3 (M:=fun da db t=>da.depth<=n->Reads s.heap a da as->Reads s.heap b db bs->da.canLay0=true->db.canLay0=true->A.units+2*da.depth+10<cLine->zmq A s a b t) ?_ ?_ ?_ e hn ra rb ha hb hu
 .intro i j _ ra rb _ _ _;refine jU (zbo ra) fun _ z1=>jU (zbo rb) fun _ z2=>?_;rw[z1,z2];exact fun prog w E Q q=>P.lt_int q
 .intro i j _ ra rb _ _ _;refine jU (zbp ra) fun _ z1=>jU (zbp rb) fun _ z2=>?_;rw[z1,z2];exact fun prog w E Q q=>P.lt_str q
 .intro xs ys t e hn ra rb ha hb hu;refine zp (reads_tuple_items ra) fun _ _ z1 h1 hr=>zp (reads_tuple_items rb) fun _ _ z2 h2 hr2=>?_;rw[z1,z2];exact zlw h1 h2 (zx9 hu) (zlu (H xs hn) hr hr2 ha hb (zx8 hu) e rfl)
theorem zlv{s:Shared}(n:Nat):∀da:PyData,da.depth<=n->LtR s da:=by
 induction n with
 | zero=>exact zqm fun xs h=>absurd h (fBE _)
 | succ n ih=>exact zqm fun xs h=>fun x hx=>ih x (zmU (fAC h) x hx)
theorem zhJ{A:Around}{s:Shared}(da db:PyData){a b:Value}{as bs:List Addr}{t:Bool}(ra:Reads s.heap a da as)(rb:Reads s.heap b db bs)(ha:da.canLay0=true)(hb:db.canLay0=true)(hu:A.units+2*da.depth+10<cLine)(e:ltD da db=some t):zmq A s a b t:=zlv _ da (fM _) db ra rb ha hb hu e
noncomputable def AV.isNone:AV->Bool
 | .none=>true
 | _=>false
@[irreducible] noncomputable def eqG(a b:AV)(Q:Bool->AHeap->Prop)(U:AHeap):Prop:=∃x y,Rd U a x/\Rd U b y/\x.depth<=100/\Q (PyData.eqv x y) U
@[irreducible] noncomputable def ltG(a b:AV)(Q:Bool->AHeap->Prop)(U:AHeap):Prop:=∃x y t,Rd U a x/\Rd U b y/\x.depth<=100/\ltD x y=some t/\Q t U
@[irreducible] noncomputable def inG(x c:AV)(Q:Bool->AHeap->Prop)(U:AHeap):Prop:=∃ds d,(Rd U c (.list ds)\/Rd U c (.tuple ds))/\Rd U x d/\PyData.depthAll ds<=100/\Q (ds.any fun y=>PyData.eqv y d) U
@[irreducible] noncomputable def inR(x:AV)(p:Addr)(Q:Bool->AHeap->Prop)(U:AHeap):Prop:=(∃kvs k,U p=some (.tdict kvs)/\x=zA k/\Q (Tab.at kvs k).isSome U)\/(∃fs n,U p=some (.idict fs)/\x = .str n/\Q (kP fs n).isSome U)\/inG x (.ref p) Q U
def eqF(a b:AV)(Q:Bool->AHeap->Prop)(U:AHeap):Prop:=match a with
 | .int i=>(match b with
  | .int j=>Q (decide (i=j)) U
  | _=>eqG a b Q U)
 | .str n=>(match b with
  | .str m=>Q (Nat.beq n m) U
  | _=>eqG a b Q U)
 | _=>eqG a b Q U
def inF(x c:AV)(Q:Bool->AHeap->Prop)(U:AHeap):Prop:=match c with
 | .ref p=>inR x p Q U
 | _=>inG x c Q U
def ltF(a b:AV)(Q:Bool->AHeap->Prop)(U:AHeap):Prop:=match a with
 | .int i=>zw b.int? fun j=>Q (decide (i<j)) U
 | _=>ltG a b Q U
def zsE(op:CmpOp)(a b:AV)(Q:Bool->AHeap->Prop)(U:AHeap):Prop:=match op with
 | .Eq=>eqF a b Q U
 | .NotEq=>eqF a b (fun t U'=>Q (!t) U') U
 | .Lt=>ltF a b Q U
 | .LtE=>kt a b fun i j=>Q (decide (i<=j)) U
 | .Gt=>kt a b fun i j=>Q (decide (i>j)) U
 | .GtE=>kt a b fun i j=>Q (decide (i>=j)) U
 | .In=>inF a b Q U
 | .NotIn=>inF a b (fun t U'=>Q (!t) U') U
 | .Is=>onB b.isNone (Q a.isNone U)
 | .IsNot=>onB b.isNone (Q (!a.isNone) U)
section
variable{X:Cx}{A:Around}{U:AHeap}{s:Shared}{E:Value->Shared->Prop}{d:Dp}{x y:AV}{u v:Value}
theorem zdc{R:Bool->Shared->Prop}(rx:RepV U s.heap x u)(h:R x.isNone s):wpAny X.M A (isSame u .none) R E s:=by
 cases rx<;>exact Gb h
theorem zeJ{R:Bool->AHeap->Prop}{t:Bool}(a:At X U s)(q:R t (vis U)):liftB X U s R t s:=(zv U a (.refl ..) q)
def zfH(X:Cx)(U:AHeap)(s:Shared)(R:Bool->AHeap->Prop):Value->Shared->Prop:=fun w s'=>∃t,w = .bool t/\liftB X U s R t s'
theorem zfi{R:Bool->AHeap->Prop}(L:Live X d A)(a:At X U s)(rx:RepV U s.heap x u)(ry:RepV U s.heap y v)(q:inG x y R (vis U)):wpAny X.M A (compareOp .In u v) (zfH X U s R) E s:=by
 have room:=L.room;unfold inG at q;obtain⟨ds,dd,hc,hx,hd1,q⟩:=q;obtain⟨⟨as,r1⟩,kd⟩:=hx.reads a rx;have hu:A.units+1+min (PyData.depthAll ds) dd.depth<cLine:=by
  have:min (PyData.depthAll ds) dd.depth<=PyData.depthAll ds:=fDB _ _;exact zzH room hd1
 rcases hc with hc|hc
 .obtain⟨⟨bs,r2⟩,kc⟩:=hc.reads a ry;exact in_list_reads r2 r1 (by simpa only[PyData.canLay0] using kc) kd hu (zc _ rfl (zeJ a q))
 .obtain⟨⟨bs,r2⟩,kc⟩:=hc.reads a ry;exact in_tuple_reads r2 r1 (by simpa only[PyData.canLay0] using kc) kd hu (zc _ rfl (zeJ a q))
theorem ziu{R:Bool->AHeap->Prop}{w:Value}{s':Shared}(h:liftQ X U s (fun v U'=>∃t,v = .bool t/\R t U') w s'):zfH X U s R w s':=by
 refine zi0 h fun av U' r a' st t e3_6 q=>?_;subst e3_6;obtain rfl:=RepV.wN r;exact zht t rfl U' a' st q
theorem zhv{R:Bool->AHeap->Prop}(L:Live X d A)(a:At X U s)(rx:RepV U s.heap x u)(ry:RepV U s.heap y v)(q:inF x y R (vis U)):wpAny X.M A (compareOp .In u v) (zfH X U s R) E s:=by
 cases y with
 | ref p=>
  have qr:inR x p R (vis U):=q;clear q;unfold inR at qr
  rcases qr with⟨kvs,k,hp,rfl,q⟩|⟨fs,n,hp,rfl,q⟩|q
  .obtain rfl:=RepV.wM ry;exact Gc (zrD (Q:=fun v U'=>∃t,v = .bool t/\R t U') L a (zK hp).1 rx (zc _ rfl q)) (fun w s' h=>ziu h) fun _ _ e=>e
  .obtain rfl:=RepV.wM ry;exact Gc (ztd (Q:=fun v U'=>∃t,v = .bool t/\R t U') a (zK hp).1 rx (zc _ rfl q)) (fun w s' h=>ziu h) fun _ _ e=>e
  .exact zfi L a rx ry q
 | _=>exact zfi L a rx ry q
theorem zhg{R:Bool->AHeap->Prop}(L:Live X d A)(a:At X U s)(rx:RepV U s.heap x u)(ry:RepV U s.heap y v)(q:eqF x y R (vis U)) :
  wpAny X.M A (compareOp .Eq u v) (fun w s'=>∃t,w = .bool t/\liftB X U s R t s') E s/\wpAny X.M A (compareOp .NotEq u v) (fun w s'=>∃t,w = .bool (!t)/\liftB X U s R t s') E s:=by
 have room:=L.room;have gen:eqG x y R (vis U)->wpAny X.M A (compareOp .Eq u v) (fun w s'=>∃t,w = .bool t/\liftB X U s R t s') E s/\wpAny X.M A (compareOp .NotEq u v) (fun w s'=>∃t,w = .bool (!t)/\liftB X U s R t s') E s:=by
  intro q;unfold eqG at q;refine zj q fun da db h1 h2 k1 q=>?_;obtain⟨⟨as,r1⟩,c1⟩:=h1.reads a rx;obtain⟨⟨bs,r2⟩,c2⟩:=h2.reads a ry;have hm:min da.depth db.depth<=da.depth:=fDB _ _;exact⟨compareEq_reads r1 r2 c1 c2 (zus room k1) (zc _ rfl (zeJ a q)),compareNe_reads r1 r2 c1 c2 (zus room k1) (zc _ rfl (zeJ a q))⟩
 cases x with
 | int i=>
  cases y with
  | int j=>
   refine gen ?_;unfold eqG;refine zr _ _ (.int i) (.int j) (by simp only[PyData.depth];exact y5) ?_;have e:PyData.eqv (.int i) (.int j)=decide (i=j):=by
    simp only[PyData.eqv]
    by_cases h:i=j
    .rw[G6 h,beq_iff_eq.mpr h]
    .rw[G5 h,beq_eq_false_iff_ne.mpr h]
   exact q
  | _=>exact gen q
 | str n=>
  cases y with
  | str m=>
   refine gen ?_;unfold eqG;refine zr _ _ (.str n) (.str m) (by simp only[PyData.depth];exact y5) ?_;cases rx with
   | str hn t=>
    refine zb (RepV.wJ ry) fun t' e7_1 hm=>?_;subst e7_1;have e:PyData.eqv (.str (zy n)) (.str (zy m))=Nat.beq n m:=by
     rw[zrc];simp only[PyData.eqv]
     by_cases h:n=m
     .subst h;rw[G6 rfl,beq_iff_eq.mpr rfl]
     .rw[G5 h,beq_eq_false_iff_ne.mpr fun e=>h (zam hn hm e)]
    rw[e];exact q
  | _=>exact gen q
 | _=>exact gen q
theorem zbh{op:CmpOp}{R:Bool->AHeap->Prop}(L:Live X d A)(a:At X U s)(rx:RepV U s.heap x u)(ry:RepV U s.heap y v)(q:zsE op x y R (vis U)):wpAny X.M A (compareOp op u v) (zfH X U s R) E s:=by
 have room:=L.room;have two:∀{K:Int->Int->Prop},kt x y K->∃i j t t',x = .int i/\y = .int j/\u = .int i t/\v = .int j t'/\K i j:=fun q=>by
  refine zb (zg q) fun i h1 q=>?_;refine zb (zg q) fun j h2 q=>?_;have h1:=jj h1;have h2:=jj h2;subst h1;subst h2;obtain⟨_,rfl⟩:=RepV.wC rx;obtain⟨_,rfl⟩:=RepV.wC ry;exact qh i j _ _ rfl rfl rfl rfl q
 have neg:∀{w:Value} {s':Shared},(∃t,w = .bool (!t)/\liftB X U s (fun t U'=>R (!t) U') t s')->zfH X U s R w s':=fun {w s'} h=>by
  refine zaa h fun t e U' a' st q=>?_;exact zht (!t) e U' a' st q
 cases op with
 | Eq=>exact(zhg L a rx ry q).1
 | NotEq=>
  have q:eqF x y (fun t U'=>R (!t) U') (vis U):=q;exact Gc (zhg L a rx ry q).2 (fun w s' h=>neg h) fun _ _ e=>e
 | Lt=>
  have gen:ltG x y R (vis U)->wpAny X.M A (compareOp .Lt u v) (zfH X U s R) E s:=by
   intro q;unfold ltG at q;refine qd q fun da db t h1 h2 k1 ht q=>?_;obtain⟨⟨as,r1⟩,c1⟩:=h1.reads a rx;obtain⟨⟨bs,r2⟩,c2⟩:=h2.reads a ry;exact zhJ da db r1 r2 c1 c2 (zyo room k1) ht _ _ _ _ (zc _ rfl (zeJ a q))
  cases x with
  | int i=>
   refine zb (zg q) fun j h2 q=>?_;have h2:=jj h2;subst h2;obtain⟨_,rfl⟩:=RepV.wC rx;obtain⟨_,rfl⟩:=RepV.wC ry;exact P.lt_int (zc _ rfl (zeJ a q))
  | _=>exact gen q
 | LtE=>refine zV (two q) fun i j t t' e19_4 e19_5 e19_6 e19_7 q=>?_;subst e19_4;subst e19_5;subst e19_6;subst e19_7;exact P.le_int ⟨_,rfl,zeJ a q⟩
 | Gt=>refine zV (two q) fun i j t t' e20_4 e20_5 e20_6 e20_7 q=>?_;subst e20_4;subst e20_5;subst e20_6;subst e20_7;exact P.gt_int ⟨_,rfl,zeJ a q⟩
 | GtE=>refine zV (two q) fun i j t t' e21_4 e21_5 e21_6 e21_7 q=>?_;subst e21_4;subst e21_5;subst e21_6;subst e21_7;exact P.ge_int ⟨_,rfl,zeJ a q⟩
 | In=>exact zhv L a rx ry q
 | NotIn=>
  have q:inF x y (fun t U'=>R (!t) U') (vis U):=q;refine zlF (zhv L a rx ry q) fun t s' h=>?_;refine zaa h fun t' e U' a' st q=>?_;cases e;exact⟨_,rfl,U',a',st,q⟩
 | Is=>
  obtain⟨h,q⟩:=qP q;cases y with
  | none=>obtain rfl:=RepV.wL ry;exact Ga (zdc rx (Gb (zc _ rfl (zeJ a q))))
  | _=>cases h
 | IsNot=>
  obtain⟨h,q⟩:=qP q;cases y with
  | none=>obtain rfl:=RepV.wL ry;exact Ga (zdc rx (Gb (zc _ rfl (zeJ a q))))
  | _=>cases h
end
namespace A
def zsM(r:Bool)(op:Operator)(Q:zm)(a:AV):zm:=fun b σ2=>zsv r op a b Q σ2
def zvt(r:Bool)(op:Operator)(y:AE)(d:Dp)(l:Loc)(Q:zm)(Z:XP):zm:=fun a σ1=>y d l (zsM r op Q a) Z σ1
def kOr(y:AE)(d:Dp)(l:Loc)(Q:zm)(Z:XP):zm:=fun a σ1=>zw a.bool? fun b=>cB b (Q (.bool true) σ1) (y d l Q Z σ1)
def zvr(y:AE)(d:Dp)(l:Loc)(Q:zm)(Z:XP):zm:=fun a σ1=>zw a.bool? fun b=>cB b (y d l Q Z σ1) (Q (.bool false) σ1)
def zvC(Q:zm):zm:=fun a σ1=>zw a.bool? fun b=>Q (.bool (!b)) σ1
def zvB(Q:zm):zm:=fun a σ1=>zw a.int? fun i=>Q (.int (-i)) σ1
def bin(r:Bool)(op:Operator)(x y:AE):AE:=fun d l Q Z U=>x d l (zvt r op y d l Q Z) Z U
def neg(x:AE):AE:=fun d l Q Z U=>x d l (zvB Q) Z U
def wT(x:AE):AE:=fun d l Q Z U=>x d l (zvC Q) Z U
def vL(x y:AE):AE:=fun d l Q Z U=>x d l (zvr y d l Q Z) Z U
def or_(x y:AE):AE:=fun d l Q Z U=>x d l (kOr y d l Q Z) Z U
def zvu(b:AV)(F:AV->AHeap->Prop)(e:Bool)(Q:zm)(t:Bool)(σ2:AHeap):Prop:=match e with
 | true=>Q (.bool t) σ2
 | false=>cB t (F b σ2) (Q (.bool false) σ2)
def zqT(o:CmpOp)(a:AV)(F:AV->AHeap->Prop)(e:Bool)(Q:zm):zm:=fun b σ1=>zsE o a b (zvu b F e Q) σ1
def w7(d:Dp)(l:Loc)(Q:zm)(Z:XP)(a:AV)(ops:List (CmpOp×AE))(U:AHeap):Prop:=match ops with
 | []=>False
 | o::r=>o.2 d l (zqT o.1 a (fun b σ2=>w7 d l Q Z b r σ2) r.isEmpty Q) Z U
def zsO(ops:List (CmpOp×AE))(d:Dp)(l:Loc)(Q:zm)(Z:XP):zm:=fun a σ1=>w7 d l Q Z a ops σ1
def cmp(x:AE)(ops:List (CmpOp×AE)):AE:=fun d l Q Z U=>x d l (zsO ops d l Q Z) Z U
end A
section
variable{X:Cx}{env:Env}{nm:List (Str×Nat)}
theorem zlU{r:Bool}{op:Operator}{e1 e2:Expr}{m1 m2:AE}{pos:Pos}(h1:zh X env nm e1 m1)(h2:zh X env nm e2 m2):zh X env nm (.BinOp e1 op e2 pos) (A.bin r op m1 m2):=fun d A l U s Q Z L a F q=>
 wpAny_BinOp (zak (h1 d A l U s _ Z L a F q) fun av v σ1 s1 rv a1 st1 q1=>
  Gc (h2 d A l σ1 s1 _ Z L a1 (F.step a st1) q1) (fun v2 s2 hpz=>zj hpz fun av2 σ2 rv2 a2 st2 q2=>jX (st1.trans st2) (zkQ a2 (rv.mono (st2.keepV0 a1)) rv2 q2)) fun _ _ x=>x.back st1)
theorem zl8{e:Expr}{m:AE}{pos:Pos}(h:zh X env nm e m):zh X env nm (.UnaryOp .USub e pos) (A.neg m):=fun d A l U s Q Z L a F q=>by
 refine Ga (zak (h d A l U s _ Z L a F q) fun av v σ1 s1 rv a1 st1 hpx=>?_);refine zb (zg hpx) fun i hi q1=>?_;have hi:=jj hi;subst hi;obtain⟨_,rfl⟩:=RepV.wC rv;exact Ga (Gm (Ge (P.neg_int (liftQ.back st1 (zai a1 (.int _ _) q1)))))
theorem zma{e:Expr}{m:AE}{pos:Pos}(h:zh X env nm e m):zh X env nm (.UnaryOp .Not e pos) (A.wT m):=fun d A l U s Q Z L a F q=>by
 refine Ga (zak (h d A l U s _ Z L a F q) fun av v σ1 s1 rv a1 st1 hpx=>?_);refine zb (zg hpx) fun b hb q1=>?_;have hb:=zaW hb;subst hb;obtain rfl:=RepV.wN rv;refine Ga (Gm (Ge ?_));exact Ge (Ga (wpAny_truthy_bool (Gb (liftQ.back st1 (zbS a1 (.bool _) q1)))))
theorem zjM{e:Expr}{m:AE}{pos:Pos}(h:qM X env nm e m):qM X env nm (.UnaryOp .Not e pos) (A.wT m):=fun d A l U s Q Z L a F q=>by
 exact Ga (Gc (h d A l U s (fun b σ1=>Q (!b) σ1) Z L a F q) (fun b s1 hpz=>zk hpz fun σ1 a1 st1 q1=>Gb (zv σ1 a1 st1 q1)) fun _ _ x=>x)
def zcJ(ms:List AE):AE:=match ms with
 | []=>fun _ _ _ _ _=>False
 | x::r=>match r with
  | []=>x
  | _::_=>A.vL x (zcJ r)
def orL(ms:List AE):AE:=match ms with
 | []=>fun _ _ _ _ _=>False
 | x::r=>match r with
  | []=>x
  | _::_=>A.or_ x (orL r)
inductive SoundEBs(X:Cx)(env:Env)(nm:List (Str×Nat)):List Expr->List AE->Prop
 | nil:SoundEBs X env nm [] []
 | cons {e es m ms}:zh X env nm e m->qM X env nm e m->SoundEBs X env nm es ms->SoundEBs X env nm (e::es) (m::ms)
theorem zlT{pos:Pos}{es:List Expr}{ms:List AE}(h:SoundEBs X env nm es ms):zh X env nm (.BoolOp .And es pos) (zcJ ms):=by
 induction h with
 | nil=>intro d A l U s Q Z L a F q;exact q.elim
 | @cons e es m ms h hb r ih=>
  intro d A l U s Q Z L a F q;show wpAny X.M A (boolOp pos .And (evalEach (e::es) env)) _ _ s;cases r with
  | nil=>exact h d A l U s Q Z L a F q
  | @cons e2 es m2 ms h2 hb2 r=>
   refine Ga (zak (h d A l U s _ Z L a F q) fun av v σ1 s1 rv a1 st1 hpx=>?_);refine zb (zg hpx) fun b hb' q1=>?_;have hb':=zaW hb';subst hb';obtain rfl:=RepV.wN rv;refine Ga (Gm (Ga (Ge (wpAny_truthy_bool ?_))));cases b with
   | false=>exact Gb (liftQ.back st1 (zbS a1 (.bool _) q1))
   | true=>exact jX st1 (ih d A l σ1 s1 Q Z L a1 (F.step a st1) q1)
theorem zom{pos:Pos}{es:List Expr}{ms:List AE}(h:SoundEBs X env nm es ms):zh X env nm (.BoolOp .Or es pos) (orL ms):=by
 induction h with
 | nil=>intro d A l U s Q Z L a F q;exact q.elim
 | @cons e es m ms h hb r ih=>
  intro d A l U s Q Z L a F q;show wpAny X.M A (boolOp pos .Or (evalEach (e::es) env)) _ _ s;cases r with
  | nil=>exact h d A l U s Q Z L a F q
  | @cons e2 es m2 ms h2 hb2 r=>
   refine Ga (zak (h d A l U s _ Z L a F q) fun av v σ1 s1 rv a1 st1 hpx=>?_);refine zb (zg hpx) fun b hb' q1=>?_;have hb':=zaW hb';subst hb';obtain rfl:=RepV.wN rv;refine Ga (Gm (Ga (Ge (wpAny_truthy_bool ?_))));cases b with
   | true=>exact Gb (liftQ.back st1 (zbS a1 (.bool _) q1))
   | false=>exact jX st1 (ih d A l σ1 s1 Q Z L a1 (F.step a st1) q1)
theorem zjK{pos:Pos}{es:List Expr}{ms:List AE}(h:SoundEBs X env nm es ms):qM X env nm (.BoolOp .And es pos) (zcJ ms):=by
 induction h with
 | nil=>intro d A l U s Q Z L a F q;exact q.elim
 | @cons e es m ms h hb r ih=>
  intro d A l U s Q Z L a F q;show wpAny X.M A (allTrue .And (e::es) env) _ _ s;cases r with
  | nil=>
   refine Ga (Gc (hb d A l U s Q Z L a F q) (fun b s1 x=>?_) fun _ _ x=>x);cases b with
   | false=>exact Gb x
   | true=>exact Gb x
  | @cons e2 es m2 ms h2 hb2 r=>
   refine Ga (Gc (hb d A l U s (fun b σ1=>cB b (zcJ (m2::ms) d l (isB Q) Z σ1) (Q false σ1)) Z L a F q) (fun b s1 x=>?_) fun _ _ x=>x);refine zk x fun σ1 a1 st1 q1=>?_;cases b with
   | false=>exact Gb (zv σ1 a1 st1 q1)
   | true=>exact ze7 st1 (ih d A l σ1 s1 Q Z L a1 (F.step a st1) q1)
theorem zlR{pos:Pos}{es:List Expr}{ms:List AE}(h:SoundEBs X env nm es ms):qM X env nm (.BoolOp .Or es pos) (orL ms):=by
 induction h with
 | nil=>intro d A l U s Q Z L a F q;exact q.elim
 | @cons e es m ms h hb r ih=>
  intro d A l U s Q Z L a F q;show wpAny X.M A (allTrue .Or (e::es) env) _ _ s;cases r with
  | nil=>
   refine Ga (Gc (hb d A l U s Q Z L a F q) (fun b s1 x=>?_) fun _ _ x=>x);cases b with
   | false=>exact Gb x
   | true=>exact Gb x
  | @cons e2 es m2 ms h2 hb2 r=>
   refine Ga (Gc (hb d A l U s (fun b σ1=>cB b (Q true σ1) (orL (m2::ms) d l (isB Q) Z σ1)) Z L a F q) (fun b s1 x=>?_) fun _ _ x=>x);refine zk x fun σ1 a1 st1 q1=>?_;cases b with
   | true=>exact Gb (zv σ1 a1 st1 q1)
   | false=>exact ze7 st1 (ih d A l σ1 s1 Q Z L a1 (F.step a st1) q1)
inductive SoundOps(X:Cx)(env:Env)(nm:List (Str×Nat)):List CmpOp->List Expr->List (CmpOp×AE)->Prop
 | one {op e m}:zh X env nm e m->behindInMarks op e=false->SoundOps X env nm [op] [e] [(op,m)]
 | cons {op e m op2 ops es m2 ms}:zh X env nm e m->SoundOps X env nm (op2::ops) es (m2::ms)->SoundOps X env nm (op::op2::ops) (e::es) ((op,m)::m2::ms)
theorem wp_release{M:Model}{A:Around}{vs keep:List Value}{Q:Unit->Shared->Prop}{E:Value->Shared->Prop}{s:Shared}(h:Q () s):wpAny M A (release vs keep) Q E s:=fun Γ p hΓ=>by rw[Sem.wp_release];exact h
theorem zg5{pos:Pos}{ops es ms}(h0:SoundOps X env nm ops es ms):∀{d A l U s Q Z av v},Live X d A->At X U s->FR X env nm l U s.heap->RepV U s.heap av v->Mine.Internal.A.w7 d l Q Z av ms (vis U)->
  wpAny X.M A (compareChain pos v ops (markedEach ops es (evalEach es env))) (liftQ X U s Q) (liftX X U s Z) s:=by
 induction h0 with
 | @one op e m h hm=>
  intro d A l U s Q Z av v L a F rv q;show wpAny X.M A (do let rv <-holding [v] (markedBehindIn op e (eval e env));standAt pos;operate [v,rv] (compareOp op v rv)) _ _ s;rw[markedBehindIn_of_false hm];refine Ga (Ge (zak (h d A l U s _ Z L a F q) fun av2 v2 σ1 s1 rv2 a1 st1 q1=>?_));refine Ga (Gm ?_);refine jX st1 ?_;refine Ga (Ge (Gc (zbh L a1 (rv.mono (st1.keepV0 a)) rv2 q1) (fun r s2 x=>?_) fun _ _ x=>x));refine zaa x fun t e7_1 σ2 a2 st2 q2=>?_;subst e7_1;exact Ga (wp_release (Gb (zr _ σ2 (.bool t) a2 st2 q2)))
 | @cons op e m op2 ops es m2 ms h hr ih=>
  intro d A l U s Q Z av v L a F rv q;refine Ga (Ge (zak (h d A l U s _ Z L a F q) fun av2 v2 σ1 s1 rv2 a1 st1 q1=>?_));refine Ga (Gm ?_);refine jX st1 ?_;refine Ga (Ge (Gc (zbh L a1 (rv.mono (st1.keepV0 a)) rv2 q1) (fun c s2 x=>?_) fun _ _ x=>x));refine zaa x fun t e8_1 σ2 a2 st2 q2=>?_;subst e8_1;refine Ga (wp_release ?_);refine Ga (Ge (wpAny_truthy_bool ?_));cases t with
  | false=>exact Gb (liftQ.back st2 (zbS a2 (.bool _) q2))
  | true=>exact jX st2 (ih L a2 ((F.step a st1).step a1 st2) (rv2.mono (st2.keepV0 a1)) q2)
theorem zlV{pos:Pos}{e:Expr}{m:AE}{ops es ms}(h:zh X env nm e m)(hr:SoundOps X env nm ops es ms):zh X env nm (.Compare e ops es pos) (A.cmp m ms):=fun d A l U s Q Z L a F q=>by
 refine Ga (zak (h d A l U s _ Z L a F q) fun av v σ1 s1 rv a1 st1 q1=>?_);exact jX st1 (zg5 hr L a1 (F.step a st1) rv q1)
theorem zdq{pos:Pos}{ops es ms}(h0:SoundOps X env nm ops es ms):∀{d A l U s Q Z av v},Live X d A->At X U s->FR X env nm l U s.heap->RepV U s.heap av v->Mine.Internal.A.w7 d l (isB Q) Z av ms (vis U)->
  wpAny X.M A (testChain pos v ops (markedEach ops es (evalEach es env))) (liftB X U s Q) (liftX X U s Z) s:=by
 induction h0 with
 | @one op e m h hm=>
  intro d A l U s Q Z av v L a F rv q;show wpAny X.M A (do let rv <-holding [v] (markedBehindIn op e (eval e env));standAt pos;let c <-operate [v,rv] (compareOp op v rv);holding [c] (truthy c)) _ _ s;rw[markedBehindIn_of_false hm];refine Ga (Ge (zak (h d A l U s _ Z L a F q) fun av2 v2 σ1 s1 rv2 a1 st1 q1=>?_));refine Ga (Gm ?_);refine ze7 st1 ?_;refine Ga (Ga (Ge (Gc (zbh L a1 (rv.mono (st1.keepV0 a)) rv2 q1) (fun r s2 hpx=>?_) fun _ _ x=>x)));refine zaa hpx fun t e9_1 σ2 a2 st2 q2=>?_;subst e9_1;exact Ga (wp_release (Gb (Ge (wpAny_truthy_bool (zv σ2 a2 st2 q2)))))
 | @cons op e m op2 ops es m2 ms h hr ih=>
  intro d A l U s Q Z av v L a F rv q;refine Ga (Ge (zak (h d A l U s _ Z L a F q) fun av2 v2 σ1 s1 rv2 a1 st1 q1=>?_));refine Ga (Gm ?_);refine ze7 st1 ?_;refine Ga (Ge (Gc (zbh L a1 (rv.mono (st1.keepV0 a)) rv2 q1) (fun c s2 hpx=>?_) fun _ _ x=>x));refine zaa hpx fun t e10_1 σ2 a2 st2 q2=>?_;subst e10_1;refine Ga (wp_release ?_);refine Ga (Ge (wpAny_truthy_bool ?_));cases t with
  | false=>exact Gb (zv σ2 a2 st2 q2)
  | true=>exact ze7 st2 (ih L a2 ((F.step a st1).step a1 st2) (rv2.mono (st2.keepV0 a1)) q2)
theorem zjL{pos:Pos}{e:Expr}{m:AE}{ops es ms}(h:zh X env nm e m)(hr:SoundOps X env nm ops es ms):qM X env nm (.Compare e ops es pos) (A.cmp m ms):=fun d A l U s Q Z L a F q=>by
 refine Ga (zak (h d A l U s _ Z L a F q) fun av v σ1 s1 rv a1 st1 q1=>?_);exact ze7 st1 (zdq hr L a1 (F.step a st1) rv q1)
end
noncomputable def jQ{J:Type}(xs:List J)(k:Int):Option J:=if 0<=k then xs[k.toNat]? else if -(xs.length:Int)<=k then xs[(k+xs.length).toNat]? else none
@[irreducible] noncomputable def zcO(p:Addr)(b:AV)(Q:zm)(U:AHeap):Prop:=(∃xs k v,U p=some (.list xs)/\b = .int k/\jQ xs k=some v/\Q v U)\/(∃kvs k v,U p=some (.tdict kvs)/\b=zA k/\Tab.at kvs k=some v/\Q v U)\/(∃fs n v,U p=some (.idict fs)/\b = .str n/\kP fs n=some v/\Q v U)
def zoZ(a b:AV)(Q:zm)(U:AHeap):Prop:=match a with
 | .tup xs=>zw b.int? fun k=>zw (jQ xs k) fun v=>Q v U
 | .lst xs=>zw b.int? fun k=>zw (jQ xs k) fun v=>Q v U
 | .ref p=>zcO p b Q U
 | _=>False
theorem jq{p:Addr}{xs:List AV}{k:Int}{Q:zm}{U:AHeap}(hp:U p=some (.list xs))(h:zw (jQ xs k) fun v=>Q v U):zcO p (.int k) Q U:=by
 refine zb (zg h) fun v e q=>?_;unfold zcO;exact .inl (jO xs k v hp rfl e q)
theorem zcc{p:Addr}{kvs:Tab}{k:List zd}{v:AV}{Q:zm}{U:AHeap}(hp:U p=some (.tdict kvs))(e:Tab.at kvs k=some v)(q:Q v U):zcO p (zA k) Q U:=by
 unfold zcO;exact .inr (.inl (jO kvs k v hp rfl e q))
theorem ji{p:Addr}{fs:List (Nat×AV)}{n:Nat}{Q:zm}{U:AHeap}(hp:U p=some (.idict fs))(h:zw (kP fs n) fun v=>Q v U):zcO p (.str n) Q U:=by
 refine zb (zg h) fun v e q=>?_;unfold zcO;exact .inr (.inr (jO fs n v hp rfl e q))
noncomputable def cut(xs:List AV)(lo hi:Option Int):List AV:=(xs.drop (lo.elim 0 (clipAt xs.length))).take (hi.elim xs.length (clipAt xs.length)-lo.elim 0 (clipAt xs.length))
def zoh(xs:List AV)(lo hi:Option Int)(Q:zm)(U:AHeap):Prop:=match hi with
 | none=>zw lo fun k=>onB (decide (1<=k)&&Nat.ble k.toNat xs.length) (Q (.tup (xs.drop k.toNat)) U)
 | some _=>False
def zrA(r:Bool)(a:AV)(lo hi:Option Int)(Q:zm)(U:AHeap):Prop:=match a with
 | .tup xs=>zoh xs lo hi Q U
 | x=>zw (jh U x) fun xs=>mkL r (cut xs lo hi) Q U
section
variable{X:Cx}{A:Around}{U:AHeap}{s:Shared}{Q:zm}{E:Value->Shared->Prop}{d:Dp}
theorem ze6{h:Heap}{xs:List AV}{vs:List Value}{k:Int}{x:AV}(r:RepVs U h xs vs)(e:jQ xs k=some x):∃v,RepV U h x v/\((0<=k/\vs[k.toNat]? = some v)\/(k<0/\-(vs.length:Int)<=k/\vs[(k+vs.length).toNat]? = some v)):=by
 unfold jQ at e;split at e
 .refine zb (r.get e) fun v h1 h2=>?_;exact zc v h2 (.inl ⟨by assumption,h1⟩)
 .split at e
  .refine zb (r.get e) fun v h1 h2=>?_;rw[r.length] at h1
   rename_i h3 h4
   rw[r.length] at h4;exact zc v h2 (.inr (zq (y42 h3) h4 h1))
  .exact absurd (Eq.symm e) (fJ _)
theorem zgE{xs:List AV}{k:Int}{y:AV}{u:Value}{tk:Tok}{x:AV}(hx:x = .tup xs\/IsL U x xs)(a:At X U s)(rx:RepV U s.heap x u)(hy:jQ xs k=some y)(q:Q y (vis U)) :
  wpAny X.M A (getItem u (.int k tk)) (liftQ X U s Q) E s/\∃T id,s.TypeIs u T/\typeLookup (.type T) "__getitem__" = pure (some (.builtin id)):=by
 rcases hx with rfl|hx
 .refine zj (RepV.wH rx) fun t vs e4_2 hl ht rs=>?_;subst e4_2;refine zb (ze6 rs hy) fun w rw_ hw=>?_;have hlen:=rs.length;refine zgd ?_ ("tuple") _ ht.typeIs slot_tuple_getitem.lookup
  rcases hw with⟨h1,h2⟩|⟨h1,h2,h3⟩
  .have h4:k.toNat<vs.length:=(fX.mp h2).1;exact getItem_tuple ht (by lia) (by lia) (seqIndex_of h1 (by simp;exact y96 h4)) (by simpa using h2) (zbS a rw_ q)
  .exact getItem_tuple ht (by lia) (by lia) (seqIndex_neg h1 (by simpa using h2)) (by simpa using h3) (zbS a rw_ q)
 .refine zt (a.isList hx rx) fun p vs e6_2 _ hl rs hm=>?_;subst e6_2;refine zb (ze6 rs hy) fun w rw_ hw=>?_;have hlen:=rs.length;refine zgd ?_ ("list") _ hl.typeIs slot_list_getitem.lookup
  rcases hw with⟨h1,h2⟩|⟨h1,h2,h3⟩
  .have h4:k.toNat<vs.length:=(fX.mp h2).1;exact wpAny_getItem_list hl h1 (by lia) (by simpa using h2) (zbS a rw_ q)
  .exact wpAny_getItem_list_neg hl h1 (by simpa using h2) (by lia) (by simpa using h3) (zbS a rw_ q)
theorem zeQ{x i:AV}{u v:Value}{dp:Dp}(L:Live X dp A)(a:At X U s)(rx:RepV U s.heap x u)(ri:RepV U s.heap i v)(q:zoZ x i Q (vis U)) :
  wpAny X.M A (getItem u v) (liftQ X U s Q) E s/\∃T id,s.TypeIs u T/\typeLookup (.type T) "__getitem__" = pure (some (.builtin id)):=by
 cases x with
 | tup xs=>
  refine zb (zg q) fun k e q1=>?_;refine zb (zg q1) fun y hy q2=>?_;have e:=jj e;subst e;obtain⟨_,rfl⟩:=RepV.wC ri;exact zgE (.inl rfl) a rx hy q2
 | lst xs=>
  refine zb (zg q) fun k e q1=>?_;refine zb (zg q1) fun y hy q2=>?_;have e:=jj e;subst e;obtain⟨_,rfl⟩:=RepV.wC ri;exact zgE (.inr .lst) a rx hy q2
 | ref p=>
  have qr:zcO p i Q (vis U):=q;clear q;unfold zcO at qr
  rcases qr with⟨xs,k,y,hp,rfl,hy,q⟩|⟨kvs,k,y,hp,rfl,hy,q⟩|⟨fs,n,y,hp,rfl,hy,q⟩
  .obtain⟨_,rfl⟩:=RepV.wC ri;exact zgE (.inr (.ref hp)) a rx hy q
  .obtain rfl:=RepV.wM rx;have hp':=(zK hp).1;refine zb (a.tab hp') fun xs hD _=>?_;exact zgd (zpD L a hp' ri hy q) ("dict") _ hD.typeIs slot_dict_getitem.lookup
  .obtain rfl:=RepV.wM rx;have hp':=(zK hp).1;refine zb (a.rep _ _ hp') fun kvs hD _=>?_;exact⟨zrw a hp' ri hy q,"dict",_,hD.mapOf.typeIs,slot_dict_getitem.lookup⟩
 | _=>exact q.elim
theorem RepVs.cut{h:Heap}{xs:List AV}{vs:List Value}(r:RepVs U h xs vs)(lo hi:Option Int):RepVs U h (cut xs lo hi) (slicePick vs.toArray lo hi none).toList:=by
 rw[slicePick_plain];unfold Mine.Internal.cut;simp only[gH,r.length];exact(r.drop _).take _
theorem ziY(xs:List AV)(lo hi:Option Int):(cut xs lo hi).length<=xs.length:=by
 unfold cut;rw[fC3,fBJ];exact zzq
end
noncomputable def zcq(e:Expr):Bool:=!Nat.beq e.ctorIdx 26
theorem zcF{e:Expr}(h:zcq e=true)(o i:Value):subscripted e false o i=operate [o,i] (getItem o i):=by
 cases e<;>first|rfl|exact nob h
namespace A
def zsP(Q:zm)(a:AV):zm:=fun b σ2=>zoZ a b Q σ2
def zvv(i:AE)(d:Dp)(l:Loc)(Q:zm)(Z:XP):zm:=fun a σ1=>i d l (zsP Q a) Z σ1
def idx(x i:AE):AE:=fun d l Q Z U=>x d l (zvv i d l Q Z) Z U
def opt(m:Option AE)(d:Dp)(l:Loc)(Q:Option Int->AHeap->Prop)(Z:XP)(U:AHeap):Prop:=match m with
 | none=>Q none U
 | some m=>m d l (fun v σ1=>zw v.int? fun i=>Q (some i) σ1) Z U
def wW(r:Bool)(x:AE)(lo hi:Option AE):AE:=fun d l Q Z U=>x d l (fun a σ1=>opt lo d l (fun lo' σ2=>opt hi d l (fun hi' σ3=>zrA r a lo' hi' Q σ3) Z σ2) Z σ1) Z U
end A
noncomputable def zfL(X:Cx)(env:Env)(nm:List (Str×Nat)):Option Expr->Option AE->Prop
 | none,none=>True
 | some e,some m=>zh X env nm e m
 | _,_=>False
section
variable{X:Cx}{env:Env}{nm:List (Str×Nat)}
theorem zl0{e i:Expr}{m mi:AE}{pos:Pos}(h:zh X env nm e m)(hi:zh X env nm i mi)(hn:zcq i=true):zh X env nm (.Subscript e i pos) (A.idx m mi):=fun d A l U s Q Z L a F q=>by
 refine Subscript_ (zak (h d A l U s _ Z L a F q) fun av v σ1 s1 rv a1 st1 q1=>?_);refine Gc (hi d A l σ1 s1 _ Z L a1 (F.step a st1) q1) (fun v2 s2 hpx=>?_) fun _ _ x=>x.back st1;refine zj hpx fun av2 σ2 rv2 a2 st2 q2=>?_;refine zoS (zeQ (A:=A) (E:=liftX X σ2 s2 Z) L a2 (rv.mono (st2.keepV0 a1)) rv2 q2) fun h1 T id hT hl=>?_;exact jX (st1.trans st2) (tail_any hT hl h1 (zcF hn _ _))
theorem zfw{e:Option Expr}{m:Option AE}(h:zfL X env nm e m){d A l U s Q Z}(L:Live X d A)(a:At X U s)(F:FR X env nm l U s.heap)(q:Mine.Internal.A.opt m d l Q Z (vis U)){R:Value->Shared->Prop}
  (k:∀v o s' U',IsPart v o->At X U' s'->Step E0 U s U' s'->Q o (vis U')->R v s'):wpAny X.M A (valueOrNone (evalOpt e env)) R (liftX X U s Z) s:=by
 cases e with
 | none=>
  cases m with
  | none=>exact Gb (k _ _ _ _ .none a (.refl ..) q)
  | some m=>exact h.elim
 | some e=>
  cases m with
  | none=>exact h.elim
  | some m=>
   refine Gc (h d A l U s _ Z L a F q) (fun v s1 hpx=>?_) fun _ _ x=>x;refine zj hpx fun av σ1 rv a1 st1 q1=>?_;refine zb (zg q1) fun i hi q1=>?_;have hi:=jj hi;subst hi;obtain⟨_,rfl⟩:=RepV.wC rv;exact k _ _ _ _ (.int _ _) a1 st1 q1
theorem zik{r:Bool}{e:Expr}{lo hi:Option Expr}{m:AE}{mlo mhi:Option AE}{p pos:Pos}(h:zh X env nm e m)(hlo:zfL X env nm lo mlo)(hhi:zfL X env nm hi mhi) :
  zh X env nm (.Subscript e (.Slice lo hi none p) pos) (A.wW r m mlo mhi):=fun d A l U s Q Z L a F q=>by
 refine Subscript_ (zak (h d A l U s _ Z L a F q) fun av v σ1 s1 rv a1 st1 q1=>?_);have F1:=F.step a st1;refine Ga (Gc (zfw hlo L a1 F1 q1 (R:=fun v2 s2=>∃o σ2,IsPart v2 o/\At X σ2 s2/\Step E0 σ1 s1 σ2 s2/\_) fun v2 o s2 σ2 p2 a2 st2 q2=>(zr o σ2 p2 a2 st2 q2)) (fun v2 s2 hpx=>?_) fun _ _ x=>x.back st1);refine zj hpx fun o σ2 p2 a2 st2 q2=>?_;have F2:=F1.step a1 st2;refine Ga (Ge (Gc (zfw hhi L a2 F2 q2 (R:=fun v3 s3=>∃o σ3,IsPart v3 o/\At X σ3 s3/\Step E0 σ2 s2 σ3 s3/\_) fun v3 o s3 σ3 p3 a3 st3 q3=>(zr o σ3 p3 a3 st3 q3)) (fun v3 s3 hpx=>?_) fun _ _ x=>x.back (st1.trans st2)));refine zj hpx fun o3 σ3 p3 a3 st3 q3=>?_;refine Ga (Ge (Gb ?_));refine wpAny_newObj_type ?_;have rv3:=(rv.mono (st2.keepV0 a1)).mono (st3.keepV0 a2);have st13:=st1.trans (st2.trans st3);generalize hso:({ cls:=.type "slice",data:=.fields #[v2,v3,Value.none] }:Obj)=so;have st4:Step E0 σ3 s3 σ3 { s3 with heap:=s3.heap.push so }:=Step.push σ3 s3 so s3.toks;have a4:At X σ3 { s3 with heap:=s3.heap.push so }:=a3.push so s3.toks;have rv4:=rv3.mono (st4.keepV0 a3);have hsl:(s3.heap.push so).IsSliceOf s3.heap.objs.size v2 v3 .none:=by rw[<-hso];exact Heap.IsSliceOf.new ..
 refine jX (st13.trans st4) ?_;have hc:(∃xs,av = .tup xs/\zoh xs o o3 Q (vis σ3))\/zw (jh (vis σ3) av) fun xs=>mkL r (cut xs o o3) Q (vis σ3):=by
  cases av with
  | tup xs=>exact .inl (zc xs rfl q3)
  | _=>exact .inr q3
 clear q3
 rcases hc with⟨xs,rfl,q3⟩|q3
 .cases o3 with
  | some _=>exact q3.elim
  | none=>
   refine zb (zg q3) fun k e24_1 q4=>?_;subst e24_1;obtain⟨hb,q5⟩:=qP q4;have hb:=gA.mp hb;have h2:=gT hb.2;obtain⟨k,rfl⟩:∃n:Nat,k=n:=⟨k.toNat,by lia⟩
   refine zj (RepV.wH rv4) fun t vs e26_2 hl ht rs=>?_;subst e26_2;cases p2;cases p3;have hlen:=rs.length;refine tail_any (ops:=[.ref s3.heap.objs.size,_]) ht.typeIs slot_tuple_getitem.lookup (getItem_tuple_from ht hsl (by lia) (by simp;exact zr7 h2 hlen) ?_ (by simp[Gf];exact zj9 hl hlen)) rfl;generalize hH:({ s3 with heap:=s3.heap.push so }:Shared)=s4 at a4 rs ht ⊢;have hh:s4.heap=s3.heap.push so:=by rw[<-hH]
   refine zr _ σ3 (.tup (by rw[fBJ];exact zxw hl) (vs:=vs.drop k) (qo ({ cls:=.type "tuple",data:=.seq (vs.toArray.toList.drop k).toArray }) ?_ rfl 0 (by simp)) ((rs.drop k).mono (.push _))) (a4.push _ s4.toks) (Step.push σ3 s4 _ s4.toks) q5;exact Heap.get?_push_size _ rfl
 .refine zb (zg q3) fun xs hx q4=>?_;refine zt (a4.isList (z0 hx) rv4) fun p vs e28_2 _ hl rs hm=>?_;subst e28_2;refine tail_any (ops:=[.ref s3.heap.objs.size,_]) hl.typeIs slot_list_getitem.lookup (wpAny_getItem_list_slice hl hsl p2 p3 .none (by simp) ?_ (by simp[<-rs.length,Gf];exact zgP hm)) rfl;generalize hH:({ s3 with heap:=s3.heap.push so }:Shared)=s4 at a4 rs hl ⊢;have:=zq9 (t:=s4.toks) (n:=0) (Q:=Q) (r:=r) a4 (rs.cut o o3) (fN (ziY ..) hm) q4;exact this
end
abbrev zbU:=Bool->List AV->zm->AHeap->Prop
def jk(X:Cx)(f:Value)(p:zbU):Prop:=
 ∀d A U s r as vs Q E,Live X d A->d.hd=false->At X U s->RepVs U s.heap as vs->p r as Q (vis U)->wpAny X.M A (PySem.call f vs) (liftQ X U s Q) E s
namespace A
def w1(d:Dp)(P:Prop):Prop:=match d.hd with
 | false=>P
 | true=>False
end A
theorem zaE{d:Dp}{P:Prop}(h:A.w1 d P):d.hd=false/\P:=by
 unfold A.w1 at h;cases e:d.hd with
 | false=>rw[e] at h;exact⟨rfl,h⟩
 | true=>rw[e] at h;exact h.elim
namespace A
def zsR(p:zbU)(r:Bool)(Q:zm):List AV->AHeap->Prop:=fun as U'=>p r as Q U'
def prim(p:zbU)(r:Bool)(args:List AE):AE:=fun d l Q Z U=>w1 d (zbB args d l (zsR p r Q) Z U)
end A
section
variable{X:Cx}{env:Env}{nm:List (Str×Nat)}
theorem zjV{r:Bool}{x:Str}{f:Value}{p:zbU}{es:List Expr}{ms:List AE}{gp pos:Pos}(XO:X.Ok)(EO:EnvOk env)(hx:env.kindOf x=some .globalImplicit)(hd:(x==("__debug__" : Str))=false)(hn:X.mg x=none)(hv:X.mb x=some f)
  (hf:(∃id,f = .builtin id)\/∃T,f = .type T)(hp:jk X f p)(h:SoundEs X env nm es ms):zh X env nm (.Call (.Name x gp) es [] pos) (A.prim p r ms):=fun d A l U s Q Z L a F q=>by
 obtain⟨hd1,q⟩:=zaE q;refine Call_ (qf XO EO a hx hd hn hv ?_)
 rcases hf with⟨id,rfl⟩|⟨T,rfl⟩
 .refine Calls.callWith_builtin h.plain (qE h L a F q fun vs s1 hpx=>?_);refine zj hpx fun avs σ1 rv a1 st q1=>?_;exact jX st (hp d A σ1 s1 r avs vs Q _ L hd1 a1 rv q1)
 .refine PyProof.Rows.callWith_type h.plain (qE h L a F q fun vs s1 hpx=>?_);refine zj hpx fun avs σ1 rv a1 st q1=>?_;exact jX st (hp d A σ1 s1 r avs vs Q _ L hd1 a1 rv q1)
end
def zbx(as:List AV)(K:AV->Prop):Prop:=match as with
 | []=>False
 | x::r=>match r with
  | []=>K x
  | _::_=>False
theorem j8{as:List AV}{K:AV->Prop}(h:zbx as K):∃x,as=[x]/\K x:=by
 cases as with
 | nil=>exact h.elim
 | cons x r=>cases r with
  | nil=>exact zc x rfl h
  | cons _ _=>exact h.elim
noncomputable def zoc(U:AHeap)(x:AV):Option (List AV):=match x with
 | .tup xs=>some xs
 | x=>jh U x
theorem zod{U:AHeap}{x:AV}{xs:List AV}(h:zoc (vis U) x=some xs):x = .tup xs\/IsL U x xs:=by
 cases x with
 | tup ys=>cases h;exact .inl rfl
 | _=>exact .inr (z0 h)
def qm:zbU:=fun _ as Q U=>zbx as fun x=>zw (zoc U x) fun xs=>Q (.int xs.length) U
def kz:zbU:=fun _ as Q U=>match as with
 | []=>False
 | x::r=>zw x.int? fun a=>match r with
  | []=>Q (.rng 0 a) U
  | _::_=>zbx r fun y=>zw y.int? fun b=>Q (.rng a b) U
noncomputable def zib(lo hi:Int):List AV:=zhw lo (hi-lo).toNat
section
variable{X:Cx}
theorem kD{U:AHeap}{h:Heap}{x:AV}{vs:List Value}(r:RepVs U h [x] vs):∃v,vs=[v]/\RepV U h x v:=by
 obtain⟨_,_,rfl,a,r⟩:=RepVs.wE r;obtain rfl:=RepVs.wG r;exact zc _ rfl a
theorem zn2{U:AHeap}{h:Heap}{x y:AV}{vs:List Value}(r:RepVs U h [x,y] vs):∃v w,vs=[v,w]/\RepV U h x v/\RepV U h y w:=by
 cases r with
 | cons a r=>
  obtain⟨_,_,rfl,b,r⟩:=RepVs.wE r;obtain rfl:=RepVs.wG r;exact zP _ _ rfl a b
theorem At.isSeq{U:AHeap}{s:Shared}(a:At X U s){x:AV}{v:Value}{xs:List AV}(h:zoc (vis U) x=some xs)(r:RepV U s.heap x v) :
  ∃(b:Addr) (vs:List Value),v = .ref b/\(IsTup s.heap b vs.toArray\/s.heap.IsList b vs.toArray)/\RepVs U s.heap xs vs/\xs.length<=1000000:=by
 rcases zod h with rfl|h
 .refine zj (RepV.wH r) fun t vs e6_2 hl ht rs=>?_;subst e6_2;exact zr t vs rfl (.inl ht) rs hl
 .refine zt (a.isList h r) fun b vs e _ h1 h2 h3=>?_;exact zr b vs e (.inr h1) h2 h3
theorem zl3:jk X (.builtin "len") qm:=fun d A U s r as vs Q E L hd a rv q=>by
 refine zb (j8 q) fun x e8_1 q=>?_;subst e8_1;refine zb (zg q) fun xs hx q=>?_;refine zb (kD rv) fun v e10_1 rv1=>?_;subst e10_1;refine zj (a.isSeq hx rv1) fun b vs e11_2 ht rs hl=>?_;subst e11_2;have hlen:=rs.length;have e:(vs.toArray.size:Int)=xs.length:=by simp[hlen]
 rcases ht with ht|ht
 .refine len_tuple ht (by simp;exact zr4 hl hlen) ?_;rw[e];exact zai a (.int _ _) q
 .refine Calls.call_len_list ht (by simp;exact zr4 hl hlen) ?_;rw[e];exact zai a (.int _ _) q
theorem zij:jk X (.type "range") kz:=fun d A U s r as vs Q E L hd a rv q=>by
 cases as with
 | nil=>exact q.elim
 | cons x as=>
  refine zb (zg q) fun i hi q1=>?_;have hi:=jj hi;cases as with
  | nil=>
   refine zb (kD rv) fun v e13_1 rv1=>?_;subst e13_1;rw[hi] at rv1;obtain⟨_,rfl⟩:=RepV.wC rv1;exact call_range_1 (zr _ U (.rng (Heap.get?_push_size _ rfl)) (a.push _ _) (Step.push U s _ _) q1)
  | cons y as=>
   refine zb (j8 q1) fun y' e q2=>?_;cases e;refine zb (zg q2) fun j hj q3=>?_;have hj:=jj hj;refine zp (zn2 rv) fun v w e17_2 rv1 rw_=>?_;subst e17_2;rw[hi] at rv1;rw[hj] at rw_;obtain⟨_,rfl⟩:=RepV.wC rv1;obtain⟨_,rfl⟩:=RepV.wC rw_;exact call_range_2 (zr _ U (.rng (Heap.get?_push_size _ rfl)) (a.push _ _) (Step.push U s _ _) q3)
theorem At.grown{U:AHeap}{s:Shared}{h':Heap}(a:At X U s)(t:Nat)(hk:∀b o,s.heap.get? b=some o->h'.get? b=some o):At X U { s with heap:=h',toks:=t }:=
 ⟨fun b o e=>hk b o (a.keep b o e),fun b ao e=>(a.rep b ao e).mono (.ext hk) fun o ho=>hk b o ho,a.own,a.gens,a.os,a.ffk hk⟩
theorem Step.grown{B:Addr->Prop}(U:AHeap){s:Shared}{h':Heap}(t:Nat)(hk:∀b o,s.heap.get? b=some o->h'.get? b=some o)(hsz:s.heap.objs.size<=h'.objs.size):Step B U s U { s with heap:=h',toks:=t }:=.same (fun b o e _=>hk b o e) hsz
theorem zff{U:AHeap}{s:Shared}(a:At X U s){b:Addr}(hb:s.heap.objs.size<=b):b∉X.fr:=fun q=>by
 refine zdM (a.ff b q) fun _ o _ _ e _=>?_;exact absurd (Heap.lt_size e) (pN.mpr hb)
theorem zlE{r:Bool}{U:AHeap}{s:Shared}{h':Heap}{t:Nat}{b:Addr}{xs:List AV}{vs:List Value}{n:Nat}{Q:zm}(a:At X U s)(hk:∀b o,s.heap.get? b=some o->h'.get? b=some o)(hb:s.heap.objs.size<=b)(hn:h'.get? b=some (zR vs n))(rv:RepVs U h' xs vs)
  (hl:xs.length<=1000000)(hsz:s.heap.objs.size<=h'.objs.size)(q:mkL r xs Q (vis U)):liftQ X U s Q (.ref b) { s with heap:=h',toks:=t }:=by
 have h0:=a.none_of_size hb;have a1:=a.grown t hk;have st1:Step E0 U s U { s with heap:=h',toks:=t }:=.grown U t hk hsz;have hh0:X.h₀.get? b=none:=by
  cases h:X.h₀.get? b with
  | none=>rfl
  | some ob=>exact absurd (Heap.lt_size (a.keep _ _ h)) (pN.mpr hb)
 cases r with
 | true=>exact⟨.ref b,_,.ref _,a1.adopt (ao:=.list xs) h0 hh0 (zff a hb) fun kv=>(zP vs n hn (rv.mono kv) hl),st1.adopt h0 hb,by rw[jz rfl];exact q _ (qy h0)⟩
 | false=>exact zr (.lst xs) _ (.lst (AHeap.wA ..)) (a1.adopt (ao:=.frz xs) h0 hh0 (zff a hb) fun kv=>(zv vs (qo _ hn rfl n rfl) (rv.mono kv) hl)) (st1.adopt h0 hb) (by rw[zgO h0];exact q)
end
inductive PyT where
 | tuple|str|int|bool|list|dict
noncomputable def PyT.name:PyT->String
 | .tuple=>"tuple" | .str=>"str" | .int=>"int" | .bool=>"bool" | .list=>"list" | .dict=>"dict"
noncomputable def zbT(K:String)(T:PyT):Bool:=match T with
 | .tuple=>K=="tuple" | .str=>K=="str" | .int=>K=="int"||K=="bool" | .bool=>K=="bool" | .list=>K=="list" | .dict=>K=="dict"
noncomputable def isO(T:PyT)(o:AO):Option Bool:=match o with
 | .list _=>some (zbT "list" T)
 | .tdict _=>some (zbT "dict" T)
 | .idict _=>some (zbT "dict" T)
 | _=>none
noncomputable def isA(T:PyT)(x:AV)(U:AHeap):Option Bool:=match x with
 | .none=>some (zbT "NoneType" T)
 | .bool _=>some (zbT "bool" T)
 | .int _=>some (zbT "int" T)
 | .str _=>some (zbT "str" T)
 | .tup _=>some (zbT "tuple" T)
 | .lst _=>some (zbT "list" T)
 | .ref p=>(U p).bind (isO T)
 | _=>none
theorem zbc(T:PyT):typeOf (.type T.name)=pure (.type "type"):=by cases T<;>(unfold PyT.name;kernel_rfl)
noncomputable def kT:List String:=["int","bool","str","tuple","list","dict","NoneType"]
theorem zte{K:String}(hK:K∈kT)(T:PyT):isSubtype (.type K) (.type T.name)=pure (zbT K T):=by
 unfold kT at hK;simp only[fF,gB,or_false] at hK
 rcases hK with rfl|rfl|rfl|rfl|rfl|rfl|rfl<;>cases T<;>(rw[isSubtype_type];kernel_rfl)
theorem zvM{K:String}{T:PyT}(h:zbT K T=false):(Value.type K==Value.type T.name)=false:=by
 have:K≠T.name:=fun e=>by subst e;cases T<;>cases h
 simpa using this
def zsY(T:PyT)(x:AV)(Q:zm)(U:AHeap):Prop:=zw (isA T x U) fun b=>Q (.bool b) U
section
variable{X:Cx}{A:Around}{U:AHeap}{s:Shared}{Q:zm}{E:Value->Shared->Prop}
theorem zbL{T:PyT}{v:Value}{K:String}(hK:K∈kT)(a:At X U s)(hT:s.TypeIs v K)(q:Q (.bool (zbT K T)) (vis U))
  (no:(Value.type K==Value.type T.name)=false->isSubtype (.type K) (.type T.name)=pure false->liftQ X U s Q (.bool false) { s with toks:=s.toks+1 }->wpAny X.M A (PySem.call (.builtin "isinstance") [v,.type T.name]) (liftQ X U s Q) E s) :
  wpAny X.M A (PySem.call (.builtin "isinstance") [v,.type T.name]) (liftQ X U s Q) E s:=by
 have e:=zte hK T;cases hb:zbT K T with
 | true=>rw[hb] at e q;exact call_isinstance (isinstance_true (Tx:=K) (zbc T) e) ⟨hT,zbS a (.bool _) q⟩
 | false=>rw[hb] at e q;exact no (zvM hb) e (zai a (.bool _) q)
theorem zhB{T:PyT}{p:Addr}{vs:Array Value}(a:At X U s)(ht:s.heap.IsList p vs)(q:Q (.bool (zbT "list" T)) (vis U)):wpAny X.M A (PySem.call (.builtin "isinstance") [.ref p,.type T.name]) (liftQ X U s Q) E s:=
 zbL (by decide) a ht.typeIs q fun h1 h2 fin=>call_isinstance (isinstance_false_list h1 (zbc T) h2) ⟨ht.typeIs,fin⟩
theorem zhA{T:PyT}{p:Addr}(a:At X U s)(ht:s.TypeIs (.ref p) "dict")(q:Q (.bool (zbT "dict" T)) (vis U)):wpAny X.M A (PySem.call (.builtin "isinstance") [.ref p,.type T.name]) (liftQ X U s Q) E s:=
 zbL (by decide) a ht q fun h1 h2 fin=>call_isinstance (isinstance_false_dict h1 (zbc T) h2) ⟨ht,fin⟩
theorem zo7{T:PyT}{p:Addr}{o:AO}(a:At X U s)(ho:U p=some o)(q:zw (isO T o) fun b=>Q (.bool b) (vis U)):wpAny X.M A (PySem.call (.builtin "isinstance") [.ref p,.type T.name]) (liftQ X U s Q) E s:=by
 cases o with
 | list xs=>refine zb (a.isList0 (.inl ho)) fun vs ht _=>?_;exact zhB a ht q
 | tdict kvs=>refine zb (a.tab ho) fun xs hD _=>?_;exact zhA a hD.typeIs q
 | idict fs=>refine zb (a.rep _ _ ho) fun kvs hD _=>?_;exact zhA a hD.mapOf.typeIs q
 | _=>exact q.elim
theorem zlg{T:PyT}{x:AV}{v:Value}(a:At X U s)(rx:RepV U s.heap x v)(q:zsY T x Q (vis U)):wpAny X.M A (PySem.call (.builtin "isinstance") [v,.type T.name]) (liftQ X U s Q) E s:=by
 cases rx with
 | none=>exact zbL (K:="NoneType") (by decide) a rfl q fun h1 h2 fin=>call_isinstance (isinstance_false_none h1 (zbc T) h2) fin
 | bool c=>exact zbL (K:="bool") (by decide) a rfl q fun h1 h2 fin=>call_isinstance (isinstance_false_bool h1 (zbc T) h2) fin
 | int c t=>exact zbL (K:="int") (by decide) a rfl q fun h1 h2 fin=>call_isinstance (isinstance_false_int h1 (zbc T) h2) fin
 | str c t=>exact zbL (K:="str") (by decide) a rfl q fun h1 h2 fin=>call_isinstance (isinstance_false_str h1 (zbc T) h2) fin
 | tup hl ht rs=>exact zbL (K:="tuple") (by decide) a ht.typeIs q fun h1 h2 fin=>call_isinstance (isinstance_false_tuple h1 (zbc T) h2) ⟨ht.typeIs,fin⟩
 | lst hp=>refine zb (a.isList0 (.inr hp)) fun vs ht _=>?_;exact zhB a ht q
 | ref p=>
  refine zb (zg q) fun b hb q=>?_;refine zb (fAA.mp hb) fun o ho hb=>?_;exact zo7 a (zK ho).1 (ze hb q)
 | rng _=>exact q.elim
 | exc _=>exact q.elim
end
namespace A
def zvw(T:PyT)(Q:zm):zm:=fun a σ1=>zsY T a Q σ1
def isa(T:PyT)(x:AE):AE:=fun d l Q Z U=>x d l (zvw T Q) Z U
end A
section
variable{X:Cx}{env:Env}{nm:List (Str×Nat)}
theorem zl2{T:PyT}{Tn:Str}{e:Expr}{m:AE}{gp tp pos:Pos}(XO:X.Ok)(EO:EnvOk env)(hx:env.kindOf "isinstance" = some .globalImplicit)(hn:X.mg "isinstance" = none)(hv:X.mb "isinstance" = some (.builtin "isinstance"))
  (hxT:env.kindOf Tn=some .globalImplicit)(hd:(Tn==("__debug__" : Str))=false)(hnT:X.mg Tn=none)(hvT:X.mb Tn=some (.type T.name))(hs:jE e=true)(h:zh X env nm e m) :
  zh X env nm (.Call (.Name "isinstance" gp) [e,.Name Tn tp] [] pos) (A.isa T m):=fun d A l U s Q Z L a F q=>by
 refine Call_ (qf XO EO a hx (by decide) hn hv ?_);refine Calls.callWith_builtin ?_ ?_
 .rw[zU hs];rfl
 rw[zU hs];refine Calls.evalArgs_plain ?_;show wpAny X.M A (spliced ((false,eval e env)::backTo pos (starEach [.Name Tn tp] env))) _ _ s;refine Calls.spliced_cons (zak (h d A l U s _ Z L a F q) fun av v σ1 s1 rv a1 st1 q1=>?_);show wpAny X.M A (spliced ((false,eval (.Name Tn tp) env)::[])) _ _ s1;refine Calls.spliced_cons (qf XO EO a1 hxT hd hnT hvT (Calls.spliced_nil ?_));exact jX st1 (zlg a1 rv q1)
end
section
variable{X:Cx}{env:Env}{nm:List (Str×Nat)}{B:Addr->Prop}
inductive Names(B:Addr->Prop)(env:Env)(nm:List (Str×Nat)):List Expr->List Nat->Prop
 | nil:Names B env nm [] []
 | cons {x pos es i is}:nm.lookup x=some i->Sto B env x->Names B env nm es is->Names B env nm (.Name x pos::es) (i::is)
theorem Names.length{es is}(h:Names B env nm es is):es.length=is.length:=by
 induction h with
 | nil=>rfl
 | cons _ _ r ih=>rw[fH,fH,ih]
theorem zaN(x:Str)(pos:Pos)(es:List Expr):assignEach (.Name x pos::es) env=(false,assign (.Name x pos) env)::assignEach es env:=rfl
theorem zbW{es is}(h:Names B env nm es is):(assignEach es env).length=es.length/\(assignEach es env).findIdx? (·.1)=none:=by
 induction h with
 | nil=>exact⟨rfl,rfl⟩
 | @cons x pos es i is _ _ r ih=>
  rw[zaN];refine⟨by rw[fH,fH,ih.1],?_⟩;rw[List.findIdx?_cons];simp[ih.2]
theorem zdn(EO:EnvOk env)(hB:∀b,B b->FB env b){es is}(N0:Names B env nm es is):∀{A:Around} {l:Loc} {U:AHeap} {s:Shared} {xs:List AV} {vs:List Value} {Q:Unit->Shared->Prop} {E:Value->Shared->Prop},At X U s->FR X env nm l U s.heap->RepVs U s.heap xs vs->
  (∀s',FR X env nm (zpx is xs l) U s'.heap->At X U s'->Step B U s U s'->Q () s')->wpAny X.M A (assignInOrder ((assignEach es env).map (·.2)) vs) Q E s:=by
 induction N0 with
 | nil=>
  intro A l U s xs vs Q E a F r h;have:assignInOrder ([]:List (Value->Sem Unit)) vs=pure ():=by cases vs<;>rfl
  show wpAny X.M A (assignInOrder [] vs) Q E s;exact Gb (h s (by cases xs<;>exact F) a (.refl ..))
 | @cons x pos es i is hx hk nr ih=>
  intro A l U s xs vs Q E a F r h;rw[zaN];cases r with
  | nil=>exact Gb (h s F a (.refl ..))
  | @cons y ys v ws ry rs=>
   refine Ga (Ge (wpAny_assign_Name (zfI EO F a hx hk ry fun s1 F1 a1 st1=>?_)));have no:NoStay B s.heap:=fun b o hb e=>F.noStay b o (hB b hb) e;refine ih a1 F1 (rs.mono (st1.keepV a no)) fun s2 F2 a2 st2=>h s2 F2 a2 (st1.trans st2)
theorem zif{es:List Expr}{is:List Nat}{k:Nat}{pos:Pos}(EO:EnvOk env)(hB:∀b,B b->FB env b)(N:Names B env nm es is):zaR B X env nm (.Tuple es k pos) (.many is):=fun d A l l' U s x v Q E L hd a F r hb h=>by
 cases x with
 | tup xs=>
  have hb:(if xs.length=is.length then some (zpx is xs l) else none)=some l':=hb
  by_cases hlen:xs.length=is.length
  .rw[if_pos hlen] at hb;obtain rfl:=G4 hb;refine zj (RepV.wH r) fun t vs e0_2 hl ht rs=>?_;subst e0_2;have e:=zbW N;have hvl:=rs.length;refine Ga (Gm ?_);unfold unpack;have en:(assignEach es env).length=vs.toArray.size:=by rw[e.1,N.length,<-hlen,hvl];simp
   rw[e.2,en];refine Ga (Ge (zW (wpAny_unpackItems_tuple (L.handled hd) ht fun h' he' hsz=>?_)));have hk:∀b o,s.heap.get? b=some o->h'.get? b=some o:=fun b o eo=>he' b o (fAM (Heap.lt_size eo)) eo;have a1:At X U { s with heap:=h' }:=a.grown s.toks hk;have st1:Step E0 U s U { s with heap:=h' }:=.grown U s.toks hk hsz;have rs1:=rs.mono (st1.keepV0 a);have:vs.toArray.toList=vs:=rfl;exact zdn EO hB N a1 (F.step a st1) rs1 fun s2 F2 a2 st2=>h s2 F2 a2 ((st1.weaken fun b hb=>hb.elim).trans st2)
  .rw[if_neg hlen] at hb;exact absurd (Eq.symm hb) (fJ _)
 | _=>cases hb
end
noncomputable def zex(lo hi:Int):Bool:=Nat.blt lo.natAbs 1000000000000&&Nat.blt hi.natAbs 1000000000000
theorem nab{i:Int}{c:Nat}(h:i.natAbs<c) : -(c:Int)<i/\i<c:=
 ⟨Int.neg_lt_of_neg_lt (fA9 (Int.natAbs_neg i▸Int.le_natAbs) (fBA.mpr h)),fA9 Int.le_natAbs (fBA.mpr h)⟩
theorem zn3{lo hi:Int}(h:zex lo hi=true) : -1000000000000<lo/\lo<1000000000000/\-1000000000000<hi/\hi<1000000000000:=
 qc (gA.mp h) fun h1 h2=>⟨(nab (gT h1)).1,(nab (gT h1)).2,nab (gT h2)⟩
def znm(v:AV)(U:AHeap)(K:(AHeap->Prop)->List AV->Prop):Prop:=match v with
 | .tup xs=>K (fun _=>True) xs
 | .rng lo hi=>onB (zex lo hi) (K (fun _=>True) (zib lo hi))
 | x=>zw (jh U x) fun xs=>K (zd3 x xs) xs
structure IterAt(X:Cx)(A:Around)(target:Expr)(U:AHeap)(s:Shared)(K:(AHeap->Prop)->List AV->Prop)(it:Value)(s':Shared):Prop where
 ex:∃I xs W St,ItOk X A target it I xs W St/\St 0 U s'.heap/\(∀b,W b->U b=none/\X.h₀.get? b=none/\s.heap.objs.size<=b)/\I (vis U)/\K I xs
 at_:At X U s'
 step:Step E0 U s U s'
section
variable{X:Cx}{A:Around}{U:AHeap}{s:Shared}{E:Value->Shared->Prop}{d:Dp}{target:Expr}
theorem qu(a:At X U s){b:Nat}(hb:s.heap.objs.size<=b):U b=none/\X.h₀.get? b=none/\s.heap.objs.size<=b:=(zq (a.none_of_size hb) (by
 cases h:X.h₀.get? b with
 | none=>rfl
 | some ob=>exact absurd (Heap.lt_size (a.keep _ _ h)) (pN.mpr hb)) hb)
theorem zd4{v:AV}{u:Value}{xs:List AV}(a:At X U s)(hx:jh (vis U) v=some xs)(r:RepV U s.heap v u):∃(p:Addr) (vs:List Value),u = .ref p/\s.heap.IsList p vs.toArray/\RepVs U s.heap xs vs/\zd3 v xs (vis U)/\stL v p xs U:=by
 refine zt (a.isList (z0 hx) r) fun p vs e1_2 ho hl rs _=>?_;subst e1_2;refine jr p vs rfl hl rs ?_ ?_
 .cases z0 hx with
  | ref h=>exact h
  | lst=>trivial
 .cases r with
  | ref a=>exact rfl
  | lst h=>cases z0 hx;exact h
  | tup _ _ _=>cases hx
  | rng _=>cases hx
  | exc _=>cases hx
theorem zjd{v:AV}{u:Value}{K:(AHeap->Prop)->List AV->Prop}(hh:A.handled=none)(a:At X U s)(r:RepV U s.heap v u)(h:znm v (vis U) K):wpAny X.M A (pyIter u) (IterAt X A target U s K) E s:=by
 have lists:(zw (jh (vis U) v) fun xs=>K (zd3 v xs) xs)->wpAny X.M A (pyIter u) (IterAt X A target U s K) E s:=fun h=>by
  refine zb (zg h) fun xs hx k=>?_;refine zt (zd4 a hx r) fun p vs e3_2 hl rs k1 k2=>?_;subst e3_2;exact wpAny_pyIter_list hl ⟨(qh _ xs _ _ (zli hh s.heap.objs.size p v xs) ⟨(zv _ (Heap.get?_push_size _ rfl) rfl rfl),k2⟩ (fun b hb=>by subst hb;exact qu a (fM _)) k1 k),a.push _ s.toks,Step.push U s _ s.toks⟩
 cases v with
 | tup xs=>
  refine zj (RepV.wH r) fun t vs e4_2 hl ht rs=>?_;subst e4_2;exact wpAny_pyIter_tuple ht ⟨(qh _ _ _ _ (zjc hh s.heap.objs.size t _) (zax (zv _ (Heap.get?_push_size _ rfl) rfl rfl) vs ((KeepV.push _).tup (U:=U) ht) (rs.mono (.push _))) (fun b hb=>by subst hb;exact qu a (fM _)) trivial h),a.push _ s.toks,Step.push U s _ s.toks⟩
 | rng lo hi=>
  cases r with
  | @rng _ _ t x y z ho=>
   obtain⟨hb,k⟩:=qP h;refine zx (zn3 hb) fun h1 h2 h3 h4=>?_;have hsz:Builtin.Range.rangeSize lo hi 1=(((hi-lo).toNat:Nat):Int):=by
    rw[rangeSize_one];split<;>(first|exact y57 (by assumption)|exact y61 (by assumption))
   have fl:∀z:Int,-1000000000000000<z->z<1000000000000000->Builtin.Range.rangeFitsLong z=true:=fun z hz1 hz2=>by
    unfold Builtin.Range.rangeFitsLong;simp only[gW,decide_eq_true_eq];constructor<;>lia
   have hsmall:Builtin.Range.small lo hi 1=true:=by
    unfold Builtin.Range.small;rw[hsz,fl lo (by exact y12 h1) (y34 h2),fl hi (y12 h3) (y34 h4),fl 1 y0 y2,fl _ y65 (y47 h1 h4)];simp only[Bool.true_and,fCD];have:(1:Int)>0:=y3;simp only[this,if_true];rw[show hi+(1-1)=hi by exact y43,fl hi (by exact y12 h3) (by exact y34 h4)];simp
   refine wpAny_pyIter_range (t:=x) (u:=y) (v:=z) ho hsmall ?_;refine⟨(qh _ (zib lo hi) _ _ (zjb hh s.heap.objs.size lo (hi-lo).toNat) ?_ (fun b hb=>by subst hb;exact qu a (fM _)) trivial k),a.push _ s.toks,Step.push U s _ s.toks⟩;show (s.heap.push _).get? s.heap.objs.size=some _;rw[Heap.get?_push_size _ rfl,hsz];simp[rawInt]
 | none=>exact lists h
 | bool _=>exact lists h
 | int _=>exact lists h
 | str _=>exact lists h
 | lst _=>exact lists h
 | ref _=>exact lists h
 | exc _=>exact lists h
end
noncomputable def zem(e:Expr):Bool:=!Nat.beq e.ctorIdx 7
theorem zas{e:Expr}{env:Env}(h:zem e=true)(x:Value):foldedSetIterable e env x=pure x:=by
 cases e<;>first|rfl|exact nob h
abbrev AI:=Dp->Loc->(AHeap->(AHeap->Prop)->List AV->Prop)->XP->AHeap->Prop
namespace A
def kIt(K:AHeap->(AHeap->Prop)->List AV->Prop):zm:=fun v σ1=>znm v σ1 (K σ1)
def zvx(K:AHeap->(AHeap->Prop)->List AV->Prop):zm:=fun v σ1=>zw (jh σ1 v) fun xs=>K σ1 (zd3 v xs) (zb4 0 xs)
def kFr(t:Tgt)(b:AS)(d:Dp)(l:Loc)(Q:jt)(σ1:AHeap)(I:AHeap->Prop)(xs:List AV):Prop:=zhm I t b d Q xs l σ1
def zvy(r:Bool)(Q:zm):List AV->AHeap->Prop:=fun acc U'=>mkL r acc Q U'
def kLc(r:Bool)(t:Tgt)(k:Nat)(c:Option AE)(e:AE)(d:Dp)(l:Loc)(Q:zm)(σ1:AHeap)(I:AHeap->Prop)(xs:List AV):Prop:=zaZ I t c e d (zvy r Q) xs [] (l++List.replicate k none) σ1
def itP(m:AE):AI:=fun d l K Z U=>w1 d (m d l (kIt K) Z U)
def itE(m:AE):AI:=fun d l K Z U=>w1 d (m d l (zvx K) Z U)
def fr(m:AI)(t:Tgt)(b:AS):AS:=fun d l Q Z U=>m d l (kFr t b d l Q) (kZ Z l) U
def lc(r:Bool)(m:AI)(t:Tgt)(k:Nat)(c:Option AE)(e:AE):AE:=fun d l Q Z U=>m d l (kLc r t k c e d l Q) Z U
end A
section
variable{X:Cx}{env:Env}{nm:List (Str×Nat)}
def zcH(X:Cx)(env:Env)(nm:List (Str×Nat))(target iter:Expr)(m:AI):Prop:=
 ∀d A l U s K Z (R:Value->Shared->Prop) E,Live X d A->At X U s->FR X env nm l U s.heap->m d l K Z (vis U)->(∀e s',liftX X U s Z e s'->E e s')->(d.hd=false->
  ∀σ1 s1 it s2,At X σ1 s1->Step E0 U s σ1 s1->IterAt X A target σ1 s1 (K (vis σ1)) it s2->R it s2)->
  wpAny X.M A (eval iter env) (fun x s1=>wpAny X.M A (pyIter x) R E s1) E s
theorem zgH{target iter:Expr}{m:AE}(h:zh X env nm iter m):zcH X env nm target iter (A.itP m):=fun d A l U s K Z R E L a F q hE hR=>by
 obtain⟨hd,q⟩:=zaE q;refine Gc (h d A l U s _ Z L a F q) (fun x s1 hx=>?_) fun e s' x=>hE e s' x;refine zj hx fun av σ1 rv a1 st1 q1=>?_;exact Gc (zjd (target:=target) (L.handled hd) a1 rv q1) (fun it s2 x=>hR hd σ1 s1 it s2 a1 st1 x) fun _ _ (e:False)=>e.elim
theorem zie{elts:List Expr}{x1:Nat}{tp gp pos:Pos}{e:Expr}{m:AE}(XO:X.Ok)(EO:EnvOk env)(hx:env.kindOf "enumerate" = some .globalImplicit)(hn:X.mg "enumerate" = none)(hv:X.mb "enumerate" = some (.type "enumerate"))(hs:jE e=true)(h:zh X env nm e m) :
  zcH X env nm (.Tuple elts x1 tp) (.Call (.Name "enumerate" gp) [e] [] pos) (A.itE m):=fun d A l U s K Z R E L a F q hE hR=>by
 obtain⟨hd,q⟩:=zaE q;refine Call_ (qf XO EO a hx (by decide) hn hv ?_);refine PyProof.Rows.callWith_type ?_ ?_
 .rw[zU hs];rfl
 rw[zU hs];refine Calls.evalArgs_plain ?_;show wpAny X.M A (spliced ((false,eval e env)::[])) _ _ s;refine Calls.spliced_cons (Gc (h d A l U s _ Z L a F q) (fun v s1 hpx=>Calls.spliced_nil ?_) fun e s' x=>hE e s' x);refine zj hpx fun av σ1 rv a1 st1 q1=>?_;refine zb (zg q1) fun xs hx1 q2=>?_;refine zt (zd4 a1 hx1 rv) fun p vs e12_2 hl rs k1 k2=>?_;subst e12_2;refine zW (call_enumerate_list hl fun h' he hit hsz hk hsz'=>?_);have a2:At X σ1 { s1 with heap:=h' }:=a1.grown s1.toks hk;have st2:Step E0 σ1 s1 σ1 { s1 with heap:=h' }:=.grown σ1 s1.toks hk hsz';refine wpAny_pyIter_enum he ?_;refine hR hd σ1 s1 _ _ a1 st1 ⟨(qh _ _ _ _ (zlh (L.handled hd) (s1.heap.objs.size+1) s1.heap.objs.size p (neA zwT) av xs) (kq hit k2 _ he) (fun b hb=>?_) k1 q2),a2,st2⟩
 rcases hb with rfl|rfl
 .exact qu a1 (fBW _)
 .exact qu a1 (fM _)
theorem zlZ{target iter:Expr}{body:List Stmt}{pos:Pos}{t:Tgt}{b:AS}{m:AI}(hn:zem iter=true)(hi:zcH X env nm target iter m)(ht:zaR (FB env) X env nm target t)(hb:j6 X env nm body b) :
  jl X env nm (.For target iter body [] pos) (A.fr m t b):=fun d A l U s Q Z L a F q=>by
 refine wpAny_For (hi d A l U s _ _ _ _ L a F q (fun e s' x=>x.toS a F) fun hd σ1 s1 it s2 a1 st1 IA=>?_) (zas hn);refine zV IA.ex fun I xs W St IT hSt hW hI q1=>?_;have F2:=(F.step a st1).step a1 IA.step;refine zm3 (U:=σ1) (Q:=Q) L hd IT ht hb (fun b hb=>⟨(hW b hb).1,(hW b hb).2.1⟩) IA.at_ F2 hI hSt q1 fun f s' hpx=>?_;refine qd hpx fun fl l' U' r a' F' st' q'=>?_;refine zM fl l' U' r a' F' ?_ q';have st12:Step (fun b=>FB env b\/W b) σ1 s1 σ1 s2:=IA.step.weaken fun b hb=>hb.elim;have:=(st12.trans st').drop (B:=FB env) fun b hb=>hb.imp id fun hb=>(hW b hb).2.2;exact(st1.weaken FB.wP).trans this
structure SoundLC(X:Cx)(env:Env)(nm:List (Str×Nat))(N:Nat)(elt target iter:Expr)(ifs:List Expr)(scope:Scope)(nm':List (Str×Nat))(k:Nat)(t:Tgt)(c:Option AE)(e:AE)(m:AI):Prop where
 ns:zem iter=true
 ck:CompOk env.scope.names nm N scope.names nm' k
 kind:scope.kind = .function
 iter:zcH X env nm target iter m
 tgt:∀C,zaR (fun b=>b=C) X (compEnvC scope (clo env.cells scope.names []) C env) nm' target t
 test:∀C,zfK X (compEnvC scope (clo env.cells scope.names []) C env) nm' ifs c
 elt:∀C,zh X (compEnvC scope (clo env.cells scope.names []) C env) nm' elt e
theorem zdi{sc:List (Str×NameKind)}{N:Nat}{names:List (Str×NameKind)}{nm':List (Str×Nat)}{k:Nat}(CK:CompOk sc nm N names nm' k):∀x∈names,x.2 = .local->names.lookup x.1=some .local:=fun x hx h=>by
 have:=j9 CK.nodup (n:=x.1) (c:=x.2) hx;rw[h] at this;exact this
theorem zor{r:Bool}{B:Addr->Prop}{U U':AHeap}{s s':Shared}{D:Addr}{acc:List AV}{ys:List Value}{n:Nat}{Q:zm}(hDo:s'.heap.get? D=some (zR ys n))(rys:RepVs U' s'.heap acc ys)(hacc:acc.length<=1000000)(a:At X U' s')(st:Step B U s U' s')(hσ:U' D=none)(h0:X.h₀.get? D=none)(hfr:D∉X.fr)(hD:s.heap.objs.size<=D)(q:mkL r acc Q (vis U')) :
  ∃av ao,RepV (U'.set D ao) s'.heap av (.ref D)/\At X (U'.set D ao) s'/\Step B U s (U'.set D ao) s'/\Q av (vis (U'.set D ao)):=by
 cases r with
 | true=>exact⟨.ref D,.list acc,.ref D,a.adopt hσ h0 hfr fun kv=>(zP ys n hDo (rys.mono kv) hacc),st.adopt hσ hD,by rw[jz rfl];exact q D (qy hσ)⟩
 | false=>exact zr (.lst acc) (.frz acc) (.lst (AHeap.wA ..)) (a.adopt hσ h0 hfr fun kv=>(zv ys (qo _ hDo rfl n rfl) (rys.mono kv) hacc)) (st.adopt hσ hD) (by rw[zgO hσ];exact q)
theorem zeH{r:Bool}{elt target iter:Expr}{ifs:List Expr}{scope:Scope}{pos:Pos}{nm':List (Str×Nat)}{N k:Nat}{t:Tgt}{c:Option AE}{e:AE}{m:AI}
  (EO:EnvOk env)(hN:kI nm=N)(S:SoundLC X env nm N elt target iter ifs scope nm' k t c e m) :
  zh X env nm (.ListComp elt [⟨target,iter,ifs,0⟩] scope pos) (A.lc r m t k c e):=fun d A l U s Q Z L a F q=>by
 refine wpAny_comprehension_free (use:=none) rfl (zas S.ns) (zaY (S.ck.closure F)) S.kind (zdi S.ck) ?_;refine S.iter d A l U s _ Z _ _ L a F q (fun e s' x=>x) fun hd σ1 s1 it s2 a1 st1 IA=>?_;refine zV IA.ex fun I xs W St IT hSt hW hI q1=>?_;have F2:=(F.step a st1).step a1 IA.step;refine zfa (RR:=fun acc C=>compPost X.M A (liftX X U s Z) none (liftQ X U s Q) acc C) EO L hd IA.at_ F2 (F.len.trans hN) S.ck S.kind IT hSt (fun b hb=>⟨(hW b hb).1,(hW b hb).2.1⟩) hI S.tgt S.test S.elt q1 ?_;intro D C s' U' acc mC hfr hD hC hDC hσD hσC hns hDo a3 st3 q3;refine zc mC hns (fun h' hs'=>?_);refine zp hDo fun ys n hDo rys hacc=>?_;have hC0:X.h₀.get? C=none:=(qu IA.at_ hC).2.1;have hD0:X.h₀.get? D=none:=(qu IA.at_ hD).2.1;have hCfr:C∉X.fr:=zff IA.at_ hC;have kv:KeepV U' s'.heap U' h':=.mk' fun b o e st=>(hs'.2 b (by rintro rfl;exact zag hns o e st)).trans e;have a4:At X U' { s' with heap:=h' }:=a3.aside (t:=s'.toks) (h':=h') hσC hC0 (zag hns) (fun q=>absurd q hCfr) hs';have hDo':h'.get? D=some (zR ys n):=(hs'.2 D hDC).trans hDo;have st4:Step (fun b=>W b\/s1.heap.objs.size<=b) σ1 s1 U' { s' with heap:=h' }:=by
  have x1:Step (fun b=>W b\/s1.heap.objs.size<=b) σ1 s1 σ1 s2:=IA.step.weaken fun b hb=>hb.elim;have x2:Step (fun b=>W b\/s1.heap.objs.size<=b) σ1 s2 U' s':=st3.weaken fun b hb=>.inl hb;have x3:Step (fun b=>W b\/s1.heap.objs.size<=b) U' s' U' { s' with heap:=h' }:=Step.aside (t:=s'.toks) (h':=h') (.inr (fN IA.step.size hC)) hs';exact x1.trans (x2.trans x3)
 have st5:Step E0 U s U' { s' with heap:=h' }:=st1.trans (st4.drop fun b hb=>.inr (hb.elim (fun hb=>(hW b hb).2.2) id));have hDs:s.heap.objs.size<=D:=fN st1.size (fN IA.step.size hD);refine zj (zor hDo' (rys.mono kv) hacc a4 st5 hσD hD0 hfr hDs q3) fun av ao h1 h2 h3 h4=>?_;exact zr av _ h1 h2 h3 h4
end
section
variable{X:Cx}{env:Env}{nm:List (Str×Nat)}
theorem FB.lt{l:Loc}{U:AHeap}{s:Shared}(F:FR X env nm l U s.heap){b:Nat}(h:FB env b):b<s.heap.objs.size:=by
 rcases h with h|⟨x,hx⟩
 .refine zb F.ns fun m hn _=>?_;rw[h];exact hn.lt
 .refine qN (F.outc x b hx) fun _ _ v hc=>?_;exact hc.lt
theorem ze0{r:Bool}{elt target iter:Expr}{ifs:List Expr}{scope:Scope}{cpos py pos:Pos}{y:Str}{i:Nat}{nm':List (Str×Nat)}{N k:Nat}{t:Tgt}{c:Option AE}{e:AE}{m:AI}
  (EO:EnvOk env)(hN:kI nm=N)(S:SoundLC X env nm N elt target iter ifs scope nm' k t c e m)(hy:nm.lookup y=some i)(hky:env.kindOf y=some .local\/env.kindOf y=some .cell) :
  jl X env nm (.Assign [.Name y py] (.ListComp elt [⟨target,iter,ifs,0⟩] scope cpos) pos) (A.set i (A.lc r m t k c e)):=by
 have hsw:swapsWith (.ListComp elt [⟨target,iter,ifs,0⟩] scope cpos) (some (.Name y py)) pos.line env=pure (env.blockKind==.function&&env.kindOf y==some .local&&py.line==cpos.line&&!(scope.names.any fun (n,k)=>n==y&&(k==.local||k==.cell))):=rfl;cases hb:(env.blockKind==.function&&env.kindOf y==some .local&&py.line==cpos.line&&!(scope.names.any fun (n,k)=>n==y&&(k==.local||k==.cell))) with
 | false=>rw[hb] at hsw;exact zfF EO (zeH EO hN S) hy hky hsw
 | true=>
  rw[hb] at hsw;intro d A l U s Q Z L a F q;rw[exec_Assign_Name_used _ _ _ _ hsw];refine Ga (Gm (Ga ?_));refine Ga (Gc (wpAny_comprehension_free (use:=some (assign (.Name y py) env)) (Q:=fun _ s'=>liftS X env nm U s Q .next s') rfl (zas S.ns) (zaY (S.ck.closure F)) S.kind (zdi S.ck) ?_) (fun _ s' hq=>Gb (Gb hq)) fun _ _ e=>e);refine S.iter d A l U s _ _ _ _ L a F q (fun e s' x=>x.toS a F) fun hd σ1 s1 it s2 a1 st1 IA=>?_;refine zV IA.ex fun I xs W St IT hSt hW hI q1=>?_;have F1:=F.step a st1;have F2:=F1.step a1 IA.step;refine zfa (RR:=fun acc C=>compPost X.M A (liftSX X env nm U s Z) (some (assign (.Name y py) env)) (fun _ s'=>liftS X env nm U s Q .next s') acc C) EO L hd IA.at_ F2 (F.len.trans hN) S.ck S.kind IT hSt (fun b hb=>⟨(hW b hb).1,(hW b hb).2.1⟩) hI S.tgt S.test S.elt q1 ?_;intro D C s' U' acc mC hfr hD hC hDC hσD hσC hns hDo a3 st3 q3;have hC0:X.h₀.get? C=none:=(qu IA.at_ hC).2.1;have hD0:X.h₀.get? D=none:=(qu IA.at_ hD).2.1;have hCfr:C∉X.fr:=zff IA.at_ hC;refine zp hDo fun ys n hDo rys hacc=>?_;refine zj (zor hDo rys hacc a3 st3 hσD hD0 hfr hD q3) fun av ao r1 a3 st3 q3=>?_;have hCσ:(U'.set D ao) C=none:=by rw[AHeap.wB _ _ (Ne.symm hDC)];exact hσC
  generalize U'.set D ao=σ3 at r1 a3 st3 q3 hCσ;have noW:NoStay W s2.heap:=fun b o hb e=>by refine zk (IT.there 0 _ _ b hSt hb) fun o' e' h' _=>?_;rw[e] at e';obtain rfl:=G4 e';exact h'
  have dis:∀b,FB env b->¬W b:=fun b hb hw=>absurd (FB.lt F1 hb) (pN.mpr (hW b hw).2.2);have F3:=F2.stepB IA.at_ st3 dis noW;refine wpAny_assign_Name (zeK EO F3 a3 hy hky r1 fun s4 F4 a4 st4=>?_);have hCF:¬FB env C:=fun hb=>absurd (FB.lt F2 hb) (pN.mpr hC);refine jm (id hns) fun oC es ep hoC hdC hr=>?_;obtain⟨sl,hoC4⟩:=st4.keepD C oC hoC hCσ hCF;refine zc mC (kr _ es ep hoC4 hdC hr) (fun h' hs'=>?_);have nC:∀o,s4.heap.get? C=some o->¬qI o:=fun o ho=>by rw[hoC4] at ho;obtain rfl:=G4 ho;exact zbd hdC
  have a5:At X σ3 { s4 with heap:=h' }:=a4.aside (t:=s4.toks) (h':=h') hCσ hC0 nC (fun q=>absurd q hCfr) hs';have st5:Step (fun b=>b=C) σ3 s4 σ3 { s4 with heap:=h' }:=Step.aside (t:=s4.toks) (h':=h') rfl hs';have F5:=F4.stepB a4 st5 (fun b hb e=>hCF (e▸hb)) (fun b o hb e=>by subst hb;exact nC o e);have stA:Step (fun b=>FB env b\/s1.heap.objs.size<=b) σ1 s1 σ3 { s4 with heap:=h' }:=by
   have x1:Step (fun b=>FB env b\/s1.heap.objs.size<=b) σ1 s1 σ1 s2:=IA.step.weaken fun b hb=>hb.elim;have x2:Step (fun b=>FB env b\/s1.heap.objs.size<=b) σ1 s2 σ3 s':=st3.weaken fun b hb=>.inr (hW b hb).2.2;have x3:Step (fun b=>FB env b\/s1.heap.objs.size<=b) σ3 s' σ3 s4:=st4.weaken fun b hb=>.inl hb;have x4:Step (fun b=>FB env b\/s1.heap.objs.size<=b) σ3 s4 σ3 { s4 with heap:=h' }:=st5.weaken fun b hb=>.inr (by rw[hb];exact fN IA.step.size hC);exact x1.trans (x2.trans (x3.trans x4))
  exact zM .next _ _ trivial a5 F5 ((st1.weaken FB.wP).trans (stA.drop fun b hb=>hb)) q3
end
section
open PySem.MeetsSeq
abbrev zby:=List AV->List AV->(AV->List AV->Prop)->Prop
def qX(X:Cx)(id:String)(m:zby):Prop:=
 ∀d A U s p xs as vs (Q:zm) E,Live X d A->At X U s->RepVs U s.heap as vs->U p=some (.list xs)->m xs as (fun v ys=>Q v ((vis U).set p (.list ys)))->wpAny X.M A (PySem.call (.builtin id) (.ref p::vs)) (liftQ X U s Q) E s
def znU(v:AV)(K:Addr->Prop):Prop:=match v with
 | .ref p=>K p
 | _=>False
theorem zh3{v:AV}{K:Addr->Prop}(h:znU v K):∃p,v = .ref p/\K p:=by
 cases v with
 | ref p=>exact⟨p,rfl,h⟩
 | _=>exact h.elim
def zen(U:AHeap)(p:Addr)(K:List AV->Prop):Prop:=zw ((U p).bind AO.w8) K
theorem zo{U:AHeap}{p:Addr}{xs:List AV}{K:List AV->Prop}(h:U p=some (.list xs))(q:K xs):zen U p K:=by unfold zen;rw[h];exact q
theorem zfv{U:AHeap}{p:Addr}{K:List AV->Prop}(h:zen U p K):∃xs,U p=some (.list xs)/\K xs:=by
 refine zb (zg h) fun xs h1 q=>?_;refine zb (fAA.mp h1) fun o h2 h3=>?_;cases o with
 | list ys=>cases h3;exact⟨_,h2,q⟩
 | _=>cases h3
namespace A
def w0(p:Addr)(Q:zm)(σ2:AHeap)(v:AV)(ys:List AV):Prop:=Q v (σ2.set p (.list ys))
def zqU(m:zby)(p:Addr)(Q:zm):List AV->AHeap->Prop:=fun as σ2=>zen σ2 p fun xs=>m xs as (w0 p Q σ2)
def zsQ(m:zby)(args:List AE)(d:Dp)(l:Loc)(Q:zm)(Z:XP):zm:=fun r σ1=>znU r fun p=>zen σ1 p fun _=>zbB args d l (zqU m p Q) Z σ1
def meth(m:zby)(x:AE)(args:List AE):AE:=fun d l Q Z U=>x d l (zsQ m args d l Q Z) Z U
def kEx(l:Loc)(S:jt):zm:=fun _ U'=>S .next l U'
def ex(x:AE):AS:=fun d l S SZ U=>x d l (kEx l S) (kZ SZ l) U
end A
section
variable{X:Cx}{env:Env}{nm:List (Str×Nat)}
theorem zjT{o:Expr}{name:Str}{id:String}{x:AE}{es:List Expr}{ms:List AE}{m:zby}{apos pos:Pos}(slot:Slot "list" name id)(hty:typeOf (.builtin id)=pure (.type "method_descriptor"))(hm:qX X id m)
  (hb:∀e,attributeBase o name e (eval o e)=eval o e)(hl:(apos.endLine==pos.line)=true)(hn:decide (es.length<30)=true)(hx:zh X env nm o x)(h:SoundEs X env nm es ms) :
  zh X env nm (.Call (.Attribute o name apos) es [] pos) (A.meth m x ms):=fun d A l U s Q Z L a F q=>by
 refine wpAny_Call_method (hb env) ?_ hl PySem.F.plainAttrs_list slot hty ?_
 .have h1:(backTo pos (starEach es env)).all (fun x=>!x.1)=true:=by
   rw[List.all_eq_not_any_not];simp only[Bool.not_not];rw[h.plain];rfl
  rw[h1];show (true&&true&&decide (es.length+0+0<30))=true
  simpa using hn
 refine Gc (hx d A l U s _ _ L a F q) (fun v s1 hpx=>?_) fun _ _ x=>x;refine zj hpx fun av σ1 r a1 st q1=>?_;refine zb (zh3 q1) fun p e3_1 q1=>?_;subst e3_1;refine zb (zfv q1) fun xs hp q1=>?_;obtain rfl:=RepV.wM r;refine jx (a1.rep _ _ (zK hp).1) fun vs n ho _=>?_;refine zq (zc _ ho rfl) (fun b e=>by cases e;exact(zc _ ho rfl)) ?_;refine Calls.callWith_builtin h.plain (Gc (qE h L a1 (F.step a st) q1 fun vs s2 hpx=>?_) (fun _ _ x=>x) fun _ _ x=>x.back st);refine zj hpx fun avs σ2 r2 a2 st2 q2=>?_;refine zb (zfv q2) fun ys hp2 q3=>?_;exact jX (st.trans st2) (hm d A σ2 s2 p ys avs vs Q _ L a2 r2 (zK hp2).1 q3)
theorem zok{e:Expr}{pos:Pos}{m:AE}(EO:EnvOk env)(h:zh X env nm e m)(hs:swapsWith e none pos.line env=pure false):jl X env nm (.Expr e pos) (A.ex m):=fun d A l U s Q Z L a F q=>by
 rw[exec_Expr env e pos (by unfold interactive;rw[EO.kind];rfl) hs];refine Ga (Gm (Ga (Gc (h d A l U s _ _ L a F q) (fun v s1 hpz=>zj hpz fun av σ1 r a1 st q1=>wpAny_dropValue ?_) fun _ _ x=>x.toS a F)));exact zM .next l σ1 trivial a1 (F.step a st) (st.weaken FB.wP) q1
def zT:zby:=fun xs as K=>zbx as fun v=>zeX (xs.length+1) (K .none (xs++[v]))
def zq8:zby:=fun xs as K=>match as with
 | []=>zw xs.getLast? fun v=>K v xs.dropLast
 | _::_=>zbx as fun k=>zw k.int? fun i=>onB (decide (0<=i)) (zw xs[i.toNat]? fun v=>K v (xs.eraseIdx i.toNat))
theorem RepVs.eraseIdx{U:AHeap}{h:Heap}{xs:List AV}{vs:List Value}(r:RepVs U h xs vs):∀n,RepVs U h (xs.eraseIdx n) (vs.eraseIdx n):=by
 induction xs generalizing vs with
 | nil=>intro n;obtain rfl:=RepVs.wG r;exact .nil
 | cons x xs ih=>
  obtain⟨_,_,rfl,a,r⟩:=RepVs.wE r;intro n;cases n with
  | zero=>exact r
  | succ n=>exact .cons a (ih r n)
theorem zo5{h:Heap}{p:Addr}{us ws:List Value}{n:Nat}(ho:h.get? p=some (zR us n))(f:Array Value->Array Value)(e:f us.toArray=ws.toArray):∃n',(h.update p (Obj.mapSeq f)).get? p=some (zR ws n'):=by
 have:=IsL.update ho f;rw[e] at this;exact⟨_,this⟩
theorem zbZ{U:AHeap}{s:Shared}{p:Addr}{xs ys:List AV}{us ws:List Value}{n:Nat}{Q:zm}{x:AV}{v:Value}(a:At X U s)(hp:U p=some (.list xs))(ho:s.heap.get? p=some (zR us n))(f:Array Value->Array Value)(e:f us.toArray=ws.toArray)(rw_:RepVs U s.heap ys ws)(hl:ys.length<=1000000)(rx:RepV U s.heap x v)
  (q:Q x ((vis U).set p (.list ys))):liftQ X U s Q v { s with heap:=s.heap.update p (Obj.mapSeq f) }:=by
 have hs:Heap.SameBut p s.heap (s.heap.update p (Obj.mapSeq f)):=Heap.SameBut.update ..;obtain⟨n',hn'⟩:=zo5 (ws:=ws) ho f e;have a':=a.store (ao:=.list ys) (t:=s.toks) hp rfl hs fun kv=>(zP ws n' hn' (rw_.mono kv) hl)
 have st:Step E0 U s (U.set p (.list ys)) { s with heap:=s.heap.update p (Obj.mapSeq f) }:=Step.store (t:=s.toks) hp rfl hs;exact zr x _ (rx.mono (st.keepV0 a)) a' st (by rw[jz rfl];exact q)
theorem zgI:qX X "list.append" zT:=fun d A U s p xs as vs Q E L a r hp q=>by
 refine zb (j8 q) fun v0 e10_1 q=>?_;subst e10_1;obtain⟨hl,q⟩:=kK q;refine zb (kD r) fun v e12_1 rv=>?_;subst e12_1;refine zp (a.rep _ _ hp) fun us n ho ru _=>?_;have hsz:us.toArray.size<=sizeLine:=by rw[gH,<-ru.length,Gf];exact zvW hl
 refine call_meets PySem.F.slot_list_append (zc _ ho rfl) PySem.F.entry_list_append (PySem.F.args_list_append_2 _ _) (list_append p us.toArray n v hsz) ⟨ho,?_⟩;exact zbZ (ws:=us++[v]) a hp ho _ (by simp) (ru.append (.cons rv .nil)) (by rw[fE];exact hl) .none q
theorem zfz{d:Dp}{A:Around}{U:AHeap}{s:Shared}{p:Addr}{xs:List AV}{us:List Value}{n k:Nat}{x:AV}{v:Value}{Q:zm}(a:At X U s)(hp:U p=some (.list xs))(ho:s.heap.get? p=some (zR us n))(ru:RepVs U s.heap xs us)(hl:xs.length<=1000000)(hx:xs[k]? = some x)(rx:RepV U s.heap x v)(q:Q x ((vis U).set p (.list (xs.eraseIdx k)))) :
  liftQ X U s Q v { s with heap:=s.heap.update p (Obj.mapSeq fun x=>x.eraseIdxIfInBounds k) }:=by
 have hk:k<us.length:=by rw[<-ru.length];exact(fX.mp hx).1
 exact zbZ (ws:=us.eraseIdx k) a hp ho _ (by simp[Array.eraseIdxIfInBounds,hk]) (ru.eraseIdx k) (by have:=List.length_eraseIdx_le xs k;exact zxM hl this) rx q
theorem zmb:qX X "list.pop" zq8:=fun d A U s p xs as vs Q E L a r hp q=>by
 refine zp (a.rep _ _ hp) fun us n ho ru hl=>?_;have hsz:us.toArray.size<=sizeLine:=by rw[gH,<-ru.length,Gf];exact zgP hl
 cases as with
 | nil=>
  refine zb (zg q) fun x hx q1=>?_;obtain rfl:=RepVs.wG r;have hx':xs[xs.length-1]? = some x:=by rw[<-List.getLast?_eq_getElem?];exact hx
  refine zb (ru.get hx') fun y hy ry=>?_;have hy':us.toArray[us.toArray.size-1]? = some y:=by rw[gH,<-ru.length];simpa using hy
  refine call_meets PySem.F.slot_list_pop (zc _ ho rfl) PySem.F.entry_list_pop (PySem.F.args_list_pop_1 _) (list_pop_last p us.toArray n y hy' hsz) ⟨ho,?_⟩;have e:us.toArray.size-1=xs.length-1:=by rw[gH,ru.length]
  rw[e];refine zfz (d:=d) (A:=A) a hp ho ru hl hx' ry ?_;rw[List.eraseIdx_length_sub_one];exact q1
 | cons i0 as=>
  have q:zbx (i0::as) fun k=>zw k.int? fun i=>onB (decide (0<=i)) (zw xs[i.toNat]? fun v=>Q v ((vis U).set p (.list (xs.eraseIdx i.toNat)))):=q;refine zb (j8 q) fun kv e q1=>?_;refine zb (zg q1) fun i hi q2=>?_;obtain⟨h0,q3⟩:=qP q2;refine zb (zg q3) fun x hx q4=>?_;have hi:=jj hi;rw[e,hi] at r;refine zb (kD r) fun v e21_1 rv=>?_;subst e21_1;obtain⟨t,rfl⟩:∃t,v = .int i t:=by obtain⟨_,rfl⟩:=RepV.wC rv;exact⟨_,rfl⟩
  obtain⟨k,hki⟩:∃k:Nat,i.toNat=k:=⟨_,rfl⟩
  rw[hki] at hx q4;refine zb (ru.get hx) fun y hy ry=>?_;have hk:k<us.length:=(fX.mp hy).1;have hkl:us.length<=1000000:=by rw[<-ru.length];exact hl
  have hik:i=k:=by lia
  have f1:Builtin.List.listFitsIndex i=true:=by
   unfold Builtin.List.listFitsIndex;rw[G6 (by lia),G6 (by lia)];rfl
  have f2:seqIndex? i us.toArray.size=some k:=by
   rw[hik];have e0:¬((k:Int)<0):=by exact zwS
   simp[seqIndex?,e0,hk]
  have f3:us.toArray[k]? = some y:=by simpa using hy
  have meets:=list_pop_at p us.toArray n i t k y f1 f2 f3 hsz;refine call_meets PySem.F.slot_list_pop (zc _ ho rfl) PySem.F.entry_list_pop (PySem.F.args_list_pop_2 _ _) meets ⟨ho,?_⟩;exact zfz (d:=d) (A:=A) a hp ho ru hl hx ry q4
end
end
@[irreducible] noncomputable def zph(xs:List AV)(Q:zm)(U:AHeap):Prop:=∃ns:List Int,xs=ns.map .int/\ns≠[]/\∀M,M∈ns->(∀a∈ns,a<=M)->Q (.int M) U
@[irreducible] noncomputable def zpj(xs:List AV)(Q:zm)(U:AHeap):Prop:=∃ns:List Int,xs=ns.map .int/\ns≠[]/\∀M,M∈ns->(∀a∈ns,M<=a)->Q (.int M) U
@[irreducible] noncomputable def zpC(xs:List AV)(Q:zm)(U:AHeap):Prop:=∃ns:List Int,xs=ns.map .int/\PySem.SumFits ns/\Q (.int ns.sum) U
def zlG:zbU:=fun _ as Q U=>match as with
 | []=>False
 | x::r=>match r with
  | []=>zw (jh U x) fun xs=>zph xs Q U
  | _::_=>zbx r fun y=>kt x y fun i j=>Q (.int (max i j)) U
def zlH:zbU:=fun _ as Q U=>match as with
 | []=>False
 | x::r=>match r with
  | []=>zw (jh U x) fun xs=>zpj xs Q U
  | _::_=>zbx r fun y=>kt x y fun i j=>Q (.int (min i j)) U
def zlI:zbU:=fun _ as Q U=>zbx as fun x=>zw (jh U x) fun xs=>zpC xs Q U
def zrl:zbU:=fun _ as Q U=>zbx as fun x=>zw x.bool? fun b=>Q (.int (if b then 1 else 0)) U
def zep:zbU:=fun _ as Q U=>zbx as fun x=>zw (jh U x) fun xs=>Q (.tup xs) U
section
variable{X:Cx}{U:AHeap}{s:Shared}
theorem zbR{h:Heap}{ns:List Int}{vs:List Value}(r:RepVs U h (ns.map .int) vs):∃xs:List (Int×Tok),vs.toArray=intItems xs.toArray/\xs.map (·.1)=ns:=by
 induction ns generalizing vs with
 | nil=>cases r;exact⟨[],by simp[intItems],rfl⟩
 | cons n ns ih=>
  cases r with
  | cons a r=>
   obtain⟨t,rfl⟩:=RepV.wC a;refine zb (ih r) fun xs e1 e2=>?_;refine zc ((n,t)::xs) ?_ (by simp[e2]);simp[intItems] at e1 ⊢;exact e1
theorem za2{h':Heap}{tk t:Nat}{i:Int}{Q:zm}(a:At X U s)(hk:∀b o,s.heap.get? b=some o->h'.get? b=some o)(hsz:s.heap.objs.size<=h'.objs.size)(q:Q (.int i) (vis U)):liftQ X U s Q (.int i t) { s with heap:=h',toks:=tk }:=(zr _ U (.int _ _) (a.grown tk hk) (.grown U tk hk hsz) q)
theorem zhx{x y:AV}{K:Int->Int->Prop}(h:kt x y K):∃i j,x = .int i/\y = .int j/\K i j:=by
 refine zb (zg h) fun i h1 q=>?_;refine zb (zg q) fun j h2 q=>?_;exact zP i j (jj h1) (jj h2) q
theorem ziw{h:Heap}{x y:AV}{vs:List Value}{i j:Int}(r:RepVs U h [x,y] vs)(h1:x = .int i)(h2:y = .int j):∃t u,vs=[.int i t,.int j u]:=by
 subst h1;subst h2;refine zp (zn2 r) fun v w e4_2 rv rw_=>?_;subst e4_2;obtain⟨_,rfl⟩:=RepV.wC rv;obtain⟨_,rfl⟩:=RepV.wC rw_;exact jf _ _ rfl
theorem zl6:jk X (.builtin "max") zlG:=fun d A U s r as vs Q E L hd a rv q=>by
 cases as with
 | nil=>exact q.elim
 | cons x as=>
  cases as with
  | cons y as=>
   have q:zbx (y::as) fun y=>kt x y fun i j=>Q (.int (max i j)) (vis U):=q;refine zb (j8 q) fun z e q1=>?_;refine zp (zhx q1) fun i j h1 h2 q2=>?_;rw[e] at rv;refine jc (ziw rv h1 h2) fun t u e9_2=>?_;subst e9_2;refine zW (max_two_ints (L.handled hd) fun h' tk hk hsz=>?_)
   by_cases h:j>i
   .rw[if_pos h];rw[fC1 (by exact y59 h)] at q2;exact za2 a hk hsz q2
   .rw[if_neg h];rw[fDA (by exact y60 h)] at q2;exact za2 a hk hsz q2
  | nil=>
   refine zb (zg q) fun ys hx q1=>?_;refine zb (kD rv) fun v e11_1 rv1=>?_;subst e11_1;refine zt (a.isList (z0 hx) rv1) fun p us e12_2 _ hl rs _=>?_;subst e12_2;unfold zph at q1;refine zk q1 fun ns e13_1 hne q2=>?_;subst e13_1;refine zb (zbR rs) fun xs e1 e2=>?_;rw[e1] at hl;have hx:0<xs.length:=by rw[<-e2] at hne;cases xs<;>simp_all
   refine zW (max_intList (L.handled hd) hl (by simpa using hx) fun v h' tk hv hk hsz=>?_);obtain⟨t,rfl⟩:=intItems_at hv;obtain⟨h1,h2⟩:=argBest_gt (numAt xs.toArray) (xs.toArray.size-1);have e3:(xs.toArray.toList.map (·.1))=ns:=e2;refine za2 a hk hsz (q2 _ ?_ fun b hb=>?_)
   .rw[numAt_eq,e3];exact PySem.getD_mem (by rw[<-e3,fC,gV];simp at h1 ⊢;exact ztK hx h1)
   .rw[<-e3] at hb;refine zb (PySem.mem_getD hb) fun j hj e17_2=>?_;subst e17_2;rw[fC,gV] at hj;rw[<-numAt_eq];exact h2 j (by exact zpZ hj)
theorem zl7:jk X (.builtin "min") zlH:=fun d A U s r as vs Q E L hd a rv q=>by
 cases as with
 | nil=>exact q.elim
 | cons x as=>
  cases as with
  | cons y as=>
   have q:zbx (y::as) fun y=>kt x y fun i j=>Q (.int (min i j)) (vis U):=q;refine zb (j8 q) fun z e q1=>?_;refine zp (zhx q1) fun i j h1 h2 q2=>?_;rw[e] at rv;refine jc (ziw rv h1 h2) fun t u e20_2=>?_;subst e20_2;refine zW (min_two_ints (L.handled hd) fun h' tk hk hsz=>?_)
   by_cases h:j<i
   .rw[if_pos h];rw[fB7 (by exact y55 h)] at q2;exact za2 a hk hsz q2
   .rw[if_neg h];rw[fCJ (by exact y62 h)] at q2;exact za2 a hk hsz q2
  | nil=>
   refine zb (zg q) fun ys hx q1=>?_;refine zb (kD rv) fun v e22_1 rv1=>?_;subst e22_1;refine zt (a.isList (z0 hx) rv1) fun p us e23_2 _ hl rs _=>?_;subst e23_2;unfold zpj at q1;refine zk q1 fun ns e24_1 hne q2=>?_;subst e24_1;refine zb (zbR rs) fun xs e1 e2=>?_;rw[e1] at hl;have hx:0<xs.length:=by rw[<-e2] at hne;cases xs<;>simp_all
   refine zW (min_intList (L.handled hd) hl (by simpa using hx) fun v h' tk hv hk hsz=>?_);obtain⟨t,rfl⟩:=intItems_at hv;obtain⟨h1,h2⟩:=argBest_lt (numAt xs.toArray) (xs.toArray.size-1);have e3:(xs.toArray.toList.map (·.1))=ns:=e2;refine za2 a hk hsz (q2 _ ?_ fun b hb=>?_)
   .rw[numAt_eq,e3];exact PySem.getD_mem (by rw[<-e3,fC,gV];simp at h1 ⊢;exact ztK hx h1)
   .rw[<-e3] at hb;refine zb (PySem.mem_getD hb) fun j hj e28_2=>?_;subst e28_2;rw[fC,gV] at hj;rw[<-numAt_eq];exact h2 j (by exact zpZ hj)
theorem zme:jk X (.builtin "sum") zlI:=fun d A U s r as vs Q E L hd a rv q=>by
 refine zb (j8 q) fun x e29_1 q=>?_;subst e29_1;refine zb (zg q) fun ys hx q1=>?_;refine zb (kD rv) fun v e31_1 rv1=>?_;subst e31_1;refine zt (a.isList (z0 hx) rv1) fun p us e32_2 _ hl rs _=>?_;subst e32_2;unfold zpC at q1;refine zk q1 fun ns e33_1 hf q2=>?_;subst e33_1;refine zb (zbR rs) fun xs e1 e2=>?_;rw[e1] at hl;have e3:(xs.toArray.toList.map (·.1))=ns:=e2;have e4:ns.length=xs.toArray.size:=by rw[<-e3];simp
 refine zW (sum_intList (L.handled hd) hl (fun j hj=>?_) fun h' tk t' hk hsz=>?_)
 .rw[numAt_eq,preSum_eq,e3];exact hf j (by rw[e4];exact hj)
 .rw[preSum_eq,e3,fAT (by rw[e4];exact fM _)];exact za2 a hk hsz q2
theorem zjS:jk X (.type "int") zrl:=fun d A U s r as vs Q E L hd a rv q=>by
 refine zb (j8 q) fun x e35_1 q=>?_;subst e35_1;refine zb (zg q) fun b hb q=>?_;have hb:=zaW hb;subst hb;refine zp (RepVs.wE rv) fun _ _ e37_2 r1 r2=>?_;subst e37_2;obtain rfl:=RepVs.wG r2;obtain rfl:=RepV.wN r1;exact call_int_bool (zai a (.int _ _) q)
theorem zil:jk X (.type "tuple") zep:=fun d A U s r as vs Q E L hd a rv q=>by
 refine zb (j8 q) fun x e38_1 q=>?_;subst e38_1;refine zb (zg q) fun ys hx q1=>?_;refine zb (kD rv) fun v e40_1 rv1=>?_;subst e40_1;refine zt (a.isList (z0 hx) rv1) fun p us e41_2 _ hl rs hm=>?_;subst e41_2;refine zW (call_tuple_list hl (fun h' hk hsz=>?_) (by rw[gH,<-rs.length,Gf];exact zgP hm));have hk':∀b o,s.heap.get? b=some o->(h'.push { cls:=.type "tuple",data:=.seq us.toArray }).get? b=some o:=fun b o e=>Heap.get?_push_of_some _ (hk b o e);exact zr (.tup ys) U (.tup hm (qo _ (Heap.get?_push_size _ rfl) rfl 0 rfl) (rs.mono (.ext hk'))) (a.grown s.toks hk') (.grown U s.toks hk' hsz) q1
end
section
open PySem.MeetsSeq
def zrk:zbU:=fun _ as Q U=>zbx as fun x=>zw x.int? fun i=>Q (.int (i.natAbs:Int)) U
def zjl:zby:=fun xs as K=>match as with
 | []=>K .none []
 | _::_=>False
def RdA(x:AV)(d:PyData):Prop:=∀U,Rd U x d
@[irreducible] noncomputable def rmG(xs:List AV)(v:AV)(K:AV->List AV->Prop):Prop:=∃pre w post d e,xs=pre++w::post/\RdA v d/\RdA w e/\PyData.eqv e d=true/\e.depth<=100/\(∀x∈pre,∃dx,RdA x dx/\PyData.eqv dx d=false/\dx.depth<=100)/\K .none (pre++post)
def zgl:zby:=fun xs as K=>zbx as fun v=>rmG xs v K
section
variable{X:Cx}
theorem zlS:jk X (.builtin "abs") zrk:=fun d A U s r as vs Q E L hd a rv q=>by
 obtain⟨x,rfl,q⟩:=j8 q;obtain⟨i,hi,q⟩:=zg q;have hi:=jj hi;subst hi;obtain⟨v,rfl,rv1⟩:=kD rv;obtain⟨_,rfl⟩:=RepV.wC rv1;refine call_abs_int fun u tk=>?_;have e:(if i<0 then -i else i)=(i.natAbs:Int):=by split<;>lia
 rw[e];exact zai a (.int _ _) q
theorem zig:qX X "list.clear" zjl:=fun d A U s p xs as vs Q E L a r hp q=>by
 cases as with
 | cons _ _=>exact q.elim
 | nil=>
  obtain rfl:=RepVs.wG r;obtain⟨us,n,ho,ru,hl⟩:=a.rep _ _ hp;have hsz:us.toArray.size<=sizeLine:=by rw[gH,<-ru.length,Gf];exact zgP hl
  refine call_meets PySem.F.slot_list_clear (zc _ ho rfl) PySem.F.entry_list_clear (PySem.F.args_list_clear_1 _) (PySem.AutoSeq1.list_clear_list_0 p us.toArray n hsz) ⟨ho,?_⟩;exact zbZ (ws:=[]) a hp ho _ rfl .nil (fW _) .none q
theorem zeZ(l:Addr)(items:Array Value)(n:Nat)(x:Value)(j:Nat)(hj:j<items.size)(k:Nat)(hs1:items.size<=sizeLine) :
  ∀i:Nat,j-i=k->i<=j->Meets (Builtin.«list.remove.loop» ⟨[.ref l,x,rawInt i],[]⟩)
   (fun A R s=>s.heap.get? l=some { cls:=.type "list",dict:=none,data:=.seq items n,slots:=#[] }/\(∀m (hm:m<items.size),m<j->EqAt A.in1 s items[m] x false)/\EqAt A.in1 s items[j] x true/\R (.ok (.ret .none)) { s with heap:=s.heap.update l (Obj.mapSeq fun xs=>xs.eraseIdxIfInBounds j) }):=by
 induction k with
 | zero=>
  intro i hk hij prog w A R s h;obtain⟨hp,g,d,tk,os⟩:=s;obtain⟨hl,hno,hit,h⟩:=h;have e:i=j:=by exact zDP hk hij
  subst e
  wp_walk using wpAny_loadPart' hl
  have hi:items[((i:Nat):Int).toNat]? = some items[i]:=by simp[hj]
  rw[hi];refine Ga (hit prog w _ _ ?_);have hz':(items.eraseIdxIfInBounds i).size<=sizeLine+1:=fN (size_erased items _) (pK hs1)
  wp_walk using (wpAny_updateSeq hl rfl (hz:=hs1) (_hz':=hz')),wpAny_loadPart' hl
  simpa using h
 | succ k ih=>
  intro i hk hij prog w A R s h;obtain⟨hp,g,d,tk,os⟩:=s;obtain⟨hl,hno,hit,h⟩:=h;have hlt:i<items.size:=by exact zDV hj hij
  wp_walk using wpAny_loadPart' hl
  have hi:items[((i:Nat):Int).toNat]? = some items[i]:=by simp[hlt]
  have hc:((i:Int)+1)=((i+1:Nat):Int):=by push_cast;rfl
  rw[hi];refine Ga (hno i hlt (by exact zt6 hk) prog w _ _ ?_)
  wp_walk
  rw[hc];exact⟨plainId_quiet plain_remove_loop _,codeAny_builtin entry_remove_loop (by
   rw[Around.under_plainId plain_remove_loop _];exact ih (i+1) (by exact zt5 hk) (by exact zDT hk) prog w A R _ (zn hl hno hit h))⟩
theorem zeV(l:Addr)(items:Array Value)(n:Nat)(x:Value)(j:Nat)(hj:j<items.size)(hs1:items.size<=sizeLine) :
  Meets (Builtin.«list.remove» ⟨[.ref l,x],[]⟩)
   (fun A R s=>s.heap.get? l=some { cls:=.type "list",dict:=none,data:=.seq items n,slots:=#[] }/\(∀m (hm:m<items.size),m<j->EqAt A.in1 s items[m] x false)/\EqAt A.in1 s items[j] x true/\R (.ok (.ret .none)) { s with heap:=s.heap.update l (Obj.mapSeq fun xs=>xs.eraseIdxIfInBounds j) }):=by
 intro prog w A R s h;obtain⟨hp,g,d,tk,os⟩:=s;obtain⟨hl,h⟩:=h
 wp_walk using wpAny_loadPart' hl
 exact⟨plainId_quiet plain_remove_loop _,codeAny_builtin entry_remove_loop (by
  rw[Around.under_plainId plain_remove_loop _];exact zeZ l items n x j hj _ hs1 0 rfl (fW _) prog w A R _ ⟨hl,h⟩)⟩
theorem zgJ:qX X "list.remove" zgl:=fun d A U s p xs as vs Q E L a r hp q=>by
 obtain⟨v0,rfl,q'⟩:=j8 q;clear q;have q:=q';clear q';unfold rmG at q;obtain⟨pre,w,post,dv,ew,rfl,h1,h2,h3,h4,h5,q⟩:=q;obtain⟨v,rfl,rv⟩:=kD r;obtain⟨us,c,ho,ru,hl⟩:=a.rep _ _ hp;have hsz:us.toArray.size<=sizeLine:=by rw[gH,<-ru.length,Gf];exact zgP hl
 have hll:=ru.length;rw[fE,fH] at hll;have hj:pre.length<us.length:=zyk hll;have room:=L.room;obtain⟨⟨as',r1⟩,c1⟩:=(h1 (vis U)).reads a rv;have at_:∀{m:Nat} {y:AV} {dy:PyData} (hm:m<us.toArray.size),(pre++w::post)[m]? = some y->RdA y dy->dy.depth<=100->EqAt A.in1 s us.toArray[m] v (PyData.eqv dy dv):=fun {m y dy} hm hy rd hd=>by
  obtain⟨u,hu,ry⟩:=ru.get hy;have e:us.toArray[m]=u:=by simpa using (fX.mp hu).2
  rw[e];obtain⟨⟨bs,r2⟩,c2⟩:=(rd (vis U)).reads a ry;refine eqAt_reads _ _ _ _ _ _ _ _ r2 r1 c2 c1 ?_;have hm:=fDB dy.depth dv.depth;have:A.in1.units<=A.units+1:=by first|exact fM _|exact fBW _|(unfold Around.in1;simp)
  lia
 refine call_meets PySem.F.slot_list_remove (zc _ ho rfl) PySem.F.entry_list_remove (PySem.F.args_list_remove_2 _ _) (zeV p us.toArray c v pre.length (by simpa using hj) hsz) (zn ho (fun m hm hmj=>?_) ?_ ?_)
 .have hy:(pre++w::post)[m]? = some pre[m]:=by rw[pA hmj];exact fV hmj
  obtain⟨dx,k1,k2,k3⟩:=h5 pre[m] (fBK hmj);rw[<-k2];exact at_ hm hy k1 k3
 .rw[<-h3];refine at_ (y:=w) (by simpa using hj) ?_ h2 h4;rw[pI (fM _),fB0];rfl
 .refine zbZ (ws:=us.eraseIdx pre.length) (ys:=pre++post) a hp ho _ (by simp[Array.eraseIdxIfInBounds,hj]) ?_ (by rw[fE,fH] at hl;rw[fE];exact ztC hl) .none q;have:=ru.eraseIdx pre.length;have e:(pre++w::post).eraseIdx pre.length=pre++post:=by
   rw[fBZ (fM _),fB0];rfl
  rw[e] at this;exact this
end
end
structure Gd(X:Cx)(K:Frag):Prop where
 ok:X.Ok
 inn:K.In X.h₀
 bi:∀x:Str,x≠"__name__"->X.mb x=bootBuiltins x
structure EK(env:Env)(names:List (Str×NameKind)):Prop where
 eo:EnvOk env
 nm:env.scope.names=names
noncomputable def zd0(names:List (Str×NameKind))(x:Str):Bool:=names.lookup x==some .local||names.lookup x==some .cell
noncomputable def qs(names:List (Str×NameKind))(x:Str):Bool:=names.lookup x==some .globalImplicit&&!(x==("__debug__" : Str))
section
variable{X:Cx}{K:Frag}{env:Env}{nm:List (Str×Nat)}{names:List (Str×NameKind)}
theorem EK.var(E:EK env names){x:Str}(h:zd0 names x=true):env.kindOf x=some .local\/env.kindOf x=some .cell:=by
 unfold Env.kindOf;rw[E.nm];unfold zd0 at h
 simpa using h
theorem EK.glob(E:EK env names){x:Str}(h:qs names x=true):env.kindOf x=some .globalImplicit/\(x==("__debug__" : Str))=false:=by
 unfold Env.kindOf;rw[E.nm];unfold qs at h;simp only[gW,beq_iff_eq,fB1] at h;exact h
def zlf(K:Frag)(x:Str)(v:Value):Prop:=nsIn K Gr x=some none/\bootBuiltins x=some v/\x≠"__name__"
theorem Gd.push(G:Gd X K)(L:Env):Gd (X.push L) K:=⟨⟨G.ok.g,G.ok.b,G.ok.nolimit⟩,G.inn,G.bi⟩
theorem Gd.none(G:Gd X K){x:Str}{v:Value}(h:zlf K x v):X.mg x=none:=mg_none_of G.inn G.ok.g h.1
theorem Gd.some(G:Gd X K){x:Str}{v:Value}(h:zlf K x v):X.mb x=some v:=(G.bi x h.2.2).trans h.2.1
noncomputable def zkF(names ns:List (Str×NameKind)):List (Str×NameKind):=ns.map fun (n,k)=>if (k==NameKind.free&&true&&names.lookup n==some NameKind.cell) then (n,NameKind.cell) else (n,k)
noncomputable def z7(nm:List (Str×Nat)):Nat->List (Str×NameKind)->List (Str×Nat)
 | _,[]=>[]
 | n,(x,.local)::r=>(x,n)::z7 nm (n+1) r
 | n,(x,.free)::r=>(match nm.lookup x with|some i=>(x,i)::z7 nm n r|none=>z7 nm n r)
 | n,_::r=>z7 nm n r
noncomputable def zcS(ns:List (Str×NameKind)):Nat:=(ns.filter fun p=>p.2==.local).length
noncomputable def zcY:List Str->Bool
 | []=>true
 | x::r=>!r.contains x&&zcY r
theorem zco{l:List Str}:zcY l=true->l.Nodup:=by
 induction l with
 | nil=>exact fun _=>.nil
 | cons x r ih=>
  intro h;have h:=(gW _ _).mp h;exact fU.mpr ⟨fun q=>absurd h.1 (by rw[List.contains_iff_mem.mpr q];exact fun e=>nomatch e),ih h.2⟩
noncomputable def zo2:List (Str×Nat)->Bool
 | []=>true
 | p::r=>r.all (fun q=>!(q.2==p.2))&&zo2 r
theorem zi9{l:List (Str×Nat)}:zo2 l=true->∀x y i,(x,i)∈l->(y,i)∈l->x=y:=by
 induction l with
 | nil=>exact fun _ _ _ _ h=>nomatch h
 | cons p r ih=>
  intro h x y i h1 h2;have h:=(gW _ _).mp h;have h3:=fAJ.mp h.1
  rcases fF.mp h1 with e1|h1<;>rcases fF.mp h2 with e2|h2
  .exact(Prod.mk.inj (e1.trans e2.symm)).1
  .exact absurd (h3 _ h2) (by rw[<-e1];simp)
  .exact absurd (h3 _ h1) (by rw[<-e2];simp)
  .exact ih h.2 x y i h1 h2
noncomputable def zkg(names:List (Str×NameKind))(nm:List (Str×Nat))(N:Nat)(ns:List (Str×NameKind)):Bool:=
 zcY (ns.map (·.1))&&ns.all (fun p=>p.2==.local||p.2==.globalImplicit||(p.2==.free&&names.lookup p.1==some .cell&&(nm.lookup p.1).isSome))&&
 (z7 nm N ns).all (fun p=>(ns.lookup p.1==some .local&&N<=p.2&&p.2<N+zcS ns)||(ns.lookup p.1==some .free&&nm.lookup p.1==some p.2))&&zo2 (z7 nm N ns)&&kI (z7 nm N ns++nm)==N+zcS ns&&
 ns.all (fun p=>!(p.2==.free)||(z7 nm N ns++nm).lookup p.1==nm.lookup p.1)&&kI (z7 nm N ns)==N+zcS ns
theorem ze9{N:Nat}{ns:List (Str×NameKind)}(h:zkg names nm N ns=true):CompOk names nm N ns (z7 nm N ns) (zcS ns):=by
 unfold zkg at h;simp only[gW,fAJ,beq_iff_eq,fDC,decide_eq_true_eq,fB1,beq_eq_false_iff_ne,ne_eq] at h;obtain⟨⟨⟨⟨⟨⟨h1,h2⟩,h3⟩,h4⟩,h5⟩,h6⟩,h7⟩:=h;have nd:=zco h1;have fr:∀(n:Nat) (l:List (Str×NameKind)) x i,(x,NameKind.free)∈l->nm.lookup x=some i->(x,i)∈z7 nm n l:=by
  intro n l
  induction l generalizing n with
  | nil=>intro x i hx;cases hx
  | cons p r ih=>
   intro x i hx hi;obtain⟨y,k⟩:=p
   rcases fF.mp hx with e|hx'
   .cases e;unfold z7;rw[hi];exact fB
   .clear hx;cases k<;>unfold z7
    all_goals first
     | exact ih _ x i hx' hi
     | exact fA _ (ih _ x i hx' hi)
     | (split<;>first|exact fA _ (ih _ x i hx' hi)|exact ih _ x i hx' hi)
 have nd':∀(l:List (Str×NameKind)) (n:Nat),(l.map (·.1)).Nodup->((z7 nm n l).map (·.1)).Nodup/\∀x,x∈(z7 nm n l).map (·.1)->x∈l.map (·.1):=by
  intro l
  induction l with
  | nil=>intro n _;exact⟨.nil,fun x hx=>by simp[z7] at hx⟩
  | cons p r ih=>
   intro n hn;obtain⟨y,k⟩:=p;have hn':=fU.mp hn;have stay:∀m,((z7 nm m r).map (·.1)).Nodup/\∀x,x∈(z7 nm m r).map (·.1)->x∈((y,k)::r).map (·.1):=fun m=>⟨(ih m hn'.2).1,fun x hx=>fA _ ((ih m hn'.2).2 x hx)⟩
   have more:∀m i,(((y,i)::z7 nm m r).map (·.1)).Nodup/\∀x,x∈((y,i)::z7 nm m r).map (·.1)->x∈((y,k)::r).map (·.1):=fun m i=>
    ⟨fU.mpr ⟨fun q=>hn'.1 ((ih m hn'.2).2 y q),(ih m hn'.2).1⟩,fun x hx=>by
     rcases fF.mp hx with e|hx
     .rw[e];exact fB
     .exact fA _ ((ih m hn'.2).2 x hx)⟩
   cases k<;>unfold z7
   all_goals first
    | exact stay _
    | exact more _ _
    | (split<;>first|exact more _ _|exact stay _)
 refine⟨nd,fun x kd hx=>?_,fun x i hx=>?_,fun x y i hx hy=>zi9 h4 x y i (mem_of_lookup hx) (mem_of_lookup hy),h7⟩
 .rcases h2 (x,kd) hx with(q|q)|⟨⟨q1,q2⟩,q3⟩
  .exact .inl q
  .exact .inr (.inl q)
  .obtain⟨i,hi⟩:=pW.mp q3;simp only at q1;subst q1;exact .inr (.inr (zo1 rfl q2 i hi (j9 (nd' _ _ nd).1 (fr _ _ _ _ hx hi))))
 .rcases h3 (x,i) (mem_of_lookup hx) with⟨⟨q1,q2⟩,q3⟩|⟨q1,q2⟩
  .exact .inl (zq q1 q2 q3)
  .exact .inr ⟨q1,q2⟩
theorem EK.comp(E:EK env names){N:Nat}{scope:Scope}(hc:zkg names nm N scope.names=true)(hk:scope.kind = .function)(C:Addr):EK (compEnvC scope (clo env.cells scope.names []) C env) (zkF names scope.names):=by
 have CK:CompOk env.scope.names nm N scope.names (z7 nm N scope.names) (zcS scope.names):=by rw[E.nm];exact ze9 hc
 refine⟨zi1 E.eo CK hk C,?_⟩;show List.map _ scope.names=zkF names scope.names;unfold zkF;have:∀n,env.kindOf n=names.lookup n:=fun n=>by unfold Env.kindOf;rw[E.nm]
 simp only[this,E.eo.kind]
 rfl
theorem EK.stoF(E:EK env names){x:Str}(h:zd0 names x=true):Sto (FB env) env x:=zrB (E.var h)
theorem EK.loc(E:EK env names){x:Str}(h:(names.lookup x==some .local)=true):env.kindOf x=some .local:=by
 unfold Env.kindOf;rw[E.nm];exact beq_iff_eq.mp h
noncomputable def zjs(names:List (Str×NameKind))(nm:List (Str×Nat))(ps:List Str):Bool:=
 zcY (names.map (·.1))&&nm.all (fun p=>names.lookup p.1==some .local||names.lookup p.1==some .cell)&&zo2 nm&&zcY (nm.map (·.1))&&(nm.take ps.length==ps.zipIdx)&&zcY ps
theorem zcj{nm:List (Str×Nat)}{x:Str}{i:Nat}(h:(x,i)∈nm):i<kI nm:=by
 unfold kI;have gen:∀(l:List (Str×Nat)) (n:Nat),n<=l.foldl (fun n p=>max n (p.2+1)) n/\∀x i,(x,i)∈l->i<l.foldl (fun n p=>max n (p.2+1)) n:=by
  intro l
  induction l with
  | nil=>intro n;exact⟨fM _,fun _ _ h=>nomatch h⟩
  | cons p r ih=>
   intro n;rw[pM];have:=ih (max n (p.2+1));refine⟨fN (Nat.le_max_left _ _) this.1,fun x i hx=>?_⟩
   rcases fF.mp hx with e|hx
   .rw[<-e] at this ⊢;exact pF (fC4 i) (fN (Nat.le_max_right _ _) this.1)
   .exact this.2 x i hx
 exact(gen nm 0).2 x i h
theorem zjt{ps:List Str}(h:zjs names nm ps=true):NamesOk names nm ps (kI nm):=by
 unfold zjs at h;simp only[gW,fAJ,beq_iff_eq,fDC] at h;obtain⟨⟨⟨⟨⟨h1,h2⟩,h3⟩,h4⟩,h5⟩,h6⟩:=h;have nd:=zco h4;have hz:∀(i:Nat) p,ps[i]? = some p->(p,i)∈nm:=fun i p hp=>by
  have:(p,i)∈ps.zipIdx:=List.mk_mem_zipIdx_iff_getElem?.mpr hp;rw[<-h5] at this;exact fBF this
 refine⟨zco h1,fun x i hx=>⟨zcj (mem_of_lookup hx),h2 _ (mem_of_lookup hx)⟩,fun x y i hx hy=>zi9 h3 x y i (mem_of_lookup hx) (mem_of_lookup hy),fun x i hx p hp=>zi9 h3 p x i (hz i p hp) (mem_of_lookup hx),
  fun i p hp=>j9 nd (hz i p hp),?_,rfl,zco h6⟩
 rcases Nat.eq_zero_or_pos ps.length with e|e
 .rw[e];exact fW _
 .have:(ps[ps.length-1],ps.length-1)∈nm:=hz _ _ (fV (by exact zwm e));have:=zcj this;exact zxe this
theorem zeU{J:Type}{l:List J}{n:Nat}(h:l.length=n+1):∃a r,l=a::r/\r.length=n:=by
 cases l with
 | nil=>simp at h
 | cons a r=>exact za6 a r rfl (by simpa using h)
noncomputable def zhi(K:Frag)(f:Addr):Option FuncData:=(K.lookup f).bind fun o=>match o.data with
 | .func fd=>some fd
 | _=>none
theorem zkl{f:Addr}{fd:FuncData}(h:zhi K f=some fd):∃o,K.lookup f=some o/\o.data = .func fd:=by
 refine zb (fAA.mp h) fun o h1 h2=>?_;refine zc o h1 ?_;split at h2
 .rename_i e;obtain rfl:=G4 h2;exact e
 .exact absurd (Eq.symm h2) (fJ _)
end
section
variable{X:Cx}{K:Frag}{U:AHeap}{s:Shared}{A:Around}{E:Value->Shared->Prop}{Q:zm}
theorem zhy(name:Str):(fun e:DictEntry=>e.key.isStr name)=fun e=>(strKind X.prog X.w).is name e.key:=by
 funext e
 cases e.key<;>rfl
theorem zgD{h:Heap}{d:Addr}{kvs:List (Str×Value)}(hD:h.DictOf (strKind X.prog X.w) d kvs):∃od es ep,h.get? d=some od/\od={ cls:=.type "dict",data:=.dict es ep }/\StrKeys es/\KeysOf (strKind X.prog X.w) es/\Pairs (strKind X.prog X.w) es.toList kvs/\∀name,lookIn name od=some (valueAt kvs name):=by
 refine jd hD fun h0_0 es ep ho h0_4 hd hk hp nd=>?_;obtain⟨c,dd,da,sl⟩:=h0_0;obtain⟨h1,h2,h3⟩:=h0_4;simp only at h1 h2 h3 hd;subst h1 h2 h3 hd;have hs:StrKeys es:=fun e he=>by
  refine zb (hk e he) fun k h1 _=>?_;obtain⟨t,h2⟩:=Value.isStrOf_shape h1;exact jf k t h2
 refine za8 _ es ep ho rfl hs hk hp (fun name=>?_);have hany:es.toList.any (·.refKey)=false:=by
  rw[List.any_eq_false];intro e he;refine jc (hs e (Array.mem_toList_iff.mp he)) fun n t h=>?_;simp[DictEntry.refKey,h]
 have hf:=hp.find name;unfold lookIn;dsimp only;rw[zhy (X:=X)];cases h:es.toList.find? (fun e=>(strKind X.prog X.w).is name e.key) with
 | some e=>rw[h] at hf;rw[<-hf];rfl
 | none=>rw[h] at hf;rw[<-hf,hany];rfl
theorem At.inst{x C dx:Addr}{fs:List (Nat×AV)}(a:At X U s)(hx:U x=some (.inst C dx))(hd:U dx=some (.idict fs)) :
  ∃od:Obj,InstAt s.heap x { cls:=.ref C,dict:=some dx,data:=.plain } C (some od)/\∀n,n<zal->∃r,lookIn (zy n) od=some r/\((kP fs n=none/\r=none)\/∃av v,kP fs n=some av/\r=some v/\RepV U s.heap av v):=by
 have h1:=a.rep _ _ hx;refine zI (a.rep _ _ hd) fun kvs hD sx hl _=>?_;refine jd (zgD hD) fun od es ep ho _ _ _ _ hlk=>?_;refine zc od ⟨h1,rfl,rfl,ho⟩ (fun n hn=>(zc _ (hlk _) ?_))
 rcases sx.get hn with⟨h2,h3⟩|⟨v,y,h2,h3,r⟩
 .exact .inl ⟨h3,h2⟩
 .exact .inr (zP y v h3 h2 r)
theorem At.instNo{x C dx:Addr}{fs:List (Nat×AV)}{name:Str}(a:At X U s)(hx:U x=some (.inst C dx))(hd:U dx=some (.idict fs))(hn:name∉strT) :
  ∃od:Obj,InstAt s.heap x { cls:=.ref C,dict:=some dx,data:=.plain } C (some od)/\lookIn name od=some none:=by
 have h1:=a.rep _ _ hx;refine zI (a.rep _ _ hd) fun kvs hD sx hl _=>?_;refine jd (zgD hD) fun od es ep ho _ _ _ _ hlk=>?_;refine zc od ⟨h1,rfl,rfl,ho⟩ ?_;rw[hlk];have:∀{kvs fs},SX U s.heap kvs fs->valueAt kvs name=none:=by
  intro kvs fs sx
  induction sx with
  | nil=>rfl
  | @cons k x v kvs fs hk _ _ ih=>
   unfold valueAt at ih ⊢;have:¬zy k=name:=fun e=>hn (e▸pO (zbu hk));rw[pS,G5 this];exact ih
 rw[this sx]
theorem zjE{h:Heap}{av:AV}{v:Value}(r:RepV U h av v):handedIn v=true:=by cases r<;>rfl
theorem zpR{x C dx:Addr}{fs:List (Nat×AV)}{n:Nat}{av:AV}{expr:Bool}(KX:K.In X.h₀)(a:At X U s)(hx:U x=some (.inst C dx))(hd:U dx=some (.idict fs))(hn:n<zal)(hf:kP fs n=some av)
  (hg:plainGet K C (zy n)=true)(hh:hasDictIn K C=true)(hc:findIn K (.ref C) (zy n)=some none)(q:Q av (vis U)):wpAny X.M A (getAttr (.ref x) (zy n) expr) (liftQ X U s Q) E s:=by
 refine zb (a.inst hx hd) fun od I hl=>?_;refine zb (hl n hn) fun r h1 h2=>?_
 rcases h2 with⟨h2,_⟩|⟨av',v,h2,rfl,rv⟩
 .rw[hf] at h2;exact absurd h2 (fJ _)
 .rw[hf] at h2;obtain rfl:=G4 h2;exact get_value (KX.keeps a.keep) I (plainGet_of hg).1 (findObj_own hh hc rfl h1) (zjE rv) (zr av U rv ⟨a.keep,a.rep,a.own,a.gens,a.os,a.ff⟩ (Step.toks ..) q)
theorem zlK{h:Heap}{dx:Addr}{es:Array DictEntry}{n:Nat}{kvs:List (Str×Value)}(ho:h.get? dx=some { cls:=.type "dict",data:=.dict es n })(hk:KeysOf (strKind X.prog X.w) es)(hp:Pairs (strKind X.prog X.w) es.toList kvs)(nd:(kvs.map (·.1)).Nodup)(name:Str)(tk:Tok)(v:Value) :
  ∃es' n',(h.update dx (Obj.putName name (hashStr X.w name) (.str name tk) v)).get? dx=some { cls:=.type "dict",data:=.dict es' n' }/\(h.update dx (Obj.putName name (hashStr X.w name) (.str name tk) v)).DictOf (strKind X.prog X.w) dx (stored kvs name v):=by
 have hkey:(strKind X.prog X.w).is name (.str name tk)=true:=strKind_is _ _ _ _;have hidx:es.findIdx? (·.key.isStr name)=es.toList.findIdx? fun e=>(strKind X.prog X.w).is name e.key:=by
  rw[zhy (X:=X)];obtain⟨l⟩:=es;exact List.findIdx?_toArray _ _
 have hany:kvs.any (fun kv=>decide (kv.1=name))=(es.findIdx? (·.key.isStr name)).isSome:=by
  rw[hidx,hp.findIdx name,List.findIdx?_isSome]
 cases hi:es.findIdx? (·.key.isStr name) with
 | some i=>
  rw[hi] at hany;have hg:=Heap.get?_update_self (Obj.putName name (hashStr X.w name) (.str name tk) v) ho (by simp only[Obj.putName_eq,Obj.putNameByArray,hi];rfl);have he:Obj.putName name (hashStr X.w name) (.str name tk) v { cls:=.type "dict",data:=.dict es n }={ cls:=.type "dict",data:=.dict (es.modify i fun e=>{ e with val:=v }) n }:=by simp only[Obj.putName_eq,Obj.putNameByArray,hi]
  rw[he] at hg;have hs:stored kvs name v=kvs.map fun kv=>if kv.1=name then (kv.1,v) else kv:=by unfold stored;rw[hany];rfl
  refine za7 _ _ hg _ _ _ hg (zq rfl rfl rfl) rfl (fun e he=>?_) ?_ (by rw[hs,keys_map_store];exact nd)
  .obtain⟨j,hj,rfl⟩:=Array.mem_iff_getElem.mp he;rw[Array.getElem_modify];rw[Array.size_modify] at hj;have:=hk es[j] (Array.getElem_mem hj);split<;>exact this
  .rw[hs,Array.toList_modify];exact hp.modify nd (by rw[<-hidx];exact hi) v
 | none=>
  rw[hi] at hany;have hg:=Heap.get?_update_self (Obj.putName name (hashStr X.w name) (.str name tk) v) ho (by simp only[Obj.putName_eq,Obj.putNameByArray,hi];rfl);have he:Obj.putName name (hashStr X.w name) (.str name tk) v { cls:=.type "dict",data:=.dict es n }={ cls:=.type "dict",data:=.dict (es.push ⟨hashStr X.w name,.str name tk,v⟩) (n+1) }:=by simp only[Obj.putName_eq,Obj.putNameByArray,hi]
  rw[he] at hg;have hs:stored kvs name v=kvs++[(name,v)]:=by unfold stored;rw[hany];rfl
  have hno:name∉kvs.map (·.1):=not_mem_of_findIdx_none (by rw[<-hp.findIdx name,<-hidx];exact hi);refine za7 _ _ hg _ _ _ hg (zq rfl rfl rfl) rfl (fun e he=>?_) ?_ ?_
  .rcases Array.mem_push.mp he with he|rfl
   .exact hk e he
   .exact zc name hkey rfl
  .rw[hs,gD];exact hp.append hkey _ v
  .rw[hs,fQ,gX];refine zq nd (fU.mpr ⟨gB,.nil⟩) (fun a ha b hb e=>?_);simp at hb;subst e;subst hb;exact hno ha
theorem zj7{x C dx:Addr}{fs:List (Nat×AV)}{n:Nat}{av:AV}{v:Value}{R:AHeap->Prop}(KX:K.In X.h₀)(a:At X U s)(hx:U x=some (.inst C dx))(hd:U dx=some (.idict fs))(hn:n<zal)(rv:RepV U s.heap av v)(hz:fs.length<100)
  (hs:findIn K (.ref C) "__setattr__" = some (some (.builtin "object.__setattr__")))(hp:plainOver K C=true)(ht:takerIn K C (zy n)=some none)(hh:hasDictIn K C=true)(q:R (U.set dx (.idict (jY fs n av)))) :
  wpAny X.M A (setAttr (.ref x) (zy n) v) (fun _ s'=>∃U',At X U' s'/\Step E0 U s U' s'/\R U') E s:=by
 have KS:=KX.keeps a.keep;have I1:=a.rep _ _ hx;refine zI (a.rep _ _ hd) fun kvs hD sx hl hsm=>?_;refine jd (zgD hD) fun od es ep D e13_4 hsk hko hpr hlk=>?_;subst e13_4;have I:InstAt s.heap x { cls:=.ref C,dict:=some dx,data:=.plain } C (some { cls:=.type "dict",data:=.dict es ep }):=⟨I1,rfl,rfl,D⟩
 refine set_plain KS I hs ?_;refine osa_open (s:={ s with toks:=s.toks+1 }) KS I hp ht fun b=>?_;refine zb (any_some hh) fun cd hc hd'=>?_;refine Ga (Gb (Ga (Ga (wpAny_loadPart (s:={ s with toks:=s.toks+1 }) I1 (Ga (looks_clsIn KS hc _ _ _ _ (fun _ _ e=>e) ?_))))));rw[hd'];refine Gb (a:=some dx) (Ga (Gb (Ga ?_)));refine Ga (Ga (wpAny_askSetting (Gb (Ga (wpAny_mkText (Ga (wpAny_loadPart D ?_)))))));have c:(!es.any (·.key.isStr (zy n))&&es.any (·.refKey))=false:=by
  have:es.any (·.refKey)=false:=by
   rw[Array.any_eq_false'];intro e he;refine jc (hsk e he) fun n t h=>?_;simp[DictEntry.refKey,h]
  rw[this,fDG]
 dsimp only;rw[aRefKeyMayBeTheName_at,c];refine jx (zlK (X:=X) (h:=s.heap) D hko hpr (zdI hD) (zy n) (s.toks+1) v) fun es1 n1 D1 hD1=>?_;refine wpAny_updatePart D ?_;have hl1:es1.size<=200:=by
  refine jd hD1 fun _ es2 _ h1 _ h2 _ h3 _=>?_;have e1:=h1.symm.trans D1;obtain rfl:=G4 e1;cases h2;rw[<-gV,h3.length];have:=stored_length_le kvs (zy n) v;have:=sx.length;exact zyS hz (by assumption) this
 refine Ga (wpAny_lookBehind D1 (by exact pastItsLine_dict (by rw[Gf];exact zwt hl1)) ?_);refine Gb ?_;have sb:=Heap.SameBut.update s.heap dx (Obj.putName (zy n) (hashStr X.w (zy n)) (.str (zy n) (s.toks+1)) v);exact zv (U.set dx (.idict (jY fs n av))) (a.store _ hd rfl sb fun kv=>zgC a hd hn rv hD sx hz kv hD1) (Step.store _ hd rfl sb) q
end
@[irreducible] noncomputable def zbP(U:AHeap)(C:Addr)(v:AV)(R:Addr->Addr->List (Nat×AV)->Prop):Prop:=∃p dx fs,v = .ref p/\U p=some (.inst C dx)/\U dx=some (.idict fs)/\R p dx fs
theorem zl{U:AHeap}{C p dx:Addr}{fs:List (Nat×AV)}{R:Addr->Addr->List (Nat×AV)->Prop}(h1:U p=some (.inst C dx))(h2:U dx=some (.idict fs))(q:R p dx fs):zbP U C (.ref p) R:=by
 unfold zbP;exact jO p dx fs rfl h1 h2 q
section
variable{X:Cx}{K:Frag}{U:AHeap}{d:Dp}
def zmr(X:Cx)(C fI:Addr)(d:Dp)(args:List AV)(Q:zm)(Z:XP)(U:AHeap):Prop:=
 ∀dx x,U dx=none->U x=none->dx≠x->CallOk X fI ⟨d.n+1,d.hd⟩ (.ref x::args) (fun v U'=>v = .none/\Q (.ref x) U') Z ((U.set dx (.idict [])).set x (.inst C dx))
theorem zgu{s:Shared}(XO:X.Ok)(a:At X U s):(s.heap.objs.size==sysModules)=false:=by
 have h3:(3:Nat)<s.heap.objs.size:=by
  refine jD XO.g fun o es ep ho _=>?_;exact Heap.lt_size (a.keep _ _ ho)
 have h4:¬(s.heap.objs.size:Nat)=1:=fun e=>by rw[e] at h3;exact absurd h3 (by decide)
 exact beq_false_of_ne h4
theorem znR{C fI:Addr}{args:List AV}{Q:zm}{Z:XP}{A:Around}{s:Shared}{vs:List Value}(XO:X.Ok)(KX:K.In X.h₀)(hm:makesIn K C=true)(hi:findIn K (.ref C) "__init__" = some (some (.ref fI)))(hf:typeIn K (.ref fI)=some (.type "function"))
  (L:Live X d A)(hd:d.n<590)(a:At X U s)(r:RepVs U s.heap args vs)(h:zmr X C fI d args Q Z (vis U)):Gp X.M A (.call (.ref C) ⟨vs,[]⟩) (zs3 X U s Q Z) s:=by
 have KS:=KX.keeps a.keep;have ns:=zgu XO a;obtain⟨hp,gn,dr,tk,os⟩:=s;refine make_core (makes_of KS hm) (looks_findIn KS hi) (fun self=>bind_fn KS self hf) (.inl rfl) ?_;have n0:U hp.objs.size=none:=a.none_of_size (fM _);have n1:U (hp.objs.size+1)=none:=a.none_of_size (fBW _);have a1:At X (U.set hp.objs.size (.idict [])) ⟨hp.push emptyDict,gn,dr,tk,os⟩:=a.alloc tk fun kv=>(jN [] (Heap.DictOf.new hp) .nil (fW _) ns)
 have hsz:(hp.push emptyDict).objs.size=hp.objs.size+1:=size_push' ..;have a2:=a1.alloc (o:=instObj C hp.objs.size) (ao:=.inst C hp.objs.size) tk fun _=>Heap.get?_push_size _ rfl;have st1:Step E0 U ⟨hp,gn,dr,tk,os⟩ (U.set hp.objs.size (.idict [])) ⟨hp.push emptyDict,gn,dr,tk,os⟩:=Step.alloc a emptyDict _ tk;have st2:=st1.trans (Step.alloc (B:=E0) a1 (instObj C hp.objs.size) (.inst C hp.objs.size) tk);dsimp only at a2 st2;rw[hsz] at a2 st2;have L1:Live X ⟨d.n+1,d.hd⟩ (A.under (.builtin "type.__call__" ⟨.ref C::vs,[]⟩)):=⟨by rw[depth_under_make];have:=L.depth;show A.depth+1<=301+(d.n+1);exact ztR this,by
  show A.units+Code.cUnits (.builtin "type.__call__" ⟨.ref C::vs,[]⟩)<=20+8*(d.n+1);have h1:Code.cUnits (.builtin "type.__call__" ⟨.ref C::vs,[]⟩)<=8:=gT (by kernel_rfl);have:=L.units;exact zy4 h1 this,L.handled,by show d.n+1<=600;exact zwk hd,L.frames⟩
 have hh:=h hp.objs.size (hp.objs.size+1) (qy n0) (qy n1) (fAM (fC4 _));unfold CallOk at hh;refine Gk (hh _ _ (.ref (hp.objs.size+1)::vs) _ (by rw[jz rfl,jz rfl]) L1 a2 (.cons (.ref _) (r.mono (st2.keepV0 a)))) fun res s' hr=>?_;cases res with
 | error e=>exact liftX.back st2 hr
 | ok fl=>
  cases fl with
  | next=>exact hr.elim
  | brk=>exact hr.elim
  | cont=>exact hr.elim
  | ret v=>
   refine zt hr fun av U' rv a' st' e2_5 q=>?_;subst e2_5;obtain rfl:=RepV.wL rv;exact zcQ rfl (.ref (hp.objs.size+1)) U' (.ref _) a' (st2.trans st') q
end
noncomputable def kF(x:Str):Option Nat:=strT.findIdx? fun y=>x==y
theorem jv{x:Str}{n:Nat}(h:kF x=some n):n<zal/\zy n=x:=by
 obtain⟨h1,h2,_⟩:=List.findIdx?_eq_some_iff_getElem.mp h;refine⟨h1,?_⟩;unfold zy;rw[fT,fV h1];exact(beq_iff_eq.mp h2).symm
theorem zfX{x:Str}(h:kF x=none):x∉strT:=fun q=>by
 have:=List.findIdx?_eq_none_iff.mp h x q;simp at this
noncomputable def zre(fs:List (Nat×AV))(nc:Option Nat):Bool:=match nc with
 | some n=>(kP fs n).isNone
 | none=>true
namespace A
def zsL(C:Addr)(n:Nat)(Q:zm):zm:=fun v σ1=>zbP σ1 C v fun _ _ fs=>zw (kP fs n) (kAt Q σ1)
def zvA(X:Cx)(f:Addr)(d:Dp)(p:Addr)(Q:zm)(Z:XP):List AV->AHeap->Prop:=fun as σ2=>CallOk X f d (.ref p::as) Q Z σ2
def kMc(X:Cx)(C:Addr)(nc:Option Nat)(f:Addr)(ms:List AE)(d:Dp)(l:Loc)(Q:zm)(Z:XP):zm:=fun v σ1=>zbP σ1 C v fun p _ fs=>onB (zre fs nc) (zbB ms d l (zvA X f d p Q Z) Z σ1)
def zvE(C:Addr)(n:Nat)(l:Loc)(Q:jt)(av:AV):zm:=fun v σ2=>zbP σ2 C v fun _ dx fs=>onB (Nat.blt fs.length 100) (Q .next l (σ2.set dx (.idict (jY fs n av))))
def kSa(C:Addr)(n:Nat)(x:AE)(d:Dp)(l:Loc)(Q:jt)(Z:SXP):zm:=fun av σ1=>x d l (zvE C n l Q av) (kZ Z l) σ1
def wR(C:Addr)(n:Nat)(x:AE):AE:=fun d l Q Z U=>x d l (zsL C n Q) Z U
def wO(X:Cx)(C:Addr)(nc:Option Nat)(f:Addr)(x:AE)(ms:List AE):AE:=fun d l Q Z U=>x d l (kMc X C nc f ms d l Q Z) Z U
def wV(C:Addr)(n:Nat)(x mv:AE):AS:=fun d l Q Z U=>mv d l (kSa C n x d l Q Z) (kZ Z l) U
def new(X:Cx)(C fI:Addr)(ms:List AE):AE:=fun d l Q Z U=>zbB ms d l (fun as U'=>d.n<590/\zmr X C fI d as Q Z U') Z U
end A
section
variable{X:Cx}{K:Frag}{env:Env}{nm:List (Str×Nat)}{names:List (Str×NameKind)}
theorem zgg{C:Addr}{v:AV}{U:AHeap}{R:Addr->Addr->List (Nat×AV)->Prop}(h:zbP (vis U) C v R):∃p dx fs,v = .ref p/\U p=some (.inst C dx)/\U dx=some (.idict fs)/\R p dx fs:=by
 unfold zbP at h;obtain⟨p,dx,fs,e,h1,h2,q⟩:=h;exact jO p dx fs e ((zK h1).1) ((zK h2).1) q
theorem zrF{C:Addr}{n:Nat}{name:Str}{o:Expr}{x:AE}{pos:Pos}(G:Gd X K)(hn:n<zal)(hs:zy n=name)(hg:plainGet K C name=true)(hh:hasDictIn K C=true)(hc:findIn K (.ref C) name=some none)(hb:∀e,attributeBase o name e (eval o e)=eval o e)(hx:zh X env nm o x) :
  zh X env nm (.Attribute o name pos) (A.wR C n x):=fun d A l U s Q Z L a F q=>by
 rw[arm_eval_Attribute,hb];subst hs;refine Ga (zak (hx d A l U s _ Z L a F q) fun av v σ1 s1 rv a1 st1 q1=>?_);obtain⟨p,dx,fs,rfl,hp,hd,q1⟩:=zgg q1;obtain⟨av,hf,q1⟩:=zg q1;obtain rfl:=RepV.wM rv;refine Ga (Gm ?_);refine Ga (Ge (Gc (jX st1 (zpR (Q:=Q) (E:=liftX X σ1 s1 Z) G.inn a1 hp hd hn hf hg hh hc q1)) (fun r s2 h2=>?_) fun _ _ e=>e));exact Ga (wpAny_letTemporaryGo (Gb h2))
theorem zpL{C f:Addr}{name:Str}{o:Expr}{es:List Expr}{ms:List AE}{x:AE}{apos pos:Pos}{ob:Obj}{fd:FuncData}(G:Gd X K)(hg:plainGet K C name=true)(hf:findIn K (.ref C) name=some (some (.ref f)))(ht:PySem.W.isFn K (.ref f)=true)(ho:K.lookup f=some ob)(hfd:ob.data = .func fd)
  (hb:∀e,attributeBase o name e (eval o e)=eval o e)(hl:(apos.endLine==pos.line)=true)(hn:decide (es.length<30)=true)(hx:zh X env nm o x)(h:SoundEs X env nm es ms) :
  zh X env nm (.Call (.Attribute o name apos) es [] pos) (A.wO X C (kF name) f x ms):=fun d A l U s Q Z L a F q=>by
 rw[arm_eval_Call,hb];refine Ga (zak (hx d A l U s _ Z L a F q) fun av v σ1 s1 rv a1 st1 q1=>?_);obtain⟨p,dx,fs,rfl,hp,hd,q1⟩:=zgg q1;obtain⟨hno,q1⟩:=qP q1;obtain rfl:=RepV.wM rv;refine Ga (Gm ?_);have h1:(backTo pos (starEach es env)).all (fun x=>!x.1)=true:=by
  rw[List.all_eq_not_any_not];simp only[Bool.not_not];rw[h.plain];rfl
 have hform:methodCallForm (es.length+([]:List Keyword).length) (backTo pos (starEach es env)) (backToKw pos (keywordEach [] env))=true:=by
  unfold methodCallForm;rw[h1];show (true&&true&&decide (es.length+0+0<30))=true
  simpa using hn
 have hpos:methodCallPos true o env apos pos=pure pos:=by unfold methodCallPos;simp[hl]
 obtain⟨od,I,k1⟩:∃od:Obj,InstAt s1.heap p { cls:=.ref C,dict:=some dx,data:=.plain } C (some od)/\lookIn name od=some none:=by
  cases hc:kF name with
  | none=>exact a1.instNo hp hd (zfX hc)
  | some n=>
   obtain⟨c1,rfl⟩:=jv hc;refine zb (a1.inst hp hd) fun od I hlk=>?_;obtain⟨r,h2,h3⟩:=hlk n c1;rw[hc] at hno
   rcases h3 with⟨_,rfl⟩|⟨_,_,h3,_⟩
   .exact zc od I h2
   .have hno:(kP fs n).isNone=true:=hno;rw[h3] at hno;cases hno
 unfold methodCall;rw[hform];refine Ga (Ge (method_fn (G.inn.keeps a1.keep) I (plainGet_of hg).1 (plainGet_of hg).2 hf (beq_iff_eq.mp ht) (by show (lookIn name od).map _=_;rw[k1];rfl) ?_));refine Ga (wpAny_of_eq hpos ?_);refine callWith_function_kw (o:=ob) (fd:=fd) (Gc (qE h L a1 (F.step a st1) q1 fun vs s2 hv=>?_) (fun _ _ x=>x) fun _ _ x=>x.back st1);refine zj hv fun avs σ2 r2 a2 st2 q2=>?_;refine⟨⟨a2.keep _ _ (G.inn _ _ ho),hfd⟩,?_⟩;exact jX (st1.trans st2) (q2.call L a2 (.cons (.ref p) r2))
theorem zpM{C:Addr}{n:Nat}{name:Str}{o value:Expr}{x mv:AE}{pos' pos:Pos}(G:Gd X K)(hn:n<zal)(hsn:zy n=name)(hs:findIn K (.ref C) "__setattr__" = some (some (.builtin "object.__setattr__")))(hp:plainOver K C=true)(ht:takerIn K C name=some none)(hh:hasDictIn K C=true)
  (hw:swapsWith value (some (.Attribute o name pos')) pos.line env=pure false)(hv:zh X env nm value mv)(hx:zh X env nm o x) :
  jl X env nm (.Assign [.Attribute o name pos'] value pos) (A.wV C n x mv):=fun d A l U s Q Z L a F q=>by
 subst hsn;refine plainObj_wpAny_Assign_Attribute (Gc (hv d A l U s _ _ L a F q) (fun v s1 x=>?_) fun _ _ x=>x.toS a F) hw;refine zj x fun av σ1 rv a1 st1 q1=>?_;have F1:=F.step a st1;have st1':=st1.weaken (B':=FB env) FB.wP;refine Gc (hx d A l σ1 s1 _ _ L a1 F1 q1) (fun u s2 x=>?_) fun _ _ x=>(x.toS a1 F1).back st1';refine zj x fun bv σ2 ru a2 st2e q2=>?_;obtain⟨p,dx,fs,rfl,h1,h2,q2⟩:=zgg q2;obtain⟨h3,q2⟩:=qP q2;obtain rfl:=RepV.wM ru;have F2:=F1.step a1 st2e;have st2':=st1'.trans (st2e.weaken (B':=FB env) FB.wP);refine Gc (zj7 (R:=fun U'=>U'=σ2.set dx (.idict (jY fs n av))) G.inn a2 h1 h2 hn (rv.mono (st2e.keepV0 a1)) (fDK.mp h3) hs hp ht hh rfl) (fun _ s3 x=>?_) fun _ _ e=>e;refine zk x fun σ3 a3 st3 e17_3=>?_;subst e17_3;exact zM .next l _ trivial a3 (F2.step a2 st3) (st2'.trans (st3.weaken FB.wP)) (by rw[jz rfl];exact q2)
theorem ztg{g:Str}{C fI:Addr}{es:List Expr}{ms:List AE}{gp pos:Pos}(G:Gd X K)(E:EK env names)(hc:nsIn K Gr g=some (some (.ref C)))(hg:qs names g=true)(hkp:keepIn K (.ref C)=true)(hm:makesIn K C=true)
  (hi:findIn K (.ref C) "__init__" = some (some (.ref fI)))(hf:typeIn K (.ref fI)=some (.type "function"))(h:SoundEs X env nm es ms) :
  zh X env nm (.Call (.Name g gp) es [] pos) (A.new X C fI ms):=fun d A l U s Q Z L a F q=>by
 refine Call_ (q9 G.ok E.eo a (E.glob hg).1 (E.glob hg).2 (mg_of G.inn G.ok.g hc) ?_);refine callWith_of (P:=fun h=>K.In h) (by rw[h.plain];rfl) (fun hp X'=>keeps_K hkp hp X') (qE h L a F q fun vs s1 hv=>?_);refine zt hv fun avs σ1 r a1 st hd q1=>?_;refine⟨G.inn.keeps a1.keep,?_⟩;exact jX st (wpAny_call (Gk (znR G.ok G.inn hm hi hf L hd a1 r q1) fun res s' x=>x))
end
def A.wI:AS:=fun _ _ _ _ _=>False
theorem zih{X:Cx}{env:Env}{nm:List (Str×Nat)}{st:Stmt}:jl X env nm st A.wI:=fun _ _ _ _ _ _ _ _ _ _ q=>q.elim
@[irreducible] noncomputable def zh9(p:Addr)(k x:AV)(R:AHeap->Prop)(U:AHeap):Prop:=(∃kvs row,U p=some (.tdict kvs)/\k=zA row/\kvs.length<1000000/\R (U.set p (.tdict (Tab.put kvs row x))))\/
 (∃fs n,U p=some (.idict fs)/\k = .str n/\fs.length<100/\R (U.set p (.idict (jY fs n x))))\/
 (∃xs i,U p=some (.list xs)/\k = .int i/\0<=i/\i.toNat<xs.length/\R (U.set p (.list (xs.set i.toNat x))))
theorem zes{p:Addr}{kvs:Tab}{row:List zd}{x:AV}{R:AHeap->Prop}{U:AHeap}(h:U p=some (.tdict kvs))(hl:kvs.length<1000000)(q:R (U.set p (.tdict (Tab.put kvs row x)))):zh9 p (zA row) x R U:=by
 unfold zh9;exact .inl (zr kvs row h rfl hl q)
theorem zcv{p:Addr}{fs:List (Nat×AV)}{n:Nat}{x:AV}{R:AHeap->Prop}{U:AHeap}(h:U p=some (.idict fs))(hl:fs.length<100)(q:R (U.set p (.idict (jY fs n x)))):zh9 p (.str n) x R U:=by
 unfold zh9;exact .inr (.inl (zr fs n h rfl hl q))
noncomputable def zj3(kvs:List (AV×AV))(fs:List (Nat×AV)):Option (List (Nat×AV)):=match kvs with
 | []=>some fs
 | p::r=>p.1.str?.bind fun n=>zj3 r (jY fs n p.2)
def zjx(ps:List (AE×AE))(d:Dp)(l:Loc)(Q:List (AV×AV)->AHeap->Prop)(Z:XP)(U:AHeap):Prop:=match ps with
 | []=>Q [] U
 | p::r=>p.1 d l (fun k σ1=>p.2 d l (fun v σ2=>zjx r d l (fun kvs σ3=>Q ((k,v)::kvs) σ3) Z σ2) Z σ1) Z U
namespace A
def kD4(l:Loc)(S:jt)(σ4:AHeap):Prop:=S .next l σ4
def kD3(a b:AV)(l:Loc)(S:jt):zm:=fun c σ3=>znU b fun p=>zh9 p c a (kD4 l S) σ3
def kD2(k:AE)(a:AV)(d:Dp)(l:Loc)(S:jt)(SZ:SXP):zm:=fun b σ2=>k d l (kD3 a b l S) (kZ SZ l) σ2
def kD1(x k:AE)(d:Dp)(l:Loc)(S:jt)(SZ:SXP):zm:=fun a σ1=>x d l (kD2 k a d l S SZ) (kZ SZ l) σ1
def wS(v x k:AE):AS:=fun d l S SZ U=>v d l (kD1 x k d l S SZ) (kZ SZ l) U
def dic(ps:List (AE×AE)):AE:=fun d l Q Z U=>∀r,U r=none->zjx ps d l (fun kvs σ1=>σ1 r=some (.idict [])/\zw (zj3 kvs []) fun fs=>Q (.ref r) (σ1.set r (.idict fs))) Z (U.set r (.idict []))
def dT0:AE:=fun d l Q Z U=>∀r,U r=none->Q (.ref r) (U.set r (.tdict []))
def dT1(k v:AE):AE:=fun d l Q Z U=>∀r,U r=none->k d l (fun a σ1=>v d l (fun b σ2=>∃row,a=zA row/\σ2 r=some (.tdict [])/\Q (.ref r) (σ2.set r (.tdict [(row,b)]))) Z σ1) Z (U.set r (.tdict []))
end A
section
variable{X:Cx}{env:Env}{nm:List (Str×Nat)}{U:AHeap}{s:Shared}{d:Dp}{A:Around}{E:Value->Shared->Prop}
theorem zns{p:Addr}{us:List Value}{n:Nat}{i:Int}{tk:Tok}{v:Value}{Q:Unit->Shared->Prop}(ho:s.heap.get? p=some (zR us n))(h0:0<=i)(hi:i.toNat<us.length)(hl:us.length<=1000000)(q:Q () { s with heap:=s.heap.update p (Obj.mapSeq (·.setIfInBounds i.toNat v)) }):wpAny X.M A (setItem (.ref p) (.int i tk) v) Q E s:=by
 have hL:s.heap.IsList p us.toArray:=(qo _ ho rfl n rfl)
 obtain⟨y,hx⟩:∃y,us.toArray[i.toNat]? = some y:=⟨us[i.toNat],by simp[hi]⟩
 have hfit:i<2 ^ 63:=by lia
 unfold setItem
 try with_reducible refine Ge ?_
 first|refine Ga (Gb ?_)|skip
 refine Ga (wpAny_sequenceKey hL.typeIs (by decide) ?_);refine Ga (wpAny_callSpecial?_slot (name:=Str.ofString "__setitem__") hL.typeIs slot_list_setitem (Gi slot_list_setitem hL.typeIs entry_list_setitem ?_ (args_list_setitem _ _ _)));show wpAny _ _ (Builtin.List.listSubscript? (.int i tk) >>= _) _ _ s;refine Ga (wpAny_listSubscript_int (fitsIndex_of h0 hfit) ?_);clear hfit;obtain⟨j,rfl⟩:=fAB h0;refine Ga (Ga (wpAny_seqItemAt ho rfl (Gb ?_)));rw[fCU] at hx q;rw[hx];refine Ga (wpAny_setSeqItemAt ho rfl ?_)
 first
  | exact Ga (Gb (Gb (zc .none rfl (Gb q))))
  | exact Gb ⟨.none,rfl,Gb q⟩
theorem RepVs.set{h:Heap}{xs:List AV}{vs:List Value}(r:RepVs U h xs vs){x:AV}{v:Value}(rx:RepV U h x v):∀n,RepVs U h (xs.set n x) (vs.set n v):=by
 induction xs generalizing vs with
 | nil=>intro n;obtain rfl:=RepVs.wG r;exact .nil
 | cons y xs ih=>
  obtain⟨_,_,rfl,a,r⟩:=RepVs.wE r;intro n;cases n with
  | zero=>exact .cons rx r
  | succ n=>exact .cons a (ih r n)
theorem zlL{p:Addr}{k x:AV}{u v:Value}{R:AHeap->Prop}(L:Live X d A)(a:At X U s)(rk:RepV U s.heap k u)(rv:RepV U s.heap x v)(q:zh9 p k x R (vis U)):wpAny X.M A (setItem (.ref p) u v) (fun _ s'=>∃U',At X U' s'/\Step E0 U s U' s'/\R (vis U')) E s:=by
 unfold zh9 at q
 rcases q with⟨kvs,row,hp,rfl,hl,q⟩|⟨fs,n,hp,rfl,hl,q⟩|⟨xs,i,hp,rfl,h0,hi,q⟩
 .exact zpF L a (zK hp).1 rk rv hl fun s' a' st=>(zv _ a' st (by rw[jz rfl];exact q))
 .exact zry a (zK hp).1 rk rv hl fun s' a' st=>(zv _ a' st (by rw[jz rfl];exact q))
 .have hp:=(zK hp).1;refine zp (a.rep _ _ hp) fun us n ho ru hl=>?_;obtain⟨tk,rfl⟩:=RepV.wC rk;have hlen:=ru.length;refine zns ho h0 (zvV hi hlen) (ztY hl hlen) ?_;refine zj (zbZ (Q:=fun _ U'=>R U') (ys:=xs.set i.toNat x) (ws:=us.set i.toNat v) (x:=.none) (v:=.none) a hp ho (·.setIfInBounds i.toNat v) (by simp) (ru.set rv _) (by rw[List.length_set];exact hl) .none q) fun av U' r' a' st' q'=>?_;exact zv U' a' st' q'
end
section
variable{X:Cx}{env:Env}{nm:List (Str×Nat)}{U:AHeap}{s:Shared}
theorem zjR{o i value:Expr}{pos' pos:Pos}{mv mx mk:AE}(hv:zh X env nm value mv)(hx:zh X env nm o mx)(hk:zh X env nm i mk)(hs:swapsWith value (some (.Subscript o i pos')) pos.line env=pure false) :
  jl X env nm (.Assign [.Subscript o i pos'] value pos) (A.wS mv mx mk):=fun d A l U s Q Z L a F q=>by
 refine wpAny_Assign_Subscript (Gc (hv d A l U s _ _ L a F q) (fun v s1 x=>?_) fun _ _ x=>x.toS a F) hs;refine zj x fun av σ1 rv a1 st1 q1=>?_;have F1:=F.step a st1;have st1':=st1.weaken (B':=FB env) FB.wP;refine Gc (hx d A l σ1 s1 _ _ L a1 F1 q1) (fun u s2 x=>?_) fun _ _ x=>(x.toS a1 F1).back st1';refine zj x fun bv σ2 ru a2 st2e q2=>?_;have F2:=F1.step a1 st2e;have st2':=st1'.trans (st2e.weaken (B':=FB env) FB.wP);refine Gc (hk d A l σ2 s2 _ _ L a2 F2 q2) (fun w s3 x=>?_) fun _ _ x=>(x.toS a2 F2).back st2';refine zj x fun cv σ3 rw_ a3 st3e q3=>?_;have F3:=F2.step a2 st3e;have st3':=st2'.trans (st3e.weaken (B':=FB env) FB.wP);have rv3:=(rv.mono (st2e.keepV0 a1)).mono (st3e.keepV0 a2);have ru3:=ru.mono (st3e.keepV0 a2);refine zb (zh3 q3) fun p e8_1 q3=>?_;subst e8_1;obtain rfl:=RepV.wM ru3;refine Gc (zlL L a3 rw_ rv3 q3) (fun _ s4 x=>?_) fun _ _ e=>e;refine zk x fun σ4 a4 st4 q4=>?_;exact zM .next l _ trivial a4 (F3.step a3 st4) (st3'.trans (st4.weaken FB.wP)) q4
theorem znQ(XO:X.Ok)(a:At X U s):At X (U.set s.heap.objs.size (.tdict [])) { s with heap:=s.heap.push { cls:=.type "dict",data:=.dict #[] } }/\Step E0 U s (U.set s.heap.objs.size (.tdict [])) { s with heap:=s.heap.push { cls:=.type "dict",data:=.dict #[] } }:=
 ⟨a.alloc s.toks fun _=>(jr (#[]) 0 (Heap.get?_push_size _ rfl) .nil .nil (by simp) (zgu XO a)),Step.alloc a _ _ s.toks⟩
theorem zsX(XO:X.Ok)(a:At X U s):At X (U.set s.heap.objs.size (.idict [])) { s with heap:=s.heap.push { cls:=.type "dict",data:=.dict #[] } }/\Step E0 U s (U.set s.heap.objs.size (.idict [])) { s with heap:=s.heap.push { cls:=.type "dict",data:=.dict #[] } }:=
 ⟨a.alloc s.toks fun _=>(jN [] (Heap.DictOf.new _) .nil (fW _) (zgu XO a)),Step.alloc a _ _ s.toks⟩
theorem zlW{pos:Pos}(XO:X.Ok):zh X env nm (.Dict [] [] pos) A.dT0:=fun d A l U s Q Z L a F q=>by
 have h:=znQ XO a;exact wpAny_Dict_empty (zr (.ref _) _ (.ref _) h.1 h.2 (by rw[jz rfl];exact q _ (qy (a.none_of_size (fM _)))))
theorem zlX{ke ve:Expr}{pos:Pos}{mk mv:AE}(XO:X.Ok)(hk:zh X env nm ke mk)(hv:zh X env nm ve mv):zh X env nm (.Dict [some ke] [ve] pos) (A.dT1 mk mv):=fun d A l U s Q Z L a F q=>by
 have hn:=znQ XO a;have a0:=hn.1;have st0:=hn.2;refine wpAny_Dict_any rfl rfl (by simp) (by simp) ?_;have F0:=F.step a st0;have q0:=q _ (qy (a.none_of_size (fM _)));rw[<-jz rfl] at q0;show wpAny X.M A (do
  let kv <-eval ke env
  let vv <-holding [kv] (do let x <-eval ve env;standAt pos;pure x)
  return (kv,vv)::(<-holding [kv,vv] (evalPairs []))) _ _ _
 refine Ga (Gc (hk d A l _ _ _ _ L a0 F0 q0) (fun kv s1 x=>?_) fun _ _ x=>x.back st0);refine zj x fun ak σ1 rk a1 st1 q1=>?_;refine Ga (Ge (Ga (Gc (hv d A l σ1 s1 _ _ L a1 (F0.step a0 st1) q1) (fun vv s2 x=>?_) fun _ _ x=>x.back (st0.trans st1))));refine zj x fun ax σ2 rx a2 st2 q2=>?_;refine Ga (Gm (Gb (Ga (Ge (Gb (Gb ?_))))));have rk2:=rk.mono (st2.keepV0 a1);refine zk q2 fun row e12_1 hp q3=>?_;subst e12_1;refine Gh _ (fun rest _ s'=>(rest=[(kv,vv)]/\s'=s2)\/(rest=[]/\∃σ3,At X σ3 s'/\Step E0 σ2 s2 σ3 s'/\Q (.ref s.heap.objs.size) (vis σ3))) _ ?_ ?_ _ _ (.inl ⟨rfl,rfl⟩)
 .rintro x rest b s' (⟨e,rfl⟩|⟨e,_⟩)
  .cases e;exact Ga (zpE L a2 (zK hp).1 rk2 rx (by decide) fun s4 a4 st4=>Gb (.inr (zgc rfl _ a4 st4 (by rw[jz rfl];exact q3))))
  .cases e
 .rintro b s' (⟨e,_⟩|⟨_,σ3,a3,st3,q4⟩)
  .cases e
  .exact zr (.ref _) σ3 (.ref _) a3 (st0.trans (st1.trans (st2.trans st3))) q4
inductive SoundPs(X:Cx)(env:Env)(nm:List (Str×Nat)):List (Option Expr)->List Expr->List (AE×AE)->Prop
 | nil:SoundPs X env nm [] [] []
 | cons {k v ks vs mk mv ms}:zh X env nm k mk->zh X env nm v mv->SoundPs X env nm ks vs ms->SoundPs X env nm (some k::ks) (v::vs) ((mk,mv)::ms)
inductive RepPs(U:AHeap)(h:Heap):List (AV×AV)->List (Value×Value)->Prop
 | nil:RepPs U h [] []
 | cons {k x u v kvs uvs}:RepV U h k u->RepV U h x v->RepPs U h kvs uvs->RepPs U h ((k,x)::kvs) ((u,v)::uvs)
theorem RepPs.mono{U':AHeap}{h h':Heap}(k:KeepV U h U' h'){kvs:List (AV×AV)}{uvs:List (Value×Value)}(r:RepPs U h kvs uvs):RepPs U' h' kvs uvs:=by
 induction r with
 | nil=>exact .nil
 | cons a b _ ih=>exact .cons (a.mono k) (b.mono k) ih
theorem zh4{pos:Pos}{ks:List (Option Expr)}{vs:List Expr}{ms:List (AE×AE)}(h:SoundPs X env nm ks vs ms):∀{d A l U s Q Z},Live X d A->At X U s->FR X env nm l U s.heap->zjx ms d l Q Z (vis U)->
  wpAny X.M A (evalPairs (pairTrees ks vs env pos)) (fun uvs s'=>∃kvs U',kvs.length=ms.length/\RepPs U' s'.heap kvs uvs/\At X U' s'/\Step E0 U s U' s'/\Q kvs (vis U')) (liftX X U s Z) s:=by
 induction h with
 | nil=>intro d A l U s Q Z L a F q;exact evalPairs_nil ⟨[],U,rfl,.nil,a,.refl ..,q⟩
 | @cons k v ks vs mk mv ms hk hv r ih=>
  intro d A l U s Q Z L a F q;refine evalPairs_cons (Gc (hk d A l U s _ Z L a F q) (fun kv s1 x=>?_) fun _ _ x=>x);refine zj x fun ak σ1 rk a1 st1 q1=>?_;refine Ga (Gc (hv d A l σ1 s1 _ Z L a1 (F.step a st1) q1) (fun vv s2 x=>?_) fun _ _ x=>x.back st1);refine zj x fun ax σ2 rx a2 st2 q2=>?_;refine Ga (Gm (Gb ?_));refine Gc (ih L a2 ((F.step a st1).step a1 st2) q2) (fun uvs s3 x=>?_) fun _ _ x=>x.back (st1.trans st2);refine zt x fun kvs σ3 hl3 r3 a3 st3 q3=>?_;exact jr ((ak,ax)::kvs) σ3 (by rw[fH,fH,hl3]) (.cons ((rk.mono (st2.keepV0 a1)).mono (st3.keepV0 a2)) (rx.mono (st3.keepV0 a2)) r3) a3 (st1.trans (st2.trans st3)) q3
theorem ziq{A:Around}{E:Value->Shared->Prop}{p:Addr}:∀{uvs:List (Value×Value)} {kvs:List (AV×AV)} {fs gs:List (Nat×AV)} {U:AHeap} {s:Shared} {S:PUnit->Shared->Prop},At X U s->RepPs U s.heap kvs uvs->U p=some (.idict fs)->zj3 kvs fs=some gs->fs.length+kvs.length<100->
  (∀U' s',At X U' s'->Step E0 U s U' s'->vis U'=(vis U).set p (.idict gs)->S PUnit.unit s')->wpAny X.M A (storeAll p uvs) S E s:=by
 intro uvs;unfold storeAll
 induction uvs with
 | nil=>
  intro kvs fs gs U s S a r hp ht hl q;cases r;cases ht;refine Gb (q U s a (.refl ..) ?_)
  funext b
  by_cases hb:b=p
  .subst hb;rw[AHeap.wA];exact zj4 hp rfl
  .rw[AHeap.wB _ _ hb]
 | cons uv uvs ih=>
  intro kvs fs gs U s S a r hp ht hl q;cases r with
  | @cons k x u v kvs _ rk rx r=>
   refine zb (fAA.mp ht) fun n h1 h2=>?_;have h1:=zpz h1;have h1:k = .str n:=h1;subst h1;rw[fH] at hl;rw[List.forIn_cons];refine Ga (Ga (zrx a hp rk rx (zw1 hl) fun s1 a1 st1=>Gb ?_));have:=zc8 fs n x;refine ih a1 (r.mono (st1.keepV0 a)) (AHeap.wA ..) h2 (zyw hl this) fun U' s' a' st' e=>q U' s' a' (st1.trans st') ?_;rw[e,jz rfl]
   funext b
   by_cases hb:b=p
   .subst hb;rw[AHeap.wA,AHeap.wA]
   .rw[AHeap.wB _ _ hb,AHeap.wB _ _ hb,AHeap.wB _ _ hb]
theorem SoundPs.all{ks:List (Option Expr)}{vs:List Expr}{ms:List (AE×AE)}(h:SoundPs X env nm ks vs ms):ks.all (·.isSome)=true/\ks.length=vs.length/\ms.length=ks.length:=by
 induction h with
 | nil=>exact⟨rfl,rfl,rfl⟩
 | cons _ _ _ ih=>exact zq (by simpa using ih.1) (by rw[fH,fH,ih.2.1]) (by rw[fH,fH,ih.2.2])
theorem zlY{ks:List (Option Expr)}{vs:List Expr}{pos:Pos}{ms:List (AE×AE)}(XO:X.Ok)(h:SoundPs X env nm ks vs ms)(hl:ks.length<=15):zh X env nm (.Dict ks vs pos) (A.dic ms):=fun d A l U s Q Z L a F q=>by
 have hn:=zsX XO a;have a0:=hn.1;have st0:=hn.2;have q0:=q _ (qy (a.none_of_size (fM _)));rw[<-jz rfl] at q0
 by_cases he:ks=[]
 .subst he;cases h;obtain⟨_,q1⟩:=q0;refine wpAny_Dict_empty (zr (.ref _) _ (.ref _) a0 st0 ?_);have e:(vis (U.set s.heap.objs.size (.idict []))).set s.heap.objs.size (.idict [])=vis (U.set s.heap.objs.size (.idict [])):=by
   rw[jz rfl]
   funext b
   by_cases hb:b=s.heap.objs.size
   .subst hb;rw[AHeap.wA,AHeap.wA]
   .rw[AHeap.wB _ _ hb]
  rw[<-e];exact q1
 .have ha:=h.all;refine wpAny_Dict_any ha.1 ha.2.1 he hl ?_;refine Gc (zh4 h L a0 (F.step a st0) q0) (fun uvs s1 x=>?_) fun _ _ x=>x.back st0;refine zdO x fun kvs σ1 hkl0 r1 a1 st1 hp q1=>?_;refine zb (zg q1) fun fs ht q2=>?_;have hkl:kvs.length<100:=by have:=ha.2.2;lia
  exact ziq a1 r1 (zK hp).1 ht (by simpa using hkl) fun σ2 s2 a2 st2 e=>(zr (.ref _) σ2 (.ref _) a2 (st0.trans (st1.trans st2)) (by rw[e];exact q2))
end
noncomputable def zdw(e:Expr):Bool:=!(Nat.beq e.ctorIdx 8||Nat.beq e.ctorIdx 9||Nat.beq e.ctorIdx 10)
theorem zdl{e:Expr}(h:zdw e=true)(t:Option Expr)(line:Nat)(env:Env):swapsWith e t line env=pure false:=by
 cases e<;>first|rfl|exact nob h
theorem zjZ(e:Expr)(o:Expr)(x:Str)(p:Pos)(line:Nat)(env:Env):swapsWith e (some (.Attribute o x p)) line env=pure false:=by
 cases e<;>rfl
theorem zmh(e:Expr)(o i:Expr)(p:Pos)(line:Nat)(env:Env):swapsWith e (some (.Subscript o i p)) line env=pure false:=by
 cases e<;>rfl
noncomputable def zc0:Expr->Bool
 | .Call f _ _ _=>(match f with
  | .Name ..=>false
  | _=>true)
 | _=>true
theorem zbH{o:Expr}(h:zc0 o=true)(name:Str)(env:Env)(w:Sem Value):attributeBase o name env w=w:=by
 cases o with
 | Call f _ _ _=>cases f<;>first|rfl|exact nob h
 | _=>rfl
noncomputable def veB:List Value:=[.type "ValueError",.type "Exception",.type "BaseException",.type "object"]
structure ExcCls(h:Heap)(C:Addr)(tl:List Addr):Prop where
 ex:∃nm q N bs hdct sn sub ab col dd k0 k1 k2 k3 k5 mN,h.get? C=some (excClassObj nm q C N bs (tl.map .ref++veB) hdct sn sub ab col dd k0 k1 k2 k3 k5 "ValueError.__new__")/\h.Ns N mN/\mN "__init__" = none/\OwnTail h veB (tl.map .ref++veB)
theorem zkO(tl:List Addr):(tl.map Value.ref++veB).contains (.type "BaseException")=true:=by
 induction tl with
 | nil=>rfl
 | cons a r ih=>rw[gF,List.cons_append,List.contains_cons,ih,Bool.or_true]
namespace A
def wU(C:Addr):AS:=fun d l _ SZ U=>w1 d (SZ C l U)
def vG(b:AS)(hits:List Addr)(n:Option Nat)(h:AS):AS:=fun d l S SZ U=>w1 d (b d l S (fun c l' U'=>onB (hits.contains c) (match n with
 | none=>h ⟨d.n,true⟩ l' S (fun _ _ _=>False) U'
 | some i=>h ⟨d.n,true⟩ (l'.set i (some (.exc c))) (fun f l'' U''=>S f (l''.set i none) U'') (fun _ _ _=>False) U')) U)
end A
section
variable{X:Cx}{env:Env}{nm:List (Str×Nat)}
theorem zii{x:Str}{C:Addr}{tl:List Addr}{t:Str}{k:Nat}{np cp cpos pos:Pos}(XO:X.Ok)(EO:EnvOk env)(hx:env.kindOf x=some .globalImplicit)(hd:(x==("__debug__" : Str))=false)(hv:X.mg x=some (.ref C))(hC:ExcCls X.h₀ C tl) :
  jl X env nm (.Raise (some (.Call (.Name x np) [.Constant (.str t) k cp] [] cpos)) none pos) (A.wU C):=fun d A l U s Q Z L a F q=>by
 obtain⟨hh,q⟩:=zaE q;refine qn hC.ex fun nmC qC N bs hdct sn sub ab col dd k0 k1 k2 k3 k5 mN h1 h2 h3 h4=>?_;refine zW (wpAny_Raise_call_subT (nm:=nmC) (q:=qC) (bs:=bs) (hdct:=hdct) (sn:=sn) (sub:=sub) (ab:=ab) (col:=col) (dd:=dd) (k0:=k0) (k1:=k1) (k2:=k2) (k3:=k3) (k5:=k5) (C:=C) (N:=N) (bm:=tl.map .ref++veB) (bmB:=veB) (mN:=mN) PySem.F.excBase_ValueError (zkO tl) (L.handled hh) rfl h3 (q9 XO EO a hx hd hv ⟨rfl,?_⟩));refine Calls.evalArgs_plain ?_;refine Calls.spliced_cons ?_;refine wpAny_mkText (Calls.spliced_nil ?_);refine jI rfl (by show 1<=sizeLine;rw[Gf];decide) (a.keep _ _ h1) (h2.keeps a.keep) (h4.keeps a.keep) (fun h' e hm hz=>?_);have kp:∀b o,s.heap.get? b=some o->h'.get? b=some o:=hm.keeps;refine zk hm.there fun tu he _ _=>?_;have st:Step E0 U s U { s with heap:=h',toks:=s.toks+1 }:=.grown U _ kp hz;have a':At X U { s with heap:=h',toks:=s.toks+1 }:=a.grown _ kp;have F':=F.step a st;have ex:∃vs,h'.get? e=some (exO C vs):=⟨_,he⟩
 exact qq C l U e h' rfl ⟨fun o eo=>(by rw[show s.heap.get? e=none from hm.new] at eo;cases eo),FB.w6 F' ex⟩ a' F' (st.weaken FB.wP) ⟨fun b o eb _=>⟨o.slots,eb⟩,fun b o eb _ _=>eb,ex,fM _,_,he,.inl rfl⟩ q
end
section
variable{M:Model}{A:Around}{E:Value->Shared->Prop}{h:Heap}{g:Array GenState}{d:Drawn}{t:Nat}{os:OsState}{C':Addr}{tl tl':List Addr}
theorem zk8{e c:Addr}{oe:Obj}{Q:Bool->Shared->Prop}(hC:ExcCls h c tl)(hC':ExcCls h C' tl')(he:h.get? e=some oe)(hcls:oe.cls = .ref c)(hq:Q ((Value.ref c::(tl.map Value.ref++veB)).contains (.ref C')) ⟨h,g,d,t,os⟩):wpAny M A (excMatches (.ref e) (.ref C')) Q E ⟨h,g,d,t,os⟩:=by
 refine qJ hC.ex fun nmC qC N bs hdct sn sub ab col dd k0 k1 k2 k3 k5 mN h1 _=>?_;refine qJ hC'.ex fun nmC' qC' N' bs' hdct' sn' sub' ab' col' dd' k0' k1' k2' k3' k5' mN' h1' _=>?_;have hcB:(Value.ref C'::(tl'.map Value.ref++veB)).contains (.type "BaseException")=true:=by rw[List.contains_cons,zkO,Bool.or_true]
 have f:=tc_notTuple
 repeat (first|(with_reducible refine wpAny_loadPart_at he ?_;rw[hcls])|with_reducible refine wpAny_loadPart_at h1' ?_|(with_reducible refine wpAny_isSubtype_exc h1' ?_;rw[hcB])|with_reducible refine wpAny_isSubtype_exc h1 ?_|wp_step)
 generalize (Value.ref c::(tl.map Value.ref++veB)).contains (.ref C')=b at hq ⊢;cases b<;>(wp_walk;exact hq)
end
theorem ExcCls.keeps{h h':Heap}{C:Addr}{tl:List Addr}(x:ExcCls h C tl)(k:∀b o,h.get? b=some o->h'.get? b=some o):ExcCls h' C tl:=by
 refine qn x.ex fun nmC qC N bs hdct sn sub ab col dd k0 k1 k2 k3 k5 mN h1 h2 h3 h4=>?_;exact⟨nmC,qC,N,bs,hdct,sn,sub,ab,col,dd,k0,k1,k2,k3,k5,mN,k _ _ h1,h2.keeps k,h3,h4.keeps k⟩
section
variable{X:Cx}{env:Env}{nm:List (Str×Nat)}{l:Loc}{U:AHeap}{s:Shared}
theorem FR.fly{g:Heap}{x c:Addr}(F:FR X env nm l U g)(f:Fly X U g x c s.heap):FR X env nm l U s.heap:=by
 have kv:=f.keepV;have hne:=FB.w6 F f.exg;refine zb F.ns fun m h9_1 hm=>?_;refine jm h9_1 fun o es ep ho hd r=>?_;obtain⟨sl,ho'⟩:=f.keepS _ _ ho fun q=>hne (.inl q.symm);have cellK:∀y b o v,(y,b)∈env.cells->g.get? b=some o->o.data = .cell v->s.heap.get? b=some o:=fun y b o v hy e hd=>f.keepX b o e (fun q=>hne (.inr ⟨y,q▸hy⟩)) (.inl fun es n q=>by rw[hd] at q;cases q);refine⟨(zc m (kr _ es ep ho' hd r) (fun y i hy hk=>(hm y i hy hk).mono kv)),fun y i hy hk=>?_,F.out,F.nmok,F.len,fun y b hy=>?_⟩
 .refine zp (F.cell y i hy hk) fun b v hc h11_3 hr=>?_;refine zb h11_3 fun o ho hd=>?_;exact zP b v hc (zc o (cellK y b o v (mem_of_lookup hc) ho hd) hd) (hr.mono kv)
 .refine qN (F.outc y b hy) fun h1 h2 v h12_3=>?_;refine zb h12_3 fun o ho hd=>?_;exact kq h1 h2 v (zc o (cellK y b o v hy ho hd) hd)
end
section
variable{X:Cx}{env:Env}{nm:List (Str×Nat)}
theorem zoT{U σ1:AHeap}{s s1:Shared}{g h:Heap}{x c:Addr}(a:At X U s)(a1:At X σ1 { s1 with heap:=g })(hx:New U s x)(f:Fly X σ1 g x c h):X.h₀.get? x=none:=by
 cases e:X.h₀.get? x with
 | none=>rfl
 | some o=>
  have e1:=a.keep _ _ e;have h1:=hx _ e1;obtain⟨vs,h2⟩:=f.exg;have h5:g.get? x=some o:=a1.keep _ _ e;rw[h5] at h2;obtain rfl:=G4 h2;exact absurd (a.stays e1 (.inr (.inr (za6 c vs rfl rfl)))) h1
def zu7(env:Env)(nm:List (Str×Nat))(name:Option Str)(i:Option Nat):Prop:=match name,i with
 | none,none=>True
 | _,_=>False
theorem zmf{body:List Stmt}{T:Str}{tp hpos pos:Pos}{name:Option Str}{b0:Stmt}{bs:List Stmt}{C':Addr}{tl' hits:List Addr}{i:Option Nat}{m h:AS}(XO:X.Ok)(EO:EnvOk env)(htop:X.top=some env)
  (hT:env.kindOf T=some .globalImplicit)(hdb:(T==("__debug__" : Str))=false)(hv:X.mg T=some (.ref C'))(hC':ExcCls X.h₀ C' tl')(hh:∀c∈hits,∃tl,ExcCls X.h₀ c tl/\(Value.ref c::(tl.map Value.ref++veB)).contains (.ref C')=true)
  (hn:zu7 env nm name i)(hb:j6 X env nm body m)(hs:j6 X env nm (b0::bs) h) :
  jl X env nm (.Try body [.ExceptHandler (some (.Name T tp)) name (b0::bs) hpos] [] [] pos) (A.vG m hits i h):=fun d A l U s Q Z L a F q=>by
 obtain⟨hd,q⟩:=zaE q;refine wpAny_Try_except (Gc (hb d A l U s _ _ L a F q) (fun f s1 x=>?_) fun e s1 x=>?_)
 .cases f with
  | next=>exact wpAny_execs_nil x
  | ret v=>exact x
  | brk=>exact x
  | cont=>exact x
 obtain⟨c,l1,σ1,x,g,rfl,⟨hx,hfb⟩,a1,F1,st1,f,z⟩:=x;obtain⟨hc,z⟩:=qP z;obtain⟨tl,hCc,hin⟩:=hh c (List.contains_iff_mem.mp hc);obtain⟨envs,hfr,FO,ht⟩:=L.frames;obtain⟨outer,rfl⟩:=ht env htop;obtain⟨_,Lf,hf,_⟩:=FO.is env fB;have Fo:=zi3 FO a1 f;have hx0:=zoT a a1 hx f;refine Fly.note FO hfr hf a1 f fun h2 f2 t2=>?_;refine FlyB.vH (s:={ s1 with heap:=h2 }) Fo f2 t2 fun h3 f3 t3=>?_;have a3:At X σ1 { s1 with heap:=h3 }:=Fly.at (s:={ s1 with heap:=h3 }) FO.out a1 hx0 f3;obtain⟨vs,he,_⟩:=f3.exh;have LM:Live X ⟨d.n,true⟩ (A.mark (some (.ref x))):=⟨L.depth,L.units,(fun q=>nomatch q),L.small,_,hfr,FO,fun e he=>ht e he⟩
 refine wpAny_handleBy_cons (codeAny_handlers_test (q9 XO EO a3 hT hdb hv ?_)) (by intro q;cases q);refine zk8 (hCc.keeps a3.keep) (hC'.keeps a3.keep) he rfl ?_;rw[hin];cases name with
 | none=>
  cases i with
  | some _=>exact hn.elim
  | none=>
   refine codeAny_handlers_suite (FlyB.vH (s:={ s1 with heap:=h3 }) Fo f3.b t3 fun h4 f4 t4=>?_);have a4:At X σ1 { s1 with heap:=h4 }:=Fly.at (s:={ s1 with heap:=h4 }) FO.out a1 hx0 f4;have F4:=FR.fly (s:={ s1 with heap:=h4 }) F1 f4;have st4:Step (FB env) U s σ1 { s1 with heap:=h4 }:=Fly.step (s:={ s1 with heap:=h4 }) hx st1 f4;exact Gc (hs ⟨d.n,true⟩ _ l1 σ1 _ _ _ LM a4 F4 z) (fun fl s5 y=>y.back st4) fun _ _ y=>zrg y
 | some n=>cases i<;>exact hn.elim
end
noncomputable def nsB(K:Frag)(N:Addr):Bool:=match K.lookup N with
 | some o=>(match o.data with
  | .dict es _=>es.all (fun e=>match e.key with
   | .str _ _=>true
   | _=>false)&&(nsFind es "__init__").isNone
  | _=>false)
 | none=>false
theorem znS{K:Frag}{N:Addr}{h:Heap}(X:K.In h)(e:nsB K N=true):∃m,h.Ns N m/\m "__init__" = none:=by
 unfold nsB at e;split at e
 .rename_i o ho
  split at e
  .rename_i es n hd
   obtain⟨e1,e2⟩:=gA.mp e;refine zc _ (jO o es n (X _ _ ho) hd (fun x hx=>?_) (fun _=>rfl)) (Option.isNone_iff_eq_none.mp e2);have hx:=Array.all_eq_true_iff_forall_mem.mp e1 x hx;cases hk:x.key<;>rw[hk] at hx<;>first|exact⟨_,_,rfl⟩|cases hx
  .cases e
 .cases e
noncomputable def zsD(K:Frag)(A:Addr):Bool:=match K.lookup A with
 | some o=>(match o.data with
  | .cls cd=>nsB K cd.ns
  | _=>false)
 | none=>false
noncomputable def sl6(sl:Array (Option Value)):Bool:=match sl.toList with
 | [_,_,_,_,k,_]=>k==some (.builtin "ValueError.__new__")
 | _=>false
theorem zrz{l:List (Option Value)}(h:sl6 ⟨l⟩=true):∃k0 k1 k2 k3 k5,l=[k0,k1,k2,k3,some (.builtin "ValueError.__new__"),k5]:=by
 cases l with
 | nil=>exact nob h
 | cons k0 l=>cases l with
  | nil=>exact nob h
  | cons k1 l=>cases l with
   | nil=>exact nob h
   | cons k2 l=>cases l with
    | nil=>exact nob h
    | cons k3 l=>cases l with
     | nil=>exact nob h
     | cons k4 l=>cases l with
      | nil=>exact nob h
      | cons k5 l=>cases l with
       | nil=>exact⟨k0,k1,k2,k3,k5,congrArg (fun k=>[k0,k1,k2,k3,k,k5]) (G8 h)⟩
       | cons k6 l=>exact nob h
noncomputable def zsG(K:Frag)(C:Addr)(tl:List Addr):Bool:=tl.all (zsD K)&&(match K.lookup C with
 | some o=>o.cls==.type "type"&&sl6 o.slots&&(match o.data with
  | .cls cd=>cd.mro==.ref C::(tl.map .ref++veB)&&!cd.hasDel&&nsB K cd.ns
  | _=>false)
 | none=>false)
theorem zf4{K:Frag}{C:Addr}{tl:List Addr}{h:Heap}(X:K.In h)(e:zsG K C tl=true):ExcCls h C tl:=by
 obtain⟨e0,e1⟩:=gA.mp e;clear e;have tail:OwnTail h veB (tl.map .ref++veB):=by
  clear e1
  induction tl with
  | nil=>exact .base
  | cons A r ih=>
   obtain⟨e1,e2⟩:=gA.mp e0;unfold zsD at e1;split at e1
   .rename_i o ho
    split at e1
    .rename_i cd hd
     refine zb (znS X e1) fun m hn hi=>?_;obtain⟨oc,od,oda,osl⟩:=o;cases hd;exact .own (X _ _ ho) hn hi (ih e2)
    .cases e1
   .cases e1
 split at e1
 .rename_i o ho
  obtain⟨e2,e3⟩:=gA.mp e1;obtain⟨e4,e5⟩:=gA.mp e2;clear e1 e2;obtain⟨oc,od,oda,⟨osl⟩⟩:=o;cases oda with
  | cls cd=>
   obtain⟨e6,e7⟩:=gA.mp e3;obtain⟨e8,e9⟩:=gA.mp e6;clear e3 e6;refine zb (znS X e7) fun m hn hi=>?_;have f1:oc = .type "type":=G8 e4;have f2:cd.mro = .ref C::(tl.map .ref++veB):=G8 e8;clear e4 e8;subst f1;refine zb3 (zrz e5) fun k0 k1 k2 k3 k5 f3=>?_;clear e5;subst f3;obtain⟨c1,c2,c3,c4,c5,c6,c7,c8,c9,c10,c11⟩:=cd;dsimp only at f2 e9 hn;subst f2;cases c11 with
   | true=>cases e9
   | false=>exact⟨_,_,_,_,_,_,_,_,_,_,_,_,_,_,_,m,X _ _ ho,hn,hi,tail⟩
  | _=>cases e3
 .cases e1
structure ExcIs(K:Frag)(D:Addr)(tl:List Addr):Prop where
 b:zsG K D tl=true
 hg:findIn K (.ref D) "__getattribute__" = some (some (.builtin "BaseException.__getattribute__"))
 hg2:findIn K (.ref D) "__getattr__" = some none
 hf:findObj K D none "__class__" = some (.bind (.builtin "getset_descriptor.__get__") (.builtin "object.__class__"))
 hm:mroIn K D (.type "object")=some true
 hmB:mroIn K D (.type "BaseException")=some true
namespace A
end A
section
variable{X:Cx}{K:Frag}{env:Env}{nm:List (Str×Nat)}
end
def ziA(U:AHeap)(x y:AV)(t:Bool):Prop:=∃a b,Rd U x a/\Rd U y b/\a.depth<=100/\b.depth<=100/\ltD a b=some t
def ziz(xs:List AV):Prop:=(∀x∈xs,∃i r,x = .tup (.int i::r))\/∀x∈xs,∃i,x = .int i
@[irreducible] noncomputable def zfE(r:Bool)(xs:List AV)(Q:zm)(U:AHeap):Prop:=∃Y:AV->Nat,ziz xs/\(∀x∈xs,∀y∈xs,ziA U x y (decide (Y x<Y y)))/\∀ys,ys.Perm xs->ys.Pairwise (fun x y=>Y x<=Y y)->mkL r ys Q U
def kM:zbU:=fun r as Q U=>zbx as fun x=>zw (jh U x) fun xs=>zfE r xs Q U
noncomputable def zj2:AV->Nat
 | .tup l=>l.length
 | _=>0
@[irreducible] noncomputable def zcE(r:Bool)(xs:List AV)(Q:zm)(U:AHeap):Prop:=(∀x∈xs,∃l,x = .tup l)/\∀ys,ys.Perm xs->ys.Pairwise (fun x y=>zj2 x<=zj2 y)->mkL r ys Q U
@[irreducible] noncomputable def zgG(X:Cx)(f:Addr)(r:Bool)(d:Dp)(xs:List AV)(Q:zm)(U:AHeap):Prop:=∃(key:AV->AV) (Y:AV->Nat),d.n<590/\(∀x∈xs,CallOk X f ⟨d.n+1,d.hd⟩ [x] (fun k U'=>k=key x/\U'=U) (fun _ _=>False) U)/\(∀x∈xs,∃i r,key x = .tup (.int i::r))/\
 (∀x∈xs,∀y∈xs,ziA U (key x) (key y) (decide (Y x<Y y)))/\∀ys,ys.Perm xs->ys.Pairwise (fun x y=>Y x<=Y y)->mkL r ys Q U
namespace A
def w2(r:Bool)(m:AE):AE:=fun d l Q Z U=>w1 d (m d l (fun v σ1=>zw (jh σ1 v) fun xs=>zcE r xs Q σ1) Z U)
def w9(X:Cx)(f:Addr)(r:Bool)(m:AE):AE:=fun d l Q Z U=>w1 d (m d l (fun v σ1=>zw (jh σ1 v) fun xs=>zgG X f r d xs Q σ1) Z U)
end A
structure SB(V:SortKind)(a₀:Array G1)(st:SortSt):Prop where
 perm:(G0 st).Perm a₀
 kind:kindOf st=V
 failed:failedOf st=none
noncomputable def Rk(Y:G1->Nat)(xs:Array G1)(i:Nat):Nat:=match xs[i]? with|some p=>Y p|none=>0
def Srt(Y:G1->Nat)(xs:Array G1)(a b:Nat):Prop:=∀i j,a<=i->i<=j->j<b->Rk Y xs i<=Rk Y xs j
def Dsc(Y:G1->Nat)(xs:Array G1)(a b:Nat):Prop:=∀i j,a<=i->i<=j->j<b->Rk Y xs j<=Rk Y xs i
def Out(xs ys:Array G1)(a b:Nat):Prop:=∀k,(k<a\/b<=k)->ys[k]? = xs[k]?
theorem jV{Y:G1->Nat}{xs ys:Array G1}{i j:Nat}(h:xs[i]? = ys[j]?):Rk Y xs i=Rk Y ys j:=by unfold Rk;rw[h]
theorem ze4{Y:G1->Nat}{xs:Array G1}{src d:Nat}(hs:src<xs.size)(hd:d<=src)(k:Nat) :
  Rk Y (bubble xs src d) k=if k=src-d then Rk Y xs src else if src-d<k/\k<=src then Rk Y xs (k-1) else Rk Y xs k:=by
 have e:=getElem?_bubble hs d hd k;split at e
 .rw[if_pos (by assumption)];exact jV e
 .rw[if_neg (by assumption)];split at e
  .rw[if_pos (by assumption)];exact jV e
  .rw[if_neg (by assumption)];exact jV e
theorem zcG{Y:G1->Nat}{xs:Array G1}{i j:Nat}(hj:j<=xs.size)(k:Nat) :
  Rk Y (mirror xs i j ((j-i)/2)) k=if i<=k/\k<j then Rk Y xs (i+j-1-k) else Rk Y xs k:=by
 have e:=getElem?_mirror_all (i:=i) hj k;split at e
 .rw[if_pos (by assumption)];exact jV e
 .rw[if_neg (by assumption)];exact jV e
theorem zaq{Y:G1->Nat}{xs:Array G1}{i j:Nat}(hj:j<=xs.size)(he:∀k,i<=k->k<j->Rk Y xs k=Rk Y xs (j-1))(k:Nat):Rk Y (mirror xs i j ((j-i)/2)) k=Rk Y xs k:=by
 rw[zcG hj];split
 .rw[he _ (zye (by assumption)) (zyd (by assumption)),he k (zyc (by assumption)) (zyj (by assumption))]
 .rfl
theorem Out.refl(xs:Array G1)(a b:Nat):Out xs xs a b:=fun _ _=>rfl
theorem Out.trans{xs ys zs:Array G1}{a b:Nat}(h:Out xs ys a b)(h':Out ys zs a b):Out xs zs a b:=fun k hk=>(h' k hk).trans (h k hk)
theorem Out.wide{xs ys:Array G1}{a b a' b':Nat}(h:Out xs ys a b)(h1:a'<=a)(h2:b<=b'):Out xs ys a' b':=fun k hk=>h k (zAY h1 h2 hk)
theorem zaF{xs:Array G1}{i j:Nat}(hj:j<=xs.size):Out xs (mirror xs i j ((j-i)/2)) i j:=fun k hk=>by
 rw[getElem?_mirror_all hj,if_neg (zyh hk)]
theorem zjv{xs:Array G1}{src d:Nat}(hs:src<xs.size)(hd:d<=src):Out xs (bubble xs src d) (src-d) (src+1):=fun k hk=>by
 rw[getElem?_bubble hs d hd,if_neg (zyb hk),if_neg (zyi hk)]
theorem SB.size{V:SortKind}{a₀:Array G1}{st:SortSt}(h:SB V a₀ st):(G0 st).size=a₀.size:=h.perm.size_eq
theorem SB.setArr{V:SortKind}{a₀:Array G1}{st:SortSt}(h:SB V a₀ st){xs:Array G1}(hp:xs.Perm (G0 st)):SB V a₀ (PyProof.Rows.setArr st xs):=⟨hp.trans h.perm,h.kind,h.failed⟩
theorem SB.at_{V:SortKind}{a₀:Array G1}{st:SortSt}(h:SB V a₀ st){i:Nat}(hi:i<a₀.size):∃p,(G0 st)[i]? = some p/\p∈a₀.toList:=by
 have hi':i<(G0 st).size:=by rw[h.size];exact hi
 exact zc ((G0 st)[i]) (getElem?_pos _ i hi') ((fAD.mp h.perm).mem_iff.mp (by simp))
def qH(prog:Gn)(w:World)(A:Around)(s:Shared)(V:SortKind)(Y:G1->Nat)(a₀:Array G1):Prop:=
 ∀p q,p∈a₀.toList->q∈a₀.toList->∀(Q:Bool->Shared->Prop) (E:Value->Shared->Prop),Q (decide (Y p<Y q)) s->wpAny (model prog w) A (keyLt' V p.1 q.1) Q E s
section
variable{prog:Gn}{w:World}{A:Around}{E:Value->Shared->Prop}{s:Shared}{a₀:Array G1}{V:SortKind}{Y:G1->Nat}
theorem zn9(H:qH prog w A s V Y a₀){st:SortSt}(hB:SB V a₀ st){p q:G1}(hp:p∈a₀.toList)(hq:q∈a₀.toList){Q:Option Bool->SortSt->Prop}(h:Q (some (decide (Y p<Y q))) st):wpS (model prog w) A E s (lt' p q) Q st:=by
 rw[lt'_eq];refine Gs (wpS_get ?_);rw[hB.kind];refine Gs (wpS_lift (wpAny_attempt (H p q hp hq _ _ ⟨rfl,?_⟩)));exact Gu h
theorem ja{arr:Array G1}{i:Nat}{p:G1}{st:SortSt}{Q:G1->SortSt->Prop}(hp:arr[i]? = some p)(h:Q p st):wpS (model prog w) A E s (elem' arr i) Q st:=by
 rw[elem'_eq,hp];exact Gu h
theorem zeB(H:qH prog w A s V Y a₀){st:SortSt}(hB:SB V a₀ st){i j:Nat}(hi:i<a₀.size)(hj:j<a₀.size){Q:Option Bool->SortSt->Prop}(h:Q (some (decide (Rk Y (G0 st) i<Rk Y (G0 st) j))) st) :
  wpS (model prog w) A E s (ltAt' i j) Q st:=by
 refine zb (hB.at_ hi) fun p e1 h1=>?_;refine zb (hB.at_ hj) fun q e2 h2=>?_;rw[ltAt'_eq];refine Gs (wpS_get ?_);refine Gs (ja e1 (Gs (ja e2 (zn9 H hB h1 h2 ?_))));unfold Rk at h;rw[e1,e2] at h;exact h
theorem zbt{st:SortSt}{i j:Nat}{Q:Unit->SortSt->Prop}(h:Q () (setArr st (mirror (G0 st) i j ((j-i)/2)))):wpS (model prog w) A E s (reverseSlice' i j) Q st:=by
 rw[reverseSlice'_eq];exact wpS_modify h
end
noncomputable def upL(lo a nrem:Nat):StateT SortSt Sem AscSt:=
 forIn [a:nrem] ((none,a):AscSt) fun _ r=>do
  let x <-ltAt' (lo+r.snd) (lo+r.snd-1)
  match x with
  | some smaller=>if smaller=true then pure (ForInStep.done (none,r.snd)) else pure (ForInStep.yield (none,r.snd+1))
  | _=>pure (ForInStep.done (some none,r.snd))
noncomputable def zmW(lo n nrem:Nat):StateT SortSt Sem (Option Nat):=do
 reverseSlice' lo (lo+n)
 let r <-upL lo n nrem
 match r.fst with
 | some r=>pure r
 | none=>pure (some r.snd)
noncomputable def zkh(lo n nrem:Nat):StateT SortSt Sem DescSt:=
 forIn [n:nrem] ((none,n,0):DescSt) fun _ r=>do
  let x <-ltAt' (lo+r.snd.fst) (lo+r.snd.fst-1)
  match x with
  | some smaller=>
   if smaller=true then
    if r.snd.snd>0 then do
     reverseSlice' (lo+r.snd.fst-(r.snd.snd+1)) (lo+r.snd.fst)
     pure (ForInStep.yield (none,r.snd.fst+1,0))
    else pure (ForInStep.yield (none,r.snd.fst+1,0))
   else do
    let x <-ltAt' (lo+r.snd.fst-1) (lo+r.snd.fst)
    match x with
    | some larger=>
     if larger=true then pure (ForInStep.done (none,r.snd.fst,r.snd.snd))
     else pure (ForInStep.yield (none,r.snd.fst+1,r.snd.snd+1))
    | _=>pure (ForInStep.done (some none,r.snd.fst,r.snd.snd))
  | _=>pure (ForInStep.done (some none,r.snd.fst,r.snd.snd))
noncomputable def zg9(lo n nrem:Nat):StateT SortSt Sem (Option Nat):=do
 liftM (rule "list.sort.descending-run")
 let r <-zkh lo (n+1) nrem
 match r.fst with
 | some r=>pure r
 | none=>
  if r.snd.snd>0 then do
   reverseSlice' (lo+r.snd.fst-(r.snd.snd+1)) (lo+r.snd.fst)
   zmW lo r.snd.fst nrem
  else zmW lo r.snd.fst nrem
theorem zg8(lo nrem:Nat):countRun' lo nrem=(do
  let r <-upL lo 1 nrem
  match r.fst with
  | some r=>pure r
  | none=>
   if (r.snd==nrem)=true then pure (some r.snd)
   else if r.snd>1 then do
    let x <-ltAt' lo (lo+r.snd-1)
    match x with
    | some rose=>if rose=true then pure (some r.snd) else do
      reverseSlice' lo (lo+r.snd)
      zg9 lo r.snd nrem
    | _=>pure none
   else zg9 lo r.snd nrem):=by
 rw[countRun'_eq];unfold zg9 zmW zkh upL;dsimp only
 congr 1
 funext r
 obtain⟨r,n⟩:=r;cases r with
 | some r=>rfl
 | none=>
  dsimp only;split
  .rfl
  .split
   .congr 1
    funext x
    cases x with
    | none=>rfl
    | some rose=>
     dsimp only;split
     .rfl
     .congr 1
      funext _r
      congr 1;funext _u;congr 1;congr 1;funext s2;obtain⟨r2,n2,q2⟩:=s2
      cases r2 with
      | some r2=>rfl
      | none=>
       dsimp only;split
       .congr 1;funext _v;congr 1;funext _w;congr 1;funext s3;obtain⟨r3,n3⟩:=s3;cases r3<;>rfl
       .congr 1;funext _w;congr 1;funext s3;obtain⟨r3,n3⟩:=s3;cases r3<;>rfl
   .congr 1;funext _u;congr 1;congr 1;funext s2;obtain⟨r2,n2,q2⟩:=s2
    cases r2 with
    | some r2=>rfl
    | none=>
     dsimp only;split
     .congr 1;funext _v;congr 1;funext _w;congr 1;funext s3;obtain⟨r3,n3⟩:=s3;cases r3<;>rfl
     .congr 1;funext _w;congr 1;funext s3;obtain⟨r3,n3⟩:=s3;cases r3<;>rfl
section
variable{prog:Gn}{w:World}{A:Around}{E:Value->Shared->Prop}{s:Shared}{a₀:Array G1}{V:SortKind}{Y:G1->Nat}
theorem Srt.snoc{xs:Array G1}{lo x:Nat}(h:Srt Y xs lo (lo+x))(hx:1<=x)(h':Rk Y xs (lo+x-1)<=Rk Y xs (lo+x)):Srt Y xs lo (lo+(x+1)):=fun i j hi hij hj=>by
 by_cases hjx:j<lo+x
 .exact h i j hi hij hjx
 .have e:j=lo+x:=by exact zt9 hj hjx
  subst e
  by_cases hi':i=lo+x
  .rw[hi'];exact fM _
  .exact fN (h i (lo+x-1) hi (zue hij hi') (zrU hx)) h'
theorem Dsc.snoc{xs:Array G1}{lo x:Nat}(h:Dsc Y xs lo (lo+x))(hx:1<=x)(h':Rk Y xs (lo+x)<=Rk Y xs (lo+x-1)):Dsc Y xs lo (lo+(x+1)):=fun i j hi hij hj=>by
 by_cases hjx:j<lo+x
 .exact h i j hi hij hjx
 .have e:j=lo+x:=by exact zt9 hj hjx
  subst e
  by_cases hi':i=lo+x
  .rw[hi'];exact fM _
  .exact fN h' (h i (lo+x-1) hi (by exact zue hij hi') (zrU hx))
theorem zqt(H:qH prog w A s V Y a₀){st:SortSt}{lo a nrem:Nat}{Q:AscSt->SortSt->Prop}(hn:lo+nrem<=a₀.size)(ha:1<=a)(han:a<=nrem)(hB:SB V a₀ st)(hs:Srt Y (G0 st) lo (lo+a))
  (h:∀n,a<=n->n<=nrem->Srt Y (G0 st) lo (lo+n)->(n=nrem\/Rk Y (G0 st) (lo+n)<Rk Y (G0 st) (lo+n-1))->Q (none,n) st):wpS (model prog w) A E s (upL lo a nrem) Q st:=by
 unfold upL;refine Gx (I:=fun x c st'=>st'=st/\c=(none,x)/\Srt Y (G0 st) lo (lo+x)) ?step ?fin (zq rfl rfl hs)
 case fin=>
  intro c st' hR1;refine zY hR1 fun e7_0 e7_1 hs'=>?_;subst e7_0;subst e7_1;rw[show max a nrem=nrem by exact ztS han] at hs' ⊢;exact h nrem han (fM _) hs' (.inl rfl)
 case step=>
  intro x c st' hax hxn hR2;refine zY hR2 fun e8_0 e8_1 hs'=>?_;subst e8_0;subst e8_1;dsimp only;refine Gs (zeB H hB (zoD hn hxn) (zsc hn hxn) ?_)
  by_cases hl:Rk Y (G0 st') (lo+x)<Rk Y (G0 st') (lo+x-1)
  .simp only[hl,decide_true,if_true];exact Gu (h x hax (zgS hxn) hs' (.inr hl))
  .simp only[hl,decide_false,gG,if_false];exact Gu (zq rfl rfl (hs'.snoc (zoy ha hax) (ztZ hl)))
structure RunOk(V:SortKind)(Y:G1->Nat)(a₀:Array G1)(st:SortSt)(lo nrem m:Nat)(st':SortSt):Prop where
 sb:SB V a₀ st'
 m1:1<=m
 le:m<=nrem
 srt:Srt Y (G0 st') lo (lo+m)
 out:Out (G0 st) (G0 st') lo (lo+nrem)
 pend:Gw st'=Gw st
theorem zn8(H:qH prog w A s V Y a₀){st st₀:SortSt}{lo n nrem:Nat}{Q:Option Nat->SortSt->Prop}(hn:lo+nrem<=a₀.size)(h1:1<=n)(hnn:n<=nrem)(hB:SB V a₀ st)(hs:Dsc Y (G0 st) lo (lo+n))
  (ho:Out (G0 st₀) (G0 st) lo (lo+nrem))(hp:Gw st=Gw st₀)(h:∀m st',RunOk V Y a₀ st₀ lo nrem m st'->Q (some m) st'):wpS (model prog w) A E s (zmW lo n nrem) Q st:=by
 unfold zmW;have hsz:lo+n<=(G0 st).size:=by rw[hB.size];exact zsd hn hnn
 refine Gs (zbt ?_);have hB':SB V a₀ (setArr st (mirror (G0 st) lo (lo+n) ((lo+n-lo)/2))):=hB.setArr (mirror_perm _ _ _ _);refine Gs (zqt H hn h1 hnn hB' ?_ fun m hm1 hm2 hsm _=>Gu (h m _ ⟨hB',zoy h1 hm1,hm2,hsm,ho.trans ((zaF hsz).wide (fM _) (zoC hnn)),hp⟩));intro i j hi hij hj;show Rk Y (mirror (G0 st) lo (lo+n) ((lo+n-lo)/2)) i<=Rk Y (mirror (G0 st) lo (lo+n) ((lo+n-lo)/2)) j;rw[zcG hsz,zcG hsz,if_pos (zz8 hi hij hj),if_pos (zAa hi hij hj)];exact hs _ _ (zy5 hj) (zAv hij) (zyA h1 hi)
theorem zpw(H:qH prog w A s V Y a₀){st st₀:SortSt}{lo n nrem:Nat}{Q:DescSt->SortSt->Prop}(hn:lo+nrem<=a₀.size)(h1:1<=n)(hnn:n<=nrem)(hB:SB V a₀ st)(hs:Dsc Y (G0 st) lo (lo+n))
  (ho:Out (G0 st₀) (G0 st) lo (lo+nrem))(hp:Gw st=Gw st₀)
  (h:∀m neq st',SB V a₀ st'->n<=m->m<=nrem->Dsc Y (G0 st') lo (lo+m)->neq+1<=m->(∀i,lo+m-(neq+1)<=i->i<lo+m->Rk Y (G0 st') i=Rk Y (G0 st') (lo+m-1))->
   Out (G0 st₀) (G0 st') lo (lo+nrem)->Gw st'=Gw st₀->Q (none,m,neq) st'):wpS (model prog w) A E s (zkh lo n nrem) Q st:=by
 unfold zkh;refine Gx (I:=fun x c st'=>∃neq,c=(none,x,neq)/\SB V a₀ st'/\Dsc Y (G0 st') lo (lo+x)/\neq+1<=x/\
   (∀i,lo+x-(neq+1)<=i->i<lo+x->Rk Y (G0 st') i=Rk Y (G0 st') (lo+x-1))/\Out (G0 st₀) (G0 st') lo (lo+nrem)/\Gw st'=Gw st₀) ?step ?fin
  (zaz 0 rfl hB hs (by exact zv2 h1) (fun i h1 h2=>by congr 1;exact zyf h1 h2) ho hp)
 case fin=>
  intro c st' hR3;refine zdN hR3 fun neq e9_1 hB' hs' hq he ho' hp'=>?_;subst e9_1;rw[show max n nrem=nrem by exact ztS hnn] at hs' hq he ⊢;exact h nrem neq st' hB' hnn (fM _) hs' hq he ho' hp'
 case step=>
  intro x c st' hax hxn hR4;refine zdN hR4 fun neq e10_1 hB' hs' hq he ho' hp'=>?_;subst e10_1;dsimp only;have hsz:lo+x<=(G0 st').size:=by rw[hB'.size];exact zzL hn hxn
  refine Gs (zeB H hB' (zoD hn hxn) (zsc hn hxn) ?_)
  by_cases hl:Rk Y (G0 st') (lo+x)<Rk Y (G0 st') (lo+x-1)
  .simp only[hl,decide_true,if_true]
   by_cases hneq:neq>0
   .rw[if_pos hneq];refine Gs (zbt (Gu (zaz 0 rfl (hB'.setArr (mirror_perm _ _ _ _)) ?_ ztt (fun i h1 h2=>by congr 1;exact zt1 h1 h2) (ho'.trans ((zaF hsz).wide (zt7 hq) (zyV hxn))) hp')));have e:=zaq (Y:=Y) (i:=lo+x-(neq+1)) hsz he;refine Dsc.snoc (fun i j hi hij hj=>?_) (zoy h1 hax) ?_
    .show Rk Y (mirror _ _ _ _) j<=Rk Y (mirror _ _ _ _) i;rw[e,e];exact hs' i j hi hij hj
    .show Rk Y (mirror _ _ _ _) _<=Rk Y (mirror _ _ _ _) _;rw[e,e];exact zgS hl
   .rw[if_neg hneq];exact Gu (zaz 0 rfl hB' (hs'.snoc (zoy h1 hax) (zgS hl)) ztt (fun i h1 h2=>by congr 1;exact zt1 h1 h2) ho' hp')
  .simp only[hl,decide_false,gG,if_false];refine Gs (zeB H hB' (zsc hn hxn) (zoD hn hxn) ?_)
   by_cases hg:Rk Y (G0 st') (lo+x-1)<Rk Y (G0 st') (lo+x)
   .simp only[hg,decide_true,if_true];exact Gu (h x neq st' hB' hax (zgS hxn) hs' hq he ho' hp')
   .simp only[hg,decide_false,gG,if_false];have hx:Rk Y (G0 st') (lo+x)=Rk Y (G0 st') (lo+x-1):=zxS hl hg;refine Gu (zaz (neq+1) rfl hB' (hs'.snoc (zoy h1 hax) (ztZ hg)) (zw9 hq) (fun i h1 h2=>?_) ho' hp');rw[show lo+(x+1)-1=lo+x by exact zxZ]
    by_cases hix:i=lo+x
    .rw[hix]
    .rw[hx];exact he i (zzx h1) (zyE h2 hix)
theorem zkH(H:qH prog w A s V Y a₀){st st₀:SortSt}{lo n nrem:Nat}{Q:Option Nat->SortSt->Prop}(hn:lo+nrem<=a₀.size)(hnn:n+1<=nrem)(hB:SB V a₀ st)(hs:Dsc Y (G0 st) lo (lo+(n+1)))
  (ho:Out (G0 st₀) (G0 st) lo (lo+nrem))(hp:Gw st=Gw st₀)(h:∀m st',RunOk V Y a₀ st₀ lo nrem m st'->Q (some m) st'):wpS (model prog w) A E s (zg9 lo n nrem) Q st:=by
 unfold zg9;refine Gs (wpS_lift (Gg ⟨rfl,?_⟩));refine Gs (zpw H hn zwP hnn hB hs ho hp fun m neq st' hB' hm1 hm2 hs' hq he ho' hp'=>?_);dsimp only;have hsz:lo+m<=(G0 st').size:=by rw[hB'.size];exact zsd hn hm2
 by_cases hneq:neq>0
 .rw[if_pos hneq];have e:=zaq (Y:=Y) (i:=lo+m-(neq+1)) hsz he;refine Gs (zbt (zn8 H hn (ztI hq) hm2 (hB'.setArr (mirror_perm _ _ _ _)) ?_ (ho'.trans ((zaF hsz).wide (zt7 hq) (zoC hm2))) hp' h));intro i j hi hij hj;show Rk Y (mirror _ _ _ _) j<=Rk Y (mirror _ _ _ _) i;rw[e,e];exact hs' i j hi hij hj
 .rw[if_neg hneq];exact zn8 H hn (ztI hq) hm2 hB' hs' ho' hp' h
theorem zjG(H:qH prog w A s V Y a₀){st:SortSt}{lo nrem:Nat}{Q:Option Nat->SortSt->Prop}(hn:lo+nrem<=a₀.size)(h1:1<=nrem)(hB:SB V a₀ st)
  (h:∀m st',RunOk V Y a₀ st lo nrem m st'->Q (some m) st'):wpS (model prog w) A E s (countRun' lo nrem) Q st:=by
 rw[zg8];refine Gs (zqt H hn (fM 1) h1 hB (fun i j hi hij hj=>by rw[show i=j by exact zul hi hij hj];exact fM _) fun n hn1 hn2 hsn hor=>?_);dsimp only
 by_cases hnn:n=nrem
 .rw[if_pos (by simpa using hnn)];exact Gu (h n st ⟨hB,hn1,hn2,hsn,Out.refl _ _ _,rfl⟩)
 .rw[if_neg (by simpa using hnn)]
  by_cases hgt:n>1
  .rw[if_pos hgt];refine Gs (zeB H hB (zys hn h1) (zzM hn hn2 hnn) ?_)
   by_cases hr:Rk Y (G0 st) lo<Rk Y (G0 st) (lo+n-1)
   .simp only[hr,decide_true,if_true];exact Gu (h n st ⟨hB,hn1,hn2,hsn,Out.refl _ _ _,rfl⟩)
   .simp only[hr,decide_false,gG,if_false];have hsz:lo+n<=(G0 st).size:=by rw[hB.size];exact zsd hn hn2
    have hall:∀k,lo<=k->k<lo+n->Rk Y (G0 st) k=Rk Y (G0 st) (lo+n-1):=by
     intro k hk1 hk2;have a1:=hsn lo k ztw hk1 hk2;have a2:=hsn k (lo+n-1) hk1 (zyF hk2) (zrU hn1);exact zzk hr a1 a2
    have e:=zaq (Y:=Y) (i:=lo) hsz hall;refine Gs (zbt (zkH H hn (zxz hn2 hnn) (hB.setArr (mirror_perm _ _ _ _)) ?_ ((zaF hsz).wide (fM _) (zoC hn2)) rfl h));refine Dsc.snoc (fun i j hi hij hj=>?_) (zrH hn1) ?_
    .show Rk Y (mirror _ _ _ _) j<=Rk Y (mirror _ _ _ _) i;rw[e,e,hall i (zj8 hi) (zuv hij hj),hall j (zyQ hi hij) (zua hj)];exact fM _
    .show Rk Y (mirror _ _ _ _) _<=Rk Y (mirror _ _ _ _) _;rw[e,e];exact zzB hor hnn
  .rw[if_neg hgt];have hn1':n=1:=zv1 hn1 hgt;subst hn1';refine zkH H hn (by exact zvY h1 hnn) hB (Dsc.snoc (fun i j hi hij hj=>by rw[show i=j by exact zul hi hij hj];exact fM _) (fM _) (by exact zx6 hor hnn)) (Out.refl _ _ _) rfl h
theorem zvJ{l r:Nat}(h:l<r):l<=(l+r)/2/\(l+r)/2<r:=⟨(Nat.le_div_iff_mul_le Nat.two_pos).mpr (Nat.mul_two l▸fBO (fBI h) l),Nat.div_lt_of_lt_mul (Nat.two_mul r▸Nat.add_lt_add_right h r)⟩
theorem zgA(H:qH prog w A s V Y a₀){st:SortSt}{lo n ok:Nat}{Q:Bool->SortSt->Prop}(hn:lo+n<=a₀.size)(hn1:1<=n)(hok:ok<=n)(hB:SB V a₀ st)(hs:Srt Y (G0 st) lo (lo+ok))
  (h:∀st',RunOk V Y a₀ st lo n n st'->Q true st'):wpS (model prog w) A E s (binarySort' lo n ok) Q st:=by
 rw[binarySort'_eq];refine Gs (Gv (Gx (I:=fun k c st'=>c=(none,())/\SB V a₀ st'/\Srt Y (G0 st') lo (lo+min k n)/\Out (G0 st) (G0 st') lo (lo+n)/\Gw st'=Gw st)
  (Q:=fun c st'=>c=(none,())/\RunOk V Y a₀ st lo n n st') ?step ?fin ?init) ?post)
 case post=>
  rintro c st' ⟨rfl,hR⟩;exact Gu (h st' hR)
 case init=>
  refine jb rfl hB (fun i j hi hij hj=>?_) (Out.refl _ _ _) rfl
  by_cases h1:ok=0
  .rw[show i=j by exact zAV hi hij hj h1];exact fM _
  .exact hs i j hi hij (zzX hj h1)
 case fin=>
  intro c st' hR5;refine jw hR5 fun hc hB' hs' ho' hp'=>?_;rw[show min (max (max ok 1) n) n=n by exact zx3] at hs';exact⟨hc,hB',hn1,fM _,hs',ho',hp'⟩
 case step=>
  intro k c st' hak hkn hR6;refine jw hR6 fun e12_0 hB' hs' ho' hp'=>?_;subst e12_0;rw[show min k n=k by exact ztO hkn] at hs';have hk:lo+k<a₀.size:=zoD hn hkn;refine Gs (Gv (Gx (I:=fun x c st''=>st''=st'/\∃l r,c=(none,l,r)/\l<=r/\r<=k/\r-l<=k-x/\
    (∀i,i<l->Rk Y (G0 st') (lo+i)<=Rk Y (G0 st') (lo+k))/\(∀i,r<=i->i<k->Rk Y (G0 st') (lo+k)<Rk Y (G0 st') (lo+i)))
   (Q:=fun c st''=>st''=st'/\∃l r,c=(none,l,r)/\l<=k/\
    (∀i,i<l->Rk Y (G0 st') (lo+i)<=Rk Y (G0 st') (lo+k))/\(∀i,l<=i->i<k->Rk Y (G0 st') (lo+k)<Rk Y (G0 st') (lo+i))) ?istep ?ifin ?iinit) ?ipost)
  case iinit=>exact qg rfl 0 k rfl ztu ztw zwO (fun i hi=>zy6 hi) (fun i h1 h2=>zAp h1 h2)
  case ifin=>
   intro c st'' hR7;refine kG hR7 fun e13_0 l r e13_3 hlr hrk hm hlo hhi=>?_;subst e13_0;subst e13_3;have:l=r:=zuf hlr hm;subst this;exact zcQ rfl l l rfl hrk hlo hhi
  case istep=>
   intro x c st'' _ hxk hR8;refine kG hR8 fun e14_0 l r e14_3 hlr hrk hm hlo hhi=>?_;subst e14_0;subst e14_3;dsimp only
   by_cases hge:l>=r
   .rw[if_pos hge];have:l=r:=zr1 hlr hge;subst this;exact Gu (zcQ rfl l l rfl hrk hlo hhi)
   .rw[if_neg hge];have hmd:=zvJ (Nat.lt_of_not_le hge);generalize (l+r)/2=md at hmd ⊢;have hm1:=hmd.1;have hm2:=hmd.2;clear hmd;refine Gs (zeB H hB' hk (by exact zBU hn hkn hrk hm2) ?_)
    by_cases hless:Rk Y (G0 st'') (lo+k)<Rk Y (G0 st'') (lo+md)
    .simp only[hless,decide_true,if_true];refine Gu (qg rfl l md rfl (by exact zj8 hm1) (by exact zuL hrk hm2) (by exact zuN hm hm2) hlo (fun i h1 h2=>?_));exact pF hless (hs' _ _ (by exact zka) (by exact zoC h1) (by exact zr8 h2))
    .simp only[hless,decide_false,gG,if_false];refine Gu (qg rfl (md+1) r rfl (by exact zoz hm2) (by exact zj8 hrk) (by exact zuM hm hm1) (fun i h1=>?_) hhi);exact fN (hs' (lo+i) (lo+md) (by exact zka) (by exact zBQ h1) (by exact zBS hrk hm2)) (pN.mp hless)
  case ipost=>
   intro c st'' hR9;refine zk5 hR9 fun e15_0 l r e15_3 hlk hlo hhi=>?_;subst e15_0;subst e15_3;show wpS _ _ _ _ (do moveDown' (lo+k) (lo+l);pure (ForInStep.yield (none,()))) _ _;rw[moveDown'_eq];have hks:lo+k<(G0 st'').size:=by rw[hB'.size];exact hk
   have hd:lo+k-(lo+l)<=lo+k:=zzp;refine Gs (wpS_modify (Gu (jb rfl (hB'.setArr (bubble_perm _ _ _)) ?_ (ho'.trans ((zjv hks hd).wide zzr (zyU hkn))) hp')));rw[show min (k+1) n=k+1 by exact zxl hkn];intro i j hi hij hj;show Rk Y (bubble (G0 st'') (lo+k) (lo+k-(lo+l))) i<=Rk Y (bubble (G0 st'') (lo+k) (lo+k-(lo+l))) j;rw[ze4 hks hd,ze4 hks hd,show lo+k-(lo+k-(lo+l))=lo+l by exact zzh hlk];have hlo':∀i,lo<=i->i<lo+l->Rk Y (G0 st'') i<=Rk Y (G0 st'') (lo+k):=fun i h1 h2=>by have:=hlo (i-lo) (by exact zuj h1 h2);rwa [show lo+(i-lo)=i by exact zr2 h1] at this
   have hhi':∀i,lo+l<=i->i<lo+k->Rk Y (G0 st'') (lo+k)<Rk Y (G0 st'') i:=fun i h1 h2=>by have:=hhi (i-lo) (by exact zyz h1) (by exact zzN h1 h2);rwa [show lo+(i-lo)=i by exact zyt h1] at this
   repeat' split
   all_goals first
    | (exfalso;(first|exact zAS hij hj (by assumption) (by assumption) (by assumption)|exact zAQ hij (by assumption) (by assumption)|exact zAR hij hj (by assumption) (by assumption)))
    | exact fM _
    | exact hlo' _ (zj8 hi) (zAc hij (by assumption) (by assumption))
    | exact fBI (hhi' _ (zAu hij (by assumption) (by assumption)) (zAX hij hj (by assumption) (by assumption)))
    | exact hs' _ _ (by (first|exact zzu (by assumption)|exact zj8 hi)) (by (first|exact zxC hij|exact zAT hij (by assumption) (by assumption)|exact zj8 hij)) (by (first|exact zAO hj (by assumption)|exact zzw (by assumption)|exact zAt hlk hj (by assumption) (by assumption)))
end
theorem j5{Y:G1->Nat}{a:Array G1}(SA:Srt Y a 0 a.size):a.toList.Pairwise fun x y=>Y x<=Y y:=by
 rw[fAY];intro i j hi hj hij;have h1:i<a.size:=by simpa using hi
 have h2:j<a.size:=by simpa using hj
 have:=SA i j (fW _) (zgS hij) h2;have e1:Rk Y a i=Y a.toList[i]:=by unfold Rk;rw[getElem?_pos a i h1];simp
 have e2:Rk Y a j=Y a.toList[j]:=by unfold Rk;rw[getElem?_pos a j h2];simp
 rw[e1,e2] at this;exact this
noncomputable def zat:Bool->G1->Array G1->Nat->Nat->Nat->StateT SortSt Sem (Option Nat):=sortPriv% PySem.Builtin.gallop
noncomputable def zfO(left:Bool)(key:G1)(arr:Array G1)(base i:Nat):StateT SortSt Sem (Option Bool):=do
 let x <-elem' arr (base+i)
 if left then lt' x key else return (<-lt' key x).map (!·)
section
variable{prog:Gn}{w:World}{A:Around}{E:Value->Shared->Prop}{s:Shared}{a₀:Array G1}{V:SortKind}{Y:G1->Nat}
noncomputable def byd(left:Bool)(Y:G1->Nat)(key:G1)(arr:Array G1)(base i:Nat):Bool:=if left then decide (Rk Y arr (base+i)<Y key) else !decide (Y key<Rk Y arr (base+i))
theorem zcC(H:qH prog w A s V Y a₀){st:SortSt}(hB:SB V a₀ st){left:Bool}{key:G1}{arr:Array G1}{base i:Nat}(hk:key∈a₀.toList)(ha:∀p∈arr.toList,p∈a₀.toList)(hi:base+i<arr.size){Q:Option Bool->SortSt->Prop}
  (h:Q (some (byd left Y key arr base i)) st):wpS (model prog w) A E s (zfO left key arr base i) Q st:=by
 have e:arr[base+i]? = some arr[base+i]:=getElem?_pos arr (base+i) hi;have hm:arr[base+i]∈a₀.toList:=ha _ (by simp);have er:Rk Y arr (base+i)=Y arr[base+i]:=by unfold Rk;rw[e]
 unfold byd at h;rw[er] at h;unfold zfO;refine Gs (ja e ?_);cases left with
 | true=>simp only[if_true] at h ⊢;exact zn9 H hB hm hk h
 | false=>
  simp only[gG,if_false] at h ⊢;exact Gs (zn9 H hB hk hm (Gu h))
theorem zvK{l r:Nat}(h:l<r):l<=l+(r-l)/2/\l+(r-l)/2<r:=⟨fA8 _ _,Nat.add_lt_of_lt_sub' (Nat.div_lt_self (Nat.sub_pos_of_lt h) Nat.one_lt_two)⟩
theorem zaj(H:qH prog w A s V Y a₀){st:SortSt}(hB:SB V a₀ st){left:Bool}{key:G1}{arr:Array G1}{base n hint:Nat}(hk:key∈a₀.toList)(ha:∀p∈arr.toList,p∈a₀.toList)(hn:base+n<=arr.size)(hh:hint<n)(hs:Srt Y arr base (base+n))
  {Q:Option Nat->SortSt->Prop}(h:∀p,p<=n->(∀i,i<p->byd left Y key arr base i=true)->(∀i,p<=i->i<n->byd left Y key arr base i=false)->Q (some p) st):wpS (model prog w) A E s (zat left key arr base n hint) Q st:=by
 have mono:∀i j,i<=j->j<n->byd left Y key arr base j=true->byd left Y key arr base i=true:=fun i j hij hj=>by
  have:=hs (base+i) (base+j) zka (zoC hij) (zr8 hj);unfold byd;cases left
  .simp only[gG,if_false,fB1,decide_eq_false_iff_not];exact zzi this
  .simp only[if_true,decide_eq_true_eq];exact zzd this
 have mono':∀i j,i<=j->j<n->byd left Y key arr base i=false->byd left Y key arr base j=false:=fun i j hij hj hi=>by
  cases hb:byd left Y key arr base j with
  | false=>rfl
  | true=>rw[mono i j hij hj hb] at hi;cases hi
 have bin:∀(lo hi:Nat),lo<=hi->hi<=n->(∀i,i<lo->byd left Y key arr base i=true)->(∀i,hi<=i->i<n->byd left Y key arr base i=false)->∀{Q':(Option (Option Nat)×Nat×Nat)->SortSt->Prop},
   (∀p q,p<=n->(∀i,i<p->byd left Y key arr base i=true)->(∀i,p<=i->i<n->byd left Y key arr base i=false)->Q' (none,q,p) st)->
   wpS (model prog w) A E s (forIn [0:n] ((none,lo,hi):Option (Option Nat)×Nat×Nat) fun _ r=>do
    if r.2.1>=r.2.2 then pure (ForInStep.done (none,r.2.1,r.2.2)) else do
     let x <-zfO left key arr base (r.2.1+(r.2.2-r.2.1)/2)
     match x with
     | some more=>if more=true then pure (ForInStep.yield (none,r.2.1+(r.2.2-r.2.1)/2+1,r.2.2)) else pure (ForInStep.yield (none,r.2.1,r.2.1+(r.2.2-r.2.1)/2))
     | _=>pure (ForInStep.done (some none,r.2.1,r.2.2))) Q' st:=by
  intro lo hi hlh hhn hlo hhi Q' hQ;refine Gx (I:=fun x c st'=>st'=st/\∃l r,c=(none,l,r)/\l<=r/\r<=n/\r-l<=n-x/\(∀i,i<l->byd left Y key arr base i=true)/\(∀i,r<=i->i<n->byd left Y key arr base i=false)) ?step ?fin (qg rfl lo hi rfl hlh hhn (zyR hhn) hlo hhi)
  case fin=>
   intro c st' hR1;refine kG hR1 fun e0_0 l r e0_3 h1 h2 h3 h4 h5=>?_;subst e0_0;subst e0_3;have:l=r:=zuf h1 h3;subst this;exact hQ l l h2 h4 h5
  case step=>
   intro x c st' _ hx hR2;refine kG hR2 fun e1_0 l r e1_3 h1 h2 h3 h4 h5=>?_;subst e1_0;subst e1_3;dsimp only
   by_cases hge:l>=r
   .rw[if_pos hge];have:l=r:=zr1 h1 hge;subst this;exact Gu (hQ l l h2 h4 h5)
   .rw[if_neg hge];have hmd:=zvK (Nat.lt_of_not_le hge);generalize l+(r-l)/2=md at hmd ⊢;have hm1:=hmd.1;have hm2:=hmd.2;clear hmd;refine Gs (zcC H hB hk ha (by exact zBT hn h2 hm2) ?_);dsimp only;cases hb:byd left Y key arr base md with
    | true=>
     exact Gu (qg rfl _ r rfl (by exact zoz hm2) h2 (by exact zuM h3 hm1) (fun i hi=>mono i _ (by exact zrW hi) (by exact zBR h2 hm2) hb) h5)
    | false=>
     exact Gu (qg rfl l _ rfl (by exact zj8 hm1) (by exact zuL h2 hm2) (by exact zuN h3 hm2) h4 (fun i h6 h7=>mono' _ i h6 h7 hb))
 refine Gs (zcC H hB hk ha (zoD hn hh) ?_);dsimp only;cases hb:byd left Y key arr base hint with
 | true=>
  refine Gs (Gv (Gx (I:=fun x c st'=>st'=st/\∃a b,c=(none,a,b)/\a<b/\x+1<=b/\hint+a<n/\byd left Y key arr base (hint+a)=true)
   (Q:=fun c st'=>st'=st/\∃a b,c=(none,a,b)/\a<b/\hint+a<n/\byd left Y key arr base (hint+a)=true/\(b>=n-hint\/byd left Y key arr base (hint+b)=false)) ?step ?fin (jg rfl 0 1 rfl y4 y1 (zxm hh) (by simpa using hb))) ?post)
  case fin=>
   intro c st' hR3;refine qA hR3 fun e2_0 a b e2_3 h1 h2 h3 h4=>?_;subst e2_0;subst e2_3;exact jg rfl a b rfl h1 h3 h4 (.inl (zx7 h2))
  case step=>
   intro x c st' _ hx hR4;refine qA hR4 fun e3_0 a b e3_3 h1 h2 h3 h4=>?_;subst e3_0;subst e3_3;dsimp only
   by_cases hge:b>=n-hint
   .rw[if_pos hge];exact Gu (jg rfl a b rfl h1 h3 h4 (.inl hge))
   .rw[if_neg hge];refine Gs (zcC H hB hk ha (zAL hn hge) ?_);dsimp only;cases hb':byd left Y key arr base (hint+b) with
    | true=>exact Gu (jg rfl b _ rfl ztv (ztF h2) (zzj hge) hb')
    | false=>exact Gu (jg rfl a b rfl h1 h3 h4 (.inr hb'))
  case post=>
   intro c st' hR5;refine qA hR5 fun e4_0 a b e4_3 h1 h3 h4 h5=>?_;subst e4_0;subst e4_3;dsimp only;refine Gs (bin _ _ (zAd h1 h3) (zyG hh) (fun i hi=>mono i (hint+a) (zyD hi) h3 h4) (fun i h6 h7=>?_) fun p q hp hq1 hq2=>Gu (h p hp hq1 hq2))
   rcases h5 with h5|h5
   .exact absurd h7 (zu1 h5 h6)
   .rcases Nat.lt_or_ge b (n-hint) with h8|h8
    .exact mono' (hint+b) i (zzE h6 h8) h7 h5
    .exact absurd h7 (zu1 h8 h6)
 | false=>
  refine Gs (Gv (Gx (I:=fun x c st'=>st'=st/\∃a b,c=(none,a,b)/\a<b/\x+1<=b/\a<=hint/\byd left Y key arr base (hint-a)=false)
   (Q:=fun c st'=>st'=st/\∃a b,c=(none,a,b)/\a<b/\a<=hint/\byd left Y key arr base (hint-a)=false/\(b>=hint+1\/byd left Y key arr base (hint-b)=true)) ?step2 ?fin2 (jg rfl 0 1 rfl y4 y1 ztu (by simpa using hb))) ?post2)
  case fin2=>
   intro c st' hR6;refine qA hR6 fun e5_0 a b e5_3 h1 h2 h3 h4=>?_;subst e5_0;subst e5_3;exact jg rfl a b rfl h1 h3 h4 (.inl (zyT hh h2))
  case step2=>
   intro x c st' _ hx hR7;refine qA hR7 fun e6_0 a b e6_3 h1 h2 h3 h4=>?_;subst e6_0;subst e6_3;dsimp only
   by_cases hge:b>=hint+1
   .rw[if_pos hge];exact Gu (jg rfl a b rfl h1 h3 h4 (.inl hge))
   .rw[if_neg hge];refine Gs (zcC H hB hk ha (zAK hn hh) ?_);dsimp only;cases hb':byd left Y key arr base (hint-b) with
    | true=>exact Gu (jg rfl a b rfl h1 h3 h4 (.inr hb'))
    | false=>exact Gu (jg rfl b _ rfl ztv (ztF h2) (zxU hge) hb')
  case post2=>
   intro c st' hR8;refine qA hR8 fun e7_0 a b e7_3 h1 h3 h4 h5=>?_;subst e7_0;subst e7_3;dsimp only;refine Gs (bin _ _ (zy7 h1) (zyI hh) (fun i hi=>?_) (fun i h6 h7=>mono' (hint-a) i h6 h7 h4) fun p q hp hq1 hq2=>Gu (h p hp hq1 hq2))
   rcases h5 with h5|h5
   .exact absurd hi (zu2 h5)
   .rcases Nat.lt_or_ge b (hint+1) with h8|h8
    .exact mono i (hint-b) (zyC hi) (zyH hh) h5
    .exact absurd hi (zu2 h8)
end
noncomputable def zfD:Nat->StateT SortSt Sem Unit:=sortPriv% PySem.Builtin.setMinGallop
noncomputable abbrev zjI(st:SortSt)(g:Nat):SortSt:=SortSt.mk' (kindOf st) (G0 st) (Gw st) g (failedOf st)
theorem zoe(g:Nat):zfD g=modify fun s=>zjI s g:=rfl
noncomputable def zei:Array G1->Array G1->StateT SortSt Sem (Array G1):=sortPriv% PySem.Builtin.mergeLo
noncomputable def zeh:Array G1->Array G1->StateT SortSt Sem (Array G1):=sortPriv% PySem.Builtin.mergeHi
structure MI(Y:G1->Nat)(a b out:Array G1)(ia ib:Nat):Prop where
 la:ia<=a.size
 lb:ib<=b.size
 perm:(out.toList++a.toList.drop ia++b.toList.drop ib).Perm (a.toList++b.toList)
 srt:out.toList.Pairwise fun x y=>Y x<=Y y
 oa:∀x∈out.toList,∀y∈a.toList.drop ia,Y x<=Y y
 ob:∀x∈out.toList,∀y∈b.toList.drop ib,Y x<=Y y
structure MR(Y:G1->Nat)(a b r:Array G1):Prop where
 perm:r.toList.Perm (a.toList++b.toList)
 srt:r.toList.Pairwise fun x y=>Y x<=Y y
theorem qi{Y:G1->Nat}{a:Array G1}{i:Nat}{y:G1}(h:y∈a.toList.drop i):∃j,i<=j/\j<a.size/\a[j]? = some y/\Rk Y a j=Y y:=by
 obtain⟨k,hk⟩:=fAI.mp h;rw[fCP] at hk;have hk':a[i+k]? = some y:=by rw[<-gY];exact hk
 have hlt:i+k<a.size:=by
  have:=(fX.mp hk).1
  simpa using this
 exact jN (i+k) zka hlt hk' (by unfold Rk;rw[hk'])
theorem q6{Y:G1->Nat}{a:Array G1}{i:Nat}{y:G1}(h:y∈a.toList.take i):∃j,j<i/\j<a.size/\a[j]? = some y/\Rk Y a j=Y y:=by
 obtain⟨k,hk⟩:=fAI.mp h;rw[List.getElem?_take] at hk;split at hk
 .have hk':a[k]? = some y:=by rw[<-gY];exact hk
  have hlt:k<a.size:=by
   have:=(fX.mp hk).1
   simpa using this
  exact jN k (zrX (by assumption)) hlt hk' (by unfold Rk;rw[hk'])
 .cases hk
theorem zfZ{a:Array G1}{i:Nat}{x:G1}(h:a[i]? = some x):a.toList.drop i=x::a.toList.drop (i+1):=by
 have h':a.toList[i]? = some x:=by rw[gY];exact h
 obtain⟨hi,e⟩:=fX.mp h';rw[fAG hi,e]
theorem zkM{a:Array G1}{i:Nat}{x:G1}(h:a[i]? = some x):a.toList.take (i+1)=a.toList.take i++[x]:=by
 have h':a.toList[i]? = some x:=by rw[gY];exact h
 rw[fB2,h'];rfl
section
variable{Y:G1->Nat}{a b out:Array G1}{ia ib:Nat}
theorem MI.pushB(M:MI Y a b out ia ib)(SA:Srt Y a 0 a.size)(SBb:Srt Y b 0 b.size){x:G1}(hx:b[ib]? = some x)(hib:ib<b.size)(hle:ia<a.size->Y x<=Rk Y a ia):MI Y a b (out.push x) ia (ib+1):=by
 have ex:Rk Y b ib=Y x:=by unfold Rk;rw[hx]
 have hd:=zfZ hx;refine⟨M.la,zoz hib,?_,?_,?_,?_⟩
 .refine List.Perm.trans ?_ M.perm;rw[hd,gD];simp only[gE,List.singleton_append];refine List.Perm.append_left _ ?_;exact(List.perm_middle (l₁:=List.drop ia a.toList)).symm
 .rw[gD,gC];exact zq M.srt (pJ _ _) (fun y hy z hz=>by rw[fG.mp hz];exact M.ob y hy x (by rw[hd];exact fB))
 .intro y hy z hz;rw[gD,fR,fG] at hy
  rcases hy with hy|rfl
  .exact M.oa y hy z hz
  .refine zI (qi (Y:=Y) hz) fun j h1 h2 _ h3=>?_;have:=SA ia j (fW _) h1 h2;have:=hle (zp6 h1 h2);exact zuy h3 (by assumption) this
 .intro y hy z hz;rw[gD,fR,fG] at hy
  rcases hy with hy|rfl
  .exact M.ob y hy z (by rw[hd];exact fA _ hz)
  .refine zI (qi (Y:=Y) hz) fun j h1 h2 _ h3=>?_;have:=SBb ib j (fW _) (zpY h1) h2;exact zp8 ex h3 this
theorem MI.pushA(M:MI Y a b out ia ib)(SA:Srt Y a 0 a.size)(SBb:Srt Y b 0 b.size){x:G1}(hx:a[ia]? = some x)(hia:ia<a.size)(hle:ib<b.size->Y x<=Rk Y b ib):MI Y a b (out.push x) (ia+1) ib:=by
 have ex:Rk Y a ia=Y x:=by unfold Rk;rw[hx]
 have hd:=zfZ hx;refine⟨zoz hia,M.lb,?_,?_,?_,?_⟩
 .refine List.Perm.trans ?_ M.perm;rw[hd,gD];simp only[gE,List.cons_append];exact List.Perm.refl _
 .rw[gD,gC];exact zq M.srt (pJ _ _) (fun y hy z hz=>by rw[fG.mp hz];exact M.oa y hy x (by rw[hd];exact fB))
 .intro y hy z hz;rw[gD,fR,fG] at hy
  rcases hy with hy|rfl
  .exact M.oa y hy z (by rw[hd];exact fA _ hz)
  .refine zI (qi (Y:=Y) hz) fun j h1 h2 _ h3=>?_;have:=SA ia j (fW _) (zpY h1) h2;exact zp8 ex h3 this
 .intro y hy z hz;rw[gD,fR,fG] at hy
  rcases hy with hy|rfl
  .exact M.ob y hy z hz
  .refine zI (qi (Y:=Y) hz) fun j h1 h2 _ h3=>?_;have:=SBb ib j (fW _) h1 h2;have:=hle (zp6 h1 h2);exact zuy h3 (by assumption) this
theorem zb8{a:Array G1}{i k:Nat}(h:i+k<a.size):a.extract i (i+(k+1))=(a.extract i (i+k)).push a[i+k]:=by
 apply Array.ext';have e:a[i+k]? = some a[i+k]:=getElem?_pos a (i+k) h;have e':a.toList[i+k]? = some a[i+k]:=by rw[gY];exact e
 rw[gD,pQ,pQ];simp only[pT,fBX];rw[fB2,fCP,e'];rfl
theorem zb7(a:Array G1)(i:Nat):a.extract i i = #[]:=by
 apply Array.ext';rw[pQ];simp
theorem append_push(u v:Array G1)(x:G1):u++v.push x=(u++v).push x:=by rw[Array.append_push]
theorem MI.w4(SA:Srt Y a 0 a.size)(SBb:Srt Y b 0 b.size)(M:MI Y a b out ia ib)(k:Nat):ia+k<=a.size->(∀i,i<k->ib<b.size->Rk Y a (ia+i)<=Rk Y b ib)->MI Y a b (out++a.extract ia (ia+k)) (ia+k) ib:=by
 induction k with
 | zero=>intro _ _;rw[fA0,zb7];simpa using M
 | succ k ih=>
  intro hk hle;have ih:=ih (zt3 hk) fun i hi=>hle i (ztP hi);have e:a[ia+k]? = some a[ia+k]:=getElem?_pos a (ia+k) (zmo hk);rw[zb8 (zmo hk),append_push];exact ih.pushA SA SBb e (zmo hk) fun h=>fN (pC (by unfold Rk;rw[e])) (hle k zpW h)
theorem MI.w5(SA:Srt Y a 0 a.size)(SBb:Srt Y b 0 b.size)(M:MI Y a b out ia ib)(k:Nat):ib+k<=b.size->(∀i,i<k->ia<a.size->Rk Y b (ib+i)<=Rk Y a ia)->MI Y a b (out++b.extract ib (ib+k)) ia (ib+k):=by
 induction k with
 | zero=>intro _ _;rw[fA0,zb7];simpa using M
 | succ k ih=>
  intro hk hle;have ih:=ih (zt3 hk) fun i hi=>hle i (ztP hi);have e:b[ib+k]? = some b[ib+k]:=getElem?_pos b (ib+k) (zmo hk);rw[zb8 (zmo hk),append_push];exact ih.pushB SA SBb e (zmo hk) fun h=>by have:=hle k zpW h;unfold Rk at this;rw[e] at this;exact this
theorem km(a:Array G1)(i:Nat):(a.extract i a.size).toList=a.toList.drop i:=by
 rw[pQ,pT];exact fAT (by simp)
theorem MI.done(M:MI Y a b out ia ib)(SA:Srt Y a 0 a.size)(SBb:Srt Y b 0 b.size)(h:ia=a.size\/ib=b.size):MR Y a b (out++a.extract ia a.size++b.extract ib b.size):=by
 refine⟨by rw[gM,gM,km,km];exact M.perm,?_⟩;rw[gM,gM,km,km,gC,gC];refine zq (zq M.srt ((j5 SA).drop) (fun x hx y hy=>M.oa x hx y hy)) ((j5 SBb).drop) (fun x hx y hy=>?_)
 rcases fR.mp hx with hx|hx
 .exact M.ob x hx y hy
 .rcases h with h|h
  .rw[List.drop_eq_nil_of_le (by simp[h])] at hx;cases hx
  .rw[List.drop_eq_nil_of_le (by simp[h])] at hy;cases hy
theorem MI.lastA(M:MI Y a b out ia ib)(SA:Srt Y a 0 a.size)(SBb:Srt Y b 0 b.size)(h:ia+1=a.size)(hl:∀i,i<b.size->Rk Y b i<=Rk Y a (a.size-1)):MR Y a b (out++b.extract ib b.size++a.extract ia a.size):=by
 refine⟨?_,?_⟩
 .refine List.Perm.trans ?_ M.perm;simp only[gM,km,gE];exact List.Perm.append_left _ List.perm_append_comm
 .rw[gM,gM,km,km,gC,gC];refine zq (zq M.srt ((j5 SBb).drop) (fun x hx y hy=>M.ob x hx y hy)) ((j5 SA).drop) (fun x hx y hy=>?_)
  rcases fR.mp hx with hx|hx
  .exact M.oa x hx y hy
  .refine zI (qi (Y:=Y) hx) fun j h1 h2 _ h3=>?_;refine zI (qi (Y:=Y) hy) fun j' h1' h2' _ h3'=>?_;have:=hl j h2;rw[show j'=a.size-1 by exact zyy h h1' h2'] at h3';exact zp8 h3 h3' this
end
structure Gl(st st':SortSt):Prop where
 arr:G0 st'=G0 st
 kind:kindOf st'=kindOf st
 pend:Gw st'=Gw st
 failed:failedOf st'=failedOf st
theorem Gl.refl(st:SortSt):Gl st st:=⟨rfl,rfl,rfl,rfl⟩
theorem Gl.trans{x y z:SortSt}(h:Gl x y)(h':Gl y z):Gl x z:=⟨h'.arr.trans h.arr,h'.kind.trans h.kind,h'.pend.trans h.pend,h'.failed.trans h.failed⟩
theorem Gl.gal(st:SortSt)(g:Nat):Gl st (zjI st g):=⟨rfl,rfl,rfl,rfl⟩
theorem SB.gl{V:SortKind}{a₀:Array G1}{st st':SortSt}(h:SB V a₀ st)(g:Gl st st'):SB V a₀ st':=⟨by rw[g.arr];exact h.perm,by rw[g.kind];exact h.kind,by rw[g.failed];exact h.failed⟩
noncomputable abbrev St1:=Option (Array G1)×Array G1×Nat×Nat×Nat×Nat
noncomputable abbrev St2:=Option (Array G1)×Array G1×Nat×Nat×Nat×Nat×Nat
noncomputable abbrev St0:=Option (Array G1)×Array G1×Nat×Nat×Nat
noncomputable def t2(a b out:Array G1)(ia ib mg ac bc:Nat):StateT SortSt Sem (ForInStep St2):=do
 let x <-elem' a ia
 if (ia+1+1==a.size)=true then pure (.done (some (out.push x++b.extract ib b.size++a.extract (ia+1) a.size),out.push x,ia+1,ib,mg,ac,bc))
 else if (decide (ac<7)&&decide (bc<7))=true then pure (.done (none,out.push x,ia+1,ib,mg,ac,bc)) else pure (.yield (none,out.push x,ia+1,ib,mg,ac,bc))
noncomputable def t1(a b out:Array G1)(ia ib mg ac bc:Nat):StateT SortSt Sem (ForInStep St2):=do
 let x <-elem' b ib
 if (ib+1==b.size)=true then pure (.done (some (out.push x++a.extract ia a.size++b.extract (ib+1) b.size),out.push x,ia,ib+1,mg,ac,bc))
 else do
  let y <-elem' a ia
  let r <-zat true y b (ib+1) (b.size-(ib+1)) 0
  match r with
  | some k=>
   if k>0 then
    if (ib+1+k==b.size)=true then pure (.done (some (out.push x++b.extract (ib+1) (ib+1+k)++a.extract ia a.size++b.extract (ib+1+k) b.size),out.push x++b.extract (ib+1) (ib+1+k),ia,ib+1+k,mg,ac,k))
    else t2 a b (out.push x++b.extract (ib+1) (ib+1+k)) ia (ib+1+k) mg ac k
   else t2 a b (out.push x) ia (ib+1) mg ac k
  | _=>pure (.done (some (out.push x++a.extract ia a.size++b.extract (ib+1) b.size),out.push x,ia,ib+1,mg,ac,bc))
noncomputable def g2(a b out:Array G1)(ia ib mg ac bc:Nat):StateT SortSt Sem (ForInStep St2):=do
 zfD mg
 let x <-elem' b ib
 let r <-zat false x a ia (a.size-ia) 0
 match r with
 | some k=>
  if k>0 then
   if (ia+k+1==a.size)=true then pure (.done (some (out++a.extract ia (ia+k)++b.extract ib b.size++a.extract (ia+k) a.size),out++a.extract ia (ia+k),ia+k,ib,mg,k,bc))
   else if (ia+k==a.size)=true then pure (.done (some (out++a.extract ia (ia+k)++a.extract (ia+k) a.size++b.extract ib b.size),out++a.extract ia (ia+k),ia+k,ib,mg,k,bc))
   else t1 a b (out++a.extract ia (ia+k)) (ia+k) ib mg k bc
  else t1 a b out ia ib mg k bc
 | _=>pure (.done (some (out++a.extract ia a.size++b.extract ib b.size),out,ia,ib,mg,ac,bc))
noncomputable def b2(a b:Array G1)(c:St2):StateT SortSt Sem (ForInStep St2):=
 if c.2.2.2.2.1>1 then g2 a b c.2.1 c.2.2.1 c.2.2.2.1 (c.2.2.2.2.1-1) c.2.2.2.2.2.1 c.2.2.2.2.2.2 else g2 a b c.2.1 c.2.2.1 c.2.2.2.1 c.2.2.2.2.1 c.2.2.2.2.2.1 c.2.2.2.2.2.2
noncomputable def b1(a b:Array G1)(mg:Nat)(c:St1):StateT SortSt Sem (ForInStep St1):=do
 let x <-elem' b c.2.2.2.1
 let y <-elem' a c.2.2.1
 let r <-lt' x y
 match r with
 | some w=>
  if w=true then do
   let x <-elem' b c.2.2.2.1
   if (c.2.2.2.1+1==b.size)=true then pure (.done (some (c.2.1.push x++a.extract c.2.2.1 a.size++b.extract (c.2.2.2.1+1) b.size),c.2.1.push x,c.2.2.1,c.2.2.2.1+1,0,c.2.2.2.2.2+1))
   else if c.2.2.2.2.2+1>=mg then pure (.done (none,c.2.1.push x,c.2.2.1,c.2.2.2.1+1,0,c.2.2.2.2.2+1)) else pure (.yield (none,c.2.1.push x,c.2.2.1,c.2.2.2.1+1,0,c.2.2.2.2.2+1))
  else do
   let x <-elem' a c.2.2.1
   if (c.2.2.1+1+1==a.size)=true then pure (.done (some (c.2.1.push x++b.extract c.2.2.2.1 b.size++a.extract (c.2.2.1+1) a.size),c.2.1.push x,c.2.2.1+1,c.2.2.2.1,c.2.2.2.2.1+1,0))
   else if c.2.2.2.2.1+1>=mg then pure (.done (none,c.2.1.push x,c.2.2.1+1,c.2.2.2.1,c.2.2.2.2.1+1,0)) else pure (.yield (none,c.2.1.push x,c.2.2.1+1,c.2.2.2.1,c.2.2.2.2.1+1,0))
 | _=>pure (.done (some (c.2.1++a.extract c.2.2.1 a.size++b.extract c.2.2.2.1 b.size),c.2.1,c.2.2.1,c.2.2.2.1,c.2.2.2.2.1,c.2.2.2.2.2))
noncomputable def b0(a b:Array G1)(c:St0):StateT SortSt Sem (ForInStep St0):=do
 let r <-forIn [0:a.size+b.size] ((none,c.2.1,c.2.2.1,c.2.2.2.1,0,0):St1) fun _ r=>b1 a b c.2.2.2.2 r
 match r.1 with
 | some v=>pure (.done (some v,r.2.1,r.2.2.1,r.2.2.2.1,c.2.2.2.2))
 | none=>do
  liftM (rule "list.sort.gallop")
  let q <-forIn [0:a.size+b.size] ((none,r.2.1,r.2.2.1,r.2.2.2.1,c.2.2.2.2+1,r.2.2.2.2.1,r.2.2.2.2.2):St2) fun _ q=>b2 a b q
  match q.1 with
  | some v=>pure (.done (some v,q.2.1,q.2.2.1,q.2.2.2.1,q.2.2.2.2.1))
  | none=>do
   zfD (q.2.2.2.2.1+1)
   pure (.yield (none,q.2.1,q.2.2.1,q.2.2.2.1,q.2.2.2.2.1+1))
noncomputable def mLo(a b:Array G1):StateT SortSt Sem (Array G1):=do
 liftM (rule "list.sort.merge-lo")
 let x <-elem' b 0
 if (1==b.size)=true then pure (#[x]++a.extract 0 a.size++b.extract 1 b.size)
 else if (0+1==a.size)=true then pure (#[x]++b.extract 1 b.size++a.extract 0 a.size)
 else do
  let g <-get
  let q <-forIn [0:a.size+b.size] ((none,#[x],0,1,gallopOf g):St0) fun _ q=>b0 a b q
  match q.1 with
  | some v=>pure v
  | none=>liftM (unsupported "internal:list.sort.merge-bound" : Sem (Array G1))
theorem zq7(a b:Array G1):zei a b=mLo a b:=by kernel_rfl
section
variable{prog:Gn}{w:World}{A:Around}{E:Value->Shared->Prop}{s:Shared}{a₀:Array G1}{V:SortKind}{Y:G1->Nat}{a b:Array G1}
theorem zgB{st:SortSt}{g:Nat}{Q:Unit->SortSt->Prop}(h:Q () (zjI st g)):wpS (model prog w) A E s (zfD g) Q st:=by
 rw[zoe];exact wpS_modify h
structure MG(prog:Gn)(w:World)(A:Around)(s:Shared)(V:SortKind)(Y:G1->Nat)(a₀ a b:Array G1):Prop where
 H:qH prog w A s V Y a₀
 ha:∀p∈a.toList,p∈a₀.toList
 hb:∀p∈b.toList,p∈a₀.toList
 SA:Srt Y a 0 a.size
 SBb:Srt Y b 0 b.size
 first:∀i,i<a.size->Rk Y b 0<=Rk Y a i
 last:∀i,i<b.size->Rk Y b i<=Rk Y a (a.size-1)
theorem zin{x:Array G1}(h:Srt Y x 0 x.size)(i:Nat)(hi:i<=x.size):Srt Y x i (i+(x.size-i)):=fun u v h1 h2 h3=>h u v (fW _) h2 (zzg hi h3)
theorem at_some{x:Array G1}{i:Nat}(h:i<x.size):∃p,x[i]? = some p/\p∈x.toList/\Rk Y x i=Y p:=by
 have e:x[i]? = some x[i]:=getElem?_pos x i h;exact zv (x[i]) e (by simp) (by unfold Rk;rw[e])
def InP(Y:G1->Nat)(a b:Array G1)(r0:Nat)(out:Array G1)(ia ib:Nat):Prop:=MI Y a b out ia ib/\ia+1<a.size/\ib<b.size/\(a.size-ia)+(b.size-ib)<=r0
def zsl(Y:G1->Nat)(a b:Array G1)(r0:Nat)(c:St2):Prop:=(∃r,c.1=some r/\MR Y a b r)\/(c.1=none/\InP Y a b r0 c.2.1 c.2.2.1 c.2.2.2.1)
def zkc(Y:G1->Nat)(a b:Array G1)(r0:Nat)(st:SortSt)(r:ForInStep St2)(st':SortSt):Prop:=Gl st st'/\match r with
 | .done c=>zsl Y a b r0 c
 | .yield c=>c.1=none/\InP Y a b r0 c.2.1 c.2.2.1 c.2.2.2.1
theorem zs8(M:MG prog w A s V Y a₀ a b){st st0:SortSt}(g:Gl st0 st){out:Array G1}{ia ib mg ac bc r0:Nat}(I:InP Y a b r0 out ia ib)(hle:Rk Y a ia<=Rk Y b ib):wpS (model prog w) A E s (t2 a b out ia ib mg ac bc) (zkc Y a b r0 st0) st:=by
 refine zk (at_some (Y:=Y) (x:=a) (i:=ia) (by have:=I.2.1;exact zgR this)) fun x hx hm hr=>?_;have I1:=I.1.pushA M.SA M.SBb hx (by have:=I.2.1;exact zgR this) fun _=>zum hle hr;refine zx I fun _ h1 h2 h3=>?_;refine Gs (ja hx ?_)
 by_cases he:ia+1+1=a.size
 .rw[if_pos (by simpa using he)];exact Gu ⟨g,.inl (zc _ rfl (I1.lastA M.SA M.SBb he M.last))⟩
 .rw[if_neg (by simpa using he)];have I2:InP Y a b r0 (out.push x) (ia+1) ib:=(zn I1 (ztE h1 he) h2 (zAE h3))
  split
  .exact Gu ⟨g,.inr ⟨rfl,I2⟩⟩
  .exact Gu (zq g rfl I2)
theorem zs7(M:MG prog w A s V Y a₀ a b){st st0:SortSt}(hB:SB V a₀ st)(g:Gl st0 st){out:Array G1}{ia ib mg ac bc r0:Nat}(I:InP Y a b r0 out ia ib)(hle:Rk Y b ib<=Rk Y a ia):wpS (model prog w) A E s (t1 a b out ia ib mg ac bc) (zkc Y a b r0 st0) st:=by
 refine zx I fun I0 h1 h2 h3=>?_;refine zk (at_some (Y:=Y) (x:=b) (i:=ib) h2) fun x hx hm hr=>?_;refine zk (at_some (Y:=Y) (x:=a) (i:=ia) (zgR h1)) fun y hy hmy hry=>?_;have I1:=I0.pushB M.SA M.SBb hx h2 fun _=>zum hle hr;refine Gs (ja hx ?_)
 by_cases he:ib+1=b.size
 .rw[if_pos (by simpa using he)];exact Gu ⟨g,.inl (zc _ rfl (I1.done M.SA M.SBb (.inr he)))⟩
 .rw[if_neg (by simpa using he)];refine Gs (ja hy ?_);refine Gs (zaj M.H hB (M.ha y hmy) M.hb (zxk h2) (ztT h2 he) (zin M.SBb _ (zoz h2)) fun k hk hlt hge=>?_);have hlt':∀i,i<k->Rk Y b (ib+1+i)<Y y:=fun i hi=>by have:=hlt i hi;unfold byd at this;simpa using this
  have hge':∀i,k<=i->i<b.size-(ib+1)->Y y<=Rk Y b (ib+1+i):=fun i h4 h5=>by have:=hge i h4 h5;unfold byd at this;simpa using this
  dsimp only
  by_cases hk0:k>0
  .rw[if_pos hk0];have I2:=MI.w5 M.SA M.SBb I1 k (zy0 hk hk0) fun i hi _=>by have:=hlt' i hi;exact zp7 hry this
   by_cases he2:ib+1+k=b.size
   .rw[if_pos (by simpa using he2)];exact Gu ⟨g,.inl (zc _ rfl (I2.done M.SA M.SBb (.inr he2)))⟩
   .rw[if_neg (by simpa using he2)];refine zs8 M g (zn I2 h1 (zyZ hk hk0 he2) (zA7 h3)) ?_;have:=hge' k (fM _) (zyN hk hk0 he2);exact zp5 hry this
  .rw[if_neg hk0];have hk1:k=0:=zts hk0;subst hk1;refine zs8 M g (zn I1 h1 (ztM h2 he) (zAF h3)) ?_;have:=hge' 0 (fM _) (ztT h2 he);simp only[fA0] at this;exact zp5 hry this
theorem zs6(M:MG prog w A s V Y a₀ a b){st st0:SortSt}(hB:SB V a₀ st)(g:Gl st0 st){out:Array G1}{ia ib mg ac bc r0:Nat}(I:InP Y a b r0 out ia ib):wpS (model prog w) A E s (g2 a b out ia ib mg ac bc) (zkc Y a b r0 st0) st:=by
 refine zx I fun I0 h1 h2 h3=>?_;refine zk (at_some (Y:=Y) (x:=b) (i:=ib) h2) fun x hx hm hr=>?_;refine Gs (zgB ?_);have g':=g.trans (Gl.gal st mg);have hB':=hB.gl (Gl.gal st mg);refine Gs (ja hx ?_);refine Gs (zaj M.H hB' (M.hb x hm) M.ha (zw6 h1) (ztH h1) (zin M.SA _ (zw8 h1)) fun k hk hlt hge=>?_);have hlt':∀i,i<k->Rk Y a (ia+i)<=Y x:=fun i hi=>by have:=hlt i hi;unfold byd at this;simpa using this
 have hge':∀i,k<=i->i<a.size-ia->Y x<Rk Y a (ia+i):=fun i h4 h5=>by have:=hge i h4 h5;unfold byd at this;simpa using this
 dsimp only
 by_cases hk0:k>0
 .rw[if_pos hk0];have I2:=MI.w4 M.SA M.SBb I0 k (zy2 hk hk0) fun i hi _=>by have:=hlt' i hi;exact zsa hr this
  by_cases he2:ia+k+1=a.size
  .rw[if_pos (by simpa using he2)];exact Gu ⟨g',.inl (zc _ rfl (I2.lastA M.SA M.SBb he2 M.last))⟩
  .rw[if_neg (by simpa using he2)]
   by_cases he3:ia+k=a.size
   .rw[if_pos (by simpa using he3)];exact Gu ⟨g',.inl (zc _ rfl (I2.done M.SA M.SBb (.inl he3)))⟩
   .rw[if_neg (by simpa using he3)];refine zs7 M hB' g' (zn I2 (zy1 hk hk0 he2 he3) h2 (zA8 h3)) ?_;have:=hge' k (fM _) (zyO hk hk0 he3);exact zoB hr this
 .rw[if_neg hk0];have hk1:k=0:=zts hk0;subst hk1;refine zs7 M hB' g' (zn I0 (zw7 h1) h2 (zAG h3)) ?_;have:=hge' 0 (fM _) (ztH h1);simp only[fA0] at this;exact zoB hr this
theorem zvP(M:MG prog w A s V Y a₀ a b){st st0:SortSt}(hB:SB V a₀ st)(g:Gl st0 st){c:St2}{r0:Nat}(I:InP Y a b r0 c.2.1 c.2.2.1 c.2.2.2.1):wpS (model prog w) A E s (b2 a b c) (zkc Y a b r0 st0) st:=by
 unfold b2;split
 .exact zs6 M hB g I
 .exact zs6 M hB g I
theorem zvO(M:MG prog w A s V Y a₀ a b){st:SortSt}(hB:SB V a₀ st){c:St1}{mg r0 x:Nat}(I:InP Y a b (r0-x) c.2.1 c.2.2.1 c.2.2.2.1)(hx0:x<=r0){Q:ForInStep St1->SortSt->Prop}
  (hd:∀r,MR Y a b r->∀rest,Q (.done (some r,rest)) st)(hn:∀c':St1,c'.1=none->InP Y a b (r0-(x+1)) c'.2.1 c'.2.2.1 c'.2.2.2.1->Q (.done c') st/\Q (.yield c') st):wpS (model prog w) A E s (b1 a b mg c) Q st:=by
 refine zx I fun I0 h1 h2 h3=>?_;refine zk (at_some (Y:=Y) (x:=b) (i:=c.2.2.2.1) h2) fun x' hx hm hr=>?_;refine zk (at_some (Y:=Y) (x:=a) (i:=c.2.2.1) (zgR h1)) fun y hy hmy hry=>?_;refine Gs (ja hx (Gs (ja hy (Gs (zn9 M.H hB (M.hb _ hm) (M.ha _ hmy) ?_)))));dsimp only
 by_cases hw:Y x'<Y y
 .rw[G6 hw,if_pos rfl];have I1:=I0.pushB M.SA M.SBb hx h2 fun _=>zp7 hry hw;refine Gs (ja hx ?_)
  by_cases he:c.2.2.2.1+1=b.size
  .rw[if_pos (by simpa using he)];exact Gu (hd _ (I1.done M.SA M.SBb (.inr he)) _)
  .rw[if_neg (by simpa using he)];have:=hn (none,c.2.1.push x',c.2.2.1,c.2.2.2.1+1,0,c.2.2.2.2.2+1) rfl (zn I1 h1 (by dsimp only;exact ztM h2 he) (by dsimp only;exact zBg h2 h3));split
   .exact Gu this.1
   .exact Gu this.2
 .rw[G5 hw,if_neg (by simp)];have I1:=I0.pushA M.SA M.SBb hy (zgR h1) fun _=>zyY hr hw;refine Gs (ja hy ?_)
  by_cases he:c.2.2.1+1+1=a.size
  .rw[if_pos (by simpa using he)];exact Gu (hd _ (I1.lastA M.SA M.SBb he M.last) _)
  .rw[if_neg (by simpa using he)];have:=hn (none,c.2.1.push y,c.2.2.1+1,c.2.2.2.1,c.2.2.2.2.1+1,0) rfl (zn I1 (by dsimp only;exact ztE h1 he) h2 (by dsimp only;exact zBd h1 h3));split
   .exact Gu this.1
   .exact Gu this.2
theorem zvN(M:MG prog w A s V Y a₀ a b){st st0:SortSt}(hB:SB V a₀ st)(g:Gl st0 st){c:St0}{r0:Nat}(I:InP Y a b r0 c.2.1 c.2.2.1 c.2.2.2.1){Q:ForInStep St0->SortSt->Prop}
  (hd:∀r st',Gl st0 st'->MR Y a b r->∀rest,Q (.done (some r,rest)) st')(hn:∀(c':St0) st',Gl st0 st'->c'.1=none->InP Y a b (r0-1) c'.2.1 c'.2.2.1 c'.2.2.2.1->Q (.yield c') st'):wpS (model prog w) A E s (b0 a b c) Q st:=by
 have hbig:1<=a.size+b.size:=by have:=I.2.1;exact zyx this
 refine Gs (Gv (Gx (I:=fun x c' st'=>st'=st/\c'.1=none/\InP Y a b (r0-x) c'.2.1 c'.2.2.1 c'.2.2.2.1/\x<=r0)
  (Q:=fun c' st'=>st'=st/\((∃r,c'.1=some r/\MR Y a b r)\/(c'.1=none/\InP Y a b (r0-1) c'.2.1 c'.2.2.1 c'.2.2.2.1))) ?step ?fin (zn rfl rfl (by simpa using I) (fW _))) ?post)
 case fin=>
  intro c' st' hR1;refine zx hR1 fun e0_0 h1 h2 h3=>?_;subst e0_0;exact⟨rfl,.inr (jb h1 h2.1 h2.2.1 h2.2.2.1 (by have:=h2.2.2.2;exact zAD this))⟩
 case step=>
  intro x c' st' _ hx hR2;refine zx hR2 fun e1_0 h1 h2 h3=>?_;subst e1_0;refine zvO M hB h2 h3 (fun r hr rest=>⟨rfl,.inl (zc r rfl hr)⟩) fun c'' hc I''=>(jb ⟨rfl,.inr (jb hc I''.1 I''.2.1 I''.2.2.1 (by have:=I''.2.2.2;exact zA6 this))⟩ rfl hc I'' ?_)
  have:=I''.2.2.2;have:=I''.2.1;have:=I''.2.2.1;exact zA9 (by assumption) (by assumption)
 case post=>
  rintro c' st' ⟨rfl,h⟩
  rcases h with⟨r,h1,h2⟩|⟨h1,h2⟩
  .rw[h1];exact Gu (hd r _ g h2 _)
  .rw[h1];refine Gs (wpS_lift (Gg ⟨rfl,?_⟩));refine Gs (Gv (Gx (I:=fun x q st''=>Gl st0 st''/\SB V a₀ st''/\q.1=none/\InP Y a b (r0-1) q.2.1 q.2.2.1 q.2.2.2.1) (Q:=fun q st''=>Gl st0 st''/\zsl Y a b (r0-1) q) ?step2 ?fin2 (zn g hB rfl h2)) ?post2)
   case fin2=>
    intro q st'' hR3;refine zx hR3 fun g' hB' h4 h5=>?_;exact⟨g',.inr ⟨h4,h5⟩⟩
   case step2=>
    intro x q st'' _ hx hR4;refine zx hR4 fun g' hB' h4 h5=>?_;refine Gv (zvP M hB' g' h5) fun r st3 hl=>?_;cases r with
    | done q'=>exact hl
    | yield q'=>exact zq hl.1 ⟨by rw[hl.1.arr,<-g'.arr];exact hB'.perm,by rw[hl.1.kind,<-g'.kind];exact hB'.kind,by rw[hl.1.failed,<-g'.failed];exact hB'.failed⟩ hl.2
   case post2=>
    rintro q st'' ⟨g',h⟩
    rcases h with⟨r,h4,h5⟩|⟨h4,h5⟩
    .rw[h4];exact Gu (hd r _ g' h5 _)
    .rw[h4];exact Gs (zgB (Gu (hn _ _ (g'.trans (Gl.gal _ _)) rfl h5)))
theorem zlP(M:MG prog w A s V Y a₀ a b){st:SortSt}(hB:SB V a₀ st)(h1:1<=a.size)(h2:1<=b.size){Q:Array G1->SortSt->Prop}(h:∀r st',Gl st st'->MR Y a b r->Q r st'):wpS (model prog w) A E s (zei a b) Q st:=by
 rw[zq7];refine Gs (wpS_lift (Gg ⟨rfl,?_⟩));refine zk (at_some (Y:=Y) (x:=b) (i:=0) (zrG h2)) fun x hx hm hr=>?_;have I0:MI Y a b #[] 0 0:=⟨fW _,fW _,by simp,by simp,by simp,by simp⟩
 have I1:MI Y a b #[x] 0 1:=I0.pushB M.SA M.SBb hx (zrG h2) fun h=>by rw[<-hr];exact M.first 0 h
 refine Gs (ja hx ?_)
 by_cases he:1=b.size
 .rw[if_pos (by simpa using he)];exact Gu (h _ _ (.refl _) (I1.done M.SA M.SBb (.inr he)))
 .rw[if_neg (by simpa using he)]
  by_cases he2:0+1=a.size
  .rw[if_pos (by simpa using he2)];exact Gu (h _ _ (.refl _) (I1.lastA M.SA M.SBb he2 M.last))
  .rw[if_neg (by simpa using he2)];refine Gs (wpS_get ?_);refine Gs (Gv (Gx (I:=fun x q st'=>Gl st st'/\q.1=none/\InP Y a b (a.size+b.size-x) q.2.1 q.2.2.1 q.2.2.2.1) (Q:=fun q st'=>Gl st st'/\∃r,q.1=some r/\MR Y a b r) ?step ?fin (jI (.refl _) rfl I1 (by dsimp only;exact zvX h1 he2) (by dsimp only;exact zvZ h2 he) (by dsimp only;exact zx1))) ?post)
   case fin=>
    intro q st' hR5;refine zY hR5 fun g h3 h4=>?_;exfalso;have:=h4.2.2.2;have:=h4.2.1;have:=h4.2.2.1;exact zzA (by assumption) (by assumption)
   case step=>
    intro x q st' _ hx hR6;refine zY hR6 fun g h3 h4=>?_;refine zvN M (hB.gl g) g h4 (fun r st'' g' hr rest=>(zax g' r rfl hr)) fun c' st'' g' h5 h6=>(jI g' h5 h6.1 h6.2.1 h6.2.2.1 (by have:=h6.2.2.2;exact zAC this))
   case post=>
    intro q st' hR7;refine kj hR7 fun g r h3 h4=>?_;rw[h3];exact Gu (h r st' g h4)
end
structure MH(Y:G1->Nat)(a b out:Array G1)(na nb:Nat):Prop where
 la:na<=a.size
 lb:nb<=b.size
 perm:(a.toList.take na++b.toList.take nb++out.toList.reverse).Perm (a.toList++b.toList)
 srt:out.toList.reverse.Pairwise fun x y=>Y x<=Y y
 oa:∀x∈out.toList,∀y∈a.toList.take na,Y y<=Y x
 ob:∀x∈out.toList,∀y∈b.toList.take nb,Y y<=Y x
section
variable{Y:G1->Nat}{a b out:Array G1}{na nb:Nat}
theorem MH.pushB(M:MH Y a b out na (nb+1))(SA:Srt Y a 0 a.size)(SBb:Srt Y b 0 b.size){x:G1}(hx:b[nb]? = some x)(hle:0<na->Rk Y a (na-1)<=Y x):MH Y a b (out.push x) na nb:=by
 have ex:Rk Y b nb=Y x:=by unfold Rk;rw[hx]
 have hd:=zkM hx;have hnb:nb<b.size:=(pP.mp hx).1;refine⟨M.la,zgS hnb,?_,?_,?_,?_⟩
 .refine List.Perm.trans ?_ M.perm;rw[hd,gD];simp
 .rw[gD,fCK];refine fZ.mpr ⟨fun y hy=>?_,M.srt⟩;exact M.ob y (fB9.mp hy) x (by rw[hd];simp)
 .intro y hy z hz;rw[gD,fR,fG] at hy
  rcases hy with hy|rfl
  .exact M.oa y hy z hz
  .refine zI (q6 (Y:=Y) hz) fun j h1 h2 _ h3=>?_;have:=SA j (na-1) (fW _) (zpZ h1) (by have:=M.la;exact zuk h1 this);have:=hle (ztU h1);exact zuw h3 (by assumption) this
 .intro y hy z hz;rw[gD,fR,fG] at hy
  rcases hy with hy|rfl
  .exact M.ob y hy z (by rw[hd];exact gR _ hz)
  .refine zI (q6 (Y:=Y) hz) fun j h1 h2 _ h3=>?_;have:=SBb j nb (fW _) (zgS h1) hnb;exact zux ex h3 this
theorem MH.pushA(M:MH Y a b out (na+1) nb)(SA:Srt Y a 0 a.size)(SBb:Srt Y b 0 b.size){x:G1}(hx:a[na]? = some x)(hle:0<nb->Rk Y b (nb-1)<=Y x):MH Y a b (out.push x) na nb:=by
 have ex:Rk Y a na=Y x:=by unfold Rk;rw[hx]
 have hd:=zkM hx;have hna:na<a.size:=(pP.mp hx).1;refine⟨zgS hna,M.lb,?_,?_,?_,?_⟩
 .refine List.Perm.trans ?_ M.perm;rw[hd,gD];simp only[gE,fCK,List.reverse_cons,List.reverse_nil,pX,List.singleton_append];refine List.Perm.append_left _ ?_;exact List.perm_middle
 .rw[gD,fCK];refine fZ.mpr ⟨fun y hy=>?_,M.srt⟩;exact M.oa y (fB9.mp hy) x (by rw[hd];simp)
 .intro y hy z hz;rw[gD,fR,fG] at hy
  rcases hy with hy|rfl
  .exact M.oa y hy z (by rw[hd];exact gR _ hz)
  .refine zI (q6 (Y:=Y) hz) fun j h1 h2 _ h3=>?_;have:=SA j na (fW _) (zgS h1) hna;exact zux ex h3 this
 .intro y hy z hz;rw[gD,fR,fG] at hy
  rcases hy with hy|rfl
  .exact M.ob y hy z hz
  .refine zI (q6 (Y:=Y) hz) fun j h1 h2 _ h3=>?_;have:=SBb j (nb-1) (fW _) (zpZ h1) (by have:=M.lb;exact zuk h1 this);have:=hle (ztU h1);exact zuw h3 (by assumption) this
theorem zdj{a:Array G1}{i k:Nat}(h:i+k+1<=a.size):(a.extract i (i+(k+1))).reverse=(a.extract (i+1) (i+1+k)).reverse.push a[i]:=by
 have e:a[i]? = some a[i]:=getElem?_pos a i (zya h);apply Array.ext';rw[gD,fAO,fAO,pQ,pQ,pT,pT,zfZ e];simp only[fBX];rw[List.take_succ_cons,List.reverse_cons]
theorem MH.w4(SA:Srt Y a 0 a.size)(SBb:Srt Y b 0 b.size)(k:Nat):∀(at_:Nat) {out:Array G1},MH Y a b out (at_+k) nb->(∀i,at_<=i->i<at_+k->0<nb->Rk Y b (nb-1)<=Rk Y a i)->MH Y a b (out++(a.extract at_ (at_+k)).reverse) at_ nb:=by
 induction k with
 | zero=>intro at_ out M _;rw[fA0,zb7];simpa using M
 | succ k ih=>
  intro at_ out M hle;have hla:=M.la;have ih:=ih (at_+1) ((zr5:at_+1+k=at_+(k+1))▸M) fun i h1 h2 h3=>hle i (zpY h1) (zt8 h2) h3;have e:a[at_]? = some a[at_]:=getElem?_pos a at_ (zt4 hla);rw[zdj (zt2 hla),append_push];exact ih.pushA SA SBb e fun h=>fN (hle at_ (fM _) zt0 h) (pC (by unfold Rk;rw[e]))
theorem MH.w5(SA:Srt Y a 0 a.size)(SBb:Srt Y b 0 b.size)(k:Nat):∀(at_:Nat) {out:Array G1},MH Y a b out na (at_+k)->(∀i,at_<=i->i<at_+k->0<na->Rk Y a (na-1)<=Rk Y b i)->MH Y a b (out++(b.extract at_ (at_+k)).reverse) na at_:=by
 induction k with
 | zero=>intro at_ out M _;rw[fA0,zb7];simpa using M
 | succ k ih=>
  intro at_ out M hle;have hlb:=M.lb;have ih:=ih (at_+1) ((zr5:at_+1+k=at_+(k+1))▸M) fun i h1 h2 h3=>hle i (zpY h1) (zt8 h2) h3;have e:b[at_]? = some b[at_]:=getElem?_pos b at_ (zt4 hlb);rw[zdj (zt2 hlb),append_push];exact ih.pushB SA SBb e fun h=>fN (hle at_ (fM _) zt0 h) (pC (by unfold Rk;rw[e]))
theorem kn(a:Array G1)(i:Nat):(a.extract 0 i).toList=a.toList.take i:=by
 simp
theorem MH.done(M:MH Y a b out na nb)(SA:Srt Y a 0 a.size)(SBb:Srt Y b 0 b.size)(h:na=0\/nb=0):MR Y a b (a.extract 0 na++b.extract 0 nb++out.reverse):=by
 refine⟨by rw[gM,gM,kn,kn,fAO];exact M.perm,?_⟩;rw[gM,gM,kn,kn,fAO,gC,gC];refine zq (zq ((j5 SA).take) ((j5 SBb).take) (fun x hx y hy=>?_)) M.srt (fun x hx y hy=>?_)
 .rcases h with h|h
  .subst h;simp at hx
  .subst h;simp at hy
 .have hy':=fB9.mp hy
  rcases fR.mp hx with hx|hx
  .exact M.oa y hy' x hx
  .exact M.ob y hy' x hx
theorem MH.firstB(M:MH Y a b out na nb)(SA:Srt Y a 0 a.size)(SBb:Srt Y b 0 b.size)(h:nb=1)(hf:∀i,i<a.size->Rk Y b 0<=Rk Y a i):MR Y a b (b.extract 0 nb++a.extract 0 na++out.reverse):=by
 refine⟨?_,?_⟩
 .refine List.Perm.trans ?_ M.perm;simp only[gM,kn,fAO];exact List.Perm.append_right _ List.perm_append_comm
 .rw[gM,gM,kn,kn,fAO,gC,gC];refine zq (zq ((j5 SBb).take) ((j5 SA).take) (fun x hx y hy=>?_)) M.srt (fun x hx y hy=>?_)
  .refine zI (q6 (Y:=Y) hx) fun j h1 h2 _ h3=>?_;refine zI (q6 (Y:=Y) hy) fun j' h1' h2' _ h3'=>?_;have:=hf j' h2';rw[show j=0 by exact zxK h h1] at h3;exact zp8 h3 h3' this
  .have hy':=fB9.mp hy
   rcases fR.mp hx with hx|hx
   .exact M.ob y hy' x hx
   .exact M.oa y hy' x hx
end
noncomputable abbrev Sh1:=Option (Array G1)×Nat×Nat×Array G1×Nat×Nat
noncomputable abbrev Sh2:=Option (Array G1)×Nat×Nat×Array G1×Nat×Nat×Nat
noncomputable abbrev Sh0:=Option (Array G1)×Nat×Nat×Array G1×Nat
noncomputable def u2(a b out:Array G1)(na nb mg ac bc:Nat):StateT SortSt Sem (ForInStep Sh2):=do
 let x <-elem' a (na-1)
 if (na-1==0)=true then pure (.done (some (a.extract 0 (na-1)++b.extract 0 nb++(out.push x).reverse),na-1,nb,out.push x,mg,ac,bc))
 else if (decide (ac<7)&&decide (bc<7))=true then pure (.done (none,na-1,nb,out.push x,mg,ac,bc)) else pure (.yield (none,na-1,nb,out.push x,mg,ac,bc))
noncomputable def u1(a b out:Array G1)(na nb mg ac bc:Nat):StateT SortSt Sem (ForInStep Sh2):=do
 let x <-elem' b (nb-1)
 if (nb-1==1)=true then pure (.done (some (b.extract 0 (nb-1)++a.extract 0 na++(out.push x).reverse),na,nb-1,out.push x,mg,ac,bc))
 else do
  let y <-elem' a (na-1)
  let r <-zat true y b 0 (nb-1) (nb-1-1)
  match r with
  | some p=>
   if nb-1-p>0 then
    if (p==1)=true then pure (.done (some (b.extract 0 p++a.extract 0 na++(out.push x++(b.extract p (nb-1)).reverse).reverse),na,p,out.push x++(b.extract p (nb-1)).reverse,mg,ac,nb-1-p))
    else if (p==0)=true then pure (.done (some (a.extract 0 na++b.extract 0 p++(out.push x++(b.extract p (nb-1)).reverse).reverse),na,p,out.push x++(b.extract p (nb-1)).reverse,mg,ac,nb-1-p))
    else u2 a b (out.push x++(b.extract p (nb-1)).reverse) na p mg ac (nb-1-p)
   else u2 a b (out.push x) na (nb-1) mg ac (nb-1-p)
  | _=>pure (.done (some (a.extract 0 na++b.extract 0 (nb-1)++(out.push x).reverse),na,nb-1,out.push x,mg,ac,bc))
noncomputable def v2(a b out:Array G1)(na nb mg ac bc:Nat):StateT SortSt Sem (ForInStep Sh2):=do
 zfD mg
 let x <-elem' b (nb-1)
 let r <-zat false x a 0 na (na-1)
 match r with
 | some p=>
  if na-p>0 then
   if (p==0)=true then pure (.done (some (a.extract 0 p++b.extract 0 nb++(out++(a.extract p na).reverse).reverse),p,nb,out++(a.extract p na).reverse,mg,na-p,bc))
   else u1 a b (out++(a.extract p na).reverse) p nb mg (na-p) bc
  else u1 a b out na nb mg (na-p) bc
 | _=>pure (.done (some (a.extract 0 na++b.extract 0 nb++out.reverse),na,nb,out,mg,ac,bc))
noncomputable def h2(a b:Array G1)(c:Sh2):StateT SortSt Sem (ForInStep Sh2):=
 if c.2.2.2.2.1>1 then v2 a b c.2.2.2.1 c.2.1 c.2.2.1 (c.2.2.2.2.1-1) c.2.2.2.2.2.1 c.2.2.2.2.2.2 else v2 a b c.2.2.2.1 c.2.1 c.2.2.1 c.2.2.2.2.1 c.2.2.2.2.2.1 c.2.2.2.2.2.2
noncomputable def h1(a b:Array G1)(mg:Nat)(c:Sh1):StateT SortSt Sem (ForInStep Sh1):=do
 let x <-elem' b (c.2.2.1-1)
 let y <-elem' a (c.2.1-1)
 let r <-lt' x y
 match r with
 | some w=>
  if w=true then do
   let x <-elem' a (c.2.1-1)
   if (c.2.1-1==0)=true then pure (.done (some (a.extract 0 (c.2.1-1)++b.extract 0 c.2.2.1++(c.2.2.2.1.push x).reverse),c.2.1-1,c.2.2.1,c.2.2.2.1.push x,c.2.2.2.2.1+1,0))
   else if c.2.2.2.2.1+1>=mg then pure (.done (none,c.2.1-1,c.2.2.1,c.2.2.2.1.push x,c.2.2.2.2.1+1,0)) else pure (.yield (none,c.2.1-1,c.2.2.1,c.2.2.2.1.push x,c.2.2.2.2.1+1,0))
  else do
   let x <-elem' b (c.2.2.1-1)
   if (c.2.2.1-1==1)=true then pure (.done (some (b.extract 0 (c.2.2.1-1)++a.extract 0 c.2.1++(c.2.2.2.1.push x).reverse),c.2.1,c.2.2.1-1,c.2.2.2.1.push x,0,c.2.2.2.2.2+1))
   else if c.2.2.2.2.2+1>=mg then pure (.done (none,c.2.1,c.2.2.1-1,c.2.2.2.1.push x,0,c.2.2.2.2.2+1)) else pure (.yield (none,c.2.1,c.2.2.1-1,c.2.2.2.1.push x,0,c.2.2.2.2.2+1))
 | _=>pure (.done (some (a.extract 0 c.2.1++b.extract 0 c.2.2.1++c.2.2.2.1.reverse),c.2.1,c.2.2.1,c.2.2.2.1,c.2.2.2.2.1,c.2.2.2.2.2))
noncomputable def h0(a b:Array G1)(c:Sh0):StateT SortSt Sem (ForInStep Sh0):=do
 let r <-forIn [0:a.size+b.size] ((none,c.2.1,c.2.2.1,c.2.2.2.1,0,0):Sh1) fun _ r=>h1 a b c.2.2.2.2 r
 match r.1 with
 | some v=>pure (.done (some v,r.2.1,r.2.2.1,r.2.2.2.1,c.2.2.2.2))
 | none=>do
  liftM (rule "list.sort.gallop")
  let q <-forIn [0:a.size+b.size] ((none,r.2.1,r.2.2.1,r.2.2.2.1,c.2.2.2.2+1,r.2.2.2.2.1,r.2.2.2.2.2):Sh2) fun _ q=>h2 a b q
  match q.1 with
  | some v=>pure (.done (some v,q.2.1,q.2.2.1,q.2.2.2.1,q.2.2.2.2.1))
  | none=>do
   zfD (q.2.2.2.2.1+1)
   pure (.yield (none,q.2.1,q.2.2.1,q.2.2.2.1,q.2.2.2.2.1+1))
noncomputable def mHi(a b:Array G1):StateT SortSt Sem (Array G1):=do
 liftM (rule "list.sort.merge-hi")
 let x <-elem' a (a.size-1)
 if (a.size-1==0)=true then pure (a.extract 0 (a.size-1)++b.extract 0 b.size++(#[x]:Array G1).reverse)
 else if (b.size==1)=true then pure (b.extract 0 b.size++a.extract 0 (a.size-1)++(#[x]:Array G1).reverse)
 else do
  let g <-get
  let q <-forIn [0:a.size+b.size] ((none,a.size-1,b.size,#[x],gallopOf g):Sh0) fun _ q=>h0 a b q
  match q.1 with
  | some v=>pure v
  | none=>liftM (unsupported "internal:list.sort.merge-bound" : Sem (Array G1))
theorem zq6(a b:Array G1):zeh a b=mHi a b:=by kernel_rfl
section
variable{prog:Gn}{w:World}{A:Around}{E:Value->Shared->Prop}{s:Shared}{a₀:Array G1}{V:SortKind}{Y:G1->Nat}{a b:Array G1}
def InH(Y:G1->Nat)(a b:Array G1)(r0:Nat)(out:Array G1)(na nb:Nat):Prop:=MH Y a b out na nb/\1<=na/\2<=nb/\na+nb<=r0
def zsm(Y:G1->Nat)(a b:Array G1)(r0:Nat)(c:Sh2):Prop:=(∃r,c.1=some r/\MR Y a b r)\/(c.1=none/\InH Y a b r0 c.2.2.2.1 c.2.1 c.2.2.1)
def zkd(Y:G1->Nat)(a b:Array G1)(r0:Nat)(st:SortSt)(r:ForInStep Sh2)(st':SortSt):Prop:=Gl st st'/\match r with
 | .done c=>zsm Y a b r0 c
 | .yield c=>c.1=none/\InH Y a b r0 c.2.2.2.1 c.2.1 c.2.2.1
theorem MH.pushA'{out:Array G1}{na nb:Nat}(M:MH Y a b out na nb)(SA:Srt Y a 0 a.size)(SBb:Srt Y b 0 b.size){x:G1}(hna:1<=na)(hx:a[na-1]? = some x)(hle:0<nb->Rk Y b (nb-1)<=Y x):MH Y a b (out.push x) (na-1) nb:=by
 obtain⟨n,rfl⟩:∃n,na=n+1:=⟨na-1,zth hna⟩
 exact M.pushA SA SBb hx hle
theorem MH.pushB'{out:Array G1}{na nb:Nat}(M:MH Y a b out na nb)(SA:Srt Y a 0 a.size)(SBb:Srt Y b 0 b.size){x:G1}(hnb:1<=nb)(hx:b[nb-1]? = some x)(hle:0<na->Rk Y a (na-1)<=Y x):MH Y a b (out.push x) na (nb-1):=by
 obtain⟨n,rfl⟩:∃n,nb=n+1:=⟨nb-1,zth hnb⟩
 exact M.pushB SA SBb hx hle
theorem ztb(M:MG prog w A s V Y a₀ a b){st st0:SortSt}(g:Gl st0 st){out:Array G1}{na nb mg ac bc r0:Nat}(I:InH Y a b r0 out na nb)(hle:Rk Y b (nb-1)<=Rk Y a (na-1)):wpS (model prog w) A E s (u2 a b out na nb mg ac bc) (zkd Y a b r0 st0) st:=by
 refine zx I fun I0 h1 h2 h3=>?_;have hla:=I0.la;refine zk (at_some (Y:=Y) (x:=a) (i:=na-1) (zrS h1 hla)) fun x hx hm hr=>?_;have I1:=I0.pushA' M.SA M.SBb h1 hx fun _=>zr7 hle hr;refine Gs (ja hx ?_)
 by_cases he:na-1=0
 .rw[if_pos (by simpa using he)];exact Gu ⟨g,.inl (zc _ rfl (I1.done M.SA M.SBb (.inl he)))⟩
 .rw[if_neg (by simpa using he)];have I2:InH Y a b r0 (out.push x) (na-1) nb:=(zn I1 (zrP he) h2 (zyp h3))
  split
  .exact Gu ⟨g,.inr ⟨rfl,I2⟩⟩
  .exact Gu (zq g rfl I2)
theorem zta(M:MG prog w A s V Y a₀ a b){st st0:SortSt}(hB:SB V a₀ st)(g:Gl st0 st){out:Array G1}{na nb mg ac bc r0:Nat}(I:InH Y a b r0 out na nb)(hle:Rk Y a (na-1)<=Rk Y b (nb-1)):wpS (model prog w) A E s (u1 a b out na nb mg ac bc) (zkd Y a b r0 st0) st:=by
 refine zx I fun I0 h1 h2 h3=>?_;have hla:=I0.la;have hlb:=I0.lb;refine zk (at_some (Y:=Y) (x:=b) (i:=nb-1) (zrV h2 hlb)) fun x hx hm hr=>?_;refine zk (at_some (Y:=Y) (x:=a) (i:=na-1) (zrS h1 hla)) fun y hy hmy hry=>?_;have I1:=I0.pushB' M.SA M.SBb (zrI h2) hx fun _=>zr7 hle hr;refine Gs (ja hx ?_)
 by_cases he:nb-1=1
 .rw[if_pos (by simpa using he)];exact Gu ⟨g,.inl (zc _ rfl (I1.firstB M.SA M.SBb he M.first))⟩
 .rw[if_neg (by simpa using he)];refine Gs (ja hy ?_);refine Gs (zaj M.H hB (M.ha y hmy) M.hb (by exact zxA hlb) (by exact zv4 h2) (fun u v h4 h5 h6=>M.SBb u v (fW _) h5 (zze hlb h6)) fun p hp hlt hge=>?_);have hlt':∀i,i<p->Rk Y b i<Y y:=fun i hi=>by have:=hlt i hi;unfold byd at this;simpa using this
  have hge':∀i,p<=i->i<nb-1->Y y<=Rk Y b i:=fun i h4 h5=>by have:=hge i h4 h5;unfold byd at this;simpa using this
  dsimp only
  by_cases hk0:nb-1-p>0
  .rw[if_pos hk0];have I2:=MH.w5 (na:=na) M.SA M.SBb (nb-1-p) p (out:=out.push x) (by rw[show p+(nb-1-p)=nb-1 by exact ztx hk0];exact I1) fun i h4 h5 _=>by have:=hge' i h4 (by exact zyg hk0 h5);exact zp5 hry this
   rw[show p+(nb-1-p)=nb-1 by exact ztx hk0] at I2
   by_cases he2:p=1
   .rw[if_pos (by simpa using he2)];exact Gu ⟨g,.inl (zc _ rfl (I2.firstB M.SA M.SBb he2 M.first))⟩
   .rw[if_neg (by simpa using he2)]
    by_cases he3:p=0
    .rw[if_pos (by simpa using he3)];exact Gu ⟨g,.inl (zc _ rfl (I2.done M.SA M.SBb (.inr he3)))⟩
    .rw[if_neg (by simpa using he3)];refine ztb M g (zn I2 h1 (zwB he2 he3) (zzK h3 hk0)) ?_;have:=hlt' (p-1) (ztr he3);exact zp7 hry this
  .rw[if_neg hk0];refine ztb M g (zn I1 h1 (by exact zti h2 he) (zyq h3)) ?_;have:=hlt' (nb-1-1) (by exact zxh h2 hk0);exact zp7 hry this
theorem ztc(M:MG prog w A s V Y a₀ a b){st st0:SortSt}(hB:SB V a₀ st)(g:Gl st0 st){out:Array G1}{na nb mg ac bc r0:Nat}(I:InH Y a b r0 out na nb):wpS (model prog w) A E s (v2 a b out na nb mg ac bc) (zkd Y a b r0 st0) st:=by
 refine zx I fun I0 h1 h2 h3=>?_;have hla:=I0.la;have hlb:=I0.lb;refine zk (at_some (Y:=Y) (x:=b) (i:=nb-1) (zrV h2 hlb)) fun x hx hm hr=>?_;refine Gs (zgB ?_);have g':=g.trans (Gl.gal st mg);have hB':=hB.gl (Gl.gal st mg);refine Gs (ja hx ?_);refine Gs (zaj M.H hB' (M.hb x hm) M.ha (zxB hla) (zpU h1) (fun u v h4 h5 h6=>M.SA u v (fW _) h5 (zzf hla h6)) fun p hp hlt hge=>?_);have hlt':∀i,i<p->Rk Y a i<=Y x:=fun i hi=>by have:=hlt i hi;unfold byd at this;simpa using this
 have hge':∀i,p<=i->i<na->Y x<Rk Y a i:=fun i h4 h5=>by have:=hge i h4 h5;unfold byd at this;simpa using this
 dsimp only
 by_cases hk0:na-p>0
 .rw[if_pos hk0];have I2:=MH.w4 (nb:=nb) M.SA M.SBb (na-p) p (out:=out) (by rw[show p+(na-p)=na by exact ztJ hk0];exact I0) fun i h4 h5 _=>by have:=hge' i h4 (by exact zyv hk0 h5);exact zoB hr this
  rw[show p+(na-p)=na by exact ztJ hk0] at I2
  by_cases he2:p=0
  .rw[if_pos (by simpa using he2)];exact Gu ⟨g',.inl (zc _ rfl (I2.done M.SA M.SBb (.inl he2)))⟩
  .rw[if_neg (by simpa using he2)];refine zta M hB' g' (zn I2 (zwA he2) h2 (zzR h3 hp)) ?_;have:=hlt' (p-1) (ztr he2);exact zsa hr this
 .rw[if_neg hk0];refine zta M hB' g' (zn I0 (zrH h1) h2 (zyr h3)) ?_;have:=hlt' (na-1) (zxg h1 hk0);exact zsa hr this
theorem zvS(M:MG prog w A s V Y a₀ a b){st st0:SortSt}(hB:SB V a₀ st)(g:Gl st0 st){c:Sh2}{r0:Nat}(I:InH Y a b r0 c.2.2.2.1 c.2.1 c.2.2.1):wpS (model prog w) A E s (h2 a b c) (zkd Y a b r0 st0) st:=by
 unfold h2;split
 .exact ztc M hB g I
 .exact ztc M hB g I
theorem zvR(M:MG prog w A s V Y a₀ a b){st:SortSt}(hB:SB V a₀ st){c:Sh1}{mg r0 x:Nat}(I:InH Y a b (r0-x) c.2.2.2.1 c.2.1 c.2.2.1)(hx0:x<=r0){Q:ForInStep Sh1->SortSt->Prop}
  (hd:∀r,MR Y a b r->∀rest,Q (.done (some r,rest)) st)(hn:∀c':Sh1,c'.1=none->InH Y a b (r0-(x+1)) c'.2.2.2.1 c'.2.1 c'.2.2.1->Q (.done c') st/\Q (.yield c') st):wpS (model prog w) A E s (h1 a b mg c) Q st:=by
 refine zx I fun I0 h1' h2' h3=>?_;have hla:=I0.la;have hlb:=I0.lb;refine zk (at_some (Y:=Y) (x:=b) (i:=c.2.2.1-1) (zrV h2' hlb)) fun x' hx hm hr=>?_;refine zk (at_some (Y:=Y) (x:=a) (i:=c.2.1-1) (zrS h1' hla)) fun y hy hmy hry=>?_;refine Gs (ja hx (Gs (ja hy (Gs (zn9 M.H hB (M.hb _ hm) (M.ha _ hmy) ?_)))));dsimp only
 by_cases hw:Y x'<Y y
 .rw[G6 hw,if_pos rfl];have I1:=I0.pushA' M.SA M.SBb h1' hy fun _=>zoB hr hw;refine Gs (ja hy ?_)
  by_cases he:c.2.1-1=0
  .rw[if_pos (by simpa using he)];exact Gu (hd _ (I1.done M.SA M.SBb (.inl he)) _)
  .rw[if_neg (by simpa using he)];have:=hn (none,c.2.1-1,c.2.2.1,c.2.2.2.1.push y,c.2.2.2.2.1+1,0) rfl (zn I1 (by dsimp only;exact zrP he) (by dsimp only;exact zrJ h2') (by dsimp only;exact zzT h1' h3));split
   .exact Gu this.1
   .exact Gu this.2
 .rw[G5 hw,if_neg (by simp)];have I1:=I0.pushB' M.SA M.SBb (zrI h2') hx fun _=>zud hry hw;refine Gs (ja hx ?_)
  by_cases he:c.2.2.1-1=1
  .rw[if_pos (by simpa using he)];exact Gu (hd _ (I1.firstB M.SA M.SBb he M.first) _)
  .rw[if_neg (by simpa using he)];have:=hn (none,c.2.1,c.2.2.1-1,c.2.2.2.1.push x',0,c.2.2.2.2.2+1) rfl (zn I1 (by dsimp only;exact zrH h1') (by dsimp only;exact zti h2' he) (by dsimp only;exact zzW h2' h3));split
   .exact Gu this.1
   .exact Gu this.2
theorem zvQ(M:MG prog w A s V Y a₀ a b){st st0:SortSt}(hB:SB V a₀ st)(g:Gl st0 st){c:Sh0}{r0:Nat}(I:InH Y a b r0 c.2.2.2.1 c.2.1 c.2.2.1){Q:ForInStep Sh0->SortSt->Prop}
  (hd:∀r st',Gl st0 st'->MR Y a b r->∀rest,Q (.done (some r,rest)) st')(hn:∀(c':Sh0) st',Gl st0 st'->c'.1=none->InH Y a b (r0-1) c'.2.2.2.1 c'.2.1 c'.2.2.1->Q (.yield c') st'):wpS (model prog w) A E s (h0 a b c) Q st:=by
 have hbig:1<=a.size+b.size:=by have:=I.2.1;have:=I.1.la;exact zyB (by assumption) this
 refine Gs (Gv (Gx (I:=fun x c' st'=>st'=st/\c'.1=none/\InH Y a b (r0-x) c'.2.2.2.1 c'.2.1 c'.2.2.1/\x<=r0)
  (Q:=fun c' st'=>st'=st/\((∃r,c'.1=some r/\MR Y a b r)\/(c'.1=none/\InH Y a b (r0-1) c'.2.2.2.1 c'.2.1 c'.2.2.1))) ?step ?fin (zn rfl rfl (by simpa using I) (fW _))) ?post)
 case fin=>
  intro c' st' hR1;refine zx hR1 fun e0_0 h1 h2 h3=>?_;subst e0_0;exact⟨rfl,.inr (jb h1 h2.1 h2.2.1 h2.2.2.1 (by have:=h2.2.2.2;exact zAM hbig this))⟩
 case step=>
  intro x c' st' _ hx hR2;refine zx hR2 fun e1_0 h1 h2 h3=>?_;subst e1_0;refine zvR M hB h2 h3 (fun r hr rest=>⟨rfl,.inl (zc r rfl hr)⟩) fun c'' hc I''=>(jb ⟨rfl,.inr (jb hc I''.1 I''.2.1 I''.2.2.1 (by have:=I''.2.2.2;exact zzJ this))⟩ rfl hc I'' ?_)
  have:=I''.2.2.2;have:=I''.2.1;have:=I''.2.2.1;exact zzO (by assumption) this
 case post=>
  rintro c' st' ⟨rfl,h⟩
  rcases h with⟨r,h1,h2⟩|⟨h1,h2⟩
  .rw[h1];exact Gu (hd r _ g h2 _)
  .rw[h1];refine Gs (wpS_lift (Gg ⟨rfl,?_⟩));refine Gs (Gv (Gx (I:=fun x q st''=>Gl st0 st''/\SB V a₀ st''/\q.1=none/\InH Y a b (r0-1) q.2.2.2.1 q.2.1 q.2.2.1) (Q:=fun q st''=>Gl st0 st''/\zsm Y a b (r0-1) q) ?step2 ?fin2 (zn g hB rfl h2)) ?post2)
   case fin2=>
    intro q st'' hR3;refine zx hR3 fun g' hB' h4 h5=>?_;exact⟨g',.inr ⟨h4,h5⟩⟩
   case step2=>
    intro x q st'' _ hx hR4;refine zx hR4 fun g' hB' h4 h5=>?_;refine Gv (zvS M hB' g' h5) fun r st3 hl=>?_;cases r with
    | done q'=>exact hl
    | yield q'=>exact zq hl.1 ⟨by rw[hl.1.arr,<-g'.arr];exact hB'.perm,by rw[hl.1.kind,<-g'.kind];exact hB'.kind,by rw[hl.1.failed,<-g'.failed];exact hB'.failed⟩ hl.2
   case post2=>
    rintro q st'' ⟨g',h⟩
    rcases h with⟨r,h4,h5⟩|⟨h4,h5⟩
    .rw[h4];exact Gu (hd r _ g' h5 _)
    .rw[h4];exact Gs (zgB (Gu (hn _ _ (g'.trans (Gl.gal _ _)) rfl h5)))
theorem zlO(M:MG prog w A s V Y a₀ a b){st:SortSt}(hB:SB V a₀ st)(h1:1<=a.size)(h2:1<=b.size){Q:Array G1->SortSt->Prop}(h:∀r st',Gl st st'->MR Y a b r->Q r st'):wpS (model prog w) A E s (zeh a b) Q st:=by
 rw[zq6];refine Gs (wpS_lift (Gg ⟨rfl,?_⟩));refine zk (at_some (Y:=Y) (x:=a) (i:=a.size-1) (zpU h1)) fun x hx hm hr=>?_;have I0:MH Y a b #[] a.size b.size:=⟨fM _,fM _,by simp[fAT],by simp,by simp,by simp⟩
 have I1:MH Y a b #[x] (a.size-1) b.size:=I0.pushA' M.SA M.SBb h1 hx fun h=>by rw[<-hr];exact M.last _ (zpU h2)
 refine Gs (ja hx ?_)
 by_cases he:a.size-1=0
 .rw[if_pos (by simpa using he)];exact Gu (h _ _ (.refl _) (I1.done M.SA M.SBb (.inl he)))
 .rw[if_neg (by simpa using he)]
  by_cases he2:b.size=1
  .rw[if_pos (by simpa using he2)];exact Gu (h _ _ (.refl _) (I1.firstB M.SA M.SBb he2 M.first))
  .rw[if_neg (by simpa using he2)];refine Gs (wpS_get ?_);refine Gs (Gv (Gx (I:=fun x q st'=>Gl st st'/\q.1=none/\InH Y a b (a.size+b.size-x) q.2.2.2.1 q.2.1 q.2.2.1) (Q:=fun q st'=>Gl st st'/\∃r,q.1=some r/\MR Y a b r) ?step ?fin (jI (.refl _) rfl I1 (by dsimp only;exact zrP he) (by dsimp only;exact zv0 h2 he2) (by dsimp only;exact zx2))) ?post)
   case fin=>
    intro q st' hR5;refine zY hR5 fun g h3 h4=>?_;exfalso;have:=h4.2.2.2;have:=h4.2.1;have:=h4.2.2.1;exact zzI (by assumption) this
   case step=>
    intro x q st' _ hx hR6;refine zY hR6 fun g h3 h4=>?_;refine zvQ M (hB.gl g) g h4 (fun r st'' g' hr rest=>(zax g' r rfl hr)) fun c' st'' g' h5 h6=>(jI g' h5 h6.1 h6.2.1 h6.2.2.1 (by have:=h6.2.2.2;exact zAJ this))
   case post=>
    intro q st' hR7;refine kj hR7 fun g r h3 h4=>?_;rw[h3];exact Gu (h r st' g h4)
end
noncomputable def zap(sa:Nat)(l:List G1)(j0:Nat)(arr:Array G1):Array G1:=(l.zipIdx j0).foldl (fun a (p:G1×Nat)=>a.setIfInBounds (sa+p.2) p.1) arr
theorem zmj(sa:Nat)(l:List G1):∀(j0:Nat) (arr:Array G1),sa+j0+l.length<=arr.size->∀k,(zap sa l j0 arr)[k]? = if sa+j0<=k/\k<sa+j0+l.length then l[k-(sa+j0)]? else arr[k]?:=by
 induction l with
 | nil=>exact fun j0 arr h k=>(if_neg fun h=>pN.mpr h.1 h.2).symm
 | cons x l ih=>
  intro j0 arr h k;have h:sa+j0+(l.length+1)<=arr.size:=h;show (zap sa l (j0+1) (arr.setIfInBounds (sa+j0) x))[k]? = if sa+j0<=k/\k<sa+j0+(l.length+1) then _ else _
  rw[ih (j0+1) _ (by rw[Array.size_setIfInBounds];exact zzy h) k,Array.getElem?_setIfInBounds]
  by_cases h1:k=sa+j0
  .rw[h1,if_neg (by exact zzs),if_pos rfl,if_pos (by exact zzz h),if_pos (by exact zzn),fB0];rfl
  .by_cases h2:sa+(j0+1)<=k/\k<sa+(j0+1)+l.length
   .rw[if_pos h2,if_pos (by exact zzt h2),show k-(sa+j0)=k-(sa+(j0+1))+1 by exact zzv h2,fAP]
   .rw[if_neg h2,if_neg (by exact zzl h1),if_neg (by exact zAw h1 h2)]
theorem zhX(i:Nat):mergeAt' i=(do
 let s <-get
 let (some (sa,na,power),some (sb,nb,_)):=((Gw s)[i]?,(Gw s)[i+1]?)|unsupported "internal:list.sort.pending"
 set (setPending s (((Gw s).setIfInBounds i (sa,na+nb,power)).eraseIdxIfInBounds (i+1)))
 let some k <-zat false (<-elem' (G0 s) sb) (G0 s) sa na 0|return false
 let (sa,na):=(sa+k,na-k)
 if na==0 then return true
 let some nb <-zat true (<-elem' (G0 s) (sa+na-1)) (G0 s) sb nb (nb-1)|return false
 if nb==0 then return true
 let x:=(G0 s).extract sa sb
 let y:=(G0 s).extract sb (sb+nb)
 let merged <-if na<=nb then zei x y else zeh x y
 modify fun s=>setArr s (merged.toList.zipIdx.foldl (fun a (p,j)=>a.setIfInBounds (sa+j) p) (G0 s))
 return (failedOf (<-get)).isNone):=rfl
section
variable{prog:Gn}{w:World}{A:Around}{E:Value->Shared->Prop}{s:Shared}{a₀:Array G1}{V:SortKind}{Y:G1->Nat}
theorem zpQ{U:Type}{M:Model}{x:U}{Q:PUnit->U->Prop}{st:U}(h:Q ⟨⟩ x):wpS M A E s (set x:StateT U Sem PUnit) Q st:=by
 unfold wpS;rw[StateT.run_set];exact Gb ⟨rfl,h⟩
theorem zdC{x:Array G1}{i j k:Nat}(h:i+k<j)(hj:j<=x.size):Rk Y (x.extract i j) k=Rk Y x (i+k):=by
 refine jV ?_;rw[Array.getElem?_extract,if_pos (by exact zzQ h hj)]
theorem size_extract{x:Array G1}{i j:Nat}(hj:j<=x.size):(x.extract i j).size=j-i:=by rw[Array.size_extract];exact zyP hj
structure MA(V:SortKind)(Y:G1->Nat)(a₀:Array G1)(st:SortSt)(i sa na pw nb:Nat)(st':SortSt):Prop where
 sb:SB V a₀ st'
 srt:Srt Y (G0 st') sa (sa+na+nb)
 out:Out (G0 st) (G0 st') sa (sa+na+nb)
 pend:Gw st'=((Gw st).setIfInBounds i (sa,na+nb,pw)).eraseIdxIfInBounds (i+1)
theorem zlN(H:qH prog w A s V Y a₀){st:SortSt}(hB:SB V a₀ st){i sa na pw nb pw':Nat}(h1:(Gw st)[i]? = some (sa,na,pw))(h2:(Gw st)[i+1]? = some (sa+na,nb,pw'))(hna:1<=na)(hnb:1<=nb)(hsz:sa+na+nb<=a₀.size)
  (S1:Srt Y (G0 st) sa (sa+na))(S2:Srt Y (G0 st) (sa+na) (sa+na+nb)){Q:Bool->SortSt->Prop}(h:∀st',MA V Y a₀ st i sa na pw nb st'->Q true st'):wpS (model prog w) A E s (mergeAt' i) Q st:=by
 have hsize:=hB.size;have hin:∀p∈(G0 st).toList,p∈a₀.toList:=fun p hp=>(fAD.mp hB.perm).mem_iff.mp hp;rw[zhX];refine Gs (wpS_get ?_);rw[h1,h2];refine Gs (zpQ ?_);obtain⟨st1,hst1⟩:∃x,x=setPending st (((Gw st).setIfInBounds i (sa,na+nb,pw)).eraseIdxIfInBounds (i+1)):=⟨_,rfl⟩
 rw[<-hst1];have ea:G0 st1=G0 st:=by rw[hst1]
 have ep:Gw st1=((Gw st).setIfInBounds i (sa,na+nb,pw)).eraseIdxIfInBounds (i+1):=by rw[hst1]
 have hB1:SB V a₀ st1:=by rw[hst1];exact⟨hB.perm,hB.kind,hB.failed⟩
 clear hst1;refine zk (at_some (Y:=Y) (x:=G0 st) (i:=sa+na) (by exact zAN hnb hsz hsize)) fun x hx hmx hrx=>?_;refine Gs (ja hx ?_);refine Gs (zaj H hB1 (hin x hmx) hin (by exact zAB hsz hsize) (by exact zrG hna) S1 fun k hk hlt hge=>?_);have hlt':∀j,j<k->Rk Y (G0 st) (sa+j)<=Y x:=fun j hj=>by have:=hlt j hj;unfold byd at this;simpa using this
 have hge':∀j,k<=j->j<na->Y x<Rk Y (G0 st) (sa+j):=fun j h4 h5=>by have:=hge j h4 h5;unfold byd at this;simpa using this
 obtain⟨n1,rfl⟩:∃n1,na=k+n1:=⟨na-k,by exact zxQ hk⟩
 simp only[fBX]
 by_cases hn0:n1=0
 .rw[if_pos (by simpa using hn0)];refine Gu (h st1 ⟨hB1,fun u v h3 h4 h5=>?_,by rw[ea];exact Out.refl _ _ _,ep⟩);rw[ea]
  by_cases hv:v<sa+(k+n1)
  .exact S1 u v h3 h4 hv
  .by_cases hu:u<sa+(k+n1)
   .have q1:=hlt' (u-sa) (by exact zzS hna hn0 hu);rw[show sa+(u-sa)=u by exact zr2 h3] at q1;have q2:=S2 (sa+(k+n1)) v (fM _) (by exact zsg hv) h5;exact zAj hrx q1 q2
   .exact S2 u v (by exact zsg hu) h4 h5
 .rw[if_neg (by simpa using hn0)];refine zk (at_some (Y:=Y) (x:=G0 st) (i:=sa+k+(n1)-1) (by exact zBh hsize hna hsz)) fun y hy hmy hry=>?_;refine Gs (ja hy ?_);refine Gs (zaj H hB1 (hin y hmy) hin (by exact zBi hsize hsz) (by exact zpU hnb) S2 fun m hm mlt mge=>?_);have mlt':∀j,j<m->Rk Y (G0 st) (sa+(k+n1)+j)<Y y:=fun j hj=>by have:=mlt j hj;unfold byd at this;simpa using this
  have mge':∀j,m<=j->j<nb->Y y<=Rk Y (G0 st) (sa+(k+n1)+j):=fun j h4 h5=>by have:=mge j h4 h5;unfold byd at this;simpa using this
  have hylast:Rk Y (G0 st) (sa+(k+n1)-1)=Y y:=by rw[show sa+(k+n1)-1=sa+k+(n1)-1 by exact zzo];exact hry
  dsimp only
  by_cases hm0:m=0
  .rw[if_pos (by simpa using hm0)];refine Gu (h st1 ⟨hB1,fun u v h3 h4 h5=>?_,by rw[ea];exact Out.refl _ _ _,ep⟩);rw[ea]
   by_cases hv:v<sa+(k+n1)
   .exact S1 u v h3 h4 hv
   .by_cases hu:u<sa+(k+n1)
    .have q1:=S1 u (sa+(k+n1)-1) h3 (by exact zzY hu) (by exact zr6 hna);have q2:=mge' (v-(sa+(k+n1))) (by exact zAP hm0) (by exact zuC hnb h5);rw[show sa+(k+n1)+(v-(sa+(k+n1)))=v by exact zAx hv] at q2
     lia
    .exact S2 u v (by exact zsg hu) h4 h5
  .rw[if_neg (by simpa using hm0)];obtain⟨xa,hxa⟩:∃q,q=(G0 st).extract (sa+k) (sa+(k+n1)):=⟨_,rfl⟩
   obtain⟨yb,hyb⟩:∃q,q=(G0 st).extract (sa+(k+n1)) (sa+(k+n1)+m):=⟨_,rfl⟩
   rw[<-hxa,<-hyb];have sza:xa.size=n1:=by rw[hxa,size_extract (by exact zuF hsize hsz)];exact zun
   have szb:yb.size=m:=by rw[hyb,size_extract (by exact zuH hsize hsz hm)];exact zuz
   have ra:∀j,j<n1->Rk Y xa j=Rk Y (G0 st) (sa+k+j):=fun j hj=>by rw[hxa];exact zdC (by exact zse hj) (by exact zuF hsize hsz)
   have rb:∀j,j<m->Rk Y yb j=Rk Y (G0 st) (sa+(k+n1)+j):=fun j hj=>by rw[hyb];exact zdC (by exact zAW hj) (by exact zuH hsize hsz hm)
   have la:xa.toList=((G0 st).toList.drop (sa+k)).take (n1):=by rw[hxa,pQ,pT,show sa+(k+n1)-(sa+k)=n1 by exact zun]
   have lb:yb.toList=((G0 st).toList.drop (sa+(k+n1))).take m:=by rw[hyb,pQ,pT,show sa+(k+n1)+m-(sa+(k+n1))=m by exact zuz]
   have MGx:MG prog w A s V Y a₀ xa yb:=by
    refine⟨H,fun p hp=>hin p ?_,fun p hp=>hin p ?_,fun u v _ h4 h5=>?_,fun u v _ h4 h5=>?_,fun j hj=>?_,fun j hj=>?_⟩
    .rw[la] at hp;exact fCF (fBF hp)
    .rw[lb] at hp;exact fCF (fBF hp)
    .rw[sza] at h5;rw[ra u (by exact zp6 h4 h5),ra v (by exact zrX h5)];exact S1 _ _ (by exact zup) (by exact zAq h4) (by exact zse h5)
    .rw[szb] at h5;rw[rb u (by exact zp6 h4 h5),rb v (by exact zrX h5)];exact S2 _ _ (by exact zuA) (by exact zAZ h4) (by exact zuG hm h5)
    .rw[sza] at hj;rw[rb 0 (by exact zwz hm0),ra j hj];have:=hge' (k+j) (by exact zka) (by exact zr8 hj);simp only[fA0];rw[show sa+(k+j)=sa+k+j by exact zuo] at this;exact zoB hrx this
    .rw[szb] at hj;rw[rb j hj,ra (xa.size-1) (by exact zxW hn0 sza),sza];have:=mlt' j hj;rw[show sa+k+(n1-1)=sa+(k+n1)-1 by exact zzm hn0]
     lia
   have fin:∀r st',Gl st1 st'->MR Y xa yb r->wpS (model prog w) A E s (do
     modify fun s=>setArr s (r.toList.zipIdx.foldl (fun a (p,j)=>a.setIfInBounds (sa+k+j) p) (G0 s))
     return (failedOf (<-get)).isNone) Q st':=by
    intro r st' g hr0;obtain⟨hrp,hrs⟩:=hr0;obtain⟨rl,hrl⟩:∃l,l=r.toList:=⟨_,rfl⟩
    rw[<-hrl] at hrp hrs ⊢;clear hrl;refine Gs (wpS_modify (Gs (wpS_get (Gu ?_))));have hf:(failedOf (setArr st' (zap (sa+k) rl 0 (G0 st')))).isNone=true:=by
     rw[g.failed,hB1.failed];rfl
    rw[hf];have lr:rl.length=(n1)+m:=by have:=hrp.length_eq;simp only[fE,gV,sza,szb] at this;exact this
    have tl:((G0 st).toList.take (sa+k)).length=sa+k:=by simp;exact zBf hsize hsz
    have eg:∀j,(zap (sa+k) rl 0 (G0 st'))[j]? = if sa+k<=j/\j<sa+(k+n1)+m then rl[j-(sa+k)]? else (G0 st)[j]?:=fun j=>by
     rw[zmj (sa+k) rl 0 (G0 st') (by rw[g.arr,ea,lr];exact zBm hsize hsz hm) j,lr,g.arr,ea];simp only[fA0];rw[show sa+k+(n1+m)=sa+(k+n1)+m by exact zAy]
    have el:(zap (sa+k) rl 0 (G0 st')).toList=(G0 st).toList.take (sa+k)++rl++(G0 st).toList.drop (sa+(k+n1)+m):=by
     apply fCV;intro j;rw[gY,eg j]
     by_cases q1:j<sa+k
     .rw[if_neg (by exact zuD q1),gE,pA (by exact zAe tl q1),List.getElem?_take,if_pos q1,gY]
     .by_cases q2:j<sa+(k+n1)+m
      .rw[if_pos (by exact zA3 q1 q2),gE,pI (by exact zz4 tl q1),pA (by exact zBn hm0 lr tl q2),tl]
      .rw[if_neg (by exact zA2 q2),pI (by rw[fE];exact zBl lr tl q2),fCP,gY,fE,tl,lr]
       congr 1;exact zA0 q2
    have hperm:(zap (sa+k) rl 0 (G0 st')).Perm (G0 st):=by
     rw[fAD,el];have e0:(G0 st).toList=(G0 st).toList.take (sa+k)++(xa.toList++yb.toList)++(G0 st).toList.drop (sa+(k+n1)+m):=by
      have e2:xa.toList++yb.toList++(G0 st).toList.drop (sa+(k+n1)+m)=(G0 st).toList.drop (sa+k):=by
       rw[la,lb];have f1:(G0 st).toList.drop (sa+(k+n1))=((G0 st).toList.drop (sa+k)).drop (n1):=by rw[List.drop_drop];congr 1;exact zuo
       have f2:(G0 st).toList.drop (sa+(k+n1)+m)=((G0 st).toList.drop (sa+(k+n1))).drop m:=by rw[List.drop_drop]
       rw[f2,gE,fBD,f1,fBD]
      rw[gE,e2,fBD]
     conv=>rhs;rw[e0]
     exact List.Perm.append_right _ (List.Perm.append_left _ hrp)
    have hsb:SB V a₀ (setArr st' (zap (sa+k) rl 0 (G0 st'))):=⟨hperm.trans hB.perm,by show kindOf st'=V;rw[g.kind];exact hB1.kind,by show failedOf st'=none;rw[g.failed];exact hB1.failed⟩
    refine h _ ⟨hsb,?_,fun j hj=>?_,?_⟩
    .have lo_:∀u,u<sa+k->Rk Y (zap (sa+k) rl 0 (G0 st')) u=Rk Y (G0 st) u:=fun u hu=>jV (by rw[eg u,if_neg (by exact zuD hu)]);have hi_:∀u,sa+(k+n1)+m<=u->Rk Y (zap (sa+k) rl 0 (G0 st')) u=Rk Y (G0 st) u:=fun u hu=>jV (by rw[eg u,if_neg (by exact zAA hu)]);have mid:∀u,sa+k<=u->u<sa+(k+n1)+m->∃p,rl[u-(sa+k)]? = some p/\Rk Y (zap (sa+k) rl 0 (G0 st')) u=Y p/\((∃j,j<n1/\Y p=Rk Y (G0 st) (sa+k+j))\/∃j,j<m/\Y p=Rk Y (G0 st) (sa+(k+n1)+j)):=fun u q1 q2=>by
      have hl:u-(sa+k)<rl.length:=by exact zsh hm0 lr q2
      refine zv (rl[u-(sa+k)]) (fV hl) ?_ ?_
      .unfold Rk;rw[eg u,if_pos ⟨q1,q2⟩,fV hl]
      .have hmem:rl[u-(sa+k)]∈xa.toList++yb.toList:=hrp.mem_iff.mp (fBK hl)
       rcases fR.mp hmem with q|q
       .refine zI (qi (Y:=Y) (a:=xa) (i:=0) (by simpa using q)) fun j _ h6 _ h7=>?_;rw[sza] at h6;exact .inl (zc j h6 (by rw[<-h7,ra j h6]))
       .refine zI (qi (Y:=Y) (a:=yb) (i:=0) (by simpa using q)) fun j _ h6 _ h7=>?_;rw[szb] at h6;exact .inr (zc j h6 (by rw[<-h7,rb j h6]))
     intro u v h3 h4 h5;show Rk Y (zap (sa+k) rl 0 (G0 st')) u<=Rk Y (zap (sa+k) rl 0 (G0 st')) v
     by_cases c1:v<sa+k
     .rw[lo_ u (by exact zuv h4 c1),lo_ v c1];exact S1 u v h3 h4 (by exact zzZ c1)
     .by_cases c2:v<sa+(k+n1)+m
      .refine zk (mid v (by exact zsb c1) c2) fun p hp1 hp2 hp3=>?_
       by_cases c3:u<sa+k
       .rw[lo_ u c3,hp2];have q1:=hlt' (u-sa) (by exact zuj h3 c3);rw[show sa+(u-sa)=u by exact zr2 h3] at q1
        rcases hp3 with⟨j,h6,h7⟩|⟨j,h6,h7⟩
        .rw[h7];exact S1 u _ h3 (by exact zz1 c3) (by exact zse h6)
        .have:=S2 (sa+(k+n1)) (sa+(k+n1)+j) (fM _) (by exact zuA) (by exact zuG hm h6);exact zAU hrx q1 h7 this
       .clear hp3;refine zk (mid u (by exact zsb c3) (by exact zBe h4 c2)) fun p' hp1' hp2' hp3'=>?_;clear hp3';rw[hp2,hp2']
        by_cases c4:u=v
        .subst c4;rw[hp1] at hp1';cases hp1';exact fM _
        .have:=fAY.mp hrs (u-(sa+k)) (v-(sa+k)) (by exact zuI hm0 lr h4 c2) (by exact zsh hm0 lr c2) (by exact zAb h4 c3 c4);rw[fV (by (first|exact zsh hm0 lr c2|exact zuI hm0 lr h4 c2))] at hp1 hp1';rw[<-G4 hp1,<-G4 hp1'];exact this
      .rw[hi_ v (by exact zuE c2)];have q2:Y y<=Rk Y (G0 st) v:=by
        have:=mge' (v-(sa+(k+n1))) (by exact zA1 c2) (by exact zuC hnb h5);rwa [show sa+(k+n1)+(v-(sa+(k+n1)))=v by exact zA4 c2] at this
       by_cases c3:u<sa+k
       .rw[lo_ u c3];have:=S1 u (sa+(k+n1)-1) h3 (by exact zz0 c3) (by exact zr6 hna)
        lia
       .by_cases c4:u<sa+(k+n1)+m
        .refine zk (mid u (by exact zsb c3) c4) fun p hp1 hp2 hp3=>?_;rw[hp2]
         rcases hp3 with⟨j,h6,h7⟩|⟨j,h6,h7⟩
         .have:=S1 (sa+k+j) (sa+(k+n1)-1) (by exact zup) (by exact zAi h6) (by exact zr6 hna)
          lia
         .have:=mlt' j h6;exact zAo q2 h7 this
        .rw[hi_ u (by exact zuE c4)];exact S2 u v (by exact zA5 c4) h4 h5
    .show (zap (sa+k) rl 0 (G0 st'))[j]? = (G0 st)[j]?;rw[eg j,if_neg (by exact zBk hm hj)]
    .rw[g.pend,ep]
   split
   .exact Gs (zlP MGx hB1 (by exact zp3 hn0 sza) (by exact zp3 hm0 szb) fin)
   .exact Gs (zlO MGx hB1 (by exact zp3 hn0 sza) (by exact zp3 hm0 szb) fin)
end
noncomputable abbrev Run:=Nat×Nat×Nat
noncomputable def RunsL(Y:G1->Nat)(arr:Array G1):Nat->List Run->Nat->Prop
 | lo,[],hi=>lo=hi
 | lo,p::r,hi=>p.1=lo/\1<=p.2.1/\Srt Y arr lo (lo+p.2.1)/\RunsL Y arr (lo+p.2.1) r hi
section
variable{Y:G1->Nat}{arr arr':Array G1}
theorem RunsL.len{l:List Run}:∀{lo hi:Nat},RunsL Y arr lo l hi->lo+l.length<=hi:=by
 induction l with
 | nil=>exact fun h=>pC h
 | cons p r ih=>exact fun h=>(zzU h.2.1 (ih h.2.2.2):_)
theorem Srt.out{a b x y:Nat}(h:Srt Y arr a b)(o:Out arr arr' x y)(d:b<=x\/y<=a):Srt Y arr' a b:=fun i j h1 h2 h3=>by
 have e1:Rk Y arr' i=Rk Y arr i:=jV (o i (zBa d h1 h2 h3));have e2:Rk Y arr' j=Rk Y arr j:=jV (o j (zBb d h1 h2 h3));rw[e1,e2];exact h i j h1 h2 h3
theorem RunsL.out{x y:Nat}(o:Out arr arr' x y){l:List Run}:∀{lo hi:Nat},RunsL Y arr lo l hi->(hi<=x\/y<=lo)->RunsL Y arr' lo l hi:=by
 induction l with
 | nil=>exact fun h _=>h
 | cons p r ih=>exact fun h d=>⟨h.1,h.2.1,h.2.2.1.out o (zBc d (RunsL.len h.2.2.2)),ih h.2.2.2 (zAH d)⟩
theorem RunsL.split{l1 l2:List Run}:∀{lo hi:Nat},RunsL Y arr lo (l1++l2) hi->∃m,RunsL Y arr lo l1 m/\RunsL Y arr m l2 hi:=by
 induction l1 with
 | nil=>exact fun h=>⟨_,rfl,h⟩
 | cons p r ih=>exact fun h=>(ih h.2.2.2).imp fun m q=>⟨⟨h.1,h.2.1,h.2.2.1,q.1⟩,q.2⟩
theorem RunsL.join{l1 l2:List Run}:∀{lo m hi:Nat},RunsL Y arr lo l1 m->RunsL Y arr m l2 hi->RunsL Y arr lo (l1++l2) hi:=by
 induction l1 with
 | nil=>exact fun h h'=>(show _=_ from h)▸h'
 | cons p r ih=>exact fun h h'=>⟨h.1,h.2.1,h.2.2.1,ih h.2.2.2 h'⟩
theorem RunsL.congr{l:List Run}:∀{l':List Run} {lo hi:Nat},l.map (fun p=>(p.1,p.2.1))=l'.map (fun p=>(p.1,p.2.1))->RunsL Y arr lo l hi->RunsL Y arr lo l' hi:=by
 induction l with
 | nil=>
  intro l' lo hi e h;cases l' with
  | nil=>exact h
  | cons=>exact nomatch e
 | cons p r ih=>
  intro l' lo hi e h;cases l' with
  | nil=>exact nomatch e
  | cons p' r'=>
   have e':=List.cons.inj e;have e3:(p.1,p.2.1)=(p'.1,p'.2.1):=e'.1;have e1:=(Prod.mk.inj e3).1;have e2:=(Prod.mk.inj e3).2;exact⟨e1▸h.1,e2▸h.2.1,e2▸h.2.2.1,e2▸ih e'.2 h.2.2.2⟩
theorem zow{J:Type}{l:List J}{i:Nat}{x y:J}(h1:l[i]? = some x)(h2:l[i+1]? = some y):l=l.take i++x::y::l.drop (i+2):=by
 obtain⟨a1,b1⟩:=fX.mp h1;obtain⟨a2,b2⟩:=fX.mp h2;have e1:l.drop i=x::l.drop (i+1):=by rw[fAG a1,b1]
 have e2:l.drop (i+1)=y::l.drop (i+2):=by rw[fAG a2,b2]
 rw[<-e2,<-e1,fBD]
theorem zpK{J:Type}{l:List J}{i:Nat}{x y z:J}(h1:l[i]? = some x)(h2:l[i+1]? = some y):(l.set i z).eraseIdx (i+1)=l.take i++z::l.drop (i+2):=by
 have e:=zow h1 h2;have hi:i<l.length:=(fX.mp h1).1;have hl:(l.take i).length=i:=by simp;exact ztO hi
 conv=>lhs;rw[e]
 rw[List.set_append_right _ _ (by exact zrY hl),hl,fB0,List.set_cons_zero,fBZ (by exact zxq hl),hl,show i+1-i=1 by exact zwH]
 rfl
end
section
variable{prog:Gn}{w:World}{A:Around}{E:Value->Shared->Prop}{s:Shared}{a₀:Array G1}{V:SortKind}{Y:G1->Nat}
theorem zoa(H:qH prog w A s V Y a₀){st:SortSt}(hB:SB V a₀ st){i hi:Nat}(hR:RunsL Y (G0 st) 0 (Gw st).toList hi)(hh:hi<=a₀.size)(hi1:i+1<(Gw st).size){Q:Bool->SortSt->Prop}
  (h:∀st',SB V a₀ st'->RunsL Y (G0 st') 0 (Gw st').toList hi->(Gw st').size+1=(Gw st).size->Out (G0 st) (G0 st') 0 hi->Q true st'):wpS (model prog w) A E s (mergeAt' i) Q st:=by
 obtain⟨⟨sa,na,pw⟩,h1⟩:∃p,(Gw st)[i]? = some p:=⟨_,getElem?_pos _ i (by exact zgR hi1)⟩
 obtain⟨⟨sb,nb,pw'⟩,h2⟩:∃p,(Gw st)[i+1]? = some p:=⟨_,getElem?_pos _ (i+1) hi1⟩
 have h1':(Gw st).toList[i]? = some (sa,na,pw):=by rw[gY];exact h1
 have h2':(Gw st).toList[i+1]? = some (sb,nb,pw'):=by rw[gY];exact h2
 have e:=zow h1' h2';rw[e] at hR;refine zhd hR.split fun m R1 q0 q1 q2 p0 p1 p2 R2=>?_;simp only at q0 q1 q2 p0 p1 p2 R2;subst q0;subst p0;have hle:=R2.len;refine zlN H hB h1 h2 q1 p1 (zBj hh hle) q2 p2 fun st' M=>?_;have et:(Gw st').toList=(Gw st).toList.take i++(sa,na+nb,pw)::(Gw st).toList.drop (i+2):=by
  rw[M.pend,Array.toList_eraseIdxIfInBounds,Array.toList_setIfInBounds,zpK h1' h2']
 refine h st' M.sb ?_ ?_ (M.out.wide (fW _) (zAz hle))
 .rw[et];refine(R1.out M.out (.inl (fM _))).join (zn rfl (by simp only;exact zrT q1) (by rw[<-fAV];exact M.srt) ?_);rw[<-fAV];exact R2.out M.out (.inr (fM _))
 .have l1:=congrArg List.length et;have l2:=congrArg List.length e;simp only[gV,fE,fH] at l1 l2;exact zz3 l1 l2
end
noncomputable def zvb(sz pw:Nat):StateT SortSt Sem (ForInStep (Option Unit×Unit)):=do
 let g <-get
 match (if (Gw g).size>1 then (Gw g)[(Gw g).size-2]? else none) with
 | some (_,_,older)=>
  if older<=pw then pure (.done (none,()))
  else do
   let b <-mergeAt' ((Gw g).size-2)
   if (!b)=true then pure (.done (some (),())) else pure (.yield (none,()))
 | _=>pure (.done (none,()))
noncomputable def tR(sz lo n:Nat):StateT SortSt Sem (ForInStep (Option Unit×Nat)):=do
 let g <-get
 match (Gw g).back? with
 | some (s1,n1,_)=>do
  let r <-forIn [0:sz] ((none,()):Option Unit×Unit) fun _ _=>zvb sz (power' sz (2*s1+n1) (2*s1+n1+n1+n) sz)
  match r.1 with
  | some r=>pure (.done (some r,lo))
  | none=>do
   modify fun s=>setPending s ((Gw s).modify ((Gw s).size-1) fun (st,len,_)=>(st,len,power' sz (2*s1+n1) (2*s1+n1+n1+n) sz))
   modify fun s=>setPending s ((Gw s).push (lo,n,0))
   pure (.yield (none,lo+n))
 | _=>do
  modify fun s=>setPending s ((Gw s).push (lo,n,0))
  pure (.yield (none,lo+n))
noncomputable def oL(sz mr:Nat)(c:Option Unit×Nat):StateT SortSt Sem (ForInStep (Option Unit×Nat)):=
 if c.2>=sz then pure (.done (none,c.2))
 else do
  let x <-countRun' c.2 (sz-c.2)
  match x with
  | some za2=>
   if za2<mr then do
    liftM (rule "list.sort.binary-insertion")
    let b <-binarySort' c.2 (min (sz-c.2) mr) za2
    if (!b)=true then pure (.done (some (),c.2)) else tR sz c.2 (min (sz-c.2) mr)
   else tR sz c.2 za2
  | _=>pure (.done (some (),c.2))
noncomputable def fL:StateT SortSt Sem (ForInStep (Option Unit×Unit)):=do
 let g <-get
 if (Gw g).size<=1 then pure (.done (none,()))
 else do
  let b <-mergeAt' (if Option.any (fun x=>decide (x<(Gw g)[(Gw g).size-2+1]?.elim 0 fun x=>x.snd.fst)) (if (Gw g).size-2>0 then Option.map (fun x=>x.snd.fst) (Gw g)[(Gw g).size-2-1]? else none)=true then (Gw g).size-2-1 else (Gw g).size-2)
  if (!b)=true then pure (.done (some (),())) else pure (.yield (none,()))
noncomputable def zsW:StateT SortSt Sem Unit:=do
 let g <-get
 let r <-forIn [0:(G0 g).size] ((none,0):Option Unit×Nat) fun _ c=>oL (G0 g).size (minRun' (G0 g).size (G0 g).size 0) c
 match r.1 with
 | some r=>pure r
 | none=>do
  let q <-forIn [0:(G0 g).size] ((none,()):Option Unit×Unit) fun _ _=>fL
  match q.1 with
  | some r=>pure r
  | none=>pure ()
theorem znx:sortRuns'=zsW:=by kernel_rfl
noncomputable def zkK:Nat:=1000000
section
variable{prog:Gn}{w:World}{A:Around}{E:Value->Shared->Prop}{s:Shared}{a₀:Array G1}{V:SortKind}{Y:G1->Nat}
theorem zs9(H:qH prog w A s V Y a₀){st:SortSt}(hB:SB V a₀ st){lo n:Nat}(hR:RunsL Y (G0 st) 0 (Gw st).toList lo)(hn:1<=n)(hs:Srt Y (G0 st) lo (lo+n))(hl:lo+n<=a₀.size){Q:ForInStep (Option Unit×Nat)->SortSt->Prop}
  (h:∀st',SB V a₀ st'->RunsL Y (G0 st') 0 (Gw st').toList (lo+n)->Q (.yield (none,lo+n)) st'):wpS (model prog w) A E s (tR a₀.size lo n) Q st:=by
 have fin:∀(st':SortSt),SB V a₀ st'->RunsL Y (G0 st') 0 (Gw st').toList lo->Srt Y (G0 st') lo (lo+n)->Q (.yield (none,lo+n)) (setPending st' ((Gw st').push (lo,n,0))):=fun st' hB' hR' hs'=>by
  refine h _ ⟨hB'.perm,hB'.kind,hB'.failed⟩ ?_;rw[gD];exact hR'.join (zn rfl hn hs' rfl)
 refine Gs (wpS_get ?_);cases hb:(Gw st).back? with
 | none=>exact Gs (wpS_modify (Gu (fin st hB hR hs)))
 | some p=>
  obtain⟨s1,n1,pw⟩:=p;generalize power' a₀.size (2*s1+n1) (2*s1+n1+n1+n) a₀.size=pw';refine Gs (Gv (Gx (I:=fun x c st'=>c=(none,())/\SB V a₀ st'/\RunsL Y (G0 st') 0 (Gw st').toList lo/\Srt Y (G0 st') lo (lo+n))
   (Q:=fun c st'=>c=(none,())/\SB V a₀ st'/\RunsL Y (G0 st') 0 (Gw st').toList lo/\Srt Y (G0 st') lo (lo+n)) ?step (fun c st' hh=>hh) (zn rfl hB hR hs)) ?post)
  case step=>
   intro x c st' _ hx hR1;refine zx hR1 fun e4_0 hB' hR' hs'=>?_;subst e4_0;refine Gs (wpS_get ?_)
   by_cases hsz:(Gw st').size>1
   .rw[if_pos hsz];obtain⟨⟨u,v,older⟩,hq⟩:∃p,(Gw st')[(Gw st').size-2]? = some p:=⟨_,getElem?_pos _ _ (by exact zwo hsz)⟩
    rw[hq];dsimp only;split
    .exact Gu (zn rfl hB' hR' hs')
    .refine Gs (zoa H hB' hR' (zyu hl) (zwn hsz) fun st'' hB'' hR'' _ ho=>?_);exact Gu (zn rfl hB'' hR'' (hs'.out ho (.inr (fM _))))
   .rw[if_neg hsz];exact Gu (zn rfl hB' hR' hs')
  case post=>
   intro c st' hR2;refine zx hR2 fun e5_0 hB' hR' hs'=>?_;subst e5_0;refine Gs (wpS_modify (Gs (wpS_modify (Gu ?_))));refine fin (setPending st' _) ⟨hB'.perm,hB'.kind,hB'.failed⟩ ?_ hs';refine RunsL.congr ?_ hR';rw[Array.toList_modify];apply fCV;intro j;simp only[fAQ,List.getElem?_modify];split<;>cases (Gw st').toList[j]?<;>rfl
theorem zeC(H:qH prog w A s V Y a₀){st:SortSt}(hB:SB V a₀ st)(hp:Gw st = #[])(h2:2<=a₀.size)(hmx:a₀.size<=zkK){Q:Unit->SortSt->Prop}
  (h:∀st',SB V a₀ st'->Srt Y (G0 st') 0 a₀.size->Q () st'):wpS (model prog w) A E s sortRuns' Q st:=by
 rw[znx];refine Gs (wpS_get ?_);simp only[hB.size];have hmr:1<=minRun' a₀.size a₀.size 0:=by
  have gen:∀f n r,1<=n->1<=minRun' f n r:=by
   intro f
   induction f with
   | zero=>intro n r hn;exact zrT hn
   | succ f ih=>
    intro n r hn;rw[minRun'_succ];split
    .exact zrT hn
    .exact ih _ _ (by lia)
  exact gen _ _ _ (zrI h2)
 generalize minRun' a₀.size a₀.size 0=mr at hmr;refine Gs (Gv (Gx (I:=fun x c st'=>∃lo,c=(none,lo)/\SB V a₀ st'/\RunsL Y (G0 st') 0 (Gw st').toList lo/\lo<=a₀.size/\min x a₀.size<=lo)
  (Q:=fun c st'=>c=(none,a₀.size)/\SB V a₀ st'/\RunsL Y (G0 st') 0 (Gw st').toList a₀.size) ?step ?fin (zdX 0 rfl hB (by rw[hp];rfl) (fW _) zwM)) ?post)
 case fin=>
  intro c st' hR3;refine zhc hR3 fun lo e6_1 hB' hR' hl hx=>?_;subst e6_1;have:lo=a₀.size:=zxy hl hx;subst this;exact zq rfl hB' hR'
 case step=>
  intro x c st' _ hx hR4;refine zhc hR4 fun lo e7_1 hB' hR' hl hxl=>?_;subst e7_1;unfold oL;dsimp only
  by_cases hge:lo>=a₀.size
  .rw[if_pos hge];have:lo=a₀.size:=zr1 hl hge;subst this;exact Gu (zq rfl hB' hR')
  .rw[if_neg hge];refine Gs (zjG H (zxV hge) (zxX hge) hB' fun m st2 R=>?_);dsimp only;have hR2:RunsL Y (G0 st2) 0 (Gw st2).toList lo:=by rw[R.pend];exact hR'.out R.out (.inl (fM _))
   have hm:=R.le;have hm1:=R.m1;split
   .rename_i hlt
    refine Gs (wpS_lift (Gg ⟨rfl,?_⟩));refine Gs (zgA H (n:=min (a₀.size-lo) mr) (zsf hm hm1) (zuu hmr hm hm1) (zz7 hm hlt) R.sb R.srt fun st3 R3=>?_);simp only[fCC,gG,if_false];have hR3:RunsL Y (G0 st3) 0 (Gw st3).toList lo:=by rw[R3.pend];exact hR2.out R3.out (.inl (fM _))
    exact zs9 H R3.sb hR3 (zuu hmr hm hm1) R3.srt (zsf hm hm1) fun st4 hB4 hR4=>(zdX _ rfl hB4 hR4 (zsf hm hm1) (zzV hmr hxl))
   .exact zs9 H R.sb hR2 hm1 R.srt (zuh hm hm1) fun st4 hB4 hR4=>(zdX _ rfl hB4 hR4 (zuh hm hm1) (zzC hxl hm1))
 case post=>
  intro c st' hR5;refine zY hR5 fun e8_0 hB' hR'=>?_;subst e8_0;refine Gs (Gv (Gx (I:=fun x c st''=>c=(none,())/\SB V a₀ st''/\RunsL Y (G0 st'') 0 (Gw st'').toList a₀.size/\(Gw st'').size<=max 1 (a₀.size-x))
   (Q:=fun c st''=>c=(none,())/\SB V a₀ st''/\RunsL Y (G0 st'') 0 (Gw st'').toList a₀.size/\(Gw st'').size<=1) ?step2 ?fin2 (zn rfl hB' hR' (by have:=hR'.len;simp at this;lia))) ?post2)
  case fin2=>
   intro c st'' hR6;refine zx hR6 fun e9_0 hB2 hR2 hsz=>?_;subst e9_0;exact zn rfl hB2 hR2 (zxu hsz)
  case step2=>
   intro x c st'' _ hx hR7;refine zx hR7 fun e10_0 hB2 hR2 hsz=>?_;subst e10_0;refine Gs (wpS_get ?_)
   by_cases h1:(Gw st'').size<=1
   .rw[if_pos h1];exact Gu (zn rfl hB2 hR2 h1)
   .rw[if_neg h1];refine Gs (zoa H hB2 hR2 (fM _) ?_ fun st3 hB3 hR3 hs3 _=>?_)
    .have gen:∀(c:Bool) (n:Nat),2<=n->(if c=true then n-2-1 else n-2)+1<n:=fun c n hn=>by cases c<;>simp<;>(first|exact zv5 hn|exact zv3 hn)
     exact gen _ _ (zwC h1)
    .exact Gu (zn rfl hB3 hR3 (zAr hsz hs3))
  case post2=>
   intro c st'' hR8;refine zx hR8 fun e11_0 hB2 hR2 hsz=>?_;subst e11_0;refine Gu (h st'' hB2 ?_);have hl:(Gw st'').toList.length<=1:=by simpa using hsz
   generalize (Gw st'').toList=l at hR2 hl
   match l,hR2,hl with
   | [],hR2,_=>have:0=a₀.size:=hR2;lia
   | [p],⟨_,_,h3,h4⟩,_=>
    have:0+p.2.1=a₀.size:=h4;rw[this] at h3;exact h3
   | _::_::_,_,hl=>simp at hl
end
theorem zgT{vs:List Value}{out:Array G1}(h:out.Perm (vs.toArray.zip vs.toArray)):(out.map (·.2)).toList.Perm vs/\∀p∈out.toList,p.1=p.2:=by
 have h':=fAD.mp h;have e:(vs.toArray.zip vs.toArray).toList=vs.zip vs:=by simp
 rw[e] at h';have z:∀(l:List Value),(l.zip l).map (·.2)=l/\∀p∈l.zip l,p.1=p.2:=by
  intro l
  induction l with
  | nil=>exact⟨rfl,fun p hp=>by simp at hp⟩
  | cons x l ih=>exact⟨by simp[ih.1],fun p hp=>by
    rcases fF.mp hp with e|hp
    .rw[e]
    .exact ih.2 p hp⟩
 refine⟨?_,fun p hp=>(z vs).2 p (h'.mem_iff.mp hp)⟩;have:=h'.map (·.2);rw[(z vs).1] at this
 simpa using this
section
variable{prog:Gn}{w:World}{A:Around}{E:Value->Shared->Prop}{s:Shared}
theorem zjH{a:Addr}{vs:List Value}{n:Nat}{P:PySem.Fin->Shared->Prop}(Y:Value->Nat)(ho:s.heap.get? a=some (G2 "list" vs.toArray n))(hlen:vs.length<=1000000)(hmx:vs.length<=zkK)
  (hk:∀h':Heap,(∀b o,b≠a->s.heap.get? b=some o->h'.get? b=some o)->2<=vs.length->∃V,(∀(Q:SortKind->Shared->Prop),Q V { s with heap:=h' }->wpAny (model prog w) A (keyKind' vs.toArray) Q E { s with heap:=h' })/\
   qH prog w A { s with heap:=h' } V (fun p=>Y p.1) (vs.toArray.zip vs.toArray))
  (h:∀(out:List Value) c (h3:Heap),out.Perm vs->out.Pairwise (fun x y=>Y x<=Y y)->h3.get? a=some (G2 "list" out.toArray c)->(∀b o,b≠a->s.heap.get? b=some o->h3.get? b=some o)->P (.done (.ret .none)) { s with heap:=h3 }) :
  wpAny (model prog w) A (Builtin.«list.sort» ⟨[.ref a],[]⟩) P E s:=by
 obtain⟨e1,ho1⟩:∃e1,(s.heap.update a (Obj.mapSeq fun _=>(#[]:Array Value))).get? a=some (G2 "list" #[] e1):=⟨_,G3 ho fun _=>#[]⟩
 have s1:=Heap.SameBut.update s.heap a (Obj.mapSeq fun _=>(#[]:Array Value));obtain⟨h2,hh2⟩:∃x,x=((s.heap.update a (Obj.mapSeq fun _=>(#[]:Array Value))).push (G2 "tuple" vs.toArray 0)).push (G2 "list" #[] 0):=⟨_,rfl⟩
 have keep2:∀b o,b≠a->s.heap.get? b=some o->h2.get? b=some o:=fun b o hb e=>by
  rw[hh2];exact Heap.get?_push_of_some _ (Heap.get?_push_of_some _ ((s1.2 b hb).trans e))
 have ho2:h2.get? a=some (G2 "list" #[] e1):=by rw[hh2];exact Heap.get?_push_of_some _ (Heap.get?_push_of_some _ ho1)
 rw[list_sort_plain];refine Ga (Gz ho rfl ?_);refine Ga (Gy ho rfl ?_ (by rw[gH,Gf];exact zgP hlen) (fW _));refine Ga (seqEpoch_at ho1 rfl ?_);refine Ga (wpAny_newTuple ?_ (by show vs.length<=_;rw[Gf];exact zgP hlen));refine Ga (Gj ?_ (fW _));refine Ge ?_;rw[<-hh2];have rest:∀st':SortSt,(G0 st').Perm (vs.toArray.zip vs.toArray)->failedOf st'=none->(G0 st').toList.Pairwise (fun x y=>Y x.1<=Y y.1)->wpAny (model prog w) A (do
   let touched:=(<-seqEpoch a) != e1
   Builtin.List.listUpdate (.ref a) fun _=>(G0 st').map (·.2)
   if let some e:=failedOf st' then rule "list.sort.comparison-raised";throw e
   if touched then rule "list.sort.modified";raiseError "ValueError" "list modified during sort"
   ret .none) P E { s with heap:=h2 }:=by
  intro st' hp hf hs;obtain⟨z1,z2⟩:=zgT hp;have hl:=z1.length_eq;obtain⟨c2,hc2⟩:∃c2,(h2.update a (Obj.mapSeq fun _=>(G0 st').map (·.2))).get? a=some (G2 "list" ((G0 st').map (·.2)) c2):=⟨_,G3 ho2 fun _=>(G0 st').map (·.2)⟩
  have s2:=Heap.SameBut.update h2 a (Obj.mapSeq fun _=>(G0 st').map (·.2));refine Ga (seqEpoch_at ho2 rfl ?_);refine Ga (Gy ho2 rfl ?_ (fW _) (by
   have:((G0 st').map (·.2)).size=vs.length:=by rw[<-hl];simp
   rw[this,Gf];exact zws hlen))
  rw[hf];simp only[bne_self_eq_false,gG,if_false];refine Gb (h ((G0 st').map (·.2)).toList c2 _ z1 ?_ (by rw[hc2]) fun b o hb e=>(s2.2 b hb).trans (keep2 b o hb e));rw[Array.toList_map,fA1];exact hs.imp_of_mem fun {x y} hx hy hxy=>by rw[<-z2 x hx,<-z2 y hy];exact hxy
 by_cases hn:vs.length<2
 .have hn2:vs.toArray.size<2:=by rw[gH];exact hn
  rw[if_pos hn2,if_pos hn2];refine Ga (Gb ?_);refine Ga ?_;refine Gb ?_;refine rest (SortSt.mk' general' (vs.toArray.zip vs.toArray) #[] 7 none) (.refl _) rfl ?_;have:(vs.toArray.zip vs.toArray).toList.length<2:=by simp;exact zv7 hn
  generalize (vs.toArray.zip vs.toArray).toList=l at this
  match l,this with
  | [],_=>exact .nil
  | [x],_=>exact pJ _ _
  | _::_::_,h=>simp only[fH] at h;lia
 .have hn2:¬vs.toArray.size<2:=by rw[gH];exact hn
  rw[if_neg hn2,if_neg hn2];refine zb (hk h2 keep2 (ztq hn)) fun V hq H=>?_;refine Ga (hq _ ?_);have hB:SB V (vs.toArray.zip vs.toArray) (SortSt.mk' V (vs.toArray.zip vs.toArray) #[] 7 none):=⟨.refl _,rfl,rfl⟩
  have run:=zeC (E:=E) (Q:=fun _ st'=>(G0 st').Perm (vs.toArray.zip vs.toArray)/\failedOf st'=none/\(G0 st').toList.Pairwise (fun x y=>Y x.1<=Y y.1)) H hB rfl (by simp;exact ztq hn) (by simpa using hmx) fun st' hB' hs=>(zq hB'.perm hB'.failed (by
   have:=hB'.size;exact j5 (Y:=fun p=>Y p.1) (by rw[this];exact hs)))
  refine Ga (Gc run (fun r s' hr=>?_) fun _ _ e=>e);obtain⟨⟨⟩,st'⟩:=r;refine zx hr fun e3_0 hp hf hs=>?_;subst e3_0;exact rest st' hp hf hs
theorem zls{b:Bool}{t:Bool}{Q:Bool->Shared->Prop}(xs:List PyData):∀(ys:List PyData) {vs ws:List Value} {as bs:List Addr} {fin:Bool} {i:Nat},ReadsAll s.heap vs xs as->ReadsAll s.heap ws ys bs->PyData.canLayAll0 xs=true->PyData.canLayAll0 ys=true->A.units+2*PyData.depthAll xs+10<cLine->
  fin=decide (xs.length<ys.length)->(i=0->b=true->∀x y,xs.head? = some x->ys.head? = some y->(∃u v,x = .int u/\y = .int v)\/∃u v,x = .str u/\y = .str v)->zbN xs ys=some t->Q t s->KatLex prog w A b fin Q (vs.zip ws) i s:=by
 induction xs with
 | nil=>
  intro ys vs ws as bs fin i rx ry ha hb hu hf hi e q;rw[jP rx];have e1:t=fin:=G4 (e.symm.trans (show zbN [] ys=some fin by rw[hf];cases ys<;>rfl));exact kat_nil (e1▸q)
 | cons x xs ih=>
  intro ys vs ws as bs fin i rx ry ha hb hu hf hi e q;refine qY (jA rx) fun _ _ _ _ z1 h1 h2=>?_;rw[z1];cases ys with
  | nil=>rw[jP ry];exact kat_nil ((G4 e).symm.trans hf.symm▸q)
  | cons y ys=>
   refine qY (jA ry) fun _ _ _ _ z1 k1 k2=>?_;rw[z1];have ha:=(gW _ _).mp ha;have hb:=(gW _ _).mp hb;have hu:A.units+2*max x.depth (PyData.depthAll xs)+10<cLine:=hu;have heq:=eqAt_reads x y A s _ _ _ _ h1 k1 ha.1 hb.1 (zuB hu);rw[qV] at e;refine kat_cons (heq prog w _ _ ?_);cases hE:PyData.eqv x y with
   | true=>
    rw[hE] at e;exact kat_yes (ih ys h2 k2 ha.2 hb.2 (zur hu) (hf.trans (decide_eq_decide.mpr fCE)) (fun h0=>nomatch h0) e q)
   | false=>
    rw[hE] at e;refine kat_no ?_;cases hbi:(b&&i==0) with
    | false=>
     rw[oneLt'_eq];exact Ga (zhJ x y h1 k1 ha.1 hb.1 (zuq hu) e prog w _ _ (wpAny_truthy_bool q))
    | true=>
     have hbi:=(gW _ _).mp hbi
     rcases hi (beq_iff_eq.mp hbi.2) hbi.1 x y rfl rfl with h|h
     .refine jx h fun u u' f1 f2=>?_;subst f1 f2;refine jU (zbo h1) fun _ z1=>jU (zbo k1) fun _ z2=>?_;rw[z1,z2];exact oneLt_int ((G4 e).symm▸q)
     .refine jx h fun u u' f1 f2=>?_;subst f1 f2;refine jU (zbp h1) fun _ z1=>jU (zbp k1) fun _ z2=>?_;rw[z1,z2];exact oneLt_str ((G4 e).symm▸q)
end
theorem zsK{a b:Nat}(h:a<b↔b<a):a=b:=fAF (pN.mp fun l=>Nat.lt_asymm l (h.mpr l)) (pN.mp fun l=>Nat.lt_asymm l (h.mp l))
theorem zbQ{U:AHeap}{h:Heap}{xs:List AV}{v:Value}{vs:List Value}(r:RepVs U h xs (v::vs)):∃x xs',xs=x::xs'/\RepV U h x v/\RepVs U h xs' vs:=by
 cases r with
 | cons a r=>exact zP _ _ rfl a r
theorem RepVs.perm{U:AHeap}{h:Heap}{vs ws:List Value}(p:ws.Perm vs):∀{xs},RepVs U h xs vs->∃ys,ys.Perm xs/\RepVs U h ys ws:=by
 induction p with
 | nil=>intro xs r;exact⟨xs,.refl _,r⟩
 | cons v p ih=>
  intro xs r;obtain⟨x,xs',rfl,a,r⟩:=zbQ r;obtain⟨ys,h1,h2⟩:=ih r;exact⟨x::ys,.cons x h1,.cons a h2⟩
 | swap v w l=>
  intro xs r;obtain⟨x,xs',rfl,a,r⟩:=zbQ r;obtain⟨y,xs'',rfl,b,r⟩:=zbQ r;exact⟨y::x::xs'',.swap ..,.cons b (.cons a r)⟩
 | trans p q ih1 ih2=>
  intro xs r;refine zb (ih2 r) fun ys h1 h2=>?_;refine zb (ih1 h2) fun zs h3 h4=>?_;exact zc zs (h3.trans h1) h4
theorem RepVs.pair{U:AHeap}{h:Heap}{Y:AV->Nat}{YV:Value->Nat}{ys:List AV}:∀{out:List Value},RepVs U h ys out->(∀y∈ys,∀v,RepV U h y v->YV v=Y y)->out.Pairwise (fun x y=>YV x<=YV y)->ys.Pairwise (fun x y=>Y x<=Y y):=by
 induction ys with
 | nil=>intro out _ _ _;exact .nil
 | cons x ys ih=>
  intro out r hρ hp;obtain⟨v,vs,rfl,a,r⟩:=RepVs.wE r;obtain⟨h1,h2⟩:=fZ.mp hp;refine fZ.mpr ⟨fun y hy=>?_,ih r (fun y hy=>hρ y (fA _ hy)) h2⟩;obtain⟨i,hi⟩:=fAI.mp hy;obtain⟨w,hw,rw_⟩:=r.get hi;have:=h1 w (pO hw);rw[hρ x fB v a,hρ y (fA _ hy) w rw_] at this;exact this
theorem zd2{U:AHeap}{h:Heap}{T:Value}{M:Model}{xs:List AV}:∀{vs:List Value},RepVs U h xs vs->(∀x∈xs,∃y r,x = .tup (y::r)/\∀v,RepV U h y v->Looks M h (typeOf v) T)->∃fs,KatTups h vs fs/\fs.length=vs.length/\∀v∈fs,Looks M h (typeOf v) T:=by
 induction xs with
 | nil=>intro vs r _;obtain rfl:=RepVs.wG r;exact⟨[],.nil,rfl,fun v hv=>nomatch hv⟩
 | cons x xs ih=>
  intro vs r hx;cases r with
  | @cons _ _ v vs a r=>
  refine zk (ih r fun x hx'=>hx x (fA _ hx')) fun fs h1 h2 h3=>?_;refine jx (hx x fB) fun y ys e11_2 hl=>?_;subst e11_2;refine zj (RepV.wH a) fun t ws e12_2 hlen ht rs=>?_;subst e12_2;refine jC ht fun o ho hc n hd=>?_;refine zp (RepVs.wE rs) fun u us e14_2 ru rus=>?_;subst e14_2;exact zv (u::fs) (.cons ho hc hd rfl h1) (by simp[h2]) (fun w hw=>by
   rcases fF.mp hw with e|hw
   .subst e;exact hl w ru
   .exact h3 w hw)
theorem zcw{h:Heap}{ds:List PyData}:∀{z:List Value} {as:List Addr},ReadsAll h z ds as->z.length=ds.length:=by
 induction ds with
 | nil=>exact fun r=>by rw[jP r];rfl
 | cons d ds ih=>exact fun r=>qY (jA r) fun _ _ _ _ z _ r=>by rw[z];exact congrArg (· + 1) (ih r)
theorem zkN{X:Cx}{U:AHeap}{s:Shared}{A:Around}{x y:AV}{v1 v2:Value}{t:Bool}{Q:Bool->Shared->Prop}{E:Value->Shared->Prop}(a:At X U s)(hu:A.units+2000<cLine)(rx:RepV U s.heap x v1)(ry:RepV U s.heap y v2)
  (hx:∃i r,x = .tup (.int i::r))(hy:∃i r,y = .tup (.int i::r))(hlt:ziA (vis U) x y t)(hQ:Q t s):wpAny X.M A (keyLt' (tuples' true) v1 v2) Q E s:=by
 refine zt hlt fun da db ra rb oa ob el=>?_;obtain⟨⟨as1,q1⟩,c1⟩:=ra.reads a rx;obtain⟨⟨as2,q2⟩,c2⟩:=rb.reads a ry;refine jc hx fun i r e3_2=>?_;subst e3_2;refine jc hy fun j r' e4_2=>?_;subst e4_2;refine zb (Rd.wH ra) fun ds e5_1 rda=>?_;subst e5_1;refine zb (Rd.wH rb) fun es e6_1 rdb=>?_;subst e6_1;cases q1 with
 | tuple ho1 hc1 hd1 hr1=>
  cases q2 with
  | tuple ho2 hc2 hd2 hr2=>
   have c3:=oa;simp only[PyData.canLay0] at c1 c2;simp only[PyData.depth] at c3;simp only[zcg,zks,zde] at el;refine kat_lt ho1 hd1 ho2 hd2 (zls ds es hr1 hr2 c1 c2 (zyn hu c3) (by rw[<-zcw hr1,<-zcw hr2];simp) (fun _ _ u v hu hv=>?_) el hQ);refine zp (RdL.wE rda) fun d1 ds1 z1 g1 g2=>?_;subst z1;refine zp (RdL.wE rdb) fun d2 ds2 z2 g3 g4=>?_;subst z2;exact .inl (za6 _ _ ((G4 hu).symm.trans (Rd.wC g1)) ((G4 hv).symm.trans (Rd.wC g3)))
open Classical in
theorem zgK{X:Cx}:jk X (.builtin "sorted") kM:=fun d A U s rr as vs Q E L hdn a r q=>by
 refine zb (j8 q) fun x0 e15_1 q=>?_;subst e15_1;refine zb (zg q) fun xs hx0 q=>?_;unfold zfE at q
 .refine zb (kD r) fun v e17_1 rv=>?_;subst e17_1;refine zk q fun Y hkd hlt q=>?_;refine zt (a.isList (z0 hx0) rv) fun p vs e19_2 hp hl rs hm=>?_;subst e19_2;have hlen:=rs.length;have room:=L.room
  -- ranks of values
  have uni:∀x∈xs,∀y∈xs,∀v,RepV U s.heap x v->RepV U s.heap y v->Y x=Y y:=fun x hx y hy v rx ry=>by
   refine zt (hlt x hx y hy) fun a1 b1 h1 h2 k1 k2 e1=>?_;refine zt (hlt y hy x hx) fun a2 b2 h3 h4 k3 k4 e2=>?_;obtain⟨⟨_,q1⟩,cl⟩:=h1.reads a rx;obtain⟨⟨_,q2⟩,_⟩:=h2.reads a ry;obtain⟨⟨_,q3⟩,_⟩:=h3.reads a ry;obtain⟨⟨_,q4⟩,_⟩:=h4.reads a rx;have d1:=PySem.SeqAt.Reads.unique _ _ _ _ _ cl q1 q2;have d2:=PySem.SeqAt.Reads.unique _ _ _ _ _ cl q1 q3;have d3:=PySem.SeqAt.Reads.unique _ _ _ _ _ cl q1 q4;subst d1;subst d2;subst d3;rw[e1] at e2;have:=G4 e2;rw[decide_eq_decide] at this;exact zsK this
  obtain⟨YV,hρV⟩:∃YV:Value->Nat,∀x∈xs,∀v,RepV U s.heap x v->YV v=Y x:=by
   refine⟨fun v=>if h:∃x,x∈xs/\RepV U s.heap x v then Y (choose h) else 0,fun x hx v rx=>?_⟩;have h:∃x,x∈xs/\RepV U s.heap x v:=(zc x hx rx)
   simp only[dif_pos h];exact uni _ (choose_spec h).1 x hx v (choose_spec h).2 rx
  refine zW (Calls.call_function_entry kind_sorted plain_sorted entry_sorted (args_sorted1 _) ?_);unfold Builtin.«sorted»;refine Ga (m:=checkCount "sorted" 1 1 _) (Gb ?_);refine Ga (collect_list hl ?_ (by rw[Gf];exact zj9 hm hlen));refine Ga (Gj ?_ (by rw[Gf];exact zj9 hm hlen));have hsz:((s.heap.push (G2 "list" #[] 0)).update s.heap.objs.size (Obj.mapSeq (·++vs.toArray))).objs.size=s.heap.objs.size+1:=by
   rw[Heap.size_update,size_push']
  obtain⟨h1,hh1⟩:∃x,x=((s.heap.push (G2 "list" #[] 0)).update s.heap.objs.size (Obj.mapSeq (·++vs.toArray))).push (G2 "list" vs.toArray 0):=⟨_,rfl⟩
  have hoL:h1.get? (s.heap.objs.size+1)=some (G2 "list" vs.toArray 0):=by
   rw[hh1,<-hsz];exact Heap.get?_push_size _ rfl
  have keep:∀b o,s.heap.get? b=some o->h1.get? b=some o:=fun b o q=>by
   have hlt:b<s.heap.objs.size:=Heap.lt_size q;rw[hh1,Heap.get?_push_ne _ _ _ (by rw[hsz];exact fAM (fCW hlt)),Heap.get?_update_ne _ _ _ _ (fAM hlt),Heap.get?_push_ne _ _ _ (fAM hlt)];exact q
  show wpAny _ _ _ _ _ { s with heap:=((s.heap.push (G2 "list" #[] 0)).update s.heap.objs.size (Obj.mapSeq (·++vs.toArray))).push (G2 "list" vs.toArray 0) };rw[hsz,<-hh1];have keep':∀h':Heap,(∀b o,b≠s.heap.objs.size+1->h1.get? b=some o->h'.get? b=some o)->∀b o,s.heap.get? b=some o->h'.get? b=some o:=fun h' hk b o e=>by
   have hlt:b<s.heap.objs.size:=ltA e;exact hk b o (fAM (fCW hlt)) (keep b o e)
  refine Ga (Ge (Gi slot_list_sort (zc _ hoL rfl) entry_list_sort ?body (args_list_sort _)))
  case body=>
   refine zjH (s:={ s with heap:=h1 }) YV hoL (ztY hm hlen) (by rw[<-hlen];exact hm) (fun h' hk' h2=>?_) fun out c h3 hperm hsrt ho3 hk3=>?_
   .have kp:=keep' h' hk';have kv:KeepV U s.heap U h':=.ext kp;have a':At X U { s with heap:=h' }:=a.grown s.toks kp;have rs':=rs.mono kv;have mz:∀z,z∈(vs.toArray.zip vs.toArray).toList->z.1∈vs:=fun z hz=>by
     have:z∈vs.zip vs:=by simpa using hz
     exact(fBQ this).1
    rcases hkd with hkd|hki
    case inr=>
     refine zc oneType' (fun Q' hq=>?_) (fun p' q' hp' hq' Q' E' hQ=>?_)
     .refine kas_kind (s:={ s with heap:=h' }) (vs:=vs) (T:=.type "int") (zrJ h2) (fun v hv=>?_) (by decide) (by decide) hq;refine zb (rs'.mem v hv) fun x hx rx=>?_;obtain⟨i,rfl⟩:=hki x hx;obtain⟨_,rfl⟩:=RepV.wC rx;exact .now
     .refine zb (rs.mem p'.1 (mz p' hp')) fun x hx rx=>?_;refine zb (rs.mem q'.1 (mz q' hq')) fun y hy ry=>?_;have hQ:Q' (decide (Y x<Y y)) { s with heap:=h' }:=by rw[<-hρV x hx _ rx,<-hρV y hy _ ry];exact hQ
      obtain⟨i,rfl⟩:=hki x hx;obtain⟨j,rfl⟩:=hki y hy;refine zt (hlt _ hx _ hy) fun da db ra rb oa ob el=>?_;obtain rfl:=Rd.wC ra;obtain rfl:=Rd.wC rb;simp only[zcg,zks,zde,Option.some.injEq] at el;rw[<-el] at hQ;generalize p'.1=v1 at rx ⊢;generalize q'.1=v2 at ry ⊢;obtain⟨_,rfl⟩:=RepV.wC rx;obtain⟨_,rfl⟩:=RepV.wC ry;rw[keyLt'_oneType];exact oneLt_int hQ
    have hT3:∀x∈xs,∃y r,x = .tup (y::r)/\∀v,RepV U h' y v->Looks X.M h' (typeOf v) (.type "int"):=fun x hx=>by
     refine jc (hkd x hx) fun i r e36_2=>?_;subst e36_2;refine za6 _ r rfl (fun v rv=>?_);obtain⟨_,rfl⟩:=RepV.wC rv;exact .now
    refine zk (zd2 (M:=X.M) rs' hT3) fun fs f1 f2 f3=>?_;refine zc (tuples' true) (fun Q' hq=>?_) (fun p' q' hp' hq' Q' E' hQ=>?_)
    .refine kat_kind (s:={ s with heap:=h' }) f1 (zxi h2 f2) f3 (by decide) ?_;exact hq
    .refine zb (rs.mem p'.1 (mz p' hp')) fun x hx rx=>?_;refine zb (rs.mem q'.1 (mz q' hq')) fun y hy ry=>?_;have hQ:Q' (decide (Y x<Y y)) { s with heap:=h' }:=by rw[<-hρV x hx _ rx,<-hρV y hy _ ry];exact hQ
     have rx':=rx.mono kv;have ry':=ry.mono kv;exact zkN a' (by rw[Around.in1_units,Around.in1_units];exact zDO room) rx' ry' (hkd x hx) (hkd y hy) (hlt x hx y hy) hQ
   .have kp:=keep' h3 hk3;have kv:KeepV U s.heap U h3:=.ext kp;refine zb (rs.perm hperm) fun ys hy1 hy2=>?_;have hys:ys.Pairwise fun x y=>Y x<=Y y:=hy2.pair (fun y hy v rv=>hρV y (hy1.mem_iff.mp hy) v rv) hsrt;refine zc _ rfl (Gb (zc _ rfl (fun hsz'=>?_)));exact zlE (t:=s.toks) a kp (fBW _) ho3 (hy2.mono kv) (by rw[hy1.length_eq];exact hm) hsz' (q ys hy1 hys)
inductive All2{J β:Type}(R:J->β->Prop):List J->List β->Prop
 | nil:All2 R [] []
 | cons {a:J} {b:β} {as:List J} {bs:List β}:R a b->All2 R as bs->All2 R (a::as) (b::bs)
theorem All2.perm{J β:Type}{R:J->β->Prop}{bs cs:List β}(p:cs.Perm bs):∀{as:List J},All2 R as bs->∃ds:List J,ds.Perm as/\All2 R ds cs:=by
 induction p with
 | nil=>intro as h;exact⟨as,.refl _,h⟩
 | cons b p ih=>
  intro as h;cases h with
  | @cons a _ as' _ h1 h2=>
   refine zb (ih h2) fun ds h3 h4=>?_;exact⟨a::ds,.cons a h3,.cons h1 h4⟩
 | swap b c l=>
  intro as h;cases h with
  | @cons a _ as' _ h1 h2=>
   cases h2 with
   | @cons a' _ as' _ h3 h4=>exact⟨a'::a::as',.swap ..,.cons h3 (.cons h1 h4)⟩
 | trans p q ih1 ih2=>
  intro as h;refine zb (ih2 h) fun ds h1 h2=>?_;refine zb (ih1 h2) fun es h3 h4=>?_;exact zc es (h3.trans h1) h4
theorem All2.mem2{J β:Type}{R:J->β->Prop}:∀{as:List J} {bs:List β},All2 R as bs->∀b∈bs,∃a∈as,R a b:=by
 intro as bs h
 induction h with
 | nil=>intro b hb;cases hb
 | cons h1 h2 ih=>
  intro b hb
  rcases fF.mp hb with e|hb
  .subst e;exact zc _ fB h1
  .refine zb (ih b hb) fun a ha hr=>?_;exact zc a (fA _ ha) hr
theorem All2.pair{J β:Type}{R:J->β->Prop}{f:J->Nat}{g:β->Nat}:∀{as:List J} {bs:List β},All2 R as bs->(∀a∈as,∀b,R a b->g b=f a)->bs.Pairwise (fun x y=>g x<=g y)->as.Pairwise (fun x y=>f x<=f y):=by
 intro as bs h
 induction h with
 | nil=>intro _ _;exact .nil
 | cons h1 h2 ih=>
  intro he hp;cases hp with
  | cons p1 p2=>
   refine .cons (fun b hb=>?_) (ih (fun a ha=>he a (fA _ ha)) p2);have:∀{as bs},All2 R as bs->∀a∈as,∃b∈bs,R a b:=by
    intro as bs h
    induction h with
    | nil=>intro b hb;cases hb
    | cons h1 h2 ih=>
     intro b hb
     rcases fF.mp hb with e|hb
     .subst e;exact zc _ fB h1
     .refine zb (ih b hb) fun a ha hr=>?_;exact zc a (fA _ ha) hr
   refine zb (this h2 b hb) fun c hc hr=>?_;have:=p1 c hc;rw[he _ fB _ h1,he b (fA _ hb) c hr] at this;exact this
theorem zoE{U:AHeap}{h:Heap}{key:AV->AV}:∀{xs:List AV} {vs ks:List Value},RepVs U h xs vs->RepVs U h (xs.map key) ks->All2 (fun x (p:G1)=>RepV U h x p.2/\RepV U h (key x) p.1) xs (ks.zip vs):=by
 intro xs
 induction xs with
 | nil=>intro vs ks h1 h2;obtain rfl:=RepVs.wG h1;cases h2;exact .nil
 | cons x xs ih=>
  intro vs ks h1 h2;cases h1 with
  | cons a1 r1=>cases h2 with
   | cons a2 r2=>exact .cons ⟨a1,a2⟩ (ih r1 r2)
theorem zmx{U:AHeap}{h:Heap}{key:AV->AV}:∀{xs:List AV} {ps:List G1},All2 (fun x (p:G1)=>RepV U h x p.2/\RepV U h (key x) p.1) xs ps->RepVs U h xs (ps.map (·.2)):=by
 intro xs ps h
 induction h with
 | nil=>exact .nil
 | cons h1 h2 ih=>exact .cons h1.1 ih
def zsn(X:Cx)(kf:Value)(Uv:AHeap)(A:Around)(x k:AV):Prop:=∀U s v,vis U=Uv->At X U s->RepV U s.heap x v->wpAny X.M A (PySem.call kf [v] []) (liftQ X U s fun k' U'=>k'=k/\U'=Uv) (fun _ _=>False) s
open Classical in
theorem zeG{X:Cx}{kf:Value}{d:Dp}{A:Around}{U:AHeap}{s:Shared}{x0:AV}{v0:Value}{r:Bool}{xs:List AV}{key:AV->AV}{Y:AV->Nat}{Q:zm}{E:Value->Shared->Prop}(L:Live X d A)(a:At X U s)(hx0:jh (vis U) x0=some xs)(rv0:RepV U s.heap x0 v0)(hkt:∀p:Addr,Builtin.«list.sort» ⟨[.ref p],[(Str.ofString "key",kf)]⟩=ksk_tree p kf false)
  (hk:∀x∈xs,zsn X kf (vis U) A.in1.in1 x (key x))(kd:ziz (xs.map key))(hlt:∀x∈xs,∀y∈xs,ziA (vis U) (key x) (key y) (decide (Y x<Y y)))
  (q:∀ys:List AV,ys.Perm xs->ys.Pairwise (fun x y=>Y x<=Y y)->mkL r ys Q (vis U)) :
  wpAny X.M A (call (.builtin "sorted") [v0] [(Str.ofString "key",kf)]) (liftQ X U s Q) E s:=by
 refine zt (a.isList (z0 hx0) rv0) fun p vs e13_2 hp hl rs hm=>?_;subst e13_2;have hlen:=rs.length;have room:=L.room;have u1:A.in1.in1.units=A.units+2:=by rw[Around.in1_units,Around.in1_units]
 refine call_function_entry_kw kind_sorted plain_sorted entry_sorted (ksk_s1 _ _) ?_;unfold Builtin.«sorted»;refine Ga (m:=checkCount "sorted" 1 1 _) (Gb ?_);refine Ga (collect_list hl ?_ (by rw[Gf];exact zj9 hm hlen));refine Ga (Gj ?_ (by rw[Gf];exact zj9 hm hlen));have hsz:((s.heap.push (G2 "list" #[] 0)).update s.heap.objs.size (Obj.mapSeq (·++vs.toArray))).objs.size=s.heap.objs.size+1:=by
  rw[Heap.size_update,size_push']
 obtain⟨h1,hh1⟩:∃x,x=((s.heap.push (G2 "list" #[] 0)).update s.heap.objs.size (Obj.mapSeq (·++vs.toArray))).push (G2 "list" vs.toArray 0):=⟨_,rfl⟩
 have hoL:h1.get? (s.heap.objs.size+1)=some (G2 "list" vs.toArray 0):=by
  rw[hh1,<-hsz];exact Heap.get?_push_size _ rfl
 have hs1:h1.objs.size=s.heap.objs.size+2:=by rw[hh1,size_push',hsz]
 have keep:∀b o,s.heap.get? b=some o->h1.get? b=some o:=fun b o q=>by
  have hlt:b<s.heap.objs.size:=Heap.lt_size q;rw[hh1,Heap.get?_push_ne _ _ _ (by rw[hsz];exact fAM (fCW hlt)),Heap.get?_update_ne _ _ _ _ (fAM hlt),Heap.get?_push_ne _ _ _ (fAM hlt)];exact q
 show wpAny _ _ _ _ _ { s with heap:=((s.heap.push (G2 "list" #[] 0)).update s.heap.objs.size (Obj.mapSeq (·++vs.toArray))).push (G2 "list" vs.toArray 0) };rw[hsz,<-hh1];refine Ga (Ge (wpAny_call_entry_kw slot_list_sort (zc _ hoL rfl) entry_list_sort ?body (ksk_l1 _ _)))
 case body=>
 rw[hkt];obtain⟨D,hD⟩:∃D,D=s.heap.objs.size+1:=⟨_,rfl⟩
 rw[<-hD] at hoL ⊢;obtain⟨e1,ho1⟩:∃e1,(h1.update D (Obj.mapSeq fun _=>(#[]:Array Value))).get? D=some (G2 "list" #[] e1):=⟨_,G3 hoL fun _=>#[]⟩
 have sb1:=Heap.SameBut.update h1 D (Obj.mapSeq fun _=>(#[]:Array Value));have hkS:((h1.update D (Obj.mapSeq fun _=>(#[]:Array Value))).push (G2 "tuple" vs.toArray 0)).objs.size=s.heap.objs.size+3:=by rw[size_push',Heap.size_update,hs1]
 unfold ksk_tree;refine Ga (Gz hoL rfl ?_);refine Ga (Gy hoL rfl ?_ (by rw[gH,Gf];exact zj9 hm hlen) (fW _));refine Ga (seqEpoch_at ho1 rfl ?_);refine Ga (wpAny_newTuple ?_ (by show vs.length<=_;rw[Gf];exact zj9 hm hlen));refine Ga (Gj ?_ (fW _));refine Ge ?_;obtain⟨h0,hh0⟩:∃x,x=((h1.update D (Obj.mapSeq fun _=>(#[]:Array Value))).push (G2 "tuple" vs.toArray 0)).push (G2 "list" #[] 0):=⟨_,rfl⟩
 show wpAny X.M A.in1.in1 (ksk_rest D kf false vs.toArray e1 (.ref ((h1.update D (Obj.mapSeq fun _=>(#[]:Array Value))).push (G2 "tuple" vs.toArray 0)).objs.size)) _ E { s with heap:=((h1.update D (Obj.mapSeq fun _=>(#[]:Array Value))).push (G2 "tuple" vs.toArray 0)).push (G2 "list" #[] 0) };obtain⟨kS,hkSe⟩:∃kS,kS=s.heap.objs.size+3:=⟨_,rfl⟩
 have hk0:h0.get? kS=some (G2 "list" #[] 0):=by rw[hh0,hkSe,<-hkS];exact Heap.get?_push_size _ rfl
 have ha0:h0.get? D=some (G2 "list" #[] e1):=by rw[hh0];exact Heap.get?_push_of_some _ (Heap.get?_push_of_some _ ho1)
 have keep0:∀b o,s.heap.get? b=some o->h0.get? b=some o:=fun b o e=>by
  have hlt:b<s.heap.objs.size:=Heap.lt_size e;rw[hh0];exact Heap.get?_push_of_some _ (Heap.get?_push_of_some _ ((sb1.2 b (zr9 hD hlt)).trans (keep b o e)))
 have hs0:s.heap.objs.size<=h0.objs.size:=by rw[hh0,size_push',hkS];exact zwQ
 rw[hkS,<-hkSe,<-hh0];have oD:=qu a (b:=D) (zoA hD);have oK:=qu a (b:=kS) (ztW hkSe);have hDK:kS≠D:=zyW hD hkSe;have fK:kS∉X.fr:=zff a (ztW hkSe);have fD:D∉X.fr:=zff a (zoA hD);clear hh0 hkS ho1 sb1 hoL keep hs1 hh1 hsz;have a0:At X U { s with heap:=h0 }:=a.grown s.toks keep0;have st0:Step (fun b=>b=D\/b=kS) U s U { s with heap:=h0 }:=.same (fun b o e _=>keep0 b o e) hs0;have noB:NoStay (fun b=>b=D\/b=kS) s.heap:=by
  rintro b o (h|h) e _<;>exact absurd (Heap.lt_size e) (by (first|exact zy9 hD h|exact zza hkSe h))
 have noD:∀{o:Obj} {b:Array Value} {e:Nat},o=G2 "list" b e->∀es n,o.data≠.dict es n:=by
  rintro o b e rfl es n h;cases h
 have noSt:∀{o:Obj} {b:Array Value} {e:Nat},o=G2 "list" b e->¬qI o:=by
  rintro o b e rfl (⟨h,_⟩|⟨h,_⟩|⟨c,vs,h,_⟩)
  .simp[G2] at h
  .simp[G2] at h
  .simp[G2] at h
 unfold ksk_rest;refine Ga (Gg ?_)
 first
  | rw[List.forIn_toArray]
  | (rw[<-fBR];simp only[List.toList_toArray])
  | rw[<-fBR]
 refine Ga (ksk_fold (fun j s'=>∃U' kA e,(vis U'=vis U/\U' D=none/\U' kS=none)/\At X U' s'/\Step (fun b=>b=D\/b=kS) U s U' s'/\s'.heap.get? kS=some (G2 "list" kA e)/\s'.heap.get? D=some (G2 "list" #[] e1)/\RepVs U' s'.heap ((xs.take j).map key) kA.toList) vs 0 _
  (za8 U (#[]) 0 (zq rfl oD.1 oK.1) a0 st0 hk0 ha0 .nil) ?step ?done)
 case step=>
  intro j v s' hv hR1;refine jd hR1 fun U' kA e h2_3 a' st' hk' ha' rk=>?_;obtain⟨hvis,nD,nK⟩:=h2_3;have kv':=st'.keepV a noB;simp only[fBL] at rk ⊢;have hj:j<vs.length:=(fX.mp hv).1;have hjx:j<xs.length:=zyX hlen hj;obtain⟨x,hx⟩:∃x,xs[j]? = some x:=⟨_,fV hjx⟩
  refine zb (rs.get hx) fun v' hv' rx=>?_;rw[hv] at hv';obtain rfl:=G4 hv';have hxm:=pO hx;have hz:kA.size=j:=by
   have h1:=rk.length;simp only[fC,fC3,gV] at h1;exact zAk hlen hj h1
  refine Ga (wpAny_attempt (Gc (hk x hxm U' s' v hvis a' (rx.mono kv')) (fun k s2 hr=>?_) fun _ _ h=>h.elim));refine zt hr fun av σ2 rv a2 st2 e15_5 hσ=>?_;subst e15_5;have kv2:=st2.keepV0 a';have hk2:=st2.keep kS _ hk' nK (fun h=>h) (noD rfl);have ha2:=st2.keep D _ ha' nD (fun h=>h) (noD rfl);have nD2:=st2.gone ha' nD;have nK2:=st2.gone hk' nK;have sb:=Heap.SameBut.update s2.heap kS (Obj.mapSeq (·.push k));obtain⟨c2,hc2⟩:∃c2,(s2.heap.update kS (Obj.mapSeq (·.push k))).get? kS=some (G2 "list" (kA.push k) c2):=⟨_,G3 hk2 (·.push k)⟩
  have kv3:KeepV σ2 s2.heap σ2 (s2.heap.update kS (Obj.mapSeq (·.push k))):=.mk' fun b o ho st=>by
   by_cases hb:b=kS
   .subst hb;rw[hk2] at ho;exact absurd st (noSt (G4 ho).symm)
   .rw[sb.2 b hb];exact ho
  try dsimp only
  refine Ga (Gy hk2 rfl ?_ (by rw[Gf];exact zAg hm hlen hj hz) (fN (pC (Array.size_push ..)) (by rw[Gf];exact zAf hm hlen hj hz)));refine Gb (zge rfl σ2 (kA.push k) c2 (zq hσ nD2 nK2) (At.aside a2 s2.toks nK2 oK.2.1 (fun o ho=>by rw[hk2] at ho;exact noSt (G4 ho).symm) (fun q=>absurd q fK) sb) ((st'.trans (st2.weaken fun _ h=>h.elim)).trans (Step.aside s2.toks (.inr rfl) sb)) hc2 ((sb.2 D hDK.symm).trans ha2) ?_);have ek:xs.take (j+1)=xs.take j++[x]:=by rw[fB2,hx];simp
  rw[ek,fQ,gD];exact((rk.mono kv2).mono kv3).append (.cons (rv.mono kv3) .nil)
 case done=>
  intro s' hR2;refine jd hR2 fun U' kA e h3_3 a' st' hk' ha' rk=>?_;obtain⟨hvis,nD,nK⟩:=h3_3;have e3:xs.take (0+vs.length)=xs:=fAT (zxp hlen);rw[e3] at rk
  try dsimp only
  refine Ga (Gz hk' rfl ?_);have hks:kA.size=vs.length:=by have h1:=rk.length;simp only[fC,gV] at h1;exact zzb hlen h1
  have kv':=st'.keepV a noB;have rs':=rs.mono kv';rw[<-hvis] at hlt q;have z:=zoE (key:=key) rs' rk;have ez:(kA.zip vs.toArray).toList=kA.toList.zip vs:=ksk_zip kA vs;rw[<-ez] at z;have uni:∀x∈xs,∀y∈xs,∀k,RepV U' s'.heap (key x) k->RepV U' s'.heap (key y) k->Y x=Y y:=fun x hx y hy v rx ry=>by
   refine zt (hlt x hx y hy) fun a1 b1 h1 h2 k1 k2 e1=>?_;refine zt (hlt y hy x hx) fun a2 b2 h3 h4 k3 k4 e2=>?_;obtain⟨⟨_,q1⟩,cl⟩:=h1.reads a' rx;obtain⟨⟨_,q2⟩,_⟩:=h2.reads a' ry;obtain⟨⟨_,q3⟩,_⟩:=h3.reads a' ry;obtain⟨⟨_,q4⟩,_⟩:=h4.reads a' rx;have d1:=PySem.SeqAt.Reads.unique _ _ _ _ _ cl q1 q2;have d2:=PySem.SeqAt.Reads.unique _ _ _ _ _ cl q1 q3;have d3:=PySem.SeqAt.Reads.unique _ _ _ _ _ cl q1 q4;subst d1;subst d2;subst d3;rw[e1] at e2;exact zsK (decide_eq_decide.mp (G4 e2))
  obtain⟨YK,hρ⟩:∃YK:Value->Nat,∀x∈xs,∀k,RepV U' s'.heap (key x) k->YK k=Y x:=by
   refine⟨fun v=>if h:∃x,x∈xs/\RepV U' s'.heap (key x) v then Y (choose h) else 0,fun x hx v rx=>?_⟩;have h:∃x,x∈xs/\RepV U' s'.heap (key x) v:=(zc x hx rx)
   simp only[dif_pos h];exact uni _ (choose_spec h).1 x hx v (choose_spec h).2 rx
  clear uni
  -- the tail: any order of the pairs that is sorted
  have tail:∀st:SortSt,(G0 st).Perm (kA.zip vs.toArray)->failedOf st=none->((G0 st).toList.Pairwise fun x y=>YK x.1<=YK y.1)->
    wpAny X.M A.in1.in1 (ksk_tail D false e1 (.ref kS) st) (fun fin s''=>∃v,fin = .done (.ret v)/\wpAny X.M A.in1 (do ret (.ref D)) (fun fin s''=>∃v,fin = .done (.ret v)/\liftQ X U s Q v s'') E s'') E s':=by
   intro st hp hf hs;refine zb (z.perm (fAD.mp hp)) fun ys hy1 hy2=>?_;have hys:ys.Pairwise fun x y=>Y x<=Y y:=hy2.pair (fun y hy pp hpp=>hρ y (hy1.mem_iff.mp hy) _ hpp.2) hs;have s1:=Heap.SameBut.update s'.heap kS (Obj.mapSeq fun _=>(#[]:Array Value));have na1:(s'.heap.update kS (Obj.mapSeq fun _=>(#[]:Array Value))).get? D=some (G2 "list" #[] e1):=(s1.2 D hDK.symm).trans ha';have s2:=Heap.SameBut.update (s'.heap.update kS (Obj.mapSeq fun _=>(#[]:Array Value))) D (Obj.mapSeq fun _=>(G0 st).map (·.2));obtain⟨c2,hc2⟩:∃c2,((s'.heap.update kS (Obj.mapSeq fun _=>(#[]:Array Value))).update D (Obj.mapSeq fun _=>(G0 st).map (·.2))).get? D=some (G2 "list" ((G0 st).map (·.2)) c2):=⟨_,G3 na1 fun _=>(G0 st).map (·.2)⟩
   have hasz:((G0 st).map (·.2)).size=vs.length:=by
    have h1:(G0 st).size=(kA.zip vs.toArray).size:=hp.size_eq;rw[Array.size_zip,hks,gH] at h1;rw[Array.size_map];exact h1.trans (Nat.min_self _)
   unfold ksk_tail
   try dsimp only
   refine Ga (Gy hk' rfl ?_ (by rw[Gf];exact zy3 hm hlen hks) (fW _));refine Ga (wpAny_letGo ?_);refine Ga (seqEpoch_at na1 rfl ?_);refine Ga (Gy na1 rfl ?_ (fW _) (fN (pC hasz) (by rw[Gf];exact zxN hm hlen)));rw[hf];simp only[bne_self_eq_false,gG,if_false];refine Gb (zc _ rfl (Gb (zc _ rfl ?_)));obtain⟨H2,hH2⟩:∃x,x=(s'.heap.update kS (Obj.mapSeq fun _=>(#[]:Array Value))).update D (Obj.mapSeq fun _=>(G0 st).map (·.2)):=⟨_,rfl⟩
   rw[<-hH2] at hc2 s2 ⊢;have same:∀b,b≠D->b≠kS->H2.get? b=s'.heap.get? b:=fun b h1 h2=>(s2.2 b h1).trans (s1.2 b h2);have kv4:KeepV U' s'.heap U' H2:=.mk' fun b o ho st=>by
    rw[same b (fun e=>by rw[e,ha'] at ho;exact absurd st (noSt (G4 ho).symm)) (fun e=>by rw[e,hk'] at ho;exact absurd st (noSt (G4 ho).symm))];exact ho
   have aa:=At.aside a' s'.toks nK oK.2.1 (fun o ho=>by rw[hk'] at ho;exact noSt (G4 ho).symm) (fun q=>absurd q fK) s1;have ab:At X U' { s' with heap:=H2 }:=At.aside aa s'.toks nD oD.2.1 (fun o ho=>by rw[na1] at ho;exact noSt (G4 ho).symm) (fun q=>absurd q fD) s2;have hS2:s.heap.objs.size<=H2.objs.size:=by rw[hH2,Heap.size_update,Heap.size_update];exact st'.size
   have stE:Step E0 U s U' { s' with heap:=H2 }:=⟨fun b o e h1 _ hd=>by
     have hlt:b<s.heap.objs.size:=Heap.lt_size e;show H2.get? b=_;rw[same b (zr9 hD hlt) (zug hkSe hlt)];exact st'.keep b o e h1 (by rintro(h|h)<;>(first|exact zub hD hlt h|exact zuc hkSe hlt h)) hd,fun b o e h1 _=>by
     have hlt:b<s.heap.objs.size:=Heap.lt_size e;obtain⟨sl,h⟩:=st'.keepD b o e h1 (by rintro(h|h)<;>(first|exact zub hD hlt h|exact zuc hkSe hlt h));exact⟨sl,(same b (zr9 hD hlt) (zug hkSe hlt)).trans h⟩,st'.fresh,hS2,st'.frz⟩
   obtain⟨av,ao,o1,o2,o3,o4⟩:=zor (r:=r) (D:=D) (acc:=ys) (ys:=((G0 st).map (·.2)).toList) (n:=c2) (Q:=Q) (by
      unfold zR;rw[fCG];exact hc2) (by
      have:=(zmx hy2).mono kv4;rwa [<-Array.toList_map] at this) (by rw[hy1.length_eq];exact hm) ab stE nD oD.2.1 fD (zoA hD) (q ys hy1 hys)
   exact zr av _ o1 o2 o3 o4
  unfold ksk_end
  try dsimp only
  by_cases h2:vs.toArray.size<2
  .rw[if_pos h2,if_pos h2];refine Ga (Gb ?_);rw[StateT.run_pure];refine Ga (Gb ?_)
   try dsimp only
   refine tail (SortSt.mk' general' (kA.zip vs.toArray) #[] 7 none) (.refl _) rfl ?_;show (kA.zip vs.toArray).toList.Pairwise _;have:(kA.zip vs.toArray).toList.length<2:=by rw[ez,List.length_zip,gV,hks,Nat.min_self];simpa using h2
   generalize (kA.zip vs.toArray).toList=l at this
   match l,this with
   | [],_=>exact .nil
   | [x],_=>exact pJ _ _
   | _::_::_,h=>simp only[fH] at h;lia
  .rw[if_neg h2,if_neg h2];have h3:2<=vs.length:=by simpa using h2
   have hzs:(kA.zip vs.toArray).size=vs.length:=by rw[Array.size_zip,hks,gH,Nat.min_self]
   obtain⟨V,H,kk⟩:∃V,qH X.prog X.w A.in1.in1 s' V (fun p=>YK p.1) (kA.zip vs.toArray)/\wpAny X.M A.in1.in1 (keyKind' kA) (fun V' s''=>V'=V/\s''=s') E s':=by
    rcases kd with kd|kd
    .have kd:∀x∈xs,∃i r,key x = .tup (.int i::r):=fun x hx=>kd _ (gZ hx);obtain⟨fs,f1,f2,f3⟩:=zd2 (M:=X.M) (T:=.type "int") rk (fun x hx=>by
      refine zb (fO.mp hx) fun y hy e24_2=>?_;subst e24_2;refine jc (kd y hy) fun i r e=>?_;refine za6 _ r e (fun v rv=>?_);obtain⟨_,rfl⟩:=RepV.wC rv;exact .now)
     refine zc (tuples' true) (fun p' q' hp' hq' Q' E' hQ=>?_) ?_
     .refine zb (z.mem2 p' hp') fun x hx rx=>?_;refine zb (z.mem2 q' hq') fun y hy ry=>?_;refine zkN a' (by rw[u1];exact zxb room) rx.2 ry.2 (kd x hx) (kd y hy) (hlt x hx y hy) ?_;rw[<-hρ x hx _ rx.2,<-hρ y hy _ ry.2];exact hQ
     .have kk:=kat_kind (A:=A.in1.in1) (E:=E) (s:=s') (Q:=fun V s''=>V=tuples' true/\s''=s') f1 (by rw[f2,gV,hks];exact zv6 h3) f3 (by decide) ⟨congrArg tuples' (show (Value.type "int" != Value.type "tuple")=true by decide),rfl⟩;rw[fCG] at kk;exact kk
    .have kd:∀x∈xs,∃i,key x = .int i:=fun x hx=>kd _ (gZ hx);refine zc oneType' (fun p' q' hp' hq' Q' E' hQ=>?_) ?_
     .refine zb (z.mem2 p' hp') fun x hx rx=>?_;refine zb (z.mem2 q' hq') fun y hy ry=>?_;have hl:=hlt x hx y hy;have hQ:Q' (decide (Y x<Y y)) s':=by rw[<-hρ x hx _ rx.2,<-hρ y hy _ ry.2];exact hQ
      have rx:=rx.2;have ry:=ry.2;obtain⟨i,ei⟩:=kd x hx;obtain⟨j,ej⟩:=kd y hy;rw[ei] at rx hl;rw[ej] at ry hl;refine zt hl fun da db ra rb oa ob el=>?_;obtain rfl:=Rd.wC ra;obtain rfl:=Rd.wC rb;simp only[zcg,zks,zde,Option.some.injEq] at el;rw[<-el] at hQ;generalize p'.1=v1 at rx ⊢;generalize q'.1=v2 at ry ⊢;obtain⟨_,rfl⟩:=RepV.wC rx;obtain⟨_,rfl⟩:=RepV.wC ry;rw[keyLt'_oneType];exact oneLt_int hQ
     .have kk:=kas_kind (M:=X.M) (A:=A.in1.in1) (E:=E) (s:=s') (vs:=kA.toList) (T:=.type "int") (Q:=fun V s''=>V=oneType'/\s''=s') (by rw[gV,hks];exact zrJ h3) (fun v hv=>by
       refine zb (rk.mem v hv) fun x hx rx=>?_;refine zb (fO.mp hx) fun y hy e37_2=>?_;subst e37_2;obtain⟨i,e⟩:=kd y hy;rw[e] at rx;obtain⟨_,rfl⟩:=RepV.wC rx;exact .now) (by decide) (by decide) ⟨rfl,rfl⟩
      rw[fCG] at kk;exact kk
   have hB:SB V (kA.zip vs.toArray) (SortSt.mk' V (kA.zip vs.toArray) #[] 7 none):=⟨.refl _,rfl,rfl⟩
   have run:=zeC (E:=E) (Q:=fun _ st'=>(G0 st').Perm (kA.zip vs.toArray)/\failedOf st'=none/\(G0 st').toList.Pairwise (fun x y=>YK x.1<=YK y.1)) H hB rfl (by rw[hzs];exact h3) (by rw[hzs,<-hlen];exact hm) fun st' hB' hs=>(zq hB'.perm hB'.failed (by
    have:=hB'.size;exact j5 (Y:=fun p=>YK p.1) (by rw[this];exact hs)))
   refine Ga (Gc kk (fun V s'' hκ=>?_) fun _ _ e=>e);obtain⟨rfl,rfl⟩:=hκ;refine Ga (Gc run (fun r s'' hr=>?_) fun _ _ e=>e);obtain⟨⟨⟩,st2⟩:=r;refine zx hr fun e42_0 hp2 hf2 hs2=>?_;subst e42_0;exact tail st2 hp2 hf2 hs2
section
variable{X:Cx}{K:Frag}{env:Env}{nm:List (Str×Nat)}{names:List (Str×NameKind)}
theorem zpN{r:Bool}{e:Expr}{m:AE}{g:Str}{f:Addr}{o:Obj}{fd:FuncData}{gp lp kp pos:Pos}(G:Gd X K)(E:EK env names)(hb:zlf K "sorted" (.builtin "sorted"))(hg:qs names "sorted" = true)(hf:nsIn K Gr g=some (some (.ref f)))(ho:K.lookup f=some o)(hfd:o.data = .func fd)(hgK:qs names g=true)(hs:jE e=true)(h:zh X env nm e m) :
  zh X env nm (.Call (.Name "sorted" gp) [e] [⟨some "key",.Name g lp,kp⟩] pos) (A.w9 X f r m):=fun d A l U s Q Z L a F q=>by
 obtain⟨hdn,q⟩:=zaE q;show wpAny X.M A (do callWith pos (<-eval (.Name "sorted" gp) env) [] (backTo pos (starEach [e] env)) (backToKw pos (keywordEach [⟨some "key",.Name g lp,kp⟩] env))) _ _ s;refine Ga (qf G.ok E.eo a (E.glob hg).1 (by decide) (G.none hb) (G.some hb) ?_);have he:backTo pos (starEach [e] env)=(false,eval e env)::backTo pos (starEach [] env):=by rw[zU hs];rfl
 refine callWith_kw ?_ he (by rw[he];rfl);rw[he];refine Calls.spliced_cons (zak (h d A l U s _ Z L a F q) fun av v σ1 s1 rv a1 st1 q1=>?_);refine Calls.spliced_nil ?_;refine kws_cons (q9 G.ok E.eo a1 (E.glob hgK).1 (E.glob hgK).2 (mg_of G.inn G.ok.g hf) (kws_nil ?_));refine zb (zg q1) fun xs hx q1=>?_;unfold zgG at q1;refine zt q1 fun key Y hd hk kd hlt q2=>?_;have L2:Live X ⟨d.n+1,d.hd⟩ A.in1.in1:=⟨by have:=L.depth;show A.depth<=301+(d.n+1);exact zxt this,by have:=L.units;rw[Around.in1_units,Around.in1_units];show _<=20+8*(d.n+1);exact zxr this,L.handled,by show d.n+1<=600;lia,L.frames⟩
 refine jX st1 (zeG L a1 hx rv (fun p=>ksk_t1 _ _) (fun x hx σ2 s2 v2 hv a2 r2=>?_) (.inl fun y hy=>?_) hlt q2)
 .have:=hk x hx;rw[<-hv] at this;refine Gc (this.call L2 a2 (.cons r2 .nil)) (fun k s3 hr=>?_) fun e s3 hr=>?_
  .refine zt hr fun av σ3 h1 h2 h3 h4 h5=>?_;exact jr av σ3 h1 h2 h3 h4 (h5.trans hv)
  .refine jM hr fun c σ3 x g _ _ _ _ _ hF=>?_;exact hF
 .refine zb (fO.mp hy) fun x hx e48_2=>?_;subst e48_2;exact kd x hx
theorem zmi{r:Bool}{e:Expr}{m:AE}{gp lp kp pos:Pos}(G:Gd X K)(E:EK env names)(hb:zlf K "sorted" (.builtin "sorted"))(hbL:zlf K "len" (.builtin "len"))(hg:qs names "sorted" = true)(hgL:qs names "len" = true)(hs:jE e=true)(h:zh X env nm e m) :
  zh X env nm (.Call (.Name "sorted" gp) [e] [⟨some "key",.Name "len" lp,kp⟩] pos) (A.w2 r m):=fun d A l U s Q Z L a F q=>by
 obtain⟨hdn,q⟩:=zaE q;show wpAny X.M A (do callWith pos (<-eval (.Name "sorted" gp) env) [] (backTo pos (starEach [e] env)) (backToKw pos (keywordEach [⟨some "key",.Name "len" lp,kp⟩] env))) _ _ s;refine Ga (qf G.ok E.eo a (E.glob hg).1 (by decide) (G.none hb) (G.some hb) ?_);have he:backTo pos (starEach [e] env)=(false,eval e env)::backTo pos (starEach [] env):=by rw[zU hs];rfl
 refine callWith_kw ?_ he (by rw[he];rfl);rw[he];refine Calls.spliced_cons (zak (h d A l U s _ Z L a F q) fun av v σ1 s1 rv a1 st1 q1=>?_);refine Calls.spliced_nil ?_;refine kws_cons (qf G.ok E.eo a1 (E.glob hgL).1 (by decide) (G.none hbL) (G.some hbL) (kws_nil ?_));refine zb (zg q1) fun xs hx q1=>?_;unfold zcE at q1;obtain⟨ht,q2⟩:=q1;refine jX st1 (zeG (key:=fun x=>.int (zj2 x)) (Y:=zj2) L a1 hx rv (fun p=>ksk_t4 _ _) (fun x hx σ2 s2 v2 hv a2 r2=>?_) (.inr fun y hy=>?_) (fun x hx y hy=>?_) q2)
 .obtain⟨l,rfl⟩:=ht x hx;refine zj (RepV.wH r2) fun b vs e53_2 hl it rs=>?_;subst e53_2;have hlen:=rs.length;have e:(vs.toArray.size:Int)=(zj2 (.tup l):Nat):=by simp[zj2,hlen]
  refine len_tuple it (by simp;exact zr4 hl hlen) ?_;rw[e];exact zai a2 (.int _ _) ⟨rfl,hv⟩
 .refine zb (fO.mp hy) fun x hx e54_2=>?_;subst e54_2;exact⟨_,rfl⟩
 .refine jr _ _ (.int _) (.int _) (fW _) (fW _) ?_;simp[zcg,zks,zde]
end
structure CT where
 K:Frag
 C:Addr
 refs:List (Nat×Nat)
 names:List (Str×NameKind)
 nm:List (Str×Nat)
 ex:List (Addr×List Addr)
noncomputable def CT.r(c:CT)(p:Pos):Bool:=c.refs.any fun q=>Nat.beq q.1 p.line&&Nat.beq q.2 p.col
noncomputable def zgt(v:Option (Option Value)):Bool:=match v with
 | some none=>true
 | _=>false
noncomputable def biB(K:Frag)(names:List (Str×NameKind))(x:Str)(v:Value):Bool:=
 qs names x&&zgt (nsIn K Gr x)&&bootBuiltins x==some v&&!(x==("__name__" : Str))
structure PrimS where
 name:Str
 val:Value
 prim:zbU
noncomputable def prims:List PrimS:=[⟨"len",.builtin "len",qm⟩,⟨"range",.type "range",kz⟩,⟨"tuple",.type "tuple",zep⟩,⟨"max",.builtin "max",zlG⟩,⟨"min",.builtin "min",zlH⟩,⟨"sum",.builtin "sum",zlI⟩,⟨"sorted",.builtin "sorted",kM⟩,⟨"int",.type "int",zrl⟩,⟨"abs",.builtin "abs",zrk⟩]
noncomputable def pyTs:List (Str×PyT):=[("tuple",.tuple),("str",.str),("int",.int),("bool",.bool),("list",.list),("dict",.dict)]
structure MethS where
 name:Str
 id:String
 meth:zby
noncomputable def meths:List MethS:=[⟨"append","list.append",zT⟩,⟨"pop","list.pop",zq8⟩,⟨"clear","list.clear",zjl⟩,⟨"remove","list.remove",zgl⟩]
def A.no:AE:=fun _ _ _ _ _=>False
def A.noI:AI:=fun _ _ _ _ _=>False
noncomputable def hh0:Nat:=0
noncomputable def hh1:Nat:=hh0
noncomputable def hh2:Nat:=hh1
noncomputable def hh3:Nat:=hh2
noncomputable def hh4:Nat:=hh3
noncomputable def hh5:Nat:=hh4
noncomputable def hh6:Nat:=hh5
noncomputable def hh7:Nat:=hh6
noncomputable def hh8:Nat:=hh7
noncomputable def hh9:Nat:=hh8
noncomputable def zvc:Nat:=hh9
noncomputable def zvd:Nat:=zvc
noncomputable def zve:Nat:=zvd
noncomputable def zvf:Nat:=zve
noncomputable def zvg:Nat:=zvf
noncomputable def zvh:Nat:=zvg
noncomputable def zvi:Nat:=zvh
noncomputable def zvj:Nat:=zvi
noncomputable def zvk:Nat:=zvj
noncomputable def zvl:Nat:=zvk
noncomputable def zvm:Nat:=zvl
noncomputable def zvn:Nat:=zvm
noncomputable def zvo:Nat:=zvn
noncomputable def zvp:Nat:=zvo
noncomputable def low{β:Type}(z:β):β:=(fun _:Nat=>z) zvp
noncomputable def ck{β:Type}(z:β)(b:Bool)(m:β):β:=match b with
 | true=>m
 | false=>low z
noncomputable def op{J β:Type}(z:β)(o:Option J)(f:J->β):β:=match o with
 | some a=>f a
 | none=>low z
abbrev Go:=Expr->AE
noncomputable def zqk(v:Option (Option Value)):Option Int:=match v with
 | some (some (.int i _))=>some i
 | _=>none
def zmK(ct:CT)(x:Str):AE:=match zd0 ct.names x&&!(x==("__debug__" : Str)) with
 | true=>op A.no (ct.nm.lookup x) A.loc
 | false=>ck A.no (qs ct.names x) (op A.no (zqk (nsIn ct.K Gr x)) fun i=>A.k (.int i))
def zmI(c:Const):AE:=match c with
 | .int i=>A.k (.int i)
 | .str s=>op A.no (kF s) fun n=>A.k (.str n)
 | .none=>A.k .none
 | .bool b=>A.k (.bool b)
 | _=>A.no
noncomputable def znT(ops:List CmpOp)(es:List Expr):Bool:=match ops with
 | []=>false
 | op::ops=>match es with
  | []=>false
  | e::es=>match ops with
   | []=>es.isEmpty&&!behindInMarks op e
   | _::_=>znT ops es
noncomputable def zrq(go:Go)(ops:List CmpOp)(es:List Expr):List (CmpOp×AE):=match ops with
 | []=>low []
 | op::ops=>match es with
  | []=>[]
  | e::es=>(op,go e)::zrq go ops es
def zsA(go:Go)(r:Bool)(x:AE)(i:Expr):AE:=match i with
 | .Slice lo hi st _=>(match st with
  | none=>A.wW r x (lo.map go) (hi.map go)
  | some _=>A.no)
 | i=>ck A.no (zcq i) (A.idx x (go i))
noncomputable def zpp(ks:List (Option Expr))(vs:List Expr):Bool:=match ks with
 | []=>vs.isEmpty
 | k::ks=>match vs with
  | []=>false
  | _::vs=>k.isSome&&zpp ks vs
noncomputable def rPs(go:Go)(ks:List (Option Expr))(vs:List Expr):List (AE×AE):=match ks with
 | []=>[]
 | k::ks=>match vs with
  | []=>[]
  | v::vs=>(op A.no k go,go v)::rPs go ks vs
noncomputable def zgh(e:Option Expr):Bool:=match e with
 | some (.Constant (.str _) _ _)=>true
 | _=>false
def zmJ(go:Go)(r:Bool)(ks:List (Option Expr))(vs:List Expr):AE:=
 match (match ks with|[]=>r|_::_=>ks.all zgh)&&Nat.ble ks.length 15&&zpp ks vs with
 | true=>A.dic (rPs go ks vs)
 | false=>match ks with
  | []=>ck A.no vs.isEmpty A.dT0
  | k::ks=>match vs with
   | []=>A.no
   | v::vs=>ck A.no (ks.isEmpty&&vs.isEmpty) (op A.no k fun k=>A.dT1 (go k) (go v))
noncomputable def zcW(e:Expr):Option Str:=match e with
 | .Name x _=>some x
 | _=>none
noncomputable def tgN(ok:Str->Bool)(nm:List (Str×Nat))(e:Expr):Option Nat:=(zcW e).bind fun x=>if ok x then nm.lookup x else none
noncomputable def ztf(ok:Str->Bool)(nm:List (Str×Nat))(es:List Expr):Option (List Nat):=match es with
 | []=>some []
 | e::es=>(tgN ok nm e).bind fun i=>(ztf ok nm es).map fun is=>i::is
noncomputable def zqF(ok:Str->Bool)(nm:List (Str×Nat))(e:Expr):Option Tgt:=match e with
 | .Tuple es _ _=>(ztf ok nm es).map .many
 | e=>(tgN ok nm e).map .one
noncomputable def zo6:Expr->Bool
 | .Tuple ..=>true
 | _=>false
noncomputable def ziT(e:Expr):Option (Str×List Expr×List Keyword):=match e with
 | .Call f es kws _=>(zcW f).map fun x=>(x,es,kws)
 | _=>none
noncomputable def ziU(e:Expr):Option Expr:=(ziT e).bind fun p=>match p.2.1 with
 | []=>none
 | a::r=>if r.isEmpty&&p.2.2.isEmpty&&p.1==("enumerate" : Str) then some a else none
def zke(go:Go)(ct:CT)(target iter:Expr):AI:=match ziU iter with
 | none=>A.itP (go iter)
 | some e=>ck A.noI (biB ct.K ct.names "enumerate" (.type "enumerate")&&jE e&&zo6 target) (A.itE (go e))
noncomputable def CT.inn(ct:CT)(ns:List (Str×NameKind)):CT:=⟨ct.K,ct.C,ct.refs,zkF ct.names ns,z7 ct.nm (kI ct.nm) ns,ct.ex⟩
noncomputable def zqj(ifs:List Expr):Bool:=Nat.ble ifs.length 1
noncomputable def zsx(go:Go)(ifs:List Expr):Option AE:=match ifs with
 | []=>none
 | e::_=>some (go e)
noncomputable def zqN(ct:CT)(g:Comprehension)(scope:Scope):Bool:=g.is_async==0&&zkg ct.names ct.nm (kI ct.nm) scope.names&&scope.kind==.function&&zem g.iter&&zqj g.ifs
def zmH(go:CT->Go)(ct:CT)(r:Bool)(elt:Expr)(gens:List Comprehension)(scope:Scope):AE:=match gens with
 | []=>A.no
 | g::gs=>ck A.no (gs.isEmpty&&zqN ct g scope) (op A.no (zqF (fun x=>(ct.inn scope.names).names.lookup x==some .local) (ct.inn scope.names).nm g.target) fun t=>
   A.lc r (zke (go ct) ct g.target g.iter) t (zcS scope.names) (zsx (go (ct.inn scope.names)) g.ifs) (go (ct.inn scope.names) elt))
noncomputable def zev(v:Option (Option Value)):Option Addr:=match v with
 | some (some (.ref f))=>some f
 | _=>none
def zsy(go:Go)(ct:CT)(es:List Expr):AE:=match es with
 | []=>A.no
 | e::es=>match es with
  | []=>A.no
  | c::es=>ck A.no (biB ct.K ct.names "isinstance" (.builtin "isinstance")&&jE e&&es.isEmpty) (op A.no (zcW c) fun T=>match pyTs.lookup T with
   | some t=>ck A.no (biB ct.K ct.names T (.type t.name)) (A.isa t (go e))
   | none=>A.no)
def zu9(X:Cx)(K:Frag)(C:Addr)(ms:List AE):AE:=
 ck A.no (keepIn K (.ref C)&&makesIn K C) (op A.no (zev (findIn K (.ref C) "__init__")) fun fI=>ck A.no (typeIn K (.ref fI)==some (.type "function")) (A.new X C fI ms))
def ziI(X:Cx)(go:Go)(ct:CT)(g:Str)(es:List Expr)(pos:Pos):AE:=match g==("isinstance" : Str) with
 | true=>zsy go ct es
 | false=>ck A.no (es.all jE) (match prims.find? (fun p=>p.name==g) with
  | some p=>ck A.no (biB ct.K ct.names g p.val) (A.prim p.prim (ct.r pos) (es.map go))
  | none=>ck A.no (qs ct.names g) (op A.no (zev (nsIn ct.K Gr g)) fun f=>match (zhi ct.K f).isSome with
   | true=>A.wF X f (es.map go)
   | false=>zu9 X ct.K f (es.map go)))
def zmM(X:Cx)(go:Go)(ct:CT)(g:Str)(es:List Expr)(kw:Keyword)(pos:Pos):AE:=match es with
 | []=>A.no
 | e::es=>ck A.no (g==("sorted" : Str)&&kw.arg==some ("key" : Str)&&biB ct.K ct.names "sorted" (.builtin "sorted")&&jE e&&es.isEmpty) (op A.no (zcW kw.value) fun k=>match k==("len" : Str) with
  | true=>ck A.no (biB ct.K ct.names "len" (.builtin "len")) (A.w2 (ct.r pos) (go e))
  | false=>ck A.no (qs ct.names k) (op A.no (zev (nsIn ct.K Gr k)) fun f=>ck A.no (zhi ct.K f).isSome (A.w9 X f (ct.r pos) (go e))))
def zqi(X:Cx)(go:Go)(ct:CT)(o:Expr)(name:Str)(apos:Pos)(es:List Expr)(pos:Pos):AE:=
 ck A.no (zc0 o&&apos.endLine==pos.line&&decide (es.length<30)&&es.all jE) (match meths.find? (fun m=>m.name==name) with
  | some m=>A.meth m.meth (go o) (es.map go)
  | none=>ck A.no (plainGet ct.K ct.C name) (op A.no (zev (findIn ct.K (.ref ct.C) name)) fun f=>ck A.no (PySem.W.isFn ct.K (.ref f)&&(zhi ct.K f).isSome) (A.wO X ct.C (kF name) f (go o) (es.map go))))
def zqg(go:Go)(ct:CT)(o:Expr)(name:Str):AE:=
 ck A.no (zc0 o&&plainGet ct.K ct.C name&&hasDictIn ct.K ct.C&&zgt (findIn ct.K (.ref ct.C) name)) (op A.no (kF name) fun n=>A.wR ct.C n (go o))
def zqh(X:Cx)(go:Go)(ct:CT)(f:Expr)(es:List Expr)(kws:List Keyword)(pos:Pos):AE:=match f with
 | .Name g _=>(match kws with
  | []=>ziI X go ct g es pos
  | kw::r=>ck A.no r.isEmpty (zmM X go ct g es kw pos))
 | .Attribute o name apos=>ck A.no kws.isEmpty (zqi X go ct o name apos es pos)
 | _=>A.no
def cE(X:Cx)(n:Nat)(ct:CT)(e:Expr):AE:=match n with
 | 0=>A.no
 | n+1=>match e with
  | .Name x _=>zmK ct x
  | .Constant c _ _=>zmI c
  | .BinOp a o b pos=>A.bin (ct.r pos) o (cE X n ct a) (cE X n ct b)
  | .UnaryOp o a _=>(match o with
   | .USub=>A.neg (cE X n ct a)
   | .Not=>A.wT (cE X n ct a)
   | _=>A.no)
  | .BoolOp o es _=>(match o with
   | .And=>zcJ (es.map (cE X n ct))
   | .Or=>orL (es.map (cE X n ct)))
  | .Compare a ops es _=>ck A.no (znT ops es) (A.cmp (cE X n ct a) (zrq (cE X n ct) ops es))
  | .Tuple es _ _=>ck A.no (es.all jE) (A.tup (es.map (cE X n ct)))
  | .List es pos=>ck A.no (es.all jE) (A.lst (ct.r pos) (es.map (cE X n ct)))
  | .Subscript a i pos=>zsA (cE X n ct) (ct.r pos) (cE X n ct a) i
  | .ListComp elt gens scope pos=>zmH (cE X n) ct (ct.r pos) elt gens scope
  | .Attribute o name _=>zqg (cE X n ct) ct o name
  | .Dict ks vs pos=>zmJ (cE X n ct) (ct.r pos) ks vs
  | .Call f es kws pos=>zqh X (cE X n ct) ct f es kws pos
  | _=>A.no
def zsz(X:Cx)(n:Nat)(ct:CT)(t v:Expr):AS:=match t with
 | .Name x _=>ck A.wI (zd0 ct.names x) (op A.wI (ct.nm.lookup x) fun i=>(match v with
   | .ListComp elt gens scope pos=>A.set i (zmH (cE X n) ct (ct.r pos) elt gens scope)
   | v=>ck A.wI (zdw v) (A.set i (cE X n ct v))))
 | .Attribute o name _=>ck A.wI (findIn ct.K (.ref ct.C) "__setattr__"==some (some (.builtin "object.__setattr__"))&&plainOver ct.K ct.C&&zgt (takerIn ct.K ct.C name)&&hasDictIn ct.K ct.C)
   (op A.wI (kF name) fun k=>A.wV ct.C k (cE X n ct o) (cE X n ct v))
 | .Subscript o i _=>A.wS (cE X n ct v) (cE X n ct o) (cE X n ct i)
 | _=>A.wI
noncomputable def zkD(e:Expr):Option Str:=(ziT e).bind fun p=>match p.2.1 with
 | []=>none
 | a::r=>if zgh (some a)&&r.isEmpty&&p.2.2.isEmpty then some p.1 else none
noncomputable def zkE(e c:Option Expr):Option Str:=match c with
 | none=>e.bind zkD
 | some _=>none
noncomputable def znb(hs:List ExceptHandler):Option (Str×Option Str×Stmt×List Stmt):=match hs with
 | []=>none
 | .ExceptHandler t name body _::r=>if r.isEmpty then t.bind fun t=>(zcW t).bind fun T=>(match body with
  | []=>none
  | b0::bs=>some (T,name,b0,bs)) else none
def zqE(ct:CT)(x:Str):AS:=ck A.wI (qs ct.names x) (op A.wI (zev (nsIn ct.K Gr x)) fun C=>ck A.wI (ct.ex.lookup C).isSome (A.wU C))
noncomputable def zu6(ct:CT)(name:Option Str):Option (Option Nat):=match name with
 | none=>some none
 | some _=>none
noncomputable def zqP(ct:CT)(C':Addr):List Addr:=(ct.ex.filter fun p=>(Value.ref p.1::(p.2.map Value.ref++veB)).contains (.ref C')).map (·.1)
def zva(ct:CT)(T:Str)(name:Option Str)(x y:AS):AS:=ck A.wI (qs ct.names T) (op A.wI (zev (nsIn ct.K Gr T)) fun C'=>ck A.wI (ct.ex.lookup C').isSome (op A.wI (zu6 ct name) fun i=>A.vG x (zqP ct C') i y))
def rSs(f:Stmt->AS)(ss:List Stmt):AS:=ss.foldr (fun s r=>A.cons (f s) r) (low A.nil)
def cS(X:Cx)(n:Nat)(ct:CT)(s:Stmt):AS:=match n with
 | 0=>A.wI
 | n+1=>match s with
  | .Return v _=>(match v with
   | none=>A.vF
   | some e=>A.ret (cE X n ct e))
  | .Assign ts v _=>(match ts with
   | []=>A.wI
   | t::r=>ck A.wI r.isEmpty (zsz X n ct t v))
  | .Expr e _=>ck A.wI (zdw e) (A.ex (cE X n ct e))
  | .If t a b _=>A.if_ (cE X n ct t) (rSs (cS X n ct) a) (rSs (cS X n ct) b)
  | .While t a b _=>ck A.wI b.isEmpty (A.w3 (cE X n ct t) (rSs (cS X n ct) a))
  | .For tg it a b _=>ck A.wI (b.isEmpty&&zem it) (op A.wI (zqF (zd0 ct.names) ct.nm tg) fun t=>A.fr (zke (cE X n ct) ct tg it) t (rSs (cS X n ct) a))
  | .Raise e c _=>op A.wI (zkE e c) (zqE ct)
  | .Try body hs orelse fin _=>op A.wI (znb hs) fun q=>ck A.wI (orelse.isEmpty&&fin.isEmpty) (zva ct q.1 q.2.1 (rSs (cS X n ct) body) (rSs (cS X n ct) (q.2.2.1::q.2.2.2)))
  | _=>A.wI
noncomputable def cF(X:Cx)(K:Frag)(C:Addr)(ex:List (Addr×List Addr))(f:Addr)(refs:List (Nat×Nat))(ps:List Str)(nm:List (Str×Nat)):Option AS:=(zhi K f).bind fun fd=>match fd.body with
 | .stmts body=>if fd.closure.isEmpty&&fd.globals==Gr&&fd.builtins==builtinsNs&&codeIn K fd.code fd.qualname&&zjs fd.scope.names nm ps&&fd.scope.kind==.function&&!fd.scope.isCoroutine&&!fd.scope.isGenerator then
   some (rSs (cS X 40 ⟨K,C,refs,fd.scope.names,nm,ex⟩) body) else none
 | _=>none
theorem zlj{J:Type}{c:Bool}{x:Option J}{b:J}(h:(if c then x else none)=some b):c=true/\x=some b:=by
 cases c with
 | true=>exact⟨rfl,h⟩
 | false=>cases h
theorem zS{a b:Bool}(h:(a&&b)=true):a=true/\b=true:=gA.mp h
theorem zpn{a:Bool}(h:(!a)=true):a=false:=by cases a with
 | true=>cases h
 | false=>rfl
theorem zaf{J:Type}{l:List J}(h:l.isEmpty=true):l=[]:=fBM.mp h
theorem zbX{J β:Type}{o:Option J}{f:J->Option β}{b:β}(h:o.bind f=some b):∃a,o=some a/\f a=some b:=fAA.mp h
theorem zpg{J β:Type}{o:Option J}{f:J->β}{b:β}(h:o.map f=some b):∃a,o=some a/\f a=b:=fAR.mp h
theorem zQ{β:Type}{z m:β}{b:Bool}{S:β->Prop}(hz:S z)(h:b=true->S m):S (ck z b m):=by cases b with
 | true=>exact h rfl
 | false=>exact hz
theorem qk{J β:Type}{z:β}{o:Option J}{f:J->β}{S:β->Prop}(hz:S z)(h:∀a,o=some a->S (f a)):S (op z o f):=by cases o with
 | some a=>exact h a rfl
 | none=>exact hz
section
variable{X:Cx}{env:Env}{ct:CT}
theorem zcZ{v:Option (Option Value)}(h:zgt v=true):v=some none:=by
 cases v with
 | none=>exact nob h
 | some o=>cases o with
  | none=>rfl
  | some x=>exact nob h
theorem zah{v:Option (Option Value)}{f:Addr}(h:zev v=some f):v=some (some (.ref f)):=by
 cases v with
 | none=>exact nos h
 | some o=>cases o with
  | none=>exact nos h
  | some x=>cases x with
   | ref a=>exact congrArg (fun a=>some (some (Value.ref a))) (G4 h)
   | _=>exact nos h
theorem znh{v:Option (Option Value)}{i:Int}(h:zqk v=some i):∃t,v=some (some (.int i t)):=by
 cases v with
 | none=>exact nos h
 | some o=>cases o with
  | none=>exact nos h
  | some x=>cases x with
   | int a t=>exact⟨t,congrArg (fun a=>some (some (Value.int a t))) (G4 h)⟩
   | _=>exact nos h
theorem zae{e:Expr}{x:Str}(h:zcW e=some x):∃p,e = .Name x p:=by
 cases e with
 | Name y p=>exact⟨p,congrArg (fun a=>Expr.Name a p) (G4 h)⟩
 | _=>exact nos h
theorem zcK{K:Frag}{names:List (Str×NameKind)}{x:Str}{v:Value}(h:biB K names x v=true):qs names x=true/\zlf K x v:=by
 obtain⟨h,h4⟩:=zS h;obtain⟨h,h3⟩:=zS h;obtain⟨h1,h2⟩:=zS h;refine⟨h1,zcZ h2,beq_iff_eq.mp h3,fun e=>?_⟩;rw[e] at h4;exact absurd h4 (by decide)
def zqb(X:Cx)(env:Env)(nm:List (Str×Nat))(e:Expr)(m:AE):Prop:=zh X env nm e m/\qM X env nm e m
def zbw(X:Cx)(env:Env)(nm:List (Str×Nat))(go:Go):Prop:=∀e,zqb X env nm e (go e)
variable{nm:List (Str×Nat)}{go:Go}
theorem noE{e:Expr}:zh X env nm e A.no:=fun _ _ _ _ _ _ _ _ _ _ q=>q.elim
theorem noB{e:Expr}:qM X env nm e A.no:=fun _ _ _ _ _ _ _ _ _ _ q=>q.elim
theorem noI{t e:Expr}:zcH X env nm t e A.noI:=fun _ _ _ _ _ _ _ _ _ _ _ _ q=>q.elim
theorem kC{e:Expr}{m:AE}(he:∀whole,isTrue e env whole=(do let v <-whole;standAt e.pos;holding [v] (truthy v)))(h:zh X env nm e m):zqb X env nm e m:=⟨h,zlQ h he⟩
theorem zg0(G:Gd X ct.K)(E:EK env ct.names){x:Str}{pos:Pos}:zh X env ct.nm (.Name x pos) (zmK ct x):=by
 unfold zmK;cases hv:zd0 ct.names x&&!(x==("__debug__" : Str)) with
 | true=>exact qk noE fun i hi=>zl4 E.eo hi (E.var (zS hv).1) (zpn (zS hv).2)
 | false=>
  refine zQ noE fun h1=>qk noE fun i h2=>?_;obtain⟨t,e⟩:=znh h2;exact fun d A l U s Q Z L a F q=>q9 G.ok E.eo a (E.glob h1).1 (E.glob h1).2 (mg_of G.inn G.ok.g e) (zbS a (.int _ _) q)
theorem zfS{c:Const}{k:Nat}{pos:Pos}:zh X env nm (.Constant c k pos) (zmI c):=by
 cases c with
 | int i=>exact zl1
 | str s=>exact qk noE fun n hn=>zmd (jv hn).1 (jv hn).2
 | none=>exact zjU
 | bool b=>exact zjO
 | _=>exact noE
theorem zf0(H:zbw X env nm go)(es:List Expr):SoundEBs X env nm es (es.map go):=by
 induction es with
 | nil=>exact .nil
 | cons e r ih=>exact .cons (H e).1 (H e).2 ih
theorem zds(H:zbw X env nm go){es:List Expr}(h:es.all jE=true):SoundEs X env nm es (es.map go):=by
 induction es with
 | nil=>exact .nil
 | cons e r ih=>exact .cons (zS h).1 (H e).1 (ih (zS h).2)
theorem znW(H:zbw X env nm go):∀{ops:List CmpOp} {es:List Expr},znT ops es=true->SoundOps X env nm ops es (zrq go ops es):=by
 intro ops
 induction ops with
 | nil=>intro es h;cases h
 | cons o ops ih=>
  intro es h;cases es with
  | nil=>cases h
  | cons e es=>
   cases ops with
   | nil=>
    obtain⟨h1,h2⟩:=zS h;have:=zaf h1;subst this;exact .one (H e).1 (zpn h2)
   | cons o2 ops=>
    have:=ih h;cases es with
    | nil=>cases h
    | cons e2 es=>exact .cons (H e).1 this
theorem zkz(H:zbw X env nm go)(e:Option Expr):zfL X env nm e (e.map go):=by
 cases e with
 | none=>trivial
 | some e=>exact(H e).1
theorem ziM(H:zbw X env nm go){r:Bool}{a i:Expr}{x:AE}{pos:Pos}(hx:zh X env nm a x):zh X env nm (.Subscript a i pos) (zsA go r x i):=by
 have other:zh X env nm (.Subscript a i pos) (ck A.no (zcq i) (A.idx x (go i))):=zQ noE fun h=>zl0 hx (H i).1 h;cases i with
 | Slice lo hi st p=>cases st with
  | none=>exact zik hx (zkz H lo) (zkz H hi)
  | some _=>exact noE
 | _=>exact other
theorem zs1(H:zbw X env nm go):∀{ks:List (Option Expr)} {vs:List Expr},zpp ks vs=true->SoundPs X env nm ks vs (rPs go ks vs):=by
 intro ks
 induction ks with
 | nil=>intro vs h;have:=zaf h;subst this;exact .nil
 | cons k ks ih=>
  intro vs h;cases vs with
  | nil=>cases h
  | cons v vs=>
   obtain⟨h1,h2⟩:=zS h;cases k with
   | none=>cases h1
   | some k=>exact .cons (H k).1 (H v).1 (ih h2)
theorem zgY(XO:X.Ok)(H:zbw X env nm go){r:Bool}{ks:List (Option Expr)}{vs:List Expr}{pos:Pos}:zh X env nm (.Dict ks vs pos) (zmJ go r ks vs):=by
 unfold zmJ;cases hc:(match ks with|[]=>r|_::_=>ks.all zgh)&&Nat.ble ks.length 15&&zpp ks vs with
 | true=>exact zlY XO (zs1 H (zS hc).2) (gT (zS (zS hc).1).2)
 | false=>
  cases ks with
  | nil=>exact zQ noE fun h=>by have:=zaf h;subst this;exact zlW XO
  | cons k ks=>cases vs with
   | nil=>exact noE
   | cons v vs=>
    refine zQ noE fun h=>qk noE fun k' hk=>?_;have e1:=zaf (zS h).1;have e2:=zaf (zS h).2;subst e1 e2 hk;exact zlX XO (H k').1 (H v).1
theorem zot{ok:Str->Bool}{e:Expr}{i:Nat}(h:tgN ok nm e=some i):∃x p,e = .Name x p/\ok x=true/\nm.lookup x=some i:=by
 obtain⟨x,h1,h2⟩:=zbX h;obtain⟨p,rfl⟩:=zae h1;obtain⟨h3,h4⟩:=zlj h2;exact⟨x,p,rfl,h3,h4⟩
theorem zdG{B:Addr->Prop}{ok:Str->Bool}(EO:EnvOk env)(hB:∀b,B b->FB env b)(hok:∀x,ok x=true->Sto B env x){e:Expr}{t:Tgt}(h:zqF ok nm e=some t):zaR B X env nm e t:=by
 have other:(tgN ok nm e).map Tgt.one=some t->zaR B X env nm e t:=fun h=>by
  obtain⟨i,h1,rfl⟩:=zpg h;obtain⟨x,p,rfl,h2,h3⟩:=zot h1;exact zjN EO h3 (hok _ h2)
 cases e with
 | Tuple es k p=>
  obtain⟨is,h1,rfl⟩:=zpg h;refine zif EO hB ?_;clear h other
  induction es generalizing is with
  | nil=>cases h1;exact .nil
  | cons e r ih=>
   obtain⟨i,h2,h3⟩:=zbX h1;obtain⟨is',h4,rfl⟩:=zpg h3;obtain⟨x,p,rfl,h5,h6⟩:=zot h2;exact .cons h6 (hok _ h5) (ih _ h4)
 | _=>exact other h
theorem ze8{e:Expr}{p:Str×List Expr×List Keyword}(h:ziT e=some p):∃fp pos,e = .Call (.Name p.1 fp) p.2.1 p.2.2 pos:=by
 cases e with
 | Call f es kws pos=>
  refine zb (zpg h) fun y h1 h2=>?_;refine jU (zae h1) fun np e1=>?_;exact⟨np,pos,by rw[<-h2,e1]⟩
 | _=>exact nos h
theorem zkY{e a:Expr}(h:ziU e=some a):∃fp pos,e = .Call (.Name "enumerate" fp) [a] [] pos:=by
 refine zb (zbX h) fun p h1 h2=>jc (ze8 h1) fun np pos e1=>?_;obtain⟨x,es,kws⟩:=p;cases es with
 | nil=>exact nos h2
 | cons b r=>
  refine qc (zlj h2) fun h3 h4=>?_;refine qc (zS h3) fun h3 h5=>qc (zS h3) fun h3 h6=>?_;exact⟨np,pos,by rw[e1,zaf h3,zaf h6,G4 h4,G8 h5]⟩
theorem zc4(G:Gd X ct.K)(E:EK env ct.names)(H:zbw X env ct.nm go){target iter:Expr}:zcH X env ct.nm target iter (zke go ct target iter):=by
 unfold zke;cases hc:ziU iter with
 | none=>exact zgH (H iter).1
 | some e=>
  refine jc (zkY hc) fun fp pos e1=>?_;subst e1;refine zQ noI fun h=>?_;obtain⟨h,h5⟩:=zS h;obtain⟨h1,h4⟩:=zS h;obtain⟨b1,b2⟩:=zcK h1;cases target with
  | Tuple elts x1 tp=>exact zie G.ok E.eo (E.glob b1).1 (G.none b2) (G.some b2) h4 (H e).1
  | _=>exact nob h5
theorem ziJ(H:zbw X env nm go){ifs:List Expr}(h:zqj ifs=true):zfK X env nm ifs (zsx go ifs):=by
 cases ifs with
 | nil=>trivial
 | cons e r=>cases r with
  | nil=>exact(H e).2
  | cons e2 r=>cases h
def zgU(K:Frag)(ex:List (Addr×List Addr)):Prop:=∀p∈ex,ExcIs K p.1 p.2
def zqc(X:Cx)(go:CT->Go)(K:Frag)(ex:List (Addr×List Addr)):Prop:=∀ct env,ct.K=K->ct.ex=ex->EK env ct.names->zbw X env ct.nm (go ct)
theorem zc3{go:CT->Go}(G:Gd X ct.K)(E:EK env ct.names)(H:zqc X go ct.K ct.ex){r:Bool}{elt:Expr}{gens:List Comprehension}{scope:Scope}{S:AE->Prop}(hz:S A.no)
  (h:∀target iter ifs k t c e mi,gens=[⟨target,iter,ifs,0⟩]->SoundLC X env ct.nm (kI ct.nm) elt target iter ifs scope (ct.inn scope.names).nm k t c e mi->S (A.lc r mi t k c e)):S (zmH go ct r elt gens scope):=by
 cases gens with
 | nil=>exact hz
 | cons g gs=>
  refine zQ hz fun h1=>qk hz fun t i2=>?_;obtain⟨hgs,h2⟩:=zS h1;obtain⟨h3,hifs⟩:=zS h2;obtain⟨h4,hns⟩:=zS h3;obtain⟨h5,hk⟩:=zS h4;obtain⟨ha,hcb⟩:=zS h5;clear h1 h2 h3 h4 h5;have hgs:=zaf hgs;subst hgs;obtain⟨tg,it,ifs,asy⟩:=g;have hasy:asy=0:=G8 ha;subst hasy;have hkf:scope.kind = .function:=G8 hk;have E':=fun C=>E.comp hcb hkf C;have H':=fun C=>H (ct.inn scope.names) _ rfl rfl (E' C);refine h tg it ifs _ t _ _ _ rfl ⟨hns,by rw[E.nm];exact ze9 hcb,hkf,zc4 G E (H ct env rfl rfl E),fun C=>?_,fun C=>ziJ (H' C) hifs,fun C=>(H' C _).1⟩;exact zdG (E' C).eo (fun b hb=>.inl hb) (fun x hx=>Or.inl ⟨(E' C).loc hx,fun b hb=>hb⟩) i2
theorem zd7{J β:Type}[BEq J][LawfulBEq J]{l:List (J×β)}{a:J}{b:β}(h:l.lookup a=some b):(a,b)∈l:=by
 induction l with
 | nil=>cases h
 | cons p r ih=>
  rw[pB] at h;split at h
  .rename_i e;obtain rfl:=G4 h;rw[G8 e];exact fB
  .exact fA _ (ih h)
theorem ziK(G:Gd X ct.K)(HX:zgU ct.K ct.ex)(E:EK env ct.names)(H:zbw X env ct.nm go){es:List Expr}{gp pos:Pos}:zh X env ct.nm (.Call (.Name "isinstance" gp) es [] pos) (zsy go ct es):=by
 cases es with
 | nil=>exact noE
 | cons e es=>cases es with
  | nil=>exact noE
  | cons c es=>
   refine zQ noE fun h=>qk noE fun T hT=>?_;obtain⟨h2,he⟩:=zS h;obtain⟨h1,hs⟩:=zS h2;clear h h2;have he:=zaf he;subst he;obtain⟨tp,rfl⟩:=zae hT;obtain⟨b1,b2⟩:=zcK h1;cases hp:pyTs.lookup T with
   | some t=>
    refine zQ noE fun h5=>?_;obtain⟨c1,c2⟩:=zcK h5;exact zl2 G.ok E.eo (E.glob b1).1 (G.none b2) (G.some b2) (E.glob c1).1 (E.glob c1).2 (G.none c2) (G.some c2) hs (H e).1
   | none=>exact noE
def PrimS.Ok(X:Cx)(p:PrimS):Prop:=jk X p.val p.prim/\((∃id,p.val = .builtin id)\/∃T,p.val = .type T)
theorem zn0{p:PrimS}(h:p∈prims):p.Ok X:=by
 unfold prims at h;simp only[fF,gB,or_false] at h
 rcases h with rfl|rfl|rfl|rfl|rfl|rfl|rfl|rfl|rfl
 .exact⟨zl3,.inl ⟨_,rfl⟩⟩
 .exact⟨zij,.inr ⟨_,rfl⟩⟩
 .exact⟨zil,.inr ⟨_,rfl⟩⟩
 .exact⟨zl6,.inl ⟨_,rfl⟩⟩
 .exact⟨zl7,.inl ⟨_,rfl⟩⟩
 .exact⟨zme,.inl ⟨_,rfl⟩⟩
 .exact⟨zgK,.inl ⟨_,rfl⟩⟩
 .exact⟨zjS,.inr ⟨_,rfl⟩⟩
 .exact⟨zlS,.inl ⟨_,rfl⟩⟩
def MethS.Ok(X:Cx)(p:MethS):Prop:=Slot "list" p.name p.id/\typeOf (.builtin p.id)=pure (.type "method_descriptor")/\qX X p.id p.meth
theorem znL{p:MethS}(h:p∈meths):p.Ok X:=by
 unfold meths at h;simp only[fF,gB,or_false] at h
 rcases h with rfl|rfl|rfl|rfl
 .exact⟨PySem.F.slot_list_append,PySem.F.type_list_append,zgI⟩
 .exact⟨PySem.F.slot_list_pop,PySem.F.type_list_pop,zmb⟩
 .exact⟨PySem.F.slot_list_clear,PySem.F.type_list_clear,zig⟩
 .exact⟨PySem.F.slot_list_remove,PySem.F.type_list_remove,zgJ⟩
theorem zmX{K:Frag}{f:Addr}(h:(zhi K f).isSome=true):∃fd o,K.lookup f=some o/\o.data = .func fd:=by
 obtain⟨fd,hfd⟩:=pW.mp h;obtain⟨o,ho,hd⟩:=zkl hfd;exact⟨fd,o,ho,hd⟩
theorem zfR(G:Gd X ct.K)(HX:zgU ct.K ct.ex)(E:EK env ct.names)(H:zbw X env ct.nm go){g:Str}{es:List Expr}{gp pos:Pos}:zh X env ct.nm (.Call (.Name g gp) es [] pos) (ziI X go ct g es pos):=by
 unfold ziI;cases hi:(g==("isinstance" : Str)) with
 | true=>
  have:=G8 hi;subst this;exact ziK G HX E H
 | false=>
  refine zQ noE fun hs=>?_;have hm:=zds H hs;cases hp:prims.find? (fun p=>p.name==g) with
  | some p=>
   refine zQ noE fun h1=>?_;obtain⟨b1,b2⟩:=zcK h1;obtain⟨o1,o2⟩:=zn0 (X:=X) (fCT hp);exact zjV G.ok E.eo (E.glob b1).1 (E.glob b1).2 (G.none b2) (G.some b2) o2 o1 hm
  | none=>
   refine zQ noE fun h1=>qk noE fun f h3=>?_;have hg:=zah h3;cases hf:(zhi ct.K f).isSome with
   | true=>
    obtain⟨fd,o,ho,hd⟩:=zmX hf;exact zjP G.ok E.eo (E.glob h1).1 (E.glob h1).2 (mg_of G.inn G.ok.g hg) (G.inn _ _ ho) hd hm
   | false=>exact zQ noE fun k1=>qk noE fun fI k4=>zQ noE fun k6=>ztg G E hg h1 (zS k1).1 (zS k1).2 (zah k4) (G8 k6) hm
theorem zfT(G:Gd X ct.K)(E:EK env ct.names)(H:zbw X env ct.nm go){g:Str}{es:List Expr}{kw:Keyword}{gp pos:Pos}:zh X env ct.nm (.Call (.Name g gp) es [kw] pos) (zmM X go ct g es kw pos):=by
 cases es with
 | nil=>exact noE
 | cons e es=>
  obtain⟨ka,kv,kp⟩:=kw;refine zQ noE fun h1=>qk noE fun k hk=>?_;obtain⟨h1,he⟩:=zS h1;obtain⟨h1,hs⟩:=zS h1;obtain⟨h1,hb⟩:=zS h1;obtain⟨h1,hk'⟩:=zS h1;have:=G8 h1;subst this;have:ka=some "key":=G8 hk';subst this;have:=zaf he;subst this;obtain⟨lp,hkv⟩:=zae hk;have hkv:kv = .Name k lp:=hkv;subst hkv;obtain⟨b1,b2⟩:=zcK hb;cases hl:(k==("len" : Str)) with
  | true=>
   have:=G8 hl;subst this;refine zQ noE fun h6=>?_;obtain⟨c1,c2⟩:=zcK h6;exact zmi G E b2 c2 b1 c1 hs (H e).1
  | false=>
   refine zQ noE fun h6=>qk noE fun f h8=>zQ noE fun hf=>?_;obtain⟨fd,o,ho,hd⟩:=zmX hf;exact zpN G E b2 b1 (zah h8) ho hd h6 hs (H e).1
theorem zgZ(G:Gd X ct.K)(E:EK env ct.names)(H:zbw X env ct.nm go){o:Expr}{name:Str}{es:List Expr}{apos pos:Pos}:zh X env ct.nm (.Call (.Attribute o name apos) es [] pos) (zqi X go ct o name apos es pos):=by
 refine zQ noE fun h1=>?_;obtain⟨h1,hs⟩:=zS h1;obtain⟨h1,hn⟩:=zS h1;obtain⟨h1,hl⟩:=zS h1;have hm:=zds H hs;cases hp:meths.find? (fun m=>m.name==name) with
 | some p=>
  obtain⟨o1,o2,o3⟩:=znL (X:=X) (fCT hp);have hnm:=List.find?_some hp;have hnm:p.name=name:=G8 hnm;subst hnm;exact zjT o1 o2 o3 (fun e=>zbH h1 _ _ _) hl hn (H o).1 hm
 | none=>
  refine zQ noE fun h7=>qk noE fun f h9=>zQ noE fun hf=>?_;obtain⟨fd,ob,ho,hd⟩:=zmX (zS hf).2;exact zpL G h7 (zah h9) (zS hf).1 ho hd (fun e=>zbH h1 _ _ _) hl hn (H o).1 hm
theorem zgW(G:Gd X ct.K)(H:zbw X env ct.nm go){o:Expr}{name:Str}{pos:Pos}:zh X env ct.nm (.Attribute o name pos) (zqg go ct o name):=by
 refine zQ noE fun h1=>qk noE fun n h6=>?_;obtain⟨h1,h3⟩:=zS h1;obtain⟨h1,h4⟩:=zS h1;obtain⟨h1,h5⟩:=zS h1;exact zrF G (jv h6).1 (jv h6).2 h5 h4 (zcZ h3) (fun e=>zbH h1 _ _ _) (H o).1
theorem zgX(G:Gd X ct.K)(HX:zgU ct.K ct.ex)(E:EK env ct.names)(H:zbw X env ct.nm go){f:Expr}{es:List Expr}{kws:List Keyword}{pos:Pos}:zh X env ct.nm (.Call f es kws pos) (zqh X go ct f es kws pos):=by
 cases f with
 | Name g gp=>cases kws with
  | nil=>exact zfR G HX E H
  | cons kw r=>exact zQ noE fun h=>by have:=zaf h;subst this;exact zfT G E H
 | Attribute o name apos=>exact zQ noE fun h=>by have:=zaf h;subst this;exact zgZ G E H
 | _=>exact noE
theorem zdF{K:Frag}{ex:List (Addr×List Addr)}(G:Gd X K)(HX:zgU K ex)(n:Nat):zqc X (cE X n) K ex:=by
 induction n with
 | zero=>intro ct env hK hex E e;exact⟨noE,noB⟩
 | succ n ih=>
  intro ct env hK hex E e;subst hK hex;have H:=ih ct env rfl rfl E;cases e with
  | Name x p=>exact kC (fun _=>rfl) (zg0 G E)
  | Constant c k p=>exact kC (fun _=>rfl) zfS
  | BinOp a o b p=>exact kC (fun _=>rfl) (zlU (H a).1 (H b).1)
  | UnaryOp o a p=>cases o with
   | USub=>exact kC (fun _=>rfl) (zl8 (H a).1)
   | Not=>exact⟨zma (H a).1,zjM (H a).2⟩
   | _=>exact⟨noE,noB⟩
  | BoolOp o es p=>cases o with
   | And=>exact⟨zlT (zf0 H es),zjK (zf0 H es)⟩
   | Or=>exact⟨zom (zf0 H es),zlR (zf0 H es)⟩
  | Compare a ops es p=>exact⟨zQ noE fun h=>zlV (H a).1 (znW H h),zQ noB fun h=>zjL (H a).1 (znW H h)⟩
  | Tuple es k p=>exact kC (fun _=>rfl) (zQ noE fun h=>zmg (zds H h))
  | List es p=>exact kC (fun _=>rfl) (zQ noE fun h=>zl5 (zds H h))
  | Subscript a i p=>exact kC (fun _=>rfl) (ziM H (H a).1)
  | ListComp elt gens scope p=>exact kC (fun _=>rfl) (zc3 G E ih noE fun target iter ifs k t c e mi hg S=>by subst hg;exact zeH E.eo rfl S)
  | Attribute o name p=>exact kC (fun _=>rfl) (zgW G H)
  | Dict ks vs p=>exact kC (fun _=>rfl) (zgY G.ok H)
  | Call f es kws p=>exact kC (fun _=>rfl) (zgX G HX E H)
  | _=>exact⟨noE,noB⟩
theorem noS{s:Stmt}:jl X env nm s A.wI:=zih
theorem ziL{K:Frag}(G:Gd X K)(hK:ct.K=K)(HX:zgU K ct.ex)(E:EK env ct.names){n:Nat}{t v:Expr}{pos:Pos}:jl X env ct.nm (.Assign [t] v pos) (zsz X n ct t v):=by
 subst hK;have H:=zdF G HX n ct env rfl rfl E;cases t with
 | Name x p=>
  refine zQ noS fun h1=>qk noS fun i h3=>?_;have other:jl X env ct.nm (.Assign [.Name x p] v pos) (ck A.wI (zdw v) (A.set i (cE X n ct v))):=zQ noS fun h5=>zfF E.eo (H v).1 h3 (E.var h1) (zdl h5 _ _ _);cases v with
  | ListComp elt gens scope q=>exact zc3 (S:=fun m=>jl X env ct.nm (.Assign [.Name x p] (.ListComp elt gens scope q) pos) (A.set i m)) G E (zdF G HX n) (fun _ _ _ _ _ _ _ _ _ _ q=>q.elim) fun target iter ifs k t c e mi hg S=>by subst hg;exact ze0 E.eo rfl S h3 (E.var h1)
  | _=>exact other
 | Attribute o name p=>
  refine zQ noS fun h1=>qk noS fun k h6=>?_;obtain⟨h1,h3⟩:=zS h1;obtain⟨h1,h4⟩:=zS h1;obtain⟨h1,h5⟩:=zS h1;exact zpM G (jv h6).1 (jv h6).2 (G8 h1) h5 (zcZ h4) h3 (zjZ _ _ _ _ _ _) (H v).1 (H o).1
 | Subscript o i p=>exact zjR (H v).1 (H o).1 (H i).1 (zmh _ _ _ _ _ _)
 | _=>exact noS
theorem zqu{f:Stmt->AS}(H:∀s,jl X env nm s (f s))(ss:List Stmt):j6 X env nm ss (rSs f ss):=by
 induction ss with
 | nil=>exact zl9
 | cons s r ih=>exact zjQ (H s) ih
theorem zpA{a:Expr}(h:zgh (some a)=true):∃t k p,a = .Constant (.str t) k p:=by
 cases a with
 | Constant c k p=>cases c with
  | str t=>exact⟨t,k,p,rfl⟩
  | _=>exact nob h
 | _=>exact nob h
theorem zjB{e:Expr}{x:Str}(h:zkD e=some x):∃np t k cp cpos,e = .Call (.Name x np) [.Constant (.str t) k cp] [] cpos:=by
 refine zb (zbX h) fun p h1 h2=>jc (ze8 h1) fun np pos e1=>?_;obtain⟨y,es,kws⟩:=p;cases es with
 | nil=>exact nos h2
 | cons a r=>
  refine qc (zlj h2) fun h3 h4=>?_;refine qc (zS h3) fun h3 h5=>qc (zS h3) fun h3 h6=>?_;refine qO (zpA h3) fun t k cp e2=>?_;exact⟨np,t,k,cp,pos,by rw[e1,e2,zaf h6,zaf h5,G4 h4]⟩
theorem zjC{e c:Option Expr}{x:Str}(h:zkE e c=some x):∃np t k cp cpos,e=some (.Call (.Name x np) [.Constant (.str t) k cp] [] cpos)/\c=none:=by
 cases c with
 | none=>
  refine zb (zbX h) fun e' h1 h2=>zb3 (zjB h2) fun np t k cp cpos h3=>?_;exact⟨np,t,k,cp,cpos,h1.trans (congrArg some h3),rfl⟩
 | some _=>exact nos h
theorem zle{hs:List ExceptHandler}{q:Str×Option Str×Stmt×List Stmt}(h:znb hs=some q):∃tp pos,hs=[.ExceptHandler (some (.Name q.1 tp)) q.2.1 (q.2.2.1::q.2.2.2) pos]:=by
 cases hs with
 | nil=>exact nos h
 | cons x r=>
  obtain⟨t,name,body,pos⟩:=x;refine qc (zlj h) fun h1 h2=>zb (zbX h2) fun t' e1 h3=>zb (zbX h3) fun T h4 h5=>?_;cases body with
  | nil=>exact nos h5
  | cons b0 bs=>
   have e0:=G4 h5;refine jU (zae h4) fun tp e2=>?_;exact⟨tp,pos,by rw[<-e0,e1,e2,zaf h1]⟩
theorem zmL{K:Frag}{ex:List (Addr×List Addr)}(G:Gd X K)(HX:zgU K ex)(n:Nat):∀ct env,ct.K=K->ct.ex=ex->EK env ct.names->X.top=some env->∀s,jl X env ct.nm s (cS X n ct s):=by
 induction n with
 | zero=>intro ct env hK hex E ht s;exact noS
 | succ n ih=>
  intro ct env hK hex E ht s;have HS:=zqu (ih ct env hK hex E ht);have H:=zdF G HX n ct env hK hex E;subst hK hex;cases s with
  | Return v p=>cases v with
   | none=>exact zjW
   | some e=>exact zmc (H e).1
  | Assign ts v p=>cases ts with
   | nil=>exact noS
   | cons t r=>exact zQ noS fun h=>by have:=zaf h;subst this;exact ziL G rfl HX E
  | Expr e p=>exact zQ noS fun h=>zok E.eo (H e).1 (zdl h _ _ _)
  | If t a b p=>exact zol (H t).2 (HS a) (HS b)
  | While t a b p=>exact zQ noS fun h=>by have:=zaf h;subst this;exact zim (H t).2 (HS a)
  | For tg it a b p=>
   refine zQ noS fun h=>qk noS fun t ht=>?_;have:=zaf (zS h).1;subst this;exact zlZ (zS h).2 (zc4 G E H) (zdG E.eo (fun b hb=>hb) (fun y hy=>E.stoF hy) ht) (HS a)
  | Raise e c p=>
   refine qk noS fun x h=>?_;obtain⟨np,t,k,cp,cpos,rfl,rfl⟩:=zjC h;refine zQ noS fun h1=>qk noS fun C h3=>zQ noS fun h5=>?_;obtain⟨tl,h7⟩:=pW.mp h5;exact zii G.ok E.eo (E.glob h1).1 (E.glob h1).2 (mg_of G.inn G.ok.g (zah h3)) (zf4 G.inn (HX _ (zd7 h7)).b)
  | Try body hs orelse fin p=>
   refine qk noS fun q hq0=>?_;obtain⟨T,name,b0,bs⟩:=q;refine jc (zle hq0) fun tp hpos ehs=>?_;subst ehs
   .clear hq0;refine zQ noS fun h=>?_;have e1:=zaf (zS h).1;have e2:=zaf (zS h).2;subst e1 e2;refine zQ noS fun g1=>qk noS fun C' h9=>zQ noS fun h11=>qk noS fun i h13=>?_;obtain⟨tl',h14⟩:=pW.mp h11;refine zmf G.ok E.eo ht (E.glob g1).1 (E.glob g1).2 (mg_of G.inn G.ok.g (zah h9)) (zf4 G.inn (HX _ (zd7 h14)).b) (fun c hc=>?_) ?_ (HS body) (HS (b0::bs))
    .obtain⟨q,hq,rfl⟩:=fO.mp hc;obtain⟨q1,q2⟩:=fP.mp hq;exact⟨q.2,zf4 G.inn (HX _ q1).b,q2⟩
    .cases name with
     | none=>cases h13;trivial
     | some nn=>exact nos h13
  | _=>exact noS
theorem zaU{o:Option FuncData}{p:Str}(h:∀a0,o.map (fun fd=>bindArgs fd ⟨[a0],[]⟩)=some (pure [(p,a0)]))(vs:List Value)(hl:vs.length=[p].length):o.map (fun fd=>bindArgs fd ⟨vs,[]⟩)=some (pure ([p].zip vs)):=by
 refine jx (zeU hl) fun a0 v0 e179_2 h0=>?_;subst e179_2;have e:=gS.mp h0;subst e;exact h a0
theorem jT{o:Option FuncData}{p q:Str}(h:∀a0 a1,o.map (fun fd=>bindArgs fd ⟨[a0,a1],[]⟩)=some (pure [(p,a0),(q,a1)]))(vs:List Value)(hl:vs.length=[p,q].length):o.map (fun fd=>bindArgs fd ⟨vs,[]⟩)=some (pure ([p,q].zip vs)):=by
 refine jx (zeU hl) fun a0 v0 e180_2 h0=>?_;subst e180_2;refine jx (zeU h0) fun a1 v1 e181_2 h1=>?_;subst e181_2;have e:=gS.mp h1;subst e;exact h a0 a1
theorem zdE{o:Option FuncData}{p q r:Str}(h:∀a0 a1 a2,o.map (fun fd=>bindArgs fd ⟨[a0,a1,a2],[]⟩)=some (pure [(p,a0),(q,a1),(r,a2)]))(vs:List Value)(hl:vs.length=[p,q,r].length):o.map (fun fd=>bindArgs fd ⟨vs,[]⟩)=some (pure ([p,q,r].zip vs)):=by
 refine jx (zeU hl) fun a0 v0 e182_2 h0=>?_;subst e182_2;refine jx (zeU h0) fun a1 v1 e183_2 h1=>?_;subst e183_2;refine jx (zeU h1) fun a2 v2 e184_2 h2=>?_;subst e184_2;have e:=gS.mp h2;subst e;exact h a0 a1 a2
theorem zfP{o:Option FuncData}{p q r t:Str}(h:∀a0 a1 a2 a3,o.map (fun fd=>bindArgs fd ⟨[a0,a1,a2,a3],[]⟩)=some (pure [(p,a0),(q,a1),(r,a2),(t,a3)]))(vs:List Value)(hl:vs.length=[p,q,r,t].length):o.map (fun fd=>bindArgs fd ⟨vs,[]⟩)=some (pure ([p,q,r,t].zip vs)):=by
 refine jx (zeU hl) fun a0 v0 e185_2 h0=>?_;subst e185_2;refine jx (zeU h0) fun a1 v1 e186_2 h1=>?_;subst e186_2;refine jx (zeU h1) fun a2 v2 e187_2 h2=>?_;subst e187_2;refine jx (zeU h2) fun a3 v3 e188_2 h3=>?_;subst e188_2;have e:=gS.mp h3;subst e;exact h a0 a1 a2 a3
def A.wK(Q:zm):jt:=fun fl _ U'=>Ends Q (zqs fl) U'
def A.kEz(Z:XP):SXP:=fun c _ U'=>Z c U'
theorem zX{K:Frag}{ex:List (Addr×List Addr)}{C f:Addr}{refs:List (Nat×Nat)}(ps:List Str)(nm:List (Str×Nat)){d:Dp}{m:Cx->AS}{args:List AV}{Q:zm}{Z:XP}{U:AHeap}(G:Gd X K)(HX:zgU K ex)(hc:∀X,cF X K C ex f refs ps nm=some (m X))
  (hbind:∀vs,vs.length=ps.length->(zhi K f).map (fun fd=>bindArgs fd ⟨vs,[]⟩)=some (pure (ps.zip vs)))(hd:d.n<600)(hlen:args.length=ps.length)
  (h:∀L,m (X.push L) ⟨d.n+1,d.hd⟩ (zhH args (kI nm)) (A.wK Q) (A.kEz Z) U):CallOk X f d args Q Z U:=by
 refine zb (zbX (hc X)) fun fd hfd h1=>?_;split at h1
 .rename_i body hbd
  obtain⟨h1,_⟩:=zlj h1;obtain⟨h1,i1⟩:=zS h1;obtain⟨h1,i2⟩:=zS h1;obtain⟨h1,i3⟩:=zS h1;obtain⟨h1,i4⟩:=zS h1;obtain⟨h1,i5⟩:=zS h1;obtain⟨h1,i6⟩:=zS h1;obtain⟨h1,i7⟩:=zS h1;refine zb (zkl hfd) fun o ho hod=>?_;refine zkZ (m:=fun L=>m (X.push L)) G.ok (scope:=fd.scope) ⟨o,fd,G.inn _ _ ho,hod,rfl,hbd,fBM.mp h1,G8 i7,G8 i6,codeRec_of G.inn i5,fun vs hv=>by have:=hbind vs hv;rw[hfd] at this;exact G4 this⟩ (zjt i4) (G8 i3) (zpn i2) (zpn i1) (fun env EO es=>?_) hd hlen h;refine zb (zbX (hc (X.push env))) fun fd' hfd' h2=>?_;rw[hfd] at hfd';obtain rfl:=G4 hfd';rw[hbd] at h2;obtain⟨_,h2⟩:=zlj h2;rw[<-G4 h2];exact zqu (zmL (G.push _) HX 40 ⟨K,C,refs,fd.scope.names,nm,ex⟩ env rfl rfl ⟨EO,by rw[es]⟩ rfl) body
 .exact absurd (Eq.symm h1) (fJ _)
end
inductive Flat:Nat->AV->Prop
 | none {k:Nat}:Flat k .none
 | int {k:Nat} (i:Int):Flat k (.int i)
 | str {k n:Nat} (h:n<zal):Flat k (.str n)
 | tup {k:Nat} {xs:List AV}:(∀x∈xs,Flat k x)->Flat (k+1) (.tup xs)
 | lst {k:Nat} {xs:List AV}:(∀x∈xs,Flat k x)->Flat (k+1) (.lst xs)
section
variable{U:AHeap}
theorem zeu{k:Nat}{xs:List AV}(h:∀x∈xs,∃d,Rd U x d/\d.depth<=k):∃ds,RdL U xs ds/\PyData.depthAll ds<=k:=by
 induction xs with
 | nil=>exact⟨[],.nil,fW _⟩
 | cons x xs ih=>
  refine zb (h x fB) fun d h1 h2=>?_;refine zb (ih fun y hy=>h y (fA _ hy)) fun ds h3 h4=>?_;exact zc (d::ds) (.cons h1 h3) (by simp only[PyData.depthAll];exact Nat.max_le.mpr ⟨h2,h4⟩)
theorem Flat.rd{k:Nat}{x:AV}(h:Flat k x):∃d,Rd U x d/\d.depth<=k:=by
 induction h with
 | none=>exact⟨_,.none,by simp only[PyData.depth];exact fW _⟩
 | int i=>exact⟨_,.int i,by simp only[PyData.depth];exact fW _⟩
 | str h=>exact⟨_,.str _,by simp only[PyData.depth];exact fW _⟩
 | tup _ ih=>
  refine zb (zeu ih) fun ds h1 h2=>?_;exact⟨_,.tup h1,by simp only[PyData.depth];exact fAK h2⟩
 | lst _ ih=>
  refine zb (zeu ih) fun ds h1 h2=>?_;exact zc _ (.lst h1) (by simp only[PyData.depth];exact fAK h2)
theorem zkk{xs ys:List AV}{ds es:List PyData}(hx:RdL U xs ds)(hy:RdL U ys es)(h:∀x∈xs,∀y∈ys,∀d e,Rd U x d->Rd U y e->(PyData.eqv d e=true↔x=y)):PyData.eqvAll ds es=true↔xs=ys:=by
 induction xs generalizing ys ds es with
 | nil=>
  obtain rfl:=RdL.wG hx;cases hy with
  | nil=>simp only[PyData.eqvAll]
  | cons _ _=>simp only[PyData.eqvAll,gG,false_iff];exact fun e=>nomatch e
 | cons x xs ih=>
  refine zp (RdL.wE hx) fun _ _ e4_2 h1 h2=>?_;subst e4_2;cases hy with
  | nil=>simp only[PyData.eqvAll,gG,false_iff];exact fun e=>nomatch e
  | cons h3 h4=>
   simp only[PyData.eqvAll,gW,List.cons.injEq];exact and_congr (h _ fB _ fB _ _ h1 h3) (ih h2 h4 fun a ha b hb=>h a (fA _ ha) b (fA _ hb))
theorem zqA{i j:Int}(h:AV.int i = .int j):i=j:=by injection h
theorem zqC{i j:Nat}(h:AV.str i = .str j):i=j:=by injection h
theorem zqD{i j:List AV}(h:AV.tup i = .tup j):i=j:=by injection h
theorem zqB{i j:List AV}(h:AV.lst i = .lst j):i=j:=by injection h
theorem mis{P:Prop}(h:¬P):(false=true↔P):=⟨nob,fun p=>absurd p h⟩
theorem Flat.eqv{k:Nat}{x:AV}(h:Flat k x):∀{j:Nat} {y:AV},Flat j y->∀d e,Rd U x d->Rd U y e->(PyData.eqv d e=true↔x=y):=by
 induction h with
 | none=>
  intro j y hy d e hd he;obtain rfl:=Rd.wL hd;cases hy with
  | none=>
   obtain rfl:=Rd.wL he;exact⟨fun _=>rfl,fun _=>rfl⟩
  | int i'=>
   obtain rfl:=Rd.wC he;exact mis nofun
  | str h'=>
   obtain rfl:=Rd.wJ he;exact mis nofun
  | tup hy=>
   refine zb (Rd.wH he) fun _ e6 ry=>?_;subst e6;exact mis nofun
  | lst hy=>
   refine zb (Rd.wQ he) fun _ e6 ry=>?_;subst e6;exact mis nofun
 | int i=>
  intro j y hy d e hd he;obtain rfl:=Rd.wC hd;cases hy with
  | none=>
   obtain rfl:=Rd.wL he;exact mis nofun
  | int i'=>
   obtain rfl:=Rd.wC he;exact⟨fun e=>congrArg AV.int (G8 e),fun e=>beq_iff_eq.mpr (zqA e)⟩
  | str h'=>
   obtain rfl:=Rd.wJ he;exact mis nofun
  | tup hy=>
   refine zb (Rd.wH he) fun _ e6 ry=>?_;subst e6;exact mis nofun
  | lst hy=>
   refine zb (Rd.wQ he) fun _ e6 ry=>?_;subst e6;exact mis nofun
 | str h=>
  intro j y hy d e hd he;obtain rfl:=Rd.wJ hd;cases hy with
  | none=>
   obtain rfl:=Rd.wL he;exact mis nofun
  | int i'=>
   obtain rfl:=Rd.wC he;exact mis nofun
  | str h'=>
   obtain rfl:=Rd.wJ he;exact⟨fun e=>congrArg AV.str (zam h h' (G8 e)),fun e=>by obtain rfl:=zqC e;exact BEq.rfl⟩
  | tup hy=>
   refine zb (Rd.wH he) fun _ e6 ry=>?_;subst e6;exact mis nofun
  | lst hy=>
   refine zb (Rd.wQ he) fun _ e6 ry=>?_;subst e6;exact mis nofun
 | tup _ ih=>
  intro j y hy d e hd he;refine zb (Rd.wH hd) fun _ e5 rx=>?_;subst e5;cases hy with
  | none=>
   obtain rfl:=Rd.wL he;exact mis nofun
  | int i'=>
   obtain rfl:=Rd.wC he;exact mis nofun
  | str h'=>
   obtain rfl:=Rd.wJ he;exact mis nofun
  | tup hy=>
   refine zb (Rd.wH he) fun _ e6 ry=>?_;subst e6;exact Iff.trans (zkk rx ry fun a ha b hb=>ih a ha (hy b hb)) ⟨congrArg AV.tup,zqD⟩
  | lst hy=>
   refine zb (Rd.wQ he) fun _ e6 ry=>?_;subst e6;exact mis nofun
 | lst _ ih=>
  intro j y hy d e hd he;refine zb (Rd.wQ hd) fun _ e5 rx=>?_;subst e5;cases hy with
  | none=>
   obtain rfl:=Rd.wL he;exact mis nofun
  | int i'=>
   obtain rfl:=Rd.wC he;exact mis nofun
  | str h'=>
   obtain rfl:=Rd.wJ he;exact mis nofun
  | tup hy=>
   refine zb (Rd.wH he) fun _ e6 ry=>?_;subst e6;exact mis nofun
  | lst hy=>
   refine zb (Rd.wQ he) fun _ e6 ry=>?_;subst e6;exact Iff.trans (zkk rx ry fun a ha b hb=>ih a ha (hy b hb)) ⟨congrArg AV.lst,zqB⟩
theorem zhf{k j:Nat}{x y:AV}{Q:Bool->AHeap->Prop}(hx:Flat k x)(hy:Flat j y)(hk:k<=100)(h1:x=y->Q true U)(h2:x≠y->Q false U):eqG x y Q U:=by
 refine zb (hx.rd (U:=U)) fun d r1 l1=>?_;refine zb (hy.rd (U:=U)) fun e r2 l2=>?_;have:=hx.eqv hy d e r1 r2;unfold eqG;refine zr d e r1 r2 (fN l1 hk) ?_;cases hb:PyData.eqv d e with
 | true=>exact h1 (this.mp hb)
 | false=>exact h2 fun q=>by rw[this.mpr q] at hb;cases hb
theorem zmz{k:Nat}{x:AV}{d:PyData}{xs:List AV}{ds:List PyData}(hx:Flat k x)(hd:Rd U x d)(h:∀y∈xs,Flat k y)(r:RdL U xs ds):(ds.any fun y=>PyData.eqv y d)=true↔x∈xs:=by
 induction xs generalizing ds with
 | nil=>obtain rfl:=RdL.wG r;simp
 | cons y ys ih=>
  refine zp (RdL.wE r) fun _ _ e11_2 r1 r2=>?_;subst e11_2;rw[List.any_cons,fDC,ih (fun z hz=>h z (fA _ hz)) r2,(h y fB).eqv hx _ _ r1 hd,fF];exact or_congr ⟨Eq.symm,Eq.symm⟩ Iff.rfl
theorem zhr{k:Nat}{x c:AV}{xs:List AV}{Q:Bool->AHeap->Prop}(hc:c = .lst xs\/c = .tup xs)(hx:Flat k x)(h:∀y∈xs,Flat k y)(hk:k<=100)(h1:x∈xs->Q true U)(h2:x∉xs->Q false U):inG x c Q U:=by
 refine zb (hx.rd (U:=U)) fun d r1 l1=>?_;refine zb (zeu (U:=U) fun y hy=>(h y hy).rd) fun ds r2 l2=>?_;have:=zmz hx r1 h r2;unfold inG;refine zr ds d ?_ r1 (fN l2 hk) ?_
 .rcases hc with rfl|rfl
  .exact .inl (.lst r2)
  .exact .inr (.tup r2)
 cases hb:(ds.any fun y=>PyData.eqv y d) with
 | true=>exact h1 (this.mp hb)
 | false=>exact h2 fun q=>by rw[this.mpr q] at hb;cases hb
theorem zhs{k:Nat}{x:AV}{p:Addr}{xs:List AV}{Q:Bool->AHeap->Prop}(hp:U p=some (.list xs))(hx:Flat k x)(h:∀y∈xs,Flat k y)(hk:k<=100)(h1:x∈xs->Q true U)(h2:x∉xs->Q false U):inR x p Q U:=by
 refine zb (hx.rd (U:=U)) fun d r1 l1=>?_;refine zb (zeu (U:=U) fun y hy=>(h y hy).rd) fun ds r2 l2=>?_;have:=zmz hx r1 h r2;unfold inR inG;refine .inr (.inr (zr ds d (.inl (.list hp r2)) r1 (fN l2 hk) ?_));cases hb:(ds.any fun y=>PyData.eqv y d) with
 | true=>exact h1 (this.mp hb)
 | false=>exact h2 fun q=>by rw[this.mpr q] at hb;cases hb
theorem zo0{row:List zd}{p:Addr}{kvs:Tab}{Q:Bool->AHeap->Prop}(hp:U p=some (.tdict kvs))(q:Q (Tab.at kvs row).isSome U):inR (zA row) p Q U:=by
 unfold inR;exact .inl (zP kvs row hp rfl q)
theorem Ends.same{Q:zm}{v:AV}(q:Q v U):Ends Q v U:=by
 unfold Ends;exact kr (fun _=>none) U v ⟨fun _ _ h=>(by cases h),fun _ _ h=>h⟩ (.same v) q
theorem Ends.drop{Q:zm}{v:AV}{U':AHeap}(h:∀a o,U' a=some o->U a=some o)(q:Q v U'):Ends Q v U:=by
 unfold Ends;exact kr (fun _=>none) U' v ⟨fun _ _ h=>(by cases h),h⟩ (.same v) q
theorem Ends.one{Q:zm}{p:Addr}{xs:List AV}{U':AHeap}(h:∀a o,U' a=some o->U a=some o)(hp:U p=some (.list xs))(hp':U' p=none)(q:Q (.lst xs) U'):Ends Q (.ref p) U:=by
 have same:∀φ (l:List AV),FzL φ l l:=fun φ l=>by
  induction l with
  | nil=>exact .nil
  | cons x l ih=>exact .cons (.same x) ih
 unfold Ends;refine kr (fun a=>if a=p then some xs else none) U' (.lst xs) ⟨fun a ys h1=>?_,h⟩ (.lst (if_pos rfl)) q;split at h1
 .rename_i e;subst e;obtain rfl:=G4 h1;exact zax hp' xs hp (same _ _)
 .exact absurd (Eq.symm h1) (fJ _)
end
section
variable{I:AHeap->Prop}{t:Tgt}{d:Dp}{U:AHeap}{l:Loc}
theorem zcN{J β:Type}{body:AS}{S:jt}{g:J->AV}(Ja:List J->β->Loc->AHeap->Prop)(f:β->J->β)
  (step:∀x xs b l U (K:Loc->AHeap->Prop),Ja (x::xs) b l U->(∀l' U',Ja xs (f b x) l' U'->K l' U')->
   ∃l',k9 t (g x) l=some l'/\body d l' (A.vC I K S) A.noX U)
  {xs:List J}{b:β}(fin:∀l U,Ja [] (xs.foldl f b) l U->S .next l U)(h:Ja xs b l U):zhm I t body d S (xs.map g) l U:=by
 induction xs generalizing l U b with
 | nil=>exact fin l U h
 | cons x xs ih=>exact step x xs b l U _ h fun l' U'=>ih (b:=f b x) fin
theorem zC{J β:Type}{body:AS}{S:jt}{g:J->AV}(Ja:List J->β->Loc->AHeap->Prop)(f:β->J->β)
  (step:∀x xs b l U (K:Loc->AHeap->Prop) (S:jt),Ja (x::xs) b l U->(∀l' U',Ja xs (f b x) l' U'->K l' U')->
   ∃l',k9 t (g x) l=some l'/\body d l' (A.vC I K S) A.noX U)
  {xs:List J}{b:β}(fin:∀l U,Ja [] (xs.foldl f b) l U->S .next l U)(h:Ja xs b l U):zhm I t body d S (xs.map g) l U:=by
 induction xs generalizing l U b with
 | nil=>exact fin l U h
 | cons x xs ih=>exact step x xs b l U _ _ h fun l' U'=>ih (b:=f b x) fin
theorem zk3{J:Type}{c elt:AE}{Q:List AV->AHeap->Prop}(p:J->Bool)(g f:J->AV)(lx:J->Loc){xs:List J}{acc:List AV}(h0:∀x∈xs,k9 t (g x) l=some (lx x))(h1:∀x∈xs,∀y∈xs,k9 t (g x) (lx y)=some (lx x))
  (hc:∀x∈xs,∀R:Bool->AHeap->Prop,R (p x) U->c d (lx x) (isB R) (fun _ _=>False) U)
  (he:∀x∈xs,p x=true->∀R:zm,R (f x) U->elt d (lx x) R (fun _ _=>False) U)(hI:I U)(hl:acc.length+xs.length<=1000000)(q:Q (acc++(xs.filter p).map f) U):zaZ I t (some c) elt d Q (xs.map g) acc l U:=by
 induction xs generalizing acc l with
 | nil=>simpa [zaZ] using q
 | cons x xs ih=>
  simp only[fH] at hl;refine zc (lx x) (h0 x fB) ?_;refine hc x fB _ ?_;have go:=fun acc'=>ih (acc:=acc') (l:=lx x) (fun y hy=>h1 y (fA _ hy) x fB) (fun y hy z hz=>h1 y (fA _ hy) z (fA _ hz)) (fun y hy=>hc y (fA _ hy)) (fun y hy=>he y (fA _ hy));rw[fAL] at q;cases hp:p x with
  | true=>
   rw[if_pos hp] at q;refine he x fB hp _ (zq hI (ztD hl) (go _ (by rw[fE,fS];exact ztB hl) ?_));rw[gE];exact q
  | false=>
   rw[if_neg (by rw[hp];exact pL)] at q;exact⟨hI,go _ (ztC hl) q⟩
theorem zO{J:Type}{c elt:AE}{Q:List AV->AHeap->Prop}{xs:List J}{g:J->AV}(p:J->Bool)(f:J->AV){lx:J->Loc}(h0:∀x,k9 t (g x) l=some (lx x))(h1:∀x y,k9 t (g x) (lx y)=some (lx x))
  (hc:∀x∈xs,∀R:Bool->AHeap->Prop,R (p x) U->c d (lx x) (isB R) (fun _ _=>False) U)
  (he:∀x∈xs,p x=true->∀R:zm,R (f x) U->elt d (lx x) R (fun _ _=>False) U)(hI:I U)(hl:xs.length<=1000000)(q:Q ((xs.filter p).map f) U):zaZ I t (some c) elt d Q (xs.map g) [] l U:=
 zk3 p g f lx (fun x _=>h0 x) (fun x _ y _=>h1 x y) hc he hI (by rw[gJ,fBL];exact hl) q
theorem zmR{J:Type}{elt:AE}{Q:List AV->AHeap->Prop}(g f:J->AV)(lx:J->Loc){xs:List J}{acc:List AV}(h0:∀x∈xs,k9 t (g x) l=some (lx x))(h1:∀x∈xs,∀y∈xs,k9 t (g x) (lx y)=some (lx x))
  (he:∀x∈xs,∀R:zm,R (f x) U->elt d (lx x) R (fun _ _=>False) U)(hI:I U)(hl:acc.length+xs.length<=1000000)(q:Q (acc++xs.map f) U):zaZ I t none elt d Q (xs.map g) acc l U:=by
 induction xs generalizing acc l with
 | nil=>simpa [zaZ] using q
 | cons x xs ih=>
  simp only[fH] at hl;refine zc (lx x) (h0 x fB) (he x fB _ (zq hI (ztD hl) ?_));refine ih (fun y hy=>h1 y (fA _ hy) x fB) (fun y hy z hz=>h1 y (fA _ hy) z (fA _ hz)) (fun y hy=>he y (fA _ hy)) (by rw[fE,fS];exact ztB hl) ?_;rw[gE];exact q
theorem zN{J:Type}{elt:AE}{Q:List AV->AHeap->Prop}{xs:List J}{g:J->AV}(f:J->AV){lx:J->Loc}(h0:∀x,k9 t (g x) l=some (lx x))(h1:∀x y,k9 t (g x) (lx y)=some (lx x))
  (he:∀x∈xs,∀R:zm,R (f x) U->elt d (lx x) R (fun _ _=>False) U)(hI:I U)(hl:xs.length<=1000000)(q:Q (xs.map f) U):zaZ I t none elt d Q (xs.map g) [] l U:=
 zmR g f lx (fun x _=>h0 x) (fun x _ y _=>h1 x y) he hI (by rw[gJ,fBL];exact hl) q
end
theorem zko(lo:Int)(n:Nat):zhw lo n=(List.range n).map (fun i:Nat=>AV.int (lo+i)):=by
 induction n generalizing lo with
 | zero=>rfl
 | succ n ih=>
  rw[List.range_succ_eq_map,gF,fY];show AV.int lo::zhw (lo+1) n=_;rw[ih];refine congr (congrArg List.cons (by rw[Int.natCast_zero,fC6])) (pG fun i _=>?_)
  congr 1;exact y97
theorem zpu(n:Nat):zib 0 n=(List.range n).map (fun i:Nat=>AV.int i):=by
 unfold zib;rw[zko];have:((n:Int)-0).toNat=n:=zwK;rw[this];exact pG fun i _=>by rw[Int.zero_add]
theorem zlM{n:Nat}(hn:n<=1000000):zex 0 n=true:=by
 unfold zex;rw[fCQ,gA];exact⟨rfl,fAX (zrO hn)⟩
theorem zeo{n:Nat}{K:List AV->Prop}(hn:n<=1000000)(h:K ((List.range n).map fun i:Nat=>AV.int i)):onB (zex 0 n) (K (zib 0 n)):=qw (zlM hn) (by rw[zpu];exact h)
theorem atIdx_nat{J:Type}{xs:List J}{n:Nat}:jQ xs (n:Int)=xs[n]?:=by unfold jQ;rw[if_pos (fAW n),fCU]
section
open PySem.Spec
theorem zo3{U:AHeap}{h:Heap}{vs:List Value}{ns:List Int}(hi:IntsAre vs ns):RepVs U h (ns.map AV.int) vs:=by
 induction hi with
 | nil=>exact .nil
 | cons _ _ _ ih=>exact .cons (.int _ _) ih
theorem head_of{prog:Gn}{w:World}{s₁:Shared}{mg mb:Str->Option Value}{K:Frag}{c:ClaimW}{cl:Str->Option Addr}{mean:ExcName->Option Value}{args:List WData}{l fa:Addr}{vs:List Value}{ns:List Int}
  (G:Gd ⟨prog,w,s₁.heap,s₁.os,mg,mb,[],none⟩ K)(hl:s₁.heap.IsList l vs.toArray)(hi:IntsAre vs ns)(hlen:ns.length<=1000000)(hg:s₁.gens = #[])(hr:∀cls,c.raises args cls=false)(hpost:c.post args (.bool true) args=true)
  (hcall:∀(Q:zm) (Z:XP) (U:AHeap),(∀U',Q (.bool true) U')->CallOk ⟨prog,w,s₁.heap,s₁.os,mg,mb,[],none⟩ fa ⟨0,false⟩ [.lst (ns.map .int)] Q Z U) :
  Gp (model prog w) callerA (.call (.ref fa) ⟨[.ref l],[]⟩) (GoodW c cl mean args s₁) s₁:=by
 have a:At ⟨prog,w,s₁.heap,s₁.os,mg,mb,[],none⟩ (fun b=>if b=l then some (.frz (ns.map .int)) else none) s₁:=by
  refine⟨fun b o e=>e,fun b o e=>?_,fun b o e hro=>?_,hg,rfl,(fun L hL=>nomatch hL)⟩
  .split at e
   .rename_i hb;subst hb;obtain rfl:=G4 e;exact zv vs hl (zo3 hi) (by simpa using hlen)
   .exact absurd (Eq.symm e) (fJ _)
  .split at e
   .obtain rfl:=G4 e;cases hro
   .exact absurd (Eq.symm e) (fJ _)
 have L:Live ⟨prog,w,s₁.heap,s₁.os,mg,mb,[],none⟩ ⟨0,false⟩ callerA:=⟨by decide,by decide,fun _=>rfl,by decide,[],rfl,⟨(fun e he=>nomatch he),(fun L hL=>nomatch hL)⟩,(fun e he=>nomatch he)⟩
 have hc:=hcall (fun v _=>v = .bool true) (fun _ _=>False) (vis fun b=>if b=l then some (.frz (ns.map .int)) else none) fun _=>rfl;unfold CallOk at hc;refine Gk (hc callerA s₁ [.ref l] _ rfl L a (.cons (.lst (if_pos rfl)) .nil)) fun r s' x=>?_;cases r with
 | ok f=>
  cases f with
  | ret v=>
   refine zj x fun av U' rv a' st e0_5=>?_;subst e0_5;obtain rfl:=RepV.wN rv;exact zn (.inl (zM _ _ [] rfl hr (.bool true) hpost (fun _=>⟨.nil,fun _ h=>nomatch h⟩))) a'.keep a'.os a'.gens
  | next=>exact x.elim
  | brk=>exact x.elim
  | cont=>exact x.elim
 | error e=>exact noX x
end
section
set_option maxRecDepth 1000000
open PySem.Calls
noncomputable abbrev pw:Gn:=PySem.Challenge.pw_uf060002_09
noncomputable abbrev rw_:OpenLaw:=PySem.Challenge.rw_uf060002_09
noncomputable def st(i:Nat):Stmt:=pw.main.body.getD i (.Pass ⟨0,0,0,0⟩)
noncomputable def hK(P:Gq):Frag:=[(3,⟨.type "dict",none,.dict #[en P "__name__" 165 (.str "law_uf060002_09" 510),en P "__doc__" 166 (.none),en P "__package__" 167 (.none),en P "__loader__" 168 (.builtin "__main__.__loader__#opaque"),en P "__spec__" 169 (.none),en P "__annotations__" 170 (.ref 6),en P "__builtins__" 171 (.ref 4),en P "__file__" 173 (.str "/claim/cut.py" 172),en P "__cached__" 174 (.none),en P "MOST_DAY" 190 (.int 9999 189),en P "MOST_CENTS" 192 (.int 1000000000 191),en P "is_whole" 199 (.ref 21),en P "is_entry" 207 (.ref 28),en P "entry_of" 216 (.ref 35),en P "in_order" 222 (.ref 40),en P "groups" 235 (.ref 47),en P "TickError" 255 (.ref 57),en P "BadEntry" 271 (.ref 70),en P "BadSpan" 287 (.ref 82),en P "TooMany" 303 (.ref 94),en P "NoMatch" 319 (.ref 106),en P "MOST_BESIDE" 323 (.int 3 322),en P "is_rising" 332 (.ref 115),en P "marks_of" 338 (.ref 120),en P "fits" 344 (.ref 125),en P "rows_of" 350 (.ref 130),en P "by_size" 357 (.ref 137),en P "within" 363 (.ref 142),en P "without" 371 (.ref 147),en P "taken_out" 383 (.ref 154),en P "table" 389 (.ref 159),en P "picked" 395 (.ref 164),en P "MOST_SPAN" 399 (.int 30 398),en P "MOST_MARKS" 401 (.int 8 400),en P "Ledger" 509 (.ref 245),en P "_law_cell_at" 519 (.ref 256),en P "_law_groups" 525 (.ref 261),en P "_law_rows_of" 536 (.ref 268),en P "_law_able" 542 (.ref 273),en P "_law_most" 548 (.ref 278),en P "_law_without" 554 (.ref 283),en P "_law_deed" 560 (.ref 288),en P "_law_fewest" 566 (.ref 293),en P "law" 577 (.ref 300)] 44,#[]⟩),(20,⟨.type "code",none,.fields #[.str "is_whole" 193,.str "is_whole" 194,.str "/claim/cut.py" 195,.int 4 0,.int 1 0,.int 0 0,.int 0 0,.int 3 0,.ref 15,.bool Bool.true,.int 181 0,.ref 16,.none,.ref 17,.ref 18,.ref 19,.int 197 0,.int 4 0,.str "/claim/cut.py" 198],#[]⟩),(21,fnO (st 3) (.str "tickoff.entries" 187) (.ref 20)),(27,⟨.type "code",none,.fields #[.str "is_entry" 200,.str "is_entry" 201,.str "/claim/cut.py" 202,.int 6 0,.int 2 0,.int 0 0,.int 0 0,.int 3 0,.ref 22,.bool Bool.true,.int 181 0,.ref 23,.none,.ref 24,.ref 25,.ref 26,.int 205 0,.int 6 0,.str "/claim/cut.py" 206],#[]⟩),(28,fnO (st 4) (.str "tickoff.entries" 187) (.ref 27)),(34,⟨.type "code",none,.fields #[.str "entry_of" 208,.str "entry_of" 209,.str "/claim/cut.py" 210,.int 10 0,.int 3 0,.int 0 0,.int 0 0,.int 3 0,.ref 29,.bool Bool.true,.int 181 0,.ref 30,.none,.ref 31,.ref 32,.ref 33,.int 214 0,.int 10 0,.str "/claim/cut.py" 215],#[]⟩),(35,fnO (st 5) (.str "tickoff.entries" 187) (.ref 34)),(39,⟨.type "code",none,.fields #[.str "in_order" 217,.str "in_order" 218,.str "/claim/cut.py" 219,.int 14 0,.int 2 0,.int 0 0,.int 0 0,.int 3 0,.ref 36,.bool Bool.true,.int 181 0,.ref 37,.none,.none,.none,.ref 38,.int 220 0,.int 14 0,.str "/claim/cut.py" 221],#[]⟩),(40,fnO (st 6) (.str "tickoff.entries" 187) (.ref 39)),(46,⟨.type "code",none,.fields #[.str "groups" 223,.str "groups" 224,.str "/claim/cut.py" 225,.int 18 0,.int 3 0,.int 0 0,.int 0 0,.int 3 0,.ref 41,.bool Bool.true,.int 181 0,.ref 42,.none,.ref 43,.ref 44,.ref 45,.int 233 0,.int 18 0,.str "/claim/cut.py" 234],#[]⟩),(47,fnO (st 7) (.str "tickoff.entries" 187) (.ref 46)),(56,⟨.type "dict",none,.dict #[en P "__module__" 245 (.str "tickoff.errors" 236),en P "__firstlineno__" 249 (.int 29 248),en P "__static_attributes__" 250 (.ref 55),en P "__weakref__" 252 (.ref 58),en P "__doc__" 253 (.none)] 3,#[]⟩),(57,{ cls:=.type "type",data:=.cls       { name:="TickError",bases:=[.type "ValueError"],mro:=[.ref 57,.type "ValueError",.type "Exception",.type "BaseException",.type "object"],ns:=56,qualname:="TickError",subclasses:=[.ref 70,.ref 82,.ref 94,.ref 106] },slots:=#[Option.some (.ref 48),Option.none,Option.some (.str "TickError" 238),Option.some (.str "TickError" 246),Option.some (.builtin "ValueError.__new__"),Option.some (.bool Bool.true)] }),(69,⟨.type "dict",none,.dict #[en P "__module__" 263 (.str "tickoff.errors" 236),en P "__firstlineno__" 267 (.int 31 266),en P "__static_attributes__" 268 (.ref 68),en P "__doc__" 269 (.none)] 2,#[]⟩),(70,{ cls:=.type "type",data:=.cls       { name:="BadEntry",bases:=[.ref 57],mro:=[.ref 70,.ref 57,.type "ValueError",.type "Exception",.type "BaseException",.type "object"],ns:=69,qualname:="BadEntry" },slots:=#[Option.some (.ref 61),Option.none,Option.some (.str "BadEntry" 256),Option.some (.str "BadEntry" 264),Option.some (.builtin "ValueError.__new__"),Option.some (.bool Bool.true)] }),(81,⟨.type "dict",none,.dict #[en P "__module__" 279 (.str "tickoff.errors" 236),en P "__firstlineno__" 283 (.int 33 282),en P "__static_attributes__" 284 (.ref 80),en P "__doc__" 285 (.none)] 2,#[]⟩),(82,{ cls:=.type "type",data:=.cls       { name:="BadSpan",bases:=[.ref 57],mro:=[.ref 82,.ref 57,.type "ValueError",.type "Exception",.type "BaseException",.type "object"],ns:=81,qualname:="BadSpan" },slots:=#[Option.some (.ref 73),Option.none,Option.some (.str "BadSpan" 272),Option.some (.str "BadSpan" 280),Option.some (.builtin "ValueError.__new__"),Option.some (.bool Bool.true)] }),(93,⟨.type "dict",none,.dict #[en P "__module__" 295 (.str "tickoff.errors" 236),en P "__firstlineno__" 299 (.int 35 298),en P "__static_attributes__" 300 (.ref 92),en P "__doc__" 301 (.none)] 2,#[]⟩),(94,{ cls:=.type "type",data:=.cls       { name:="TooMany",bases:=[.ref 57],mro:=[.ref 94,.ref 57,.type "ValueError",.type "Exception",.type "BaseException",.type "object"],ns:=93,qualname:="TooMany" },slots:=#[Option.some (.ref 85),Option.none,Option.some (.str "TooMany" 288),Option.some (.str "TooMany" 296),Option.some (.builtin "ValueError.__new__"),Option.some (.bool Bool.true)] }),(105,⟨.type "dict",none,.dict #[en P "__module__" 311 (.str "tickoff.errors" 236),en P "__firstlineno__" 315 (.int 37 314),en P "__static_attributes__" 316 (.ref 104),en P "__doc__" 317 (.none)] 2,#[]⟩),(106,{ cls:=.type "type",data:=.cls       { name:="NoMatch",bases:=[.ref 57],mro:=[.ref 106,.ref 57,.type "ValueError",.type "Exception",.type "BaseException",.type "object"],ns:=105,qualname:="NoMatch" },slots:=#[Option.some (.ref 97),Option.none,Option.some (.str "NoMatch" 304),Option.some (.str "NoMatch" 312),Option.some (.builtin "ValueError.__new__"),Option.some (.bool Bool.true)] }),(114,⟨.type "code",none,.fields #[.str "is_rising" 324,.str "is_rising" 325,.str "/claim/cut.py" 326,.int 41 0,.int 2 0,.int 0 0,.int 0 0,.int 3 0,.ref 109,.bool Bool.true,.int 181 0,.ref 110,.none,.ref 111,.ref 112,.ref 113,.int 330 0,.int 41 0,.str "/claim/cut.py" 331],#[]⟩),(115,fnO (st 16) (.str "tickoff.matching" 320) (.ref 114)),(119,⟨.type "code",none,.fields #[.str "marks_of" 333,.str "marks_of" 334,.str "/claim/cut.py" 335,.int 48 0,.int 1 0,.int 0 0,.int 0 0,.int 3 0,.ref 116,.bool Bool.true,.int 181 0,.ref 117,.none,.none,.none,.ref 118,.int 336 0,.int 48 0,.str "/claim/cut.py" 337],#[]⟩),(120,fnO (st 17) (.str "tickoff.matching" 320) (.ref 119)),(124,⟨.type "code",none,.fields #[.str "fits" 339,.str "fits" 340,.str "/claim/cut.py" 341,.int 50 0,.int 4 0,.int 0 0,.int 0 0,.int 3 0,.ref 121,.bool Bool.true,.int 181 0,.ref 122,.none,.none,.none,.ref 123,.int 342 0,.int 50 0,.str "/claim/cut.py" 343],#[]⟩),(125,fnO (st 18) (.str "tickoff.matching" 320) (.ref 124)),(129,⟨.type "code",none,.fields #[.str "rows_of" 345,.str "rows_of" 346,.str "/claim/cut.py" 347,.int 61 0,.int 2 0,.int 0 0,.int 0 0,.int 3 0,.ref 126,.bool Bool.true,.int 181 0,.ref 127,.none,.none,.none,.ref 128,.int 348 0,.int 61 0,.str "/claim/cut.py" 349],#[]⟩),(130,fnO (st 19) (.str "tickoff.matching" 320) (.ref 129)),(136,⟨.type "code",none,.fields #[.str "by_size" 351,.str "by_size" 352,.str "/claim/cut.py" 353,.int 69 0,.int 1 0,.int 0 0,.int 0 0,.int 3 0,.ref 131,.bool Bool.true,.int 181 0,.ref 132,.none,.ref 133,.ref 134,.ref 135,.int 355 0,.int 69 0,.str "/claim/cut.py" 356],#[]⟩),(137,fnO (st 20) (.str "tickoff.matching" 320) (.ref 136)),(141,⟨.type "code",none,.fields #[.str "within" 358,.str "within" 359,.str "/claim/cut.py" 360,.int 71 0,.int 4 0,.int 0 0,.int 0 0,.int 3 0,.ref 138,.bool Bool.true,.int 181 0,.ref 139,.none,.none,.none,.ref 140,.int 361 0,.int 71 0,.str "/claim/cut.py" 362],#[]⟩),(142,fnO (st 21) (.str "tickoff.matching" 320) (.ref 141)),(146,⟨.type "code",none,.fields #[.str "without" 366,.str "without" 367,.str "/claim/cut.py" 368,.int 82 0,.int 2 0,.int 0 0,.int 0 0,.int 3 0,.ref 143,.bool Bool.true,.int 181 0,.ref 144,.none,.none,.none,.ref 145,.int 369 0,.int 82 0,.str "/claim/cut.py" 370],#[]⟩),(147,fnO (st 23) (.str "tickoff.picking" 364) (.ref 146)),(153,⟨.type "code",none,.fields #[.str "taken_out" 372,.str "taken_out" 373,.str "/claim/cut.py" 374,.int 87 0,.int 2 0,.int 0 0,.int 0 0,.int 3 0,.ref 148,.bool Bool.true,.int 181 0,.ref 149,.none,.ref 150,.ref 151,.ref 152,.int 381 0,.int 87 0,.str "/claim/cut.py" 382],#[]⟩),(154,fnO (st 24) (.str "tickoff.picking" 364) (.ref 153)),(158,⟨.type "code",none,.fields #[.str "table" 384,.str "table" 385,.str "/claim/cut.py" 386,.int 96 0,.int 2 0,.int 0 0,.int 0 0,.int 3 0,.ref 155,.bool Bool.true,.int 181 0,.ref 156,.none,.none,.none,.ref 157,.int 387 0,.int 96 0,.str "/claim/cut.py" 388],#[]⟩),(159,fnO (st 25) (.str "tickoff.picking" 364) (.ref 158)),(163,⟨.type "code",none,.fields #[.str "picked" 390,.str "picked" 391,.str "/claim/cut.py" 392,.int 118 0,.int 2 0,.int 0 0,.int 0 0,.int 3 0,.ref 160,.bool Bool.true,.int 181 0,.ref 161,.none,.none,.none,.ref 162,.int 393 0,.int 118 0,.str "/claim/cut.py" 394],#[]⟩),(164,fnO (st 26) (.str "tickoff.picking" 364) (.ref 163)),(177,⟨.type "code",none,.fields #[.str "__init__" 414,.str "Ledger.__init__" 415,.str "/claim/cut.py" 416,.int 135 0,.int 2 0,.int 0 0,.int 0 0,.int 3 0,.ref 172,.bool Bool.true,.int 181 0,.ref 173,.none,.ref 174,.ref 175,.ref 176,.int 419 0,.int 135 0,.str "/claim/cut.py" 420],#[]⟩),(178,fnQ (za5 (st 30) 0) "Ledger.__init__" (.str "tickoff.ledger" 396) (.ref 177)),(184,⟨.type "code",none,.fields #[.str "all_groups" 422,.str "Ledger.all_groups" 423,.str "/claim/cut.py" 424,.int 143 0,.int 1 0,.int 0 0,.int 0 0,.int 3 0,.ref 179,.bool Bool.true,.int 181 0,.ref 180,.none,.ref 181,.ref 182,.ref 183,.int 426 0,.int 143 0,.str "/claim/cut.py" 427],#[]⟩),(185,fnQ (za5 (st 30) 1) "Ledger.all_groups" (.str "tickoff.ledger" 396) (.ref 184)),(189,⟨.type "code",none,.fields #[.str "pick" 429,.str "Ledger.pick" 430,.str "/claim/cut.py" 431,.int 146 0,.int 2 0,.int 0 0,.int 0 0,.int 3 0,.ref 186,.bool Bool.true,.int 181 0,.ref 187,.none,.none,.none,.ref 188,.int 432 0,.int 146 0,.str "/claim/cut.py" 433],#[]⟩),(190,fnQ (za5 (st 30) 2) "Ledger.pick" (.str "tickoff.ledger" 396) (.ref 189)),(196,⟨.type "code",none,.fields #[.str "put" 435,.str "Ledger.put" 436,.str "/claim/cut.py" 437,.int 151 0,.int 4 0,.int 0 0,.int 0 0,.int 3 0,.ref 191,.bool Bool.true,.int 181 0,.ref 192,.none,.ref 193,.ref 194,.ref 195,.int 444 0,.int 151 0,.str "/claim/cut.py" 445],#[]⟩),(197,fnQ (za5 (st 30) 3) "Ledger.put" (.str "tickoff.ledger" 396) (.ref 196)),(203,⟨.type "code",none,.fields #[.str "entry" 447,.str "Ledger.entry" 448,.str "/claim/cut.py" 449,.int 163 0,.int 3 0,.int 0 0,.int 0 0,.int 3 0,.ref 198,.bool Bool.true,.int 181 0,.ref 199,.none,.ref 200,.ref 201,.ref 202,.int 453 0,.int 163 0,.str "/claim/cut.py" 454],#[]⟩),(204,fnQ (za5 (st 30) 4) "Ledger.entry" (.str "tickoff.ledger" 396) (.ref 203)),(210,⟨.type "code",none,.fields #[.str "matches" 456,.str "Ledger.matches" 457,.str "/claim/cut.py" 458,.int 166 0,.int 1 0,.int 0 0,.int 0 0,.int 3 0,.ref 205,.bool Bool.true,.int 181 0,.ref 206,.none,.ref 207,.ref 208,.ref 209,.int 460 0,.int 166 0,.str "/claim/cut.py" 461],#[]⟩),(211,fnQ (za5 (st 30) 5) "Ledger.matches" (.str "tickoff.ledger" 396) (.ref 210)),(217,⟨.type "code",none,.fields #[.str "barred" 463,.str "Ledger.barred" 464,.str "/claim/cut.py" 465,.int 169 0,.int 1 0,.int 0 0,.int 0 0,.int 3 0,.ref 212,.bool Bool.true,.int 181 0,.ref 213,.none,.ref 214,.ref 215,.ref 216,.int 467 0,.int 169 0,.str "/claim/cut.py" 468],#[]⟩),(218,fnQ (za5 (st 30) 6) "Ledger.barred" (.str "tickoff.ledger" 396) (.ref 217)),(222,⟨.type "code",none,.fields #[.str "left" 470,.str "Ledger.left" 471,.str "/claim/cut.py" 472,.int 172 0,.int 2 0,.int 0 0,.int 0 0,.int 3 0,.ref 219,.bool Bool.true,.int 181 0,.ref 220,.none,.none,.none,.ref 221,.int 473 0,.int 172 0,.str "/claim/cut.py" 474],#[]⟩),(223,fnQ (za5 (st 30) 7) "Ledger.left" (.str "tickoff.ledger" 396) (.ref 222)),(227,⟨.type "code",none,.fields #[.str "group_of" 476,.str "Ledger.group_of" 477,.str "/claim/cut.py" 478,.int 178 0,.int 3 0,.int 0 0,.int 0 0,.int 3 0,.ref 224,.bool Bool.true,.int 181 0,.ref 225,.none,.none,.none,.ref 226,.int 479 0,.int 178 0,.str "/claim/cut.py" 480],#[]⟩),(228,fnQ (za5 (st 30) 8) "Ledger.group_of" (.str "tickoff.ledger" 396) (.ref 227)),(234,⟨.type "code",none,.fields #[.str "take_back" 482,.str "Ledger.take_back" 483,.str "/claim/cut.py" 484,.int 181 0,.int 2 0,.int 0 0,.int 0 0,.int 3 0,.ref 229,.bool Bool.true,.int 181 0,.ref 230,.none,.ref 231,.ref 232,.ref 233,.int 487 0,.int 181 0,.str "/claim/cut.py" 488],#[]⟩),(235,fnQ (za5 (st 30) 9) "Ledger.take_back" (.str "tickoff.ledger" 396) (.ref 234)),(241,⟨.type "code",none,.fields #[.str "again" 490,.str "Ledger.again" 491,.str "/claim/cut.py" 492,.int 187 0,.int 1 0,.int 0 0,.int 0 0,.int 3 0,.ref 236,.bool Bool.true,.int 181 0,.ref 237,.none,.ref 238,.ref 239,.ref 240,.int 495 0,.int 187 0,.str "/claim/cut.py" 496],#[]⟩),(242,fnQ (za5 (st 30) 10) "Ledger.again" (.str "tickoff.ledger" 396) (.ref 241)),(244,⟨.type "dict",none,.dict #[en P "__module__" 409 (.str "tickoff.ledger" 396),en P "__firstlineno__" 413 (.int 133 412),en P "__init__" 421 (.ref 178),en P "all_groups" 428 (.ref 185),en P "pick" 434 (.ref 190),en P "put" 446 (.ref 197),en P "entry" 455 (.ref 204),en P "matches" 462 (.ref 211),en P "barred" 469 (.ref 218),en P "left" 475 (.ref 223),en P "group_of" 481 (.ref 228),en P "take_back" 489 (.ref 235),en P "again" 497 (.ref 242),en P "__static_attributes__" 502 (.ref 243),en P "__dict__" 504 (.ref 246),en P "__weakref__" 506 (.ref 247),en P "__doc__" 507 (.none)] 4,#[]⟩),(245,{ cls:=.type "type",data:=.cls       { name:="Ledger",bases:=[.type "object"],mro:=[.ref 245,.type "object"],ns:=244,qualname:="Ledger" },slots:=#[Option.none,Option.none,Option.some (.str "Ledger" 402),Option.some (.str "Ledger" 410),Option.some (.builtin "object.__new__"),Option.some (.bool Bool.true)] }),(255,⟨.type "code",none,.fields #[.str "_law_cell_at" 512,.str "_law_cell_at" 513,.str "/claim/cut.py" 514,.int 191 0,.int 2 0,.int 0 0,.int 0 0,.int 3 0,.ref 250,.bool Bool.true,.int 181 0,.ref 251,.none,.ref 252,.ref 253,.ref 254,.int 517 0,.int 191 0,.str "/claim/cut.py" 518],#[]⟩),(256,fnO (st 32) (.str "law_uf060002_09" 510) (.ref 255)),(260,⟨.type "code",none,.fields #[.str "_law_groups" 520,.str "_law_groups" 521,.str "/claim/cut.py" 522,.int 195 0,.int 2 0,.int 0 0,.int 0 0,.int 3 0,.ref 257,.bool Bool.true,.int 181 0,.ref 258,.none,.none,.none,.ref 259,.int 523 0,.int 195 0,.str "/claim/cut.py" 524],#[]⟩),(261,fnO (st 33) (.str "law_uf060002_09" 510) (.ref 260)),(267,⟨.type "code",none,.fields #[.str "_law_rows_of" 526,.str "_law_rows_of" 527,.str "/claim/cut.py" 528,.int 204 0,.int 1 0,.int 0 0,.int 0 0,.int 3 0,.ref 262,.bool Bool.true,.int 181 0,.ref 263,.none,.ref 264,.ref 265,.ref 266,.int 534 0,.int 204 0,.str "/claim/cut.py" 535],#[]⟩),(268,fnO (st 34) (.str "law_uf060002_09" 510) (.ref 267)),(272,⟨.type "code",none,.fields #[.str "_law_able" 537,.str "_law_able" 538,.str "/claim/cut.py" 539,.int 213 0,.int 3 0,.int 0 0,.int 0 0,.int 3 0,.ref 269,.bool Bool.true,.int 181 0,.ref 270,.none,.none,.none,.ref 271,.int 540 0,.int 213 0,.str "/claim/cut.py" 541],#[]⟩),(273,fnO (st 35) (.str "law_uf060002_09" 510) (.ref 272)),(277,⟨.type "code",none,.fields #[.str "_law_most" 543,.str "_law_most" 544,.str "/claim/cut.py" 545,.int 225 0,.int 2 0,.int 0 0,.int 0 0,.int 3 0,.ref 274,.bool Bool.true,.int 181 0,.ref 275,.none,.none,.none,.ref 276,.int 546 0,.int 225 0,.str "/claim/cut.py" 547],#[]⟩),(278,fnO (st 36) (.str "law_uf060002_09" 510) (.ref 277)),(282,⟨.type "code",none,.fields #[.str "_law_without" 549,.str "_law_without" 550,.str "/claim/cut.py" 551,.int 232 0,.int 2 0,.int 0 0,.int 0 0,.int 3 0,.ref 279,.bool Bool.true,.int 181 0,.ref 280,.none,.none,.none,.ref 281,.int 552 0,.int 232 0,.str "/claim/cut.py" 553],#[]⟩),(283,fnO (st 37) (.str "law_uf060002_09" 510) (.ref 282)),(287,⟨.type "code",none,.fields #[.str "_law_deed" 555,.str "_law_deed" 556,.str "/claim/cut.py" 557,.int 235 0,.int 4 0,.int 0 0,.int 0 0,.int 3 0,.ref 284,.bool Bool.true,.int 181 0,.ref 285,.none,.none,.none,.ref 286,.int 558 0,.int 235 0,.str "/claim/cut.py" 559],#[]⟩),(288,fnO (st 38) (.str "law_uf060002_09" 510) (.ref 287)),(292,⟨.type "code",none,.fields #[.str "_law_fewest" 561,.str "_law_fewest" 562,.str "/claim/cut.py" 563,.int 259 0,.int 3 0,.int 0 0,.int 0 0,.int 3 0,.ref 289,.bool Bool.true,.int 181 0,.ref 290,.none,.none,.none,.ref 291,.int 564 0,.int 259 0,.str "/claim/cut.py" 565],#[]⟩),(293,fnO (st 39) (.str "law_uf060002_09" 510) (.ref 292)),(299,⟨.type "code",none,.fields #[.str "law" 567,.str "law" 568,.str "/claim/cut.py" 569,.int 270 0,.int 1 0,.int 0 0,.int 0 0,.int 3 0,.ref 294,.bool Bool.true,.int 181 0,.ref 295,.none,.ref 296,.ref 297,.ref 298,.int 575 0,.int 270 0,.str "/claim/cut.py" 576],#[]⟩),(300,fnO (st 40) (.str "law_uf060002_09" 510) (.ref 299))]
noncomputable def hA:List Addr:=[3,20,21,27,28,34,35,39,40,46,47,56,57,69,70,81,82,93,94,105,106,114,115,119,120,124,125,129,130,136,137,141,142,146,147,153,154,158,159,163,164,177,178,184,185,189,190,196,197,203,204,210,211,217,218,222,223,227,228,234,235,241,242,244,245,255,256,260,261,267,268,272,273,277,278,282,283,287,288,292,293,299,300]
noncomputable def qv:Gn:={ pw with main:={ pw.main with body:=[st 40] } }
noncomputable def lsv:List Str:=[("MOST_DAY" : Str),("MOST_CENTS" : Str),("is_whole" : Str),("is_entry" : Str),("entry_of" : Str),("in_order" : Str),("groups" : Str),("TickError" : Str),("BadEntry" : Str),("BadSpan" : Str),("TooMany" : Str),("NoMatch" : Str),("MOST_BESIDE" : Str),("is_rising" : Str),("marks_of" : Str),("fits" : Str),("rows_of" : Str),("by_size" : Str),("within" : Str),("without" : Str),("taken_out" : Str),("table" : Str),("picked" : Str),("MOST_SPAN" : Str),("MOST_MARKS" : Str),("Ledger" : Str),("_law_cell_at" : Str),("_law_groups" : Str),("_law_rows_of" : Str),("_law_able" : Str),("_law_most" : Str),("_law_without" : Str),("_law_deed" : Str),("_law_fewest" : Str)]
noncomputable def hH:Hook:=kHook hK hA (fun _=>by kernel_rfl)
noncomputable def hX(s:Shared):Bool:=xlAt qv [] s&&recOk [] s
noncomputable def dL:DefRec×List (Str×Expr):=(defOf qv "law").get (by kernel_rfl)
theorem zvT:rw_.wellSaid=true:=by
 rw[PySem.W.Fast.te9446332074065402090]
 kernel_rfl
theorem zsV(w:World)(os:OsState):(PySem.W.Fast.tw10110043849684766642 PySem.W.Fast.tw14364793385576792824 pw w 11 (some (.ref 6)) 0 2369 (zmD w os) (topStub pw)).map (fun r=>zgN pw qv lsv hX hH.obs w.params r.2.1.abs)=some (true,openGood qv lsv,hH.val w):=by kernel_rfl
theorem left:LeftO pw qv lsv hX hH.obs hH.val 2369:=by
 refine zlr (by kernel_rfl) (by kernel_rfl) (fun s=>by kernel_rfl) fun w os=>?_;rw[PySem.W.Fast.te10110043849684766642,PySem.W.Fast.te14364793385576792824];exact zsV w os
theorem hd(h:WalkO qv lsv (XL qv []) hH.says rw_.row.toRowW dL.1 dL.2 fun f vs=>PySem.call f vs):rw_.Holds:=by
 refine holds_law zvT fun said'=>?_;refine holds_open (q:=qv) (loose:=lsv) (Xt:=hX) (XP:=XL qv []) (Yf:=hH.obs) (Ya:=hH.val) (YP:=hH.says) (N:=2369) (d:=dL.1) (kwd:=dL.2) left hH.of hH.keeps (fun s e=>xl_of s (gA.mp e).1) XL.keeps (by kernel_rfl) (by kernel_rfl) (by kernel_rfl) (fun s e=>recFacts_of (gA.mp e).2) (by kernel_rfl) said' (by kernel_rfl) ⟨rfl,rfl,rfl,rfl,rfl,by decide +kernel⟩ ?hw h;exact⟨[.list []],by decide +kernel,by decide +kernel⟩
theorem dL_name:dL.1.name = "law":=by kernel_rfl
end
section
set_option maxRecDepth 1000000
variable{P:Gq}{X:Cx}{n:Nat}{hb:Bool}{a0 a1 a2 a3:AV}{Q:zm}{Z:XP}{U:AHeap}
noncomputable def exs:List (Addr×List Addr):=[(57,[]),(70,[57]),(82,[57]),(94,[57]),(106,[57])]
theorem zL(P:Gq):zgU (hK P) exs:=by
 intro p hp;simp only[exs,fF,gB,or_false] at hp
 rcases hp with rfl|rfl|rfl|rfl|rfl
 all_goals exact⟨by kernel_rfl,by kernel_rfl,by kernel_rfl,by kernel_rfl,by kernel_rfl,by kernel_rfl⟩
def zed(X:Cx):AS:=(A.cons (A.ret (zcJ [(A.isa .int (A.loc 0)),(A.wT (A.isa .bool (A.loc 0)))])) A.nil)
theorem ziR(P:Gq)(X:Cx):cF X (hK P) 245 exs 21 [] ["thing"] [("thing",0)]=some (zed X):=by kernel_rfl
theorem zjh(G:Gd X (hK P))(hd:n<600)
  (h:∀L,zed (X.push L) ⟨n+1,hb⟩ [some a0] (A.wK Q) (A.kEz Z) U):CallOk X 21 ⟨n,hb⟩ [a0] Q Z U:=
 zX ["thing"] [("thing",0)] G (zL P) (ziR P) (zaU fun a0=>by kernel_rfl) hd rfl h
def zeb(X:Cx):AS:=(A.cons (A.if_ (orL [(A.wT (A.wF X 21 [(A.loc 0)])),(A.wT (A.wF X 21 [(A.loc 1)])),(A.cmp (A.loc 1) [(.Eq,(A.k (.int 0)))])]) (A.cons (A.ret (A.k (.bool false))) A.nil) A.nil) (A.cons (A.ret (zcJ [(A.cmp (A.k (.int 0)) [(.LtE,(A.loc 0)),(.LtE,(A.k (.int 9999)))]),(A.cmp (A.bin false .Sub (A.k (.int 0)) (A.k (.int 1000000000))) [(.LtE,(A.loc 1)),(.LtE,(A.k (.int 1000000000)))])])) A.nil))
theorem ziQ(P:Gq)(X:Cx):cF X (hK P) 245 exs 28 [] ["day","cents"] [("day",0),("cents",1)]=some (zeb X):=by kernel_rfl
theorem zjg(G:Gd X (hK P))(hd:n<600)
  (h:∀L,zeb (X.push L) ⟨n+1,hb⟩ [some a0,some a1] (A.wK Q) (A.kEz Z) U):CallOk X 28 ⟨n,hb⟩ [a0,a1] Q Z U:=
 zX ["day","cents"] [("day",0),("cents",1)] G (zL P) (ziQ P) (jT fun a0 a1=>by kernel_rfl) hd rfl h
def zd8(X:Cx):AS:=(A.cons (A.if_ (A.cmp (A.idx (A.loc 2) (A.k (.int 0))) [(.Eq,(A.k (.str 0)))]) (A.cons (A.ret (A.idx (A.loc 0) (A.idx (A.loc 2) (A.k (.int 1))))) A.nil) A.nil) (A.cons (A.ret (A.idx (A.loc 1) (A.idx (A.loc 2) (A.k (.int 1))))) A.nil))
theorem ziN(P:Gq)(X:Cx):cF X (hK P) 245 exs 35 [] ["banks","books","mark"] [("banks",0),("books",1),("mark",2)]=some (zd8 X):=by kernel_rfl
theorem zje(G:Gd X (hK P))(hd:n<600)
  (h:∀L,zd8 (X.push L) ⟨n+1,hb⟩ [some a0,some a1,some a2] (A.wK Q) (A.kEz Z) U):CallOk X 35 ⟨n,hb⟩ [a0,a1,a2] Q Z U:=
 zX ["banks","books","mark"] [("banks",0),("books",1),("mark",2)] G (zL P) (ziN P) (zdE fun a0 a1 a2=>by kernel_rfl) hd rfl h
def zea(X:Cx):AS:=(A.cons (A.set 2 (A.lc false (A.itP (A.prim kz false [(A.prim qm false [(A.loc 0)])])) (.one 4) 2 none (A.tup [(A.idx (A.idx (A.loc 0) (A.loc 4)) (A.k (.int 0))),(A.k (.str 0)),(A.loc 4)]))) (A.cons (A.set 2 (A.bin false .Add (A.loc 2) (A.lc false (A.itP (A.prim kz false [(A.prim qm false [(A.loc 1)])])) (.one 4) 2 none (A.tup [(A.idx (A.idx (A.loc 1) (A.loc 4)) (A.k (.int 0))),(A.k (.str 1)),(A.loc 4)])))) (A.cons (A.ret (A.lc false (A.itP (A.prim kM false [(A.loc 2)])) (.many [4,5,6]) 4 none (A.tup [(A.loc 5),(A.loc 6)]))) A.nil)))
theorem ziP(P:Gq)(X:Cx):cF X (hK P) 245 exs 40 [] ["banks","books"] [("banks",0),("books",1),("rows",2)]=some (zea X):=by kernel_rfl
theorem zjf(G:Gd X (hK P))(hd:n<600)
  (h:∀L,zea (X.push L) ⟨n+1,hb⟩ [some a0,some a1,none] (A.wK Q) (A.kEz Z) U):CallOk X 40 ⟨n,hb⟩ [a0,a1] Q Z U:=
 zX ["banks","books"] [("banks",0),("books",1),("rows",2)] G (zL P) (ziP P) (jT fun a0 a1=>by kernel_rfl) hd rfl h
def zhN(X:Cx):AS:=(A.cons (A.set 6 (A.idx (A.wF X 35 [(A.loc 0),(A.loc 1),(A.loc 5)]) (A.k (.int 0)))) (A.cons (A.if_ (orL [(A.cmp (A.loc 4) [(.Is,(A.k .none))]),(A.cmp (A.loc 6) [(.Gt,(A.bin false .Add (A.loc 4) (A.loc 2)))])]) (A.cons (A.ex (A.meth zT (A.loc 3) [(A.lst true [])])) A.nil) A.nil) (A.cons (A.ex (A.meth zT (A.idx (A.loc 3) (A.neg (A.k (.int 1)))) [(A.loc 5)])) (A.cons (A.set 4 (A.loc 6)) A.nil))))
def zhM(X:Cx):AS:=(A.cons (A.set 3 (A.lst true [])) (A.cons (A.set 4 (A.k .none)) (A.cons (A.fr (A.itP (A.wF X 40 [(A.loc 0),(A.loc 1)])) (.one 5) (zhN X)) (A.cons (A.ret (A.loc 3)) A.nil))))
theorem zmO(P:Gq)(X:Cx):cF X (hK P) 245 exs 47 [(19,12),(24,25)] ["banks","books","span"] [("banks",0),("books",1),("span",2),("found",3),("last",4),("mark",5),("day",6)]=some (zhM X):=by kernel_rfl
theorem zno(G:Gd X (hK P))(hd:n<600)
  (h:∀L,zhM (X.push L) ⟨n+1,hb⟩ [some a0,some a1,some a2,none,none,none,none] (A.wK Q) (A.kEz Z) U):CallOk X 47 ⟨n,hb⟩ [a0,a1,a2] Q Z U:=
 zX ["banks","books","span"] [("banks",0),("books",1),("span",2),("found",3),("last",4),("mark",5),("day",6)] G (zL P) (zmO P) (zdE fun a0 a1 a2=>by kernel_rfl) hd rfl h
def zec(X:Cx):AS:=(A.cons (A.if_ (A.wT (A.cmp (A.k (.int 0)) [(.LtE,(A.idx (A.loc 0) (A.loc 2))),(.Lt,(A.loc 1))])) (A.cons (A.ret (A.k (.bool false))) A.nil) A.nil) (A.cons (A.if_ (zcJ [(A.cmp (A.loc 2) [(.Gt,(A.k (.int 0)))]),(A.cmp (A.idx (A.loc 0) (A.loc 2)) [(.LtE,(A.idx (A.loc 0) (A.bin false .Sub (A.loc 2) (A.k (.int 1)))))])]) (A.cons (A.ret (A.k (.bool false))) A.nil) A.nil) A.nil))
def zdf(X:Cx):AS:=(A.cons (A.fr (A.itP (A.prim kz false [(A.prim qm false [(A.loc 0)])])) (.one 2) (zec X)) (A.cons (A.ret (A.k (.bool true))) A.nil))
theorem zg1(P:Gq)(X:Cx):cF X (hK P) 245 exs 115 [] ["places","many"] [("places",0),("many",1),("k",2)]=some (zdf X):=by kernel_rfl
theorem zhC(G:Gd X (hK P))(hd:n<600)
  (h:∀L,zdf (X.push L) ⟨n+1,hb⟩ [some a0,some a1,none] (A.wK Q) (A.kEz Z) U):CallOk X 115 ⟨n,hb⟩ [a0,a1] Q Z U:=
 zX ["places","many"] [("places",0),("many",1),("k",2)] G (zL P) (zg1 P) (jT fun a0 a1=>by kernel_rfl) hd rfl h
def zee(X:Cx):AS:=(A.cons (A.ret (A.bin false .Add (A.lc false (A.itP (A.idx (A.loc 0) (A.k (.int 0)))) (.one 2) 2 none (A.tup [(A.k (.str 0)),(A.loc 2)])) (A.lc false (A.itP (A.idx (A.loc 0) (A.k (.int 1)))) (.one 2) 2 none (A.tup [(A.k (.str 1)),(A.loc 2)])))) A.nil)
theorem ziS(P:Gq)(X:Cx):cF X (hK P) 245 exs 120 [] ["match"] [("match",0)]=some (zee X):=by kernel_rfl
theorem zji(G:Gd X (hK P))(hd:n<600)
  (h:∀L,zee (X.push L) ⟨n+1,hb⟩ [some a0] (A.wK Q) (A.kEz Z) U):CallOk X 120 ⟨n,hb⟩ [a0] Q Z U:=
 zX ["match"] [("match",0)] G (zL P) (ziS P) (zaU fun a0=>by kernel_rfl) hd rfl h
def znB(X:Cx):AS:=(A.cons (A.set 4 (A.prim zlH false [(A.prim qm false [(A.idx (A.loc 3) (A.k (.int 0)))]),(A.prim qm false [(A.idx (A.loc 3) (A.k (.int 1)))])])) (A.cons (A.set 5 (A.prim zlG false [(A.prim qm false [(A.idx (A.loc 3) (A.k (.int 0)))]),(A.prim qm false [(A.idx (A.loc 3) (A.k (.int 1)))])])) (A.cons (A.if_ (orL [(A.cmp (A.loc 4) [(.NotEq,(A.k (.int 1)))]),(A.cmp (A.loc 5) [(.Gt,(A.k (.int 3)))])]) (A.cons (A.ret (A.k (.bool false))) A.nil) A.nil) (A.cons (A.if_ (orL [(A.wT (A.wF X 115 [(A.idx (A.loc 3) (A.k (.int 0))),(A.prim qm false [(A.loc 0)])])),(A.wT (A.wF X 115 [(A.idx (A.loc 3) (A.k (.int 1))),(A.prim qm false [(A.loc 1)])]))]) (A.cons (A.ret (A.k (.bool false))) A.nil) A.nil) (A.cons (A.if_ (A.cmp (A.prim zlI false [(A.lc false (A.itP (A.idx (A.loc 3) (A.k (.int 0)))) (.one 8) 2 none (A.idx (A.idx (A.loc 0) (A.loc 8)) (A.k (.int 1))))]) [(.NotEq,(A.prim zlI false [(A.lc false (A.itP (A.idx (A.loc 3) (A.k (.int 1)))) (.one 8) 2 none (A.idx (A.idx (A.loc 1) (A.loc 8)) (A.k (.int 1))))]))]) (A.cons (A.ret (A.k (.bool false))) A.nil) A.nil) (A.cons (A.set 6 (A.lc false (A.itP (A.wF X 120 [(A.loc 3)])) (.one 8) 2 none (A.idx (A.wF X 35 [(A.loc 0),(A.loc 1),(A.loc 8)]) (A.k (.int 0))))) (A.cons (A.ret (A.cmp (A.bin false .Sub (A.prim zlG false [(A.loc 6)]) (A.prim zlH false [(A.loc 6)])) [(.LtE,(A.loc 2))])) A.nil)))))))
theorem zqI(P:Gq)(X:Cx):cF X (hK P) 245 exs 125 [] ["banks","books","span","match"] [("banks",0),("books",1),("span",2),("match",3),("few",4),("many",5),("days",6)]=some (znB X):=by kernel_rfl
theorem zqX(G:Gd X (hK P))(hd:n<600)
  (h:∀L,znB (X.push L) ⟨n+1,hb⟩ [some a0,some a1,some a2,some a3,none,none,none] (A.wK Q) (A.kEz Z) U):CallOk X 125 ⟨n,hb⟩ [a0,a1,a2,a3] Q Z U:=
 zX ["banks","books","span","match"] [("banks",0),("books",1),("span",2),("match",3),("few",4),("many",5),("days",6)] G (zL P) (zqI P) (zfP fun a0 a1 a2 a3=>by kernel_rfl) hd rfl h
def zgn(X:Cx):AS:=(A.cons (A.set 4 (A.bin false .Add (A.loc 4) (A.lc false (A.itP (A.loc 0)) (.one 7) 2 (some (orL [(A.cmp (A.loc 5) [(.Eq,(A.tup []))]),(A.cmp (A.loc 7) [(.Gt,(A.idx (A.loc 5) (A.neg (A.k (.int 1)))))])])) (A.bin false .Add (A.loc 5) (A.tup [(A.loc 7)]))))) A.nil)
def zgm(X:Cx):AS:=(A.cons (A.set 4 (A.lst false [])) (A.cons (A.fr (A.itP (A.loc 2)) (.one 5) (zgn X)) (A.cons (A.set 2 (A.loc 4)) A.nil)))
def zfq(X:Cx):AS:=(A.cons (A.set 2 (A.lst false [(A.tup [])])) (A.cons (A.fr (A.itP (A.prim kz false [(A.loc 1)])) (.one 3) (zgm X)) (A.cons (A.ret (A.loc 2)) A.nil)))
theorem zkW(P:Gq)(X:Cx):cF X (hK P) 245 exs 130 [] ["places","many"] [("places",0),("many",1),("rows",2),("turn",3),("longer",4),("row",5)]=some (zfq X):=by kernel_rfl
theorem zlo(G:Gd X (hK P))(hd:n<600)
  (h:∀L,zfq (X.push L) ⟨n+1,hb⟩ [some a0,some a1,none,none,none,none] (A.wK Q) (A.kEz Z) U):CallOk X 130 ⟨n,hb⟩ [a0,a1] Q Z U:=
 zX ["places","many"] [("places",0),("many",1),("rows",2),("turn",3),("longer",4),("row",5)] G (zL P) (zkW P) (jT fun a0 a1=>by kernel_rfl) hd rfl h
def zfm(X:Cx):AS:=(A.cons (A.ret (A.tup [(A.bin false .Add (A.prim qm false [(A.idx (A.loc 0) (A.k (.int 0)))]) (A.prim qm false [(A.idx (A.loc 0) (A.k (.int 1)))])),(A.loc 0)])) A.nil)
theorem zkT(P:Gq)(X:Cx):cF X (hK P) 245 exs 137 [] ["match"] [("match",0)]=some (zfm X):=by kernel_rfl
theorem zll(G:Gd X (hK P))(hd:n<600)
  (h:∀L,zfm (X.push L) ⟨n+1,hb⟩ [some a0] (A.wK Q) (A.kEz Z) U):CallOk X 137 ⟨n,hb⟩ [a0] Q Z U:=
 zX ["match"] [("match",0)] G (zL P) (zkT P) (zaU fun a0=>by kernel_rfl) hd rfl h
def zhU(X:Cx):AS:=(A.cons (A.if_ (A.wF X 125 [(A.loc 0),(A.loc 1),(A.loc 2),(A.tup [(A.loc 8),(A.loc 9)])]) (A.cons (A.ex (A.meth zT (A.loc 6) [(A.tup [(A.loc 8),(A.loc 9)])])) A.nil) A.nil) A.nil)
def zhT(X:Cx):AS:=(A.cons (A.fr (A.itP (A.wF X 130 [(A.loc 5),(A.idx (A.loc 7) (A.k (.int 1)))])) (.one 9) (zhU X)) A.nil)
def zhS(X:Cx):AS:=(A.cons (A.fr (A.itP (A.wF X 130 [(A.loc 4),(A.idx (A.loc 7) (A.k (.int 0)))])) (.one 8) (zhT X)) A.nil)
def zhR(X:Cx):AS:=(A.cons (A.set 4 (A.prim kM false [(A.lc false (A.itP (A.loc 3)) (.many [11,12]) 3 (some (A.cmp (A.loc 11) [(.Eq,(A.k (.str 0)))])) (A.loc 12))])) (A.cons (A.set 5 (A.prim kM false [(A.lc false (A.itP (A.loc 3)) (.many [11,12]) 3 (some (A.cmp (A.loc 11) [(.Eq,(A.k (.str 1)))])) (A.loc 12))])) (A.cons (A.set 6 (A.lst true [])) (A.cons (A.fr (A.itP (A.tup [(A.tup [(A.k (.int 1)),(A.k (.int 1))]),(A.tup [(A.k (.int 1)),(A.k (.int 2))]),(A.tup [(A.k (.int 2)),(A.k (.int 1))]),(A.tup [(A.k (.int 1)),(A.k (.int 3))]),(A.tup [(A.k (.int 3)),(A.k (.int 1))])])) (.one 7) (zhS X)) (A.cons (A.ret (A.w9 X 137 false (A.loc 6))) A.nil)))))
theorem zmQ(P:Gq)(X:Cx):cF X (hK P) 245 exs 142 [(74,12)] ["banks","books","span","group"] [("banks",0),("books",1),("span",2),("group",3),("ones",4),("others",5),("found",6),("sizes",7),("left",8),("right",9)]=some (zhR X):=by kernel_rfl
theorem znq(G:Gd X (hK P))(hd:n<600)
  (h:∀L,zhR (X.push L) ⟨n+1,hb⟩ [some a0,some a1,some a2,some a3,none,none,none,none,none,none] (A.wK Q) (A.kEz Z) U):CallOk X 142 ⟨n,hb⟩ [a0,a1,a2,a3] Q Z U:=
 zX ["banks","books","span","group"] [("banks",0),("books",1),("span",2),("group",3),("ones",4),("others",5),("found",6),("sizes",7),("left",8),("right",9)] G (zL P) (zmQ P) (zfP fun a0 a1 a2 a3=>by kernel_rfl) hd rfl h
def zgo(X:Cx):AS:=(A.cons (A.if_ (A.cmp (A.loc 2) [(.NotIn,(A.loc 0))]) (A.cons (A.ret (A.k .none)) A.nil) A.nil) A.nil)
def zfr(X:Cx):AS:=(A.cons (A.fr (A.itP (A.loc 1)) (.one 2) (zgo X)) (A.cons (A.ret (A.prim zep false [(A.lc false (A.itP (A.loc 0)) (.one 4) 2 (some (A.cmp (A.loc 4) [(.NotIn,(A.loc 1))])) (A.loc 4))])) A.nil))
theorem zkX(P:Gq)(X:Cx):cF X (hK P) 245 exs 147 [] ["rest","marks"] [("rest",0),("marks",1),("mark",2)]=some (zfr X):=by kernel_rfl
theorem zlp(G:Gd X (hK P))(hd:n<600)
  (h:∀L,zfr (X.push L) ⟨n+1,hb⟩ [some a0,some a1,none] (A.wK Q) (A.kEz Z) U):CallOk X 147 ⟨n,hb⟩ [a0,a1] Q Z U:=
 zX ["rest","marks"] [("rest",0),("marks",1),("mark",2)] G (zL P) (zkX P) (jT fun a0 a1=>by kernel_rfl) hd rfl h
def zeg(X:Cx):AS:=(A.cons (A.set 4 (A.wF X 120 [(A.loc 3)])) (A.cons (A.if_ (A.cmp (A.idx (A.loc 0) (A.k (.int 0))) [(.In,(A.loc 4))]) (A.cons (A.set 5 (A.wF X 147 [(A.loc 0),(A.loc 4)])) (A.cons (A.if_ (A.cmp (A.loc 5) [(.IsNot,(A.k .none))]) (A.cons (A.ex (A.meth zT (A.loc 2) [(A.tup [(A.loc 3),(A.loc 5)])])) A.nil) A.nil) A.nil)) A.nil) A.nil))
def zdh(X:Cx):AS:=(A.cons (A.set 2 (A.lst true [])) (A.cons (A.fr (A.itP (A.loc 1)) (.one 3) (zeg X)) (A.cons (A.ret (A.loc 2)) A.nil)))
theorem zg3(P:Gq)(X:Cx):cF X (hK P) 245 exs 154 [(88,12)] ["rest","matches"] [("rest",0),("matches",1),("found",2),("match",3),("marks",4),("behind",5)]=some (zdh X):=by kernel_rfl
theorem zhE(G:Gd X (hK P))(hd:n<600)
  (h:∀L,zdh (X.push L) ⟨n+1,hb⟩ [some a0,some a1,none,none,none,none] (A.wK Q) (A.kEz Z) U):CallOk X 154 ⟨n,hb⟩ [a0,a1] Q Z U:=
 zX ["rest","matches"] [("rest",0),("matches",1),("found",2),("match",3),("marks",4),("behind",5)] G (zL P) (zg3 P) (jT fun a0 a1=>by kernel_rfl) hd rfl h
def zef(X:Cx):AS:=(A.cons (A.if_ (A.cmp (A.loc 8) [(.NotIn,(A.loc 3))]) (A.cons (A.wS (A.k (.bool true)) (A.loc 3) (A.loc 8)) (A.cons (A.ex (A.meth zT (A.loc 4) [(A.loc 8)])) A.nil)) A.nil) A.nil)
def zjn(X:Cx):AS:=(A.cons (A.set 6 (A.idx (A.loc 4) (A.loc 5))) (A.cons (A.set 5 (A.bin false .Add (A.loc 5) (A.k (.int 1)))) (A.cons (A.set 7 (A.lst false [])) (A.cons (A.if_ (A.cmp (A.loc 6) [(.NotEq,(A.tup []))]) (A.cons (A.set 7 (A.bin false .Add (A.lst false [(A.wW false (A.loc 6) (some (A.k (.int 1))) none)]) (A.lc false (A.itP (A.wF X 154 [(A.loc 6),(A.loc 1)])) (.many [12,13]) 3 none (A.loc 13)))) A.nil) A.nil) (A.cons (A.fr (A.itP (A.loc 7)) (.one 8) (zef X)) A.nil)))))
def zjo(X:Cx):AS:=(A.cons (A.wS (A.k (.int 0)) (A.loc 9) (A.loc 6)) (A.cons (A.if_ (A.cmp (A.loc 6) [(.NotEq,(A.tup []))]) (A.cons (A.set 10 (A.lc false (A.itP (A.wF X 154 [(A.loc 6),(A.loc 1)])) (.many [12,13]) 3 none (A.idx (A.loc 9) (A.loc 13)))) (A.cons (A.wS (A.prim zlH false [(A.bin false .Add (A.lst false [(A.bin false .Add (A.k (.int 1)) (A.idx (A.loc 9) (A.wW false (A.loc 6) (some (A.k (.int 1))) none)))]) (A.loc 10))]) (A.loc 9) (A.loc 6)) A.nil)) A.nil) A.nil))
def zkv(X:Cx):AS:=(A.cons (A.set 2 (A.prim zep false [(A.loc 0)])) (A.cons (A.set 3 (A.dT1 (A.loc 2) (A.k (.bool true)))) (A.cons (A.set 4 (A.lst true [(A.loc 2)])) (A.cons (A.set 5 (A.k (.int 0))) (A.cons (A.w3 (A.cmp (A.loc 5) [(.Lt,(A.prim qm false [(A.loc 4)]))]) (zjn X)) (A.cons (A.set 9 A.dT0) (A.cons (A.fr (A.itP (A.w2 false (A.loc 4))) (.one 6) (zjo X)) (A.cons (A.ret (A.loc 9)) A.nil))))))))
theorem zoO(P:Gq)(X:Cx):cF X (hK P) 245 exs 159 [(99,10)] ["group","matches"] [("group",0),("matches",1),("begin",2),("met",3),("row",4),("at",5),("rest",6),("nexts",7),("behind",8),("least",9),("some",10)]=some (zkv X):=by kernel_rfl
theorem zpa(G:Gd X (hK P))(hd:n<600)
  (h:∀L,zkv (X.push L) ⟨n+1,hb⟩ [some a0,some a1,none,none,none,none,none,none,none,none,none] (A.wK Q) (A.kEz Z) U):CallOk X 159 ⟨n,hb⟩ [a0,a1] Q Z U:=
 zX ["group","matches"] [("group",0),("matches",1),("begin",2),("met",3),("row",4),("at",5),("rest",6),("nexts",7),("behind",8),("least",9),("some",10)] G (zL P) (zoO P) (jT fun a0 a1=>by kernel_rfl) hd rfl h
def zhQ(X:Cx):AS:=(A.cons (A.set 5 (A.lc false (A.itP (A.wF X 154 [(A.loc 3),(A.loc 1)])) (.many [7,8]) 3 (some (A.cmp (A.idx (A.loc 2) (A.loc 8)) [(.Eq,(A.idx (A.loc 2) (A.loc 3)))])) (A.tup [(A.loc 7),(A.loc 8)]))) (A.cons (A.if_ (A.cmp (A.loc 5) [(.Eq,(A.lst false []))]) (A.cons (A.set 3 (A.wW false (A.loc 3) (some (A.k (.int 1))) none)) A.nil) (A.cons (A.ex (A.meth zT (A.loc 4) [(A.idx (A.idx (A.loc 5) (A.k (.int 0))) (A.k (.int 0)))])) (A.cons (A.set 3 (A.idx (A.idx (A.loc 5) (A.k (.int 0))) (A.k (.int 1)))) A.nil))) A.nil))
def zhP(X:Cx):AS:=(A.cons (A.set 2 (A.wF X 159 [(A.loc 0),(A.loc 1)])) (A.cons (A.set 3 (A.prim zep false [(A.loc 0)])) (A.cons (A.set 4 (A.lst true [])) (A.cons (A.w3 (A.cmp (A.loc 3) [(.NotEq,(A.tup []))]) (zhQ X)) (A.cons (A.ret (A.loc 4)) A.nil)))))
theorem zmP(P:Gq)(X:Cx):cF X (hK P) 245 exs 164 [(121,12)] ["group","matches"] [("group",0),("matches",1),("least",2),("rest",3),("found",4),("good",5)]=some (zhP X):=by kernel_rfl
theorem znp(G:Gd X (hK P))(hd:n<600)
  (h:∀L,zhP (X.push L) ⟨n+1,hb⟩ [some a0,some a1,none,none,none,none] (A.wK Q) (A.kEz Z) U):CallOk X 164 ⟨n,hb⟩ [a0,a1] Q Z U:=
 zX ["group","matches"] [("group",0),("matches",1),("least",2),("rest",3),("found",4),("good",5)] G (zL P) (zmP P) (jT fun a0 a1=>by kernel_rfl) hd rfl h
def znC(X:Cx):AS:=(A.cons (A.if_ (orL [(A.wT (A.wF X 21 [(A.loc 1)])),(A.wT (A.cmp (A.k (.int 0)) [(.LtE,(A.loc 1)),(.LtE,(A.k (.int 30)))]))]) (A.cons (A.wU 82) A.nil) A.nil) (A.cons (A.wV 245 3 (A.loc 0) (A.loc 1)) (A.cons (A.wV 245 4 (A.loc 0) (A.dic [((A.k (.str 0)),(A.lst true [])),((A.k (.str 1)),(A.lst true []))])) (A.cons (A.wV 245 5 (A.loc 0) (A.lst true [])) (A.cons (A.wV 245 6 (A.loc 0) (A.lst true [])) A.nil)))))
theorem zqJ(P:Gq)(X:Cx):cF X (hK P) 245 exs 178 [(140,22),(141,22),(139,29),(139,41)] ["self","span"] [("self",0),("span",1)]=some (znC X):=by kernel_rfl
theorem zqY(G:Gd X (hK P))(hd:n<600)
  (h:∀L,znC (X.push L) ⟨n+1,hb⟩ [some a0,some a1] (A.wK Q) (A.kEz Z) U):CallOk X 178 ⟨n,hb⟩ [a0,a1] Q Z U:=
 zX ["self","span"] [("self",0),("span",1)] G (zL P) (zqJ P) (jT fun a0 a1=>by kernel_rfl) hd rfl h
def zch(X:Cx):AS:=(A.cons (A.ret (A.wF X 47 [(A.idx (A.wR 245 4 (A.loc 0)) (A.k (.str 0))),(A.idx (A.wR 245 4 (A.loc 0)) (A.k (.str 1))),(A.wR 245 3 (A.loc 0))])) A.nil)
theorem zfU(P:Gq)(X:Cx):cF X (hK P) 245 exs 185 [] ["self"] [("self",0)]=some (zch X):=by kernel_rfl
theorem zce(G:Gd X (hK P))(hd:n<600)
  (h:∀L,zch (X.push L) ⟨n+1,hb⟩ [some a0] (A.wK Q) (A.kEz Z) U):CallOk X 185 ⟨n,hb⟩ [a0] Q Z U:=
 zX ["self"] [("self",0)] G (zL P) (zfU P) (zaU fun a0=>by kernel_rfl) hd rfl h
def znF(X:Cx):AS:=(A.cons (A.wV 245 5 (A.loc 0) (A.lc true (A.itP (A.wR 245 5 (A.loc 0))) (.one 4) 2 (some (A.cmp (A.idx (A.wF X 120 [(A.loc 4)]) (A.k (.int 0))) [(.NotIn,(A.loc 1))])) (A.loc 4))) (A.cons (A.set 2 (A.wF X 142 [(A.idx (A.wR 245 4 (A.loc 0)) (A.k (.str 0))),(A.idx (A.wR 245 4 (A.loc 0)) (A.k (.str 1))),(A.wR 245 3 (A.loc 0)),(A.loc 1)])) (A.cons (A.wV 245 5 (A.loc 0) (A.bin true .Add (A.wR 245 5 (A.loc 0)) (A.wF X 164 [(A.loc 1),(A.lc false (A.itP (A.loc 2)) (.one 4) 2 (some (A.cmp (A.loc 4) [(.NotIn,(A.wR 245 6 (A.loc 0)))])) (A.loc 4))]))) A.nil)))
theorem zqM(P:Gq)(X:Cx):cF X (hK P) 245 exs 190 [(147,22),(149,22)] ["self","group"] [("self",0),("group",1),("some",2)]=some (znF X):=by kernel_rfl
theorem zq1(G:Gd X (hK P))(hd:n<600)
  (h:∀L,znF (X.push L) ⟨n+1,hb⟩ [some a0,some a1,none] (A.wK Q) (A.kEz Z) U):CallOk X 190 ⟨n,hb⟩ [a0,a1] Q Z U:=
 zX ["self","group"] [("self",0),("group",1),("some",2)] G (zL P) (zqM P) (jT fun a0 a1=>by kernel_rfl) hd rfl h
def zqo(X:Cx):AS:=(A.cons (A.if_ (orL [(A.cmp (A.loc 1) [(.NotIn,(A.tup [(A.k (.str 0)),(A.k (.str 1))]))]),(A.wT (A.wF X 28 [(A.loc 2),(A.loc 3)]))]) (A.cons (A.wU 70) A.nil) A.nil) (A.cons (A.set 4 (A.idx (A.wR 245 4 (A.loc 0)) (A.loc 1))) (A.cons (A.ex (A.meth zT (A.loc 4) [(A.tup [(A.loc 2),(A.loc 3)])])) (A.cons (A.set 5 (A.wO X 245 none 228 (A.loc 0) [(A.loc 1),(A.bin false .Sub (A.prim qm false [(A.loc 4)]) (A.k (.int 1)))])) (A.cons (A.if_ (A.cmp (A.prim qm false [(A.loc 5)]) [(.Gt,(A.k (.int 8)))]) (A.cons (A.ex (A.meth zq8 (A.loc 4) [])) (A.cons (A.wU 94) A.nil)) A.nil) (A.cons (A.ex (A.wO X 245 none 190 (A.loc 0) [(A.loc 5)])) (A.cons (A.ret (A.bin false .Sub (A.prim qm false [(A.loc 4)]) (A.k (.int 1)))) A.nil)))))))
theorem zsC(P:Gq)(X:Cx):cF X (hK P) 245 exs 197 [(154,14)] ["self","side","day","cents"] [("self",0),("side",1),("day",2),("cents",3),("row",4),("group",5)]=some (zqo X):=by kernel_rfl
theorem zsU(G:Gd X (hK P))(hd:n<600)
  (h:∀L,zqo (X.push L) ⟨n+1,hb⟩ [some a0,some a1,some a2,some a3,none,none] (A.wK Q) (A.kEz Z) U):CallOk X 197 ⟨n,hb⟩ [a0,a1,a2,a3] Q Z U:=
 zX ["self","side","day","cents"] [("self",0),("side",1),("day",2),("cents",3),("row",4),("group",5)] G (zL P) (zsC P) (zfP fun a0 a1 a2 a3=>by kernel_rfl) hd rfl h
def zfp(X:Cx):AS:=(A.cons (A.ret (A.w9 X 137 false (A.wR 245 5 (A.loc 0)))) A.nil)
theorem zkV(P:Gq)(X:Cx):cF X (hK P) 245 exs 211 [] ["self"] [("self",0)]=some (zfp X):=by kernel_rfl
theorem zln(G:Gd X (hK P))(hd:n<600)
  (h:∀L,zfp (X.push L) ⟨n+1,hb⟩ [some a0] (A.wK Q) (A.kEz Z) U):CallOk X 211 ⟨n,hb⟩ [a0] Q Z U:=
 zX ["self"] [("self",0)] G (zL P) (zkV P) (zaU fun a0=>by kernel_rfl) hd rfl h
def zlz(X:Cx):AS:=(A.cons (A.set 2 (A.bin false .Add (A.loc 2) (A.wF X 120 [(A.loc 3)]))) A.nil)
def znD(X:Cx):AS:=(A.cons (A.set 2 (A.lst false [])) (A.cons (A.fr (A.itP (A.wR 245 5 (A.loc 0))) (.one 3) (zlz X)) (A.cons (A.ret (A.lc false (A.itP (A.prim kz false [(A.prim qm false [(A.idx (A.wR 245 4 (A.loc 0)) (A.loc 1))])])) (.one 5) 2 (some (A.cmp (A.tup [(A.loc 1),(A.loc 5)]) [(.NotIn,(A.loc 2))])) (A.loc 5))) A.nil)))
theorem zqK(P:Gq)(X:Cx):cF X (hK P) 245 exs 223 [] ["self","side"] [("self",0),("side",1),("told",2),("match",3)]=some (znD X):=by kernel_rfl
theorem zqZ(G:Gd X (hK P))(hd:n<600)
  (h:∀L,znD (X.push L) ⟨n+1,hb⟩ [some a0,some a1,none,none] (A.wK Q) (A.kEz Z) U):CallOk X 223 ⟨n,hb⟩ [a0,a1] Q Z U:=
 zX ["self","side"] [("self",0),("side",1),("told",2),("match",3)] G (zL P) (zqK P) (jT fun a0 a1=>by kernel_rfl) hd rfl h
def zd9(X:Cx):AS:=(A.cons (A.ret (A.idx (A.lc false (A.itP (A.wO X 245 none 185 (A.loc 0) [])) (.one 4) 2 (some (A.cmp (A.tup [(A.loc 1),(A.loc 2)]) [(.In,(A.loc 4))])) (A.loc 4)) (A.k (.int 0)))) A.nil)
theorem ziO(P:Gq)(X:Cx):cF X (hK P) 245 exs 228 [] ["self","side","place"] [("self",0),("side",1),("place",2)]=some (zd9 X):=by kernel_rfl
theorem zd1(G:Gd X (hK P))(hd:n<600)
  (h:∀L,zd9 (X.push L) ⟨n+1,hb⟩ [some a0,some a1,some a2] (A.wK Q) (A.kEz Z) U):CallOk X 228 ⟨n,hb⟩ [a0,a1,a2] Q Z U:=
 zX ["self","side","place"] [("self",0),("side",1),("place",2)] G (zL P) (ziO P) (zdE fun a0 a1 a2=>by kernel_rfl) hd rfl h
def zdg(X:Cx):AS:=(A.cons (A.if_ (A.cmp (A.loc 1) [(.NotIn,(A.wR 245 5 (A.loc 0)))]) (A.cons (A.wU 106) A.nil) A.nil) (A.cons (A.ex (A.meth zgl (A.wR 245 5 (A.loc 0)) [(A.loc 1)])) (A.cons (A.ex (A.meth zT (A.wR 245 6 (A.loc 0)) [(A.loc 1)])) A.nil)))
theorem zg2(P:Gq)(X:Cx):cF X (hK P) 245 exs 235 [] ["self","match"] [("self",0),("match",1)]=some (zdg X):=by kernel_rfl
theorem zhD(G:Gd X (hK P))(hd:n<600)
  (h:∀L,zdg (X.push L) ⟨n+1,hb⟩ [some a0,some a1] (A.wK Q) (A.kEz Z) U):CallOk X 235 ⟨n,hb⟩ [a0,a1] Q Z U:=
 zX ["self","match"] [("self",0),("match",1)] G (zL P) (zg2 P) (jT fun a0 a1=>by kernel_rfl) hd rfl h
def zjm(X:Cx):AS:=(A.cons (A.ex (A.wO X 245 none 190 (A.loc 0) [(A.loc 1)])) A.nil)
def zku(X:Cx):AS:=(A.cons (A.fr (A.itP (A.wO X 245 none 185 (A.loc 0) [])) (.one 1) (zjm X)) A.nil)
theorem zoN(P:Gq)(X:Cx):cF X (hK P) 245 exs 242 [] ["self"] [("self",0),("group",1)]=some (zku X):=by kernel_rfl
theorem zo9(G:Gd X (hK P))(hd:n<600)
  (h:∀L,zku (X.push L) ⟨n+1,hb⟩ [some a0,none] (A.wK Q) (A.kEz Z) U):CallOk X 242 ⟨n,hb⟩ [a0] Q Z U:=
 zX ["self"] [("self",0),("group",1)] G (zL P) (zoN P) (zaU fun a0=>by kernel_rfl) hd rfl h
def zfn(X:Cx):AS:=(A.cons (A.if_ (A.cmp (A.loc 1) [(.Lt,(A.prim qm false [(A.loc 0)]))]) (A.cons (A.ret (A.idx (A.loc 0) (A.loc 1))) A.nil) A.nil) (A.cons (A.ret (A.k (.int 0))) A.nil))
theorem zkU(P:Gq)(X:Cx):cF X (hK P) 245 exs 256 [] ["_law_script","_law_k"] [("_law_script",0),("_law_k",1)]=some (zfn X):=by kernel_rfl
theorem zlm(G:Gd X (hK P))(hd:n<600)
  (h:∀L,zfn (X.push L) ⟨n+1,hb⟩ [some a0,some a1] (A.wK Q) (A.kEz Z) U):CallOk X 256 ⟨n,hb⟩ [a0,a1] Q Z U:=
 zX ["_law_script","_law_k"] [("_law_script",0),("_law_k",1)] G (zL P) (zkU P) (jT fun a0 a1=>by kernel_rfl) hd rfl h
def zdo(X:Cx):AS:=(A.cons (A.if_ (orL [(A.cmp (A.loc 4) [(.Eq,(A.k (.int 0)))]),(A.cmp (A.bin false .Sub (A.idx (A.idx (A.loc 2) (A.loc 4)) (A.k (.int 0))) (A.idx (A.idx (A.loc 2) (A.bin false .Sub (A.loc 4) (A.k (.int 1)))) (A.k (.int 0)))) [(.Gt,(A.loc 1))])]) (A.cons (A.set 3 (A.bin true .Add (A.loc 3) (A.lst true [(A.lst true [])]))) A.nil) A.nil) (A.cons (A.ex (A.meth zT (A.idx (A.loc 3) (A.neg (A.k (.int 1)))) [(A.tup [(A.idx (A.idx (A.loc 2) (A.loc 4)) (A.k (.int 1))),(A.idx (A.idx (A.loc 2) (A.loc 4)) (A.k (.int 2)))])])) A.nil))
def zci(X:Cx):AS:=(A.cons (A.set 2 (A.lc false (A.itE (A.idx (A.loc 0) (A.k (.str 0)))) (.many [6,7]) 3 none (A.tup [(A.idx (A.loc 7) (A.k (.int 0))),(A.k (.str 0)),(A.loc 6)]))) (A.cons (A.set 2 (A.prim kM false [(A.bin false .Add (A.loc 2) (A.lc false (A.itE (A.idx (A.loc 0) (A.k (.str 1)))) (.many [6,7]) 3 none (A.tup [(A.idx (A.loc 7) (A.k (.int 0))),(A.k (.str 1)),(A.loc 6)])))])) (A.cons (A.set 3 (A.lst true [])) (A.cons (A.fr (A.itP (A.prim kz false [(A.prim qm false [(A.loc 2)])])) (.one 4) (zdo X)) (A.cons (A.ret (A.loc 3)) A.nil)))))
theorem zfV(P:Gq)(X:Cx):cF X (hK P) 245 exs 261 [(198,17),(201,25),(201,38),(201,39)] ["_law_own","_law_span"] [("_law_own",0),("_law_span",1),("_law_rows",2),("_law_found",3),("_law_k",4)]=some (zci X):=by kernel_rfl
theorem zgj(G:Gd X (hK P))(hd:n<600)
  (h:∀L,zci (X.push L) ⟨n+1,hb⟩ [some a0,some a1,none,none,none] (A.wK Q) (A.kEz Z) U):CallOk X 261 ⟨n,hb⟩ [a0,a1] Q Z U:=
 zX ["_law_own","_law_span"] [("_law_own",0),("_law_span",1),("_law_rows",2),("_law_found",3),("_law_k",4)] G (zL P) (zfV P) (jT fun a0 a1=>by kernel_rfl) hd rfl h
def zcV(X:Cx):AS:=(A.cons (A.ex (A.meth zT (A.loc 1) [(A.tup [(A.idx (A.loc 0) (A.loc 2)),(A.idx (A.loc 0) (A.loc 3)),(A.idx (A.loc 0) (A.loc 4))])])) A.nil)
def zcU(X:Cx):AS:=(A.cons (A.ex (A.meth zT (A.loc 1) [(A.tup [(A.idx (A.loc 0) (A.loc 2)),(A.idx (A.loc 0) (A.loc 3))])])) (A.cons (A.fr (A.itP (A.prim kz false [(A.bin false .Add (A.loc 3) (A.k (.int 1))),(A.prim qm false [(A.loc 0)])])) (.one 4) (zcV X)) A.nil))
def zcT(X:Cx):AS:=(A.cons (A.ex (A.meth zT (A.loc 1) [(A.tup [(A.idx (A.loc 0) (A.loc 2))])])) (A.cons (A.fr (A.itP (A.prim kz false [(A.bin false .Add (A.loc 2) (A.k (.int 1))),(A.prim qm false [(A.loc 0)])])) (.one 3) (zcU X)) A.nil))
def zbE(X:Cx):AS:=(A.cons (A.set 1 (A.lst true [])) (A.cons (A.fr (A.itP (A.prim kz false [(A.prim qm false [(A.loc 0)])])) (.one 2) (zcT X)) (A.cons (A.ret (A.loc 1)) A.nil)))
theorem zeL(P:Gq)(X:Cx):cF X (hK P) 245 exs 268 [(205,17)] ["_law_places"] [("_law_places",0),("_law_found",1),("_law_i",2),("_law_j",3),("_law_k",4)]=some (zbE X):=by kernel_rfl
theorem zeS(G:Gd X (hK P))(hd:n<600)
  (h:∀L,zbE (X.push L) ⟨n+1,hb⟩ [some a0,none,none,none,none] (A.wK Q) (A.kEz Z) U):CallOk X 268 ⟨n,hb⟩ [a0] Q Z U:=
 zX ["_law_places"] [("_law_places",0),("_law_found",1),("_law_i",2),("_law_j",3),("_law_k",4)] G (zL P) (zeL P) (zaU fun a0=>by kernel_rfl) hd rfl h
def zly(X:Cx):AS:=(A.cons (A.if_ (zcJ [(orL [(A.cmp (A.prim qm false [(A.loc 6)]) [(.Eq,(A.k (.int 1)))]),(A.cmp (A.prim qm false [(A.loc 7)]) [(.Eq,(A.k (.int 1)))])]),(A.cmp (A.tup [(A.loc 6),(A.loc 7)]) [(.NotIn,(A.idx (A.loc 0) (A.k (.str 18))))])]) (A.cons (A.set 8 (A.bin false .Add (A.lc false (A.itP (A.loc 6)) (.one 11) 2 none (A.idx (A.idx (A.idx (A.loc 0) (A.k (.str 0))) (A.loc 11)) (A.k (.int 0)))) (A.lc false (A.itP (A.loc 7)) (.one 11) 2 none (A.idx (A.idx (A.idx (A.loc 0) (A.k (.str 1))) (A.loc 11)) (A.k (.int 0)))))) (A.cons (A.set 9 (A.prim zlI false [(A.lc false (A.itP (A.loc 6)) (.one 11) 2 none (A.idx (A.idx (A.idx (A.loc 0) (A.k (.str 0))) (A.loc 11)) (A.k (.int 1))))])) (A.cons (A.if_ (zcJ [(A.cmp (A.loc 9) [(.Eq,(A.prim zlI false [(A.lc false (A.itP (A.loc 7)) (.one 11) 2 none (A.idx (A.idx (A.idx (A.loc 0) (A.k (.str 1))) (A.loc 11)) (A.k (.int 1))))]))]),(A.cmp (A.bin false .Sub (A.prim zlG false [(A.loc 8)]) (A.prim zlH false [(A.loc 8)])) [(.LtE,(A.loc 1))])]) (A.cons (A.ex (A.meth zT (A.loc 5) [(A.bin false .Add (A.lc false (A.itP (A.loc 6)) (.one 11) 2 none (A.tup [(A.k (.str 0)),(A.loc 11)])) (A.lc false (A.itP (A.loc 7)) (.one 11) 2 none (A.tup [(A.k (.str 1)),(A.loc 11)])))])) A.nil) A.nil) A.nil))) A.nil) A.nil)
def zlx(X:Cx):AS:=(A.cons (A.fr (A.itP (A.loc 4)) (.one 7) (zly X)) A.nil)
def zny(X:Cx):AS:=(A.cons (A.set 3 (A.wF X 268 [(A.prim kM false [(A.lc false (A.itP (A.loc 2)) (.one 11) 2 (some (A.cmp (A.idx (A.loc 11) (A.k (.int 0))) [(.Eq,(A.k (.str 0)))])) (A.idx (A.loc 11) (A.k (.int 1))))])])) (A.cons (A.set 4 (A.wF X 268 [(A.prim kM false [(A.lc false (A.itP (A.loc 2)) (.one 11) 2 (some (A.cmp (A.idx (A.loc 11) (A.k (.int 0))) [(.Eq,(A.k (.str 1)))])) (A.idx (A.loc 11) (A.k (.int 1))))])])) (A.cons (A.set 5 (A.lst true [])) (A.cons (A.fr (A.itP (A.loc 3)) (.one 6) (zlx X)) (A.cons (A.ret (A.loc 5)) A.nil)))))
theorem zqG(P:Gq)(X:Cx):cF X (hK P) 245 exs 273 [(216,17)] ["_law_own","_law_span","_law_group"] [("_law_own",0),("_law_span",1),("_law_group",2),("_law_ones",3),("_law_others",4),("_law_found",5),("_law_one",6),("_law_other",7),("_law_days",8),("_law_total",9)]=some (zny X):=by kernel_rfl
theorem zqV(G:Gd X (hK P))(hd:n<600)
  (h:∀L,zny (X.push L) ⟨n+1,hb⟩ [some a0,some a1,some a2,none,none,none,none,none,none,none] (A.wK Q) (A.kEz Z) U):CallOk X 273 ⟨n,hb⟩ [a0,a1,a2] Q Z U:=
 zX ["_law_own","_law_span","_law_group"] [("_law_own",0),("_law_span",1),("_law_group",2),("_law_ones",3),("_law_others",4),("_law_found",5),("_law_one",6),("_law_other",7),("_law_days",8),("_law_total",9)] G (zL P) (zqG P) (zdE fun a0 a1 a2=>by kernel_rfl) hd rfl h
def zlA(X:Cx):AS:=(A.cons (A.if_ (A.cmp (A.lc false (A.itP (A.loc 4)) (.one 7) 2 (some (A.cmp (A.loc 7) [(.NotIn,(A.loc 0))])) (A.loc 7)) [(.Eq,(A.lst false []))]) (A.cons (A.set 5 (A.lc false (A.itP (A.loc 0)) (.one 7) 2 (some (A.cmp (A.loc 7) [(.NotIn,(A.loc 4))])) (A.loc 7))) (A.cons (A.set 2 (A.prim zlG false [(A.loc 2),(A.bin false .Add (A.prim qm false [(A.loc 4)]) (A.wF X 278 [(A.loc 5),(A.wW false (A.loc 1) (some (A.bin false .Add (A.loc 3) (A.k (.int 1)))) none)]))])) A.nil)) A.nil) A.nil)
def znE(X:Cx):AS:=(A.cons (A.set 2 (A.k (.int 0))) (A.cons (A.fr (A.itE (A.loc 1)) (.many [3,4]) (zlA X)) (A.cons (A.ret (A.loc 2)) A.nil)))
theorem zqL(P:Gq)(X:Cx):cF X (hK P) 245 exs 278 [] ["_law_rest","_law_choices"] [("_law_rest",0),("_law_choices",1),("_law_best",2),("_law_k",3),("_law_marks",4),("_law_less",5)]=some (znE X):=by kernel_rfl
theorem zq0(G:Gd X (hK P))(hd:n<600)
  (h:∀L,znE (X.push L) ⟨n+1,hb⟩ [some a0,some a1,none,none,none,none] (A.wK Q) (A.kEz Z) U):CallOk X 278 ⟨n,hb⟩ [a0,a1] Q Z U:=
 zX ["_law_rest","_law_choices"] [("_law_rest",0),("_law_choices",1),("_law_best",2),("_law_k",3),("_law_marks",4),("_law_less",5)] G (zL P) (zqL P) (jT fun a0 a1=>by kernel_rfl) hd rfl h
def zbF(X:Cx):AS:=(A.cons (A.set 2 (A.bin false .Add (A.lc false (A.itP (A.wO X 245 none 223 (A.loc 0) [(A.k (.str 0))])) (.one 4) 2 none (A.tup [(A.k (.str 0)),(A.loc 4)])) (A.lc false (A.itP (A.wO X 245 none 223 (A.loc 0) [(A.k (.str 1))])) (.one 4) 2 none (A.tup [(A.k (.str 1)),(A.loc 4)])))) (A.cons (A.ret (A.prim qm false [(A.lc false (A.itP (A.loc 1)) (.one 4) 2 (some (A.cmp (A.loc 4) [(.In,(A.loc 2))])) (A.loc 4))])) A.nil))
theorem zeM(P:Gq)(X:Cx):cF X (hK P) 245 exs 283 [] ["_law_ledger","_law_group"] [("_law_ledger",0),("_law_group",1),("_law_free",2)]=some (zbF X):=by kernel_rfl
theorem zeT(G:Gd X (hK P))(hd:n<600)
  (h:∀L,zbF (X.push L) ⟨n+1,hb⟩ [some a0,some a1,none] (A.wK Q) (A.kEz Z) U):CallOk X 283 ⟨n,hb⟩ [a0,a1] Q Z U:=
 zX ["_law_ledger","_law_group"] [("_law_ledger",0),("_law_group",1),("_law_free",2)] G (zL P) (zeM P) (jT fun a0 a1=>by kernel_rfl) hd rfl h
def zfo(X:Cx):AS:=(A.cons (A.if_ (A.cmp (A.tup [(A.loc 6),(A.loc 9)]) [(.In,(A.loc 10))]) (A.cons (A.wS (A.lc false (A.itP (A.idx (A.loc 1) (A.k (.str 25)))) (.one 12) 2 (some (A.cmp (A.loc 12) [(.NotIn,(A.loc 10))])) (A.loc 12)) (A.loc 1) (A.k (.str 25))) A.nil) A.nil) A.nil)
def znz(X:Cx):AS:=(A.cons (A.set 4 (A.wO X 245 (some 17) 211 (A.loc 0) [])) (A.cons (A.if_ (zcJ [(A.cmp (A.bin false .Mod (A.loc 2) (A.k (.int 8))) [(.Eq,(A.k (.int 6)))]),(A.cmp (A.loc 4) [(.NotEq,(A.lst false []))])]) (A.cons (A.set 5 (A.idx (A.loc 4) (A.bin false .Mod (A.bin false .FloorDiv (A.loc 2) (A.k (.int 8))) (A.prim qm false [(A.loc 4)])))) (A.cons (A.ex (A.meth zT (A.idx (A.loc 1) (A.k (.str 18))) [(A.loc 5)])) (A.cons (A.wS (A.bin false .Add (A.idx (A.loc 1) (A.k (.str 25))) (A.lst false [(A.tup [(A.k (.str 0)),(A.idx (A.idx (A.loc 5) (A.k (.int 0))) (A.k (.int 0)))])])) (A.loc 1) (A.k (.str 25))) (A.cons (A.ex (A.wO X 245 none 235 (A.loc 0) [(A.loc 5)])) A.nil)))) (A.cons (A.if_ (A.cmp (A.bin false .Mod (A.loc 2) (A.k (.int 8))) [(.Eq,(A.k (.int 7)))]) (A.cons (A.wS (A.lst false []) (A.loc 1) (A.k (.str 25))) (A.cons (A.ex (A.wO X 245 none 242 (A.loc 0) [])) A.nil)) (A.cons (A.if_ (A.cmp (A.bin false .Mod (A.loc 2) (A.k (.int 8))) [(.Lt,(A.k (.int 6)))]) (A.cons (A.set 6 (A.idx (A.lst false [(A.k (.str 0)),(A.k (.str 1))]) (A.bin false .Mod (A.bin false .FloorDiv (A.loc 2) (A.k (.int 8))) (A.k (.int 2))))) (A.cons (A.set 7 (A.bin false .Add (A.idx (A.loc 1) (A.k (.str 22))) (A.bin false .Mult (A.bin false .Mod (A.bin false .FloorDiv (A.loc 2) (A.k (.int 16))) (A.idx (A.loc 1) (A.k (.str 20)))) (A.idx (A.loc 1) (A.k (.str 24)))))) (A.cons (A.set 8 (A.tup [(A.loc 7),(A.bin false .Mult (A.idx (A.lst false [(A.k (.int 1)),(A.k (.int 2)),(A.k (.int 3)),(A.k (.int 4)),(A.k (.int 5)),(A.k (.int 7)),(A.neg (A.k (.int 2))),(A.neg (A.k (.int 3)))]) (A.bin false .Mod (A.bin false .FloorDiv (A.loc 2) (A.k (.int 320))) (A.k (.int 8)))) (A.idx (A.loc 1) (A.k (.str 21))))])) (A.cons (A.if_ (A.cmp (A.bin false .Mod (A.bin false .FloorDiv (A.loc 2) (A.k (.int 2560))) (A.k (.int 6))) [(.Eq,(A.k (.int 1)))]) (A.cons (A.set 8 (A.tup [(A.loc 7),(A.bin false .Mult (A.bin false .Sub (A.bin false .Pow (A.k (.int 10)) (A.k (.int 9))) (A.prim zrk false [(A.idx (A.loc 8) (A.k (.int 1)))])) (A.idx (A.lst false [(A.k (.int 1)),(A.neg (A.k (.int 1)))]) (A.prim zrl false [(A.cmp (A.idx (A.loc 8) (A.k (.int 1))) [(.Lt,(A.k (.int 0)))])])))])) A.nil) A.nil) (A.cons (A.vG (A.cons (A.set 9 (A.wO X 245 none 197 (A.loc 0) [(A.loc 6),(A.idx (A.loc 8) (A.k (.int 0))),(A.idx (A.loc 8) (A.k (.int 1)))])) A.nil) [94] none (A.cons A.vF A.nil)) (A.cons (A.ex (A.meth zT (A.idx (A.loc 1) (A.loc 6)) [(A.loc 8)])) (A.cons (A.fr (A.itP (A.wF X 261 [(A.loc 1),(A.loc 3)])) (.one 10) (zfo X)) A.nil))))))) A.nil) A.nil)) A.nil)) A.nil))
theorem zqH(P:Gq)(X:Cx):cF X (hK P) 245 exs 288 [] ["_law_ledger","_law_own","_law_cell","_law_span"] [("_law_ledger",0),("_law_own",1),("_law_cell",2),("_law_span",3),("_law_ticked",4),("_law_match",5),("_law_side",6),("_law_day",7),("_law_entry",8),("_law_place",9),("_law_group",10)]=some (znz X):=by kernel_rfl
theorem zqW(G:Gd X (hK P))(hd:n<600)
  (h:∀L,znz (X.push L) ⟨n+1,hb⟩ [some a0,some a1,some a2,some a3,none,none,none,none,none,none,none] (A.wK Q) (A.kEz Z) U):CallOk X 288 ⟨n,hb⟩ [a0,a1,a2,a3] Q Z U:=
 zX ["_law_ledger","_law_own","_law_cell","_law_span"] [("_law_ledger",0),("_law_own",1),("_law_cell",2),("_law_span",3),("_law_ticked",4),("_law_match",5),("_law_side",6),("_law_day",7),("_law_entry",8),("_law_place",9),("_law_group",10)] G (zL P) (zqH P) (zfP fun a0 a1 a2 a3=>by kernel_rfl) hd rfl h
def zhL(X:Cx):AS:=(A.cons (A.set 4 (A.idx (A.loc 3) (A.bin false .Mod (A.idx (A.loc 1) (A.k (.str 22))) (A.prim qm false [(A.loc 3)])))) (A.cons (A.set 5 (A.wO X 245 none 228 (A.loc 0) [(A.idx (A.loc 4) (A.k (.int 0))),(A.idx (A.loc 4) (A.k (.int 1)))])) (A.cons (A.if_ (orL [(A.wT (A.isa .list (A.loc 5))),(A.cmp (A.loc 5) [(.NotEq,(A.loc 3))])]) (A.cons (A.ret (A.k (.bool false))) A.nil) A.nil) (A.cons (A.ex (A.meth zjl (A.loc 5) [])) (A.cons (A.if_ (A.cmp (A.lc false (A.itP (A.loc 3)) (.one 7) 2 (some (A.cmp (A.loc 7) [(.In,(A.idx (A.loc 1) (A.k (.str 25))))])) (A.loc 7)) [(.Eq,(A.lst false []))]) (A.cons (A.if_ (A.cmp (A.wF X 283 [(A.loc 0),(A.loc 3)]) [(.NotEq,(A.bin false .Sub (A.prim qm false [(A.loc 3)]) (A.wF X 278 [(A.loc 3),(A.wF X 273 [(A.loc 1),(A.loc 2),(A.loc 3)])])))]) (A.cons (A.ret (A.k (.bool false))) A.nil) A.nil) A.nil) A.nil) A.nil)))))
def zhK(X:Cx):AS:=(A.cons (A.fr (A.itP (A.wF X 261 [(A.loc 1),(A.loc 2)])) (.one 3) (zhL X)) (A.cons (A.ret (A.k (.bool true))) A.nil))
theorem zmN(P:Gq)(X:Cx):cF X (hK P) 245 exs 293 [] ["_law_ledger","_law_own","_law_span"] [("_law_ledger",0),("_law_own",1),("_law_span",2),("_law_group",3),("_law_mark",4),("_law_told",5)]=some (zhK X):=by kernel_rfl
theorem znn(G:Gd X (hK P))(hd:n<600)
  (h:∀L,zhK (X.push L) ⟨n+1,hb⟩ [some a0,some a1,some a2,none,none,none] (A.wK Q) (A.kEz Z) U):CallOk X 293 ⟨n,hb⟩ [a0,a1,a2] Q Z U:=
 zX ["_law_ledger","_law_own","_law_span"] [("_law_ledger",0),("_law_own",1),("_law_span",2),("_law_group",3),("_law_mark",4),("_law_told",5)] G (zL P) (zmN P) (zdE fun a0 a1 a2=>by kernel_rfl) hd rfl h
def zhO(X:Cx):AS:=(A.cons (A.ex (A.wF X 288 [(A.loc 3),(A.loc 2),(A.loc 4),(A.loc 1)])) A.nil)
def zqn(X:Cx):AS:=(A.cons (A.set 1 (A.bin false .Mod (A.wF X 256 [(A.loc 0),(A.k (.int 0))]) (A.k (.int 5)))) (A.cons (A.if_ (A.cmp (A.bin false .Mod (A.bin false .FloorDiv (A.wF X 256 [(A.loc 0),(A.k (.int 0))]) (A.k (.int 5))) (A.k (.int 3))) [(.Eq,(A.k (.int 1)))]) (A.cons (A.set 1 (A.bin false .Add (A.k (.int 5)) (A.bin false .Mod (A.bin false .FloorDiv (A.wF X 256 [(A.loc 0),(A.k (.int 0))]) (A.k (.int 15))) (A.k (.int 26))))) A.nil) A.nil) (A.cons (A.set 2 (A.dic [((A.k (.str 0)),(A.lst true [])),((A.k (.str 1)),(A.lst true [])),((A.k (.str 18)),(A.lst true [])),((A.k (.str 25)),(A.lst false [])),((A.k (.str 20)),(A.idx (A.lst false [(A.k (.int 5)),(A.k (.int 20))]) (A.bin false .Mod (A.wF X 256 [(A.loc 0),(A.k (.int 1))]) (A.k (.int 2))))),((A.k (.str 21)),(A.k (.int 1)))])) (A.cons (A.wS (A.bin false .Add (A.k (.int 1)) (A.bin false .Mult (A.bin false .Mod (A.bin false .FloorDiv (A.wF X 256 [(A.loc 0),(A.k (.int 1))]) (A.k (.int 2))) (A.k (.int 2))) (A.bin false .Mod (A.bin false .FloorDiv (A.wF X 256 [(A.loc 0),(A.k (.int 1))]) (A.k (.int 4))) (A.bin false .Pow (A.k (.int 10)) (A.k (.int 8)))))) (A.loc 2) (A.k (.str 21))) (A.cons (A.wS (A.bin false .Mod (A.bin false .FloorDiv (A.wF X 256 [(A.loc 0),(A.k (.int 0))]) (A.k (.int 390))) (A.k (.int 9943))) (A.loc 2) (A.k (.str 22))) (A.cons (A.wS (A.bin false .Add (A.k (.int 1)) (A.bin false .Mod (A.wF X 256 [(A.loc 0),(A.k (.int 14))]) (A.k (.int 3)))) (A.loc 2) (A.k (.str 24))) (A.cons (A.set 3 (A.new X 245 178 [(A.loc 1)])) (A.cons (A.fr (A.itP (A.wW false (A.loc 0) (some (A.k (.int 2))) (some (A.k (.int 13))))) (.one 4) (zhO X)) (A.cons (A.if_ (A.wT (A.wF X 293 [(A.loc 3),(A.loc 2),(A.loc 1)])) (A.cons (A.ret (A.k (.bool false))) A.nil) A.nil) (A.cons (A.ex (A.wO X 245 none 242 (A.loc 3) [])) (A.cons (A.wS (A.lst false []) (A.loc 2) (A.k (.str 25))) (A.cons (A.ret (A.wF X 293 [(A.loc 3),(A.loc 2),(A.loc 1)])) A.nil))))))))))))
theorem zsB(P:Gq)(X:Cx):cF X (hK P) 245 exs 300 [(274,24),(274,36),(274,50)] ["_law_script"] [("_law_script",0),("_law_span",1),("_law_own",2),("_law_ledger",3),("_law_cell",4)]=some (zqn X):=by kernel_rfl
theorem zsT(G:Gd X (hK P))(hd:n<600)
  (h:∀L,zqn (X.push L) ⟨n+1,hb⟩ [some a0,none,none,none,none] (A.wK Q) (A.kEz Z) U):CallOk X 300 ⟨n,hb⟩ [a0] Q Z U:=
 zX ["_law_script"] [("_law_script",0),("_law_span",1),("_law_own",2),("_law_ledger",3),("_law_cell",4)] G (zL P) (zsB P) (zaU fun a0=>by kernel_rfl) hd rfl h
end
section
variable{P:Gq}{X:Cx}{n:Nat}{Q:zm}{Z:XP}{U:AHeap}
theorem qz{J:Type}{f:J->AV}{xs:List J}{k:Nat}{x:J}(h:xs[k]? = some x):jQ (xs.map f) (k:Int)=some (f x):=by rw[atIdx_nat,fAQ,h];rfl
theorem jG(G:Gd X (hK P))(hd:n<590){ns:List Int}{k:Nat}(q:Q (.int (ns.getD k 0)) U):CallOk X 256 ⟨n,false⟩ [.lst (ns.map .int),.int k] Q Z U:=by
 refine zlm G (gI hd (by decide)) fun L=>?_;refine kh (fun h=>?_) fun h=>?_
 .have h:=G7 h;rw[fC] at h;have hk:k<ns.length:=by exact zwU h
  have e:ns[k]? = some (ns.getD k 0):=by rw[fT,fV hk];rfl
  exact ze (qz e) (Ends.same q)
 .have h:=of_decide_eq_false h;rw[fC] at h;have hk:ns.length<=k:=by exact zxR h
  rw[fT,fAH hk] at q;exact Ends.same q
abbrev Mt:=List Int×List Int
noncomputable def zH(m:Mt):AV:=.tup [.tup (m.1.map .int),.tup (m.2.map .int)]
noncomputable def zf(m:Mt):List zd:=m.1.map (fun k=>(false,k))++m.2.map fun k=>(true,k)
theorem ziH(G:Gd X (hK P))(hd:n<590){m:Mt}(q:Q (.tup [.int ((m.1.length:Int)+m.2.length),zH m]) U):CallOk X 137 ⟨n,false⟩ [zH m] Q Z U:=by
 refine zll G (gI hd (by decide)) fun L=>?_
 conv=>whnf
 rw[fC,fC];exact Ends.same q
theorem kJ(G:Gd X (hK P))(hd:n<590){m:Mt}(h1:m.1.length<=1000)(h2:m.2.length<=1000)(q:Q (.lst ((zf m).map zz)) U):CallOk X 120 ⟨n,false⟩ [zH m] Q Z U:=by
 refine zji G (gI hd (by decide)) fun L=>?_;refine zN (fun k=>zz (false,k)) (fun _=>rfl) (fun _ _=>rfl) (fun x _ R q=>q) trivial (by exact ze2 h1) ?_;refine zN (fun k=>zz (true,k)) (fun _=>rfl) (fun _ _=>rfl) (fun x _ R q=>q) trivial (by exact ze2 h2) ?_;refine zG (by rw[fC,fC];exact zrZ h1 h2) (Ends.same ?_);unfold zf at q;rw[fQ,fY,fY] at q;exact q
theorem za9(G:Gd X (hK P))(hd:n<590){i:Int}(q:Q (.bool true) U):CallOk X 21 ⟨n,false⟩ [.int i] Q Z U:=
 zjh G (gI hd (by decide)) fun L=>Ends.same q
noncomputable def za4(d c:Int):Bool:=decide (0<=d)&&decide (d<=9999)&&decide (0-1000000000<=c)&&decide (c<=1000000000)&&!decide (c=0)
theorem zhz(G:Gd X (hK P))(hd:n<580){i c:Int}(q:Q (.bool (za4 i c)) U):CallOk X 28 ⟨n,false⟩ [.int i,.int c] Q Z U:=by
 refine zjg G (gI hd (by decide)) fun L=>?_;refine za9 (G.push L) (by exact zix hd) ?_;refine za9 (G.push L) (by exact zix hd) ?_;have fin:∀b,za4 i c=b->Ends Q (.bool b) U:=fun b e=>Ends.same (e▸q);unfold za4 at fin
 repeat' ((conv=>whnf);(refine kh (fun _=>?_) fun _=>?_))
 all_goals (refine fin _ ?_;simp only[*,fCD,Bool.true_and,fDG,Bool.false_and,fCC,Bool.not_false])
theorem zc7(G:Gd X (hK P))(hd:n<590){pb pk:Addr}{es fs:List AV}{m:zd}{k:Nat}{e:AV}(hb:U pb=some (.list es))(hk:U pk=some (.list fs))(he:(if m.1 then fs else es)[k]? = some e)(hm:m.2=k)(q:Q e U) :
  CallOk X 35 ⟨n,false⟩ [.ref pb,.ref pk,zz m] Q Z U:=by
 obtain⟨b,i⟩:=m;cases hm;refine zje G (gI hd (by decide)) fun L=>?_;cases b with
 | false=>
  refine jq hb (ze (atIdx_nat.trans he) (Ends.same q))
 | true=>
  refine jq hk (ze (atIdx_nat.trans he) (Ends.same q))
theorem zaD(m:zd):Flat 1 (zz m):=.tup fun x hx=>by
 rcases fF.mp hx with rfl|hx
 .exact .str (by cases m.1<;>decide)
 .rcases fF.mp hx with rfl|hx
  .exact .int _
  .cases hx
theorem znM{m m':zd}(h:zz m=zz m'):m=m':=by
 obtain⟨b,i⟩:=m;obtain⟨b',i'⟩:=m';cases b<;>cases b'<;>cases h<;>rfl
theorem zgp{m:zd}{ms:List zd}:zz m∈ms.map zz↔m∈ms:=⟨fun h=>by refine zb (fO.mp h) fun x h1 h2=>?_;rw[<-znM h2];exact h1,fun h=>gZ h⟩
theorem inM{m:zd}{ms:List zd}{c:AV}{R:Bool->AHeap->Prop}(hc:c = .lst (ms.map zz)\/c = .tup (ms.map zz))(q:R (decide (m∈ms)) U):inG (zz m) c R U:=by
 refine zhr hc (zaD m) (fun y hy=>?_) (by decide) (fun h=>?_) fun h=>?_
 .refine zb (fO.mp hy) fun x _ e4_2=>?_;subst e4_2;exact zaD x
 .rw[zgp] at h;rw[G6 h] at q;exact q
 .rw[zgp] at h;rw[G5 h] at q;exact q
noncomputable def zqv(r ms:List zd):List zd:=r.filter fun y=>!decide (y∈ms)
theorem zj6(G:Gd X (hK P))(hd:n<590){r ms:List zd}(hl:r.length<=1000)(q:Q (if ∀y∈ms,y∈r then zA (zqv r ms) else .none) U) :
  CallOk X 147 ⟨n,false⟩ [zA r,.lst (ms.map zz)] Q Z U:=by
 refine zlp G (gI hd (by decide)) fun L=>?_;refine zcN (β:=Unit) (g:=zz) (fun xs _ l U'=>U'=U/\(∃x,l=[some (zA r),some (.lst (ms.map zz)),x])/\(∀y∈ms,y∈xs\/y∈r)/\∀y∈xs,y∈ms) (fun b _=>b) ?_ (b:=()) ?_ (zn rfl ⟨_,rfl⟩ (fun y hy=>.inl hy) (fun y hy=>hy))
 .rintro x xs _ l U' K ⟨rfl,⟨v,rfl⟩,h1,h2⟩ hK;refine zc _ rfl ?_;refine inM (.inr rfl) ?_
  by_cases hx:x∈r
  .rw[G6 hx];refine⟨trivial,hK _ _ (zn rfl ⟨_,rfl⟩ (fun y hy=>?_) (fun y hy=>h2 y (fA _ hy)))⟩
   rcases h1 y hy with h|h
   .rcases fF.mp h with rfl|h
    .exact .inr hx
    .exact .inl h
   .exact .inr h
  .rw[G5 hx];rw[if_neg fun h=>hx (h x (h2 x fB))] at q;exact Ends.same q
 .rintro l U' ⟨rfl,⟨v,rfl⟩,h1,_⟩;rw[if_pos fun y hy=>(h1 y hy).resolve_left (by intro h;cases h)] at q;refine zO (g:=zz) (fun y=>!decide (y∈ms)) zz (fun _=>rfl) (fun _ _=>rfl) (fun x _ R q=>?_) (fun x _ _ R q=>q) trivial (by exact ze2 hl) ?_
  .exact inM (.inl rfl) q
  .exact Ends.same q
end
section
variable{P:Gq}{X:Cx}{n:Nat}{Q:zm}{Z:XP}{U:AHeap}
theorem zaK{U:AHeap}{p:Addr}{o o':AO}:(U.set p o).set p o'=U.set p o':=by
 funext b
 by_cases h:b=p
 .subst h;rw[AHeap.wA,AHeap.wA]
 .rw[AHeap.wB _ _ h,AHeap.wB _ _ h,AHeap.wB _ _ h]
theorem jF{U:AHeap}{p:Addr}{o:AO}(h:U p=none):∀a o',U a=some o'->U.set p o a=some o':=fun a o' e=>by
 rw[AHeap.wB _ _ (by rintro rfl;rw[h] at e;cases e)];exact e
theorem Ends.vB{p:Addr}{xs:List AV}(h:U p=none)(q:Q (.lst xs) U):Ends Q (.ref p) (U.set p (.list xs)):=.one (jF h) (AHeap.wA ..) h q
noncomputable def qt(r:List zd)(m:Mt):Option (List zd):=match r with
 | []=>none
 | x::t=>if x∈zf m/\∀y∈zf m,y∈x::t then some ((x::t).filter fun y=>!decide (y∈zf m)) else none
noncomputable def tk(ms:List Mt)(r:List zd):List (Mt×List zd):=ms.filterMap fun m=>(qt r m).map fun b=>(m,b)
noncomputable def zpG(x:Mt×List zd):AV:=.tup [zH x.1,zA x.2]
def znO(m:Mt):Prop:=m.1.length<=4/\m.2.length<=4
noncomputable def tk1(r:List zd)(b:List (Mt×List zd))(m:Mt):List (Mt×List zd):=b++((qt r m).map fun y=>(m,y)).toList
theorem zpI(r:List zd)(ms:List Mt)(b:List (Mt×List zd)):ms.foldl (tk1 r) b=b++tk ms r:=by
 induction ms generalizing b with
 | nil=>exact(gO b).symm
 | cons m ms ih=>
  rw[pM,ih];unfold tk1 tk;rw[List.filterMap_cons];cases qt r m with
  | none=>simp
  | some y=>simp
theorem zaL(G:Gd X (hK P))(hd:n<570){x:zd}{t:List zd}{ms:List Mt}(hl:(x::t).length<=1000)(hm:∀m∈ms,znO m)(hml:ms.length<=100000)(q:Q (.lst ((tk ms (x::t)).map zpG)) U) :
  CallOk X 154 ⟨n,false⟩ [zA (x::t),.lst (ms.map zH)] Q Z U:=by
 refine zhE G (gI hd (by decide)) fun L=>?_;intro p hp;refine zC (g:=zH) (fun xs b l U'=>U'=U.set p (.list (b.map zpG))/\(∃u v w,l=[some (zA (x::t)),some (.lst (ms.map zH)),some (.ref p),u,v,w])/\b.length+xs.length<=100000/\∀y∈xs,znO y) (tk1 (x::t)) ?_ (b:=[]) ?_ (zn rfl (z8 _ _ _ rfl) (by simpa using hml) hm)
 .intro m xs b l U' K S_ hR1;refine zx hR1 fun e0_0 h0_1 h1 h2=>?_;subst e0_0;obtain⟨u,v,w,rfl⟩:=h0_1;intro hK;refine zc _ rfl ?_;have hmo:=h2 m fB;refine kJ (G.push L) (by exact zml hd) (by have:=hmo.1;exact zto this) (by have:=hmo.2;exact zto this) ?_;refine inM (.inl rfl) ?_;have hle:(tk1 (x::t) b m).length+xs.length<=100000:=by
   unfold tk1;cases qt (x::t) m<;>simp<;>(first|exact ztA h1|exact zty h1)
  have hK:=fun u v w=>hK _ _ (zn rfl (z8 u v w rfl) hle (fun y hy=>h2 y (fA _ hy)));have hlo:qt (x::t) m=if x∈zf m/\∀y∈zf m,y∈x::t then some (zqv (x::t) (zf m)) else none:=rfl
  refine kh (fun h=>?_) fun h=>?_
  .have h:=G7 h;refine zj6 (G.push L) (by exact zml hd) hl ?_
   by_cases hy:∀y∈zf m,y∈x::t
   .rw[if_pos hy];rw[if_pos ⟨h,hy⟩] at hlo;refine zo (AHeap.wA ..) ?_;refine zo (AHeap.wA ..) ?_;refine zG (by rw[fC];exact ztz h1) ?_;refine⟨trivial,?_⟩;rw[zaK];unfold tk1 at hK;rw[hlo,Option.map_some,Option.toList_some,fQ] at hK;exact hK _ _ _
   .rw[if_neg hy];rw[if_neg fun h=>hy h.2] at hlo;unfold tk1 at hK;rw[hlo,Option.map_none,Option.toList_none,gO] at hK;exact⟨trivial,hK _ _ _⟩
  .have h:=of_decide_eq_false h;rw[if_neg fun q=>h q.1] at hlo;unfold tk1 at hK;rw[hlo,Option.map_none,Option.toList_none,gO] at hK;exact⟨trivial,hK _ _ _⟩
 .intro l U' hR2;refine zx hR2 fun e1_0 h1_1 _ _=>?_;subst e1_0;obtain⟨u,v,w,rfl⟩:=h1_1;rw[zpI,pX];exact Ends.vB hp q
end
section
variable{P:Gq}{X:Cx}{n:Nat}{Q:zm}{Z:XP}{U:AHeap}
theorem zgw{J:Type}{f:J->AV}{u:AV->J}(hu:∀x,u (f x)=x){ys:List AV}{xs:List J}(h:ys.Perm (xs.map f)):(ys.map u).Perm xs/\ys=(ys.map u).map f:=by
 have h1:(ys.map u).Perm ((xs.map f).map u):=h.map u;rw[fY] at h1;have h2:xs.map (u∘f)=xs:=by
  have:u∘f=id:=funext hu;rw[this,fBY]
 rw[h2] at h1;refine⟨h1,?_⟩;rw[fY];refine(fBY ys).symm.trans (pG fun y hy=>?_);refine zb (fO.mp (h.mem_iff.mp hy)) fun x _ e0_2=>?_;subst e0_2;show f x=f (u (f x));rw[hu]
noncomputable def srt{J:Type}(Y:J->Nat)(xs:List J):List J:=xs.mergeSort fun a b=>decide (Y a<=Y b)
theorem js{J:Type}(Y:J->Nat)(xs:List J):(srt Y xs).Perm xs:=List.mergeSort_perm xs _
theorem zgL{J:Type}(Y:J->Nat)(xs:List J):(srt Y xs).Pairwise fun a b=>Y a<=Y b:=by
 have h:=List.pairwise_mergeSort (le:=fun a b=>decide (Y a<=Y b)) (fun a b c h1 h2=>G6 (fN (G7 h1) (G7 h2))) (fun a b=>by
  rcases fC7 (Y a) (Y b) with h|h
  .rw[G6 h];rfl
  .rw[G6 h,Bool.or_true]) xs
 exact h.imp fun h=>G7 h
theorem zio{J:Type}{Y:J->Nat}{xs ys:List J}(hi:∀x∈xs,∀y∈xs,Y x=Y y->x=y)(h1:ys.Perm xs)(h2:ys.Pairwise fun a b=>Y a<=Y b):ys=srt Y xs:=
 List.Perm.eq_of_pairwise (fun a b ha hb h1' h2'=>hi a (h1.mem_iff.mp ha) b ((js Y xs).mem_iff.mp hb) (fAF h1' h2')) h2 (zgL Y xs) (h1.trans (js Y xs).symm)
theorem zeF{J:Type}{f:J->AV}{r:Bool}(u:AV->J)(hu:∀x,u (f x)=x){xs:List J}(Y:J->Nat)(hi:∀x∈xs,∀y∈xs,Y x=Y y->x=y)(hk:ziz (xs.map f))(hlt:∀x∈xs,∀y∈xs,ziA U (f x) (f y) (decide (Y x<Y y)))
  (q:mkL r ((srt Y xs).map f) Q U):zfE r (xs.map f) Q U:=by
 unfold zfE;refine zv (fun v=>Y (u v)) hk (fun a ha b hb=>?_) (fun ys h1 h2=>?_)
 .refine zb (fO.mp ha) fun x hx e1_2=>?_;subst e1_2;refine zb (fO.mp hb) fun y hy e2_2=>?_;subst e2_2;simp only[hu];exact hlt x hx y hy
 .obtain⟨p1,p2⟩:=zgw hu h1;rw[p2,zio hi p1 (fA1.mpr h2)];exact q
noncomputable abbrev Ent:=Int×Int
noncomputable def zD(e:Ent):AV:=.tup [.int e.1,.int e.2]
noncomputable abbrev Tr:=Int×zd
noncomputable def zaQ(t:Tr):AV:=.tup [.int t.1,.str t.2.1.toNat,.int t.2.2]
noncomputable def zrE(v:AV):Tr:=match v with
 | .tup [.int d,.str s,.int k]=>(d,(Nat.beq s 1,k))
 | _=>(0,(false,0))
theorem zqy(t:Tr):zrE (zaQ t)=t:=by
 obtain⟨d,b,k⟩:=t;cases b<;>rfl
noncomputable def zaI(t:Tr):Nat:=(t.1.toNat*2+t.2.1.toNat)*1000000+t.2.2.toNat
structure TrOk(t:Tr):Prop where
 day:0<=t.1
 lo:0<=t.2.2
 hi:t.2.2<1000000
theorem zaC{M x y k k':Nat}(h:k<M)(h':k'<M)(e:x*M+k=y*M+k'):x=y/\k=k':=by
 have e1:x=y:=by
  rcases fCX x y with hl|hl|hl
  .exact absurd e (fAM (pF (fA7 h _) (fN (fBB x M▸gP M hl) (fA8 ..))))
  .exact hl
  .exact absurd e (Nat.ne_of_gt (pF (fA7 h' _) (fN (fBB y M▸gP M hl) (fA8 ..))))
 subst e1;exact⟨rfl,Nat.add_left_cancel e⟩
theorem zbb{M x y k k':Nat}(h:k<M)(h':k'<M):x*M+k<y*M+k'↔x<y\/x=y/\k<k':=by
 constructor
 .intro e
  rcases fCX x y with hl|hl|hl
  .exact .inl hl
  .subst hl;exact .inr ⟨rfl,Nat.lt_of_add_lt_add_left e⟩
  .exact absurd e (Nat.not_lt_of_ge (fBI (pF (fA7 h' _) (fN (fBB y M▸gP M hl) (fA8 ..)))))
 .rintro(hl|⟨rfl,hl⟩)
  .exact pF (fA7 h _) (fN (fBB x M▸gP M hl) (fA8 ..))
  .exact fA7 hl _
theorem ql{k:Int}(h:k<1000000):k.toNat<1000000:=y33 h
theorem zan{a b:Int}(ha:0<=a)(hb:0<=b)(e:a.toNat=b.toNat):a=b:=by rw[<-fA6 ha,e,fA6 hb]
theorem zao{a b:Int}(ha:0<=a)(hb:0<=b):a.toNat<b.toNat↔a<b:=by rw[Int.lt_toNat,fA6 ha]
theorem zey{t u:Tr}(ht:TrOk t)(hu:TrOk u)(h:zaI t=zaI u):t=u:=by
 obtain⟨d,b,k⟩:=t;obtain⟨d',b',k'⟩:=u;obtain⟨h1,h2⟩:=zaC (ql ht.hi) (ql hu.hi) h;obtain⟨h3,h4⟩:=zaC (pV (fA5 b)) (pV (fA5 b')) h1;have e1:d=d':=zan ht.day hu.day h3;have e2:k=k':=zan ht.lo hu.lo h2;subst e1 e2;cases b<;>cases b'<;>first|rfl|cases h4
theorem zmT(a c:Int)(b:Str):(PyData.tuple [.int a,.str b,.int c]).depth<=100:=by simp only[PyData.depth,PyData.depthAll];decide
theorem zkI:∀c:Bool,PyData.eqv (.str (zy c.toNat)) (.str (zy (!c).toNat))=false:=by decide +kernel
theorem zic:∀c:Bool,ltD (.str (zy c.toNat)) (.str (zy (!c).toNat))=some (!c):=by
 intro c;cases c<;>decide +kernel
theorem zfY{p q:Prop}[Decidable p][Decidable q](h:p↔q):some (decide p)=some (decide q):=congrArg some (decide_eq_decide.mpr h)
theorem zqx{t u:Tr}(ht:TrOk t)(hu:TrOk u):ziA U (zaQ t) (zaQ u) (decide (zaI t<zaI u)):=by
 obtain⟨d,b,k⟩:=t;obtain⟨d',b',k'⟩:=u;refine jr _ _ (.tup (.cons (.int _) (.cons (.str _) (.cons (.int _) .nil)))) (.tup (.cons (.int _) (.cons (.str _) (.cons (.int _) .nil)))) (zmT ..) (zmT ..) ?_;have hd:=zao ht.day hu.day;have hk:=zao ht.lo hu.lo;have key:zaI (d,b,k)<zaI (d',b',k')↔d<d'\/d=d'/\(b.toNat<b'.toNat\/b.toNat=b'.toNat/\k<k'):=by
  unfold zaI;dsimp only at hd hk ⊢;rw[zbb (ql ht.hi) (ql hu.hi),zbb (pV (fA5 b)) (pV (fA5 b')),hd,hk];constructor
  .rintro((h|⟨h1,h2⟩)|⟨h1,h2⟩)
   .exact .inl h
   .exact .inr ⟨zan ht.day hu.day h1,.inl h2⟩
   .obtain⟨h3,h4⟩:=zaC (pV (fA5 b)) (pV (fA5 b')) h1;exact .inr ⟨zan ht.day hu.day h3,.inr ⟨h4,h2⟩⟩
  .rintro(h|⟨rfl,h|⟨h1,h2⟩⟩)
   .exact .inl (.inl h)
   .exact .inl (.inr ⟨rfl,h⟩)
   .exact .inr ⟨by rw[h1],h2⟩
 rw[zde,qV]
 by_cases e:d=d'
 .subst e;rw[if_pos (by simp only[PyData.eqv,BEq.rfl]),qV];have key:zaI (d,b,k)<zaI (d,b',k')↔(b.toNat<b'.toNat\/b.toNat=b'.toNat/\k<k'):=key.trans ⟨fun h=>(h.resolve_left (fC0 d)).2,fun h=>.inr ⟨rfl,h⟩⟩;have same:∀c:Bool,(if PyData.eqv (.str (zy c.toNat)) (.str (zy c.toNat)) then zbN [.int k] [.int k'] else ltD (.str (zy c.toNat)) (.str (zy c.toNat)))=some (decide (k<k')):=fun c=>by
   rw[if_pos (by simp only[PyData.eqv,BEq.rfl]),qV]
   by_cases ek:k=k'
   .subst ek;rw[if_pos (by simp only[PyData.eqv,BEq.rfl]),zgk,G5 (fC0 k)]
   .rw[if_neg (by simpa only[PyData.eqv,beq_iff_eq] using ek),zcg]
  cases b<;>cases b'
  .exact(same false).trans (zfY (key.trans ⟨fun h=>(h.resolve_left (fBP 0)).2,fun h=>.inr ⟨rfl,h⟩⟩).symm)
  .refine Eq.trans ?_ (congrArg some (G6 (key.mpr (.inl Nat.zero_lt_one))).symm);exact(if_neg (ne_true_of_eq_false (zkI false))).trans (zic false)
  .refine Eq.trans ?_ (congrArg some (G5 fun h=>(key.mp h).elim (fDD _) fun h=>nomatch h.1).symm);exact(if_neg (ne_true_of_eq_false (zkI true))).trans (zic true)
  .exact(same true).trans (zfY (key.trans ⟨fun h=>(h.resolve_left (fBP 1)).2,fun h=>.inr ⟨rfl,h⟩⟩).symm)
 .rw[if_neg (by simpa only[PyData.eqv,beq_iff_eq] using e),zcg];exact zfY (key.trans ⟨fun h=>h.resolve_right fun h=>e h.1,.inl⟩).symm
noncomputable def kE(s:Bool)(es:List Ent):List Tr:=(List.range es.length).map fun i=>((es.getD i (0,0)).1,(s,(i:Int)))
noncomputable def zaT(es fs:List Ent):List Tr:=kE false es++kE true fs
noncomputable def inO(es fs:List Ent):List Tr:=srt zaI (zaT es fs)
structure EsOk(es:List Ent):Prop where
 day:∀e∈es,0<=e.1/\e.1<=9999
 cents:∀e∈es,e.2.natAbs<=1000000000
 len:es.length<=1000
theorem getD_mem{J:Type}{l:List J}{k:Nat}{d:J}(h:k<l.length):l.getD k d∈l:=by
 rw[fT,fV h];exact fBK h
theorem jo{J:Type}{l:List J}{k:Nat}{d:J}(h:k<l.length):l[k]? = some (l.getD k d):=by
 rw[fT,fV h];rfl
theorem jL{es fs:List Ent}(he:EsOk es)(hf:EsOk fs){t:Tr}(h:t∈zaT es fs):TrOk t/\∃k:Nat,t.2.2=k/\k<(if t.2.1 then fs else es).length/\((if t.2.1 then fs else es).getD k (0,0)).1=t.1:=by
 rcases fR.mp h with h|h<;>obtain⟨i,hi,rfl⟩:=fO.mp h<;>have hi:=pH.mp hi
 .have:=he.len;exact zgc ⟨(he.day _ (getD_mem hi)).1,fAW i,by show (i:Int)<1000000;exact ztL hi this⟩ i rfl hi rfl
 .have:=hf.len;exact zgc ⟨(hf.day _ (getD_mem hi)).1,fAW i,by show (i:Int)<1000000;exact ztL hi this⟩ i rfl hi rfl
theorem zmy(es fs:List Ent):(zaT es fs).length=es.length+fs.length:=by unfold zaT kE;simp
theorem inO_mem{es fs:List Ent}{t:Tr}:t∈inO es fs↔t∈zaT es fs:=(js ..).mem_iff
theorem zaw(es fs:List Ent):(inO es fs).length=es.length+fs.length:=by rw[<-zmy];exact(js ..).length_eq
theorem zhu(G:Gd X (hK P))(hd:n<590){pb pk:Addr}{es fs:List Ent}(hb:U pb=some (.list (es.map zD)))(hk:U pk=some (.list (fs.map zD)))(he:EsOk es)(hf:EsOk fs)(q:Q (.lst ((inO es fs).map fun t=>zz t.2)) U) :
  CallOk X 40 ⟨n,false⟩ [.ref pb,.ref pk] Q Z U:=by
 refine zjf G (gI hd (by decide)) fun L=>?_;have l1:=he.len;have l2:=hf.len;refine ze (zE hb) ?_;rw[fC];refine zeo (ze2 l1) ?_;refine zN (fun i=>zaQ ((es.getD i (0,0)).1,(false,(i:Int)))) (fun _=>rfl) (fun _ _=>rfl) (fun i hi R q=>?_) trivial (by rw[pD];exact ze2 l1) ?_
 .refine jq hb (ze (qz (jo (d:=(0,0)) (pH.mp hi))) ?_);exact q
 refine ze (zE hk) ?_;rw[fC];refine zeo (ze2 l2) ?_;refine zN (fun i=>zaQ ((fs.getD i (0,0)).1,(true,(i:Int)))) (fun _=>rfl) (fun _ _=>rfl) (fun i hi R q=>?_) trivial (by rw[pD];exact ze2 l2) ?_
 .refine jq hk (ze (qz (jo (d:=(0,0)) (pH.mp hi))) ?_);exact q
 refine zG (by rw[fC,fC,pD,pD];exact zrZ l1 l2) ?_;have e:((List.range es.length).map fun i=>zaQ ((es.getD i (0,0)).1,(false,(i:Int))))++((List.range fs.length).map fun i=>zaQ ((fs.getD i (0,0)).1,(true,(i:Int))))=(zaT es fs).map zaQ:=by
  unfold zaT kE;rw[fQ,fY,fY];rfl
 rw[e];refine zeF zrE zqy zaI (fun x hx y hy=>zey (jL he hf hx).1 (jL he hf hy).1) (.inl fun x hx=>?_) (fun x hx y hy=>zqx (jL he hf hx).1 (jL he hf hy).1) ?_
 .refine zb (fO.mp hx) fun t _ e13_2=>?_;subst e13_2;exact jf _ _ rfl
 refine zN (fun t=>zz t.2) (fun _=>rfl) (fun _ _=>rfl) (fun t ht R q=>q) trivial (by have:=zaw es fs;unfold inO at this;exact zui l1 l2 this) ?_;exact Ends.same q
end
section
variable{P:Gq}{X:Cx}{n:Nat}{Q:zm}{Z:XP}{U:AHeap}
inductive Hold(U:AHeap):List Addr->List (List AV)->Prop
 | nil:Hold U [] []
 | cons {r:Addr} {rs:List Addr} {g:List AV} {gs:List (List AV)}:U r=some (.list g)->Hold U rs gs->Hold U (r::rs) (g::gs)
theorem Hold.set{p:Addr}{o:AO}{rs gs}(h:Hold U rs gs)(hp:p∉rs):Hold (U.set p o) rs gs:=by
 induction h with
 | nil=>exact .nil
 | cons h r ih=>exact .cons (by rw[AHeap.wB _ _ (fun e=>hp (by rw[e];exact fB))];exact h) (ih fun q=>hp (fA _ q))
theorem Hold.snoc{p:Addr}{g:List AV}(hp:U p=some (.list g)){rs gs}(h:Hold U rs gs):Hold U (rs++[p]) (gs++[g]):=by
 induction h with
 | nil=>exact .cons hp .nil
 | cons h r ih=>exact .cons h ih
theorem Hold.unsnoc{gs:List (List AV)}{g:List AV}{rs:List Addr}(h:Hold U rs (gs++[g])):∃rs' r,rs=rs'++[r]/\Hold U rs' gs/\U r=some (.list g):=by
 induction gs generalizing rs with
 | nil=>cases h with|cons h r=>cases r;exact⟨[],_,rfl,.nil,h⟩
 | cons g' gs ih=>
  cases h with
  | cons h r=>
   refine zp (ih r) fun rs' q e h1 h2=>?_;exact zP (_::rs') q (by rw[e];rfl) (.cons h h1) h2
theorem Hold.at_{rs:List Addr}{gs:List (List AV)}(h:Hold U rs gs){a:Addr}{g:List AV}(e:(rs.zip gs).lookup a=some g):a∈rs/\U a=some (.list g):=by
 induction h with
 | nil=>cases e
 | @cons r rs g' gs h hr ih=>
  rw[fCO,pB] at e;split at e
  .rename_i e';obtain rfl:=G4 e;rw[G8 e'];exact⟨fB,h⟩
  .exact⟨fA _ (ih e).1,(ih e).2⟩
theorem zm4{φ:Addr->Option (List AV)}(l:List AV):FzL φ l l:=by
 induction l with
 | nil=>exact .nil
 | cons x l ih=>exact .cons (.same x) ih
theorem Ends.lists{U':AHeap}{p:Addr}{rs:List Addr}{gs:List (List AV)}(hs:∀a o,U a=some o->U' a=some o)(hp:U' p=some (.list (rs.map .ref)))(h:Hold U' rs gs)(nd:(p::rs).Nodup)(hn:∀a∈p::rs,U a=none)(q:Q (.lst (gs.map .lst)) U):Ends Q (.ref p) U':=by
 have nd':=fU.mp nd;unfold Ends;refine kr (fun a=>if a=p then some (gs.map .lst) else (rs.zip gs).lookup a) U _ ⟨fun a ys e=>?_,hs⟩ (.lst (if_pos rfl)) q;split at e
 .rename_i e';subst e';cases e
  refine zax (hn _ fB) _ hp ?_;have gen:∀(φ:Addr->Option (List AV)) (rs:List Addr) (gs:List (List AV)),rs.length=gs.length->(∀r g,(r,g)∈rs.zip gs->φ r=some g)->FzL φ (rs.map .ref) (gs.map .lst):=fun φ rs=>by
   induction rs with
   | nil=>intro gs hl _;cases gs with
    | nil=>exact .nil
    | cons _ _=>cases hl
   | cons r rs ih=>intro gs hl hφ;cases gs with
    | nil=>cases hl
    | cons g gs=>exact .cons (.lst (hφ r g fB)) (ih gs (Nat.succ.inj hl) fun r g h=>hφ r g (fA _ h))
  have hl:rs.length=gs.length:=by clear hp nd nd' hn q;induction h with
   | nil=>rfl
   | cons _ _ ih=>rw[fH,fH,ih]
  refine gen _ rs gs hl fun r g hrg=>?_;have hr:r∈rs:=(fBQ hrg).1;rw[if_neg (fun e:r=a=>nd'.1 (e▸hr))];clear hp hn nd h q hr;have nd:=nd'.2;clear nd'
  induction rs generalizing gs with
  | nil=>cases hrg
  | cons r' rs ih=>
   cases gs with
   | nil=>cases hl
   | cons g' gs=>
    have nd:=fU.mp nd;rw[fCO,pB]
    rcases fF.mp hrg with e|hrg
    .cases e;rw[BEq.rfl]
    .have hne:(r==r')=false:=beq_eq_false_iff_ne.mpr fun e=>nd.1 (e▸(fBQ hrg).1);rw[hne];exact ih (Nat.succ.inj hl) hrg nd.2
 .obtain⟨h1,h2⟩:=h.at_ e;exact zax (hn _ (fA _ h1)) _ h2 (zm4 _)
theorem zfN(xs:List AV)(x:AV):jQ (xs++[x]) (-1)=some x:=by
 unfold jQ;rw[if_neg (by decide),fE,fS,if_pos zwI];have:(-1+((xs.length+1:Nat):Int)).toNat=xs.length:=zwL;rw[this,pI (fM _),fB0];rfl
noncomputable def kL(span:Int)(l:Option Int)(d:Int):Bool:=match l with
 | none=>true
 | some l=>decide (d>l+span)
noncomputable def j7(gs:List (List zd))(m:zd):List (List zd):=match gs.getLast? with
 | none=>gs
 | some g=>gs.dropLast++[g++[m]]
theorem ju(gs:List (List zd))(g:List zd)(m:zd):j7 (gs++[g]) m=gs++[g++[m]]:=by unfold j7;simp
noncomputable def j3(span:Int)(b:List (List zd)×Option Int)(t:Tr):List (List zd)×Option Int:=(j7 (if kL span b.2 t.1 then b.1++[[]] else b.1) t.2,some t.1)
noncomputable def grps(es fs:List Ent)(span:Int):List (List zd):=((inO es fs).foldl (j3 span) ([],none)).1
noncomputable def zq2(l:Option Int):AV:=match l with
 | none=>.none
 | some i=>.int i
noncomputable def gAV(g:List zd):AV:=.lst (g.map zz)
structure GrpAt(U U':AHeap)(p:Addr)(gs:List (List zd)):Prop where
 ex:∃rs:List Addr,U' p=some (.list (rs.map .ref))/\Hold U' rs (gs.map fun g=>g.map zz)/\(p::rs).Nodup/\∀a∈p::rs,U a=none
 sub:∀a o,U a=some o->U' a=some o
theorem zcb{rs:List Addr}{gs:List (List AV)}(h:Hold U rs gs):rs.length=gs.length:=by
 induction h with
 | nil=>rfl
 | cons _ _ ih=>rw[fH,fH,ih]
theorem Hold.some{rs:List Addr}{gs:List (List AV)}(h:Hold U rs gs){r:Addr}(hr:r∈rs):U r≠none:=by
 induction h with
 | nil=>cases hr
 | cons h' _ ih=>
  rcases fF.mp hr with rfl|hr
  .rw[h'];exact fun e=>nomatch e
  .exact ih hr
theorem GrpAt.vK{U':AHeap}{p r:Addr}{rs:List Addr}{gs:List (List zd)}(h1:U' p=some (.list (rs.map .ref)))(h2:Hold U' rs (gs.map fun g=>g.map zz))(h3:(p::rs).Nodup)(h4:∀a∈p::rs,U a=none)(hs:∀a o,U a=some o->U' a=some o)(hr:U' r=none) :
  GrpAt U ((U'.set r (.list [])).set p (.list (rs.map .ref++[.ref r]))) p (gs++[[]]):=by
 have hrp:r≠p:=by rintro rfl;rw[h1] at hr;exact absurd hr (fJ _)
 have hrs:r∉rs:=fun h=>h2.some h hr;have hrσ:U r=none:=by
  cases e:U r with
  | none=>rfl
  | some o=>rw[hs r o e] at hr;exact absurd hr (fJ _)
 have nd:=fU.mp h3;refine⟨(jN (rs++[r]) ?_ ?_ ?_ ?_),fun a o e=>?_⟩
 .rw[AHeap.wA,fQ];rfl
 .rw[fQ];exact Hold.snoc (by rw[AHeap.wB _ _ hrp];exact AHeap.wA ..) ((h2.set hrs).set nd.1)
 .refine fU.mpr ⟨fun h=>?_,gX.mpr (zq nd.2 (fU.mpr ⟨gB,.nil⟩) (fun a ha b hb e=>?_))⟩
  .rcases fR.mp h with h|h
   .exact nd.1 h
   .exact hrp (fG.mp h).symm
  .rw[fG.mp hb] at e;exact hrs (e▸ha)
 .intro a ha
  rcases fF.mp ha with rfl|ha
  .exact h4 _ fB
  .rcases fR.mp ha with ha|ha
   .exact h4 _ (fA _ ha)
   .rw[fG.mp ha];exact hrσ
 .rw[AHeap.wB _ _ (by rintro rfl;rw[h4 _ fB] at e;cases e),AHeap.wB _ _ (by rintro rfl;rw[hrσ] at e;cases e)];exact hs a o e
theorem zc9(G:Gd X (hK P))(hd:n<580){pb pk:Addr}{es fs:List Ent}{span:Int}(hb:U pb=some (.list (es.map zD)))(hk:U pk=some (.list (fs.map zD)))(he:EsOk es)(hf:EsOk fs)(q:∀U' p,GrpAt U U' p (grps es fs span)->Ends Q (.ref p) U') :
  CallOk X 47 ⟨n,false⟩ [.ref pb,.ref pk,.int span] Q Z U:=by
 refine zno G (gI hd (by decide)) fun L=>?_;intro p hp;have hbp:pb≠p:=by rintro rfl;rw[hp] at hb;exact absurd (Eq.symm hb) (fJ _)
 have hkp:pk≠p:=by rintro rfl;rw[hp] at hk;exact absurd (Eq.symm hk) (fJ _)
 refine zhu (G.push L) (zix hd) ((AHeap.wB _ _ hbp).trans hb) ((AHeap.wB _ _ hkp).trans hk) he hf ?_;refine zC (g:=fun t:Tr=>zz t.2) (fun xs b l U'=>GrpAt U U' p b.1/\(b.2=none\/b.1≠[])/\(∃u v,l=[some (.ref pb),some (.ref pk),some (.int span),some (.ref p),some (zq2 b.2),u,v])/\(b.1.length+xs.length<=100000/\∀g∈b.1,g.length+xs.length<=100000)/\∀t∈xs,t∈zaT es fs) (j3 span) ?_ (b:=([],none)) ?_
  (jb ⟨(jN [] (AHeap.wA ..) .nil (fU.mpr ⟨gB,.nil⟩) (fun a ha=>by rcases fG.mp ha with rfl;exact hp)),jF hp⟩ (.inl rfl) (jf _ _ rfl) ⟨by have:=zaw es fs;have:=he.len;have:=hf.len;simp;exact zyK (by assumption) (by assumption) this,fun g hg=>nomatch hg⟩ (fun t ht=>inO_mem.mp ht))
 .rintro t xs ⟨gs,la⟩ l U' K S_ ⟨⟨⟨rs,h1,h2,h3,h4⟩,hs⟩,hne,⟨u,v,rfl⟩,h5,h6⟩ hK;dsimp only at h2 hne h5;rw[fH] at h5;refine zoR (jL he hf (h6 t fB)) fun _ k hk1 hk2 hk3=>?_;refine zc _ rfl ?_;refine zc7 (G.push L) (zix hd) (hs _ _ hb) (hs _ _ hk) (m:=t.2) (k:=k) (e:=.tup [.int t.1,.int ((if t.2.1 then fs else es).getD k (0,0)).2]) ?_ hk1 ?_
  .rw[<-hk3];cases hbb:t.2.1<;>rw[hbb] at hk2<;>simp only[gG,if_false,if_true] at hk2 ⊢<;>rw[fAQ,jo (d:=(0,0)) hk2]<;>rfl
  have tail:∀(la:AV) (gs':List (List zd)) (σ2:AHeap),GrpAt U σ2 p gs'->gs'≠[]->(gs'.length+xs.length<=100000/\∀g∈gs',g.length+(xs.length+1)<=100000)->(∀l' U',(GrpAt U U' p (j7 gs' t.2)/\(some t.1=none\/j7 gs' t.2≠[])/\(∃u v,l'=[some (.ref pb),some (.ref pk),some (.int span),some (.ref p),some (.int t.1),u,v])/\((j7 gs' t.2).length+xs.length<=100000/\∀g∈j7 gs' t.2,g.length+xs.length<=100000)/\∀t∈xs,t∈zaT es fs)->K l' U')->
    (A.cons (A.ex (A.meth zT (A.idx (A.loc 3) (A.neg (A.k (.int 1)))) [(A.loc 5)])) (A.cons (A.set 4 (A.loc 6)) A.nil)) ⟨n+1,false⟩ [some (.ref pb),some (.ref pk),some (.int span),some (.ref p),some la,some (zz t.2),some (.int t.1)]
     (fun f l'' U'=>match f with|.next=>True/\K l'' U'|.ret v=>Ends Q v U') (fun _ _ _=>False) σ2:=by
   rintro la gs' σ2 ⟨⟨rs,h1,h2,h3,h4⟩,hs⟩ hne hle hK;obtain⟨g0,g,rfl⟩:∃g0 g,gs'=g0++[g]:=(jf _ _ ((pY hne).symm))
   rw[fQ] at h2;refine zp h2.unsnoc fun rs' r e3_2 hr1 hr2=>?_;subst e3_2;rw[ju] at hK;have nd:=fU.mp h3;have hpr:r≠p:=fun e=>nd.1 (by rw[e];simp);have hrr:r∉rs':=fun h=>(gX.mp nd.2).2.2 r h r (by simp) rfl;have hgl:=hle.2 g (by simp);rw[fQ] at h1;refine jq h1 (ze (zfN _ _) ?_);refine zo hr2 ?_;refine zo hr2 ?_;refine zG (by rw[fC];exact ztz hgl) ?_;refine⟨trivial,hK _ _ (jb ⟨(jN (rs'++[r]) ?_ ?_ h3 h4),fun a o e=>?_⟩ (.inr (by simp)) (jf _ _ rfl) ⟨by simpa using hle.1,fun g' hg'=>?_⟩ (fun t ht=>h6 t (fA _ ht)))⟩
   .rw[AHeap.wB _ _ (Ne.symm hpr),fQ];exact h1
   .rw[fQ];refine(hr1.set hrr).snoc ?_;dsimp only;rw[AHeap.wA,fQ];rfl
   .rw[AHeap.wB _ _ (by rintro rfl;rw[h4 a (by simp)] at e;cases e)];exact hs a o e
   .rcases fR.mp hg' with h|h
    .have:=hle.2 g' (gR _ h);exact ztA this
    .rw[fG.mp h,fE,fS];exact zty hgl
  unfold j3 at hK;dsimp only at hK
  by_cases ho:kL span la t.1=true
  .rw[ho,if_pos rfl] at hK;have fin:∀la r,U' r=none->_:=fun la r hr=>tail la (gs++[[]]) _ (GrpAt.vK h1 h2 h3 h4 hs hr) (by simp) ⟨by rw[fE,fS,fAV,Nat.add_comm 1];exact h5.1,fun g hg=>by
    rcases fR.mp hg with h|h
    .exact h5.2 g h
    .rw[fG.mp h,gJ,fBL];exact fN (fDE _ _) h5.1⟩ hK
   cases la with
   | none=>
    refine zo h1 ?_;intro r hr;have hrp:r≠p:=by rintro rfl;rw[h1] at hr;exact absurd hr (fJ _)
    refine zo ((AHeap.wB _ _ (Ne.symm hrp)).trans h1) ?_;refine zG (by rw[fC,zcb h2,fC];exact fN (fBO (fDE 1 _) _) (fN h5.1 (by decide))) ?_;exact fin _ r hr
   | some la=>
    refine kh (fun _=>?_) fun h=>by unfold kL at ho;dsimp only at ho;rw[ho] at h;cases h
    refine zo h1 ?_;intro r hr;have hrp:r≠p:=by rintro rfl;rw[h1] at hr;exact absurd hr (fJ _)
    refine zo ((AHeap.wB _ _ (Ne.symm hrp)).trans h1) ?_;refine zG (by rw[fC,zcb h2,fC];exact fN (fBO (fDE 1 _) _) (fN h5.1 (by decide))) ?_;exact fin _ r hr
  .rw[if_neg ho] at hK;cases la with
   | none=>exact absurd rfl ho
   | some la=>
    refine kh (fun h=>absurd h ho) fun _=>?_;exact tail _ gs _ ⟨(jN rs h1 h2 h3 h4),hs⟩ (hne.resolve_left (fun e=>nomatch e)) ⟨Nat.le_of_succ_le h5.1,h5.2⟩ hK
 .rintro l U' ⟨⟨⟨rs,h1,h2,h3,h4⟩,hs⟩,_,⟨u,v,rfl⟩,_,_⟩;exact q U' p ⟨⟨rs,h1,h2,h3,h4⟩,hs⟩
theorem zlc(G:Gd X (hK P))(hd:n<580){pb pk:Addr}{es fs:List Ent}{span:Int}(hb:U pb=some (.list (es.map zD)))(hk:U pk=some (.list (fs.map zD)))(he:EsOk es)(hf:EsOk fs)(q:Q (.lst ((grps es fs span).map gAV)) U) :
  CallOk X 47 ⟨n,false⟩ [.ref pb,.ref pk,.int span] Q Z U:=by
 refine zc9 G hd hb hk he hf fun U' p hG=>?_;obtain⟨⟨rs,h1,h2,h3,h4⟩,hs⟩:=hG;refine Ends.lists hs h1 h2 h3 h4 ?_;rw[fY];exact q
end
section
variable{P:Gq}{X:Cx}{n:Nat}{Q:zm}{Z:XP}{U:AHeap}
noncomputable def qe(r:List Int):AV:=.tup (r.map .int)
theorem zfA(r:List Int):Flat 1 (qe r):=.tup fun x hx=>by refine zb (fO.mp hx) fun i _ e0_2=>?_;subst e0_2;exact .int i
theorem zkj{xs:List AV}{k:Nat}{R:Bool->AHeap->Prop}(hf:∀x∈xs,Flat k x)(hk:k<100)(q:R xs.isEmpty U):eqG (.tup xs) (.tup []) R U:=by
 refine zhf (k:=k+1) (j:=1) (.tup hf) (.tup fun x hx=>nomatch hx) hk (fun h=>?_) fun h=>?_
 .cases h;exact q
 .cases xs with
  | nil=>exact absurd rfl h
  | cons _ _=>exact q
noncomputable def zaB(r:List Int)(p:Int):Bool:=match r.getLast? with
 | none=>true
 | some q=>decide (p>q)
noncomputable def zbI(ps:List Int)(r:List Int):List (List Int):=(ps.filter (zaB r)).map fun p=>r++[p]
noncomputable def zaP(ps:List Int)(k:Nat):List (List Int):=match k with
 | 0=>[[]]
 | k+1=>(zaP ps k).flatMap (zbI ps)
theorem zdR(ps r:List Int):(zbI ps r).length<=ps.length:=by unfold zbI;rw[fC];exact gU _ _
theorem zhk{J:Type}{f:J->List (List Int)}{c:Nat}(h:∀a,(f a).length<=c)(l:List J):(l.flatMap f).length<=l.length*c:=by
 induction l with
 | nil=>exact fW _
 | cons a l ih=>rw[gQ,fE,fH,fBB];have:=h a;exact zAh ih this
theorem zk9{ps:List Int}(rs:List (List Int))(acc:List (List Int)):rs.foldl (fun b r=>b++zbI ps r) acc=acc++rs.flatMap (zbI ps):=by
 induction rs generalizing acc with
 | nil=>exact(gO _).symm
 | cons r rs ih=>rw[pM,ih,gQ,gE]
theorem zla{ps:List Int}(k:Nat):(List.range k).foldl (fun b _=>b.flatMap (zbI ps)) [[]]=zaP ps k:=by
 induction k with
 | zero=>rfl
 | succ k ih=>rw[List.range_succ,fCY,ih];rfl
theorem zeA(G:Gd X (hK P))(hd:n<590){ps:List Int}{m:Nat}(hl:ps.length<=8)(hm:m<=3)(q:Q (.lst ((zaP ps m).map qe)) U):CallOk X 130 ⟨n,false⟩ [.lst (ps.map .int),.int m] Q Z U:=by
 refine zlo G (gI hd (by decide)) fun L=>?_;refine zeo (zgQ hm) ?_;refine zC (g:=fun i:Nat=>AV.int i) (fun xs b l U'=>U=U'/\(∃u v w,l=[some (.lst (ps.map .int)),some (.int m),some (.lst (b.map qe)),u,v,w])/\b.length*8 ^ xs.length<=512/\∀r∈b,r.length+xs.length<=3) (fun b _=>b.flatMap (zbI ps)) ?_ (b:=[[]]) ?_ (zn rfl (z8 _ _ _ rfl) ?_ (fun r hr=>by rw[fG.mp hr,pD,gJ];exact zwv hm))
 .intro i xs b l U' K S_ hR1;refine zx hR1 fun e0_0 h0_1 hb hr3=>?_;subst e0_0;obtain⟨u,v,w,rfl⟩:=h0_1;intro hK;rw[fH,Nat.pow_succ] at hb;rw[fH] at hr3;have hx:1<=8 ^ xs.length:=Nat.pow_pos (by decide);have hb1:8*b.length<=512:=Nat.mul_comm b.length 8▸fN (Nat.mul_le_mul_left _ (by lia)) hb;have hb2:(b.flatMap (zbI ps)).length*8 ^ xs.length<=512:=by
   refine fN (gP _ (zhk (c:=8) (fun a=>fN (zdR ps a) hl) b)) ?_;rw[Nat.mul_assoc,Nat.mul_comm 8];exact hb
  refine zc _ rfl ?_;refine zC (g:=qe) (fun ys acc l U'=>U=U'/\(∃w,l=[some (.lst (ps.map .int)),some (.int m),some (.lst (b.map qe)),some (.int i),some (.lst (acc.map qe)),w])/\acc.length+8*ys.length<=512/\∀r∈ys,r.length<=3) (fun acc r=>acc++zbI ps r) ?_ (b:=[]) ?_ (zn rfl ⟨_,rfl⟩ (by rw[gJ];exact zDM hb1) (fun r hr=>by have:=hr3 r hr;exact zw3 this))
  .intro r ys acc l U' K' S_ hR2;refine zx hR2 fun e1_0 h1_1 ha hy3=>?_;subst e1_0;obtain⟨w,rfl⟩:=h1_1;intro hK';rw[fH] at ha;have hel:=zdR ps r;refine zc _ rfl ?_;refine zO (g:=AV.int) (zaB r) (fun p=>qe (r++[p])) (fun _=>rfl) (fun _ _=>rfl) (fun p hp R q=>?_) (fun p hp _ R q=>?_) trivial (ze3 hl) ?_
   .refine zkj (k:=0) (fun x hx=>by refine zb (fO.mp hx) fun i _ e1_2=>?_;subst e1_2;exact .int i) (by decide) ?_;unfold zaB at q
    rcases fB4 r with rfl|⟨r',x,rfl⟩
    .exact q
    .rw[fB5] at q ⊢;rw[List.getLast?_append,List.getLast?_singleton] at q;have e:(List.map AV.int (r'++[x])).isEmpty=false:=by rw[fQ];cases r'.map AV.int<;>rfl
     rw[e]
     conv=>whnf
     rw[fQ];exact ze (zfN _ _) q
   .have:=hy3 r fB;refine zG (by rw[fC,fS];exact zww this) ?_;unfold qe at q;rw[fQ] at q;exact q
   .refine zG (by rw[fC,fC];unfold zbI at hel;rw[fC] at hel;exact zDW hl ha hel) ?_;have e:acc.map qe++(ps.filter (zaB r)).map (fun p=>qe (r++[p]))=(acc++zbI ps r).map qe:=by unfold zbI;rw[fQ,fY];rfl
    rw[e];exact⟨trivial,hK' _ _ (zn rfl ⟨_,rfl⟩ (by rw[fE];exact zDY hl ha hel) (fun r hr=>hy3 r (fA _ hr)))⟩
  .intro l U' hR3;refine zx hR3 fun e2_0 h2_1 _ _=>?_;subst e2_0;obtain⟨w,rfl⟩:=h2_1;rw[zk9,pX];refine⟨trivial,hK _ _ (zn rfl (z8 _ _ _ rfl) hb2 (fun r hr=>?_))⟩;refine zb (gL.mp hr) fun r0 h0 h1=>?_;refine zb (fO.mp h1) fun p _ e3_2=>?_;subst e3_2;have:=hr3 r0 h0;rw[fE,fS];exact zw2 this
 .intro l U' hR4;refine zx hR4 fun e3_0 h3_1 _ _=>?_;subst e3_0;obtain⟨u,v,w,rfl⟩:=h3_1;rw[zla];exact Ends.same q
 .rw[pD,fS,fDH];exact fN (Nat.pow_le_pow_right (by decide) hm) (by decide)
end
section
variable{P:Gq}{X:Cx}{n:Nat}{Q:zm}{Z:XP}{U:AHeap}
theorem zfQ{c:Bool}{A B:Prop}(h:c=true)(q:A):cB c A B:=by rw[h];exact q
theorem zaX{c:Bool}{A B:Prop}(h:c=false)(q:B):cB c A B:=by rw[h];exact q
def Rise(ns:List Int)(n:Int):Prop:=ns.Pairwise (· < ·)/\∀p∈ns,0<=p/\p<n
theorem Rise.lt{ns:List Int}{n:Int}(h:Rise ns n){i:Nat}(hi:i+1<ns.length):ns.getD i 0<ns.getD (i+1) 0:=by
 have:=fAY.mp h.1 i (i+1) (zgR hi) hi (fC4 i);rw[fT,fT,fV hi,fV (zgR hi:i<ns.length)];exact this
theorem zcd(G:Gd X (hK P))(hd:n<590){ns:List Int}{m:Int}(hl:ns.length<=100)(hr:Rise ns m)(q:Q (.bool true) U):CallOk X 115 ⟨n,false⟩ [qe ns,.int m] Q Z U:=by
 refine zhC G (gI hd (by decide)) fun L=>?_
 conv=>whnf
 rw[fC];refine zeo (zwq hl) ?_;refine zcN (β:=Unit) (g:=fun i:Nat=>AV.int i) (fun xs _ l U'=>U=U'/\(∃u,l=[some (qe ns),some (.int m),u])/\∀i∈xs,i<ns.length) (fun b _=>b) ?_ (b:=()) ?_ (zq rfl ⟨_,rfl⟩ (fun i hi=>pH.mp hi))
 .rintro i xs _ l U' K ⟨rfl,⟨u,rfl⟩,hx⟩ hK;have hi:=hx i fB;have hp:=hr.2 _ (getD_mem (d:=0) hi);have hK:=hK _ _ (zq rfl ⟨some (.int i),rfl⟩ (fun j hj=>hx j (fA _ hj)));refine zc _ rfl ?_;refine ze (qz (jo (d:=0) hi)) ?_;refine zfQ (G6 hp.1) ?_
  conv=>whnf
  rw[G6 hp.2];cases i with
  | zero=>exact⟨trivial,hK⟩
  | succ i=>
   refine zfQ (G6 zwF) ?_;refine ze (qz (jo (d:=0) hi)) ?_
   conv=>whnf
   have e:(((i+1:Nat):Int)-1)=(i:Int):=zrQ;rw[e];refine ze (qz (jo (d:=0) (zgR hi))) ?_
   conv=>whnf
   have:=hr.lt hi;refine zaX (G5 (y58 this)) ?_;exact⟨trivial,hK⟩
 .rintro l U' ⟨rfl,⟨u,rfl⟩,_⟩;exact Ends.same q
noncomputable def jR(es:List Ent)(p:Int):Int:=(es.getD p.toNat (0,0)).1
noncomputable def zF(es:List Ent)(p:Int):Int:=(es.getD p.toNat (0,0)).2
noncomputable def zdy(l:List Int)(span:Int):Bool:=l.all fun a=>l.all fun b=>decide (a-b<=span)
noncomputable def ki(es fs:List Ent)(m:Mt):List Int:=m.1.map (jR es)++m.2.map (jR fs)
theorem zfG{l:List Int}{M m span:Int}(h1:M∈l)(h2:∀a∈l,a<=M)(h3:m∈l)(h4:∀a∈l,m<=a):decide (M-m<=span)=zdy l span:=by
 unfold zdy;rw[Bool.eq_iff_iff,decide_eq_true_iff,fAJ];refine⟨fun h a ha=>fAJ.mpr fun b hb=>G6 ?_,fun h=>?_⟩
 .have:=h2 a ha;have:=h4 b hb;exact y71 h (by assumption) this
 .exact G7 (fAJ.mp (h M h1) m h3)
theorem zfM{es:List Ent}{p:Int}(h0:0<=p)(h1:p<es.length):jQ (es.map zD) p=some (.tup [.int (jR es p),.int (zF es p)]):=by
 obtain⟨k,rfl⟩:=fAB h0;refine(qz (jo (d:=(0,0)) (by lia))).trans ?_;unfold jR zF
 rfl
noncomputable def kQ(es fs:List Ent)(span:Int)(m:Mt):Bool:=decide ((m.1.map (zF es)).sum=(m.2.map (zF fs)).sum)&&zdy (ki es fs m) span
theorem zg4{es:List Ent}(h:EsOk es)(p:Int):(zF es p).natAbs<=1000000000:=by
 unfold zF
 by_cases hk:p.toNat<es.length
 .exact h.cents _ (getD_mem hk)
 .rw[fT,fAH (pN.mp hk)];decide
theorem zfj{x:Int}(h:x.natAbs<=1000000000000000):PySem.InLong x:=
 have n:=nab (pV h)
 ⟨fCM (fC9 (by decide) n.1),fC9 n.2 (by decide)⟩
theorem zjY{ns:List Int}(hl:ns.length<=1000)(h:∀a∈ns,a.natAbs<=1000000000000):PySem.SumFits ns:=by
 have gen:∀(l:List Int),(∀a∈l,a.natAbs<=1000000000000)->l.sum.natAbs<=l.length*1000000000000:=by
  intro l
  induction l with
  | nil=>intro _;simp
  | cons a l ih=>
   intro h;have h1:=h a fB;have h2:=ih fun b hb=>h b (fA _ hb);simp only[List.sum_cons,fH];exact fN (Int.natAbs_add_le a l.sum) (fN (fDF h1 h2) (pC (by rw[fBB,Nat.add_comm])))
 intro j hj;have h1:=h (ns.getD j 0) (PySem.getD_mem hj);have h2:=gen (ns.take (j+1)) fun a ha=>h a (fBF ha);have h3:(ns.take (j+1)).length<=1000:=fN (List.length_take_le' _ _) hl;exact⟨zfj (fN h1 (by decide)),zfj (fN h2 (gP _ h3))⟩
theorem zbv{es:List Ent}(h:EsOk es){ms:List Int}(hl:ms.length<=100):PySem.SumFits (ms.map (zF es)):=
 zjY (by rw[fC];exact zwp hl) fun a ha=>by
  refine zb (fO.mp ha) fun p _ e1_2=>?_;subst e1_2;have:=zg4 h p;lia
theorem zdz{xs:List AV}{ns:List Int}(e:xs=ns.map .int)(h:PySem.SumFits ns)(q:Q (.int ns.sum) U):zpC xs Q U:=by unfold zpC;exact zv ns e h q
theorem zkw{ns:List Int}(h:ns≠[])(q:∀M,M∈ns->(∀a∈ns,a<=M)->Q (.int M) U):zph (ns.map .int) Q U:=by unfold zph;exact zv ns rfl h q
theorem zgr{ns:List Int}(h:ns≠[])(q:∀M,M∈ns->(∀a∈ns,M<=a)->Q (.int M) U):zpj (ns.map .int) Q U:=by unfold zpj;exact zv ns rfl h q
theorem zoU(G:Gd X (hK P))(hd:n<580){pb pk:Addr}{es fs:List Ent}{span:Int}{m:Mt}(hb:U pb=some (.list (es.map zD)))(hk:U pk=some (.list (fs.map zD)))(he:EsOk es)(hf:EsOk fs)
  (h1:min (m.1.length:Int) m.2.length=1)(h2:max (m.1.length:Int) m.2.length<=3)(r1:Rise m.1 es.length)(r2:Rise m.2 fs.length)(q:Q (.bool (kQ es fs span m)) U):CallOk X 125 ⟨n,false⟩ [.ref pb,.ref pk,.int span,zH m] Q Z U:=by
 refine zqX G (gI hd (by decide)) fun L=>?_;have l1:m.1.length<=3:=zwX h2;have l2:m.2.length<=3:=zwZ h2
 conv=>whnf
 rw[fC,fC];rw[h1];refine zaX (G5 (zwY h2)) ?_;refine ze (zE hb) ?_;rw[fC];refine zcd (G.push L) (zix hd) (zmm l1) r1 ?_
 conv=>whnf
 refine ze (zE hk) ?_;rw[fC];refine zcd (G.push L) (zix hd) (zmm l2) r2 ?_;have a1:∀p∈m.1,jQ (es.map zD) p=some (.tup [.int (jR es p),.int (zF es p)]):=fun p hp=>zfM (r1.2 p hp).1 (r1.2 p hp).2;have a2:∀p∈m.2,jQ (fs.map zD) p=some (.tup [.int (jR fs p),.int (zF fs p)]):=fun p hp=>zfM (r2.2 p hp).1 (r2.2 p hp).2;refine zN (fun p=>.int (zF es p)) (fun _=>rfl) (fun _ _=>rfl) (fun p hp R q=>?_) trivial (zgQ l1) ?_
 .exact jq hb (ze (a1 p hp) q)
 refine zdz (ns:=m.1.map (zF es)) (by rw[fY];rfl) (zbv he (zmm l1)) ?_;refine zN (fun p=>.int (zF fs p)) (fun _=>rfl) (fun _ _=>rfl) (fun p hp R q=>?_) trivial (zgQ l2) ?_
 .exact jq hk (ze (a2 p hp) q)
 refine zdz (ns:=m.2.map (zF fs)) (by rw[fY];rfl) (zbv hf (zmm l2)) ?_;unfold kQ at q
 conv=>whnf
 by_cases hs:(m.1.map (zF es)).sum=(m.2.map (zF fs)).sum
 .rw[G6 hs] at q ⊢;rw[Bool.true_and] at q;refine kJ (G.push L) (zix hd) (zmn l1) (zmn l2) ?_;refine zN (fun x=>.int (jR (if x.1 then fs else es) x.2)) (fun _=>rfl) (fun _ _=>rfl) (fun x hx R q=>?_) trivial ?_ ?_
  .have hx:(0<=x.2/\x.2<(if x.1 then fs else es).length):=by
    rcases fR.mp hx with h|h<;>obtain⟨p,hp,rfl⟩:=fO.mp h
    .exact r1.2 p hp
    .exact r2.2 p hp
   obtain⟨k,hk'⟩:=fAB hx.1;refine zc7 (G.push L) (zix hd) hb hk (k:=k) (e:=zD ((if x.1 then fs else es).getD k (0,0))) ?_ hk' ?_
   .have:=hx.2;cases hbb:x.1<;>rw[hbb] at this<;>simp only[gG,if_false,if_true] at this ⊢<;>rw[fAQ,jo (d:=(0,0)) (by lia)]<;>rfl
   .unfold jR at q;rw[hk',fCU] at q;exact q
  .unfold zf;rw[fE,fC,fC];exact zr0 l1 l2
  have ed:(zf m).map (fun x=>AV.int (jR (if x.1 then fs else es) x.2))=(ki es fs m).map .int:=by
   unfold zf ki;rw[fQ,fQ,fY,fY,fY,fY];rfl
  rw[ed];have ne:ki es fs m≠[]:=fun e=>by
   have:=congrArg List.length e;unfold ki at this;rw[fE,fC,fC,gJ] at this;exact zw0 h1 this
  refine zkw ne fun M hM1 hM2=>?_
  conv=>whnf
  refine zgr ne fun M' hM3 hM4=>?_;rw[<-zfG hM1 hM2 hM3 hM4] at q;exact Ends.same q
 .rw[G5 hs] at q ⊢;exact Ends.same q
end
theorem zf3{i j:Int}:PyData.eqv (.int i) (.int j)=(i==j):=by simp[PyData.eqv]
noncomputable def qL(r:List Int):PyData:=.tuple (r.map .int)
noncomputable def szs:List (Nat×Nat):=[(1,1),(1,2),(2,1),(1,3),(3,1)]
theorem mem_ext{ps r s:List Int}:s∈zbI ps r↔∃p∈ps,zaB r p=true/\s=r++[p]:=by
 unfold zbI;rw[fO];constructor
 .intro hR1;refine zb hR1 fun p hp e0_2=>?_;subst e0_2;exact zv p ((fP.mp hp).1) ((fP.mp hp).2) rfl
 .intro hR2;refine zk hR2 fun p hp hl e1_3=>?_;subst e1_3;exact zc p (fP.mpr ⟨hp,hl⟩) rfl
theorem zcp{J β:Type}{f:J->β}:∀{l:List J},l.Nodup->(∀a∈l,∀b∈l,f a=f b->a=b)->(l.map f).Nodup:=by
 intro l hn h;rw[fBG,fA1];exact(List.Pairwise.and_mem.mp (fBG.mp hn)).imp fun {a b} ⟨ha,hb,hne⟩ e=>hne (h a ha b hb e)
def Up(ps s:List Int):Prop:=s.Pairwise (· < ·)/\∀p∈s,p∈ps
theorem zd5{r:List Int}{p:Int}(h:r.Pairwise (· < ·)):zaB r p=true↔∀a∈r,a<p:=by
 rcases fB4 r with rfl|⟨r0,z,rfl⟩
 .simp[zaB]
 .rw[fB5] at h ⊢;have hll:zaB (r0++[z]) p=decide (p>z):=by unfold zaB;simp
  rw[hll,decide_eq_true_iff];have h3:=(gC.mp h).2.2;constructor
  .intro hz a ha
   rcases fR.mp ha with ha|ha
   .have:=h3 a ha z fB;exact y69 hz this
   .have:a=z:=by simpa using ha
    exact y70 hz this
  .intro hz;exact hz z (gK _ fB)
theorem mem_rowsN{ps:List Int}{k:Nat}:∀{s:List Int},s∈zaP ps k↔s.length=k/\Up ps s:=by
 induction k with
 | zero=>
  intro s;constructor
  .intro h;rw[fG.mp h];exact zq rfl .nil (fun _ h=>nomatch h)
  .rintro⟨h,_⟩;rw[gS.mp h];exact fG.mpr rfl
 | succ k ih=>
  intro s;show s∈(zaP ps k).flatMap (zbI ps)↔_;rw[gL];constructor
  .intro hR3;refine zb hR3 fun r h1 h2=>?_;refine zk (mem_ext.mp h2) fun p hp hl e2_3=>?_;subst e2_3;obtain⟨e,hu⟩:=ih.mp h1;rw[zd5 hu.1] at hl;refine zq (by rw[fE,e];rfl) (gC.mpr (zq hu.1 (pJ _ _) (fun a ha b hb=>?_))) (fun q hq=>?_)
   .have:b=p:=by simpa using hb
    rw[this];exact hl a ha
   .rcases fR.mp hq with hq|hq
    .exact hu.2 q hq
    .have:q=p:=by simpa using hq
     rw[this];exact hp
  .rintro⟨e,hu⟩
   rcases fB4 s with rfl|⟨r,p,rfl⟩
   .cases e
   .rw[fB5] at *;refine zY (gC.mp hu.1) fun u1 u2 u3=>?_;exact zc r (ih.mpr (zq (by rw[fE] at e;simpa using e) u1 (fun q hq=>hu.2 q (gR _ hq)))) (mem_ext.mpr (zv p (hu.2 p (gK _ fB)) ((zd5 u1).mpr fun a ha=>u3 a ha p fB) rfl))
noncomputable def qF(fit:Mt->Bool)(bs:List Int)(k:Nat)(l:List Int):List Mt:=((zaP bs k).filter fun r=>fit (l,r)).map fun r=>(l,r)
noncomputable def zmG(fit:Mt->Bool)(as bs:List Int)(z:Nat×Nat):List Mt:=(zaP as z.1).flatMap (qF fit bs z.2)
noncomputable def ziD(fit:Mt->Bool)(as bs:List Int):List Mt:=szs.flatMap (zmG fit as bs)
theorem mem_matchOf{fit:Mt->Bool}{bs l:List Int}{k:Nat}{x:Mt}:x∈qF fit bs k l↔x.1=l/\x.2.length=k/\Up bs x.2/\fit (l,x.2)=true:=by
 unfold qF;rw[fO];constructor
 .intro hR4;refine zb hR4 fun r hr e5_2=>?_;subst e5_2;obtain⟨h1,h2⟩:=fP.mp hr;obtain⟨h3,h4⟩:=mem_rowsN.mp h1;exact zn rfl h3 h4 h2
 .intro hR5;refine zx hR5 fun h1 h2 h3 h4=>?_;exact zc x.2 (fP.mpr ⟨mem_rowsN.mpr ⟨h2,h3⟩,h4⟩) (by rw[<-h1])
theorem mem_bySz{fit:Mt->Bool}{as bs:List Int}{z:Nat×Nat}{x:Mt}:x∈zmG fit as bs z↔x.1.length=z.1/\Up as x.1/\x.2.length=z.2/\Up bs x.2/\fit x=true:=by
 unfold zmG;rw[gL];constructor
 .intro hR6;refine zb hR6 fun l hl hx=>?_;obtain⟨rfl,h2⟩:=mem_matchOf.mp hx;obtain⟨h3,h4⟩:=mem_rowsN.mp hl;exact zq h3 h4 h2
 .intro hR7;refine zY hR7 fun h1 h2 h3=>?_;exact zc x.1 (mem_rowsN.mpr ⟨h1,h2⟩) (mem_matchOf.mpr ⟨rfl,h3⟩)
noncomputable def enc:Nat->List Int->Nat
 | 0,_=>0
 | _+1,[]=>0
 | n+1,x::xs=>(x.toNat+1)*100 ^ n+enc n xs
def Sm(l:List Int):Prop:=l.length<=3/\∀p∈l,0<=p/\p<90
theorem qB:∀(n:Nat) {l:List Int},(∀p∈l,0<=p/\p<90)->enc n l<100 ^ n
 | 0,_,_=>(fM _)
 | n+1,[],_=>Nat.pow_pos (by decide)
 | n+1,x::xs,h=>by
  have h1:=qB n (l:=xs) fun p hp=>h p (fA _ hp);have h2:=h x fB;show (x.toNat+1)*100 ^ n+enc n xs<100 ^ (n+1);have h3:(x.toNat+1)*100 ^ n<=90*100 ^ n:=gP _ (y7 h2);rw[Nat.pow_succ]
  lia
theorem zki(n:Nat):∀{l r:List Int},l.length<=n->r.length<=n->(∀p∈l,0<=p/\p<90)->(∀p∈r,0<=p/\p<90)->zbN (l.map .int) (r.map .int)=some (decide (enc n l<enc n r))/\(enc n l=enc n r->l=r):=by
 have pos:∀(x:Int) (xs:List Int) (n:Nat),0<enc (n+1) (x::xs):=fun x xs n=>pF (Nat.mul_pos (Nat.succ_pos _) (Nat.pow_pos (by decide))) (fA8 _ _)
 induction n with
 | zero=>
  intro l r h1 h2 _ _;rw[gS.mp (fDI.mp h1),gS.mp (fDI.mp h2)];exact⟨rfl,fun _=>rfl⟩
 | succ n ih=>
  intro l r h1 h2 s1 s2;cases l with
  | nil=>cases r with
   | nil=>exact⟨rfl,fun _=>rfl⟩
   | cons y ys=>
    have h3:=pos y ys n;refine⟨?_,fun e=>absurd h3 (Nat.not_lt_of_le (pC e.symm))⟩;rw[G6 (show enc (n+1) []<enc (n+1) (y::ys) from h3)];exact zpd ..
  | cons x xs=>cases r with
   | nil=>
    have h3:=pos x xs n;refine⟨?_,fun e=>absurd h3 (Nat.not_lt_of_le (pC e))⟩;rw[G5 (show ¬enc (n+1) (x::xs)<enc (n+1) [] from fDD _)];exact zpc ..
   | cons y ys=>
    obtain⟨g1,g2⟩:=ih (l:=xs) (r:=ys) (fAC h1) (fAC h2) (fun p hp=>s1 p (fA _ hp)) fun p hp=>s2 p (fA _ hp);have a1:=qB n (l:=xs) fun p hp=>s1 p (fA _ hp);have a2:=qB n (l:=ys) fun p hp=>s2 p (fA _ hp);have b1:=(s1 x fB).1;have b2:=(s2 y fB).1;have key:enc (n+1) (x::xs)<enc (n+1) (y::ys)↔x<y\/x=y/\enc n xs<enc n ys:=(zbb (M:=100 ^ n) (x:=x.toNat+1) (y:=y.toNat+1) a1 a2).trans (or_congr (fCE.trans (zao b1 b2)) (and_congr ⟨fun e=>zan b1 b2 (Nat.succ.inj e),fun e=>by rw[e]⟩ Iff.rfl));refine⟨?_,fun e=>?_⟩
    .simp only[gF,qV,zf3]
     by_cases he:x=y
     .subst he;rw[beq_self_eq_true,if_pos rfl,g1];exact congrArg some (decide_eq_decide.mpr (key.trans ⟨fun h=>(h.resolve_left (fC0 x)).2,fun h=>.inr ⟨rfl,h⟩⟩).symm)
     .rw[beq_eq_false_iff_ne.mpr he,if_neg pL,zcg];exact congrArg some (decide_eq_decide.mpr (key.trans ⟨fun h=>h.resolve_right fun h=>he h.1,.inl⟩).symm)
    .have e':=zaC (M:=100 ^ n) (x:=x.toNat+1) (y:=y.toNat+1) a1 a2 e;rw[zan b1 b2 (Nat.succ.inj e'.1),g2 e'.2]
theorem zb6:∀(l r:List Int),PyData.eqv (qL l) (qL r)=decide (l=r):=by
 intro l r;unfold qL;simp only[PyData.eqv]
 induction l generalizing r with
 | nil=>cases r<;>simp[PyData.eqvAll]
 | cons x xs ih=>
  cases r with
  | nil=>simp[PyData.eqvAll]
  | cons y ys=>
   simp only[gF,PyData.eqvAll,zf3,ih]
   by_cases h:x=y
   .subst h;simp
   .simp[h]
theorem znw{l r:List Int}(hl:Sm l)(hr:Sm r):ltD (qL l) (qL r)=some (decide (enc 3 l<enc 3 r)):=by
 unfold qL;simp only[zde];exact(zki 3 hl.1 hr.1 hl.2 hr.2).1
theorem zf2{l r:List Int}(hl:Sm l)(hr:Sm r)(e:enc 3 l=enc 3 r):l=r:=(zki 3 hl.1 hr.1 hl.2 hr.2).2 e
noncomputable def num(x:Mt):Nat:=(x.1.length+x.2.length)*1000000000000+enc 3 x.1*1000000+enc 3 x.2
def SmM(x:Mt):Prop:=Sm x.1/\Sm x.2
theorem zvI(a b c:Nat):a*1000000000000+b*1000000+c=(a*100 ^ 3+b)*100 ^ 3+c:=by rw[Nat.add_mul (a*100 ^ 3) b,Nat.mul_assoc]
theorem zgv(x:Mt):num x=((x.1.length+x.2.length)*100 ^ 3+enc 3 x.1)*100 ^ 3+enc 3 x.2:=zvI _ _ _
theorem zpo{x y:Mt}(hx:SmM x)(hy:SmM y)(e:num x=num y):x=y:=by
 have a1:=qB 3 hx.1.2;have a2:=qB 3 hx.2.2;have a3:=qB 3 hy.1.2;have a4:=qB 3 hy.2.2;rw[zgv,zgv] at e;have e1:=zaC a2 a4 e;have h1:=(zaC a1 a3 e1.1).2;have h2:=e1.2;exact Prod.ext (zf2 hx.1 hy.1 h1) (zf2 hx.2 hy.2 h2)
noncomputable def szI(x:Mt):Int:=(x.1.length:Int)+x.2.length
noncomputable def zlq(x:Mt):PyData:=.tuple [.int (szI x),.tuple [qL x.1,qL x.2]]
theorem znv{x y:Mt}(hx:SmM x)(hy:SmM y):zbN [qL x.1,qL x.2] [qL y.1,qL y.2]=some (decide (enc 3 x.1*1000000+enc 3 x.2<enc 3 y.1*1000000+enc 3 y.2)):=by
 have a2:=qB 3 hx.2.2;have a4:=qB 3 hy.2.2;simp only[qV,zgk,zb6,decide_eq_true_eq]
 by_cases h1:x.1=y.1
 .rw[if_pos h1,h1]
  by_cases h2:x.2=y.2
  .rw[if_pos h2,h2,G5 (fBP _)]
  .rw[if_neg h2,znw hx.2 hy.2];exact congrArg some (decide_eq_decide.mpr Nat.add_lt_add_iff_left.symm)
 .rw[if_neg h1,znw hx.1 hy.1];exact congrArg some (decide_eq_decide.mpr ((zbb (M:=1000000) a2 a4).trans ⟨fun h=>h.resolve_right fun h=>h1 (zf2 hx.1 hy.1 h.1),.inl⟩).symm)
theorem zrh{x y:Mt}(hx:SmM x)(hy:SmM y)(hne:x.1.length+x.2.length≠y.1.length+y.2.length):x.1.length+x.2.length<y.1.length+y.2.length↔num x<num y:=by
 have a1:=qB 3 hx.1.2;have a2:=qB 3 hx.2.2;have a3:=qB 3 hy.1.2;have a4:=qB 3 hy.2.2;rw[zgv,zgv,zbb a2 a4,zbb a1 a3];refine⟨fun h=>.inl (.inl h),fun h=>h.elim (fun h=>h.resolve_right fun h=>hne h.1) fun h=>absurd (zaC a1 a3 h.1).1 hne⟩
theorem zhI{x y:Mt}(hx:SmM x)(hy:SmM y){t:Option Bool}(h:szI x=szI y->t=some (decide (enc 3 x.1*1000000+enc 3 x.2<enc 3 y.1*1000000+enc 3 y.2))):(if (szI x==szI y)=true then t else ltD (.int (szI x)) (.int (szI y)))=some (decide (num x<num y)):=by
 by_cases e:szI x=szI y
 .rw[e,beq_self_eq_true,if_pos rfl,h e];unfold num;exact congrArg some (decide_eq_decide.mpr (by rw[fAV,fAV (_*_),show x.1.length+x.2.length=y.1.length+y.2.length from Int.ofNat.inj e,Nat.add_lt_add_iff_left]))
 .rw[beq_eq_false_iff_ne.mpr e,if_neg (by decide)];unfold szI at e ⊢;simp only[zcg];refine congrArg some (decide_eq_decide.mpr (Iff.trans fBA (zrh hx hy fun h=>e (congrArg Int.ofNat h))))
theorem zq4{x y:Mt}(hx:SmM x)(hy:SmM y):ltD (zlq x) (zlq y)=some (decide (num x<num y)):=by
 unfold zlq;rw[zde,qV,zf3];refine zhI hx hy fun _=>?_;simp only[qV,zgk,zde,zcg,PyData.eqv,PyData.eqvAll,fCD]
 by_cases h:x=y
 .subst h;rw[if_pos (by simp[zb6]),G5 (fBP _)]
 .have:¬((PyData.eqv (qL x.1) (qL y.1)&&PyData.eqv (qL x.2) (qL y.2))=true):=by
   rw[zb6,zb6,gW,decide_eq_true_eq,decide_eq_true_eq];exact fun e=>h (Prod.ext e.1 e.2)
  rw[if_neg this];exact znv hx hy
section
variable{P:Gq}{X:Cx}{n:Nat}{Q:zm}{Z:XP}{U:AHeap}
noncomputable def qS(s:Bool)(g:List zd):List Int:=(g.filter fun m=>m.1==s).map (·.2)
structure GOk(g:List zd)(na nb:Nat):Prop where
 nodup:g.Nodup
 inn:∀m∈g,0<=m.2/\m.2<((if m.1 then nb else na:Nat):Int)
 few:g.length<=8
 small:na<=80/\nb<=80
noncomputable def unI(v:AV):Int:=match v with
 | .int i=>i
 | _=>0
theorem zog{s:Bool}{g:List zd}(h:g.length<=8):(qS s g).length<=8:=by unfold qS;rw[fC];exact fN (gU ..) h
theorem side_mem{s:Bool}{g:List zd}{p:Int}:p∈qS s g↔(s,p)∈g:=by
 unfold qS;rw[fO];constructor
 .intro hR1;refine zb hR1 fun h0_0 h e0_2=>?_;obtain⟨b,i⟩:=h0_0;subst e0_2;obtain⟨h1,h2⟩:=fP.mp h;have h2:b=s:=G8 h2;subst h2;exact h1
 .intro h;exact zc (s,p) (fP.mpr ⟨h,BEq.rfl⟩) rfl
theorem zjJ{s:Bool}{g:List zd}(h:g.Nodup):(qS s g).Nodup:=zcp (List.Nodup.sublist pU h) fun a ha b hb e=>by
 have h1:=G8 (fP.mp ha).2;have h2:=G8 (fP.mp hb).2;exact Prod.ext (h1.trans h2.symm) e
theorem zkJ{r:Bool}{ns:List Int}(h0:∀p∈ns,0<=p)(q:mkL r ((srt Int.toNat ns).map .int) Q U):zfE r (ns.map .int) Q U:=by
 refine zeF unI (fun _=>rfl) Int.toNat (fun x hx y hy e=>by have:=h0 x hx;have:=h0 y hy;exact y54 e (by assumption) this) (.inr fun x hx=>?_) (fun x hx y hy=>?_) q
 .refine zb (fO.mp hx) fun i _ e1_2=>?_;subst e1_2;exact⟨i,rfl⟩
 .refine jr _ _ (.int _) (.int _) (by simp[PyData.depth]) (by simp[PyData.depth]) ?_;exact congrArg some (decide_eq_decide.mpr (zao (h0 x hx) (h0 y hy)).symm)
noncomputable def ups(s:Bool)(g:List zd):List Int:=srt Int.toNat (qS s g)
theorem ups_mem{s:Bool}{g:List zd}{p:Int}:p∈ups s g↔(s,p)∈g:=(js ..).mem_iff.trans side_mem
theorem kO{s:Bool}{g:List zd}(h:g.length<=8):(ups s g).length<=8:=by unfold ups;rw[(js ..).length_eq];exact zog h
noncomputable def win(es fs:List Ent)(span:Int)(g:List zd):List Mt:=srt num (ziD (kQ es fs span) (ups false g) (ups true g))
theorem zbr{ps:List Int}(h:ps.length<=8)(k:Nat):(zaP ps k).length<=8 ^ k:=by
 induction k with
 | zero=>exact fM 1
 | succ k ih=>exact fN (zhk (c:=8) (fun a=>fN (zdR ps a) h) _) (by rw[Nat.pow_succ];exact gP 8 ih)
theorem zpb{x y:Mt}(hx:SmM x)(hy:SmM y):ziA U (.tup [.int ((x.1.length:Int)+x.2.length),zH x]) (.tup [.int ((y.1.length:Int)+y.2.length),zH y]) (decide (num x<num y)):=by
 have rdI:∀l:List Int,RdL U (l.map .int) (l.map .int):=fun l=>by
  induction l with
  | nil=>exact .nil
  | cons i l ih=>exact .cons (.int i) ih
 have rd:∀z:Mt,Rd U (.tup [.int ((z.1.length:Int)+z.2.length),zH z]) (zlq z):=fun z=>.tup (.cons (.int _) (.cons (.tup (.cons (.tup (rdI _)) (.cons (.tup (rdI _)) .nil))) .nil));have dI:∀l:List Int,PyData.depthAll (l.map .int)=0:=fun l=>by
  induction l with
  | nil=>rfl
  | cons i l ih=>rw[gF,PyData.depthAll,ih];rfl
 have dp:∀z:Mt,(zlq z).depth<=100:=fun z=>by
  unfold zlq qL;simp only[PyData.depth,PyData.depthAll,dI];decide
 exact jr _ _ (rd x) (rd y) (dp x) (dp y) (zq4 hx hy)
theorem ziG{fit:Mt->Bool}{g:List zd}{na nb:Nat}(hg:GOk g na nb){x:Mt}(h:x∈ziD fit (ups false g) (ups true g)):SmM x/\Rise x.1 na/\Rise x.2 nb/\min x.1.length x.2.length=1/\fit x=true:=by
 refine zb (gL.mp h) fun z hz hx=>?_;refine jw (mem_bySz.mp hx) fun h1 u1 h2 u2 h3=>?_;have hzl:∀z∈szs,z.1<=3/\z.2<=3/\min z.1 z.2=1:=by decide
 refine zY (hzl z hz) fun z1 z2 z3=>?_;have i1:∀p∈x.1,0<=p/\p<(na:Int):=fun p hp=>hg.inn _ (ups_mem.mp (u1.2 p hp));have i2:∀p∈x.2,0<=p/\p<(nb:Int):=fun p hp=>hg.inn _ (ups_mem.mp (u2.2 p hp));have:=hg.small;exact jb (zq ⟨zp0 h1 z1,fun p hp=>by have:=i1 p hp;exact y99 (by assumption) this⟩ (zp0 h2 z2) (fun p hp=>by have:=i2 p hp;exact zvU (by assumption) this)) ⟨u1.1,i1⟩ ⟨u2.1,i2⟩ (zz5 h1 h2 z3) h3
theorem zeE{X:Cx}{xs:List Mt}(G:Gd X (hK P))(hd:n<580)(h:∀x∈xs,SmM x){r:Bool}(q:mkL r ((srt num xs).map zH) Q U):zgG X 137 r ⟨n,false⟩ (xs.map zH) Q U:=by
 have un:∃u:AV->Mt,∀x,u (zH x)=x:=⟨fun v=>match v with
  | .tup [.tup a,.tup b]=>(a.map unI,b.map unI)
  | _=>([],[]),fun x=>by
   show (_,_)=x;rw[fY,fY];have:unI∘AV.int=id:=rfl;rw[this,fBY,fBY]⟩
 obtain⟨u,hu⟩:=un;unfold zgG;refine jr (fun v=>.tup [.int (((u v).1.length:Int)+(u v).2.length),v]) (fun v=>num (u v)) (by lia) (fun v hv=>?_) (fun v hv=>(jf _ _ rfl)) (fun v hv w hw=>?_) (fun ys h1 h2=>?_)
 .refine zb (fO.mp hv) fun x hx e6_2=>?_;subst e6_2;refine ziH G (by lia) ⟨?_,rfl⟩;dsimp only;rw[hu]
 .refine zb (fO.mp hv) fun x hx e7_2=>?_;subst e7_2;refine zb (fO.mp hw) fun y hy e8_2=>?_;subst e8_2;simp only[hu];exact zpb (h x hx) (h y hy)
 .obtain⟨p1,p2⟩:=zgw hu h1;rw[p2,zio (fun x hx y hy=>zpo (h x hx) (h y hy)) p1 (fA1.mpr h2)];exact q
noncomputable def zrC(z:Nat×Nat):AV:=.tup [.int (z.1:Nat),.int (z.2:Nat)]
theorem jZ{J β:Type}(f:J->List β)(xs:List J)(acc:List β):xs.foldl (fun b x=>b++f x) acc=acc++xs.flatMap f:=by
 induction xs generalizing acc with
 | nil=>exact(gO _).symm
 | cons x xs ih=>rw[pM,ih,gQ,gE]
theorem zmk(G:Gd X (hK P))(hd:n<570){pb pk:Addr}{es fs:List Ent}{span:Int}{g:List zd}(hb:U pb=some (.list (es.map zD)))(hk:U pk=some (.list (fs.map zD)))(he:EsOk es)(hf:EsOk fs)(hg:GOk g es.length fs.length)
  (q:Q (.lst ((win es fs span g).map zH)) U):CallOk X 142 ⟨n,false⟩ [.ref pb,.ref pk,.int span,gAV g] Q Z U:=by
 refine znq G (gI hd (by decide)) fun L=>?_;have lg:=hg.few;refine zO (fun m:zd=>m.1==false) (fun m=>.int m.2) (fun _=>rfl) (fun _ _=>rfl) (fun m hm R q=>?_) (fun m hm _ R q=>q) trivial (ze3 lg) ?_
 .obtain⟨b,i⟩:=m;cases b<;>exact q
 have e1:(g.filter fun m=>m.1==false).map (fun m:zd=>AV.int m.2)=(qS false g).map .int:=by unfold qS;rw[fY];rfl
 rw[e1];refine zkJ (fun p hp=>(hg.inn _ (side_mem.mp hp)).1) ?_;refine zO (fun m:zd=>m.1==true) (fun m=>.int m.2) (fun _=>rfl) (fun _ _=>rfl) (fun m hm R q=>?_) (fun m hm _ R q=>q) trivial (ze3 lg) ?_
 .obtain⟨b,i⟩:=m;cases b<;>exact q
 have e2:(g.filter fun m=>m.1==true).map (fun m:zd=>AV.int m.2)=(qS true g).map .int:=by unfold qS;rw[fY];rfl
 rw[e2];refine zkJ (fun p hp=>(hg.inn _ (side_mem.mp hp)).1) ?_;intro p hp;have l1:=kO (s:=false) hg.few;have l2:=kO (s:=true) hg.few;have hbp:pb≠p:=by rintro rfl;rw[hp] at hb;exact absurd (Eq.symm hb) (fJ _)
 have hkp:pk≠p:=by rintro rfl;rw[hp] at hk;exact absurd (Eq.symm hk) (fJ _)
 change zhm _ _ _ _ _ (szs.map zrC) _ _;have sm:∀x∈ziD (kQ es fs span) (ups false g) (ups true g),SmM x:=fun x hx=>(ziG hg hx).1;refine zC (fun xs b l U'=>(∃u v w,l=[some (.ref pb),some (.ref pk),some (.int span),some (gAV g),some (.lst ((ups false g).map .int)),some (.lst ((ups true g).map .int)),some (.ref p),u,v,w])/\U'=U.set p (.list (b.map zH))/\b.length+4096*xs.length<=20480/\∀z∈xs,z∈szs) (fun b z=>b++zmG (kQ es fs span) (ups false g) (ups true g) z) ?_ (b:=[]) ?_ (zn (z8 _ _ _ rfl) rfl (by decide) (fun z hz=>hz))
 .intro z xs b l U' K S_ hR2;refine zx hR2 fun h6_0 e6_1 hle hz=>?_;obtain⟨u,v,w,rfl⟩:=h6_0;subst e6_1;intro hK;rw[fH] at hle;have hzl:∀z∈szs,z.1<=3/\z.2<=3/\min z.1 z.2=1/\8 ^ z.1*8 ^ z.2<=4096:=by decide
  refine zx (hzl z (hz z fB)) fun z1 z2 z3 z4=>?_;refine zc _ rfl ?_;refine zeA (G.push L) (zml hd) l1 z1 ?_;have r1:=zbr l1 z.1;have r2:=zbr l2 z.2;refine zC (fun ys c l U'=>(∃v w,l=[some (.ref pb),some (.ref pk),some (.int span),some (gAV g),some (.lst ((ups false g).map .int)),some (.lst ((ups true g).map .int)),some (.ref p),some (zrC z),v,w])/\U'=U.set p (.list (c.map zH))/\c.length+ys.length*8 ^ z.2<=b.length+4096/\∀r∈ys,r∈zaP (ups false g) z.1) (fun c r=>c++qF (kQ es fs span) (ups true g) z.2 r) ?_ (b:=b) ?_ (zn (jf _ _ rfl) rfl ?_ (fun r hr=>hr))
  .intro lr ys c l U' K' S_ hR3;refine zx hR3 fun h7_0 e7_1 hle' hy=>?_;obtain⟨v,w,rfl⟩:=h7_0;subst e7_1;intro hK';rw[fH,fBB] at hle';obtain⟨m1,m2⟩:=mem_rowsN.mp (hy lr fB);refine zc _ rfl ?_;refine zeA (G.push L) (zml hd) l2 z2 ?_;refine zC (fun ws a l U'=>(∃w,l=[some (.ref pb),some (.ref pk),some (.int span),some (gAV g),some (.lst ((ups false g).map .int)),some (.lst ((ups true g).map .int)),some (.ref p),some (zrC z),some (qe lr),w])/\U'=U.set p (.list (a.map zH))/\a.length+ws.length<=c.length+8 ^ z.2/\∀r∈ws,r∈zaP (ups true g) z.2) (fun a r=>a++if kQ es fs span (lr,r) then [(lr,r)] else []) ?_ (b:=c) ?_ (zn ⟨_,rfl⟩ rfl (by lia) (fun r hr=>hr))
   .intro rr ws a l U' K'' S_ hR4;refine zx hR4 fun h9_0 e9_1 hle'' hw=>?_;obtain⟨w,rfl⟩:=h9_0;subst e9_1;intro hK'';rw[fH] at hle'';obtain⟨m3,m4⟩:=mem_rowsN.mp (hw rr fB);refine zc _ rfl ?_;refine zoU (G.push L) (zrN hd) (m:=(lr,rr)) ((AHeap.wB _ _ hbp).trans hb) ((AHeap.wB _ _ hkp).trans hk) he hf (by dsimp only;exact zzD z3 m1 m3) (by dsimp only;exact zAn z1 z2 m1 m3) ⟨m2.1,fun p hp=>hg.inn _ (ups_mem.mp (m2.2 p hp))⟩ ⟨m4.1,fun p hp=>hg.inn _ (ups_mem.mp (m4.2 p hp))⟩ ?_;cases hfit:kQ es fs span (lr,rr) with
    | true=>
     rw[hfit,if_pos rfl,fQ] at hK'';refine zo (AHeap.wA ..) ?_;refine zo (AHeap.wA ..) ?_;refine zG (by rw[fC];lia) ?_
     conv=>whnf
     rw[zaK];exact⟨trivial,hK'' _ _ (zn ⟨_,rfl⟩ rfl (by rw[fE,fS];exact zzF hle'') (fun r hr=>hw r (fA _ hr)))⟩
    | false=>
     rw[hfit,if_neg pL,gO] at hK'';exact⟨trivial,hK'' _ _ (zn ⟨_,rfl⟩ rfl (zzG hle'') (fun r hr=>hw r (fA _ hr)))⟩
   .intro l U' hR5;refine zx hR5 fun h11_0 e11_1 _ _=>?_;obtain⟨w,rfl⟩:=h11_0;subst e11_1;have e:(zaP (ups true g) z.2).flatMap (fun r=>if kQ es fs span (lr,r) then [(lr,r)] else [])=qF (kQ es fs span) (ups true g) z.2 lr:=by
     unfold qF;generalize zaP (ups true g) z.2=rs
     induction rs with
     | nil=>rfl
     | cons r rs ih=>
      rw[gQ,fAL,ih];cases kQ es fs span (lr,r)<;>rfl
    rw[jZ,e];refine⟨trivial,hK' _ _ (zn (jf _ _ rfl) rfl ?_ (fun r hr=>hy r (fA _ hr)))⟩;have:(qF (kQ es fs span) (ups true g) z.2 lr).length<=8 ^ z.2:=by
     unfold qF;rw[fC];exact fN (gU ..) r2
    rw[fE];exact zAI hle' this
  .intro l U' hR6;refine zx hR6 fun h12_0 e12_1 hle' _=>?_;obtain⟨v,w,rfl⟩:=h12_0;subst e12_1;rw[jZ] at hle' ⊢;rw[gJ,Nat.zero_mul,fA0] at hle';exact⟨trivial,hK _ _ (zn (z8 _ _ _ rfl) rfl (by have:(b++zmG (kQ es fs span) (ups false g) (ups true g) z).length<=b.length+4096:=hle';exact zDU hle this) (fun z' hz'=>hz z' (fA _ hz')))⟩
  .have:=gP (8 ^ z.2) r1;exact zzc z4 this
 .intro l U' hR7;refine zx hR7 fun h13_0 e13_1 hle _=>?_;obtain⟨u,v,w,rfl⟩:=h13_0;subst e13_1;rw[jZ,pX];refine ze (zE (AHeap.wA ..)) ?_;refine zeE (G.push L) (zrN hd) sm ?_;exact Ends.drop (jF hp) q
end
noncomputable def zdp(ms:List Mt)(r:List zd):List (List zd):=ms.filterMap (qt r)
noncomputable def jS(ms:List Mt)(r:List zd):List (List zd):=match r with|[]=>[]|_::t=>t::zdp ms r
noncomputable def zbK(row nx:List (List zd)):List (List zd):=nx.foldl (fun w b=>if b∈w then w else w++[b]) row
noncomputable def zJ(ms:List Mt)(g:List zd):Nat->List (List zd)
 | 0=>[g]
 | k+1=>match (zJ ms g k)[k]? with|some r=>zbK (zJ ms g k) (jS ms r)|none=>zJ ms g k
theorem znr{r b:List zd}{m:Mt}(h:qt r m=some b):b.Sublist r.tail:=by
 unfold qt at h;split at h
 .exact absurd (Eq.symm h) (fJ _)
 .rename_i x t
  split at h
  .rename_i hc
   obtain rfl:=G4 h;rw[fAL];have:(!decide (x∈zf m))=false:=by simp[hc.1]
   rw[this];simp only[gG,if_false,List.tail_cons];exact pU
  .exact absurd (Eq.symm h) (fJ _)
theorem zcX{ms:List Mt}{r b:List zd}(h:b∈jS ms r):b.Sublist r.tail:=by
 unfold jS at h;split at h
 .cases h
 .rename_i x t
  rcases fF.mp h with rfl|h
  .exact List.Sublist.refl _
  .refine zb (pZ.mp h) fun m _ hm=>?_;exact znr hm
theorem qj{ms:List Mt}{r b:List zd}(h:b∈jS ms r):b.length<r.length:=by
 have h1:=(zcX h).length_le;cases r with
 | nil=>cases h
 | cons x t=>simp at h1 ⊢;exact zBO h1
noncomputable def zoo:List zd->List (List zd)
 | []=>[[]]
 | x::t=>zoo t++(zoo t).map (x::·)
theorem zis:∀l:List zd,(zoo l).length=2 ^ l.length
 | []=>rfl
 | x::t=>by simp only[zoo,fE,fC,zis t,fH];lia
theorem znK{l b:List zd}(h:b.Sublist l):b∈zoo l:=by
 induction h with
 | slnil=>exact fG.mpr rfl
 | cons a h ih=>exact gR _ ih
 | cons_cons a h ih=>exact gK _ (fO.mpr (zc _ ih rfl))
theorem zcn{J:Type}[DecidableEq J]{l:List J}:∀{u:List J},l.Nodup->(∀x∈l,x∈u)->l.length<=u.length:=by
 induction l with
 | nil=>exact fun _ _=>fW _
 | cons a l ih=>
  intro u hn hs;have ha:=hs a fB;obtain⟨hn1,hn2⟩:=fU.mp hn;have:=ih (u:=u.erase a) hn2 fun x hx=>(List.mem_erase_of_ne fun e:x=a=>hn1 (by rw[<-e];exact hx)).mpr (hs x (fA _ hx));rw[List.length_erase_of_mem ha] at this;have h0:0<u.length:=fB3 ha;simp only[fH];exact zBN this h0
theorem zoY(nx:List (List zd)):∀(row:List (List zd)),∃ex,zbK row nx=row++ex:=by
 induction nx with
 | nil=>exact fun row=>⟨[],(gO _).symm⟩
 | cons b nx ih=>
  intro row;unfold zbK;rw[pM];split
  .exact ih row
  .obtain⟨ex,h⟩:=ih (row++[b]);exact⟨b::ex,by unfold zbK at h;rw[h,gE];rfl⟩
theorem zi5(nx:List (List zd)):∀(row:List (List zd)),row.Nodup->(zbK row nx).Nodup:=by
 induction nx with
 | nil=>exact fun row h=>h
 | cons b nx ih=>
  intro row h;unfold zbK;rw[pM];split
  .exact ih row h
  .rename_i hb
   refine ih (row++[b]) ?_;rw[gX];exact zq h (fU.mpr ⟨gB,.nil⟩) (fun x hx y hy e=>hb (by simp at hy;rw[<-hy,<-e];exact hx))
theorem zhp{b:List zd}(nx:List (List zd)):∀(row:List (List zd)),b∈zbK row nx↔b∈row\/b∈nx:=by
 induction nx with
 | nil=>exact fun row=>⟨.inl,fun h=>h.resolve_right gB⟩
 | cons c nx ih=>
  intro row;unfold zbK;rw[pM];split
  .rename_i hc
   have:=ih row;unfold zbK at this;rw[this,fF];exact⟨fun h=>h.elim .inl fun h=>.inr (.inr h),fun h=>h.elim .inl fun h=>h.elim (fun e=>.inl (e▸hc)) .inr⟩
  .have:=ih (row++[c]);unfold zbK at this;rw[this,fR,fG,fF];exact⟨fun h=>h.elim (fun h=>h.elim .inl fun h=>.inr (.inl h)) fun h=>.inr (.inr h),fun h=>h.elim (fun h=>.inl (.inl h)) fun h=>h.elim (fun h=>.inl (.inr h)) .inr⟩
section
variable{ms:List Mt}{g:List zd}
theorem zez{k:Nat}{r:List zd}(h:(zJ ms g k)[k]? = some r):zJ ms g (k+1)=zbK (zJ ms g k) (jS ms r):=by
 show (match (zJ ms g k)[k]? with|some r=>zbK (zJ ms g k) (jS ms r)|none=>zJ ms g k)=_;rw[h]
theorem zn5(k j:Nat):∃ex,zJ ms g (k+j)=zJ ms g k++ex:=by
 induction j with
 | zero=>exact⟨[],(gO _).symm⟩
 | succ j ih=>
  refine jU ih fun ex h=>?_;show ∃ex,(match (zJ ms g (k+j))[k+j]? with|some r=>zbK (zJ ms g (k+j)) (jS ms r)|none=>zJ ms g (k+j))=_;cases (zJ ms g (k+j))[k+j]? with
  | some r=>exact jU (zoY (jS ms r) (zJ ms g (k+j))) fun ex' h'=>⟨ex++ex',h'.trans (by rw[h,gE])⟩
  | none=>exact⟨ex,h⟩
theorem zcz{k n:Nat}(h:k<=n):∃ex,zJ ms g n=zJ ms g k++ex:=by
 obtain⟨j,rfl⟩:=Nat.exists_eq_add_of_le h;exact zn5 k j
theorem qK:∀k,(zJ ms g k).Nodup
 | 0=>(fU.mpr ⟨gB,.nil⟩)
 | k+1=>by
  show (match (zJ ms g k)[k]? with|some r=>zbK (zJ ms g k) (jS ms r)|none=>zJ ms g k).Nodup;split
  .exact zi5 _ _ (qK k)
  .exact qK k
theorem q7(k:Nat):∀r∈zJ ms g k,r.Sublist g:=by
 induction k with
 | zero=>intro r h;have:r=g:=fG.mp h;subst this;exact List.Sublist.refl _
 | succ k ih=>
  intro r h;have h:r∈(match (zJ ms g k)[k]? with|some r=>zbK (zJ ms g k) (jS ms r)|none=>zJ ms g k):=h;split at h
  .rename_i r' hr'
   rcases(zhp _ _).mp h with h|h
   .exact ih r h
   .exact((zcX h).trans (List.tail_sublist _)).trans (ih r' (pO hr'))
  .exact ih r h
theorem zkL{w:List (List zd)}(hn:w.Nodup)(hs:∀r∈w,r.Sublist g)(hg:g.length<=8):w.length<=256:=by
 refine fN (zcn hn fun x hx=>znK (hs x hx)) ?_;rw[zis];exact fN (Nat.pow_le_pow_right (by decide) hg) (by decide)
def Turns(ms:List Mt)(g:List zd)(k:Nat):Prop:=k<=(zJ ms g k).length/\∀j,j<k->j<(zJ ms g j).length
theorem Turns.zero:Turns ms g 0:=⟨fW _,fun j h=>absurd h (fDD j)⟩
theorem Turns.succ{k:Nat}(h:Turns ms g k)(hk:k<(zJ ms g k).length):Turns ms g (k+1):=by
 refine⟨?_,fun j hj=>?_⟩
 .obtain⟨ex,e⟩:=zcz (ms:=ms) (g:=g) (fBW k);rw[e,fE];exact zBP hk
 .rcases Nat.lt_or_ge j k with h1|h1
  .exact h.2 j h1
  .have:j=k:=by exact zBM hj h1
   subst this;exact hk
def End(ms:List Mt)(g:List zd)(n:Nat):Prop:=Turns ms g n/\(zJ ms g n).length<=n
theorem End.closed{n:Nat}(h:End ms g n){r b:List zd}(hr:r∈zJ ms g n)(hb:b∈jS ms r):b∈zJ ms g n:=by
 obtain⟨j,hj⟩:=fAI.mp hr;have hl:j<(zJ ms g n).length:=(fX.mp hj).1;have hjn:j<n:=pF hl h.2;have hjj:=h.1.2 j hjn;obtain⟨ex,e⟩:=zcz (ms:=ms) (g:=g) (fBI hjn);have hj':(zJ ms g j)[j]? = some r:=by rw[e,pA hjj] at hj;exact hj
 obtain⟨ex',e'⟩:=zcz (ms:=ms) (g:=g) (show j+1<=n from hjn);rw[e'];refine gR _ ?_;rw[zez hj'];exact(zhp _ _).mpr (.inr hb)
end
def IsMin(i:Int)(l:List Int):Prop:=i∈l/\∀b∈l,i<=b
theorem IsMin.vM{i j:Int}{l:List Int}(h:IsMin i l)(h':IsMin j l):i=j:=by
 have:=h.2 j h'.1;have:=h'.2 i h.1;exact zBo (by assumption) this
theorem zja(l:List Int):∀(a:Int),IsMin (l.foldl min a) (a::l):=by
 induction l with
 | nil=>exact fun a=>⟨fB,fun b hb=>(fG.mp hb)▸fA2 _⟩
 | cons x l ih=>
  intro a;have h:=ih (min a x);have h0:l.foldl min (min a x)<=min a x:=h.2 _ fB;refine⟨?_,fAN.mpr ⟨zBq h0,fAN.mpr ⟨zBr h0,fun b hb=>h.2 b (fA _ hb)⟩⟩⟩
  rcases fF.mp h.1 with e|hm
  .rw[pM,e]
   rcases fC8 a x with q|q
   .rw[fCJ q];exact fB
   .rw[fB7 q];exact fA _ fB
  .exact fA _ (fA _ hm)
noncomputable def lvF(ms:List Mt):Nat->List zd->Int
 | 0,_=>0
 | n+1,[]=>0
 | n+1,x::t=>((zdp ms (x::t)).map (lvF ms n)).foldl min (1+lvF ms n t)
theorem zq5(ms:List Mt)(n:Nat):∀(m:Nat) (r:List zd),r.length<=n->r.length<=m->lvF ms n r=lvF ms m r:=by
 induction n with
 | zero=>
  intro m r h _;rw[fCH (fDI.mp h)];cases m<;>rfl
 | succ n ih=>
  intro m r h1 h2;cases r with
  | nil=>cases m<;>rfl
  | cons x t=>
   cases m with
   | zero=>exact absurd h2 (fBE _)
   | succ m=>
    have h1:t.length+1<=n+1:=h1;have h2:t.length+1<=m+1:=h2;have e:(zdp ms (x::t)).map (lvF ms n)=(zdp ms (x::t)).map (lvF ms m):=pG fun b hb=>by
     have h:b.length<t.length+1:=qj (ms:=ms) (r:=x::t) (b:=b) (fA _ hb);exact ih m b (zp4 h1 h) (zp4 h2 h)
    simp only[lvF];rw[e,ih m t (zpX h1) (zpX h2)]
structure Lv(ms:List Mt)(lv:List zd->Int):Prop where
 nil:lv []=0
 cons:∀x t,IsMin (lv (x::t)) ((1+lv t)::(zdp ms (x::t)).map lv)
noncomputable def kU(ms:List Mt)(r:List zd):Int:=lvF ms r.length r
theorem zkt(ms:List Mt):Lv ms (kU ms):=by
 refine⟨rfl,fun x t=>?_⟩;have e:(zdp ms (x::t)).map (kU ms)=(zdp ms (x::t)).map (lvF ms t.length):=by
  refine pG fun b hb=>zq5 ms _ _ b (fM _) ?_;have:=qj (ms:=ms) (r:=x::t) (b:=b) (fA _ hb);simp at this;exact zrW this
 rw[e];exact zja _ _
theorem zdA(ms:List Mt)(r:List zd):(tk ms r).map (·.2)=zdp ms r:=by
 unfold tk zdp;rw[List.map_filterMap]
 congr 1;funext m
 cases qt r m<;>rfl
theorem zj1{ms:List Mt}{r:List zd}:(tk ms r).length<=ms.length:=List.length_filterMap_le _ _
section
variable{kvs:Tab}{k k':List zd}{v:AV}
theorem Tab.at_some(h:k∈kvs.map (·.1)):(kvs.at k).isSome=true:=by
 unfold Tab.at;rw[Option.isSome_map,List.find?_isSome];refine zb (fO.mp h) fun x hx e12_2=>?_;subst e12_2;exact zc x hx (by simp)
theorem Tab.wZ(h:k∉kvs.map (·.1)):kvs.at k=none:=by
 unfold Tab.at;rw[Option.map_eq_none_iff,List.find?_eq_none];intro x hx e;exact h (fO.mpr (zc x hx (by simpa using e)))
theorem Tab.vA:(kvs.at k).isSome=decide (k∈kvs.map (·.1)):=by
 by_cases h:k∈kvs.map (·.1)
 .rw[Tab.at_some h,G6 h]
 .rw[Tab.wZ h,G5 h];rfl
theorem Tab.vD(h:k∉kvs.map (·.1)):(kvs.put k v).map (·.1)=kvs.map (·.1)++[k]:=by
 unfold Tab.put;rw[Tab.wZ h];simp
theorem Tab.vE(h:k∈kvs.map (·.1)):(kvs.put k v).map (·.1)=kvs.map (·.1):=by
 unfold Tab.put;rw[if_pos (Tab.at_some h),fY];apply pG;intro x _;simp only[Function.comp];split<;>rfl
theorem Tab.wX:(kvs.put k v).at k'=if k'=k then some v else kvs.at k':=by
 unfold Tab.put;split
 .rename_i hs
  induction kvs with
  | nil=>simp[Tab.at] at hs
  | cons x kvs ih=>
   unfold Tab.at at hs ih ⊢;rw[gF,pS,pS];rw[pS] at hs
   by_cases hx:x.1=k
   .rw[if_pos hx]
    by_cases hk:k'=k
    .rw[if_pos hk];simp[hx,hk]
    .rw[if_neg hk];have h1:decide (x.1=k')=false:=G5 fun e=>hk (e.symm.trans hx);simp only[h1];clear hs ih
     induction kvs with
     | nil=>rfl
     | cons y kvs ih2=>
      rw[gF,pS,pS]
      by_cases hy:y.1=k
      .rw[if_pos hy];have h2:decide (y.1=k')=false:=G5 fun e=>hk (e.symm.trans hy);simp only[h2];exact ih2
      .rw[if_neg hy]
       by_cases hy':y.1=k'
       .simp[hy']
       .simp only[G5 hy'];exact ih2
   .rw[if_neg hx]
    by_cases hx':x.1=k'
    .have hk:¬k'=k:=fun e=>hx (hx'.trans e);rw[if_neg hk];simp[hx']
    .have h2:decide (x.1=k)=false:=G5 hx;simp only[h2] at hs;simp only[G5 hx'];exact ih hs
 .rename_i hs
  unfold Tab.at at hs ⊢;rw[List.find?_append]
  by_cases hk:k'=k
  .rw[if_pos hk];have:(kvs.find? fun x=>decide (x.1=k'))=none:=by
    rw[hk];cases hf:kvs.find? fun x=>decide (x.1=k) with
    | none=>rfl
    | some y=>rw[hf] at hs;exact absurd rfl hs
   rw[this];simp[hk]
  .rw[if_neg hk];have h1:decide (k=k')=false:=G5 fun e=>hk e.symm;simp[pS,h1]
end
noncomputable abbrev zgq(w:List (List zd)):Tab:=w.map fun r=>(r,.bool true)
theorem zhY(w:List (List zd)):(zgq w).map (·.1)=w:=by rw[fY];simp[Function.comp_def]
theorem zpi{w:List (List zd)}{b:List zd}(h:b∉w):(zgq w).put b (.bool true)=zgq (w++[b]):=by
 unfold Tab.put;rw[Tab.wZ (by rw[zhY];exact h)];simp[zgq]
theorem zsu{ms:List Mt}{done rest:List (List zd)}{r b:List zd}(hs:(done++r::rest).Pairwise fun x y=>x.length<=y.length)(hb:b∈done++r::rest)(hn:b∈jS ms r):b∈done:=by
 have hlt:=qj hn
 rcases fR.mp hb with h|h
 .exact h
 .have h2:=(gC.mp hs).2.1
  rcases fF.mp h with rfl|h
  .exact absurd hlt (fBP _)
  .exact absurd ((fZ.mp h2).1 b h) (Nat.not_le.mpr hlt)
section
variable{P:Gq}{X:Cx}{n:Nat}{Q:zm}{Z:XP}{U:AHeap}
def Sub(U U':AHeap):Prop:=∀a o,U a=some o->U' a=some o
theorem Sub.put{U U':AHeap}{p:Addr}{o:AO}(e:Sub U U')(h:U p=none):Sub U (U'.set p o):=fun a o' q=>by
 rw[AHeap.wB _ _ (by rintro rfl;rw[h] at q;cases q)];exact e a o' q
theorem Sub.none{U U':AHeap}(h:Sub U U'){p:Addr}(e:U' p=none):U p=none:=by
 cases q:U p with
 | none=>rfl
 | some o=>rw[h p o q] at e;exact absurd e (fJ _)
theorem zcB(r:List zd):∀x∈r.map zz,Flat 1 x:=fun x hx=>by refine zb (fO.mp hx) fun m _ e0_2=>?_;subst e0_2;exact zaD m
theorem zgz{r:List zd}{R:Bool->AHeap->Prop}(q:R r.isEmpty U):eqG (zA r) (.tup []) R U:=zkj (zcB r) (by decide) (by rw[fCA];exact q)
structure Reach(ms:List Mt)(g:List zd)(W:List (List zd)):Prop where
 self:g∈W
 closed:∀r∈W,∀b∈jS ms r,b∈W
 sub:∀r∈W,r.Sublist g
theorem zid{r:Bool}{xs:List (List zd)}(q:∀ys:List (List zd),ys.Perm xs->ys.Pairwise (fun x y=>x.length<=y.length)->mkL r (ys.map zA) Q U):zcE r (xs.map zA) Q U:=by
 have un:∃u:AV->List zd,∀x,u (zA x)=x:=⟨fun v=>match v with
  | .tup l=>l.map fun v=>match v with
   | .tup [.str s,.int k]=>(Nat.beq s 1,k)
   | _=>(false,0)
  | _=>[],fun x=>by
   show (x.map zz).map _=x;rw[fY];refine(pG fun m _=>?_).trans (fBY x);obtain⟨b,i⟩:=m;cases b<;>rfl⟩
 obtain⟨u,hu⟩:=un;unfold zcE;refine⟨fun v hv=>by refine zb (fO.mp hv) fun x _ e3_2=>?_;subst e3_2;exact⟨_,rfl⟩,fun ys h1 h2=>?_⟩;obtain⟨p1,p2⟩:=zgw hu h1;rw[p2] at h2 ⊢;refine q _ p1 ?_;rw[fA1] at h2;refine h2.imp fun {a b} h=>?_;have e:∀x:List zd,zj2 (zA x)=x.length:=fun x=>fC ..;rw[e,e] at h;exact h
theorem zoq(G:Gd X (hK P))(hd:n<560){g:List zd}{ms:List Mt}(hgl:g.length<=8)(hm:∀m∈ms,znO m)(hml:ms.length<=100000)
  (q:∀r kvs W,U r=none->Reach ms g W->(∀k∈W,Tab.at kvs k=some (.int (kU ms k)))->Q (.ref r) (U.set r (.tdict kvs))):CallOk X 159 ⟨n,false⟩ [gAV g,.lst (ms.map zH)] Q Z U:=by
 refine zpa G (gI hd (by decide)) fun L=>?_;intro rm hrm;refine zv g rfl (AHeap.wA ..) ?_;intro rr hrr;rw[zaK] at hrr ⊢;have e0:Sub U ((U.set rm (.tdict [(g,.bool true)])).set rr (.list [zA g])):=fun a o h=>jF hrr a o (jF hrm a o h);have hrr0:U rr=none:=Sub.none (jF hrm) hrr;have hnr:rr≠rm:=by rintro rfl;rw[AHeap.wA] at hrr;exact absurd hrr (fJ _)
 have lm0:((U.set rm (.tdict [(g,.bool true)])).set rr (.list [zA g])) rm=some (.tdict (zgq [g])):=by rw[AHeap.wB _ _ hnr.symm,AHeap.wA];rfl
 have lr0:((U.set rm (.tdict [(g,.bool true)])).set rr (.list [zA g])) rr=some (.list ([g].map zA)):=AHeap.wA ..;generalize ((U.set rm (.tdict [(g,.bool true)])).set rr (.list [zA g]))=U0 at e0 lm0 lr0;refine⟨fun n l' U'=>∃(k:Nat) (a b c:Option AV),n=257-k/\Turns ms g k/\Sub U U'/\U' rr=some (.list ((zJ ms g k).map zA))/\U' rm=some (.tdict (zgq (zJ ms g k)))/\l'=[some (gAV g),some (.lst (ms.map zH)),some (zA g),some (.ref rm),some (.ref rr),some (.int k),a,b,c,none,none],
  257,(qp 0 _ _ _ rfl .zero e0 lr0 lm0 rfl),?_⟩
 clear e0 lm0 lr0;rintro N l' U' ⟨k,a,b,c,rfl,ht,e,lr,lm,rfl⟩;have hlen:(zJ ms g k).length<=256:=zkL (qK k) (q7 k) hgl;refine ze (zE lr) ?_;rw[fC];refine kh (fun hc=>?_) fun hc=>?_
 .have hc:k<(zJ ms g k).length:=fBA.mp (G7 hc);obtain⟨r,hr⟩:∃r,(zJ ms g k)[k]? = some r:=⟨_,fV hc⟩
  have hrm':r∈zJ ms g k:=pO hr;have hrl:r.length<=8:=fN (q7 k r hrm').length_le hgl;refine jq lr (ze (qz hr) ?_);have tail:∀(d:Dp) c,(A.cons (A.fr (A.itP (A.loc 7)) (.one 8) (zef (X.push L))) A.nil) ⟨n+1,false⟩ [some (gAV g),some (.lst (ms.map zH)),some (zA g),some (.ref rm),some (.ref rr),some (.int ((k:Int)+1)),some (zA r),some (.lst ((jS ms r).map zA)),c,none,none]
    (fun f l' U''=>match f with|.next=>∃m,m<257-k/\∃(k:Nat) (a b c:Option AV),m=257-k/\Turns ms g k/\Sub U U''/\U'' rr=some (.list ((zJ ms g k).map zA))/\U'' rm=some (.tdict (zgq (zJ ms g k)))/\l'=[some (gAV g),some (.lst (ms.map zH)),some (zA g),some (.ref rm),some (.ref rr),some (.int k),a,b,c,none,none]|.ret v=>Ends Q v U'') (fun _ _ _=>False) U':=by
   intro _ c;refine zC (g:=zA) (fun xs w l U''=>Sub U U''/\U'' rr=some (.list (w.map zA))/\U'' rm=some (.tdict (zgq w))/\(∃c,l=[some (gAV g),some (.lst (ms.map zH)),some (zA g),some (.ref rm),some (.ref rr),some (.int ((k:Int)+1)),some (zA r),some (.lst ((jS ms r).map zA)),c,none,none])/\w.Nodup/\(∀r∈w,r.Sublist g)/\∀b∈xs,b∈jS ms r) (fun w b=>if b∈w then w else w++[b]) ?_ (b:=zJ ms g k) ?_
    (zac e lr lm ⟨_,rfl⟩ (qK k) (q7 k) (fun b hb=>hb))
   .rintro bh xs w l σ2 K S_ ⟨e2,lr2,lm2,⟨c',rfl⟩,wn,ws,hx⟩ hK;have hbn:=hx bh fB;have hw256:=zkL wn ws hgl;refine zc _ rfl ?_;refine zo0 lm2 ?_;rw[Tab.vA,zhY]
    by_cases hw:bh∈w
    .rw[if_pos hw] at hK;rw[G6 hw];exact⟨trivial,hK _ _ (zac e2 lr2 lm2 ⟨_,rfl⟩ wn ws (fun b hb=>hx b (fA _ hb)))⟩
    .rw[if_neg hw] at hK;rw[G5 hw];refine zes lm2 (by rw[fC];exact ztn hw256) ?_;rw[zpi hw];have lr3:=(AHeap.wB σ2 (.tdict (zgq (w++[bh]))) hnr).trans lr2;refine zo lr3 ?_;refine zo lr3 ?_;refine zG (by rw[fC];exact zwu hw256) ?_;refine⟨trivial,hK _ _ (zac ((e2.put hrm).put hrr0) ?_ ?_ ⟨_,rfl⟩ ?_ (fun r' h'=>?_) (fun b hb=>hx b (fA _ hb)))⟩
     .rw[AHeap.wA,fQ];rfl
     .rw[AHeap.wB _ _ hnr.symm,AHeap.wA]
     .rw[gX];exact zq wn (fU.mpr ⟨gB,.nil⟩) (fun x hx y hy e=>hw (by rw[<-fG.mp hy,<-e];exact hx))
     .rcases fR.mp h' with h|h
      .exact ws r' h
      .rw[fG.mp h];exact((zcX hbn).trans (List.tail_sublist _)).trans (q7 k r hrm')
   .rintro l σ2 ⟨e2,lr2,lm2,⟨c',rfl⟩,_,_,_⟩;have eg:(jS ms r).foldl (fun w b=>if b∈w then w else w++[b]) (zJ ms g k)=zJ ms g (k+1):=(zez hr).symm;rw[eg] at lr2 lm2;exact zdY (257-(k+1)) (zp1 (a:=256) (pF hc hlen)) (k+1) _ _ _ rfl (ht.succ hc) e2 lr2 lm2 rfl
  refine zgz ?_;cases r with
  | nil=>exact tail ⟨0,false⟩ c
  | cons x t=>
   refine zaL (G.push L) (zrM hd) (ztp hrl) hm hml ?_;have htl:=zj1 (ms:=ms) (r:=x::t);refine zN (fun z=>zA z.2) (fun _=>rfl) (fun _ _=>rfl) (fun z hz R q=>q) trivial (zr3 hml htl) ?_;refine zG (by rw[fC,fS];exact ztX hml htl) ?_;have e8:[AV.tup (List.drop (Int.toNat 1) (List.map zz (x::t)))]++(tk ms (x::t)).map (fun z=>zA z.2)=(jS ms (x::t)).map zA:=by
    show zA t::_=zA t::_;rw[<-zdA,fY];rfl
   rw[e8];exact tail ⟨0,false⟩ c
 .have hc:(zJ ms g k).length<=k:=pN.mp fun h=>of_decide_eq_false hc (fBA.mpr h);have hE:End ms g k:=⟨ht,hc⟩
  intro rl hrl;have hrl0:=e.none hrl;have e1:Sub U (U'.set rl (.tdict [])):=e.put hrl0;have hlr:rr≠rl:=by rintro rfl;rw[lr] at hrl;exact absurd hrl (fJ _)
  refine ze (zE ((AHeap.wB _ _ hlr).trans lr)) ?_;refine zid fun ys hp hs=>?_;have hyn:ys.Nodup:=hp.nodup_iff.mpr (qK k);have hyl:ys.length<=256:=by rw[hp.length_eq];exact hlen
  have hlv:=zkt ms;refine zC (g:=zA) (fun xs b l U''=>Sub U U''/\b++xs=ys/\(∃kvs:Tab,U'' rl=some (.tdict kvs)/\kvs.map (·.1)=b/\∀k∈b,Tab.at kvs k=some (.int (kU ms k)))/\∃a b c c',l=[some (gAV g),some (.lst (ms.map zH)),some (zA g),some (.ref rm),some (.ref rr),some (.int k),a,b,c,some (.ref rl),c']) (fun b x=>b++[x]) ?_ (b:=[]) ?_
   (zdW e1 rfl (zv [] (AHeap.wA ..) rfl (fun k hk=>nomatch hk)) _ _ _ _ rfl)
  .rintro r xs b l σ5 K S_ ⟨e5,hy,⟨kvs,ll,hk,hv⟩,a',b',c',c'',rfl⟩ hK;have hry:r∈ys:=by rw[<-hy];simp
   have hrr':r∈zJ ms g k:=hp.mem_iff.mp hry;have hrl':r.length<=8:=fN (q7 k r hrr').length_le hgl;have hbl:b.length<=256:=by rw[<-hy,fE] at hyl;exact zxd hyl
   have hkl:kvs.length<=256:=by have:=congrArg List.length hk;rw[fC] at this;exact zxO hbl this
   have hnew:r∉kvs.map (·.1):=by
    rw[hk];rw[<-hy] at hyn;exact fun h=>(gX.mp hyn).2.2 r h r fB rfl
   have hav:∀b∈jS ms r,Tab.at (kvs.put r (.int 0)) b=some (.int (kU ms b)):=fun b hb=>by
    rw[<-hy] at hs hp;have hbm:=zsu hs (hp.mem_iff.mpr (hE.closed hrr' hb)) hb;rw[Tab.wX,if_neg (by rintro rfl;rw[hk] at hnew;exact hnew hbm)];exact hv b hbm
   have fin:∀U'' (kvs':Tab) a b0 c c',Sub U U''->U'' rl=some (.tdict kvs')->kvs'.map (·.1)=b++[r]->Tab.at kvs' r=some (.int (kU ms r))->(∀b,b≠r->Tab.at kvs' b=Tab.at kvs b)->K [some (gAV g),some (.lst (ms.map zH)),some (zA g),some (.ref rm),some (.ref rr),some (.int k),a,b0,c,some (.ref rl),c'] U'':=fun U'' kvs' a b0 c c' g1 g3 g4 g5 g6=>by
    refine hK _ _ (zdW g1 (by rw[gE];exact hy) (zv kvs' g3 g4 (fun z hz=>?_)) _ _ _ _ rfl)
    rcases fR.mp hz with h|h
    .rw[g6 z (by rintro rfl;rw[hk] at hnew;exact hnew h)];exact hv z h
    .rw[fG.mp h];exact g5
   have hl1:(kvs.put r (.int 0)).length<=300:=by have:=Tab.wY kvs r (.int 0);exact zxP hkl this
   have hk1:(kvs.put r (.int 0)).map (·.1)=b++[r]:=by rw[Tab.vD hnew,hk]
   have hat:∀b,b≠r->Tab.at (kvs.put r (.int 0)) b=Tab.at kvs b:=fun b hb=>by rw[Tab.wX,if_neg hb]
   have hat0:Tab.at (kvs.put r (.int 0)) r=some (.int 0):=by rw[Tab.wX,if_pos rfl]
   refine zc _ rfl ?_;refine zes ll (ztn hkl) ?_;have e6:Sub U (σ5.set rl (.tdict (kvs.put r (.int 0)))):=e5.put hrl0;have l6:(σ5.set rl (.tdict (kvs.put r (.int 0)))) rl=some (.tdict (kvs.put r (.int 0))):=AHeap.wA ..;generalize σ5.set rl (.tdict (kvs.put r (.int 0)))=σ6 at e6 l6;generalize kvs.put r (.int 0)=kv1 at hav hl1 hk1 hat hat0 l6;refine zgz ?_;cases r with
   | nil=>
    refine⟨trivial,fin _ _ _ _ _ _ e6 l6 hk1 ?_ hat⟩;rw[hat0,hlv.nil]
   | cons x t=>
    refine zaL (G.push L) (zrM hd) (ztp hrl') hm hml ?_;have htl:=zj1 (ms:=ms) (r:=x::t);refine zN (fun z=>.int (kU ms z.2)) (fun _=>rfl) (fun _ _=>rfl) (fun z hz R q=>?_) trivial (zr3 hml htl) ?_
    .have hzn:z.2∈jS ms (x::t):=fA _ (by rw[<-zdA];exact gZ hz);exact zcc l6 (hav _ hzn) q
    refine zcc (k:=t) l6 (hav t fB) ?_;refine zG (by rw[fC,fS];exact ztX hml htl) ?_;have e9:[AV.int (1+kU ms t)]++(tk ms (x::t)).map (fun z=>AV.int (kU ms z.2))=((1+kU ms t)::(zdp ms (x::t)).map (kU ms)).map .int:=by
     rw[<-zdA,fY,gF,fY];rfl
    rw[e9];refine zgr (fun e=>nomatch e) fun M hM1 hM2=>?_;have hMv:M=kU ms (x::t):=IsMin.vM ⟨hM1,hM2⟩ (hlv.cons x t);subst hMv;refine zes l6 (zwx hl1) ?_;have hin:(x::t)∈kv1.map (·.1):=by rw[hk1];simp
    refine⟨trivial,fin _ _ _ _ _ _ (e6.put hrl0) (AHeap.wA ..) ((Tab.vE hin).trans hk1) (by rw[Tab.wX,if_pos rfl]) fun b hb=>by rw[Tab.wX,if_neg hb];exact hat b hb⟩
  .rintro l σ5 ⟨e5,hy,⟨kvs,ll,hk,hv⟩,a',b',c',c'',rfl⟩;have eb:ys.foldl (fun b x=>b++[x]) []=ys:=by
    have:=jZ (fun x:List zd=>[x]) ys [];rw[this,pX,List.flatMap_singleton']
   rw[eb] at hv;refine Ends.drop (U':=U.set rl (.tdict kvs)) (fun a o h=>?_) (q rl kvs ys hrl0 ⟨hp.mem_iff.mpr ?_,fun r hr b hb=>hp.mem_iff.mpr (hE.closed (hp.mem_iff.mp hr) hb),fun r hr=>q7 k r (hp.mem_iff.mp hr)⟩ hv)
   .by_cases ha:a=rl
    .subst ha;rw[AHeap.wA] at h;rw[ll,h]
    .rw[AHeap.wB _ _ ha] at h;exact e5 a o h
   .obtain⟨ex,e⟩:=zcz (ms:=ms) (g:=g) (fW k);rw[e];exact gR _ (fG.mpr rfl)
end
section
variable{P:Gq}{X:Cx}{n:Nat}{Q:zm}{Z:XP}{U:AHeap}
theorem zdv(m:Mt):Flat 2 (zH m):=.tup fun x hx=>by
 rcases fF.mp hx with rfl|hx
 .exact zfA m.1
 .rw[fG.mp hx];exact zfA m.2
theorem zpH(z:Mt×List zd):Flat 3 (zpG z):=.tup fun x hx=>by
 rcases fF.mp hx with rfl|hx
 .exact zdv z.1
 .rw[fG.mp hx];exact .tup (zcB z.2)
theorem zdt{xs:List AV}{k:Nat}{R:Bool->AHeap->Prop}(hf:∀x∈xs,Flat k x)(hk:k<100)(q:R xs.isEmpty U):eqG (.lst xs) (.lst []) R U:=by
 refine zhf (k:=k+1) (j:=1) (.lst hf) (.lst fun x hx=>nomatch hx) hk (fun h=>?_) fun h=>?_
 .cases h;exact q
 .cases xs with
  | nil=>exact absurd rfl h
  | cons _ _=>exact q
noncomputable def zab(ms:List Mt)(r:List zd):List (Mt×List zd):=(tk ms r).filter fun z=>decide (kU ms z.2=kU ms r)
noncomputable def pkF(ms:List Mt)(n:Nat)(r:List zd):List Mt:=match n,r with
 | 0,_=>[]
 | _+1,[]=>[]
 | n+1,x::t=>match zab ms (x::t) with
  | []=>pkF ms n t
  | z::_=>z.1::pkF ms n z.2
noncomputable def pk(ms:List Mt)(r:List zd):List Mt:=pkF ms r.length r
theorem qD{ms:List Mt}{r:List zd}{z:Mt×List zd}(h:z∈zab ms r):r≠[]/\z.2∈jS ms r/\z.1∈ms/\qt r z.1=some z.2:=by
 have h1:=(fP.mp h).1;refine zb (pZ.mp h1) fun m hm h2=>?_;refine zb (fAR.mp h2) fun b h3 e1_2=>?_;subst e1_2;cases r with
 | nil=>cases h3
 | cons x t=>exact zn (fun e=>nomatch e) (fA _ (pZ.mpr (zc m hm h3))) hm h3
theorem zrm(ms:List Mt):∀(n m:Nat) (r:List zd),r.length<=n->r.length<=m->pkF ms n r=pkF ms m r:=by
 intro n
 induction n with
 | zero=>intro m r h1 h2;rw[gS.mp (fDI.mp h1)];cases m<;>rfl
 | succ n ih=>
  intro m r h1 h2;cases r with
  | nil=>cases m<;>rfl
  | cons x t=>
   cases m with
   | zero=>cases h2
   | succ m=>
    rw[fH] at h1 h2;unfold pkF;cases hg:zab ms (x::t) with
    | nil=>exact ih m t (by exact zpX h1) (by exact zpX h2)
    | cons z zs=>
     have h3:=qj (qD (ms:=ms) (r:=x::t) (z:=z) (by rw[hg];exact fB)).2.1;rw[fH] at h3;dsimp only;rw[ih m z.2 (by exact zp4 h1 h3) (by exact zp4 h2 h3)]
theorem zjz(ms:List Mt):pk ms []=[]:=rfl
theorem zgx{ms:List Mt}{x:zd}{t:List zd}(h:zab ms (x::t)=[]):pk ms (x::t)=pk ms t:=by
 show pkF ms (t.length+1) (x::t)=_;unfold pkF;rw[h];rfl
theorem zgy{ms:List Mt}{x:zd}{t:List zd}{z:Mt×List zd}{zs:List (Mt×List zd)}(h:zab ms (x::t)=z::zs):pk ms (x::t)=z.1::pk ms z.2:=by
 have h3:=qj (qD (ms:=ms) (r:=x::t) (z:=z) (by rw[h];exact fB)).2.1;show pkF ms (t.length+1) (x::t)=_;unfold pkF;rw[h];dsimp only;rw[zrm ms t.length z.2.length z.2 (by exact zrW h3) (fM _)];rfl
theorem zlJ(G:Gd X (hK P))(hd:n<550){g:List zd}{ms:List Mt}(hgl:g.length<=8)(hm:∀m∈ms,znO m)(hml:ms.length<=100000)(q:Q (.lst ((pk ms g).map zH)) U):CallOk X 164 ⟨n,false⟩ [gAV g,.lst (ms.map zH)] Q Z U:=by
 refine znp G (gI hd (by decide)) fun L=>?_;refine zoq (G.push L) (by exact zrL hd) hgl hm hml fun rt kvs W hrt hW hkv=>?_;intro rf hrf;have hrf0:U rf=none:=Sub.none (jF hrt) hrf;have hne:rt≠rf:=by rintro rfl;rw[AHeap.wA] at hrf;exact absurd hrf (fJ _)
 have e0:Sub U ((U.set rt (.tdict kvs)).set rf (.list [])):=fun a o h=>jF hrf a o (jF hrt a o h);have lt0:((U.set rt (.tdict kvs)).set rf (.list [])) rt=some (.tdict kvs):=by rw[AHeap.wB _ _ hne,AHeap.wA]
 have lf0:((U.set rt (.tdict kvs)).set rf (.list [])) rf=some (.list (([]:List Mt).map zH)):=AHeap.wA ..;generalize (U.set rt (.tdict kvs)).set rf (.list [])=U0 at e0 lt0 lf0;refine⟨fun n l' U'=>∃(r:List zd) (fs:List Mt) (a5:Option AV),n=r.length/\Sub U U'/\U' rf=some (.list (fs.map zH))/\U' rt=some (.tdict kvs)/\r∈W/\fs++pk ms r=pk ms g/\fs.length+r.length<=8/\l'=[some (gAV g),some (.lst (ms.map zH)),some (.ref rt),some (zA r),some (.ref rf),a5],
  g.length,(zeR g [] _ rfl e0 lf0 lt0 hW.self rfl (by rw[gJ];exact zwy hgl) rfl),?_⟩
 clear e0 lt0 lf0;intro N l' U' hR1;refine zeP hR1 fun r fs a5 e0_3 e lf lt' hrW hpk hlen e0_10=>?_;subst e0_3;subst e0_10;refine zgz ?_;cases r with
 | nil=>
  rw[zjz,gO] at hpk;rw[<-hpk] at q;exact Ends.one e lf hrf0 q
 | cons x t=>
  refine zaL (G.push L) (by exact zwh hd) (by rw[fH];exact zxf hlen) hm hml ?_;have hnx:∀z∈tk ms (x::t),z.2∈jS ms (x::t):=fun z hz=>fA _ (by rw[<-zdA];exact gZ hz);have htl:=zj1 (ms:=ms) (r:=x::t);refine zO (fun z=>decide (kU ms z.2=kU ms (x::t))) zpG (fun _=>rfl) (fun _ _=>rfl) (fun z hz R q=>?_) (fun z hz _ R q=>q) trivial (by exact zr3 hml htl) ?_
  .refine zcc lt' (hkv _ (hW.closed _ hrW _ (hnx z hz))) ?_;refine zcc lt' (hkv _ hrW) ?_;exact q
  refine zdt (k:=3) (fun y hy=>by refine zb (fO.mp hy) fun z _ e2_2=>?_;subst e2_2;exact zpH z) (by decide) ?_;cases hg:zab ms (x::t) with
  | nil=>
   unfold zab at hg;rw[hg];exact zaO t.length (by rw[fH];exact zpW) t fs _ rfl e lf lt' (hW.closed _ hrW t fB) (by rw[<-hpk,zgx hg]) (by exact zw5 hlen) rfl
  | cons z zs=>
   have hz:=qD (ms:=ms) (r:=x::t) (z:=z) (by rw[hg];exact fB);have h3:=qj hz.2.1;have hps:=zgy hg;unfold zab at hg;rw[hg];refine zo lf ?_;refine zo lf ?_;refine zG (by rw[fC];exact zw4 hlen) ?_;refine zaO z.2.length (by rw[fH];exact zxj h3) z.2 (fs++[z.1]) _ rfl (e.put hrf0) ?_ ?_ (hW.closed _ hrW _ hz.2.1) ?_ ?_ rfl
   .rw[AHeap.wA,fQ];rfl
   .rw[AHeap.wB _ _ hne];exact lt'
   .rw[<-hpk,hps,gE];rfl
   .rw[fE,fS];exact zyl hlen h3
end
section
variable{P:Gq}{X:Cx}{n:Nat}{Q:zm}{Z:XP}{U:AHeap}
structure Led where
 es:List Ent
 fs:List Ent
 span:Int
 tick:List Mt
 clos:List Mt
structure LA where
 self:Addr
 dx:Addr
 rd:Addr
 pb:Addr
 pk:Addr
 pt:Addr
 pc:Addr
noncomputable def zjj(a:LA)(D:Led):List (Nat×AV):=[(3,.int D.span),(4,.ref a.rd),(5,.ref a.pt),(6,.ref a.pc)]
structure LAt(U:AHeap)(a:LA)(D:Led):Prop where
 s:U a.self=some (.inst 245 a.dx)
 d:U a.dx=some (.idict (zjj a D))
 r:U a.rd=some (.idict [(0,.ref a.pb),(1,.ref a.pk)])
 b:U a.pb=some (.list (D.es.map zD))
 k:U a.pk=some (.list (D.fs.map zD))
 t:U a.pt=some (.list (D.tick.map zH))
 c:U a.pc=some (.list (D.clos.map zH))
 dr:a.dx≠a.rd
 nd:[a.pb,a.pk,a.pt,a.pc].Nodup
def zlD(m:Mt):Prop:=SmM m/\m.1≠[]/\m.2≠[]
structure LOk(D:Led):Prop where
 es:EsOk D.es
 fs:EsOk D.fs
 few:D.es.length<=80/\D.fs.length<=80
 tick:∀m∈D.tick,zlD m
 clos:∀m∈D.clos,zlD m
 tl:D.tick.length<=1000
 cl:D.clos.length<=1000
noncomputable def Led.row(D:Led)(s:Bool):List Ent:=if s then D.fs else D.es
noncomputable def LA.row(a:LA)(s:Bool):Addr:=if s then a.pk else a.pb
noncomputable def Led.grps(D:Led):List (List zd):=Mine.Internal.grps D.es D.fs D.span
theorem LAt.row{a:LA}{D:Led}(h:LAt U a D)(s:Bool):U (a.row s)=some (.list ((D.row s).map zD)):=by
 cases s with
 | false=>exact h.b
 | true=>exact h.k
theorem kH{a:LA}{D:Led}(h:LAt U a D){s:Bool}(q:Q (.ref (a.row s)) U):zcO a.rd (.str s.toNat) Q U:=by
 refine ji h.r ?_;cases s<;>exact q
theorem zbz(G:Gd X (hK P))(hd:n<570){a:LA}{D:Led}(h:LAt U a D)(ho:LOk D)(q:Q (.lst (D.grps.map gAV)) U):CallOk X 185 ⟨n,false⟩ [.ref a.self] Q Z U:=by
 refine zce G (gI hd (by decide)) fun L=>?_;refine zl h.s h.d ?_;refine kH (s:=false) h ?_;refine zl h.s h.d ?_;refine kH (s:=true) h ?_;refine zl h.s h.d ?_;refine zlc (G.push L) (zrN hd) h.b h.k ho.es ho.fs ?_;exact Ends.same q
noncomputable def Led.holding(D:Led)(m:zd):List (List zd):=D.grps.filter fun g=>decide (m∈g)
theorem grps_len{ts:List Tr}{span:Int}(b:List (List zd)×Option Int):(ts.foldl (j3 span) b).1.length<=b.1.length+ts.length:=by
 induction ts generalizing b with
 | nil=>exact fM _
 | cons t ts ih=>
  have h:(j3 span b t).1.length<=b.1.length+1:=by
   unfold j3 j7;dsimp only;split
   .rename_i hg
    split at hg<;>simp_all
   .rename_i g hg
    have:(if kL span b.2 t.1 then b.1++[[]] else b.1).length<=b.1.length+1:=by split<;>simp
    rw[fE,List.length_dropLast,fS];have hne:(if kL span b.2 t.1 then b.1++[[]] else b.1)≠[]:=fun e=>by rw[e] at hg;cases hg
    have:=List.length_pos_iff.mpr hne;exact zxv (by assumption)
  have:=ih (j3 span b t);exact zAs h this
theorem Led.grps_len{D:Led}(h:LOk D):D.grps.length<=10000:=by
 have h1:=Mine.Internal.grps_len (ts:=inO D.es D.fs) (span:=D.span) ([],none);have h2:=zaw D.es D.fs;have:=h.few;unfold Led.grps Mine.Internal.grps;exact zz6 h1 h2 this
theorem zho(G:Gd X (hK P))(hd:n<560){a:LA}{D:Led}(h:LAt U a D)(ho:LOk D){m:zd}{g:List zd}{gs:List (List zd)}(hg:D.holding m=g::gs)(q:Q (gAV g) U):CallOk X 228 ⟨n,false⟩ [.ref a.self,.str m.1.toNat,.int m.2] Q Z U:=by
 refine zd1 G (gI hd (by decide)) fun L=>?_;refine zl h.s h.d ?_;refine zbz (G.push L) (zrM hd) h ho ?_;have:=Led.grps_len ho;refine zO (fun g=>decide (m∈g)) gAV (fun _=>rfl) (fun _ _=>rfl) (fun g _ R q=>?_) (fun g _ _ R q=>q) trivial (zwr this) ?_
 .exact inM (.inl rfl) q
 unfold Led.holding at hg;rw[hg];exact Ends.same q
theorem zjr(G:Gd X (hK P))(hd:n<560){a:LA}{D:Led}(h:LAt U a D)(ho:LOk D)(q:Q (.lst ((srt num D.tick).map zH)) U):CallOk X 211 ⟨n,false⟩ [.ref a.self] Q Z U:=by
 refine zln G (gI hd (by decide)) fun L=>?_;refine zl h.s h.d ?_
 conv=>whnf
 refine ze (zE h.t) ?_;refine zeE (G.push L) (zwi hd) (fun m hm=>(ho.tick m hm).1) ?_;exact Ends.same q
noncomputable def Led.told(D:Led):List zd:=D.tick.flatMap zf
noncomputable def Led.left(D:Led)(s:Bool):List Nat:=(List.range (D.row s).length).filter fun i=>!decide ((s,(i:Int))∈D.told)
theorem zfs{m:Mt}(h:SmM m):(zf m).length<=6:=by
 unfold zf;rw[fE,fC,fC];have h1:m.1.length<=3:=h.1.1;have h2:m.2.length<=3:=h.2.1;exact zxx h1 h2
theorem zkp(G:Gd X (hK P))(hd:n<560){a:LA}{D:Led}(h:LAt U a D)(ho:LOk D){s:Bool}(q:Q (.lst ((D.left s).map fun i:Nat=>.int i)) U):CallOk X 223 ⟨n,false⟩ [.ref a.self,.str s.toNat] Q Z U:=by
 refine zqZ G (gI hd (by decide)) fun L=>?_;have htl:=ho.tl;refine zl h.s h.d ?_
 conv=>whnf
 refine ze (zE h.t) ?_;refine zC (g:=zH) (fun xs b l U'=>U=U'/\(∃u,l=[some (.ref a.self),some (.str s.toNat),some (.lst (b.map zz)),u])/\b.length+6*xs.length<=6000/\∀m∈xs,m∈D.tick) (fun b m=>b++zf m) ?_ (b:=[]) ?_ (zn rfl ⟨_,rfl⟩ (by rw[gJ];exact zDN htl) (fun m hm=>hm))
 .rintro m xs b l U' K S_ ⟨rfl,⟨u,rfl⟩,hl,hx⟩ hK;rw[fH] at hl;have hm:=(ho.tick m (hx m fB)).1;have hml:=zfs hm;have h1:m.1.length<=3:=hm.1.1;have h2:m.2.length<=3:=hm.2.1;refine zc _ rfl ?_;refine kJ (G.push L) (zwj hd) (zmn h1) (zmn h2) ?_;refine zG (by rw[fC,fC];exact zDS hl hml) ?_;rw[<-fQ];exact⟨h.t,hK _ _ (zn rfl ⟨_,rfl⟩ (by rw[fE];exact zDR hl hml) (fun y hy=>hx y (fA _ hy)))⟩
 .rintro l U' ⟨rfl,⟨u,rfl⟩,_,_⟩;rw[jZ,pX];refine zl h.s h.d ?_;refine kH h ?_;refine ze (zE (h.row s)) ?_;rw[fC];have hrl:(D.row s).length<=80:=by
   cases s with
   | false=>exact ho.few.1
   | true=>exact ho.few.2
  refine zeo (zpV hrl) ?_;refine zO (fun i:Nat=>!decide ((s,(i:Int))∈D.told)) (fun i:Nat=>.int i) (fun _=>rfl) (fun _ _=>rfl) (fun i _ R q=>?_) (fun i _ _ R q=>q) trivial (by rw[pD];exact zpV hrl) ?_
  .exact inM (m:=(s,(i:Int))) (ms:=D.told) (.inl rfl) q
  .exact Ends.same q
end
section
variable{P:Gq}{X:Cx}{n:Nat}{Q:zm}{Z:XP}{U:AHeap}
theorem zbk{J β:Type}{f:J->List β}{c:Nat}{l:List J}(h:∀a∈l,(f a).length<=c):(l.flatMap f).length<=l.length*c:=by
 induction l with
 | nil=>exact fW _
 | cons a l ih=>
  rw[gQ,fE,fH,fBB];have:=h a fB;have:=ih fun b hb=>h b (fA _ hb);exact zz9 (by assumption) this
theorem zpP{es fs:List Ent}{span:Int}{g:List zd}(h:g.length<=8):(win es fs span g).length<=20480:=by
 unfold win;rw[(js ..).length_eq];refine fN (zbk (c:=4096) fun z hz=>?_) (by decide);have hzl:∀z∈szs,8 ^ z.1*8 ^ z.2<=4096:=by decide
 refine fN (zbk (c:=8 ^ z.2) fun l hl=>?_) (fN (gP _ (zbr (kO h) z.1)) (hzl z hz));unfold qF;rw[fC];exact fN (gU ..) (zbr (kO h) z.2)
noncomputable def zB(m:Mt):zd:=(zf m).headD (false,0)
noncomputable def Led.pick(D:Led)(g:List zd):Led:={ D with tick:=(D.tick.filter fun m=>!decide (zB m∈g))++pk ((win D.es D.fs D.span g).filter fun m=>!decide (m∈D.clos)) g }
theorem LAt.ticks{a:LA}{D:Led}(h:LAt U a D){p:Addr}(hp:U p=none)(tk:List Mt):LAt ((U.set p (.list (tk.map zH))).set a.dx (.idict (zjj { a with pt:=p } D))) { a with pt:=p } { D with tick:=tk }:=by
 have ne:∀{q:Addr} {o:AO},U q=some o->q≠p:=fun e q=>by rw[q,hp] at e;exact absurd (Eq.symm e) (fJ _)
 have nd:∀{q:Addr} {xs:List AV},U q=some (.list xs)->q≠a.dx:=fun e q=>by rw[q,h.d] at e;cases e
 have hdp:a.dx≠p:=ne h.d;have hsd:a.self≠a.dx:=fun q=>by have:=h.s;rw[q,h.d] at this;cases this
 have st:∀{q:Addr} {o:AO},U q=some o->q≠a.dx->((U.set p (.list (tk.map zH))).set a.dx (.idict (zjj { a with pt:=p } D))) q=some o:=fun e hq=>by rw[AHeap.wB _ _ hq,AHeap.wB _ _ (ne e)];exact e
 obtain⟨n1,n2⟩:=fU.mp h.nd;obtain⟨n3,n4⟩:=fU.mp n2;obtain⟨n5,n6⟩:=fU.mp n4;refine⟨st h.s hsd,AHeap.wA ..,st h.r h.dr.symm,st h.b (nd h.b),st h.k (nd h.k),?_,st h.c (nd h.c),h.dr,?_⟩
 .rw[AHeap.wB _ _ (Ne.symm hdp)];exact AHeap.wA ..
 .show [a.pb,a.pk,p,a.pc].Nodup;have e1:=ne h.b;have e2:=ne h.k;have e3:=ne h.c;simp only[fU,fF,gB,or_false,not_or,not_false_eq_true,fCR,and_true] at n1 n3 n5 ⊢;exact zq (zq n1.1 e1 n1.2.2) ⟨e2,n3.2⟩ e3.symm
theorem zdm{a:LA}{D:Led}{p:Addr}(hp:U p=none)(tk:List Mt){x:Addr}{o:AO}(hx:x≠a.dx)(e:U x=some o):((U.set p (.list (tk.map zH))).set a.dx (.idict (zjj { a with pt:=p } D))) x=some o:=by
 rw[AHeap.wB _ _ hx,AHeap.wB _ _ (by rintro rfl;rw[hp] at e;cases e)];exact e
theorem znN{m m':Mt}(h:zH m=zH m'):m=m':=by
 obtain⟨a,b⟩:=m;obtain⟨c,d⟩:=m';have inj:∀{l r:List Int},l.map AV.int=r.map AV.int->l=r:=fun {l r} e=>by
  have:=congrArg (List.map unI) e;rw[fY,fY] at this;have hi:unI∘AV.int=id:=rfl;rw[hi,fBY,fBY] at this;exact this
 unfold zH at h;injection h with h
 injection h with h1 h2
 injection h2 with h2 _
 injection h1 with h1
 injection h2 with h2
 have e1:a=c:=inj h1;have e2:b=d:=inj h2;subst e1 e2;rfl
theorem znJ{m:Mt}{ms:List Mt}:zH m∈ms.map zH↔m∈ms:=⟨fun h=>by refine zb (fO.mp h) fun x h1 h2=>?_;rw[<-znN h2];exact h1,fun h=>gZ h⟩
theorem zqQ{m:Mt}{ms:List Mt}{p:Addr}{R:Bool->AHeap->Prop}(hp:U p=some (.list (ms.map zH)))(q:R (decide (m∈ms)) U):inR (zH m) p R U:=by
 refine zhs hp (zdv m) (fun y hy=>?_) (by decide) (fun h=>?_) fun h=>?_
 .refine zb (fO.mp hy) fun x _ e6_2=>?_;subst e6_2;exact zdv x
 .rw[znJ] at h;rw[G6 h] at q;exact q
 .rw[znJ] at h;rw[G5 h] at q;exact q
theorem zox{es fs:List Ent}{span:Int}{g:List zd}(hg:GOk g es.length fs.length){m:Mt}(h:m∈win es fs span g):zlD m:=by
 refine jw (ziG hg ((js ..).mem_iff.mp h)) fun h1 _ _ h2 _=>?_;refine(zq h1 (fun e=>?_) (fun e=>?_))<;>rw[e,gJ] at h2<;>simp at h2
theorem zsH{m:Mt}(h:zlD m):znO m:=⟨pK h.1.1.1,pK h.1.2.1⟩
theorem zjy(ms:List Mt)(r:List zd):(pk ms r).length<=r.length:=by
 have gen:∀n r,(pkF ms n r).length<=n:=fun n=>by
  induction n with
  | zero=>intro r;exact fM 0
  | succ n ih=>
   intro r;cases r with
   | nil=>exact fW _
   | cons x t=>
    unfold pkF;split
    .exact pK (ih t)
    .exact fAK (ih _)
 exact gen _ _
theorem zkB(G:Gd X (hK P))(hd:n<540){a:LA}{D:Led}(h:LAt U a D)(ho:LOk D){g:List zd}(hg:GOk g D.es.length D.fs.length)
  (q:∀U' pt',(∀x o,x≠a.dx->U x=some o->U' x=some o)->U pt'=none->LAt U' { a with pt:=pt' } (D.pick g)->Q .none U'):CallOk X 190 ⟨n,false⟩ [.ref a.self,gAV g] Q Z U:=by
 refine zq1 G (gI hd (by decide)) fun L=>?_;have htl:=ho.tl
 conv=>whnf
 refine zl h.s h.d ?_
 conv=>whnf
 refine ze (zE h.t) ?_;refine zO (fun m=>!decide (zB m∈g)) zH (fun _=>rfl) (fun _ _=>rfl) (fun m hm R q=>?_) (fun m hm _ R q=>q) h.t (ze2 htl) ?_
 .have hgo:=ho.tick m hm;have h1:m.1.length<=3:=hgo.1.1.1;have h2:m.2.length<=3:=hgo.1.2.1;refine kJ (G.push L) (zwg hd) (zmn h1) (zmn h2) ?_;unfold zB at q;cases hmm:zf m with
  | nil=>
   exfalso;have:=congrArg List.length hmm;unfold zf at this;rw[fE,fC,gJ] at this;exact hgo.2.1 (gS.mp (ztG this))
  | cons x t=>
   rw[hmm] at q;exact inM (.inl rfl) q
 intro p1 hp1;refine zl ((jF hp1) _ _ h.s) ((jF hp1) _ _ h.d) ?_;have h1:=h.ticks hp1 (D.tick.filter fun m=>!decide (zB m∈g));have fr1:=fun x o (hx:x≠a.dx) e=>zdm (a:=a) (D:=D) hp1 (D.tick.filter fun m=>!decide (zB m∈g)) (x:=x) (o:=o) hx e;refine qw rfl ?_;have ef:jY (zjj a D) 5 (.ref p1)=zjj { a with pt:=p1 } D:=rfl;rw[ef];generalize (U.set p1 (.list ((D.tick.filter fun m=>!decide (zB m∈g)).map zH))).set a.dx (.idict (zjj { a with pt:=p1 } D))=σ1 at h1 fr1 ⊢;refine zl h1.s h1.d ?_;refine kH (s:=false) h1 ?_;refine zl h1.s h1.d ?_;refine kH (s:=true) h1 ?_;refine zl h1.s h1.d ?_;refine zmk (G.push L) (zwf hd) h1.b h1.k ho.es ho.fs hg ?_;refine zl h1.s h1.d ?_;have hwl:=zpP (es:=D.es) (fs:=D.fs) (span:=D.span) hg.few;refine zO (fun m=>!decide (m∈D.clos)) zH (fun _=>rfl) (fun _ _=>rfl) (fun m hm R q=>?_) (fun m hm _ R q=>q) trivial (by lia) ?_
 .refine zl h1.s h1.d ?_;exact zqQ h1.c q
 refine zlJ (G.push L) (zwe hd) hg.few (fun m hm=>zsH (zox hg (fP.mp hm).1)) (fN (gU ..) (by lia)) ?_;refine ze (zE h1.t) ?_;have hpl:=zjy ((win D.es D.fs D.span g).filter fun m=>!decide (m∈D.clos)) g;have hfl:=gU (fun m=>!decide (zB m∈g)) D.tick;have hgf:=hg.few;refine zG (by rw[fC,fC];dsimp only;exact zAm htl hpl hfl hgf) ?_;intro p2 hp2;refine zl ((jF hp2) _ _ h1.s) ((jF hp2) _ _ h1.d) ?_;rw[<-fQ];have h2:=h1.ticks hp2 ((D.tick.filter fun m=>!decide (zB m∈g))++pk ((win D.es D.fs D.span g).filter fun m=>!decide (m∈D.clos)) g);refine Ends.same (q _ p2 (fun x o hx e=>zdm hp2 _ hx (fr1 x o hx e)) ?_ h2);cases e:U p2 with
 | none=>rfl
 | some o=>
  by_cases hx:p2=a.dx
  .rw[hx] at hp2;have:=h1.d;rw[hp2] at this;exact absurd (Eq.symm this) (fJ _)
  .rw[fr1 p2 o hx e] at hp2;exact absurd hp2 (fJ _)
end
section
variable{P:Gq}{X:Cx}{n:Nat}{Q:zm}{Z:XP}{U:AHeap}
theorem zmt{gs:List (List zd)}(h:gs≠[])(m:zd):(j7 gs m).flatten=gs.flatten++[m]:=by
 obtain⟨g0,g,rfl⟩:∃g0 g,gs=g0++[g]:=(jf _ _ ((pY h).symm))
 rw[ju];simp
theorem zmu{gs:List (List zd)}(h:gs≠[])(m:zd):j7 gs m≠[]:=by
 obtain⟨g0,g,rfl⟩:∃g0 g,gs=g0++[g]:=(jf _ _ ((pY h).symm))
 rw[ju];simp
theorem zi4{span:Int}(ts:List Tr)(b:List (List zd)×Option Int)(hb:b.2=none\/b.1≠[]):(ts.foldl (j3 span) b).1.flatten=b.1.flatten++ts.map (·.2):=by
 induction ts generalizing b with
 | nil=>exact(gO _).symm
 | cons t ts ih=>
  rw[pM];have hne:(if kL span b.2 t.1 then b.1++[[]] else b.1)≠[]:=by
   split
   .simp
   .rename_i ho
    exact hb.resolve_left fun e=>ho (by rw[e];rfl)
  have hfl:(if kL span b.2 t.1 then b.1++[[]] else b.1).flatten=b.1.flatten:=by split<;>simp
  rw[ih _ (.inr (zmu hne _))];unfold j3;dsimp only;rw[zmt hne,hfl,gF,gE];rfl
theorem qZ(es fs:List Ent)(span:Int):(grps es fs span).flatten=(inO es fs).map (·.2):=by
 unfold grps;rw[zi4 _ _ (.inl rfl)];rfl
theorem zdk(s:Bool)(es:List Ent):((kE s es).map (·.2)).Nodup:=by
 unfold kE;rw[fY];refine zcp List.nodup_range fun a _ b _ e=>?_;have:=congrArg Prod.snd e;exact Int.ofNat.inj this
theorem ziF(es fs:List Ent):((zaT es fs).map (·.2)).Nodup:=by
 unfold zaT;rw[fQ,gX];refine zq (zdk _ _) (zdk _ _) (fun a ha b hb e=>?_);refine zb (fO.mp ha) fun x hx e0_2=>?_;subst e0_2;refine zb (fO.mp hb) fun y hy e1_2=>?_;subst e1_2;refine zb (fO.mp hx) fun i _ e2_2=>?_;subst e2_2;refine zb (fO.mp hy) fun j _ e3_2=>?_;subst e3_2;cases e
theorem zcP(es fs:List Ent):((inO es fs).map (·.2)).Nodup:=((js zaI (zaT es fs)).map _).nodup_iff.mpr (ziF es fs)
theorem mem_inO{es fs:List Ent}{m:zd}:m∈(inO es fs).map (·.2)↔∃k:Nat,m.2=k/\k<(if m.1 then fs else es).length:=by
 obtain⟨b,i⟩:=m;constructor
 .intro h;refine zb (fO.mp h) fun t ht e=>?_;have ht:=inO_mem.mp ht
  rcases fR.mp ht with h|h<;>obtain⟨k,hk,rfl⟩:=fO.mp h<;>cases e<;>exact zc k rfl (pH.mp hk)
 .intro hR1;obtain⟨k,hk,hl⟩:=hR1;cases hk;cases b with
  | false=>exact fO.mpr (zc _ (inO_mem.mpr (gR _ (fO.mpr (zc k (pH.mpr hl) rfl)))) rfl)
  | true=>exact fO.mpr (zc _ (inO_mem.mpr (gK _ (fO.mpr (zc k (pH.mpr hl) rfl)))) rfl)
theorem kR{J:Type}{gs:List (List J)}(h:gs.flatten.Nodup){g:List J}(hg:g∈gs):g.Nodup:=List.Nodup.sublist (fCN hg) h
theorem zga{es fs:List Ent}{span:Int}{g:List zd}(hg:g∈grps es fs span)(h8:g.length<=8)(hs:es.length<=80/\fs.length<=80):GOk g es.length fs.length:=by
 have hfl:=qZ es fs span;refine⟨kR (by rw[hfl];exact zcP es fs) hg,fun m hm=>?_,h8,hs⟩;have:m∈(inO es fs).map (·.2):=by rw[<-hfl];exact gN.mpr (zc g hg hm)
 refine zb (mem_inO.mp this) fun k h1 h2=>?_;rw[h1];cases hb:m.1<;>rw[hb] at h2<;>simp only[gG,if_false,if_true] at h2 ⊢<;>exact ztN h2
theorem zdU(D:Led){m:zd}{k:Nat}(hk:m.2=k)(hl:k<(D.row m.1).length):∃g gs,D.holding m=g::gs/\g∈D.grps/\m∈g:=by
 have:m∈D.grps.flatten:=by
  unfold Led.grps;rw[qZ];exact mem_inO.mpr (zc k hk hl)
 refine zb (gN.mp this) fun g h1 h2=>?_;have hm:g∈D.holding m:=fP.mpr ⟨h1,G6 h2⟩;cases hh:D.holding m with
 | nil=>rw[hh] at hm;cases hm
 | cons g' gs=>
  have hg':g'∈D.holding m:=by rw[hh];exact fB
  exact zP g' gs rfl ((fP.mp hg').1) (G7 (fP.mp hg').2)
noncomputable def Led.add(D:Led)(s:Bool)(e:Ent):Led:=match s with
 | false=>{ D with es:=D.es++[e] }
 | true=>{ D with fs:=D.fs++[e] }
theorem zoJ(D:Led)(s:Bool)(e:Ent):(D.add s e).row s=D.row s++[e]:=by cases s<;>rfl
theorem zhh{es:List Ent}(h:EsOk es){e:Ent}(he:za4 e.1 e.2=true)(hl:es.length<1000):EsOk (es++[e]):=by
 unfold za4 at he;simp only[gW,decide_eq_true_eq,fB1] at he;obtain⟨⟨⟨⟨h1,h2⟩,h3⟩,h4⟩,_⟩:=he;refine⟨fun x hx=>?_,fun x hx=>?_,by rw[fE,fS];exact ztk hl⟩
 .rcases fR.mp hx with h'|h'
  .exact h.day x h'
  .rw[fG.mp h'];exact⟨h1,h2⟩
 .rcases fR.mp hx with h'|h'
  .exact h.cents x h'
  .rw[fG.mp h'];lia
theorem zkr{D:Led}(h:LOk D){s:Bool}{e:Ent}(he:za4 e.1 e.2=true)(hl:(D.row s).length<80):LOk (D.add s e):=by
 have hf:=h.few;cases s with
 | false=>exact⟨zhh h.es he (zwV hf),h.fs,⟨by show (D.es++[e]).length<=80;rw[fE,fS];exact hl,hf.2⟩,h.tick,h.clos,h.tl,h.cl⟩
 | true=>exact⟨h.es,zhh h.fs he (zwW hf),⟨hf.1,by show (D.fs++[e]).length<=80;rw[fE,fS];exact hl⟩,h.tick,h.clos,h.tl,h.cl⟩
theorem LAt.add{a:LA}{D:Led}(h:LAt U a D)(s:Bool)(e:Ent):LAt (U.set (a.row s) (.list (((D.row s)++[e]).map zD))) a (D.add s e):=by
 have nd:∀{q:Addr} {o:AO},U q=some o->(∀xs,o≠.list xs)->q≠a.row s:=fun eq hq q=>by rw[q,h.row s] at eq;obtain rfl:=G4 eq;exact hq _ rfl
 obtain⟨n1,n2⟩:=fU.mp h.nd;obtain⟨n3,n4⟩:=fU.mp n2;simp only[fF,gB,or_false,not_or] at n1 n3;have e1:U.set (a.row s) (.list (((D.row s)++[e]).map zD)) a.self=_:=(AHeap.wB _ _ (nd h.s (fun _ q=>nomatch q))).trans h.s;have e2:U.set (a.row s) (.list (((D.row s)++[e]).map zD)) a.dx=_:=(AHeap.wB _ _ (nd h.d (fun _ q=>nomatch q))).trans h.d;have e3:U.set (a.row s) (.list (((D.row s)++[e]).map zD)) a.rd=_:=(AHeap.wB _ _ (nd h.r (fun _ q=>nomatch q))).trans h.r;cases s with
 | false=>exact⟨e1,e2,e3,AHeap.wA ..,(AHeap.wB _ _ (Ne.symm n1.1)).trans h.k,(AHeap.wB _ _ (Ne.symm n1.2.1)).trans h.t,(AHeap.wB _ _ (Ne.symm n1.2.2)).trans h.c,h.dr,h.nd⟩
 | true=>exact⟨e1,e2,e3,(AHeap.wB _ _ n1.1).trans h.b,AHeap.wA ..,(AHeap.wB _ _ (Ne.symm n3.1)).trans h.t,(AHeap.wB _ _ (Ne.symm n3.2)).trans h.c,h.dr,h.nd⟩
theorem zof{p:Addr}{o o':AO}(h:U p=some o):(U.set p o').set p o=U:=by
 funext b
 by_cases hb:b=p
 .subst hb;rw[AHeap.wA,h]
 .rw[AHeap.wB _ _ hb,AHeap.wB _ _ hb]
theorem zeD:∀y∈[AV.str 0,AV.str 1],Flat 0 y:=fun y hy=>by
 rcases fF.mp hy with rfl|hy
 .exact .str (by decide)
 .rw[fG.mp hy];exact .str (by decide)
theorem zng{s:Bool}{R:Bool->AHeap->Prop}(q:R true U):inG (.str s.toNat) (.tup [.str 0,.str 1]) R U:=by
 have hs:AV.str s.toNat∈[AV.str 0,AV.str 1]:=by
  cases s with
  | false=>exact fB
  | true=>exact fA _ fB
 exact zhr (xs:=[.str 0,.str 1]) (.inr rfl) (zeD _ hs) zeD (by decide) (fun _=>q) fun hn=>absurd hs hn
theorem zrp(G:Gd X (hK P))(hd:n<520){a:LA}{D:Led}(h:LAt U a D)(ho:LOk D){s:Bool}{e:Ent}(he:za4 e.1 e.2=true)(hl:(D.row s).length<80){g:List zd}{gs:List (List zd)}(hg:(D.add s e).holding (s,((D.row s).length:Int))=g::gs)
  (q:g.length<=8->∀U' pt',(∀x o,x≠a.dx->x≠a.row s->U x=some o->U' x=some o)->U pt'=none->LAt U' { a with pt:=pt' } ((D.add s e).pick g)->Q (.int (D.row s).length) U')(qx:8<g.length->Z 94 U) :
  CallOk X 197 ⟨n,false⟩ [.ref a.self,.str s.toNat,.int e.1,.int e.2] Q Z U:=by
 refine zsU G (gI hd (by decide)) fun L=>?_;refine zng ?_;refine zhz (G.push L) (zwd hd) ?_;rw[he];refine zl h.s h.d ?_;refine kH h ?_;refine zo (h.row s) ?_;refine zo (h.row s) ?_;refine zG (by rw[fC];exact ztm hl) ?_;have h1:=h.add s e;have ho1:=zkr ho he hl;have hr1:(U.set (a.row s) (.list (((D.row s)++[e]).map zD))) (a.row s)=some (.list ((D.row s).map zD++[zD e])):=by rw[AHeap.wA,fQ];rfl
 have fr1:∀x o,x≠a.row s->U x=some o->(U.set (a.row s) (.list (((D.row s)++[e]).map zD))) x=some o:=fun x o hx ex=>(AHeap.wB _ _ hx).trans ex;have bk:(U.set (a.row s) (.list (((D.row s)++[e]).map zD))).set (a.row s) (.list ((D.row s).map zD))=U:=zof (h.row s);have nn:∀x,(U.set (a.row s) (.list (((D.row s)++[e]).map zD))) x=none->U x=none:=fun x hx=>by
  by_cases hxr:x=a.row s
  .rw[hxr,AHeap.wA] at hx;exact absurd hx (fJ _)
  .rw[AHeap.wB _ _ hxr] at hx;exact hx
 have eL:(D.row s).map zD++[zD e]=((D.row s)++[e]).map zD:=by rw[fQ];rfl
 rw[show AV.tup [AV.int e.1,AV.int e.2]=zD e from rfl,eL];unfold A.w0;generalize U.set (a.row s) (.list (((D.row s)++[e]).map zD))=σ1 at h1 hr1 fr1 bk nn ⊢;refine zl h1.s h1.d ?_;refine ze (zE hr1) ?_;have el:(((D.row s).map zD++[zD e]).length:Int)-1=(D.row s).length:=by rw[fE,fC,fS];exact zrQ
 conv=>whnf
 rw[el];refine zho (m:=(s,((D.row s).length:Int))) (G.push L) (zwc hd) h1 ho1 hg ?_
 conv=>whnf
 rw[fC];refine kh (fun h8=>?_) fun h8=>?_
 .have h8:8<g.length:=fBA.mp (G7 h8);refine zo hr1 ?_;refine zo hr1 ?_;refine ze List.getLast?_concat ?_;rw[List.dropLast_concat]
  conv=>whnf
  rw[bk];exact qx h8
 .have h8:g.length<=8:=pN.mp fun h=>of_decide_eq_false h8 (fBA.mpr h);have hgm:g∈(D.add s e).grps:=by
   have:g∈(D.add s e).holding (s,((D.row s).length:Int)):=by rw[hg];exact fB
   exact(fP.mp this).1
  refine zl h1.s h1.d ?_;refine zkB (G.push L) (zwb hd) h1 ho1 (zga hgm h8 ho1.few) fun σ2 pt' fr2 hp2 h2=>?_;have hr2:σ2 (a.row s)=some (.list ((D.row s).map zD++[zD e])):=fr2 _ _ (fun q=>by rw[q,h1.d] at hr1;cases hr1) hr1;refine ze (zE hr2) ?_
  conv=>whnf
  rw[el];exact Ends.same (q h8 σ2 pt' (fun x o hx hx' ex=>fr2 x o hx (fr1 x o hx' ex)) (nn _ hp2) h2)
end
section
variable{P:Gq}{X:Cx}{n:Nat}{Q:zm}{Z:XP}{U:AHeap}
noncomputable def zm9(i:Int):Bool:=decide (0<=i)&&decide (i<=30)
theorem ky{U:AHeap}{p q:Addr}{o:AO}(h:U q=some o)(hp:U p=none):q≠p:=fun e=>by rw[e,hp] at h;exact absurd (Eq.symm h) (fJ _)
theorem zu{U:AHeap}{p q:Addr}{o o':AO}(h:U q=some o)(hp:U p=none):U.set p o' q=some o:=(AHeap.wB _ _ (ky h hp)).trans h
theorem zi{U:AHeap}{p q:Addr}{o o':AO}(h:U q=some o)(hp:q≠p):U.set p o' q=some o:=(AHeap.wB _ _ hp).trans h
noncomputable def LA.all(a:LA):List Addr:=[a.self,a.dx,a.rd,a.pb,a.pk,a.pt,a.pc]
theorem zrd(G:Gd X (hK P))(hd:n<500){i:Int}(hi:zm9 i=true)(q:∀U' a,(∀x o,U x=some o->U' x=some o)->(∀x∈a.all,U x=none)->LAt U' a ⟨[],[],i,[],[]⟩->Q (.ref a.self) U'):zmr X 245 178 ⟨n,false⟩ [.int i] Q Z U:=by
 intro dx x hdx hx hne;obtain⟨i1,i2⟩:=gA.mp hi;refine zqY G (by dsimp only;exact zwa hd) fun L=>?_;have s0:Sub U ((U.set dx (.idict [])).set x (.inst 245 dx)):=fun a o e=>zi (zu e hdx) (ky e hx);have x0:((U.set dx (.idict [])).set x (.inst 245 dx)) x=some (.inst 245 dx):=AHeap.wA ..;have d0:((U.set dx (.idict [])).set x (.inst 245 dx)) dx=some (.idict []):=zi (AHeap.wA ..) hne;generalize (U.set dx (.idict [])).set x (.inst 245 dx)=U0 at s0 x0 d0 ⊢;refine za9 (G.push L) (by dsimp only;exact zv9 hd) ?_;refine zfQ i1 ?_
 conv=>whnf
 rw[i2];refine zl x0 d0 ?_;refine qw rfl ?_;have s1:Sub U (U0.set dx (.idict (jY [] 3 (.int i)))):=s0.put hdx;have x1:(U0.set dx (.idict (jY [] 3 (.int i)))) x=some (.inst 245 dx):=zi x0 hne.symm;have d1:(U0.set dx (.idict (jY [] 3 (.int i)))) dx=some (.idict [(3,.int i)]):=AHeap.wA ..;generalize U0.set dx (.idict (jY [] 3 (.int i)))=σ1 at s1 x1 d1 ⊢;clear s0 x0 d0;intro rd hrd;have hrσ:=s1.none hrd;have s2:Sub U (σ1.set rd (.idict [])):=s1.put hrσ;have x2:=zu (o':=.idict []) x1 hrd;have d2:=zu (o':=.idict []) d1 hrd;have r2:(σ1.set rd (.idict [])) rd=some (.idict []):=AHeap.wA ..;have hdr:=ky d1 hrd;have hxr:=ky x1 hrd;generalize σ1.set rd (.idict [])=σ2 at s2 x2 d2 r2 ⊢;clear s1 x1 d1;intro pb hpb;have fpb:=s2.none hpb;have s3:Sub U (σ2.set pb (.list [])):=s2.put (s2.none hpb);have x3:=zu (o':=.list []) x2 hpb;have d3:=zu (o':=.list []) d2 hpb;have r3:=zu (o':=.list []) r2 hpb;have b3:(σ2.set pb (.list [])) pb=some (.list []):=AHeap.wA ..;generalize σ2.set pb (.list [])=σ3 at s3 x3 d3 r3 b3 ⊢;clear s2 x2 d2 r2;intro pk hpk;have fpk:=s3.none hpk;have s4:Sub U (σ3.set pk (.list [])):=s3.put (s3.none hpk);have x4:=zu (o':=.list []) x3 hpk;have d4:=zu (o':=.list []) d3 hpk;have r4:=zu (o':=.list []) r3 hpk;have b4:=zu (o':=.list []) b3 hpk;have k4:(σ3.set pk (.list [])) pk=some (.list []):=AHeap.wA ..;have hbk:=ky b3 hpk;generalize σ3.set pk (.list [])=σ4 at s4 x4 d4 r4 b4 k4 ⊢;clear s3 x3 d3 r3 b3;refine⟨r4,?_⟩;have hxd:x≠dx:=hne.symm
 have s5:Sub U ((σ4.set rd (.idict [(0,.ref pb),(1,.ref pk)])).set dx (.idict [(3,.int i),(4,.ref rd)])):=(s4.put hrσ).put hdx;have x5:((σ4.set rd (.idict [(0,.ref pb),(1,.ref pk)])).set dx (.idict [(3,.int i),(4,.ref rd)])) x=_:=zi (zi x4 hxr) hxd;have d5:((σ4.set rd (.idict [(0,.ref pb),(1,.ref pk)])).set dx (.idict [(3,.int i),(4,.ref rd)])) dx=_:=AHeap.wA ..;have r5:((σ4.set rd (.idict [(0,.ref pb),(1,.ref pk)])).set dx (.idict [(3,.int i),(4,.ref rd)])) rd=_:=zi (AHeap.wA ..) hdr.symm;have nl:∀{q:Addr},σ4 q=some (.list [])->q≠rd/\q≠dx:=fun e=>⟨(fun h=>by rw[h,r4] at e;cases e),(fun h=>by rw[h,d4] at e;cases e)⟩
 have b5:((σ4.set rd (.idict [(0,.ref pb),(1,.ref pk)])).set dx (.idict [(3,.int i),(4,.ref rd)])) pb=_:=zi (zi b4 (nl b4).1) (nl b4).2;have k5:((σ4.set rd (.idict [(0,.ref pb),(1,.ref pk)])).set dx (.idict [(3,.int i),(4,.ref rd)])) pk=_:=zi (zi k4 (nl k4).1) (nl k4).2;refine zl (zi x4 hxr) (zi d4 hdr) ?_;refine qw rfl ?_;rw[show jY (jY [] 0 (AV.str 0,AV.ref pb).snd) 1 (AV.str 1,AV.ref pk).snd=[(0,.ref pb),(1,.ref pk)] from rfl,show jY [(3,AV.int i)] 4 (.ref rd)=[(3,.int i),(4,.ref rd)] from rfl];generalize (σ4.set rd (.idict [(0,.ref pb),(1,.ref pk)])).set dx (.idict [(3,.int i),(4,.ref rd)])=σ5 at s5 x5 d5 r5 b5 k5 ⊢;clear s4 x4 d4 r4 b4 k4 nl;intro pt hpt;refine zl (zu x5 hpt) (zu d5 hpt) ?_;refine qw rfl ?_;have npt:U pt=none:=s5.none hpt;have s6:Sub U ((σ5.set pt (.list [])).set dx (.idict [(3,.int i),(4,.ref rd),(5,.ref pt)])):=(s5.put npt).put hdx;have nd5:∀{q:Addr} {xs:List AV},σ5 q=some (.list xs)->q≠dx:=fun e h=>by rw[h,d5] at e;cases e
 have x6:((σ5.set pt (.list [])).set dx (.idict [(3,.int i),(4,.ref rd),(5,.ref pt)])) x=_:=zi (zu x5 hpt) hxd;have d6:((σ5.set pt (.list [])).set dx (.idict [(3,.int i),(4,.ref rd),(5,.ref pt)])) dx=_:=AHeap.wA ..;have r6:((σ5.set pt (.list [])).set dx (.idict [(3,.int i),(4,.ref rd),(5,.ref pt)])) rd=_:=zi (zu r5 hpt) hdr.symm;have b6:((σ5.set pt (.list [])).set dx (.idict [(3,.int i),(4,.ref rd),(5,.ref pt)])) pb=_:=zi (zu b5 hpt) (nd5 b5);have k6:((σ5.set pt (.list [])).set dx (.idict [(3,.int i),(4,.ref rd),(5,.ref pt)])) pk=_:=zi (zu k5 hpt) (nd5 k5);have t6:((σ5.set pt (.list [])).set dx (.idict [(3,.int i),(4,.ref rd),(5,.ref pt)])) pt=some (.list []):=zi (AHeap.wA ..) (Ne.symm (ky d5 hpt));have hbt:=ky b5 hpt;have hkt:=ky k5 hpt;rw[show jY [(3,AV.int i),(4,AV.ref rd)] 5 (.ref pt)=[(3,.int i),(4,.ref rd),(5,.ref pt)] from rfl];generalize (σ5.set pt (.list [])).set dx (.idict [(3,.int i),(4,.ref rd),(5,.ref pt)])=σ6 at s6 x6 d6 r6 b6 k6 t6 ⊢;clear s5 x5 d5 r5 b5 k5 nd5;intro pc hpc;refine zl (zu x6 hpc) (zu d6 hpc) ?_;refine qw rfl ?_;have nd6:∀{q:Addr} {xs:List AV},σ6 q=some (.list xs)->q≠dx:=fun e h=>by rw[h,d6] at e;cases e
 have hfr:∀y∈LA.all ⟨x,dx,rd,pb,pk,pt,pc⟩,U y=none:=fun y hy=>by
  simp only[LA.all,fF,gB,or_false] at hy
  rcases hy with rfl|rfl|rfl|rfl|rfl|rfl|rfl
  .exact hx
  .exact hdx
  .exact hrσ
  .exact fpb
  .exact fpk
  .exact npt
  .exact s6.none hpc
 refine Ends.same ⟨rfl,q _ ⟨x,dx,rd,pb,pk,pt,pc⟩ ((s6.put (s6.none hpc)).put hdx) hfr ⟨zi (zu x6 hpc) hxd,AHeap.wA ..,zi (zu r6 hpc) hdr.symm,zi (zu b6 hpc) (nd6 b6),zi (zu k6 hpc) (nd6 k6),zi (zu t6 hpc) (nd6 t6),zi (AHeap.wA ..) (Ne.symm (ky d6 hpc)),hdr,?_⟩⟩;have e1:=ky b6 hpc;have e2:=ky k6 hpc;have e3:=ky t6 hpc;show [pb,pk,pt,pc].Nodup;simp only[fU,fF,gB,or_false,not_or,not_false_eq_true,fCR,and_true];exact zq (zq hbk hbt e1) ⟨hkt,e2⟩ e3
end
noncomputable def zbC{J:Type}(c:Bool)(t:J)(gs:List (List J)):List (List J):=match gs with
 | []=>[[t]]
 | g::gs=>match c with
  | true=>[t]::g::gs
  | false=>(t::g)::gs
noncomputable def gap{J:Type}(f:J->Int)(span:Int)(t:J)(ts:List J):Bool:=match ts with
 | []=>true
 | u::_=>decide (f u>f t+span)
noncomputable def z9{J:Type}(f:J->Int)(span:Int):List J->List (List J)
 | []=>[]
 | t::ts=>zbC (gap f span t ts) t (z9 f span ts)
theorem zlk{J:Type}(c:Bool)(t:J)(gs:List (List J)):(zbC c t gs).flatten=t::gs.flatten:=by
 cases gs with
 | nil=>rfl
 | cons g gs=>cases c<;>rfl
theorem zo8{J:Type}(c:Bool)(t:J)(gs:List (List J)):∃h hs,zbC c t gs=(t::h)::hs:=by
 cases gs with
 | nil=>exact⟨_,_,rfl⟩
 | cons g gs=>cases c<;>exact jf _ _ rfl
theorem jy{J:Type}{f:J->Int}{span:Int}(ts:List J):(z9 f span ts).flatten=ts:=by
 induction ts with
 | nil=>rfl
 | cons t ts ih=>unfold z9;rw[zlk,ih]
theorem zct{J:Type}(f:J->Int)(span:Int)(t:J)(ts:List J):∃h hs,z9 f span (t::ts)=(t::h)::hs:=zo8 ..
theorem zeq{J:Type}{f:J->Int}{span:Int}{ts:List J}:∀g∈z9 f span ts,g≠[]:=by
 induction ts with
 | nil=>intro g hg;cases hg
 | cons t ts ih=>
  intro g hg;unfold z9 zbC at hg;cases e:z9 f span ts with
  | nil=>rw[e] at hg;rw[fG.mp hg];exact fun e=>nomatch e
  | cons g' gs'=>
   rw[e] at hg ih;cases hc:gap f span t ts with
   | true=>
    rw[hc] at hg
    rcases fF.mp hg with rfl|hg
    .exact fun e=>nomatch e
    .exact ih g hg
   | false=>
    rw[hc] at hg
    rcases fF.mp hg with rfl|hg
    .exact fun e=>nomatch e
    .exact ih g (fA _ hg)
noncomputable def zri(g:List zd)(hs:List (List zd)):List (List zd):=match hs with
 | []=>[]
 | h::hs=>(g++h)::hs
theorem zhn{span:Int}(ts:List Tr):∀(gs:List (List zd)) (g:List zd) (u:Tr),(ts.foldl (j3 span) (gs++[g++[u.2]],some u.1)).1=gs++zri g ((z9 (·.1) span (u::ts)).map (List.map (·.2))):=by
 induction ts with
 | nil=>intro gs g u;rfl
 | cons t ts ih=>
  intro gs g u;rw[pM];refine jc (zct (·.1) span t ts) fun h hs e=>?_;have eu:z9 (·.1) span (u::t::ts)=zbC (decide (t.1>u.1+span)) u ((t::h)::hs):=by rw[<-e];rfl
  have es:j3 span (gs++[g++[u.2]],some u.1) t=(j7 (if decide (t.1>u.1+span) then gs++[g++[u.2]]++[[]] else gs++[g++[u.2]]) t.2,some t.1):=rfl;rw[eu,es];cases hc:decide (t.1>u.1+span) with
  | true=>
   rw[if_pos rfl,ju,ih,e];simp[zri,zbC]
  | false=>
   rw[if_neg pL,ju,ih,e];simp[zri,zbC]
theorem zlb{span:Int}(ts:List Tr):(ts.foldl (j3 span) ([],none)).1=(z9 (·.1) span ts).map (List.map (·.2)):=by
 cases ts with
 | nil=>rfl
 | cons t ts=>
  rw[pM];have:j3 span ([],none) t=([]++[[]++[t.2]],some t.1):=rfl;rw[this,zhn];refine jc (zct (·.1) span t ts) fun h hs e=>?_;rw[e];rfl
def zcf{J:Type}(f:J->Int)(span:Int)(S:List J)(a b:Int):Prop:=∀x∈S,a<=f x->f x<b->∃y∈S,f x<f y/\f y<=f x+span
theorem zlt{J:Type}{f:J->Int}{span:Int}{S:List J}{t:J}{a b:Int}(h:zcf f span (t::S) a b)(ht:∀y∈S,f t<=f y):zcf f span S a b:=fun x hx h1 h2=>by
 refine zk (h x (fA _ hx) h1 h2) fun y hy h3 h4=>?_
 rcases fF.mp hy with rfl|hy
 .exact absurd h3 (fDL.mpr (ht x hx))
 .exact zv y hy h3 h4
theorem zk4{J:Type}{f:J->Int}{span:Int}{S:List J}{t:J}{a b:Int}(h:zcf f span S a b)(ht:a<=f t->f t<b->∃y∈S,f t<f y/\f y<=f t+span):zcf f span (t::S) a b:=fun x hx h1 h2=>by
 rcases fF.mp hx with rfl|hx
 .refine zb (ht h1 h2) fun y hy h3=>?_;exact zc y (fA _ hy) h3
 .refine zb (h x hx h1 h2) fun y hy h3=>?_;exact zc y (fA _ hy) h3
theorem zh7{J:Type}{f:J->Int}{span:Int}(h0:0<=span):∀{ts:List J} {t:J} {g:List J} {gs:List (List J)},(t::ts).Pairwise (fun a b=>f a<=f b)->z9 f span (t::ts)=g::gs->(∀x,x∈g->x∈t::ts/\zcf f span (t::ts) (f t) (f x))/\(∀x,x∈gs.flatten->¬zcf f span (t::ts) (f t) (f x)/\∀y∈g,f y+span<f x):=by
 intro ts
 induction ts with
 | nil=>
  intro t g gs hs e;cases e;refine⟨fun x hx=>⟨hx,?_⟩,fun x hx=>nomatch hx⟩;rw[fG.mp hx];exact fun y hy h1 h2=>absurd h1 (fB8.mpr h2)
 | cons u us ih=>
  intro t g gs hs e;obtain⟨ht,hs'⟩:=fZ.mp hs;have htu:=ht u fB;refine jc (zct f span u us) fun g' gs' e'=>?_;obtain⟨i1,i2⟩:=ih hs' e';have huf:∀x∈us,f u<=f x:=(fZ.mp hs').1;have ee:zbC (decide (f u>f t+span)) t ((u::g')::gs')=g::gs:=by rw[<-e'];exact e
  unfold zbC at ee;dsimp only at ee;have hfl:=jy (f:=f) (span:=span) (u::us);rw[e'] at hfl
  by_cases hc:f u>f t+span
  .rw[G6 hc] at ee;cases ee;refine⟨fun x hx=>?_,fun x hx=>?_⟩
   .rw[fG.mp hx];exact⟨fB,fun y hy h1 h2=>absurd h1 (fB8.mpr h2)⟩
   .rw[hfl] at hx;have hux:f u<=f x:=by
     rcases fF.mp hx with rfl|hx
     .exact fA2 _
     .exact huf x hx
    refine⟨fun hl=>?_,fun y hy=>by rw[fG.mp hy];exact zBK hc hux⟩;refine zk (hl t fB (fA2 _) (zBC h0 hc hux)) fun y hy h1 h2=>?_
    rcases fF.mp hy with rfl|hy
    .exact y41 h1
    .rcases fF.mp hy with rfl|hy
     .exact zBs h2 hc
     .have:=huf y hy;exact zBE hc h2 this
  .rw[G5 hc] at ee;cases ee;refine⟨fun x hx=>?_,fun x hx=>?_⟩
   .rcases fF.mp hx with rfl|hx
    .exact⟨fB,fun y hy h1 h2=>absurd h1 (fB8.mpr h2)⟩
    .obtain⟨j1,j2⟩:=i1 x hx;refine⟨fA _ j1,zk4 (fun y hy h1 h2=>?_) fun h1 h2=>?_⟩
     .have:f u<=f y:=by
       rcases fF.mp hy with rfl|hy
       .exact fA2 _
       .exact huf y hy
      exact j2 y hy this h2
     .by_cases hlt:f t<f u
      .exact zv u fB hlt (zBA hc)
      .have hut:f u=f t:=by exact zBp htu hlt
       refine zb (j2 u fB (fA2 _) (zBy h2 hlt)) fun y hy h3=>?_;exact zv y hy (zBG htu h3) (zBL hlt h3)
   .obtain⟨j1,j2⟩:=i2 x hx;refine⟨fun hl=>j1 fun y hy h1 h2=>?_,fun y hy=>?_⟩
    .exact zlt hl ht y hy (zBt htu h1) h2
    .rcases fF.mp hy with rfl|hy
     .have:=j2 u fB;exact zBH htu this
     .exact j2 y hy
theorem zer{J:Type}{f:J->Int}{span:Int}:∀{ts:List J} {g:List J} {gs:List (List J)},z9 f span ts=g::gs->∃ts',ts=g++ts'/\gs=z9 f span ts':=by
 intro ts
 induction ts with
 | nil=>intro g gs e;cases e
 | cons t ts ih=>
  intro g gs e;have hfl:=jy (f:=f) (span:=span) ts;have e:zbC (gap f span t ts) t (z9 f span ts)=g::gs:=e;cases ep:z9 f span ts with
  | nil=>
   rw[ep] at e hfl;cases e;exact zc [] (by rw[<-hfl];rfl) rfl
  | cons g' gs'=>
   rw[ep] at e;cases hc:gap f span t ts with
   | true=>rw[hc] at e;cases e;exact zc ts rfl ep.symm
   | false=>
    rw[hc] at e;cases e;refine zb (ih ep) fun ts' h1 h2=>?_;exact zc ts' (by rw[h1];rfl) h2
section
variable{J:Type}{f:J->Int}{span:Int}
theorem zcu(h0:0<=span){ts g:List J}{gs:List (List J)}(hs:ts.Pairwise (fun a b=>f a<=f b))(e:z9 f span ts=g::gs):∃t∈g,(∀x∈ts,f t<=f x)/\(∀x,x∈g->zcf f span ts (f t) (f x))/\(∀x,x∈gs.flatten->¬zcf f span ts (f t) (f x)/\∀y∈g,f y+span<f x):=by
 cases ts with
 | nil=>cases e
 | cons t ts=>
  refine jc (zct f span t ts) fun h hs' e'=>?_;have ht:t∈g:=by rw[e'] at e;cases e;exact fB
  obtain⟨h1,h2⟩:=zh7 h0 hs e;refine jN t ht (fun x hx=>?_) (fun x hx=>(h1 x hx).2) h2
  rcases fF.mp hx with rfl|hx
  .exact fA2 _
  .exact(fZ.mp hs).1 x hx
theorem zh6(h0:0<=span):∀{gs:List (List J)} {ts:List J},ts.Pairwise (fun a b=>f a<=f b)->z9 f span ts=gs->gs.Pairwise (fun g g'=>∀a∈g,∀b∈g',f a+span<f b):=by
 intro gs
 induction gs with
 | nil=>intro ts _ _;exact .nil
 | cons g gs ih=>
  intro ts hs e;refine zb (zer e) fun ts' h1 h2=>?_;refine zI (zcu h0 hs e) fun t ht hmin h3 h4=>?_;refine fZ.mpr ⟨fun g' hg' a ha b hb=>(h4 b (gN.mpr (zc g' hg' hb))).2 a ha,ih (ts:=ts') ?_ h2.symm⟩;rw[h1] at hs;exact(gC.mp hs).2.1
theorem kB(h0:0<=span):∀{gs:List (List J)} {ts:List J},ts.Pairwise (fun a b=>f a<=f b)->z9 f span ts=gs->∀{g:List J},g∈gs->∀{x y:J},x∈g->y∈ts->f x<=f y->(y∈g↔zcf f span ts (f x) (f y)):=by
 intro gs
 induction gs with
 | nil=>intro ts _ _ g hg;cases hg
 | cons g1 gs ih=>
  intro ts hs e g hg x y hx hy hxy;refine zb (zer e) fun ts' h1 h2=>?_;refine zI (zcu h0 hs e) fun t ht hmin h3 h4=>?_;have hfl:gs.flatten=ts':=by rw[h2];exact jy ts'
  rcases fF.mp hg with rfl|hg
  .constructor
   .intro hyg z hz hz1 hz2;exact h3 y hyg z hz (hmin z hz) hz2
   .intro hl;rw[h1] at hy
    rcases fR.mp hy with hy|hy
    .exact hy
    .exfalso;refine(h4 y (by rw[hfl];exact hy)).1 fun z hz hz1 hz2=>?_
     by_cases hzx:f z<f x
     .exact h3 x hx z hz hz1 hzx
     .exact hl z hz (y62 hzx) hz2
  .have hxf:x∈gs.flatten:=gN.mpr (zc g hg hx);have hbelow:=(h4 x hxf).2;have hy':y∈ts':=by
    rw[h1] at hy
    rcases fR.mp hy with hy|hy
    .exact absurd hxy (fB8.mpr (fA9 (fAE h0) (hbelow y hy)))
    .exact hy
   have hs':ts'.Pairwise (fun a b=>f a<=f b):=by rw[h1] at hs;exact(gC.mp hs).2.1
   rw[ih hs' h2.symm hg hx hy' hxy];have mem:∀z,f x<=f z->(z∈ts↔z∈ts'):=fun z hz=>by
    rw[h1];refine⟨fun h=>?_,fun h=>gK _ h⟩
    rcases fR.mp h with h|h
    .exact absurd hz (fB8.mpr (fA9 (fAE h0) (hbelow z h)))
    .exact h
   constructor
   .intro hl z hz hz1 hz2;refine zk (hl z ((mem z hz1).mp hz) hz1 hz2) fun w hw hw1 hw2=>?_;exact zv w ((mem w (zuK hz1 hw1)).mpr hw) hw1 hw2
   .intro hl z hz hz1 hz2;refine zk (hl z ((mem z hz1).mpr hz) hz1 hz2) fun w hw hw1 hw2=>?_;exact zv w ((mem w (zuK hz1 hw1)).mp hw) hw1 hw2
theorem zfy(h0:0<=span){ts:List J}(hs:ts.Pairwise (fun a b=>f a<=f b)){g g':List J}(hg:g∈z9 f span ts)(hg':g'∈z9 f span ts){x:J}(hx:x∈g)(hx':x∈g'):g=g':=by
 have h:=zh6 h0 hs rfl;generalize z9 f span ts=gs at h hg hg'
 induction gs with
 | nil=>cases hg
 | cons g1 gs ih=>
  obtain⟨h1,h2⟩:=fZ.mp h
  rcases fF.mp hg with e|i
  .rcases fF.mp hg' with e'|i'
   .rw[e,e']
   .subst e;exact absurd (h1 g' i' x hx x hx') (fDL.mpr (fAE h0))
  .rcases fF.mp hg' with e'|i'
   .subst e';exact absurd (h1 g i x hx' x hx) (fDL.mpr (fAE h0))
   .exact ih h2 i i'
theorem zaH(h0:0<=span){ts:List J}(hs:ts.Pairwise (fun a b=>f a<=f b)){g:List J}(hg:g∈z9 f span ts){x y:J}(hx:x∈g)(hy:y∈ts)(hxy:f y<=f x):y∈g↔zcf f span ts (f y) (f x):=by
 have hy':=hy;rw[<-jy (f:=f) (span:=span) ts] at hy';refine zb (gN.mp hy') fun g' hg' hyg=>?_;have hxt:x∈ts:=by rw[<-jy (f:=f) (span:=span) ts];exact gN.mpr (zc g hg hx)
 rw[<-kB h0 hs rfl hg' hyg hxt hxy];constructor
 .intro h;rw[zfy h0 hs hg' hg hyg h];exact hx
 .intro h;rw[zfy h0 hs hg hg' hx h];exact hyg
end
theorem zra{J:Type}{f:J->Int}:∀{l:List J},l≠[]->∃z∈l,∀w∈l,f w<=f z:=by
 intro l
 induction l with
 | nil=>intro h;exact absurd rfl h
 | cons x l ih=>
  intro _
  by_cases hl:l=[]
  .subst hl;exact zc x fB (fun w hw=>by rw[fG.mp hw];exact fA2 _)
  .refine zb (ih hl) fun z hz h=>?_
   by_cases hxz:f x<=f z
   .refine zc z (fA _ hz) (fun w hw=>?_)
    rcases fF.mp hw with rfl|hw
    .exact hxz
    .exact h w hw
   .refine zc x fB (fun w hw=>?_)
    rcases fF.mp hw with rfl|hw
    .exact fA2 _
    .have:=h w hw;exact zBB hxz this
section
variable{J:Type}{f:J->Int}{span:Int}{ts ts':List J}{n:J}
theorem zhG(hm:∀y,y∈ts'↔y∈ts\/y=n){x:J}(hx:x∈ts){b:Int}(h:zcf f span ts (f x) b):zcf f span ts' (f x) b:=fun z hz h1 h2=>by
 rcases(hm z).mp hz with hz|rfl
 .refine zb (h z hz h1 h2) fun w hw h3=>?_;exact zc w ((hm w).mpr (.inl hw)) h3
 .by_cases he:f z=f x
  .refine zb (h x hx (fA2 _) (zBx h2 he)) fun w hw h3=>?_;exact zv w ((hm w).mpr (.inl hw)) (zBD he h3) (zBI he h3)
  .have hne:(ts.filter fun w=>decide (f x<=f w/\f w<f z))≠[]:=fun e=>by
    have:x∈ts.filter fun w=>decide (f x<=f w/\f w<f z):=fP.mpr ⟨hx,G6 ⟨fA2 _,zuJ h1 he⟩⟩;rw[e] at this;cases this
   refine zb (zra (f:=f) hne) fun y hy hmax=>?_;obtain⟨hyt,hy2⟩:=fP.mp hy;obtain⟨hy3,hy4⟩:=G7 hy2;refine zk (h y hyt hy3 (fC9 hy4 h2)) fun w hw h3 h4=>?_;have hwz:f z<=f w:=by
    by_cases hlt:f w<f z
    .have:=hmax w (fP.mpr ⟨hw,G6 ⟨fCM (fA9 hy3 h3),hlt⟩⟩);exact zBw h3 this
    .exact y62 hlt
   by_cases hwe:f w=f z
   .refine zk (h w hw (y68 h1 hwe) (zBv h2 hwe)) fun v hv h5 h6=>?_;exact zv v ((hm v).mpr (.inl hv)) (zBz hwe h5) (zBJ hwe h6)
   .exact zv w ((hm w).mpr (.inl hw)) (zuJ hwz hwe) (fAS h4 (Int.add_le_add_right (fCM hy4) _))
theorem zkn{ts:List J}{x:J}(hx:x∈ts):∃G∈z9 f span ts,x∈G:=by
 rw[<-jy (f:=f) (span:=span) ts] at hx;exact gN.mp hx
theorem zaG{ts G:List J}(hG:G∈z9 f span ts){x:J}(hx:x∈G):x∈ts:=by
 rw[<-jy (f:=f) (span:=span) ts];exact gN.mpr (zc G hG hx)
theorem zfx(h0:0<=span)(hs:ts.Pairwise (fun a b=>f a<=f b))(hs':ts'.Pairwise (fun a b=>f a<=f b))(hm:∀y,y∈ts'↔y∈ts\/y=n){G G':List J}(hG:G∈z9 f span ts)(hG':G'∈z9 f span ts'){x:J}(hx:x∈G)(hx':x∈G'):∀y∈G,y∈G':=fun y hy=>by
 have hyt:=zaG hG hy;have hxt:=zaG hG hx;have hyt':=(hm y).mpr (.inl hyt)
 rcases fC8 (f x) (f y) with h|h
 .exact(kB h0 hs' rfl hG' hx' hyt' h).mpr (zhG hm hxt ((kB h0 hs rfl hG hx hyt h).mp hy))
 .exact(zaH h0 hs' hG' hx' hyt' h).mpr (zhG hm hyt ((zaH h0 hs hG hx hyt h).mp hy))
theorem znZ(h0:0<=span)(hs:ts.Pairwise (fun a b=>f a<=f b))(hs':ts'.Pairwise (fun a b=>f a<=f b))(hm:∀y,y∈ts'↔y∈ts\/y=n){G G':List J}(hG:G∈z9 f span ts)(hG':G'∈z9 f span ts'){x:J}(hx:x∈G)(hx':x∈G')(hn:n∉G'):∀y∈G',y∈G:=fun y hy=>by
 have nt:n∈ts':=(hm n).mpr (.inr rfl);have hyt':=zaG hG' hy;have hyt:y∈ts:=((hm y).mp hyt').resolve_right fun e=>hn (e▸hy);have key:∀a b,a∈G'->zcf f span ts' (f a) b->zcf f span ts (f a) b:=fun a b ha hl z hz h1 h2=>by
  refine zk (hl z ((hm z).mpr (.inl hz)) h1 h2) fun w hw h3 h4=>?_
  rcases(hm w).mp hw with hw|rfl
  .exact zv w hw h3 h4
  .exfalso;have hzG:z∈G':=(kB h0 hs' rfl hG' ha ((hm z).mpr (.inl hz)) h1).mpr fun v hv h5 h6=>hl v hv h5 (zBu h2 h6);exact hn ((kB h0 hs' rfl hG' hzG nt (y55 h3)).mpr fun v hv h5 h6=>(zv w nt h6 (zBF h4 h5)))
 rcases fC8 (f x) (f y) with h|h
 .exact(kB h0 hs rfl hG hx hyt h).mpr (key x (f y) hx' ((kB h0 hs' rfl hG' hx' hyt' h).mp hy))
 .exact(zaH h0 hs hG hx hyt h).mpr (key y (f x) hy ((zaH h0 hs' hG' hx' hyt' h).mp hy))
end
theorem zn4{t u:Tr}(ht:TrOk t)(hu:TrOk u)(h:zaI t<=zaI u):t.1<=u.1:=
 fDL.mp fun hlt=>absurd h (Nat.not_le.mpr ((zbb (ql hu.hi) (ql ht.hi)).mpr (.inl ((zbb (pV (fA5 _)) (pV (fA5 _))).mpr (.inl ((zao hu.day ht.day).mpr hlt))))))
theorem zgb{es fs:List Ent}(he:EsOk es)(hf:EsOk fs):(inO es fs).Pairwise fun a b=>a.1<=b.1:=
 (zgL zaI (zaT es fs)).imp_of_mem fun ha hb h=>zn4 (jL he hf (inO_mem.mp ha)).1 (jL he hf (inO_mem.mp hb)).1 h
theorem zav(es fs:List Ent)(span:Int):grps es fs span=(z9 (·.1) span (inO es fs)).map (List.map (·.2)):=zlb _
theorem zqR(es fs:List Ent):(inO es fs).Nodup:=by
 have:=zcP es fs;generalize inO es fs=l at this
 induction l with
 | nil=>exact .nil
 | cons x l ih=>
  rw[gF] at this;obtain⟨n1,n2⟩:=fU.mp this;exact fU.mpr ⟨fun h=>n1 (gZ h),ih n2⟩
theorem zh5{es fs:List Ent}{span:Int}{G:List Tr}(hG:G∈z9 (·.1) span (inO es fs)):G.Nodup/\∀t∈G,t∈inO es fs:=by
 have hfl:=jy (f:=fun t:Tr=>t.1) (span:=span) (inO es fs);refine⟨kR (by rw[hfl];exact zqR es fs) hG,fun t ht=>by rw[<-hfl];exact gN.mpr (zc G hG ht)⟩
theorem zfC(s:Bool)(es:List Ent)(e:Ent):kE s (es++[e])=kE s es++[(e.1,(s,(es.length:Int)))]:=by
 unfold kE;rw[fE,fS,List.range_succ,fQ];refine congr (congrArg _ (pG fun i hi=>?_)) ?_
 .have:=pH.mp hi;rw[fT,pA this,<-fT]
 .rw[List.map_singleton,fT,pI (fM _),fB0];rfl
noncomputable def Led.trs(D:Led):List Tr:=inO D.es D.fs
theorem zkx{D:Led}{s:Bool}{e:Ent}{t:Tr}:t∈(D.add s e).trs↔t∈D.trs\/t=(e.1,(s,((D.row s).length:Int))):=by
 unfold Led.trs;rw[inO_mem,inO_mem];unfold zaT;cases s with
 | false=>
  show t∈kE false (D.es++[e])++kE true D.fs↔_;rw[zfC];simp only[fR,fG];show _↔(_\/_)\/t=(e.1,(false,(D.es.length:Int)))
  constructor
  .rintro((h|h)|h)
   .exact .inl (.inl h)
   .exact .inr h
   .exact .inl (.inr h)
  .rintro((h|h)|h)
   .exact .inl (.inl h)
   .exact .inr h
   .exact .inl (.inr h)
 | true=>
  show t∈kE false D.es++kE true (D.fs++[e])↔_;rw[zfC];simp only[fR,fG];show _↔(_\/_)\/t=(e.1,(true,(D.fs.length:Int)))
  constructor
  .rintro(h|h|h)
   .exact .inl (.inl h)
   .exact .inl (.inr h)
   .exact .inr h
  .rintro((h|h)|h)
   .exact .inl h
   .exact .inr (.inl h)
   .exact .inr (.inr h)
theorem zrn{ms:List Mt}{r:List zd}{m:Mt}(h:m∈pk ms r):m∈ms:=by
 have gen:∀n r,m∈pkF ms n r->m∈ms:=fun n=>by
  induction n with
  | zero=>intro r h;cases h
  | succ n ih=>
   intro r h;cases r with
   | nil=>cases h
   | cons x t=>
    unfold pkF at h;cases hg:zab ms (x::t) with
    | nil=>rw[hg] at h;exact ih t h
    | cons z zs=>
     rw[hg] at h
     rcases fF.mp h with rfl|h
     .exact(qD (by rw[hg];exact fB)).2.2.1
     .exact ih _ h
 exact gen _ _ h
theorem znu{D:Led}(h:LOk D){g:List zd}(hg:GOk g D.es.length D.fs.length)(hl:D.tick.length<=992):LOk (D.pick g):=by
 have hpl:=zjy ((win D.es D.fs D.span g).filter fun m=>!decide (m∈D.clos)) g;have hfl:=gU (fun m=>!decide (zB m∈g)) D.tick;have h8:=hg.few;refine⟨h.es,h.fs,h.few,fun m hm=>?_,h.clos,?_,h.cl⟩
 .rcases fR.mp hm with hm|hm
  .exact h.tick m (fP.mp hm).1
  .exact zox hg (fP.mp (zrn hm)).1
 .show ((D.tick.filter _)++pk _ g).length<=1000;rw[fE];exact fDF (fN hfl hl) (fN hpl h8)
theorem kg(D:Led)(s:Bool)(e:Ent):(D.add s e).span=D.span:=by cases s<;>rfl
noncomputable abbrev szM(m:Mt):Nat:=(zf m).length
noncomputable def qW(r:List zd)(m:Mt):List zd:=r.filter fun y=>!decide (y∈zf m)
noncomputable def zZ:List Mt->List zd->Nat
 | [],_=>0
 | m::ms,r=>max (if ∀y∈zf m,y∈r then szM m+zZ ms (qW r m) else 0) (zZ ms r)
noncomputable def tot(S:List Mt):Nat:=(S.map szM).sum
structure Pack(r:List zd)(ms S:List Mt):Prop where
 sub:∀m∈S,m∈ms
 fit:∀m∈S,∀y∈zf m,y∈r
 dis:S.Pairwise fun a b=>∀y∈zf a,y∉zf b
theorem zov{S T:List Mt}(p:S.Perm T):tot S=tot T:=by
 unfold tot
 induction p with
 | nil=>rfl
 | cons x p ih=>simp[ih]
 | swap x y l=>simp;exact zC3
 | trans p q h1 h2=>rw[h1,h2]
theorem zdJ{a b:Mt}(h:∀y∈zf a,y∉zf b):∀y∈zf b,y∉zf a:=fun y hy hy'=>h y hy' hy
theorem Pack.split{r:List zd}{ms S:List Mt}{m:Mt}(P:Pack r ms S)(h:m∈S):tot S=szM m+tot (S.erase m)/\Pack (qW r m) ms (S.erase m):=by
 have p:=List.perm_cons_erase h;have d:=(p.pairwise_iff (R:=fun a b:Mt=>∀y∈zf a,y∉zf b) (fun h=>zdJ h)).mp P.dis;obtain⟨d1,d2⟩:=fZ.mp d;refine⟨by rw[zov p];rfl,fun a ha=>P.sub a (fB6 ha),fun a ha y hy=>?_,d2⟩;unfold qW;rw[fP];exact⟨P.fit a (fB6 ha) y hy,by simpa using zdJ (d1 a ha) y hy⟩
theorem zcl(ms:List Mt):∀(r:List zd) (S:List Mt),(∀m∈ms,zf m≠[])->Pack r ms S->tot S<=zZ ms r:=by
 induction ms with
 | nil=>
  intro r S _ P;cases S with
  | nil=>simp[tot]
  | cons a S=>exact absurd (P.sub a fB) (by simp)
 | cons m0 ms ih=>
  intro r S hn P;have hn':∀m∈ms,zf m≠[]:=fun m hm=>hn m (fA _ hm);simp only[zZ]
  by_cases h:m0∈S
  .obtain⟨h1,P'⟩:=P.split h;have hne:∀a∈S.erase m0,a≠m0:=fun a ha e=>by
    subst e;have h0:=hn a fB;cases hm:zf a with
    | nil=>exact h0 hm
    | cons y l=>
     have hy:y∈zf a:=by rw[hm];exact fB
     have:=P'.fit a ha y hy;unfold qW at this;rw[fP] at this;simp[hy] at this
   have:=ih (qW r m0) (S.erase m0) hn' ⟨fun a ha=>(fF.mp (P'.sub a ha)).resolve_left (hne a ha),P'.fit,P'.dis⟩;rw[if_pos (P.fit m0 h),h1];exact zDd this
  .have:=ih r S hn' ⟨fun a ha=>(fF.mp (P.sub a ha)).resolve_left (fun e=>h (e▸ha)),P.fit,P.dis⟩;exact zCY this
theorem zck(ms:List Mt):∀(r:List zd),∃S,Pack r ms S/\tot S=zZ ms r:=by
 induction ms with
 | nil=>exact fun r=>⟨[],⟨(fun _ h=>nomatch h),(fun _ h=>nomatch h),.nil⟩,rfl⟩
 | cons m0 ms ih=>
  intro r;refine zb (ih r) fun S1 P1 h1=>?_;have base:Pack r (m0::ms) S1:=⟨fun a ha=>fA _ (P1.sub a ha),P1.fit,P1.dis⟩
  simp only[zZ]
  by_cases hf:∀y∈zf m0,y∈r
  .rw[if_pos hf];refine zb (ih (qW r m0)) fun S2 P2 h2=>?_
   rcases fC7 (szM m0+zZ ms (qW r m0)) (zZ ms r) with hle|hle
   .exact zc S1 base (zC9 h1 hle)
   .refine zc (m0::S2) ⟨fun a ha=>?_,fun a ha y hy=>?_,fZ.mpr ⟨fun a ha y hy hy'=>?_,P2.dis⟩⟩ ?_
    .rcases fF.mp ha with rfl|ha
     .exact fB
     .exact fA _ (P2.sub a ha)
    .rcases fF.mp ha with rfl|ha
     .exact hf y hy
     .exact(fP.mp (P2.fit a ha y hy)).1
    .have:=(fP.mp (P2.fit a ha y hy')).2;simp[hy] at this
    .show szM m0+tot S2=_;exact zDb h2 hle
  .rw[if_neg hf];exact zc S1 base (zCz h1)
theorem zcy{r:List zd}{m:Mt}(hr:r.Nodup)(hm:(zf m).Nodup)(hf:∀y∈zf m,y∈r):(qW r m).length+szM m=r.length:=by
 have h1:(r.filter fun y=>decide (y∈zf m)).length=(zf m).length:=by
  refine fAF (zcn (List.Nodup.sublist pU hr) fun x hx=>by simpa using (fP.mp hx).2) (zcn hm fun x hx=>fP.mpr ⟨hf x hx,by simpa using hx⟩)
 have h2:∀(l:List zd) (p:zd->Bool),(l.filter p).length+(l.filter fun y=>!p y).length=l.length:=by
  intro l p
  induction l with
  | nil=>rfl
  | cons x l ih=>simp only[fAL];cases p x<;>simp<;>(first|exact zCT ih|exact zCS ih)
 have:=h2 r fun y=>decide (y∈zf m);show (r.filter fun y=>!decide (y∈zf m)).length+(zf m).length=r.length;exact zDe h1 this
def kW(m:Mt):Prop:=(zf m).Nodup/\zf m≠[]
section
variable{ms:List Mt}
theorem zft(hn:∀m∈ms,kW m){x:zd}{t:List zd}:zZ ms t<=zZ ms (x::t):=by
 refine zb (zck ms t) fun S P h=>?_;rw[<-h];exact zcl ms (x::t) S (fun m hm=>(hn m hm).2) ⟨P.sub,fun a ha y hy=>fA _ (P.fit a ha y hy),P.dis⟩
theorem zfu(hn:∀m∈ms,kW m){r:List zd}{m:Mt}(hm:m∈ms)(hf:∀y∈zf m,y∈r):szM m+zZ ms (qW r m)<=zZ ms r:=by
 refine zb (zck ms (qW r m)) fun S P h=>?_;rw[<-h];refine zcl ms r (m::S) (fun m hm=>(hn m hm).2) ⟨fun a ha=>?_,fun a ha y hy=>?_,fZ.mpr ⟨fun a ha y hy hy'=>?_,P.dis⟩⟩
 .rcases fF.mp ha with rfl|ha
  .exact hm
  .exact P.sub a ha
 .rcases fF.mp ha with rfl|ha
  .exact hf y hy
  .exact(fP.mp (P.fit a ha y hy)).1
 .have:=(fP.mp (P.fit a ha y hy')).2;simp[hy] at this
theorem zek(hn:∀m∈ms,kW m){x:zd}{t:List zd}:zZ ms (x::t)=zZ ms t\/∃m∈ms,x∈zf m/\(∀y∈zf m,y∈x::t)/\zZ ms (x::t)=szM m+zZ ms (qW (x::t) m):=by
 refine zb (zck ms (x::t)) fun S P h=>?_
 by_cases hx:∃m∈S,x∈zf m
 .refine zb hx fun m hm hxm=>?_;obtain⟨h1,P'⟩:=P.split hm;refine .inr (jN m (P.sub m hm) hxm (P.fit m hm) (fAF ?_ (zfu hn (P.sub m hm) (P.fit m hm))));have:=zcl ms _ _ (fun m hm=>(hn m hm).2) P';exact zDj h h1 this
 .refine .inl (fAF ?_ (zft hn));rw[<-h];refine zcl ms t S (fun m hm=>(hn m hm).2) ⟨P.sub,fun a ha y hy=>?_,P.dis⟩
  rcases fF.mp (P.fit a ha y hy) with e|hy'
  .exact absurd (zc a ha (e▸hy)) hx
  .exact hy'
theorem zpl(hn:∀m∈ms,kW m):∀{r:List zd},r.Nodup->zZ ms r<=r.length:=by
 intro r
 induction hl:r.length using Nat.strongRecOn generalizing r with
 | _ n ih=>
  intro hr;cases r with
  | nil=>
   refine zb (zck ms []) fun S P h=>?_;cases S with
   | nil=>rw[<-h];simp[tot]
   | cons a S=>
    have h0:=(hn a (P.sub a fB)).2;cases hm:zf a with
    | nil=>exact absurd hm h0
    | cons y l=>exact absurd (P.fit a fB y (by rw[hm];exact fB)) (by simp)
  | cons x t=>
   simp only[fH] at hl
   rcases zek hn (x:=x) (t:=t) with h|⟨m,hm,hx,hf,h⟩
   .have:=ih t.length (zp9 hl) rfl (fU.mp hr).2;exact zC7 hl h this
   .have h1:=zcy hr (hn m hm).1 hf;have h2:0<szM m:=fB3 hx;simp only[fH] at h1;have:=ih (qW (x::t) m).length (zu0 hl h1 h2) rfl (List.Nodup.sublist pU hr);exact zDk hl h h1 this
theorem zpe{lv:List zd->Int}(L:Lv ms lv)(hn:∀m∈ms,kW m):∀{r:List zd},r.Nodup->lv r=(r.length:Int)-zZ ms r:=by
 intro r
 induction hl:r.length using Nat.strongRecOn generalizing r with
 | _ n ih=>
  intro hr;cases r with
  | nil=>rw[L.nil];have:=zpl hn (r:=[]) .nil;simp at this hl;exact zCw hl this
  | cons x t=>
   simp only[fH] at hl;have ht:=ih t.length (zp9 hl) rfl (fU.mp hr).2;have hM:=L.cons x t;have hout:∀b∈zdp ms (x::t),∃m∈ms,x∈zf m/\(∀y∈zf m,y∈x::t)/\b=qW (x::t) m/\lv b=(b.length:Int)-zZ ms b/\b.length+szM m=t.length+1:=fun b hb=>by
    refine zb (pZ.mp hb) fun m hm he=>?_;unfold qt at he;dsimp only at he;split at he
    .rename_i hc
     cases he;have h1:=zcy hr (hn m hm).1 hc.2;have h2:0<szM m:=fB3 hc.1;simp only[fH] at h1;exact⟨m,hm,hc.1,hc.2,rfl,ih _ (by show (qW (x::t) m).length<n;exact zu0 hl h1 h2) rfl (List.Nodup.sublist pU hr),h1⟩
    .cases he
   have lo:=hM.2;have h1:lv (x::t)<=1+lv t:=lo _ fB;have hml:=zft hn (x:=x) (t:=t);apply Int.le_antisymm
   .rcases zek hn (x:=x) (t:=t) with h|⟨m,hm,hx,hf,h⟩
    .exact zB3 hl ht h1 h
    .have hb:qW (x::t) m∈zdp ms (x::t):=pZ.mpr (zc m hm (by unfold qt;dsimp only;rw[if_pos ⟨hx,hf⟩];rfl));have h2:=lo _ (fA _ (gZ hb));refine zfc (hout _ hb) fun m' hm' _ _ _ h3 _=>?_;have h4:=zcy hr (hn m hm).1 hf;simp only[fH] at h4;exact zB6 hl h h2 h3 h4
   .rcases fF.mp hM.1 with e|hmem
    .exact zCL hl ht hml e
    .refine zb (fO.mp hmem) fun b hb e=>?_;refine zfc (hout b hb) fun m hm hx hf e13_4 h3 h4=>?_;subst e13_4;have h5:=zfu hn hm hf;exact zCM hl e h3 h4 h5
end
theorem zkq{r b:List zd}{m:Mt}(h:qt r m=some b):(∃x t,r=x::t/\x∈zf m)/\(∀y∈zf m,y∈r)/\b=qW r m:=by
 cases r with
 | nil=>cases h
 | cons x t=>
  unfold qt at h;dsimp only at h;split at h
  .rename_i hc;cases h;exact zq (za6 x t rfl hc.1) hc.2 rfl
  .cases h
theorem qa(ms:List Mt):∀{r:List zd},Pack r ms (pk ms r):=by
 intro r
 induction hl:r.length using Nat.strongRecOn generalizing r with
 | _ n ih=>
  cases r with
  | nil=>rw[zjz];exact⟨(fun m hm=>nomatch hm),(fun m hm=>nomatch hm),.nil⟩
  | cons x t=>
   rw[fH] at hl;cases hg:zab ms (x::t) with
   | nil=>
    rw[zgx hg];have P:=ih t.length (zp9 hl) rfl;exact⟨P.sub,fun m hm y hy=>fA _ (P.fit m hm y hy),P.dis⟩
   | cons z zs=>
    rw[zgy hg];refine zx (qD (ms:=ms) (r:=x::t) (z:=z) (by rw[hg];exact fB)) fun _ h2 h3 h4=>?_;have hlt:=qj h2;rw[fH] at hlt;refine zY (zkq h4) fun _ h5 h6=>?_;have P:=ih z.2.length (zuX hl hlt) rfl;refine⟨fun m hm=>?_,fun m hm y hy=>?_,fZ.mpr ⟨fun m hm y hy hy'=>?_,P.dis⟩⟩
    .rcases fF.mp hm with rfl|hm
     .exact h3
     .exact P.sub m hm
    .rcases fF.mp hm with rfl|hm
     .exact h5 y hy
     .have:=P.fit m hm y hy;rw[h6] at this;exact(fP.mp this).1
    .have:=P.fit m hm y hy';rw[h6] at this;have:=(fP.mp this).2;simp[hy] at this
theorem zro{ms:List Mt}(hn:∀m∈ms,kW m):∀{r:List zd},r.Nodup->(tot (pk ms r):Int)=r.length-kU ms r:=by
 intro r
 induction hl:r.length using Nat.strongRecOn generalizing r with
 | _ n ih=>
  intro hr;cases r with
  | nil=>rw[zjz,(zkt ms).nil];rw[gJ] at hl;subst hl;rfl
  | cons x t=>
   rw[fH] at hl;cases hg:zab ms (x::t) with
   | nil=>
    rw[zgx hg];have h1:=ih t.length (zp9 hl) rfl (fU.mp hr).2;have e:kU ms (x::t)=1+kU ms t:=by
     have hM:=(zkt ms).cons x t
     rcases fF.mp hM.1 with e|hmem
     .exact e
     .refine zb (fO.mp hmem) fun b hb e=>?_;exfalso;refine zb (pZ.mp hb) fun m hm h1=>?_;have:(m,b)∈zab ms (x::t):=fP.mpr ⟨pZ.mpr (zc m hm (by rw[h1];rfl)),G6 e⟩;rw[hg] at this;cases this
    rw[e];exact zCK hl h1
   | cons z zs=>
    rw[zgy hg];have hz:z∈zab ms (x::t):=by rw[hg];exact fB
    refine zx (qD hz) fun _ h2 h3 h4=>?_;have hlt:=qj h2;rw[fH] at hlt;refine zY (zkq h4) fun _ h5 h6=>?_;have h7:=zcy hr (hn _ h3).1 h5;rw[<-h6,fH] at h7;have h8:=ih z.2.length (zuX hl hlt) rfl (by rw[h6];exact List.Nodup.sublist pU hr);have h9:kU ms z.2=kU ms (x::t):=G7 (fP.mp hz).2;have ht:tot (z.1::pk ms z.2)=szM z.1+tot (pk ms z.2):=rfl;rw[ht];exact zC5 hl h7 h8 h9
theorem zps{ms:List Mt}(hn:∀m∈ms,kW m){r:List zd}(hr:r.Nodup):tot (pk ms r)=zZ ms r:=by
 have h1:=zro hn hr;have h2:=zpe (zkt ms) hn hr;exact zC4 h1 h2
theorem zm0{J:Type}{gs:List (List J)}(h:gs.flatten.Nodup){g g':List J}(hg:g∈gs)(hg':g'∈gs){x:J}(hx:x∈g)(hx':x∈g'):g=g':=by
 induction gs with
 | nil=>cases hg
 | cons g1 gs ih=>
  rw[fCZ,gX] at h;refine zY h fun h1 h2 h3=>?_
  rcases fF.mp hg with e|i
  .rcases fF.mp hg' with e'|i'
   .rw[e,e']
   .exact absurd rfl (h3 x (e▸hx) x (gN.mpr (zc g' i' hx')))
  .rcases fF.mp hg' with e'|i'
   .exact absurd rfl (h3 x (e'▸hx') x (gN.mpr (zc g i hx)))
   .exact ih h2 i i'
theorem zau(D:Led):D.grps.flatten.Nodup:=by unfold Led.grps;rw[qZ];exact zcP _ _
theorem jH{D:Led}{g g':List zd}(hg:g∈D.grps)(hg':g'∈D.grps){x:zd}(hx:x∈g)(hx':x∈g'):g=g':=zm0 (zau D) hg hg' hx hx'
section
variable{D:Led}{s:Bool}{e:Ent}
theorem zkA{es fs:List Ent}{span:Int}{G:List Tr}(hG:G∈z9 (·.1) span (inO es fs)):G.Pairwise fun a b=>zaI a<=zaI b:=by
 have h:G.Sublist (inO es fs):=by
  have:=fCN hG;rw[jy] at this;exact this
 exact(zgL zaI (zaT es fs)).sublist h
theorem zdT(ho:LOk D)(ho':LOk (D.add s e))(h0:0<=D.span){g:List zd}(hg:g∈(D.add s e).grps)(hn:(s,((D.row s).length:Int))∉g):g∈D.grps:=by
 unfold Led.grps at hg ⊢;rw[kg] at hg;rw[zav] at hg ⊢;refine zb (fO.mp hg) fun G' hG' e1_2=>?_;subst e1_2;have hn':((e.1,(s,((D.row s).length:Int))):Tr)∉G':=fun h=>hn (fO.mpr (zc _ h rfl));obtain⟨x,hx'⟩:∃x,x∈G':=fAZ _ (zeq G' hG');have hm:∀y,y∈inO (D.add s e).es (D.add s e).fs↔y∈inO D.es D.fs\/y=(e.1,(s,((D.row s).length:Int))):=fun y=>zkx;have hxt:x∈inO D.es D.fs:=((hm x).mp (zaG hG' hx')).resolve_right fun e=>hn' (e▸hx');refine zb (zkn (f:=fun t:Tr=>t.1) (span:=D.span) hxt) fun G hG hx=>?_;have hs:=zgb ho.es ho.fs;have hs':=zgb ho'.es ho'.fs;have e1:∀y,y∈G'↔y∈G:=fun y=>⟨znZ h0 hs hs' hm hG hG' hx hx' hn' y,zfx h0 hs hs' hm hG hG' hx hx' y⟩
 have:G'=G:=List.Perm.eq_of_pairwise (fun a b ha hb h1 h2=>zey (jL ho'.es ho'.fs (inO_mem.mp (zaG hG' ha))).1 (jL ho.es ho.fs (inO_mem.mp (zaG hG hb))).1 (fAF h1 h2)) (zkA hG') (zkA hG) ((List.perm_ext_iff_of_nodup (zh5 hG').1 (zh5 hG).1).mpr e1);rw[this];exact fO.mpr (zc G hG rfl)
theorem zld(ho:LOk D)(ho':LOk (D.add s e))(h0:0<=D.span){g:List zd}(hg:g∈D.grps):∃g'∈(D.add s e).grps,∀y∈g,y∈g':=by
 unfold Led.grps at hg ⊢;rw[kg,zav];rw[zav] at hg;refine zb (fO.mp hg) fun G hG e3_2=>?_;subst e3_2;obtain⟨x,hx⟩:∃x,x∈G:=fAZ _ (zeq G hG);have hm:∀y,y∈inO (D.add s e).es (D.add s e).fs↔y∈inO D.es D.fs\/y=(e.1,(s,((D.row s).length:Int))):=fun y=>zkx;refine zb (zkn (f:=fun t:Tr=>t.1) (span:=D.span) ((hm x).mpr (.inl (zaG hG hx)))) fun G' hG' hx'=>?_;refine zc _ (fO.mpr (zc G' hG' rfl)) (fun y hy=>?_);refine zb (fO.mp hy) fun t ht e5_2=>?_;subst e5_2;exact fO.mpr (zc t (zfx h0 (zgb ho.es ho.fs) (zgb ho'.es ho'.fs) hm hG hG' hx hx' t ht) rfl)
end
theorem zbi{es:List Ent}{e:Ent}{p:Int}(h0:0<=p)(h1:p<es.length):jR (es++[e]) p=jR es p/\zF (es++[e]) p=zF es p:=by
 unfold jR zF;have:p.toNat<es.length:=zB2 h0 h1;rw[fT,pA this,<-fT];exact⟨rfl,rfl⟩
theorem zdu{f f':Int->Int}{l:List Int}(h:∀p∈l,f p=f' p):l.map f=l.map f':=pG h
theorem zkm{D:Led}{s:Bool}{e:Ent}{m:Mt}(h1:∀p∈m.1,0<=p/\p<D.es.length)(h2:∀p∈m.2,0<=p/\p<D.fs.length):kQ (D.add s e).es (D.add s e).fs (D.add s e).span m=kQ D.es D.fs D.span m:=by
 have a1:m.1.map (zF (D.add s e).es)=m.1.map (zF D.es)/\m.1.map (jR (D.add s e).es)=m.1.map (jR D.es):=by
  cases s with
  | false=>exact⟨zdu fun p hp=>(zbi (h1 p hp).1 (h1 p hp).2).2,zdu fun p hp=>(zbi (h1 p hp).1 (h1 p hp).2).1⟩
  | true=>exact⟨rfl,rfl⟩
 have a2:m.2.map (zF (D.add s e).fs)=m.2.map (zF D.fs)/\m.2.map (jR (D.add s e).fs)=m.2.map (jR D.fs):=by
  cases s with
  | false=>exact⟨rfl,rfl⟩
  | true=>exact⟨zdu fun p hp=>(zbi (h2 p hp).1 (h2 p hp).2).2,zdu fun p hp=>(zbi (h2 p hp).1 (h2 p hp).2).1⟩
 unfold kQ ki;rw[a1.1,a1.2,a2.1,a2.2,kg]
theorem zdS{J β:Type}{f g:J->List β}{l:List J}(h:∀a∈l,f a=g a):l.flatMap f=l.flatMap g:=by
 induction l with
 | nil=>rfl
 | cons a l ih=>rw[gQ,gQ,h a fB,ih fun b hb=>h b (fA _ hb)]
theorem ziE{fit fit':Mt->Bool}{as bs:List Int}(h:∀x:Mt,Up as x.1->Up bs x.2->fit x=fit' x):ziD fit as bs=ziD fit' as bs:=by
 unfold ziD;refine zdS fun z _=>zdS fun l hl=>?_;unfold qF;refine congrArg _ (fA3 fun r hr=>h (l,r) (mem_rowsN.mp hl).2 (mem_rowsN.mp hr).2)
theorem zpO{D:Led}{s:Bool}{e:Ent}{g:List zd}(h:∀m∈g,0<=m.2/\m.2<(D.row m.1).length):win (D.add s e).es (D.add s e).fs (D.add s e).span g=win D.es D.fs D.span g:=by
 unfold win;refine congrArg _ (ziE fun x hx hy=>zkm (fun p hp=>?_) fun p hp=>?_)
 .exact h (false,p) (ups_mem.mp (hx.2 p hp))
 .exact h (true,p) (ups_mem.mp (hy.2 p hp))
theorem zbm{D:Led}{g:List zd}(hg:g∈D.grps){m:zd}(hm:m∈g):0<=m.2/\m.2<(D.row m.1).length:=by
 have:m∈(inO D.es D.fs).map (·.2):=by rw[<-qZ D.es D.fs D.span];exact gN.mpr (zc g hg hm)
 refine zb (mem_inO.mp this) fun k h1 h2=>?_;unfold Led.row;rw[h1];exact ztN h2
structure FitM(D:Led)(m:Mt):Prop where
 sm:SmM m
 r1:Rise m.1 D.es.length
 r2:Rise m.2 D.fs.length
 one:min m.1.length m.2.length=1
 fit:kQ D.es D.fs D.span m=true
structure Inv(D:Led):Prop where
 ok:LOk D
 lo:0<=D.span
 hi:D.span<=30
 few:∀g∈D.grps,g.length<=8
 whole:∀m∈D.tick,∃g∈D.grps,∀y∈zf m,y∈g
 apart:D.tick.Pairwise fun a b=>∀y∈zf a,y∉zf b
 fits:∀m∈D.tick,FitM D m
 free:∀m∈D.tick,m∉D.clos
noncomputable def Led.able(D:Led)(g:List zd):List Mt:=(win D.es D.fs D.span g).filter fun m=>!decide (m∈D.clos)
theorem FitM.go{D:Led}{m:Mt}(h:FitM D m):zlD m:=by
 refine(zq h.sm (fun e=>?_) (fun e=>?_))<;>have:=h.one<;>rw[e,gJ] at this<;>simp at this
theorem mem_marks{m:Mt}{y:zd}:y∈zf m↔(y.1=false/\y.2∈m.1)\/(y.1=true/\y.2∈m.2):=by
 obtain⟨b,k⟩:=y;unfold zf;rw[fR,fO,fO];constructor
 .rintro(⟨x,hx,e⟩|⟨x,hx,e⟩)<;>cases e
  .exact .inl ⟨rfl,hx⟩
  .exact .inr ⟨rfl,hx⟩
 .rintro(⟨h1,h2⟩|⟨h1,h2⟩)
  .have h1:b=false:=h1;subst h1;exact .inl (zc k h2 rfl)
  .have h1:b=true:=h1;subst h1;exact .inr (zc k h2 rfl)
theorem jp{m:Mt}(h:zlD m):zf m≠[]:=fun e=>by
 have:=congrArg List.length e;unfold zf at this;rw[fE,fC,gJ] at this;exact h.2.1 (gS.mp (ztG this))
theorem je{m:Mt}(h:zf m≠[]):zB m∈zf m:=by
 unfold zB;cases hm:zf m with
 | nil=>exact absurd hm h
 | cons y l=>exact fB
theorem zew{l:List Int}{n:Int}(h:Rise l n):l.Nodup:=h.1.imp fun h e=>zB1 h e
theorem zmZ{D:Led}{m:Mt}(h:FitM D m):kW m:=by
 refine⟨?_,jp h.go⟩;unfold zf;rw[gX];refine zq (zcp (zew h.r1) fun a _ b _ e=>by cases e;rfl) (zcp (zew h.r2) fun a _ b _ e=>by cases e;rfl) (fun a ha b hb e=>?_);refine zb (fO.mp ha) fun x _ e1_2=>?_;subst e1_2;refine zb (fO.mp hb) fun y _ e2_2=>?_;subst e2_2;cases e
theorem qG{D:Led}{g:List zd}(hg:GOk g D.es.length D.fs.length){m:Mt}(h:m∈win D.es D.fs D.span g):FitM D m/\∀y∈zf m,y∈g:=by
 have h1:=(js ..).mem_iff.mp h;refine jw (ziG hg h1) fun a b c d e=>?_;refine⟨⟨a,b,c,d,e⟩,fun y hy=>?_⟩;refine zb (gL.mp h1) fun z _ hz=>?_;refine jw (mem_bySz.mp hz) fun _ u1 _ u2 _=>?_;obtain⟨s,k⟩:=y
 rcases mem_marks.mp hy with⟨h2,h3⟩|⟨h2,h3⟩
 .have h2:s=false:=h2;subst h2;exact ups_mem.mp (u1.2 k h3)
 .have h2:s=true:=h2;subst h2;exact ups_mem.mp (u2.2 k h3)
theorem jW{D:Led}{g:List zd}{m:Mt}(h:m∈D.able g):m∈win D.es D.fs D.span g/\m∉D.clos:=by
 obtain⟨h1,h2⟩:=fP.mp h;exact⟨h1,by simpa using h2⟩
theorem ko{D:Led}(h:LOk D){g:List zd}(hg:g∈D.grps)(h8:g.length<=8):GOk g D.es.length D.fs.length:=zga hg h8 h.few
theorem zkP(D:Led)(s:Bool)(e:Ent):D.es.length<=(D.add s e).es.length/\D.fs.length<=(D.add s e).fs.length:=by
 cases s
 .exact⟨by show _<=(D.es++[e]).length;rw[fE];exact zka,fM _⟩
 .exact⟨fM _,by show _<=(D.fs++[e]).length;rw[fE];exact zka⟩
theorem zmY{D:Led}{s:Bool}{e:Ent}{m:Mt}(h:FitM D m):FitM (D.add s e) m:=by
 have hl:=zkP D s e;exact⟨h.sm,⟨h.r1.1,fun p hp=>by have:=h.r1.2 p hp;exact zB4 hl this⟩,⟨h.r2.1,fun p hp=>by have:=h.r2.2 p hp;exact zB5 hl this⟩,h.one,by rw[zkm h.r1.2 h.r2.2];exact h.fit⟩
theorem k8(D:Led)(s:Bool)(e:Ent):(D.add s e).tick=D.tick:=by cases s<;>rfl
theorem zaS(D:Led)(s:Bool)(e:Ent):(D.add s e).clos=D.clos:=by cases s<;>rfl
section
variable{D:Led}{s:Bool}{e:Ent}{g:List zd}
theorem zrj(hg:g∈D.grps){m:Mt}(hw:∃g'∈D.grps,∀y∈zf m,y∈g')(hne:zf m≠[])(hf:zB m∉g):∀y∈zf m,y∉g:=fun y hy h=>by
 refine zb hw fun g' h1 h2=>?_;rw[jH h1 hg (h2 y hy) h] at h2;exact hf (h2 _ (je hne))
theorem zh8(ho:LOk D)(lo:0<=D.span)(hi:D.span<=30)(few:∀g∈D.grps,g.length<=8)(whole:∀m∈D.tick,∃g∈D.grps,∀y∈zf m,y∈g)(apart:D.tick.Pairwise fun a b=>∀y∈zf a,y∉zf b)(fits:∀m∈D.tick,FitM D m)(free:∀m∈D.tick,m∉D.clos)
  (hg:g∈D.grps)(tl:D.tick.length<=992):Inv (D.pick g):=by
 have h8:=few g hg;have hgo:=ko ho hg h8;have P:=qa (D.able g) (r:=g);refine⟨znu ho hgo tl,lo,hi,few,fun m hm=>?_,?_,fun m hm=>?_,fun m hm=>?_⟩
 .rcases fR.mp hm with hm|hm
  .exact whole m (fP.mp hm).1
  .exact zc g hg (P.fit m hm)
 .refine gC.mpr (zq (apart.sublist pU) P.dis (fun a ha b hb y hy hy'=>?_));obtain⟨h1,h2⟩:=fP.mp ha;exact zrj hg (whole a h1) (jp (fits a h1).go) (by simpa using h2) y hy (P.fit b hb y hy')
 .rcases fR.mp hm with hm|hm
  .have:=fits m (fP.mp hm).1;exact⟨this.sm,this.r1,this.r2,this.one,this.fit⟩
  .have:=(qG hgo (jW (P.sub m hm)).1).1;exact⟨this.sm,this.r1,this.r2,this.one,this.fit⟩
 .rcases fR.mp hm with hm|hm
  .exact free m (fP.mp hm).1
  .exact(jW (P.sub m hm)).2
theorem zoH(h:Inv D)(ho':LOk (D.add s e))(hg:g∈(D.add s e).grps)(hm:(s,((D.row s).length:Int))∈g)(h8:g.length<=8):∀g'∈(D.add s e).grps,g'.length<=8:=fun g' hg'=>by
 by_cases hn:(s,((D.row s).length:Int))∈g'
 .rw[jH hg' hg hn hm];exact h8
 .exact h.few g' (zdT h.ok ho' h.lo hg' hn)
theorem zpt(h:Inv D)(ho':LOk (D.add s e))(hg:g∈(D.add s e).grps)(hm:(s,((D.row s).length:Int))∈g)(h8:g.length<=8)(tl:D.tick.length<=992):Inv ((D.add s e).pick g):=by
 refine zh8 ho' (by rw[kg];exact h.lo) (by rw[kg];exact h.hi) (zoH h ho' hg hm h8) ?_ ?_ ?_ ?_ hg (by rw[k8];exact tl)
 .intro m hm;rw[k8] at hm;refine zb (h.whole m hm) fun g1 h1 h2=>?_;refine zb (zld (s:=s) (e:=e) h.ok ho' h.lo h1) fun g2 h3 h4=>?_;exact zc g2 h3 (fun y hy=>h4 y (h2 y hy))
 .rw[k8];exact h.apart
 .intro m hm;rw[k8] at hm;exact zmY (h.fits m hm)
 .intro m hm;rw[k8] at hm;rw[zaS];exact h.free m hm
end
noncomputable def Led.take(D:Led)(m:Mt):Led:={ D with tick:=D.tick.erase m,clos:=D.clos++[m] }
theorem zj0{D:Led}(h:Inv D):D.tick.Nodup:=by
 refine(h.apart.imp_of_mem (S:=fun a b=>a≠b) fun {a b} ha hb hd e=>?_);subst e;exact hd _ (je (jp (h.fits a ha).go)) (je (jp (h.fits a ha).go))
theorem zos{D:Led}(h:Inv D){m:Mt}(hm:m∈D.tick)(hc:D.clos.length<1000):Inv (D.take m):=by
 have nd:=zj0 h;have sub:∀a∈D.tick.erase m,a∈D.tick:=fun a ha=>fB6 ha;have ok:=h.ok;refine⟨⟨ok.es,ok.fs,ok.few,fun a ha=>ok.tick a (sub a ha),fun a ha=>?_,?_,?_⟩,h.lo,h.hi,h.few,fun a ha=>h.whole a (sub a ha),h.apart.sublist List.erase_sublist,fun a ha=>?_,fun a ha hc'=>?_⟩
 .rcases fR.mp ha with ha|ha
  .exact ok.clos a ha
  .rw[fG.mp ha];exact ok.tick m hm
 .exact fN (List.erase_sublist.length_le) ok.tl
 .show (D.clos++[m]).length<=1000;rw[fE,fS];exact ztk hc
 .have:=h.fits a (sub a ha);exact⟨this.sm,this.r1,this.r2,this.one,this.fit⟩
 .rcases fR.mp hc' with hc'|hc'
  .exact h.free a (sub a ha) hc'
  .rw[fG.mp hc'] at ha;exact(List.Nodup.mem_erase_iff nd).mp ha |>.1 rfl
noncomputable def Led.again(D:Led):Led:={ D with tick:=D.grps.flatMap fun g=>pk (D.able g) g }
theorem zmv{D:Led}(few:∀g∈D.grps,g.length<=8)(ho:LOk D):∀(gs2 gs1:List (List zd)) (t:List Mt),D.grps=gs1++gs2->
  (gs2.foldl Led.pick { D with tick:=t++gs1.flatMap fun g=>pk (D.able g) g })={ D with tick:=(t.filter fun m=>!decide (zB m∈gs2.flatten))++D.grps.flatMap fun g=>pk (D.able g) g }:=by
 intro gs2
 induction gs2 with
 | nil=>
  intro gs1 t e;rw[gO] at e;rw[e];have:(t.filter fun m=>!decide (zB m∈([]:List (List zd)).flatten))=t:=by
   refine fCL.mpr fun m _=>?_;rw[List.flatten_nil,G5 gB];rfl
  rw[this];rfl
 | cons g gs2 ih=>
  intro gs1 t e;rw[pM];have hgm:g∈D.grps:=by rw[e];exact gK _ fB
  have e':D.grps=(gs1++[g])++gs2:=by rw[e,gE];rfl
  have ep:Led.pick { D with tick:=t++gs1.flatMap fun g=>pk (D.able g) g } g={ D with tick:=(t.filter fun m=>!decide (zB m∈g))++(gs1++[g]).flatMap fun g=>pk (D.able g) g }:=by
   have keep:((gs1.flatMap fun g=>pk (D.able g) g).filter fun m=>!decide (zB m∈g))=gs1.flatMap fun g=>pk (D.able g) g:=by
    refine fCL.mpr fun m hm=>?_;refine zb (gL.mp hm) fun g1 h1 h2=>?_;have hg1:g1∈D.grps:=by rw[e];exact gR _ h1
    have P:=qa (D.able g1) (r:=g1);have hgo:=(qG (ko ho hg1 (few g1 hg1)) (jW (P.sub m h2)).1).1.go;have hf:=P.fit m h2 _ (je (jp hgo));rw[G5 fun hfg=>?_];rfl;have hnd:=zau D;rw[e,List.flatten_append,gX] at hnd;exact hnd.2.2 _ (gN.mpr (zc g1 h1 hf)) _ (gN.mpr (zc g fB hfg)) rfl
   show ({ D with tick:=((t++gs1.flatMap fun g=>pk (D.able g) g).filter fun m=>!decide (zB m∈g))++pk (D.able g) g }:Led)=_;rw[fBS,keep,List.flatMap_append,gE];simp only[gQ,List.flatMap_nil,gO]
  rw[ep,ih (gs1++[g]) _ e',fBT];have:(t.filter fun m=>(!decide (zB m∈gs2.flatten))&&!decide (zB m∈g))=t.filter fun m=>!decide (zB m∈(g::gs2).flatten):=by
   refine fA3 fun m _=>?_;rw[fCZ]
   by_cases h1:zB m∈g<;>by_cases h2:zB m∈gs2.flatten<;>simp[h1,h2]
  rw[this]
theorem ziC{D:Led}(h:Inv D):D.grps.foldl Led.pick D=D.again:=by
 have:=zmv h.few h.ok D.grps [] D.tick rfl;simp only[List.flatMap_nil,gO] at this;rw[this];have:(D.tick.filter fun m=>!decide (zB m∈D.grps.flatten))=[]:=by
  refine fAU.mpr fun m hm=>?_;refine zb (h.whole m hm) fun g h1 h2=>?_;rw[G6 (gN.mpr (zc g h1 (h2 _ (je (jp (h.fits m hm).go)))))];exact pL
 rw[this];rfl
theorem zeY{J β:Type}{R:β->β->Prop}{f:J->List β}{l:List J}(h1:∀a∈l,(f a).Pairwise R)(h2:l.Pairwise fun a b=>∀x∈f a,∀y∈f b,R x y):(l.flatMap f).Pairwise R:=by
 induction l with
 | nil=>exact .nil
 | cons a l ih=>
  obtain⟨h3,h4⟩:=fZ.mp h2;rw[gQ,gC];refine zq (h1 a fB) (ih (fun b hb=>h1 b (fA _ hb)) h4) (fun x hx y hy=>?_);refine zb (gL.mp hy) fun b hb hy=>?_;exact h3 b hb x hx y hy
theorem zfh(D:Led):D.grps.Pairwise fun g g'=>∀y∈g,y∉g':=by
 have h:=zau D;generalize D.grps=gs at h
 induction gs with
 | nil=>exact .nil
 | cons g gs ih=>
  rw[fCZ,gX] at h;exact fZ.mpr ⟨fun g' hg' y hy hy'=>h.2.2 y hy y (gN.mpr (zc g' hg' hy')) rfl,ih h.2.1⟩
theorem zm1{J β:Type}{f:J->List β}{c:J->Nat}:∀{l:List J},(∀a∈l,(f a).length<=c a)->(l.flatMap f).length<=(l.map c).sum:=by
 intro l
 induction l with
 | nil=>intro _;exact fM _
 | cons a l ih=>
  intro h;rw[gQ,fE,gF,List.sum_cons];have:=h a fB;have:=ih fun b hb=>h b (fA _ hb);exact zDa (by assumption) this
theorem zmw(D:Led):D.again.tick.length<=D.es.length+D.fs.length:=by
 have h1:=zm1 (f:=fun g=>pk (D.able g) g) (c:=fun g=>g.length) (l:=D.grps) fun g _=>zjy _ _;have h2:(D.grps.map fun g=>g.length).sum=D.grps.flatten.length:=by rw[List.length_flatten]
 have h3:D.grps.flatten.length=D.es.length+D.fs.length:=by unfold Led.grps;rw[qZ,fC,zaw]
 show (D.grps.flatMap fun g=>pk (D.able g) g).length<=_;exact zDh h1 h2 h3
theorem ze5{D:Led}(h:Inv D):Inv D.again:=by
 have ok:=h.ok;have mem:∀m∈D.again.tick,∃g∈D.grps,m∈pk (D.able g) g:=fun m hm=>gL.mp hm;have fit:∀m∈D.again.tick,FitM D m/\m∉D.clos:=fun m hm=>by
  refine zb (mem m hm) fun g h1 h2=>?_;have:=jW ((qa (D.able g) (r:=g)).sub m h2);exact⟨(qG (ko ok h1 (h.few g h1)) this.1).1,this.2⟩
 have tl:=zmw D;have few:=ok.few;refine⟨⟨ok.es,ok.fs,ok.few,fun m hm=>(fit m hm).1.go,ok.clos,zCV tl few,ok.cl⟩,h.lo,h.hi,h.few,fun m hm=>?_,?_,fun m hm=>?_,fun m hm=>(fit m hm).2⟩
 .refine zb (mem m hm) fun g h1 h2=>?_;exact zc g h1 ((qa (D.able g) (r:=g)).fit m h2)
 .refine zeY (fun g _=>(qa (D.able g) (r:=g)).dis) ((zfh D).imp fun {g g'} hd a ha b hb y hy hy'=>?_);exact hd y ((qa (D.able g) (r:=g)).fit a ha y hy) ((qa (D.able g') (r:=g')).fit b hb y hy')
 .have:=(fit m hm).1;exact⟨this.sm,this.r1,this.r2,this.one,this.fit⟩
def k7(D:Led)(g:List zd):Prop:=(D.tick.filter fun m=>decide (zB m∈g))=pk (D.able g) g
theorem zms{D:Led}{s:Bool}{e:Ent}{g:List zd}(hg:g∈D.grps):(D.add s e).able g=D.able g:=by
 unfold Led.able;rw[zpO fun m hm=>zbm hg hm,zaS]
theorem za1{J:Type}{p:J->Bool}{l:List J}(h:∀a∈l,p a=false):l.filter p=[]:=fAU.mpr fun a ha=>by rw[h a ha];exact pL
theorem zbJ{J:Type}{p:J->Bool}{l:List J}(h:∀a∈l,p a=true):l.filter p=l:=fCL.mpr h
section
variable{D:Led}{s:Bool}{e:Ent}{g g':List zd}
theorem ziV(ho:LOk D)(hg:g∈D.grps)(h8:g.length<=8):k7 (D.pick g) g:=by
 have P:=qa (D.able g) (r:=g);have hgo:=ko ho hg h8;show ((D.tick.filter fun m=>!decide (zB m∈g))++pk (D.able g) g).filter (fun m=>decide (zB m∈g))=pk (D.able g) g;rw[fBS,fBT,za1,pX,zbJ]
 .intro m hm;exact G6 (P.fit m hm _ (je (jp (qG hgo (jW (P.sub m hm)).1).1.go)))
 .intro m _;cases decide (zB m∈g)<;>rfl
theorem zg6(ho:LOk D)(hg:g∈D.grps)(h8:g.length<=8)(hg':g'∈D.grps)(hne:g'≠g)(h:k7 D g'):k7 (D.pick g) g':=by
 have P:=qa (D.able g) (r:=g);have hgo:=ko ho hg h8;show ((D.tick.filter fun m=>!decide (zB m∈g))++pk (D.able g) g).filter (fun m=>decide (zB m∈g'))=pk (D.able g') g';rw[fBS,fBT];have e1:(pk (D.able g) g).filter (fun m=>decide (zB m∈g'))=[]:=za1 fun m hm=>G5 fun hf=>by
  have:=P.fit m hm _ (je (jp (qG hgo (jW (P.sub m hm)).1).1.go));exact hne (jH hg' hg hf this)
 rw[e1,gO,<-h];refine fA3 fun m _=>?_
 by_cases hf:zB m∈g'
 .have:zB m∉g:=fun h=>hne (jH hg' hg hf h);simp[hf,this]
 .simp[hf]
theorem zk0(h:Inv D)(ho':LOk (D.add s e))(hg:g∈(D.add s e).grps)(hm:(s,((D.row s).length:Int))∈g)(h8:g.length<=8)(hg':g'∈(D.add s e).grps)(hc:g'≠g->k7 D g'):k7 ((D.add s e).pick g) g':=by
 by_cases hne:g'=g
 .rw[hne];exact ziV ho' hg h8
 .refine zg6 ho' hg h8 hg' hne ?_;have hn:(s,((D.row s).length:Int))∉g':=fun h=>hne (jH hg' hg h hm);have:=hc hne;unfold k7 at this ⊢;rw[k8,zms (zdT h.ok ho' h.lo hg' hn)];exact this
theorem zf5{p:Mt->Bool}{m:Mt}(hp:p m=false){l:List Mt}:(l.erase m).filter p=l.filter p:=by
 induction l with
 | nil=>rfl
 | cons x l ih=>
  rw[List.erase_cons]
  by_cases h:x=m
  .subst h;rw[if_pos BEq.rfl,fAL,if_neg (by rw[hp];exact pL)]
  .rw[if_neg (by simpa using h),fAL,fAL,ih]
theorem ziW(h:Inv D)(hg:g∈D.grps){m:Mt}(hm:m∈D.tick)(hf:zB m∉g)(hc:k7 D g):k7 (D.take m) g:=by
 have hgo:=ko h.ok hg (h.few g hg);have hne:=jp (h.fits m hm).go;have ha:(D.take m).able g=D.able g:=by
  unfold Led.able;refine fA3 fun x hx=>?_;have:x≠m:=fun e=>by
   subst e;exact hf ((qG hgo hx).2 _ (je hne))
  show (!decide (x∈D.clos++[m])) = !decide (x∈D.clos);simp[this]
 unfold k7 at hc ⊢;rw[ha,<-hc];show (D.tick.erase m).filter _=_;exact zf5 (G5 hf)
theorem zhj{J β:Type}{f:J->List β}{p:β->Bool}{l:List J}:(l.flatMap f).filter p=l.flatMap fun a=>(f a).filter p:=by
 induction l with
 | nil=>rfl
 | cons a l ih=>rw[gQ,fBS,ih,gQ]
theorem zhl{J β:Type}{f:J->List β}{l:List J}{a:J}(ha:a∈l)(hn:l.Pairwise fun x y=>x≠y)(h:∀x∈l,x≠a->f x=[]):l.flatMap f=f a:=by
 induction l with
 | nil=>cases ha
 | cons b l ih=>
  obtain⟨h1,h2⟩:=fZ.mp hn;rw[gQ]
  rcases fF.mp ha with rfl|ha
  .have:l.flatMap f=[]:=by
    rw[List.flatMap_eq_nil_iff];exact fun x hx=>h x (fA _ hx) fun e=>h1 x hx e.symm
   rw[this,gO]
  .rw[h b fB (h1 a ha),pX];exact ih ha h2 fun x hx=>h x (fA _ hx)
theorem zna(hg:g∈D.grps):g≠[]:=by
 unfold Led.grps at hg;rw[zav] at hg;refine zb (fO.mp hg) fun G hG e1_2=>?_;subst e1_2;exact fun e=>zeq G hG (List.map_eq_nil_iff.mp e)
theorem zc5(h:Inv D)(hg:g∈D.grps):k7 D.again g:=by
 show (D.grps.flatMap fun g=>pk (D.able g) g).filter (fun m=>decide (zB m∈g))=pk (D.able g) g;rw[zhj,zhl hg]
 .have P:=qa (D.able g) (r:=g);have hgo:=ko h.ok hg (h.few g hg);exact zbJ fun m hm=>G6 (P.fit m hm _ (je (jp (qG hgo (jW (P.sub m hm)).1).1.go)))
 .refine(zfh D).imp_of_mem fun {a b} ha hb hd e=>?_;subst e;obtain⟨x,hx⟩:=fAZ _ (zna ha);exact hd x hx hx
 .intro g1 hg1 hne;have P:=qa (D.able g1) (r:=g1);have hgo:=ko h.ok hg1 (h.few g1 hg1);exact za1 fun m hm=>G5 fun hf=>hne (jH hg1 hg (P.fit m hm _ (je (jp (qG hgo (jW (P.sub m hm)).1).1.go))) hf)
end
theorem zjw{ms:List Mt}:∀{S:List Mt} {r:List zd},Pack r ms S->r.Nodup->(∀m∈S,kW m)->(r.filter fun y=>!decide (y∈S.flatMap zf)).length+tot S=r.length:=by
 intro S
 induction S with
 | nil=>
  intro r P hr hn;rw[zbJ fun y _=>by simp]
  rfl
 | cons m S ih=>
  intro r P hr hn;have h1:=zcy hr (hn m fB).1 (P.fit m fB);obtain⟨d1,d2⟩:=fZ.mp P.dis;have P':Pack (qW r m) ms S:=⟨fun a ha=>P.sub a (fA _ ha),fun a ha y hy=>fP.mpr ⟨P.fit a (fA _ ha) y hy,by simpa using zdJ (d1 a ha) y hy⟩,d2⟩
  have h2:=ih P' (List.Nodup.sublist pU hr) fun a ha=>hn a (fA _ ha);have e:(r.filter fun y=>!decide (y∈(m::S).flatMap zf))=(qW r m).filter fun y=>!decide (y∈S.flatMap zf):=by
   unfold qW;rw[fBT];refine fA3 fun y _=>?_;rw[gQ]
   by_cases h1:y∈zf m<;>by_cases h2:y∈S.flatMap zf<;>simp only[fR,h1,h2,or_self,or_true,true_or,decide_true,decide_false,fCC,Bool.not_false,fCD,fDG,Bool.and_self]
  have ht:tot (m::S)=szM m+tot S:=rfl;rw[e,ht];exact zDg h1 h2
theorem zou{D:Led}(h:Inv D){g:List zd}(hg:g∈D.grps){y:zd}(hy:y∈g):y∈D.told↔y∈(D.tick.filter fun m=>decide (zB m∈g)).flatMap zf:=by
 unfold Led.told;rw[gL,gL];constructor
 .intro hR1;refine zb hR1 fun m hm hym=>?_;refine zc m (fP.mpr ⟨hm,G6 ?_⟩) hym;refine zb (h.whole m hm) fun g1 h1 h2=>?_;rw[jH h1 hg (h2 y hym) hy] at h2;exact h2 _ (je (jp (h.fits m hm).go))
 .intro hR2;refine zb hR2 fun m hm hym=>?_;exact zc m ((fP.mp hm).1) hym
theorem zfg{D:Led}{g:List zd}(hg:g∈D.grps):g.Nodup:=kR (zau D) hg
theorem zcI{D:Led}(h:Inv D){g:List zd}(hg:g∈D.grps):∀m∈D.able g,kW m:=fun m hm=>zmZ (qG (ko h.ok hg (h.few g hg)) (jW hm).1).1
theorem zjk{D:Led}(h:Inv D){g:List zd}(hg:g∈D.grps)(hc:k7 D g):(g.filter fun y=>!decide (y∈D.told)).length+zZ (D.able g) g=g.length:=by
 have P:=qa (D.able g) (r:=g);have good:=zcI h hg;have h1:=zjw P (zfg hg) fun m hm=>good m (P.sub m hm);rw[zps good (zfg hg)] at h1;have e:(g.filter fun y=>!decide (y∈D.told))=g.filter fun y=>!decide (y∈(pk (D.able g) g).flatMap zf):=by
  refine fA3 fun y hy=>?_;rw[decide_eq_decide.mpr ((zou h hg hy).trans (by rw[hc]))]
 rw[e];exact h1
theorem zhZ{ms ms':List Mt}{r:List zd}(h:∀m∈ms,m∈ms')(hn:∀m∈ms',zf m≠[]):zZ ms r<=zZ ms' r:=by
 refine zb (zck ms r) fun S P e=>?_;rw[<-e];exact zcl ms' r S hn ⟨fun m hm=>h m (P.sub m hm),P.fit,P.dis⟩
noncomputable def zaJ(ps:List Int)(i j:Nat):List (List Int):=(List.range' (j+1) (ps.length-(j+1))).flatMap fun k=>[[ps.getD i 0,ps.getD j 0,ps.getD k 0]]
noncomputable def zc1(ps:List Int)(i:Nat):List (List Int):=(List.range' (i+1) (ps.length-(i+1))).flatMap fun j=>[ps.getD i 0,ps.getD j 0]::zaJ ps i j
noncomputable def jK(ps:List Int):List (List Int):=(List.range ps.length).flatMap fun i=>[ps.getD i 0]::zc1 ps i
theorem zf7{ps:List Int}(h:ps.Pairwise (· < ·)){i j:Nat}(hij:i<j)(hj:j<ps.length):ps.getD i 0<ps.getD j 0:=by
 have:=fAY.mp h i j (by exact zuZ hij hj) hj hij;rw[fT,fT,fV hj,fV (show i<ps.length by exact zuZ hij hj)];exact this
theorem mem_rowTail{ps:List Int}{i j:Nat}{r:List Int}:r∈zaJ ps i j↔∃k,j<k/\k<ps.length/\r=[ps.getD i 0,ps.getD j 0,ps.getD k 0]:=by
 unfold zaJ;rw[gL];constructor
 .intro hR1;refine zb hR1 fun k hk h=>?_;have:=fA4.mp hk;exact zv k (zuW this) (zqa this) (fG.mp h)
 .intro hR2;refine zk hR2 fun k h1 h2 e2_3=>?_;subst e2_3;exact zc k (fA4.mpr (zuY h1 h2)) (fG.mpr rfl)
theorem mem_rowMid{ps:List Int}{i:Nat}{r:List Int}:r∈zc1 ps i↔∃j,i<j/\j<ps.length/\(r=[ps.getD i 0,ps.getD j 0]\/r∈zaJ ps i j):=by
 unfold zc1;rw[gL];constructor
 .intro hR3;refine zb hR3 fun j hj h=>?_;have:=fA4.mp hj;exact zv j (zuW this) (zqa this) (fF.mp h)
 .intro hR4;refine zk hR4 fun j h1 h2 h=>?_;exact zc j (fA4.mpr (zuY h1 h2)) (fF.mpr h)
theorem mem_rowsL{ps:List Int}{r:List Int}:r∈jK ps↔∃i,i<ps.length/\(r=[ps.getD i 0]\/r∈zc1 ps i):=by
 unfold jK;rw[gL];constructor
 .intro hR5;refine zb hR5 fun i hi h=>?_;exact zc i (pH.mp hi) (fF.mp h)
 .intro hR6;refine zb hR6 fun i h1 h=>?_;exact zc i (pH.mpr h1) (fF.mpr h)
theorem zbl{ps:List Int}{i:Nat}(h:i<ps.length):ps.getD i 0∈ps:=by
 rw[fT,fV h];exact fBK h
theorem zgf{ps:List Int}{x:Int}(h:x∈ps):∃i,i<ps.length/\ps.getD i 0=x:=by
 obtain⟨i,hi,e⟩:=List.getElem_of_mem h;exact zc i hi (by rw[fT,fV hi];exact e)
theorem znd{ps:List Int}(hp:ps.Pairwise (· < ·)){i j:Nat}(hi:i<ps.length)(h:ps.getD i 0<ps.getD j 0):i<j:=by
 rcases fCX i j with h'|h'|h'
 .exact h'
 .rw[h'] at h;exact absurd h (fC0 _)
 .have:=zf7 hp h' hi;exact zCJ h this
theorem q8{ps r:List Int}(hp:ps.Pairwise (· < ·)):r∈jK ps↔Up ps r/\1<=r.length/\r.length<=3:=by
 constructor
 .intro h;refine zb (mem_rowsL.mp h) fun i hi h=>?_
  rcases h with rfl|h
  .exact zq ⟨pJ _ _,fun p hp=>by rw[fG.mp hp];exact zbl hi⟩ (fM 1) (gT rfl)
  refine zk (mem_rowMid.mp h) fun j hij hj h=>?_;have a1:=zf7 hp hij hj
  rcases h with rfl|h
  .refine zq ⟨fZ.mpr ⟨fun x hx=>by rw[fG.mp hx];exact a1,pJ _ _⟩,fun p hp=>?_⟩ (gT rfl) (gT rfl);simp only[fF,gB,or_false] at hp
   rcases hp with rfl|rfl
   .exact zbl hi
   .exact zbl hj
  refine zk (mem_rowTail.mp h) fun k hjk hk e10_3=>?_;subst e10_3;have a2:=zf7 hp hjk hk;refine zq ⟨fZ.mpr ⟨fun x hx=>?_,fZ.mpr ⟨fun x hx=>by rw[fG.mp hx];exact a2,pJ _ _⟩⟩,fun p hp=>?_⟩ (gT rfl) (fM 3)
  .rcases fF.mp hx with rfl|hx
   .exact a1
   .rw[fG.mp hx];exact fC9 a1 a2
  .simp only[fF,gB,or_false] at hp
   rcases hp with rfl|rfl|rfl
   .exact zbl hi
   .exact zbl hj
   .exact zbl hk
 .intro hR7;refine zY hR7 fun h11_0 h3 h4=>?_;obtain⟨h1,h2⟩:=h11_0;cases r with
  | nil=>exact absurd h3 (fBE 0)
  | cons a r=>
  refine zb (zgf (h2 a fB)) fun i hi e1=>?_;subst e1;refine mem_rowsL.mpr (zc i hi ?_);have p1:=fZ.mp h1;cases r with
  | nil=>exact .inl rfl
  | cons b r=>
  refine zb (zgf (h2 b (fA _ fB))) fun j hj e2=>?_;subst e2;refine .inr (mem_rowMid.mpr (zv j (znd hp hi (p1.1 _ fB)) hj ?_));have p2:=fZ.mp p1.2;cases r with
  | nil=>exact .inl rfl
  | cons c r=>
  refine zb (zgf (h2 c (fA _ (fA _ fB)))) fun k hk e3=>?_;subst e3;refine .inr (mem_rowTail.mpr (zv k (znd hp hj (p2.1 _ fB)) hk ?_));cases r with
  | nil=>rfl
  | cons d r=>exact absurd (fAC (fAC (fAC h4))) (fBE _)
noncomputable def zbf(D:Led)(m:Mt):Bool:=(decide (m.1.length=1)||decide (m.2.length=1))&&!decide (m∈D.clos)&&kQ D.es D.fs D.span m
noncomputable def zcr(D:Led)(g:List zd):List Mt:=(jK (ups false g)).flatMap fun l=>((jK (ups true g)).filter fun r=>zbf D (l,r)).map fun r=>(l,r)
theorem zc2{g:List zd}{s:Bool}{na nb:Nat}(hg:GOk g na nb):(ups s g).Pairwise (· < ·):=by
 have p:=js Int.toNat (qS s g);have nd:(ups s g).Nodup:=p.nodup_iff.mpr (zjJ hg.nodup);have pw:=zgL Int.toNat (qS s g);exact(List.Pairwise.and pw nd).imp_of_mem fun {a b} ha hb hab=>by
  have h1:=(hg.inn _ (ups_mem.mp ha)).1;have h2:=(hg.inn _ (ups_mem.mp hb)).1;exact(Int.lt_or_gt_of_ne hab.2).resolve_right fun h=>Nat.not_lt_of_ge hab.1 ((zao h2 h1).mpr h)
theorem zbg{D:Led}{g:List zd}(hg:GOk g D.es.length D.fs.length){m:Mt}:m∈zcr D g↔m∈D.able g:=by
 unfold zcr Led.able win;rw[gL,fP,(js ..).mem_iff];unfold ziD;rw[gL];constructor
 .intro hR8;refine zb hR8 fun l hl h=>?_;refine zb (fO.mp h) fun r hr e19_2=>?_;subst e19_2;obtain⟨hr,ho⟩:=fP.mp hr;refine zY ((q8 (zc2 hg)).mp hl) fun u1 a1 a2=>?_;refine zY ((q8 (zc2 hg)).mp hr) fun u2 b1 b2=>?_;unfold zbf at ho;obtain⟨ho,hf⟩:=gA.mp ho;obtain⟨ho,hc⟩:=gA.mp ho;refine⟨(zc (l.length,r.length) ?_ (mem_bySz.mpr (jb rfl u1 rfl u2 hf))),hc⟩;have:l.length=1\/r.length=1:=by
   rcases fBN.mp ho with h|h
   .exact .inl (G7 h)
   .exact .inr (G7 h)
  unfold szs
  rcases this with e|e
  .rw[e];have:r.length=1\/r.length=2\/r.length=3:=zuO b1 b2
   rcases this with e|e|e<;>rw[e]<;>decide
  .rw[e];have:l.length=1\/l.length=2\/l.length=3:=zuO a1 a2
   rcases this with e|e|e<;>rw[e]<;>decide
 .intro hR9;obtain⟨⟨z,hz,h⟩,hc⟩:=hR9;refine jw (mem_bySz.mp h) fun e1 u1 e2 u2 hf=>?_;have hzl:∀z∈szs,1<=z.1/\z.1<=3/\1<=z.2/\z.2<=3/\(z.1=1\/z.2=1):=by decide
  refine jw (hzl z hz) fun z1 z2 z3 z4 z5=>?_;refine zc m.1 ((q8 (zc2 hg)).mpr (zq u1 (zuS e1 z1) (zp0 e1 z2))) (fO.mpr (zc m.2 (fP.mpr ⟨(q8 (zc2 hg)).mpr (zq u2 (zuS e2 z3) (zp0 e2 z4)),?_⟩) rfl));unfold zbf;have hor:(decide (m.1.length=1)||decide (m.2.length=1))=true:=by
   rw[fBN,decide_eq_true_iff,decide_eq_true_iff];exact zC8 e1 e2 z5
  show (((decide (m.1.length=1)||decide (m.2.length=1))&&!decide (m∈D.clos))&&kQ D.es D.fs D.span m)=true;rw[hor,hf,hc];rfl
theorem znX{D:Led}(I:Inv D){g:List zd}(hg:g∈D.grps):zZ (zcr D g) g=zZ (D.able g) g:=by
 have hgo:=ko I.ok hg (I.few g hg);have hn:=fun m hm=>(zcI I hg m hm).2;exact fAF (zhZ (fun m hm=>(zbg hgo).mp hm) hn) (zhZ (fun m hm=>(zbg hgo).mpr hm) fun m hm=>hn m ((zbg hgo).mp hm))
section
variable{P:Gq}{X:Cx}{n:Nat}{Q:zm}{Z:XP}{U:AHeap}
theorem zdQ{J:Type}(f:J->AV)(xs:List J)(k:Nat):zb4 k (xs.map f)=(xs.zipIdx k).map fun p=>AV.tup [.int (p.2:Nat),f p.1]:=by
 induction xs generalizing k with
 | nil=>rfl
 | cons x xs ih=>rw[gF,zb4,ih,fC5,gF]
theorem ziy(s:Bool)(es:List Ent):(es.zipIdx 0).map (fun p=>zaQ (p.1.1,(s,(p.2:Int))))=(kE s es).map zaQ:=by
 unfold kE;rw[fY];refine fCV fun i=>?_;rw[fAQ,fAQ,List.getElem?_zipIdx]
 by_cases h:i<es.length
 .rw[fV h,fV (by rw[pD];exact h),List.getElem_range];show some _=some (zaQ ((es.getD i (0,0)).1,_));rw[fT,fV h,fBL];rfl
 .rw[fAH (pN.mp h),fAH (by rw[pD];exact pN.mp h)];rfl
theorem zoj{es fs:List Ent}(he:EsOk es)(hf:EsOk fs){r:Bool}(q:mkL r ((inO es fs).map zaQ) Q U):zfE r ((zaT es fs).map zaQ) Q U:=by
 refine zeF zrE zqy zaI (fun x hx y hy=>zey (jL he hf hx).1 (jL he hf hy).1) (.inl fun x hx=>?_) (fun x hx y hy=>zqx (jL he hf hx).1 (jL he hf hy).1) q;refine zb (fO.mp hx) fun t _ e0_2=>?_;subst e0_2;exact jf _ _ rfl
theorem GrpAt.vJ{U':AHeap}{p r q p':Addr}{gs:List (List zd)}{rs:List Addr}(h2:Hold U' rs (gs.map fun g=>g.map zz))(h3:rs.Nodup)(h4:∀a∈rs,U a=none)(hs:Sub U U')(hr:U' r=none)(hq:(U'.set r (.list [])) q=none)(hp:((U'.set r (.list [])).set q (.list [.ref r])) p'=none) :
  GrpAt U (((U'.set r (.list [])).set q (.list [.ref r])).set p' (.list (rs.map .ref++[.ref r]))) p' (gs++[[]]):=by
 have hq':U' q=none/\q≠r:=by
  by_cases e:q=r
  .rw[e,AHeap.wA] at hq;cases hq
  .rw[AHeap.wB _ _ e] at hq;exact⟨hq,e⟩
 have hp':U' p'=none/\p'≠r/\p'≠q:=by
  by_cases e:p'=q
  .rw[e,AHeap.wA] at hp;cases hp
  .rw[AHeap.wB _ _ e] at hp
   by_cases e':p'=r
   .rw[e',AHeap.wA] at hp;cases hp
   .rw[AHeap.wB _ _ e'] at hp;exact zq hp e' e
 have nin:∀{x:Addr},U' x=none->x∉rs:=fun hx h=>h2.some h hx;have hf:∀{x:Addr},U' x=none->U x=none:=fun hx=>hs.none hx;refine⟨(jN (rs++[r]) ?_ ?_ ?_ ?_),fun a o e=>?_⟩
 .rw[AHeap.wA,fQ];rfl
 .rw[fQ];refine Hold.snoc ?_ (((h2.set (nin hr)).set (nin hq'.1)).set (nin hp'.1));rw[AHeap.wB _ _ hp'.2.1.symm,AHeap.wB _ _ hq'.2.symm];exact AHeap.wA ..
 .refine fU.mpr ⟨fun h=>?_,gX.mpr (zq h3 (fU.mpr ⟨gB,.nil⟩) (fun a ha b hb e=>?_))⟩
  .rcases fR.mp h with h|h
   .exact nin hp'.1 h
   .exact hp'.2.1 (fG.mp h)
  .rw[fG.mp hb] at e;exact nin hr (e▸ha)
 .intro a ha
  rcases fF.mp ha with rfl|ha
  .exact hf hp'.1
  .rcases fR.mp ha with ha|ha
   .exact h4 _ ha
   .rw[fG.mp ha];exact hf hr
 .have:=hs a o e;rw[AHeap.wB _ _ (by rintro rfl;rw[hp'.1] at this;cases this),AHeap.wB _ _ (by rintro rfl;rw[hq'.1] at this;cases this),AHeap.wB _ _ (by rintro rfl;rw[hr] at this;cases this)];exact this
theorem GrpAt.last{U':AHeap}{p:Addr}{gs:List (List zd)}(h:GrpAt U U' p gs)(hne:gs≠[]):∃xs r g,U' p=some (.list (xs++[.ref r]))/\U' r=some (.list (g.map zz))/\g∈gs/\∀m,GrpAt U (U'.set r (.list ((g++[m]).map zz))) p (j7 gs m):=by
 obtain⟨⟨rs,h1,h2,h3,h4⟩,hs⟩:=h;obtain⟨g0,g,rfl⟩:∃g0 g,gs=g0++[g]:=(jf _ _ ((pY hne).symm))
 rw[fQ] at h2;refine zp h2.unsnoc fun rs' r e2_2 hr1 hr2=>?_;subst e2_2;have nd:=fU.mp h3;have hpr:r≠p:=fun e=>nd.1 (by rw[e];simp);have hrr:r∉rs':=fun h=>(gX.mp nd.2).2.2 r h r fB rfl;rw[fQ] at h1;refine jO (rs'.map .ref) r g h1 hr2 (gK _ fB) (fun m=>?_);rw[ju];refine⟨(jN (rs'++[r]) ?_ ?_ h3 h4),fun a o e=>?_⟩
 .rw[AHeap.wB _ _ (Ne.symm hpr),fQ];exact h1
 .have e:(g0++[g++[m]]).map (fun g=>g.map zz)=g0.map (fun g=>g.map zz)++[(g++[m]).map zz]:=fQ ..;rw[e];exact(hr1.set hrr).snoc (AHeap.wA ..)
 .rw[AHeap.wB _ _ (by rintro rfl;rw[h4 a (by simp)] at e;cases e)];exact hs a o e
theorem zm2{span:Int}(ts:List Tr)(t:Tr)(b:List (List zd)×Option Int):((ts++[t]).foldl (j3 span) b).2=some t.1:=by rw[fCY];rfl
theorem zeI{J:Type}{l:List J}{k:Nat}{x:J}(h:l[k]? = some x):l.take (k+1)=l.take k++[x]:=by rw[fB2,h];rfl
end
section
variable{P:Gq}{X:Cx}{n:Nat}{Q:zm}{Z:XP}{U:AHeap}
theorem zbD(G:Gd X (hK P))(hd:n<580){od ob ok:Addr}{F:List (Nat×AV)}{es fs:List Ent}{span:Int}(h0:U od=some (.idict F))(f0:kP F 0=some (.ref ob))(f1:kP F 1=some (.ref ok))(hb:U ob=some (.list (es.map zD)))(hk:U ok=some (.list (fs.map zD)))(he:EsOk es)(hf:EsOk fs)
  (q:Q (.lst ((grps es fs span).map gAV)) U):CallOk X 261 ⟨n,false⟩ [.ref od,.int span] Q Z U:=by
 refine zgj G (gI hd (by decide)) fun L=>?_;have l1:=he.len;have l2:=hf.len;refine ji h0 (ze f0 ?_);refine ze (zE hb) ?_;rw[zdQ];refine zN (fun p=>zaQ (p.1.1,(false,(p.2:Int)))) (fun _=>rfl) (fun _ _=>rfl) (fun p hp R q=>q) hb (by rw[fBU];exact ze2 l1) ?_;refine ji h0 (ze f1 ?_);refine ze (zE hk) ?_;rw[zdQ];refine zN (fun p=>zaQ (p.1.1,(true,(p.2:Int)))) (fun _=>rfl) (fun _ _=>rfl) (fun p hp R q=>q) hk (by rw[fBU];exact ze2 l2) ?_;refine zG (by rw[fC,fC,fBU,fBU];exact zrZ l1 l2) ?_;rw[ziy,ziy,<-fQ];refine zoj he hf ?_;intro p hp;have hlen:=zaw es fs;have hgr:(inO es fs).foldl (j3 span) ([],none)=((grps es fs span),((inO es fs).foldl (j3 span) ([],none)).2):=rfl;have hok:∀t∈inO es fs,t∈zaT es fs:=fun t ht=>inO_mem.mp ht;generalize inO es fs=T at hlen hgr hok ⊢
 conv=>whnf
 rw[fC];refine zeo (by exact zui l1 l2 hlen) ?_;refine zC (g:=fun i:Nat=>AV.int i) (fun xs b l U'=>∃k p',xs=List.range' k (T.length-k)/\k<=T.length/\b=(T.take k).foldl (j3 span) ([],none)/\(k=0\/b.1≠[])/\GrpAt U U' p' b.1/\(b.1.length<=k/\∀g∈b.1,g.length<=k)/\∃u,l=[some (.ref od),some (.int span),some (.lst (T.map zaQ)),some (.ref p'),u]) (fun b i=>j3 span b (T.getD i (0,(false,0)))) ?_ (b:=([],none)) ?_ ?_
 .intro i xs b l U' K S_ hR1;refine zb2 hR1 fun k p' hxs hkT hbk hne hG hle u e0_9=>?_;subst e0_9;intro hK;obtain⟨rfl,hxs',hlt⟩:i=k/\xs=List.range' (k+1) (T.length-(k+1))/\k<T.length:=by
   cases hm:T.length-k with
   | zero=>rw[hm] at hxs;cases hxs
   | succ j=>
    rw[hm,List.range'_succ] at hxs;cases hxs;exact zq rfl (by rw[show T.length-(i+1)=j by exact zt5 hm]) (by exact zt6 hm)
  have hti:=jo (d:=((0,(false,0)):Tr)) hlt;refine zc _ rfl ?_;have fin:∀(σ2:AHeap) (p2:Addr) (gs:List (List zd)),GrpAt U σ2 p2 gs->gs≠[]->gs=(if kL span b.2 (T.getD i (0,(false,0))).1 then b.1++[[]] else b.1)->(gs.length<=i+1/\∀g∈gs,g.length<=i)->
    (A.cons (A.ex (A.meth zT (A.idx (A.loc 3) (A.neg (A.k (.int 1)))) [(A.tup [(A.idx (A.idx (A.loc 2) (A.loc 4)) (A.k (.int 1))),(A.idx (A.idx (A.loc 2) (A.loc 4)) (A.k (.int 2)))])])) A.nil) ⟨n+1,false⟩ [some (.ref od),some (.int span),some (.lst (T.map zaQ)),some (.ref p2),some (.int i)]
     (fun f l'' U'=>match f with|.next=>True/\K l'' U'|.ret v=>Ends Q v U') (fun _ _ _=>False) σ2:=by
   intro σ2 p2 gs hG2 hne2 egs hle2;refine zcM (hG2.last hne2) fun xs0 r g k1 k2 k3 k4=>?_;refine jq k1 (ze (zfN _ _) ?_);refine zo k2 ?_;refine ze (qz hti) ?_;refine ze (qz hti) ?_;refine zo k2 ?_;have:=hle2.2 g k3;refine zG (by rw[fC];exact zDi l1 l2 hlen hlt this) ?_;have hG3:=k4 (T.getD i (0,(false,0))).2;rw[fQ] at hG3;refine⟨trivial,hK _ _ ⟨i+1,p2,hxs',hlt,?_,.inr (by unfold j3;dsimp only;rw[<-egs];exact zmu hne2 _),?_,?_,_,rfl⟩⟩
   .rw[zeI hti,fCY,<-hbk];rfl
   .unfold j3;dsimp only;rw[<-egs];exact hG3
   .unfold j3;dsimp only;rw[<-egs];obtain⟨g0,g',rfl⟩:∃g0 g,gs=g0++[g]:=(jf _ _ ((pY hne2).symm))
    rw[ju];refine⟨by have:=hle2.1;rw[fE,fS] at this ⊢;exact this,fun z hz=>?_⟩
    rcases fR.mp hz with h|h
    .have:=hle2.2 z (gR _ h);exact zuT this
    .have:=hle2.2 g' (by simp);rw[fG.mp h,fE,fS];exact zsk this
  have opn:kL span b.2 (T.getD i (0,(false,0))).1=true->∀r,U' r=none->∀q',(U'.set r (.list [])) q'=none->zw (jh ((U'.set r (.list [])).set q' (.list [.ref r])) (.ref p')) fun xs=>zw (jh ((U'.set r (.list [])).set q' (.list [.ref r])) (.ref q')) fun ys=>zeX (xs.length+ys.length) (∀p2,((U'.set r (.list [])).set q' (.list [.ref r])) p2=none->
    (A.cons (A.ex (A.meth zT (A.idx (A.loc 3) (A.neg (A.k (.int 1)))) [(A.tup [(A.idx (A.idx (A.loc 2) (A.loc 4)) (A.k (.int 1))),(A.idx (A.idx (A.loc 2) (A.loc 4)) (A.k (.int 2)))])])) A.nil) ⟨n+1,false⟩ [some (.ref od),some (.int span),some (.lst (T.map zaQ)),some (.ref p2),some (.int i)]
     (fun f l'' U'=>match f with|.next=>True/\K l'' U'|.ret v=>Ends Q v U') (fun _ _ _=>False) (((U'.set r (.list [])).set q' (.list [.ref r])).set p2 (.list (xs++ys)))):=by
   intro ho r hr q' hq';obtain⟨⟨rs,h1,h2,h3,h4⟩,hs⟩:=hG;have e1:((U'.set r (.list [])).set q' (.list [.ref r])) p'=some (.list (rs.map .ref)):=zu (zu h1 hr) hq';refine ze (zE e1) (ze (zE (AHeap.wA ..)) (zG ?_ fun p2 hp2=>?_))
   .rw[fC,zcb h2,fC,fS];exact fN (fAK hle.1) (by exact zDK l1 l2 hlen hlt)
   .refine fin _ p2 (b.1++[[]]) (GrpAt.vJ (p:=p') h2 (fU.mp h3).2 (fun a ha=>h4 a (fA _ ha)) hs hr hq' hp2) (by simp) (by rw[if_pos ho]) ⟨by rw[fE,fS];exact fAK hle.1,fun g hg=>?_⟩
    rcases fR.mp hg with h|h
    .exact hle.2 g h
    .rw[fG.mp h];exact fW _
  cases i with
  | zero=>
   have ho:kL span b.2 (T.getD 0 (0,(false,0))).1=true:=by rw[hbk];rfl
   intro r hr q' hq';exact opn ho r hr q' hq'
  | succ i=>
   have hti':=jo (d:=((0,(false,0)):Tr)) (Nat.lt_of_succ_lt hlt);have hb2:b.2=some (T.getD i (0,(false,0))).1:=by rw[hbk,zeI hti',zm2]
   refine ze (qz hti) ?_
   conv=>whnf
   rw[show (((i+1:Nat):Int)-1)=(i:Int) by exact zrQ];refine ze (qz hti') ?_;refine kh (fun h=>?_) fun h=>?_
   .have ho:kL span b.2 (T.getD (i+1) (0,(false,0))).1=true:=by
     rw[hb2];unfold kL;refine G6 ?_;exact Int.add_lt_of_lt_sub_left (G7 h)
    intro r hr q' hq';exact opn ho r hr q' hq'
   .have ho:kL span b.2 (T.getD (i+1) (0,(false,0))).1=false:=by
     rw[hb2];unfold kL;refine G5 ?_;exact fun hc=>of_decide_eq_false h (Int.lt_sub_left_of_add_lt hc)
    refine fin U' p' b.1 hG (hne.resolve_left zCr) (by rw[ho];rfl) ⟨pK hle.1,hle.2⟩
 .intro l U' hR2;refine zb2 hR2 fun k p' hxs hkT hbk hne hG hle u e3_9=>?_;subst e3_9;have hk':k=T.length:=by
   cases hm:T.length-k with
   | zero=>exact zCC hkT hm
   | succ j=>rw[hm] at hxs;cases hxs
  rw[hk',List.take_length,hgr] at hbk;rw[hbk] at hG;obtain⟨⟨rs,h1,h2,h3,h4⟩,hs⟩:=hG;refine Ends.lists hs h1 h2 h3 h4 ?_;rw[fY];exact q
 .refine⟨0,p,by rw[List.range_eq_range'];rfl,fW _,rfl,.inl rfl,⟨⟨[],AHeap.wA ..,.nil,by simp,fun a ha=>by rw[fG.mp ha];exact hp⟩,jF hp⟩,⟨fM _,fun g hg=>nomatch hg⟩,_,rfl⟩
end
section
variable{P:Gq}{X:Cx}{n:Nat}{Q:zm}{Z:XP}{U:AHeap}
theorem znV{a b:Nat}{K:List AV->Prop}(ha:a<=1000000)(hb:b<=1000000)(h:K ((List.range' a (b-a)).map fun i:Nat=>AV.int i)):onB (zex a b) (K (zib a b)):=by
 refine qw ?_ ?_
 .unfold zex;rw[fCQ,fCQ,gA];exact⟨fAX (by exact zrO ha),fAX (zrO hb)⟩
 .have e:zib a b=(List.range' a (b-a)).map fun i:Nat=>AV.int i:=by
   unfold zib;rw[zko,List.range'_eq_map_range,fY,show ((b:Int)-(a:Int)).toNat=b-a by exact zCG];exact pG fun i _=>congrArg AV.int (by show (a:Int)+i=((a+i:Nat):Int);exact zCF)
  rw[e];exact h
def zn6(U:AHeap)(p:Addr)(L:Loc->Prop)(c N:Nat)(ps:List Int)(xs:List Nat)(b:List (List Int))(l:Loc)(U':AHeap):Prop:=U'=U.set p (.list (b.map qe))/\L l/\b.length+c*xs.length<=N/\∀i∈xs,i<ps.length
def zrt(ps:List Int)(p:Addr)(l:Loc):Prop:=∃u v w,l=[some (.lst (ps.map .int)),some (.ref p),u,v,w]
def zru(ps:List Int)(p:Addr)(i:Nat)(l:Loc):Prop:=∃v w,l=[some (.lst (ps.map .int)),some (.ref p),some (.int i),v,w]
def zrv(ps:List Int)(p:Addr)(i j:Nat)(l:Loc):Prop:=∃w,l=[some (.lst (ps.map .int)),some (.ref p),some (.int i),some (.int j),w]
theorem zba(G:Gd X (hK P))(hd:n<590){ps:List Int}(hl:ps.length<=8)(q:Q (.lst ((jK ps).map qe)) U):CallOk X 268 ⟨n,false⟩ [.lst (ps.map .int)] Q Z U:=by
 refine zeS G (gI hd (by decide)) fun L=>?_;intro p hp;have at_:∀{i:Nat},i<ps.length->jQ (ps.map AV.int) (i:Int)=some (.int (ps.getD i 0)):=fun h=>qz (jo h)
 conv=>whnf
 rw[fC];refine zeo (ze3 hl) ?_;refine zC (g:=fun i:Nat=>AV.int i) (zn6 U p (zrt ps p) 73 584 ps) (fun b i=>b++([ps.getD i 0]::zc1 ps i)) ?_ (b:=[]) ?_ (zn rfl (z8 _ _ _ rfl) (by rw[pD,gJ];exact zDz hl) (fun i hi=>pH.mp hi))
 .intro i xs b l U' K S_ hR1;obtain⟨rfl,⟨u,v,w,rfl⟩,hb,hx⟩:=hR1;intro hK;rw[fH] at hb;have hi:=hx i fB;refine zc _ rfl ?_;refine zo (AHeap.wA ..) ?_;refine ze (at_ hi) ?_;refine zo (AHeap.wA ..) ?_;refine zG (by rw[fC];exact zDC hb) ?_
  conv=>whnf
  rw[fC,zaK];refine znV (a:=i+1) (b:=ps.length) (zuV hl hi) (ze3 hl) ?_;refine zC (g:=fun j:Nat=>AV.int j) (zn6 U p (zru ps p i) 9 (b.length+73) ps) (fun c j=>c++([ps.getD i 0,ps.getD j 0]::zaJ ps i j)) ?_ (b:=b++[[ps.getD i 0]]) ?_ (zn (by rw[fQ];rfl) (jf _ _ rfl) (by rw[fBV,fE,fS];exact zDH hl) (fun j hj=>by have:=fA4.mp hj;exact zqa this))
  .intro j ys c l U' K' S_ hR2;obtain⟨rfl,⟨v,w,rfl⟩,hc,hy⟩:=hR2;intro hK';rw[fH] at hc;have hj:=hy j fB;refine zc _ rfl ?_;refine zo (AHeap.wA ..) ?_;refine ze (at_ hi) ?_;refine ze (at_ hj) ?_;refine zo (AHeap.wA ..) ?_;refine zG (by rw[fC];exact zDI hb hc) ?_
   conv=>whnf
   rw[fC,zaK];refine znV (a:=j+1) (b:=ps.length) (zuV hl hj) (ze3 hl) ?_;refine zC (g:=fun k:Nat=>AV.int k) (zn6 U p (zrv ps p i j) 1 (c.length+9) ps) (fun d k=>d++[[ps.getD i 0,ps.getD j 0,ps.getD k 0]]) ?_ (b:=c++[[ps.getD i 0,ps.getD j 0]]) ?_ (zn (by rw[fQ];rfl) ⟨_,rfl⟩ (by rw[fBV,fE,fS,fDH];exact zC2 hl) (fun k hk=>by have:=fA4.mp hk;exact zqa this))
   .intro k zs d l U' K'' S_ hR3;obtain⟨rfl,⟨w,rfl⟩,hdl,hz⟩:=hR3;intro hK'';rw[fH,fDH] at hdl;have hk:=hz k fB;refine zc _ rfl ?_;refine zo (AHeap.wA ..) ?_;refine ze (at_ hi) ?_;refine ze (at_ hj) ?_;refine ze (at_ hk) ?_;refine zo (AHeap.wA ..) ?_;refine zG (by rw[fC];exact zDL hb hc hdl) ?_
    conv=>whnf
    rw[zaK];exact⟨trivial,hK'' _ _ (zn (by rw[fQ];rfl) ⟨_,rfl⟩ (by rw[fE,fS,fDH];exact zCR hdl) (fun k hk=>hz k (fA _ hk)))⟩
   .intro l U' hR4;obtain⟨rfl,⟨w,rfl⟩,hdl,_⟩:=hR4;rw[jZ] at hdl ⊢;have e:c++[[ps.getD i 0,ps.getD j 0]]++(List.range' (j+1) (ps.length-(j+1))).flatMap (fun k=>[[ps.getD i 0,ps.getD j 0,ps.getD k 0]])=c++([ps.getD i 0,ps.getD j 0]::zaJ ps i j):=by rw[gE];rfl
    rw[e] at hdl ⊢;exact⟨trivial,hK' _ _ (zn rfl (jf _ _ rfl) (by rw[gJ] at hdl;exact zDJ hc hdl) (fun j hj=>hy j (fA _ hj)))⟩
  .intro l U' hR5;obtain⟨rfl,⟨v,w,rfl⟩,hc,_⟩:=hR5;rw[jZ] at hc ⊢;have e:b++[[ps.getD i 0]]++(List.range' (i+1) (ps.length-(i+1))).flatMap (fun j=>[ps.getD i 0,ps.getD j 0]::zaJ ps i j)=b++([ps.getD i 0]::zc1 ps i):=by rw[gE];rfl
   rw[e] at hc ⊢;exact⟨trivial,hK _ _ (zn rfl (z8 _ _ _ rfl) (by rw[gJ] at hc;exact zDG hb hc) (fun j hj=>hx j (fA _ hj)))⟩
 .intro l U' hR6;obtain⟨rfl,⟨u,v,w,rfl⟩,_,_⟩:=hR6;rw[jZ,pX];exact Ends.vB hp q
noncomputable def qR(m:Mt):AV:=.lst ((zf m).map zz)
theorem zbq{ps:List Int}(h:ps.length<=8):(jK ps).length<=584:=by
 refine fN (zbk (c:=73) fun i _=>?_) (by rw[pD];exact gP 73 h);rw[fH];refine fAK (fN (zbk (c:=9) fun j _=>?_) (by rw[fBV];exact gP 9 (fN (fDJ ..) h)));rw[fH];refine fAK (fN (zbk (c:=1) fun k _=>fM 1) (by rw[fBV,Nat.mul_one];exact fN (fDJ ..) h))
theorem zsI{x y z:AE}{s t r:AS}{d:Dp}{l:Loc}{S:jt}{SZ:Addr->Loc->AHeap->Prop}{b1 b2:Bool}(hx:∀(R:zm) (Z:XP),R (.bool b1) U->x d l R Z U)(hy:∀(R:zm) (Z:XP),R (.bool b2) U->y d l R Z U)(q:A.cons (A.if_ (zcJ [A.k (.bool (b1||b2)),z]) s t) r d l S SZ U):A.cons (A.if_ (zcJ [orL [x,y],z]) s t) r d l S SZ U:=by
 refine hx _ _ ?_;cases b1 with
 | true=>exact q
 | false=>refine hy _ _ ?_;cases b2<;>exact q
theorem zoG(G:Gd X (hK P))(hd:n<570){od ob ok oc:Addr}{F:List (Nat×AV)}{D:Led}{g:List zd}(h0:U od=some (.idict F))(f0:kP F 0=some (.ref ob))(f1:kP F 1=some (.ref ok))(f2:kP F 18=some (.ref oc))(hb:U ob=some (.list (D.es.map zD)))(hk:U ok=some (.list (D.fs.map zD)))(hc:U oc=some (.list (D.clos.map zH)))(ho:LOk D)(hg:GOk g D.es.length D.fs.length)
  (q:Q (.lst ((zcr D g).map qR)) U):CallOk X 273 ⟨n,false⟩ [.ref od,.int D.span,gAV g] Q Z U:=by
 refine zqV G (gI hd (by decide)) fun L=>?_;have lg:=hg.few;refine zO (fun m:zd=>m.1==false) (fun m=>.int m.2) (fun _=>rfl) (fun _ _=>rfl) (fun m hm R q=>?_) (fun m hm _ R q=>q) trivial (ze3 lg) ?_
 .obtain⟨b,i⟩:=m;cases b<;>exact q
 have e1:(g.filter fun m=>m.1==false).map (fun m:zd=>AV.int m.2)=(qS false g).map .int:=by unfold qS;rw[fY];rfl
 rw[e1];refine zkJ (fun p hp=>(hg.inn _ (side_mem.mp hp)).1) ?_;have l1:=kO (s:=false) hg.few;have l2:=kO (s:=true) hg.few;refine zba (G.push L) (zml hd) l1 ?_;refine zO (fun m:zd=>m.1==true) (fun m=>.int m.2) (fun _=>rfl) (fun _ _=>rfl) (fun m hm R q=>?_) (fun m hm _ R q=>q) trivial (ze3 lg) ?_
 .obtain⟨b,i⟩:=m;cases b<;>exact q
 have e2:(g.filter fun m=>m.1==true).map (fun m:zd=>AV.int m.2)=(qS true g).map .int:=by unfold qS;rw[fY];rfl
 rw[e2];refine zkJ (fun p hp=>(hg.inn _ (side_mem.mp hp)).1) ?_;refine zba (G.push L) (zml hd) l2 ?_;intro p hp;have r1:=zbq l1;have r2:=zbq l2;have m1:∀{l:List Int},l∈jK (ups false g)->(1<=l.length/\l.length<=3)/\∀p∈l,0<=p/\p<(D.es.length:Int):=fun hl=>by
  obtain⟨u,a,b⟩:=(q8 (zc2 hg)).mp hl;exact⟨⟨a,b⟩,fun p hp=>hg.inn _ (ups_mem.mp (u.2 p hp))⟩
 have m2:∀{l:List Int},l∈jK (ups true g)->(1<=l.length/\l.length<=3)/\∀p∈l,0<=p/\p<(D.fs.length:Int):=fun hl=>by
  obtain⟨u,a,b⟩:=(q8 (zc2 hg)).mp hl;exact⟨⟨a,b⟩,fun p hp=>hg.inn _ (ups_mem.mp (u.2 p hp))⟩
 refine zC (g:=qe) (fun xs b l U'=>U'=U.set p (.list (b.map qR))/\(∃u v w z,l=[some (.ref od),some (.int D.span),some (gAV g),some (.lst ((jK (ups false g)).map qe)),some (.lst ((jK (ups true g)).map qe)),some (.ref p),u,v,w,z])/\b.length+584*xs.length<=341056/\∀r∈xs,r∈jK (ups false g)) (fun b l=>b++((jK (ups true g)).filter fun r=>zbf D (l,r)).map fun r=>(l,r)) ?_ (b:=[]) ?_ (zn rfl (zbn _ _ _ _ rfl) (by rw[gJ,fBL];exact Nat.mul_le_mul_left 584 r1) (fun r hr=>hr))
 .intro lr xs b l U' K S_ hR7;obtain⟨rfl,⟨u,v,w,z,rfl⟩,hle,hx⟩:=hR7;intro hK;rw[fH] at hle;obtain⟨⟨a1,a2⟩,a3⟩:=m1 (hx lr fB);refine zc _ rfl ?_;refine zC (g:=qe) (fun ys c l U'=>U'=U.set p (.list (c.map qR))/\(∃v w z,l=[some (.ref od),some (.int D.span),some (gAV g),some (.lst ((jK (ups false g)).map qe)),some (.lst ((jK (ups true g)).map qe)),some (.ref p),some (qe lr),v,w,z])/\c.length+ys.length<=b.length+584/\∀r∈ys,r∈jK (ups true g)) (fun c r=>c++if zbf D (lr,r) then [(lr,r)] else []) ?_ (b:=b) ?_ (zn rfl (z8 _ _ _ rfl) (fBO r2 _) (fun r hr=>hr))
  .intro rr ys c l U' K' S_ hR8;obtain⟨rfl,⟨v,w,z,rfl⟩,hle',hy⟩:=hR8;intro hK';rw[fH] at hle';obtain⟨⟨b1,b2⟩,b3⟩:=m2 (hy rr fB);have k0:(U.set p (.list (c.map qR))) od=some (.idict F):=zu h0 hp;have kb:(U.set p (.list (c.map qR))) ob=some (.list (D.es.map zD)):=zu hb hp;have kk:(U.set p (.list (c.map qR))) ok=some (.list (D.fs.map zD)):=zu hk hp;have kc:(U.set p (.list (c.map qR))) oc=some (.list (D.clos.map zH)):=zu hc hp;have kp:(U.set p (.list (c.map qR))) p=some (.list (c.map qR)):=AHeap.wA ..;have no:∀w z,zbf D (lr,rr)=false->True/\K' [some (.ref od),some (.int D.span),some (gAV g),some (.lst ((jK (ups false g)).map qe)),some (.lst ((jK (ups true g)).map qe)),some (.ref p),some (qe lr),some (qe rr),w,z] (U.set p (.list (c.map qR))):=fun w z e=>by
    rw[e,if_neg pL,gO] at hK';exact⟨trivial,hK' _ _ (zn rfl (z8 _ _ _ rfl) (zCQ hle') (fun r hr=>hy r (fA _ hr)))⟩
   have yes:zbf D (lr,rr)=true->∀w z,K' [some (.ref od),some (.int D.span),some (gAV g),some (.lst ((jK (ups false g)).map qe)),some (.lst ((jK (ups true g)).map qe)),some (.ref p),some (qe lr),some (qe rr),w,z] (U.set p (.list ((c.map qR)++[qR (lr,rr)]))):=fun e w z=>by
    rw[e,if_pos rfl,fQ] at hK';exact hK' _ _ (zn rfl (z8 _ _ _ rfl) (by rw[fE,fS];exact zCP hle') (fun r hr=>hy r (fA _ hr)))
   have eo:zbf D (lr,rr)=((decide (lr.length=1)||decide (rr.length=1))&&!decide ((lr,rr)∈D.clos)&&kQ D.es D.fs D.span (lr,rr)):=rfl;refine zc _ rfl ?_;generalize hσ:U.set p (.list (c.map qR))=σ2 at k0 kb kk kc kp no ⊢;refine zsI (b1:=decide (lr.length=1)) (b2:=decide (rr.length=1)) (fun R Z q=>?_) (fun R Z q=>?_) ?_
   .have e:decide (((lr.map AV.int).length:Int)=1)=decide (lr.length=1):=decide_eq_decide.mpr (by rw[fC];exact⟨Int.ofNat.inj,congrArg Int.ofNat⟩);rw[<-e] at q;exact q
   .have e:decide (((rr.map AV.int).length:Int)=1)=decide (rr.length=1):=decide_eq_decide.mpr (by rw[fC];exact⟨Int.ofNat.inj,congrArg Int.ofNat⟩);rw[<-e] at q;exact q
   cases hor:decide (lr.length=1)||decide (rr.length=1) with
   | false=>exact no _ _ (by rw[eo,hor];rfl)
   | true=>
   refine ji k0 (ze f2 ?_);refine zqQ (m:=(lr,rr)) kc ?_;cases hcl:decide ((lr,rr)∈D.clos) with
   | true=>exact no _ _ (by rw[eo,hor,hcl];rfl)
   | false=>
   have ae:∀p∈lr,∀{K:AV->AHeap->Prop},K (.tup [.int (jR D.es p),.int (zF D.es p)]) σ2->zcO od (.str 0) (fun v U'=>zoZ v (.int p) K U') σ2:=fun p hp K q=>ji k0 (ze f0 (jq kb (ze (zfM (a3 p hp).1 (a3 p hp).2) q)));have af:∀p∈rr,∀{K:AV->AHeap->Prop},K (.tup [.int (jR D.fs p),.int (zF D.fs p)]) σ2->zcO od (.str 1) (fun v U'=>zoZ v (.int p) K U') σ2:=fun p hp K q=>ji k0 (ze f1 (jq kk (ze (zfM (b3 p hp).1 (b3 p hp).2) q)));refine zN (g:=AV.int) (fun p=>.int (jR D.es p)) (fun _=>rfl) (fun _ _=>rfl) (fun p hp R q=>ae p hp q) trivial (zgQ a2) ?_;refine zN (g:=AV.int) (fun p=>.int (jR D.fs p)) (fun _=>rfl) (fun _ _=>rfl) (fun p hp R q=>af p hp q) trivial (zgQ b2) ?_;refine zG (by rw[fC,fC];exact zr0 a2 b2) ?_;refine zN (g:=AV.int) (fun p=>.int (zF D.es p)) (fun _=>rfl) (fun _ _=>rfl) (fun p hp R q=>ae p hp q) trivial (zgQ a2) ?_;refine zdz (ns:=lr.map (zF D.es)) (by rw[fY];rfl) (zbv ho.es (zmm a2)) ?_;refine zN (g:=AV.int) (fun p=>.int (zF D.fs p)) (fun _=>rfl) (fun _ _=>rfl) (fun p hp R q=>af p hp q) trivial (zgQ b2) ?_;refine zdz (ns:=rr.map (zF D.fs)) (by rw[fY];rfl) (zbv ho.fs (zmm b2)) ?_;have efit:kQ D.es D.fs D.span (lr,rr)=(decide ((lr.map (zF D.es)).sum=(rr.map (zF D.fs)).sum)&&zdy (ki D.es D.fs (lr,rr)) D.span):=rfl;rw[efit,hor,hcl] at eo;refine kh (fun hs=>?_) fun hs=>?_
   .have ed:lr.map (fun p=>AV.int (jR D.es p))++rr.map (fun p=>AV.int (jR D.fs p))=(ki D.es D.fs (lr,rr)).map .int:=by
     unfold ki;rw[fQ,fY,fY];rfl
    have ne:ki D.es D.fs (lr,rr)≠[]:=fun e=>by
     have:=congrArg List.length e;unfold ki at this;rw[fE,fC,fC,gJ] at this
     lia
    rw[ed];refine zkw ne fun M hM1 hM2=>?_;refine zgr ne fun M' hM3 hM4=>?_;rw[hs,<-zfG hM1 hM2 hM3 hM4] at eo;refine kh (fun hs2=>?_) fun hs2=>?_
    .refine zo kp ?_;refine zN (g:=AV.int) (fun k=>zz (false,k)) (fun _=>rfl) (fun _ _=>rfl) (fun x _ R q=>q) trivial (zgQ a2) ?_;refine zN (g:=AV.int) (fun k=>zz (true,k)) (fun _=>rfl) (fun _ _=>rfl) (fun x _ R q=>q) trivial (zgQ b2) ?_;refine zG (by rw[fC,fC];exact zr0 a2 b2) ?_;refine zo kp ?_;refine zG (by rw[fC];lia) ?_;have em:lr.map (fun k=>zz (false,k))++rr.map (fun k=>zz (true,k))=(zf (lr,rr)).map zz:=by
      unfold zf;rw[fQ,fY,fY];rfl
     rw[em,<-hσ]
     conv=>whnf
     rw[zaK];exact⟨trivial,yes (by rw[eo,hs2];rfl) _ _⟩
    .exact no _ _ (by rw[eo,hs2];rfl)
   .exact no _ _ (by rw[eo,hs];rfl)
  .intro l U' hR9;obtain⟨rfl,⟨v,w,z,rfl⟩,hle',_⟩:=hR9;have e:(jK (ups true g)).flatMap (fun r=>if zbf D (lr,r) then [(lr,r)] else [])=((jK (ups true g)).filter fun r=>zbf D (lr,r)).map fun r=>(lr,r):=by
    generalize jK (ups true g)=rs
    induction rs with
    | nil=>rfl
    | cons r rs ih=>
     rw[gQ,fAL,ih];cases zbf D (lr,r)<;>rfl
   rw[jZ,e] at hle' ⊢;exact⟨trivial,hK _ _ (zn rfl (zbn _ _ _ _ rfl) (by rw[gJ] at hle';exact zDF hle hle') (fun r hr=>hx r (fA _ hr)))⟩
 .intro l U' hR10;obtain⟨rfl,⟨u,v,w,z,rfl⟩,_,_⟩:=hR10;rw[jZ,pX];exact Ends.vB hp q
end
section
variable{P:Gq}{X:Cx}{n:Nat}{Q:zm}{Z:XP}{U:AHeap}
theorem zmS{xs:List AV}{k:Nat}(h:k<xs.length):cut xs (some ((k:Int)+1)) none=xs.drop (k+1):=by
 unfold cut;have e:clipAt xs.length ((k:Int)+1)=k+1:=(clipAt_in zCo (zCy h)).trans zCp;show (xs.drop (clipAt xs.length ((k:Int)+1))).take (xs.length-clipAt xs.length ((k:Int)+1))=_;rw[e];exact fAT (by rw[fBJ];exact fM _)
theorem zoF{J:Type}{ms:List J}{k:Nat}{x:J×Nat}{xs:List (J×Nat)}(h:x::xs=(ms.drop k).zipIdx k):ms[k]? = some x.1/\x.2=k/\xs=(ms.drop (k+1)).zipIdx (k+1)/\ms.drop k=x.1::ms.drop (k+1):=by
 cases hm:ms.drop k with
 | nil=>rw[hm] at h;cases h
 | cons m t=>
  rw[hm,fC5] at h;have h1:ms[k]? = some m:=by rw[<-List.head?_drop,hm];rfl
  have h2:t=ms.drop (k+1):=by rw[<-List.tail_drop,hm];rfl
  cases h;exact zn h1 rfl (by rw[h2]) (by rw[h2])
theorem zrs{r:List zd}{m:Mt}(hn:zf m≠[])(hf:∀y∈zf m,y∈r):(qW r m).length<r.length:=by
 obtain⟨y,hy⟩:=fAZ _ hn;refine Nat.lt_of_le_of_ne (gU ..) fun e=>?_;have:=List.length_filter_eq_length_iff.mp e y (hf y hy);simp[hy] at this
theorem znI(a b:Nat):max (a:Int) (b:Int)=((max a b:Nat):Int):=by exact zDD
theorem zpm:∀(N:Nat) {X:Cx} (G:Gd X (hK P)) {n:Nat} {Q:zm} {Z:XP} {U:AHeap} {ms:List Mt} {r:List zd},ms.length<=N->n+r.length<580->(∀m∈ms,zf m≠[]/\(zf m).length<=6)->ms.length<=400000->Q (.int (zZ ms r)) U->
  CallOk X 278 ⟨n,false⟩ [.lst (r.map zz),.lst (ms.map qR)] Q Z U:=by
 intro N
 induction N using Nat.strongRecOn with
 | _ N ih=>
 intro X G n Q Z U ms r hN hn hm hl q;refine zq0 G (zCu hn) fun L=>?_
 conv=>whnf
 rw[zdQ];refine zC (g:=fun p:Mt×Nat=>AV.tup [.int (p.2:Nat),qR p.1]) (fun xs (b:Nat) l U'=>U'=U/\(∃k,xs=(ms.drop k).zipIdx k/\max b (zZ (ms.drop k) r)=zZ ms r)/\∃c:Int,c=b/\∃u v w,l=[some (.lst (r.map zz)),some (.lst (ms.map qR)),some (.int c),u,v,w]) (fun b p=>if ∀y∈zf p.1,y∈r then max b (szM p.1+zZ (ms.drop (p.2+1)) (qW r p.1)) else b) ?_ (b:=0) ?_ ⟨rfl,⟨0,rfl,Nat.zero_max _⟩,0,rfl,_,_,_,rfl⟩
 .intro hR1;obtain⟨m,k'⟩:=hR1;intro xs b l U' K S_ hR2;refine zdL hR2 fun e2_0 h2_1 c hc u v w e2_7=>?_;subst e2_0;obtain⟨k,hxs,hmx⟩:=h2_1;subst e2_7;intro hK;refine zx (zoF hxs) fun h1 e3_1 h3 h4=>?_;subst e3_1;dsimp only at h1 h3 h4 hK;have hk:k'<ms.length:=(fX.mp h1).1;have hmm:=hm m (pO h1);rw[h4] at hmx;simp only[zZ] at hmx;refine zc _ rfl ?_;refine zO (g:=zz) (fun y=>!decide (y∈r)) zz (fun _=>rfl) (fun _ _=>rfl) (fun y _ R q=>inM (.inl rfl) q) (fun y _ _ R q=>q) trivial (fN hmm.2 (by decide)) ?_;refine zdt (k:=1) (fun x hx=>by refine zb (fO.mp hx) fun y _ e4_2=>?_;subst e4_2;exact zaD y) (by decide) ?_;rw[fCA]
  by_cases hf:∀y∈zf m,y∈r
  .have e:((zf m).filter fun y=>!decide (y∈r)).isEmpty=true:=by
    rw[fBM,fAU];intro y hy;simp[hf y hy]
   rw[e];rw[if_pos hf] at hK hmx;refine zO (g:=zz) (fun y=>!decide (y∈zf m)) zz (fun _=>rfl) (fun _ _=>rfl) (fun y _ R q=>inM (.inl rfl) q) (fun y _ _ R q=>q) trivial (zCv hn) ?_
   conv=>whnf
   rw[fC,zmS (by rw[fC];exact hk),<-List.map_drop];have hlt:=zrs hmm.1 hf;refine ih (ms.drop (k'+1)).length (by rw[fBJ];exact zCW hN hk) (G.push L) (fM _) (show n+1+(qW r m).length<580 by exact zDE hn hlt) (fun x hx=>hm x (fCF hx)) (by rw[fBJ];exact zCA hl) ?_;refine⟨trivial,hK _ _ ⟨rfl,⟨k'+1,h3,?_⟩,_,?_,_,_,_,rfl⟩⟩
   .rw[<-hmx,Nat.max_assoc]
   .show max c (((zf m).length:Int)+((zZ (ms.drop (k'+1)) (qW r m):Nat):Int))=((max b (szM m+zZ (ms.drop (k'+1)) (qW r m)):Nat):Int)
    rw[hc];exact znI _ _
  .have e:((zf m).filter fun y=>!decide (y∈r)).isEmpty=false:=by
    rw[Bool.eq_false_iff];intro h;rw[fBM,fAU] at h;exact hf fun y hy=>by simpa using h y hy
   rw[e];rw[if_neg hf] at hK hmx;refine⟨trivial,hK _ _ ⟨rfl,⟨k'+1,h3,?_⟩,c,hc,_,_,_,rfl⟩⟩;rw[<-hmx];exact zCH
 .intro l U' hR3;refine zdL hR3 fun e5_0 h5_1 c hc u v w e5_7=>?_;subst e5_0;obtain⟨k,hxs,hmx⟩:=h5_1;subst e5_7;have hd:ms.drop k=[]:=by
   cases hm:ms.drop k with
   | nil=>rfl
   | cons m t=>rw[hm,fC5] at hxs;cases hxs
  rw[hd] at hmx;simp only[zZ] at hmx;rw[Nat.max_zero] at hmx;refine Ends.same ?_;rw[hc,hmx];exact q
theorem zd6(G:Gd X (hK P))(hd:n<550){a:LA}{D:Led}(h:LAt U a D)(ho:LOk D){g:List zd}(hg:g∈D.grps)(h8:g.length<=8)(q:Q (.int ((g.filter fun y=>!decide (y∈D.told)).length:Nat)) U):CallOk X 283 ⟨n,false⟩ [.ref a.self,gAV g] Q Z U:=by
 refine zeT G (gI hd (by decide)) fun L=>?_;have ll:∀s,(D.left s).length<=80:=fun s=>by
  unfold Led.left;refine fN (gU ..) ?_;rw[pD];cases s
  .exact ho.few.1
  .exact ho.few.2
 have l1:=ll false;have l2:=ll true;refine zl h.s h.d ?_;refine zkp (G.push L) (zrL hd) (s:=false) h ho ?_;refine zN (fun i:Nat=>zz (false,(i:Int))) (fun _=>rfl) (fun _ _=>rfl) (fun x _ R q=>q) trivial (zpV l1) ?_;refine zl h.s h.d ?_;refine zkp (G.push L) (zrL hd) (s:=true) h ho ?_;refine zN (fun i:Nat=>zz (true,(i:Int))) (fun _=>rfl) (fun _ _=>rfl) (fun x _ R q=>q) trivial (zpV l2) ?_;refine zG (by rw[fC,fC];exact zCB l1 l2) ?_;have e:(D.left false).map (fun i:Nat=>zz (false,(i:Int)))++(D.left true).map (fun i:Nat=>zz (true,(i:Int)))=((D.left false).map (fun i:Nat=>((false,(i:Int)):zd))++(D.left true).map (fun i:Nat=>((true,(i:Int)):zd))).map zz:=by
  rw[fQ,fY,fY];rfl
 rw[e];refine zO (g:=zz) (fun y=>!decide (y∈D.told)) zz (fun _=>rfl) (fun _ _=>rfl) (fun y hy R q=>?_) (fun y _ _ R q=>q) trivial (ze3 h8) ?_
 .refine inM (.inl rfl) ?_;have:=zbm hg hy;have key:(y∈(D.left false).map (fun i:Nat=>((false,(i:Int)):zd))++(D.left true).map (fun i:Nat=>((true,(i:Int)):zd)))↔y∉D.told:=by
   obtain⟨b,i⟩:=y;obtain⟨k,rfl⟩:=fAB this.1;have hk:k<(D.row b).length:=fBA.mp this.2;rw[fR,fO,fO];unfold Led.left;constructor
   .rintro(⟨j,hj,e⟩|⟨j,hj,e⟩)<;>cases e<;>simpa using (fP.mp hj).2
   .intro hn;cases b
    .exact .inl (zc k (fP.mpr ⟨pH.mpr hk,by simpa using hn⟩) rfl)
    .exact .inr (zc k (fP.mpr ⟨pH.mpr hk,by simpa using hn⟩) rfl)
  rw[decide_eq_decide.mpr key,decide_not];exact q
 .conv=>whnf
  rw[fC];exact Ends.same q
end
section
variable{P:Gq}{X:Cx}{n:Nat}{Q:zm}{Z:XP}{U:AHeap}
theorem LAt.sub{U U':AHeap}{a:LA}{D:Led}(h:LAt U a D)(s:Sub U U'):LAt U' a D:=⟨s _ _ h.s,s _ _ h.d,s _ _ h.r,s _ _ h.b,s _ _ h.k,s _ _ h.t,s _ _ h.c,h.dr,h.nd⟩
theorem znc{rs:List Addr}{gs:List (List zd)}(h:Hold U rs (gs.map fun g=>g.map zz)):∀z∈rs.zip gs,U z.1=some (AO.list (z.2.map zz)):=by
 induction gs generalizing rs with
 | nil=>intro z hz;rw[List.zip_nil_right] at hz;cases hz
 | cons g gs ih=>
  cases h with
  | @cons r rs _ _ h1 h2=>
   intro z hz
   rcases fF.mp hz with rfl|hz
   .exact h1
   .exact ih h2 z hz
theorem zvq{m:zd}{ms:List zd}{p:Addr}{R:Bool->AHeap->Prop}(hp:U p=some (.list (ms.map zz)))(q:R (decide (m∈ms)) U):inR (zz m) p R U:=by
 refine zhs hp (zaD m) (fun y hy=>?_) (by decide) (fun h=>?_) fun h=>?_
 .refine zb (fO.mp hy) fun x _ e0_2=>?_;subst e0_2;exact zaD x
 .rw[zgp] at h;rw[G6 h] at q;exact q
 .rw[zgp] at h;rw[G5 h] at q;exact q
theorem zf9(G:Gd X (hK P))(hd:n<560){a:LA}{D:Led}(h:LAt U a D)(ho:LOk D){m:zd}{g:List zd}{gs:List (List zd)}(hg:D.holding m=g::gs)
  (q:∀U' r,Sub U U'->U r=none->U' r=some (.list (g.map zz))->Q (.ref r) U'):CallOk X 228 ⟨n,false⟩ [.ref a.self,.str m.1.toNat,.int m.2] Q Z U:=by
 refine zd1 G (gI hd (by decide)) fun L=>?_;refine zl h.s h.d ?_;refine zce (G.push L) (zCk hd) fun L'=>?_;refine zl h.s h.d ?_;refine kH (s:=false) h ?_;refine zl h.s h.d ?_;refine kH (s:=true) h ?_;refine zl h.s h.d ?_;refine zc9 ((G.push L).push L') (zCj hd) h.b h.k ho.es ho.fs fun U' p hG=>?_;obtain⟨⟨rs,h1,h2,h3,h4⟩,hs⟩:=hG;refine Ends.same (Ends.same ?_);have hgl:=Led.grps_len ho;have hlen:=zcb h2;rw[fC] at hlen;unfold Led.grps at hgl;have hz:=znc h2;unfold Led.holding Led.grps at hg;generalize Mine.Internal.grps D.es D.fs D.span=GS at *;have ez:rs.map AV.ref=(rs.zip GS).map fun z=>AV.ref z.1:=by
  have:(rs.zip GS).map Prod.fst=rs:=fC2 (zrY hlen)
  conv=>lhs;rw[<-this]
  rw[fY];rfl
 refine ze (zE h1) ?_;rw[ez] at h1 ⊢;refine zO (fun z=>decide (m∈z.2)) (fun z=>AV.ref z.1) (fun _=>rfl) (fun _ _=>rfl) (fun z hz' R q=>?_) (fun z _ _ R q=>q) h1 (by rw[List.length_zip];exact zCD hgl) ?_
 .exact zvq (hz z hz') q
 have hsnd:(rs.zip GS).map Prod.snd=GS:=List.map_snd_zip (zp2 hlen);have hf:((rs.zip GS).filter fun z=>decide (m∈z.2)).map Prod.snd=g::gs:=by
  rw[<-hg]
  conv=>rhs;rw[<-hsnd]
  rw[List.filter_map];rfl
 cases hzf:(rs.zip GS).filter fun z=>decide (m∈z.2) with
 | nil=>rw[hzf] at hf;cases hf
 | cons z zs=>
  rw[hzf,gF] at hf;have hzm:z∈rs.zip GS:=(fP.mp (show z∈(rs.zip GS).filter fun z=>decide (m∈z.2) by rw[hzf];exact fB)).1;have e:z.2=g:=(List.cons.inj hf).1;have:=hz z hzm;rw[e] at this;exact Ends.same (q U' z.1 hs (h4 _ (fA _ (fBQ hzm).1)) this)
theorem zjD(m:Mt):RdA (zH m) (.tuple [qL m.1,qL m.2]):=fun U=>by
 have rdI:∀l:List Int,RdL U (l.map .int) (l.map .int):=fun l=>by
  induction l with
  | nil=>exact .nil
  | cons i l ih=>exact .cons (.int i) ih
 exact .tup (.cons (.tup (rdI _)) (.cons (.tup (rdI _)) .nil))
theorem zh0(m:Mt):(PyData.tuple [qL m.1,qL m.2]).depth<=100:=by
 have dI:∀l:List Int,PyData.depthAll (l.map .int)=0:=fun l=>by
  induction l with
  | nil=>rfl
  | cons i l ih=>rw[gF,PyData.depthAll,ih];rfl
 unfold qL;simp only[PyData.depth,PyData.depthAll,dI];decide
theorem znP(m m':Mt):PyData.eqv (.tuple [qL m.1,qL m.2]) (.tuple [qL m'.1,qL m'.2])=decide (m=m'):=by
 simp only[PyData.eqv,PyData.eqvAll,zb6,fCD];obtain⟨a,b⟩:=m;obtain⟨c,d⟩:=m'
 by_cases h1:a=c<;>by_cases h2:b=d<;>simp[h1,h2]
theorem zs4{m:Mt}{ms:List Mt}(h:m∈ms){K:AV->List AV->Prop}(q:K .none ((ms.erase m).map zH)):rmG (ms.map zH) (zH m) K:=by
 refine zp (List.exists_erase_eq h) fun pre post h1 h2 h3=>?_;unfold rmG;refine qq (pre.map zH) (zH m) (post.map zH) _ _ (by rw[h2,fQ,gF]) (zjD m) (zjD m) (by rw[znP,G6 rfl]) (zh0 m) (fun x hx=>?_) ?_
 .refine zb (fO.mp hx) fun m' hm' e5_2=>?_;subst e5_2;exact zv _ (zjD m') (by rw[znP];exact G5 fun e=>h1 (by rw[<-e];exact hm')) (zh0 m')
 .rw[<-fQ,<-h3];exact q
theorem nd3{a b c:Addr}:[a,b,c].Nodup↔(a≠b/\a≠c)/\b≠c:=by simp only[fU,fF,gB,or_false,not_or,not_false_eq_true,fCR,and_true]
theorem nd4{a b c d:Addr}:[a,b,c,d].Nodup↔(a≠b/\a≠c/\a≠d)/\(b≠c/\b≠d)/\c≠d:=by simp only[fU,fF,gB,or_false,not_or,not_false_eq_true,fCR,and_true]
theorem zgM(G:Gd X (hK P))(hd:n<560){a:LA}{D:Led}(h:LAt U a D)(ho:LOk D){m:Mt}(hm:m∈D.tick)
  (q:∀U',(∀x o,x≠a.pt->x≠a.pc->U x=some o->U' x=some o)->LAt U' a (D.take m)->Q .none U'):CallOk X 235 ⟨n,false⟩ [.ref a.self,zH m] Q Z U:=by
 refine zhD G (gI hd (by decide)) fun L=>?_;refine zl h.s h.d ?_;refine zqQ h.t ?_;rw[G6 hm];refine zl h.s h.d ?_;refine zo h.t ?_;refine zo h.t ?_;refine zs4 hm ?_;have n4:=h.nd;have npc:a.pt≠a.pc/\a.pb≠a.pt/\a.pk≠a.pt/\a.pb≠a.pc/\a.pk≠a.pc:=by
  have n4:=nd4.mp n4;exact jb n4.2.2 n4.1.2.1 n4.2.1.1 n4.1.2.2 n4.2.1.2
 have nt:∀{q:Addr} {o:AO},U q=some o->(∀xs,o≠.list xs)->q≠a.pt/\q≠a.pc:=fun e ho=>⟨fun q=>by rw[q,h.t] at e;cases e;exact ho _ rfl,fun q=>by rw[q,h.c] at e;cases e;exact ho _ rfl⟩
 have s1:=nt h.s (fun _ q=>nomatch q);have s2:=nt h.d (fun _ q=>nomatch q);have s3:=nt h.r (fun _ q=>nomatch q);refine zl (zi h.s s1.1) (zi h.d s2.1) ?_;have kc:(U.set a.pt (.list ((D.tick.erase m).map zH))) a.pc=some (.list (D.clos.map zH)):=zi h.c npc.1.symm;refine zo kc ?_;refine zo kc ?_;refine zG (by rw[fC];have:=ho.cl;exact zCm this) ?_;have e:D.clos.map zH++[zH m]=(D.clos++[m]).map zH:=by rw[fQ];rfl
 rw[e];refine Ends.same (q _ (fun x o h1 h2 e=>zi (zi e h1) h2) ⟨zi (zi h.s s1.1) s1.2,zi (zi h.d s2.1) s2.2,zi (zi h.r s3.1) s3.2,zi (zi h.b npc.2.1) npc.2.2.2.1,zi (zi h.k npc.2.2.1) npc.2.2.2.2,zi (AHeap.wA ..) npc.1,AHeap.wA ..,h.dr,h.nd⟩)
theorem znj{D:Led}(h:Inv D):D.tick.length<=D.es.length+D.fs.length:=by
 have hne:∀m∈D.tick,zf m≠[]:=fun m hm=>jp (h.fits m hm).go;have nd:(D.tick.map zB).Nodup:=by
  rw[fBG,fA1];exact h.apart.imp_of_mem fun {a b} ha hb hd e=>hd _ (je (hne a ha)) (e▸je (hne b hb))
 have:=zcn nd (u:=(inO D.es D.fs).map (·.2)) fun y hy=>by
  refine zb (fO.mp hy) fun m hm e6_2=>?_;subst e6_2;refine zb (h.whole m hm) fun g h1 h2=>?_;rw[<-qZ D.es D.fs D.span];exact gN.mpr (zc g h1 (h2 _ (je (hne m hm))))
 rw[fC,fC,zaw] at this;exact this
theorem zgV(G:Gd X (hK P))(hd:n<530){a:LA}{D:Led}(h:LAt U a D)(I:Inv D)
  (q:∀U' pt',(∀x o,x≠a.dx->U x=some o->U' x=some o)->(pt'=a.pt\/U pt'=none)->LAt U' { a with pt:=pt' } D.again->Q .none U'):CallOk X 242 ⟨n,false⟩ [.ref a.self] Q Z U:=by
 refine zo9 G (gI hd (by decide)) fun L=>?_;refine zl h.s h.d ?_;refine zbz (G.push L) (zCi hd) h I.ok ?_;refine zC (g:=gAV) (fun xs b l U'=>(∃pt',(∀x o,x≠a.dx->U x=some o->U' x=some o)/\(pt'=a.pt\/U pt'=none)/\LAt U' { a with pt:=pt' } b)/\Inv b/\(b.es=D.es/\b.fs=D.fs/\b.span=D.span)/\(∀g∈xs,g∈D.grps)/\∃u,l=[some (.ref a.self),u]) Led.pick ?_ (b:=D) ?_ ⟨⟨a.pt,fun _ _ _ e=>e,.inl rfl,h⟩,I,⟨rfl,rfl,rfl⟩,fun g hg=>hg,_,rfl⟩
 .intro g xs b l U' K S_ hR1;refine zha hR1 fun h8_0 Ib h8_2 hx u e8_5=>?_;obtain⟨pt,fr,hpt,hL⟩:=h8_0;obtain⟨e1,e2,e3⟩:=h8_2;subst e8_5;intro hK;refine zc _ rfl ?_;have hgb:g∈b.grps:=by unfold Led.grps;rw[e1,e2,e3];exact hx g fB
  have h8:=Ib.few g hgb;refine zl hL.s hL.d ?_;refine zkB (G.push L) (zCh hd) hL Ib.ok (zga hgb h8 Ib.ok.few) fun σ2 pt2 fr2 hp2 hL2=>?_;have hfew:=Ib.ok.few;have Ib2:=zh8 Ib.ok Ib.lo Ib.hi Ib.few Ib.whole Ib.apart Ib.fits Ib.free hgb (by have:=znj Ib;exact zCO hfew this);refine⟨trivial,hK _ _ ⟨⟨pt2,fun x o hx e=>fr2 x o hx (fr x o hx e),?_,hL2⟩,Ib2,⟨e1,e2,e3⟩,fun g hg=>hx g (fA _ hg),_,rfl⟩⟩;refine .inr ?_;cases e:U pt2 with
  | none=>rfl
  | some o=>
   by_cases hx:pt2=a.dx
   .rw[hx] at hp2;have:=hL.d;rw[hp2] at this;cases this
   .rw[fr pt2 o hx e] at hp2;cases hp2
 .intro l U' hR2;refine zha hR2 fun h9_0 Ib _ _ u e9_5=>?_;obtain⟨pt,fr,hpt,hL⟩:=h9_0;subst e9_5;rw[ziC I] at hL;exact Ends.same (q U' pt fr hpt hL)
end
section
variable{P:Gq}{X:Cx}{n:Nat}{Q:zm}{Z:XP}{U:AHeap}
theorem zdD{xs:List AV}{c:Int}(m:Int)(h:(xs.length:Int)=m)(hp:0<m):∃v,v∈xs/\jQ xs (c.fmod m)=some v:=by
 have h1:=pE c hp;have h2:=pR c hp;obtain⟨j,hj⟩:=fAB h1;have hl:j<xs.length:=zx5 h h2 hj;exact zc (xs[j]) (fBK hl) (by rw[hj];exact atIdx_nat.trans (fV hl))
theorem zoM(c:Int):∃s:Bool,jQ [AV.str 0,.str 1] (c.fmod 2)=some (.str s.toNat):=by
 refine zb (zdD (c:=c) (xs:=[AV.str 0,.str 1]) 2 rfl (by decide)) fun v hv e=>?_;simp only[fF,gB,or_false] at hv
 rcases hv with rfl|rfl
 .exact⟨false,e⟩
 .exact⟨true,e⟩
theorem zoI(D:Led)(s:Bool)(e:Ent):(D.add s e).es.length+(D.add s e).fs.length=D.es.length+D.fs.length+1:=by
 cases s
 .show (D.es++[e]).length+_=_;rw[fE,fS];show _+_+D.fs.length=_;exact zx0
 .show _+(D.fs++[e]).length=_;rw[fE,fS];show D.es.length+_=_;exact zx4
theorem LAt.other{U:AHeap}{a:LA}{D:Led}(h:LAt U a D){p:Addr}{o:AO}(hp:p∉a.all):LAt (U.set p o) a D:=by
 simp only[LA.all,fF,gB,or_false,not_or] at hp;refine zbj hp fun h1 h2 h3 h4 h5 h6 h7=>?_;exact⟨zi h.s (Ne.symm h1),zi h.d (Ne.symm h2),zi h.r (Ne.symm h3),zi h.b (Ne.symm h4),zi h.k (Ne.symm h5),zi h.t (Ne.symm h6),zi h.c (Ne.symm h7),h.dr,h.nd⟩
structure OA where
 od:Addr
 ob:Addr
 ok:Addr
 oc:Addr
structure OV where
 days:Int
 scale:Int
 base:Int
 step:Int
noncomputable def OA.all(o:OA):List Addr:=[o.od,o.ob,o.ok,o.oc]
noncomputable def OA.row(o:OA)(s:Bool):Addr:=if s then o.ok else o.ob
noncomputable def zcs(o:OA)(v:OV)(old:List zd):List (Nat×AV):=[(0,.ref o.ob),(1,.ref o.ok),(18,.ref o.oc),(25,.lst (old.map zz)),(20,.int v.days),(21,.int v.scale),(22,.int v.base),(24,.int v.step)]
structure OVOk(v:OV):Prop where
 days:v.days=5\/v.days=20
 scale:1<=v.scale/\v.scale<=100000000
 base:0<=v.base/\v.base<=9942
 step:1<=v.step/\v.step<=3
structure OAt(U:AHeap)(o:OA)(v:OV)(old:List zd)(D:Led):Prop where
 d:U o.od=some (.idict (zcs o v old))
 b:U o.ob=some (.list (D.es.map zD))
 k:U o.ok=some (.list (D.fs.map zD))
 c:U o.oc=some (.list (D.clos.map zH))
 nd:[o.ob,o.ok,o.oc].Nodup
structure St(U:AHeap)(a:LA)(o:OA)(v:OV)(old:List zd)(D:Led)(k:Nat):Prop where
 L:LAt U a D
 O:OAt U o v old D
 dis:∀x∈o.all,x∉a.all
 I:Inv D
 cl:∀g∈D.grps,(∀y∈g,y∉old)->k7 D g
 few:D.es.length+D.fs.length<=k
 clk:D.clos.length<=k
 ol:old.length<=k
theorem OAt.row{o:OA}{v:OV}{old:List zd}{D:Led}(h:OAt U o v old D)(s:Bool):U (o.row s)=some (.list ((D.row s).map zD)):=by
 cases s with
 | false=>exact h.b
 | true=>exact h.k
theorem zh2(o:OA):o.od∈o.all:=fB
theorem zqp(o:OA):o.ob∈o.all:=fA _ fB
theorem zqr(o:OA):o.ok∈o.all:=fA _ (fA _ fB)
theorem zqq(o:OA):o.oc∈o.all:=fA _ (fA _ (fA _ fB))
theorem OAt.keep{U U':AHeap}{o:OA}{v:OV}{old:List zd}{D:Led}(h:OAt U o v old D)(s:∀x∈o.all,∀z,U x=some z->U' x=some z){D':Led}(e1:D'.es=D.es)(e2:D'.fs=D.fs)(e3:D'.clos=D.clos):OAt U' o v old D':=
 ⟨s _ (zh2 o) _ h.d,by rw[e1];exact s _ (zqp o) _ h.b,by rw[e2];exact s _ (zqr o) _ h.k,by rw[e3];exact s _ (zqq o) _ h.c,h.nd⟩
theorem OAt.old{o:OA}{v:OV}{old:List zd}{D:Led}(h:OAt U o v old D)(old':List zd):OAt (U.set o.od (.idict (zcs o v old'))) o v old' D:=by
 have ne:∀{q:Addr} {xs:List AV},U q=some (.list xs)->q≠o.od:=fun e q=>by rw[q,h.d] at e;cases e
 exact⟨AHeap.wA ..,zi h.b (ne h.b),zi h.k (ne h.k),zi h.c (ne h.c),h.nd⟩
theorem zkC(o:OA)(v:OV)(old old':List zd):jY (zcs o v old) 25 (.lst (old'.map zz))=zcs o v old':=rfl
theorem OAt.add{o:OA}{v:OV}{old:List zd}{D:Led}(h:OAt U o v old D)(s:Bool)(e:Ent):OAt (U.set (o.row s) (.list (((D.row s)++[e]).map zD))) o v old (D.add s e):=by
 have n:=nd3.mp h.nd;have hd:o.od≠o.row s:=fun q=>by have:=h.d;rw[q,h.row s] at this;cases this
 cases s with
 | false=>exact⟨zi h.d hd,AHeap.wA ..,zi h.k (Ne.symm n.1.1),by rw[zaS];exact zi h.c (Ne.symm n.1.2),h.nd⟩
 | true=>exact⟨zi h.d hd,zi h.b n.1.1,AHeap.wA ..,by rw[zaS];exact zi h.c (Ne.symm n.2),h.nd⟩
theorem OAt.bar{o:OA}{v:OV}{old:List zd}{D:Led}(h:OAt U o v old D)(m:Mt):OAt (U.set o.oc (.list ((D.clos++[m]).map zH))) o v old (D.take m):=by
 have n:=nd3.mp h.nd;exact⟨zi h.d fun q=>(by have:=h.d;rw[q,h.c] at this;cases this),zi h.b n.1.2,zi h.k n.2,AHeap.wA ..,h.nd⟩
theorem zi2{m:Mt}(h:m.1≠[]):zB m=(false,m.1.headD 0):=by
 obtain⟨a,b⟩:=m;cases a with
 | nil=>exact absurd rfl h
 | cons x t=>rfl
theorem zpq(o:OA)(s:Bool):o.row s∈o.all:=by
 cases s
 .exact zqp o
 .exact zqr o
theorem zmV(a:LA):a.dx∈a.all:=fA _ fB
theorem zsZ(a:LA):a.pc∈a.all:=gK [a.self,a.dx,a.rd,a.pb,a.pk,a.pt] fB
theorem zoL(a:LA)(s:Bool):a.row s∈a.all:=by
 cases s
 .exact gK [a.self,a.dx,a.rd] (fB (a:=a.pb) (l:=[a.pk,a.pt,a.pc]))
 .exact gK [a.self,a.dx,a.rd,a.pb] (fB (a:=a.pk) (l:=[a.pt,a.pc]))
theorem zrb{a:LA}{pt x:Addr}(h:x∈({ a with pt:=pt }:LA).all):x=pt\/x∈a.all:=
 (fR.mp (show x∈[a.self,a.dx,a.rd,a.pb,a.pk]++pt::[a.pc] from h)).elim (fun h=>.inr (gR (a.pt::[a.pc]) h)) fun h=>(fF.mp h).elim .inl fun h=>.inr (gK [a.self,a.dx,a.rd,a.pb,a.pk] (fA _ h))
theorem zn1(a:LA):a.pt∈a.all:=gK [a.self,a.dx,a.rd,a.pb,a.pk] (fB (a:=a.pt) (l:=[a.pc]))
theorem OAt.some{o:OA}{v:OV}{old:List zd}{D:Led}(h:OAt U o v old D){x:Addr}(hx:x∈o.all):U x≠none:=by
 simp only[OA.all,fF,gB,or_false] at hx
 rcases hx with rfl|rfl|rfl|rfl
 .rw[h.d];exact fJ _
 .rw[h.b];exact fJ _
 .rw[h.k];exact fJ _
 .rw[h.c];exact fJ _
theorem ziZ{a:LA}{D:Led}{o:OA}{v:OV}{old:List zd}(h:OAt U o v old D)(dis:∀x∈o.all,x∉a.all){pt:Addr}(hp:pt=a.pt\/U pt=none):∀x∈o.all,x∉({ a with pt:=pt }:LA).all:=fun x hx hx'=>
 (zrb hx').elim (fun e=>hp.elim (fun e'=>dis x hx (by rw[e,e'];exact zn1 a)) fun hn=>h.some hx (by rw[e];exact hn)) (dis x hx)
theorem St.mono{a:LA}{o:OA}{v:OV}{old:List zd}{D:Led}{k:Nat}(h:St U a o v old D k):St U a o v old D (k+1):=⟨h.L,h.O,h.dis,h.I,h.cl,pK h.few,pK h.clk,pK h.ol⟩
theorem St.keep{a:LA}{o:OA}{v:OV}{old:List zd}{D:Led}{k:Nat}(h:St U a o v old D k){U':AHeap}(fr:∀x z,x∉a.all->U x=some z->U' x=some z):∀x∈o.all,∀z,U x=some z->U' x=some z:=fun x hx z e=>fr x z (h.dis x hx) e
theorem zpr{o:OA}{v:OV}{old:List zd}{D:Led}(h:OAt U o v old D){s:Bool}(q:Q (.ref (o.row s)) U):zcO o.od (.str s.toNat) Q U:=by
 refine ji h.d ?_;cases s<;>exact q
def znA(X:Cx):AS:=(A.cons (A.vG (A.cons (A.set 9 (A.wO X 245 none 197 (A.loc 0) [(A.loc 6),(A.idx (A.loc 8) (A.k (.int 0))),(A.idx (A.loc 8) (A.k (.int 1)))])) A.nil) [94] none (A.cons A.vF A.nil)) (A.cons (A.ex (A.meth zT (A.idx (A.loc 1) (A.loc 6)) [(A.loc 8)])) (A.cons (A.fr (A.itP (A.wF X 261 [(A.loc 1),(A.loc 3)])) (.one 10) (zfo X)) A.nil)))
theorem zfb{L:Env}(G:Gd (X.push L) (hK P))(hd:n<480){a:LA}{o:OA}{v:OV}{old:List zd}{D:Led}{k:Nat}(S:St U a o v old D k)(hk:k<=50){s:Bool}{e:Ent}(he:za4 e.1 e.2=true){x2 x4 x5 x7 x9 x10:Option AV}{Sp:jt}{SZ:Addr->Loc->AHeap->Prop}
  (q:∀U' pt old' D' f l,St U' { a with pt:=pt } o v old' D' (k+1)->D'.span=D.span->(f = .next\/f = .ret .none)->Sp f l U') :
  znA (X.push L) ⟨n+1,false⟩ [some (.ref a.self),some (.ref o.od),x2,some (.int D.span),x4,x5,some (.str s.toNat),x7,some (.tup [.int e.1,.int e.2]),x9,x10] Sp SZ U:=by
 have I:=S.I;have hrl:(D.row s).length<80:=by have:=S.few;cases s<;>(first|(show D.es.length<80;exact zCZ hk this)|(show D.fs.length<80;exact zC0 hk this))
 have ho1:=zkr I.ok he hrl;refine zp (zdU (D.add s e) (m:=(s,((D.row s).length:Int))) (k:=(D.row s).length) rfl (by show _<((D.add s e).row s).length;rw[zoJ,fE,fS];exact zpW)) fun g gs hg hgm hgx=>?_;refine zl S.L.s S.L.d ?_;refine zrp G (zCf hd) S.L I.ok he hrl hg (fun h8 σ1 pt fr hp hL=>?_) fun h9=>?_
 .have I1:=zpt I ho1 hgm hgx h8 (by have:=znj I;have:=S.few;exact zDc hk (by assumption) this);have keep1:=S.keep (U':=σ1) fun x z hx e=>fr x z (fun h=>hx (h▸zmV a)) (fun h=>hx (h▸zoL a s)) e;have hO1:=S.O.keep keep1 (D':=D) rfl rfl rfl;have dis1:=ziZ S.O S.dis (pt:=pt) (.inr hp);refine zpr hO1 ?_;refine zo (hO1.row s) ?_;refine zo (hO1.row s) ?_;refine zG (by rw[fC];exact ztm hrl) ?_;have hO2:=hO1.add s e;rw[fQ] at hO2;have hL2:LAt (σ1.set (o.row s) (.list ((D.row s).map zD++[e].map zD))) { a with pt:=pt } ((D.add s e).pick g):=hL.other (dis1 _ (zpq o s));have eE:(D.row s).map zD++[.tup [.int e.1,.int e.2]]=(D.row s).map zD++[e].map zD:=rfl;rw[eE];unfold A.w0;generalize σ1.set (o.row s) (.list ((D.row s).map zD++[e].map zD))=σ2 at hO2 hL2 ⊢;have hO3:OAt σ2 o v old ((D.add s e).pick g):=⟨hO2.d,hO2.b,hO2.k,hO2.c,hO2.nd⟩
  have eg:grps (D.add s e).es (D.add s e).fs D.span=((D.add s e).pick g).grps:=by
   show _=grps (D.add s e).es (D.add s e).fs (D.add s e).span;rw[kg]
  refine zbD G (zCg hd) hO2.d rfl rfl hO2.b hO2.k ho1.es ho1.fs ?_;rw[eg];have hlen:=zoI D s e;refine zC (g:=gAV) (fun xs b l U'=>(OAt U' o v b ((D.add s e).pick g)/\LAt U' { a with pt:=pt } ((D.add s e).pick g))/\(∀y∈old,y∉g->y∈b)/\b.length<=old.length/\(∀g'∈xs,g'∈(D.add s e).grps)/\∃x2 x4 x5 x7 x10,l=[some (.ref a.self),some (.ref o.od),x2,some (.int D.span),x4,x5,some (.str s.toNat),x7,some (.tup [.int e.1,.int e.2]),some (.int (D.row s).length),x10]) (fun b g'=>if (s,((D.row s).length:Int))∈g' then b.filter fun y=>!decide (y∈g') else b) ?_ (b:=old) ?_ ⟨⟨hO3,hL2⟩,fun y hy _=>hy,fM _,fun g' hg'=>hg',_,_,_,_,_,rfl⟩
  .intro g' xs b l U' K S_ hR1;refine zb0 hR1 fun h5_0 hb hbl hx x2 x4 x5 x7 x10 e5_9=>?_;obtain⟨hO,hLL⟩:=h5_0;subst e5_9;intro hK;refine zc _ rfl ?_;have hg':=hx g' fB;refine inM (m:=(s,((D.row s).length:Int))) (.inl rfl) ?_
   by_cases hm:(s,((D.row s).length:Int))∈g'
   .rw[G6 hm];rw[if_pos hm] at hK;have egg:g'=g:=jH hg' hgm hm hgx;refine ji hO.d (ze rfl ?_);have:=S.ol;refine zO (g:=zz) (fun y=>!decide (y∈g')) zz (fun _=>rfl) (fun _ _=>rfl) (fun y _ R q=>inM (.inl rfl) q) (fun y _ _ R q=>q) trivial (zC1 hk hbl this) ?_;refine zcv hO.d (show 8<100 by decide) ?_;rw[zkC];refine⟨trivial,hK _ _ ⟨⟨hO.old _,hLL.other (dis1 _ (zh2 o))⟩,fun y hy hyg=>fP.mpr ⟨hb y hy hyg,by rw[egg];simpa using hyg⟩,fN (gU ..) hbl,fun g2 h2=>hx g2 (fA _ h2),_,_,_,_,_,rfl⟩⟩
   .rw[G5 hm];rw[if_neg hm] at hK;exact⟨trivial,hK _ _ ⟨⟨hO,hLL⟩,hb,hbl,fun g2 h2=>hx g2 (fA _ h2),_,_,_,_,_,rfl⟩⟩
  .intro l U' hR2;refine zb0 hR2 fun h6_0 hb hbl _ x2 x4 x5 x7 x10 e6_9=>?_;obtain⟨hO,hLL⟩:=h6_0;subst e6_9;generalize D.grps.foldl _ _=bb at hO hb hbl;refine q U' pt _ _ .next _ ⟨hLL,hO,dis1,I1,fun g' hg' hno=>?_,?_,?_,?_⟩ (kg ..) (.inl rfl)
   .refine zk0 I ho1 hgm hgx h8 hg' fun hne=>?_;have hn:(s,((D.row s).length:Int))∉g':=fun h=>hne (jH hg' hgm h hgx);refine S.cl g' (zdT I.ok ho1 I.lo hg' hn) fun y hy hyo=>?_;exact hno y hy (hb y hyo fun hyg=>hne (jH hg' hgm hy hyg))
   .show (D.add s e).es.length+(D.add s e).fs.length<=k+1;have:=S.few;exact zDf hlen this
   .show (D.add s e).clos.length<=k+1;rw[zaS];have:=S.clk;exact zuT this
   .have:=S.ol;exact zCX hbl this
 .exact q U a.pt old D (.ret .none) _ S.mono rfl (.inr rfl)
end
section
variable{P:Gq}{X:Cx}{n:Nat}{Q:zm}{Z:XP}{U:AHeap}
theorem zvL{x s:Int}(h:x≠0/\-7<=x/\x<=7)(h1:1<=s)(h2:s<=100000000):x*s≠0/\-700000000<=x*s/\x*s<=700000000:=by
 have h0:(0:Int)<=s:=fAS (by decide) h1;refine⟨Int.mul_ne_zero h.1 fun e=>by rw[e] at h1;exact absurd h1 (by decide),fAS ?_ (fCB h.2.1 h0),fAS (fCB h.2.2 h0) ?_⟩
 .rw[Int.neg_mul];exact Int.neg_le_neg (fCI (c:=7) h2 (by decide))
 .exact fCI (c:=7) h2 (by decide)
theorem at8(c:Int):∃x:Int,jQ [AV.int 1,.int 2,.int 3,.int 4,.int 5,.int 7,.int (-2),.int (-3)] (c.fmod 8)=some (.int x)/\∀s:Int,1<=s->s<=100000000->x*s≠0/\-700000000<=x*s/\x*s<=700000000:=by
 refine zb (zdD (c:=c) (xs:=([1,2,3,4,5,7,-2,-3]:List Int).map AV.int) 8 rfl (by decide)) fun v hv e=>?_;refine zb (fO.mp hv) fun x hx ex=>?_;subst ex;exact zc x e fun s h1 h2=>zvL ((by decide:∀x∈([1,2,3,4,5,7,-2,-3]:List Int),x≠0/\-7<=x/\x<=7) x hx) h1 h2
theorem zcD{i j:Int}(h1 : -1000000000<=j)(h2:j<=1000000000):(small j.natAbs||small i.natAbs)=true:=by
 have h:j.natAbs<=1000000000:=by lia
 unfold small;rw[show Nat.blt j.natAbs 1152921504606846976=true from fAX (Nat.lt_of_le_of_lt h (by decide))];rfl
theorem zf8{d c:Int}(h1:0<=d/\d<=9999)(h2:c≠0)(h3 : -1000000000<=c)(h4:c<=1000000000):za4 d c=true:=by
 unfold za4;rw[G6 h1.1,G6 h1.2,G6 (y11 h3:0-1000000000<=c),G6 h4,G5 h2];rfl
theorem zju{x:Int}(h1 : -700000000<=x)(h2:x<=700000000):(x.natAbs:Int)<=700000000:=by lia
theorem zoQ(G:Gd X (hK P))(hd:n<470){a:LA}{o:OA}{v:OV}{old:List zd}{D:Led}{k:Nat}(S:St U a o v old D k)(hv:OVOk v)(hk:k<=50){c:Int}
  (q:∀U' pt old' D',St U' { a with pt:=pt } o v old' D' (k+1)->D'.span=D.span->Q .none U'):CallOk X 288 ⟨n,false⟩ [.ref a.self,.ref o.od,.int c,.int D.span] Q Z U:=by
 refine zqW G (zuR hd) fun L=>?_;have I:=S.I;refine zl S.L.s S.L.d ?_;refine zjr (G.push L) (zsj hd) S.L I.ok ?_;refine kh (fun h6=>?_) fun h6=>?_
 .refine zdt (k:=2) (fun x hx=>by obtain⟨m,_,rfl⟩:=fO.mp hx;exact zdv m) (by decide) ?_;rw[fCA];have hp:=js num D.tick;generalize srt num D.tick=T at hp ⊢;cases T with
  | nil=>
   refine zaX (G5 (by rw[G7 h6];decide)) ?_;refine zaX (G5 (by rw[G7 h6];decide)) ?_;exact Ends.same (q U a.pt old D S.mono rfl)
  | cons m0 t0=>
   have hlen:((m0::t0).map zH).length=t0.length+1:=by rw[fC,fH]
   conv=>whnf
   refine qw (b:=zej (((m0::t0).map zH).length:Int)) (by unfold zej;rw[hlen,G5 zCq];rfl) ?_;obtain⟨w,hw,ew⟩:=zdD (c:=c.fdiv 8) (xs:=(m0::t0).map zH) _ rfl (by rw[hlen];exact zCn);obtain⟨m,hm,rfl⟩:=fO.mp hw;have hm:m∈D.tick:=hp.mem_iff.mp hm;refine ze ew ?_;have hgo:=(I.fits m hm).go;refine ji S.O.d (ze rfl ?_);refine zo S.O.c ?_;refine zo S.O.c ?_;have hcl:=S.clk;have hol:=S.ol;refine zG (by rw[fC];exact zuU hk hcl) ?_;have hO1:=S.O.bar m;have hL1:=S.L.other (o:=.list ((D.clos++[m]).map zH)) (S.dis o.oc (zqq o));have e1:D.clos.map zH++[zH m]=(D.clos++[m]).map zH:=by rw[fQ];rfl
   rw[e1];unfold A.w0;generalize U.set o.oc (.list ((D.clos++[m]).map zH))=σ1 at hO1 hL1 ⊢;refine ji hO1.d (ze rfl ?_);obtain⟨x,t,hx⟩:∃x t,m.1=x::t:=by
    cases h:m.1 with
    | nil=>exact absurd h hgo.2.1
    | cons x t=>exact jf x t rfl
   have ef:zB m=(false,x):=by rw[zi2 hgo.2.1,hx];rfl
   refine ze (show jQ (m.1.map AV.int) 0=some (.int x) by rw[hx];rfl) ?_;refine zG (by rw[fC];show old.length+1<=_;exact zuU hk hol) ?_;have e2:old.map zz++[.tup [.str 0,.int x]]=(old++[zB m]).map zz:=by rw[fQ,ef];rfl
   rw[e2];refine zcv hO1.d (show 8<100 by decide) ?_;rw[zkC];have hO2:=hO1.old (old++[zB m]);have hL2:=hL1.other (o:=.idict (zcs o v (old++[zB m]))) (S.dis o.od (zh2 o));generalize σ1.set o.od (.idict (zcs o v (old++[zB m])))=σ2 at hO2 hL2 ⊢;refine zl hL2.s hL2.d ?_;refine zgM (G.push L) (zsj hd) hL2 I.ok hm fun σ3 fr hL3=>?_;refine Ends.same (q σ3 a.pt (old++[zB m]) (D.take m) ⟨hL3,hO2.keep (fun y hy z e=>fr y z (fun h=>S.dis y hy (h▸zn1 a)) (fun h=>S.dis y hy (h▸zsZ a)) e) rfl rfl rfl,S.dis,zos I hm (zCE hk hcl),fun g hg hno=>?_,pK S.few,?_,?_⟩ rfl)
   .exact ziW I hg hm (fun h=>hno _ h (gK _ (fG.mpr rfl))) (S.cl g hg fun y hy hyo=>hno y hy (gR _ hyo))
   .show (D.clos++[m]).length<=k+1;rw[fE,fS];exact zsk hcl
   .rw[fE,fS];exact zsk hol
 .refine kh (fun h7=>?_) fun h7=>?_
  .refine zcv S.O.d (show 8<100 by decide) ?_;have e0:jY (zcs o v old) 25 (.lst [])=zcs o v []:=rfl;rw[e0];have hO2:=S.O.old [];have hL2:=S.L.other (o:=.idict (zcs o v [])) (S.dis o.od (zh2 o));generalize U.set o.od (.idict (zcs o v []))=σ2 at hO2 hL2 ⊢;refine zl hL2.s hL2.d ?_;refine zgV (G.push L) (zCb hd) hL2 I fun σ3 pt fr hpt hL3=>?_;refine Ends.same (q σ3 pt [] D.again ⟨hL3,hO2.keep (fun y hy z e=>fr y z (fun h=>S.dis y hy (h▸zmV _)) e) rfl rfl rfl,ziZ hO2 S.dis hpt,ze5 I,fun g hg _=>zc5 I hg,pK S.few,pK S.clk,fW _⟩ rfl)
  .refine kh (fun h8=>?_) fun h8=>?_
   .obtain⟨s,es⟩:=zoM (c.fdiv 8);refine ze es ?_;refine ji S.O.d (ze rfl ?_);refine ji S.O.d (ze rfl ?_);have hd0:=hv.days;have hdp:0<v.days:=zBW hd0;refine qw (by unfold zej;rw[G5 (y14 hdp)];rfl) ?_;refine ji S.O.d (ze rfl ?_);have b1:=pE (c.fdiv 16) hdp;have b2:=pR (c.fdiv 16) hdp;have b3:=hv.step;have b4:=hv.base;have b5:=hv.scale;refine qw (zcD (by exact zDn b3) (by exact zDo b3)) ?_;generalize (c.fdiv 16).fmod v.days=x at b1 b2 ⊢;have hday:0<=v.base+x*v.step/\v.base+x*v.step<=9999:=by
     have hst:v.step=1\/v.step=2\/v.step=3:=zBV b3
     rcases hst with h|h|h<;>rw[h,Int.mul_comm]<;>(first|exact zDs hd0 b4 b1 b2|exact zDt hd0 b4 b1 b2|exact zDu hd0 b4 b1 b2)
    obtain⟨y,ey,hy⟩:=at8 (c.fdiv 320);refine ze ey ?_;refine ji S.O.d (ze rfl ?_);refine qw (zcD (by exact zDl b5) (by exact zDm b5)) ?_;obtain⟨y1,y2,y3⟩:=hy v.scale b5.1 b5.2;have at2:∃z:Int,jQ [AV.int 1,.int (-1)] (if decide (y*v.scale<0)=true then 1 else 0)=some (.int z)/\(z=1\/z = -1):=by
     cases decide (y*v.scale<0)
     .exact zc 1 rfl (.inl rfl)
     .exact zc (-1) rfl (.inr rfl)
    obtain⟨z,ez,hz⟩:=at2;refine kh (fun h1=>?_) fun h1=>?_
    .refine ze ez ?_;refine qw (zcD (by exact zDp hz) (by exact zDq hz)) ?_;have hc:za4 (v.base+x*v.step) ((10 ^ Int.toNat 9-((y*v.scale).natAbs:Int))*z)=true:=by
      have e9:(10:Int) ^ Int.toNat 9=1000000000:=by decide
      rw[e9];have ha:((y*v.scale).natAbs:Int)<=700000000:=zju y2 y3;generalize (y*v.scale).natAbs=a at ha ⊢
      rcases hz with rfl|rfl
      .rw[Int.mul_one];exact zf8 hday (by exact zDv ha) (by exact zDy ha) (by exact zDA)
      .rw[Int.mul_neg,Int.mul_one];exact zf8 hday (by exact zDw ha) (by exact zDB) (by exact zDx ha)
     refine zfb (n:=n) (s:=s) (e:=(v.base+x*v.step,(10 ^ Int.toNat 9-((y*v.scale).natAbs:Int))*z)) (G.push L) (zuQ hd) S hk hc fun U' pt old' D' f l hS hsp hf=>?_
     rcases hf with rfl|rfl<;>exact Ends.same (q U' pt old' D' hS hsp)
    .refine zfb (n:=n) (s:=s) (e:=(v.base+x*v.step,y*v.scale)) (G.push L) (zuQ hd) S hk (zf8 hday y1 (fAS (by decide) y2) (fAS y3 (by decide))) fun U' pt old' D' f l hS hsp hf=>?_
     rcases hf with rfl|rfl<;>exact Ends.same (q U' pt old' D' hS hsp)
   .exact Ends.same (q U a.pt old D S.mono rfl)
end
section
variable{P:Gq}{X:Cx}{n:Nat}{Q:zm}{Z:XP}{U:AHeap}
theorem zk7{r:Addr}{g:List zd}(h:U r=some (.list (g.map zz))){R:Bool->AHeap->Prop}(q:R true U):eqG (.ref r) (.lst (g.map zz)) R U:=by
 refine zb (zeu (U:=U) (k:=1) fun y hy=>(zcB g y hy).rd) fun ds r1 l1=>?_;have hf:Flat 2 (.lst (g.map zz)):=.lst (zcB g);have e:=(hf.eqv hf (.list ds) (.list ds) (.lst r1) (.lst r1)).mpr rfl;unfold eqG;exact zr (.list ds) (.list ds) (.list h r1) (.lst r1) (by simp only[PyData.depth];exact zCl l1) (by rw[e];exact q)
theorem zfe(G:Gd X (hK P))(hd:n<470){a:LA}{o:OA}{v:OV}{old:List zd}{D:Led}{k:Nat}(S:St U a o v old D k)(q:Q (.bool true) U):CallOk X 293 ⟨n,false⟩ [.ref a.self,.ref o.od,.int D.span] Q Z U:=by
 refine znn G (zuR hd) fun L=>?_;have I:=S.I;refine zbD (G.push L) (zCe hd) S.O.d rfl rfl S.O.b S.O.k I.ok.es I.ok.fs ?_;show zhm _ _ _ _ _ (D.grps.map gAV) _ _;refine zcN (β:=Unit) (g:=gAV) (fun xs _ l U'=>Sub U U'/\(∀g∈xs,g∈D.grps)/\∃u v w,l=[some (.ref a.self),some (.ref o.od),some (.int D.span),u,v,w]) (fun b _=>b) ?_ (b:=()) ?_ ⟨fun _ _ e=>e,fun g hg=>hg,_,_,_,rfl⟩
 .intro g xs _ l U' K hR1;refine zhb hR1 fun sb hx u w x e1_5=>?_;subst e1_5;intro hK;have hg:=hx g fB;have h8:=I.few g hg;have hne:=List.length_pos_iff.mpr (zna hg);have hL:=S.L.sub sb;have od:=sb _ _ S.O.d;refine zc _ rfl ?_;refine ji od (ze rfl ?_);refine qw (b:=zej ((g.map zz).length:Int)) (by unfold zej;rw[fC,G5 (zB8 hne)];rfl) ?_;refine zb (zdD (c:=v.base) (xs:=g.map zz) _ rfl (by rw[fC];exact zB7 hne)) fun z hz ez=>?_;refine zb (fO.mp hz) fun m hm e3_2=>?_;subst e3_2;refine ze ez ?_;refine zl hL.s hL.d ?_;obtain⟨k',hk'⟩:=fAB (zbm hg hm).1;refine zp (zdU D (m:=m) (k:=k') hk' (by have:=(zbm hg hm).2;exact zCI hk' this)) fun g' gs hh hg' hm'=>?_;have eg:g'=g:=jH hg' hg hm' hm;subst eg;refine zf9 (G.push L) (zsj hd) hL I.ok hh fun σ2 r s2 hr hr2=>?_;refine ze (a:=true) (by show (σ2 r).bind _=some true;rw[hr2];rfl) ?_;refine zk7 hr2 ?_;refine zo hr2 ?_;refine zo hr2 ?_;have hrσ:U r=none:=sb.none hr;have sb3:Sub U (σ2.set r (.list [])):=fun y z e=>zi (s2 _ _ (sb _ _ e)) (fun h=>by rw[h,hrσ] at e;cases e);have go:∀w x,True/\K [some (.ref a.self),some (.ref o.od),some (.int D.span),some (gAV g'),w,x] (σ2.set r (.list [])):=fun w x=>⟨trivial,hK _ _ ⟨sb3,fun g hg=>hx g (fA _ hg),_,_,_,rfl⟩⟩
  have hL3:=S.L.sub sb3;have od3:=sb3 _ _ S.O.d;have ob3:=sb3 _ _ S.O.b;have ok3:=sb3 _ _ S.O.k;have oc3:=sb3 _ _ S.O.c;refine zO (g:=zz) (fun y=>decide (y∈old)) zz (fun _=>rfl) (fun _ _=>rfl) (fun y _ R q=>ji od3 (ze rfl (inM (.inl rfl) q))) (fun y _ _ R q=>q) trivial (ze3 h8) ?_;refine zdt (k:=1) (fun x hx=>by refine zb (fO.mp hx) fun y _ e6_2=>?_;subst e6_2;exact zaD y) (by decide) ?_;rw[fCA];cases hem:(g'.filter fun y=>decide (y∈old)).isEmpty with
  | false=>exact go _ _
  | true=>
   have hcl:k7 D g':=S.cl g' hg fun y hy hyo=>by
    have:=fAU.mp (fBM.mp hem) y hy;exact this (G6 hyo)
   refine zd6 (G.push L) (zCc hd) hL3 I.ok hg h8 ?_;have hgo:=ko I.ok hg h8;refine zoG (G.push L) (zCd hd) od3 rfl rfl rfl ob3 ok3 oc3 I.ok hgo ?_;refine zpm (N:=(zcr D g').length) (G.push L) (fM _) (zCx hd h8) (fun m hm=>?_) ?_ ?_
   .have h1:=zcI I hg m ((zbg hgo).mp hm);exact⟨h1.2,zfs (qG hgo (jW ((zbg hgo).mp hm)).1).1.sm⟩
   .have l1:=zbq (kO (s:=false) hgo.few);have l2:=zbq (kO (s:=true) hgo.few);refine fN (zbk (c:=584) fun l _=>?_) (fN (gP 584 l1) (by decide));rw[fC];exact fN (gU ..) l2
   .rw[znX I hg];have:=zjk I hg hcl;refine zaX ?_ (go _ _);rw[fC,G6 (zCU this)];rfl
 .intro l U' hR2;refine zhb hR2 fun sb _ u w x e7_5=>?_;subst e7_5;exact Ends.drop sb q
end
section
variable{P:Gq}{X:Cx}{n:Nat}{Q:zm}{Z:XP}{U:AHeap}
theorem bit{x:Int}(h1:0<=x)(h2:x<2):x=0\/x=1:=by exact zDr h1 h2
theorem zhq(sp:Int):Led.grps ⟨[],[],sp,[],[]⟩=[]:=by
 have h2:inO [] []=[]:=fCH (by rw[zaw];rfl);unfold Led.grps grps;rw[h2];rfl
theorem zo4{sp:Int}(h0:0<=sp)(h1:sp<=30):Inv ⟨[],[],sp,[],[]⟩:=by
 refine⟨⟨⟨(fun _ h=>nomatch h),(fun _ h=>nomatch h),fW _⟩,⟨(fun _ h=>nomatch h),(fun _ h=>nomatch h),fW _⟩,⟨fW _,fW _⟩,(fun _ h=>nomatch h),(fun _ h=>nomatch h),fW _,fW _⟩,h0,h1,fun g h=>?_,(fun _ h=>nomatch h),.nil,(fun _ h=>nomatch h),(fun _ h=>nomatch h)⟩;rw[zhq] at h;cases h
structure Bd(U:AHeap)(r ob ok oc:Addr)(F:List (Nat×AV)):Prop where
 d:U r=some (.idict F)
 b:U ob=some (.list [])
 k:U ok=some (.list [])
 c:U oc=some (.list [])
 nd:[ob,ok,oc].Nodup
theorem Bd.put{r ob ok oc:Addr}{F:List (Nat×AV)}(B:Bd U r ob ok oc F)(F':List (Nat×AV)):Bd (U.set r (.idict F')) r ob ok oc F':=by
 have nr:∀{q:Addr},U q=some (.list [])->q≠r:=fun e h=>by rw[h,B.d] at e;cases e
 exact⟨AHeap.wA ..,zi B.b (nr B.b),zi B.k (nr B.k),zi B.c (nr B.c),B.nd⟩
theorem zjA{r ob ok oc:Addr}{F F':List (Nat×AV)}(B:Bd U r ob ok oc F){n:Nat}{x:AV}(hl:F.length<100)(e:jY F n x=F'){R:AHeap->Prop}(q:∀U',Bd U' r ob ok oc F'->R U'):zh9 r (.str n) x R U:=zcv B.d hl (q _ (e▸B.put _))
theorem Bd.new{r ob ok oc:Addr}(hr:U r=none)(hob:(U.set r (.idict [])) ob=none)(hok:((U.set r (.idict [])).set ob (.list [])) ok=none)(hoc:(((U.set r (.idict [])).set ob (.list [])).set ok (.list [])) oc=none) :
  Bd ((((U.set r (.idict [])).set ob (.list [])).set ok (.list [])).set oc (.list [])) r ob ok oc []:=by
 have r1:=zu (o':=.list []) (AHeap.wA U r (.idict [])) hob;have b1:((U.set r (.idict [])).set ob (.list [])) ob=some (.list []):=AHeap.wA ..;have b2:=zu (o':=.list []) b1 hok;have k2:(((U.set r (.idict [])).set ob (.list [])).set ok (.list [])) ok=some (.list []):=AHeap.wA ..;refine⟨zu (zu r1 hok) hoc,zu b2 hoc,zu k2 hoc,AHeap.wA ..,?_⟩;exact nd3.mpr ⟨⟨ky b1 hok,ky b2 hoc⟩,ky k2 hoc⟩
theorem zu8(c:Int):∃d:Int,jQ [AV.int 5,.int 20] (c.fmod 2)=some (.int d)/\(d=5\/d=20):=by
 refine zb (zdD (c:=c) (xs:=[AV.int 5,.int 20]) 2 rfl (by decide)) fun w hw ew=>?_
 rcases fF.mp hw with rfl|hw
 .exact zc 5 ew (.inl rfl)
 .rw[fG.mp hw] at ew;exact zc 20 ew (.inr rfl)
theorem zoi{i:Int}(c:Int):(small (c.fmod (10 ^ Int.toNat 8)).natAbs||small i.natAbs)=true:=zcD (fAS (by decide) (pE c (show (0:Int)<10 ^ Int.toNat 8 by decide))) (fAS (fCM (pR c (show (0:Int)<10 ^ Int.toNat 8 by decide))) (by decide))
theorem znY(ns:List Int){dy:Int}(hdy:dy=5\/dy=20):OVOk ⟨dy,1+((ns.getD 1 0).fdiv 2).fmod 2*((ns.getD 1 0).fdiv 4).fmod (10 ^ Int.toNat 8),((ns.getD 0 0).fdiv 390).fmod 9943,1+(ns.getD 14 0).fmod 3⟩:=by
 have s1:=pE ((ns.getD 1 0).fdiv 2) (show (0:Int)<2 by decide);have s2:=pR ((ns.getD 1 0).fdiv 2) (show (0:Int)<2 by decide);have s3:=pE ((ns.getD 1 0).fdiv 4) (show (0:Int)<10 ^ Int.toNat 8 by decide);have s4:=pR ((ns.getD 1 0).fdiv 4) (show (0:Int)<10 ^ Int.toNat 8 by decide);have t2:=pR ((ns.getD 0 0).fdiv 390) (show (0:Int)<9943 by decide);have u1:=pE (ns.getD 14 0) (show (0:Int)<3 by decide);have u2:=pR (ns.getD 14 0) (show (0:Int)<3 by decide);generalize ((ns.getD 1 0).fdiv 2).fmod 2=a at s1 s2 ⊢;generalize ((ns.getD 1 0).fdiv 4).fmod (10 ^ Int.toNat 8)=b at s3 s4 ⊢;refine⟨hdy,?_,⟨pE _ (by decide),zB0 t2⟩,⟨zBY u1,zBZ u2⟩⟩
 rcases bit s1 s2 with rfl|rfl
 .show 1<=1+0*b/\1+0*b<=100000000;rw[Int.zero_mul];decide
 .show 1<=1+1*b/\1+1*b<=100000000;rw[Int.one_mul];exact⟨fAE s3,Int.add_one_le_of_lt (a:=_) s4 |> (Int.add_comm 1 _▸·)⟩
def zpf(X:Cx):AS:=(A.cons (A.set 2 (A.dic [((A.k (.str 0)),(A.lst true [])),((A.k (.str 1)),(A.lst true [])),((A.k (.str 18)),(A.lst true [])),((A.k (.str 25)),(A.lst false [])),((A.k (.str 20)),(A.idx (A.lst false [(A.k (.int 5)),(A.k (.int 20))]) (A.bin false .Mod (A.wF X 256 [(A.loc 0),(A.k (.int 1))]) (A.k (.int 2))))),((A.k (.str 21)),(A.k (.int 1)))])) (A.cons (A.wS (A.bin false .Add (A.k (.int 1)) (A.bin false .Mult (A.bin false .Mod (A.bin false .FloorDiv (A.wF X 256 [(A.loc 0),(A.k (.int 1))]) (A.k (.int 2))) (A.k (.int 2))) (A.bin false .Mod (A.bin false .FloorDiv (A.wF X 256 [(A.loc 0),(A.k (.int 1))]) (A.k (.int 4))) (A.bin false .Pow (A.k (.int 10)) (A.k (.int 8)))))) (A.loc 2) (A.k (.str 21))) (A.cons (A.wS (A.bin false .Mod (A.bin false .FloorDiv (A.wF X 256 [(A.loc 0),(A.k (.int 0))]) (A.k (.int 390))) (A.k (.int 9943))) (A.loc 2) (A.k (.str 22))) (A.cons (A.wS (A.bin false .Add (A.k (.int 1)) (A.bin false .Mod (A.wF X 256 [(A.loc 0),(A.k (.int 14))]) (A.k (.int 3)))) (A.loc 2) (A.k (.str 24))) (A.cons (A.set 3 (A.new X 245 178 [(A.loc 1)])) (A.cons (A.fr (A.itP (A.wW false (A.loc 0) (some (A.k (.int 2))) (some (A.k (.int 13))))) (.one 4) (zhO X)) (A.cons (A.if_ (A.wT (A.wF X 293 [(A.loc 3),(A.loc 2),(A.loc 1)])) (A.cons (A.ret (A.k (.bool false))) A.nil) A.nil) (A.cons (A.ex (A.wO X 245 none 242 (A.loc 3) [])) (A.cons (A.wS (A.lst false []) (A.loc 2) (A.k (.str 25))) (A.cons (A.ret (A.wF X 293 [(A.loc 3),(A.loc 2),(A.loc 1)])) A.nil))))))))))
theorem zhF{L:Env}(G:Gd (X.push L) (hK P))(hd:n<440){ns:List Int}{sp:Int}(h0:0<=sp)(h1:sp<=30)(q:∀U',Q (.bool true) U'){x2 x3 x4:Option AV} :
  zpf (X.push L) ⟨n+1,false⟩ [some (.lst (ns.map .int)),some (.int sp),x2,x3,x4] (A.wK Q) (A.kEz Z) U:=by
 intro r hr ob hob ok hok oc hoc;have B:=Bd.new hr hob hok hoc;generalize ((((U.set r (.idict [])).set ob (.list [])).set ok (.list [])).set oc (.list []))=σ3 at B ⊢;refine jG G (zmp hd) (k:=1) ?_;refine zb (zu8 (ns.getD 1 0)) fun dy ew hdy=>?_;refine ze ew ?_;refine⟨B.d,ze (a:=[(0,.ref ob),(1,.ref ok),(18,.ref oc),(25,.lst []),(20,.int dy),(21,.int 1)]) rfl ?_⟩;have B:=B.put [(0,.ref ob),(1,.ref ok),(18,.ref oc),(25,.lst []),(20,.int dy),(21,.int 1)];generalize σ3.set r _=σ4 at B ⊢;refine jG G (zmp hd) (k:=1) ?_;refine jG G (zmp hd) (k:=1) ?_;refine qw (zoi _) ?_;refine zjA B (show 6<100 by decide) rfl fun σ5 B=>?_;refine jG G (zmp hd) (k:=0) ?_;refine zjA B (show 6<100 by decide) rfl fun σ6 B=>?_;refine jG G (zmp hd) (k:=14) ?_;refine zjA B (show 7<100 by decide) rfl fun σ7 B=>?_;have hv:=znY ns hdy;have hO:OAt σ7 ⟨r,ob,ok,oc⟩ ⟨dy,1+((ns.getD 1 0).fdiv 2).fmod 2*((ns.getD 1 0).fdiv 4).fmod (10 ^ Int.toNat 8),((ns.getD 0 0).fdiv 390).fmod 9943,1+(ns.getD 14 0).fmod 3⟩ [] ⟨[],[],sp,[],[]⟩:=⟨B.d,B.b,B.k,B.c,B.nd⟩
 generalize (⟨dy,1+((ns.getD 1 0).fdiv 2).fmod 2*((ns.getD 1 0).fdiv 4).fmod (10 ^ Int.toNat 8),((ns.getD 0 0).fdiv 390).fmod 9943,1+(ns.getD 14 0).fmod 3⟩:OV)=v at hv hO;have hoa:OA.od ⟨r,ob,ok,oc⟩=r:=rfl;rw[<-hoa];generalize (⟨r,ob,ok,oc⟩:OA)=o at hO ⊢;refine⟨(show n+1<590 by exact zmp hd),zrd G (zB9 hd) (show zm9 sp=true by unfold zm9;rw[G6 h0,G6 h1];rfl) fun σ8 a s8 fr hL=>?_⟩;have dis:∀x∈o.all,x∉a.all:=fun x hx hx'=>hO.some hx (fr x hx');have S0:St σ8 a o v [] ⟨[],[],sp,[],[]⟩ 0:=⟨hL,hO.keep (fun x _ z e=>s8 x z e) rfl rfl rfl,dis,zo4 h0 h1,fun g hg _=>(by rw[zhq] at hg;cases hg),fM _,fM _,fM _⟩
 have hcut:∃M:List Int,cut (ns.map AV.int) (some 2) (some 13)=M.map .int/\M.length<=13:=by
  refine zc ((ns.drop (clipAt (ns.map AV.int).length 2)).take (clipAt (ns.map AV.int).length 13-clipAt (ns.map AV.int).length 2)) (by unfold cut;rw[List.map_take,List.map_drop];rfl) ?_;have h13:=clipAt_min (n:=(ns.map AV.int).length) (y:=13) (by decide);rw[fC3];split at h13<;>(first|exact zC6 (by assumption) h13|exact zCN h13)
 refine zb hcut fun M hM hMl=>?_
 conv=>whnf
 rw[hM];refine zC (g:=AV.int) (fun xs b l U'=>(∃pt old D,St U' { a with pt:=pt } o v old D b/\D.span=sp)/\b+xs.length<=13/\∃u,l=[some (.lst (ns.map .int)),some (.int sp),some (.ref o.od),some (.ref a.self),u]) (fun b _=>b+1) ?_ (b:=0) ?_ (kq (qU a.pt [] _ S0 rfl) (by rw[fBL];exact hMl) _ rfl)
 .intro c xs b l U' K S_ hR1;refine qN hR1 fun h2_0 hb u e2_3=>?_;obtain⟨pt,old,D,S,hsp⟩:=h2_0;subst e2_3;intro hK;rw[fH] at hb;refine zc _ rfl ?_;subst hsp;refine zoQ (a:={ a with pt:=pt }) G (zsi hd) S hv (zCt hb) fun σ2 pt2 old2 D2 S2 hsp2=>?_;exact⟨trivial,hK _ _ (kq (qU pt2 old2 D2 S2 hsp2) (zCs hb) _ rfl)⟩
 .intro l U' hR2;refine qN hR2 fun h3_0 hb u e3_3=>?_;obtain⟨pt,old,D,S,hsp⟩:=h3_0;subst e3_3;subst hsp;refine zfe (a:={ a with pt:=pt }) G (zsi hd) S ?_;refine zl S.L.s S.L.d ?_;refine zgV (a:={ a with pt:=pt }) G (zCa hd) S.L S.I fun σ3 pt3 fr3 hpt3 hL3=>?_;have hO3:OAt σ3 o v old D.again:=S.O.keep (fun y hy z e=>fr3 y z (fun h=>S.dis y hy (h▸zmV _)) e) rfl rfl rfl;have dis3:=ziZ S.O S.dis hpt3;refine zcv hO3.d (show 8<100 by decide) ?_;have e0:jY (zcs o v old) 25 (.lst [])=zcs o v []:=rfl;rw[e0];have hO4:=hO3.old [];have hL4:=hL3.other (o:=.idict (zcs o v [])) (dis3 o.od (zh2 o));generalize σ3.set o.od (.idict (zcs o v []))=σ4 at hO4 hL4 ⊢;refine zfe (a:={ a with pt:=pt3 }) (D:=D.again) G (zsi hd) ⟨hL4,hO4,dis3,ze5 S.I,fun g hg _=>zc5 S.I hg,S.few,S.clk,fW _⟩ ?_;exact Ends.same (q _)
theorem law_ok(G:Gd X (hK P))(hd:n<400){ns:List Int}(q:∀U',Q (.bool true) U'):CallOk X 300 ⟨n,false⟩ [.lst (ns.map .int)] Q Z U:=by
 refine zsT G (zv8 hd) fun L=>?_;have G':=G.push L;refine jG G' (zrK hd) (k:=0) ?_;refine jG G' (zrK hd) (k:=0) ?_;generalize ns.getD 0 0=c0;have a1:=pE c0 (show (0:Int)<5 by decide);refine kh (fun h=>?_) fun h=>?_
 .refine jG G' (zrK hd) (k:=0) ?_;have b1:=pE ((ns.getD 0 0).fdiv 15) (show (0:Int)<26 by decide);have b2:=pR ((ns.getD 0 0).fdiv 15) (show (0:Int)<26 by decide);exact zhF G' (zuP hd) (zBX b1) (Int.add_le_add_left (Int.le_sub_one_of_lt b2) 5) q
 .have a2:=pR c0 (show (0:Int)<5 by decide);exact zhF G' (zuP hd) a1 (fAS (fCM a2) (by decide)) q
end
end Mine.Internal
open PySem PySem.W PyProof.Rows
theorem PySem.Challenge.cw_uf060002_09_holds : PySem.Challenge.rw_uf060002_09.Holds := by
 refine Mine.Internal.hd ?_;intro w s₀ s₁ mg mb G Yb fa o pm cd doc dV kV ho hd hcd hD hmg hg args vals as hpre hlay hrd hwl hlo;have KX:=kIn_of Yb;refine Ground.open G ?_;intro T B D TE TW;have hfa:=mg_of KX T.g (n:="law") (v:=.ref 300) (by kernel_rfl);rw[Mine.Internal.dL_name,hfa] at hmg;cases hmg
 wrow_args hpre hlay hrd hwl hlo
 refine enter_call ?_;refine codeAny_mono ?_ (fun _ _ g=>GoodW.toG g);refine Mine.Internal.head_of (K:=Mine.Internal.hK w.params) ⟨⟨T.g,T.b,T.nolimit⟩,KX,T.builtins⟩ (by assumption) (by assumption) (by omega) hg (fun _=>rfl) ?post ?_
 case post=>exact postW_of rfl (w_eq_bool rfl rfl) rfl
 intro Q Z U q;exact Mine.Internal.law_ok ⟨⟨T.g,T.b,T.nolimit⟩,KX,T.builtins⟩ (by omega) q
