import PyProof.Rows.All
import Wide.All
import Wide.FinOn
import Open.Line
import PyProof.TupleOfStr
import KE.KSortTup
import PyProof.ExcBaseAll.ValueError
import PyProof.ExcAttrAll.ValueError
import OpenK.KCls
import PyProof.ExcInit
import PyProof.InstStoreFacts
import PyProof.CodeObjX
import PyProof.DefMake
import PyProof.Rows.PlainStore
import PyProof.OldK
import PySem.Challenge.RW_uf020024_10
set_option Elab.async false
set_option compiler.extract_closed false
set_option compiler.reuse false
set_option linter.all false
set_option tactic.hygienic false
set_option genSizeOf false
set_option backward.match.sparseCases false
set_option genInjectivity false
set_option bootstrap.genMatcherCode false
open Option.some renaming inj->ah
open Nat renaming le_trans->aB,le_refl->aN,le_of_lt->bY,lt_of_le_of_lt->b0,ne_of_lt->cj,lt_trans->cw,lt_of_lt_of_le->dg,zero_le->dF,eq_of_beq_eq_true->dZ,le_of_not_lt->eP,lt_irrefl->eI,le_add_right->fM,le_of_eq->gk,le_succ_of_le->ir
open List renaming length_map->aG,mem_cons_self->aL,mem_singleton->aV,mem_cons_of_mem->a9,mem_cons->bc,getElem?_eq_getElem->bp,length_append->bG,getElem?_map->bL,getD_eq_getElem?_getD->ck,mem_append->cE,mem_of_getElem?->cD,lookup_cons->cW,length_range->dj,map_append->du,all_eq_true->dQ,forall_mem_cons->eD,map_cons->er,append_assoc->eH,length_cons->eU,mem_range->eZ,append_nil->fA,length_set->fW,not_mem_nil->gq,isEmpty_iff->gj,getElem?_eq_some_iff->gG,getElem?_set_self->iz,map_map->ib,length_take->gP,length_drop->hZ,getElem?_append_right->iE,getElem?_set_ne->iF,length_eq_zero_iff->iG,getElem?_eq_none->iP,getElem?_append_left->jd,getElem?_range->mO,nodup_cons->mT,mem_append_right->kE,prefix_rfl->nv,drop_eq_getElem_cons->qC,mem_of_find?_eq_some->rh,mem_iff_getElem?->rg,set_eq_take_append_cons_drop->wG
open Int renaming ofNat_lt->bW,ofNat_le->dO,natCast_nonneg->hV,toNat_natCast->pn
open Bool renaming and_eq_true_iff->eQ,false_eq_true->gw,not_eq_true'->iu,or_eq_true_iff->nD
open Array renaming length_toList->e9,getElem?_eq_getElem->qa,getElem?_toList->sL
open Option renaming isNone_iff_eq_none->jw,bind_eq_some_iff->uJ,isSome_iff_exists->tG
open PySem renaming wpAny_bind->ai,wpAny_pure->aC,wpAny_mono->a8,NameKind->aT,sizeLine->qag,wpAny_loadPart_at->dK,wpAny_holding->de,mainGlobals->c8,callEnvC->bX,cellsFrom->dD,pushCells->dB,mem_of_lookup->fT,wpAny_newObj_type->nC,wpAny_standAt->i5,starEach->eL,relabel->ey,builtinLookup_eq_fast->vV,wpAny_of_eq->mX,FuncData->qbe,call_isinstance->rU,codeAny_call_builtin->vJ,Program->qbj,wpAny_truthy_bool->uF,DictEntry->iJ,wpAny_call_entry->tO,newFunctionEnv->qN,builtinsNs->nr,pushCells_keeps->uU,foldedSetIterable->vw,wpAny_loadName_local->xE,wpAny_field->qu,typeLookup_type->vO,typeLookup->o7,wpAny_point->rH,excClassObj->qY,codeAny_mono->sJ,checkBuiltinCall->xr,opaqueClassAbove->xc,wpAny_isSubtype_exc->Ah
open PySem.Str renaming ofString->ao
open PySem.Heap renaming get?_push_of_some->bV,get?_push_size->dw,get?_none_of_le->fz,get?_update_self->gc,lt_size->f9,get?_update_other->rq,SameBut->iy,size_push->qG,get?_update_ne->xF
open PySem.NameKind renaming cell->qaj,free->eG
open PySem.Value renaming ref->cF,none->dI,builtin->iN,type->jc
open PySem.Obj renaming dropNameByArray->jm,putNameByArray->mR,dropName_eq->je,putName_eq->jE,mapFields->rp,mapSeq->nE
open PySem.PyData renaming strOk->fD
open Ne renaming symm->cS
open PySem.Heap.SameBut renaming update->qo
open PyProof.Rows renaming DefItem->ez
open ForInStep renaming yield->rC
open PySem.Builtin.Range renaming rangeSize->xP,small->yU
open PySem.F renaming isi_meta_tuple->uy,isi_meta_bool->sP,isi_meta_list->su,isi_meta_int->sA,isi_meta_str->tV
open Prod.mk renaming inj->qt
open PySem.Value.ref renaming inj->tB
namespace Bn
def xB{α β:Type _}{o:Option α}{f:α->Option β}{b:β}{G:Prop}(k:∀a,o=some a->f a=some b->G)(h:o.bind f=some b):G:=let⟨a,p,q⟩:=uJ.mp h;k a p q
def xM{α β:Type _}{o:Option α}{f:α->β}{b:β}{G:Prop}(k:∀a,o=some a->f a=b->G)(h:o.map f=some b):G:=let⟨a,p,q⟩:=Option.map_eq_some_iff.mp h;k a p q
def xA{a b:Bool}{G:Prop}(k:a=true->b=true->G)(h:(a&&b)=true):G:=let⟨p,q⟩:=eQ.mp h;k p q
def xL{α β:Type _}{f:α->β}{l:List α}{b:β}{G:Prop}(k:∀a,a∈l->f a=b->G)(h:b∈l.map f):G:=let⟨a,p,q⟩:=List.mem_map.mp h;k a p q
def xS{α:Type}{p:Prop} [Decidable p]{a b:α}{G:Prop}(k:p->a=b->G)(h:(if p then some a else none)=some b):G:=if hp:p then k hp (ah ((if_pos hp).symm.trans h)) else nomatch (if_neg hp).symm.trans h
def xO{α:Type}{p:Prop} [Decidable p]{o:Option α}{b:α}{G:Prop}(k:p->o=some b->G)(h:(if p then o else none)=some b):G:=if hp:p then k hp ((if_pos hp).symm.trans h) else nomatch (if_neg hp).symm.trans h
def wm{M:PySem.Model}{A:PySem.Around}{E:PySem.Value->PySem.Shared->Prop}{s:PySem.Shared}{α:Type}{t:PySem.Sem α}{Q R:α->PySem.Shared->Prop}(h:PySem.wpAny M A t Q E s)(k:∀a s,Q a s->R a s):PySem.wpAny M A t R E s:=PySem.wpAny_mono h k fun Z Z h=>h
end Bn
namespace Bn
@[elab_as_elim] theorem xC {α:Type _} {motive:Option α->Prop} (o:Option α) (k:o=none->motive none) (l:∀a,o=some a->motive (some a)):motive o:=match o with
 |none=>k rfl
 |some a=>l a rfl
@[elab_as_elim] theorem xD {motive:Bool->Prop} (o:Bool) (k:o=true->motive true) (l:o=false->motive false):motive o:=match o with
 |true=>k rfl
 |false=>l rfl
def cq{α:Type _}{a:α}{P:Prop}(h:none=some a):P:=nomatch h
def Eu{α:Type _}{a:α}{P:Prop}(h:some a=none):P:=nomatch h
end Bn
namespace Bn
@[elab_as_elim] theorem rw1 {α:Sort u} {b:α} {motive:α->Prop} {a:α} (h:a=b) (x:motive b):motive a:=h▸x
@[elab_as_elim] theorem rw2 {α:Sort u} {a:α} {motive:α->Prop} {b:α} (h:a=b) (x:motive a):motive b:=h▸x
end Bn
local macro_rules | `(tactic| rw[$rs,*])=>do
 let ts<-rs.getElems.mapM fun r=>do
  let h:Lean.Term:=⟨r.raw[1]⟩
  let n:=Lean.mkIdent (if r.raw[0].isNone then `Bn.rw1 else `Bn.rw2)
  `(tactic| first |refine $n ($h ..) ?_ |rewrite [$r])
 `(tactic| ($[$ts]*;try with_reducible rfl))
section
open PySem PySem.W PySem.Calls PyProof.Rows
set_option maxRecDepth 100000
set_option maxHeartbeats 8000000
namespace Bn
noncomputable def kids:List Str:=["BadNet","BadLines","BadThing","BadKind","NoNet"]
noncomputable def cu:List Value:=[.type "ValueError",.type "Exception",.type "BaseException",.type "object"]
noncomputable def zd0:List Str:=["__getattribute__","__getattr__","__class__","at","__setattr__"]
noncomputable def oE(h:Heap)(name:Str)(bm:List Value)(ini:Bool):Bool:=match h.clsAt c8 name with
 |some (C,o,cd)=>decide (o.cls=.type "type")&&(decide (cd.mro=.ref C::bm)&&(!cd.hasDel&&(cd.hasDict&&(decide (o.slots.size=6)&&(decide (o.slots[4]?=some (some (.builtin "ValueError.__new__")))&&(h.isNs cd.ns&&(zd0.all (fun n=>(h.nsMap cd.ns n).isNone)&&(!ini||(h.nsMap cd.ns "__init__").isNone))))))))
 |none=>false
noncomputable def iv:Option Value->Option Addr
 |some (.ref a)=>some a
 |_=>none
noncomputable def zH{α:Type} [DecidableEq α]:List α->Bool
 |[]=>true
 |x::r=>decide (x∉r)&&zH r
noncomputable def tj(h:Heap):Bool:=h.isNs c8&&(match iv (h.nsMap c8 (ao "NetError")) with
 |some NE=>oE h (ao "NetError") cu true&&(kids.all (fun cn=>oE h cn (.ref NE::cu) (decide (cn≠ao "BadNet")))&&zH (.ref NE::kids.map fun cn=>(h.nsMap c8 cn).getD .none))
 |none=>false)
noncomputable def AY(p1 apos p2 p3 pos p4 p5 p6 p7 p8:Pos)(k:Nat):List Stmt:=
 [.Expr (.Call (.Attribute (.Name "NetError" p1) "__init__" apos) [.Name "self" p2,.Constant (.str "no net") k p3] [] pos) p4,.Assign [.Attribute (.Name "self" p5) "at" p6] (.Name "at" p7) p8]
noncomputable def z8:List (Str×aT):=[(ao "self",.local),(ao "at",.local),(ao "NetError",.globalImplicit)]
noncomputable def Av (p:qbj):List Stmt:=(p.main.body.findSome? fun st=>match st with
 |.ClassDef nm _ _ body _ _ _ _ _ _ _=>if nm=ao "BadNet" then(match body with |.FunctionDef _ _ b _ _ _ _ _ _ _::_=>some b |_=>none) else none
 |_=>none).getD []
structure fk where
 p1:Pos
 apos:Pos
 p2:Pos
 p3:Pos
 pos:Pos
 p4:Pos
 p5:Pos
 p6:Pos
 p7:Pos
 p8:Pos
 k:Nat
noncomputable def Aq:List Stmt->Option fk
 |[.Expr (.Call (.Attribute (.Name _ p1) _ apos) [.Name _ p2,.Constant _ k p3] _ pos) p4,.Assign [.Attribute (.Name _ p5) _ p6] (.Name _ p7) p8]=>some ⟨p1,apos,p2,p3,pos,p4,p5,p6,p7,p8,k⟩
 |_=>none
noncomputable def fk.body(q:fk):List Stmt:=AY q.p1 q.apos q.p2 q.p3 q.pos q.p4 q.p5 q.p6 q.p7 q.p8 q.k
noncomputable def tT(p:qbj):Option FuncBody:=(Aq (Av p)).map fun q=>.stmts q.body
noncomputable def vT(p:qbj):Bool:=((Aq (Av p)).map fun q=>q.apos.endLine==q.pos.line).getD false
noncomputable def rJ(q:Str)(v:Option Value):Bool:=match v with
 |some (Value.str y _)=>decide (y=q)
 |_=>false
noncomputable def nQ(q:Str)(o:Obj):Bool:=match o.data with
 |.fields vs=>rJ q vs[1]?
 |_=>false
noncomputable def qS(h:Heap)(cd:Value)(q:Str):Bool:=match cd with
 |.ref c=>((h.get? c).map (nQ q)).getD false
 |_=>false
noncomputable def jS:Value->Bool
 |.none=>true
 |_=>false
noncomputable def FH(h:Heap)(o:Obj)(fd:qbe):Bool:=
 decide (o.cls=.type "function")&&(qS h fd.code fd.qualname&&(decide (fd.closure=[])&&(decide (fd.globals=c8/\fd.builtins=nr/\fd.scope.kind=.function/\fd.scope.isCoroutine=false/\fd.scope.isGenerator=false/\fd.scope.names=z8) &&
  (jS fd.defaults&&(jS fd.kwdefaults&&(fd.params.posonlyargs.isEmpty&&(fd.params.kwonlyargs.isEmpty&&(fd.params.vararg.isNone&&(fd.params.kwarg.isNone&&decide (fd.params.args.map (·.arg)=[ao "self",ao "at"]))))))))))
noncomputable def sX(h:Heap)(o:Obj):Option FuncBody:=match o.data with
 |.func fd=>if FH h o fd=true then some fd.body else none
 |_=>none
noncomputable def qe(h:Heap):Option FuncBody:=match h.clsAt c8 (ao "BadNet") with
 |some (_,_,cd)=>(iv (h.nsMap cd.ns "__init__")).bind fun f=>(h.get? f).bind fun o=>if h.isNs cStatics=true/\h.nsMap cStatics "thirdparty.any"=none then sX h o else none
 |none=>none
noncomputable def yF:qbj:={ Challenge.rw_uf020024_10.row.prog with main:={ Challenge.rw_uf020024_10.row.prog.main with body:=([1,2,3,4,5,6,8,9,10,11,12,13,14,15,16,17,18,19,20,21,22,24,25,26,27,28,29,30,31,32,33,34,36,38,39,40,41,42,43,44,45,46,47,48,49,50,51,52,53]:List Nat).filterMap fun i=>Challenge.rw_uf020024_10.row.prog.main.body[i]? } }
def wZ:vT Challenge.rw_uf020024_10.row.prog=true:=by kernel_rfl
def uz:Challenge.rw_uf020024_10.wellSaid=true:=by kernel_rfl
def um:LeftO Challenge.rw_uf020024_10.row.prog yF [] (fun s=>xlAt yF [] s&&recOk (RowW.records Challenge.rw_uf020024_10.row.toRowW) s) (fun s=>(tj s.heap,qe s.heap)) (fun Z=>(true,tT Challenge.rw_uf020024_10.row.prog)) 8000:=by intro w;kernel_rfl
end Bn
end
namespace Ar
inductive Nd where
 |l (k:Nat) |v (i:Nat) |b (t:Nat)(x y:Nd)
noncomputable def yB{α:Type}(z:α)(l:List α):Nat->α:=List.rec (fun Z=>z) (fun x Z ih i=>Nat.rec x (fun j Z=>ih j) i) l
noncomputable def vN(c:List Nat)(e:Nd):Nat:=
 (fun _:Nat=>Nd.rec (fun k=>k) (fun i=>List.rec (fun Z=>0) (fun x Z ih i=>Nat.rec x (fun j Z=>ih j) i) c i) (fun t Z Z X Y=>cond (t.beq 0) (X+Y) (cond (t.beq 1) (X*Y) (cond (t.beq 2) (X-Y) (cond (t.beq 3) (X/Y) (cond (t.beq 4) (X%Y) (min X Y)))))) e) PySem.sizeLine
noncomputable def vZ(c:List Nat)(z:List Int)(e:Nd):Int:=
 Nd.rec (fun k=>(k:Int)) (fun i=>yB 0 z i) (fun t x Z X Y=>cond (t.beq 0) (X+Y) (cond (t.beq 1) (X*Y) (cond (t.beq 2) (X-Y) (cond (t.beq 3) (-X) ((vN c x:Nat):Int))))) e
def vP(c:List Nat)(z:List Int)(e:Nd):Prop:=
 Nd.rec (fun Z=>False) (fun Z=>False) (fun t x y X Y=>cond (t.beq 0) (vN c x<=vN c y) (cond (t.beq 1) (vN c x<vN c y) (cond (t.beq 2) (vN c x=vN c y)
  (cond (t.beq 3) (vZ c z x<=vZ c z y) (cond (t.beq 4) (vZ c z x<vZ c z y) (cond (t.beq 5) (vZ c z x=vZ c z y)
  (cond (t.beq 6) (X/\Y) (cond (t.beq 7) (X\/Y) (¬X))))))))) e
noncomputable def same(e:Nd):Nd->Bool:=
 Nd.rec (fun k f=>Nd.rec (fun j=>k.beq j) (fun Z=>false) (fun Z Z Z Z Z=>false) f) (fun k f=>Nd.rec (fun Z=>false) (fun j=>k.beq j) (fun Z Z Z Z Z=>false) f)
  (fun t Z Z X Y f=>Nd.rec (fun Z=>false) (fun Z=>false) (fun u x y Z Z=>cond (t.beq u) (cond (X x) (Y y) false) false) f) e
theorem F6(e:Nd):∀f,same e f=true->e=f:=by
 induction e with
 |l k=>intro f h;cases f with
  |l j=>rw[dZ h]
  |v j=>exact nomatch h
  |b t x y=>exact nomatch h
 |v k=>intro f h;cases f with
  |l j=>exact nomatch h
  |v j=>rw[dZ h]
  |b t x y=>exact nomatch h
 |b t x y ihx ihy=>intro f h;cases f with
  |l j=>exact nomatch h
  |v j=>exact nomatch h
  |b u x' y'=>
   replace h:cond (t.beq u) (cond (same x x') (same y y') false) false=true:=h;refine Bn.xD (t.beq u) (fun h1=>?_) fun h1=>?_
   ·rw[h1] at h;replace h:cond (same x x') (same y y') false=true:=h;refine Bn.xD (same x x') (fun h2=>?_) fun h2=>?_
    ·rw[h2] at h;rw[dZ h1,ihx _ h2,ihy _ h]
    ·rw[h2] at h;exact nomatch h
   ·rw[h1] at h;exact nomatch h
abbrev Lin:=List (Int×Bool×Nd)
section
variable (c:List Nat)(z:List Int)
noncomputable def dX(s:Bool)(a:Nd):Int:=cond s (vN c a:Int) (vZ c z a)
noncomputable def val(l:Lin):Int:=List.rec 0 (fun p Z ih=>p.1*dX c z p.2.1 p.2.2+ih) l
noncomputable def put (k:Int) (s:Bool) (a:Nd) (l:Lin):Lin:=List.rec [(k,s,a)] (fun p r ih=>cond (cond (s==p.2.1) (same a p.2.2) false) ((k+p.1,s,a)::r) (p::ih)) l
theorem oR (k:Int) (s:Bool) (a:Nd) (l:Lin):val c z (put k s a l)=k*dX c z s a+val c z l:=by
 induction l with
 |nil=>rfl
 |cons p r ih=>
  show val c z (cond (cond (s==p.2.1) (same a p.2.2) false) ((k+p.1,s,a)::r) (p::put k s a r))=k*dX c z s a+(p.1*dX c z p.2.1 p.2.2+val c z r);refine Bn.xD (cond (s==p.2.1) (same a p.2.2) false) (fun h=>?_) fun h=>?_
  ·refine Bn.xD (s==p.2.1) (fun h1=>?_) fun h1=>?_
   ·rw[h1] at h;show(k+p.1)*dX c z s a+val c z r=_;rw[<- eq_of_beq h1,<-F6 _ _ h,Int.add_mul,Int.add_assoc]
   ·rw[h1] at h;exact nomatch h
  ·show p.1*dX c z p.2.1 p.2.2+val c z (put k s a r)=_;rw[ih];exact Int.add_left_comm ..
noncomputable def cO(e:Nd):Option Nat:=Nd.rec some (fun Z=>none) (fun Z Z Z Z Z=>none) e
theorem AH{e:Nd}{n:Nat}(h:cO e=some n):e=.l n:=by
 cases e with
 |l k=>rw[ah h]
 |v _=>exact nomatch h
 |b _ _ _=>exact nomatch h
noncomputable def bQ(e:Nd):Int->Lin->Lin:=
 Nd.rec (fun n k L=>put (k*n) true (.l 1) L) (fun i k L=>put k true (.v i) L)
  (fun t x y X Y k L=>cond (t.beq 0) (X k (Y k L)) (cond (t.beq 1) (Option.rec (Option.rec (put k true (.b t x y) L) (fun n=>X (k*n) L) (cO y)) (fun n=>Y (k*n) L) (cO x)) (put k true (.b t x y) L))) e
theorem AF(e:Nd):∀k L,val c z (bQ e k L)=k*(vN c e:Int)+val c z L:=by
 induction e with
 |l n=>intro k L;exact(oR c z _ _ _ _).trans (by show k*n*((1:Nat):Int)+_=_;rw[Int.natCast_one,Int.mul_one];rfl)
 |v i=>intro k L;exact oR c z _ _ _ _
 |b t x y X Y=>
  intro k L;show val c z (cond (t.beq 0) (bQ x k (bQ y k L)) (cond (t.beq 1) (Option.rec (Option.rec (put k true (.b t x y) L) (fun n=>bQ x (k*n) L) (cO y)) (fun n=>bQ y (k*n) L) (cO x)) (put k true (.b t x y) L)))=_;refine Bn.xD (t.beq 0) (fun h0=>?_) fun h0=>?_
  ·obtain rfl:=dZ h0;show val c z (bQ x k (bQ y k L))=k*((vN c x+vN c y:Nat):Int)+_;rw[X,Y,Int.natCast_add,Int.mul_add,Int.add_assoc]
  ·refine Bn.xD (t.beq 1) (fun h1=>?_) fun h1=>?_
   ·obtain rfl:=dZ h1;show val c z (Option.rec (Option.rec (put k true (.b 1 x y) L) (fun n=>bQ x (k*n) L) (cO y)) (fun n=>bQ y (k*n) L) (cO x))=k*((vN c x*vN c y:Nat):Int)+_;refine Bn.xC (cO x) (fun hx=>?_) fun n hx=>?_
    ·refine Bn.xC (cO y) (fun hy=>?_) fun n hy=>?_
     ·exact oR c z _ _ _ _
     ·rw[AH hy];show val c z (bQ x (k*n) L)=k*((vN c x*n:Nat):Int)+_;rw[X,Int.natCast_mul,Int.mul_assoc,Int.mul_comm (n:Int)]
    ·rw[AH hx];show val c z (bQ y (k*n) L)=k*((n*vN c y:Nat):Int)+_;rw[Y,Int.natCast_mul,Int.mul_assoc]
   ·exact oR c z _ _ _ _
noncomputable def bH(e:Nd):Int->Lin->Lin:=
 Nd.rec (fun n k L=>put (k*n) true (.l 1) L) (fun i k L=>put k false (.v i) L)
  (fun t x y X Y k L=>cond (t.beq 0) (X k (Y k L)) (cond (t.beq 2) (X k (Y (-k) L)) (cond (t.beq 3) (X (-k) L) (cond (t.beq 4) (bQ x k L)
   (cond (t.beq 1) (Option.rec (put k false (.b t x y) L) (fun n=>Y (k*n) L) (cO x)) (put k false (.b t x y) L)))))) e
theorem Fa(e:Nd):∀k L,val c z (bH e k L)=k*vZ c z e+val c z L:=by
 induction e with
 |l n=>intro k L;exact(oR c z _ _ _ _).trans (by show k*n*((1:Nat):Int)+_=_;rw[Int.natCast_one,Int.mul_one];rfl)
 |v i=>intro k L;exact oR c z _ _ _ _
 |b t x y X Y=>
  intro k L;show val c z (cond (t.beq 0) (bH x k (bH y k L)) (cond (t.beq 2) (bH x k (bH y (-k) L)) (cond (t.beq 3) (bH x (-k) L) (cond (t.beq 4) (bQ x k L)
   (cond (t.beq 1) (Option.rec (put k false (.b t x y) L) (fun n=>bH y (k*n) L) (cO x)) (put k false (.b t x y) L))))))=_
  cases h0:t.beq 0 with
  |true=>
   obtain rfl:=dZ h0;show val c z (bH x k (bH y k L))=k*(vZ c z x+vZ c z y)+_;rw[X,Y,Int.mul_add,Int.add_assoc]
  |false=>
  cases h2:t.beq 2 with
  |true=>
   obtain rfl:=dZ h2;show val c z (bH x k (bH y (-k) L))=k*(vZ c z x-vZ c z y)+_;rw[X,Y,Int.mul_sub,Int.sub_eq_add_neg,Int.neg_mul,Int.add_assoc]
  |false=>
  cases h3:t.beq 3 with
  |true=>
   obtain rfl:=dZ h3;show val c z (bH x (-k) L)=k*(- vZ c z x)+_;rw[X,Int.neg_mul,Int.mul_neg]
  |false=>
  cases h4:t.beq 4 with
  |true=>
   obtain rfl:=dZ h4;exact AF c z x k L
  |false=>
  refine Bn.xD (t.beq 1) (fun h1=>?_) fun h1=>?_
  ·obtain rfl:=dZ h1;show val c z (Option.rec (put k false (.b 1 x y) L) (fun n=>bH y (k*n) L) (cO x))=k*(vZ c z x*vZ c z y)+_;refine Bn.xC (cO x) (fun hx=>?_) fun n hx=>?_
   ·exact oR c z _ _ _ _
   ·rw[AH hx];show val c z (bH y (k*n) L)=k*((n:Int)*vZ c z y)+_;rw[Y,Int.mul_assoc]
  ·exact oR c z _ _ _ _
noncomputable def i0(k:Int)(s:Bool)(d:Int)(x y:Nd)(L:Lin):Lin:=put (k*d) true (.l 1) (cond s (bQ y k (bQ x (-k) L)) (bH y k (bH x (-k) L)))
def Dr(k:Int)(s:Bool)(d:Int)(x y:Nd)(L:Lin):val c z (i0 k s d x y L)=k*(d+(dX c z s y-dX c z s x))+val c z L:=by
 refine(oR c z _ _ _ _).trans ?_;have e:val c z (cond s (bQ y k (bQ x (-k) L)) (bH y k (bH x (-k) L)))=k*(dX c z s y-dX c z s x)+val c z L:=by
  rw[Int.mul_sub,Int.sub_eq_add_neg,<-Int.neg_mul,Int.add_assoc] at ⊢;cases s
  ·exact(Fa c z _ _ _).trans (congrArg _ (Fa c z _ _ _))
  ·exact(AF c z _ _ _).trans (congrArg _ (AF c z _ _ _))
 rw[e,show dX c z true (.l 1)=1 from rfl,Int.mul_one,Int.mul_add,Int.add_assoc] at ⊢
noncomputable def ig(f:Nd):Option (Bool×Bool×Int×Nd×Nd):=
 Nd.rec (fun Z=>none) (fun Z=>none) (fun t x y Z Z=>cond (t.beq 0) (some (false,true,0,x,y)) (cond (t.beq 1) (some (false,true,-1,x,y)) (cond (t.beq 2) (some (true,true,0,x,y))
  (cond (t.beq 3) (some (false,false,0,x,y)) (cond (t.beq 4) (some (false,false,-1,x,y)) (cond (t.beq 5) (some (true,false,0,x,y)) (cond (t.beq 8)
   (Nd.rec (fun Z=>none) (fun Z=>none) (fun t x y Z Z=>cond (t.beq 0) (some (false,true,-1,y,x)) (cond (t.beq 1) (some (false,true,0,y,x)) (cond (t.beq 3) (some (false,false,-1,y,x)) (cond (t.beq 4) (some (false,false,0,y,x)) none)))) x)
   none))))))) f
variable {c z} in
def fy{α:Type}{b:Bool}{x y:α}{P:Prop}{a:α}(h1:b=true->x=a->P)(h2:b=false->y=a->P)(h:cond b x y=a):P:=by
 cases b
 ·exact h2 rfl h
 ·exact h1 rfl h
def Sh(q s:Bool)(d:Int)(x y:Nd):Prop:=(q=true->d+(dX c z s y-dX c z s x)=0)/\0<=d+(dX c z s y-dX c z s x)
def ik{s:Bool}{x y:Nd}(h:dX c z s x<=dX c z s y):Sh c z false s 0 x y:=⟨nofun,by rw[Int.zero_add];exact Int.sub_nonneg_of_le h⟩
def gN{s:Bool}{x y:Nd}(h:dX c z s x<dX c z s y):Sh c z false s (-1) x y:=⟨nofun,by rw[Int.add_comm];exact Int.sub_nonneg_of_le (Int.sub_pos_of_lt h)⟩
def qZ{s:Bool}{x y:Nd}(h:dX c z s x=dX c z s y):Sh c z true s 0 x y:=⟨fun Z=>by rw[h,Int.sub_self];rfl,by rw[h,Int.sub_self];decide⟩
theorem lS{f:Nd}{p:Bool×Bool×Int×Nd×Nd}(h:ig f=some p)(hf:vP c z f):Sh c z p.1 p.2.1 p.2.2.1 p.2.2.2.1 p.2.2.2.2:=by
 cases f with
 |l _=>exact nomatch h
 |v _=>exact nomatch h
 |b t a b=>
  revert h;refine fy (fun e h=>?_) fun Z=>fy (fun e h=>?_) fun Z=>fy (fun e h=>?_) fun Z=>fy (fun e h=>?_) fun Z=>fy (fun e h=>?_) fun Z=>fy (fun e h=>?_) fun Z=>fy (fun e h=>?_) fun Z h=>nomatch h;all_goals obtain rfl:=dZ e
  ·rw[<- ah h];exact ik c z (s:=true) (dO.mpr hf)
  ·rw[<- ah h];exact gN c z (s:=true) (bW.mpr hf)
  ·rw[<- ah h];exact qZ c z (s:=true) (congrArg Int.ofNat hf)
  ·rw[<- ah h];exact ik c z (s:=false) hf
  ·rw[<- ah h];exact gN c z (s:=false) hf
  ·rw[<- ah h];exact qZ c z (s:=false) hf
  ·cases a with
   |l _=>exact nomatch h
   |v _=>exact nomatch h
   |b t a b=>
    revert h;refine fy (fun e h=>?_) fun Z=>fy (fun e h=>?_) fun Z=>fy (fun e h=>?_) fun Z=>fy (fun e h=>?_) fun Z h=>nomatch h;all_goals obtain rfl:=dZ e
    ·rw[<- ah h];exact gN c z (s:=true) (bW.mpr (Nat.lt_of_not_le hf))
    ·rw[<- ah h];exact ik c z (s:=true) (dO.mpr (eP hf))
    ·rw[<- ah h];exact gN c z (s:=false) (Int.lt_of_not_ge hf)
    ·rw[<- ah h];exact ik c z (s:=false) (Int.le_of_not_gt hf)
end
end Ar
noncomputable def Ar.kaa:=0xa5000610000308020
noncomputable def Ar.kab:=0x294a000c20000610040308040
noncomputable def Ar.kac:=0x6294001840300c20000a5000610080308000
noncomputable def Ar.kad:=0x628003080002800308000
noncomputable def Ar.kae:=0x6294001840200c20000a5000810080308000
noncomputable def Ar.kaf:=0x294a000c20000610080308020
noncomputable def Ar.kag:=0x68190a5294001840900c20500610080308020180a10942000465294001840700c201806100005084a10002508001
noncomputable def Ar.kah:=0x294a528003080001840100c201006100c0408080
noncomputable def Ar.kai:=0x1a085294001840600c203806100400014a000c20200610000508001
noncomputable def Ar.kaj:=0x6294001840200c20000a50006100c0308000
noncomputable def Ar.kak:=0xa5294001840000c20080610080308060
noncomputable def Ar.kal:=0x10a52800308040184030102000000
noncomputable def Ar.kam:=0x68214a000c203806100000014a000c20200610000508001
noncomputable def Ar.kan:=0x294a000c20000810040308040
noncomputable def Ar.kao:=0x294a000c20000610040408040
noncomputable def Ar.kap:=0x7294001840300c20000a5000610040308000
noncomputable def Ar.kaq:=0x294a000c20080610080308060
noncomputable def Ar.kar:=0x7294001840100c20000a5000610040308000
noncomputable def Ar.kas:=0x8194a50006101403080601840101420084a5000610040308000
noncomputable def Ar.kat:=0x68210a528003081001840200c2008020200852800308020184000100508001
noncomputable def Ar.kau:=0x1a085294a000c203006101c03081001840100005294001840400c20300610000508001
noncomputable def Ar.kav:=0x7490e4214a5000610100308060184010140401884294a000c20200610080308000300a0294001840000c2010040210a528003080801840200c200006010124214a50006101403080401840000802010a528003080601840200c2000040
noncomputable def Ar.kaw:=0x84390e5280030806018400018a50006100003080a0294001840000c2010080310a5000610080308000280a500061000030804000000
noncomputable def Ar.kax:=0xd03214a528003081201840a00c2018061004030142100465294001840700c2018061004050840128c2008401
noncomputable def Ar.kay:=0x30d04294001840800c2000000194a50006101c03080601840101421004a108c2000468190a5294001840b00c204806100c0308020180a108c2000465294001840700c201806100405084610002508401
noncomputable def Ar.kaz:=0x61a085294001840800c203006100400014a000c20200610000500421194a000c20180610040500421
noncomputable def Ar.kba:=0x6210a500061010030802008040210a500061010030800008040
noncomputable def Ar.kbb:=0x68214a50006101803080601840000005294001840400c20280610000508001
noncomputable def Ar.kbc:=0x3294a5280030806018404010202808101803080002882508021
open Ar
namespace Ar
section
variable (c:List Nat)(z:List Int)
noncomputable def w9(g:Bool)(m:Nat)(f:Nd)(L:Lin):Lin:=
 Option.rec L (fun p=>cond g (cond p.1 (i0 (-(m:Int)) p.2.1 p.2.2.1 p.2.2.2.1 p.2.2.2.2 L) L) (i0 m p.2.1 p.2.2.1 p.2.2.2.1 p.2.2.2.2 L)) (ig f)
theorem pW{g:Bool}{m:Nat}{f:Nd}{L:Lin}(hf:vP c z f)(h:0<=val c z L):0<=val c z (w9 g m f L):=by
 show 0<=val c z (Option.rec L _ (ig f));refine Bn.xC (ig f) (fun e=>?_) fun p e=>?_
 ·exact h
 ·obtain⟨h1,h2⟩:=lS c z e hf;cases g with
  |false=>
   show 0<=val c z (i0 m p.2.1 p.2.2.1 p.2.2.2.1 p.2.2.2.2 L);rw[Dr];exact Int.add_nonneg (Int.mul_nonneg (hV m) h2) h
  |true=>
   show 0<=val c z (cond p.1 (i0 (-(m:Int)) p.2.1 p.2.2.1 p.2.2.2.1 p.2.2.2.2 L) L);refine Bn.xD p.1 (fun e=>?_) fun e=>?_
   ·show 0<=val c z (i0 (-(m:Int)) p.2.1 p.2.2.1 p.2.2.2.1 p.2.2.2.2 L);rw[Dr,h1 e,Int.mul_zero,Int.zero_add];exact h
   ·exact h
noncomputable def ub(L:Lin):Option Int:=
 List.rec (some 0) (fun p Z ih=>Option.rec none (fun u=>cond (cond p.2.1 (same p.2.2 (.l 1)) false) (some (p.1+u)) (cond (p.1==0) (some u) (cond p.2.1 (cond (decide (p.1<=0)) (some u) none) none))) ih) L
theorem wH(L:Lin):∀u,ub L=some u->val c z L<=u:=by
 induction L with
 |nil=>intro u h;rw[<- ah h];exact Int.le_refl 0
 |cons p r ih=>
  intro u h;obtain⟨k,s,a⟩:=p;replace h:Option.rec none (fun u=>cond (cond s (same a (.l 1)) false) (some (k+u)) (cond (k==0) (some u) (cond s (cond (decide (k<=0)) (some u) none) none))) (ub r)=some u:=h;show k*dX c z s a+val c z r<=u;refine Bn.xC (ub r) (fun e=>?_) fun w e=>?_
  ·rw[e] at h;exact nomatch h
  ·have hr:=ih w e;rw[e] at h;revert h;refine fy (fun e1 h=>?_) fun Z=>fy (fun e1 h=>?_) fun Z h=>?_
   ·rw[<- ah h];cases s with
    |false=>exact nomatch e1
    |true=>
     rw[F6 _ _ e1];exact Int.add_le_add (Int.le_of_eq (Int.mul_one k)) hr
   ·rw[<- ah h,eq_of_beq e1,Int.zero_mul,Int.zero_add];exact hr
   ·cases s with
    |false=>exact nomatch h
    |true=>
     replace h:cond (decide (k<=0)) (some w) none=some u:=h;revert h;refine fy (fun e1 h=>?_) fun Z h=>nomatch h;rw[<- ah h];have:=Int.mul_nonneg (Int.neg_nonneg_of_nonpos (of_decide_eq_true e1)) (hV (vN c a));rw[Int.neg_mul] at this;have h2:k*dX c z true a<=0:=Int.nonpos_of_neg_nonneg this;exact Int.le_trans (Int.add_le_add h2 hr) (Int.le_of_eq (Int.zero_add w))
noncomputable def fin(L:Lin):Bool:=Option.rec false (fun u=>decide (u<0)) (ub L)
def tS{L:Lin}(h:fin L=true)(h0:0<=val c z L):False:=by
 replace h:Option.rec false (fun u=>decide (u<0)) (ub L)=true:=h;refine Bn.xC (ub L) (fun e=>?_) fun u e=>?_
 ·rw[e] at h;exact nomatch h
 ·rw[e] at h;exact Int.not_lt.mpr (Int.le_trans h0 (wH c z L u e)) (of_decide_eq_true h)
abbrev cT (F:List Nd):Prop:=∀f∈F,vP c z f
noncomputable def nf(F:List Nd)(i:Nat):Nd:=yB (.b 8 (.l 0) (.l 0)) F i
theorem kY{F:List Nd}(h:cT c z F):∀i,vP c z (nf F i):=by
 induction F with
 |nil=>exact fun _ (x:False)=>x
 |cons f r ih=>
  intro i;cases i with
  |zero=>exact h f aL
  |succ i=>exact ih (fun g hg=>h g (a9 _ hg)) i
noncomputable def kid(e:Nd):Nat:=Nd.rec (fun k=>k) (fun k=>k) (fun Z Z Z Z Z=>0) e
noncomputable def yc(e:Nd):List Nd->Lin->Lin:=
 Nd.rec (fun Z Z L=>L) (fun Z Z L=>L) (fun Z x Z Z Y F L=>Y F (Nd.rec (fun Z=>L) (fun Z=>L) (fun s i m Z Z=>w9 (s.beq 1) (kid m) (nf F (kid i)) L) x)) e
theorem oA(e:Nd):∀F L,cT c z F->0<=val c z L->0<=val c z (yc e F L):=by
 induction e with
 |l _=>exact fun Z Z Z h=>h
 |v _=>exact fun Z Z Z h=>h
 |b t x y _ Y=>
  intro F L hF h;refine Y F _ hF ?_;cases x with
  |l _=>exact h
  |v _=>exact h
  |b s i m=>exact pW c z (kY c z hF _) h
noncomputable def Dn(e:Nd):List Nd:=
 Nd.rec (fun Z=>[]) (fun Z=>[]) (fun t x y Z Z=>cond (t.beq 2) [.b 0 (.b 2 x y) x,.b 0 x (.b 0 (.b 2 x y) y),.b 7 (.b 2 (.b 0 (.b 2 x y) y) x) (.b 6 (.b 0 x y) (.b 2 (.b 2 x y) (.l 0)))]
  (cond (t.beq 5) [.b 0 (.b 5 x y) x,.b 0 (.b 5 x y) y,.b 7 (.b 2 (.b 5 x y) x) (.b 2 (.b 5 x y) y)]
  (Option.rec [] (fun k=>cond (k.beq 0) [] (cond (t.beq 3) [.b 0 (.b 1 (.l k) (.b 3 x (.l k))) x,.b 1 x (.b 0 (.b 1 (.l k) (.b 3 x (.l k))) (.l k))]
   (cond (t.beq 4) [.b 2 (.b 0 (.b 1 (.l k) (.b 3 x (.l k))) (.b 4 x (.l k))) x,.b 1 (.b 4 x (.l k)) (.l k)] []))) (cO y)))) e
def iM{p:Nd->Prop}{a b:Nd}(h1:p a)(h2:p b):∀f∈[a,b],p f:=eD.mpr ⟨h1,eD.mpr ⟨h2,fun Z h=>nomatch h⟩⟩
def fc{p:Nd->Prop}{a:Nd}(h1:p a):∀f∈[a],p f:=eD.mpr ⟨h1,fun Z h=>nomatch h⟩
theorem r7(e:Nd):cT c z (Dn e):=by
 cases e with
 |l _=>exact fun Z h=>nomatch h
 |v _=>exact fun Z h=>nomatch h
 |b t x y=>
  refine Bn.xD (t.beq 2) (fun h2=>?_) fun h2=>?_
  ·obtain rfl:=dZ h2;refine eD.mpr ⟨Nat.sub_le (vN c x) (vN c y),iM (p:=vP c z) (Nat.le_add_of_sub_le (aN (vN c x-vN c y))) ?_⟩;show vN c x-vN c y+vN c y=vN c x\/(vN c x<=vN c y/\vN c x-vN c y=0);exact(Nat.le_total (vN c y) (vN c x)).elim (fun h=>.inl (Nat.sub_add_cancel h)) fun h=>.inr ⟨h,Nat.sub_eq_zero_of_le h⟩
  ·show ∀f∈cond (t.beq 2) _ _,vP c z f;rw[h2];show ∀f∈cond (t.beq 5) _ _,vP c z f;refine Bn.xD (t.beq 5) (fun h5=>?_) fun h5=>?_
   ·obtain rfl:=dZ h5;refine eD.mpr ⟨Nat.min_le_left (vN c x) (vN c y),iM (p:=vP c z) (Nat.min_le_right (vN c x) (vN c y)) ?_⟩;show min (vN c x) (vN c y)=vN c x\/min (vN c x) (vN c y)=vN c y;exact(Nat.le_total (vN c x) (vN c y)).elim (fun h=>.inl (Nat.min_eq_left h)) fun h=>.inr (Nat.min_eq_right h)
   ·refine Bn.xC (cO y) (fun hy=>?_) fun k hy=>?_
    ·exact fun Z h=>nomatch h
    ·show ∀f∈cond (k.beq 0) _ _,vP c z f;refine Bn.xD (k.beq 0) (fun h0=>?_) fun h0=>?_
     ·exact fun Z h=>nomatch h
     ·have k0:0<k:=Nat.pos_of_ne_zero fun e=>Nat.ne_of_beq_eq_false h0 e;show ∀f∈cond (t.beq 3) _ _,vP c z f;refine Bn.xD (t.beq 3) (fun h3=>?_) fun h3=>?_
      ·exact iM (p:=vP c z) (Nat.mul_div_le (vN c x) k) (Nat.lt_mul_div_succ (vN c x) k0)
      ·show ∀f∈cond (t.beq 4) _ _,vP c z f;cases t.beq 4 with
       |false=>exact fun Z h=>nomatch h
       |true=>exact iM (p:=vP c z) (Nat.div_add_mod (vN c x) k) (Nat.mod_lt (vN c x) k0)
noncomputable def neg(f:Nd):Nd:=.b 8 f (.l 0)
noncomputable def FL(f:Nd):List Nd:=
 Nd.rec (fun Z=>[]) (fun Z=>[]) (fun t x y Z Z=>cond (t.beq 6) [x,y] (cond (t.beq 8) (Nd.rec (fun Z=>[]) (fun Z=>[]) (fun t x y Z Z=>cond (t.beq 7) [neg x,neg y] (cond (t.beq 8) [x] [])) x) [])) f
theorem r6{f:Nd}(h:vP c z f):cT c z (FL f):=by
 cases f with
 |l _=>exact fun Z h=>nomatch h
 |v _=>exact fun Z h=>nomatch h
 |b t x y=>
  show ∀f∈cond (t.beq 6) _ _,vP c z f;refine Bn.xD (t.beq 6) (fun h6=>?_) fun h6=>?_
  ·obtain rfl:=dZ h6;exact iM (p:=vP c z) h.1 h.2
  ·show ∀f∈cond (t.beq 8) _ _,vP c z f;refine Bn.xD (t.beq 8) (fun h8=>?_) fun h8=>?_
   ·obtain rfl:=dZ h8;cases x with
    |l _=>exact fun Z h=>nomatch h
    |v _=>exact fun Z h=>nomatch h
    |b t x y=>
     show ∀f∈cond (t.beq 7) _ _,vP c z f;refine Bn.xD (t.beq 7) (fun h7=>?_) fun h7=>?_
     ·obtain rfl:=dZ h7;exact iM (p:=vP c z) (fun q:vP c z x=>h (Or.inl q)) (fun q:vP c z y=>h (Or.inr q))
     ·show ∀f∈cond (t.beq 8) _ _,vP c z f;refine Bn.xD (t.beq 8) (fun h8=>?_) fun h8=>?_
      ·obtain rfl:=dZ h8;exact fc (p:=vP c z) (Classical.not_not.mp h)
      ·exact fun Z h=>nomatch h
   ·exact fun Z h=>nomatch h
noncomputable def z5(g:Bool)(f:Nd):List Nd:=
 Nd.rec (fun Z=>[]) (fun Z=>[]) (fun t x y Z Z=>cond (t.beq 7) [cond g x y] (cond (t.beq 8) (Nd.rec (fun Z=>[]) (fun Z=>[]) (fun t x y Z Z=>cond (t.beq 6) [neg (cond g x y)] (cond (t.beq 2) [.b 1 (cond g x y) (cond g y x)] (cond (t.beq 5) [.b 4 (cond g x y) (cond g y x)] []))) x) [])) f
theorem r4{f:Nd}(h:vP c z f):cT c z (z5 true f)\/cT c z (z5 false f):=by
 cases f with
 |l _=>exact .inl fun Z h=>nomatch h
 |v _=>exact .inl fun Z h=>nomatch h
 |b t x y=>
  show(∀f∈cond (t.beq 7) _ _,vP c z f)\/∀f∈cond (t.beq 7) _ _,vP c z f;refine Bn.xD (t.beq 7) (fun h6=>?_) fun h6=>?_
  ·obtain rfl:=dZ h6;exact Or.imp (fun q=>fc q) (fun q=>fc q) h
  ·show(∀f∈cond (t.beq 8) _ _,vP c z f)\/∀f∈cond (t.beq 8) _ _,vP c z f;refine Bn.xD (t.beq 8) (fun h8=>?_) fun h8=>?_
   ·obtain rfl:=dZ h8;cases x with
    |l _=>exact .inl fun Z h=>nomatch h
    |v _=>exact .inl fun Z h=>nomatch h
    |b t x y=>
     show(∀f∈cond (t.beq 6) _ _,vP c z f)\/∀f∈cond (t.beq 6) _ _,vP c z f;refine Bn.xD (t.beq 6) (fun h7=>?_) fun h7=>?_
     ·obtain rfl:=dZ h7;exact(Classical.not_and_iff_not_or_not.mp h).imp (fun q=>fc (p:=vP c z) (a:=neg x) q) (fun q=>fc (p:=vP c z) (a:=neg y) q)
     ·show(∀f∈cond (t.beq 2) _ _,vP c z f)\/∀f∈cond (t.beq 2) _ _,vP c z f;refine Bn.xD (t.beq 2) (fun h8=>?_) fun h8=>?_
      ·obtain rfl:=dZ h8;exact(Nat.lt_or_gt_of_ne h).imp (fun q=>fc (p:=vP c z) (a:=.b 1 x y) q) (fun q=>fc (p:=vP c z) (a:=.b 1 y x) q)
      ·show(∀f∈cond (t.beq 5) _ _,vP c z f)\/∀f∈cond (t.beq 5) _ _,vP c z f;refine Bn.xD (t.beq 5) (fun h8=>?_) fun h8=>?_
       ·obtain rfl:=dZ h8;exact(Int.lt_or_gt_of_ne h).imp (fun q=>fc (p:=vP c z) (a:=.b 4 x y) q) (fun q=>fc (p:=vP c z) (a:=.b 4 y x) q)
       ·exact .inl fun Z h=>nomatch h
   ·exact .inl fun Z h=>nomatch h
noncomputable def run(e:Nd):List Nd->Bool:=
 Nd.rec (fun Z Z=>false) (fun Z Z=>false) (fun t x y X Y F=>cond (t.beq 0) (Y (Dn x++F)) (cond (t.beq 1) (Y (FL (nf F (kid x))++F)) (cond (t.beq 2) (fin (yc (.b t x y) F []))
  (cond (X (z5 true (nf F (t-3))++F)) (Y (z5 false (nf F (t-3))++F)) false)))) e
def zQ{F G:List Nd}(h:cT c z F)(k:cT c z G):cT c z (F++G):=List.forall_mem_append.mpr ⟨h,k⟩
theorem sb(e:Nd):∀F,run e F=true->cT c z F->False:=by
 induction e with
 |l _=>exact fun Z h=>nomatch h
 |v _=>exact fun Z h=>nomatch h
 |b t x y X Y=>
  intro F;refine fy (fun Z h hF=>Y _ h (zQ c z (r7 c z x) hF)) fun Z=>fy (fun Z h hF=>Y _ h (zQ c z (r6 c z (kY c z hF _)) hF)) fun Z=>
   fy (fun Z h hF=>tS c z h (oA c z _ F [] hF (Int.le_refl 0))) fun Z=>fy (fun e h hF=>?_) fun Z h=>nomatch h
  exact(r4 c z (kY c z hF (t-3))).elim (fun q=>X _ e (zQ c z q hF)) fun q=>Y _ h (zQ c z q hF)
end
noncomputable def GN(f:Nat):Nat->List Nd->List Nd:=
 Nat.rec (fun Z S=>S) (fun Z ih n S=>Nat.rec S (fun m Z=>
  cond (Nat.beq ((m+1)%32) 0) (ih ((m+1)/1024) (.l ((m+1)/32%32)::S))
  (cond (Nat.beq ((m+1)%32) 1) (ih ((m+1)/1024) (.v ((m+1)/32%32)::S))
  (cond (Nat.beq ((m+1)%32) 2) (ih ((m+1)/37778931862957161709568) (.l ((m+1)/32%1180591620717411303424)::S))
  (List.rec S (fun y R Z=>List.rec S (fun x R' Z=>cond (Nat.beq ((m+1)%32) 31) (ih ((m+1)/1024) (.b ((m+1)/32%32) x y::R')) (ih ((m+1)/32) (.b ((m+1)%32-3) x y::R'))) R) S)))) n) f
noncomputable def ug(n:Nat):Nd:=nf (GN 2000 n []) 0
def mx(a b:Nat):(max a b=a/\b<=a)\/(max a b=b/\a<=b):=(Nat.le_total b a).imp (fun h=>⟨Nat.max_eq_left h,h⟩) fun h=>⟨Nat.max_eq_right h,h⟩
def tn(a:Int):((a.toNat:Nat):Int)=a\/(a<=0/\a.toNat=0):=(Int.le_total 0 a).imp Int.toNat_of_nonneg fun h=>⟨h,Int.toNat_of_nonpos h⟩
def zx(a b:Int):(max a b=a/\b<=a)\/(max a b=b/\a<=b):=(Int.le_total b a).imp (fun h=>⟨Int.max_eq_left h,h⟩) fun h=>⟨Int.max_eq_right h,h⟩
def zn(a b:Int):(min a b=a/\a<=b)\/(min a b=b/\b<=a):=(Int.le_total a b).imp (fun h=>⟨Int.min_eq_left h,h⟩) fun h=>⟨Int.min_eq_right h,h⟩
def na(a:Int):(((a.natAbs:Nat):Int)=a/\0<=a)\/(((a.natAbs:Nat):Int) = -a/\a<=0):=(Int.le_total 0 a).imp (fun h=>⟨Int.natAbs_of_nonneg h,h⟩) fun h=>⟨Int.ofNat_natAbs_of_nonpos h,h⟩
def p63:(2:Int)^63=9223372036854775808:=by decide
def zd(a:Int){k:Int}(h:0<k):k*(a/k)+a%k=a/\0<=a%k/\a%k<k:=⟨Int.mul_ediv_add_emod a k,Int.emod_nonneg a (Int.ne_of_gt h),Int.emod_lt_of_pos a h⟩
def tX(c:List Nat)(z:List Int):cT c z []:=fun Z h=>nomatch h
def eo(c:List Nat)(z:List Int){f:Nd}{F:List Nd}(h:vP c z f)(k:cT c z F):cT c z (f::F):=eD.mpr ⟨h,k⟩
def t8{c:List Nat}{z:List Int}{e g:Nd}{F:List Nd}(h:run e (neg g::F)=true)(k:cT c z F):vP c z g:=Classical.not_not.mp fun q=>sb c z _ _ h (eo c z (f:=neg g) q k)
noncomputable def Hl(n:Nat)(g:Nd):Bool:=run (ug n) [neg g]
def ew(c:List Nat)(z:List Int)(n:Nat)(g:Nd)(e:Hl n g=true:=by kernel_rfl):vP c z g:=t8 e (tX c z)
noncomputable def HF(n:Nat)(g f1:Nd):Bool:=run (ug n) [neg g,f1]
def aw(c:List Nat)(z:List Int)(n:Nat)(g f1:Nd)(h1:vP c z f1)(e:HF n g f1=true:=by kernel_rfl):vP c z g:=t8 e (eo c z h1 (tX c z))
noncomputable def An(n:Nat)(g f1 f2:Nd):Bool:=run (ug n) [neg g,f1,f2]
def aA(c:List Nat)(z:List Int)(n:Nat)(g f1 f2:Nd)(h1:vP c z f1)(h2:vP c z f2)(e:An n g f1 f2=true:=by kernel_rfl):vP c z g:=t8 e (eo c z h1 (eo c z h2 (tX c z)))
noncomputable def Hg(n:Nat)(g f1 f2 f3:Nd):Bool:=run (ug n) [neg g,f1,f2,f3]
def bC(c:List Nat)(z:List Int)(n:Nat)(g f1 f2 f3:Nd)(h1:vP c z f1)(h2:vP c z f2)(h3:vP c z f3)(e:Hg n g f1 f2 f3=true:=by kernel_rfl):vP c z g:=t8 e (eo c z h1 (eo c z h2 (eo c z h3 (tX c z))))
noncomputable def Hi(n:Nat)(g f1 f2 f3 f4:Nd):Bool:=run (ug n) [neg g,f1,f2,f3,f4]
def iZ(c:List Nat)(z:List Int)(n:Nat)(g f1 f2 f3 f4:Nd)(h1:vP c z f1)(h2:vP c z f2)(h3:vP c z f3)(h4:vP c z f4)(e:Hi n g f1 f2 f3 f4=true:=by kernel_rfl):vP c z g:=t8 e (eo c z h1 (eo c z h2 (eo c z h3 (eo c z h4 (tX c z)))))
noncomputable def HY(n:Nat)(g f1 f2 f3 f4 f5:Nd):Bool:=run (ug n) [neg g,f1,f2,f3,f4,f5]
def z6(c:List Nat)(z:List Int)(n:Nat)(g f1 f2 f3 f4 f5:Nd)(h1:vP c z f1)(h2:vP c z f2)(h3:vP c z f3)(h4:vP c z f4)(h5:vP c z f5)(e:HY n g f1 f2 f3 f4 f5=true:=by kernel_rfl):vP c z g:=t8 e (eo c z h1 (eo c z h2 (eo c z h3 (eo c z h4 (eo c z h5 (tX c z))))))
noncomputable def Jz(n:Nat)(g f1 f2 f3 f4 f5 f6:Nd):Bool:=run (ug n) [neg g,f1,f2,f3,f4,f5,f6]
def CS(c:List Nat)(z:List Int)(n:Nat)(g f1 f2 f3 f4 f5 f6:Nd)(h1:vP c z f1)(h2:vP c z f2)(h3:vP c z f3)(h4:vP c z f4)(h5:vP c z f5)(h6:vP c z f6)(e:Jz n g f1 f2 f3 f4 f5 f6=true:=by kernel_rfl):vP c z g:=t8 e (eo c z h1 (eo c z h2 (eo c z h3 (eo c z h4 (eo c z h5 (eo c z h6 (tX c z)))))))
noncomputable def V0:Nd:=.v 0
noncomputable def V1:Nd:=.v 1
noncomputable def V2:Nd:=.v 2
noncomputable def V3:Nd:=.v 3
noncomputable def V4:Nd:=.v 4
noncomputable def V5:Nd:=.v 5
noncomputable def V6:Nd:=.v 6
noncomputable def J0:Nd:=.l 0
noncomputable def J1:Nd:=.l 1
noncomputable def J2:Nd:=.l 2
noncomputable def Y0(x y:Nd):Nd:=.b 0 x y
noncomputable def Y1(x y:Nd):Nd:=.b 1 x y
noncomputable def Y2(x y:Nd):Nd:=.b 2 x y
noncomputable def Y3(x y:Nd):Nd:=.b 3 x y
noncomputable def Y4(x y:Nd):Nd:=.b 4 x y
noncomputable def Y5(x y:Nd):Nd:=.b 5 x y
noncomputable def Y6(x y:Nd):Nd:=.b 6 x y
noncomputable def Y7(x y:Nd):Nd:=.b 7 x y
noncomputable def Y8(x y:Nd):Nd:=.b 8 x y
end Ar
open Ar (V0 V1 V2 V3 V4 V5 V6 J0 J1 J2 Y0 Y1 Y2 Y3 Y4 Y5 Y6 Y7 Y8)
namespace Bn
open PySem PySem.W PyProof.Rows
noncomputable def uX(key:Nat->Int)(i j:Nat):Bool:=decide (key i<key j)
noncomputable def bh(p:Array Nat)(i:Nat):Nat:=p.getD i 0
def ji(p:Array Nat)(i:Nat):bh p i=(p[i]?).getD 0:=by
 unfold bh;rw[Array.getD_eq_getD_getElem?]
section
variable {key:Nat->Int}{N:Nat}
def dN(N:Nat)(p:Array Nat):Prop:=p.toList.Perm (List.range N)
theorem dN.size{p:Array Nat}(h:dN N p):p.size=N:=by
 have:=List.Perm.length_eq h;simpa using this
theorem dN.lt{p:Array Nat}(h:dN N p){x:Nat}(hx:x<N):bh p x<N:=by
 have hs:=h.size;have:bh p x∈p.toList:=by rw[ji,qa (by lia)];simp
 simpa using h.mem_iff.mp this
theorem dN.ne{p:Array Nat}(h:dN N p)(hk:∀i j,i<N->j<N->key i=key j->i=j){i j:Nat}(hi:i<N)(hj:j<N)(hij:i≠j):key (bh p i)≠key (bh p j):=by
 have hs:=h.size;have hn:p.toList.Nodup:=h.nodup_iff.mpr List.nodup_range;intro hc;have:=hk _ _ (h.lt hi) (h.lt hj) hc;rw[ji,ji,qa (by lia),qa (by lia)] at this;simp only[Option.getD_some] at this;have h2:p.toList[i]'(by simp;lia)=p.toList[j]'(by simp;lia):=by simpa using this
 exact hij ((List.getElem_inj hn).mp h2)
def Up(key:Nat->Int)(p:Array Nat)(m:Nat):Prop:=∀i j,i<j->j<m->key (bh p i)<key (bh p j)
def fS(key:Nat->Int)(p:Array Nat)(m:Nat):Prop:=∀i j,i<j->j<m->key (bh p j)<key (bh p i)
def Up.succ{p:Array Nat}{m:Nat}(h:Up key p m)(h1:1<=m)(hl:key (bh p (m-1))<key (bh p m)):Up key p (m+1):=by
 intro i j hij hj;by_cases e:j=m
 ·subst e;by_cases e':i=j-1
  ·rw[e'];exact hl
  ·exact Int.lt_trans (h i (j-1) (by exact aA [_,_] [] kas (Y1 V0 (Y2 V1 J1)) (Y1 V0 V1) (Y8 (Y2 V0 (Y2 V1 J1)) J0) hij e') (by exact aw [_] [] kai (Y1 (Y2 V0 J1) V0) (Y0 J1 V0) h1)) hl
 ·exact h i j hij (by exact aA [_,_] [] 0x8294001840200c20000a5000610040308000 (Y1 V0 V1) (Y1 V0 (Y0 V1 J1)) (Y8 (Y2 V0 V1) J0) hj e)
def fS.succ{p:Array Nat}{m:Nat}(h:fS key p m)(h1:1<=m)(hl:key (bh p m)<key (bh p (m-1))):fS key p (m+1):=by
 intro i j hij hj;by_cases e:j=m
 ·subst e;by_cases e':i=j-1
  ·rw[e'];exact hl
  ·exact Int.lt_trans hl (h i (j-1) (by exact aA [_,_] [] kas (Y1 V0 (Y2 V1 J1)) (Y1 V0 V1) (Y8 (Y2 V0 (Y2 V1 J1)) J0) hij e') (by exact aw [_] [] kai (Y1 (Y2 V0 J1) V0) (Y0 J1 V0) h1))
 ·exact h i j hij (by exact aA [_,_] [] 0x8294001840200c20000a5000610040308000 (Y1 V0 V1) (Y1 V0 (Y0 V1 J1)) (Y8 (Y2 V0 V1) J0) hj e)
def dN.rev{p:Array Nat}(hp:dN N p)(i j:Nat):dN N (kas_rev p i j):=(Array.perm_iff_toList_perm.mp (mirror_perm p i j _)).trans hp
def dN.bub{p:Array Nat}(hp:dN N p)(i j:Nat):dN N (bubble p i j):=(Array.perm_iff_toList_perm.mp (bubble_perm p i j)).trans hp
theorem mn{p:Array Nat}{n:Nat}(h:n<=p.size)(k:Nat):bh (kas_rev p 0 n) k=if k<n then bh p (n-1-k) else bh p k:=by
 rw[ji,ji,ji];unfold kas_rev;rw[getElem?_mirror_all h];simp only[dF,true_and];split
 ·congr 2;exact ew [_,_] [] 0x61a08528003080c01840100003410a528003081401840700c200800018ca5294a000c207006102803080c01840400c20080a100025084a1000250806008005084a100c0100068214a000c20300610040000d04294a000c2050061018030802000063294a528003081c01840a00c203006101003080202840300400284250806008005080012842508001 (Y2 (Y2 (Y2 (Y0 J0 V0) J1) V1) (Y2 (Y2 V0 J1) V1))
 ·rfl
def fS.rev{p:Array Nat}{n:Nat}(h:fS key p n)(hn:n<=p.size):Up key (kas_rev p 0 n) n:=by
 intro i j hij hj;rw[mn hn,mn hn,if_pos (by exact aA [_,_,_] [] kab (Y1 V0 V1) (Y1 V0 V2) (Y1 V2 V1) hij hj),if_pos hj];exact h _ _ (by exact aA [_,_,_] [] 0x340c64294a5294001840c00c206806103803080c01840300c20080c028825080012840008ca5294001840700c204006100c030802028825080012842508001 (Y1 (Y2 (Y2 V0 J1) V1) (Y2 (Y2 V0 J1) V2)) (Y1 V2 V1) (Y1 V1 V0) hij hj) (by exact aA [_,_,_] [] 0xd04294a000c2038061020030800000065294001840700c201806100005084a10002508001 (Y1 (Y2 (Y2 V0 J1) V1) V0) (Y1 V1 V2) (Y1 V2 V0) hij hj)
def cM(key:Nat->Int)(N:Nat){α:Type}(R:α->Prop):KasT α->Prop
 |.ret a=>R a
 |.ask i j k=>i<N/\j<N/\cM key N R (k (uX key i j))
theorem cM.bind{α β:Type}{R:α->Prop}{R':β->Prop}{f:α->KasT β}(hf:∀a,R a->cM key N R' (f a)):∀{t:KasT α},cM key N R t->cM key N R' (t.bind f)
 |.ret _,h=>hf _ h
 |.ask _ _ _,h=>⟨h.1,h.2.1,cM.bind hf h.2.2⟩
theorem cM.wp{cmp:Nat->Nat->(Bool->Shared->Prop)->Shared->Prop}{s:Shared}(hc:∀i j C,i<N->j<N->C (uX key i j) s->cmp i j C s){α:Type}{R:α->Prop}{Q:α->Shared->Prop}(hq:∀a,R a->Q a s):∀t:KasT α,cM key N R t->t.kasWp cmp Q s
 |.ret a,h=>hq a h
 |.ask i j k,h=>hc i j _ h.1 h.2.1 (cM.wp hc hq (k (uX key i j)) h.2.2)
section
variable {p:Array Nat}(hp:dN N p)(hk:∀i j,i<N->j<N->key i=key j->i=j)
include hp in
def cM.ask{α:Type}{R:α->Prop}{i j:Nat}{k:Bool->KasT α}(hi:i<N)(hj:j<N)(h1:key (bh p i)<key (bh p j)->cM key N R (k true))(h2:¬key (bh p i)<key (bh p j)->cM key N R (k false)):cM key N R (.ask (bh p i) (bh p j) k):=by
 refine⟨hp.lt hi,hp.lt hj,?_⟩
 unfold uX
 by_cases h:key (bh p i)<key (bh p j)
 ·rw[decide_eq_true h];exact h1 h
 ·rw[decide_eq_false h];exact h2 h
include hp hk
def dN.gt{i j:Nat}(hi:i<N)(hj:j<N)(hij:i≠j)(h:¬key (bh p i)<key (bh p j)):key (bh p j)<key (bh p i):=Int.lt_iff_le_and_ne.mpr ⟨Int.not_lt.mp h,fun e=>hp.ne hk hi hj hij e.symm⟩
theorem kW{R:Nat->Prop}(f:Nat):∀n,1<=n->n+f<=N->Up key p n->(∀m,n<=m->m<=n+f->Up key p m->(m=n+f\/key (bh p m)<key (bh p (m-1)))->R m)->cM key N R (kas_asc p f n):=by
 induction f with
 |zero=>exact fun n Z Z hu h=>h n (aN _) (aN _) hu (.inl rfl)
 |succ f ih=>
  intro n h1 hn hu h;have n1:n<N:=by exact aw [_,_,_] [] kaa (Y1 V0 V1) (Y0 (Y0 V0 (Y0 V2 J1)) V1) hn
  have n2:n-1<N:=by exact aw [_,_] [] 0x65294001840300c20200610000508001 (Y1 (Y2 V0 J1) V1) (Y1 V0 V1) n1
  refine cM.ask hp n1 n2 (fun hl=>h n (aN _) (fM _ _) hu (.inr hl)) fun hl=>?_;refine ih (n+1) (Nat.le_add_left _ _) (by exact aw [_,_,_] [] kaa (Y0 (Y0 (Y0 V0 J1) V1) V2) (Y0 (Y0 V0 (Y0 V1 J1)) V2) hn) (hu.succ h1 (hp.gt hk n1 n2 (by exact aw [_] [] kat (Y8 (Y2 V0 (Y2 V0 J1)) J0) (Y0 J1 V0) h1) hl)) fun m a b u o=>h m (by exact aw [_,_] [] kaa (Y0 V0 V1) (Y0 (Y0 V0 J1) V1) a) (by exact aw [_,_,_] [] kaa (Y0 V0 (Y0 V1 (Y0 V2 J1))) (Y0 V0 (Y0 (Y0 V1 J1) V2)) b) u (o.imp (fun e=>?_) id);exact aA [_,_,_] [] 0x6294001840200c20000a50008100c0308000 (Y2 V0 (Y0 V1 (Y0 V2 J1))) (Y0 V0 (Y0 (Y0 V1 J1) V2)) (Y2 V0 (Y0 (Y0 V1 J1) V2)) b e
theorem pE{R:Array Nat×Nat×Nat->Prop}(f:Nat):∀n,1<=n->n+f<=N->fS key p n->(∀m,n<=m->m<=n+f->fS key p m->R (p,m,0))->cM key N R (kas_desc f p n 0):=by
 induction f with
 |zero=>exact fun n Z Z hu h=>h n (aN _) (aN _) hu
 |succ f ih=>
  intro n h1 hn hu h;have n1:n<N:=by exact aw [_,_,_] [] kaa (Y1 V0 V1) (Y0 (Y0 V0 (Y0 V2 J1)) V1) hn
  have n2:n-1<N:=by exact aw [_,_] [] 0x65294001840300c20200610000508001 (Y1 (Y2 V0 J1) V1) (Y1 V0 V1) n1
  refine cM.ask hp n1 n2 (fun hl=>?_) fun hl=>cM.ask hp n2 n1 (fun Z=>h n (aN _) (fM _ _) hu) fun h'=>absurd (hp.gt hk n1 n2 (by exact aw [_] [] kat (Y8 (Y2 V0 (Y2 V0 J1)) J0) (Y0 J1 V0) h1) hl) h';exact ih (n+1) (Nat.le_add_left _ _) (by exact aw [_,_,_] [] kaa (Y0 (Y0 (Y0 V0 J1) V1) V2) (Y0 (Y0 V0 (Y0 V1 J1)) V2) hn) (hu.succ h1 hl) fun m a b u=>h m (by exact aw [_,_] [] kaa (Y0 V0 V1) (Y0 (Y0 V0 J1) V1) a) (by exact aw [_,_,_] [] kaa (Y0 V0 (Y0 V1 (Y0 V2 J1))) (Y0 V0 (Y0 (Y0 V1 J1) V2)) b) u
def kO{R:Nat×Array Nat->Prop}(hN:2<=N)(h:∀m p',1<=m->m<=N->dN N p'->Up key p' m->R (m,p')):cM key N R (kas_count N p):=by
 refine cM.bind (R:=fun n=>1<=n/\n<=N/\Up key p n/\(n=N\/key (bh p n)<key (bh p (n-1)))) (fun n a=>?_) (kW hp hk (N-1) 1 (aN _) (by exact aw [_] [] kam (Y0 (Y0 J1 (Y2 V0 J1)) V0) (Y0 J2 V0) hN) (fun i j h1 h2=>absurd h2 (by exact aA [_,_] [] 0xa5000610040308040 (Y8 (Y1 V0 J1) J0) (Y1 V1 V0) (Y1 V0 J1) h1 h2)) fun m a b u o=>⟨a,by exact aA [_,_] [] 0x1a08528003080e01840000005294001840400c20300610000508021 (Y0 V0 V1) (Y0 J2 V1) (Y0 V0 (Y0 J1 (Y2 V1 J1))) hN b,u,o.imp (fun e=>by exact bC [_,_] [] 0x1868214a000c204006100000014a50006101c0308080184000142008465294002040700c20180610040508021 (Y2 V0 V1) (Y0 J2 V1) (Y0 V0 (Y0 J1 (Y2 V1 J1))) (Y2 V0 (Y0 J1 (Y2 V1 J1))) hN b e) id⟩);obtain⟨a1,a2,a3,a4⟩:=a;by_cases e:n=N
 ·rw[if_pos (beq_iff_eq.mpr e)];exact h n p a1 a2 hp a3
 ·rw[if_neg fun q=>e (beq_iff_eq.mp q)];by_cases h1:n>1
  ·rw[if_pos h1];exact cM.ask hp (by exact aw [_] [] kaa (Y1 J0 V0) (Y0 J2 V0) hN) (by exact aA [_,_] [] 0x8294001840200c2000065294001840400c20180610000508001 (Y1 (Y2 V0 J1) V1) (Y0 V0 V1) (Y8 (Y2 V0 V1) J0) a2 e) (fun Z=>h n p a1 a2 hp a3) fun q=>absurd (a3 0 (n-1) (by exact aw [_] [] 0x65294001840300c20200610040508001 (Y1 J0 (Y2 V0 J1)) (Y1 J1 V0) h1) (by exact aw [_] [] kam (Y1 (Y2 V0 J1) V0) (Y1 J1 V0) h1)) q
  ·rw[if_neg h1];obtain rfl:n=1:=by exact aA [_] [] kac (Y2 V0 J1) (Y0 J1 V0) (Y8 (Y1 J1 V0) J0) a1 h1
   have h10:=a4.resolve_left e;have hs:=hp.size;refine cM.bind (R:=fun r=>∃m,r=(p,m,0)/\2<=m/\m<=N/\fS key p m) (fun r b=>?_) (pE hp hk (N-2) 2 (by decide) (by exact aw [_] [] 0x1a085294001840600c203806100400014a000c20200610000510001 (Y0 (Y0 J2 (Y2 V0 J2)) V0) (Y0 J2 V0) hN) (fun i j h1 h2=>?_) fun m a b u=>⟨m,rfl,a,by exact aA [_,_] [] 0x1a085294a000c203006101c03081001840100005294001840400c20300610000510021 (Y0 V0 V1) (Y0 J2 V1) (Y0 V0 (Y0 J2 (Y2 V1 J2))) hN b,u⟩)
   ·obtain⟨m,rfl,b2,b3,b4⟩:=b;refine cM.bind (R:=fun k=>m<=k/\k<=N/\Up key (kas_rev p 0 m) k) (fun k c=>?_) (kW (hp.rev 0 m) hk (N-m) m (by exact aw [_] [] kaa (Y0 J1 V0) (Y0 J2 V0) b2) (by exact aw [_,_] [] 0x1a085294001840600c203806100400014a000c20200610000500421 (Y0 (Y0 V0 (Y2 V1 V0)) V1) (Y0 V0 V1) b3) (b4.rev (by exact aA [_,_,_] [] kan (Y0 V0 V1) (Y2 V1 V2) (Y0 V0 V2) hs b3)) fun k a b u Z=>⟨a,by exact aA [_,_,_] [] 0x1a085294a000c203006101c03081001840100005294001840400c20300610000510421 (Y0 V0 V1) (Y0 V2 V1) (Y0 V0 (Y0 V2 (Y2 V1 V2))) b3 b,u⟩);exact h k _ (by exact aA [_,_] [] kab (Y0 J1 V0) (Y0 J2 V1) (Y0 V1 V0) b2 c.1) c.2.1 (hp.rev 0 m) c.2.2
   ·obtain rfl:i=0:=by exact aA [_,_] [] 0x6294a000c201006100c03080002800308000 (Y2 V0 J0) (Y1 V0 V1) (Y1 V1 J2) h1 h2
    obtain rfl:j=1:=by exact aA [_] [] kaj (Y2 V0 J1) (Y1 V0 J2) (Y1 J0 V0) h2 h1
    exact h10
theorem lh{R:Nat->Prop}{k:Nat}(hkN:k<N)(hu:Up key p k)(h:∀m,m<=k->(∀i,i<m->key (bh p i)<key (bh p k))->(∀i,m<=i->i<k->key (bh p k)<key (bh p i))->R m)(f:Nat) :
  ∀l r,r<=k->l<=r->r-l<=f->(∀i,i<l->key (bh p i)<key (bh p k))->(∀i,r<=i->i<k->key (bh p k)<key (bh p i))->cM key N R (kas_place p k f l r):=by
 induction f with
 |zero=>
  intro l r h1 h2 h3 h4 h5;obtain rfl:l=r:=by exact aA [_,_] [] 0x6294001840200c2000065294001840600c20180610040500421 (Y2 V0 V1) (Y0 V0 V1) (Y0 (Y2 V1 V0) J0) h2 h3
  exact h l h1 h4 h5
 |succ f ih=>
  intro l r h1 h2 h3 h4 h5;show cM key N R (if l>=r then .ret l else .ask (bh p k) (bh p ((l+r)/2)) fun c=>if c=true then kas_place p k f l ((l+r)/2) else kas_place p k f ((l+r)/2+1) r);by_cases e:l>=r
  ·rw[if_pos e];obtain rfl:l=r:=by exact aA [_,_] [] kaj (Y2 V0 V1) (Y0 V0 V1) (Y0 V1 V0) h2 e
   exact h l h1 h4 h5
  ·rw[if_neg e];have hm:(l+r)/2<r/\l<=(l+r)/2:=by exact aw [_,_] [] 0x1865294001840400c4010061004061006108023294a000c202006200803080003080308401 (Y6 (Y1 (Y3 (Y0 V0 V1) J2) V1) (Y0 V0 (Y3 (Y0 V0 V1) J2))) (Y8 (Y0 V1 V0) J0) e
   generalize(l+r)/2=nF at hm;have up:∀i j,i<=j->j<k->key (bh p i)<=key (bh p j):=fun i j hij hj=>(Nat.eq_or_lt_of_le hij).elim (fun e=>e▸Int.le_refl _) fun e=>Int.le_of_lt (hu i j e hj);have mN:nF<N:=by exact bC [_,_,_,_] [] kak (Y1 V0 V1) (Y1 V2 V1) (Y0 V3 V2) (Y1 V0 V3) hkN h1 hm.1
   refine cM.ask hp hkN mN (fun hl=>ih l nF (by exact aA [_,_,_] [] kab (Y0 V0 V1) (Y0 V2 V1) (Y1 V0 V2) h1 hm.1) hm.2 (by exact aA [_,_,_,_] [] 0x68214a000c20300610040000ca5294a000c203806102003081201840300c20080a108c2508401 (Y0 (Y2 V0 V1) V2) (Y0 (Y2 V3 V1) (Y0 V2 J1)) (Y1 V0 V3) h3 hm.1) h4 fun i hi hik=>Int.lt_of_lt_of_le hl (up nF i hi hik)) fun hl=>ih (nF+1) r h1 (by exact aw [_,_] [] kaa (Y0 (Y0 V0 J1) V1) (Y1 V0 V1) hm.1) (by exact aA [_,_,_,_] [] 0x3410a500061018030802000065294a50006101c03081001840900c2018061004051840128c2008401 (Y0 (Y2 V0 (Y0 V1 J1)) V2) (Y0 (Y2 V0 V3) (Y0 V2 J1)) (Y0 V3 V1) h3 hm.2) (fun i hi=>Int.lt_of_le_of_lt (up i nF (Nat.le_of_lt_succ hi) (by exact aA [_,_,_] [] kab (Y1 V0 V1) (Y0 V2 V1) (Y1 V0 V2) h1 hm.1)) (hp.gt hk hkN mN (by exact aA [_,_,_] [] 0x10a528003080401840300c2000000 (Y8 (Y2 V0 V1) J0) (Y0 V2 V0) (Y1 V1 V2) h1 hm.1) hl)) h5
omit hp
theorem uA(f:Nat):∀(k:Nat)(p:Array Nat),dN N p->k+f=N->Up key p k->cM key N (fun p=>dN N p/\Up key p N) (kas_bin f p k):=by
 induction f with
 |zero=>
  intro k p hp hf hu;obtain rfl:k=N:=hf;exact⟨hp,hu⟩
 |succ f ih=>
  intro k p hp hf hu;have kN:k<N:=by exact aw [_,_,_] [] kaa (Y1 V0 V1) (Y2 (Y0 V0 (Y0 V2 J1)) V1) hf
  refine cM.bind (R:=fun m=>m<=k/\(∀i,i<m->key (bh p i)<key (bh p k))/\∀i,m<=i->i<k->key (bh p k)<key (bh p i)) (fun m a=>ih (k+1) _ (hp.bub _ _) (by exact aw [_,_,_] [] kae (Y2 (Y0 (Y0 V0 J1) V1) V2) (Y2 (Y0 V0 (Y0 V1 J1)) V2) hf) ?_) (lh hp hk kN hu (fun m a b c=>⟨a,b,c⟩) k 0 k (aN _) (dF _) (Nat.sub_le _ _) (fun i hi=>absurd hi (Nat.not_lt_zero _)) fun i h1 h2=>absurd h2 (Nat.not_lt.mpr h1));obtain⟨a2,a3,a4⟩:=a;have hs:=hp.size;have at':∀x,bh (bubble p k (k-m)) x=if x=m then bh p k else if m<x/\x<=k then bh p (x-1) else bh p x:=by
   intro x;rw[ji,ji,ji,ji,getElem?_bubble (by exact aA [_,_,_] [] kao (Y1 V0 V1) (Y1 V0 V2) (Y2 V1 V2) kN hs) _ (by exact ew [_,_] [] 0x194a000c20180610000508401 (Y0 (Y2 V0 V1) V0)),show k-(k-m)=m by exact aw [_,_] [] 0x30d04294001840600c2008000194a50006101c03080601840101421004a50840100468190a5294001840b00c204806100c0308020180a50840100465294001840700c201806100405284200802508401 (Y2 (Y2 V0 (Y2 V0 V1)) V1) (Y0 V1 V0) a2];repeat' split
   all_goals rfl
  intro i j hij hj;rw[at',at'];by_cases e1:j=m
  ·rw[if_pos e1,if_neg (by exact aA [_,_,_] [] kal (Y8 (Y2 V0 V1) J0) (Y1 V0 V2) (Y2 V2 V1) hij e1),if_neg (by exact aA [_,_,_,_] [] 0x84294a000c2020061014030800000000 (Y8 (Y6 (Y1 V0 V1) (Y0 V1 V2)) J0) (Y1 V1 V3) (Y2 V3 V0) hij e1)];exact a3 i (by exact aA [_,_,_] [] kab (Y1 V0 V1) (Y1 V0 V2) (Y2 V2 V1) hij e1)
  ·rw[if_neg e1];by_cases e2:i=m
   ·rw[if_pos e2,if_pos (by exact bC [_,_,_,_] [] 0x18a50006100c0308000294a000c20100810100308000 (Y6 (Y1 V0 V1) (Y0 V1 V2)) (Y1 V3 V1) (Y1 V1 (Y0 V2 J1)) (Y2 V3 V0) hij hj e2)];exact a4 (j-1) (by exact aA [_,_,_] [] 0x194a528003080601840401020280610040508021 (Y0 V0 (Y2 V1 J1)) (Y1 V2 V1) (Y2 V2 V0) hij e2) (by exact aA [_,_,_] [] kau (Y1 (Y2 V0 J1) V1) (Y1 V2 V0) (Y1 V0 (Y0 V1 J1)) hij hj)
   ·rw[if_neg e2];by_cases e3:m<i
    ·rw[if_pos ⟨e3,by exact aA [_,_,_] [] kab (Y0 V0 V1) (Y1 V0 V2) (Y1 V2 (Y0 V1 J1)) hij hj⟩,if_pos ⟨by exact aA [_,_,_] [] kab (Y1 V0 V1) (Y1 V2 V1) (Y1 V0 V2) hij e3,by exact aw [_,_] [] kaa (Y0 V0 V1) (Y1 V0 (Y0 V1 J1)) hj⟩];exact hu _ _ (by exact aA [_,_,_] [] 0x1a064294a528003081201840a00c205806100c0308020180a100423294a50006101c03081001840300c20080a10042508001 (Y1 (Y2 V0 J1) (Y2 V1 J1)) (Y1 V0 V1) (Y1 V2 V0) hij e3) (by exact aA [_,_,_] [] kau (Y1 (Y2 V0 J1) V1) (Y1 V2 V0) (Y1 V0 (Y0 V1 J1)) hij hj)
    ·rw[if_neg (by exact aw [_,_,_] [] 0x210a500061010030800000000 (Y8 (Y6 (Y1 V0 V1) (Y0 V1 V2)) J0) (Y8 (Y1 V0 V1) J0) e3)];by_cases e4:m<j
     ·rw[if_pos ⟨e4,by exact aw [_,_] [] kaa (Y0 V0 V1) (Y1 V0 (Y0 V1 J1)) hj⟩];exact Int.lt_trans (a3 i (by exact aA [_,_] [] kap (Y1 V0 V1) (Y8 (Y2 V0 V1) J0) (Y8 (Y1 V1 V0) J0) e2 e3)) (a4 (j-1) (by exact aw [_,_] [] 0x65294001840300c20200610040508021 (Y0 V0 (Y2 V1 J1)) (Y1 V0 V1) e4) (by exact aA [_,_,_] [] 0x1a085294a000c203006101c03081001840100005294001840400c20280610000508001 (Y1 (Y2 V0 J1) V1) (Y1 V0 (Y0 V1 J1)) (Y1 V2 V0) hj e4))
     ·rw[if_neg (by exact aw [_,_,_] [] 0x210a500061010030800000000 (Y8 (Y6 (Y1 V0 V1) (Y0 V1 V2)) J0) (Y8 (Y1 V0 V1) J0) e4)];exact hu _ _ hij (by exact bC [_,_,_] [] 0x20a5000610100308000294a000c20080610080308000 (Y1 V0 V1) (Y0 V2 V1) (Y8 (Y2 V0 V2) J0) (Y8 (Y1 V2 V0) J0) a2 e1 e4)
def qn(hN:2<=N):cM key N (fun p=>dN N p/\Up key p N) (kas_sort N):=by
 have hp:dN N (List.toArray (List.range N)):=List.Perm.refl _;refine cM.bind (R:=fun r=>1<=r.1/\r.1<=N/\dN N r.2/\Up key r.2 r.1) (fun r a=>?_) (kO hp hk hN fun m p' a b c d=>⟨a,b,c,d⟩);obtain⟨a1,a2,a3,a4⟩:=a;by_cases h:r.1<N
 ·rw[if_pos h,Nat.max_eq_left a1];exact uA hk (N-r.1) r.1 r.2 a3 (Nat.add_sub_cancel' a2) a4
 ·rw[if_neg h];have e:r.1=N:=Nat.le_antisymm a2 (Nat.not_lt.mp h);rw[e] at a4;exact⟨a3,a4⟩
end
end
section
variable {prog:qbj}{w:World}{A:Around}{E:Value->Shared->Prop}{s:Shared}{κ:SortKind}{vs:List Value}{key:Nat->Int}
def DT(prog:qbj)(w:World)(A:Around)(s:Shared)(κ:SortKind)(vs:List Value)(key:Nat->Int)(N:Nat):Prop:=
 ∀i j,i<N->j<N->∀(Q:Bool->Shared->Prop) (E:Value->Shared->Prop),Q (uX key i j) s->wpAny (model prog w) A (keyLt' κ (vs.getD i dI) (vs.getD j dI)) Q E s
inductive rF(s:Shared)(vs:List Value)(key:Nat->Int)(st:SortSt)(s':Shared):Prop
 |mk (e:s'=s)(p:Array Nat)(hp:dN vs.length p)(hu:Up key p vs.length)(ha:(arrOf st).map (·.2)=(p.toList.map fun i=>vs.getD i dI).toArray)(hf:failedOf st=none):rF s vs key st s'
def oj(hc:DT prog w A s κ vs key vs.length)(hk:∀i j,i<vs.length->j<vs.length->key i=key j->i=j)(h2:2<=vs.length)(h64:vs.length<64) :
  wpAny (model prog w) A (sortRuns'.run (SortSt.mk' κ (vs.toArray.zip vs.toArray) #[] 7 none)) (fun r s'=>rF s vs key r.2 s') E s:=
 kat_run (ks:=vs) (G:=fun p s'=>s'=s/\dN vs.length p/\Up key p vs.length) rfl h2 h64 (fun p Z Z Z ha hf g=>⟨g.1,p,g.2.1,g.2.2,kat_snds rfl ha,hf⟩)
  (cM.wp (fun i j C hi hj h=>hc i j hi hj C _ h) (fun p a=>⟨rfl,a.1,a.2⟩) _ (qn hk h2))
end
end Bn
namespace Bn
open PySem
variable {A:Around}{A7 B d dn due ep fuel fw i j kk la lf long mm n nt nx nx' rd t' tk:Nat}{B' B1 σ:Nat->Nat}{D I L N NE a af b ca cc fI globals t0:Addr}{E Q':Value->Shared->Prop}{G p:Prop}{M:Model}{R:Result->Shared->Prop}{S act active bs' bs0 cs done done' fwx is ls ms read read':List Nat}{T initId newId:String}{X wr φ φ' φ₀ φ₁ φ₂:List Addr}{a' b' dep hi lo nn st:Int}{ab expr fill fr hdct:Bool}{acc items ps' vs:Array Value}{al:Str->Bool}{apos cpos hp np p' p'' pf pos pos' py tp:Pos}{args:List (Bool×Sem Value)}{base cd cv fv head it nameV r ra rv:Value}{bl:List (Nat×List Nat)}{bm bmB bs first rest rs:List Value}{cellsOf:List (Str×aT)->List Value}{wv wz env' outer:Env}{cl closure:List (Str×Addr)}{cn n' name p1 p2 q qual w':Str}{col:Option Bool}{cond:Nat->Bool}{dd func:Option Addr}{e e1 elt iter slice tg tgt value:Expr}{es:Array iJ}{fd fdf:qbe}{fs loose sn:List Str}{g:Nat->Value}{gs:List Comprehension}{h h' h0:Heap}{hs sts:List Stmt}{h₀:Stmt}{ifs:List Expr}{ini k0 k1 k2 k3 k5:Option Value}{js ks layer left:List (Nat×Nat)}{key:Nat->Int}{lc:Nat×Nat}{ll ps:List (Int×Int)}{m m' mN mb mg:Str->Option Value}{mean:ExcName->Option Value}{names:List (Str×aT)}{o o' oI oa oc od o₁ o₂:Obj}{prog:qbj}{s s' s₀ s₁ s₂ s₃:Shared}{t u:Tok}{x:Addr×(Nat×Nat)×Str}{ys:List PyData}{α β:Type}
inductive V where
 |none
 |bool (b:Bool)
 |int (i:Int)
 |str (s:Str)
 |tup (l:List V)
 |lst (a:Nat)
 |scr (l:List Int)
 |dict0 (a:Nat)
 |rng (lo hi st:Int)
 |exc (c:Str)(x:V)
 deriving Inhabited
abbrev Hp:=List (List V)
abbrev Loc:=List (Option V)
inductive LV{α:Type}:List α->Prop
 |zero:LV []
 |one (a:α):LV [a]
 |two (a b:α):LV [a,b]
 |three (a b c:α):LV [a,b,c]
 |more (a b c d:α)(l:List α):LV (a::b::c::d::l)
theorem LV.of(l:List α):LV l:=by
 cases l with
 |nil=>exact .zero
 |cons a l=>cases l with
  |nil=>exact .one a
  |cons b l=>cases l with
   |nil=>exact .two a b
   |cons c l=>cases l with
    |nil=>exact .three a b c
    |cons d l=>exact .more a b c d l
def sR:List Int->List Value->Prop
 |[],[]=>True
 |i::is,r::rs=>(∃t,r=.int i t)/\sR is rs
 |_,_=>False
structure Cx where
 prog:qbj
 w:World
 h0:Heap
 g:Str->Option Value
 b:Str->Option Value
 lam:Nat->qbe->Str->Prop
 tabs:List (Addr×(Nat×Nat)×Str)
abbrev bz (ps:Array Value):Obj:={ cls:=.none,data:=.fields ps }
inductive bS(h:Heap)(cc:Addr)(q:Str):Prop
 |mk (o:Obj)(vs:Array Value)(t:Tok)(h1:h.get? cc=some o)(h2:o.cls=.type "code")(h3:o.data=.fields vs)(h4:vs[1]?=some (.str q t)):bS h cc q
inductive ef(h:Heap)(x:Addr×(Nat×Nat)×Str):Prop
 |no (h1:h.get? x.1=some (bz #[])):ef h x
 |yes (cc:Addr)(h1:h.get? x.1=some (bz #[rawInt x.2.1.1,rawInt x.2.1.2,.ref cc]))(h2:bS h cc x.2.2):ef h x
theorem bS.mono(hk:∀b o,h.get? b=some o->o.cls=.type "code"->h'.get? b=some o):bS h cc q->bS h' cc q
 |.mk o vs t h1 h2 h3 h4=>.mk o vs t (hk _ _ h1 h2) h2 h3 h4
theorem ef.mono(hn:∀b ps,h.get? b=some (bz ps)->h'.get? b=some (bz ps))(hk:∀b o,h.get? b=some o->o.cls=.type "code"->h'.get? b=some o):ef h x->ef h' x
 |.no h1=>.no (hn _ _ h1)
 |.yes cc h1 h2=>.yes cc (hn _ _ h1) (h2.mono hk)
inductive dU(φ:List Addr)(h:Heap)(r:Value)(k:Nat)(P:List Value->Prop):Prop
 |mk (a:Addr)(o:Obj)(vs:Array Value)(n:Nat)(hr:r=.ref a)(ha:a∉φ)(ho:h.get? a=some o)(hc:o.cls=.type "tuple")(hd:o.data=.seq vs n)(hz:k<=qag)(hl:P vs.toList):dU φ h r k P
inductive d7(φ:List Addr)(i:Nat)(r:Value):Prop
 |mk (a:Addr)(hr:r=.ref a)(ha:φ[i]?=some a):d7 φ i r
inductive gV(c:Cx)(φ:List Addr)(h:Heap)(l:List Int)(r:Value):Prop
 |mk (a:Addr)(o:Obj)(vs:Array Value)(n:Nat)(hr:r=.ref a)(ha:a∉φ)(h0:c.h0.get? a=some o)(ho:h.get? a=some o)(hc:o.cls=.type "list")(hd:o.data=.seq vs n)(hz:l.length<=qag)(hl:sR l vs.toList):gV c φ h l r
noncomputable def lW:Value->Str
 |.str n _=>n
 |_=>⟨#[]⟩
def kg(es:Array iJ):Prop:=StrKeys es/\(es.toList.map fun e=>lW e.key).Nodup
inductive dz(o o':Obj):Prop
 |mk (h:o'.cls=o.cls)(g:∀es n es' n',o.data=.dict es n->o'.data=.dict es' n'->kg es->kg es'):dz o o'
def dz.same(h:o'.cls=o.cls)(hd:o'.data=o.data):dz o o':=.mk h fun es n es' n' h1 h2 g=>by rw[hd,h1] at h2;(injection h2 with Ja Jb;subst Jb;subst Ja);exact g
def dz.rfl:dz o o:=.same (Eq.refl _) (Eq.refl _)
def dz.cls(h:dz o o'):o'.cls=o.cls:=let⟨h,_⟩:=h;h
def dz.trans(f:dz o₁ o₂)(e:dz o o₁)(d:o₁.data=.dict es n):dz o o₂:=let⟨h,g⟩:=f;let⟨h',g'⟩:=e;.mk (h.trans h') fun Z Z Z Z h1 h2 q=>g _ _ _ _ d h2 (g' _ _ _ _ h1 d q)
inductive dS(φ:List Addr)(h:Heap)(a:Addr)(r:Value):Prop
 |mk (o:Obj)(es:Array iJ)(n:Nat)(hr:r=.ref a)(ha:a∉φ)(ho:h.get? a=some o)(hc:o.cls=.type "dict")(hd:o.data=.dict es n)(hg:kg es/\sysModules<a):dS φ h a r
inductive fF(φ:List Addr)(h:Heap)(lo hi st:Int)(r:Value):Prop
 |mk (a:Addr)(t u v:Tok)(hr:r=.ref a)(ha:a∉φ)(ho:IsRange h a lo hi st t u v)(hb:lo.natAbs<2^31/\hi.natAbs<2^31/\0<st/\st<2^31):fF φ h lo hi st r
inductive wC(φ:List Addr)(h:Heap)(o:Obj)(P:Value->Prop):Prop
 |mk (d:Addr)(od:Obj)(es:Array iJ)(n:Nat)(ra:Value)(h1:o.dict=some d)(h2:d∉φ)(h3:h.get? d=some od)(h4:od.cls=.type "dict")(h5:od.data=.dict es n)(h6:nsFind es (ao "at")=some ra)(h7:P ra):wC φ h o P
inductive ic(c:Cx)(φ:List Addr)(h:Heap)(cn:Str)(r:Value)(P:Value->Prop):Prop
 |mk (a:Addr)(o:Obj)(vs:Array Value)(hr:r=.ref a)(ha:a∉φ)(h0:c.h0.get? a=none)(ho:h.get? a=some o)(hC:∃C,o.cls=.ref C)(hg:c.g cn=some o.cls)(hd:o.data=.fields vs)(hn:cn=ao "BadNet"->wC φ h o P):ic c φ h cn r P
mutual
def ar(c:Cx)(φ:List Addr)(h:Heap):V->Value->Prop
 |.none,r=>r=.none
 |.bool b,r=>r=.bool b
 |.int i,r=>∃t,r=.int i t
 |.str s,r=>∃t,r=.str s t
 |.tup l,r=>dU φ h r l.length (fun vs=>ag c φ h l vs)
 |.lst i,r=>d7 φ i r
 |.scr l,r=>gV c φ h l r
 |.dict0 a,r=>dS φ h a r
 |.rng lo hi st,r=>fF φ h lo hi st r
 |.exc cn x,r=>ic c φ h cn r (fun ra=>ar c φ h x ra)
def ag(c:Cx)(φ:List Addr)(h:Heap):List V->List Value->Prop
 |[],rs=>rs=[]
 |x::xs,rs=>match rs with
  |[]=>False
  |r::rs=>ar c φ h x r/\ag c φ h xs rs
end
def sm(c:Cx)(φ:List Addr)(h:Heap)(i:Nat)(xs:List V):Prop:=∀GJ:Prop,(∀(a:Addr),∀(o:Obj),∀(vs:Array Value),∀(n:Nat),(φ[i]?=some a)->(h.get? a=some o)->(o.cls=.type "list")->(o.data=.seq vs n)->ag c φ h xs vs.toList->(xs.length<=qag/\o.dict=none/\o.slots = #[])->GJ)->GJ
structure ak(c:Cx)(φ:List Addr)(H:Hp)(s:Shared):Prop where
 stays:∀b o,c.h0.get? b=some o->s.heap.get? b=some o
 fresh:∀a∈φ,c.h0.get? a=none
 nodup:φ.Nodup
 len:φ.length=H.length
 lists:∀(i:Nat) xs,H[i]?=some xs->sm c φ s.heap i xs
 gens:s.gens = #[]
 tab:∀x∈c.tabs,ef s.heap x
def rI{c:Cx}{i:Int}:ar c φ h (.int i) (.int i t):=⟨t,rfl⟩
def rS{c:Cx}{i:Str}:ar c φ h (.str i) (.str i t):=⟨t,rfl⟩
theorem rB{c:Cx}{b:Bool}:ar c φ h (.bool b) (.bool b):=rfl
theorem rN{c:Cx}:ar c φ h .none .none:=rfl
theorem rL{c:Cx}:ag c φ h [] []:=rfl
noncomputable def vF : Value -> Bool
 | .type t => t != "frame"
 | .none => false
 | _ => true
theorem jX{v:Value}(h1:v≠.type "frame")(h2:v≠.none):vF v=true:=by
 cases v with
 |type t=>exact bne_iff_ne.mpr fun e=>h1 (by rw[e])
 |none=>exact absurd rfl h2
 |_=>rfl
def mf{v:Value}(h:vF v=true):v≠.type "frame":=fun e=>by rw[e] at h;exact nomatch h
structure Kp(X φ:List Addr)(h:Heap)(φ':List Addr)(h':Heap):Prop where
 pre:φ <+:φ'
 keep:∀b o,h.get? b=some o->b∉φ->b∉X->vF o.cls=true->h'.get? b=some o
 new:∀a∈φ',a∈φ\/h.get? a=none
 dict:∀b o es n,h.get? b=some o->b∉φ->o.data=.dict es n->∃o' es' n',h'.get? b=some o'/\o'.data=.dict es' n'/\dz o o'
 exc:∀b o vs C,h.get? b=some o->b∉φ->o.cls=.ref C->o.data=.fields vs->∃vs',h'.get? b=some { o with data:=.fields vs' }
structure au(X φ:List Addr)(s:Shared)(φ':List Addr)(s':Shared):Prop extends Kp X φ s.heap φ' s'.heap where
 frame:∀b o,s.heap.get? b=some o->b∉φ->b∉X->o.cls≠.none->∃sl,s'.heap.get? b=some { o with slots:=sl }
 alive:∀b o,s.heap.get? b=some o->b∈X->∃o',s'.heap.get? b=some o'
 tabs:∀b o,s.heap.get? b=some o->b∉φ->b∉X->o.cls=.none->∃o',s'.heap.get? b=some o'/\o'.cls=.none
 os:s'.os=s.os
def Kp.notin(e:Kp X φ h φ' h')(hb:h.get? b=some o)(hn:b∉φ):b∉φ':=fun hm=> (e.new b hm).elim hn fun hle=>by exact cq (hle.symm.trans hb)
theorem au.refl{X φ}:au X φ s φ s where
 pre:=nv
 keep:=fun Z Z h Z Z Z=>h
 new:=fun Z h=>.inl h
 frame:=fun Z o h Z Z Z=>⟨o.slots,h⟩
 dict:=fun Z o es n h Z hd=>⟨o,es,n,h,hd,.rfl⟩
 exc:=fun Z o vs Z h Z Z hd=>⟨vs,by rw[<- hd];exact h⟩
 alive:=fun Z o h Z=>⟨o,h⟩
 tabs:=fun Z o h Z Z hc=>⟨o,h,hc⟩
 os:=rfl
def au.live(e:au X φ s φ' s')(b:Addr)(o:Obj)(h:s.heap.get? b=some o)(hφ:b∉φ)(hX:b∉X):∃o',s'.heap.get? b=some o':= (Classical.em (o.cls=.none)).elim (fun hc=>let⟨o',h',_⟩:=e.tabs b o h hφ hX hc;⟨o',h'⟩) fun hc=>let⟨_,h'⟩:=e.frame b o h hφ hX hc;⟨_,h'⟩
def au.trans(e:au X φ s φ₁ s₁)(f:au X φ₁ s₁ φ₂ s₂):au X φ s φ₂ s₂ where
 pre:=e.pre.trans f.pre
 keep b o h hφ hX hc:=f.keep b o (e.keep b o h hφ hX hc) (e.notin h hφ) hX hc
 frame b o h hφ hX hc:=by
  obtain⟨sl,h₁⟩:=e.frame b o h hφ hX hc
  obtain⟨sl',h₂⟩:=f.frame b _ h₁ (e.notin h hφ) hX hc
  exact⟨sl',h₂⟩
 tabs b o h hφ hX hc:=by
  obtain⟨o₁,h₁,c₁⟩:=e.tabs b o h hφ hX hc
  exact f.tabs b o₁ h₁ (e.notin h hφ) hX c₁
 dict b o es n h hφ hd:=by
  obtain⟨o₁,es₁,n₁,h₁,d₁,c₁⟩:=e.dict b o es n h hφ hd
  obtain⟨o₂,es₂,n₂,h₂,d₂,c₂⟩:=f.dict b o₁ es₁ n₁ h₁ (e.notin h hφ) d₁
  exact⟨o₂,es₂,n₂,h₂,d₂,c₂.trans c₁ d₁⟩
 exc b o vs C h hφ hc hd:=by
  obtain⟨vs₁,h₁⟩:=e.exc b o vs C h hφ hc hd
  obtain⟨vs₂,h₂⟩:=f.exc b _ vs₁ C h₁ (e.notin h hφ) hc rfl
  exact⟨vs₂,h₂⟩
 new a ha:=(f.new a ha).elim (fun h=>e.new a h) fun h=>by
  refine xC (s.heap.get? a) (fun ho=>?_) fun o ho=>?_
  ·exact .inr rfl
  ·by_cases hφ:a∈φ
   ·exact .inl hφ
   ·by_cases hX:a∈X
    ·obtain⟨o',h'⟩:=e.alive a o ho hX
     exact cq (h.symm.trans h')
    ·obtain⟨o',h'⟩:=e.live a o ho hφ hX
     exact cq (h.symm.trans h')
 alive b o h hX:=by
  obtain⟨o',h'⟩:=e.alive b o h hX
  exact f.alive b o' h' hX
 os:=f.os.trans e.os
def au.weaken{Y:List Addr}(e:au X φ s φ' s')(h:∀b∈X,b∈Y)(hY:∀b∈Y,b∉φ):au Y φ s φ' s' where
 pre:=e.pre
 keep b o hb hφ hY hc:=e.keep b o hb hφ (fun hx=>hY (h b hx)) hc
 new:=e.new
 frame b o hb hφ hY hc:=e.frame b o hb hφ (fun hx=>hY (h b hx)) hc
 tabs b o hb hφ hY hc:=e.tabs b o hb hφ (fun hx=>hY (h b hx)) hc
 dict:=e.dict
 exc:=e.exc
 alive b o hb hm:=by
  by_cases hX:b∈X
  ·exact e.alive b o hb hX
  ·exact e.live b o hb (hY b hm) hX
 os:=e.os
def au.drop(e:au X φ s φ' s')(h:∀b∈X,s.heap.get? b=none):au [] φ s φ' s' where
 pre:=e.pre
 keep b o hb hφ _ hc:=e.keep b o hb hφ (fun hx=>by exact cq ((h b hx).symm.trans hb)) hc
 new:=e.new
 frame b o hb hφ _ hc:=e.frame b o hb hφ (fun hx=>by exact cq ((h b hx).symm.trans hb)) hc
 tabs b o hb hφ _ hc:=e.tabs b o hb hφ (fun hx=>by exact cq ((h b hx).symm.trans hb)) hc
 dict:=e.dict
 exc:=e.exc
 alive _ _ _ hx:=nomatch hx
 os:=e.os
def au.of_heap(hh:s'.heap=s.heap)(ho:s'.os=s.os):au X φ s φ s' where
 pre:=nv
 keep _ _ h _ _ _:=by rw[hh];exact h
 new _ h:=.inl h
 frame _ o h _ _ _:=⟨o.slots,by rw[hh];exact h⟩
 tabs _ o h _ _ hc:=⟨o,by rw[hh];exact h,hc⟩
 dict _ o es n h _ hd:=⟨o,es,n,by rw[hh];exact h,hd,.rfl⟩
 exc _ o vs _ h _ _ hd:=⟨vs,by rw[hh,<-hd];exact h⟩
 alive _ o h _:=⟨o,by rw[hh];exact h⟩
 os:=ho
def au.of_sameBut(hs:iy a s.heap s'.heap)(ha:a∈φ)(hX:a∉X)(ho:s'.os=s.os):au X φ s φ s' where
 pre:=nv
 keep b o h hφ _ _:=(hs.2 b fun e=>hφ (e▸ha)).trans h
 new _ h:=.inl h
 frame b o h hφ _ _:=⟨o.slots,(hs.2 b fun e=>hφ (e▸ha)).trans h⟩
 tabs b o h hφ _ hc:=⟨o,(hs.2 b fun e=>hφ (e▸ha)).trans h,hc⟩
 dict b o es n h hφ hd:=⟨o,es,n,(hs.2 b fun e=>hφ (e▸ha)).trans h,hd,.rfl⟩
 exc b o vs _ h hφ _ hd:=⟨vs,by rw[<- hd];exact(hs.2 b fun e=>hφ (e▸ha)).trans h⟩
 alive b o h hb:=⟨o,(hs.2 b fun e=>hX (e▸hb)).trans h⟩
 os:=ho
def au.of_keeps(hk:∀b o,s.heap.get? b=some o->s'.heap.get? b=some o)(ho:s'.os=s.os):au X φ s φ s' where
 pre:=nv
 keep b o h _ _ _:=hk b o h
 new _ h:=.inl h
 frame b o h _ _ _:=⟨o.slots,hk b o h⟩
 tabs b o h _ _ hc:=⟨o,hk b o h,hc⟩
 dict b o es n h _ hd:=⟨o,es,n,hk b o h,hd,.rfl⟩
 exc b o vs _ h _ _ hd:=⟨vs,by rw[<- hd];exact hk b o h⟩
 alive b o h _:=⟨o,hk b o h⟩
 os:=ho
def au.of_own(hs:iy a s.heap s'.heap)(ha:a∈X)(hd:∀o es n,s.heap.get? a=some o->o.data=.dict es n->∃o' es' n',s'.heap.get? a=some o'/\o'.data=.dict es' n'/\dz o o')
  (hal:∃o',s'.heap.get? a=some o') (ho:s'.os=s.os) (hf:∀o vs,s.heap.get? a=some o->o.data≠.fields vs):au X φ s φ s' where
 pre:=nv
 keep b o h _ hX _:=(hs.2 b fun e=>hX (e▸ha)).trans h
 new _ h:=.inl h
 frame b o h _ hX _:=⟨o.slots,(hs.2 b fun e=>hX (e▸ha)).trans h⟩
 tabs b o h _ hX hc:=⟨o,(hs.2 b fun e=>hX (e▸ha)).trans h,hc⟩
 dict b o es n h _ hdd:=by
  by_cases e:b=a
  ·subst e;exact hd o es n h hdd
  ·exact⟨o,es,n,(hs.2 b e).trans h,hdd,.rfl⟩
 exc b o vs _ h _ _ hdd:=by
  by_cases e:b=a
  ·subst e;exact absurd hdd (hf o vs h)
  ·exact⟨vs,by rw[<- hdd];exact(hs.2 b e).trans h⟩
 alive b o h _:=by
  by_cases e:b=a
  ·subst e;exact hal
  ·exact⟨o,(hs.2 b e).trans h⟩
 os:=ho
noncomputable def hid:Value->Bool
 |.type t=>["frame","cell","traceback","list_iterator","tuple_iterator","range_iterator","longrange_iterator","str_iterator","str_ascii_iterator","enumerate","zip","list_reverseiterator"].contains t
 |.none=>true
 |_=>false
theorem tb{v:Value}(h:hid v=false):vF v=true:=by
 cases v with
 |type t=>exact bne_iff_ne.mpr fun e=>by rw[e] at h;exact nomatch h
 |none=>exact nomatch h
 |_=>rfl
def own(c:Cx)(b:Addr)(o:Obj):Prop:=
 hid o.cls=true\/(o.cls=.type "list"/\c.h0.get? b=none)\/(o.cls=.type "dict"/\∃es n,o.data=.dict es n/\nsFind es (ao "at")=none)\/(∃C,o.cls=.ref C)
noncomputable def kj (T : String) : Bool := !hid (.type T) && T != "list" && T != "dict"
theorem vk{c:Cx}(h0:o.cls=.type T)(h1:kj T=true):¬own c b o:=fun h=>by
 simp only[kj,Bool.and_eq_true,iu,bne_iff_ne] at h1;rcases h with h |h |h |⟨C,h⟩
 ·rw[h0,h1.1.1] at h;injection h
 ·rw[h0] at h;injection h.1 with h;exact h1.1.2 h
 ·rw[h0] at h;injection h.1 with h;exact h1.2 h
 ·rw[h0] at h;injection h
def ax(c:Cx)(X:List Addr)(h:Heap):Prop:=∀b∈X,∀o,h.get? b=some o->own c b o
def ax.nil{c:Cx}:ax c [] h:=fun Z hb=>nomatch hb
def wN{l l':List α}(h:l <+:l'){a:α}(e:l[i]?=some a):l'[i]?=some a:=by
 obtain⟨t,rfl⟩:=h;rw[jd (gG.mp e).1];exact e
section
variable {c:Cx}
def uV(e:Kp X φ h φ' h')(hX:ax c X h)(ho:h.get? a=some o)(ha:a∉φ)(hc:¬own c a o):h'.get? a=some o:=
 e.keep a o ho ha (fun hx=>hc (hX a hx o ho)) (tb (Bool.eq_false_iff.mpr fun q=>hc (.inl q)))
def qm{c:Cx}(h0:c.h0.get? b=some o')(hc:o.cls=.type "list"):¬own c b o:=fun q=>by
 rcases q with q |q |q |⟨C,q⟩
 ·rw[hc] at q;revert q;decide
 ·rw[h0] at q;cases q.2
 ·rw[hc] at q;exact absurd q.1 (by decide)
 ·rw[hc] at q;injection q
def u5{c:Cx}(h4:od.cls=.type "dict")(h5:od.data=.dict es n)(h6:nsFind es (ao "at")=some ra):¬own c b od:=fun q=>by
 rcases q with q |q |⟨_,es',n',q,q''⟩|⟨C',q⟩
 ·rw[h4] at q;revert q;decide
 ·rw[h4] at q;exact absurd q.1 (by decide)
 ·rw[h5] at q;injection q with Ja Jb;subst Jb;subst Ja;exact Eu (h6.symm.trans q'')
 ·rw[h4] at q;injection q
mutual
theorem ar.mono(e:Kp X φ h φ' h')(hX:ax c X h):∀{v:V}{r:Value},ar c φ h v r->ar c φ' h' v r
 |.none,_,h=>h
 |.bool _,_,h=>h
 |.int _,_,h=>h
 |.str _,_,h=>h
 |.tup l,r,.mk a o vs n hr ha ho hc hd hz hl=>dU.mk a o vs n hr (e.notin ho ha) (uV e hX ho ha (vk hc rfl)) hc hd hz (ag.mono e hX hl)
 |.lst i,r,.mk a hr ha=>d7.mk a hr (wN e.pre ha)
 |.scr l,r,.mk a o vs n hr ha h0 ho hc hd hz hl=>gV.mk a o vs n hr (e.notin ho ha) h0 (uV e hX ho ha (qm h0 hc)) hc hd hz hl
 |.dict0 a,r,.mk o es n hr ha ho hc hd hg=>
  let⟨o',es',n',h1,h2,h3,h4⟩:=e.dict a o es n ho ha hd
  dS.mk o' es' n' hr (e.notin ho ha) h1 (h3.trans hc) h2 ⟨h4 _ _ _ _ hd h2 hg.1,hg.2⟩
 |.rng lo hi st,r,.mk a t u v hr ha ho hb=>fF.mk a t u v hr (e.notin ho ha) (uV e hX ho ha (vk (T:="range") rfl rfl)) hb
 |.exc cn x,r,.mk a o vs hr ha h0 ho ⟨C,hC⟩ hg hd hn=>
  let⟨vs',ho'⟩:=e.exc a o vs C ho ha hC hd
  ic.mk a _ vs' hr (e.notin ho ha) h0 ho' ⟨C,hC⟩ hg rfl fun q=>
   let⟨d,od,es,n,ra,h1,h2,h3,h4,h5,h6,h7⟩:=hn q
   ⟨d,od,es,n,ra,h1,e.notin h3 h2,uV e hX h3 h2 (u5 h4 h5 h6),h4,h5,h6,ar.mono e hX h7⟩
theorem ag.mono(e:Kp X φ h φ' h')(hX:ax c X h):∀{l:List V}{rs:List Value},ag c φ h l rs->ag c φ' h' l rs
 |[],_,h=>h
 |_::_,[],h=>False.elim h
 |_::_,_::_,h=>⟨ar.mono e hX h.1,ag.mono e hX h.2⟩
end
def xu(ha:h.get? a=some oa)(hla:oa.cls=.type "list")(hb:h.get? b=some o)(hc:o.cls≠.type "list")(hn:b∉φ):b∉φ++[a]:=fun hm=> (cE.mp hm).elim hn fun e=>by
  rw[aV.mp e,ha] at hb;(injection hb with Ja;subst Ja);exact hc hla
mutual
theorem ar.adopt(ha:h.get? a=some oa)(hla:oa.cls=.type "list")(h0:c.h0.get? a=none):∀{v:V}{r:Value},ar c φ h v r->ar c (φ++[a]) h v r
 |.none,_,q=>q
 |.bool _,_,q=>q
 |.int _,_,q=>q
 |.str _,_,q=>q
 |.tup l,r,.mk b o vs n hr hb ho hc hd hz hl=>dU.mk b o vs n hr (xu ha hla ho (by rw[hc];decide) hb) ho hc hd hz (ag.adopt ha hla h0 hl)
 |.lst i,r,.mk b hr hb=>d7.mk b hr (wN (List.prefix_append _ _) hb)
 |.scr l,r,.mk b o vs n hr hb hb0 ho hc hd hz hl=>gV.mk b o vs n hr (fun hm=>(cE.mp hm).elim hb fun e=>by rw[aV.mp e,h0] at hb0;injection hb0) hb0 ho hc hd hz hl
 |.dict0 b,r,.mk o es n hr hb ho hc hd hg=>dS.mk o es n hr (xu ha hla ho (by rw[hc];decide) hb) ho hc hd hg
 |.rng lo hi st,r,.mk b t u v hr hb ho hs=>fF.mk b t u v hr (xu ha hla ho (show jc "range"≠_ by decide) hb) ho hs
 |.exc cn x,r,.mk b o vs hr hb hb0 ho ⟨C,hC⟩ hg hd hn=>
  ic.mk b o vs hr (xu ha hla ho (by rw[hC];intro q;injection q) hb) hb0 ho ⟨C,hC⟩ hg hd fun q=>
   let⟨d,od,es,n,ra,h1,h2,h3,h4,h5,h6,h7⟩:=hn q
   ⟨d,od,es,n,ra,h1,xu ha hla h3 (by rw[h4];decide) h2,h3,h4,h5,h6,ar.adopt ha hla h0 h7⟩
theorem ag.adopt(ha:h.get? a=some oa)(hla:oa.cls=.type "list")(h0:c.h0.get? a=none):∀{l:List V}{rs:List Value},ag c φ h l rs->ag c (φ++[a]) h l rs
 |[],_,q=>q
 |_::_,[],q=>False.elim q
 |_::_,_::_,q=>⟨ar.adopt ha hla h0 q.1,ag.adopt ha hla h0 q.2⟩
end
def C7(c:Cx)(φ:List Addr)(h:Heap)(v:V)(l:List V)(rs:List Value):Prop:=∀GJ:Prop,(∀(r:Value),∀(rs':List Value),(rs=r::rs')->ar c φ h v r->ag c φ h l rs'->GJ)->GJ
theorem ag.uncons{v:V}{vs:List V}(R:ag c φ h (v::vs) rs):C7 c φ h v vs rs:=by
 cases rs with
 |nil=>exact R.elim
 |cons r rs=>exact(fun Z kJ=>kJ r rs rfl R.1 R.2)
def ag.nil_inv(R:ag c φ h [] rs):rs=[]:=R
theorem ag.length:∀{l:List V}{rs:List Value},ag c φ h l rs->rs.length=l.length
 |[],_,q=>by rw[q.nil_inv];rfl
 |_::_,_,q=>by
  refine q.uncons _ fun r rs' wk Z q2=>?_;subst wk;exact congrArg (· + 1) (ag.length q2)
def AL(c:Cx)(φ:List Addr)(h:Heap)(rs:List Value)(i:Nat)(v:V):Prop:=∀GJ:Prop,(∀(r:Value),(rs[i]?=some r)->ar c φ h v r->GJ)->GJ
theorem ag.get:∀{l:List V}{rs:List Value},ag c φ h l rs->∀{i:Nat}{v:V},l[i]?=some v->AL c φ h rs i v
 |[],_,_,_,_,e=>nomatch e
 |x::xs,_,q,i,v,e=>by
  refine q.uncons _ fun r rs' wk hv q2=>?_;subst wk;cases i with
  |zero=>(injection e with Ja;subst Ja);exact(fun Z kJ=>kJ r rfl hv)
  |succ i=>
   refine(ag.get q2 (i:=i) (v:=v) e) _ fun r' e' h'=>?_;exact(fun Z kJ=>kJ r' e' h')
theorem ag.append:∀{l l':List V}{rs rs':List Value},ag c φ h l rs->ag c φ h l' rs'->ag c φ h (l++l') (rs++rs')
 |[],_,_,_,q,q'=>by rw[q.nil_inv];exact q'
 |_::_,_,_,_,q,q'=>by
  refine q.uncons _ fun r rs' wk hv q2=>?_;subst wk;exact⟨hv,ag.append q2 q'⟩
theorem ag.set:∀{l:List V}{rs:List Value},ag c φ h l rs->∀(i:Nat){v:V}{r:Value},ar c φ h v r->ag c φ h (l.set i v) (rs.set i r)
 |[],_,q,_,_,_,_=>by rw[q.nil_inv];rfl
 |_::_,_,q,i,_,_,hv'=>by
  refine q.uncons _ fun r rs' wk hv q2=>?_;subst wk;cases i with
  |zero=>exact⟨hv',q2⟩
  |succ i=>exact⟨hv,ag.set q2 i hv'⟩
def ak.lt{H:Hp}(S:ak c φ H s)(ha:a∈φ):a<s.heap.objs.size:=by
 obtain⟨i,hi,rfl⟩:=List.mem_iff_getElem.mp ha;have hi':i<H.length:=S.len▸hi;refine(S.lists i H[i] (bp hi')) _ fun a o Z Z h1 h2 Z Z Z Z=>?_;replace h1:=ah ((bp hi).symm.trans h1);subst h1;exact f9 h2
def ak.isList{H:Hp}(S:ak c φ H s)(ha:a∈φ):∃o,s.heap.get? a=some o/\o.cls=.type "list":=by
 obtain⟨i,hi,rfl⟩:=List.mem_iff_getElem.mp ha;have hi':i<H.length:=S.len▸hi;refine(S.lists i H[i] (bp hi')) _ fun a o Z Z h1 h2 h3 Z Z Z=>?_;replace h1:=ah ((bp hi).symm.trans h1);subst h1;exact⟨o,h2,h3⟩
def ak.new{H:Hp}(S:ak c φ H s):s.heap.objs.size∉φ:=fun h=>eI _ (S.lt h)
def ak.h0_new{H:Hp}(S:ak c φ H s)(ha:s.heap.objs.size<=a):c.h0.get? a=none:=by
 refine xC (c.h0.get? a) (fun e=>?_) fun o e=>?_
 ·rfl
 ·exact absurd (f9 (S.stays a o e)) (Nat.not_lt.mpr ha)
def ak.mono{H:Hp}(S:ak c φ H s)(e:Kp X φ s.heap φ s'.heap)(hX:ax c X s.heap)(hXb:∀b∈X,c.h0.get? b=none)
  (hl:∀a∈φ,∀o,s.heap.get? a=some o->s'.heap.get? a=some o) (hst:∀b o,c.h0.get? b=some o->vF o.cls=false->s'.heap.get? b=some o) (hg:s'.gens = #[])
  (hn:∀b ps,s.heap.get? b=some (bz ps)->s'.heap.get? b=some (bz ps)):ak c φ H s' where
 stays b o h:=by
  refine xD (vF o.cls) (fun hf=>?_) fun hf=>?_
  ·exact e.keep b o (S.stays b o h) (fun hm=>by exact cq ((S.fresh b hm).symm.trans h)) (fun hm=>by exact cq ((hXb b hm).symm.trans h)) hf
  ·exact hst b o h hf
 fresh:=S.fresh
 nodup:=S.nodup
 len:=S.len
 lists i xs h:=by
  refine(S.lists i xs h) _ fun a o vs n h1 h2 h3 h4 h5 h6=>?_
  exact(fun Z kJ=>kJ a o vs n h1 (hl a (cD h1) o h2) h3 h4 (ag.mono e hX h5) h6)
 gens:=hg
 tab x hx:=(S.tab x hx).mono hn fun b o hb hc=>e.keep b o hb (fun hm=>by
  obtain⟨o',h1,h2⟩:=S.isList hm
  replace h1:=ah (hb.symm.trans h1);subst h1;rw[hc] at h2;exact absurd h2 (by decide)) (fun hm=>vk hc rfl (hX b hm o hb)) (by rw[hc];rfl)
theorem ak.keeps{H:Hp}(S:ak c φ H s)(hk:∀b o,s.heap.get? b=some o->s'.heap.get? b=some o)(hg:s'.gens=s.gens):ak c φ H s':=
 S.mono (X:=[]) ⟨nv,fun b o h Z Z Z=>hk b o h,fun Z h=>.inl h,fun b o es n h Z hd=>⟨o,es,n,hk b o h,hd,.rfl⟩,fun b o vs Z h Z Z hd=>⟨vs,by rw[<- hd];exact hk b o h⟩⟩ ax.nil (by simp) (fun a Z o h=>hk a o h) (fun b o h Z=>hk b o (S.stays b o h)) (hg.trans S.gens) fun b Z h=>hk b _ h
def ak.tok{H:Hp}(S:ak c φ H s)(t:Nat):ak c φ H { s with toks:=t }:=⟨S.stays,S.fresh,S.nodup,S.len,S.lists,S.gens,S.tab⟩
def ak.push{H:Hp}(S:ak c φ H s)(o:Obj):ak c φ H { s with heap:=s.heap.push o }:=
 S.keeps (fun Z Z h=>bV _ h) rfl
def au.push:au X φ s φ { s with heap:=s.heap.push o }:=
 au.of_keeps (fun Z Z h=>bV _ h) rfl
theorem ak.adopt{H:Hp}(S:ak c φ H s){xs:List V}(ha:a∉φ)(h0:c.h0.get? a=none)(ho:s.heap.get? a=some o)(hc:o.cls=.type "list")
  (hd:o.data=.seq vs n) (hp:o.dict=none/\o.slots = #[]) (hr:ag c φ s.heap xs vs.toList) (hz:xs.length<=qag):ak c (φ++[a]) (H++[xs]) s where
 stays:=S.stays
 fresh b hb:=by
  rcases cE.mp hb with h |h
  ·exact S.fresh b h
  ·rw[aV.mp h];exact h0
 nodup:=by
  rw[List.nodup_append]
  refine⟨S.nodup,by simp,fun x hx y hy=>?_⟩
  rw[aV.mp hy];rintro rfl;exact ha hx
 len:=by simp[S.len]
 lists i ys h:=by
  by_cases hi:i<H.length
  ·rw[jd hi] at h
   refine(S.lists i ys h) _ fun b o' vs' n' h1 h2 h3 h4 h5 h6=>?_
   exact(fun Z kJ=>kJ b o' vs' n' (by rw[jd (S.len▸hi)];exact h1) h2 h3 h4 (ag.adopt ho hc h0 h5) h6)
  ·have hlt:i<(H++[xs]).length:=(gG.mp h).1
   have:i=H.length:=by simp at hlt;exact aA [_,_] [] kac (Y2 V0 V1) (Y8 (Y1 V0 V1) J0) (Y1 V0 (Y0 V1 J1)) hi hlt
   subst this
   rw[iE (aN _)] at h
   simp at h;subst h
   exact(fun Z kJ=>kJ a o vs n (by rw[iE (gk S.len)];simp[S.len]) ho hc hd (ag.adopt ho hc h0 hr) ⟨hz,hp⟩)
 gens:=S.gens
 tab:=S.tab
theorem ak.newList{H:Hp}(S:ak c φ H s){xs:List V}{vs:List Value}(hr:ag c φ s.heap xs vs)(hz:xs.length<=qag)(ho:o={ cls:=.type "list",data:=.seq vs.toArray }) :
  au [] φ s (φ++[s.heap.objs.size]) { s with heap:=s.heap.push o }/\ak c (φ++[s.heap.objs.size]) (H++[xs]) { s with heap:=s.heap.push o }:=by
 subst ho
 have e:au [] φ s (φ++[s.heap.objs.size]) { s with heap:=s.heap.push { cls:=.type "list",data:=.seq vs.toArray } }:=
  { (au.push (X:=[]) (φ:=φ) (s:=s) (o:={ cls:=.type "list",data:=.seq vs.toArray })) with
   pre:=List.prefix_append _ _
   new:=fun a ha=>(cE.mp ha).elim .inl fun h=>.inr (by rw[aV.mp h];exact fz (aN _)) }
 refine⟨e,?_⟩
 have S':=S.push { cls:=.type "list",data:=.seq vs.toArray }
 refine S'.adopt (o:={ cls:=.type "list",data:=.seq vs.toArray }) (vs:=vs.toArray) (n:=0) S.new (S.h0_new (aN _)) (dw _ rfl) rfl rfl ⟨rfl,rfl⟩ ?_ hz
 have:=ag.mono (au.push (X:=[]) (φ:=φ) (s:=s) (o:={ cls:=.type "list",data:=.seq vs.toArray })).toKp ax.nil hr
 simpa using this
end
variable {H H' H'' H0 H2 H3 H₁:Hp}{K QQ:List V->Hp->Prop}{Q:V->Hp->Prop}{av l xs:List V}{b q:Bool}{c:Cx}{es:List Expr}{f:V->Option PyData}{l' loc loc' l₁:Loc}{l0 l1 l10 l11 l12 l13 l14 l15 l6 l7 l8 l9 ov v3 v5 v6 v8:Option V}{o:Option Nat}{t:Nat}{v0 v1 w x y z:V}{vals:List (Str×V)}
inductive Op |add |sub |mul |div |mod
 |pow
inductive Cm |lt |le |gt |ge |eq |ne
 |isIn
 |notIn
inductive Bl |len |max |range |list |all
 |tuple
 |sorted
 |int
inductive Me |append
 |count
 |index
 |join
inductive Tc |int |bool |list |tuple
 |str
 |own (cn:Str)
inductive Tg |one (i:Nat) |two (i j:Nat)
inductive Ex where
 |lit (v:V)
 |var (i:Nat)
 |tup (es:List Ex)
 |list (es:List Ex)
 |dict0
 |bin (op:Op)(a b:Ex)
 |neg (a:Ex)
 |not (a:Ex)
 |cmp (a:Ex)(os:List Cm)(bs:List Ex)
 |and (es:List Ex)
 |or (es:List Ex)
 |idx (a i:Ex)
 |slice (a lo hi:Ex)
 |rev (a:Ex)
 |call (f:Str)(es:List Ex)
 |callL (f:Str)(es:List Ex)(k:Nat)(i:Nat)
 |callv (es:List Ex)
 |blt (b:Bl)(es:List Ex)
 |meth (m:Me)(o:Ex)(es:List Ex)
 |isi (a:Ex)(t:Tc)
 |comp (elt:Ex)(t:Tg)(src:Ex)(ifs:List Ex)
 |attr (a:Ex)(x:Str)
 deriving Inhabited
noncomputable abbrev Ex.ww (n:Int):Ex:=.lit (.int n)
noncomputable abbrev Ex.wx (n:Nat):Ex:=.var n
inductive Sr where
 |val (e:Ex)
 |enum (e:Ex)
 |rev (e:Ex)
 |zip (a b:Ex)
 deriving Inhabited
inductive St where
 |set (i:Nat)(e:Ex)
 |unp (is:List Nat)(e:Ex)
 |put (o i e:Ex)
 |expr (e:Ex)
 |ret (e:Ex)
 |ite (t:Ex)(a b:List St)
 |whil (t:Ex)(b:List St)
 |loop (t:Tg)(s:Sr)(b:List St)
 |rais (cn:Str)(es:List Ex)
 |tri (b:List St)(i:Nat)(h:List St)
 |stuck
 deriving Inhabited
inductive Fl where
 |next
 |ret (v:V)
noncomputable def kT:V->Option Bool
 |.bool b=>some b
 |_=>none
noncomputable def aF{α β:Type}(f:α->Option β):List α->Option (List β)
 |[]=>some []
 |x::xs=>(f x).bind fun y=>(aF f xs).map (y::·)
def Da{α β:Type}(f:α->Option β)(x:α)(xs:List α)(r:List β):Prop:=∀GJ:Prop,(∀(y:β),∀(ys:List β),(f x=some y)->(aF f xs=some ys)->(r=y::ys)->GJ)->GJ
def gi{f:α->Option β}{x:α}{xs:List α}{r:List β}(h:aF f (x::xs)=some r):Da f x xs r:=by
 revert h;refine xB fun y h1 h=>?_;revert h;refine xM fun ys h2 h=>?_;exact(fun Z kJ=>kJ y ys h1 h2 h.symm)
noncomputable def lF:V->Option PyData
 |.none=>some PyData.none
 |.bool b=>some (PyData.bool b)
 |.int i=>some (PyData.int i)
 |.str s=>some (PyData.str s)
 |_=>none
noncomputable def bB:Nat->Hp->V->Option PyData
 |0,_,v=>lF v
 |n+1,H,v=>match v with
  |.tup l=>(aF (bB n H) l).map PyData.tuple
  |.lst a=>(H[a]?.bind fun xs=>aF (bB n H) xs).map PyData.list
  |v=>lF v
noncomputable def fB(H:Hp)(v w:V):Option Bool:=(bB 9 H v).bind fun a=>(bB 9 H w).bind fun b=>if a.canLay0&&b.canLay0 then some (PyData.eqv a b) else none
noncomputable def ix(i:Int)(n:Nat):Option Nat:=
 if 0<=i then(if i<n then some i.toNat else none) else(if -(n:Int)<=i then some (i+n).toNat else none)
noncomputable def qW(s:Str)(j:Nat):Option V:=s.cps[j]?.map fun c=>.str ⟨#[c]⟩
noncomputable def za(n:Nat)(o:Option Nat):Option Nat:=if n<=qag then o else none
def Ck(h:za n o=some j):o=some j/\n<=qag:=by
 unfold za at h;by_cases hn:n<=qag
 ·rw[if_pos hn] at h;exact⟨h,hn⟩
 ·exact cq ((if_neg hn).symm.trans h)
noncomputable def jb:V->Option Int
 |.int i=>some i
 |_=>none
noncomputable def rT:V->Option Nat
 |.lst a=>some a
 |_=>none
noncomputable def vr:V->Option (List V)
 |.tup l=>some l
 |_=>none
def pH {v:V} {i:Int} (h:jb v=some i):v=.int i:=by cases v<;>cases h;rfl
def xV{v:V}(h:rT v=some i):v=.lst i:=by cases v<;>cases h;rfl
noncomputable def vR:V->Option Str
 |.str s=>some s
 |_=>none
def vj{v:V}{l:Str}(h:vR v=some l):v=.str l:=by cases v<;>cases h;rfl
def iI[Decidable p]{a b:α}(h:(if p then some a else none)=some b):p/\a=b:=by
 by_cases hp:p
 ·rw[if_pos hp] at h;exact⟨hp,ah h⟩
 ·exact cq ((if_neg hp).symm.trans h)
def iK[Decidable p]{o:Option α}{b:α}(h:(if p then o else none)=some b):p/\o=some b:=by
 by_cases hp:p
 ·rw[if_pos hp] at h;exact⟨hp,h⟩
 ·exact cq ((if_neg hp).symm.trans h)
def yS[Decidable p]{a b:α}(h:(if p then none else some a)=some b):¬p/\a=b:=by
 by_cases hp:p
 ·exact cq ((if_pos hp).symm.trans h)
 ·rw[if_neg hp] at h;exact⟨hp,ah h⟩
def yo{v:V}(h:vr v=some l):v=.tup l:=by cases v<;>cases h;rfl
def n8{v:V}(h:kT v=some b):v=.bool b:=by cases v<;>cases h;rfl
noncomputable def wc:List V->Option (List Int)
 |[]=>some []
 |x::r=>(jb x).bind fun i=>(wc r).map (i::·)
noncomputable def gu:List V->Option (List Bool)
 |[]=>some []
 |x::r=>(kT x).bind fun i=>(gu r).map (i::·)
noncomputable def jj:List V->Option (List Str)
 |[]=>some []
 |x::r=>(vR x).bind fun i=>(jj r).map (i::·)
noncomputable def bO(H:Hp)(v w:V):Option V:=(jb w).bind fun i=>match v with
 |.str s=>(za s.cps.size (ix i s.cps.size)).bind (qW s)
 |.lst a=>H[a]?.bind fun xs=>(ix i xs.length).bind fun j=>xs[j]?
 |.tup xs=>(ix i xs.length).bind fun j=>xs[j]?
 |.scr xs=>(ix i xs.length).bind fun j=>xs[j]?.map .int
 |_=>none
noncomputable def eO{β:Type}(x y:V)(f:Int->Int->Option β):Option β:=(jb x).bind fun a=>(jb y).bind fun b=>f a b
def oM{f:Int->Int->Option β}{r:β}(h:eO x y f=some r):∃a b,x=.int a/\y=.int b/\f a b=some r:=by
 revert h;refine xB fun a h1 h=>?_;revert h;refine xB fun b h2 h=>?_;exact⟨a,b,pH h1,pH h2,h⟩
noncomputable def fR{β:Type}(H:Hp)(x:V)(f:List V->Option β):Option β:=(rT x).bind fun a=>(H[a]?).bind f
def uD{f:List V->Option β}{r:β}(h:fR H x f=some r):∃a xs,x=.lst a/\H[a]?=some xs/\f xs=some r:=by
 revert h;refine xB fun a h1 h=>?_;revert h;refine xB fun xs h2 h=>?_;exact⟨a,xs,xV h1,h2,h⟩
noncomputable def mI(s:Str):Option Nat:=match s.cps.toList with
 |[k]=>some k
 |_=>none
noncomputable def FZ(s:Str)(y:V):Option Bool:=match y with
 |.str t=>(mI s).map fun k=>decide (k∈t.cps.toList)
 |.tup l=>(jj l).map fun l=>decide (s∈l)
 |_=>none
noncomputable def ES(H:Hp)(x y:V):Option Bool:=match x with
 |.int k=>fR H y fun xs=>(wc xs).map fun l=>decide (k∈l)
 |.str s=>FZ s y
 |_=>none
noncomputable def y0(x y:V):Option Bool:=(vR x).bind fun s=>(vr y).bind fun l=>(jj l).map fun l=>!decide (s∈l)
noncomputable def isNone:V->Option Bool
 |.none=>some true
 |.int _=>some false
 |_=>none
noncomputable def dq(H:Hp)(o:Cm)(x y:V):Option Bool:=match o with
 |.lt=>eO x y fun a b=>some (decide (a<b))
 |.le=>eO x y fun a b=>some (decide (a<=b))
 |.gt=>eO x y fun a b=>some (decide (a>b))
 |.ge=>eO x y fun a b=>some (decide (a>=b))
 |.eq=>fB H x y
 |.ne=>(fB H x y).map (!·)
 |.isIn=>ES H x y
 |.notIn=>y0 x y
noncomputable def q7(i:Int):Bool:=decide (i.natAbs<2^63)
noncomputable def rep{α:Type}(l:List α):Nat->List α
 |0=>[]
 |n+1=>l++rep l n
theorem D8{l:List α}:rep l (n+1)=l++rep l n:=rfl
noncomputable def ym(H:Hp)(x y:V):Option (V×Hp):=match x with
 |.int a=>(jb y).map fun b=>(.int (a+b),H)
 |.str a=>(vR y).bind fun b=>if a.length+b.length<=qag then some (.str (a++b),H) else none
 |.lst a=>(H[a]?).bind fun x=>fR H y fun y=>if x.length+y.length<=qag then some (.lst H.length,H++[x++y]) else none
 |_=>none
noncomputable def y7(H:Hp)(x y:V):Option (V×Hp):=(jb y).bind fun n=>match x with
 |.int a=>if q7 a||q7 n then some (.int (a*n),H) else none
 |.lst a=>(H[a]?).bind fun x=>if 0<=n/\n<=1000000/\n.toNat*x.length<=qag then some (.lst H.length,H++[rep x n.toNat]) else none
 |_=>none
noncomputable def bI(H:Hp)(op:Op)(x y:V):Option (V×Hp):=match op with
 |.add=>ym H x y
 |.sub=>eO x y fun a b=>some (.int (a-b),H)
 |.mul=>y7 H x y
 |.div=>eO x y fun a b=>if b=0 then none else some (.int (a.fdiv b),H)
 |.mod=>eO x y fun a b=>if b=0 then none else some (.int (a.fmod b),H)
 |.pow=>eO x y fun a b=>if 0<=b/\b<=100/\q7 a then some (.int (a^b.toNat),H) else none
noncomputable def qv(i:Int)(n:Nat):Nat:=if i<0 then(i+n).toNat else min i.toNat n
noncomputable def bound?(n:Nat)(d:Nat):V->Option Nat
 |.none=>some d
 |.int i=>some (qv i n)
 |_=>none
noncomputable def vy(H:Hp)(a lo hi:V):Option (V×Hp):=(rT a).bind fun a=>(H[a]?).bind fun xs=>(bound? xs.length 0 lo).bind fun i=>(bound? xs.length xs.length hi).map fun j=>(.lst H.length,H++[(xs.drop i).take (j-i)])
noncomputable def pe(H:Hp)(a:V):Option (V×Hp):=(rT a).bind fun a=>(H[a]?).map fun xs=>(.lst H.length,H++[xs.reverse])
noncomputable def eA(lo hi st:Int):List V:=(List.range (if 0<st/\lo<hi then((hi-lo-1)/st+1).toNat else 0)).map fun(i:Nat)=>V.int (lo+(i:Int)*st)
noncomputable def ff(H:Hp):V->Option (List V)
 |.lst a=>H[a]?
 |.tup l=>some l
 |.rng lo hi st=>some (eA lo hi st)
 |.str s=>some (s.cps.toList.map fun c=>.str ⟨#[c]⟩)
 |_=>none
def gx(v:V)(items:List V)(H:Hp):Prop:=match v with
 |.lst a=>H[a]?=some items
 |_=>True
noncomputable def rj(v:V):Option (Int×Int):=(vr v).bind fun l=>match l with
 |[x,y]=>eO x y fun a b=>some (a,b)
 |_=>none
noncomputable def vK(xs:List V):Option (List (Int×Int)):=aF rj xs
noncomputable def iS(a b:Int×Int):Bool:=decide (a.1<b.1)||(decide (a.1=b.1)&&decide (a.2<=b.2))
noncomputable def yO(l:List (Int×Int)):Bool:=decide (l.length<64)&&decide l.Nodup&&l.all fun p=>decide (p.1.natAbs<2^31)&&decide (p.2.natAbs<2^31)
noncomputable def lQ(p:Int×Int):V:=.tup [.int p.1,.int p.2]
noncomputable def ec{β:Type}(vs:List V)(f:V->Option β):Option β:=match vs with
 |[]=>none
 |x::r=>match r with
  |[]=>f x
  |_::_=>none
theorem nG{vs:List V}{f:V->Option β}{r:β}(h:ec vs f=some r):∃x,vs=[x]/\f x=some r:=by
 cases vs with
 |nil=>injection h
 |cons x l=>cases l with
  |nil=>exact⟨x,rfl,h⟩
  |cons=>injection h
noncomputable def u6(H:Hp)(x:V):Option (V×Hp):=match x with
 |.lst a=>(H[a]?).map fun xs=>(.int xs.length,H)
 |.tup l=>some (.int l.length,H)
 |.scr l=>some (.int l.length,H)
 |.str s=>if s.length<=qag then some (.int s.length,H) else none
 |_=>none
noncomputable def yx(H:Hp)(vs:List V):Option (V×Hp):=(wc vs).bind fun l=>match l with
 |[a,b]=>some (.int (if a<b then b else a),H)
 |[a,b,c]=>some (.int (if(if a<b then b else a)<c then c else(if a<b then b else a)),H)
 |_=>none
noncomputable def wo(H:Hp)(vs:List V):Option (V×Hp):=(wc vs).bind fun l=>match l with
 |[n]=>if n.natAbs<2^31 then some (.rng 0 n 1,H) else none
 |_=>none
noncomputable def rP(H:Hp)(x:V):Option (V×Hp):=match x with
 |.lst a=>(H[a]?).map fun xs=>(.lst H.length,H++[xs])
 |.rng lo hi st=>if(eA lo hi st).length<=qag then some (.lst H.length,H++[eA lo hi st]) else none
 |_=>none
noncomputable def m6(H:Hp)(x:V):Option (V×Hp):=match x with
 |.lst a=>(H[a]?).map fun xs=>(.tup xs,H)
 |.rng lo hi st=>if(eA lo hi st).length<=1000 then some (.tup (eA lo hi st),H) else none
 |_=>none
noncomputable def BH(H:Hp)(x:V):Option (V×Hp):=(kT x).map fun b=>(.int (if b then 1 else 0),H)
noncomputable def bF(H:Hp)(b:Bl)(vs:List V):Option (V×Hp):=match b with
 |.len=>ec vs (u6 H)
 |.max=>yx H vs
 |.range=>wo H vs
 |.list=>ec vs (rP H)
 |.tuple=>ec vs (m6 H)
 |.all=>ec vs fun x=>fR H x fun xs=>(gu xs).map fun l=>(.bool (l.all id),H)
 |.sorted=>ec vs fun x=>fR H x fun xs=>(vK xs).bind fun l=>if yO l=true then some (.lst H.length,H++[(l.mergeSort iS).map lQ]) else none
 |.int=>ec vs (BH H)
noncomputable def B8(v:V):Option Unit:=(kT v).bind fun b=>if b then some () else none
noncomputable def uR(H:Hp)(m:Me)(x:V)(vs:List V):Option (V×Hp):=match m with
 |.append=>(rT x).bind fun a=>(H[a]?).bind fun xs=>ec vs fun v=>if xs.length<qag then some (.none,H.set a (xs++[v])) else none
 |.count=>fR H x fun xs=>ec vs fun v=>(B8 v).bind fun Z=>(gu xs).map fun l=>(.int (l.count true),H)
 |.index=>fR H x fun xs=>ec vs fun v=>(B8 v).bind fun Z=>(gu xs).bind fun l=>if true∈l then some (.int (l.idxOf true),H) else none
 |.join=>(vR x).bind fun s=>ec vs fun v=>fR H v fun xs=>(jj xs).bind fun l=>if s=⟨#[]⟩/\(l.map Str.length).sum<=qag then some (.str ⟨(l.flatMap fun x=>x.cps.toList).toArray⟩,H) else none
noncomputable def gJ:V->Bool
 |.lst _=>true
 |_=>false
noncomputable def isStr:V->Bool
 |.str _=>true
 |_=>false
noncomputable def Cp(m:Me)(v:V):Bool:=match m with
 |.append=>gJ v
 |.count=>gJ v
 |.index=>gJ v
 |.join=>isStr v
noncomputable def kz:V->Bool
 |.exc c _=>decide (c∈kids)
 |_=>false
noncomputable def kd:V->Option Nat
 |.none=>some 0
 |.bool _=>some 1
 |.int _=>some 2
 |.tup _=>some 4
 |.lst _=>some 5
 |.str _=>some 3
 |.dict0 _=>some 6
 |_=>none
noncomputable def rZ:V->Option Str
 |.exc c _=>some c
 |_=>none
noncomputable def c5(v:V)(t:Tc):Option Bool:=match t with
 |.own p=>(rZ v).bind fun e=>if e∈kids/\(p∈kids\/p=ao "ValueError") then some (decide (e=p\/p=ao "ValueError")) else none
 |.int=>(kd v).map fun n=>n==1||n==2
 |.bool=>(kd v).map (·==1)
 |.tuple=>(kd v).map (·==4)
 |.list=>(kd v).map (·==5)
 |.str=>(kd v).map (·==3)
noncomputable def lU(H:Hp)(a i v:V):Option Hp:=(rT a).bind fun a=>(jb i).bind fun i=>(H[a]?).bind fun xs=>if 0<=i/\i<xs.length then some (H.set a (xs.set i.toNat v)) else none
noncomputable def fX(t:Tg)(x:V)(l:Loc):Option Loc:=match t with
 |.one i=>some (l.set i (some x))
 |.two i j=>(vr x).bind fun vs=>match vs with
  |[a,b]=>some ((l.set i (some a)).set j (some b))
  |_=>none
noncomputable def vC:List Nat->List V->Loc->Option Loc
 |[],[],l=>some l
 |i::is,v::vs,l=>vC is vs (l.set i (some v))
 |_,_,_=>none
abbrev cZ:=Option (Nat×V)
abbrev XPost:=V->Hp->Prop
abbrev CallT:=Bool->Nat->Str->List V->cZ->(V->Hp->Prop)->XPost->Hp->Prop
def ae{α:Type}(o:Option α)(K:α->Prop):Prop:=match o with
 |some a=>K a
 |none=>False
inductive i3{α:Type}(o:Option α)(K:α->Prop):Prop
 |mk (a:α)(h:o=some a)(k:K a):i3 o K
theorem ae.inv{o:Option α}{K:α->Prop}(h:ae o K):i3 o K:=by
 cases o with
 |none=>exact h.elim
 |some a=>exact⟨a,rfl,h⟩
def xI{o:Option α}{K:α->Prop}(k:∀a,o=some a->K a->G)(h:ae o K):G:=let⟨a,p,q⟩:=ae.inv h;k a p q
def ae.mk{o:Option α}{K:α->Prop}{a:α}(h:o=some a)(k:K a):ae o K:=by subst h;exact k
def pb(es:List Ex)(A B:Prop):Prop:=match es with
 |[]=>A
 |_::_=>B
def eJ(b:Bool)(A B:Prop):Prop:=match b with
 |true=>A
 |false=>B
noncomputable def fj{α:Type}(q:Bool)(o:Option α):Option α:=match q with
 |true=>o
 |false=>none
theorem E1{o:Option α}{a:α}(h:fj q o=some a):q=true/\o=some a:=by
 cases q with
 |true=>exact⟨rfl,h⟩
 |false=>injection h
def gW{σ:Type}(ok:Hp->Prop)(step:V->σ->(σ->Hp->Prop)->Hp->Prop):List V->σ->(σ->Hp->Prop)->Hp->Prop
 |[],a,Q,H=>Q a H
 |x::xs,a,Q,H=>step x a (fun a' H'=>ok H'/\gW ok step xs a' Q H') H
noncomputable def fu:XPost:=fun Z Z=>False
noncomputable def vD(k:Nat)(x y z:V):List V:=
 let p:=fun(i:Nat)=>if i=0 then x else if i=1 then y else z
 [p (k/9),p (k/3%3),p (k%3)]
noncomputable def sO(k:cZ)(d:Nat)(vs:List V):Option (Nat×List V):=k.bind fun z=>match d with
 |0=>none
 |d+1=>match vs with
  |[x,y]=>some (d,vD z.1 x y z.2)
  |_=>none
noncomputable def iL(H:Hp)(v:V):Option (List V):=(rT v).bind fun a=>H[a]?
noncomputable def vA:V->Option V
 |.none=>some .none
 |.int i=>some (.int i)
 |_=>none
noncomputable def gI(v:V)(x:Str):Option V:=match v with
 |.exc cn w=>if x=ao "at"/\cn=ao "BadNet" then vA w else none
 |_=>none
noncomputable def zb(is:List Nat)(v:V)(l:Loc):Option Loc:=(vr v).bind fun vs=>vC is vs l
def fO(Q:Bool->Hp->Prop)(v:V)(H:Hp):Prop:=ae (kT v) fun b=>Q b H
def nz(I:Loc->(Bool->Hp->Prop)->Hp->Prop)(W:Loc->(V->Hp->Prop)->Hp->Prop)(t:Tg)(l:Loc)(x:V)(acc:List V)(K:List V->Hp->Prop)(H:Hp):Prop:=
 ae (fX t x l) fun l'=>I l' (fun b H=>eJ b (W l' (fun v H=>K (acc++[v]) H) H) (K acc H)) H
mutual
def aD(C:CallT)(q:Bool)(d:Nat)(k:cZ):Ex->Loc->(V->Hp->Prop)->XPost->Hp->Prop
 |.lit v,_,Q,_,H=>Q v H
 |.var i,l,Q,_,H=>ae (l.getD i none) fun v=>Q v H
 |.tup es,l,Q,E,H=>dC C q d k es l (fun vs H=>Q (.tup vs) H) E H
 |.list es,l,Q,E,H=>dC C q d k es l (fun vs H=>Q (.lst H.length) (H++[vs])) E H
 |.dict0,_,Q,_,H=>∀a,Q (.dict0 a) H
 |.bin op a b,l,Q,E,H=>aD C q d k a l (fun x H=>aD C q d k b l (fun y H=>ae (bI H op x y) fun p=>Q p.1 p.2) E H) E H
 |.neg a,l,Q,E,H=>aD C q d k a l (fun x H=>ae (jb x) fun i=>Q (.int (-i)) H) E H
 |.not a,l,Q,E,H=>aD C q d k a l (fO fun b H=>Q (.bool !b) H) E H
 |.cmp a os bs,l,Q,E,H=>aD C q d k a l (fun x H=>vh C q d k x os bs l (fun b H=>Q (.bool b) H) E H) E H
 |.and es,l,Q,E,H=>vz C q d k es l (fun b H=>Q (.bool b) H) E H
 |.or es,l,Q,E,H=>iW C q d k es l (fun b H=>Q (.bool b) H) E H
 |.idx a i,l,Q,E,H=>aD C q d k a l (fun x H=>aD C q d k i l (fun y H=>ae (bO H x y) fun v=>Q v H) E H) E H
 |.slice a lo hi,l,Q,E,H=>aD C q d k a l (fun x H=>aD C q d k lo l (fun y H=>aD C q d k hi l (fun z H=>ae (vy H x y z) fun p=>Q p.1 p.2) E H) E H) E H
 |.rev a,l,Q,E,H=>aD C q d k a l (fun x H=>ae (pe H x) fun p=>Q p.1 p.2) E H
 |.call f es,l,Q,E,H=>dC C q d k es l (fun vs H=>C q d f vs none Q E H) E H
 |.callL f es kk i,l,Q,E,H=>dC C q d k es l (fun vs H=>ae (l.getD i none) fun v=>C q d f vs (some (kk,v)) Q E H) E H
 |.callv es,l,Q,E,H=>ae k fun Z=>dC C q d k es l (fun vs H=>ae (sO k d vs) fun p=>C q p.1 (ao "put_together") p.2 none Q fu H) E H
 |.blt b es,l,Q,E,H=>dC C q d k es l (fun vs H=>ae (fj q (bF H b vs)) fun p=>Q p.1 p.2) E H
 |.meth m o es,l,Q,E,H=>aD C q d k o l (fun x H=>Cp m x=true/\dC C q d k es l (fun vs H=>ae (uR H m x vs) fun p=>Q p.1 p.2) E H) E H
 |.isi a t,l,Q,E,H=>aD C q d k a l (fun x H=>ae (c5 x t) fun b=>Q (.bool b) H) E H
 |.comp elt t src ifs,l,Q,E,H=>aD C q d k src l (fun sv H=>ae (fj q (ff H sv)) fun items=>items.length<=qag /\
   gW (gx sv items) (nz (fun l' Q H=>rR C q d none ifs l' Q H) (fun l' Q H=>aD C q d none elt l' Q fu H) t l) items [] (fun acc H'=>Q (.lst H'.length) (H'++[acc])) H) E H
 |.attr a x,l,Q,E,H=>aD C q d k a l (fun v H=>ae (gI v x) fun w=>Q w H) E H
def dC(C:CallT)(q:Bool)(d:Nat)(k:cZ):List Ex->Loc->(List V->Hp->Prop)->XPost->Hp->Prop
 |[],_,Q,_,H=>Q [] H
 |e::es,l,Q,E,H=>aD C q d k e l (fun v H=>dC C q d k es l (fun vs H=>Q (v::vs) H) E H) E H
def vz(C:CallT)(q:Bool)(d:Nat)(k:cZ):List Ex->Loc->(Bool->Hp->Prop)->XPost->Hp->Prop
 |[],_,_,_,_=>False
 |e::es,l,Q,E,H=>aD C q d k e l (fO fun b H=>pb es (Q b H) (eJ b (vz C q d k es l Q E H) (Q false H))) E H
def iW(C:CallT)(q:Bool)(d:Nat)(k:cZ):List Ex->Loc->(Bool->Hp->Prop)->XPost->Hp->Prop
 |[],_,_,_,_=>False
 |e::es,l,Q,E,H=>aD C q d k e l (fO fun b H=>pb es (Q b H) (eJ b (Q true H) (iW C q d k es l Q E H))) E H
def vh(C:CallT)(q:Bool)(d:Nat)(k:cZ):V->List Cm->List Ex->Loc->(Bool->Hp->Prop)->XPost->Hp->Prop
 |x,os,e::es,l,Q,E,H=>ae os.head? fun o=>aD C q d k e l (fun y H=>ae (dq H o x y) fun b=>pb es (Q b H) (eJ b (vh C q d k y os.tail es l Q E H) (Q false H))) E H
 |_,_,[],_,_,_,_=>False
def rR(C:CallT)(q:Bool)(d:Nat)(k:cZ):List Ex->Loc->(Bool->Hp->Prop)->Hp->Prop
 |[],_,Q,H=>Q true H
 |e::es,l,Q,H=>aD C q d k e l (fO fun b H=>eJ b (rR C q d k es l Q H) (Q false H)) fu H
end
def Bg(C:CallT)(q:Bool)(d:Nat)(k:cZ)(e:Ex)(l:Loc)(Q:Bool->Hp->Prop)(E:XPost)(H:Hp):Prop:=aD C q d k e l (fO Q) E H
abbrev SPost:=Fl->Loc->Hp->Prop
abbrev SX:=V->Loc->Hp->Prop
noncomputable def d9(N:Loc->Hp->Prop)(Q:SPost):SPost:=fun f l H=>match f with
 |.next=>N l H
 |.ret v=>Q (.ret v) l H
def nw(ok:Hp->Prop)(body:V->Loc->SPost->Hp->Prop):List V->SPost->Loc->Hp->Prop
 |[],Q,l,H=>Q .next l H
 |x::xs,Q,l,H=>body x l (d9 (fun l' H'=>ok H'/\nw ok body xs Q l' H') Q) H
inductive fi(test:Loc->(Bool->Hp->Prop)->Hp->Prop)(body:Loc->SPost->Hp->Prop)(l:Loc)(Q:SPost)(H:Hp):Prop
 |mk (I:Nat->Loc->Hp->Prop)(n:Nat)(h0:I n l H)(step:∀n l H,I n l H->test l (fun b H'=>eJ b (body l (d9 (fun l' H''=>∃m,m<n/\I m l' H'') Q) H') (Q .next l H')) H):fi test body l Q H
noncomputable def uL(n:Int):List V->List V
 |[]=>[]
 |x::xs=>.tup [.int n,x]::uL (n+1) xs
noncomputable def yE:List V->List V->List V
 |x::xs,y::ys=>.tup [x,y]::yE xs ys
 |_,_=>[]
def iH(C:CallT)(q:Bool)(d:Nat)(k:cZ):Sr->Loc->(List V->(Hp->Prop)->Hp->Prop)->XPost->Hp->Prop
 |.val e,l,Q,E,H=>aD C q d k e l (fun v H=>ae (ff H v) fun items=>Q items (gx v items) H) E H
 |.enum e,l,Q,E,H=>aD C q d k e l (fun v H=>ae (iL H v) fun items=>Q (uL 0 items) (gx v items) H) E H
 |.rev e,l,Q,E,H=>aD C q d k e l (fun v H=>ae (iL H v) fun items=>Q items.reverse (gx v items) H) E H
 |.zip a b,l,Q,E,H=>aD C q d k a l (fun v H=>aD C q d k b l (fun w H=>ae (iL H v) fun x=>ae (iL H w) fun y=>Q (yE x y) (fun H=>gx v x H/\gx w y H) H) E H) E H
noncomputable def bK(cn:Str)(vs:List V):V:=if cn=ao "BadNet" then vs.headD .none else .none
mutual
def gO(C:CallT)(q:Bool)(d:Nat)(k:cZ):St->SPost->SX->Loc->Hp->Prop
 |.set i e,Q,E,l,H=>aD C q d k e l (fun v H=>Q .next (l.set i (some v)) H) (fun x H=>E x l H) H
 |.unp is e,Q,E,l,H=>q=true/\aD C q d k e l (fun v H=>ae (zb is v l) fun l'=>Q .next l' H) (fun x H=>E x l H) H
 |.put o i e,Q,E,l,H=>aD C q d k e l (fun v H=>aD C q d k o l (fun a H=>aD C q d k i l (fun j H=>ae (lU H a j v) fun H'=>Q .next l H') (fun x H=>E x l H) H) (fun x H=>E x l H) H) (fun x H=>E x l H) H
 |.expr e,Q,E,l,H=>aD C q d k e l (fun Z H=>Q .next l H) (fun x H=>E x l H) H
 |.ret e,Q,E,l,H=>aD C q d k e l (fun v H=>Q (.ret v) l H) (fun x H=>E x l H) H
 |.ite t a b,Q,E,l,H=>aD C q d k t l (fO fun c H=>eJ c (az C q d k a Q E l H) (az C q d k b Q E l H)) (fun x H=>E x l H) H
 |.whil t b,Q,_,l,H=>q=true/\fi (fun l Q H=>Bg C q d k t l Q fu H) (fun l Q H=>az C q d k b Q (fun Z Z Z=>False) l H) l Q H
 |.loop t s b,Q,E,l,H=>q=true/\iH C q d k s l (fun items ok H=>nw ok (fun x l Q H=>ae (fX t x l) fun l'=>az C q d k b Q E l' H) items Q l H) (fun x H=>E x l H) H
 |.rais cn es,_,E,l,H=>q=true/\dC C q d k es l (fun vs H=>E (.exc cn (bK cn vs)) l H) fu H
 |.tri b i h,Q,_,l,H=>q=true/\az C q d k b Q (fun x l' H=>kz x=true/\az C false d k h (fun f l'' H=>Q f (l''.set i none) H) (fun Z Z Z=>False) (l'.set i (some x)) H) l H
 |.stuck,_,_,_,_=>False
def az(C:CallT)(q:Bool)(d:Nat)(k:cZ):List St->SPost->SX->Loc->Hp->Prop
 |[],Q,_,l,H=>Q .next l H
 |s::ss,Q,E,l,H=>gO C q d k s (d9 (az C q d k ss Q E) Q) E l H
end
variable {C:CallT}{EE:SX}{Qx:SPost}{k:cZ}{o:Obj}{op:Op}{os:List Cm}{p:V×Hp}{sr:Sr}{src x1 xelt xsrc xt y1 y2:Ex}{ss xb xh:List St}{x:Str}{xifs:List Ex}{y:Value}
structure Res where
 fr:Bool
 n:Nat
 t:List (Str×Nat)
noncomputable def Res.lookup(r:Res)(x:Str):Option Nat:=r.t.lookup x
structure lb(wz:Env):Prop where
 g0:wz.scope.kind≠.module
 g1:wz.scope.isGenerator=false
 g2:wz.scope.isCoroutine=false
 g3:wz.builtins=nr
 g4:wz.globals=c8
inductive bt(c:Cx)(φ:List Addr)(h:Heap)(wz:Env):Prop
 |mk (pl:lb wz)(L:Addr)(o:Obj)(es:Array iJ)(n:Nat)(h4:wz.frame=some L)(h5:c.h0.get? L=none)(h6:L∉φ)(h7:h.get? L=some o)(h8:o.data=.dict es n)(h9:o.cls=.type "frame"):bt c φ h wz
structure OkA(c:Cx)(A:Around)(q:Bool)(d:Nat)(φ:List Addr)(h:Heap):Prop where
 dep:A.depth+d<=890
 un:A.units+10*d<=9000
 hd:q=true->A.handled=none
 fr:∃l,A.frames=some l/\∀wz∈l,bt c φ h wz
structure bR(c:Cx)(A:Around)(q:Bool)(d:Nat)(φ:List Addr)(h:Heap):Prop extends OkA c A q d φ h where
 ne:A.frames≠some []
def OkA.mono(h:OkA c A q d φ s.heap)(e:au X φ s φ' s'):OkA c A q d φ' s'.heap where
 dep:=h.dep
 un:=h.un
 hd:=h.hd
 fr:=by
  obtain⟨l,h1,h2⟩:=h.fr
  refine⟨l,h1,fun wz he=>?_⟩
  obtain⟨h3,L,o,es,n,h4,h5,h6,h7,h8,h9⟩:=h2 wz he
  obtain⟨o',es',n',g1,g2,g3⟩:=e.dict L o es n h7 h6 h8
  exact⟨h3,L,o',es',n',h4,h5,e.notin h7 h6,g1,g2,g3.cls.trans h9⟩
def bR.mono(h:bR c A q d φ s.heap)(e:au X φ s φ' s'):bR c A q d φ' s'.heap:=⟨h.toOkA.mono e,h.ne⟩
inductive bj(c:Cx)(φ:List Addr)(h:Heap)(wz:Env)(x:Str):Option V->Prop
 |yes (v:V)(ca:Addr)(r:Value)(h1:wz.cells.lookup x=some ca)(h2:h.IsCell ca (some r))(h3:ar c φ h v r):bj c φ h wz x (some v)
 |no (ca:Addr)(h1:wz.cells.lookup x=some ca)(h2:h.IsCell ca none):bj c φ h wz x none
inductive cA(c:Cx)(φ:List Addr)(h:Heap)(m:Option Value):Option V->Prop
 |yes (v:V)(r:Value)(h1:m=some r)(h2:ar c φ h v r):cA c φ h m (some v)
 |no:cA c φ h m none
def iA(k:Option aT)(L C:Prop):Prop:=match k with
 |some .local=>L
 |some .cell=>C
 |some .free=>C
 |_=>False
def iU(c:Cx)(φ:List Addr)(h:Heap)(wz:Env)(m:Str->Option Value)(x:Str)(ov:Option V):Prop:=iA (wz.kindOf x) (cA c φ h (m x) ov) (bj c φ h wz x ov)
theorem iA.imp{k:Option aT}{L C L' C':Prop}(h:iA k L C)(hL:k=some .local->L->L')(hC:C->C'):iA k L' C':=by
 cases k with
 |none=>exact h.elim
 |some k=>cases k<;>first |exact hL rfl h |exact hC h |exact h.elim
inductive br(c:Cx)(φ:List Addr)(h:Heap)(B:Nat)(kk:Nat)(z:V)(fv:Value):Prop
 |mk (a:Addr)(o:Obj)(fd:qbe)(nm:Str)(ca:Addr)(oc:Obj)(rv:Value)(hr:fv=.ref a)(ha:a∉φ)(ho:h.get? a=some o)(hc:o.cls=.type "function")(hd:o.data=.func fd)(hk:c.lam kk fd nm)
   (hcl:fd.closure=[(nm,ca)]) (hca:ca∉φ) (hlt:ca<B) (hoc:h.get? ca=some oc) (hcc:oc.cls=.type "cell") (hdc:oc.data=.cell (some rv)) (hx:ar c φ h z rv)
   (h0:c.h0.get? ca=none) (cc:Addr) (hcd:fd.code=.ref cc) (hco:bS h cc fd.qualname) (hcφ:cc∉φ):br c φ h B kk z fv
noncomputable def b7:Str:=ao "join"
def ku(c:Cx)(wz:Env)(m:Str->Option Value)(kk:Nat)(z:V)(φ:List Addr)(h:Heap):Prop:=∀GJ:Prop,((wz.kindOf b7=some .local)->∀(fv:Value),(m b7=some fv)->br c φ h wz.locals kk z fv->GJ)->GJ
inductive d6(wz:Env)(fr:Bool)(h:Heap)(m:Str->Option Value):Prop
 |mk (ns:h.Ns wz.locals m)(o:Obj)(ho:h.get? wz.locals=some o)(hc:(o.cls=.type "frame"/\fr=true)\/(o.cls=.type "dict"/\m (ao "at")=none/\fr=false)):d6 wz fr h m
def d6.ns(q:d6 wz fr h m):h.Ns wz.locals m:=let⟨n,_,_,_⟩:=q;n
inductive yM(c:Cx)(wz:Env)(wu:Res)(k:cZ)(loc:Loc)(φ:List Addr)(h:Heap):Prop
 |mk (m:Str->Option Value)(room:d6 wz wu.fr h m)(slot:∀x i,wu.lookup x=some i->iU c φ h wz m x (loc.getD i none))(clo:∀kk z,k=some (kk,z)->ku c wz m kk z φ h):yM c wz wu k loc φ h
inductive bf(c:Cx)(φ:List Addr)(h:Heap)(ca:Addr):Prop
 |mk (h1:ca∉φ)(h2:c.h0.get? ca=none)(o:Obj)(h3:h.get? ca=some o)(h4:o.cls=.type "cell")(h5:∃r,o.data=.cell r):bf c φ h ca
def bf.out(q:bf c φ h ca):ca∉φ/\c.h0.get? ca=none:=let⟨h1,h2,_,_,_,_⟩:=q;⟨h1,h2⟩
structure aq(c:Cx)(wz:Env)(wu:Res)(k:cZ)(loc:Loc)(φ:List Addr)(h:Heap):Prop where
 fn:wz.scope.kind=.function
 gl:wz.globals=c8
 bl:wz.builtins=nr
 ns:yM c wz wu k loc φ h
 len:wu.n<=loc.length
 Lφ:wz.locals∉φ
 L0:c.h0.get? wz.locals=none
 cells:∀x ca,wz.cells.lookup x=some ca->bf c φ h ca
def kH(hn:h.Ns L m)(hk:∀o,h.get? L=some o->∃sl,h'.get? L=some { o with slots:=sl }):h'.Ns L m:=by
 obtain⟨o,es,ep,ho,hd,r⟩:=hn;obtain⟨sl,h1⟩:=hk o ho;exact⟨_,es,ep,h1,hd,r⟩
structure d8(wz:Env)(X:List Addr)(s:Shared):Prop where
 loc:wz.locals∉X
 cells:∀x ca,wz.cells.lookup x=some ca->ca∉X
 clo:∀ca o,s.heap.get? ca=some o->o.cls=.type "cell"->ca<wz.locals->ca∉X
theorem d8.nil:d8 wz [] s:=⟨by simp,by simp,by simp⟩
def JV{q:Str}(e:Kp X φ h φ' h')(hX:ax c X h)(k:bS h cc q)(hn:cc∉φ):bS h' cc q:=by
 obtain⟨o,vs,t,h1,h2,h3,h4⟩:=k;exact⟨o,vs,t,uV e hX h1 hn (vk h2 rfl),h2,h3,h4⟩
def br.mono{kk z fv}(e:Kp X φ s.heap φ' s'.heap)(hX:ax c X s.heap)(hB:∀ca o,s.heap.get? ca=some o->o.cls=.type "cell"->ca<B->ca∉X)(h:br c φ s.heap B kk z fv):br c φ' s'.heap B kk z fv:=by
 obtain⟨a,o,fd,nm,ca,oc,rv,hr,ha,ho,hc,hd,hk,hcl,hca,hlt,hoc,hcc,hdc,hx,h0,cc,hcd,hco,hcφ⟩:=h;exact⟨a,o,fd,nm,ca,oc,rv,hr,e.notin ho ha,uV e hX ho ha (vk hc rfl),hc,hd,hk,hcl,e.notin hoc hca,hlt,
  e.keep ca oc hoc hca (hB ca oc hoc hcc hlt) (by rw[hcc];decide),hcc,hdc,ar.mono e hX hx,h0,cc,hcd,JV e hX hco hcφ,let⟨_,_,_,g1,_,_,_⟩:=hco;e.notin g1 hcφ⟩
theorem cA.mono{m:Option Value}(e:Kp X φ s.heap φ' s'.heap)(hX:ax c X s.heap):cA c φ s.heap m ov->cA c φ' s'.heap m ov
 |.yes v r h1 h2=>.yes v r h1 (ar.mono e hX h2)
 |.no=>.no
def HH{r:Option Value}(e:Kp X φ s.heap φ' s'.heap)(k0:ca∉X)(k1:bf c φ s.heap ca)(h:s.heap.IsCell ca r):s'.heap.IsCell ca r:=by
 obtain⟨k1,k2,o',k3,k4⟩:=k1;obtain⟨o,h2,h2'⟩:=h;cases ah (h2.symm.trans k3);exact⟨_,e.keep ca _ h2 k1 k0 (by rw[k4];decide),h2'⟩
theorem bj.imp(hc:∀ca r,wz.cells.lookup x=some ca->h.IsCell ca r->h'.IsCell ca r)(hr:∀v r,ar c φ h v r->ar c φ' h' v r):bj c φ h wz x ov->bj c φ' h' wz x ov
 |.yes v ca r h1 h2 h3=>.yes v ca r h1 (hc ca _ h1 h2) (hr v r h3)
 |.no ca h1 h2=>.no ca h1 (hc ca _ h1 h2)
def bj.mono(e:Kp X φ s.heap φ' s'.heap)(hX:ax c X s.heap)(hc:∀x ca,wz.cells.lookup x=some ca->ca∉X/\bf c φ s.heap ca)(h:bj c φ s.heap wz x ov):bj c φ' s'.heap wz x ov:=
 h.imp (fun ca Z h1 h2=>HH e (hc x ca h1).1 (hc x ca h1).2 h2) fun Z Z h=>ar.mono e hX h
def iU.mono(e:Kp X φ s.heap φ' s'.heap)(hX:ax c X s.heap)(hc:∀x ca,wz.cells.lookup x=some ca->ca∉X/\bf c φ s.heap ca) (h:iU c φ s.heap wz m x ov):iU c φ' s'.heap wz m x ov:=iA.imp h (fun Z h=>cA.mono e hX h) (bj.mono e hX hc)
def aq.lcls{wu:Res}(F:aq c wz wu k loc φ h)(ho:h.get? wz.locals=some o):o.cls≠.none:=fun q=>by
 obtain⟨m,⟨_,o',h3,h4⟩,_,_⟩:=F.ns;obtain rfl:=ah (ho.symm.trans h3);rcases h4 with h4 |h4
 ·rw[h4.1] at q;injection q
 ·rw[h4.1] at q;injection q
def aq.off{wu:Res}(F:aq c wz wu k loc φ s.heap)(e:Kp X φ s.heap φ' s'.heap)(hX:ax c X s.heap)(hO:d8 wz X s)
  (hL:∀o,s.heap.get? wz.locals=some o->∃sl,s'.heap.get? wz.locals=some { o with slots:=sl }):aq c wz wu k loc φ' s'.heap where
 fn:=F.fn
 gl:=F.gl
 bl:=F.bl
 len:=F.len
 ns:=by
  obtain⟨m,⟨hn,o,ho,hc⟩,h1,h2⟩:=F.ns
  obtain⟨sl,h'⟩:=hL o ho
  refine⟨m,⟨kH hn hL,_,h',hc⟩,fun x i hx=>(h1 x i hx).mono e hX fun x ca h=>⟨hO.cells x ca h,F.cells x ca h⟩,fun kk z hk=>?_⟩
  refine(h2 kk z hk) _ fun h3 fv h4 h5=>?_
  exact(fun Z kJ=>kJ h3 fv h4 (h5.mono e hX hO.clo))
 Lφ:=by
  obtain⟨m,⟨_,o,ho,_⟩,_⟩:=F.ns
  exact e.notin ho F.Lφ
 L0:=F.L0
 cells x ca h:=by
  obtain⟨h1,h2,o,h3,h4,h5⟩:=F.cells x ca h
  exact⟨e.notin h3 h1,h2,o,e.keep ca o h3 h1 (hO.cells x ca h) (by rw[h4];decide),h4,h5⟩
theorem aq.mono{wu:Res}(F:aq c wz wu k loc φ s.heap)(e:au [] φ s φ' s'):aq c wz wu k loc φ' s'.heap:=
 F.off e.toKp ax.nil d8.nil fun o ho=>e.frame _ o ho F.Lφ (by simp) (F.lcls ho)
inductive aE(c:Cx)(φ:List Addr)(s:Shared)(Q:V->Hp->Prop)(r:Value)(s':Shared):Prop
 |mk (φ':List Addr)(H':Hp)(v:V)(e:au [] φ s φ' s')(S:ak c φ' H' s')(R:ar c φ' s'.heap v r)(q:Q v H'):aE c φ s Q r s'
inductive wA(c:Cx)(φ:List Addr)(s:Shared)(h:Heap)(vs:Array Value):Prop
 |mk (T:Addr)(oT:Obj)(ts:Array Value)(h1:vs[1]?=some (.ref T))(h2:s.heap.get? T=none)(h3:T∉φ)(h4:c.h0.get? T=none)(h5:h.get? T=some oT)(h6:oT.cls=.type "traceback")(h7:oT.data=.fields ts)(h8:3<ts.size):wA c φ s h vs
inductive b9(c:Cx)(φ:List Addr)(s:Shared)(h:Heap)(x:V)(e:Value):Prop
 |mk (R:ar c φ h x e)(hx:∃cn y,x=.exc cn y)(a:Addr)(o:Obj)(vs:Array Value)(h3:e=.ref a)(h4:s.heap.get? a=none)(h5:h.get? a=some o)(h6:o.data=.fields vs)(h7:vs[1]?=some .none\/wA c φ s h vs):b9 c φ s h x e
inductive ay(c:Cx)(φ:List Addr)(s:Shared)(E:XPost)(e:Value)(s':Shared):Prop
 |mk (φ':List Addr)(H':Hp)(x:V)(ex:au [] φ s φ' s')(S:ak c φ' H' s')(R:b9 c φ' s s'.heap x e)(q:E x H'):ay c φ s E e s'
def au.fresh(e:au X φ s φ₁ s₁)(S:ak c φ₁ H s₁){b:Addr}(hb:s₁.heap.get? b=none):s.heap.get? b=none:=by
 refine xC (s.heap.get? b) (fun q=>?_) fun o q=>?_
 ·rfl
 ·by_cases hφ:b∈φ
  ·obtain⟨o',h1,_⟩:=S.isList (e.pre.subset hφ);exact cq (hb.symm.trans h1)
  ·by_cases hX:b∈X
   ·obtain⟨o',h1⟩:=e.alive b o q hX;exact cq (hb.symm.trans h1)
   ·obtain⟨o',h1⟩:=e.live b o q hφ hX;exact cq (hb.symm.trans h1)
def b9.lift{x:V}(e:au X φ s φ₁ s₁)(S:ak c φ₁ H s₁)(q:b9 c φ₂ s₁ h x r):b9 c φ₂ s h x r:=by
 obtain⟨h1,h2,a,o,vs,h3,h4,h5,h6,h7⟩:=q;exact⟨h1,h2,a,o,vs,h3,e.fresh S h4,h5,h6,h7.imp id fun⟨T,oT,ts,g1,g2,g3,g4,g5,g6,g7,g8⟩=>⟨T,oT,ts,g1,e.fresh S g2,g3,g4,g5,g6,g7,g8⟩⟩
def aE.lift(e:au [] φ s φ₁ s₁)(h:aE c φ₁ s₁ Q r s₂):aE c φ s Q r s₂:=
 let⟨φ',H',v,e',S,R,hq⟩:=h;⟨φ',H',v,e.trans e',S,R,hq⟩
def ay.lift{E:XPost}(e:au [] φ s φ₁ s₁)(S₁:ak c φ₁ H s₁)(h:ay c φ₁ s₁ E r s₂):ay c φ s E r s₂:=
 let⟨φ',H',v,e',S,R,hq⟩:=h;⟨φ',H',v,e.trans e',S,R.lift e S₁,hq⟩
def aE.mono{Q':V->Hp->Prop}(hq:∀v H,Q v H->Q' v H)(h:aE c φ s Q r s₂):aE c φ s Q' r s₂:=
 let⟨φ',H',v,e',S,R,h⟩:=h;⟨φ',H',v,e',S,R,hq _ _ h⟩
def ay.mono{Q Q':XPost}(hq:∀v H,Q v H->Q' v H)(h:ay c φ s Q r s₂):ay c φ s Q' r s₂:=
 let⟨φ',H',v,e',S,R,h⟩:=h;⟨φ',H',v,e',S,R,hq _ _ h⟩
def ay.no{P:Prop}(h:ay c φ s fu r s₂):P:=
 let⟨_,_,_,_,_,_,h⟩:=h;h.elim
def tM(c:Cx)(φ:List Addr)(h:Heap):cZ->List Value->Prop
 |none,l=>l=[]
 |some (kk,z),l=>∃fv,l=[fv]/\br c φ h h.objs.size kk z fv
def xk(c:Cx)(φ:List Addr)(s:Shared)(Q:V->Hp->Prop)(E:XPost)(r:Result)(s':Shared):Prop:=
 match r with
 |.ok (.ret v)=>aE c φ s Q v s'
 |.ok _=>False
 |.error e=>ay c φ s E e s'
def tU(c:Cx)(q:Bool)(d:Nat)(f:Str)(vs:List V)(k:cZ)(Q:V->Hp->Prop)(E:XPost)(H:Hp):Prop:=∀GJ:Prop,(∀(a:Addr),∀(o:Obj),∀(fd:qbe),(c.g f=some (.ref a))->(c.h0.get? a=some o)->(o.data=.func fd)->(∀A φ s args extra,OkA c A q d φ s.heap->ak c φ H s->ag c φ s.heap vs args->tM c φ s.heap k extra->codeAny (model c.prog c.w) A (.call (.ref a) ⟨args++extra,[]⟩) (xk c φ s Q E) s)->GJ)->GJ
noncomputable def Calls(c:Cx):CallT:=fun q d f vs k Q E H=>tU c q d f vs k Q E H
noncomputable def cK(Q:V->Hp->Prop):SPost:=fun f Z H=>match f with
 |.ret v=>Q v H
 |.next=>Q .none H
noncomputable def dM(E:XPost):SX:=fun x Z H=>E x H
def aQ(c:Cx)(wz:Env)(wu:Res)(e:Expr)(x:Ex):Prop:=
 ∀A q d k loc φ H s Q E,bR c A q d φ s.heap->aq c wz wu k loc φ s.heap->ak c φ H s->aD (Calls c) q d k x loc Q E H->
  wpAny (model c.prog c.w) A (eval e wz) (aE c φ s Q) (ay c φ s E) s
def fN(c:Cx)(A:Around)(φ:List Addr)(s:Shared)(m:Sem Value)(v:V)(H':Hp):Prop:=
 ∀E:Value->Shared->Prop,wpAny (model c.prog c.w) A m (aE c φ s fun x H=>x=v/\H=H') E s
def fN.use{m:Sem Value}{v:V}(h:fN c A φ s m v H')(e:au [] φ₀ s₀ φ s)(hq:Q v H') :
  wpAny (model c.prog c.w) A m (aE c φ₀ s₀ Q) E s:=
 wm (h E) (fun Z Z h=>aE.lift e (aE.mono (fun _ _ ⟨h1,h2⟩=>by rw[h1,h2];exact hq) h))
def aE.at{v:V}(S:ak c φ H s)(R:ar c φ s.heap v r)(hq:Q v H):aE c φ s Q r { s with toks:=t }:=
 ⟨φ,H,v,au.of_heap rfl rfl,S.tok t,R,hq⟩
def aE.at'{v:V}(S:ak c φ H s)(R:ar c φ s.heap v r)(hq:Q v H):aE c φ s Q r s:=
 ⟨φ,H,v,au.refl,S,R,hq⟩
def aE.eq{v:V}(h:aE c φ s (fun x H=>x=v/\H=H') r s')(hq:Q v H'):aE c φ s Q r s':=
 aE.mono (fun Z Z h=>by rw[h.1,h.2];exact hq) h
def aE.same{v:V}(S:ak c φ H s)(R:ar c φ s.heap v r):aE c φ s (fun x H'=>x=v/\H'=H) r { s with toks:=t }:=
 ⟨φ,H,v,au.of_heap rfl rfl,S.tok t,R,rfl,rfl⟩
def aE.same'{v:V}(S:ak c φ H s)(R:ar c φ s.heap v r):aE c φ s (fun x H'=>x=v/\H'=H) r s:=
 ⟨φ,H,v,au.refl,S,R,rfl,rfl⟩
variable {Q:Value->Shared->Prop}{k:Int}{m:Sem Value}{r0 wu res' res0:Res}{t:Str}{x:Value}
section
open PySem PyProof.Rows
structure Cx.Ok(c:Cx):Prop where
 lim:c.h0.NoLimit
 gl:c.h0.Ns c8 c.g
 bl:c.h0.Ns nr c.b
 seer:c.h0.NoSeer
 tree:c.prog.given.tree=none
noncomputable def Op.real:Op->Operator
 |.add=>.Add |.sub=>.Sub |.mul=>.Mult |.div=>.FloorDiv |.mod=>.Mod
 |.pow=>.Pow
def ak.lim(S:ak c φ H s)(O:c.Ok):s.heap.NoLimit:=O.lim.keeps S.stays
theorem bR.seer(O:c.Ok)(hA:bR c A q d φ s.heap)(S:ak c φ H s):SeerAt (model c.prog c.w) A s.heap:=by
 obtain⟨l,h1,h2⟩:=hA.fr;cases l with
 |nil=>exact absurd h1 hA.ne
 |cons wz l=>
  obtain⟨⟨_,g1,g2,g3,g4⟩,_⟩:=h2 wz aL;exact SeerAt.of (O.seer.keeps S.stays) O.tree h1 g1 g2 g3 g4
abbrev dR (vs:Array Value) (n:Nat):Obj:={ cls:=.type "list",data:=.seq vs n }
def JZ(c:Cx)(φ:List Addr)(h:Heap)(i:Nat)(xs:List V)(r:Value):Prop:=∀GJ:Prop,(∀(a:Addr),∀(vs:Array Value),∀(n:Nat),(r=.ref a)->(φ[i]?=some a)->(h.get? a=some (dR vs n))->ag c φ h xs vs.toList->xs.length<=qag->(vs.size=xs.length)->GJ)->GJ
def ak.getP(S:ak c φ H s)(R:ar c φ s.heap (.lst i) r)(h:H[i]?=some xs):JZ c φ s.heap i xs r:=by
 obtain⟨a,hr,ha⟩:=R;refine(S.lists i xs h) _ fun a' eN1 vs n h1 h2 h3 h4 h5 eN2=>?_;obtain⟨cls,dd,data,sl⟩:=eN1;obtain⟨h6,h7,h8⟩:=eN2;obtain rfl:=ah (ha.symm.trans h1);dsimp only at h3 h4 h7 h8;subst h3 h4 h7 h8;exact(fun Z kJ=>kJ a vs n hr ha h2 h5 h6 (e9.symm.trans h5.length))
def ja(ho:h.get? a=some (dR vs n)):h.IsList a vs:=⟨_,ho,rfl,n,rfl⟩
def Eb{l:List Addr}(h:l.Nodup)(hi:l[i]?=some a)(hj:l[j]?=some a):i=j:=by
 obtain⟨h1,e1⟩:=gG.mp hi;obtain⟨h2,e2⟩:=gG.mp hj;rcases Nat.lt_trichotomy i j with hlt |hlt |hlt
 ·exact absurd (e1.trans e2.symm) (List.pairwise_iff_getElem.mp h i j h1 h2 hlt)
 ·exact hlt
 ·exact absurd (e2.trans e1.symm) (List.pairwise_iff_getElem.mp h j i h2 h1 hlt)
theorem ak.put(S:ak c φ H s)(ha:φ[i]?=some a)(hs:iy a s.heap h')(hn:h'.get? a=some (dR vs n))(hr:ag c φ s.heap xs vs.toList)(hz:xs.length<=qag) :
  au [] φ s φ { s with heap:=h' }/\ak c φ (H.set i xs) { s with heap:=h' }:=by
 have ham:a∈φ:=cD ha;have e:au [] φ s φ { s with heap:=h' }:=au.of_sameBut (s':={ s with heap:=h' }) hs ham (by simp) rfl;refine⟨e,⟨fun b o h=>?_,S.fresh,S.nodup,by simp[S.len],fun j ys h=>?_,S.gens,fun x hx=>(S.tab x hx).mono (fun b ps hb=>(hs.2 b fun q=>by obtain⟨o,h1,h2⟩:=S.isList ham;rw[q,h1] at hb;(injection hb with Ja;subst Ja);injection h2).trans hb) fun b o hb hc=>(hs.2 b fun q=>by obtain⟨o,h1,h2⟩:=S.isList ham;rw[q,h1] at hb;(injection hb with Ja;subst Ja);rw[hc] at h2;exact absurd h2 (by decide)).trans hb⟩⟩
 ·exact(hs.2 b fun q=>by rw[q,S.fresh a ham] at h;injection h).trans (S.stays b o h)
 ·by_cases hji:j=i
  ·subst hji;have hlt:j<H.length:=by rw[<- S.len];exact(gG.mp ha).1
   rw[iz hlt] at h;(injection h with Ja;subst Ja);exact(fun Z kJ=>kJ a _ vs n ha hn rfl rfl (ag.mono e.toKp ax.nil hr) ⟨hz,rfl,rfl⟩)
  ·rw[iF (cS hji)] at h;refine(S.lists j ys h) _ fun b o us k h1 h2 h3 h4 h5 h6=>?_;refine(fun Z kJ=>kJ b o us k h1 ((hs.2 b fun q=>hji (Eb S.nodup (q▸h1) ha)).trans h2) h3 h4 (ag.mono e.toKp ax.nil h5) h6)
theorem D5(S:ak c φ H s){vs:List Value}(hr:ag c φ s.heap xs vs)(hz:xs.length<=qag) :
  aE c φ s (fun x H'=>x=.lst H.length/\H'=H++[xs]) (.ref s.heap.objs.size) { s with heap:=s.heap.push { cls:=.type "list",data:=.seq vs.toArray } }:=by
 obtain⟨e,S'⟩:=S.newList hr hz rfl;refine⟨_,_,.lst H.length,e,S',?_,rfl,rfl⟩;exact d7.mk _ rfl (by rw[iE (gk S.len)];simp[S.len])
theorem Ag(S:ak c φ H s)(hr:ag c φ s.heap xs vs.toList)(hz:xs.length<=qag) :
  aE c φ s (fun x H'=>x=.lst H.length/\H'=H++[xs]) (.ref s.heap.objs.size) { s with heap:=s.heap.push { cls:=.type "list",data:=.seq vs } }:=by
 have:=D5 S hr hz;simpa using this
def Dh(S:ak c φ H s)(hr:ag c φ s.heap xs vs.toList)(hz:xs.length<=qag) :
  aE c φ s (fun x H'=>x=.tup xs/\H'=H) (.ref s.heap.objs.size) { s with heap:=s.heap.push { cls:=.type "tuple",data:=.seq vs n } }:=by
 refine⟨φ,H,.tup xs,au.push,S.push _,?_,rfl,rfl⟩;exact dU.mk _ _ vs n rfl S.new (dw _ rfl) rfl rfl hz (ag.mono (au.push (X:=[])).toKp ax.nil hr)
set_option tactic.hygienic true in
theorem Fw{a:Int}(h:q7 a=true):Builtin.Int.intBits a<=64:=by
 simp only[q7,decide_eq_true_eq] at h
 unfold Builtin.Int.intBits
 split
 ·exact dF _
 ·rename_i h0
  have h1:a≠0:=by simpa using h0
  have:a.natAbs.log2<63:=(Nat.log2_lt (by exact aA [_] [_] 0x7490a50006100c030800000084294a000c202006100804080000804049085294001840400c20100810000100804294001840300c2000000 (Y8 (Y2 V0 J0) J0) (Y8 (Y5 V0 J0) J0) (Y7 (Y6 (Y5 (Y4 V0 J0) V0) (Y3 J0 V0)) (Y6 (Y5 (Y4 V0 J0) (Y3 V0 J0)) (Y3 V0 J0))) h1 (Ar.na _))).mpr h
  exact aw [_] [] kaa (Y0 (Y0 V0 J1) (.l 64)) (Y1 V0 (.l 63)) this
theorem EP(l:List α)(n:Nat):(rep l n).length=n*l.length:=by
 induction n with
 |zero=>exact(Nat.zero_mul _).symm
 |succ n ih=>rw[D8,bG,ih,Nat.succ_mul,Nat.add_comm]
theorem ag.rep(hr:ag c φ h l rs):∀n,ag c φ h (rep l n) (rep rs n)
 |0=>rfl
 |n+1=>hr.append (ag.rep hr n)
theorem It(vs:Array Value)(n:Nat):∀acc:Array Value,(List.foldl (fun x1 x2=>x1++x2) acc (List.replicate n vs)).toList=acc.toList++rep vs.toList n:=by
 induction n with
 |zero=>exact fun acc=>(fA _).symm
 |succ n ih=>intro acc;rw[List.replicate_succ,List.foldl_cons,ih,D8];simp
def pC(S:ak c φ H s){l1 l2:List V} {E}(R1:ar c φ s.heap (.lst i) x)(R2:ar c φ s.heap (.lst j) y)(e1:H[i]?=some l1)(e2:H[j]?=some l2)(hz:l1.length+l2.length<=qag) :
  wpAny (model c.prog c.w) A (binaryOp .Add x y) (aE c φ s fun v H'=>v=.lst H.length/\H'=H++[l1++l2]) E s:=by
 have hsl:qag=2^24:=rfl;refine(S.getP R1 e1) _ fun a1 vs n wk Z ho hr Z z1=>?_;subst wk;refine(S.getP R2 e2) _ fun a2 ws n2 wk Z ho2 hr2 Z z2=>?_;subst wk;refine concat_meets ⟨_,ho,rfl⟩ ⟨_,ho2,rfl⟩ noFill_list_add seq_list_add PySem.F.slot_list_add PySem.F.entry_list_add (PySem.F.args_list_add_2 _ _) (list_addW a1 a2 vs ws n n2 none none #[] #[] (by exact bC [_,_,_,_,_] [] kak (Y0 (Y0 V0 V1) V2) (Y0 (Y0 V3 V4) V2) (Y2 V0 V3) (Y2 V1 V4) hz z1 z2)) ⟨ho,ho2,?_⟩;exact Ag S (by rw[Array.toList_append];exact hr.append hr2) (by rw[bG];exact hz)
abbrev eT (c:Cx) (A:Around) (φ:List Addr) (s:Shared) (m:Sem Value) (p:V×Hp):Prop:=fN c A φ s m p.1 p.2
theorem u7(S:ak c φ H s){v:V}(R1:ar c φ s.heap v x)(R2:ar c φ s.heap w y)(e:ym H v w=some p):eT c A φ s (binaryOp .Add x y) p:=by
 intro E;cases v with
 |int a=>
  revert e;refine xM fun b hb wj=>?_;subst wj;obtain rfl:=pH hb;obtain⟨t1,rfl⟩:=R1;obtain⟨t2,rfl⟩:=R2;exact add_int (aE.same S rI)
 |str a=>
  revert e;refine xB fun b hb f=>?_;obtain rfl:=vj hb;revert f;refine xS fun hz wj=>?_;subst wj;obtain⟨t1,rfl⟩:=R1;obtain⟨t2,rfl⟩:=R2;exact PyProof.Rows.add_str (fun t' tk=>aE.same S rS) hz
 |lst a=>
  revert e;refine xB fun x1 e1 f=>?_;obtain⟨_,x2,rfl,e2,g⟩:=uD f;revert g;refine xS fun hz wj=>?_;subst wj;exact pC S R1 R2 e1 e2 hz
 |_=>injection e
set_option tactic.hygienic true in
theorem og(S:ak c φ H s) {E}(R1:ar c φ s.heap (.lst i) x)(R2:ar c φ s.heap (.int nn) y)(e1:H[i]?=some l)(hz:0<=nn/\nn<=1000000/\nn.toNat*l.length<=qag) :
  wpAny (model c.prog c.w) A (binaryOp .Mult x y) (aE c φ s fun v H'=>v=.lst H.length/\H'=H++[rep l nn.toNat]) E s:=by
 obtain⟨t2,rfl⟩:=R2
 refine(S.getP R1 e1) _ fun a1 vs n wk Z ho hr Z z1=>?_;subst wk
 have hsz':vs.size*nn.toNat<=2^24:=by rw[z1,Nat.mul_comm];exact hz.2.2
 refine wpAny_binaryOp_repeat_ref (T:="list") (U:="int") (by decide) ⟨_,ho,rfl⟩ (fun s'=>typeIs_int s' nn t2) noFill_list_mul F.fills_int_mul F.slot_int_rmul repeat_list F.slot_int_index.lookup
  (call_meets F.slot_int_rmul (typeIs_int s nn t2) F.entry_int_rmul (F.args_int_rmul_2 _ _) (lm_int_rmul_list_any nn t2 a1 vs n none #[])
   ⟨ho,rfl,⟨_,ho,rfl⟩,call_meets F.slot_list_mul ⟨_,ho,rfl⟩ F.entry_list_mul (F.args_list_mul_2 _ _)
    (lm_list_mul_any a1 vs n none #[] nn t2 (by simp[Builtin.List.listFitsIndex];lia) (by lia) (by simp[Builtin.List.listTooLong,qag];lia))
    ⟨ho,?_⟩⟩)
 refine Ag S ?_ (by rw[EP];exact hz.2.2)
 rw[It]
 split
 ·rename_i hem
  obtain rfl:l=[]:=iG.mp (z1▸by simpa using hem)
  have:∀k,rep ([]:List V) k=[]:=fun k=>iG.mp (by rw[EP];simp)
  rw[this];rfl
 ·simpa using hr.rep nn.toNat
theorem uS(S:ak c φ H s){v:V}(R1:ar c φ s.heap v x)(R2:ar c φ s.heap w y)(e:y7 H v w=some p):eT c A φ s (binaryOp .Mult x y) p:=by
 intro E;revert e;refine xB fun nn hb f=>?_;skip;obtain rfl:=pH hb;cases v with
 |int a=>
  revert f;refine xS fun hs wj=>?_;subst wj;obtain⟨t1,rfl⟩:=R1;obtain⟨t2,rfl⟩:=R2;exact PyProof.Rows.mul_int (aE.same S rI) ((nD.mp hs).elim (fun h=>IntMulOk.of_left (Fw h)) fun h=>IntMulOk.of_right (Fw h))
 |lst a=>
  revert f;refine xB fun x1 e1 g=>?_;revert g;refine xS fun hz wj=>?_;subst wj;exact og S R1 R2 e1 hz
 |_=>injection f
theorem u4(O:c.Ok)(hA:bR c A q d φ s.heap)(S:ak c φ H s){v:V}(R1:ar c φ s.heap v x)(R2:ar c φ s.heap w y) (e:bI H op v w=some p):eT c A φ s (binaryOp op.real x y) p:=by
 cases op with
 |add=>exact u7 S R1 R2 e
 |mul=>exact uS S R1 R2 e
 |sub=>
  obtain⟨a,b,rfl,rfl,f⟩:=oM e;obtain rfl:=ah f;obtain⟨t1,rfl⟩:=R1;obtain⟨t2,rfl⟩:=R2;exact fun E=>PyProof.Rows.sub_int (aE.same S rI)
 |div=>
  obtain⟨a,b,rfl,rfl,f⟩:=oM e;obtain⟨hb,rfl⟩:=yS f;obtain⟨t1,rfl⟩:=R1;obtain⟨t2,rfl⟩:=R2;exact fun E=>floordiv_int hb (aE.same S rI) (Or.inr (PySem.PylongRoom.of (S.lim O) (by have:=hA.dep;show _+100<1000;exact aw [_,_] [] kaa (Y1 (Y0 V0 (.l 100)) (.l 1000)) (Y0 (Y0 V0 V1) (.l 890)) this) (hA.seer O S)))
 |mod=>
  obtain⟨a,b,rfl,rfl,f⟩:=oM e;obtain⟨hb,rfl⟩:=yS f;obtain⟨t1,rfl⟩:=R1;obtain⟨t2,rfl⟩:=R2;exact fun E=>mod_int' hb (aE.same S rI)
 |pow=>
  obtain⟨a,b,rfl,rfl,f⟩:=oM e;revert f;refine xS fun h wj=>?_;subst wj;obtain⟨t1,rfl⟩:=R1;obtain⟨t2,rfl⟩:=R2;exact fun E=>pow_int_small h.1 (by exact aw [] [_] kaa (Y3 V0 (.l 1000000)) (Y3 V0 (.l 100)) h.2.1) (cw (of_decide_eq_true h.2.2) (by decide)) (aE.same S rI)
end
variable {a:Int}{l:List Int}{p:PyData}
section
open PySem PyProof.Rows
end
section
open PySem PyProof.Rows
noncomputable def Cm.real:Cm->CmpOp
 |.lt=>.Lt |.le=>.LtE |.gt=>.Gt |.ge=>.GtE |.eq=>.Eq |.ne=>.NotEq
 |.isIn=>.In
 |.notIn=>.NotIn
def BU(h:Heap)(r:Value)(p:PyData)(n:Nat):Prop:=∀GJ:Prop,(∀(as:List Addr),Reads h r p as->p.depth<=n->GJ)->GJ
def sQ(h:Heap)(rs:List Value)(ps:List PyData)(n:Nat):Prop:=∀GJ:Prop,(∀(as:List Addr),ReadsAll h rs ps as->PyData.depthAll ps<=n->GJ)->GJ
theorem C9(hf:∀v p r,f v=some p->ar c φ h v r->BU h r p n) :
  ∀{xs:List V} {rs:List Value} {ps:List PyData},aF f xs=some ps->ag c φ h xs rs->sQ h rs ps n
 |[],_,_,e,R=>by
  obtain rfl:=R.nil_inv;obtain rfl:=ah e;exact(fun Z kJ=>kJ _ .nil (dF _))
 |x::xs,_,_,e,R=>by
  refine(gi e) _ fun y ys h1 h2 wk=>?_;subst wk;refine R.uncons _ fun r rs wk R1 R2=>?_;subst wk;refine(hf x y r h1 R1) _ fun as ra da=>?_;refine(C9 hf h2 R2) _ fun bs rb db=>?_;exact(fun Z kJ=>kJ _ (.cons ra rb) (Nat.max_le.mpr ⟨da,db⟩))
theorem Fp{v:V}(n:Nat)(R:ar c φ h v r)(e:lF v=some p):BU h r p n:=by
 cases v with
 |none=>obtain rfl:=ah e;obtain rfl:=R;exact(fun Z kJ=>kJ _ (by constructor) (dF _))
 |bool=>obtain rfl:=ah e;obtain rfl:=R;exact(fun Z kJ=>kJ _ (by constructor) (dF _))
 |int=>obtain rfl:=ah e;obtain⟨t,rfl⟩:=R;exact(fun Z kJ=>kJ _ (by constructor) (dF _))
 |str=>obtain rfl:=ah e;obtain⟨t,rfl⟩:=R;exact(fun Z kJ=>kJ _ (by constructor) (dF _))
 |_=>injection e
theorem Aa(S:ak c φ H s):∀(n:Nat)(v:V)(p:PyData)(r:Value),bB n H v=some p->ar c φ s.heap v r->BU s.heap r p n
 |0,v,p,r,e,R=>Fp 0 R e
 |n+1,v,p,r,e,R=>by
  cases v with
  |tup l=>
   revert e;refine xM fun ps e1 wj=>?_;subst wj;obtain⟨a,o,vs,m,rfl,_,ho,hc,hd,_,hl⟩:=R;refine(C9 (Aa S n) e1 hl) _ fun as ra da=>?_;exact(fun Z kJ=>kJ _ (.tuple ho hc hd ra) (Nat.succ_le_succ da))
  |lst i=>
   revert e;refine xM fun ps e1 wj=>?_;subst wj;revert e1;refine xB fun xs e2 e3=>?_;refine(S.getP R e2) _ fun a vs m wk Z ho hl Z Z=>?_;subst wk;refine(C9 (Aa S n) e3 hl) _ fun as ra da=>?_;exact(fun Z kJ=>kJ _ (.list ho rfl rfl ra) (Nat.succ_le_succ da))
  |_=>exact Fp _ R e
def Jd(h:Heap)(x y:Value)(b:Bool):Prop:=∀GJ:Prop,(∀(p p':PyData),∀(as bs:List Addr),Reads h x p as->Reads h y p' bs->(p.canLay0=true)->(p'.canLay0=true)->p.depth<=9->p'.depth<=9->(PyData.eqv p p'=b)->GJ)->GJ
def FM(S:ak c φ H s){v:V}(R1:ar c φ s.heap v x)(R2:ar c φ s.heap w y)(e:fB H v w=some b):Jd s.heap x y b:=by
 revert e;refine xB fun p e1 f=>?_;revert f;refine xB fun p' e2 g=>?_;revert g;refine xS fun h wj=>?_;subst wj;refine(Aa S 9 v p x e1 R1) _ fun as ra da=>?_;refine(Aa S 9 w p' y e2 R2) _ fun bs rb db=>?_;exact(fun Z kJ=>kJ p p' as bs ra rb ((eQ.mp h).1) ((eQ.mp h).2) da db rfl)
theorem zL:∀{xs:List V}{rs:List Value}{l:List Int},ag c φ h xs rs->wc xs=some l->IntsAre rs l
 |[],_,_,R,e=>by
  obtain rfl:=R.nil_inv;obtain rfl:=ah e;exact .nil
 |x::xs,_,_,R,e=>by
  refine R.uncons _ fun r rs wk R1 R2=>?_;subst wk;revert e;refine xB fun i h1 f=>?_;revert f;refine xM fun l' h2 wj=>?_;subst wj;obtain rfl:=pH h1;obtain⟨t,rfl⟩:=R1;exact .cons _ _ (zL R2 h2)
theorem Ae:∀{xs:List V}{rs:List Value}{l:List Str},ag c φ h xs rs->jj xs=some l->StrsAre rs l
 |[],_,_,R,e=>by
  obtain rfl:=R.nil_inv;obtain rfl:=ah e;exact .nil
 |x::xs,_,_,R,e=>by
  refine R.uncons _ fun r rs wk R1 R2=>?_;subst wk;revert e;refine xB fun i h1 f=>?_;revert f;refine xM fun l' h2 wj=>?_;subst wj;obtain rfl:=vj h1;obtain⟨t,rfl⟩:=R1;exact .cons _ _ (Ae R2 h2)
theorem zZ:∀{xs:List V}{rs:List Value}{l:List Bool},ag c φ h xs rs->gu xs=some l->rs=l.map Value.bool
 |[],_,_,R,e=>by
  obtain rfl:=R.nil_inv;obtain rfl:=ah e;rfl
 |x::xs,_,_,R,e=>by
  refine R.uncons _ fun r rs wk R1 R2=>?_;subst wk;revert e;refine xB fun i h1 f=>?_;revert f;refine xM fun l' h2 wj=>?_;subst wj;obtain rfl:=n8 h1;obtain rfl:=R1;rw[zZ R2 h2];rfl
noncomputable def Dc(k:Int):Value->Bool
 |.int i _=>i==k
 |_=>false
theorem pd(h:IntsAre rs l):rs.any (Dc k)=decide (k∈l):=by
 induction h with
 |nil=>rfl
 |cons n t h ih=>
  rw[List.any_cons,ih];rw[Bool.eq_iff_iff,show Dc k (.int n t)=(n==k) from rfl];simp only[Bool.or_eq_true,beq_iff_eq,decide_eq_true_eq,bc];exact⟨fun h=>h.imp Eq.symm id,fun h=>h.imp Eq.symm id⟩
theorem j7(h:IntsAre rs l):∀r∈rs,∃i t,r=.int i t:=by
 induction h with
 |nil=>intro r hr;cases hr
 |cons n t h ih=>
  intro r hr;rcases bc.mp hr with rfl |hr
  ·exact⟨n,t,rfl⟩
  ·exact ih r hr
noncomputable def AA(k:Str):Value->Bool
 |.str i _=>i==k
 |_=>false
theorem Gn{k:Str}{l:List Str}(h:StrsAre rs l):rs.any (AA k)=decide (k∈l):=by
 induction h with
 |nil=>rfl
 |cons n t h ih=>
  rw[List.any_cons,ih];rw[Bool.eq_iff_iff,show AA k (.str n t)=(n==k) from rfl];simp only[Bool.or_eq_true,beq_iff_eq,decide_eq_true_eq,bc];exact⟨fun h=>h.imp Eq.symm id,fun h=>h.imp Eq.symm id⟩
theorem EW{l:List Str}(h:StrsAre rs l):∀r∈rs,∃i t,r=.str i t:=by
 induction h with
 |nil=>intro r hr;cases hr
 |cons n t h ih=>
  intro r hr;rcases bc.mp hr with rfl |hr
  ·exact⟨n,t,rfl⟩
  ·exact ih r hr
def qA(c:Cx)(A:Around)(s:Shared)(o:Cm)(x y:Value)(b:Bool):Prop:=∀{Q:Value->Shared->Prop}{E:Value->Shared->Prop},Q (.bool b) s->wpAny (model c.prog c.w) A (compareOp o.real x y) Q E s
theorem GO{s:Str}{k:Nat}(h:mI s=some k):s=⟨#[k]⟩:=by
 obtain⟨⟨l⟩⟩:=s;match l,h with
 |[_],h=>(injection h with Ja;subst Ja);rfl
theorem uw(R1:ar c φ s.heap (.str t) x)(R2:ar c φ s.heap w y)(e:FZ t w=some b):qA c A s .isIn x y b:=by
 intro Q E hq;obtain⟨t1,rfl⟩:=R1;cases w with
 |str u=>
  revert e;refine xM fun k hk wj=>?_;subst wj;obtain rfl:=GO hk;obtain⟨t2,rfl⟩:=R2;refine P.in_str ?_;rw[StrLaws.found_one];exact hq
 |tup l=>
  revert e;refine xM fun l e' wj=>?_;subst wj;obtain⟨a,o,vs,n,rfl,_,ho,hc,hd,_,hr⟩:=R2;have hi:=Ae hr e';refine SeqAt.in_tupleAt (AA t) ⟨o,ho,hc,n,hd⟩ (fun r hr'=>?_) ?_
  ·obtain⟨i,t,rfl⟩:=EW hi r (Array.mem_toList_iff.mpr hr');exact SeqAt.EqAt.str_str _ _ _ _
  ·rw[<- Array.any_toList,Gn hi];exact hq
 |_=>injection e
theorem xQ(S:ak c φ H s){v:V}(R1:ar c φ s.heap v x)(R2:ar c φ s.heap w y)(e:ES H v w=some b):qA c A s .isIn x y b:=by
 cases v with
 |int k=>
  intro Q E hq;obtain⟨bb,xs,rfl,e1,f⟩:=uD e;revert f;refine xM fun l e2 wj=>?_;subst wj;refine(S.getP R2 e1) _ fun a vs n wk Z ho hr Z Z=>?_;subst wk;obtain⟨t1,rfl⟩:=R1;have hi:=zL hr e2;refine SeqAt.in_listAt (Dc k) (ja ho) (fun r hr'=>?_) ?_
  ·obtain⟨i,t,rfl⟩:=j7 hi r (Array.mem_toList_iff.mpr hr');exact SeqAt.EqAt.int_int _ _ _ _
  ·rw[<- Array.any_toList,pd hi];exact hq
 |str t=>exact uw R1 R2 e
 |_=>injection e
def j6{v:V}(R1:ar c φ s.heap v x)(R2:ar c φ s.heap w y)(e:y0 v w=some b):qA c A s .notIn x y b:=by
 intro Q E hq;revert e;refine xB fun k h1 f=>?_;revert f;refine xB fun l0 h2 g=>?_;obtain rfl:=vj h1;obtain rfl:=yo h2;revert g;refine xM fun l e' wj=>?_;subst wj;obtain⟨t1,rfl⟩:=R1;obtain⟨a,o,vs,n,rfl,_,ho,hc,hd,_,hr⟩:=R2;have hi:=Ae hr e';refine SeqAt.notIn_tupleAt (AA k) ⟨o,ho,hc,n,hd⟩ (fun r hr'=>?_) ?_
 ·obtain⟨i,t,rfl⟩:=EW hi r (Array.mem_toList_iff.mpr hr');exact SeqAt.EqAt.str_str _ _ _ _
 ·rw[<- Array.any_toList,Gn hi];exact hq
theorem lD(hu:A.units+100<cLine)(S:ak c φ H s){o:Cm}{v:V}(R1:ar c φ s.heap v x)(R2:ar c φ s.heap w y) (e:dq H o v w=some b):qA c A s o x y b:=by
 cases o with
 |lt=>
  obtain⟨a,b,rfl,rfl,f⟩:=oM e;obtain rfl:=ah f;obtain⟨t1,rfl⟩:=R1;obtain⟨t2,rfl⟩:=R2;exact PyProof.Rows.lt_int
 |le=>
  obtain⟨a,b,rfl,rfl,f⟩:=oM e;obtain rfl:=ah f;obtain⟨t1,rfl⟩:=R1;obtain⟨t2,rfl⟩:=R2;exact PyProof.Rows.le_int
 |gt=>
  obtain⟨a,b,rfl,rfl,f⟩:=oM e;obtain rfl:=ah f;obtain⟨t1,rfl⟩:=R1;obtain⟨t2,rfl⟩:=R2;exact PyProof.Rows.gt_int
 |ge=>
  obtain⟨a,b,rfl,rfl,f⟩:=oM e;obtain rfl:=ah f;obtain⟨t1,rfl⟩:=R1;obtain⟨t2,rfl⟩:=R2;exact PyProof.Rows.ge_int
 |eq=>
  refine(FM S R1 R2 e) _ fun p p' as bs ra rb l l' da db wk=>?_;subst wk;exact SeqAt.compareEq_reads ra rb l l' (by exact aA [_,_,_,_] [] 0x194a528003080601840400c20280610000810421 (Y1 (Y0 V0 (Y5 V1 V2)) V3) (Y1 (Y0 V0 (.l 100)) V3) (Y0 V1 (.l 9)) hu da)
 |ne=>
  revert e;refine xM fun b' e' wj=>?_;subst wj;refine(FM S R1 R2 e') _ fun p p' as bs ra rb l l' da db wk=>?_;subst wk;exact SeqAt.compareNe_reads ra rb l l' (by exact aA [_,_,_,_] [] 0x194a528003080601840400c20280610000810421 (Y1 (Y0 V0 (Y5 V1 V2)) V3) (Y1 (Y0 V0 (.l 100)) V3) (Y0 V1 (.l 9)) hu da)
 |isIn=>exact xQ S R1 R2 e
 |notIn=>exact j6 R1 R2 e
end
variable {b:Int}{f:Nat->V}{p:Int×Int}{t:Tok}
section
open PySem PyProof.Rows
def sS(slice:Expr)(o i:Value):Prop:=∀GJ:Prop,(∀(ops:List Value),(subscripted slice false o i=operate ops (getItem o i))->GJ)->GJ
theorem wY(slice:Expr)(o i:Value):sS slice o i:=by
 cases slice with
 |Slice l u st p=>cases st<;>exact(fun Z kJ=>kJ _ rfl)
 |_=>exact(fun Z kJ=>kJ _ rfl)
theorem sR.get:∀{rs:List Value},sR l rs->∀{i:Nat}{v:Int},l[i]?=some v->∃t,rs[i]?=some (.int v t):=by
 induction l with
 |nil=>exact fun Z Z Z e=>nomatch e
 |cons x l ih=>
  intro rs h i v e;cases rs with
  |nil=>exact h.elim
  |cons r rs=>
   cases i with
   |zero=>obtain rfl:=ah e;exact h.1.elim fun t e=>⟨t,congrArg some e⟩
   |succ i=>exact ih h.2 e
theorem sR.length:∀{rs:List Value},sR l rs->rs.length=l.length:=by
 induction l with
 |nil=>
  intro rs h;cases rs with
  |nil=>rfl
  |cons _ _=>exact h.elim
 |cons x l ih=>
  intro rs h;cases rs with
  |nil=>exact h.elim
  |cons r rs=>exact congrArg (· + 1) (ih h.2)
def Hy(i:Int)(n j:Nat):Prop:=∀GJ:Prop,(j<n->((0<=i/\i.toNat=j)\/(i<0/\-(n:Int)<=i/\(i+n).toNat=j))->(seqIndex? i n=some j)->GJ)->GJ
theorem Cn{i:Int}(h:ix i n=some j):Hy i n j:=by
 unfold ix at h;by_cases h0:0<=i
 ·rw[if_pos h0] at h;revert h;refine xS fun h1 wj=>?_;subst wj;refine(fun Z kJ=>kJ (by exact bC [_,_] [_] 0x124294a50006100c03080801840500c2008000294a000c200806100c0308000 (Y1 V0 V1) (Y3 J0 V0) (Y4 V0 (Y4 V1 J0)) (Y7 (Y5 (Y4 V0 J0) V0) (Y6 (Y3 V0 J0) (Y2 V0 J0))) h0 h1 (Ar.tn _)) (.inl ⟨h0,rfl⟩) ?_);unfold seqIndex?;simp only[Int.not_lt.mpr h0,if_false];rw[if_pos (by simp;exact aA [_] [_] kac (Y6 (Y3 J0 V0) (Y4 V0 (Y4 V0 J0))) (Y3 J0 V0) (Y4 V0 (Y4 V0 J0)) h0 h1)]
 ·rw[if_neg h0] at h;revert h;refine xS fun h1 wj=>?_;subst wj;refine(fun Z kJ=>kJ (by exact bC [_,_] [_] 0x124294a50006100c03080801840500c2008000294a000c20080610080308000 (Y1 V0 V1) (Y8 (Y3 J0 V0) J0) (Y3 (Y3 (Y4 V1 J0) J0) V0) (Y7 (Y5 (Y4 V0 J0) (Y0 V0 (Y4 V1 J0))) (Y6 (Y3 (Y0 V0 (Y4 V1 J0)) J0) (Y2 V0 J0))) h0 h1 (Ar.tn _)) (.inr ⟨Int.not_le.mp h0,h1,rfl⟩) ?_);unfold seqIndex?;simp only[Int.not_le.mp h0,if_true];rw[if_pos (by simp;exact aA [_] [_] kaj (Y6 (Y3 J0 (Y0 V0 (Y4 V0 J0))) (Y4 (Y0 V0 (Y4 V0 J0)) (Y4 V0 J0))) (Y8 (Y3 J0 V0) J0) (Y3 (Y3 (Y4 V0 J0) J0) V0) h0 h1)]
def DO{l:Addr}(hl:s.heap.IsList l items)(hj:ix k items.size=some j) (hz:items.size<=qag) (hx:items[j]?=some x) (h:Q x s):wpAny (model c.prog c.w) A (subscriptTail value slice (.ref l) (.int k t)) Q E s:=by
 have hsl:qag=2^24:=rfl;refine(Cn hj) _ fun h1 h2 Z=>?_;refine(wY slice (.ref l) (.int k t)) _ fun ops hops=>?_;refine tail_any hl.typeIs slot_list_getitem.lookup ?_ hops;rcases h2 with⟨h3,rfl⟩|⟨h3,h4,rfl⟩
 ·exact wpAny_getItem_list hl h3 (by exact z6 [_,_,_] [_,_] 0x164294a000c201808101c0308000000a5294a50006100403080401840300c20200810140408000 (Y4 V0 V1) (Y0 V0 V1) (Y2 V1 (.l 16777216)) (Y1 V2 V0) (Y5 V1 (.l 9223372036854775808)) (Y7 (Y5 (Y4 V2 J0) V0) (Y6 (Y3 V0 J0) (Y2 V2 J0))) hz hsl h1 (Ar.p63) (Ar.tn _)) hx h
 ·exact wpAny_getItem_list_neg hl h3 h4 (by exact iZ [_,_] [_,_] kah (Y3 (Y3 V0 J0) V1) (Y0 V0 V1) (Y2 V1 (.l 16777216)) (Y3 (Y3 (Y4 V0 J0) J0) V1) (Y5 V0 (.l 9223372036854775808)) hz hsl h4 (Ar.p63)) hx h
def qO(h:vs.toList[j]?=some r):vs[j]?=some r:=by rw[<- sL];exact h
theorem uq(S:ak c φ H s){v u:V}(R1:ar c φ s.heap v x)(R2:ar c φ s.heap w y) (e:bO H v w=some u):fN c A φ s (subscriptTail value slice x y) u H:=by
 have hsl:qag=2^24:=rfl;intro E;revert e;refine xB fun i hi f=>?_;skip;obtain rfl:=pH hi;obtain⟨t2,rfl⟩:=R2;cases v with
 |str st=>
  revert f;refine xB fun j e1 e2=>?_;obtain⟨e1,hz⟩:=Ck e1;refine(Cn e1) _ fun h1 h2 h3=>?_;revert e2;refine xM fun cc e3 wj=>?_;subst wj;obtain⟨t1,rfl⟩:=R1;refine(wY slice (.str st t1) (.int i t2)) _ fun ops hops=>?_;refine tail_any (typeIs_str s st t1) F.slot_str_getitem.lookup (P.getItem_str (c:=cc) (by simp;exact z6 [_,_,_,_,_] [_] 0x32c852800308060184000000d214a000c202006100000010a5294a50006101803080e01840800c2020081008030802008164214a528003080e01840800c20280610000100004294001840300c2000000 (Y6 (Y3 (Y3 (.l 9223372036854775808) J0) V0) (Y4 V0 (.l 9223372036854775808))) (Y2 V0 (.l 16777216)) (Y0 V1 V0) (Y1 V2 V1) (Y7 (Y6 (Y3 J0 V0) (Y2 V3 V2)) (Y6 (Y4 V0 J0) (Y6 (Y3 (Y3 (Y4 V1 J0) J0) V0) (Y2 V4 V2)))) (Y7 (Y5 (Y4 V3 J0) V0) (Y6 (Y3 V0 J0) (Y2 V3 J0))) hsl hz h1 h2 (Ar.tn _)) ?_ (aE.same S rS)) hops;show(seqIndex? i st.cps.size).bind _=_;rw[h3];exact e3
 |lst a=>
  revert f;refine xB fun xs e1 g=>?_;revert g;refine xB fun j e3 e4=>?_;refine(S.getP R1 e1) _ fun a vs n wk Z ho hr hz z=>?_;subst wk;refine(hr.get e4) _ fun r hr1 hr2=>?_;exact DO (ja ho) (by rw[z];exact e3) (by rw[z];exact hz) (qO hr1) (aE.same' S hr2)
 |tup xs=>
  revert f;refine xB fun j e3 e4=>?_;obtain⟨a,o,vs,n,rfl,_,ho,hc,hd,hz,hr⟩:=R1;have z:vs.size=xs.length:=e9.symm.trans hr.length;refine(hr.get e4) _ fun r hr1 hr2=>?_;refine(Cn e3) _ fun h1 h2 h3=>?_;refine(wY slice (.ref a) (.int i t2)) _ fun ops hops=>?_;have hT:IsTup s.heap a vs:=⟨o,ho,hc,n,hd⟩;exact tail_any hT.typeIs slot_tuple_getitem.lookup (getItem_tuple hT (by exact iZ [_,_,_,_,_] [_,_] 0x124214a5294001840500c203006101c04081201840000400010a528003080602040700c2000000 (Y3 (Y3 V0 J0) V1) (Y2 V0 (.l 16777216)) (Y0 V1 V0) (Y7 (Y6 (Y3 J0 V1) (Y2 V2 V3)) (Y6 (Y4 V1 J0) (Y6 (Y3 (Y3 (Y4 V1 J0) J0) V1) (Y2 V4 V3)))) (Y5 V0 (.l 9223372036854775808)) hsl hz h2 (Ar.p63)) (by exact CS [_,_,_,_,_] [_,_] 0x28852940018403010204006100000034852940018404010204806100000010a5294a528003080801840500c203006101c04081202040200c2008020 (Y4 V0 V1) (Y2 V0 (.l 16777216)) (Y0 V1 V0) (Y1 V2 V1) (Y7 (Y6 (Y3 J0 V0) (Y2 V3 V2)) (Y6 (Y4 V0 J0) (Y6 (Y3 (Y3 (Y4 V1 J0) J0) V0) (Y2 V4 V2)))) (Y5 V1 (.l 9223372036854775808)) (Y7 (Y5 (Y4 V3 J0) V0) (Y6 (Y3 V0 J0) (Y2 V3 J0))) hsl hz h1 h2 (Ar.p63) (Ar.tn _)) (by rw[z];exact h3) (qO hr1) (aE.same' S hr2)) hops
 |scr l=>
  revert f;refine xB fun j e3 g=>?_;revert g;refine xM fun k e5 wj=>?_;subst wj;obtain⟨a,o,vs,n,rfl,_,_,ho,hc,hd,hz,hr⟩:=R1;have z:=e9.symm.trans hr.length;obtain⟨t,hr1⟩:=hr.get e5;exact DO ⟨o,ho,hc,n,hd⟩ (by rw[z];exact e3) (by rw[z];exact hz) (qO hr1) (aE.same' S rI)
 |_=>injection f
end
variable {c d:Int}{items:List V}{k:cZ}{l:List (Int×Int)}{vs:List Value}{w:World}{x y:Int×Int}
section
open PySem PySem.W PySem.Calls PyProof.Rows
inductive bq(h:Heap)(v:Value)(a b:Int):Prop
 |mk (x:Addr)(o:Obj)(t u:Tok)(n:Nat)(hr:v=.ref x)(ho:h.get? x=some o)(hc:o.cls=.type "tuple")(hd:o.data=.seq #[.int a t,.int b u] n):bq h v a b
def CG(ha:a=a')(hb:b=b'):(decide (a<a')||(decide (a=a')&&decide (b<b')))=false:=by rw[ha,hb,decide_eq_false (Int.lt_irrefl _),decide_eq_false (Int.lt_irrefl _),Bool.and_false];rfl
def Ci(ha:a=a'):(decide (a<a')||(decide (a=a')&&decide (b<b')))=decide (b<b'):=by rw[decide_eq_true ha,ha,decide_eq_false (Int.lt_irrefl _)];rfl
def CL(ha:a≠a'):(decide (a<a')||(decide (a=a')&&decide (b<b')))=decide (a<a'):=by rw[decide_eq_false ha];exact Bool.or_false _
def qw{v v':Value}{Q:Bool->Shared->Prop}(hp:bq s.heap v a b)(hp':bq s.heap v' a' b')(h:Q (decide (a<a')||(decide (a=a')&&decide (b<b'))) s):wpAny (model prog w) A (keyLt' (tuples' true) v v') Q E s:=by
 obtain⟨x,o,t,u,n,rfl,ho,hc,hd⟩:=hp;obtain⟨x',o',t',u',n',rfl,ho',hc',hd'⟩:=hp';refine kat_lt ho hd ho' hd' (kat_cons (wpAny_eqBool_int (kat_go (fun e=>kat_yes (kat_cons (wpAny_eqBool_int (kat_go (fun e2=>kat_yes (kat_nil ?_)) fun e2=>kat_no ?_)))) fun e=>kat_no ?_)))
 ·rw[CG (beq_iff_eq.mp e) (beq_iff_eq.mp e2)] at h;exact h
 ·rw[Ci (beq_iff_eq.mp e)] at h;show wpAny (model prog w) A (oneLt' false _ _) Q _ s;rw[oneLt'_eq,if_neg Bool.false_ne_true];exact ai (wpAny_lt_int (uF h))
 ·rw[CL (beq_eq_false_iff_ne.mp e)] at h;exact oneLt_int h
def ip(h:Heap):List Value->List (Int×Int)->Prop
 |[],[]=>True
 |v::vs,p::ps=>bq h v p.1 p.2/\ip h vs ps
 |_,_=>False
def BE(h:Heap)(vs:List Value)(n:Nat):Prop:=∀GJ:Prop,(∀(fs:List Value),∀(t:KatTups h vs fs),(fs.length=n)->(∀v∈fs,∃i t,v=.int i t)->GJ)->GJ
theorem p0:∀{ps:List (Int×Int)},ip h vs ps->BE h vs ps.length:=by
 induction vs with
 |nil=>
  intro ps t;cases ps with
  |nil=>exact(fun Z kJ=>kJ [] trivial rfl (fun Z h=>nomatch h))
  |cons _ _=>exact t.elim
 |cons v vs ih=>
  intro ps t;cases ps with
  |nil=>exact t.elim
  |cons p ps=>
   obtain⟨⟨x,o,tk,u,n,rfl,ho,hc,hd⟩,t⟩:=t;refine(ih t) _ fun fs k l a=>?_;exact(fun Z kJ=>kJ _ (.cons ho hc hd rfl k) (congrArg (· + 1) l) (eD.mpr ⟨⟨_,_,rfl⟩,a⟩))
def qr {Q:SortKind->Shared->Prop} (t:ip s.heap vs ps) (hne:0<ps.length) (h:Q (tuples' true) s):wpAny (model prog w) A (keyKind' vs.toArray) Q E s:=by
 refine(p0 t) _ fun fs k l a=>?_;refine kat_kind (T:=.type "int") k (l.symm▸hne) (fun v hv=>?_) (by decide +kernel) h;obtain⟨i,t,rfl⟩:=a v hv;exact Looks.of_pure rfl
theorem qs(h:vs.length<2):(vs.toArray.zip vs.toArray).map (·.2)=((List.toArray (List.range vs.length)).toList.map fun i=>vs.getD i dI).toArray:=by
 refine Array.toList_inj.mp ?_;rw[Array.toList_map,Array.toList_zip];cases vs with
 |nil=>rfl
 |cons x r=>
  cases r with
  |nil=>rfl
  |cons y r=>exact absurd h (Nat.not_lt.mpr (Nat.le_add_left 2 _))
theorem Ji{l:Addr}{κ:SortKind}(hl:s.heap.IsList l vs.toArray)(h64:vs.length<64) (inj:∀i j,i<vs.length->j<vs.length->key i=key j->i=j) (hκ:2<=vs.length->∀h',(∀b o,s.heap.get? b=some o->h'.get? b=some o)->(∀(Q:SortKind->Shared->Prop) E,Q κ { s with heap:=h' }->wpAny (model prog w) A.in1.in1 (keyKind' vs.toArray) Q E { s with heap:=h' })/\DT prog w A.in1.in1 { s with heap:=h' } κ vs key vs.length) (h:∀h' c' (p:Array Nat),(∀b o,s.heap.get? b=some o->h'.get? b=some o)->h'.get? (s.heap.objs.size+1)=some (seqObj "list" (p.toList.map fun i=>vs.getD i dI).toArray c')->dN vs.length p->Up key p vs.length->Q (.ref (s.heap.objs.size+1)) { s with heap:=h' }) :
  wpAny (model prog w) A (call (.builtin "sorted") [.ref l]) Q E s:=by
 refine Calls.call_function_entry kind_sorted plain_sorted entry_sorted (args_sorted1 _) ?_;unfold Builtin.«sorted»;refine ai (m:=checkCount "sorted" 1 1 _) (aC ?_);refine ai (collect_list hl ?_ (by rw[sizeLine_eq];exact aw [_] [] kaa (Y0 V0 (.l 16777216)) (Y1 V0 (.l 64)) h64));refine ai (wpAny_newList ?_ (by rw[sizeLine_eq];exact aw [_] [] kaa (Y0 V0 (.l 16777216)) (Y1 V0 (.l 64)) h64));generalize hg1:(s.heap.push (seqObj "list" #[] 0)).update s.heap.objs.size (nE (·++vs.toArray))=g1;have hsz:g1.objs.size=s.heap.objs.size+1:=by rw[<- hg1,Heap.size_update,size_push']
 have k1:∀b o,s.heap.get? b=some o->g1.get? b=some o:=fun b o q=>by
  have hlt:=f9 q;rw[<- hg1,xF _ _ _ _ (cj hlt),Heap.get?_push_ne _ _ _ (cj hlt)];exact q
 have hoL:(g1.push (seqObj "list" vs.toArray 0)).get? (s.heap.objs.size+1)=some (seqObj "list" vs.toArray 0):=by
  rw[<- hsz];exact dw _ rfl
 show wpAny _ _ _ _ _ { s with heap:=g1.push (seqObj "list" vs.toArray 0) };rw[hsz];refine ai (de (tO slot_list_sort ⟨_,hoL,rfl⟩ entry_list_sort ?body (args_list_sort _)));case body=>
 generalize ha:s.heap.objs.size+1=a at *;generalize hg2:g1.push (seqObj "list" vs.toArray 0)=g2 at *;have hz2:g2.objs.size=a+1:=by rw[<- hg2,size_push',hsz]
 have k2:∀b o,s.heap.get? b=some o->b≠a/\g2.get? b=some o:=fun b o q=>by
  refine⟨?_,?_⟩
  ·rw[<- ha];exact cj (Nat.lt_succ_of_lt (f9 q))
  ·rw[<- hg2,bV _ (k1 b o q)]
 rw[list_sort_plain];refine ai (listItems_at hoL rfl ?_);refine ai (listUpdate_at hoL rfl ?_ (by rw[List.size_toArray,sizeLine_eq];exact aw [_] [] kaa (Y0 V0 (.l 16777216)) (Y1 V0 (.l 64)) h64) (dF _));obtain⟨e1,ho1⟩:∃e1,(g2.update a (nE fun Z=>(#[]:Array Value))).get? a=some (seqObj "list" #[] e1):=⟨_,get?_update_seq hoL fun Z=>#[]⟩;refine ai (seqEpoch_at ho1 rfl ?_);refine ai (wpAny_newTuple ?_ (by show vs.length<=_;rw[sizeLine_eq];exact aw [_] [] kaa (Y0 V0 (.l 16777216)) (Y1 V0 (.l 64)) h64));refine ai (wpAny_newList ?_ (dF _));refine de ?_;generalize hg3:((g2.update a (nE fun Z=>(#[]:Array Value))).push (seqObj "tuple" vs.toArray 0)).push (seqObj "list" #[] 0)=g3;have ho3:g3.get? a=some (seqObj "list" #[] e1):=by
  rw[<- hg3];exact bV _ (bV _ ho1)
 have k3:∀b o,s.heap.get? b=some o->b≠a/\g3.get? b=some o:=fun b o q=>by
  obtain⟨hne,q2⟩:=k2 b o q;refine⟨hne,?_⟩;rw[<- hg3];refine bV _ (bV _ ?_);rw[xF _ _ _ _ hne];exact q2
 show wpAny (model prog w) A.in1.in1 _ _ _ { s with heap:=g3 };dsimp only;have fin:∀(o2:Array Value) (p:Array Nat),o2=(p.toList.map fun i=>vs.getD i dI).toArray->dN vs.length p->Up key p vs.length->o2.size<=2^24/\Q (.ref a) { s with heap:=g3.update a (nE fun Z=>o2) }:=by
  rintro _ p rfl hp hu;obtain⟨c2,hc2⟩:∃c2,(g3.update a (nE fun Z=>(p.toList.map fun i=>vs.getD i dI).toArray)).get? a=some (seqObj "list" (p.toList.map fun i=>vs.getD i dI).toArray c2):=⟨_,get?_update_seq ho3 fun Z=>(p.toList.map fun i=>vs.getD i dI).toArray⟩;refine⟨?_,h _ c2 p (fun b o q=>?_) hc2 hp hu⟩
  ·rw[List.size_toArray,aG,e9,hp.size];exact aw [_] [] kaa (Y0 V0 (.l 16777216)) (Y1 V0 (.l 64)) h64
  ·obtain⟨hne,q3⟩:=k3 b o q;rw[xF _ _ _ _ hne];exact q3
 have hr:dN vs.length (List.toArray (List.range vs.length)):=List.Perm.refl _;by_cases h22:vs.toArray.size<2
 ·rw[if_pos h22,if_pos h22];refine ai (aC ?_);rw[StateT.run_pure];refine ai (aC ?_);dsimp only;have hlt:vs.length<2:=by simpa using h22
  obtain⟨hz,hQ⟩:=fin _ _ (qs hlt) hr (fun i j h1 h2=>by exact bC [_,_,_] [_,_] kaq (Y4 V0 V1) (Y1 V0 J2) (Y1 V1 V2) (Y1 V2 V0) hlt h1 h2);refine ai (seqEpoch_at ho3 rfl ?_);refine ai (listUpdate_at ho3 rfl ?_ (dF _) (aB hz (by rw[sizeLine_eq];decide)));simp only[bne_self_eq_false,gw,if_false];exact aC ⟨_,rfl,aC ⟨_,rfl,hQ⟩⟩
 ·rw[if_neg h22,if_neg h22];have hge:2<=vs.length:=by simpa using h22
  obtain⟨hk1,hk2⟩:=hκ hge g3 fun b o q=>(k3 b o q).2;refine ai (hk1 _ _ ?_);refine ai (a8 (oj hk2 inj hge h64) ?_ fun Z Z e=>e);rintro⟨⟨⟩,st'⟩ s' ⟨rfl,p,hp,hu,har,hf⟩;dsimp only;obtain⟨hz,hQ⟩:=fin ((arrOf st').map (·.2)) p har hp hu;refine ai (seqEpoch_at ho3 rfl ?_);refine ai (listUpdate_at ho3 rfl ?_ (dF _) (aB hz (by rw[sizeLine_eq];decide)));rw[hf];simp only[bne_self_eq_false,gw,if_false];exact aC ⟨_,rfl,aC ⟨_,rfl,hQ⟩⟩
section
variable {c:Cx}
def BO(c:Cx)(φ:List Addr)(h:Heap)(v:V)(rs:List Value):Prop:=∀GJ:Prop,(∀(r:Value),(rs=[r])->ar c φ h v r->GJ)->GJ
def ag.one{v:V}(R:ag c φ h [v] rs):BO c φ h v rs:=by
 refine R.uncons _ fun r rs' wk h1 R2=>?_;subst wk;obtain rfl:=R2.nil_inv;exact(fun Z kJ=>kJ r rfl h1)
def By(c:Cx)(φ:List Addr)(h:Heap)(v w:V)(rs:List Value):Prop:=∀GJ:Prop,(∀(r r':Value),(rs=[r,r'])->ar c φ h v r->ar c φ h w r'->GJ)->GJ
def ag.two{v w:V}(R:ag c φ h [v,w] rs):By c φ h v w rs:=by
 refine R.uncons _ fun r rs' wk h1 R2=>?_;subst wk;refine R2.one _ fun r' wk h2=>?_;subst wk;exact(fun Z kJ=>kJ r r' rfl h1 h2)
theorem ag.of_get:∀{l:List V}{rs:List Value},rs.length=l.length->(∀(i:Nat) v r,l[i]?=some v->rs[i]?=some r->ar c φ h v r)->ag c φ h l rs:=by
 intro l;induction l with
 |nil=>intro rs h _;exact iG.mp h
 |cons x xs ih=>
  intro rs h hh;cases rs with
  |nil=>exact nomatch h
  |cons r rs=>exact⟨hh 0 x r rfl rfl,ih (Nat.succ.inj h) fun i v r h1 h2=>hh (i+1) v r h1 h2⟩
theorem Dz{R:α->α->Prop}(anti:∀x y,R x y->R y x->x=y):∀{a b:List α},a.Perm b->a.Pairwise R->b.Pairwise R->a=b
 |[],b,h,_,_=>(List.nil_perm.mp h).symm
 |x::a,[],h,_,_=>absurd h.length_eq (by simp)
 |x::a,y::b,h,ha,hb=>by
  rw[List.pairwise_cons] at ha hb;have e:x=y:=by
   rcases bc.mp (h.mem_iff.mp aL) with e |hx
   ·exact e
   ·rcases bc.mp (h.mem_iff.mpr aL) with e |hy
    ·exact e.symm
    ·exact anti x y (ha.1 y hy) (hb.1 x hx)
  subst e;rw[Dz anti h.cons_inv ha.2 hb.2]
theorem Ia{v:V}(h:rj v=some p):v=lQ p:=by
 revert h;refine xB fun l h1 f=>?_;obtain rfl:=yo h1;cases LV.of l with
 |two x y=>
  obtain⟨a,b,rfl,rfl,g⟩:=oM f;obtain rfl:=ah g;rfl
 |_=>injection f
theorem Ec:∀{xs:List V}{l:List (Int×Int)},vK xs=some l->xs=l.map lQ
 |[],l,h=>by obtain rfl:=ah h;rfl
 |x::r,l,h=>by
  refine(gi h) _ fun p l' h1 h2 wk=>?_;subst wk;rw[Ec h2,Ia h1];rfl
def xl{c:Int}(hb : -2147483648<b/\b<2147483648)(hd : -2147483648<d/\d<2147483648):4294967296*a+b<4294967296*c+d↔a<c\/(a=c/\b<d):=⟨fun h=>by exact bC [] [_,_,_,_] 0x10e5294001840600c200006000000000800000000820314a528003080a01840600c203806000000000800000000800294001840000c2010000 (Y7 (Y4 V0 V1) (Y6 (Y5 V0 V1) (Y4 V2 V3))) (Y4 (Y3 (.l 2147483648) J0) V2) (Y4 V3 (.l 2147483648)) (Y4 (Y0 (Y1 (.l 4294967296) V0) V2) (Y0 (Y1 (.l 4294967296) V1) V3)) hb.1 hd.2 h,fun h=>by exact bC [] [_,_,_,_] 0x490a52800308060180000000020000000020006100400014a528003080201840200c201806000000000800000000800 (Y4 (Y0 (Y1 (.l 4294967296) V0) V1) (Y0 (Y1 (.l 4294967296) V2) V3)) (Y4 V1 (.l 2147483648)) (Y4 (Y3 (.l 2147483648) J0) V3) (Y7 (Y4 V0 V2) (Y6 (Y5 V0 V2) (Y4 V1 V3))) hb.2 hd.1 h⟩
def CO{c:Int}(hb : -2147483648<b/\b<2147483648)(hd : -2147483648<d/\d<2147483648)(h:4294967296*a+b=4294967296*c+d):a=c/\b=d:=by
 have e:a=c:=by exact z6 [] [_,_,_,_] 0x18a5294001840200c20280610180300000000040000000040014a5280030806018404010203006000000000800000000800 (Y5 V0 V1) (Y4 (Y3 (.l 2147483648) J0) V2) (Y4 V2 (.l 2147483648)) (Y4 (Y3 (.l 2147483648) J0) V3) (Y4 V3 (.l 2147483648)) (Y5 (Y0 (Y1 (.l 4294967296) V0) V2) (Y0 (Y1 (.l 4294967296) V1) V3)) hb.1 hb.2 hd.1 hd.2 h
 exact⟨e,by exact aA [] [_,_,_,_] 0x18a52800308040200000000020000000021806100005294002040200c0000000010000000010c0308000 (Y5 V0 V1) (Y5 (Y0 (Y1 (.l 4294967296) V2) V0) (Y0 (Y1 (.l 4294967296) V3) V1)) (Y5 V2 V3) h e⟩
def i8(h:b.natAbs<2147483648) : -2147483648<b/\b<2147483648:=by exact aA [_] [_] 0x1924294001840300c2008000214a50006101403080602040000009214a50006101403080602040000004294001840300c2008000 (Y6 (Y4 (Y3 (.l 2147483648) J0) V0) (Y4 V0 (.l 2147483648))) (Y1 V0 (.l 2147483648)) (Y7 (Y6 (Y5 (Y4 V0 J0) V0) (Y3 J0 V0)) (Y6 (Y5 (Y4 V0 J0) (Y3 V0 J0)) (Y3 V0 J0))) h (Ar.na _)
def IQ{c e f:Int}(h1:a<c\/(a=c/\b<=d))(h2:c<e\/(c=e/\d<=f)):a<e\/(a=e/\b<=f):=by exact aA [] [_,_,_,_,_,_] kav (Y7 (Y4 V0 V1) (Y6 (Y5 V0 V1) (Y3 V2 V3))) (Y7 (Y4 V0 V4) (Y6 (Y5 V0 V4) (Y3 V2 V5))) (Y7 (Y4 V4 V1) (Y6 (Y5 V4 V1) (Y3 V5 V3))) h1 h2
def Fx{c:Int}(h1:a<c\/(a=c/\b<=d))(h2:c<a\/(c=a/\d<=b)):a=c/\b=d:=by
 have e:a=c:=by exact aA [] [_,_,_,_] 0x6410a50006100c0308000000a5000610040308000490a50006100c0308000000a5000610040308000 (Y5 V0 V1) (Y7 (Y4 V0 V1) (Y6 (Y5 V0 V1) (Y3 V2 V3))) (Y7 (Y4 V1 V0) (Y6 (Y5 V1 V0) (Y3 V3 V2))) h1 h2
 exact⟨e,by exact bC [] [_,_,_,_] 0x6410a50006100c0308020000a5000810140308000490a50006100c0308020000a5000610140308000 (Y5 V0 V1) (Y7 (Y4 V2 V3) (Y6 (Y5 V2 V3) (Y3 V0 V1))) (Y7 (Y4 V3 V2) (Y6 (Y5 V3 V2) (Y3 V1 V0))) (Y5 V2 V3) h1 h2 e⟩
def HK(a b c d:Int):(a<c\/(a=c/\b<=d))\/(c<a\/(c=a/\d<=b)):=by exact ew [] [_,_,_,_] kaw (Y7 (Y7 (Y4 V0 V1) (Y6 (Y5 V0 V1) (Y3 V2 V3))) (Y7 (Y4 V1 V0) (Y6 (Y5 V1 V0) (Y3 V3 V2))))
theorem rD:iS x y=true↔x.1<y.1\/(x.1=y.1/\x.2<=y.2):=by simp[iS]
def mr(h1:x.1<y.1\/(x.1=y.1/\x.2<=y.2))(h2:y.1<x.1\/(y.1=x.1/\y.2<=x.2)):x=y:=Prod.ext (Fx h1 h2).1 (Fx h1 h2).2
def Jl{z:Int×Int}(h1:x.1<y.1\/(x.1=y.1/\x.2<=y.2))(h2:y.1<z.1\/(y.1=z.1/\y.2<=z.2)):x.1<z.1\/(x.1=z.1/\x.2<=z.2):=IQ h1 h2
def Jw(x y:Int×Int):(iS x y||iS y x)=true:=nD.mpr ((HK x.1 x.2 y.1 y.2).imp rD.mpr rD.mpr)
noncomputable def qc(l:List (Int×Int))(i:Nat):Int:=4294967296*(l.getD i (0,0)).1+(l.getD i (0,0)).2
theorem ag.maps:∀{is:List Nat},(∀i∈is,ar c φ h (f i) (g i))->ag c φ h (is.map f) (is.map g)
 |[],_=>rfl
 |i::r,hh=>⟨hh i aL,ag.maps fun j hj=>hh j (a9 _ hj)⟩
def Fy{v:Value}(R:ar c φ h (lQ p) v):bq h v p.1 p.2:=by
 obtain⟨x,o,ws,n,hr,_,ho,hc,hd,_,hR⟩:=R;refine hR.two _ fun r r' e eN1 eN2=>?_;obtain⟨t,rfl⟩:=eN1;obtain⟨u,rfl⟩:=eN2;refine⟨x,o,t,u,n,hr,ho,hc,?_⟩;rw[hd];congr 1;exact Array.toList_inj.mp e
def bq.mono{v:Value}(hk:∀b o,h.get? b=some o->h'.get? b=some o)(p:bq h v a b):bq h' v a b:=
 let⟨x,o,t,u,n,h1,h2,h3,h4⟩:=p;⟨x,o,t,u,n,h1,hk _ _ h2,h3,h4⟩
theorem DY(hk:∀b o,h.get? b=some o->h'.get? b=some o):∀{l:List (Int×Int)}{vs:List Value},ag c φ h (l.map lQ) vs->ip h' vs l
 |[],vs,R=>by rw[R.nil_inv];trivial
 |p::l,vs,R=>by
  rw[er] at R;refine R.uncons _ fun r rs wk h1 h2=>?_;subst wk;exact⟨(Fy h1).mono hk,DY hk h2⟩
theorem GW{a:Addr}(R:ag c φ s.heap (l.map lQ) vs)(hl:s.heap.IsList a vs.toArray)(hok:yO l=true) (h:∀h' c' out,(∀b o,s.heap.get? b=some o->h'.get? b=some o)->h'.get? (s.heap.objs.size+1)=some (seqObj "list" (List.toArray out) c')->ag c φ s.heap ((l.mergeSort iS).map lQ) out->Q (.ref (s.heap.objs.size+1)) { s with heap:=h' }) :
  wpAny (model c.prog c.w) A (call (.builtin "sorted") [.ref a]) Q E s:=by
 have wq:vs.length=l.length:=by rw[R.length,aG]
 simp only[yO,Bool.and_eq_true,decide_eq_true_eq,dQ] at hok;obtain⟨⟨h64,hnd⟩,hsm⟩:=hok;have gl:∀{i:Nat},i<l.length->l[i]?=some (l.getD i (0,0)):=fun{i} hi=>by simp[ck,hi]
 have gm:∀{i:Nat},i<l.length->l.getD i (0,0)∈l:=fun{i} hi=>cD (gl hi);have at':∀{i:Nat},i<l.length->ar c φ s.heap (lQ (l.getD i (0,0))) (vs.getD i dI):=by
  intro i hi;refine(R.get (i:=i) (v:=lQ (l.getD i (0,0))) (by rw[bL,gl hi];rfl)) _ fun r h1 h2=>?_;have e:vs.getD i dI=r:=by rw[ck,h1];rfl
  rw[e];exact h2
 have ob:∀{i:Nat},i<l.length->bq s.heap (vs.getD i dI) (l.getD i (0,0)).1 (l.getD i (0,0)).2:=fun{i} hi=>Fy (at' hi);have key:∀i j,i<l.length->j<l.length->qc l i=qc l j->i=j:=by
  intro i j hi hj e;have e0:=CO (i8 (hsm _ (gm hi)).2) (i8 (hsm _ (gm hj)).2) e;have e3:l.getD i (0,0)=l.getD j (0,0):=Prod.ext e0.1 e0.2;have e4:l[i]=l[j]:=by simpa[ck,hi,hj] using e3
  exact(List.getElem_inj hnd).mp e4
 have lex:∀i j,i<l.length->j<l.length->(decide ((l.getD i (0,0)).1<(l.getD j (0,0)).1)||(decide ((l.getD i (0,0)).1=(l.getD j (0,0)).1)&&decide ((l.getD i (0,0)).2<(l.getD j (0,0)).2)))=uX (qc l) i j:=by
  intro i j hi hj;rw[Bool.eq_iff_iff,uX,decide_eq_true_eq];simp only[Bool.or_eq_true,Bool.and_eq_true,decide_eq_true_eq];exact(xl (i8 (hsm _ (gm hi)).2) (i8 (hsm _ (gm hj)).2)).symm
 refine Ji (κ:=tuples' true) (key:=qc l) hl (by exact aA [_,_] [] kab (Y1 V0 (.l 64)) (Y2 V0 V1) (Y1 V1 (.l 64)) wq h64) (by rw[wq];exact key) (fun h2 h' hk=>⟨fun Q E hq=>qr (ps:=l) ?_ (by exact aA [_,_] [] kab (Y1 J0 V0) (Y2 V1 V0) (Y0 J2 V1) wq h2) hq,fun i j hi hj Q E hq=>?_⟩) fun h' c' p hk hg s1 s2=>?_
 ·exact DY hk R
 ·rw[wq] at hi hj;exact qw (bq.mono hk (ob hi)) (bq.mono hk (ob hj)) (by rw[lex i j hi hj];exact hq)
 ·rw[wq] at s1 s2;have hlt:∀i∈p.toList,i<l.length:=fun i hi=>by simpa using s1.mem_iff.mp hi
  have hsort:l.mergeSort iS=p.toList.map fun i=>l.getD i (0,0):=by
   refine Dz (R:=fun a b=>iS a b=true) ?_ ?_ ?_ ?_
   ·intro x y h1 h2;exact mr (rD.mp h1) (rD.mp h2)
   ·have e0:(List.range l.length).map (fun i=>l.getD i (0,0))=l:=by
     apply List.ext_getElem?;intro i;rw[bL];by_cases hi:i<l.length
     ·rw[mO hi,gl hi];rfl
     ·rw[iP (by simpa using hi),iP (by simpa using hi)];rfl
    have:=(List.Perm.map (fun i=>l.getD i (0,0)) s1).symm;rw[e0] at this;exact(List.mergeSort_perm l iS).trans this
   ·refine List.pairwise_mergeSort ?_ ?_ l
    ·exact fun a b c h1 h2=>rD.mpr (Jl (rD.mp h1) (rD.mp h2))
    ·exact Jw
   ·rw[List.pairwise_map,List.pairwise_iff_getElem];intro i j hi hj hij;have hsz:=s1.size;have:=s2 i j hij (by simpa[hsz] using hj);have ei:bh p i=p.toList[i]:=by rw[ji,<-sL,bp hi];rfl
    have ej:bh p j=p.toList[j]:=by rw[ji,<-sL,bp hj];rfl
    rw[ei,ej] at this;exact rD.mpr (((xl (i8 (hsm _ (gm (hlt _ (List.getElem_mem hi)))).2) (i8 (hsm _ (gm (hlt _ (List.getElem_mem hj)))).2)).mp this).imp id fun h=>⟨h.1,Int.le_of_lt h.2⟩)
  refine h h' c' _ hk hg ?_;rw[hsort,ib];exact ag.maps fun i hi=>at' (hlt i hi)
end
end
variable {b':Bool}{d:Nat}{f:Value}{g:Comprehension}{l:Expr}{p:V×Hp}{ps:Array Value}{vs:List V}{x:V}{y:Str}
section
open PySem PyProof.Rows
set_option maxRecDepth 100000
set_option backward.match.sparseCases true in
theorem JW{Q:List Value->Shared->Prop}{r:Addr}{v:Tok}(hh:A.handled=none)(hr:IsRange s.heap r a b c t u v)(hsmall:yU a b c=true) (hn:xP a b c=n) (wq:n<=2^24) (hQ:∀h' tk acc,(∀b o,s.heap.get? b=some o->h'.get? b=some o)->ItemsOf (fun i v=>∃t,v=.int (a+i*c) t) acc n->Q acc.toList { s with heap:=h',toks:=tk }) :
  wpAny (model prog w) A (collect (.ref r)) Q E s:=by
 unfold collect;refine ai (wpAny_runValue (codeAny_builtin F.entry_proto_collect ?_));rw[Around.under_plainId F.plain_proto_collect _];show wpAny _ A.in1 (newList [] >>=fun l=>again (.builtin "list.__iadd__" ⟨[l,.ref r],[]⟩)) _ _ s;refine ai (nC ?_);refine aC ⟨plainId_quiet F.plain_list_iadd _,codeAny_builtin F.entry_list_iadd ?_⟩;rw[Around.under_plainId F.plain_list_iadd _];show wpAny _ A.in1 (Builtin.List.listExtendWith (.ref s.heap.objs.size) (.ref r) (.ref s.heap.objs.size)) _ _ _;have hS:(s.heap.push { cls:=.type "list",data:=.seq ([]:List Value).toArray }).get? s.heap.objs.size=some { cls:=.type "list",data:=.seq #[] 0 }:=dw _ rfl;have fin:∀h' tk acc c',(∀b o,b≠s.heap.objs.size->(s.heap.push { cls:=.type "list",data:=.seq ([]:List Value).toArray }).get? b=some o->h'.get? b=some o)->h'.get? s.heap.objs.size=some { cls:=.type "list",dict:=none,data:=.seq acc c',slots:=#[] }->
   ItemsOf (fun i v=>∃t,v=.int (a+i*c) t) acc n->wpAny (model prog w) A (do match(<- load s.heap.objs.size).data with |Data.seq xs _=>pure xs.toList |_=>unsupported "internal:collect") Q E { s with heap:=h',toks:=tk }:=fun h' tk acc c' hk hS' hacc=>by
  refine ai (wpAny_load hS' ?_);exact aC (hQ h' tk acc (fun b o hb=>hk b o (cj (f9 hb)) (bV _ hb)) hacc)
 refine a8 (wpAny_extend_range (R:=fun r s'=>r=.ok (.ret (.ref s.heap.objs.size))/\wpAny (model prog w) A (do match(<- load s.heap.objs.size).data with |Data.seq xs _=>pure xs.toList |_=>unsupported "internal:collect") Q E s')
  (s:={ s with heap:=s.heap.push { cls:=.type "list",data:=.seq ([]:List Value).toArray } }) hh (bV _ hr) hsmall hn wq s.heap.objs.size (.ref s.heap.objs.size) 0 hS fun h' tk acc' c' hk hS' hacc=>⟨rfl,fin h' tk acc' c' hk hS' hacc⟩) (fun fin s' h=>?_) (fun e s' h=>?_)
 ·cases fin with
  |done f=>
   obtain⟨e,h⟩:=h;cases e;exact h
  |again c'=>
   refine⟨h.1,sJ h.2 fun r s'' hr=>?_⟩;obtain⟨rfl,h⟩:=hr;exact h
 ·exact nomatch h.1
theorem IV{r:Addr}{v:Tok}(hsmall:yU a b c=true)(hn:xP a b c=n)(wq:n<=2^24) :
  Meets (Builtin.«tuple.__new__» ⟨[.type "tuple",.ref r],[]⟩)
   (fun A R s=>A.handled=none/\IsRange s.heap r a b c t u v/\∀(h':Heap) (tk:Nat) (acc:Array Value),(∀b o,s.heap.get? b=some o->h'.get? b=some o)->ItemsOf (fun i v=>∃t,v=.int (a+i*c) t) acc n->
    R (.ok (.ret (.ref h'.objs.size))) { s with heap:=h'.push { cls:=.type "tuple",data:=.seq acc },toks:=tk }):=
 .of_wp fun prog w A R s h=>by
  obtain⟨hh,hr,h⟩:=h;have hsub:=sub_tuple_self;have hinit:=init_tuple_lookup;have hmh:=madeHere_tuple;have hT:s.TypeIs (.ref r) "range":=⟨_,hr,rfl⟩;have hh1:A.in1.handled=none:=hh;wp_walk using wpAny_typeOf hT,JW hh1 hr hsmall hn wq
  intro h' tk acc hk hacc
  show wpAny _ _ (Builtin.Tuple.tupleExact acc.toList.toArray >>=fun v=>ret v) _ _ _
  unfold Builtin.Tuple.tupleExact
  refine ai (nC ?_ (show acc.toList.toArray.size<=qag by simp only[Array.toArray_toList];rw[hacc.1];exact wq))
  refine aC ⟨_,rfl,?_⟩
  have e:acc.toList.toArray=acc:=by simp
  rw[e]
  exact h h' tk acc hk hacc
def IL{r:Addr}{v:Tok}(hh:A.handled=none)(hr:IsRange s.heap r a b c t u v)(hsmall:yU a b c=true)
  (hn:xP a b c=n) (wq:n<=2^24)
  (h:∀(h':Heap) (tk:Nat) (acc:Array Value),(∀b o,s.heap.get? b=some o->h'.get? b=some o)->ItemsOf (fun i v=>∃t,v=.int (a+i*c) t) acc n->Q (.ref h'.objs.size) { s with heap:=h'.push { cls:=.type "tuple",data:=.seq acc },toks:=tk }) :
  wpAny (model prog w) A (call (.type "tuple") [.ref r]) Q E s:=by
 refine callType_new F.called_tuple (by decide) (F.typeCall_tuple_1 _) (F.newCall_tuple_1 _) (fun obj=>F.args_object_init_2 obj _) F.entry_tuple_new
  (IV hsmall hn wq) ⟨hh,hr,fun h' tk acc hk hacc=>⟨⟨_,dw _ rfl,rfl⟩,?_⟩⟩
 exact h h' tk acc hk hacc
section
variable {c:Cx}
def aE.kept{v:V}{t:Nat}(S:ak c φ H s)(hk:∀b o,s.heap.get? b=some o->h'.get? b=some o)(R:ar c φ s.heap v r):aE c φ s (fun x H'=>x=v/\H'=H) r { s with heap:=h',toks:=t }:=by
 have e:au [] φ s φ { s with heap:=h',toks:=t }:=au.of_keeps (s':={ s with heap:=h',toks:=t }) hk rfl;exact⟨φ,H,v,e,S.keeps (s':={ s with heap:=h',toks:=t }) hk rfl,ar.mono e.toKp ax.nil R,rfl,rfl⟩
theorem AJ(S:ak c φ H s){a:Addr}{vs:Array Value}{t:Nat}(hk:∀b o,s.heap.get? b=some o->h'.get? b=some o)(ha:s.heap.get? a=none)(hn:h'.get? a=some (dR vs n))(hr:ag c φ s.heap xs vs.toList)(hz:xs.length<=qag) :
  aE c φ s (fun x H'=>x=.lst H.length/\H'=H++[xs]) (.ref a) { s with heap:=h',toks:=t }:=by
 have e:au [] φ s φ { s with heap:=h',toks:=t }:=au.of_keeps (s':={ s with heap:=h',toks:=t }) hk rfl
 have S':ak c φ H { s with heap:=h',toks:=t }:=S.keeps (s':={ s with heap:=h',toks:=t }) hk rfl
 have haφ:a∉φ:=fun hm=>by obtain⟨o,ho,_⟩:=S.isList hm;exact cq (ha.symm.trans ho)
 have h0:c.h0.get? a=none:=by
  refine xC (c.h0.get? a) (fun hq=>?_) fun o hq=>?_
  ·rfl
  ·have:=S.stays a o hq;exact cq (ha.symm.trans this)
 refine⟨φ++[a],H++[xs],.lst H.length,?_,S'.adopt (o:=dR vs n) haφ h0 hn rfl rfl ⟨rfl,rfl⟩ (ag.mono e.toKp ax.nil hr) hz,?_,rfl,rfl⟩
 ·exact{ e with
   pre:=List.prefix_append _ _
   new:=fun b hb=>(cE.mp hb).elim .inl fun h=>.inr (by rw[aV.mp h];exact ha) }
 ·exact d7.mk a rfl (by rw[iE (gk S.len)];simp[S.len])
noncomputable def Bl.real:Bl->Value
 |.len=>.builtin "len" |.max=>.builtin "max" |.range=>.type "range" |.list=>.type "list" |.all=>.builtin "all"
 |.tuple=>.type "tuple"
 |.sorted=>.builtin "sorted"
 |.int=>.type "int"
theorem A9(lo hi st:Int):(eA lo hi st).length=if 0<st/\lo<hi then((hi-lo-1)/st+1).toNat else 0:=by simp[eA]
theorem Ko(lo hi st:Int)(h:i<(eA lo hi st).length):(eA lo hi st)[i]?=some (.int (lo+i*st)):=by
 simp only[eA,bL] at h ⊢;rw[mO (by simpa using h)];rfl
def EH(hi':ItemsOf (fun i v=>∃t,v=.int (lo+i*st) t) acc (eA lo hi st).length):ag c φ h (eA lo hi st) acc.toList:=by
 refine ag.of_get (by rw[e9,hi'.1]) fun i v r h1 h2=>?_;have hlt:=(gG.mp h1).1;rw[Ko _ _ _ hlt] at h1;(injection h1 with Ja;subst Ja);obtain⟨t,rfl⟩:=hi'.2 i r (qO h2);exact rI
def Ax(lo hi st:Int)(h:0<st):xP lo hi st=((eA lo hi st).length:Nat):=by
 rw[A9];unfold xP;rw[if_pos h];by_cases hl:lo<hi
 ·rw[if_pos hl,if_pos ⟨h,hl⟩];have:0<=(hi-lo-1)/st:=Int.ediv_nonneg (by exact aw [] [_,_] kaa (Y3 J0 (Y2 (Y2 V0 V1) J1)) (Y4 V1 V0) hl) (by exact aw [] [_] kaa (Y3 J0 V0) (Y4 J0 V0) h);exact aA [_] [_] 0x6490a5000610140308000000a5000610040408000490a5000610140308000000a5000610040308000 (Y5 (Y0 V0 J1) (Y4 V0 J0)) (Y3 J0 V0) (Y7 (Y5 (Y4 V0 J0) (Y0 V0 J1)) (Y6 (Y3 (Y0 V0 J1) J0) (Y2 V0 J0))) this (Ar.tn _)
 ·rw[if_neg hl,if_neg (fun q=>hl q.2)];rfl
set_option tactic.hygienic true in
theorem BI(h:lo.natAbs<2^31/\hi.natAbs<2^31/\0<st/\st<2^31):yU lo hi st=true:=by
 have hsz:=Ax lo hi st h.2.2.1
 have hle:(eA lo hi st).length<=2^33:=by
  rw[A9]
  split
  ·rename_i hl
   have:(hi-lo-1)/st<=hi-lo-1:=Int.ediv_le_self _ (by exact aw [] [_,_] kaa (Y3 J0 (Y2 (Y2 V0 V1) J1)) (Y4 V1 V0) hl.2)
   exact CS [_,_,_] [_,_,_] 0xa214a000c201806100400031c4214a5294a000c203806102003081401840601020100610040200404214a5294a50006101c03081001840900c20500610180408040204000080103884294a528003080e01840a00c203006100c030802010020210a5294a50006101c03081201840a00c203006100c040800010020 (Y0 V0 (.l 8589934592)) (Y1 V1 (.l 2147483648)) (Y1 V2 (.l 2147483648)) (Y3 V0 (Y2 (Y2 V1 V2) J1)) (Y7 (Y5 (Y4 V0 J0) (Y0 V0 J1)) (Y6 (Y3 (Y0 V0 J1) J0) (Y2 V0 J0))) (Y7 (Y6 (Y5 (Y4 V1 J0) V2) (Y3 J0 V2)) (Y6 (Y5 (Y4 V1 J0) (Y3 V2 J0)) (Y3 V2 J0))) (Y7 (Y6 (Y5 (Y4 V2 J0) V1) (Y3 J0 V1)) (Y6 (Y5 (Y4 V2 J0) (Y3 V1 J0)) (Y3 V1 J0))) h.1 h.2.1 this (Ar.tn _) (Ar.na _) (Ar.na _)
  ·exact ew [] [] 171801870336 (Y0 J0 (.l 8589934592))
 unfold yU Builtin.Range.rangeFitsLong
 rw[hsz]
 simp only[Bool.and_eq_true,Bool.or_eq_true,decide_eq_true_eq,gt_iff_lt,h.2.2.1,if_true]
 refine⟨⟨⟨⟨?_,?_⟩,?_⟩,?_⟩,.inr ?_⟩<;>first |omega |(constructor<;>omega)
theorem JT(ll:List Bool):(List.range ll.length).all (fun i=>(ll[i]?).getD true)=ll.all id:=by
 rw[Bool.eq_iff_iff];simp only[dQ,eZ];constructor
 ·intro h x hx;obtain⟨i,hi,rfl⟩:=List.mem_iff_getElem.mp hx;have:=h i hi;rw[bp hi] at this;simpa using this
 ·intro h i hi;rw[bp hi];exact h _ (List.getElem_mem hi)
def gB(c:Cx)(A:Around)(φ:List Addr)(s:Shared)(b:Bl)(rs:List Value)(p:V×Hp):Prop:=fN c A φ s (call b.real rs) p.1 p.2
theorem sF(S:ak c φ H s)(R:ar c φ s.heap x r)(e:u6 H x=some p):gB c A φ s .len [r] p:=by
 intro E;have hsl:qag=2^24:=rfl;cases x with
 |lst i=>
  revert e;refine xM fun xs e1 wj=>?_;subst wj;refine(S.getP R e1) _ fun a ws n wk Z ho hr hz z=>?_;subst wk;rw[<- z];exact len_list (ja ho) (by exact iZ [_,_,_] [_] kah (Y4 (Y4 V0 J0) V0) (Y2 V1 (.l 16777216)) (Y0 V2 V1) (Y2 V0 V2) (Y5 V0 (.l 9223372036854775808)) hsl hz z (Ar.p63)) (aE.same S rI)
 |tup l=>
  obtain rfl:=ah e;obtain⟨a,o,ws,n,rfl,_,ho,hc,hd,hz,hr⟩:=R;have z:=hr.length;rw[e9] at z;rw[<- z];exact PyProof.Rows.len_tuple ⟨o,ho,hc,n,hd⟩ (by exact iZ [_,_,_] [_] kah (Y4 (Y4 V0 J0) V0) (Y2 V1 (.l 16777216)) (Y0 V2 V1) (Y2 V0 V2) (Y5 V0 (.l 9223372036854775808)) hsl hz z (Ar.p63)) (aE.same S rI)
 |scr l=>
  obtain rfl:=ah e;obtain⟨a,o,ws,n,rfl,_,_,ho,hc,hd,hz,hr⟩:=R;have z:=hr.length;rw[e9] at z;rw[<- z];exact len_list ⟨o,ho,hc,n,hd⟩ (by exact iZ [_,_,_] [_] kah (Y4 (Y4 V0 J0) V0) (Y2 V1 (.l 16777216)) (Y0 V2 V1) (Y2 V0 V2) (Y5 V0 (.l 9223372036854775808)) hsl hz z (Ar.p63)) (aE.same S rI)
 |str l=>
  revert e;refine xS fun hz wj=>?_;subst wj;obtain⟨t,rfl⟩:=R;exact P.len_str (by exact bC [_,_] [_] 0x4294a50006100803080602040400c2000000 (Y8 (Y3 V0 (Y4 V0 J0)) J0) (Y2 V1 (.l 16777216)) (Y0 V0 V1) (Y5 V0 (.l 9223372036854775808)) hsl hz (Ar.p63)) (aE.same S rI)
 |_=>injection e
def qM(h:IntsAre rs [a]):∃t,rs=[.int a t]:=by
 cases h with |cons _ t h=>cases h;exact⟨t,rfl⟩
def qQ(h:IntsAre rs [a,b]):∃t u,rs=[.int a t,.int b u]:=by
 cases h with |cons _ t h=>obtain⟨u,rfl⟩:=qM h;exact⟨t,u,rfl⟩
def yb{d:Int}(h:IntsAre rs [a,b,d]):∃t u v,rs=[.int a t,.int b u,.int d v]:=by
 cases h with |cons _ t h=>obtain⟨u,v,rfl⟩:=qQ h;exact⟨t,u,v,rfl⟩
def CX{p:Prop} [Decidable p]:ar c φ h (.int (if p then a else b)) (if p then .int a t else .int b u):=by
 by_cases q:p
 ·rw[if_pos q,if_pos q];exact rI
 ·rw[if_neg q,if_neg q];exact rI
theorem uf(hh:A.handled=none)(S:ak c φ H s)(R:ag c φ s.heap vs rs)(e:yx H vs=some p):gB c A φ s .max rs p:=by
 intro E;revert e;refine xB fun l h1 f=>?_;have hi:=zL R h1;cases LV.of l with
 |two a b=>
  obtain rfl:=ah f;obtain⟨t,u,rfl⟩:=qQ hi;exact max_two_ints hh fun h' tk hk=>aE.kept S hk CX
 |three a b d=>
  obtain rfl:=ah f;obtain⟨t,u,v,rfl⟩:=yb hi;refine max_three_ints hh fun h' tk hk=>aE.kept S hk ?_;by_cases h:a<b
  ·rw[if_pos h,if_pos (show b>a from h)];exact CX
  ·rw[if_neg h,if_neg (show ¬b>a from h)];exact CX
 |_=>injection f
theorem mJ(hpl:PySem.PylongRoom (model c.prog c.w) A s)(S:ak c φ H s)(R:ag c φ s.heap vs rs)(e:wo H vs=some p):gB c A φ s .range rs p:=by
 intro E;revert e;refine xB fun l h1 f=>?_;have hi:=zL R h1;cases LV.of l with
 |one n=>
  revert f;refine xS fun hz wj=>?_;subst wj;obtain⟨t,rfl⟩:=qM hi;exact call_range_1 ⟨φ,H,.rng 0 n 1,(au.push (o:={ cls:=.type "range",data:=.fields #[.int 0 s.toks,.int _ t,.int 1 (s.toks+1)] })).trans (au.of_heap rfl rfl),(S.push _).tok _,fF.mk _ _ _ _ rfl S.new (dw _ rfl) ⟨by decide,hz,by decide,by decide⟩,rfl,rfl⟩
 |_=>injection f
theorem oF(hh:A.handled=none)(S:ak c φ H s)(RR:ar c φ s.heap x r)(e:rP H x=some p):gB c A φ s .list [r] p:=by
 intro E;have hsl:qag=2^24:=rfl;cases x with
 |lst i=>
  revert e;refine xM fun xs e1 wj=>?_;subst wj;refine(S.getP RR e1) _ fun a ws n wk Z ho hr hz z=>?_;subst wk;refine call_list_seq a (.inl rfl) ho rfl rfl (fun h' c' hk hn=>?_) (by exact aA [_,_,_] [] kab (Y0 V0 V1) (Y0 V2 V1) (Y2 V0 V2) hz z);exact AJ (t:=s.toks) S hk (fz (aN _)) hn hr hz
 |rng lo hi st=>
  revert e;refine xS fun hz wj=>?_;subst wj;obtain⟨a,t,u,v,rfl,_,hr,hb⟩:=RR;exact call_list_range hh hr (BI hb) (Ax lo hi st hb.2.2.1) hz fun h' tk acc' c' hk hn hi'=>AJ S hk (fz (aN _)) hn (EH hi') hz
 |_=>injection e
theorem lq(hh:A.handled=none)(S:ak c φ H s)(RR:ar c φ s.heap x r)(e:m6 H x=some p):gB c A φ s .tuple [r] p:=by
 intro E;have hsl:qag=2^24:=rfl;cases x with
 |lst i=>
  revert e;refine xM fun xs e1 wj=>?_;subst wj;refine(S.getP RR e1) _ fun a ws n wk Z ho hr hz z=>?_;subst wk;refine call_tuple_list (ja ho) (fun h' hk=>?_) (by exact aA [_,_,_] [] kab (Y0 V0 V1) (Y0 V2 V1) (Y2 V0 V2) hz z);have e1:au [] φ s φ { s with heap:=h' }:=au.of_keeps (s':={ s with heap:=h' }) hk rfl;exact aE.lift e1 (Dh (S.keeps (s':={ s with heap:=h' }) hk rfl) (ag.mono e1.toKp ax.nil hr) hz)
 |rng lo hi st=>
  revert e;refine xS fun hz wj=>?_;subst wj;obtain⟨a,t,u,v,rfl,_,hr,hb⟩:=RR;refine IL hh hr (BI hb) (Ax lo hi st hb.2.2.1) (by exact aw [_] [] kaa (Y0 V0 (.l 16777216)) (Y0 V0 (.l 1000)) hz) fun h' tk acc hk hi'=>?_;have e1:au [] φ s φ { s with heap:=h',toks:=tk }:=au.of_keeps (s':={ s with heap:=h',toks:=tk }) hk rfl;exact aE.lift e1 (Dh (S.keeps (s':={ s with heap:=h',toks:=tk }) hk rfl) (EH hi') (by exact aA [_,_] [] kan (Y0 V0 V1) (Y2 V1 (.l 16777216)) (Y0 V0 (.l 1000)) hsl hz))
 |_=>injection e
theorem tw(hh:A.handled=none)(S:ak c φ H s){ll:List Bool}(RR:ar c φ s.heap (.lst i) r)(e2:H[i]?=some xs)(e3:gu xs=some ll):gB c A φ s .all [r] (.bool (ll.all id),H):=by
 intro E;refine(S.getP RR e2) _ fun a ws n wk Z ho hr hz z=>?_;subst wk;have hL:=ja ho;have hi:=zZ hr e3;have hlt:a<s.heap.objs.size:=f9 ho;refine call_all_walk (wpAny_pyIter_list hL ?_);refine⟨s.heap.objs.size,[s.heap.objs.size,a],[s.heap.objs.size],ws.size,_,_,fun i=>(ll[i]?).getD true,rfl,Walks.list (A:=A.in1) hh _ a (cj hlt) ws,
  ⟨⟨_,dw _ rfl,rfl,rfl⟩,hL.push _⟩,?_,?_⟩
 ·intro i v s' Q E' hv hQ;have h1:ws.toList[i]?=some v:=by rw[sL];exact hv
  rw[hi,bL] at h1;revert h1;refine xM fun bb h2 wj=>?_;subst wj;dsimp only at hQ;rw[h2] at hQ;exact uF hQ
 ·intro h' tk hk;have wq:ws.size=ll.length:=by rw[<- e9,hi];simp
  have:(List.range ws.size).all (fun i=>(ll[i]?).getD true)=ll.all id:=by rw[wq,JT]
  rw[this];refine aE.kept S (fun b o hb=>hk b o ?_ (bV _ hb)) rB;simp only[aV];exact cj (f9 hb)
def Gy(S:ak c φ H s)(RR:ar c φ s.heap (.lst i) r)(e2:H[i]?=some xs)(e3:vK xs=some ll)(hok:yO ll=true):gB c A φ s .sorted [r] (.lst H.length,H++[(ll.mergeSort iS).map lQ]):=by
 intro E;refine(S.getP RR e2) _ fun a ws n wk Z ho hr hz z=>?_;subst wk;obtain rfl:=Ec e3;refine GW (vs:=ws.toList) hr (by rw[Array.toArray_toList];exact ja ho) hok fun h' c' out hk hn hR=>?_;exact AJ (t:=s.toks) S hk (fz (Nat.le_succ _)) hn hR (by rw[aG,List.length_mergeSort];rw[aG] at hz;exact hz)
theorem sk (O:c.Ok) (hA:bR c A true d φ s.heap) (S:ak c φ H s) {b:Bl} (R:ag c φ s.heap vs rs) (e:bF H b vs=some p):eT c A φ s (call b.real rs) p:=by
 have hh:=hA.hd rfl;cases b with
 |len=>
  obtain⟨x,rfl,f⟩:=nG e;refine R.one _ fun r wk RR=>?_;subst wk;exact sF S RR f
 |max=>exact uf hh S R e
 |range=>exact mJ (PySem.PylongRoom.of (S.lim O) (by have:=hA.dep;show _+100<1000;exact aw [_,_] [] kaa (Y1 (Y0 V0 (.l 100)) (.l 1000)) (Y0 (Y0 V0 V1) (.l 890)) this) (hA.seer O S)) S R e
 |list=>
  obtain⟨x,rfl,f⟩:=nG e;refine R.one _ fun r wk RR=>?_;subst wk;exact oF hh S RR f
 |tuple=>
  obtain⟨x,rfl,f⟩:=nG e;refine R.one _ fun r wk RR=>?_;subst wk;exact lq hh S RR f
 |all=>
  obtain⟨x,rfl,f⟩:=nG e;refine R.one _ fun r wk RR=>?_;subst wk;obtain⟨a,xs,rfl,e2,g⟩:=uD f;revert g;refine xM fun l e3 wj=>?_;subst wj;exact tw hh S RR e2 e3
 |sorted=>
  obtain⟨x,rfl,f⟩:=nG e;refine R.one _ fun r wk RR=>?_;subst wk;obtain⟨a,xs,rfl,e2,g⟩:=uD f;revert g;refine xB fun l e3 k=>?_;revert k;refine xS fun hs wj=>?_;subst wj;exact Gy S RR e2 e3 hs
 |int=>
  obtain⟨x,rfl,f⟩:=nG e;refine R.one _ fun r wk RR=>?_;subst wk;revert f;refine xM fun b hb wj=>?_;subst wj;obtain rfl:=n8 hb;obtain rfl:=RR;exact fun E=>call_int_bool (aE.same S rI)
end
end
variable {a b x:Ex}{acc:List (Str×Addr)}{c:Cx}{hi lo:Option Expr}{p:Pos}{t:Bool}{u:V×Hp}{vs:List Value}{xs:List Ex}
section
open PySem PyProof.Rows
noncomputable def dA:Expr->Bool
 |.Starred ..=>false
 |_=>true
def qP(h:dA e=true):eL (e::es) wz=(false,eval e wz)::eL es wz:=by
 cases e<;>first |rfl |injection h
def A6(c:Cx)(φ:List Addr)(s:Shared)(Q:List V->Hp->Prop)(rs:List Value)(s':Shared):Prop:=∀GJ:Prop,(∀(φ':List Addr),∀(H':Hp),∀(vs:List V),au [] φ s φ' s'->ak c φ' H' s'->ag c φ' s'.heap vs rs->Q vs H'->GJ)->GJ
def gD(c:Cx)(wz:Env)(wu:Res)(es:List Expr)(xs:List Ex):Prop:=
 (es.all dA=true/\es.length=xs.length)/\∀A q d k loc φ H s Q E pos,bR c A q d φ s.heap->aq c wz wu k loc φ s.heap->ak c φ H s->dC (Calls c) q d k xs loc Q E H->
  wpAny (model c.prog c.w) A (spliced (backTo pos (eL es wz))) (A6 c φ s fun vs H=>vs.length=xs.length/\Q vs H) (ay c φ s E) s
def BC:gD c wz wu [] []:=⟨⟨rfl,rfl⟩,fun A q d k loc φ H s Q E pos hA hF hS hw=>by
 exact aC (fun Z kJ=>kJ φ H [] au.refl hS rL ⟨rfl,hw⟩)⟩
theorem wO (hn:dA e=true) (h:aQ c wz wu e x) (hs:gD c wz wu es xs):gD c wz wu (e::es) (x::xs):=
 ⟨⟨by simp[hn,hs.1.1],by simp[hs.1.2]⟩,fun A q d k loc φ H s Q E pos hA hF hS hw=>by
 rw[qP hn];show wpAny _ _ (spliced ((false,eval e wz)::backTo pos (eL es wz))) _ _ _;refine Calls.spliced_cons (wm (h A q d k loc φ H s _ E hA hF hS hw) ?_);rintro r s₁ ⟨φ₁,H₁,v₁,e₁,S₁,R₁,w₁⟩;refine a8 (hs.2 A q d k loc φ₁ H₁ s₁ _ E pos (hA.mono e₁) (hF.mono e₁) S₁ w₁) ?_ fun Z Z h=>ay.lift e₁ S₁ h;rintro rs s₂ w0;refine w0 _ fun φ₂ H₂ vs e₂ S₂ R₂ eN1=>?_;clear w0;obtain⟨l₂,w₂⟩:=eN1;exact(fun Z kJ=>kJ φ₂ H₂ (v₁::vs) (e₁.trans e₂) S₂ ⟨ar.mono e₂.toKp ax.nil R₁,R₂⟩ ⟨congrArg (· + 1) l₂,w₂⟩)⟩
def Hz {i:Int}:aQ c wz wu (.Constant (.int i) n pos) (.lit (.int i)):=fun A q d k loc φ H s Q E hA hF hS hw=>by
 exact wpAny_Constant_int (aE.at hS rI hw)
def HJ{i:Str}:aQ c wz wu (.Constant (.str i) n pos) (.lit (.str i)):=fun A q d k loc φ H s Q E hA hF hS hw=>by
 exact Calls.Constant_str (aE.at hS rS hw)
def Ii{i:Bool}:aQ c wz wu (.Constant (.bool i) n pos) (.lit (.bool i)):=fun A q d k loc φ H s Q E hA hF hS hw=>by
 exact aC (aE.at' hS rB hw)
def Je:aQ c wz wu (.Constant .none n pos) (.lit .none):=fun A q d k loc φ H s Q E hA hF hS hw=>by
 exact aC (aE.at' hS rN hw)
theorem E2{x:Str}(hx:wu.lookup x=some i)(hd:(x==("__debug__":Str))=false)(hcd:(x==("__classdict__":Str))=false):aQ c wz wu (.Name x pos) (.var i):=fun A q d k loc φ H s Q E hA hF hS hw=>by
 revert hw;refine xI fun v hv hw=>?_;obtain⟨m,hn,h1,h2⟩:=hF.ns;have h3:=h1 x i hx;refine wpAny_Name ?_ hd;rw[hv] at h3;unfold iU at h3;refine xC (wz.kindOf x) (fun hk=>?_) fun kd hk=>?_
 ·rw[hk] at h3;exact h3.elim
 ·rw[hk] at h3;cases kd with
  | «local»=>
   obtain⟨_,r,h4,h5⟩:=h3;exact xE hF.fn hk hn.ns h4 (aE.at' hS h5 hw)
  |cell=>
   obtain⟨_,ca,r,h4,h5,h6⟩:=h3;exact wpAny_loadName_cell hF.fn hk h4 h5 (aE.at' hS h6 hw)
  |free=>
   obtain⟨_,ca,r,h4,h5,h6⟩:=h3;exact wpAny_loadName_free hF.fn hk h4 h5 (aE.at' hS h6 hw) hcd
  |_=>exact h3.elim
def HR{x:Str}{v:V}(O:c.Ok)(hx:wz.kindOf x=some .globalImplicit)(hg:c.g x=some r)(hr:ar c [] c.h0 v r)(hd:(x==("__debug__":Str))=false):aQ c wz wu (.Name x pos) (.lit v):=fun A q d k loc φ H s Q E hA hF hS hw=>by
 refine Calls.Name_function_global hF.fn hx (Calls.loadGlobal_global (by rw[hF.gl];exact O.gl.keeps hS.stays) hg ?_) hd;refine aE.at' hS ?_ hw;exact ar.mono (X:=[]) ⟨List.nil_prefix,fun b o h Z Z Z=>hS.stays b o h,fun a ha=>.inr (hS.fresh a ha),fun b o es n h Z hd=>⟨o,es,n,hS.stays b o h,hd,.rfl⟩,fun b o vs Z h Z Z hd=>⟨vs,by rw[<- hd];exact hS.stays b o h⟩⟩ ax.nil hr
def JK(h:gD c wz wu es xs)(hz:xs.length<=1000):aQ c wz wu (.Tuple es n pos) (.tup xs):=fun A q d k loc φ H s Q E hA hF hS hw=>by
 refine Tuple_ (wm (h.2 A q d k loc φ H s _ E pos hA hF hS hw) ?_);rintro rs s₁ w0;refine w0 _ fun φ₁ H₁ vs e₁ S₁ R₁ eN1=>?_;clear w0;obtain⟨l₁,w₁⟩:=eN1;have hz':vs.length<=qag:=by rw[l₁];exact aB hz (by decide)
 exact nC (aE.lift e₁ ((Dh S₁ R₁ hz').eq w₁)) (by show rs.toArray.size<=qag;rw[List.size_toArray,R₁.length];exact hz')
def JX(h:gD c wz wu es xs)(hz:xs.length<=1000):aQ c wz wu (.List es pos) (.list xs):=fun A q d k loc φ H s Q E hA hF hS hw=>by
 refine List_ (wm (h.2 A q d k loc φ H s _ E pos hA hF hS hw) ?_);rintro rs s₁ w0;refine w0 _ fun φ₁ H₁ vs e₁ S₁ R₁ eN1=>?_;clear w0;obtain⟨l₁,w₁⟩:=eN1;have hz':vs.length<=qag:=by rw[l₁];exact aB hz (by decide)
 exact nC (aE.lift e₁ ((D5 S₁ R₁ hz').eq w₁)) (by show rs.toArray.size<=qag;rw[List.size_toArray,R₁.length];exact hz')
def G2(h1:aQ c wz wu l a):aQ c wz wu (.UnaryOp .USub l pos) (.neg a):=fun A q d k loc φ H s Q E hA hF hS hw=>by
 refine wpAny_UnaryOp (wm (h1 A q d k loc φ H s _ E hA hF hS hw) ?_);rintro x s₁ ⟨φ₁,H₁,v₁,e₁,S₁,R₁,w₁⟩;revert w₁;refine xI fun i hi w₁=>?_;obtain rfl:=pH hi;obtain⟨t,rfl⟩:=R₁;exact PyProof.Rows.neg_int (aE.lift e₁ (aE.at S₁ rI w₁))
def J6(h1:aQ c wz wu l a):aQ c wz wu (.UnaryOp .Not l pos) (.not a):=fun A q d k loc φ H s Q E hA hF hS hw=>by
 refine wpAny_UnaryOp (wm (h1 A q d k loc φ H s _ E hA hF hS hw) ?_);rintro x s₁ ⟨φ₁,H₁,v₁,e₁,S₁,R₁,w₁⟩;revert w₁;refine xI fun b hb w₁=>?_;obtain rfl:=n8 hb;obtain rfl:=R₁;exact not_of (uF (aE.lift e₁ (aE.at' S₁ rB w₁)))
def j4(c:Cx)(wz:Env)(wu:Res):List Expr->List Ex->Prop
 |[],xs=>xs=[]
 |e::es,xs=>match xs with
  |[]=>False
  |x::xs=>aQ c wz wu e x/\j4 c wz wu es xs
inductive iC(c:Cx)(wz:Env)(wu:Res)(e:Expr)(es:List Expr)(xs:List Ex):Prop
 |mk (x:Ex)(xs':List Ex)(h:xs=x::xs')(h1:aQ c wz wu e x)(h2:j4 c wz wu es xs'):iC c wz wu e es xs
theorem j4.uncons(h:j4 c wz wu (e::es) xs):iC c wz wu e es xs:=by
 cases xs with
 |nil=>exact h.elim
 |cons x xs=>exact⟨x,xs,rfl,h.1,h.2⟩
def i4(C:CallT)(q:Bool)(d:Nat)(k:cZ)(t:Bool)(xs:List Ex)(l:Loc)(Q:Bool->Hp->Prop)(E:XPost)(H:Hp):Prop:=match t with
 |true=>vz C q d k xs l Q E H
 |false=>iW C q d k xs l Q E H
noncomputable def uG(t:Bool):BoolOp:=match t with
 |true=>.And
 |false=>.Or
theorem Cq{l:Loc}{Q:Bool->Hp->Prop}{E:XPost}(h:i4 C q d k t (x::xs) l Q E H) :
  aD C q d k x l (fO fun b H=>pb xs (Q b H) (eJ (b==t) (i4 C q d k t xs l Q E H) (Q b H))) E H:=by
 have e:∀{P P':V->Hp->Prop} {E:XPost},(∀v H,P v H=P' v H)->aD C q d k x l P E H->aD C q d k x l P' E H:=fun h w=>by
  have:_=_:=funext fun v=>funext fun H=>h v H;exact this▸w
 cases t with
 |true=>
  refine e (fun v H=>?_) h;unfold fO;cases kT v with
  |none=>rfl
  |some b=>cases b<;>rfl
 |false=>
  refine e (fun v H=>?_) h;unfold fO;cases kT v with
  |none=>rfl
  |some b=>cases b<;>rfl
set_option backward.match.sparseCases true in
theorem Dj{pos:Pos}{t:Bool}:∀{es:List Expr}{xs:List Ex},j4 c wz wu es xs->∀A q d k loc φ H s (Q:Bool->Hp->Prop) E,bR c A q d φ s.heap->aq c wz wu k loc φ s.heap->ak c φ H s->i4 (Calls c) q d k t xs loc Q E H->
  wpAny (model c.prog c.w) A (boolOp pos (uG t) (evalEach es wz)) (aE c φ s fun v H=>i3 (kT v) fun b=>Q b H) (ay c φ s E) s
 |[],xs,h=>fun A q d k loc φ H s Q E hA hF hS hw=>by
  obtain rfl:xs=[]:=h;cases t<;>exact hw.elim
 |[e],xs,h=>fun A q d k loc φ H s Q E hA hF hS hw=>by
  obtain⟨x,xs',rfl,h1,h2⟩:=h.uncons;obtain rfl:xs'=[]:=h2;show wpAny _ _ (eval e wz) _ _ _;exact wm (h1 A q d k loc φ H s _ E hA hF hS (Cq hw)) (fun Z Z h=>aE.mono (fun Z Z h=>ae.inv h) h)
 |e::e'::es,xs,h=>fun A q d k loc φ H s Q E hA hF hS hw=>by
  obtain⟨x,xs',rfl,h1,h2⟩:=h.uncons;have ih:=Dj (pos:=pos) (t:=t) h2;obtain⟨x',xs'',rfl,_,_⟩:=h2.uncons;show wpAny _ _ (eval e wz >>=fun v=>standAt pos >>=fun Z=>holding [v] (truthy v) >>=fun tv=>match uG t,tv with
   |.And,false |.Or,true=>pure v
   |_,_=>boolOp pos (uG t) (evalEach (e'::es) wz)) _ _ _
  refine ai (wm (h1 A q d k loc φ H s _ E hA hF hS (Cq hw)) ?_);rintro r s₁ ⟨φ₁,H₁,v₁,e₁,S₁,R₁,w₁⟩;revert w₁;refine xI fun b hb w₁=>?_;obtain rfl:=n8 hb;obtain rfl:=R₁;refine ai (i5 (ai (de (uF ?_))));have go:i4 (Calls c) q d k t (x'::xs'') loc Q E H₁->wpAny (model c.prog c.w) A (boolOp pos (uG t) (evalEach (e'::es) wz)) (aE c φ s fun v H=>i3 (kT v) fun b=>Q b H) (ay c φ s E) s₁:=fun w=>
   a8 (ih A q d k loc φ₁ H₁ s₁ Q E (hA.mono e₁) (hF.mono e₁) S₁ w) (fun Z Z h=>aE.lift e₁ h) fun Z Z h=>ay.lift e₁ S₁ h
  have st:Q b H₁->wpAny (model c.prog c.w) A (pure (.bool b)) (aE c φ s fun v H=>i3 (kT v) fun b=>Q b H) (ay c φ s E) s₁:=fun w=>aC (aE.lift e₁ (aE.at' S₁ rB ⟨b,rfl,w⟩));cases t<;>cases b<;>first |exact st w₁ |exact go w₁
def Kw(h:j4 c wz wu es xs):aQ c wz wu (.BoolOp .And es pos) (.and xs):=fun A q d k loc φ H s Q E hA hF hS hw=>
 wm (Dj (t:=true) h A q d k loc φ H s _ E hA hF hS hw) (fun Z Z h=>aE.mono (fun _ _ ⟨_,hb,h⟩=>by rw[n8 hb];exact h) h)
def lG(h:j4 c wz wu es xs):aQ c wz wu (.BoolOp .Or es pos) (.or xs):=fun A q d k loc φ H s Q E hA hF hS hw=>
 wm (Dj (t:=false) h A q d k loc φ H s _ E hA hF hS hw) (fun Z Z h=>aE.mono (fun _ _ ⟨_,hb,h⟩=>by rw[n8 hb];exact h) h)
def JP{r:Expr}(O:c.Ok)(h1:aQ c wz wu l a)(h2:aQ c wz wu r b):aQ c wz wu (.BinOp l op.real r pos) (.bin op a b):=fun A q d k loc φ H s Q E hA hF hS hw=>by
 refine wpAny_BinOp (wm (h1 A q d k loc φ H s _ E hA hF hS hw) ?_);rintro x s₁ ⟨φ₁,H₁,v₁,e₁,S₁,R₁,w₁⟩;refine a8 (h2 A q d k loc φ₁ H₁ s₁ _ E (hA.mono e₁) (hF.mono e₁) S₁ w₁) ?_ fun Z Z h=>ay.lift e₁ S₁ h;rintro y s₂ ⟨φ₂,H₂,v₂,e₂,S₂,R₂,w₂⟩;revert w₂;refine xI fun p e w₂=>?_;exact(u4 O (hA.mono (e₁.trans e₂)) S₂ (ar.mono e₂.toKp ax.nil R₁) R₂ e).use (e₁.trans e₂) w₂
def Hw{r:Expr}(h1:aQ c wz wu l a)(h2:aQ c wz wu r b):aQ c wz wu (.Subscript l r pos) (.idx a b):=fun A q d k loc φ H s Q E hA hF hS hw=>by
 refine Subscript_ (wm (h1 A q d k loc φ H s _ E hA hF hS hw) ?_);rintro x s₁ ⟨φ₁,H₁,v₁,e₁,S₁,R₁,w₁⟩;refine a8 (h2 A q d k loc φ₁ H₁ s₁ _ E (hA.mono e₁) (hF.mono e₁) S₁ w₁) ?_ fun Z Z h=>ay.lift e₁ S₁ h;rintro y s₂ ⟨φ₂,H₂,v₂,e₂,S₂,R₂,w₂⟩;revert w₂;refine xI fun v e w₂=>?_;exact(uq S₂ (ar.mono e₂.toKp ax.nil R₁) R₂ e).use (e₁.trans e₂) w₂
end
variable {C:Addr}{b:Bool}{t:Tc}
section
open PySem PyProof.Rows
noncomputable def rQ:Expr->Bool
 |.Set ..=>false
 |_=>true
def mB{op:CmpOp}(h:rQ e=true)(t:Sem Value):markedBehindIn op e t=t:=by
 refine markedBehindIn_of_false ?_;cases e<;>first |rfl |injection h
theorem zN:∀{ops:List CmpOp}{es:List Expr},es.all rQ=true->markedEach ops es (evalEach es wz)=evalEach es wz
 |[],es,_=>by cases es<;>rfl
 |[op],[],_=>rfl
 |[op],e::es,h=>by
  revert h;refine xA fun h1 h2=>?_;cases es with
  |nil=>exact congrArg (fun x=>[x]) (mB h1 _)
  |cons e' es=>exact congrArg (eval e wz::·) (zN (ops:=[]) h2)
 |op::op'::ops,[],_=>rfl
 |op::op'::ops,e::es,h=>congrArg (eval e wz::·) (zN (ops:=op'::ops) (eQ.mp h).2)
def Dx(h:wpAny M A m Q E s):wpAny M A (operate vs m) Q E s:=fun Γ p hΓ=>by rw[Sem.wp_operate];exact h Γ p hΓ
def bR.hu(hA:bR c A q d φ h):A.units+100<cLine:=by have:=hA.un;show _<9900;exact aw [_,_] [] kaa (Y1 (Y0 V0 (.l 100)) (.l 9900)) (Y0 (Y0 V0 (Y1 (.l 10) V1)) (.l 9000)) this
inductive cR(c:Cx)(φ:List Addr)(s:Shared)(Q:Bool->Hp->Prop)(b:Bool)(s':Shared):Prop
 |mk (φ':List Addr)(H':Hp)(e:au [] φ s φ' s')(S:ak c φ' H' s')(q:Q b H'):cR c φ s Q b s'
def cR.lift{Q:Bool->Hp->Prop}{r:Bool}(e:au [] φ s φ₁ s₁)(h:cR c φ₁ s₁ Q r s₂):cR c φ s Q r s₂:=
 let⟨φ',H',e',S,hq⟩:=h;⟨φ',H',e.trans e',S,hq⟩
theorem BL{go:Value->List CmpOp->List (Sem Value)->Sem α}{fin:Value->Value->CmpOp->Sem α}{no:Value->Sem α}{R:(Bool->Hp->Prop)->List Addr->Shared->α->Shared->Prop} (g1:∀x o m,go x [o] [m]=(holding [x] m >>=fun rv=>standAt pos >>=fun Z=>fin x rv o)) (g2:∀x o o' os m m' ms,go x (o::o'::os) (m::m'::ms)=(holding [x] m >>=fun rv=>standAt pos >>=fun Z=>holding [x,rv] (compareOp o x rv) >>=fun cc=>release [x,rv] [cc] >>=fun Z=>holding [cc,rv] (truthy cc) >>=fun t=>
   if t then go rv (o'::os) (m'::ms) else no cc))
  (hfin:∀{A E s x rv o b} {P:α->Shared->Prop},(∀{Q E},Q (.bool b) s->wpAny (model c.prog c.w) A (compareOp o x rv) Q E s)->(∀a,(∀φ H Q,ak c φ H s->Q b H->R Q φ s a s)->P a s)->wpAny (model c.prog c.w) A (fin x rv o) P E s)
  (hno:∀{A E s} {P:α->Shared->Prop},(∀a,(∀φ H Q,ak c φ H s->Q false H->R Q φ s a s)->P a s)->wpAny (model c.prog c.w) A (no (.bool false)) P E s)
  (hlift:∀{Q φ s φ₁ s₁ a s₂},au [] φ s φ₁ s₁->R Q φ₁ s₁ a s₂->R Q φ s a s₂) :
  ∀{es:List Expr} {xs:List Ex} {os:List Cm},j4 c wz wu es xs->os.length=es.length->∀A q d k loc φ H s (Q:Bool->Hp->Prop) E v x,bR c A q d φ s.heap->aq c wz wu k loc φ s.heap->ak c φ H s->ar c φ s.heap v x->
  vh (Calls c) q d k v os xs loc Q E H->wpAny (model c.prog c.w) A (go x (os.map Cm.real) (evalEach es wz)) (R Q φ s) (ay c φ s E) s
 |[],xs,os,h,hl=>fun A q d k loc φ H s Q E v x hA hF hS hR hw=>by
  obtain rfl:xs=[]:=h;exact hw.elim
 |_::_,_,[],h,hl=>nomatch hl
 |[e],xs,o::os,h,hl=>fun A q d k loc φ H s Q E v x hA hF hS hR hw=>by
  obtain⟨y,ys,rfl,h1,h2⟩:=h.uncons;obtain rfl:ys=[]:=h2;obtain rfl:os=[]:=iG.mp (Nat.succ.inj hl);show wpAny _ _ (go x [o.real] [eval e wz]) _ _ _;rw[g1];refine ai (de (wm (h1 A q d k loc φ H s _ E hA hF hS hw) ?_));rintro r s₁ ⟨φ₁,H₁,w,e₁,S₁,R₁,w₁⟩;revert w₁;refine xI fun b hb w₁=>?_;exact ai (i5 (hfin (lD hA.hu S₁ (ar.mono e₁.toKp ax.nil hR) R₁ hb) fun a ha=>hlift e₁ (ha φ₁ H₁ Q S₁ w₁)))
 |_::_::_,_,[_],h,hl=>nomatch (Nat.succ.inj hl)
 |e::e'::es,xs,o::o'::os,h,hl=>fun A q d k loc φ H s Q E v x hA hF hS hR hw=>by
  obtain⟨y,ys,rfl,h1,h2⟩:=h.uncons;have ih:=BL g1 g2 hfin hno hlift h2 (os:=o'::os) (Nat.succ.inj hl);obtain⟨y',ys',rfl,_,_⟩:=h2.uncons;show wpAny _ _ (go x (o.real::o'.real::os.map Cm.real) (eval e wz::eval e' wz::evalEach es wz)) _ _ _;rw[g2];refine ai (de (wm (h1 A q d k loc φ H s _ E hA hF hS hw) ?_));rintro r s₁ ⟨φ₁,H₁,w,e₁,S₁,R₁,w₁⟩;revert w₁;refine xI fun b hb w₁=>?_;refine ai (i5 (ai (de (lD hA.hu S₁ (ar.mono e₁.toKp ax.nil hR) R₁ hb (ai (wpAny_release (ai (de (uF ?_)))))))));cases b with
  |true=>exact a8 (ih A q d k loc φ₁ H₁ s₁ Q E w r (hA.mono e₁) (hF.mono e₁) S₁ R₁ w₁) (fun Z Z h=>hlift e₁ h) fun Z Z h=>ay.lift e₁ S₁ h
  |false=>exact hno fun a ha=>hlift e₁ (ha φ₁ H₁ Q S₁ w₁)
def Hq(h1:aQ c wz wu l a)(h2:j4 c wz wu es xs)(hl:os.length=es.length)(hn:es.all rQ=true) :
  aQ c wz wu (.Compare l (os.map Cm.real) es pos) (.cmp a os xs):=fun A q d k loc φ H s Q E hA hF hS hw=>by
 show wpAny _ _ (eval l wz >>=fun v=>compareChain pos v (os.map Cm.real) (markedEach (os.map Cm.real) es (evalEach es wz))) _ _ _;rw[zN hn];refine ai (wm (h1 A q d k loc φ H s _ E hA hF hS hw) ?_);rintro x s₁ ⟨φ₁,H₁,v₁,e₁,S₁,R₁,w₁⟩;exact a8 (BL (go:=compareChain pos) (fin:=fun x rv o=>operate [x,rv] (compareOp o x rv)) (no:=fun cc=>pure cc) (R:=fun Q φ s=>aE c φ s fun v H=>i3 (kT v) fun b=>Q b H) (fun Z Z Z=>rfl) (fun Z Z Z Z Z Z Z=>rfl)
  (fun h hp=>Dx (h (hp _ fun φ H Q S hq=>aE.at' S rB ⟨_,rfl,hq⟩))) (fun hp=>aC (hp _ fun φ H Q S hq=>aE.at' S rB ⟨_,rfl,hq⟩)) (fun e h=>aE.lift e h) h2 hl A q d k loc φ₁ H₁ s₁ _ E v₁ x (hA.mono e₁) (hF.mono e₁) S₁ R₁ w₁)
  (fun Z Z h=>aE.lift e₁ (aE.mono (fun _ _ ⟨_,hb,h⟩=>by rw[n8 hb];exact h) h)) fun Z Z h=>ay.lift e₁ S₁ h
def jt(c:Cx)(wz:Env)(wu:Res)(e:Expr)(x:Ex):Prop:=
 ∀A q d k loc φ H s Q E,bR c A q d φ s.heap->aq c wz wu k loc φ s.heap->ak c φ H s->aD (Calls c) q d k x loc (fO Q) E H->
  wpAny (model c.prog c.w) A (isTrue e wz (eval e wz)) (cR c φ s Q) (ay c φ s E) s
noncomputable def BY:Expr->Bool
 |.UnaryOp .Not _ _=>false
 |.BoolOp ..=>false
 |.IfExp ..=>false
 |.Compare ..=>false
 |_=>true
set_option tactic.hygienic true in
def Ke(h:BY e=true)(whole:Sem Value):isTrue e wz whole=(do
  let v<-whole
  standAt e.pos
  holding [v] (truthy v)):=by
 cases e<;>first |rfl |(injection h;done) |skip
 rename_i op _ _
 cases op<;>first |rfl |injection h
def Ju(h:aQ c wz wu e x)(hp:BY e=true):jt c wz wu e x:=fun A q d k loc φ H s Q E hA hF hS hw=>by
 rw[Ke hp];refine ai (wm (h A q d k loc φ H s _ E hA hF hS hw) ?_);rintro r s₁ ⟨φ₁,H₁,v₁,e₁,S₁,R₁,w₁⟩;revert w₁;refine xI fun b hb w₁=>?_;obtain rfl:=n8 hb;obtain rfl:=R₁;exact ai (i5 (de (uF ⟨φ₁,H₁,e₁,S₁,w₁⟩)))
def Iq(h:jt c wz wu l a):jt c wz wu (.UnaryOp .Not l pos) (.not a):=fun A q d k loc φ H s Q E hA hF hS hw=>
 wpAny_isTrue_Not (wm (h A q d k loc φ H s (fun b H=>Q (!b) H) E hA hF hS hw) (fun _ _ ⟨φ',H',e,S,h⟩=>⟨φ',H',e,S,h⟩))
def iQ(c:Cx)(wz:Env)(wu:Res):List Expr->List Ex->Prop
 |[],xs=>xs=[]
 |e::es,xs=>match xs with
  |[]=>False
  |x::xs=>jt c wz wu e x/\iQ c wz wu es xs
inductive gQ(c:Cx)(wz:Env)(wu:Res)(e:Expr)(es:List Expr)(xs:List Ex):Prop
 |mk (x:Ex)(xs':List Ex)(h:xs=x::xs')(h1:jt c wz wu e x)(h2:iQ c wz wu es xs'):gQ c wz wu e es xs
theorem iQ.uncons(h:iQ c wz wu (e::es) xs):gQ c wz wu e es xs:=by
 cases xs with
 |nil=>exact h.elim
 |cons x xs=>exact⟨x,xs,rfl,h.1,h.2⟩
theorem Bt{t:Bool}:∀{es:List Expr}{xs:List Ex},iQ c wz wu es xs->∀A q d k loc φ H s (Q:Bool->Hp->Prop) E,bR c A q d φ s.heap->aq c wz wu k loc φ s.heap->ak c φ H s->i4 (Calls c) q d k t xs loc Q E H->
  wpAny (model c.prog c.w) A (allTrue (uG t) es wz) (cR c φ s Q) (ay c φ s E) s
 |[],xs,h=>fun A q d k loc φ H s Q E hA hF hS hw=>by
  obtain rfl:xs=[]:=h;cases t<;>exact hw.elim
 |e::es,xs,h=>fun A q d k loc φ H s Q E hA hF hS hw=>by
  obtain⟨x,xs',rfl,h1,h2⟩:=h.uncons;have key:wpAny (model c.prog c.w) A (isTrue e wz (eval e wz)) (fun b s₁=>eJ (b==t) (wpAny (model c.prog c.w) A (allTrue (uG t) es wz) (cR c φ s Q) (ay c φ s E) s₁) (cR c φ s Q b s₁)) (ay c φ s E) s:=by
   refine wm (h1 A q d k loc φ H s _ E hA hF hS (Cq hw)) ?_;rintro b s₁ ⟨φ₁,H₁,e₁,S₁,w₁⟩;cases es with
   |nil=>
    obtain rfl:xs'=[]:=h2;cases t<;>cases b<;>first |exact⟨φ₁,H₁,e₁,S₁,w₁⟩|exact wpAny_allTrue_And_nil ⟨φ₁,H₁,e₁,S₁,w₁⟩|exact wpAny_allTrue_Or_nil ⟨φ₁,H₁,e₁,S₁,w₁⟩
   |cons e' es=>
    have ih:=Bt (t:=t) h2;obtain⟨x',xs'',rfl,_,_⟩:=h2.uncons;have go:i4 (Calls c) q d k t (x'::xs'') loc Q E H₁->wpAny (model c.prog c.w) A (allTrue (uG t) (e'::es) wz) (cR c φ s Q) (ay c φ s E) s₁:=fun w=>
     a8 (ih A q d k loc φ₁ H₁ s₁ Q E (hA.mono e₁) (hF.mono e₁) S₁ w) (fun Z Z h=>cR.lift e₁ h) fun Z Z h=>ay.lift e₁ S₁ h
    cases t<;>cases b<;>first |exact go w₁ |exact⟨φ₁,H₁,e₁,S₁,w₁⟩
  cases t with
  |true=>exact wpAny_allTrue_And_cons (wm key (fun b Z h=>by cases b<;>exact h))
  |false=>exact wpAny_allTrue_Or_cons (wm key (fun b Z h=>by cases b<;>exact h))
def Iy(h:iQ c wz wu es xs):jt c wz wu (.BoolOp .And es pos) (.and xs):=fun A q d k loc φ H s Q E hA hF hS hw=>
 wpAny_isTrue_BoolOp (Bt (t:=true) h A q d k loc φ H s Q E hA hF hS hw)
def GR(h:iQ c wz wu es xs):jt c wz wu (.BoolOp .Or es pos) (.or xs):=fun A q d k loc φ H s Q E hA hF hS hw=>
 wpAny_isTrue_BoolOp (Bt (t:=false) h A q d k loc φ H s Q E hA hF hS hw)
def IH(h1:aQ c wz wu l a)(h2:j4 c wz wu es xs)(hl:os.length=es.length)(hn:es.all rQ=true) :
  jt c wz wu (.Compare l (os.map Cm.real) es pos) (.cmp a os xs):=fun A q d k loc φ H s Q E hA hF hS hw=>by
 show wpAny _ _ (eval l wz >>=fun v=>testChain pos v (os.map Cm.real) (markedEach (os.map Cm.real) es (evalEach es wz))) _ _ _;rw[zN hn];refine ai (wm (h1 A q d k loc φ H s _ E hA hF hS hw) ?_);rintro x s₁ ⟨φ₁,H₁,v₁,e₁,S₁,R₁,w₁⟩;exact a8 (BL (go:=testChain pos) (fin:=fun x rv o=>operate [x,rv] (compareOp o x rv) >>=fun cc=>holding [cc] (truthy cc)) (no:=fun Z=>pure false) (R:=fun Q φ s=>cR c φ s Q) (fun Z Z Z=>rfl) (fun Z Z Z Z Z Z Z=>rfl)
  (fun h hp=>ai (Dx (h (de (uF (hp _ fun φ H Q S hq=>⟨φ,H,au.refl,S,hq⟩)))))) (fun hp=>aC (hp _ fun φ H Q S hq=>⟨φ,H,au.refl,S,hq⟩)) (fun e h=>cR.lift e h) h2 hl A q d k loc φ₁ H₁ s₁ Q E v₁ x (hA.mono e₁) (hF.mono e₁) S₁ R₁ w₁)
  (fun Z Z h=>cR.lift e₁ h) fun Z Z h=>ay.lift e₁ S₁ h
end
variable {a:Addr}{l:List Bool}{m:Me}{os:OsState}{vs:Array Value}
section
open PySem PyProof.Rows
noncomputable def Tc.real:Tc->Option String
 |.int=>some "int" |.bool=>some "bool" |.list=>some "list" |.tuple=>some "tuple"
 |.str=>some "str"
 |.own _=>none
def pg(h:Heap)(x:Value):Prop:=∀GJ:Prop,(∀(a:Addr),∀(o:Obj),(x=.ref a)->(h.get? a=some o)->(o.cls=.type "list")->GJ)->GJ
def yT(Tx:Option String)(T:String)(b:Bool):Prop:=∀GJ:Prop,(∀(X:String),(Tx=some X)->(typeOf (.type T)=pure (.type "type"))->(isSubtype (.type X) (.type T)=pure b)->(b=false->(jc X==jc T)=false)->GJ)->GJ
def bM{X:String}(e:some b'=some b)(h1:typeOf (.type T)=pure (.type "type"))(h2:isSubtype (.type X) (.type T)=pure b')(h3:(b'||!(jc X==jc T))=true):yT (some X) T b:=by
 obtain rfl:=ah e;exact(fun Z kJ=>kJ X rfl h1 h2 (fun h=>by rw[h] at h3;exact Bool.not_eq_eq_eq_not.mp h3))
noncomputable def Ib:V->Option String
 |.none=>some "NoneType" |.bool _=>some "bool" |.int _=>some "int" |.tup _=>some "tuple" |.lst _=>some "list"
 |.str _=>some "str"
 |.dict0 _=>some "dict"
 |_=>none
theorem qK{v:V}(hT:t.real=some T)(e:c5 v t=some b):yT (Ib v) T b:=by
 cases t with
 |int=>
  obtain rfl:=ah hT;cases v with
  |none=>exact bM e sA F.sub_NoneType_int (by decide +kernel)
  |bool=>exact bM e sA F.sub_bool_int (by decide +kernel)
  |int=>exact bM e sA F.sub_int_int (by decide +kernel)
  |tup=>exact bM e sA F.sub_tuple_int (by decide +kernel)
  |lst=>exact bM e sA F.sub_list_int (by decide +kernel)
  |str=>exact bM e sA F.sub_str_int (by decide +kernel)
  |dict0=>exact bM e sA F.sub_dict_int (by decide +kernel)
  |_=>injection e
 |bool=>
  obtain rfl:=ah hT;cases v with
  |none=>exact bM e sP F.sub_NoneType_bool (by decide +kernel)
  |bool=>exact bM e sP F.sub_bool_bool (by decide +kernel)
  |int=>exact bM e sP F.sub_int_bool (by decide +kernel)
  |tup=>exact bM e sP F.sub_tuple_bool (by decide +kernel)
  |lst=>exact bM e sP F.sub_list_bool (by decide +kernel)
  |str=>exact bM e sP F.sub_str_bool (by decide +kernel)
  |dict0=>exact bM e sP F.sub_dict_bool (by decide +kernel)
  |_=>injection e
 |list=>
  obtain rfl:=ah hT;cases v with
  |none=>exact bM e su F.sub_NoneType_list (by decide +kernel)
  |bool=>exact bM e su F.sub_bool_list (by decide +kernel)
  |int=>exact bM e su F.sub_int_list (by decide +kernel)
  |tup=>exact bM e su F.sub_tuple_list (by decide +kernel)
  |lst=>exact bM e su F.sub_list_list (by decide +kernel)
  |str=>exact bM e su F.sub_str_list (by decide +kernel)
  |dict0=>exact bM e su F.sub_dict_list (by decide +kernel)
  |_=>injection e
 |tuple=>
  obtain rfl:=ah hT;cases v with
  |none=>exact bM e uy F.sub_NoneType_tuple (by decide +kernel)
  |bool=>exact bM e uy F.sub_bool_tuple (by decide +kernel)
  |int=>exact bM e uy F.sub_int_tuple (by decide +kernel)
  |tup=>exact bM e uy F.sub_tuple_tuple (by decide +kernel)
  |lst=>exact bM e uy F.sub_list_tuple (by decide +kernel)
  |str=>exact bM e uy F.sub_str_tuple (by decide +kernel)
  |dict0=>exact bM e uy F.sub_dict_tuple (by decide +kernel)
  |_=>injection e
 |str=>
  obtain rfl:=ah hT;cases v with
  |none=>exact bM e tV F.sub_NoneType_str (by decide +kernel)
  |bool=>exact bM e tV F.sub_bool_str (by decide +kernel)
  |int=>exact bM e tV F.sub_int_str (by decide +kernel)
  |tup=>exact bM e tV F.sub_tuple_str (by decide +kernel)
  |lst=>exact bM e tV F.sub_list_str (by decide +kernel)
  |str=>exact bM e tV F.sub_str_str (by decide +kernel)
  |dict0=>exact bM e tV F.sub_dict_str (by decide +kernel)
  |_=>injection e
 |own=>injection hT
theorem tP(S:ak c φ H s){v:V}{x:Value}{t:Tc}{T:String}{b:Bool}(R:ar c φ s.heap v x)(hT:t.real=some T)(e:c5 v t=some b):fN c A φ s (call (.builtin "isinstance") [x,.type T]) (.bool b) H:=by
 intro E;have hlst:∀{i:Nat} {x:Value},ar c φ s.heap (.lst i) x->pg s.heap x:=fun R=>by
  obtain⟨a,rfl,ha⟩:=R;obtain⟨o,h1,h2⟩:=S.isList (cD ha);exact(fun Z kJ=>kJ a o rfl h1 h2)
 refine(qK hT e) _ fun X eX h1 h2 h3=>?_;clear e hT t;cases b with
 |true=>
  refine rU (isinstance_true (Tx:=X) h1 h2) ⟨?_,aE.same' S rB⟩;cases v with
  |none=>obtain rfl:=ah eX;obtain rfl:=R;exact rfl
  |bool=>obtain rfl:=ah eX;obtain rfl:=R;exact rfl
  |int=>obtain rfl:=ah eX;obtain⟨t1,rfl⟩:=R;exact rfl
  |tup=>obtain rfl:=ah eX;obtain⟨a,o,vs,n,rfl,_,ho,hc,_⟩:=R;exact⟨o,ho,hc⟩
  |lst=>obtain rfl:=ah eX;refine(hlst R) _ fun a o wk ho hc=>?_;subst wk;exact⟨o,ho,hc⟩
  |str=>obtain rfl:=ah eX;obtain⟨t1,rfl⟩:=R;exact rfl
  |dict0=>obtain rfl:=ah eX;obtain⟨o,es,n,rfl,_,ho,hc,_⟩:=R;exact⟨o,ho,hc⟩
  |_=>injection eX
 |false=>
  have yes:∀{t:Nat},aE c φ s (fun x H'=>x=.bool false/\H'=H) (.bool false) { s with toks:=t }:=aE.same S rB;have h3:=h3 rfl;cases v with
  |none=>obtain rfl:=ah eX;obtain rfl:=R;exact rU (isinstance_false_none h3 h1 h2) yes
  |bool=>obtain rfl:=ah eX;obtain rfl:=R;exact rU (isinstance_false_bool h3 h1 h2) yes
  |int=>obtain rfl:=ah eX;obtain⟨t1,rfl⟩:=R;exact rU (isinstance_false_int h3 h1 h2) yes
  |tup=>obtain rfl:=ah eX;obtain⟨a,o,vs,n,rfl,_,ho,hc,_⟩:=R;exact rU (isinstance_false_tuple h3 h1 h2) ⟨⟨o,ho,hc⟩,yes⟩
  |lst=>obtain rfl:=ah eX;refine(hlst R) _ fun a o wk ho hc=>?_;subst wk;exact rU (isinstance_false_list h3 h1 h2) ⟨⟨o,ho,hc⟩,yes⟩
  |str=>obtain rfl:=ah eX;obtain⟨t1,rfl⟩:=R;exact rU (isinstance_false_str h3 h1 h2) yes
  |dict0=>obtain rfl:=ah eX;obtain⟨o,es,n,rfl,_,ho,hc,_⟩:=R;exact rU (isinstance_false_dict h3 h1 h2) ⟨⟨o,ho,hc⟩,yes⟩
  |_=>injection eX
theorem vL:es.all dA=true->(backTo pos (eL es wz)).any (·.1)=false:=by
 induction es with
 |nil=>intro _;rfl
 |cons e es ih=>
  intro h;simp only[List.all_cons,Bool.and_eq_true] at h;rw[qP h.1];show(false||(backTo pos (eL es wz)).any (·.1))=false;rw[ih h.2];rfl
def wL(c:Cx)(φ:List Addr)(s:Shared)(Q:List V->Hp->Prop)(a:Args)(s':Shared):Prop:=∀GJ:Prop,(∀(rs:List Value),(a=⟨rs,[]⟩)->∀(φ':List Addr),∀(H':Hp),∀(vs:List V),au [] φ s φ' s'->ak c φ' H' s'->ag c φ' s'.heap vs rs->Q vs H'->GJ)->GJ
theorem uo(h:gD c wz wu es xs)(hne:es≠[]) {A q d k loc φ H s Q E}(hA:bR c A q d φ s.heap)(hF:aq c wz wu k loc φ s.heap)(hS:ak c φ H s)(hw:dC (Calls c) q d k xs loc Q E H) :
  wpAny (model c.prog c.w) A (evalArgs f true (backTo pos (eL es wz)) []) (fun a s'=>wL c φ s (fun vs H=>vs.length=xs.length/\Q vs H) a s') (ay c φ s E) s:=by
 cases es with
 |nil=>exact absurd rfl hne
 |cons e es=>
  have h2:=h.2 A q d k loc φ H s Q E pos hA hF hS hw;have hn:=h.1.1;simp only[List.all_cons,Bool.and_eq_true] at hn;rw[qP hn.1] at h2 ⊢;exact Calls.evalArgs_plain (wm h2 (fun rs s' hJq=>hJq _ fun φ' H' vs e S R q=>fun Z kJ=>kJ rs rfl φ' H' vs e S R q))
theorem Gl{f:Str}(O:c.Ok)(hk:wz.kindOf f=some .globalImplicit)(hg:c.g f=some (.ref a))(ho:c.h0.get? a=some o)(hd:o.data=.func fd) (hx:(f==("__debug__":Str))=false) (h:gD c wz wu es xs) (hne:es≠[]):aQ c wz wu (.Call (.Name f p) es [] pos) (.call f xs):=fun A q d k loc φ H s Q E hA hF hS hw=>by
 show wpAny _ _ (eval (.Name f p) wz >>=fun fv=>callWith pos fv [] (backTo pos (eL es wz)) []) _ _ _;refine ai (Calls.Name_function_global hF.fn hk (Calls.loadGlobal_global (by rw[hF.gl];exact O.gl.keeps hS.stays) hg ?_) hx);refine Calls.callWith_function (o:=o) (fd:=fd) (wm (uo h hne hA hF hS hw) ?_);rintro _ s₁ w0;refine w0 _ fun rs wk φ₁ H₁ vs e₁ S₁ R₁ eN2=>?_;clear w0;subst wk;obtain⟨l₁,w₁⟩:=eN2;refine⟨⟨S₁.stays a o ho,hd⟩,wpAny_call ?_⟩;refine w₁ _ fun a' o' fd' g1 g2 g3 g4=>?_;clear w₁;rw[hg] at g1;injection g1 with Ja;injection Ja with w4;subst w4;have:=g4 A φ₁ s₁ rs [] (hA.mono e₁).toOkA S₁ R₁ rfl;rw[fA] at this;refine sJ this ?_;intro r s' hr;cases r with
 |error e=>exact ay.lift e₁ S₁ hr
 |ok f=>cases f with
  |ret v=>exact aE.lift e₁ hr
  |_=>exact hr.elim
def vn(hf:∀a,f≠.ref a)(hplain:args.any (·.1)=false) (h:wpAny M A (evalArgs f true args []) (fun a s₁=>wpAny M A (call f (first++a.pos) a.kw) Q E s₁) E s):wpAny M A (callWith pos f first args []) Q E s:=by
 unfold callWith;refine ai (de (a8 h (fun a s₁ h₁=>ai (i5 ?_)) fun Z Z x=>x));rw[hplain];have hk:keeperOf f=pure .machine:=by cases f<;>first |rfl |exact absurd rfl (hf _)
 rw[hk];refine ai (aC ?_);exact ai (a8 h₁ (fun r s₂ hr=>ai (de (rH (aC hr)))) fun Z Z x=>x)
def Bl.noref(b:Bl):∀a,b.real≠.ref a:=by intro a;cases b<;>(intro h;injection h)
def Jh{f:Str}{b:Bl}(O:c.Ok)(hk:wz.kindOf f=some .globalImplicit)(hg:c.g f=none)(hb:c.b f=some b.real) (hx:(f==("__debug__":Str))=false) (h:gD c wz wu es xs) (hne:es≠[]):aQ c wz wu (.Call (.Name f p) es [] pos) (.blt b xs):=fun A q d k loc φ H s Q E hA hF hS hw=>by
 show wpAny _ _ (eval (.Name f p) wz >>=fun fv=>callWith pos fv [] (backTo pos (eL es wz)) []) _ _ _;refine ai (Calls.Name_function_global hF.fn hk (Calls.loadGlobal_builtin (by rw[hF.gl];exact O.gl.keeps hS.stays) hg (by rw[hF.bl];exact O.bl.keeps hS.stays) hb ?_) hx);refine vn b.noref (vL h.1.1) (wm (uo h hne hA hF hS hw) ?_);rintro _ s₁ w0;refine w0 _ fun rs wk φ₁ H₁ vs e₁ S₁ R₁ eN2=>?_;clear w0;subst wk;obtain⟨l₁,w₁⟩:=eN2;revert w₁;refine xI fun p e w₂=>?_;obtain⟨rfl,e'⟩:=E1 e;exact(sk O (hA.mono e₁) S₁ R₁ e').use e₁ w₂
def KC(O:c.Ok)(hT:t.real=some T)(hk:wz.kindOf (ao "isinstance")=some .globalImplicit)(hk':wz.kindOf (ao T)=some .globalImplicit) (hg:c.g (ao "isinstance")=none) (hb:c.b (ao "isinstance")=some (.builtin "isinstance")) (hg':c.g (ao T)=none) (hb':c.b (ao T)=some (.type T)) (hx:(ao T==("__debug__":Str))=false) (hn:dA e=true) (h:aQ c wz wu e x):aQ c wz wu (.Call (.Name (ao "isinstance") p) [e,.Name (ao T) p'] [] pos) (.isi x t):=fun A q d k loc φ H s Q E hA hF hS hw=>by
 show wpAny _ _ (eval (.Name (ao "isinstance") p) wz >>=fun fv=>callWith pos fv [] (backTo pos (eL [e,.Name (ao T) p'] wz)) []) _ _ _;refine ai (Calls.Name_function_global hF.fn hk (Calls.loadGlobal_builtin (by rw[hF.gl];exact O.gl.keeps hS.stays) hg (by rw[hF.bl];exact O.bl.keeps hS.stays) hb ?_));rw[qP hn];refine vn (by intro a h;injection h) rfl (Calls.evalArgs_plain (Calls.spliced_cons (wm (h A q d k loc φ H s _ E hA hF hS hw) ?_)));rintro r s₁ ⟨φ₁,H₁,v₁,e₁,S₁,R₁,w₁⟩;refine Calls.spliced_cons (Calls.Name_function_global hF.fn hk' (Calls.loadGlobal_builtin (by rw[hF.gl];exact O.gl.keeps S₁.stays) hg' (by rw[hF.bl];exact O.bl.keeps S₁.stays) hb' (Calls.spliced_nil ?_)) hx);revert w₁;refine xI fun b hb w₁=>?_;exact(tP S₁ R₁ hT hb).use e₁ w₁
end
variable {T x:Value}{args:List Value}{b:Addr}{e:Option Expr}{f:Array Value->Array Value}{o:Expr}{t:Nat}{xs:List V}
section
open PySem PyProof.Rows
noncomputable def Me.on:Me->String
 |.join=>"str"
 |_=>"list"
noncomputable def Me.nm:Me->Str
 |.append=>"append"
 |.count=>"count"
 |.index=>"index"
 |.join=>"join"
noncomputable def Me.id:Me->String
 |.append=>"list.append"
 |.count=>"list.count"
 |.index=>"list.index"
 |.join=>"str.join"
theorem Me.slot(m:Me):Slot m.on m.nm m.id:=by
 cases m with
 |append=>exact PySem.F.slot_list_append
 |count=>exact PySem.F.slot_list_count
 |index=>exact PySem.F.slot_list_index
 |join=>exact PySem.F.slot_str_join
theorem Me.ty(m:Me):typeOf (.builtin m.id)=pure (.type "method_descriptor"):=by
 cases m with
 |append=>exact PySem.F.type_list_append
 |count=>exact PySem.F.type_list_count
 |index=>exact PySem.F.type_list_index
 |join=>exact PySem.F.type_str_join
theorem Me.attrs(m:Me):PlainAttrs m.on:=by
 cases m with
 |join=>exact PySem.F.plainAttrs_str
 |_=>exact PySem.F.plainAttrs_list
def oo(S:ak c φ H s){v:V}(ha:φ[i]?=some a)(ho:s.heap.get? a=some (dR vs n)) (hr:ag c φ s.heap xs (f vs).toList) (hz:xs.length<=qag) (hv:ar c φ s.heap v r):aE c φ s (fun x H'=>x=v/\H'=H.set i xs) r { s with heap:=s.heap.update a (nE f),toks:=t }:=by
 obtain⟨e,S'⟩:=S.put (h':=s.heap.update a (nE f)) ha (qo ..) (IsL.update (n:=n) ho f) hr hz;exact⟨φ,_,v,e.trans (au.of_heap rfl rfl),S'.tok t,ar.mono e.toKp ax.nil hv,rfl,rfl⟩
noncomputable def xW(v:Value):Bool:=v==.bool true
def km(h:vs.toList=l.map Value.bool):∀y,y∈vs->SeqAt.EqAt A s y (.bool true) (xW y):=fun y hy=>by
 have:y∈vs.toList:=Array.mem_toList_iff.mpr hy;rw[h] at this;revert this;refine xL fun b Z wj=>?_;subst wj;have:=SeqAt.EqAt.bool_bool (A:=A) (s:=s) b true;have e:xW (Value.bool b)=(b==true):=by cases b<;>rfl
 rw[e];exact this
theorem Dq:∀l:List Bool,(l.map Value.bool).countP xW=l.count true
 |[]=>rfl
 |b::l=>by
  rw[er,List.countP_cons,Dq l,List.count_cons];cases b<;>rfl
def r5 (c:Cx) (A:Around) (φ:List Addr) (s:Shared) (m:Me) (x:Value) (rs:List Value) (p:V×Hp):Prop:=fN c A φ s (call (.builtin m.id) (x::rs)) p.1 p.2
theorem G7 (S:ak c φ H s) {w:V} (R1:ar c φ s.heap (.lst i) x) (Rw:ar c φ s.heap w r) (e1:H[i]?=some xs) (hz:xs.length<qag):r5 c A φ s .append x [r] (.none,H.set i (xs++[w])):=by
 intro E;have hsl:qag=2^24:=rfl;refine(S.getP R1 e1) _ fun a us n wk ha ho hr hz1 z=>?_;subst wk;refine tO slot_list_append ⟨_,ho,rfl⟩ entry_list_append ?_ (args_list_append _ _);show wpAny _ _ (updateSeq a (·.push r) >>=fun Z=>ret .none) _ _ s;refine ai (wpAny_updateSeq ho rfl (aC ⟨.none,rfl,?_⟩) (by exact aA [_,_,_] [] kab (Y0 V0 V1) (Y1 V2 V1) (Y2 V0 V2) hz z) (by simp;exact aA [_,_,_] [] kab (Y0 V0 V1) (Y1 V2 V1) (Y2 V0 V2) hz z));exact oo (t:=s.toks) S ha ho (by rw[Array.toList_push];exact hr.append (show ag c φ s.heap [w] [r] from⟨Rw,rfl⟩)) (by rw[bG];exact hz) rN
def lA(S:ak c φ H s)(R1:ar c φ s.heap (.lst i) x)(e3:H[i]?=some xs)(e4:gu xs=some l):r5 c A φ s .count x [.bool true] (.int (l.count true),H):=by
 intro E;refine(S.getP R1 e3) _ fun a us n wk ha ho hr hz1 z=>?_;subst wk;have hb:=zZ hr e4;refine call_meets PySem.F.slot_list_count ⟨_,ho,rfl⟩ PySem.F.entry_list_count (PySem.F.args_list_count_2 _ _) (SeqAt.list_countAt a us n none #[] (.bool true) xW) ⟨ho,km hb,?_⟩;rw[hb,Dq];exact aE.same S rI
theorem lX(S:ak c φ H s)(R1:ar c φ s.heap (.lst i) x)(e3:H[i]?=some xs)(e4:gu xs=some l)(hm:true∈l):r5 c A φ s .index x [.bool true] (.int (l.idxOf true),H):=by
 intro E;have hsl:qag=2^24:=rfl;refine(S.getP R1 e3) _ fun a us n wk ha ho hr hz1 z=>?_;subst wk;have hb:=zZ hr e4;have hlt:l.idxOf true<l.length:=List.idxOf_lt_length_iff.mpr hm;have hsz:us.size=l.length:=by rw[<- e9,hb,aG]
 have hat:∀m (h:m<us.size),us[m]=.bool (l[m]'(by lia)):=fun m h=>by
  have:us.toList[m]?=some (.bool (l[m]'(by lia))):=by rw[hb,bL,bp (by lia)];rfl
  rw[sL,qa h] at this;exact ah this
 refine call_meets PySem.F.slot_list_index ⟨_,ho,rfl⟩ PySem.F.entry_list_index (PySem.F.args_list_index_2 _ _) (SeqAt.list_indexAt a us n none #[] (.bool true) xW (l.idxOf true) (by lia) (by lia) ?_ ?_) ⟨ho,km hb,?_⟩
 ·rw[hat _ (by lia),List.getElem_idxOf hlt];rfl
 ·intro m h1 h2;rw[hat _ h1];have:=List.not_of_lt_findIdx (p:=(·==true)) (xs:=l) (i:=m) h2;refine xD (l[m]'(by lia)) (fun hl=>?_) fun hl=>?_
  ·simp[hl] at this
  ·rfl
 ·exact aE.same S rI
def AC(H:Hp){β:Type}(v:V)(f:Nat->List V->Option β)(r:β):Prop:=∀GJ:Prop,(∀(i:Nat),∀(xs:List V),(v=.lst i)->(H[i]?=some xs)->(f i xs=some r)->GJ)->GJ
def wX{v:V}{f:Nat->List V->Option β}{r:β}(h:((rT v).bind fun a=>(H[a]?).bind fun xs=>f a xs)=some r):AC H v f r:=by
 revert h;refine xB fun i hi g=>?_;revert g;refine xB fun xs e g=>?_;exact(fun Z kJ=>kJ i xs (xV hi) e g)
def DI{v:V}{u:Unit}(h:B8 v=some u):v=.bool true:=by
 revert h;refine xB fun b hb g=>?_;obtain rfl:=n8 hb;revert g;refine xS fun hb Z=>?_;rw[hb]
set_option maxRecDepth 100000
set_option tactic.hygienic true in
theorem GF{l:List Str}(h:StrsAre rs l):∃ps:List (Str×Tok),rs=strValues ps/\ps.map (·.1)=l:=by
 induction h with
 |nil=>exact⟨[],rfl,rfl⟩
 |cons=>
  rename_i ih
  obtain⟨ps,h1,h2⟩:=ih
  exact⟨(_,_)::ps,by rw[h1];rfl,by rw[<- h2];rfl⟩
theorem Gc:∀(l:List Str)(acc:Array Nat),(l.foldl (fun acc p=>acc++(#[]:Array Nat)++p.cps) acc).toList=acc.toList++l.flatMap fun x=>x.cps.toList
 |[],acc=>by simp
 |x::l,acc=>by
  rw[List.foldl_cons,Gc l,List.flatMap_cons,Array.toList_append,Array.toList_append,eH,eH];first |done |rfl
theorem D6:∀(l:List Str),Builtin.Str.glued ⟨#[]⟩ l=⟨(l.flatMap fun x=>x.cps.toList).toArray⟩
 |[]=>rfl
 |x::l=>by
  show(⟨l.foldl (fun acc p=>acc++#[]++p.cps) x.cps⟩:Str)=_;rw[<- Array.toArray_toList (xs:=l.foldl (fun acc p=>acc++(#[]:Array Nat)++p.cps) x.cps),Gc];rfl
theorem jL:∀(l:List Str)(k:Nat),l.toArray.foldl (fun a p=>a+p.length+(⟨#[]⟩:Str).length) k=k+(l.map Str.length).sum:=by
 intro l k;rw[List.foldl_toArray];induction l generalizing k with
 |nil=>rfl
 |cons x l ih=>rw[List.foldl_cons,ih,er,List.sum_cons,<-Nat.add_assoc];rfl
noncomputable def ma(ps:List (Str×Tok)):Made:=match ps with
 |[p]=>.val (.str p.1 p.2)
 |_=>.str (Builtin.Str.glued ⟨#[]⟩ (ps.map (·.1)))
theorem HZ(ps:List (Str×Tok))(t:Tok)(a:Addr)(us:Array Value)(n:Nat)(d:Option Addr)(sl:Array (Option Value))(hu:us.toList=strValues ps)(hz:(ps.map fun p=>p.1.length).sum<=qag) :
  Meets (Builtin.«str.join» ⟨[.str ⟨#[]⟩ t,.ref a],[]⟩) (fun A R s=>s.heap.get? a=some { cls:=.type "list",dict:=d,data:=.seq us n,slots:=sl } /\
   (ma ps).post (fun v s'=>R (.ok (.ret v)) s') s):=fun prog w A R s h=>by
 obtain⟨ho,h⟩:=h;obtain⟨other,e⟩:=PySem.join_tree ⟨#[]⟩ t a;rw[e];refine ai (wpAny_typeOf (T:="list") ⟨_,ho,rfl⟩ ?_);rw[if_pos (by decide)];refine ai (wpAny_seqItems ho rfl ?_);show wpAny _ _ (PySem.joinTail ⟨#[]⟩ us.toList) _ _ _;rw[hu];have ht:Builtin.Str.tooLong ((ps.map (·.1)).toArray.foldl (· + ·.length+(⟨#[]⟩:Str).length) 0)=false:=by
  refine decide_eq_false (Nat.not_lt.mpr ?_);rw[jL,ib,Nat.zero_add];exact hz
 refine PySem.gives_joinTail ⟨#[]⟩ ps ht prog w A R s ?_;cases ps with
 |nil=>exact h
 |cons p r=>cases r with
  |nil=>exact h
  |cons q r=>exact h
theorem o5(S:ak c φ H s){l:List Str}(R0:ar c φ s.heap (.str ⟨#[]⟩) x)(R1:ar c φ s.heap (.lst i) r)(e3:H[i]?=some xs)(e4:jj xs=some l)(hz:(l.map Str.length).sum<=qag) :
  eT c A φ s (call (.builtin "str.join") [x,r]) (.str ⟨(l.flatMap fun x=>x.cps.toList).toArray⟩,H):=by
 intro E;obtain⟨t,rfl⟩:=R0;refine(S.getP R1 e3) _ fun a us n wk ha ho hr hz1 z=>?_;subst wk;obtain⟨ps,hu,rfl⟩:=GF (Ae hr e4);rw[ib] at hz;refine call_meets PySem.F.slot_str_join (typeIs_str s _ t) PySem.F.entry_str_join (PySem.F.args_str_join_2 _ _) (HZ ps t a us n none #[] hu hz) ⟨ho,?_⟩;rw[<- D6];match ps with
 |[p]=>exact aE.same' S ⟨p.2,by show Value.str p.1 p.2=Value.str (Builtin.Str.glued ⟨#[]⟩ [p.1]) p.2;rfl⟩
 |[]=>exact⟨by decide,aE.same S rS⟩
 |p::q::ps=>
  refine⟨?_,aE.same S rS⟩;rw[D6];show(List.flatMap _ _).toArray.size<=qag;rw[List.size_toArray,List.length_flatMap,ib];exact hz
theorem qD(S:ak c φ H s){v:V}{vs:List V}{p:V×Hp}(R1:ar c φ s.heap v x)(R2:ag c φ s.heap vs rs)(e:uR H m v vs=some p) :
  eT c A φ s (call (.builtin m.id) (x::rs)) p:=by
 cases m with
 |append=>
  refine(wX e) _ fun i xs wk e1 g=>?_;subst wk;obtain⟨w,rfl,k⟩:=nG g;refine R2.one _ fun r wk Rw=>?_;subst wk;revert k;refine xS fun hz wj=>?_;subst wj;exact G7 S R1 Rw e1 hz
 |count=>
  obtain⟨i,xs,rfl,e3,f⟩:=uD e;obtain⟨w,rfl,k⟩:=nG f;refine R2.one _ fun r wk Rw=>?_;subst wk;revert k;refine xB fun Z hw k1=>?_;obtain rfl:=DI hw;revert k1;refine xM fun l e4 wj=>?_;subst wj;obtain rfl:=Rw;exact lA S R1 e3 e4
 |index=>
  obtain⟨i,xs,rfl,e3,f⟩:=uD e;obtain⟨w,rfl,k⟩:=nG f;refine R2.one _ fun r wk Rw=>?_;subst wk;revert k;refine xB fun Z hw k1=>?_;obtain rfl:=DI hw;revert k1;refine xB fun l e4 k2=>?_;revert k2;refine xS fun hm wj=>?_;subst wj;obtain rfl:=Rw;exact lX S R1 e3 e4 hm
 |join=>
  revert e;refine xB fun t ht g=>?_;obtain rfl:=vj ht;obtain⟨w,rfl,k⟩:=nG g;refine R2.one _ fun r wk Rw=>?_;subst wk;obtain⟨i,xs,rfl,e3,k1⟩:=uD k;revert k1;refine xB fun l e4 k2=>?_;revert k2;refine xS fun hz wj=>?_;subst wj;obtain⟨rfl,hz⟩:=hz;exact o5 S R1 Rw e3 e4 hz
end
variable {f:Value}{l:List V}{t:Tok}{x:Ex}{xs:List Ex}
section
open PySem PyProof.Rows
noncomputable def yn:Expr->Bool
 |.Name ..=>true
 |.Constant ..=>true
 |.Subscript ..=>true
 |_=>false
def Bm(h:yn o=true):attributeBase o name wz (eval o wz)=eval o wz:=by
 cases o<;>first |rfl |injection h
def HN{Q:Args->Shared->Prop}(h:Q ⟨[],[]⟩ s):wpAny M A (evalArgs f true [] []) Q E s:=by
 unfold evalArgs;show wpAny M A (spliced [] >>=_) Q E s;refine ai (aC (ai (aC ?_)));refine de ?_;exact ai (aC (ai (aC (aC h))))
theorem lJ(items:Array Value):slicePick items none none (some (-1))=items.toList.reverse.toArray:=by
 have hr:sliceRange ((items.size:Int)-1) (-1) (-1)=(List.range items.size).map fun k=>items.size-1-k:=by
  unfold sliceRange;by_cases h:(items.size:Int)-1 > -1
  ·have e:((items.size:Int)-1 - -1 - -1-1)/(- -1)=(items.size:Int):=by
    rw[show(- -1:Int)=1 from rfl,Int.ediv_one];exact ew [_] [] kad (Y5 (Y2 (Y2 (Y2 (Y2 (Y4 V0 J0) J1) (Y3 J1 J0)) (Y3 J1 J0)) J1) (Y4 V0 J0))
   simp only[show ¬((-1:Int)>0) by decide,if_false,h,if_true,e,pn];exact List.map_congr_left fun k hk=>by have:=eZ.mp hk;lia
  ·simp[show items.size=0 by exact aw [_] [] 0x18a50006100803080002800308000 (Y2 V0 J0) (Y8 (Y4 (Y3 J1 J0) (Y2 (Y4 V0 J0) J1)) J0) h]
 have hb:sliceBounds none none (some (-1)) items.size=((items.size:Int)-1,-1,-1):=by simp[sliceBounds]
 unfold slicePick;rw[hb];congr 1;show(sliceRange ((items.size:Int)-1) (-1) (-1)).filterMap (items[·]?)=_;rw[hr,List.filterMap_map];have:∀k∈List.range items.size,((items[·]?)∘fun k=>items.size-1-k) k=some (items.toList.reverse.getD k dI):=by
  intro k hk;have hk:=eZ.mp hk;show items[items.size-1-k]?=_;rw[ck,List.getElem?_reverse (by simpa using hk),e9,sL,qa (by exact aw [_,_] [] kag (Y1 (Y2 (Y2 V0 J1) V1) V0) (Y1 V1 V0) hk)];rfl
 have fm:∀(f:Nat->Option Value) (g:Nat->Value) (l:List Nat),(∀k∈l,f k=some (g k))->l.filterMap f=l.map g:=by
  intro f g l;induction l with
  |nil=>intro _;rfl
  |cons x r ih=>intro h;rw[List.filterMap_cons_some (h x aL),ih fun k hk=>h k (a9 _ hk),er]
 rw[fm _ _ _ this];apply List.ext_getElem
 ·simp
 ·intro i h1 h2;have:i<items.size:=by simpa using h2
  simp[this]
theorem kX(h:gD c wz wu es xs) {A q d k loc φ H s Q E}(hA:bR c A q d φ s.heap)(hF:aq c wz wu k loc φ s.heap)(hS:ak c φ H s)(hw:dC (Calls c) q d k xs loc Q E H) :
  wpAny (model c.prog c.w) A (evalArgs f true (backTo pos (eL es wz)) []) (fun a s'=>wL c φ s (fun vs H=>vs.length=xs.length/\Q vs H) a s') (ay c φ s E) s:=by
 cases es with
 |cons e es=>exact uo h (by simp) hA hF hS hw
 |nil=>
  have hx:xs=[]:=iG.mp h.1.2.symm;subst hx;exact HN (fun Z kJ=>kJ [] rfl φ H [] au.refl hS rL ⟨rfl,hw⟩)
def mM(h:es.all dA=true)(hes:es.length<20):((backTo pos (eL es wz)).all (fun x=>!x.1)&&(backToKw pos (keywordEach [] wz)).all (fun x=>x.1.isSome)
   && decide (es.length+([]:List Keyword).length+(if([]:List Keyword).isEmpty then 0 else 1)<30))=true:=by
 have h3:(backTo pos (eL es wz)).all (fun x=>!x.1)=true:=by
  rw[dQ];intro x hx;have:=List.any_eq_false.mp (vL (wz:=wz) (pos:=pos) h) x hx;rw[Bool.not_eq_true] at this;rw[this];rfl
 exact eQ.mpr ⟨eQ.mpr ⟨h3,rfl⟩,decide_eq_true (cw hes (by decide))⟩
theorem qg{A:Around}(S:ak c φ H s){v:V}(R:ar c φ s.heap v r)(h:Cp m v=true):s.TypeIs r m.on/\(∀a,r=.ref a->∃ob,s.heap.get? a=some ob/\ob.dict=none):=by
 have lst:∀{v},gJ v=true->ar c φ s.heap v r->s.TypeIs r "list"/\(∀a,r=.ref a->∃ob,s.heap.get? a=some ob/\ob.dict=none):=fun{v} h R=>by
  cases v with
  |lst i=>
   have R0:=R;obtain⟨a,_,ha⟩:=R0;refine(S.getP R (bp (S.len▸(gG.mp ha).1))) _ fun a us n wk Z ho Z Z Z=>?_;subst wk;exact⟨⟨_,ho,rfl⟩,fun a h=>by(injection h with Ja;subst Ja);exact⟨_,ho,rfl⟩⟩
  |_=>injection h
 cases m with
 |join=>
  cases v with
  |str x=>obtain⟨t,rfl⟩:=R;exact⟨typeIs_str _ _ _,fun a h=>by cases h⟩
  |_=>cases h
 |_=>exact lst h R
def JE(hb:yn o=true)(hl:(apos.endLine==pos.line)=true)(hes:es.length<20)(h1:aQ c wz wu o x)(h2:gD c wz wu es xs) :
  aQ c wz wu (.Call (.Attribute o m.nm apos) es [] pos) (.meth m x xs):=fun A q d k loc φ H s Q E hA hF hS hw=>by
 refine wpAny_Call_method (Bm hb) (mM h2.1.1 hes) hl m.attrs m.slot m.ty (wm (h1 A q d k loc φ H s _ E hA hF hS hw) ?_);rintro r s₁ ⟨φ₁,H₁,v₁,e₁,S₁,R₁,hok,w₁⟩;obtain⟨t1,t2⟩:=qg (A:=A) S₁ R₁ hok;refine⟨t1,t2,vn (by intro a h;injection h) (vL h2.1.1) (a8 (kX h2 (hA.mono e₁) (hF.mono e₁) S₁ w₁) ?_ fun Z Z h=>ay.lift e₁ S₁ h)⟩;rintro _ s₂ w0;refine w0 _ fun rs wk φ₂ H₂ vs e₂ S₂ R₂ eN2=>?_;clear w0;subst wk;obtain⟨l₂,w₂⟩:=eN2;revert w₂;refine xI fun p e w₂=>?_;exact(qD S₂ (ar.mono e₂.toKp ax.nil R₁) R₂ e).use (e₁.trans e₂) w₂
set_option tactic.hygienic true in
def pJ(n:Nat)(i:Int):clipAt n i=qv i n:=by
 have h:=clipAt_cast n i
 unfold qv
 split at h<;>rename_i hi
 ·rw[if_pos hi];exact z6 [_,_,_] [_,_,_] 0x3298e214a000c20380610040001084294a528003081801840900c202006100803080002006010085294001840700c202006100000031c4294001840700c2008000210a5294a000c205006101c04080c01840200c200004008085294001840700c202006100000028852800308060184010000c71085294a528003081202040a00c20380610180408040204000080101085294a50008102803080e0184060102010081000020040e210a5294001840900c203006100c040800010020210a5294001840700c203006100c040800010020 (Y2 V0 V1) (Y4 V0 J0) (Y5 (Y4 V0 J0) V1) (Y7 (Y5 (Y4 V1 J0) (Y0 V0 (Y4 V2 J0))) (Y6 (Y3 (Y0 V0 (Y4 V2 J0)) J0) (Y2 V1 J0))) (Y7 (Y6 (Y5 V1 J0) (Y3 V2 J0)) (Y6 (Y5 V1 V2) (Y3 J0 V2))) (Y7 (Y6 (Y5 V2 (Y0 V0 (Y4 V2 J0))) (Y3 (Y0 V0 (Y4 V2 J0)) (Y4 V2 J0))) (Y6 (Y5 V2 (Y4 V2 J0)) (Y3 (Y4 V2 J0) (Y0 V0 (Y4 V2 J0))))) hi h (Ar.tn _) (Ar.zx _ _) (Ar.zn _ _)
 ·rw[if_neg hi];exact iZ [_,_,_] [_,_,_] 0x192b69084294a5294001840b00c204806101003080401840000c20080801804021085294a50006102c03081201840400c20100610000400c02010a528003080c01840400c20000005b468210a5294a000c206806102c04080801840200c20000c028084294a5294a000c206806102c04081402040400c20100610000308020300a04082108d04214a5294a000c206806102c04080801840200c20000610040601404214a5294a000c206806102c04081402040400c2010061000060140810421214a50006101803080801840000009190a528003080c01840200c2008060408210ada3210a5294a0010206006102803080a02040201020000a02010208423210a5294a50008103003081401840900c2020081008040800028080408210b464214a528003081401840500c201808100005010081042119085294a50006102803081201840400c2018081000050100810421 (Y2 V0 (Y5 V1 V2)) (Y5 (Y4 V0 J0) V0) (Y7 (Y5 (Y4 V1 J0) V1) (Y6 (Y3 V1 J0) (Y2 V1 J0))) (Y7 (Y6 (Y5 V0 J0) (Y3 V2 J0)) (Y6 (Y5 V0 V2) (Y3 J0 V2))) (Y7 (Y6 (Y5 V2 V1) (Y3 V1 (Y4 V2 J0))) (Y6 (Y5 V2 (Y4 V2 J0)) (Y3 (Y4 V2 J0) V1))) h (Ar.tn _) (Ar.zx _ _) (Ar.zn _ _)
theorem ag.drop:∀{l:List V}{rs:List Value},ag c φ h l rs->∀i:Nat,ag c φ h (l.drop i) (rs.drop i)
 |_,_,h,0=>h
 |[],_,h,_+1=>by rw[h.nil_inv];rfl
 |x::xs,_,h,i+1=>by
  refine h.uncons _ fun r rs wk Z h2=>?_;subst wk;exact ag.drop h2 i
theorem ag.take:∀{l:List V}{rs:List Value},ag c φ h l rs->∀i:Nat,ag c φ h (l.take i) (rs.take i)
 |_,_,_,0=>rfl
 |[],_,h,_+1=>by rw[h.nil_inv];rfl
 |x::xs,_,h,i+1=>by
  refine h.uncons _ fun r rs wk h1 h2=>?_;subst wk;exact⟨h1,ag.take h2 i⟩
theorem ag.reverse(hr:ag c φ h l rs):ag c φ h l.reverse rs.reverse:=by
 have wq:=hr.length;refine ag.of_get (by simp[wq]) fun i v r h1 h2=>?_;have hi:i<l.length:=by have:=(gG.mp h1).1;simpa using this
 rw[List.getElem?_reverse hi] at h1;rw[List.getElem?_reverse (by exact aA [_,_,_] [] kan (Y1 V0 V1) (Y2 V1 V2) (Y1 V0 V2) wq hi),wq] at h2;refine(hr.get h1) _ fun r' h3 h4=>?_;replace h3:=ah (h2.symm.trans h3);subst h3;exact h4
def Af(c:Cx)(wz:Env)(wu:Res)(e:Option Expr)(x:Ex):Prop:=
 match e with
 |none=>x=.lit .none
 |some e=>aQ c wz wu e x
theorem EJ(h:Af c wz wu e x) {A q d k loc φ H s Q E}(hA:bR c A q d φ s.heap)(hF:aq c wz wu k loc φ s.heap)(hS:ak c φ H s)(hw:aD (Calls c) q d k x loc Q E H) :
  wpAny (model c.prog c.w) A (evalPart e wz) (aE c φ s Q) (ay c φ s E) s:=by
 cases e with
 |none=>
  obtain rfl:x=.lit .none:=h;rw[evalPart_none];exact aC (aE.at' hS rN hw)
 |some e=>
  rw[evalPart_some];exact h A q d k loc φ H s Q E hA hF hS hw
def ze(r:Value)(n dflt k:Nat):Prop:=∀GJ:Prop,(∀(o:Option Int),IsPart r o->(o.elim dflt (clipAt n)=k)->GJ)->GJ
theorem EU{v:V}{dflt k:Nat}(R:ar c φ h v r)(hb:bound? n dflt v=some k):ze r n dflt k:=by
 cases v with
 |none=>obtain rfl:=R;obtain rfl:=ah hb;exact(fun Z kJ=>kJ none .none rfl)
 |int i=>obtain⟨t,rfl⟩:=R;obtain rfl:=ah hb;exact(fun Z kJ=>kJ (some _) (.int _ _) (pJ _ _))
 |_=>injection hb
theorem nq(S:ak c φ H s){v vl vu:V}{rl ru:Value}(R:ar c φ s.heap v r)(Rl:ar c φ s.heap vl rl)(Ru:ar c φ s.heap vu ru)(e:vy H v vl vu=some u) {E} :
  wpAny (model c.prog c.w) A (subscriptTail o (.Slice lo hi none p) r (.ref s.heap.objs.size)) (aE c φ s fun x H'=>x=u.1/\H'=u.2) E { s with heap:=s.heap.push { cls:=.type "slice",data:=.fields #[rl,ru,.none] } }:=by
 have hsl:qag=2^24:=rfl;refine(wX e) _ fun i xs wk ex g=>?_;subst wk;revert g;refine xB fun i ei g=>?_;revert g;refine xM fun j ej wj=>?_;subst wj;refine(S.getP R ex) _ fun b us n wk hb hob hr hz zz=>?_;subst wk;refine(EU Rl ei) _ fun ol pl el=>?_;refine(EU Ru ej) _ fun ou pu eu=>?_;refine(wY (.Slice lo hi none p) (.ref b) (.ref s.heap.objs.size)) _ fun ops hops=>?_;have hL:=ja hob;refine tail_any (hL.push _).typeIs slot_list_getitem.lookup (wpAny_getItem_list_slice (hL.push _) (Heap.IsSliceOf.new ..) pl pu .none (by simp) ?_ (by exact aA [_,_,_] [] kab (Y0 V0 V1) (Y0 V2 V1) (Y2 V0 V2) hz zz)) hops;have S₄:=S.push { cls:=.type "slice",data:=.fields #[rl,ru,.none] };have e₄:au [] φ s φ { s with heap:=s.heap.push { cls:=.type "slice",data:=.fields #[rl,ru,.none] } }:=au.push;refine aE.lift e₄ (Ag S₄ ?_ ?_)
 ·rw[slicePick_plain,zz,el,eu];exact ag.mono e₄.toKp ax.nil ((hr.drop i).take (j-i))
 ·rw[gP,hZ];exact aB (Nat.min_le_right _ _) (aB (Nat.sub_le _ _) hz)
theorem tN(S:ak c φ H s){v:V}(R:ar c φ s.heap v r)(e:pe H v=some u) {E} :
  wpAny (model c.prog c.w) A (subscriptTail o (.Slice none none (some (.UnaryOp .USub (.Constant (.int 1) n p) p')) p'') r (.ref s.heap.objs.size)) (aE c φ s fun x H'=>x=u.1/\H'=u.2) E { s with heap:=s.heap.push { cls:=.type "slice",data:=.fields #[.none,.none,.int (-1) t] } }:=by
 have hsl:qag=2^24:=rfl;revert e;refine xB fun i hi g=>?_;obtain rfl:=xV hi;revert g;refine xM fun xs ex wj=>?_;subst wj;refine(S.getP R ex) _ fun b us m wk hb hob hr hz zz=>?_;subst wk;refine(wY (.Slice none none (some (.UnaryOp .USub (.Constant (.int 1) n p) p')) p'') (.ref b) (.ref s.heap.objs.size)) _ fun ops hops=>?_;have hL:=ja hob;refine tail_any (hL.push _).typeIs slot_list_getitem.lookup (wpAny_getItem_list_slice (hL.push _) (Heap.IsSliceOf.new ..) .none .none (.int (-1) _) (by simp) ?_ (by exact aA [_,_,_] [] kab (Y0 V0 V1) (Y0 V2 V1) (Y2 V0 V2) hz zz)) hops;have S₄:=S.push { cls:=.type "slice",data:=.fields #[.none,.none,.int (-1) t] };have e₄:au [] φ s φ { s with heap:=s.heap.push { cls:=.type "slice",data:=.fields #[.none,.none,.int (-1) t] } }:=au.push;refine aE.lift e₄ (Ag S₄ ?_ (by rw[List.length_reverse];exact hz));rw[lJ];exact ag.mono e₄.toKp ax.nil hr.reverse
def IP{y z:Ex}(h1:aQ c wz wu o x)(h2:Af c wz wu lo y)(h3:Af c wz wu hi z):aQ c wz wu (.Subscript o (.Slice lo hi none p) pos) (.slice x y z):=fun A q d k loc φ H s Q E hA hF hS hw=>by
 refine Subscript_ (wm (h1 A q d k loc φ H s _ E hA hF hS hw) ?_);rintro r s₁ ⟨φ₁,H₁,v₁,e₁,S₁,R₁,w₁⟩;refine wpAny_Slice (a8 (EJ h2 (hA.mono e₁) (hF.mono e₁) S₁ w₁) ?_ fun Z Z h=>ay.lift e₁ S₁ h);rintro rl s₂ ⟨φ₂,H₂,v₂,e₂,S₂,R₂,w₂⟩;have e12:=e₁.trans e₂;refine a8 (EJ h3 (hA.mono e12) (hF.mono e12) S₂ w₂) ?_ fun Z Z h=>ay.lift e12 S₂ h;rintro ru s₃ ⟨φ₃,H₃,v₃,e₃,S₃,R₃,w₃⟩;revert w₃;refine xI fun u e w₃=>?_;rw[evalPart_none];exact aC (wm (nq S₃ (ar.mono (e₂.trans e₃).toKp ax.nil R₁) (ar.mono e₃.toKp ax.nil R₂) R₃ e) (fun Z Z h=>aE.lift (e12.trans e₃) (h.eq w₃)))
def DG(h1:aQ c wz wu o x):aQ c wz wu (.Subscript o (.Slice none none (some (.UnaryOp .USub (.Constant (.int 1) n p) p')) p'') pos) (.rev x):=fun A q d k loc φ H s Q E hA hF hS hw=>by
 refine Subscript_ (wm (h1 A q d k loc φ H s _ E hA hF hS hw) ?_);rintro r s₁ ⟨φ₁,H₁,v₁,e₁,S₁,R₁,w₁⟩;revert w₁;refine xI fun u e w₁=>?_;refine wpAny_Slice ?_;rw[evalPart_none];refine aC (aC ?_);rw[evalPart_some];refine wpAny_UnaryOp (wpAny_Constant_int (PyProof.Rows.neg_int ?_));have et:au [] φ₁ s₁ φ₁ { s₁ with toks:=s₁.toks+1+1 }:=au.of_heap rfl rfl;exact wm (tN (S₁.tok (s₁.toks+1+1)) R₁ e) (fun Z Z h=>aE.lift (e₁.trans et) (h.eq w₁))
end
set_option maxRecDepth 100000
variable {e l:Addr}{f:iJ->iJ}{hi lo:Int}{m:Str->Option Value}{o:Obj}{rs:List Nat}{t:String}{u:V}{x:Value}{xs:Array Value}
section
open PySem PyProof.Rows
noncomputable def rvT:String:="list_reverseiterator"
noncomputable def vQ(l:Addr)(i:Int):Obj:={ cls:=.type rvT,data:=.fields #[.ref l,rawInt i] }
inductive fU(h:Heap)(I l:Addr)(i:Int):Prop
 |mk (o:Obj)(ho:h.get? I=some o)(hc:o.cls=.type rvT)(hd:o.data=.fields #[.ref l,rawInt i])
def mi:Manifest.owners.lookup (String.ofList ['r','o','t','a','r','e','t','i','e','s','r','e','v','e','r','_','t','s','i','l'].reverse)=some Manifest.sig_list_reverseiterator:=by kernel_rfl
def xf:Slot rvT "__next__" "list_reverseiterator.__next__":=
 .of (owner:=rvT) (n:="__next__") (by rw[vO,vV];kernel_rfl) (by decide +kernel) (by decide +kernel) (by decide +kernel) (.inl (by decide +kernel)) (by rw[isSubtype_type];kernel_rfl)
def Go:Slot rvT "__iter__" "list_reverseiterator.__iter__":=
 .of (owner:=rvT) (n:="__iter__") (by rw[vO,vV];kernel_rfl) (by decide +kernel) (by decide +kernel) (by decide +kernel) (.inl (by decide +kernel)) (by rw[isSubtype_type];kernel_rfl)
def D7(a:Value):argsOk "list_reverseiterator.__next__" ⟨[a],[]⟩:=by
 unfold argsOk;rw[signature?_of (id:="list_reverseiterator.__next__") (n:=['_','_','t','x','e','n','_','_']) (o:=['r','o','t','a','r','e','t','i','e','s','r','e','v','e','r','_','t','s','i','l']) (by kernel_rfl) mi];kernel_rfl
def G5(a:Value):argsOk "list_reverseiterator.__iter__" ⟨[a],[]⟩:=by
 unfold argsOk;rw[signature?_of (id:="list_reverseiterator.__iter__") (n:=['_','_','r','e','t','i','_','_']) (o:=['r','o','t','a','r','e','t','i','e','s','r','e','v','e','r','_','t','s','i','l']) (by kernel_rfl) mi];kernel_rfl
def Ge:entryFor table "list_reverseiterator.__next__"=some Builtin.«list_reverseiterator.__next__»:=entryFor_of_tree (by kernel_rfl)
theorem IR:entryFor table "list_reverseiterator.__iter__"=some Builtin.«dict_keyiterator.__iter__»:=
 entryFor_alias (id':="dict_keyiterator.__iter__") (by kernel_rfl) (by first |rfl |decide +kernel |(unfold String.splitOn;simp +decide [String.splitOnAux])) (by decide +kernel) (by kernel_rfl)
def kF:mroOf (.type "reversed")=pure [.type "reversed",.type "object"]:=by rw[mroOf_type];kernel_rfl
def o9:Bind.madeBy (.type "reversed")=pure (some "reversed.__new__"):=
 madeBy_type kF (by rw[vO,vV];kernel_rfl) (by decide +kernel)
def jM:entryFor table "reversed.__new__"=some Builtin.«reversed.__new__»:=entryFor_of_tree (by kernel_rfl)
def FP:plainId "reversed.__new__"=true:=by decide +kernel
def fU.ty{i:Int}(h:fU s.heap I l i):s.TypeIs (.ref I) rvT:=let⟨o,ho,hc,_⟩:=h;⟨o,ho,hc⟩
theorem jH (hl : s.heap.IsList l xs) (h : Q (.ref s.heap.objs.size) { s with heap := s.heap.push (vQ l ((xs.size : Int) - 1)) }) : wpAny (model prog w) A (call (.type "reversed") [.ref l]) Q E s := by
 obtain ⟨o, ho, hc, n, hd⟩ := id hl;refine wpAny_call (codeAny_of_tree ?_);show wpAny _ _ (callAny (.type "reversed") _) _ _ _;refine aC ⟨Code.quiet_builtin _ (by decide +kernel), codeAny_builtin F.entry_type_call ?_⟩;rw [Around.under_plain (weight_type_call_type "reversed" [.ref l] []) rfl];have h1 : (jc "reversed" == jc "type") = false := by decide +kernel
 have h2 : ((Manifest.find? "reversed").bind (·.mro.findSome? fun t => (Manifest.find? t).bind fun b => if b.noNew then some true else if b.attrs.any (·.1 == "__new__") then some false else none)).getD false = false := by decide +kernel
 have h3 := o9;have h4 : isSubtype (.type rvT) (.type "reversed") = pure false := by rw [isSubtype_type]; kernel_rfl
 have h5 : checkTypeCall "reversed" ⟨[cF l], []⟩ = pure () := by kernel_rfl
 have h6 := kF;repeat (any_goals (first | assumption | wp_step))
 refine sJ (R := fun r s' => r = .ok (.ret (.ref s.heap.objs.size)) /\ s' = { s with heap := s.heap.push (vQ l ((xs.size : Int) - 1)) }) ?_ ?_
 ·refine codeAny_of_tree ?_;show wpAny _ A.in1.in1 (do xr "reversed.__new__" ⟨[.type "reversed", .ref l], []⟩; again (.builtin "reversed.__new__" ⟨[.type "reversed", .ref l], []⟩)) _ _ s;refine ai (mX (a := ()) (by kernel_rfl) (aC ⟨plainId_quiet FP _, codeAny_builtin jM ?_⟩));rw [Around.under_plainId FP _];unfold Builtin.«reversed.__new__»;have hself : isSubtype (.type "reversed") (.type "reversed") = pure true := by rw [isSubtype_type]; kernel_rfl
  refine ai (mX (a := (jc "reversed", [cF l])) ?_ ?_)
  ·unfold Builtin.SmallTypes.newClass;simp only [isType, hself, pure_bind, Bool.not_true, gw, if_false]
  refine ai (mX (a := ()) (by first | rfl | kernel_rfl) ?_);refine ai (mX (a := ()) (by first | rfl | kernel_rfl) ?_);dsimp only;refine ai (wpAny_specialOf hl.typeIs F.slot_list_reversed.lookup ?_);dsimp only;refine ai (mX (F.slot_list_reversed.bind _) ?_);show wpAny _ _ (if (iN "list.__reversed__" == dI) = true then _ else _) _ _ _;rw [if_neg (show ¬ ((iN "list.__reversed__" == dI) = true) from Bool.false_ne_true)];refine ai (wpAny_rule ?_);refine ai (m := runValue (.call (.builtin "list.__reversed__") ⟨[.ref l], []⟩)) (show wpAny _ _ (call (.builtin "list.__reversed__") [.ref l]) _ _ _ from ?_);refine tO F.slot_list_reversed hl.typeIs F.entry_list_reversed ?_ (F.args_list_reversed_1 _);unfold Builtin.«list.__reversed__»;refine ai (mX (a := cF l) rfl ?_);refine ai (wpAny_listItems ho hd ?_);refine ai (nC (aC ⟨_, rfl, ?_⟩));exact aC ⟨rfl, rfl⟩
 ·rintro r s' ⟨rfl, rfl⟩;have hT : ({ s with heap := s.heap.push (vQ l ((xs.size : Int) - 1)) } : Shared).TypeIs (.ref s.heap.objs.size) rvT := ⟨_, dw _ rfl, rfl⟩;repeat (any_goals (first | assumption | wp_step))
theorem nW {Q : Option Value -> Shared -> Prop} (hI : fU s.heap I l (i : Int)) (hl : s.heap.IsList l xs) (hx : xs[i]? = some x) (hQ : ∀ h', fU h' I l ((i : Int) - 1) -> iy I s.heap h' -> Q (some x) { s with heap := h' }) : wpAny (model prog w) A (pyNext (.ref I)) Q E s := by
 obtain ⟨ol, hol, _, nl, hdl⟩ := hl;have hT := hI.ty;obtain ⟨o, ho, hc, hd⟩ := hI;unfold pyNext;refine ai (wpAny_attempt (wpAny_callSpecial?_slot (name := ao "__next__") hT xf (tO xf hT Ge ?_ (D7 _))));unfold Builtin.«list_reverseiterator.__next__»;refine ai (mX (a := (cF I, [])) rfl ?_);refine ai (qu ho hd (x := rawInt (i : Int)) rfl ?_);show wpAny _ _ (if (i : Int) < 0 then _ else _) _ _ s;rw [if_neg (Int.not_lt.mpr (hV i))];show wpAny _ _ (field (.ref I) 0 >>= _) _ _ s;refine ai (qu ho hd (x := .ref l) rfl ?_);show wpAny _ _ (seqItems? (.ref l) >>= _) _ _ s;refine ai (wpAny_seqItems hol hdl ?_);simp only [pn, hx];refine ai (wpAny_setField ho hd (by simp) ?_);first
  | refine aC ⟨x, rfl, aC (hQ _ ?_ (qo ..))⟩
  | refine ai (aC (aC ⟨x, rfl, aC (hQ _ ?_ (qo ..))⟩))
 exact ⟨_, gc _ ho (Obj.isFreed_of_fields (Obj.data_mapFields hd _)), (Obj.cls_mapFields ..).trans hc, by rw [Obj.data_mapFields hd]; simp⟩
theorem pV{Q:Option Value->Shared->Prop}(hh:A.handled=none)(hI:fU s.heap I l (-1)) (hQ:∀h',Heap.ExtBut I s.heap h'->Q none { s with heap:=h' }):wpAny (model prog w) A (pyNext (.ref I)) Q E s:=by
 have hT:=hI.ty;obtain⟨o,ho,hc,hd⟩:=hI;unfold pyNext;refine ai (wpAny_attempt (wpAny_callSpecial?_slot (name:=ao "__next__") hT xf (tO xf hT Ge ?_ (D7 _))));unfold Builtin.«list_reverseiterator.__next__»;refine ai (mX (a:=(cF I,[])) rfl ?_);refine ai (qu ho hd (x:=rawInt (-1)) rfl ?_);show wpAny _ _ (if(-1:Int)<0 then _ else _) _ _ s;rw[if_pos (by decide)];refine ai (wpAny_rule ?_);refine ai ?_;show wpAny _ _ (newExc (.type "StopIteration") [] >>=_) _ _ _;refine ai ?_;simp only[newExc,newTuple];refine ai (nC ?_ (by size_fits));refine ai (m:=firstArgMember _ _) (mX (a:=dI) (by first |rfl |(simp only[firstArgMember];rfl)) ?_);refine nC ?_ (by size_fits);unfold raiseNew;refine ai (wpAny_handled ?_);first |rw[show A.in1.handled=none from hh] |rw[hh]
 refine ai (aC (wpAny_throw ?_));refine ai (wpAny_isInstance (T:="StopIteration") (b:=true) ⟨_,dw _ rfl,rfl⟩ isSubtype_stop ?_);exact aC (hQ _ (((Heap.ExtBut.refl _ _).push _).push _))
def FD{i:Int}(hI:fU s.heap I l i)(h:Q (.ref I) s):wpAny (model prog w) A (pyIter (.ref I)) Q E s:=by
 refine wpAny_pyIter_slot hI.ty Go (tO Go hI.ty IR ?_ (G5 _));show wpAny _ _ (ret (.ref I)) _ _ s;exact aC ⟨_,rfl,rvT,_,hI.ty,xf.lookup,h⟩
end
variable {Q:Env->Shared->Prop}{l:List Env}{x:Str}{xs:List Addr}
section
open PySem PyProof.Rows
def cf(wr:List Addr)(s s':Shared):Prop:=(∀b o,b∉wr->s.heap.get? b=some o->s'.heap.get? b=some o)/\s'.gens=s.gens/\s'.os=s.os
noncomputable def uc:Value->Bool
 |.type t=>["list_iterator","tuple_iterator","range_iterator","longrange_iterator","str_iterator","str_ascii_iterator","enumerate","zip","list_reverseiterator"].contains t
 |_=>false
theorem pR{v:Value}(h:uc v=true):hid v=true:=by
 cases v with
 |type t=>exact List.contains_iff_mem.mpr (.tail _ (.tail _ (.tail _ (List.contains_iff_mem.mp h))))
 |_=>injection h
def tx{v w:Value}(h:uc v=true)(hw:uc w=false):v≠w:=fun q=>by rw[q,hw] at h;injection h
def HV(h:uc (bz ps).cls=true):False:=nomatch h
inductive oP(c:Cx)(φ:List Addr)(h:Heap)(b:Addr):Prop
 |mk (h1:b∉φ)(h2:c.h0.get? b=none)(o:Obj)(h3:h.get? b=some o)(h4:uc o.cls=true)(h5:∀es n,o.data≠.dict es n):oP c φ h b
def oP.out(q:oP c φ h b):b∉φ/\c.h0.get? b=none:=let⟨h1,h2,_,_,_,_⟩:=q;⟨h1,h2⟩
def cI(c:Cx)(wr φ:List Addr)(h:Heap):Prop:=∀b∈wr,oP c φ h b
def cf.kp(h:cf wr s s')(x:cI c wr φ s.heap):Kp wr φ s.heap φ s'.heap:=
 ⟨nv,fun b o hb Z hX Z=>h.1 b o hX hb,fun Z h=>.inl h,fun b o es n hb Z hd=>⟨o,es,n,h.1 b o (fun hw=>by
  obtain⟨_,_,o',h1,_,h2⟩:=x b hw;replace h1:=ah (hb.symm.trans h1);subst h1;exact h2 _ _ hd) hb,hd,.rfl⟩,fun b o vs C hb Z hc hd=>⟨vs,by
  rw[<- hd];refine h.1 b o (fun hw=>?_) hb;obtain⟨_,_,o',h1,h2,_⟩:=x b hw;replace h1:=ah (hb.symm.trans h1);subst h1;rw[hc] at h2;injection h2⟩⟩
def cI.own(x:cI c wr φ h):ax c wr h:=fun b hb o ho=>by
 obtain⟨_,_,o',h1,h2,_⟩:=x b hb;replace h1:=ah (ho.symm.trans h1);subst h1;exact .inl (pR h2)
def cI.kp(x:cI c wr φ h)(e:Kp X φ h φ' h')(hX:∀b∈wr,b∉X):cI c wr φ' h':=fun b hb=>by
 obtain⟨h1,h2,o,h3,h4,h5⟩:=x b hb;exact⟨e.notin h3 h1,h2,o,e.keep b o h3 h1 (hX b hb) (jX (tx h4 rfl) (tx h4 rfl)),h4,h5⟩
def ak.kept(S:ak c φ H s)(h:cf wr s s')(x:cI c wr φ s.heap):ak c φ H s':=
 S.mono (h.kp x) x.own (fun b hb=>(x b hb).out.2) (fun a ha o ho=>h.1 a o (fun hw=>(x a hw).out.1 ha) ho) (fun b o hb Z=>h.1 b o (fun hw=>by exact cq (((x b hw).out.2).symm.trans hb)) (S.stays b o hb)) (h.2.1.trans S.gens) fun b Z hb=>h.1 b _ (fun hw=>by obtain⟨_,_,o1,h1,h2,_⟩:=x b hw;replace h1:=ah (hb.symm.trans h1);subst h1;exact HV h2) hb
def au.kept(e:au X φ s φ₁ s₁)(h:cf wr s₁ s₂)(hn:∀b∈wr,s.heap.get? b=none):au X φ s φ₁ s₂:=
 have out:∀{b o},s.heap.get? b=some o->b∉wr:=fun hb q=>by exact cq ((hn _ q).symm.trans hb)
 { pre:=e.pre
   keep:=fun b o hb hφ hX hc=>h.1 b o (out hb) (e.keep b o hb hφ hX hc)
   new:=e.new
   frame:=fun b o hb hφ hX hc=>let⟨sl,h₁⟩:=e.frame b o hb hφ hX hc;⟨sl,h.1 b _ (out hb) h₁⟩
   tabs:=fun b o hb hφ hX hc=>let⟨o',h₁,c₁⟩:=e.tabs b o hb hφ hX hc;⟨o',h.1 b _ (out hb) h₁,c₁⟩
   dict:=fun b o es n hb hφ hd=>let⟨o₁,es₁,n₁,h₁,d₁⟩:=e.dict b o es n hb hφ hd;⟨o₁,es₁,n₁,h.1 b _ (out hb) h₁,d₁⟩
   exc:=fun b o vs C hb hφ hc hd=>let⟨vs₁,h₁⟩:=e.exc b o vs C hb hφ hc hd;⟨vs₁,h.1 b _ (out hb) h₁⟩
   alive:=fun b o hb hX=>let⟨o',h'⟩:=e.alive b o hb hX;⟨o',h.1 b o' (out hb) h'⟩
   os:=h.2.2.trans e.os }
def rE(c:Cx)(A:Around)(it:Value)(tg:Expr)(wr:List Addr)(s:Shared)(P:Heap->Value->Prop)(E:Value->Shared->Prop)(r:Option Value)(s₁:Shared):Prop:=∀GJ:Prop,(∀(v:Value),(r=some v)->(wpAny (model c.prog c.w) A (letOwnedTupleGo tg it v) (fun Z s₂=>cf wr s s₂/\P s₂.heap v) E s₁)->GJ)->GJ
structure lu(c:Cx)(A:Around)(it:Value)(tg:Expr)(wr:List Addr)(items:List V)(ok:Hp->Prop)(St:Nat->List Addr->Heap->Prop):Prop where
 seen:∀i φ h,St i φ h->cI c wr φ h
 frame:∀i X φ φ' h h',St i φ h->Kp X φ h φ' h'->ax c X h->(∀b∈wr,b∉X)->St i φ' h'
 item:∀i x φ H s E,items[i]?=some x->St i φ s.heap->ak c φ H s->ok H->
  wpAny (model c.prog c.w) A (pyNext it) (rE c A it tg wr s (fun h v=>St (i+1) φ h/\ar c φ h x v) E) E s
 done:∀φ H s E,St items.length φ s.heap->ak c φ H s->ok H->wpAny (model c.prog c.w) A (pyNext it) (fun r s₁=>r=none/\cf wr s s₁) E s
 self:∀i φ s Q E,St i φ s.heap->Q it s->wpAny (model c.prog c.w) A (pyIter it) Q E s
theorem DL{t:Nat}(hs:iy I s.heap h'):cf [I] s { s with heap:=h',toks:=t }:=
 ⟨fun b o hb ho=>(hs.2 b (by simpa using hb)).trans ho,rfl,rfl⟩
theorem vd{t:Nat}(hs:Heap.ExtBut I s.heap h'):cf [I] s { s with heap:=h',toks:=t }:=
 ⟨fun b o hb ho=>hs b o (by simpa using hb) ho,rfl,rfl⟩
set_option backward.match.sparseCases true in
theorem Ka{v:Value}{Q:Unit->Shared->Prop}(ho:s.heap.get? I=some o)(hc:o.cls=.type t)(ht:["enumerate","zip","dict_itemiterator","dict_reverseitemiterator","odict_iterator","itertools.zip_longest","itertools.pairwise"].contains t=false)
  (h:Q () s):wpAny M A (letOwnedTupleGo tg (.ref I) v) Q E s:=by
 have key:wpAny M A (do
  let(.ref r,.ref a):=(cF I,v) |return
  let o<-load r
  match o.cls,o.data with
  |.type n,.fields vs=>
   if["enumerate","zip","dict_itemiterator","dict_reverseitemiterator","odict_iterator","itertools.zip_longest","itertools.pairwise"].contains n&&vs[0]?==some (rawInt a) then
    rule "for.unpacks-the-owned-tuple"
    updateField r 0 .none
  |_,_=>pure ()) Q E s:=by
  cases v<;>first |exact aC h |skip
  refine ai (wpAny_load ho ?_)
  rw[hc]
  cases o.data<;>first |exact aC h |skip
  dsimp only
  rw[ht]
  exact aC h
 cases tg<;>first |exact aC h |exact key
inductive iw(h:Heap)(I:Addr)(t:String):Prop
 |mk (o:Obj)(h1:h.get? I=some o)(h2:o.cls=.type t)(vs:Array Value)(h3:o.data=.fields vs):iw h I t
def cI.one(hφ:I∉φ)(h0:c.h0.get? I=none)(ho:iw h I t)(ht:uc (.type t)=true):cI c [I] φ h:=fun b hb=>by
 rw[aV.mp hb];obtain⟨o,h1,h2,vs,h3⟩:=ho;exact⟨hφ,h0,o,h1,by rw[h2];exact ht,fun es n q=>by rw[h3] at q;injection q⟩
def cI.keepOne(x:cI c [I] φ h)(e:Kp X φ h φ' h')(hX:∀b∈[I],b∉X)(ho:h.get? I=some o):h'.get? I=some o:=by
 obtain⟨h1,_,o',h3,h4,_⟩:=x I aL;obtain rfl:=ah (ho.symm.trans h3);exact e.keep I o ho h1 (hX I aL) (jX (tx h4 rfl) (tx h4 rfl))
def vg{x:V}{v:Value}{P:Heap->Prop}(its:cI c [I] φ s.heap)(hs:iy I s.heap h')(ho:iw h' I t)(ht:["enumerate","zip","dict_itemiterator","dict_reverseitemiterator","odict_iterator","itertools.zip_longest","itertools.pairwise"].contains t=false) (hP:P h') (R:ar c φ s.heap x v):rE c A (.ref I) tg [I] s (fun h v=>P h/\ar c φ h x v) E (some v) { s with heap:=h',toks:=tk }:=by
 obtain⟨o,h1,h2,_,_⟩:=ho;have k:=DL (t:=tk) hs;exact(fun Z kJ=>kJ v rfl (Ka h1 h2 ht ⟨k,hP,ar.mono (k.kp its) its.own R⟩))
inductive sa(φ:List Addr)(h:Heap)(I a:Addr)(j i:Nat):Prop
 |mk (it:h.IsListIter I a i)(ha:φ[j]?=some a)(hI:I∉φ):sa φ h I a j i
def sa.one(q:sa φ h I a j i):iw h I "list_iterator":=let⟨⟨o,h1,h2,h3⟩,_,_⟩:=q;⟨o,h1,h2,_,h3⟩
def sa.its(h0:c.h0.get? I=none)(q:sa φ h I a j i):cI c [I] φ h:=cI.one (let⟨_,_,h⟩:=q;h) h0 q.one rfl
def lZ(hh:A.handled=none)(h0:c.h0.get? I=none) :
  lu c A (.ref I) tg [I] items (fun H=>H[j]?=some items) (fun i φ h=>sa φ h I a j i) where
 seen i φ h st:=st.its h0
 frame i X φ φ' h h' st e hX hw:=by
  have it:=st.its h0
  obtain⟨⟨o,ho,r⟩,h2,h3⟩:=st
  exact⟨⟨o,it.keepOne e hw ho,r⟩,wN e.pre h2,e.notin ho h3⟩
 item i x φ H s E hx st S hok:=by
  have it:=st.its h0
  obtain⟨st1,ha,hI⟩:=st
  refine(S.lists j items hok) _ fun b o vs n h1 h2 h3 h4 h5 Z=>?_
  obtain rfl:=ah (ha.symm.trans h1)
  refine(ag.get h5 hx) _ fun v hv hr=>?_
  exact wpAny_pyNext_list_item st1 ⟨o,h2,h3,n,h4⟩ (x:=v) (qO hv) fun h' hit hs=>vg (tk:=s.toks) it hs (sa.one ⟨hit,ha,hI⟩) (by decide) ⟨hit,ha,hI⟩ hr
 done φ H s E st S hok:=by
  obtain⟨st1,ha,hI⟩:=st
  refine(S.lists j items hok) _ fun b o vs n h1 h2 h3 h4 h5 Z=>?_
  obtain rfl:=ah (ha.symm.trans h1)
  refine wpAny_pyNext_list_end hh st1 ⟨o,h2,h3,n,h4⟩ ?_ fun h' hs=>⟨rfl,vd hs⟩
  rw[<- ag.length h5,e9];exact Array.getElem?_eq_none (aN _)
 self i φ s Q E st hq:=let⟨h,_,_⟩:=st;wpAny_pyIter_listiter h hq
inductive zG(c:Cx)(φ:List Addr)(h:Heap)(I:Addr)(r:Value)(items:List V)(i:Nat):Prop
 |mk (a:Addr)(hr:r=.ref a)(it:h.IsTupleIter I a i)(R:ar c φ h (.tup items) r)(hI:I∉φ):zG c φ h I r items i
def zG.its(h0:c.h0.get? I=none)(q:zG c φ h I r items i):cI c [I] φ h:=let⟨_,_,⟨o,h1,h2,h3⟩,_,h4⟩:=q;cI.one h4 h0 ⟨o,h1,h2,_,h3⟩ rfl
def Kz(hh:A.handled=none)(h0:c.h0.get? I=none) :
  lu c A (.ref I) tg [I] items (fun Z=>True) (fun i φ h=>zG c φ h I r items i) where
 seen i φ h st:=st.its h0
 frame i X φ φ' h h' st e hX hw:=by
  have it:=st.its h0
  obtain⟨a,hr,⟨o,h1,h2,h3⟩,h4,h5⟩:=st
  exact⟨a,hr,⟨o,it.keepOne e hw h1,h2,h3⟩,ar.mono e hX h4,e.notin h1 h5⟩
 item i x φ H s E hx st S hok:=by
  have its:=st.its h0
  obtain⟨a,hr,hit,hR,hI⟩:=st
  have hR':=hR
  obtain⟨a',o,vs,n,rfl,ha,ho,hc,hd,hz,hl⟩:=hR
  (injection hr with Ja;subst Ja)
  refine(ag.get hl hx) _ fun v hv hrv=>?_
  exact wpAny_pyNext_tuple_item hit ⟨o,ho,hc,n,hd⟩ (x:=v) (qO hv) fun h' hit' hs=>vg (tk:=s.toks) its hs (let⟨o,h1,h2,h3⟩:=hit';⟨o,h1,h2,_,h3⟩) (by decide) ⟨_,rfl,hit',ar.mono ((DL (t:=s.toks) hs).kp its) its.own hR',hI⟩ hrv
 done φ H s E st S hok:=by
  obtain⟨a,hr,hit,hR,hI⟩:=st
  obtain⟨a',o,vs,n,rfl,ha,ho,hc,hd,hz,hl⟩:=hR
  (injection hr with Ja;subst Ja)
  refine wpAny_pyNext_tuple_end hh hit ⟨o,ho,hc,n,hd⟩ ?_ fun h' hs=>⟨rfl,vd hs⟩
  rw[<- ag.length hl,e9];exact Array.getElem?_eq_none (aN _)
 self i φ s Q E st hq:=let⟨_,_,h,_,_⟩:=st;wpAny_pyIter_tupleiter h hq
inductive zW(φ:List Addr)(h:Heap)(I:Addr)(lo st:Int)(n i:Nat):Prop
 |mk (hi:i<=n)(it:IsRangeIter h I (lo+(i:Int)*st) ((n:Int)-i) st)(hI:I∉φ):zW φ h I lo st n i
def zW.its(h0:c.h0.get? I=none)(q:zW φ h I lo st n i):cI c [I] φ h:=let⟨_,h1,h2⟩:=q;cI.one (t:="range_iterator") h2 h0 ⟨_,h1,rfl,_,rfl⟩ rfl
def Iw(hh:A.handled=none)(h0:c.h0.get? I=none) :
  lu c A (.ref I) tg [I] ((List.range n).map fun(i:Nat)=>V.int (lo+(i:Int)*st)) (fun Z=>True) (fun i φ h=>zW φ h I lo st n i) where
 seen i φ h q:=q.its h0
 frame i X φ φ' h h' q e hX hw:=by
  have it:=q.its h0
  obtain⟨q1,q2,q3⟩:=q
  exact⟨q1,it.keepOne e hw q2,e.notin q2 q3⟩
 item i x φ H s E hx q S hok:=by
  have its:=q.its h0
  obtain⟨_,q2,q3⟩:=q
  have hi:i<n:=by
   have:=(gG.mp hx).1
   rw[aG,dj] at this;exact this
  rw[bL,mO hi] at hx
  obtain rfl:=ah hx
  refine wpAny_pyNext_range_item q2 (by exact aw [_,_] [] kaa (Y4 J0 (Y2 (Y4 V0 J0) (Y4 V1 J0))) (Y1 V1 V0) hi) fun h' hit hs=>vg its hs ⟨_,hit,rfl,_,rfl⟩ (by decide) ⟨hi,?_,q3⟩ rI
  have e1:lo+((i+1:Nat):Int)*st=lo+(i:Int)*st+st:=by rw[Int.natCast_succ,Int.add_mul,Int.one_mul,Int.add_assoc]
  have e2:(n:Int)-((i+1:Nat):Int)=(n:Int)-i-1:=by exact ew [_,_] [] kad (Y5 (Y2 (Y4 V0 J0) (Y4 (Y0 V1 J1) J0)) (Y2 (Y2 (Y4 V0 J0) (Y4 V1 J0)) J1))
  rw[e1,e2];exact hit
 done φ H s E q S hok:=by
  rw[aG,dj] at q
  obtain⟨_,q2,_⟩:=q
  exact wpAny_pyNext_range_end hh q2 (by exact ew [_] [] 171801870336 (Y3 (Y2 (Y4 V0 J0) (Y4 V0 J0)) J0)) fun h' hs=>⟨rfl,vd hs⟩
 self i φ s Q E q hq:=let⟨_,h,_⟩:=q;wpAny_pyIter_rangeiter h hq
theorem oy(hh:A.handled=none){t:Tok}(h0:c.h0.get? I=none) :
  lu c A (.ref I) tg [I] (x.cps.toList.map fun c=>.str ⟨#[c]⟩) (fun Z=>True) (fun i φ h=>h.IsStrIter I "str_ascii_iterator" x t i/\I∉φ) where
 seen i φ h q:=cI.one q.2 h0 (let⟨o,h1,h2,h3⟩:=q.1;⟨o,h1,h2,_,h3⟩) rfl
 frame i X φ φ' h h' q e hX hw:=by
  have it:=cI.one (c:=c) (t:="str_ascii_iterator") q.2 h0 (let⟨o,h1,h2,h3⟩:=q.1;⟨o,h1,h2,_,h3⟩) rfl
  obtain⟨⟨o,ho,r⟩,h3⟩:=q
  exact⟨⟨o,it.keepOne e hw ho,r⟩,e.notin ho h3⟩
 item i y φ H s E hx q S hok:=by
  rw[bL] at hx
  refine xC (x.cps[i]?) (fun hc=>?_) fun k hc=>?_
  ·simp[hc] at hx
  ·simp[hc] at hx;subst hx
   exact wpAny_pyNext_ascii_item q.1 hc fun h' hit hs=>vg (cI.one (t:="str_ascii_iterator") q.2 h0 (let⟨o,h1,h2,h3⟩:=q.1;⟨o,h1,h2,_,h3⟩) rfl) hs (let⟨o,h1,h2,h3⟩:=hit;⟨o,h1,h2,_,h3⟩) (by decide) ⟨hit,q.2⟩ rS
 done φ H s E q S hok:=by
  simp only[aG,e9] at q
  exact wpAny_pyNext_ascii_end hh q.1 (by simp) fun h' hs=>⟨rfl,vd hs⟩
 self i φ s Q E q hq:=wpAny_pyIter_striter_ascii q.1 hq
inductive zB(φ:List Addr)(h:Heap)(I a:Addr)(j n i:Nat):Prop
 |mk (it:fU h I a ((n:Int)-1-i))(ha:φ[j]?=some a)(hI:I∉φ):zB φ h I a j n i
def zB.its(h0:c.h0.get? I=none)(q:zB φ h I a j n i):cI c [I] φ h:=let⟨⟨o,h1,h2,h3⟩,_,h4⟩:=q;cI.one h4 h0 ⟨o,h1,h2,_,h3⟩ rfl
def oQ(hh:A.handled=none)(h0:c.h0.get? I=none) :
  lu c A (.ref I) tg [I] items.reverse (fun H=>H[j]?=some items) (fun i φ h=>zB φ h I a j items.length i) where
 seen i φ h st:=st.its h0
 frame i X φ φ' h h' st e hX hw:=by
  have it:=st.its h0
  obtain⟨⟨o,ho,r1,r2⟩,h2,h3⟩:=st
  exact⟨⟨o,it.keepOne e hw ho,r1,r2⟩,wN e.pre h2,e.notin ho h3⟩
 item i x φ H s E hx st S hok:=by
  have its:=st.its h0
  obtain⟨st1,ha,hI⟩:=st
  refine(S.lists j items hok) _ fun b o vs n h1 h2 h3 h4 h5 Z=>?_
  obtain rfl:=ah (ha.symm.trans h1)
  have hi:i<items.length:=by have:=(gG.mp hx).1;rw[List.length_reverse] at this;exact this
  rw[List.getElem?_reverse hi] at hx
  refine(ag.get h5 hx) _ fun v hv hr=>?_
  have e0:(items.length:Int)-1-i=((items.length-1-i:Nat):Int):=by exact aw [_,_] [] 0x618ca528003080c01840400c20080a100025084a100023410a528003081001840600c20080001a085294a000c206006102803080e01840100005294001840800c202006100005080012842508001 (Y5 (Y2 (Y2 (Y4 V0 J0) J1) (Y4 V1 J0)) (Y4 (Y2 (Y2 V0 J1) V1) J0)) (Y1 V1 V0) hi
  rw[e0] at st1
  refine nW st1 ⟨o,h2,h3,n,h4⟩ (qO hv) fun h' hit hs=>vg (t:=rvT) (tk:=s.toks) its hs (let⟨o,h1,h2,h3⟩:=hit;⟨o,h1,h2,_,h3⟩) (by decide) ⟨?_,ha,hI⟩ hr
  have:(items.length:Int)-1-((i+1:Nat):Int)=((items.length-1-i:Nat):Int)-1:=by exact aw [_,_] [] kae (Y5 (Y2 (Y2 (Y4 V0 J0) J1) (Y4 (Y0 V1 J1) J0)) (Y2 (Y4 (Y2 (Y2 V0 J1) V1) J0) J1)) (Y5 (Y2 (Y2 (Y4 V0 J0) J1) (Y4 V1 J0)) (Y4 (Y2 (Y2 V0 J1) V1) J0)) e0
  rw[this];exact hit
 done φ H s E st S hok:=by
  rw[List.length_reverse] at st
  obtain⟨st1,_,_⟩:=st
  have:(items.length:Int)-1-(items.length:Int) = -1:=by exact ew [_] [] kad (Y5 (Y2 (Y2 (Y4 V0 J0) J1) (Y4 V0 J0)) (Y3 J1 J0))
  rw[this] at st1
  exact pV hh st1 fun h' hs=>⟨rfl,vd hs⟩
 self i φ s Q E st hq:=let⟨h,_,_⟩:=st;FD h hq
theorem I9:∀{i:Nat}{n:Int}{x:V},(uL n items)[i]?=some x->∃v,items[i]?=some v/\x=.tup [.int (n+i),v]:=by
 induction items with
 |nil=>exact fun h=>nomatch h
 |cons y ys ih=>
  intro i n x h;cases i with
  |zero=>obtain rfl:=ah h;exact⟨y,rfl,by rw[show n+((0:Nat):Int)=n from Int.add_zero n]⟩
  |succ i=>
   obtain⟨v,h1,h2⟩:=ih (n:=n+1) (i:=i) h;exact⟨v,h1,by rw[h2,Int.add_assoc,Int.add_comm 1];rfl⟩
theorem Gr:∀{n:Int},(uL n items).length=items.length:=by
 induction items with
 |nil=>intro n;rfl
 |cons y ys ih=>exact fun{n}=>congrArg (· + 1) (ih (n:=n+1))
inductive zq(φ:List Addr)(h:Heap)(e I a:Addr)(j i:Nat):Prop
 |mk (old:Value)(he:IsEnum h e I (i:Int) old)(it:h.IsListIter I a i)(ha:φ[j]?=some a)(hI:I∉φ)(hE:e∉φ):zq φ h e I a j i
def zq.its(h0:c.h0.get? I=none)(h0':c.h0.get? e=none)(q:zq φ h e I a j i):cI c [e,I] φ h:=fun b hb=>by
 obtain⟨old,he,⟨o,h1,h2,hd⟩,h3,h4,h5⟩:=q;rcases bc.mp hb with rfl |hb
 ·exact⟨h5,h0',_,he,rfl,fun es n q=>by injection q⟩
 ·rw[aV.mp hb];exact⟨h4,h0,o,h1,by rw[h2];rfl,fun es n q=>by rw[hd] at q;injection q⟩
def lM(hh:A.handled=none) {x1}(h0:c.h0.get? I=none)(h0':c.h0.get? e=none)(hne:e≠I) :
  lu c A (.ref e) (.Tuple es x1 pos) [e,I] (uL 0 items) (fun H=>H[j]?=some items) (fun i φ h=>zq φ h e I a j i) where
 seen i φ h st:=st.its h0 h0'
 frame i X φ φ' h h' st k hX hw:=by
  obtain⟨old,he,⟨o,h1,h2,hd⟩,h3,h4,h5⟩:=st
  exact⟨old,k.keep e _ he h5 (hw e aL) rfl,⟨o,k.keep I o h1 h4 (hw I (a9 _ aL)) (by rw[h2];decide),h2,hd⟩,wN k.pre h3,k.notin h1 h4,k.notin he h5⟩
 item i x φ H s E hx st S hok:=by
  have its:=st.its h0 h0'
  obtain⟨old,he,hit,h3,h4,h5⟩:=st
  refine(S.lists j items hok) _ fun b o vs n h1 h2 h3' h4' h5' Z=>?_
  obtain rfl:=ah (h3.symm.trans h1)
  obtain⟨v0,hv0,rfl⟩:=I9 hx
  refine(ag.get h5' hv0) _ fun v hv hr=>?_
  refine wpAny_pyNext_enum_item he hit ⟨o,h2,h3',n,h4'⟩ (x:=v) (qO hv) hne fun h' heo hit' ht hz hk=>(fun Z kJ=>kJ _ rfl ?_)
  refine wpAny_letOwnedTupleGo_enum heo fun h'' he'' hs''=>?_
  have heT:e≠s.heap.objs.size:=cj (f9 he)
  have kept:cf [e,I] s { s with heap:=h'',toks:=s.toks+1 }:=
   ⟨fun b o hb ho=>(hs''.2 b (fun q=>hb (by rw[q];exact aL))).trans (hk b o (fun q=>hb (by rw[q];exact aL)) (fun q=>hb (by rw[q];exact a9 _ aL)) ho),rfl,rfl⟩
  refine⟨kept,⟨_,he'',hit'.extBut hs''.extBut (cS hne),h3,h4,h5⟩,?_⟩
  exact dU.mk s.heap.objs.size _ _ _ rfl S.new ((hs''.2 _ (cS heT)).trans ht) rfl rfl (by show 2<=qag;decide) ⟨⟨s.toks,by rw[Int.zero_add]⟩,ar.mono (kept.kp its) its.own hr,rfl⟩
 done φ H s E st S hok:=by
  obtain⟨old,he,hit,h3,h4,h5⟩:=st
  refine(S.lists j items hok) _ fun b o vs n h1 h2 h3' h4' h5' Z=>?_
  obtain rfl:=ah (h3.symm.trans h1)
  rw[Gr] at he hit
  refine wpAny_pyNext_enum_end hh he hit ⟨o,h2,h3',n,h4'⟩ ?_ fun h' hs=>⟨rfl,fun b o hb ho=>hs b o (fun q=>hb (by rw[q];exact a9 _ aL)) ho,rfl,rfl⟩
  rw[<- ag.length h5',e9];exact Array.getElem?_eq_none (aN _)
 self i φ s Q E st hq:=let⟨_,he,_,_,_,_⟩:=st;wpAny_pyIter_enum he hq
end
variable {e:Expr}{n:Str}{ps:List Str}{st:Stmt}{t:Nat}{tk:Tok}
section
open PySem PyProof.Rows
def JR{es:List iJ}(hk:∀e∈es,∃n t,e.key=.str n t)(hi:es.findIdx? (fun e=>e.key.isStr n)=none):n∉es.map fun e=>lW e.key:=fun hm=>by
 revert hm;refine xL fun e he wj=>?_;subst wj;have h:=List.findIdx?_eq_none_iff.mp hi e he;obtain⟨x,t,q⟩:=hk e he;rw[q] at h;exact absurd (show(x==x)=true from beq_self_eq_true _) (by rw[show(x==x)=false from h];exact Bool.false_ne_true)
theorem F5(hf:∀e,(f e).key=e.key):∀(es:List iJ)(i:Nat),(es.modify i f).map (fun e=>lW e.key)=es.map fun e=>lW e.key
 |[],_=>by rw[List.modify_nil]
 |e::es,0=>by rw[List.modify_zero_cons,er,er,hf]
 |e::es,i+1=>by rw[List.modify_succ_cons,er,er,F5 hf es i]
theorem Ky(M:Model)(Γ:Ctx)(E:Value->Pos->Shared->Prop)(p:Pos)(s:Shared) {m}(hn:s.heap.Ns a m)(hoo:s.heap.get? a=some o)(name:Str)(v:Value)(Q:Unit->Pos->Shared->Prop) (hQ:∀h',h'.Ns a (fun x=>if x=name then some v else m x)->iy a s.heap h'->(∃o',h'.get? a=some o'/\dz o o')->
   Q () p { s with heap:=h',toks:=s.toks+1 }):Sem.wp M Γ (nsSet a name v) Q E p s:=by
 obtain⟨o1,es,ep,ho,hd,hk,hm⟩:=hn;replace ho:=ah (hoo.symm.trans ho);subst ho;have ho:=hoo;simp only[nsSet,strHash,Sem.wp_bind',Sem.wp_cmd_ask,Sem.wp_pure',Sem.wp_cmd_mkText];rw[Sem.wp_loadPart_of M Γ E p { s with toks:=s.toks+1 } (o:=o) _ ho];have hany:es.any (·.refKey)=false:=by
  rw[Array.any_eq_false'];intro e he;obtain⟨n,t,h⟩:=hk e he;simp[DictEntry.refKey,h]
 simp only[hd,aRefKeyMayBeTheName_eq,aRefKeyMayBeTheNameByArray,hany,Bool.and_false,gw,if_false,Sem.wp_cmd_updatePart];refine⟨by rw[ho];rfl,hQ _ ?_ (qo ..) ?_⟩
 ·obtain⟨c,d,dt,sl⟩:=o;subst hd;refine xC (es.findIdx? (·.key.isStr name)) (fun hi=>?_) fun i hi=>?_
  ·refine⟨_,_,ep+1,gc _ ho (by simp only[jE,mR,hi];rfl),by simp only[jE,mR,hi];rfl,hk.push _ _ _ _,fun x=>?_⟩;show _=if x=name then some v else m x;rw[<- hm];exact findBy_push (fun n v=>v.isStr n) es name x _ _ v (fun y=>by
    show(name==y)=decide (y=name);by_cases h:y=name
    ·subst h;simp
    ·have:¬name=y:=fun e=>h e.symm;simp[h,this]) hi
  ·refine⟨_,_,ep,gc _ ho (by simp only[jE,mR,hi];rfl),by simp only[jE,mR,hi];rfl,hk.modify _ _,fun x=>?_⟩;show _=if x=name then some v else m x;rw[<- hm];exact findBy_modify (fun n v=>v.isStr n) Value.isStr_inj es name x v i hi
 ·obtain⟨c,d,dt,sl⟩:=o;subst hd;refine xC (es.findIdx? (·.key.isStr name)) (fun hi=>?_) fun i hi=>?_
  ·refine⟨_,gc _ ho (by simp only[jE,mR,hi];rfl),?_⟩;simp only[jE,mR,hi];refine .mk rfl fun es1 n es' n' q1 q2 g=>?_;(injection q1 with Ja Jb;subst Jb;subst Ja);(injection q2 with Ja Jb;subst Jb;subst Ja);obtain⟨l⟩:=es;refine⟨g.1.push _ _ _ _,?_⟩;rw[Array.toList_push,du];exact List.nodup_append.mpr ⟨g.2,mT.mpr ⟨gq,List.nodup_nil⟩,fun x hx y hy e=>JR (n:=name) (fun e he=>hk e (List.mem_toArray.mpr he)) (by rw[List.findIdx?_toArray] at hi;exact hi) (by rw[aV.mp hy] at e;rw[show x=name from e] at hx;exact hx)⟩
  ·refine⟨_,gc _ ho (by simp only[jE,mR,hi];rfl),?_⟩;simp only[jE,mR,hi];refine .mk rfl fun es1 n es' n' q1 q2 g=>?_;(injection q1 with Ja Jb;subst Jb;subst Ja);(injection q2 with Ja Jb;subst Jb;subst Ja);exact⟨g.1.modify _ _,by rw[Array.toList_modify,F5 (f:=fun e=>{ e with val:=v }) fun Z=>rfl];exact g.2⟩
def zv{m}{v:Value}{Q:Unit->Shared->Prop}(hl:wz.kindOf name=some .local)(hf:wz.scope.kind=.function) (hn:s.heap.Ns wz.locals m) (ho:s.heap.get? wz.locals=some o) (h:∀h',h'.Ns wz.locals (fun x=>if x=name then some v else m x)->iy wz.locals s.heap h'->(∃o',h'.get? wz.locals=some o'/\dz o o')->Q () { s with heap:=h',toks:=s.toks+1 }):wpAny M A (storeName wz name v) Q E s:=by
 rw[storeName_local hl (by rw[hf];rfl)];exact fun Γ p Z=>Ky M Γ _ p s hn ho name v _ h
def Gp{r:Option Value}{v:Value}{Q:Unit->Shared->Prop}(hf:wz.scope.kind=.function)(hl:wz.kindOf name=some .cell) (hc:wz.cells.lookup name=some ca) (ho:s.heap.get? ca=some o) (hd:o.data=.cell r) (h:∀h',h'.get? ca=some { o with data:=.cell (some v) }->iy ca s.heap h'->Q () { s with heap:=h' }):wpAny M A (storeName wz name v) Q E s:=by
 unfold storeName;rw[hl,hf];change wpAny M A (cellOf wz name >>=_) Q E s;refine ai (wpAny_cellOf hc ?_);unfold cellSet;refine ai (wpAny_load ho ?_);rw[hd];exact wpAny_update ho (h _ (gc _ ho rfl) (qo ..))
def yG(F:aq c wz wu k loc φ s.heap)(ho:s.heap.get? wz.locals=some o):own c wz.locals o:=by
 obtain⟨m,⟨⟨o1,es,ep,h1,h2,_,h3⟩,o2,h4,h5⟩,_,_⟩:=F.ns;obtain rfl:=ah (ho.symm.trans h1);obtain rfl:=ah (ho.symm.trans h4);rcases h5 with h5 |h5
 ·exact .inl (by rw[h5.1];decide)
 ·exact .inr (.inr (.inl ⟨h5.1,es,ep,h2,(h3 _).trans h5.2.1⟩))
def A0(F:aq c wz wu k loc φ s.heap)(hx:wz.cells.lookup x=some ca)(ho:s.heap.get? ca=some o):own c ca o:=by
 obtain⟨_,_,o',h1,h2⟩:=F.cells x ca hx;obtain rfl:=ah (ho.symm.trans h1);exact .inl (by rw[h2];decide)
def FG{o:Option V}(h:i<loc.length):(loc.set i o).getD i none=o:=by rw[ck,iz h];rfl
def Al{o:Option V}(h:j≠i):(loc.set i o).getD j none=loc.getD j none:=by rw[ck,iF (cS h),ck]
def vH(keep:∀b o,b≠a->s.heap.get? b=some o->h'.get? b=some o)
  (hd:∀o es n,s.heap.get? a=some o->o.data=.dict es n->∃o' es' n',h'.get? a=some o'/\o'.data=.dict es' n'/\dz o o') (hx:∀o vs,s.heap.get? a=some o->o.data≠.fields vs):Kp [a] φ s.heap φ h' where
 pre:=nv
 keep b o hb _ hX _:=keep b o (fun e=>hX (by rw[e];exact aL)) hb
 new _ h:=.inl h
 dict b o es n hb _ hdd:=by
  by_cases e:b=a
  ·subst e;exact hd o es n hb hdd
  ·exact⟨o,es,n,keep b o e hb,hdd,.rfl⟩
 exc b o vs _ hb _ _ hdd:=by
  by_cases e:b=a
  ·subst e;exact absurd hdd (hx o vs hb)
  ·exact⟨vs,by rw[<- hdd];exact keep b o e hb⟩
inductive bA(c:Cx)(wz:Env)(wu:Res)(k:cZ)(loc:Loc)(φ:List Addr)(H:Hp)(X:List Addr)(s:Shared)(s':Shared):Prop
 |mk (F:aq c wz wu k loc φ s'.heap)(S:ak c φ H s')(e:au X φ s φ s')(kp:cf X s s'):bA c wz wu k loc φ H X s s'
structure SlotPut(wu res':Res)(x:Str)(i:Nat):Prop where
 n:res'.n=wu.n
 fr:res'.fr=wu.fr
 sub:∀y j,res'.lookup y=some j->(y=x/\j=i)\/(y≠x/\wu.lookup y=some j/\j≠i)
 lt:i<wu.n
 nj:x≠b7
 na:x≠ao "at"\/wu.fr=true
def CE(F:aq c wz wu k loc φ s.heap)(S:ak c φ H s)(P:SlotPut wu res' x i)(hs':iy a s.heap h') (hd:∀o es n,s.heap.get? a=some o->o.data=.dict es n->∃o' es' n',h'.get? a=some o'/\o'.data=.dict es' n'/\dz o o') (hx:∀o vs,s.heap.get? a=some o->o.data≠.fields vs) (hal:∃o,h'.get? a=some o) (ow:∀o,s.heap.get? a=some o->own c a o) (ha0:c.h0.get? a=none) (haφ:a∉φ) (haX:a∈X) (room:d6 wz res'.fr h' m) (sx:iU c φ h' wz m x ov) (sy:∀y j,y≠x->wu.lookup y=some j->Kp [a] φ s.heap φ h'->ax c [a] s.heap->iU c φ h' wz m y (loc.getD j none)) (clo:∀kk z,k=some (kk,z)->Kp [a] φ s.heap φ h'->ax c [a] s.heap->ku c wz m kk z φ h') (cells:∀y ca,wz.cells.lookup y=some ca->bf c φ h' ca) :
  bA c wz res' k (loc.set i ov) φ H X s { s with heap:=h',toks:=t }:=by
 have keep:∀b o,b≠a->s.heap.get? b=some o->h'.get? b=some o:=fun b o hb ho=>(hs'.2 b hb).trans ho;have kp:=vH (φ:=φ) keep hd hx;have owx:ax c [a] s.heap:=fun b hb o ho=>by rw[aV.mp hb] at ho ⊢;exact ow o ho
 refine⟨⟨F.fn,F.gl,F.bl,⟨m,room,fun y j hy=>?_,fun kk z hz=>clo kk z hz kp owx⟩,by rw[P.n,fW];exact F.len,F.Lφ,F.L0,cells⟩,?_,?_,fun b o hb ho=>keep b o (fun q=>hb (q▸haX)) ho,rfl,rfl⟩
 ·rcases P.sub y j hy with⟨rfl,rfl⟩|⟨e,hy,hji⟩
  ·rw[FG (dg P.lt F.len)];exact sx
  ·rw[Al hji];exact sy y j e hy kp owx
 ·exact S.mono (s':={ s with heap:=h',toks:=t }) kp owx (fun b hb=>by rw[aV.mp hb];exact ha0) (fun b hb o ho=>keep b o (fun q=>haφ (q▸hb)) ho) (fun b o hb Z=>keep b o (fun q=>by rw[q,ha0] at hb;injection hb) (S.stays b o hb)) S.gens fun b ps hb=>keep b _ (fun q=>hx _ ps (q▸hb) rfl) hb
 ·exact au.of_own (s':={ s with heap:=h',toks:=t }) hs' haX hd hal rfl hx
def GA{v:V}(F:aq c wz wu k loc φ s.heap)(S:ak c φ H s)(P:SlotPut wu res' x i)(hXL:wz.locals∈X)(hk:wz.kindOf x=some .local)(R:ar c φ s.heap v r) :
  wpAny (model c.prog c.w) A (storeName wz x r) (fun Z s'=>bA c wz res' k (loc.set i (some v)) φ H X s s') E s:=by
 obtain⟨m,⟨hn,oL,hoL,hcL⟩,hsl,hjo⟩:=F.ns;refine zv hk F.fn hn hoL fun h' hn' hs' hc'=>?_;obtain⟨o',ho',hcls'⟩:=hc';have hnf:∀o vs,s.heap.get? wz.locals=some o->o.data≠.fields vs:=fun o vs ho hd=>by
  obtain⟨o1,es1,n1,h1,h2,_⟩:=hn;obtain rfl:=ah (ho.symm.trans h1);rw[h2] at hd;injection hd
 have hdd:∀o es n,s.heap.get? wz.locals=some o->o.data=.dict es n->∃o' es' n',h'.get? wz.locals=some o'/\o'.data=.dict es' n'/\dz o o':=fun o es n ho Z=>by
  obtain⟨o1,es1,n1,h1,h2,_⟩:=hn';obtain rfl:=ah (ho'.symm.trans h1);obtain rfl:=ah (hoL.symm.trans ho);exact⟨o',es1,n1,ho',h2,hcls'⟩
 have hcL':∀y ca,wz.cells.lookup y=some ca->ca≠wz.locals:=fun y ca hy q=>by
  obtain⟨_,_,o1,h1,h2⟩:=F.cells y ca hy;rw[q] at h1;obtain rfl:=ah (hoL.symm.trans h1);rcases hcL with h |h
  ·rw[h2] at h;exact absurd h.1 (by decide)
  ·rw[h2] at h;exact absurd h.1 (by decide)
 have cs:∀z ca,wz.cells.lookup z=some ca->ca∉[wz.locals]/\bf c φ s.heap ca:=fun z ca hz=>⟨fun q=>hcL' z ca hz (aV.mp q),F.cells z ca hz⟩;have kp:=vH (φ:=φ) (fun b o hb ho=>(hs'.2 b hb).trans ho) hdd hnf;have ow:ax c [wz.locals] s.heap:=fun b hb o ho=>by rw[aV.mp hb] at ho ⊢;exact yG F ho
 refine CE (m:=fun y=>if y=x then some r else m y) F S P hs' hdd hnf ⟨o',ho'⟩ (fun o ho=>yG F ho) F.L0 F.Lφ hXL ⟨hn',o',ho',?_⟩ ?_ (fun y j hy hj kp ow=>?_) (fun kk z hz kp ow=>?_) fun y ca hy=>?_
 ·rcases hcL with h |h
  ·exact .inl ⟨hcls'.cls.trans h.1,P.fr.trans h.2⟩
  ·refine .inr ⟨hcls'.cls.trans h.1,?_,P.fr.trans h.2.2⟩;rcases P.na with hat |h2
   ·rw[if_neg (cS hat)];exact h.2.1
   ·rw[h.2.2] at h2;injection h2
 ·unfold iU;rw[hk];exact .yes v r (if_pos rfl) (ar.mono kp ow R)
 ·have hsy:=(hsl y j hj).mono (s:=s) (s':={ s with heap:=h' }) kp ow cs;exact iA.imp hsy (fun Z h=>by show cA _ _ _ (if y=x then _ else _) _;rw[if_neg hy];exact h) id
 ·refine(hjo kk z hz) _ fun h3 fv h4 h5=>?_;exact(fun Z kJ=>kJ h3 fv ((if_neg (cS P.nj)).trans h4) (h5.mono (s:=s) (s':={ s with heap:=h' }) kp ow fun ca o ho Z hlt q=>absurd (aV.mp q) (cj hlt)))
 ·obtain⟨h1,h2,o1,h3,h4,h5⟩:=F.cells y ca hy;exact⟨h1,h2,o1,(hs'.2 ca (hcL' y ca hy)).trans h3,h4,h5⟩
def nV(wz:Env)(X:List Addr)(h:Heap)(x:Str):Prop:=∀GJ:Prop,(∀(ca:Addr),∀(r:Option Value),(wz.cells.lookup x=some ca)->h.IsCell ca r->wz.locals<ca->ca∈X->(∀y,wz.cells.lookup y=some ca->y=x)->GJ)->GJ
def Kc{v:V}(F:aq c wz wu k loc φ s.heap)(S:ak c φ H s)(P:SlotPut wu res' x i)(hk:wz.kindOf x=some .cell)(hc:nV wz X s.heap x)(R:ar c φ s.heap v r) :
  wpAny (model c.prog c.w) A (storeName wz x r) (fun Z s'=>bA c wz res' k (loc.set i (some v)) φ H X s s') E s:=by
 obtain⟨m,⟨hn,oL,hoL,hcL⟩,hsl,hjo⟩:=F.ns;refine hc _ fun ca r0 hca eN1 hlt0 hcX hap=>?_;clear hc;obtain⟨oc,hoc,hdc⟩:=eN1;obtain⟨hcφ,hc0,oc',hoc',hcc⟩:=F.cells x ca hca;obtain rfl:=ah (hoc.symm.trans hoc');refine Gp F.fn hk hca hoc hdc fun h' ho' hs'=>?_;have hLc:wz.locals≠ca:=cj hlt0;have no:∀{P:Prop} o,s.heap.get? ca=some o->(∀r,o.data≠.cell r)->P:=fun o ho h=>by
  obtain rfl:=ah (hoc.symm.trans ho);exact absurd hdc (h _)
 have hdd:∀o es n,s.heap.get? ca=some o->o.data=.dict es n->∃o' es' n',h'.get? ca=some o'/\o'.data=.dict es' n'/\dz o o':=fun o es n ho hd=>no o ho fun r q=>by rw[hd] at q;injection q
 have hnf:∀o vs,s.heap.get? ca=some o->o.data≠.fields vs:=fun o vs ho hd=>no o ho fun r q=>by rw[hd] at q;injection q
 have kp:=vH (φ:=φ) (fun b o hb ho=>(hs'.2 b hb).trans ho) hdd hnf;have ow:ax c [ca] s.heap:=fun b hb o ho=>by rw[aV.mp hb] at ho ⊢;exact A0 F hca ho
 have cell:∀{y cy r},y≠x->wz.cells.lookup y=some cy->s.heap.IsCell cy r->h'.IsCell cy r:=fun{y cy r} e h1 ⟨o1,h2,h2'⟩=>⟨o1,(hs'.2 cy fun q=>e (hap y (q▸h1))).trans h2,h2'⟩;refine CE (m:=m) (t:=s.toks) F S P hs' hdd hnf ⟨_,ho'⟩ (fun o ho=>A0 F hca ho) hc0 hcφ hcX ⟨hn.sameBut hs' hLc,oL,(hs'.2 _ hLc).trans hoL,P.fr▸hcL⟩ ?_ (fun y j hy hj kp ow=>?_) (fun kk z hz kp ow=>?_) fun y cy hy=>?_
 ·unfold iU;rw[hk];exact .yes v ca r hca ⟨_,ho',rfl⟩ (ar.mono kp ow R)
 ·exact iA.imp (hsl y j hj) (fun Z h=>cA.mono (s:=s) (s':={ s with heap:=h' }) kp ow h) (bj.imp (fun cy ry h1 h2=>cell hy h1 h2) fun v r h=>ar.mono kp ow h)
 ·refine(hjo kk z hz) _ fun h3 fv h4 h5=>?_;exact(fun Z kJ=>kJ h3 fv h4 (h5.mono (s:=s) (s':={ s with heap:=h' }) kp ow fun cb o ho Z hlt q=>absurd (aV.mp q) (cj (cw hlt hlt0))))
 ·obtain⟨h1,h2,o1,h3,h4,h5⟩:=F.cells y cy hy;by_cases q:cy=ca
  ·subst q;obtain rfl:=ah (hoc.symm.trans h3);exact⟨h1,h2,_,ho',h4,_,rfl⟩
  ·exact⟨h1,h2,o1,(hs'.2 cy q).trans h3,h4,h5⟩
end
variable {f:Flow}{t:Tok}
section
open PySem PyProof.Rows
theorem kb(hh:A.handled=none)(h0:c.h0.get? I=none) :
  lu c A (.ref I) tg [I] (x.cps.toList.map fun c=>.str ⟨#[c]⟩) (fun Z=>True) (fun i φ h=>h.IsStrIter I "str_iterator" x t i/\I∉φ) where
 seen i φ h q:=cI.one q.2 h0 (let⟨o,h1,h2,h3⟩:=q.1;⟨o,h1,h2,_,h3⟩) rfl
 frame i X φ φ' h h' q e hX hw:=by
  have it:=cI.one (c:=c) (t:="str_iterator") q.2 h0 (let⟨o,h1,h2,h3⟩:=q.1;⟨o,h1,h2,_,h3⟩) rfl
  obtain⟨⟨o,ho,r⟩,h3⟩:=q
  exact⟨⟨o,it.keepOne e hw ho,r⟩,e.notin ho h3⟩
 item i y φ H s E hx q S hok:=by
  rw[bL] at hx
  refine xC (x.cps[i]?) (fun hc=>?_) fun k hc=>?_
  ·simp[hc] at hx
  ·simp[hc] at hx;subst hx
   exact wpAny_pyNext_wide_item q.1 hc fun h' hit hs=>vg (cI.one (t:="str_iterator") q.2 h0 (let⟨o,h1,h2,h3⟩:=q.1;⟨o,h1,h2,_,h3⟩) rfl) hs (let⟨o,h1,h2,h3⟩:=hit;⟨o,h1,h2,_,h3⟩) (by decide) ⟨hit,q.2⟩ rS
 done φ H s E q S hok:=by
  simp only[aG,e9] at q
  exact wpAny_pyNext_wide_end hh q.1 (by simp) fun h' hs=>⟨rfl,vd hs⟩
 self i φ s Q E q hq:=wpAny_pyIter_striter_wide q.1 hq
def wF(c:Cx)(A:Around)(φ:List Addr)(s:Shared)(tg:Expr)(items:List V)(ok:Hp->Prop)(H:Hp)(it:Value)(s':Shared):Prop:=∀GJ:Prop,(∀(wr:List Addr),∀(St:Nat->List Addr->Heap->Prop),au [] φ s φ s'->ak c φ H s'->lu c A it tg wr items ok St->St 0 φ s'.heap->(∀b∈wr,s.heap.get? b=none)->GJ)->GJ
def xy{ok:Hp->Prop}{St:Nat->List Addr->Heap->Prop}(S:ak c φ H s)(hI:I=s.heap.objs.size)(h:lu c A (.ref I) tg [I] items ok St)(hst:St 0 φ (s.heap.push o)):wF c A φ s tg items ok H (.ref I) { s with heap:=s.heap.push o }:=by
 subst hI;exact(fun Z kJ=>kJ _ _ au.push (S.push o) h hst (fun b hb=>by rw[aV.mp hb];exact fz (aN _)))
theorem Ew(hh:A.handled=none)(S:ak c φ H s){v:V}(R:ar c φ s.heap v r)(hs:ff H v=some items) :
  wpAny (model c.prog c.w) A (pyIter r) (wF c A φ s tg items (gx v items) H) E s:=by
 have h0:=S.h0_new (aN s.heap.objs.size);cases v with
 |str x=>
  obtain rfl:=ah hs;obtain⟨t,rfl⟩:=R;refine xD (x.cps.all (· < 128)) (fun ha=>?_) fun ha=>?_
  ·exact wpAny_pyIter_ascii ha (xy S rfl (oy hh (t:=t) h0) ⟨⟨_,dw _ rfl,rfl,rfl⟩,S.new⟩)
  ·exact wpAny_pyIter_wide ha (xy S rfl (kb hh (t:=t) h0) ⟨⟨_,dw _ rfl,rfl,rfl⟩,S.new⟩)
 |tup l=>
  obtain rfl:=ah hs;have R':=R;obtain⟨a,o,vs,n,rfl,ha,ho,hc,hd,hz,hl⟩:=R;exact wpAny_pyIter_tuple ⟨o,ho,hc,n,hd⟩ (xy S rfl (Kz hh (r:=.ref a) h0) ⟨a,rfl,⟨_,dw _ rfl,rfl,rfl⟩,ar.mono (au.push (X:=[]) (s:=s)).toKp ax.nil R',S.new⟩)
 |lst j=>
  refine(S.getP R hs) _ fun a vs n wk ha ho Z Z Z=>?_;subst wk;exact wpAny_pyIter_list (ja ho) (xy S rfl (lZ hh (a:=a) (j:=j) h0) ⟨⟨_,dw _ rfl,rfl,rfl⟩,ha,S.new⟩)
 |rng lo hi st=>
  obtain rfl:=ah hs;obtain⟨a,t,u,v,rfl,ha,hr,hb⟩:=R;refine wpAny_pyIter_range hr (BI hb) ?_;rw[Ax lo hi st hb.2.2.1];have e:eA lo hi st=(List.range (eA lo hi st).length).map fun(i:Nat)=>V.int (lo+(i:Int)*st):=by
   rw[A9];rfl
  generalize(eA lo hi st).length=n at e ⊢;rw[e];refine xy S rfl (Iw hh (lo:=lo) (st:=st) (n:=n) h0) ⟨dF _,?_,S.new⟩;have:=dw (h:=s.heap) (o:={ cls:=.type "range_iterator",data:=.fields #[rawInt lo,rawInt (n:Int),rawInt st] }) rfl;simpa using this
 |_=>injection hs
end
variable {I:Loc->(Bool->Hp->Prop)->Hp->Prop}{r:List (Str×aT)}{t:Tg}
section
open PySem PyProof.Rows
theorem JY{target:Expr}{scope:Scope}{acc:Value}(I:Nat->Shared->Prop) (turn:∀n s,I n s->wpAny (model prog w) A (pyNext it) (fun r s₁=>match r with
   |none=>R (.ok .next) s₁
   |some v=>wpAny (model prog w) A (letOwnedTupleGo target it v) (fun Z s₁'=>wpAny (model prog w) A (assign target wz v) (fun Z s₂=>
     wpAny (model prog w) A (forIn ifs true fun c r=>if r=true then do let ok<-isTrue c wz (eval c wz);pure (rC ok) else pure (rC r)) (fun ok s₃=>
      if ok=true then wpAny (model prog w) A (eval elt wz) (fun x s₄=>
       wpAny (model prog w) A (call (.builtin "list.append") [acc,x]) (fun Z s₅=>∃m,m<n/\I m s₅) (fun Z Z=>False) s₄) (fun Z Z=>False) s₃
      else ∃m,m<n/\I m s₃) (fun Z Z=>False) s₂) (fun Z Z=>False) s₁') (fun Z Z=>False) s₁) (fun Z Z=>False) s)
  (n:Nat) (h:I n s) :
  codeAny (model prog w) A (.compLoop (.ListComp elt [⟨target,iter,ifs,0⟩] scope pos) 0 it acc wz) R s:=by
 refine codeAny_loop rfl I (fun n s hI=>?_) n h;show wpAny _ A ((compTurn (.ListComp elt [⟨target,iter,ifs,0⟩] scope pos) 0 it acc wz).onRaise (fun x=>do noteFrame x wz;theTreesLotGoes x)) _ _ s;refine wpAny_noted ?_;rw[compTurn_list];refine ai (i5 (ai (a8 (turn n s hI) (fun r s₁ h₁=>?_) fun Z Z h'=>h'.elim)));cases r with
 |none=>exact aC h₁
 |some v=>
  refine ai (a8 h₁ (fun Z s₁' h₁'=>?_) fun Z Z h'=>h'.elim);refine ai (a8 h₁' (fun Z s₂ h₂=>ai (a8 h₂ (fun ok s₃ h₃=>?_) fun Z Z h'=>h'.elim)) fun Z Z h'=>h'.elim);cases ok with
  |false=>exact aC ⟨rfl,h₃⟩
  |true=>
   exact ai (ai (a8 h₃ (fun x s₄ h₄=>ai (a8 h₄ (fun Z s₅ h₅=>aC (aC ⟨rfl,h₅⟩)) fun Z Z h'=>h'.elim)) fun Z Z h'=>h'.elim))
noncomputable def eM(wz:Env):List (Str×aT)->List (Str×Addr)->List (Str×Addr)
 |[],acc=>acc
 |(n,k)::r,acc=>if k==.free then eM wz r ((n,(wz.cells.lookup n).getD 0)::acc) else eM wz r acc
theorem Co{k:aT}:eM wz ((n,k)::r) acc=if k==.free then eM wz r ((n,(wz.cells.lookup n).getD 0)::acc) else eM wz r acc:=rfl
theorem Ez(f:Str×aT->List (Str×Addr)->Sem (ForInStep (List (Str×Addr)))) (hf:∀n k cs,f (n,k) cs=if k==.free then(do let a<-cellOf wz n;pure (.yield ((n,a)::cs))) else pure (.yield cs)) :
  ∀(names:List (Str×aT)) (acc:List (Str×Addr)),(∀n,(n,eG)∈names->∃ca,wz.cells.lookup n=some ca)->forIn names acc f=pure (eM wz names acc)
 |[],acc,_=>List.forIn_nil
 |(n,k)::r,acc,h=>by
  have ih:=fun acc=>Ez f hf r acc fun n hn=>h n (a9 _ hn);rw[List.forIn_cons,hf];rw[Co];by_cases hk:(k==eG)=true
  ·rw[if_pos hk,if_pos hk];have hk':k=.free:=by simpa using hk
   subst hk';obtain⟨ca,hca⟩:=h n aL;simp only[cellOf,hca,Option.getD_some];simp only[pure_bind];exact ih _
  ·rw[if_neg hk,if_neg hk];simp only[pure_bind];exact ih _
theorem Jf{scope:Scope}(h:∀n,(n,eG)∈scope.names->∃ca,wz.cells.lookup n=some ca):closureFor scope wz=pure (eM wz scope.names []):=by
 unfold closureFor;have:=Ez (wz:=wz) (fun x r=>match x with
  |(name,kind)=>if(kind==eG)=true then(do let a<-cellOf wz name;pure (.yield ((name,a)::r))) else pure (.yield r)) (fun n k cs=>rfl) scope.names [] h
 simp only[bind_pure] at this ⊢;exact this
set_option tactic.hygienic true in
theorem vv:∀{names:List (Str×aT)} {acc:List (Str×Addr)} {x:Str} {ca:Addr},(eM wz names acc).lookup x=some ca ->
  acc.lookup x=some ca\/((x,eG)∈names/\ca=(wz.cells.lookup x).getD 0)
 |[],acc,x,ca,h=>.inl h
 |(n,k)::r,acc,x,ca,h=>by
  rw[Co] at h
  split at h
  ·rename_i hk
   have hk':k=.free:=by simpa using hk
   subst hk'
   rcases vv h with h |h
   ·rw[cW] at h
    refine xD (x==n) (fun hb=>?_) fun hb=>?_
    ·rw[hb] at h
     have:=beq_iff_eq.mp hb;subst this
     (injection h with Ja;subst Ja)
     exact .inr ⟨aL,rfl⟩
    ·rw[hb] at h;exact .inl h
   ·exact .inr ⟨a9 _ h.1,h.2⟩
  ·rcases vv h with h |h
   ·exact .inl h
   ·exact .inr ⟨a9 _ h.1,h.2⟩
set_option tactic.hygienic true in
theorem Bi:∀{names:List (Str×aT)} {acc:List (Str×Addr)} {x:Str},((x,eG)∈names\/(acc.lookup x).isSome)->((eM wz names acc).lookup x).isSome
 |[],acc,x,h=>by
  rcases h with h |h
  ·cases h
  ·exact h
 |(n,k)::r,acc,x,h=>by
  rw[Co]
  split
  ·rename_i hk
   refine Bi ?_
   rcases h with h |h
   ·rcases bc.mp h with e |h
    ·cases e
     right;simp[cW]
    ·exact .inl h
   ·right
    rw[cW]
    cases x==n<;>simp[h]
  ·rename_i hk
   refine Bi ?_
   rcases h with h |h
   ·rcases bc.mp h with e |h
    ·cases e;exact absurd rfl hk
    ·exact .inl h
   ·exact .inr h
theorem HM {scope:Scope} {code:Value} (hQ:Q { scope,locals:=s.heap.objs.size,globals,cells:=dD (s.heap.objs.size+1) scope.names closure,qual,func,code:=outer.code,frame:=outer.frame,builtins:=outer.builtins } { s with heap:=dB (s.heap.push { cls:=.type "dict",data:=.dict #[] }) scope.names }) :
  wpAny M A (qN scope globals closure [] qual func code (some outer)) Q E s:=by
 simp only[qN,Option.isSome_some,if_true];refine ai (wpAny_alloc ?_);refine ai (wpAny_layCells _ (fun name kind cells=>by cases hkc:kind==qaj<;>simp[hkc]) _ _ _ _ ?_);rw[show({ s with heap:=s.heap.push { cls:=.type "dict",data:=.dict #[] } }:Shared).heap.objs.size=s.heap.objs.size+1 from qG ..];rw[List.forIn_nil];exact ai (aC (aC hQ))
theorem D0:∀{es:List Expr}{xs:List Ex},iQ c wz wu es xs->∀A q d k loc φ H s Q (E:Value->Shared->Prop),bR c A q d φ s.heap->aq c wz wu k loc φ s.heap->ak c φ H s->rR (Calls c) q d k xs loc Q H->
  wpAny (model c.prog c.w) A (forIn es true fun c r=>if r=true then do let ok<-isTrue c wz (eval c wz);pure (rC ok) else pure (rC r)) (cR c φ s Q) E s
 |[],xs,h=>fun A q d k loc φ H s Q E hA hF hS hw=>by
  obtain rfl:xs=[]:=h;rw[List.forIn_nil];exact aC ⟨φ,H,au.refl,hS,hw⟩
 |e::es,xs,h=>fun A q d k loc φ H s Q E hA hF hS hw=>by
  obtain⟨x,xs',rfl,h1,h2⟩:=h.uncons;rw[List.forIn_cons];refine ai (ai (a8 (h1 A q d k loc φ H s _ fu hA hF hS hw) ?_ fun Z Z h=>ay.no h));rintro b s₁ ⟨φ₁,H₁,e₁,S₁,w₁⟩;refine aC ?_;cases b with
  |true=>exact wm (D0 h2 A q d k loc φ₁ H₁ s₁ Q E (hA.mono e₁) (hF.mono e₁) S₁ w₁) (fun Z Z h=>cR.lift e₁ h)
  |false=>
   have:∀es:List Expr,(forIn es false fun c r=>if r=true then do let ok<-isTrue c wz (eval c wz);pure (rC ok) else pure (rC r):Sem Bool)=pure false:=by
    intro es;induction es with
    |nil=>rfl
    |cons e es ih=>rw[List.forIn_cons];exact ih
   show wpAny _ _ (forIn es false _) _ _ _;rw[this];exact aC ⟨φ₁,H₁,e₁,S₁,w₁⟩
def aq.sub(F:aq c wz wu k loc φ h)(hn:res'.n<=loc'.length)(hff:res'.fr=wu.fr)(hs:∀x i,res'.lookup x=some i->wu.lookup x=some i/\loc'.getD i none=loc.getD i none):aq c wz res' none loc' φ h where
 fn:=F.fn
 gl:=F.gl
 bl:=F.bl
 ns:=by
  obtain⟨m,h1,h2,h3⟩:=F.ns
  exact⟨m,by rw[hff];exact h1,fun x i hx=>by rw[(hs x i hx).2];exact h2 x i (hs x i hx).1,fun kk z hz=>nomatch hz⟩
 len:=hn
 Lφ:=F.Lφ
 L0:=F.L0
 cells:=F.cells
end
variable {Q:Bool->Shared->Prop}{acc:List V}{outer:List Env}{r:Value}
section
open PySem PyProof.Rows
structure a0(al:Str->Bool)(wz:Env)(wu res':Res)(x:Str)(i:Nat):Prop extends SlotPut wu res' x i where
 kind:wz.kindOf x=some .local\/(al x=true/\wz.kindOf x=some .cell)
inductive hJ(al:Str->Bool)(wz:Env)(wu:Res)(e:Expr)(i:Nat)(P:Res->Prop):Prop
 |mk (x:Str)(p:Pos)(res1:Res)(h:e=.Name x p)(h1:a0 al wz wu res1 x i)(h2:P res1):hJ al wz wu e i P
def tK(al:Str->Bool)(wz:Env):Res->Res->List Expr->List Nat->Prop
 |wu,res',[],is=>res'=wu/\is=[]
 |wu,res',e::es,is=>match is with
  |[]=>False
  |i::is=>hJ al wz wu e i fun res1=>tK al wz res1 res' es is
def jR(al:Str->Bool)(wz:Env)(wu res':Res)(e:Expr)(t:Tg):Prop:=match t with
 |.one i=>∃x p,e=.Name x p/\a0 al wz wu res' x i
 |.two i j=>∃es x p,e=.Tuple es x p/\tK al wz wu res' es [i,j]
def tq(wz:Env)(X:List Addr)(x:Str):Prop:=∀GJ:Prop,(∀(ca:Addr),(wz.cells.lookup x=some ca)->wz.locals<ca->ca∈X->(∀y,wz.cells.lookup y=some ca->y=x)->GJ)->GJ
noncomputable def aM:Str->Bool:=fun Z=>true
structure aO(al:Str->Bool)(wz:Env)(X:List Addr):Prop where
 loc:wz.locals∈X
 cell:∀x,al x=true->wz.kindOf x=some .cell->tq wz X x
 only:∀b∈X,b=wz.locals\/∃x,wz.cells.lookup x=some b
def aq.ownX(F:aq c wz wu k loc φ s.heap)(hX:aO al wz X):ax c X s.heap:=fun b hb o ho=>by
 rcases hX.only b hb with rfl |⟨x,hx⟩
 ·exact yG F ho
 ·exact A0 F hx ho
def aq.outX(F:aq c wz wu k loc φ s.heap)(hX:aO al wz X):∀b∈X,b∉φ/\c.h0.get? b=none:=fun b hb=>by
 rcases hX.only b hb with rfl |⟨x,hx⟩
 ·exact⟨F.Lφ,F.L0⟩
 ·exact(F.cells x b hx).out
def cf.trans(a:cf X s s₁)(b:cf X s₁ s₂):cf X s s₂:=
 ⟨fun y o hy ho=>b.1 y o hy (a.1 y o hy ho),b.2.1.trans a.2.1,b.2.2.trans a.2.2⟩
def qV{v:V}(F:aq c wz wu k loc φ s.heap)(S:ak c φ H s)(h:a0 al wz wu res' x i)(hX:aO al wz X)(R:ar c φ s.heap v r) :
  wpAny (model c.prog c.w) A (storeName wz x r) (fun Z s'=>bA c wz res' k (loc.set i (some v)) φ H X s s') E s:=by
 rcases h.kind with h5 |⟨ha,hk⟩
 ·exact GA F S h.toSlotPut hX.loc h5 R
 ·refine Kc F S h.toSlotPut hk ?_ R;refine(hX.cell x ha hk) _ fun ca g1 g2 g3 g4=>?_;obtain⟨_,_,o,h3,_,r,h5⟩:=F.cells x ca g1;exact(fun Z kJ=>kJ ca r g1 ⟨o,h3,h5⟩ g2 g3 g4)
theorem D3(hX:aO al wz X):∀{es:List Expr}{is:List Nat}{vs:List V}{rs:List Value}{wu res':Res}{loc loc':Loc}{s:Shared},
  tK al wz wu res' es is->vC is vs loc=some loc'->aq c wz wu k loc φ s.heap->ak c φ H s->ag c φ s.heap vs rs->
  wpAny (model c.prog c.w) A (assignInOrder ((assignEach es wz).map (·.2)) rs) (fun Z s'=>bA c wz res' k loc' φ H X s s') E s
 |[],is,vs,rs,wu,res',loc,loc',s,h,hb,F,S,R=>by
  obtain⟨rfl,rfl⟩:=h;cases vs with
  |nil=>
   obtain rfl:=ah hb;obtain rfl:=R.nil_inv;exact aC ⟨F,S,au.refl,fun Z Z Z h=>h,rfl,rfl⟩
  |cons=>injection hb
 |e::es,[],vs,rs,wu,res',loc,loc',s,h,hb,F,S,R=>h.elim
 |e::es,i::is,[],rs,wu,res',loc,loc',s,h,hb,F,S,R=>nomatch hb
 |e::es,i::is,v::vs,rs,wu,res',loc,loc',s,h,hb,F,S,R=>by
  obtain⟨x,p,res1,rfl,h1,h2⟩:=h;refine R.uncons _ fun r rs wk R1 R2=>?_;subst wk;show wpAny _ _ (do holding rs (assign (.Name x p) wz r);assignInOrder ((assignEach es wz).map (·.2)) rs) _ _ s;refine ai (de (wpAny_assign_Name (wm (qV F S h1 hX R1) ?_)));rintro _ s₁ ⟨F₁,S₁,e₁,k₁⟩;refine wm (D3 hX h2 hb F₁ S₁ (ag.mono e₁.toKp (F.ownX hX) R2)) ?_;rintro _ s₂ ⟨F₂,S₂,e₂,k₂⟩;exact⟨F₂,S₂,e₁.trans e₂,k₁.trans k₂⟩
theorem BZ:∀{es:List Expr}{is:List Nat}{wu res':Res},tK al wz wu res' es is->(assignEach es wz).length=is.length/\(assignEach es wz).findIdx? (·.1)=none
 |[],is,_,_,h=>by obtain⟨rfl,rfl⟩:=h;exact⟨rfl,rfl⟩
 |e::es,[],_,_,h=>h.elim
 |e::es,i::is,_,_,h=>by
  obtain⟨x,p,res1,rfl,_,h2⟩:=h;obtain⟨h3,h4⟩:=BZ h2;refine⟨congrArg (· + 1) h3,?_⟩;show(((false,assign (.Name x p) wz)::assignEach es wz).findIdx? (·.1))=none;rw[List.findIdx?_cons,h4];rfl
theorem FS:∀{is:List Nat}{vs:List V}{loc loc':Loc},vC is vs loc=some loc'->vs.length=is.length
 |[],[],_,_,_=>rfl
 |_::_,_::_,_,_,h=>congrArg (· + 1) (FS (by exact h))
 |[],_::_,_,_,h=>nomatch h
 |_::_,[],_,_,h=>nomatch h
def Fm(hh:A.handled=none)(hX:aO al wz X) {x1}{vs:List V} (h:tK al wz wu res' es is) (hb:vC is vs loc=some loc') (F:aq c wz wu k loc φ s.heap) (S:ak c φ H s) (R:ar c φ s.heap (.tup vs) r) :
  wpAny (model c.prog c.w) A (assign (.Tuple es x1 pos) wz r) (fun Z s'=>bA c wz res' k loc' φ H X s s') E s:=by
 obtain⟨a,o,us,n,rfl,ha,ho,hc,hd,hz,hl⟩:=R;have wq:us.size=is.length:=by rw[<- FS hb,<-ag.length hl,e9]
 refine wpAny_assign_Tuple hh ⟨o,ho,hc,n,hd⟩ ((BZ h).1.trans wq.symm) (BZ h).2 fun h' hx=>?_;have keep:∀b o,s.heap.get? b=some o->h'.get? b=some o:=fun b o hb=>hx b o (cj (f9 hb)) hb;have e:au [] φ s φ { s with heap:=h' }:=au.of_keeps keep rfl;refine wm (D3 hX h hb (F.mono e) (S.keeps (s':={ s with heap:=h' }) keep rfl) (ag.mono e.toKp ax.nil hl)) ?_;rintro _ s₂ ⟨F₂,S₂,e₂,k₂⟩;exact⟨F₂,S₂,(e.weaken (fun Z h=>nomatch h) fun b hb=>(F.outX hX b hb).1).trans e₂,fun b o hb ho=>k₂.1 b o hb (keep b o ho),k₂.2⟩
theorem EB(hh:A.handled=none)(hX:aO al wz X){v:V} (h:jR al wz wu res' tg t) (hb:fX t v loc=some loc') (F:aq c wz wu k loc φ s.heap) (S:ak c φ H s) (R:ar c φ s.heap v r) :
  wpAny (model c.prog c.w) A (assign tg wz r) (fun Z s'=>bA c wz res' k loc' φ H X s s') E s:=by
 cases t with
 |one i=>
  obtain⟨x,p,rfl,h⟩:=h;obtain rfl:=ah hb;exact wpAny_assign_Name (qV F S h hX R)
 |two i j=>
  obtain⟨es,x,p,rfl,h⟩:=h;revert hb;refine xB fun vs h1 g=>?_;obtain rfl:=yo h1;cases LV.of vs with
  |two a b=>exact Fm hh hX h (show vC [i,j] [a,b] loc=some loc' from g) F S R
  |_=>injection g
end
variable {es:Array iJ}
section
open PySem PyProof.Rows
inductive yd(T:Value)(h:Heap)(C:Addr)(m:Str->Option Value):Prop
 |mk (ns:h.Ns C m)(o:Obj)(ho:h.get? C=some o)(hc:o.cls=T):yd T h C m
abbrev i6 (h:Heap) (C:Addr) (m:Str->Option Value):Prop:=yd (.type "dict") h C m
def i6.ns(q:i6 h C m):h.Ns C m:=let⟨n,_,_,_⟩:=q;n
def Cs(T:Value)(h:Heap)(C:Addr)(m₀:Str->Option Value)(n:Str):Prop:=∀GJ:Prop,(∀(m:Str->Option Value),yd T h C m->(∀y,y≠n->m y=m₀ y)->GJ)->GJ
theorem DZ{p q:α->Bool}(hpq:∀e,p e=true->q e=false):∀(l:List α)(i:Nat),l.findIdx? p=some i->(l.eraseIdx i).find? q=l.find? q
 |[],_,h=>nomatch h
 |e::l,i,h=>by
  rw[List.findIdx?_cons] at h;refine xD (p e) (fun hp=>?_) fun hp=>?_
  ·rw[hp] at h;obtain rfl:=ah h;rw[List.eraseIdx_cons_zero,List.find?_cons,hpq e hp]
  ·rw[hp] at h;revert h;refine xM fun j hj wj=>?_;subst wj;rw[List.eraseIdx_cons_succ,List.find?_cons,List.find?_cons,DZ hpq l j hj]
theorem I5(hi:es.findIdx? (fun e=>e.key.isStr n)=some i)(hy:y≠n):nsFind (es.eraseIdxIfInBounds i) y=nsFind es y:=by
 obtain⟨l⟩:=es;simp only[nsFind,findBy,List.eraseIdxIfInBounds_toArray,List.find?_toArray,List.findIdx?_toArray] at hi ⊢;rw[DZ (fun e he=>?_) l i hi] at ⊢;refine xD (e.key.isStr y) (fun hq=>?_) fun hq=>?_
 ·exact absurd (Value.isStr_inj _ _ _ he hq).symm hy
 ·rfl
theorem pj(ho:h.get? a=some o)(hd:o.data=.dict es ep)(h2:(h.update a (Obj.dropName name)).get? a=some o'):dz o o':=by
 obtain⟨cl,d,dt,sl⟩:=o;subst hd;refine xC (es.findIdx? (·.key.isStr name)) (fun hi=>?_) fun i hi=>?_
 ·have e:=gc (Obj.dropName name) ho (by simp only[je,jm,hi]<;>rfl);rw[e] at h2;obtain rfl:=ah h2;simp only[je,jm,hi];exact .rfl
 ·have e:=gc (Obj.dropName name) ho (by simp only[je,jm,hi]<;>rfl);rw[e] at h2;obtain rfl:=ah h2;simp only[je,jm,hi];refine .mk rfl fun es1 n es' n' q1 q2 g=>?_;(injection q1 with Ja Jb;subst Jb;subst Ja);(injection q2 with Ja Jb;subst Jb;subst Ja);obtain⟨l⟩:=es;refine⟨g.1.erase i,?_⟩;rw[List.eraseIdxIfInBounds_toArray];exact(((List.eraseIdx_sublist l i).map fun e=>lW e.key)).nodup g.2
theorem kU{m}(hD:yd T s.heap a m) (hQ:∀h' m',yd T h' a m'->(∀y,y≠name->m' y=m y)->iy a s.heap h'->(∀o o',s.heap.get? a=some o->h'.get? a=some o'->dz o o')->Q (m name).isSome { s with heap:=h' }):wpAny M A (nsDel a name) Q E s:=by
 obtain⟨hn,o2,ho2,hc2⟩:=id hD;obtain⟨o,es,ep,ho,hd,hk,hm⟩:=id hn;replace hc2:o.cls=T:=by replace ho2:=ah (ho.symm.trans ho2);subst ho2;exact hc2
 have hany:es.any (·.refKey)=false:=by
  rw[Array.any_eq_false'];intro e he;obtain⟨n,t,h⟩:=hk e he;simp[DictEntry.refKey,h]
 have hsome:(m name).isSome=es.any (·.key.isStr name):=by
  rw[<- hm name];simp only[nsFind,findBy,Option.isSome_map];rw[Bool.eq_iff_iff];simp only[Array.find?_isSome,Array.any_eq_true];constructor
  ·rintro⟨x,hx,hp⟩;obtain⟨i,hi,rfl⟩:=Array.mem_iff_getElem.mp hx;exact⟨i,hi,hp⟩
  ·rintro⟨i,hi,hp⟩;exact⟨_,Array.getElem_mem hi,hp⟩
 have hhas:nsHas name o=pure (es.any (·.key.isStr name)):=by
  rw[nsHas_eq];unfold nsHasByArray;rw[hd];show(if(es.any fun x=>x.key.isStr name)=true then _ else _)=_;generalize(es.any fun x=>x.key.isStr name)=b;cases b<;>simp[hany]
 unfold nsDel;refine ai (wpAny_loadPart ho ?_);rw[hhas];refine ai (aC ?_);rw[<- hsome];cases hmn:(m name).isSome
 ·have:=hQ s.heap m hD (fun Z Z=>rfl) (.refl ..) fun o o' h1 h2=>by replace h2:=ah (h1.symm.trans h2);subst h2;exact .rfl
  rw[hmn] at this;exact aC this
 ·refine ai (wpAny_updatePart ho (aC ?_));have key:Cs T (s.heap.update a (Obj.dropName name)) a m name:=by
   obtain⟨cl,d,dt,sl⟩:=o;subst hd;refine xC (es.findIdx? (·.key.isStr name)) (fun hi=>?_) fun i hi=>?_
   ·exact(fun Z kJ=>kJ _ ⟨⟨_,_,ep,gc _ ho (by simp only[je,jm,hi]<;>rfl),(by simp only[je,jm,hi]<;>rfl),hk,fun Z=>rfl⟩,_,gc _ ho (by simp only[je,jm,hi]<;>rfl),(by simp only[je,jm,hi];exact hc2)⟩ (fun y Z=>hm y))
   ·exact(fun Z kJ=>kJ _ ⟨⟨_,_,ep+1,gc _ ho (by simp only[je,jm,hi]<;>rfl),(by simp only[je,jm,hi]<;>rfl),hk.erase i,fun Z=>rfl⟩,_,gc _ ho (by simp only[je,jm,hi]<;>rfl),(by simp only[je,jm,hi];exact hc2)⟩ (fun y hy=>(I5 hi hy).trans (hm y)))
  refine key _ fun m' hm' hsm=>?_;clear key;have:=hQ _ m' hm' hsm (qo ..) fun o₁ o' h1 h2=>by
   obtain rfl:=ah (ho.symm.trans h1);exact pj ho hd h2
  rw[hmn] at this;exact this
structure cC(a:Addr)(h h':Heap):Prop where
 same:iy a h h'
 dk:∀o o',h.get? a=some o->h'.get? a=some o'->dz o o'
def cC.refl:cC a h h:=⟨.refl ..,fun o o' h1 h2=>by replace h2:=ah (h1.symm.trans h2);subst h2;exact .rfl⟩
def cC.trans{h'':Heap} {m}(x:cC a h h')(hn:i6 h' a m)(y:cC a h' h''):cC a h h'':=⟨x.same.trans y.same,fun o o' h1 h2=>by
 obtain⟨⟨o1,es,n,ho,hd,_⟩,_⟩:=hn;exact(y.dk o1 o' ho h2).trans (x.dk o o1 h1 ho) hd⟩
def tD{m}(hD:i6 s.heap a m) (hQ:∀h' m',i6 h' a m'->cC a s.heap h'->Q (m name).isSome { s with heap:=h' }):wpAny M A (nsDel a name) Q E s:=kU hD fun h' m' h1 Z h2 h3=>hQ h' m' h1 ⟨h2,h3⟩
theorem kt(hkind:wv.scope.kind=.function){Q:Unit->Shared->Prop} :
  ∀(vs:List (Str×aT)) (s:Shared) (m:Str->Option Value),(∀x∈vs,x.2=.local->wv.kindOf x.1=some .local)->i6 s.heap wv.locals m->
   (∀h' m',i6 h' wv.locals m'->cC wv.locals s.heap h'->Q () { s with heap:=h' })->wpAny M A (comprehension.letGo wv cellsOf vs) Q E s:=by
 intro vs;induction vs with
 |nil=>intro s m _ hn hQ;exact aC (hQ s.heap m hn .refl)
 |cons x r ih=>
  intro s m hv hn hQ;obtain⟨n,k⟩:=x;rw[comprehension.letGo];have hr:∀y∈r,y.2=.local->wv.kindOf y.1=some .local:=fun y hy=>hv y (a9 _ hy);refine ai (de ?_);by_cases hk:k=.local
  ·subst hk;have hkn:wv.kindOf n=some .local:=hv (n,.local) aL rfl;simp only[beq_self_eq_true,if_true];refine ai (wpAny_nsGet hn.ns ?_);cases hmn:(m n).isSome
   ·simp only[gw,if_false];exact aC (ih s m hr hn hQ)
   ·simp only[if_true];unfold unbindName deleteName;refine ai (rH (ai ?_));simp only[hkn,hkind];refine ai (m:=nsDel wv.locals n) (tD hn fun h' m' hn' hs'=>?_);rw[hmn];refine aC (rH ?_);exact ih { s with heap:=h' } m' hr hn' fun h'' m'' hn'' hs''=>hQ h'' m'' hn'' (hs'.trans hn' hs'')
  ·have hb:(k==NameKind.local)=false:=by simpa using hk
   simp only[hb,gw,if_false];exact rH (ih s m hr hn hQ)
inductive uP(P:Heap->Prop)(C:Addr)(h:Heap):Prop
 |mk (m:Str->Option Value)(hn:i6 h C m)(g:∀h' m',i6 h' C m'->cC C h h'->P h'):uP P C h
def uN(M:Model)(A:Around)(E:Value->Shared->Prop)(use:Option (Value->Sem Unit))(Q:Value->Shared->Prop)(acc:Value)(C:Addr)(r:Result)(s':Shared):Prop:=
 match r with
 |.ok _=>(match use with
  |none=>uP (fun h'=>Q acc { s' with heap:=h' }) C s'.heap
  |some u=>wpAny M A (u acc) (fun Z s''=>uP (fun h'=>Q .none { s'' with heap:=h' }) C s''.heap) E s')
 |.error _=>False
theorem HD {scope : Scope} {newAcc first : Sem Value} {use : Option (Value -> Sem Unit)} {Q : Value -> Shared -> Prop} (hcl : clausesOf e = g :: gs) (hs : ∀ x, vw g.iter wz x = pure x) (hclos : closureFor scope wz = pure cl) (hkind : scope.kind = .function) (hnames : ∀ x ∈ scope.names, x.2 = .local -> scope.names.lookup x.1 = some .local) (h : wpAny M A first (fun x s₁ => wpAny M A (pyIter x) (fun it s₂ => wpAny M A newAcc (fun acc s₃ =>
   wpAny M A (qN scope wz.globals cl [] wz.qual none .none (some wz)) (fun wv s₄ =>
    codeAny M A (.compStart e 0 it acc { wv with scope := ey scope wz }) (uN M A E use Q acc wv.locals) s₄) E s₃) E s₂) E s₁) E s) :
  wpAny M A (comprehension e scope wz pos newAcc false first use) Q E s := by
 unfold comprehension;rw [hclos, hcl];refine ai (a8 h (fun x s₁ h₁ => ai (i5 (ai (mX (hs x) (ai (de (a8 h₁ (fun it s₂ h₂ =>
  wpAny_standIf (ai (a8 h₂ (fun acc s₃ h₃ => ai (aC (ai (a8 h₃ (fun wv s₄ h₄ => ?_) fun Z Z h' => h')))) fun Z Z h' => h')))
   fun Z Z h' => h'))))))) fun Z Z h' => h')
 dsimp only;have hv : ∀ x ∈ (scope.names.filter fun x => (x.2 == .local || x.2 == .cell) && x.1 != (".0" : Str)).reverse, x.2 = .local ->
   Env.kindOf { wv with scope := ey scope wz } x.1 = some .local := fun x hx hl => lookup_relabel_local (hnames x (List.mem_filter.mp (List.mem_reverse.mp hx)).1 hl)
 have hv' : ∀ x ∈ (scope.names.filter fun x => (x.2 == .local || x.2 == .cell) && x.1 != (".0" : Str)).reverse.drop 1 ++ (scope.names.filter fun x => (x.2 == .local || x.2 == .cell) && x.1 != (".0" : Str)).reverse.take 1,
   x.2 = .local -> Env.kindOf { wv with scope := ey scope wz } x.1 = some .local := fun x hx hl => by
  rcases cE.mp hx with h1 | h1
  ·exact hv x (List.mem_of_mem_drop h1) hl
  ·exact hv x (List.mem_of_mem_take h1) hl
 refine de (ai (wpAny_attempt (de (wpAny_run (sJ h₄ fun r s' hr => ?_)))));cases r with
 | ok f =>
  cases use with
  | none =>
   obtain ⟨m, hn, hr⟩ := hr;exact ai (de (kt (wv := { wv with scope := ey scope wz }) hkind _ s' m hv hn fun h' m' hn' hs' => aC (hr h' m' hn' hs')))
  | some u =>
   refine ai (wpAny_rule (ai (de (a8 hr (fun Z s'' hr' => ?_) fun Z Z h' => h'))));obtain ⟨m, hn, hr'⟩ := hr';exact ai (kt (wv := { wv with scope := ey scope wz }) hkind _ s'' m hv' hn fun h' m' hn' hs' => aC (hr' h' m' hn' hs'))
 | error x => exact hr.elim
def Tg.out : Tg -> Nat -> Prop
 | .one k, i => i ≠ k
 | .two k l, i => i ≠ k /\ i ≠ l
theorem Et{x:V}(h:fX t x loc=some loc'):loc'.length=loc.length/\∀{i:Nat},t.out i->loc'.getD i none=loc.getD i none:=by
 cases t with
 |one k=>
  obtain rfl:=ah h;exact⟨fW,fun hi=>Al hi⟩
 |two k l=>
  revert h;refine xB fun vs h1 g=>?_;cases LV.of vs with
  |two a b=>
   obtain rfl:=ah g;exact⟨by rw[fW,fW],fun hi=>(Al hi.2).trans (Al hi.1)⟩
  |_=>injection g
structure AD(wu res':Res)(scope:Scope)(t:Tg)(x:Str)(i:Nat):Prop where
 up:wu.lookup x=some i
 mem:(x,eG)∈scope.names
 free:scope.names.lookup x=some .free
 dn:res'.lookup x=some i
 out:t.out i
noncomputable def i7(scope:Scope):Str->Bool:=fun x=>scope.names.lookup x==some .cell
structure cP(c:Cx)(wz:Env)(wu res0 res':Res)(scope:Scope)(tgt:Expr)(t:Tg):Prop where
 kind:scope.kind=.function
 cell:∀n n',(n,qaj)∈scope.names->(n',qaj)∈scope.names->n'=n
 nocell:∀n,(n,eG)∈scope.names->(n,qaj)∉scope.names
 names:∀y∈scope.names,y.2=.local->scope.names.lookup y.1=some .local
 free:∀n,(n,eG)∈scope.names->(wz.kindOf n=some .cell\/wz.kindOf n=some .free)/\∃i,wu.lookup n=some i
 n0:res0.n=wu.n
 fr0:res0.fr=false
 sub0:∀x i,res0.lookup x=some i->AD wu res' scope t x i
 n':res'.n=wu.n/\res'.fr=false
 tgt:∀wv:Env,wv.scope=ey scope wz->jR (i7 scope) wv res0 res' tgt t
theorem B9{wz:Env}{x:Str}{k:aT}:∀{names:List (Str×aT)},names.lookup x=some k-> (names.map fun(n,k)=>if(k==eG&&wz.scope.kind==.function&&wz.kindOf n==some .cell) then(n,qaj) else(n,k)).lookup x =
   some (if(k==eG&&wz.scope.kind==.function&&wz.kindOf x==some .cell) then .cell else k)
 |[],h=>by simp at h
 |(n,k')::r,h=>by
  have ih:=@B9 wz x k r;show List.lookup x ((if(k'==eG&&wz.scope.kind==.function&&wz.kindOf n==some .cell)=true then(n,qaj) else(n,k'))::_)=_;refine xD (x==n) (fun hx=>?_) fun hx=>?_
  ·simp only[cW,hx] at h;(injection h with Ja;subst Ja);have:=beq_iff_eq.mp hx;subst this;split<;>simp[cW]
  ·simp only[cW,hx] at h;split
   ·simp only[cW,hx];exact ih h
   ·simp only[cW,hx];exact ih h
def zA(F:aq c wz wu k loc φ h)(hk:wz.kindOf x=some .cell\/wz.kindOf x=some .free)(hi:wu.lookup x=some i):bj c φ h wz x (loc.getD i none):=by
 obtain⟨m,_,hs,_⟩:=F.ns;have h5:=hs x i hi;unfold iU at h5;rcases hk with hk |hk<;>rw[hk] at h5<;>exact h5
theorem bj.addr:bj c φ h wz x ov->∃ca,wz.cells.lookup x=some ca
 |.yes _ ca _ h1 _ _=>⟨ca,h1⟩
 |.no ca h1 _=>⟨ca,h1⟩
def m8(h:(x,eG)∈names)(hc:wz.cells.lookup x=some ca):(eM wz names []).lookup x=some ca:=by
 obtain⟨ca',hca'⟩:=tG.mp (Bi (wz:=wz) (acc:=[]) (x:=x) (.inl h));rcases vv hca' with q |⟨_,q⟩
 ·injection q
 ·rw[hc] at q;obtain rfl:ca'=ca:=q;exact hca'
theorem bj.recell(he:∀ca,wz.cells.lookup x=some ca->env'.cells.lookup x=some ca):bj c φ h wz x ov->bj c φ h env' x ov
 |.yes v ca r h1 h2 h3=>.yes v ca r (he ca h1) h2 h3
 |.no ca h1 h2=>.no ca (he ca h1) h2
def iA.cell{k:Option aT}{L C:Prop}(hk:k=some .cell\/k=some .free)(h:C):iA k L C:=by
 rcases hk with rfl |rfl<;>exact h
noncomputable def rr:Obj:={ cls:=.type "cell",data:=.cell none }
theorem xv:∀{names:List (Str×aT)} {h:Heap} {acc:List (Str×Addr)} {x:Str} {ca:Addr},(dD h.objs.size names acc).lookup x=some ca ->
  acc.lookup x=some ca\/(h.objs.size<=ca/\(dB h names).get? ca=some rr/\(x,qaj)∈names)
 |[],h,acc,x,ca,e=>.inl e
 |(n,kd)::r,h,acc,x,ca,e=>by
  unfold dD at e;unfold dB;refine xD ((kd==qaj)) (fun hk=>?_) fun hk=>?_
  ·rw[hk,if_pos rfl] at e;obtain rfl:=beq_iff_eq.mp hk;rw[if_pos rfl];have:=xv (names:=r) (h:=h.push rr) (acc:=(n,h.objs.size)::acc) (x:=x) (ca:=ca) (by rw[qG];exact e);rcases this with q |⟨q1,q2,q3⟩
   ·rw[cW] at q;refine xD (x==n) (fun hx=>?_) fun hx=>?_
    ·rw[hx] at q;obtain rfl:=beq_iff_eq.mp hx;obtain rfl:=ah q;exact .inr ⟨aN _,uU _ _ _ _ (dw _ rfl),aL⟩
    ·rw[hx] at q;exact .inl q
   ·rw[qG] at q1;exact .inr ⟨Nat.le_of_succ_le q1,q2,a9 _ q3⟩
  ·rw[hk,if_neg (by decide)] at e;rw[if_neg (by decide)];rcases xv (names:=r) e with q |⟨q1,q2,q3⟩
   ·exact .inl q
   ·exact .inr ⟨q1,q2,a9 _ q3⟩
theorem Bu:∀{names:List (Str×aT)} {k:Nat} {acc:List (Str×Addr)} {x:Str},(x,qaj)∉names->(dD k names acc).lookup x=acc.lookup x
 |[],_,_,_,_=>rfl
 |(n,kd)::r,k,acc,x,hn=>by
  unfold dD;refine xD ((kd==qaj)) (fun hk=>?_) fun hk=>?_
  ·obtain rfl:=beq_iff_eq.mp hk;rw[if_pos rfl,Bu fun q=>hn (a9 _ q),cW,beq_eq_false_iff_ne.mpr fun(q:x=n)=>hn (q▸aL)]
  ·rw[if_neg (by decide)];exact Bu fun q=>hn (a9 _ q)
set_option tactic.hygienic true in
theorem Cc:∀{names:List (Str×aT)} {k:Nat} {acc:List (Str×Addr)} {x:Str},((x,qaj)∈names\/(acc.lookup x).isSome)->((dD k names acc).lookup x).isSome
 |[],_,acc,x,h=>by
  rcases h with h |h
  ·cases h
  ·exact h
 |(n,kd)::r,k,acc,x,h=>by
  unfold dD
  split
  ·rename_i hk
   refine Cc ?_
   rcases h with h |h
   ·rcases bc.mp h with e |h
    ·cases e
     right;simp
    ·exact .inl h
   ·right
    rw[cW]
    cases x==n<;>simp[h]
  ·rename_i hk
   refine Cc ?_
   rcases h with h |h
   ·rcases bc.mp h with e |h
    ·cases e;exact absurd rfl hk
    ·exact .inl h
   ·exact .inr h
noncomputable def XC (wz:Env):List Addr:=wz.locals::wz.cells.filterMap fun p=>(wz.cells.lookup p.1).filter fun a=>decide (wz.locals<a)
def CB(h:b∈XC wz):b=wz.locals\/((∃x,wz.cells.lookup x=some b)/\wz.locals<b):=by
 rcases bc.mp h with h |h
 ·exact .inl h
 ·obtain⟨p,_,hp⟩:=List.mem_filterMap.mp h;obtain⟨h1,h2⟩:=Option.filter_eq_some_iff.mp hp;exact .inr ⟨⟨p.1,h1⟩,of_decide_eq_true h2⟩
def sE(h:wz.cells.lookup x=some b)(hb:wz.locals<b):b∈XC wz:=
 a9 _ (List.mem_filterMap.mpr ⟨(x,b),fT h,Option.filter_eq_some_iff.mpr ⟨h,decide_eq_true hb⟩⟩)
theorem JO{scope:Scope}(K:cP c wz wu res0 res' scope tgt t)(hz:h.objs.size=C+1)(F:aq c wz wu k loc φ (dB h scope.names))(hC:h.get? C=some { cls:=.type "dict",data:=.dict #[] })(hnew:∀b,C<=b->b∉φ/\c.h0.get? b=none) :
  aq c (compEnvC scope (dD (C+1) scope.names (eM wz scope.names [])) C wz) res0 none loc φ (dB h scope.names) where
 fn:=K.kind
 gl:=F.gl
 bl:=F.bl
 ns:=by
  have hC':=uU scope.names h C _ hC
  refine⟨fun Z=>none,⟨⟨_,_,_,hC',rfl,by intro e he;simp at he,fun Z=>by simp[nsFind,findBy]⟩,_,hC',.inr ⟨rfl,rfl,K.fr0⟩⟩,fun x i hx=>?_,fun kk z hz=>nomatch hz⟩
  have q:=K.sub0 x i hx
  have hkind:(compEnvC scope (dD (C+1) scope.names (eM wz scope.names [])) C wz).kindOf x=some .cell\/(compEnvC scope (dD (C+1) scope.names (eM wz scope.names [])) C wz).kindOf x=some .free:=by
   show List.lookup x (ey scope wz).names=_\/List.lookup x (ey scope wz).names=_
   rw[show List.lookup x (ey scope wz).names=_ from B9 q.free]
   split
   ·exact .inl rfl
   ·exact .inr rfl
  exact iA.cell hkind ((zA F (K.free x q.mem).1 q.up).recell fun ca h=>(Bu (K.nocell x q.mem)).trans (m8 q.mem h))
 len:=by rw[K.n0];exact F.len
 Lφ:=(hnew C (aN _)).1
 L0:=(hnew C (aN _)).2
 cells x ca hx:=by
  rcases xv (h:=h) (by rw[hz];exact hx) with q |⟨q1,q2,_⟩
  ·rcases vv q with q |⟨h1,q⟩
   ·injection q
   ·obtain⟨hk,i,hi⟩:=K.free x h1
    obtain⟨ca',h6⟩:=(zA F hk hi).addr
    rw[h6] at q;obtain rfl:ca=ca':=q
    exact F.cells x ca h6
  ·rw[hz] at q1
   exact⟨(hnew ca (Nat.le_of_succ_le q1)).1,(hnew ca (Nat.le_of_succ_le q1)).2,_,q2,rfl,_,rfl⟩
def lj{scope:Scope}(K:cP c wz wu res0 res' scope tgt t)(hz:h.objs.size=C+1)(F:aq c wz wu k loc φ h')(hlt:∀b o,h'.get? b=some o->b<C) :
  aO (i7 scope) (compEnvC scope (dD (C+1) scope.names (eM wz scope.names [])) C wz) (XC (compEnvC scope (dD (C+1) scope.names (eM wz scope.names [])) C wz)) where
 loc:=aL
 cell x ha _:=by
  have hm:=fT (beq_iff_eq.mp ha)
  obtain⟨ca,hca⟩:=tG.mp (Cc (k:=C+1) (acc:=eM wz scope.names []) (x:=x) (.inl hm))
  have old:∀{y cb},(eM wz scope.names []).lookup y=some cb->cb<C:=fun{y cb} q=>by
   rcases vv q with q |⟨h1,q⟩
   ·injection q
   ·obtain⟨hk,i,hi⟩:=K.free y h1
    obtain⟨ca',h6⟩:=(zA F hk hi).addr
    rw[h6] at q;obtain rfl:cb=ca':=q
    obtain⟨_,_,o,ho,_⟩:=F.cells y cb h6
    exact hlt cb o ho
  have hnf:(x,eG)∉scope.names:=fun q=>K.nocell x q hm
  have hgt:C<ca:=by
   rcases xv (h:=h) (by rw[hz];exact hca) with q |⟨q1,_,_⟩
   ·rcases vv q with q |⟨h1,_⟩
    ·injection q
    ·exact absurd h1 hnf
   ·rw[hz] at q1;exact q1
  refine(fun Z kJ=>kJ ca hca hgt (sE (wz:=compEnvC scope (dD (C+1) scope.names (eM wz scope.names [])) C wz) hca hgt) (fun y hy=>?_))
  rcases xv (h:=h) (by rw[hz];exact hy) with q |⟨_,_,q3⟩
  ·exact absurd (old q) (Nat.not_lt.mpr (bY hgt))
  ·exact K.cell x y hm q3
 only b hb:=(CB hb).imp id fun h=>h.1
end
variable {Q:Shared->Prop}{cl:Str×Addr}{e:Value}{es:List Expr}{g:Array GenState}{n:Nat}{x:V}
section
open PySem PyProof.Rows
inductive dy(c:Cx)(φ:List Addr)(h:Heap)(D:Addr)(av:List V):Prop
 |mk (vs:Array Value)(n:Nat)(ho:h.get? D=some (dR vs n))(hr:ag c φ h av vs.toList)(hD:D∉φ):dy c φ h D av
structure fe(c:Cx)(wv:Env)(res0:Res)(loc:Loc)(φ₀:List Addr)(s₀:Shared)(D:Addr)(wr:List Addr)(St:Nat->List Addr->Heap->Prop)(i:Nat)(av:List V)(φ:List Addr)(H:Hp)(s:Shared):Prop where
 ext:au [] φ₀ s₀ φ s
 sim:ak c φ H s
 fr:aq c wv res0 none loc φ s.heap
 st:St i φ s.heap
 acc:dy c φ s.heap D av
def dy.keep(T:dy c φ h D av)(e:Kp X φ h φ' h')(hX:ax c X h)(hD:D∉X):dy c φ' h' D av:=by
 obtain⟨vs,n,h1,h2,h3⟩:=T;exact⟨vs,n,e.keep D _ h1 h3 hD rfl,ag.mono e hX h2,e.notin h1 h3⟩
def dy.out(T:dy c φ h D av)(its:cI c wr φ h):D∉wr:=fun hm=>by
 obtain⟨_,_,o,h1,h2,_⟩:=its D hm;obtain⟨vs,n,h3,_,_⟩:=T;obtain rfl:=ah (h3.symm.trans h1);exact absurd h2 (by show uc (jc "list")≠true;decide)
def d8.of(F:aq c wz wu k loc φ s.heap)(h:∀b∈X,∀o,s.heap.get? b=some o->o.cls≠.type "frame"/\o.cls≠.type "dict"/\o.cls≠.type "cell"):d8 wz X s where
 loc hm:=by
  obtain⟨m,⟨_,o,h3,h4⟩,_,_⟩:=F.ns
  obtain⟨g1,g2,g3⟩:=h _ hm o h3
  rcases h4 with h4 |h4
  ·exact g1 h4.1
  ·exact g2 h4.1
 cells x ca hx hm:=by
  obtain⟨_,_,o,h3,h4⟩:=F.cells x ca hx
  exact(h _ hm o h3).2.2 h4
 clo ca o ho hc _ hm:=(h _ hm o ho).2.2 hc
def d8.its(F:aq c wz wu k loc φ s.heap)(h:cI c wr φ s.heap):d8 wz wr s:=d8.of F fun b hb o ho=>by
 obtain⟨_,_,o',h1,h2,_⟩:=h b hb;obtain rfl:=ah (ho.symm.trans h1);exact⟨tx h2 rfl,tx h2 rfl,tx h2 rfl⟩
def aq.kept(F:aq c wz wu k loc φ s.heap)(h:cI c wr φ s.heap)(hk:cf wr s s'):aq c wz wu k loc φ s'.heap:=
 F.off (hk.kp h) h.own (d8.its F h) fun o ho=>⟨o.slots,hk.1 _ o (d8.its F h).loc ho⟩
def grow(S:ak c φ H s)(ho:s.heap.get? D=some (dR vs n))(hD:D∉φ)(h0:c.h0.get? D=none)(hs:iy D s.heap h') :
  Kp [D] φ s.heap φ h'/\ax c [D] s.heap/\ak c φ H { s with heap:=h' }:=by
 have keep:∀b o,b≠D->s.heap.get? b=some o->h'.get? b=some o:=fun b o hb ho=>(hs.2 b hb).trans ho;have kp:=vH (φ:=φ) keep (fun o es n h hd=>by obtain rfl:=ah (ho.symm.trans h);injection hd) (fun o vs h hd=>by obtain rfl:=ah (ho.symm.trans h);injection hd);have ow:ax c [D] s.heap:=fun b hb o ho'=>by
  rw[aV.mp hb] at ho' ⊢;obtain rfl:=ah (ho.symm.trans ho');exact .inr (.inl ⟨rfl,h0⟩)
 exact⟨kp,ow,S.mono (s':={ s with heap:=h' }) kp ow (fun b hb=>by rw[aV.mp hb];exact h0) (fun a ha o ho=>keep a o (fun q=>hD (q▸ha)) ho) (fun b o hb Z=>keep b o (fun q=>by rw[q,h0] at hb;injection hb) (S.stays b o hb)) S.gens fun b ps hb=>keep b _ (fun q=>by rw[q,ho] at hb;(injection hb with Ja;injection Ja with w4 Jb1;clear Jb1;injection w4)) hb⟩
theorem d8.list(F:aq c wz wu k loc φ s.heap)(ho:s.heap.get? D=some (dR vs n)):d8 wz [D] s:=d8.of F fun b hb o ho'=>by
 rw[aV.mp hb] at ho';obtain rfl:=ah (ho.symm.trans ho');exact⟨show jc "list"≠_ by decide,show jc "list"≠_ by decide,show jc "list"≠_ by decide⟩
abbrev cY (c:Cx) (d:Nat) (t:Tg) (xifs:List Ex) (xelt:Ex) (loc:Loc):V->List V->(List V->Hp->Prop)->Hp->Prop:=
 nz (fun l' Q H=>rR (Calls c) true d none xifs l' Q H) (fun l' Q H=>aD (Calls c) true d none xelt l' Q fu H) t loc
structure gY(c:Cx)(A:Around)(d:Nat)(φ₀:List Addr)(s₀:Shared)(wz:Env)(wu res0 res':Res)(scope:Scope)(tgt:Expr)(t:Tg)(wv:Env)(D:Addr)(it:Value)(wr:List Addr)(items:List V)(ok:Hp->Prop)(St:Nat->List Addr->Heap->Prop):Prop where
 hA:bR c A true d φ₀ s₀.heap
 K:cP c wz wu res0 res' scope tgt t
 hcs:wv.scope=ey scope wz
 I:lu c A it tgt wr items ok St
 EX:aO (i7 scope) wv (XC wv)
 hX0:∀b∈XC wv,s₀.heap.get? b=none
 hD0:s₀.heap.get? D=none
 hw0:∀b∈wr,s₀.heap.get? b=none
 hDX:D∉XC wv
 hDh:c.h0.get? D=none
def md(c:Cx)(wv:Env)(res0:Res)(loc:Loc)(φ₀:List Addr)(s₀:Shared)(D:Addr)(wr:List Addr)(St:Nat->List Addr->Heap->Prop)(items:List V)(ok:Hp->Prop)(f:V->List V->(List V->Hp->Prop)->Hp->Prop)(QQ:List V->Hp->Prop)(k:Nat)(s:Shared):Prop:=∀GJ:Prop,(∀(i:Nat),∀(av:List V),∀(φ:List Addr),∀(H:Hp),(k=items.length-i+1)->i<=items.length->av.length<=i->fe c wv res0 loc φ₀ s₀ D wr St i av φ H s->ok H->gW ok f (items.drop i) av QQ H->GJ)->GJ
section
variable {scope:Scope}{ok:Hp->Prop}{St:Nat->List Addr->Heap->Prop}
theorem KG(L:gY c A d φ₀ s₀ wz wu res0 res' scope tgt t wv D it wr items ok St)(T:fe c wv res0 loc φ₀ s₀ D wr St i av φ H s)(hx:items[i]?=some x)(hok:ok H)(hb:fX t x loc=some l') (h:∀s₃,aq c wv res' none l' φ s₃.heap->fe c wv res0 loc φ₀ s₀ D wr St (i+1) av φ H s₃->Q s₃) :
  wpAny (model c.prog c.w) A (pyNext it) (fun r s₁=>match r with
   |none=>False
   |some v=>wpAny (model c.prog c.w) A (letOwnedTupleGo tgt it v) (fun Z s₁'=>wpAny (model c.prog c.w) A (assign tgt wv v) (fun Z s₂=>Q s₂) (fun Z Z=>False) s₁') (fun Z Z=>False) s₁) (fun Z Z=>False) s:=by
 have its:=L.I.seen i φ s.heap T.st;have hEX:=L.EX;refine wm (L.I.item i x φ H s _ hx T.st T.sim hok) ?_;rintro r s₁ w0;refine w0 _ fun v wk h₁=>?_;clear w0;subst wk;refine wm h₁ ?_;rintro _ s₂ ⟨k₂,st₂,R₂⟩;have F₂:=T.fr.kept its k₂;refine wm (EB (L.hA.hd rfl) hEX (L.K.tgt wv L.hcs) hb F₂ (T.sim.kept k₂ its) R₂) ?_;rintro _ s₃ ⟨F₃,S₃,e₃,k₃⟩;have ow₃:=F₂.ownX hEX;have hwC:∀b∈wr,b∉XC wv:=fun b hb hm=>by
  have off:=d8.its F₂ (L.I.seen _ _ _ st₂);rcases hEX.only b hm with rfl |⟨y,hy⟩
  ·exact off.loc hb
  ·exact off.cells y b hy hb
 exact h s₃ F₃ ⟨(T.ext.kept k₂ L.hw0).kept k₃ L.hX0,S₃,F₃.sub (by rw[L.K.n0,<-L.K.n'.1,<-(Et hb).1];exact F₃.len) (L.K.fr0.trans L.K.n'.2.symm) fun y j hy=>⟨(L.K.sub0 y j hy).dn,((Et hb).2 (L.K.sub0 y j hy).out).symm⟩,
  L.I.frame _ _ _ _ _ _ st₂ e₃.toKp ow₃ hwC,(T.acc.keep (k₂.kp its) its.own (T.acc.out its)).keep e₃.toKp ow₃ L.hDX⟩
def fe.mono(L:gY c A d φ₀ s₀ wz wu res0 res' scope tgt t wv D it wr items ok St)(T:fe c wv res0 loc φ₀ s₀ D wr St i av φ H s)(e:au [] φ s φ' s')(S:ak c φ' H' s'):fe c wv res0 loc φ₀ s₀ D wr St i av φ' H' s':=
 ⟨T.ext.trans e,S,T.fr.mono e,L.I.frame _ _ _ _ _ _ T.st e.toKp ax.nil (fun Z Z h=>nomatch h),T.acc.keep e.toKp ax.nil (fun h=>nomatch h)⟩
def G0(L:gY c A d φ₀ s₀ wz wu res0 res' scope tgt t wv D it wr items ok St)(T:fe c wv res0 loc φ₀ s₀ D wr St i av φ H s){v:V}(R:ar c φ s.heap v r)(hsz:av.length<qag) (h:∀s',fe c wv res0 loc φ₀ s₀ D wr St i (av++[v]) φ H s'->Q s'):wpAny (model c.prog c.w) A (call (.builtin "list.append") [.ref D,r]) (fun Z s'=>Q s') E s:=by
 have hDw:=T.acc.out (L.I.seen _ _ _ T.st);obtain⟨vs,n,ho,hr,hD⟩:=T.acc;refine wpAny_list_append_plain (l:=D) (items:=vs) ⟨n,ho⟩ (fun h' hp hs=>?_) (by rw[<- e9,hr.length];exact bY hsz);obtain⟨kp,ow,S'⟩:=grow T.sim ho hD L.hDh hs;obtain⟨n',ho'⟩:=hp;refine h _ ⟨?_,S',T.fr.off (s':={ s with heap:=h' }) kp ow (d8.list T.fr ho) fun o ho1=>⟨o.slots,(hs.2 _ (fun q=>(d8.list T.fr ho).loc (by rw[q];exact aL))).trans ho1⟩,
  L.I.frame _ _ _ _ _ _ T.st kp ow fun b hb hm=>hDw (aV.mp hm▸hb),⟨_,n',ho',?_,hD⟩⟩
 ·exact T.ext.kept (wr:=[D]) ⟨fun b o hb ho=>(hs.2 b fun q=>hb (by rw[q];exact aL)).trans ho,rfl,rfl⟩ fun b hb=>by rw[aV.mp hb];exact L.hD0
 ·rw[Array.toList_push];exact ag.append (ag.mono kp ow hr) (show ag c φ h' [v] [r] from⟨ar.mono kp ow R,rfl⟩)
theorem GE(L:gY c A d φ₀ s₀ wz wu res0 res' scope tgt t wv D it wr items ok St)(helt:aQ c wv res' elt xelt)(hifs:iQ c wv res' ifs xifs)(wq:items.length<=qag) (T:fe c wv res0 loc φ₀ s₀ D wr St 0 [] φ H s) (hok:ok H) (hw:gW ok (cY c d t xifs xelt loc) items [] QQ H) (hR:∀av φ' H' s',au [] φ₀ s₀ φ' s'->ak c φ' H' s'->aq c wv res0 none loc φ' s'.heap->dy c φ' s'.heap D av->av.length<=qag->QQ av H'->R (.ok .next) s') :
  codeAny (model c.prog c.w) A (.compLoop (.ListComp elt [⟨tgt,iter,ifs,0⟩] scope pos) 0 it (.ref D) wv) R s:=by
 refine JY (md c wv res0 loc φ₀ s₀ D wr St items ok (cY c d t xifs xelt loc) QQ) ?_ (items.length+1) (fun Z kJ=>kJ 0 [] φ H rfl (dF _) (aN _) T hok hw);rintro k s w0;refine w0 _ fun i av φ H wk hi hav T hok hw=>?_;clear w0;subst wk;by_cases hlt:i<items.length
 ·have hx:items[i]?=some items[i]:=bp hlt;rw[qC hlt] at hw;generalize items[i]=x at hx hw;refine xI (fun l' hb hw=>?_) (show ae (fX t x loc) _ from hw);have hm:items.length-(i+1)+1<items.length-i+1:=by exact aw [_,_] [] kax (Y1 (Y0 (Y2 V0 (Y0 V1 J1)) J1) (Y0 (Y2 V0 V1) J1)) (Y1 V1 V0) hlt
  refine wm (KG L T hx hok hb (Q:=fun s₂=>wpAny (model c.prog c.w) A (forIn ifs true fun c r=>if r=true then do let ok<-isTrue c wv (eval c wv);pure (rC ok) else pure (rC r)) (fun ok' s₃=>
      if ok'=true then wpAny (model c.prog c.w) A (eval elt wv) (fun x s₄=>
       wpAny (model c.prog c.w) A (call (.builtin "list.append") [.ref D,x]) (fun Z s₅=>∃m,m<items.length-i+1/\md c wv res0 loc φ₀ s₀ D wr St items ok (cY c d t xifs xelt loc) QQ m s₅) (fun Z Z=>False) s₄) (fun Z Z=>False) s₃
      else ∃m,m<items.length-i+1/\md c wv res0 loc φ₀ s₀ D wr St items ok (cY c d t xifs xelt loc) QQ m s₃) (fun Z Z=>False) s₂) fun s₃ F₃ T₃=>?_) (fun r Z h=>by cases r with |none=>exact h.elim |some v=>exact h)
  refine wm (D0 hifs A true d none l' φ H s₃ _ _ (L.hA.mono T₃.ext) F₃ T₃.sim hw) ?_;rintro b s₄ ⟨φ₄,H₄,e₄,S₄,w₄⟩;have T₄:=T₃.mono L e₄ S₄;cases b with
  |false=>exact⟨_,hm,(fun Z kJ=>kJ (i+1) av φ₄ H₄ rfl hlt (ir hav) T₄ w₄.1 w₄.2)⟩
  |true=>
   refine a8 (helt A true d none l' φ₄ H₄ s₄ _ _ (L.hA.mono T₄.ext) (F₃.mono e₄) S₄ w₄) ?_ fun Z Z h=>ay.no h;rintro r s₅ ⟨φ₅,H₅,v₅,e₅,S₅,R₅,w₅⟩;exact G0 L (T₄.mono L e₅ S₅) R₅ (b0 hav (dg hlt wq)) fun s' T'=>⟨_,hm,(fun Z kJ=>kJ (i+1) (av++[v₅]) φ₅ H₅ rfl hlt (by rw[bG];exact Nat.succ_le_succ hav) T' w₅.1 w₅.2)⟩
 ·obtain rfl:i=items.length:=Nat.le_antisymm hi (eP hlt);rw[List.drop_length] at hw;have its:=L.I.seen _ φ s.heap T.st;refine wm (L.I.done φ H s _ T.st T.sim hok) ?_;rintro r s₁ ⟨rfl,k₁⟩;exact hR av φ H s₁ (T.ext.kept k₁ L.hw0) (T.sim.kept k₁ its) (T.fr.kept its k₁) (T.acc.keep (k₁.kp its) its.own (T.acc.out its)) (aB hav wq) hw
end
end
variable {Q QQ:SPost}{l':Nat}{n:Str}
section
open PySem PyProof.Rows
structure Cg(c:Cx)(φ:List Addr)(H:Hp)(s:Shared)(C:Addr)(h':Heap):Prop where
 kp:Kp [C] φ s.heap φ h'
 ow:ax c [C] s.heap
 sim:ak c φ H { s with heap:=h' }
 kept:cf [C] s { s with heap:=h' }
def xU(S:ak c φ H s)(hn:i6 s.heap C m)(hat:m (ao "at")=none)(hφ:C∉φ)(h0:c.h0.get? C=none)(hn':i6 h' C m')(hs:cC C s.heap h'):Cg c φ H s C h':=by
 obtain⟨⟨o,es,n,ho,hd,_,hm⟩,o1,ho1,hc1⟩:=hn;obtain rfl:=ah (ho.symm.trans ho1);obtain⟨⟨o',es',n',ho',hd',_⟩,o1',ho1',hc1'⟩:=hn';obtain rfl:=ah (ho'.symm.trans ho1');have keep:∀b o,b≠C->s.heap.get? b=some o->h'.get? b=some o:=fun b o hb ho=>(hs.same.2 b hb).trans ho;have kp:=vH (φ:=φ) keep (fun ob es1 k hb Z=>by obtain rfl:=ah (ho.symm.trans hb);exact⟨o',es',n',ho',hd',hs.dk _ _ ho ho'⟩) (fun ob vs hb hd1=>by obtain rfl:=ah (ho.symm.trans hb);rw[hd] at hd1;injection hd1);have ow:ax c [C] s.heap:=fun b hb ob hob=>by
  rw[aV.mp hb] at hob ⊢;obtain rfl:=ah (ho.symm.trans hob);exact .inr (.inr (.inl ⟨hc1,es,n,hd,(hm _).trans hat⟩))
 exact⟨kp,ow,S.mono (s':={ s with heap:=h' }) kp ow (fun b hb=>by rw[aV.mp hb];exact h0) (fun a ha o ho=>keep a o (fun q=>hφ (q▸ha)) ho) (fun b o hb Z=>keep b o (fun q=>by rw[q,h0] at hb;injection hb) (S.stays b o hb)) S.gens fun b ps hb=>keep b _ (fun q=>by rw[q,ho] at hb;(injection hb with Ja;subst Ja);injection hd) hb,
  fun b o hb ho=>keep b o (fun q=>hb (by rw[q];exact aL)) ho,rfl,rfl⟩
def Made(c:Cx)(φ:List Addr)(s:Shared)(Q:V->Hp->Prop)(D C:Addr)(s':Shared):Prop:=∀GJ:Prop,(∀(φ':List Addr),∀(H':Hp),∀(a:Nat),au [] φ s φ' s'->ak c φ' H' s'->ar c φ' s'.heap (.lst a) (.ref D)->Q (.lst a) H'->C∉φ'->∀(m:Str->Option Value),i6 s'.heap C m->(m (ao "at")=none)->(s.heap.get? C=none)->(c.h0.get? C=none)->GJ)->GJ
theorem E3{scope:Scope}(K:cP c wz wu res0 res' scope tgt t)(hfold:∀x,vw iter wz x=pure x)(hsrc:aQ c wz wu iter xsrc)
  (helt:∀wv:Env,wv.scope=ey scope wz->aQ c wv res' elt xelt) (hifs:∀wv:Env,wv.scope=ey scope wz->iQ c wv res' ifs xifs)
  {A q d k loc φ H s Q} {E:XPost} {use:Option (Value->Sem Unit)} (hA:bR c A q d φ s.heap) (hF:aq c wz wu k loc φ s.heap) (hS:ak c φ H s) (hw:aD (Calls c) q d k (.comp xelt t xsrc xifs) loc Q E H)
  (hend:∀D C s',Made c φ s Q D C s'->uN (model c.prog c.w) A (ay c φ s E) use Q' (.ref D) C (.ok .next) s') :
  wpAny (model c.prog c.w) A (comprehension (.ListComp elt [⟨tgt,iter,ifs,0⟩] scope pos) scope wz pos' (newList []) false (eval iter wz) use) Q' (ay c φ s E) s:=by
 have hcells:∀n,(n,eG)∈scope.names->∃ca,wz.cells.lookup n=some ca:=fun n hn=>by
  obtain⟨hk,i,hi⟩:=K.free n hn
  exact(zA hF hk hi).addr
 refine HD rfl hfold (Jf hcells) K.kind K.names (wm (hsrc A q d k loc φ H s _ E hA hF hS hw) ?_)
 rintro sv s₁ ⟨φ₁,H₁,v₁,e₁,S₁,R₁,w₁⟩
 obtain⟨items,hit,wq,w₂⟩:=ae.inv w₁
 clear w₁
 obtain⟨rfl,hitems⟩:=E1 hit
 have hh:A.handled=none:=hA.hd rfl
 refine wm (Ew hh S₁ R₁ hitems (tg:=tgt)) ?_
 rintro it s₂ w0;refine w0 _ fun wr St e₂ S₂ I st₂ hw₂=>?_;clear w0
 have e₁₂:=e₁.trans e₂
 refine nC ?_ (by size_fits)
 refine HM ?_
 dsimp only
 generalize hs₃:({ s₂ with heap:=s₂.heap.push { cls:=.type "list",dict:=none,data:=.seq ([]:List Value).toArray } }:Shared)=s₃
 have hh₃:s₃.heap=s₂.heap.push { cls:=.type "list",dict:=none,data:=.seq ([]:List Value).toArray }:=by rw[<- hs₃]
 have keep₄:∀b o,s₃.heap.get? b=some o->(dB (s₃.heap.push { cls:=.type "dict",data:=.dict #[] }) scope.names).get? b=some o:=fun b o hb=>uU _ _ _ _ (bV _ hb)
 have hz₅:(s₃.heap.push { cls:=.type "dict",data:=.dict #[] }).objs.size=s₃.heap.objs.size+1:=qG ..
 generalize hs₄:({ s₃ with heap:=dB (s₃.heap.push { cls:=.type "dict",data:=.dict #[] }) scope.names }:Shared)=s₄
 have hz₃:s₃.heap.objs.size=s₂.heap.objs.size+1:=by rw[hh₃,qG]
 have e₃:au [] φ₁ s₂ φ₁ s₃:=by rw[<- hs₃];exact au.push
 have S₃:ak c φ₁ H₁ s₃:=by rw[<- hs₃];exact S₂.push _
 have e₄:au [] φ₁ s₃ φ₁ s₄:=by rw[<- hs₄];exact au.of_keeps keep₄ rfl
 have S₄:ak c φ₁ H₁ s₄:=by rw[<- hs₄];exact S₃.keeps (s':={ s₃ with heap:=_ }) keep₄ rfl
 have hD₃:s₃.heap.get? s₂.heap.objs.size=some (dR #[] 0):=by rw[hh₃];exact dw _ rfl
 have hD₄:s₄.heap.get? s₂.heap.objs.size=some (dR #[] 0):=by rw[<- hs₄];exact keep₄ _ _ hD₃
 have hC₅:(s₃.heap.push { cls:=.type "dict",data:=.dict #[] }).get? s₃.heap.objs.size=some { cls:=.type "dict",data:=.dict #[] }:=dw _ rfl
 have e₀₄:au [] φ s φ₁ s₄:=(e₁₂.trans e₃).trans e₄
 have hD0:s.heap.get? s₂.heap.objs.size=none:=e₁₂.fresh S₂ (fz (aN _))
 have hC0:s.heap.get? s₃.heap.objs.size=none:=(e₁₂.trans e₃).fresh S₃ (fz (aN _))
 have hw0:∀b∈wr,s.heap.get? b=none:=fun b hb=>e₁.fresh S₁ (hw₂ b hb)
 have hDC:s₂.heap.objs.size≠s₃.heap.objs.size:=by rw[hz₃];exact cj (Nat.lt_succ_self _)
 have hDh:=S₂.h0_new (aN s₂.heap.objs.size)
 have hCh:=S₃.h0_new (aN s₃.heap.objs.size)
 have hDφ:s₂.heap.objs.size∉φ₁:=S₂.new
 have hCφ:s₃.heap.objs.size∉φ₁:=S₃.new
 have hnew:∀b,s₃.heap.objs.size<=b->b∉φ₁/\c.h0.get? b=none:=fun b hb=>⟨fun hm=>Nat.not_lt.mpr hb (S₃.lt hm),S₃.h0_new hb⟩
 have F₃:=hF.mono e₀₄
 rw[<- hs₄] at F₃
 have F₄:=JO K hz₅ F₃ hC₅ hnew
 have EX:=lj K hz₅ (hF.mono (e₁₂.trans e₃)) (fun b o hb=>f9 hb)
 have hX0:∀b∈XC (compEnvC scope (dD (s₃.heap.objs.size+1) scope.names (eM wz scope.names [])) s₃.heap.objs.size wz),s.heap.get? b=none:=fun b hb=>
  (e₁₂.trans e₃).fresh S₃ (fz ((CB hb).elim (fun h=>gk h.symm) fun h=>bY h.2))
 have hDX:s₂.heap.objs.size∉XC (compEnvC scope (dD (s₃.heap.objs.size+1) scope.names (eM wz scope.names [])) s₃.heap.objs.size wz):=fun h=>by
  have hlt:s₂.heap.objs.size<s₃.heap.objs.size:=by rw[hz₃];exact Nat.lt_succ_self _
  exact(CB h).elim (fun h=>cj hlt h) fun h=>Nat.lt_asymm hlt h.2
 have st₄:=I.frame _ _ _ _ _ _ (I.frame _ _ _ _ _ _ st₂ e₃.toKp ax.nil fun Z Z h=>nomatch h) e₄.toKp ax.nil fun Z Z h=>nomatch h
 have hok:gx v₁ items H₁:=by
  cases v₁ with
  |lst a=>exact hitems
  |_=>trivial
 have loop:codeAny (model c.prog c.w) A (.compLoop (.ListComp elt [⟨tgt,iter,ifs,0⟩] scope pos) 0 it (.ref s₂.heap.objs.size) (compEnvC scope (dD (s₃.heap.objs.size+1) scope.names (eM wz scope.names [])) s₃.heap.objs.size wz))
   (uN (model c.prog c.w) A (ay c φ s E) use Q' (.ref s₂.heap.objs.size) s₃.heap.objs.size) s₄:=by
  refine GE (c:=c) (wz:=wz) (wu:=wu) (loc:=loc) (QQ:=fun acc H'=>Q (.lst H'.length) (H'++[acc])) ⟨hA,K,rfl,I,EX,hX0,hD0,hw0,hDX,hDh⟩ (helt _ rfl) (hifs _ rfl) wq
   ⟨e₀₄,S₄,hs₄▸F₄,st₄,⟨#[],0,hD₄,rL,hDφ⟩⟩ hok w₂ ?_
  intro av φ' H' s' e' S' F' hacc hav hq
  obtain⟨vs,n,ho,hr,hD'⟩:=hacc
  obtain⟨m,⟨hn,o,h1,h2⟩,_,_⟩:=F'.ns
  have h2':o.cls=.type "dict"/\m (ao "at")=none:=by
   rcases h2 with h2 |h2
   ·rw[K.fr0] at h2;cases h2.2
   ·exact⟨h2.1,h2.2.1⟩
  refine hend _ _ s' (fun Z kJ=>kJ (φ'++[s₂.heap.objs.size]) (H'++[av]) H'.length ?_ (S'.adopt hD' hDh ho rfl rfl ⟨rfl,rfl⟩ hr hav) (d7.mk _ rfl (by rw[iE (gk S'.len)];simp[S'.len])) hq (fun hm=>?_) m ⟨hn,o,h1,h2'.1⟩ h2'.2 hC0 hCh)
  ·exact{ e' with
    pre:=e'.pre.trans (List.prefix_append _ _)
    new:=fun a ha=>(cE.mp ha).elim (e'.new a) fun h=>.inr (by rw[aV.mp h];exact hD0) }
  ·rcases cE.mp hm with h |h
   ·exact F'.Lφ h
   ·exact hDC (aV.mp h).symm
 subst hs₄
 subst hs₃
 exact codeAny_compStart_list loop (I.self 0 φ₁ _ _ _ st₄ loop)
def GU{scope:Scope}(K:cP c wz wu res0 res' scope tgt t)(hfold:∀x,vw iter wz x=pure x)(hsrc:aQ c wz wu iter xsrc)
  (helt:∀wv:Env,wv.scope=ey scope wz->aQ c wv res' elt xelt) (hifs:∀wv:Env,wv.scope=ey scope wz->iQ c wv res' ifs xifs) :
  aQ c wz wu (.ListComp elt [⟨tgt,iter,ifs,0⟩] scope pos) (.comp xelt t xsrc xifs):=fun A q d k loc φ H s Q E hA hF hS hw=>by
 rw[eval_ListComp]
 refine E3 K hfold hsrc helt hifs hA hF hS hw ?_
 rintro D C s' w0;refine w0 _ fun φ' H' a e S R hq hC m hm hat hC0 hCh=>?_;clear w0
 refine⟨m,hm,fun h' m' hn' hs'=>?_⟩
 have g:=xU S hm hat hC hCh hn' hs'
 exact⟨φ',H',.lst a,e.kept g.kept fun b hb=>by rw[aV.mp hb];exact hC0,g.sim,ar.mono g.kp g.ow R,hq⟩
end
section
open PySem PyProof.Rows
structure aJ(c:Cx)(xs:List Addr)(s s':Shared):Prop where
 keep:∀b o,b∉xs->s.heap.get? b=some o->o.cls≠.type "frame"->s'.heap.get? b=some o
 slot:∀b o,b∉xs->s.heap.get? b=some o->∃sl,s'.heap.get? b=some { o with slots:=sl }
 base:∀b o,c.h0.get? b=some o->s.heap.get? b=some o->s'.heap.get? b=some o
 exc:∀b o,b∈xs->s.heap.get? b=some o->∃vs,s'.heap.get? b=some { o with data:=.fields vs }
 gens:s'.gens=s.gens
 os:s'.os=s.os
def bD(c:Cx)(xs φ:List Addr)(h:Heap):Prop:=∀b∈xs,b∉φ/\c.h0.get? b=none/\∃o vs,h.get? b=some o/\o.data=.fields vs/\((∃C,o.cls=.ref C)\/o.cls=.type "traceback")
def aJ.trans(a:aJ c xs s s₁)(b:aJ c xs s₁ s'):aJ c xs s s' where
 keep x o hx ho hc:=b.keep x o hx (a.keep x o hx ho hc) hc
 slot x o hx ho:=by
  obtain⟨sl,h1⟩:=a.slot x o hx ho
  obtain⟨sl',h2⟩:=b.slot x _ hx h1
  exact⟨sl',h2⟩
 base x o h0 ho:=b.base x o h0 (a.base x o h0 ho)
 exc x o hx ho:=by
  obtain⟨vs,h1⟩:=a.exc x o hx ho
  obtain⟨vs',h2⟩:=b.exc x _ hx h1
  exact⟨vs',h2⟩
 gens:=b.gens.trans a.gens
 os:=b.os.trans a.os
theorem aJ.refl(hx:bD c xs φ s.heap):aJ c xs s s where
 keep _ _ _ h _:=h
 slot _ o _ h:=⟨o.slots,h⟩
 base _ _ _ h:=h
 exc b o hb ho:=by
  obtain⟨_,_,o',vs,h1,h2,_⟩:=hx b hb
  replace h1:=ah (ho.symm.trans h1);subst h1
  exact⟨vs,by rw[<- h2];exact ho⟩
 gens:=rfl
 os:=rfl
def aJ.kp(n:aJ c xs s s')(hx:bD c xs φ s.heap):Kp xs φ s.heap φ s'.heap where
 pre:=nv
 keep b o hb _ hX hc:=n.keep b o hX hb (mf hc)
 new _ h:=.inl h
 dict b o es k hb _ hd:=by
  have hn:b∉xs:=fun hm=>by
   obtain⟨_,_,o',vs,h1,h2,_⟩:=hx b hm
   replace h1:=ah (hb.symm.trans h1);subst h1;rw[hd] at h2;injection h2
  obtain⟨sl,h1⟩:=n.slot b o hn hb
  exact⟨_,es,k,h1,hd,.same rfl rfl⟩
 exc b o vs C hb _ hc hd:=by
  by_cases hm:b∈xs
  ·exact n.exc b o hm hb
  ·exact⟨vs,by rw[<- hd];exact n.keep b o hm hb (by rw[hc];intro q;injection q)⟩
def bD.own(hx:bD c xs φ s.heap):ax c xs s.heap:=fun b hb o ho=>by
 obtain⟨_,_,o',vs,h1,_,h3⟩:=hx b hb;replace h1:=ah (ho.symm.trans h1);subst h1;rcases h3 with h3 |h3
 ·exact .inr (.inr (.inr h3))
 ·exact .inl (by rw[h3];decide)
def ak.noted(S:ak c φ H s)(n:aJ c xs s s')(hx:bD c xs φ s.heap):ak c φ H s':=
 S.mono (n.kp hx) hx.own (fun b hb=>(hx b hb).2.1) (fun a ha o ho=>by
  obtain⟨o',h1,h2⟩:=S.isList ha;replace h1:=ah (ho.symm.trans h1);subst h1;exact n.keep a o (fun hm=>(hx a hm).1 ha) ho (by rw[h2];decide)) (fun b o hb Z=>n.base b o hb (S.stays b o hb)) (n.gens.trans S.gens) fun b ps hb=>n.keep b _ (fun hm=>by obtain⟨_,_,o1,vs,h1,_,h3⟩:=hx b hm;replace h1:=ah (hb.symm.trans h1);subst h1;exact h3.elim (fun⟨_,q⟩=>nomatch q) fun q=>nomatch q) hb (fun q=>nomatch q)
def d8.excs(F:aq c wz wu k loc φ s.heap)(h:bD c xs φ s.heap):d8 wz xs s where
 loc hm:=by
  obtain⟨_,_,o,vs,h1,h2,_⟩:=h _ hm
  obtain⟨m,⟨⟨o',es,n,h3,h4,_⟩,_⟩,_⟩:=F.ns
  replace h3:=ah (h1.symm.trans h3);subst h3
  rw[h2] at h4;injection h4
 cells x ca hx hm:=by
  obtain⟨_,_,o,vs,h1,h2,h5⟩:=h _ hm
  obtain⟨_,_,o',h3,h4⟩:=F.cells x ca hx
  replace h3:=ah (h1.symm.trans h3);subst h3
  rcases h5 with⟨C,h5⟩|h5
  ·rw[h4] at h5;injection h5
  ·rw[h4] at h5;exact absurd h5 (by decide)
 clo ca o ho hc _ hm:=by
  obtain⟨_,_,o',vs,h1,h2,h5⟩:=h _ hm
  replace h1:=ah (ho.symm.trans h1);subst h1
  rcases h5 with⟨C,h5⟩|h5
  ·rw[hc] at h5;injection h5
  ·rw[hc] at h5;exact absurd h5 (by decide)
def aq.noted(F:aq c wz wu k loc φ s.heap)(n:aJ c xs s s')(hx:bD c xs φ s.heap):aq c wz wu k loc φ s'.heap:=
 F.off (n.kp hx) hx.own (d8.excs F hx) fun o ho=>n.slot _ o (d8.excs F hx).loc ho
def au.noted(e:au X φ₀ s₀ φ s)(n:aJ c xs s s')(hn:∀b∈xs,s₀.heap.get? b=none):au X φ₀ s₀ φ s' where
 pre:=e.pre
 keep b o hb hφ hX hc:=n.keep b o (fun q=>by exact cq ((hn b q).symm.trans hb)) (e.keep b o hb hφ hX hc) (mf hc)
 new:=e.new
 tabs b o hb hφ hX hc:=
  let⟨o',h',c'⟩:=e.tabs b o hb hφ hX hc
  ⟨o',n.keep b o' (fun q=>by exact cq ((hn b q).symm.trans hb)) h' (by rw[c'];decide),c'⟩
 frame b o hb hφ hX hc:=by
  obtain⟨sl,h₁⟩:=e.frame b o hb hφ hX hc
  obtain⟨sl',h₂⟩:=n.slot b _ (fun q=>by exact cq ((hn b q).symm.trans hb)) h₁
  exact⟨sl',h₂⟩
 dict b o es k hb hφ hd:=by
  obtain⟨o₁,es₁,n₁,h₁,d₁,c₁⟩:=e.dict b o es k hb hφ hd
  obtain⟨sl',h₂⟩:=n.slot b _ (fun q=>by exact cq ((hn b q).symm.trans hb)) h₁
  exact⟨_,es₁,n₁,h₂,d₁,dz.trans (o₁:=o₁) (dz.same rfl rfl) c₁ d₁⟩
 exc b o vs C hb hφ hc hd:=by
  obtain⟨vs₁,h₁⟩:=e.exc b o vs C hb hφ hc hd
  exact⟨vs₁,n.keep b _ (fun q=>by exact cq ((hn b q).symm.trans hb)) h₁ (by show o.cls≠_;rw[hc];intro q;injection q)⟩
 alive b o hb hX:=by
  obtain⟨o',h'⟩:=e.alive b o hb hX
  obtain⟨sl',h₂⟩:=n.slot b _ (fun q=>by exact cq ((hn b q).symm.trans hb)) h'
  exact⟨_,h₂⟩
 os:=n.os.trans e.os
def oi(h:Heap)(e:Value):Prop:=∃a o vs T,e=.ref a/\h.get? a=some o/\o.data=.fields vs/\vs[1]?=some (.ref T)
theorem b9.excs(q:b9 c φ s₀ h x e):∃a o vs,e=.ref a/\h.get? a=some o/\o.data=.fields vs/\1<vs.size/\(∃C,o.cls=.ref C) /\ ((vs[1]?=some .none/\bD c [a] φ h/\∀b∈[a],s₀.heap.get? b=none) \/
   ∃T oT ts,vs[1]?=some (.ref T)/\T≠a/\h.get? T=some oT/\oT.data=.fields ts/\3<ts.size/\oT.cls=.type "traceback"/\bD c [a,T] φ h/\∀b∈[a,T],s₀.heap.get? b=none):=by
 obtain⟨h1,⟨cn,y,rfl⟩,a,o,vs,rfl,h4,h5,h6,h7⟩:=q;simp only[ar] at h1;obtain⟨a',o',vs',h8,h9,h10,h11,h12,h13,h14,_⟩:=h1;(injection h8 with Ja;subst Ja);replace h11:=ah (h5.symm.trans h11);subst h11;rw[h6] at h14;injection h14 with Ja;subst Ja;refine⟨a,o,vs,rfl,h5,h6,?_,h12,?_⟩
 ·rcases h7 with h7 |⟨T,_,_,h7,_⟩<;>exact(Array.getElem?_eq_some_iff.mp h7).1
 ·rcases h7 with h7 |⟨T,oT,ts,g1,g2,g3,g4,g5,g6,g7,g8⟩
  ·refine .inl ⟨h7,fun b hb=>?_,by simpa using h4⟩;rw[aV.mp hb];exact⟨h9,h10,o,vs,h5,h6,.inl h12⟩
  ·have hne:T≠a:=fun q=>by
    rw[q,h5] at g5;(injection g5 with Ja;subst Ja);obtain⟨C,h12⟩:=h12;rw[h12] at g6;injection g6
   refine .inr ⟨T,oT,ts,g1,hne,g5,g7,g8,g6,fun b hb=>?_,fun b hb=>?_⟩
   ·simp only[bc,gq,or_false] at hb;rcases hb with rfl |rfl
    ·exact⟨h9,h10,o,vs,h5,h6,.inl h12⟩
    ·exact⟨g3,g4,oT,ts,g5,g7,.inr g6⟩
   ·simp only[bc,gq,or_false] at hb;rcases hb with rfl |rfl
    ·exact h4
    ·exact g2
end
section
open PySem PyProof.Rows
def IA(h:o.data=.fields vs)(f:Array Value->Array Value):rp f o={ o with data:=.fields (f vs) }:=by
 obtain⟨a,b,d,e⟩:=o;subst h;rfl
def aJ.upd(hx:bD c xs φ s.heap)(hb:b∈xs)(ho:s.heap.get? b=some o)(hd:o.data=.fields vs)(f:Array Value->Array Value) :
  aJ c xs s { s with heap:=s.heap.update b (rp f) }/\(s.heap.update b (rp f)).get? b=some { o with data:=.fields (f vs) }:=by
 have self:(s.heap.update b (rp f)).get? b=some { o with data:=.fields (f vs) }:=by
  rw[gc _ ho (Obj.isFreed_of_fields (Obj.data_mapFields hd f)),IA hd]
 refine⟨⟨fun a oa ha hoa Z=>?_,fun a oa ha hoa=>⟨oa.slots,?_⟩,fun a oa h0 hoa=>?_,fun a oa ha hoa=>?_,rfl,rfl⟩,self⟩
 ·exact(rq _ _ (fun(q:b=a)=>ha (q▸hb))).trans hoa
 ·exact(rq _ _ (fun(q:b=a)=>ha (q▸hb))).trans hoa
 ·exact(rq _ _ (fun q=>by rw[<- q,(hx b hb).2.1] at h0;injection h0)).trans hoa
 ·by_cases q:a=b
  ·subst q;replace hoa:=ah (ho.symm.trans hoa);subst hoa;exact⟨_,self⟩
  ·obtain⟨_,_,o',vs',h1,h2,_⟩:=hx a ha;replace h1:=ah (hoa.symm.trans h1);subst h1;exact⟨vs',by rw[<- h2];exact(rq _ _ (cS q)).trans hoa⟩
theorem aJ.push(hx:bD c xs φ s.heap)(o:Obj):aJ c xs s { s with heap:=s.heap.push o } where
 keep _ _ _ h _:=bV _ h
 slot _ o' _ h:=⟨o'.slots,bV _ h⟩
 base _ _ _ h:=bV _ h
 exc b o' hb ho:=by
  obtain⟨_,_,o1,vs,h1,h2,_⟩:=hx b hb
  replace h1:=ah (ho.symm.trans h1);subst h1
  exact⟨vs,by rw[<- h2];exact bV _ ho⟩
 gens:=rfl
 os:=rfl
theorem Gs(hE:∀wz∈l,bt c φ h wz):h.FunFrames c.h0 l:=by
 induction l with
 |nil=>trivial
 |cons wz l ih=>
  obtain⟨h1,L,o,es,n,h2,h3,h4,h5,h6,h7⟩:=hE wz aL;exact⟨h1.1,⟨L,o,h2,h3,h5,fun vs q=>by rw[h6] at q;injection q⟩,ih fun wz he=>hE wz (a9 _ he)⟩
def zK(hE:∀wz∈l,bt c φ h wz)(hb:b∈l.filterMap (·.frame)):c.h0.get? b=none/\∃o es n,h.get? b=some o/\o.cls=.type "frame"/\o.data=.dict es n:=by
 obtain⟨wz,he,hf⟩:=List.mem_filterMap.mp hb;obtain⟨h1,L,o,es,n,h2,h3,h4,h5,h6,h7⟩:=hE wz he;replace h2:=ah (hf.symm.trans h2);subst h2;exact⟨h3,o,es,n,h5,h7,h6⟩
theorem aJ.slots(hx:bD c xs φ s.heap)(hE:∀wz∈l,bt c φ s.heap wz)(hs:Heap.SlotsOnly (l.filterMap (·.frame)) s.heap h'):aJ c xs s { s with heap:=h' } where
 keep b o _ ho hc:=by
  refine(hs.2.1 b fun hm=>?_).trans ho
  obtain⟨_,o',_,_,h1,h2,_⟩:=zK hE hm
  replace h1:=ah (ho.symm.trans h1);subst h1;exact hc h2
 slot b o _ ho:=hs.2.2 b o ho
 base b o h0 ho:=(hs.2.1 b fun hm=>by exact cq (((zK hE hm).1).symm.trans h0)).trans ho
 exc b o hb ho:=by
  obtain⟨_,_,o1,vs,h1,h2,_⟩:=hx b hb
  replace h1:=ah (ho.symm.trans h1);subst h1
  refine⟨vs,?_⟩
  rw[<- h2]
  refine(hs.2.1 b fun hm=>?_).trans ho
  obtain⟨_,o',es,n,h3,_,h5⟩:=zK hE hm
  replace h3:=ah (ho.symm.trans h3);subst h3;rw[h2] at h5;injection h5
 gens:=rfl
 os:=rfl
def bD.noted(hx:bD c xs φ s.heap)(n:aJ c xs s s'):bD c xs φ s'.heap:=fun b hb=>by
 obtain⟨h1,h2,o,vs,h3,h4,h5⟩:=hx b hb;obtain⟨vs',h6⟩:=n.exc b o hb h3;exact⟨h1,h2,_,vs',h6,rfl,h5⟩
def bt.noted(h:bt c φ s.heap wz)(n:aJ c xs s s')(hx:bD c xs φ s.heap):bt c φ s'.heap wz:=by
 obtain⟨h1,L,o,es,k,h2,h3,h4,h5,h6,h7⟩:=h;obtain⟨sl,h8⟩:=n.slot L o (fun hm=>by
  obtain⟨_,_,o',vs,h1,h2,_⟩:=hx L hm;replace h1:=ah (h5.symm.trans h1);subst h1;rw[h6] at h2;injection h2) h5
 exact⟨h1,L,_,es,k,h2,h3,h4,h8,h6,h7⟩
theorem DF{b:Bool}(hfr:A.frames=some (wz::outer))(hE:∀e∈wz::outer,bt c φ s.heap e)(hf:wz.frame=some L) (hx:bD c xs φ s.heap) (ha:a∈xs) (ho:s.heap.get? a=some o) (hd:o.data=.fields vs) (hz:1<vs.size) :
  wpAny (model c.prog c.w) A (do let fr<-frameOf wz;let pl<-entryPlaceOf L b;let t<-EntryCells.newEntry head fr .none (rawInt L) .none pl;setField (.ref a) 1 t)
   (fun Z s'=>aJ c xs s s'/\∃T oT ts vs',s'.heap.get? a=some { o with data:=.fields vs' }/\vs'[1]?=some (.ref T)/\s.heap.objs.size<=T/\s'.heap.get? T=some oT/\oT.cls=.type "traceback"/\oT.data=.fields ts/\3<ts.size) E s:=by
 refine ai (wpAny_frameOf_fun hfr (Gs hE) hf fun h₁ hs₁=>?_);refine ai (wpAny_entryPlaceOf fun pl hpl=>?_);have n₁:=aJ.slots hx hE hs₁;obtain⟨vs₁,ho₁⟩:=n₁.exc a o ha ho;have hv:vs₁=vs:=by
  have:h₁.get? a=some o:=by
   refine(hs₁.2.1 a fun hm=>?_).trans ho;obtain⟨_,o',es,n,h3,_,h5⟩:=zK hE hm;replace h3:=ah (ho.symm.trans h3);subst h3;rw[hd] at h5;injection h5
  have h2:=ah (this.symm.trans ho₁);rw[h2] at hd;simpa using hd
 subst hv;unfold EntryCells.newEntry newFields;refine ai (nC ?_ (hpl.sizeOk5 _ _ _ _ _));generalize hent:({ cls:=.type "traceback",dict:=none,data:=.fields ([head,.ref L,.none,rawInt L,.none]++(if pl.isEmpty then List.replicate 6 dI else pl)).toArray }:Obj)=ent;have n₂:=aJ.push (s:={ s with heap:=h₁ }) (hx.noted n₁) ent;have ho₂:(h₁.push ent).get? a=some { o with data:=.fields vs₁ }:=bV _ ho₁;have hx₂:bD c xs φ (h₁.push ent):=(hx.noted n₁).noted n₂;obtain⟨n₃,ho₃⟩:=aJ.upd (s:={ s with heap:=h₁.push ent }) hx₂ ha ho₂ rfl (·.setIfInBounds 1 (cF h₁.objs.size));refine wpAny_setField ho₂ rfl hz ?_;refine⟨(n₁.trans n₂).trans n₃,h₁.objs.size,ent,_,_,ho₃,by simp[hz],?_,?_,by rw[<- hent],by rw[<- hent],?_⟩
 ·rw[hs₁.1];exact aN _
 ·refine(rq _ _ (cj (f9 ho₁))).trans (dw _ ?_);rw[<- hent];rfl
 ·simp only[List.size_toArray,bG,eU,List.length_nil]<;>exact ew [_] [] 171801870336 (Y1 (.l 3) (Y0 (.l 5) V0))
theorem CJ (hfr : A.frames = some (wz :: outer)) (hE : ∀ e ∈ wz :: outer, bt c φ s.heap e) (S : ak c φ H s) (e₀ : au X φ₀ s₀ φ s) (q : b9 c φ s₀ s.heap x e) :
  wpAny (model c.prog c.w) A (noteFrame e wz) (fun Z s' => ∃ xs, bD c xs φ s.heap /\ (∀ b ∈ xs, s₀.heap.get? b = none) /\ aJ c xs s s' /\ b9 c φ s₀ s'.heap x e /\ oi s'.heap e) E s := by
 obtain ⟨_, L, oL, esL, nL, hf, hL0, hLφ, hoL, hdL, hcL⟩ := hE wz aL;obtain ⟨a, o, vs, rfl, ho, hd, hz, hC, h7⟩ := q.excs;obtain ⟨q1, q2, _⟩ := q;have fresh : ∀ T, s.heap.objs.size <= T -> s₀.heap.get? T = none /\ T ∉ φ /\ c.h0.get? T = none := fun T hT =>
  ⟨e₀.fresh S (fz hT), fun hm => eI _ (dg (S.lt hm) hT), S.h0_new hT⟩
 unfold noteFrame;simp only [hf];rcases h7 with ⟨h1, hx, hn⟩ | ⟨T, oT, ts, h1, hTa, hoT, hdT, hzT, hcT, hx, hn⟩
 ·refine ai (qu ho hd h1 ?_);rw [if_neg (by decide)];refine wm (DF hfr hE hf hx (by simp) ho hd hz) ?_;rintro _ s' ⟨n, T, oT, ts, vs', g1, g2, g3, g4, g5, g6, g7⟩;obtain ⟨f1, f2, f3⟩ := fresh T g3;exact ⟨[a], hx, hn, n, ⟨ar.mono (n.kp hx) hx.own q1, q2, a, _, vs', rfl, hn a (by simp), g1, rfl, .inr ⟨T, oT, ts, g2, f1, f2, f3, g4, g5, g6, g7⟩⟩, a, _, vs', T, rfl, g1, rfl, g2⟩
 ·refine ai (qu ho hd h1 ?_);rw [if_pos (show (cF T != dI) = true from by simp)];have h3 : ts[3]? = some ts[3] := qa hzT;refine ai (qu hoT hdT h3 ?_);by_cases hsame : (ts[3] == rawInt L) = true
  ·rw [if_pos hsame];exact aC ⟨[a, T], hx, hn, aJ.refl hx, ⟨q1, q2, a, o, vs, rfl, hn a (by simp), ho, hd, .inr ⟨T, oT, ts, h1, hn T (by simp), (hx T (by simp)).1, (hx T (by simp)).2.1, hoT, hcT, hdT, hzT⟩⟩, a, o, vs, T, rfl, ho, hd, h1⟩
  ·rw [if_neg hsame];obtain ⟨n₁, hoT₁⟩ := aJ.upd hx (b := T) (by simp) hoT hdT (·.setIfInBounds 3 dI);refine ai (wpAny_setField hoT hdT hzT ?_);have ho₁ : (s.heap.update T (rp (·.setIfInBounds 3 dI))).get? a = some o := (rq _ _ hTa).trans ho;refine wm (DF (s := { s with heap := s.heap.update T (rp (·.setIfInBounds 3 dI)) }) hfr (fun e he => (hE e he).noted n₁ hx) hf (hx.noted n₁) (by simp) ho₁ hd hz) ?_;rintro _ s' ⟨n, T', oT', ts', vs', g1, g2, g3, g4, g5, g6, g7⟩;have hsz : s.heap.objs.size <= T' := by
    have : (s.heap.update T (rp (·.setIfInBounds 3 dI))).objs.size = s.heap.objs.size := (qo s.heap T _).1;exact this ▸ g3
   obtain ⟨f1, f2, f3⟩ := fresh T' hsz;have nn := n₁.trans n;exact ⟨[a, T], hx, hn, nn, ⟨ar.mono (nn.kp hx) hx.own q1, q2, a, _, vs', rfl, hn a (by simp), g1, rfl, .inr ⟨T', oT', ts', g2, f1, f2, f3, g4, g5, g6, g7⟩⟩, a, _, vs', T', rfl, g1, rfl, g2⟩
theorem z9 {fl : Option Addr} (q : b9 c φ s₀ s.heap x e) (ht : oi s.heap e) :
  wpAny (model c.prog c.w) A (setFlight e fl) (fun Z s' => ∃ xs, bD c xs φ s.heap /\ (∀ b ∈ xs, s₀.heap.get? b = none) /\ aJ c xs s s' /\ b9 c φ s₀ s'.heap x e /\ oi s'.heap e) E s := by
 obtain ⟨a, o, vs, rfl, ho, hd, hz, hC, h7⟩ := q.excs;obtain ⟨q1, q2, _⟩ := q;obtain ⟨a', o', vs', T', h8, h9, h10, h11⟩ := ht;(injection h8 with Ja; subst Ja);replace h9 := ah (ho.symm.trans h9); subst h9;rw [hd] at h10; injection h10 with Ja; subst Ja;rcases h7 with ⟨h1, _⟩ | ⟨T, oT, ts, h1, hTa, hoT, hdT, hzT, hcT, hx, hn⟩
 ·rw [h1] at h11; injection h11 with Ja; injection Ja
 ·unfold setFlight;refine ai (qu ho hd h1 ?_);rw [if_pos (show (cF T != dI) = true from by simp)];refine wpAny_setField hoT hdT hzT ?_;obtain ⟨n₁, hoT₁⟩ := aJ.upd hx (b := T) (by simp) hoT hdT (·.setIfInBounds 3 (fl.elim dI fun f => rawInt f));have ho₁ : (s.heap.update T (rp (·.setIfInBounds 3 (fl.elim dI fun f => rawInt f)))).get? a = some o := (rq _ _ hTa).trans ho;exact ⟨[a, T], hx, hn, n₁, ⟨ar.mono (n₁.kp hx) hx.own q1, q2, a, o, vs, rfl, hn a (by simp), ho₁, hd, .inr ⟨T, _, _, h1, hn T (by simp), (hx T (by simp)).1, (hx T (by simp)).2.1, hoT₁, hcT, rfl, by simpa using hzT⟩⟩, a, o, vs, T, rfl, ho₁, hd, h1⟩
end
variable {b:List Stmt}{e:Expr}{l:Loc}{vs:List V}{x:Value}{xs:List St}
section
open PySem PyProof.Rows
def CQ(c:Cx)(φ:List Addr)(h:Heap)(r:Value)(P:V->Prop):Prop:=∀GJ:Prop,(∀(v:V),ar c φ h v r->P v->GJ)->GJ
def yr(c:Cx)(φ:List Addr)(h:Heap)(f:Flow)(P:Fl->Prop):Prop:=match f with
 |.next=>P .next
 |.ret r=>CQ c φ h r fun v=>P (.ret v)
 |_=>False
inductive fQ(c:Cx)(wz:Env)(wu:Res)(k:cZ)(φ:List Addr)(s:Shared)(X:List Addr)(Q:SPost)(f:Flow)(s':Shared):Prop
 |mk (φ':List Addr)(H':Hp)(loc':Loc)(e:au X φ s φ' s')(S:ak c φ' H' s')(F:aq c wz wu k loc' φ' s'.heap)(q:yr c φ' s'.heap f fun f=>Q f loc' H'):fQ c wz wu k φ s X Q f s'
inductive bw(c:Cx)(wz:Env)(wu:Res)(k:cZ)(φ:List Addr)(s:Shared)(X:List Addr)(E:SX)(e:Value)(s':Shared):Prop
 |mk (φ':List Addr)(H':Hp)(loc':Loc)(x:V)(ex:au X φ s φ' s')(S:ak c φ' H' s')(F:aq c wz wu k loc' φ' s'.heap)(R:b9 c φ' s s'.heap x e)(q:E x loc' H'):bw c wz wu k φ s X E e s'
def wI(A:Around)(wz:Env):Prop:=∃outer,A.frames=some (wz::outer)
def eN(c:Cx)(wz:Env)(wu:Res)(X:List Addr)(st:Stmt)(x:St):Prop:=
 ∀A q d k loc φ H s Q E,bR c A q d φ s.heap->wI A wz->aq c wz wu k loc φ s.heap->ak c φ H s->gO (Calls c) q d k x Q E loc H->
  wpAny (model c.prog c.w) A (exec st wz) (fQ c wz wu k φ s X Q) (bw c wz wu k φ s X E) s
def gE(c:Cx)(wz:Env)(wu:Res)(X:List Addr)(sts:List Stmt)(xs:List St):Prop:=
 ∀A q d k loc φ H s Q E,bR c A q d φ s.heap->wI A wz->aq c wz wu k loc φ s.heap->ak c φ H s->az (Calls c) q d k xs Q E loc H->
  wpAny (model c.prog c.w) A (execs sts wz) (fQ c wz wu k φ s X Q) (bw c wz wu k φ s X E) s
section
variable {E:SX}
def fQ.lift(e:au X φ s φ₁ s₁)(h:fQ c wz wu k φ₁ s₁ X Q f s₂):fQ c wz wu k φ s X Q f s₂:=
 let⟨φ',H',l,e',S,F,q⟩:=h;⟨φ',H',l,e.trans e',S,F,q⟩
def bw.lift(e:au X φ s φ₁ s₁)(S₁:ak c φ₁ H s₁)(h:bw c wz wu k φ₁ s₁ X E x s₂):bw c wz wu k φ s X E x s₂:=
 let⟨φ',H',l,v,e',S,F,R,hq⟩:=h;⟨φ',H',l,v,e.trans e',S,F,R.lift e S₁,hq⟩
def aq.weak(F:aq c wz wu k loc φ s.heap)(hX:aO al wz X)(e:au [] φ s φ' s'):au X φ s φ' s':=
 e.weaken (fun Z h=>nomatch h) fun b hb=>(F.outX hX b hb).1
def ay.toS(F:aq c wz wu k loc φ s.heap)(hX:aO al wz X)(h:ay c φ s (fun x H=>E x loc H) x s₁):bw c wz wu k φ s X E x s₁:=
 let⟨φ',H',v,e',S,R,hq⟩:=h;⟨φ',H',loc,v,F.weak hX e',S,F.mono e',R,hq⟩
def bw.no{P:Prop}(h:bw c wz wu k φ s X (fun Z Z Z=>False) x s₁):P:=let⟨_,_,_,_,_,_,_,_,h⟩:=h;h.elim
def bR.monoX(h:bR c A q d φ s.heap)(e:au X φ s φ' s'):bR c A q d φ' s'.heap:=h.mono e
def Kk(hA:bR c A q d φ s.heap)(hh:wI A wz)(h:bw c wz wu k φ s X E x s₁) :
  notedBy (model c.prog c.w) A wz (fun e s'=>cameBackBy (model c.prog c.w) A wz (bw c wz wu k φ s X E) e s') x s₁:=by
 obtain⟨φ',H',l,v,e',S,F,R,hq⟩:=h;obtain⟨outer,hfr⟩:=hh;have hE:∀e∈wz::outer,bt c φ' s₁.heap e:=by
  obtain⟨l',h1,h2⟩:=(hA.monoX e').fr;replace h1:=ah (hfr.symm.trans h1);subst h1;exact h2
 unfold notedBy;refine wm (CJ hfr hE S e' R) ?_;rintro _ s₂ ⟨xs,hx,hn,n,R₂,ht⟩;have e₂:=e'.noted n hn;have S₂:=S.noted n hx;have F₂:=F.noted n hx;unfold cameBackBy;obtain⟨a,o,vs,T,rfl,g1,g2,g3⟩:=id ht;refine ai (qu g1 g2 g3 ?_);rw[if_neg (by intro q;injection q)];refine wm (z9 R₂ ht) ?_;rintro _ s₃ ⟨xs,hx,hn,n,R₃,ht⟩;exact⟨φ',H',l,v,e₂.noted n hn,S₂.noted n hx,F₂.noted n hx,R₃,hq⟩
def Ce:gE c wz wu X [] []:=fun A q d k loc φ H s Q E hA hh hF hS hw=>by
 exact wpAny_execs_nil ⟨φ,H,loc,au.refl,hS,hF,hw⟩
theorem w8 {x:St} (h1:eN c wz wu X st x) (h2:gE c wz wu X sts xs):gE c wz wu X (st::sts) (x::xs):=fun A q d k loc φ H s Q E hA hh hF hS hw=>by
 refine wpAny_execs_cons (wm (h1 A q d k loc φ H s _ E hA hh hF hS hw) ?_);rintro f s₁ ⟨φ₁,H₁,l₁,e₁,S₁,F₁,w₁⟩;cases f with
 |next=>exact a8 (h2 A q d k l₁ φ₁ H₁ s₁ Q E (hA.monoX e₁) hh F₁ S₁ w₁) (fun Z Z h=>h.lift e₁) fun Z Z h=>h.lift e₁ S₁
 |ret r=>exact⟨φ₁,H₁,l₁,e₁,S₁,F₁,w₁⟩
 |_=>exact w₁.elim
def Es {x:Ex} (hX:aO aM wz X) (h:aQ c wz wu e x):eN c wz wu X (.Return (some e) pos) (.ret x):=fun A q d k loc φ H s Q E hA hh hF hS hw=>by
 refine wpAny_Return_some (a8 (h A q d k loc φ H s _ _ hA hF hS hw) ?_ fun Z Z h=>ay.toS hF hX h);rintro r s₁ ⟨φ₁,H₁,v,e₁,S₁,R₁,w₁⟩;exact⟨φ₁,H₁,loc,hF.weak hX e₁,S₁,hF.mono e₁,(fun Z kJ=>kJ v R₁ w₁)⟩
theorem GM{x:Ex}(hX:aO aM wz X)(h:aQ c wz wu e x)(hs:swapsWith e none pos.line wz=pure false):eN c wz wu X (.Expr e pos) (.expr x):=fun A q d k loc φ H s Q E hA hh hF hS hw=>by
 refine wpAny_Expr_any (a8 (h A q d k loc φ H s _ _ hA hF hS hw) ?_ fun Z Z h=>ay.toS hF hX h) (by simp[interactive,hF.fn]) hs;rintro r s₁ ⟨φ₁,H₁,v,e₁,S₁,R₁,w₁⟩;exact⟨φ₁,H₁,loc,hF.weak hX e₁,S₁,hF.mono e₁,w₁⟩
def FQ{x:Ex}(hX:aO aM wz X)(h:aQ c wz wu e x)(hs:swapsWith e (some (.Name y py)) pos.line wz=pure false)(hy:a0 aM wz wu wu y i) :
  eN c wz wu X (.Assign [.Name y py] e pos) (.set i x):=fun A q d k loc φ H s Q E hA hh hF hS hw=>by
 refine wpAny_Assign_Name (a8 (h A q d k loc φ H s _ _ hA hF hS hw) ?_ fun Z Z h=>ay.toS hF hX h) hs;rintro r s₁ ⟨φ₁,H₁,v,e₁,S₁,R₁,w₁⟩;refine wm (qV (hF.mono e₁) S₁ hy hX R₁) ?_;rintro _ s₂ ⟨F₂,S₂,e₂,_⟩;exact⟨φ₁,H₁,_,(hF.weak hX e₁).trans e₂,S₂,F₂,w₁⟩
def Gw{x:Ex} {x1}(hX:aO aM wz X)(h:aQ c wz wu e x)(hs:swapsWithSole [.Tuple es x1 py] e pos.line wz=pure false)(hw':swappedStores [.Tuple es x1 py] e wz=pure none)(hy:tK aM wz wu wu es is) :
  eN c wz wu X (.Assign [.Tuple es x1 py] e pos) (.unp is x):=fun A q d k loc φ H s Q E hA hh hF hS hw=>by
 obtain⟨rfl,hw⟩:=hw;refine PyProof.Rows.Assign_Tuple (a8 (h A true d k loc φ H s _ _ hA hF hS hw) ?_ fun Z Z h=>ay.toS hF hX h) hs hw';rintro r s₁ ⟨φ₁,H₁,v,e₁,S₁,R₁,w₁⟩;revert w₁;refine xI fun l' hu w₂=>?_;revert hu;refine xB fun vs hv hb=>?_;obtain rfl:=yo hv;refine wm (Fm (hA.hd rfl) hX hy hb (hF.mono e₁) S₁ R₁) ?_;rintro _ s₂ ⟨F₂,S₂,e₂,_⟩;exact⟨φ₁,H₁,_,(hF.weak hX e₁).trans e₂,S₂,F₂,w₂⟩
theorem t9{E:Value->Shared->Prop}(S:ak c φ H s){v w:V}{y:Value}(R1:ar c φ s.heap v x)(R2:ar c φ s.heap w y)(R3:ar c φ s.heap u r)(e:lU H v w u=some H') :
  wpAny (model c.prog c.w) A (setItem x y r) (fun Z s'=>au [] φ s φ s'/\ak c φ H' s') E s:=by
 revert e;refine xB fun i hi f=>?_;skip;obtain rfl:=xV hi;revert f;refine xB fun k hk' f2=>?_;obtain rfl:=pH hk';revert f2;refine xB fun xs e1 f3=>?_;revert f3;refine xS fun hk wj=>?_;subst wj;refine(S.getP R1 e1) _ fun l us n wk ha ho hr hz z=>?_;subst wk;obtain⟨t,rfl⟩:=R2;have hl:=ja ho;have hsl:qag=2^24:=rfl;unfold setItem;try with_reducible refine de ?_
 first |refine ai (aC ?_) |skip
 refine ai (wpAny_sequenceKey hl.typeIs (by decide) ?_);refine ai (wpAny_callSpecial?_slot (name:=ao "__setitem__") hl.typeIs slot_list_setitem
  (tO slot_list_setitem hl.typeIs entry_list_setitem ?_ (args_list_setitem _ _ _)))
 show wpAny _ _ (Builtin.List.listSubscript? (.int k t) >>=_) _ _ s;refine ai (wpAny_listSubscript_int (fitsIndex_of hk.1 (by exact iZ [_,_] [_,_] kah (Y4 V0 V1) (Y4 V0 (Y4 V0 J0)) (Y0 V0 V1) (Y2 V1 (.l 16777216)) (Y5 V1 (.l 9223372036854775808)) hk.2 hz hsl (Ar.p63))) ?_);obtain⟨h0,hlt⟩:=hk;obtain⟨j,rfl⟩:=Int.eq_ofNat_of_zero_le h0;have hj:j<us.size:=by rw[z];exact bW.mp hlt
 have hx':us[j]?=some us[j]:=qa hj;show wpAny _ _ ((seqItemAt l j >>=fun r=>pure (r.map (j,·))) >>=_) _ _ s;refine ai (ai (wpAny_seqItemAt ho rfl (aC ?_)));rw[hx'];show wpAny _ _ (setSeqItemAt l j r >>=_) _ _ s;have hfin:au [] φ s φ { s with heap:=s.heap.update l (nE (·.setIfInBounds j r)) }/\ak c φ (H.set i (xs.set j u)) { s with heap:=s.heap.update l (nE (·.setIfInBounds j r)) }:=
  S.put (h':=s.heap.update l (nE (·.setIfInBounds j r))) ha (qo ..) (IsL.update (n:=n) ho _) (by rw[Array.toList_setIfInBounds];exact hr.set j R3) (by rw[fW];exact hz)
 refine ai (wpAny_setSeqItemAt ho rfl ?_);first
  |exact ai (aC (aC ⟨.none,rfl,aC hfin⟩))
  |exact aC ⟨.none,rfl,aC hfin⟩
def GI{o i:Expr}{xo xi xe:Ex}(hX:aO aM wz X)(h1:aQ c wz wu o xo)(h2:aQ c wz wu i xi)(h3:aQ c wz wu e xe)(hs:swapsWith e (some (.Subscript o i py)) pos.line wz=pure false) :
  eN c wz wu X (.Assign [.Subscript o i py] e pos) (.put xo xi xe):=fun A q d k loc φ H s Q E hA hh hF hS hw=>by
 refine wpAny_Assign_Subscript (a8 (h3 A q d k loc φ H s _ _ hA hF hS hw) ?_ fun Z Z h=>ay.toS hF hX h) hs;rintro r s₁ ⟨φ₁,H₁,v₁,e₁,S₁,R₁,w₁⟩;refine a8 (h1 A q d k loc φ₁ H₁ s₁ _ _ (hA.mono e₁) (hF.mono e₁) S₁ w₁) ?_ fun Z Z h=>ay.toS hF hX (h.lift e₁ S₁);rintro ro s₂ ⟨φ₂,H₂,v₂,e₂,S₂,R₂,w₂⟩;have e12:=e₁.trans e₂;refine a8 (h2 A q d k loc φ₂ H₂ s₂ _ _ (hA.mono e12) (hF.mono e12) S₂ w₂) ?_ fun Z Z h=>ay.toS hF hX (h.lift e12 S₂);rintro ri s₃ ⟨φ₃,H₃,v₃,e₃,S₃,R₃,w₃⟩;revert w₃;refine xI fun H' hp w₃=>?_;refine wm (t9 S₃ (ar.mono e₃.toKp ax.nil R₂) R₃ (ar.mono (e₂.trans e₃).toKp ax.nil R₁) hp) ?_;rintro _ s₄ ⟨e₄,S₄⟩;have e14:=(e12.trans e₃).trans e₄;exact⟨φ₃,_,loc,hF.weak hX e14,S₄,hF.mono e14,w₃⟩
def Jx{scope:Scope}(hX:aO aM wz X)(K:cP c wz wu res0 res' scope tgt t)(hfold:∀x,vw iter wz x=pure x)(hsrc:aQ c wz wu iter xsrc) (helt:∀wv:Env,wv.scope=ey scope wz->aQ c wv res' elt xelt) (hifs:∀wv:Env,wv.scope=ey scope wz->iQ c wv res' ifs xifs) (hs:swapsWith (.ListComp elt [⟨tgt,iter,ifs,0⟩] scope cpos) (some (.Name y py)) pos.line wz=pure true) (hy:a0 aM wz wu wu y i) :
  eN c wz wu X (.Assign [.Name y py] (.ListComp elt [⟨tgt,iter,ifs,0⟩] scope cpos) pos) (.set i (.comp xelt t xsrc xifs)):=fun A q d k loc φ H s Q E hA hh hF hS hw=>by
 replace hw:aD (Calls c) q d k (.comp xelt t xsrc xifs) loc (fun v H=>Q .next (loc.set i (some v)) H) (fun x H=>E x loc H) H:=hw;rw[exec_Assign_Name_used _ _ _ _ hs];refine ai (i5 (ai ?_));show wpAny _ A (do let _<-comprehension (.ListComp elt [⟨tgt,iter,ifs,0⟩] scope cpos) scope wz _ (newList []) false (eval iter wz) (some (assign (.Name y py) wz))) _ _ s;refine ai (a8 (E3 (use:=some (assign (.Name y py) wz)) (Q':=fun Z s'=>fQ c wz wu k φ s X Q .next s') K hfold hsrc helt hifs hA hF hS hw ?_) (fun Z s' hq=>aC (aC hq)) fun Z Z h=>ay.toS hF hX h);rintro D C s' w0;refine w0 _ fun φ' H' a e S R hq hC m hm hat hC0 hCh=>?_;clear w0;show wpAny _ A (assign (.Name y py) wz (.ref D)) _ _ _;have F:=hF.mono e;have hCX:C∉X:=fun hm=>by
  rcases hX.only C hm with q |⟨x,hx⟩
  ·obtain⟨_,⟨_,o,ho,_⟩,_,_⟩:=hF.ns;rw[<- q,hC0] at ho;injection ho
  ·obtain⟨_,_,o,ho,_⟩:=hF.cells x C hx;exact cq (hC0.symm.trans ho)
 refine wpAny_assign_Name (wm (qV F S hy hX R) ?_);rintro _ s₂ ⟨F₂,S₂,e₂,k₂⟩;obtain⟨hn,o,ho,hc⟩:=hm;have hm₂:i6 s₂.heap C m:=⟨hn.at' fun o' ho'=>k₂.1 C o' hCX ho',o,k₂.1 C o hCX ho,hc⟩;refine⟨m,hm₂,fun h' m' hn' hs'=>?_⟩;have g:=xU S₂ hm₂ hat hC hCh hn' hs';have off:d8 wz [C] s₂:=⟨fun q=>hCX (by rw[<- aV.mp q];exact hX.loc),(fun x ca hx q=>by
   obtain⟨_,_,o,ho,_⟩:=hF.cells x ca hx;rw[aV.mp q,hC0] at ho;injection ho),fun ca oc hoc hcc Z q=>by
   rw[aV.mp q] at hoc;obtain rfl:=ah ((k₂.1 C o hCX ho).symm.trans hoc);rw[hcc] at hc;exact absurd hc (by decide)⟩
 exact⟨φ',H',_,((hF.weak hX e).trans e₂).kept g.kept fun b hb=>by rw[aV.mp hb];exact hC0,g.sim,F₂.off (s':={ s₂ with heap:=h' }) g.kp g.ow off fun o ho=>⟨o.slots,g.kept.1 _ o off.loc ho⟩,hq⟩
theorem JB{t:Expr}{a:List Stmt}{xa:List St}(hX:aO aM wz X)(ht:jt c wz wu t xt)(ha:gE c wz wu X a xa)(hb:gE c wz wu X b xb):eN c wz wu X (.If t a b pos) (.ite xt xa xb):=fun A q d k loc φ H s Q E hA hh hF hS hw=>by
 refine wpAny_If (a8 (ht A q d k loc φ H s _ _ hA hF hS hw) ?_ fun Z Z h=>ay.toS hF hX h);rintro t s₁ ⟨φ₁,H₁,e₁,S₁,w₁⟩;have e₁':=hF.weak hX e₁;cases t with
 |true=>exact a8 (ha A q d k loc φ₁ H₁ s₁ Q E (hA.mono e₁) hh (hF.mono e₁) S₁ w₁) (fun Z Z h=>h.lift e₁') fun Z Z h=>h.lift e₁' S₁
 |false=>exact a8 (hb A q d k loc φ₁ H₁ s₁ Q E (hA.mono e₁) hh (hF.mono e₁) S₁ w₁) (fun Z Z h=>h.lift e₁') fun Z Z h=>h.lift e₁' S₁
def yz(c:Cx)(wz:Env)(wu:Res)(k:cZ)(φ:List Addr)(s:Shared)(X:List Addr)(I:Nat->Loc->Hp->Prop)(n:Nat)(s':Shared):Prop:=∀GJ:Prop,(∀(φ':List Addr),∀(H':Hp),∀(l':Loc),au X φ s φ' s'->ak c φ' H' s'->aq c wz wu k l' φ' s'.heap->I n l' H'->GJ)->GJ
theorem Jj{t:Expr}(hX:aO aM wz X)(ht:jt c wz wu t xt)(hb:gE c wz wu X b xb):eN c wz wu X (.While t b [] pos) (.whil xt xb):=fun A q d k loc φ H s Q E hA hh hF hS hw=>by
 obtain⟨rfl,I,n₀,h₀,step⟩:=hw;refine wpAny_While (codeAny_whileLoop (yz c wz wu k φ s X I) ?_ n₀ (fun Z kJ=>kJ φ H loc au.refl hS hF h₀));rintro n s₁ w0;refine w0 _ fun φ₁ H₁ l₁ e₁ S₁ F₁ hI=>?_;clear w0;refine a8 (ht A true d k l₁ φ₁ H₁ s₁ _ _ (hA.monoX e₁) F₁ S₁ (step n l₁ H₁ hI)) ?_ fun Z Z h=>ay.no h;rintro t s₂ ⟨φ₂,H₂,e₂,S₂,w₂⟩;have e₁₂:=e₁.trans (F₁.weak hX e₂);cases t with
 |true=>
  refine a8 (hb A true d k l₁ φ₂ H₂ s₂ _ _ (hA.monoX e₁₂) hh (F₁.mono e₂) S₂ w₂) ?_ fun Z Z h=>bw.no h;rintro f s₃ ⟨φ₃,H₃,l₃,e₃,S₃,F₃,w₃⟩;cases f with
  |next=>
   obtain⟨m,hm,hI'⟩:=w₃;exact⟨m,hm,fun Z kJ=>kJ φ₃ H₃ l₃ (e₁₂.trans e₃) S₃ F₃ hI'⟩
  |ret r=>exact⟨φ₃,H₃,l₃,e₁₂.trans e₃,S₃,F₃,w₃⟩
  |_=>exact w₃.elim
 |false=>exact wpAny_execs_nil ⟨φ₂,H₂,l₁,e₁₂,S₂,F₁.mono e₂,w₂⟩
def Di(c:Cx)(A:Around)(tg:Expr)(φ:List Addr)(s:Shared)(Q:List V->(Hp->Prop)->Hp->Prop)(it:Value)(s₂:Shared):Prop:=∀GJ:Prop,(∀(φ₁:List Addr),∀(H₁:Hp),∀(items:List V),∀(ok:Hp->Prop),∀(wr:List Addr),∀(St:Nat->List Addr->Heap->Prop),au [] φ s φ₁ s₂->ak c φ₁ H₁ s₂->lu c A it tg wr items ok St->St 0 φ₁ s₂.heap->(∀b∈wr,s.heap.get? b=none)->ok H₁->Q items ok H₁->GJ)->GJ
def vG(c:Cx)(wz:Env)(wu:Res)(tg:Expr)(iter:Expr)(x:Sr):Prop:=
 ∀A d k loc φ H s (Q:List V->(Hp->Prop)->Hp->Prop) E,bR c A true d φ s.heap->aq c wz wu k loc φ s.heap->ak c φ H s->iH (Calls c) true d k x loc Q E H->
  wpAny (model c.prog c.w) A (eval iter wz) (fun x s₁=>wpAny (model c.prog c.w) A (pyIter x) (Di c A tg φ s Q) (ay c φ s E) s₁) (ay c φ s E) s
theorem uh{x:Ex}(h:aQ c wz wu iter x):vG c wz wu tg iter (.val x):=fun A d k loc φ H s Q E hA hF hS hw=>by
 refine wm (h A true d k loc φ H s _ E hA hF hS hw) ?_;rintro r s₁ ⟨φ₁,H₁,v₁,e₁,S₁,R₁,w₁⟩;revert w₁;refine xI fun items hi w₁=>?_;refine wm (Ew (hA.hd rfl) S₁ R₁ hi (tg:=tg)) ?_;rintro it s₂ w0;refine w0 _ fun wr St e₂ S₂ I st hn=>?_;clear w0;refine(fun Z kJ=>kJ φ₁ H₁ items _ wr St (e₁.trans e₂) S₂ I st (fun b hb=>e₁.fresh S₁ (hn b hb)) ?_ w₁);cases v₁ with
 |lst a=>exact hi
 |_=>trivial
def Cz(c:Cx)(wz:Env)(wu:Res)(k:cZ)(φ:List Addr)(s:Shared)(X:List Addr)(items:List V)(St:Nat->List Addr->Heap->Prop)(ok:Hp->Prop)(P:List V->Loc->Hp->Prop)(n:Nat)(s':Shared):Prop:=∀GJ:Prop,(∀(i:Nat),∀(φ':List Addr),∀(H':Hp),∀(l':Loc),(n=items.length-i+1)->i<=items.length->au X φ s φ' s'->ak c φ' H' s'->aq c wz wu k l' φ' s'.heap->St i φ' s'.heap->ok H'->P (items.drop i) l' H'->GJ)->GJ
theorem GS(hX:aO aM wz X)(hs:∀x,vw iter wz x=pure x)(hsr:vG c wz wu tg iter sr)(htg:jR aM wz wu wu tg t)(hb:gE c wz wu X b xb) :
  eN c wz wu X (.For tg iter b [] pos) (.loop t sr xb):=fun A q d k loc φ H s Q E hA hh hF hS hw=>by
 obtain⟨rfl,hw⟩:=hw;refine wpAny_For (a8 (hsr A d k loc φ H s _ _ hA hF hS hw) (fun x s₁ h₁=>a8 h₁ ?_ fun Z Z h=>ay.toS hF hX h) fun Z Z h=>ay.toS hF hX h) hs;rintro it s₂ w0;refine w0 _ fun φ₁ H₁ items ok wr St e₁ S₁ I st₁ hn hok w₁=>?_;clear w0;refine codeAny_forLoop_any (Cz c wz wu k φ s X items St ok fun xs l H=>nw ok (fun x l Q H=>ae (fX t x l) fun l'=>az (Calls c) true d k xb Q E l' H) xs Q l H) ?_ (items.length+1) (fun Z kJ=>kJ 0 φ₁ H₁ loc rfl (dF _) (hF.weak hX e₁) S₁ (hF.mono e₁) st₁ hok w₁);rintro n s₃ w0;refine w0 _ fun i φ₃ H₃ l₃ wk hi e₃ S₃ F₃ st₃ hok₃ w₃=>?_;clear w0;subst wk;have its:=I.seen _ _ _ st₃;by_cases hlt:i<items.length
 ·have hx:items[i]?=some items[i]:=bp hlt;rw[qC hlt] at w₃;generalize items[i]=x at hx w₃;refine xI (fun l' hbt w₃=>?_) (show ae (fX t x l₃) _ from w₃);refine wm (I.item i x φ₃ H₃ s₃ _ hx st₃ S₃ hok₃) ?_;rintro r s₄ w0;refine w0 _ fun v wk h₄=>?_;clear w0;subst wk;refine wm h₄ ?_;rintro _ s₅ ⟨k₅,st₅,R₅⟩;have F₅:=F₃.kept its k₅;refine wm (EB (hA.hd rfl) hX htg hbt F₅ (S₃.kept k₅ its) R₅) ?_;rintro _ s₆ ⟨F₆,S₆,e₆,k₆⟩;have hwX:∀b∈wr,b∉X:=fun b hb hm=>by
   have off:=d8.its F₅ (I.seen _ _ _ st₅);rcases hX.only b hm with rfl |⟨y,hy⟩
   ·exact off.loc hb
   ·exact off.cells y b hy hb
  have st₆:=I.frame _ _ _ _ _ _ st₅ e₆.toKp (F₅.ownX hX) hwX;have e₀₆:=(e₃.kept k₅ hn).trans e₆;refine a8 (hb A true d k l' φ₃ H₃ s₆ _ _ (hA.monoX e₀₆) hh F₆ S₆ w₃) ?_ fun Z Z h=>Kk hA hh (h.lift e₀₆ S₆);rintro f s₇ ⟨φ₇,H₇,l₇,e₇,S₇,F₇,w₇⟩;cases f with
  |next=>exact⟨items.length-(i+1)+1,by exact aw [_,_] [] kax (Y1 (Y0 (Y2 V0 (Y0 V1 J1)) J1) (Y0 (Y2 V0 V1) J1)) (Y1 V1 V0) hlt,fun Z kJ=>kJ (i+1) φ₇ H₇ l₇ rfl hlt (e₀₆.trans e₇) S₇ F₇ (I.frame _ _ _ _ _ _ st₆ e₇.toKp (F₆.ownX hX) hwX) w₇.1 w₇.2⟩
  |ret r=>exact⟨φ₇,H₇,l₇,e₀₆.trans e₇,S₇,F₇,w₇⟩
  |_=>exact w₇.elim
 ·obtain rfl:i=items.length:=Nat.le_antisymm hi (eP hlt);rw[List.drop_length] at w₃;refine wm (I.done φ₃ H₃ s₃ _ st₃ S₃ hok₃) ?_;rintro r s₄ ⟨rfl,k₄⟩;exact wpAny_execs_nil ⟨φ₃,H₃,l₃,e₃.kept k₄ hn,S₃.kept k₄ its,F₃.kept its k₄,w₃⟩
end
end
variable {Q:V->Hp->Prop}{elt:Ex}{f:Str}{ifs:List Ex}{r:List (Str×Value)}{t:Nat}{y:V}
section
open PySem PyProof.Rows
set_option tactic.hygienic true in
theorem zV:∀(names:List (Str×aT)) (h:Heap) (acc:List (Str×Addr)),(∀n ca,(n,ca)∈acc->h.get? ca=some rr) ->
  ∀n ca,(n,ca)∈dD h.objs.size names acc->(dB h names).get? ca=some rr
 |[],_,_,x,n,ca,hm=>x n ca hm
 |(name,kind)::r,h,acc,x,n,ca,hm=>by
  unfold dD at hm
  unfold dB
  split
  ·rename_i hk
   rw[if_pos hk] at hm
   have:=zV r (h.push rr) ((name,h.objs.size)::acc) (fun n' c' hm'=>by
    rcases bc.mp hm' with e |hm'
    ·(injection e with Ja Jb;subst Jb;subst Ja);exact dw _ rfl
    ·exact bV _ (x n' c' hm')) n ca (by rw[qG];exact hm)
   exact this
  ·rename_i hk
   rw[if_neg hk] at hm
   exact zV r h acc x n ca hm
set_option tactic.hygienic true in
theorem zU:∀{names:List (Str×aT)} {k:Nat} {acc:List (Str×Addr)} {x:Str},((x,qaj)∈names\/(acc.lookup x).isSome)->((dD k names acc).lookup x).isSome
 |[],_,acc,x,h=>by
  rcases h with h |h
  ·cases h
  ·exact h
 |(n,kd)::r,k,acc,x,h=>by
  unfold dD
  split
  ·rename_i hk
   refine zU ?_
   rcases h with h |h
   ·rcases bc.mp h with e |h
    ·cases e
     right;simp
    ·exact .inl h
   ·right
    rw[cW]
    cases x==n<;>simp[h]
  ·rename_i hk
   refine zU ?_
   rcases h with h |h
   ·rcases bc.mp h with e |h
    ·cases e;exact absurd rfl hk
    ·exact .inl h
   ·exact .inr h
noncomputable def XS (wz:Env):List Addr:=wz.locals::wz.cells.filterMap fun p=>wz.cells.lookup p.1
def vW(wz:Env)(wu:Res):List Str->Nat->Prop
 |[],_=>True
 |x::r,i=>a0 aM wz wu wu x i/\vW wz wu r (i+1)
noncomputable def qL:Nat->List V->Loc->Loc
 |_,[],l=>l
 |i,v::vs,l=>qL (i+1) vs (l.set i (some v))
theorem JU{v:V}:qL i (v::vs) l=qL (i+1) vs (l.set i (some v)):=rfl
theorem C6:∀(vs:List V)(p:Loc)(k:Nat),qL p.length vs (p++List.replicate (vs.length+k) none)=p++vs.map some++List.replicate k none
 |[],p,k=>by rw[List.map_nil,fA,List.length_nil,Nat.zero_add];rfl
 |v::vs,p,k=>by
  have ih:=C6 vs (p++[some v]) k;rw[JU,show(v::vs).length+k=(vs.length+k)+1 by simp;exact ew [_,_] [] kad (Y2 (Y0 (Y0 V0 J1) V1) (Y0 (Y0 V0 V1) J1)),List.replicate_succ];rw[List.set_append_right _ _ (aN _)];simp only[Nat.sub_self,List.set_cons_zero];simp only[bG,eU,List.length_nil] at ih;rw[show p++some v::List.replicate (vs.length+k) none=p++[some v]++List.replicate (vs.length+k) none by simp];rw[ih];simp
theorem EL(hX:aO aM wz X)(f:Str×Value->PUnit->Sem (ForInStep PUnit))(hf:∀n v u,f (n,v) u=(do storeName wz n v;pure (.yield ⟨⟩))) :
  ∀{ps:List Str} {i:Nat} {vs:List V} {rs:List Value} {loc:Loc} {s:Shared} {Q:PUnit->Shared->Prop},vW wz wu ps i->vs.length=ps.length->aq c wz wu none loc φ s.heap->ak c φ H s->ag c φ s.heap vs rs->
   (∀s',aq c wz wu none (qL i vs loc) φ s'.heap->ak c φ H s'->au X φ s φ s'->Q ⟨⟩ s')->wpAny (model c.prog c.w) A (forIn (ps.zip rs) ⟨⟩ f) Q E s
 :=by
 intro ps;induction ps with
 |nil=>
  intro _ vs _ _ s Q _ hl F S _ hQ;obtain rfl:=iG.mp hl;rw[List.zip_nil_left,List.forIn_nil];exact aC (hQ s F S au.refl)
 |cons x ps ih=>
  intro i vs rs loc s Q hp hl F S R hQ;cases vs with
  |nil=>exact nomatch hl
  |cons v vs=>
  refine R.uncons _ fun r rs wk R1 R2=>?_;subst wk;rw[List.zip_cons_cons,List.forIn_cons,hf];refine ai (ai (wm (qV F S hp.1 hX R1) ?_));rintro _ s₁ ⟨F₁,S₁,e₁,_⟩;exact aC (ih hp.2 (Nat.succ.inj hl) F₁ S₁ (ag.mono e₁.toKp (F.ownX hX) R2) fun s₂ F₂ S₂ e₂=>hQ s₂ F₂ S₂ (e₁.trans e₂))
structure eY(c:Cx)(f:Str)(a:Addr)(o:Obj)(fd:qbe)(body:List Stmt)(ps pa:List Str)(wu:Res):Prop where
 g:c.g f=some (.ref a)
 ho:c.h0.get? a=some o
 hd:o.data=.func fd
 code:c.h0.CodeRec fd.code fd.qualname
 hbody:fd.body=.stmts body
 clo:fd.closure=[]
 gl:fd.globals=c8
 bl:fd.builtins=nr
 kind:fd.scope.kind=.function
 co:fd.scope.isCoroutine=false
 gen:fd.scope.isGenerator=false
 bind:∀vals:List Value,vals.length=pa.length->bindArgs fd ⟨vals,[]⟩=pure (pa.zip vals)
 fr:wu.fr=true
 hres:∀x i,wu.lookup x=some i->fd.scope.names.lookup x=some .local\/fd.scope.names.lookup x=some .cell
 par:∀L,vW (bX fd L a) wu ps 0
 np:ps.length<=wu.n
theorem Ep(fd:qbe)(L a:Addr)(h:Heap)(hL:h.objs.size=L+1):aO aM (bX fd L a) (XS (bX fd L a)) where
 loc:=by simp[XS]
 cell x _ hk:=by
  have ok:=cellsFrom_ok fd.scope.names h (L+1) [] ⟨fun Z Z hm=>(nomatch hm),List.Pairwise.nil⟩ (by rw[hL];exact aN _)
  rw[hL] at ok
  obtain⟨ca,hx⟩:=tG.mp (zU (k:=L+1) (acc:=[]) (x:=x) (.inl (fT hk)))
  have hm:=fT hx
  refine(fun Z kJ=>kJ ca hx ((ok.empty x ca hm).2) ?_ (fun y hy=>name_of_addr ok.apart (fT hy) hm))
  simp only[XS,bc,List.mem_filterMap]
  exact .inr ⟨(x,ca),hm,hx⟩
 only b hb:=by
  simp only[XS,bc,List.mem_filterMap] at hb
  rcases hb with rfl |⟨p,_,hp⟩
  ·exact .inl rfl
  ·exact .inr ⟨p.1,hp⟩
theorem E6{body:List Stmt}{pa:List Str}(K:eY c f a o fd body ps pa wu)(S:ak c φ H s)(hL:h.get? s.heap.objs.size=some { cls:=.type "frame",data:=.dict #[] })
  (cellok:∀x ca,(dD (s.heap.objs.size+1) fd.scope.names []).lookup x=some ca->h.get? ca=some rr/\s.heap.objs.size<ca) (newφ:∀b,s.heap.objs.size<=b->b∉φ/\c.h0.get? b=none/\s.heap.get? b=none) :
  aq c (bX fd s.heap.objs.size a) wu none (List.replicate wu.n none) φ h where
 fn:=K.kind
 gl:=K.gl
 bl:=K.bl
 len:=by rw[List.length_replicate];exact aN _
 Lφ:=(newφ _ (aN _)).1
 L0:=(newφ _ (aN _)).2.1
 ns:=by
  refine⟨fun Z=>none,⟨⟨_,_,_,hL,rfl,by intro e he;simp at he,fun Z=>by simp[nsFind,findBy]⟩,_,hL,.inl ⟨rfl,K.fr⟩⟩,fun x i hx=>?_,fun kk z hz=>nomatch hz⟩
  have hget:(List.replicate wu.n (none:Option V)).getD i none=none:=by
   rw[ck,List.getElem?_replicate]
   split<;>rfl
  rw[hget]
  show iA (fd.scope.names.lookup x) _ _
  rcases K.hres x i hx with h |h<;>rw[h]
  ·exact .no
  ·obtain⟨ca,hca⟩:=tG.mp (zU (k:=s.heap.objs.size+1) (acc:=[]) (x:=x) (.inl (fT h)))
   exact .no ca hca ⟨_,(cellok x ca hca).1,rfl⟩
 cells x ca hx:=by
  obtain⟨h1,h2⟩:=cellok x ca hx
  exact⟨(newφ ca (bY h2)).1,(newφ ca (bY h2)).2.1,_,h1,rfl,_,rfl⟩
def EC{E:XPost}(hA:bR c A q d φ s.heap)(hH:wI A wz)(S:ak c φ H s)(e₀:au X φ₀ s₀ φ s)(hXn:∀b∈X,s₀.heap.get? b=none)(h:bw c wz wu k φ s X (dM E) x s₃){Q:Value->Shared->Prop}{P:Value->Shared->Prop} (hP:∀e s',ay c φ₀ s₀ E e s'->P e s'):wpAny (model c.prog c.w) A (leaving wz x) (fun Z s'=>P x s') Q s₃:=by
 obtain⟨φ₃,H₃,l₃,v,e₃,S₃,F₃,Rx,w₃⟩:=h;obtain⟨fr',hfr',hfrs'⟩:=(hA.mono e₃).fr;obtain⟨outer,hout⟩:=hH;obtain rfl:=ah (hout.symm.trans hfr');unfold leaving;refine ai (wm (CJ hout hfrs' S₃ e₃ Rx) ?_);rintro _ s₄ ⟨xs',hx',hn',n',R₄,ht⟩;have e₄:=e₃.noted n' hn';have S₄:=S₃.noted n' hx';refine wm (z9 R₄ ht) ?_;rintro _ s₅ ⟨xs'',hx'',hn'',n'',R₅,ht'⟩;exact hP _ _ ⟨φ₃,H₃,v,(e₀.trans (e₄.noted n'' hn'')).drop hXn,S₄.noted n'' hx'',R₅.lift e₀ S,w₃⟩
theorem EY{body:List Stmt}(O:c.Ok)(K:eY c f a o fd body ps ps wu) (hbod:∀L,aO aM (bX fd L a) (XS (bX fd L a))->gE c (bX fd L a) wu (XS (bX fd L a)) body xs) {E:XPost} (wq:vs.length=ps.length) (hw:az (Calls c) q d none xs (cK Q) (dM E) (vs.map some++List.replicate (wu.n-vs.length) none) H):Calls c q (d+1) f vs none Q E H:=by
 refine(fun Z kJ=>kJ a o fd K.g K.ho K.hd (fun A φ s args extra hA S R hex=>?_));obtain rfl:extra=[]:=hex;rw[fA];have hdep:=hA.dep;have hun:=hA.un;refine codeAny_call_function (by show _<1000;exact aw [_,_] [] kaa (Y1 V0 (.l 1000)) (Y0 (Y0 V0 (Y0 V1 J1)) (.l 890)) hdep) (S.stays a o K.ho) K.hd K.co K.gen K.hbody (K.code.keeps S.stays) ?_;rw[K.bind args (by rw[ag.length R,wq]),K.clo];refine aC ?_;simp only[qN,Option.isSome_none,gw,if_false];refine ai (wpAny_alloc ?_);refine ai (wpAny_layCells _ (fun name kind cells=>by cases hkc:kind==qaj<;>simp[hkc]) _ _ _ _ ?_);generalize hs₁:s.heap.push { cls:=.type "frame",data:=.dict #[] }=h₁;have hz₁:h₁.objs.size=s.heap.objs.size+1:=by rw[<- hs₁,qG]
 rw[show({ s with heap:=h₁ }:Shared).heap.objs.size=s.heap.objs.size+1 from hz₁];have keep:∀b o,s.heap.get? b=some o->(dB h₁ fd.scope.names).get? b=some o:=fun b o hb=>uU _ _ b o (by rw[<- hs₁];exact bV _ hb);have hX:=Ep fd s.heap.objs.size a h₁ hz₁;have e₁:au [] φ s φ { s with heap:=dB h₁ fd.scope.names }:=au.of_keeps keep rfl;have cellok:∀x ca,(dD (s.heap.objs.size+1) fd.scope.names []).lookup x=some ca->(dB h₁ fd.scope.names).get? ca=some rr/\s.heap.objs.size<ca:=fun x ca hx=>by
  have hm:=fT hx;rw[<- hz₁] at hm;have ok:=cellsFrom_ok fd.scope.names h₁ (s.heap.objs.size+1) [] ⟨fun Z Z hm=>(nomatch hm),List.Pairwise.nil⟩ (by rw[hz₁];exact aN _);exact⟨zV fd.scope.names h₁ [] (fun Z Z hm=>nomatch hm) x ca hm,(ok.empty x ca hm).2⟩
 have newφ:∀b,s.heap.objs.size<=b->b∉φ/\c.h0.get? b=none/\s.heap.get? b=none:=fun b hb=>
  ⟨fun hm=>eI _ (dg (S.lt hm) hb),S.h0_new hb,fz hb⟩
 have F₁:=E6 K S (uU _ _ _ _ (by rw[<- hs₁];exact dw _ rfl)) cellok newφ;refine ai (EL (c:=c) (wz:=bX fd s.heap.objs.size a) (X:=XS (bX fd s.heap.objs.size a)) (s:={ s with heap:=dB h₁ fd.scope.names }) hX _ (fun Z Z Z=>rfl) (K.par _) wq F₁ (S.keeps (s':={ s with heap:=dB h₁ fd.scope.names }) keep rfl) (ag.mono e₁.toKp ax.nil R) fun s₂ F₂ S₂ e₂=>?_);refine aC ⟨O.lim.keeps S₂.stays,codeAny_func ?_⟩;have hXn:∀b∈XS (bX fd s.heap.objs.size a),s.heap.get? b=none:=fun b hb=>by
  rcases hX.only b hb with rfl |⟨x,hx⟩
  ·exact(newφ _ (aN _)).2.2
  ·exact(newφ b (bY (cellok x b hx).2)).2.2
 have e₀₂:=(e₁.weaken (Y:=XS (bX fd s.heap.objs.size a)) (fun Z h=>nomatch h) fun b hb=>(aq.outX (s:={ s with heap:=dB h₁ fd.scope.names }) F₁ hX b hb).1).trans e₂;have hloc:qL 0 vs (List.replicate wu.n none)=vs.map some++List.replicate (wu.n-vs.length) none:=by
  have:=C6 vs [] (wu.n-vs.length);rw[Nat.add_sub_cancel' (wq▸K.np)] at this;exact this
 rw[hloc] at F₂;obtain⟨fr,hfr,hfrs⟩:=(hA.mono e₀₂).fr;have hEnv:bt c φ s₂.heap (bX fd s.heap.objs.size a):=by
  obtain⟨m,⟨⟨o1,es,n,ho1,hd1,_⟩,o2,ho2,hc2⟩,_,_⟩:=F₂.ns;obtain rfl:=ah (ho1.symm.trans ho2);rcases hc2 with hc2 |hc2
  ·exact⟨⟨by rw[show(bX fd s.heap.objs.size a).scope.kind=fd.scope.kind from rfl,K.kind];decide,K.gen,K.co,K.bl,K.gl⟩,s.heap.objs.size,o1,es,n,rfl,F₂.L0,F₂.Lφ,ho1,hd1,hc2.1⟩
  ·rw[K.fr] at hc2;cases hc2.2.2
 have hfr2:(A.deeper (bX fd s.heap.objs.size a)).frames=some (bX fd s.heap.objs.size a::fr):=by show A.frames.map _=_;rw[hfr];rfl
 have hA₂:bR c (A.deeper (bX fd s.heap.objs.size a)) q d φ s₂.heap:=
  ⟨⟨by show A.depth+1+d<=890;exact aw [_,_] [] kaa (Y0 (Y0 (Y0 V0 J1) V1) (.l 890)) (Y0 (Y0 V0 (Y0 V1 J1)) (.l 890)) hdep,by show A.units+3+10*d<=9000;exact aw [_,_] [] kaa (Y0 (Y0 (Y0 V0 (.l 3)) (Y1 (.l 10) V1)) (.l 9000)) (Y0 (Y0 V0 (Y1 (.l 10) (Y0 V1 J1))) (.l 9000)) hun,hA.hd,_,hfr2,fun wz he=>by
   rcases bc.mp he with rfl |he
   ·exact hEnv
   ·exact hfrs wz he⟩,by rw[hfr2];exact fun h=>nomatch h⟩
 refine a8 (hbod _ hX _ q d none _ φ H s₂ _ _ hA₂ ⟨fr,hfr2⟩ F₂ S₂ hw) ?_ ?_
 ·rintro f s₃ ⟨φ₃,H₃,l₃,e₃,S₃,F₃,w₃⟩;have e₀₃:=(e₀₂.trans e₃).drop hXn;cases f with
  |next=>exact⟨φ₃,H₃,.none,e₀₃,S₃,rN,w₃⟩
  |ret r=>refine w₃ _ fun v Rv w=>?_;clear w₃;exact⟨φ₃,H₃,v,e₀₃,S₃,Rv,w⟩
  |_=>exact w₃.elim
 ·intro x s₃ h;exact EC hA₂ ⟨fr,hfr2⟩ S₂ e₀₂ hXn h fun Z Z h=>h
end
variable {l:List (Str×Nat)}{x:Ex}
section
open PySem PyProof.Rows
theorem DA{F:Value}(O:c.Ok)(hF':∀a,F≠.ref a)(hk:wz.kindOf f=some .globalImplicit)(hg:c.g f=none)(hb:c.b f=some F)(hx:(f==("__debug__":Str))=false)(hn:dA e=true)(h:aQ c wz wu e x) {A q d k loc φ H s Q} {E:XPost} {R:Value->Shared->Prop} (hA:bR c A q d φ s.heap) (hF:aq c wz wu k loc φ s.heap) (hS:ak c φ H s) (hw:aD (Calls c) q d k x loc Q E H) (hR:∀r s₁,aE c φ s Q r s₁->wpAny (model c.prog c.w) A (call F [r]) R (ay c φ s E) s₁):wpAny (model c.prog c.w) A (eval (.Call (.Name f p) [e] [] pos) wz) R (ay c φ s E) s:=by
 show wpAny _ _ (eval (.Name f p) wz >>=fun fv=>callWith pos fv [] (backTo pos (eL [e] wz)) []) _ _ _;refine ai (Calls.Name_function_global hF.fn hk (Calls.loadGlobal_builtin (by rw[hF.gl];exact O.gl.keeps hS.stays) hg (by rw[hF.bl];exact O.bl.keeps hS.stays) hb ?_) hx);have hl:gD c wz wu [e] [x]:=wO hn h BC;have hw':dC (Calls c) q d k [x] loc (fun vs H=>match vs with |[v]=>Q v H |_=>False) E H:=hw;refine vn hF' (vL hl.1.1) (wm (uo hl (by simp) hA hF hS hw') ?_);rintro _ s₁ w0;refine w0 _ fun rs wk φ₁ H₁ vs e₁ S₁ R₁ eN2=>?_;clear w0;subst wk;obtain⟨l₁,w₁⟩:=eN2;match vs,l₁ with
 |[v],_=>
  refine R₁.one _ fun r wk Rr=>?_;subst wk;exact hR r s₁ ⟨φ₁,H₁,v,e₁,S₁,Rr,w₁⟩
def FT{v:V}(h:iL H v=some items):∃i,v=.lst i/\H[i]?=some items:=
 let⟨i,h1,h2⟩:=uJ.mp h;⟨i,xV h1,h2⟩
def uv(O:c.Ok)(hk:wz.kindOf f=some .globalImplicit)(hg:c.g f=none)(hb:c.b f=some (.type "reversed"))(hx:(f==("__debug__":Str))=false)(hn:dA e=true)(h:aQ c wz wu e x) :
  vG c wz wu tg (.Call (.Name f p) [e] [] pos) (.rev x):=fun A d k loc φ H s Q E hA hF hS hw=>by
 refine DA O (by intro a h;injection h) hk hg hb hx hn h hA hF hS hw ?_;rintro r s₁ ⟨φ₁,H₁,v₁,e₁,S₁,R₁,w₁⟩;have hh:A.handled=none:=hA.hd rfl;revert w₁;refine xI fun items hi w₂=>?_;obtain⟨i,rfl,hi⟩:=FT hi;refine(S₁.getP R₁ hi) _ fun a us n wk ha ho hr hz z=>?_;subst wk;refine jH (ja ho) ?_;have hit:fU (s₁.heap.push (vQ a ((us.size:Int)-1))) s₁.heap.objs.size a ((items.length:Int)-1-(0:Nat)):=⟨_,dw _ rfl,rfl,by
  rw[z,Int.natCast_zero,Int.sub_zero];rfl⟩
 refine FD (s:={ s₁ with heap:=s₁.heap.push (vQ a ((us.size:Int)-1)) }) hit ?_;have e₂:au [] φ₁ s₁ φ₁ { s₁ with heap:=s₁.heap.push (vQ a ((us.size:Int)-1)) }:=au.push;exact(fun Z kJ=>kJ φ₁ H₁ _ _ [s₁.heap.objs.size] _ (e₁.trans e₂) (S₁.push _) (oQ hh (a:=a) (j:=i) (S₁.h0_new (aN s₁.heap.objs.size))) ⟨hit,ha,S₁.new⟩ (fun b hb=>by rw[aV.mp hb];exact e₁.fresh S₁ (fz (aN _))) hi w₂)
def nM{x1}(O:c.Ok)(hk:wz.kindOf f=some .globalImplicit)(hg:c.g f=none)(hb:c.b f=some (.type "enumerate"))(hx:(f==("__debug__":Str))=false)(hn:dA e=true)(h:aQ c wz wu e x) :
  vG c wz wu (.Tuple es x1 tp) (.Call (.Name f p) [e] [] pos) (.enum x):=fun A d k loc φ H s Q E hA hF hS hw=>by
 refine DA O (by intro a h;injection h) hk hg hb hx hn h hA hF hS hw ?_;rintro r s₁ ⟨φ₁,H₁,v₁,e₁,S₁,R₁,w₁⟩;have hh:A.handled=none:=hA.hd rfl;revert w₁;refine xI fun items hi w₂=>?_;obtain⟨i,rfl,hi⟩:=FT hi;refine(S₁.getP R₁ hi) _ fun a us n wk ha ho hr hz z=>?_;subst wk;refine call_enumerate_list (ja ho) fun h' he hit hsz hk'=>?_;refine wpAny_pyIter_enum (s:={ s₁ with heap:=h' }) he ?_;have e₂:au [] φ₁ s₁ φ₁ { s₁ with heap:=h' }:=au.of_keeps hk' rfl;have h0:=S₁.h0_new (aN s₁.heap.objs.size);have h0':=S₁.h0_new (Nat.le_succ s₁.heap.objs.size);refine(fun Z kJ=>kJ φ₁ H₁ _ _ [s₁.heap.objs.size+1,s₁.heap.objs.size] _ (e₁.trans e₂) (S₁.keeps (s':={ s₁ with heap:=h' }) hk' rfl) (lM hh (a:=a) (j:=i) h0 h0' (Nat.succ_ne_self _)) ⟨.none,he,hit,ha,S₁.new,fun hm=>?_⟩ (fun b hb=>?_) hi w₂)
 ·exact eI _ (cw (Nat.lt_succ_self _) (S₁.lt hm))
 ·rcases bc.mp hb with rfl |hb
  ·exact e₁.fresh S₁ (fz (Nat.le_succ _))
  ·rw[aV.mp hb];exact e₁.fresh S₁ (fz (aN _))
def yX(O:c.Ok)(S:ak c φ H s):c8<s.heap.objs.size:=by
 obtain⟨o,_,_,ho,_⟩:=O.gl;exact f9 (S.stays _ _ ho)
def JJ(O:c.Ok):aQ c wz wu (.Dict [] [] pos) .dict0:=fun A q d k loc φ H s Q E hA hF hS hw=>
 wpAny_Dict_empty ⟨φ,H,.dict0 _,au.push,hS.push _,dS.mk _ _ _ rfl hS.new (dw _ rfl) rfl rfl ⟨⟨(fun Z h=>absurd h (Array.not_mem_empty _)),List.nodup_nil⟩,cw (by decide) (yX O hS)⟩,hw _⟩
end
variable {x:V}
section
open PySem PyProof.Rows
noncomputable def ie:Str:=ao "put_together"
noncomputable def aZ{α:Type}(x y z:α)(i:Nat):α:=if i=0 then x else if i=1 then y else z
inductive d5 (kk : Nat) (fd : qbe) (nm : Str) : Prop
 | mk (p1 p2 : Str) (q0 q1 q2 pf pos : Pos) (bind : ∀ x y : Value, bindArgs fd ⟨[x, y], []⟩ = pure [(p1, x), (p2, y)])
   (hbody : fd.body = .expr (.Call (.Name ie pf) [.Name (aZ p1 p2 nm (kk / 9)) q0, .Name (aZ p1 p2 nm (kk / 3 % 3)) q1, .Name (aZ p1 p2 nm (kk % 3)) q2] [] pos))
   (k1 : fd.scope.names.lookup p1 = some .local) (k2 : fd.scope.names.lookup p2 = some .local) (k3 : fd.scope.names.lookup nm = some .free) (k4 : fd.scope.names.lookup ie = some .globalImplicit)
   (nc : fd.scope.names.all (fun p => !(p.2 == qaj)) = true) (ok : (p1 != b7 && p2 != b7 && p1 != p2 && p1 != nm && p2 != nm) = true)
   (dbg : [p1, p2, nm].all (fun x => !(x == ("__debug__" : Str)) && !(x == ("__classdict__" : Str))) = true)
   (gl : fd.globals = c8) (bl : fd.builtins = nr) (kind : fd.scope.kind = .function) (co : fd.scope.isCoroutine = false) (gen : fd.scope.isGenerator = false) : d5 kk fd nm
theorem Bo:∀{names:List (Str×aT)} {k:Nat} {acc:List (Str×Addr)} {h:Heap},names.all (fun p=>!(p.2==qaj))=true->dD k names acc=acc/\dB h names=h
 |[],_,_,_,_=>⟨rfl,rfl⟩
 |(n,kd)::r,k,acc,h,q=>by
  revert q;refine xA fun q1 q2=>?_;have e:(kd==qaj)=false:=(iu _).mp q1;unfold dD dB;rw[e];exact Bo q2
def Ks (h:wpAny (model prog w) (A.deeper wz) (eval e wz) (fun v s'=>R (.ok (.ret v)) s') (fun Z Z=>False) s):codeAny (model prog w) A (.expr e wz) R s:=
 codeAny_of_tree (ai (rH (ai (wpAny_onRaise (a8 h (fun Z Z h'=>aC h') fun Z Z h'=>h'.elim)))))
theorem HC{args:Args}{body:Expr}(hroom:A.depth<recursionLimit)(ho:s.heap.get? a=some o)(hd:o.data=.func fd)(hco:fd.scope.isCoroutine=false)(hgen:fd.scope.isGenerator=false) (hbody:fd.body=.expr body) (hcd:fd.code=.ref cc) (hc:bS s.heap cc fd.qualname) (h:wpAny (model prog w) A.in1 (bindArgs fd args) (fun binds s₁=>wpAny (model prog w) A.in1 (qN fd.scope fd.globals fd.closure binds (fd.qualname++".<locals>.") (some a) fd.code none fd.builtins) (fun wz s₂=>s₂.heap.NoLimit/\codeAny (model prog w) A (.expr body wz) R s₂) (fun e s'=>R (.error e) s') s₁) (fun e s'=>R (.error e) s') s) :
  codeAny (model prog w) A (.call (.ref a) args) R s:=by
 refine codeAny_of_tree ?_;show wpAny _ A.in1 (callAny (.ref a) args) _ _ s;unfold callAny;refine ai (wpAny_load ho ?_);obtain⟨oc,vs,t,h1,_,h3,h4⟩:=hc;rw[hcd] at h;simp only[hd,callFunction,hco,hgen,hbody,hcd];refine ai (m:=field (.ref cc) 1) (qu h1 h3 h4 (ai (aC ?_)));exact ai (a8 h (fun Z Z h₁=>ai (a8 h₁ (fun Z Z h₂=>ai (wpAny_enterFrame h₂.1 hroom (aC ⟨rfl,h₂.2⟩))) fun Z Z q=>q)) fun Z Z q=>q)
abbrev bu (fd:qbe) (L a ca:Addr) (nm:Str):Env:=newEnv fd.scope L fd.globals [(nm,ca)] (fd.qualname++".<locals>.") (some a) fd.code none fd.builtins
abbrev di (p1 p2 nm:Str):Res:=⟨true,3,[(p1,0),(p2,1),(nm,2)]⟩
def kR{nm x:Str}(h:(di p1 p2 nm).lookup x=some i):(x=p1/\i=0)\/(x≠p1/\x=p2/\i=1)\/(x≠p1/\x≠p2/\x=nm/\i=2):=by
 replace h:List.lookup x [(p1,0),(p2,1),(nm,2)]=some i:=h;rw[cW] at h;refine xD (x==p1) (fun h1=>?_) fun h1=>?_
 ·rw[h1] at h;exact .inl ⟨eq_of_beq h1,(ah h).symm⟩
 ·rw[h1] at h;replace h:List.lookup x [(p2,1),(nm,2)]=some i:=h;rw[cW] at h;have n1:x≠p1:=ne_of_beq_false h1;refine xD (x==p2) (fun h2=>?_) fun h2=>?_
  ·rw[h2] at h;exact .inr (.inl ⟨n1,eq_of_beq h2,(ah h).symm⟩)
  ·rw[h2] at h;replace h:List.lookup x [(nm,2)]=some i:=h;rw[cW] at h;have n2:x≠p2:=ne_of_beq_false h2;refine xD (x==nm) (fun h3=>?_) fun h3=>?_
   ·rw[h3] at h;exact .inr (.inr ⟨n1,n2,eq_of_beq h3,(ah h).symm⟩)
   ·rw[h3] at h;exact nomatch h
def tJ {nm : Str} (h : (p1 != b7 && p2 != b7 && p1 != p2 && p1 != nm && p2 != nm) = true) (k1 : fd.scope.names.lookup p1 = some .local) (k2 : fd.scope.names.lookup p2 = some .local) :
  vW (bu fd L a ca nm) (di p1 p2 nm) [p1, p2] 0 := by
 revert h; refine xA fun h h5 => ?_;revert h; refine xA fun h h4 => ?_;revert h; refine xA fun h h3 => ?_;revert h; refine xA fun h1 h2 => ?_;refine ⟨⟨⟨rfl, rfl, fun y j hy => ?_, by show 0 < 3; decide, bne_iff_ne.mp h1, .inr rfl⟩, .inl k1⟩, ⟨⟨rfl, rfl, fun y j hy => ?_, by show 1 < 3; decide, bne_iff_ne.mp h2, .inr rfl⟩, .inl k2⟩, trivial⟩
 ·rcases kR hy with ⟨e, e'⟩ | ⟨n, e, e'⟩ | ⟨n, n', e, e'⟩
  ·exact .inl ⟨e, e'⟩
  ·exact .inr ⟨n, hy, by rw [e']; decide⟩
  ·exact .inr ⟨n, hy, by rw [e']; decide⟩
 ·rcases kR hy with ⟨e, e'⟩ | ⟨n, e, e'⟩ | ⟨n, n', e, e'⟩
  ·exact .inr ⟨by rw [e]; exact bne_iff_ne.mp h3, hy, by rw [e']; decide⟩
  ·exact .inl ⟨e, e'⟩
  ·exact .inr ⟨n', hy, by rw [e']; decide⟩
theorem HE{nm:Str}(S:ak c φ H s)(hca:ca∉φ)(h0:c.h0.get? ca=none)(hoc:s.heap.get? ca=some oc)(hcc:oc.cls=.type "cell")(hdc:oc.data=.cell (some rv))(hx:ar c φ s.heap z rv)
  (k1:fd.scope.names.lookup p1=some .local) (k2:fd.scope.names.lookup p2=some .local) (k3:fd.scope.names.lookup nm=some .free)
  (gl:fd.globals=c8) (bl:fd.builtins=nr) (kind:fd.scope.kind=.function) :
  aq c (bu fd s.heap.objs.size a ca nm) (di p1 p2 nm) none [none,none,some z] φ (s.heap.push { cls:=.type "frame",data:=.dict #[] }) where
 fn:=kind
 gl:=gl
 bl:=bl
 len:=aN 3
 Lφ:=S.new
 L0:=S.h0_new (aN _)
 ns:=by
  have hL:(s.heap.push { cls:=.type "frame",data:=.dict #[] }).get? s.heap.objs.size=some { cls:=.type "frame",data:=.dict #[] }:=dw _ rfl
  refine⟨fun Z=>none,⟨⟨_,_,_,hL,rfl,by intro e he;simp at he,fun Z=>by simp[nsFind,findBy]⟩,_,hL,.inl ⟨rfl,rfl⟩⟩,fun x i hx'=>?_,fun kk z hz=>nomatch hz⟩
  show iA (fd.scope.names.lookup x) _ _
  rcases kR hx' with⟨e,e'⟩|⟨n,e,e'⟩|⟨n,n',e,e'⟩
  ·rw[e,k1,e'];exact .no
  ·rw[e,k2,e'];exact .no
  ·rw[e,k3,e']
   refine .yes z ca rv ?_ ⟨oc,bV _ hoc,hdc⟩ (ar.mono (au.push (X:=[]) (φ:=φ) (s:=s)).toKp ax.nil hx)
   show List.lookup nm [(nm,ca)]=some ca
   rw[cW,beq_self_eq_true]
 cells x ca' hx':=by
  replace hx':List.lookup x [(nm,ca)]=some ca':=hx'
  rw[cW] at hx'
  refine xD (x==nm) (fun e=>?_) fun e=>?_
  ·rw[e] at hx'
   obtain rfl:=ah hx'
   exact⟨hca,h0,oc,bV _ hoc,hcc,_,hdc⟩
  ·rw[e] at hx';exact nomatch hx'
def mj {nm : Str} {k : Nat} {q0 q1 q2 : Pos} {of : Obj} (O : c.Ok) (k4 : fd.scope.names.lookup ie = some .globalImplicit) (hg : c.g ie = some (.ref af)) (ho : c.h0.get? af = some of) (hd : of.data = .func fdf) (ok : (p1 != b7 && p2 != b7 && p1 != p2 && p1 != nm && p2 != nm) = true) (dbg : [p1, p2, nm].all (fun x => !(x == ("__debug__" : Str)) && !(x == ("__classdict__" : Str))) = true) :
  aQ c (bu fd L a ca nm) (di p1 p2 nm) (.Call (.Name ie pf) [.Name (aZ p1 p2 nm i) q0, .Name (aZ p1 p2 nm j) q1, .Name (aZ p1 p2 nm k) q2] [] pos) (.call ie [.var (aZ 0 1 2 i), .var (aZ 0 1 2 j), .var (aZ 0 1 2 k)]) := by
 revert ok; refine xA fun h h5 => ?_;revert h; refine xA fun h h4 => ?_;revert h; refine xA fun h h3 => ?_;have n1 := bne_iff_ne.mp h3;have n2 := bne_iff_ne.mp h4;have n3 := bne_iff_ne.mp h5;have v : ∀ i q, aQ c (bu fd L a ca nm) (di p1 p2 nm) (.Name (aZ p1 p2 nm i) q) (.var (aZ 0 1 2 i)) := fun i q => by
  have look : (di p1 p2 nm).lookup (aZ p1 p2 nm i) = some (aZ 0 1 2 i) := by
   show List.lookup (aZ p1 p2 nm i) [(p1, 0), (p2, 1), (nm, 2)] = _;unfold aZ;by_cases e0 : i = 0
   ·rw [if_pos e0, if_pos e0, cW, beq_self_eq_true]
   ·rw [if_neg e0, if_neg e0];by_cases e1 : i = 1
    ·rw [if_pos e1, if_pos e1, cW, beq_false_of_ne (cS n1), cW, beq_self_eq_true]
    ·rw [if_neg e1, if_neg e1, cW, beq_false_of_ne (cS n2), cW, beq_false_of_ne (cS n3), cW, beq_self_eq_true]
  have hm : aZ p1 p2 nm i ∈ [p1, p2, nm] := by
   unfold aZ;by_cases e0 : i = 0
   ·rw [if_pos e0]; exact aL
   ·rw [if_neg e0];by_cases e1 : i = 1
    ·rw [if_pos e1]; exact a9 _ aL
    ·rw [if_neg e1]; exact a9 _ (a9 _ aL)
  refine xA (fun d1 d2 => ?_) (dQ.mp dbg _ hm);exact E2 look ((iu _).mp d1) ((iu _).mp d2)
 exact Gl O k4 hg ho hd (by decide) (wO rfl (v i q0) (wO rfl (v j q1) (wO rfl (v k q2) BC))) (fun h => nomatch h)
def jT(i:Nat):([some x,some y,some z]:Loc).getD (aZ 0 1 2 i) none=some (aZ x y z i):=by
 unfold aZ;by_cases e0:i=0
 ·rw[if_pos e0,if_pos e0];rfl
 ·rw[if_neg e0,if_neg e0];by_cases e1:i=1
  ·rw[if_pos e1,if_pos e1];rfl
  ·rw[if_neg e1,if_neg e1];rfl
theorem kf{rx ry:Value}(O:c.Ok)(LO:∀kk fd nm,c.lam kk fd nm->d5 kk fd nm)(hA:OkA c A q (d+1) φ s.heap)(S:ak c φ H s)(K:br c φ s.heap B kk z fv) (R1:ar c φ s.heap x rx) (R2:ar c φ s.heap y ry) (hw:Calls c q d ie (vD kk x y z) none Q fu H):codeAny (model c.prog c.w) A (.call fv ⟨[rx,ry],[]⟩) (xk c φ s Q fu) s:=by
 obtain⟨a,o,fd,nm,ca,oc,rv,rfl,ha,ho,hc,hd,hk,hcl,hca,hlt,hoc,hcc,hdc,hx,h0,cc,hcd,hco,hcφ⟩:=K;obtain⟨p1,p2,q0,q1,q2,pf,pos,bind,hbody,k1,k2,k3,k4,nc,ok,dbg,gl,bl,kind,co,gen⟩:=LO kk fd nm hk;have hdep:=hA.dep;have hun:=hA.un;refine HC (by show _<1000;exact aw [_,_] [] kaa (Y1 V0 (.l 1000)) (Y0 (Y0 V0 (Y0 V1 J1)) (.l 890)) hdep) ho hd co gen hbody hcd hco ?_;rw[bind,hcl];refine aC ?_;simp only[qN,Option.isSome_none,gw,if_false];refine ai (wpAny_alloc ?_);refine ai (wpAny_layCells _ (fun name kind cells=>by cases hkc:kind==qaj<;>simp[hkc]) _ _ _ _ ?_);rw[(Bo (h:=s.heap) nc).1,(Bo (k:=0) (acc:=[]) nc).2];have F₁:=HE (p1:=p1) (p2:=p2) (a:=a) S hca h0 hoc hcc hdc hx k1 k2 k3 gl bl kind;generalize hs₁:s.heap.push { cls:=.type "frame",data:=.dict #[] }=h₁ at F₁;have keep:∀b o,s.heap.get? b=some o->h₁.get? b=some o:=fun b o hb=>by rw[<- hs₁];exact bV _ hb
 have e₁:au [] φ s φ { s with heap:=h₁ }:=au.of_keeps keep rfl;have hX:aO aM (bu fd s.heap.objs.size a ca nm) [s.heap.objs.size]:=⟨aL,fun x Z hx=>by
  have:=dQ.mp nc _ (fT (show fd.scope.names.lookup x=some .cell from hx));exact(nomatch this),fun b hb=>.inl (aV.mp hb)⟩
 have S₁:ak c φ H { s with heap:=h₁ }:=S.keeps (s':={ s with heap:=h₁ }) keep rfl;refine ai (EL (c:=c) (wz:=bu fd s.heap.objs.size a ca nm) (X:=[s.heap.objs.size]) (s:={ s with heap:=h₁ }) (vs:=[x,y]) (rs:=[rx,ry]) hX _ (fun Z Z Z=>rfl) (tJ ok k1 k2) rfl F₁ S₁ (ag.mono e₁.toKp ax.nil ⟨R1,R2,rL⟩) fun s₂ F₂ S₂ e₂=>?_);refine aC ⟨O.lim.keeps S₂.stays,Ks ?_⟩;have hXn:∀b∈[s.heap.objs.size],s.heap.get? b=none:=fun b hb=>by rw[aV.mp hb];exact fz (aN _)
 have e₀₂:=(e₁.weaken (Y:=[s.heap.objs.size]) (fun Z h=>nomatch h) fun b hb=>by rw[aV.mp hb];exact S.new).trans e₂;obtain⟨fr,hfr,hfrs⟩:=(hA.mono e₀₂).fr;have hEnv:bt c φ s₂.heap (bu fd s.heap.objs.size a ca nm):=by
  obtain⟨m,⟨⟨o1,es,n,ho1,hd1,_⟩,o2,ho2,hc2⟩,_,_⟩:=F₂.ns;obtain rfl:=ah (ho1.symm.trans ho2);rcases hc2 with hc2 |hc2
  ·exact⟨⟨by rw[show(bu fd s.heap.objs.size a ca nm).scope.kind=fd.scope.kind from rfl,kind];decide,gen,co,bl,gl⟩,s.heap.objs.size,o1,es,n,rfl,F₂.L0,F₂.Lφ,ho1,hd1,hc2.1⟩
  ·exact nomatch hc2.2.2
 have hfr2:(A.deeper (bu fd s.heap.objs.size a ca nm)).frames=some (bu fd s.heap.objs.size a ca nm::fr):=by show A.frames.map _=_;rw[hfr];rfl
 have hA₂:bR c (A.deeper (bu fd s.heap.objs.size a ca nm)) q d φ s₂.heap:=
  ⟨⟨by show A.depth+1+d<=890;exact aw [_,_] [] kaa (Y0 (Y0 (Y0 V0 J1) V1) (.l 890)) (Y0 (Y0 V0 (Y0 V1 J1)) (.l 890)) hdep,by show A.units+3+10*d<=9000;exact aw [_,_] [] kaa (Y0 (Y0 (Y0 V0 (.l 3)) (Y1 (.l 10) V1)) (.l 9000)) (Y0 (Y0 V0 (Y1 (.l 10) (Y0 V1 J1))) (.l 9000)) hun,hA.hd,_,hfr2,fun wz he=>by
   rcases bc.mp he with rfl |he
   ·exact hEnv
   ·exact hfrs wz he⟩,by rw[hfr2];exact fun h=>nomatch h⟩
 refine(id hw) _ fun af of fdf g1 g2 g3 g4=>?_;have hw':aD (Calls c) q d none (.call ie [.var (aZ 0 1 2 (kk/9)),.var (aZ 0 1 2 (kk/3%3)),.var (aZ 0 1 2 (kk%3))]) [some x,some y,some z] Q fu H:=by
  refine ae.mk (jT _) (ae.mk (jT _) (ae.mk (jT _) ?_));exact hw
 refine a8 (mj O k4 g1 g2 g3 ok dbg _ q d none _ φ H s₂ _ _ hA₂ F₂ S₂ hw') ?_ fun Z Z h=>h.no;rintro v s₃ ⟨φ₃,H₃,v',e₃,S₃,R₃,w₃⟩;exact⟨φ₃,H₃,v',(e₀₂.trans (e₃.weaken (fun Z h=>nomatch h) fun b hb=>by rw[aV.mp hb];exact F₂.Lφ)).drop hXn,S₃,R₃,w₃⟩
def Hn{Q:PUnit->Shared->Prop}(F:aq c wz wu none loc φ s.heap)(S:ak c φ H s)(hfr:wu.fr=true)(hk:wz.kindOf b7=some .local) (hr:wu.lookup b7=none) (hXL:wz.locals∈X) (K:br c φ s.heap wz.locals kk z fv) (hQ:∀s',aq c wz wu (some (kk,z)) loc φ s'.heap->ak c φ H s'->au X φ s φ s'->Q ⟨⟩ s'):wpAny (model c.prog c.w) A (storeName wz b7 fv) Q E s:=by
 obtain⟨m,⟨hn,oL,hoL,hcL⟩,hsl,hjo⟩:=F.ns;have hcL:=hcL.elim id fun h=>by rw[hfr] at h;exact nomatch h.2.2
 refine zv hk F.fn hn hoL fun h' hn' hs' hc'=>?_;obtain⟨o',ho',hcls'⟩:=hc';have hnf:∀o vs,s.heap.get? wz.locals=some o->o.data≠.fields vs:=fun o vs ho hd=>by
  obtain⟨o1,es1,n1,h1,h2,_⟩:=hn;obtain rfl:=ah (ho.symm.trans h1);rw[h2] at hd;injection hd
 have hdd:∀o es n,s.heap.get? wz.locals=some o->o.data=.dict es n->∃o' es' n',h'.get? wz.locals=some o'/\o'.data=.dict es' n'/\dz o o':=fun o es n ho Z=>by
  obtain⟨o1,es1,n1,h1,h2,_⟩:=hn';obtain rfl:=ah (ho'.symm.trans h1);obtain rfl:=ah (hoL.symm.trans ho);exact⟨o',es1,n1,ho',h2,hcls'⟩
 have keep:∀b o,b≠wz.locals->s.heap.get? b=some o->h'.get? b=some o:=fun b o hb ho=>(hs'.2 b hb).trans ho;have hcN:∀y ca,wz.cells.lookup y=some ca->ca≠wz.locals:=fun y ca hy q=>by
  obtain⟨_,_,o1,h1,h2⟩:=F.cells y ca hy;rw[q] at h1;obtain rfl:=ah (hoL.symm.trans h1);rw[h2] at hcL;exact absurd hcL.1 (by decide)
 have cs:∀z ca,wz.cells.lookup z=some ca->ca∉[wz.locals]/\bf c φ s.heap ca:=fun z ca hz=>⟨fun q=>hcN z ca hz (aV.mp q),F.cells z ca hz⟩;have kp:=vH (φ:=φ) keep hdd hnf;have ow:ax c [wz.locals] s.heap:=fun b hb o ho=>by rw[aV.mp hb] at ho ⊢;exact yG F ho
 refine hQ _ ⟨F.fn,F.gl,F.bl,⟨_,⟨hn',o',ho',.inl ⟨hcls'.cls.trans hcL.1,hfr⟩⟩,fun y j hy=>?_,fun kk' z' hz=>?_⟩,F.len,F.Lφ,F.L0,fun y ca hy=>?_⟩ ?_ (au.of_own (s':={ s with heap:=h',toks:=s.toks+1 }) hs' hXL hdd ⟨o',ho'⟩ rfl hnf)
 ·have hsy:=(hsl y j hy).mono (s:=s) (s':={ s with heap:=h' }) kp ow cs;refine iA.imp hsy (fun Z h=>?_) id;show cA _ _ _ (if y=b7 then _ else _) _;rw[if_neg fun q=>by rw[q,hr] at hy;cases hy];exact h
 ·obtain⟨rfl,rfl⟩:=qt (ah hz);exact(fun Z kJ=>kJ hk fv (if_pos rfl) (K.mono (s:=s) (s':={ s with heap:=h' }) kp ow fun ca o ho Z hlt q=>absurd (aV.mp q) (cj hlt)))
 ·obtain⟨h1,h2,o1,h3,h4,h5⟩:=F.cells y ca hy;exact⟨h1,h2,o1,(hs'.2 ca (hcN y ca hy)).trans h3,h4,h5⟩
 ·exact S.mono (s':={ s with heap:=h',toks:=s.toks+1 }) kp ow (fun b hb=>by rw[aV.mp hb];exact F.L0) (fun b hb o ho=>keep b o (fun q=>F.Lφ (q▸hb)) ho) (fun b o hb Z=>keep b o (fun q=>by rw[q,F.L0] at hb;injection hb) (S.stays b o hb)) S.gens fun b ps hb=>keep b _ (fun q=>hnf _ ps (q▸hb) rfl) hb
theorem kP{p:Nat×List V}(h:sO k d vs=some p):∃kk z x y,k=some (kk,z)/\vs=[x,y]/\d=p.1+1/\p.2=vD kk x y z:=by
 obtain⟨⟨kk,z⟩,rfl,h⟩:=uJ.mp h;cases d with
 |zero=>injection h
 |succ d=>
  cases vs with
  |nil=>injection h
  |cons x vs=>
   cases vs with
   |nil=>injection h
   |cons y vs=>
    cases vs with
    |nil=>obtain rfl:=ah h;exact⟨kk,z,x,y,rfl,rfl,rfl,rfl⟩
    |cons _ _=>injection h
theorem Kf{xs:List Ex}(O:c.Ok)(LO:∀kk fd nm,c.lam kk fd nm->d5 kk fd nm)(h:gD c wz wu es xs)(hne:es≠[]):aQ c wz wu (.Call (.Name b7 p) es [] pos) (.callv xs):=fun A q d k loc φ H s Q E hA hF hS hw=>by
 obtain⟨⟨kk,z⟩,rfl,hw⟩:=ae.inv hw;obtain⟨m,hn,h1,h2⟩:=id hF.ns;refine(h2 kk z rfl) _ fun g1 fv g2 g3=>?_;show wpAny _ _ (eval (.Name b7 p) wz >>=fun fv=>callWith pos fv [] (backTo pos (eL es wz)) []) _ _ _;refine ai (wpAny_Name (xE hF.fn g1 hn.ns g2 ?_) (by decide));obtain⟨a,o,fd,nm,ca,oc,rv,rfl,ha,ho,hc,hd,_⟩:=id g3;refine Calls.callWith_function (o:=o) (fd:=fd) (wm (uo h hne hA hF hS hw) ?_);rintro _ s₁ w0;refine w0 _ fun rs wk φ₁ H₁ vs e₁ S₁ R₁ eN2=>?_;clear w0;subst wk;obtain⟨l₁,w₁⟩:=eN2;refine⟨⟨uV (c:=c) e₁.toKp ax.nil ho ha (vk hc rfl),hd⟩,wpAny_call ?_⟩;obtain⟨⟨d',vs'⟩,hp,w₁⟩:=ae.inv w₁;obtain⟨kk',z',x,y,ek,rfl,ed,ev⟩:=kP hp;obtain⟨rfl,rfl⟩:=qt (ah ek);dsimp only at ed ev w₁;subst ed ev;refine R₁.uncons _ fun rx rs' wk Rx R₂=>?_;subst wk;refine R₂.uncons _ fun ry rs'' wk Ry R₃=>?_;subst wk;obtain rfl:rs''=[]:=R₃;refine sJ (kf O LO (hA.mono e₁).toOkA S₁ (g3.mono e₁.toKp ax.nil fun Z Z Z Z Z q=>nomatch q) Rx Ry w₁) ?_;intro r s' hr;cases r with
 |error e=>exact(ay.no hr:False).elim
 |ok f=>cases f with
  |ret v=>exact aE.lift e₁ hr
  |_=>exact hr.elim
theorem ED(hX:aO aM wz X)(f:Str×Value->PUnit->Sem (ForInStep PUnit))(hf:∀n v u,f (n,v) u=(do storeName wz n v;pure (.yield ⟨⟩))) :
  ∀{ps:List Str} {i:Nat} {vs:List V} {rs:List Value} {loc:Loc} {s:Shared} {Q:PUnit->Shared->Prop},vW wz wu ps i->vs.length=ps.length->aq c wz wu none loc φ s.heap->ak c φ H s->ag c φ s.heap vs rs->
   (∀s',aq c wz wu none (qL i vs loc) φ s'.heap->ak c φ H s'->au X φ s φ s'->wpAny (model c.prog c.w) A (forIn r ⟨⟩ f) Q E s')->wpAny (model c.prog c.w) A (forIn (ps.zip rs++r) ⟨⟩ f) Q E s
 |[],_,vs,_,_,s,Q,_,hl,F,S,_,hQ=>by
  obtain rfl:=iG.mp hl;rw[List.zip_nil_left];exact hQ s F S au.refl
 |x::ps,i,[],rs,loc,s,Q,hp,hl,F,S,R,hQ=>nomatch hl
 |x::ps,i,v::vs,rs,loc,s,Q,hp,hl,F,S,R,hQ=>by
  refine R.uncons _ fun r rs wk R1 R2=>?_;subst wk;rw[List.zip_cons_cons,List.cons_append,List.forIn_cons,hf];refine ai (ai (wm (qV F S hp.1 hX R1) ?_));rintro _ s₁ ⟨F₁,S₁,e₁,_⟩;exact aC (ED hX f hf hp.2 (Nat.succ.inj hl) F₁ S₁ (ag.mono e₁.toKp (F.ownX hX) R2) fun s₂ F₂ S₂ e₂=>hQ s₂ F₂ S₂ (e₁.trans e₂))
theorem KH{body:List Stmt}(O:c.Ok)(K:eY c f a o fd body ps (ps++[b7]) wu)(hj:fd.scope.names.lookup b7=some .local)(hr:wu.lookup b7=none) (hbod:∀L,aO aM (bX fd L a) (XS (bX fd L a))->gE c (bX fd L a) wu (XS (bX fd L a)) body xs) {E:XPost} (wq:vs.length=ps.length) (hw:az (Calls c) q d (some (kk,z)) xs (cK Q) (dM E) (vs.map some++List.replicate (wu.n-vs.length) none) H):Calls c q (d+1) f vs (some (kk,z)) Q E H:=by
 refine(fun Z kJ=>kJ a o fd K.g K.ho K.hd (fun A φ s args extra hA S R hex=>?_));obtain⟨fv,rfl,CR⟩:=hex;have hal:args.length=ps.length:=by rw[ag.length R,wq]
 have hdep:=hA.dep;have hun:=hA.un;refine codeAny_call_function (by show _<1000;exact aw [_,_] [] kaa (Y1 V0 (.l 1000)) (Y0 (Y0 V0 (Y0 V1 J1)) (.l 890)) hdep) (S.stays a o K.ho) K.hd K.co K.gen K.hbody (K.code.keeps S.stays) ?_;rw[K.bind (args++[fv]) (by rw[bG,bG,hal];rfl),K.clo,List.zip_append hal.symm];refine aC ?_;simp only[qN,Option.isSome_none,gw,if_false];refine ai (wpAny_alloc ?_);refine ai (wpAny_layCells _ (fun name kind cells=>by cases hkc:kind==qaj<;>simp[hkc]) _ _ _ _ ?_);generalize hs₁:s.heap.push { cls:=.type "frame",data:=.dict #[] }=h₁;have hz₁:h₁.objs.size=s.heap.objs.size+1:=by rw[<- hs₁,qG]
 rw[show({ s with heap:=h₁ }:Shared).heap.objs.size=s.heap.objs.size+1 from hz₁];have keep:∀b o,s.heap.get? b=some o->(dB h₁ fd.scope.names).get? b=some o:=fun b o hb=>uU _ _ b o (by rw[<- hs₁];exact bV _ hb);have hX:=Ep fd s.heap.objs.size a h₁ hz₁;have e₁:au [] φ s φ { s with heap:=dB h₁ fd.scope.names }:=au.of_keeps keep rfl;have cellok:∀x ca,(dD (s.heap.objs.size+1) fd.scope.names []).lookup x=some ca->(dB h₁ fd.scope.names).get? ca=some rr/\s.heap.objs.size<ca:=fun x ca hx=>by
  have hm:=fT hx;rw[<- hz₁] at hm;have ok:=cellsFrom_ok fd.scope.names h₁ (s.heap.objs.size+1) [] ⟨fun Z Z hm=>(nomatch hm),List.Pairwise.nil⟩ (by rw[hz₁];exact aN _);exact⟨zV fd.scope.names h₁ [] (fun Z Z hm=>nomatch hm) x ca hm,(ok.empty x ca hm).2⟩
 have newφ:∀b,s.heap.objs.size<=b->b∉φ/\c.h0.get? b=none/\s.heap.get? b=none:=fun b hb=>
  ⟨fun hm=>eI _ (dg (S.lt hm) hb),S.h0_new hb,fz hb⟩
 have F₁:=E6 K S (uU _ _ _ _ (by rw[<- hs₁];exact dw _ rfl)) cellok newφ;have far:∀b∈XS (bX fd s.heap.objs.size a),s.heap.objs.size<=b:=fun b hb=>by
  rcases hX.only b hb with rfl |⟨x,hx⟩
  ·exact aN _
  ·exact bY (cellok x b hx).2
 refine ai (ED (c:=c) (wz:=bX fd s.heap.objs.size a) (X:=XS (bX fd s.heap.objs.size a)) (s:={ s with heap:=dB h₁ fd.scope.names }) hX _ (fun Z Z Z=>rfl) (K.par _) wq F₁ (S.keeps (s':={ s with heap:=dB h₁ fd.scope.names }) keep rfl) (ag.mono e₁.toKp ax.nil R) fun s₁ F₁' S₁ e₁'=>?_);have CR₁:br c φ s₁.heap s.heap.objs.size kk z fv:=(CR.mono (s':={ s with heap:=dB h₁ fd.scope.names }) e₁.toKp ax.nil fun Z Z Z Z Z q=>nomatch q).mono (s:={ s with heap:=dB h₁ fd.scope.names }) e₁'.toKp (aq.ownX (s:={ s with heap:=dB h₁ fd.scope.names }) F₁ hX)
  fun ca o Z Z hlt q=>eI _ (dg hlt (far ca q))
 rw[List.zip_cons_cons,List.zip_nil_left,List.forIn_cons];refine ai (ai (Hn F₁' S₁ K.fr hj hr hX.loc CR₁ fun s₂ F₂ S₂ e₂'=>aC ?_));have e₂:=e₁'.trans e₂';dsimp only;rw[List.forIn_nil];refine aC (aC ⟨O.lim.keeps S₂.stays,codeAny_func ?_⟩);have hXn:∀b∈XS (bX fd s.heap.objs.size a),s.heap.get? b=none:=fun b hb=>(newφ b (far b hb)).2.2;have e₀₂:=(e₁.weaken (Y:=XS (bX fd s.heap.objs.size a)) (fun Z h=>nomatch h) fun b hb=>(aq.outX (s:={ s with heap:=dB h₁ fd.scope.names }) F₁ hX b hb).1).trans e₂;have hloc:qL 0 vs (List.replicate wu.n none)=vs.map some++List.replicate (wu.n-vs.length) none:=by
  have:=C6 vs [] (wu.n-vs.length);rw[Nat.add_sub_cancel' (wq▸K.np)] at this;exact this
 rw[hloc] at F₂;obtain⟨fr,hfr,hfrs⟩:=(hA.mono e₀₂).fr;have hEnv:bt c φ s₂.heap (bX fd s.heap.objs.size a):=by
  obtain⟨m,⟨⟨o1,es,n,ho1,hd1,_⟩,o2,ho2,hc2⟩,_,_⟩:=F₂.ns;obtain rfl:=ah (ho1.symm.trans ho2);rcases hc2 with hc2 |hc2
  ·exact⟨⟨by rw[show(bX fd s.heap.objs.size a).scope.kind=fd.scope.kind from rfl,K.kind];decide,K.gen,K.co,K.bl,K.gl⟩,s.heap.objs.size,o1,es,n,rfl,F₂.L0,F₂.Lφ,ho1,hd1,hc2.1⟩
  ·rw[K.fr] at hc2;cases hc2.2.2
 have hfr2:(A.deeper (bX fd s.heap.objs.size a)).frames=some (bX fd s.heap.objs.size a::fr):=by show A.frames.map _=_;rw[hfr];rfl
 have hA₂:bR c (A.deeper (bX fd s.heap.objs.size a)) q d φ s₂.heap:=
  ⟨⟨by show A.depth+1+d<=890;exact aw [_,_] [] kaa (Y0 (Y0 (Y0 V0 J1) V1) (.l 890)) (Y0 (Y0 V0 (Y0 V1 J1)) (.l 890)) hdep,by show A.units+3+10*d<=9000;exact aw [_,_] [] kaa (Y0 (Y0 (Y0 V0 (.l 3)) (Y1 (.l 10) V1)) (.l 9000)) (Y0 (Y0 V0 (Y1 (.l 10) (Y0 V1 J1))) (.l 9000)) hun,hA.hd,_,hfr2,fun wz he=>by
   rcases bc.mp he with rfl |he
   ·exact hEnv
   ·exact hfrs wz he⟩,by rw[hfr2];exact fun h=>nomatch h⟩
 refine a8 (hbod _ hX _ q d _ _ φ H s₂ _ _ hA₂ ⟨fr,hfr2⟩ F₂ S₂ hw) ?_ ?_
 ·rintro f s₃ ⟨φ₃,H₃,l₃,e₃,S₃,F₃,w₃⟩;have e₀₃:=(e₀₂.trans e₃).drop hXn;cases f with
  |next=>exact⟨φ₃,H₃,.none,e₀₃,S₃,rN,w₃⟩
  |ret r=>refine w₃ _ fun v Rv w=>?_;clear w₃;exact⟨φ₃,H₃,v,e₀₃,S₃,Rv,w⟩
  |_=>exact w₃.elim
 ·intro x s₃ h;exact EC hA₂ ⟨fr,hfr2⟩ S₂ e₀₂ hXn h fun Z Z h=>h
end
variable {B:String}{L:Nat}{Q:Value->Shared->Prop}{d:Drawn}{ps vs:Array Value}{r:Expr->Option Ex}{x:Addr×(Nat×Nat)×Str}{y:Option Value}
section
open PySem PyProof.Rows
inductive c0(h:Heap)(c P:Addr):Prop
 |mk (o:Obj)(vs:Array Value)(file:Str)(tf:Tok)(flags:Int)(tg:Tok)(inF:Bool)(text:Int)(tt:Tok)(h1:h.get? c=some o)(h2:o.cls=.type "code")(h3:o.data=.fields vs)(h4:vs[11]?=some (.ref P))(h5:vs.getD 11 .none=.ref P)
   (h6:vs.getD 18 .none=.str file tf) (h7:vs.getD 7 .none=.int flags tg) (h8:vs.getD 9 .none=.bool inF) (h9:vs.getD 10 .none=.int text tt) (ne:c≠P):c0 h c P
theorem c0.keeps{c P:Addr}(k:∀b o,h.get? b=some o->h'.get? b=some o):c0 h c P->c0 h' c P
 |.mk o vs file tf flags tg inF text tt h1 h2 h3 h4 h5 h6 h7 h8 h9 ne=>.mk o vs file tf flags tg inF text tt (k _ _ h1) h2 h3 h4 h5 h6 h7 h8 h9 ne
theorem c0.code{c P:Addr}(hP:h.get? P=some (bz ps))(ht:TriplesOk ps.toList):c0 h c P->h.IsCode c P ps
 |.mk o vs file tf flags tg inF text tt h1 _ h3 _ h5 h6 h7 h8 h9 ne=>⟨o,vs,file,tf,flags,tg,inF,text,tt,_,h1,h3,h5,h6,h7,h8,h9,hP,rfl,ht,ne⟩
theorem c0.tab{c P:Addr}(hP:h.get? P=some (bz ps)):c0 h c P->h.TableAt c P ps
 |.mk o vs _ _ _ _ _ _ _ h1 h2 h3 h4 _ _ _ _ _ _=>⟨⟨o,vs,h1,h2,h3,h4⟩,hP⟩
inductive cX(c:Cx):Prop
 |mk (bm:Addr)(ob:Obj)(b1:c.g "__builtins__"=some (.ref bm))(b2:bm≠nr)(b3:c.h0.get? bm=some ob)(b4:ob.cls=.type "module")(b5:ob.dict=some nr)(b6:ob.data=.plain):cX c
abbrev dT (qual:Str) (params:Arguments) (body:Expr) (scope:Scope) (cl:List (Str×Addr)) (pm code ct:Value):qbe:=
 { name:="<lambda>",qualname:=qual,params,body:=.expr body,scope,globals:=c8,closure:=cl,defaults:=.none,kwdefaults:=.none,doc:=.none,pyModule:=pm,annotations:=none,code,closureTuple:=ct,builtins:=nr }
abbrev qH (fd:qbe):Obj:={ cls:=.type "function",data:=.func fd }
theorem jZ{params:Arguments}{body:Expr}{scope:Scope}{fl:Nat}(BM:cX c)(hg:h0.Ns c8 c.g)(hb:∀b o,c.h0.get? b=some o->h0.get? b=some o) (hcl:closureFor scope wz=pure [cl]) (hgl:wz.globals=c8) (h:∀its,wpAny (model c.prog c.w) A (functionCode wz pos fl "<lambda>" qual params scope (.expr body)) (fun cv s'=>(∀b o,h0.get? b=some o->s'.heap.get? b=some o)/\∀pm ct,Q (.ref s'.heap.objs.size) { s' with heap:=s'.heap.push (qH (dT qual params body scope [cl] pm cv ct)) }) E { s with heap:=s.heap.push { cls:=.type "tuple",data:=.seq its } }) :
  wpAny (model c.prog c.w) A (makeFunction "<lambda>" qual params (.expr body) scope wz [] [] [] pos fl) Q E s:=by
 obtain⟨bm,ob,b1,b2,b3,b4,b5,b6⟩:=BM;rw[makeFunction_eq];simp only[List.zip_nil_right,List.filterMap_nil,List.isEmpty_nil,if_true,pure_bind];unfold makeTail;rw[hcl,hgl];refine ai (aC ?_);simp only[List.isEmpty_cons,gw,if_false];refine ai (wpAny_newTextTuple ?_);refine ai (a8 (h _) ?_ fun Z Z q=>q);rintro cv s' ⟨k,q⟩;have hg':=hg.keeps k;refine ai (wpAny_builtinsFor hg' b1 b2 (k _ _ (hb _ _ b3)) b4 b5 b6 ?_);refine ai (wpAny_nsGet hg' ?_);exact ai (aC (nC (q _ _) (by size_fits)))
theorem Kl{scope:Scope}{nm:Str}(hs:scope.names=[(p1,.local),(p2,.local),(nm,.free),(f,.globalImplicit)])(hc:wz.cells.lookup nm=some ca):closureFor scope wz=pure [(nm,ca)]:=by
 unfold closureFor;rw[hs];simp[cellOf,hc]
def au.table {P : Addr} (hP : s.heap.get? P = some (bz ps)) (hP' : s'.heap.get? P = some (bz ps')) (hk : ∀ b o, b ≠ P -> s.heap.get? b = some o -> s'.heap.get? b = some o) (ho : s'.os = s.os) : au [] φ s φ s' := by
 have ne : ∀ b o, s.heap.get? b = some o -> o.cls ≠ .none -> b ≠ P := fun b o hb hc q => by rw [q, hP] at hb; (injection hb with Ja; subst Ja); exact hc rfl
 exact { pre := nv
         keep := fun b o hb Z Z hf => hk b o (ne b o hb fun q => by rw [q] at hf; exact nomatch hf) hb
         new := fun Z h => .inl h
         frame := fun b o hb Z Z hc => ⟨o.slots, hk b o (ne b o hb hc) hb⟩
         dict := fun b o es n hb Z hd => ⟨o, es, n, hk b o (fun q => by rw [q, hP] at hb; (injection hb with Ja; subst Ja); injection hd) hb, hd, .rfl⟩
         exc := fun b o vs C hb Z hc hd => ⟨vs, by rw [<- hd]; exact hk b o (ne b o hb (by rw [hc]; exact fun q => nomatch q)) hb⟩
         alive := fun Z Z Z h => nomatch h
         tabs := fun b o hb Z Z hc => (Classical.em (b = P)).elim (fun q => ⟨_, q ▸ hP', rfl⟩) fun q => ⟨o, hk b o q hb, hc⟩
         os := ho }
def ak.table (S : ak c φ H s) (hP : s.heap.get? x.1 = some (bz ps)) (hP' : s'.heap.get? x.1 = some (bz ps')) (hk : ∀ b o, b ≠ x.1 -> s.heap.get? b = some o -> s'.heap.get? b = some o) (ho : s'.os = s.os) (hg : s'.gens = s.gens)
  (h0 : c.h0.get? x.1 = none) (hone : ∀ y ∈ c.tabs, y.1 = x.1 -> y = x) (hy : ef s'.heap x) : ak c φ H s' where
 stays b o h := hk b o (fun q => by rw [q, h0] at h; injection h) (S.stays b o h)
 fresh := S.fresh
 nodup := S.nodup
 len := S.len
 lists i xs h := by
  refine (S.lists i xs h) _ fun a o vs n h1 h2 h3 h4 h5 h6 => ?_
  exact (fun Z kJ => kJ a o vs n h1 (hk a o (fun q => by rw [q, hP] at h2; (injection h2 with Ja; subst Ja); injection h3) h2) h3 h4 (ag.mono (au.table hP hP' hk ho).toKp ax.nil h5) h6)
 gens := hg.trans S.gens
 tab y hm := (Classical.em (y.1 = x.1)).elim (fun q => by rw [hone y hm q]; exact hy) fun q => by
  have k : ∀ b o, s.heap.get? b = some o -> o.cls = .type "code" -> s'.heap.get? b = some o := fun b o hb hc => hk b o (fun q => by rw [q, hP] at hb; (injection hb with Ja; subst Ja); injection hc) hb
  rcases S.tab y hm with h1 | ⟨cc, h1, h2⟩
  ·exact .no (hk _ _ q h1)
  ·exact .yes cc (hk _ _ q h1) (h2.mono k)
def DJ{nm:Str}(e:au [] φ s φ s₂)(S₂:ak c φ H s₂)(CA:bf c φ s.heap ca)(hoc:s.heap.IsCell ca (some rv))(Rz:ar c φ s.heap z rv)(hl:c.lam kk fd nm)(hcl:fd.closure=[(nm,ca)])(hcd:fd.code=.ref cc)(hco:bS s₂.heap cc fd.qualname)(hn:cc∉φ) (hQ:∀fv s',au [] φ s φ s'->ak c φ H s'->br c φ s'.heap s'.heap.objs.size kk z fv->Q fv s'):Q (.ref s₂.heap.objs.size) { s₂ with heap:=s₂.heap.push (qH fd) }:=by
 have e₃:au [] φ s φ { s₂ with heap:=s₂.heap.push (qH fd) }:=e.trans au.push;obtain⟨o1,g1,g2⟩:=hoc;obtain⟨h1,h2,o,h3,h4,h5⟩:=CA;obtain rfl:=ah (g1.symm.trans h3);have hc:=e₃.keep ca o1 g1 h1 (fun q=>nomatch q) (by rw[h4];decide);exact hQ _ _ e₃ (S₂.push _) ⟨s₂.heap.objs.size,qH fd,fd,nm,ca,o1,rv,rfl,S₂.new,dw _ rfl,rfl,rfl,hl,hcl,h1,f9 hc,hc,h4,g2,ar.mono e₃.toKp ax.nil Rz,h2,cc,hcd,hco.mono fun Z Z q Z=>bV _ q,hn⟩
def lC{params:Arguments}{body:Expr}{scope:Scope}{nm:Str}(O:c.Ok)(BM:cX c) (hx:x∈c.tabs) (hone:∀y∈c.tabs,y.1=x.1->y=x) (h0:c.h0.get? x.1=none) (CH:c0 c.h0 cc x.1) (hcode:wz.code=.ref cc) (hl:x.2.1=(pos.line,pos.col)) (hq:x.2.2=wz.qual++"<lambda>") (hd1:params.defaults=[]) (hd2:params.kw_defaults=[]) (hs:scope.names=[(p1,.local),(p2,.local),(nm,.free),(f,.globalImplicit)]) (hgl:wz.globals=c8) (S:ak c φ H s) (hca:wz.cells.lookup nm=some ca) (CA:bf c φ s.heap ca) (hoc:s.heap.IsCell ca (some rv)) (Rz:ar c φ s.heap z rv) (hLam:∀pm cv ct,c.lam kk (dT (wz.qual++"<lambda>") params body scope [(nm,ca)] pm cv ct) nm) (hQ:∀fv s',au [] φ s φ s'->ak c φ H s'->br c φ s'.heap s'.heap.objs.size kk z fv->Q fv s') :
  wpAny (model c.prog c.w) A (eval (.Lambda params body scope pos) wz) Q E s:=by
 have hdef:defaultsOf params wz=([],[]):=by
  obtain⟨_,_,_,_,_,_,_⟩:=params;dsimp only at hd1 hd2;subst hd1 hd2;rfl
 rw[arm_eval_Lambda,hdef];show wpAny _ _ (do let dv<-evalAll [];let kdv<-holding dv (evalAllOpt []);makeFunction "<lambda>" (wz.qual++"<lambda>") params (.expr body) scope wz dv kdv [] pos pos.line) Q E s;refine ai (aC (ai (de (aC ?_))));refine jZ (h0:=c.h0) BM O.gl (fun Z Z h=>h) (Kl hs hca) hgl fun its=>?_;have S₁:=S.push { cls:=.type "tuple",data:=.seq its };have e₁:au [] φ s φ { s with heap:=s.heap.push { cls:=.type "tuple",data:=.seq its } }:=au.push;have C₁:=CH.keeps S₁.stays;rcases S₁.tab x hx with hP |⟨c',hP,hC⟩
 ·refine wpAny_functionCodeX hcode (C₁.code hP trivial) (C₁.tab hP) rfl fun c' h' tk hk hge hlt Z hrec htb hc2=>?_;obtain⟨P',_,_,⟨o2,vs2,g1,g2,g3,_⟩,_⟩:=hc2;obtain⟨c2,o3,vs3,t3,q1,q2,q3,q4⟩:=hrec;obtain rfl:=tB q1;obtain rfl:=ah (g1.symm.trans q2);have hP':h'.get? x.1=some (bz #[rawInt pos.line,rawInt pos.col,.ref c']):=by
   have:=htb.2;rw[Array.empty_append] at this;exact this
  have hco:bS h' c' (wz.qual++"<lambda>"):=⟨o2,vs3,t3,g1,g2,q3,q4⟩;have S₂:ak c φ H { s with heap:=h',toks:=tk }:=S₁.table (x:=x) (s':={ s with heap:=h',toks:=tk }) hP hP' (fun b o hb ho=>hk b o hb ho) rfl rfl h0 hone (.yes c' (by rw[hl];exact hP') (by rw[hq];exact hco));have e₂:au [] φ s φ { s with heap:=h',toks:=tk }:=e₁.trans (au.table (s':={ s with heap:=h',toks:=tk }) hP hP' (fun b o hb ho=>hk b o hb ho) rfl);have hn:c'∉φ:=fun hm=>eI _ (dg (S₁.lt hm) hge);exact⟨fun b o hb=>S₂.stays b o hb,fun pm ct=>DJ (fd:=dT (wz.qual++"<lambda>") params body scope [(nm,ca)] pm (.ref c') ct) e₂ S₂ CA hoc Rz (hLam _ _ _) rfl rfl hco hn hQ⟩
 ·rw[hl] at hP;have hn:c'∉φ:=fun hm=>by
   obtain⟨o1,g1,g2⟩:=S₁.isList hm;obtain⟨o2,_,_,q1,q2,_,_⟩:=hC;obtain rfl:=ah (g1.symm.trans q1);rw[g2] at q2;exact absurd q2 (by decide)
  refine wpAny_functionCode_hit hcode (C₁.code hP trivial) (c':=.ref c') ?_ ⟨S₁.stays,fun pm ct=>DJ (fd:=dT (wz.qual++"<lambda>") params body scope [(nm,ca)] pm (.ref c') ct) e₁ S₁ CA hoc Rz (hLam _ _ _) rfl rfl (hq▸hC) hn hQ⟩;show(if((pos.line:Int)==(pos.line:Int)&&(pos.col:Int)==(pos.col:Int))=true then some (cF c') else _)=_;rw[beq_self_eq_true,beq_self_eq_true];rfl
theorem J8{pl:Pos}{e2 body:Expr}{params:Arguments}{scope:Scope}{nm g:Str}(O:c.Ok)(BM:cX c)(hk:wz.kindOf f=some .globalImplicit)(hg:c.g f=some (.ref a))(ho:c.h0.get? a=some o)(hd:o.data=.func fd) (hx:(f==("__debug__":Str))=false) (n1:dA e1=true) (n2:dA e2=true) (h1:aQ c wz wu e1 y1) (h2:aQ c wz wu e2 y2) (hm:x∈c.tabs) (hone:∀y∈c.tabs,y.1=x.1->y=x) (h0:c.h0.get? x.1=none) (CH:c0 c.h0 cc x.1) (hcode:wz.code=.ref cc) (hl:x.2.1=(pl.line,pl.col)) (hq:x.2.2=wz.qual++"<lambda>") (hd1:params.defaults=[]) (hd2:params.kw_defaults=[]) (hs:scope.names=[(p1,.local),(p2,.local),(nm,.free),(g,.globalImplicit)]) (hn:wz.kindOf nm=some .cell) (hi:wu.lookup nm=some i) (hLam:∀ca pm cv ct,c.lam kk (dT (wz.qual++"<lambda>") params body scope [(nm,ca)] pm cv ct) nm) :
  aQ c wz wu (.Call (.Name f p) [e1,e2,.Lambda params body scope pl] [] pos) (.callL f [y1,y2] kk i):=fun A q d k loc φ H s Q E hA hF hS hw=>by
 show wpAny _ _ (eval (.Name f p) wz >>=fun fv=>callWith pos fv [] (backTo pos (eL [e1,e2,.Lambda params body scope pl] wz)) []) _ _ _;refine ai (Calls.Name_function_global hF.fn hk (Calls.loadGlobal_global (by rw[hF.gl];exact O.gl.keeps hS.stays) hg ?_) hx);rw[qP n1,qP n2,qP rfl];refine Calls.callWith_function (o:=o) (fd:=fd) (Calls.evalArgs_plain ?_);refine Calls.spliced_cons (wm (h1 A q d k loc φ H s _ E hA hF hS hw) ?_);rintro r₁ s₁ ⟨φ₁,H₁,v₁,e₁,S₁,R₁,w₁⟩;refine Calls.spliced_cons (a8 (h2 A q d k loc φ₁ H₁ s₁ _ E (hA.mono e₁) (hF.mono e₁) S₁ w₁) ?_ fun Z Z h=>ay.lift e₁ S₁ h);rintro r₂ s₂ ⟨φ₂,H₂,v₂,e₂,S₂,R₂,w₂⟩;revert w₂;refine xI fun z hz w₂=>?_;have F₂:=(hF.mono e₁).mono e₂;obtain⟨m,hns,sl,_⟩:=id F₂.ns;have h3:=sl nm i hi;rw[hz] at h3;unfold iU at h3;rw[hn] at h3;obtain⟨_,ca,rv,g1,g2,g3⟩:=h3;refine Calls.spliced_cons (lC O BM hm hone h0 CH hcode hl hq hd1 hd2 hs hF.gl S₂ g1 (F₂.cells nm ca g1) g2 g3 (hLam ca) fun fv s₃ e₃ S₃ CR=>Calls.spliced_nil ?_);refine⟨⟨S₃.stays a o ho,hd⟩,wpAny_call ?_⟩;refine w₂ _ fun a' o' fd' q1 q2 q3 q4=>?_;clear w₂;rw[hg] at q1;injection q1 with Ja;injection Ja with w4;subst w4;have e₀:=(e₁.trans e₂).trans e₃;refine sJ (q4 A φ₂ s₃ [r₁,r₂] [fv] ((hA.mono e₀)).toOkA S₃ ⟨ar.mono (e₂.trans e₃).toKp ax.nil R₁,ar.mono e₃.toKp ax.nil R₂,rL⟩ ⟨fv,rfl,CR⟩) ?_;intro r s' hr;cases r with
 |error e=>exact ay.lift e₀ S₃ hr
 |ok f=>cases f with
  |ret v=>exact aE.lift e₀ hr
  |_=>exact hr.elim
end
variable {Q:Option Value->Shared->Prop}{cl:Int}{p1:Pos}{ps:List Str}{x:Ex}
section
open PySem PyProof.Rows
set_option maxRecDepth 100000
inductive aR(h:Heap)(C:Addr)(bm:List Value)(ini:Option Value):Prop
 |mk (nm q:Str)(N:Addr)(bs:List Value)(sn:List Str)(sub:List Value)(ab:Bool)(col:Option Bool)(dd:Option Addr)(k0 k1 k2 k3 k5:Option Value)(mN:Str->Option Value)
   (hC:h.get? C=some (qY nm q C N bs bm true sn sub ab col dd k0 k1 k2 k3 k5 "ValueError.__new__")) (hN:h.Ns N mN) (hq:∀n∈zd0,mN n=none) (hi:mN "__init__"=ini):aR h C bm ini
def aR.keeps(K:aR h C bm ini)(hk:∀b o,h.get? b=some o->h'.get? b=some o):aR h' C bm ini:=by
 obtain⟨nm,q,N,bs,sn,sub,ab,col,dd,k0,k1,k2,k3,k5,mN,hC,hN,hq,hi⟩:=K;exact⟨nm,q,N,bs,sn,sub,ab,col,dd,k0,k1,k2,k3,k5,mN,hk _ _ hC,hN.keeps hk,hq,hi⟩
structure bT(h:Heap)(C NE:Addr):Prop where
 own:∃ini,aR h C (.ref NE::cu) ini
 net:aR h NE cu none
def bT.keeps(K:bT h C NE)(hk:∀b o,h.get? b=some o->h'.get? b=some o):bT h' C NE:=
 ⟨let⟨i,k⟩:=K.own;⟨i,k.keeps hk⟩,K.net.keeps hk⟩
def bT.lookup(K:bT h C NE)(hn:n∈zd0)(hB:o7 (.type "ValueError") n=pure y)(hq:Q y ⟨h,g,d,t,os⟩) :
  wpAny M A (o7 (.ref C) n) Q E ⟨h,g,d,t,os⟩:=by
 obtain⟨⟨ini,nm,q,N,bs,sn,sub,ab,col,dd,k0,k1,k2,k3,k5,mN,hC,hN,hqn,hi⟩,⟨nm',q',N',bs',sn',sub',ab',col',dd',k0',k1',k2',k3',k5',mN',hC',hN',hqn',hi'⟩⟩:=K;have hrest:lookupAlong cu n=pure y:=by rw[typeLookup_eq,PySem.F.excBase_ValueError.mroIs] at hB;exact hB
 rw[typeLookup_eq];refine ai (wpAny_mroOf_exc hC ?_);rw[lookupAlong_cons];refine ai (wpAny_classOwn_exc hC hN ?_);rw[hqn n hn];show wpAny _ _ (lookupAlong (.ref NE::cu) n) _ _ _;rw[lookupAlong_cons];refine ai (wpAny_classOwn_exc hC' hN' ?_);rw[hqn' n hn];show wpAny _ _ (lookupAlong cu n) _ _ _;rw[hrest];exact aC hq
theorem bT.sub{Q:Bool->Shared->Prop}(K:bT h C NE)(hq:Q ((cF C::.ref NE::cu).contains base) ⟨h,g,d,t,os⟩):wpAny M A (isSubtype (.ref C) base) Q E ⟨h,g,d,t,os⟩:=by
 obtain⟨⟨ini,nm,q,N,bs,sn,sub,ab,col,dd,k0,k1,k2,k3,k5,mN,hC,_⟩,_⟩:=K;exact Ah hC hq
def bT.obj(K:bT h C NE):∃o cd,h.get? C=some o/\o.cls=.type "type"/\o.data=.cls cd:=by
 obtain⟨⟨ini,nm,q,N,bs,sn,sub,ab,col,dd,k0,k1,k2,k3,k5,mN,hC,_⟩,_⟩:=K;exact⟨_,_,hC,rfl,rfl⟩
def KB:o7 (.type "ValueError") "__class__"=pure (some (.builtin "object.__class__")):=by rw[vO,vV];kernel_rfl
def HX (K:bT h C NE) (hx:h.get? a=some o) (hc:o.cls=.ref C) (hq:R (.ok (.ret (.ref C))) ⟨h,g,d,t,os⟩) :
  codeAny (model prog w) A (.call (.builtin "getset_descriptor.__get__") ⟨[.builtin "object.__class__",.ref a,.ref C],[]⟩) R ⟨h,g,d,t,os⟩:=by
 have hT5:(⟨h,g,d,t,os⟩:Shared).TypeIs (.builtin "object.__class__") "getset_descriptor":=F.typeOf_object_class;have hcB:(cF C::.ref NE::cu).contains (.type (".".intercalate ("object.__class__".cutAt '.').dropLast))=true:=by
  rw[F.owner_object_class];rfl
 refine vJ F.slot_gs_get.plain F.entry_gs_get (F.slot_gs_get.check _ _ _ _ _ _ _ _ hT5 (F.args_gs_get _ _ _) ?_);repeat(any_goals(first |assumption |(with_reducible refine dK hx ?_;rw[hc]) |(with_reducible refine K.sub ?_;rw[hcB]) |wp_step))
 refine⟨Code.quiet_builtin _ (by decide +kernel),codeAny_builtin F.entry_object_class ?_⟩;repeat(any_goals(first |assumption |(with_reducible refine dK hx ?_;rw[hc]) |wp_step))
def Gu{Q:Fin->Shared->Prop}(K:bT h C NE)(hx:h.get? a=some o)(hc:o.cls=.ref C)(hq:Q (.done (.ret (.ref C))) ⟨h,g,d,t,os⟩) :
  wpAny (model prog w) A (Builtin.«object.__getattribute__» ⟨[.ref a,.str "__class__" tk],[]⟩) Q E ⟨h,g,d,t,os⟩:=by
 have hT5:(⟨h,g,d,t,os⟩:Shared).TypeIs (.builtin "object.__class__") "getset_descriptor":=F.typeOf_object_class;have f5:=F.typeOf_object_class;have f6:=F.slot_gs_get.lookup;have f7:=F.slot_gs_set.lookup;have hm:("__class__":Str)∈zd0:=.tail _ (.tail _ (.head _));repeat(any_goals(first |assumption |(with_reducible refine dK hx ?_;rw[hc]) |with_reducible refine K.lookup hm KB ?_ |wp_step))
 refine HX K hx hc ?_;repeat(any_goals(first |assumption |wp_step))
theorem E5{Q:Unit->Shared->Prop}(K:bT h C NE)(hx:h.get? a=some o)(hc:o.cls=.ref C)(hq:Q () ⟨h,g,d,t,os⟩):wpAny M A (xr "BaseException.__getattribute__" ⟨[.ref a,nameV],[]⟩) Q E ⟨h,g,d,t,os⟩:=by
 have hk:builtinKind "BaseException.__getattribute__"=some .slot:=by decide +kernel
 have hsplit:splitId "BaseException.__getattribute__"=some ("BaseException","__getattribute__"):=by decide +kernel
 have hcB:(cF C::.ref NE::cu).contains (.type "BaseException")=true:=rfl;have ha:=F.args_bexc_ga (.ref a) nameV;simp only[xr,hk,hsplit];refine ai ?_;unfold isInstance;repeat(first |(with_reducible refine dK hx ?_;rw[hc]) |(with_reducible refine K.sub ?_;rw[hcB]) |wp_step)
 exact hq
def ID{Q:Value->Shared->Prop}(K:bT h C NE)(hx:h.get? a=some o)(hc:o.cls=.ref C)(hq:Q (.ref C) ⟨h,g,d,t,os⟩) :
  wpAny (model prog w) A (getAttrBy (.ref a) (.str "__class__" tk) fill expr) Q E ⟨h,g,d,t,os⟩:=by
 have FB:=PySem.F.attrBase_ValueError;have f3:=FB.ga.bind (.ref a);have hx0:(expr&&onTheHeap (iN "BaseException.__getattribute__"))=false:=by cases expr<;>rfl
 have hx2:(iN "BaseException.__getattribute__"==iN "object.__getattribute__")=false:=by decide +kernel
 have hx1:(onTheHeap (cF C)&&iN "BaseException.__getattribute__"==iN "object.__getattribute__")=false:=by rw[hx2];rfl
 have hm1:("__getattribute__":Str)∈zd0:=.head _;have hm2:("__getattr__":Str)∈zd0:=.tail _ (.head _);repeat(any_goals(first |assumption |(with_reducible refine dK hx ?_;rw[hc]) |with_reducible refine K.lookup hm1 FB.ga.lookup ?_ |with_reducible refine K.lookup hm2 FB.noGetattr ?_ |wp_step))
 refine vJ FB.ga.plain F.entry_bexc_ga (E5 K hx hc (Gu K hx hc ?_));repeat(any_goals(first |assumption |wp_step))
def Iu(K:bT h C NE)(hx:h.get? a=some o)(hc:o.cls=.ref C)(hq:Q (some (.ref C)) ⟨h,g,d,t+1,os⟩):wpAny (model prog w) A (getAttr? (.ref a) "__class__") Q E ⟨h,g,d,t,os⟩:=by
 unfold getAttr? getAttrBy?;repeat(any_goals(first |assumption |with_reducible apply ID K hx hc |wp_step))
end
variable {Q:Value->Shared->Prop}{y:Str}
section
open PySem PyProof.Rows
set_option maxRecDepth 100000
theorem Hb{Q:Fin->Shared->Prop}(hx:h.get? a=some o)(hc:o.cls=.ref C)(hq:Q (.done (.ret (.bool true))) ⟨h,g,d,t,os⟩) :
  wpAny (model prog w) A (Builtin.«isinstance.nested» ⟨[.ref a,.ref C,.int dep tk],[]⟩) Q E ⟨h,g,d,t,os⟩:=by
 have e:(cF C==cF C)=true:=beq_self_eq_true _;repeat(any_goals(first |assumption |(with_reducible refine dK hx ?_;rw[hc]) |simp only[e,if_true] |wp_step))
def IZ{Q:Fin->Shared->Prop}(K:bT h C NE)(hx:h.get? a=some o)(hc:o.cls=.ref C)(hq:Q (.done (.ret (.bool true))) ⟨h,g,d,t,os⟩) :
  wpAny (model prog w) A (Builtin.«isinstance.nested» ⟨[.ref a,.type "ValueError",.int dep tk],[]⟩) Q E ⟨h,g,d,t,os⟩:=by
 have hty:typeOf (.type "ValueError")=pure (.type "type"):=by rfl
 have hcB:(cF C::.ref NE::cu).contains (.type "ValueError")=true:=rfl;repeat(any_goals(first |assumption |(with_reducible refine dK hx ?_;rw[hc]) |(with_reducible refine K.sub ?_;rw[hcB]) |wp_step))
theorem Ij{Q:Fin->Shared->Prop}(K:bT h C NE)(KD:bT h D NE)(hne:C≠D)(hnn:NE≠D)(hx:h.get? a=some o)(hc:o.cls=.ref C)(hq:Q (.done (.ret (.bool false))) ⟨h,g,d,t+1,os⟩) :
  wpAny (model prog w) A (Builtin.«isinstance.nested» ⟨[.ref a,.ref D,.int dep tk],[]⟩) Q E ⟨h,g,d,t,os⟩:=by
 obtain⟨oD,cdD,hD,hDc,hDd⟩:=KD.obj;obtain⟨oC,cdC,hC,hCc,hCd⟩:=K.obj;have e:(cF C==cF D)=false:=beq_eq_false_iff_ne.mpr fun q=>hne (tB q);have e2:(cF NE==cF D)=false:=beq_eq_false_iff_ne.mpr fun q=>hnn (tB q);have hcB:(cF C::.ref NE::cu).contains (.ref D)=false:=by
  rw[List.contains_cons,List.contains_cons,show(cF D==cF C)=false from beq_eq_false_iff_ne.mpr fun q=>hne (tB q).symm,show(cF D==cF NE)=false from beq_eq_false_iff_ne.mpr fun q=>hnn (tB q).symm];rfl
 repeat(any_goals(first |assumption |(with_reducible refine dK hx ?_;rw[hc]) |(with_reducible refine dK hD ?_;rw[hDc]) |(with_reducible refine dK hD ?_;rw[hDd]) |(with_reducible refine dK hC ?_;rw[hCd]) |(with_reducible refine K.sub ?_;rw[hcB]) |with_reducible apply Iu K hx hc |simp only[e,gw,if_false] |wp_step))
end
variable {d:Nat}
section
open PySem PyProof.Rows
set_option maxRecDepth 100000
inductive cx(c:Cx):Prop
 |mk (NE:Addr)(hn:c.g (ao "NetError")=some (.ref NE))(net:aR c.h0 NE cu none)(kid:∀cn∈kids,∃C ini,c.g cn=some (.ref C)/\C≠NE/\aR c.h0 C (.ref NE::cu) ini/\(cn≠ao "BadNet"->ini=none))
   (inj:∀cn∈kids,∀dn∈kids,c.g cn=c.g dn->cn=dn) (ve:c.g (ao "ValueError")=none/\c.b (ao "ValueError")=some (.type "ValueError")):cx c
def jK(hx:s.heap.get? a=some o)(hc:o.cls=.ref C)(hq:Q (.bool true) s):wpAny (model prog w) A (call (.builtin "isinstance") [.ref a,.ref C]) Q E s:=by
 obtain⟨h,g,d,t,os⟩:=s;exact call_isinstance_of (Hb hx hc hq) (by intro e;injection e)
def uT(K:bT s.heap C NE)(hx:s.heap.get? a=some o)(hc:o.cls=.ref C)(hq:Q (.bool true) s):wpAny (model prog w) A (call (.builtin "isinstance") [.ref a,.type "ValueError"]) Q E s:=by
 obtain⟨h,g,d,t,os⟩:=s;exact call_isinstance_of (IZ K hx hc hq) (by intro e;injection e)
def o8(K:bT s.heap C NE)(KD:bT s.heap D NE)(hne:C≠D)(hnn:NE≠D)(hx:s.heap.get? a=some o)(hc:o.cls=.ref C)(hq:Q (.bool false) { s with toks:=s.toks+1 }):wpAny (model prog w) A (call (.builtin "isinstance") [.ref a,.ref D]) Q E s:=by
 obtain⟨h,g,d,t,os⟩:=s;exact call_isinstance_of (Ij K KD hne hnn hx hc hq) (by intro e;injection e)
def qq{Q:Bool->Shared->Prop}(K:bT s.heap C NE)(hx:s.heap.get? a=some o)(hc:o.cls=.ref C)(hq:Q true s):wpAny M A (excMatches (.ref a) (.ref NE)) Q E s:=by
 obtain⟨h,g,d,t,os⟩:=s;have hcN:(cF C::.ref NE::cu).contains (.ref NE)=true:=by rw[List.contains_cons,List.contains_cons,beq_self_eq_true,Bool.true_or,Bool.or_true]
 have f:=tc_notTuple;obtain⟨nm',q',N',bs',sn',sub',ab',col',dd',k0',k1',k2',k3',k5',mN',hC',hN',hqn',hi'⟩:=K.net;have hcB:(cF NE::cu).contains (.type "BaseException")=true:=rfl;unfold excMatches;repeat(first |(with_reducible refine dK hx ?_;rw[hc]) |with_reducible refine dK hC' ?_ |(with_reducible refine Ah hC' ?_;rw[hcB]) |(with_reducible refine K.sub ?_;rw[hcN]) |wp_step)
 exact hq
inductive td(c:Cx)(p:Str)(cv:Value):Prop
 |kid (h1:p∈kids)(h2:c.g p=some cv):td c p cv
 |ve (h1:p=ao "ValueError")(h2:cv=.type "ValueError"):td c p cv
theorem Jp{v:V}{e:Str}(h:rZ v=some e):∃y,v=.exc e y:=by
 cases v with
 |exc cn y=>obtain rfl:=ah h;exact⟨y,rfl⟩
 |_=>injection h
theorem FN(X:cx c)(S:ak c φ H s){v:V}{x:Value}{p:Str}{b:Bool}(R:ar c φ s.heap v x)(hcv:td c p cv)(e:c5 v (.own p)=some b):fN c A φ s (call (.builtin "isinstance") [x,cv]) (.bool b) H:=by
 intro E;obtain⟨NE,hn,net,kid,inj,_⟩:=X;revert e;refine xB fun cn h1 h2=>?_;obtain⟨y,rfl⟩:=Jp h1;obtain⟨⟨hm,_⟩,rfl⟩:=iI h2;obtain⟨a,o,vs,rfl,ha,h0,ho,⟨C,hC⟩,hg,hd,_⟩:=R;obtain⟨C',ini,g',hne,K',_⟩:=kid cn hm;rw[hg,hC] at g';(injection g' with Ja;injection Ja with w4;subst w4);have K:bT s.heap C NE:=⟨⟨ini,K'.keeps S.stays⟩,net.keeps S.stays⟩;cases hcv with
 |ve h3 h4=>
  subst h3 h4;rw[decide_eq_true (.inr rfl)];exact uT K ho hC (aE.same' S rB)
 |kid h3 h4=>
  have hnv:p≠ao "ValueError":=fun q=>by rw[q] at h3;revert h3;decide
  obtain⟨D,ini',g',hne',KD,_⟩:=kid p h3;rw[h4] at g';(injection g' with Ja;subst Ja);by_cases hp:cn=p
  ·subst hp;rw[hg,hC] at h4;(injection h4 with Ja;injection Ja with w4;subst w4);rw[decide_eq_true (.inl rfl)];exact jK ho hC (aE.same' S rB)
  ·rw[decide_eq_false (fun q=>q.elim hp hnv)];exact o8 K ⟨⟨ini',KD.keeps S.stays⟩,net.keeps S.stays⟩ (fun q=>hp (inj cn hm p h3 (by rw[hg,hC,h4,q]))) (cS hne') ho hC (aE.same S rB)
def Ip{t:Str}(O:c.Ok)(XO:cx c)(ht:t∈kids\/t=ao "ValueError")(hk:wz.kindOf (ao "isinstance")=some .globalImplicit)(hk':wz.kindOf t=some .globalImplicit) (hg:c.g (ao "isinstance")=none) (hb:c.b (ao "isinstance")=some (.builtin "isinstance")) (hx:(t==("__debug__":Str))=false) (hn:dA e=true) (h:aQ c wz wu e x):aQ c wz wu (.Call (.Name (ao "isinstance") p) [e,.Name t p'] [] pos) (.isi x (.own t)):=fun A q d k loc φ H s Q E hA hF hS hw=>by
 show wpAny _ _ (eval (.Name (ao "isinstance") p) wz >>=fun fv=>callWith pos fv [] (backTo pos (eL [e,.Name t p'] wz)) []) _ _ _;refine ai (Calls.Name_function_global hF.fn hk (Calls.loadGlobal_builtin (by rw[hF.gl];exact O.gl.keeps hS.stays) hg (by rw[hF.bl];exact O.bl.keeps hS.stays) hb ?_));rw[qP hn];refine vn (by intro a h;injection h) rfl (Calls.evalArgs_plain (Calls.spliced_cons (wm (h A q d k loc φ H s _ E hA hF hS hw) ?_)));rintro r s₁ ⟨φ₁,H₁,v₁,e₁,S₁,R₁,w₁⟩;revert w₁;refine xI fun b hbb w₂=>?_;skip;rcases ht with ht |ht
 ·obtain⟨NE,hne,net,kid,inj,ve⟩:=id XO;obtain⟨C,ini,g',_⟩:=kid t ht;refine Calls.spliced_cons (Calls.Name_function_global hF.fn hk' (Calls.loadGlobal_global (by rw[hF.gl];exact O.gl.keeps S₁.stays) g' (Calls.spliced_nil ?_)) hx);exact(FN XO S₁ R₁ (.kid ht g') hbb).use e₁ w₂
 ·obtain⟨NE,hne,net,kid,inj,ve⟩:=id XO;subst ht;refine Calls.spliced_cons (Calls.Name_function_global hF.fn hk' (Calls.loadGlobal_builtin (by rw[hF.gl];exact O.gl.keeps S₁.stays) ve.1 (by rw[hF.bl];exact O.bl.keeps S₁.stays) ve.2 (Calls.spliced_nil ?_)) hx);exact(FN XO S₁ R₁ (.ve rfl rfl) hbb).use e₁ w₂
def mv{e:Addr}(e₁:au [] φ₀ s₀ φ s)(S:ak c φ H s)(hg:c.g cn=some (.ref C))(hb:cn≠ao "BadNet")(hm:Heap.MadeExcOf s.heap h' e (.ref C) args):b9 c φ s₀ h' (.exc cn .none) (.ref e):=by
 obtain⟨t,ht,_,_⟩:=hm.there;have hφ:e∉φ:=fun q=>by
  obtain⟨o,ho,_⟩:=S.isList q;exact cq (hm.new.symm.trans ho)
 have h0:c.h0.get? e=none:=by
  refine xC (c.h0.get? e) (fun q=>?_) fun o q=>?_
  ·rfl
  ·have:=S.stays e o q;exact cq (hm.new.symm.trans this)
 exact⟨⟨e,_,_,rfl,hφ,h0,ht,⟨C,rfl⟩,hg,rfl,fun q=>absurd q hb⟩,⟨_,_,rfl⟩,e,_,_,rfl,e₁.fresh S hm.new,ht,rfl,.inl rfl⟩
def KA{xs:List Ex}(O:c.Ok)(XO:cx c)(hX:aO aM wz X)(hm:cn∈kids)(hb:cn≠ao "BadNet")(hk:wz.kindOf cn=some .globalImplicit)(hdb:(cn==("__debug__":Str))=false)(h:gD c wz wu es xs)(hne:es≠[])(hz:xs.length<=9) :
  eN c wz wu X (.Raise (some (.Call (.Name cn np) es [] cpos)) none pos) (.rais cn xs):=fun A q d k loc φ H s Q E hA hh hF hS hw=>by
 obtain⟨rfl,hw⟩:=hw;obtain⟨NE,hn,net,kid,inj,_⟩:=XO;obtain⟨C,ini,hg,hCN,K,hini⟩:=kid cn hm;obtain rfl:=hini hb;obtain⟨nm,q,N,bs,sn,sub,ab,col,dd,k0,k1,k2,k3,k5,mN,hC,hN,hq,hi⟩:=K;obtain⟨nm',q',N',bs',sn',sub',ab',col',dd',k0',k1',k2',k3',k5',mN',hC',hN',hq',hi'⟩:=net;refine wpAny_Raise_call_subT (nm:=nm) (q:=q) (C:=C) (N:=N) (bs:=bs) (hdct:=true) (sn:=sn) (sub:=sub) (ab:=ab) (col:=col) (dd:=dd) (k0:=k0) (k1:=k1) (k2:=k2) (k3:=k3) (k5:=k5) (bm:=.ref NE::cu) (mN:=mN) PySem.F.excBase_ValueError rfl (hA.hd rfl) (vL h.1.1) hi (Calls.Name_function_global hF.fn hk (Calls.loadGlobal_global (by rw[hF.gl];exact O.gl.keeps hS.stays) hg ⟨rfl,?_⟩) hdb);refine a8 (uo h hne hA hF hS hw) ?_ fun Z Z h=>ay.no h;rintro _ s₁ w0;refine w0 _ fun rs wk φ₁ H₁ vs e₁ S₁ R₁ eN2=>?_;clear w0;subst wk;obtain⟨l₁,w₁⟩:=eN2;refine⟨rfl,?_,S₁.stays _ _ hC,hN.keeps S₁.stays,.own (S₁.stays _ _ hC') (hN'.keeps S₁.stays) hi' .base,fun h' e hme=>?_⟩
 ·show rs.length<=qag;rw[ag.length R₁,l₁];exact aB hz (by decide)
 ·have e₂:au [] φ₁ s₁ φ₁ { s₁ with heap:=h' }:=au.of_keeps hme.keeps rfl;have w₂:E (.exc cn .none) loc H₁:=by
   have:bK cn vs=.none:=if_neg hb;rw[this] at w₁;exact w₁
  exact⟨φ₁,H₁,loc,_,hF.weak hX (e₁.trans e₂),S₁.keeps (s':={ s₁ with heap:=h' }) hme.keeps rfl,hF.mono (e₁.trans e₂),mv e₁ S₁ hg hb hme,w₂⟩
end
variable {args:List Expr}{e:Value}{q x:Str}
section
open PySem PyProof.Rows
set_option maxRecDepth 100000
theorem Ie {v : V} (F : aq c wz wu k loc φ s.heap) (S : ak c φ H s) (P : SlotPut wu wu x i) (hXL : wz.locals ∈ X) (hk : wz.kindOf x = some .local) (hi : loc.getD i none = some v) (hxi : wu.lookup x = some i) :
  wpAny (model c.prog c.w) A (deleteName wz x) (fun Z s' => bA c wz wu k (loc.set i none) φ H X s s') E s := by
 obtain ⟨m, ⟨hn, oL, hoL, hcL⟩, hsl, hjo⟩ := F.ns;have hx := hsl x i hxi;rw [hi] at hx;unfold iU at hx;rw [hk] at hx;have hsome : (m x).isSome = true := by
  cases hx with
  | yes _ r h1 _ => rw [h1]; rfl
 have hp : (wz.scope.kind == .class || (wz.scope.kind == .module && wz.locals != wz.globals)) = false := by rw [F.fn]; rfl
 unfold deleteName;simp only [hk, hp];rw [if_neg (by decide)];refine ai (kU (T := oL.cls) ⟨hn, oL, hoL, rfl⟩ fun h' m' hn' hsm hs' hdk => ?_);rw [hsome];simp only [Bool.not_true, gw, if_false];refine aC ?_;obtain ⟨hn', o', ho', hcls'⟩ := hn';have hnf : ∀ o vs, s.heap.get? wz.locals = some o -> o.data ≠ .fields vs := fun o vs ho hd => by
  obtain ⟨o1, es1, n1, h1, h2, _⟩ := hn;obtain rfl := ah (ho.symm.trans h1);rw [h2] at hd; injection hd
 have hdd : ∀ o es n, s.heap.get? wz.locals = some o -> o.data = .dict es n -> ∃ o' es' n', h'.get? wz.locals = some o' /\ o'.data = .dict es' n' /\ dz o o' := fun o es n ho Z => by
  obtain ⟨o1, es1, n1, h1, h2, _⟩ := hn';obtain rfl := ah (ho'.symm.trans h1);obtain rfl := ah (hoL.symm.trans ho);exact ⟨o', es1, n1, ho', h2, hdk _ _ hoL ho'⟩
 have hcL' : ∀ y ca, wz.cells.lookup y = some ca -> ca ≠ wz.locals := fun y ca hy q => by
  obtain ⟨_, _, o1, h1, h2⟩ := F.cells y ca hy;rw [q] at h1;obtain rfl := ah (hoL.symm.trans h1);rcases hcL with h | h
  ·rw [h2] at h; exact absurd h.1 (by decide)
  ·rw [h2] at h; exact absurd h.1 (by decide)
 have cs : ∀ z ca, wz.cells.lookup z = some ca -> ca ∉ [wz.locals] /\ bf c φ s.heap ca := fun z ca hz => ⟨fun q => hcL' z ca hz (aV.mp q), F.cells z ca hz⟩;refine CE (ov := none) (m := m') (t := s.toks) F S P hs' hdd hnf ⟨o', ho'⟩ (fun o ho => yG F ho) F.L0 F.Lφ hXL ⟨hn', o', ho', ?_⟩ ?_ (fun y j hy hj kp ow => ?_) (fun kk z hz kp ow => ?_) fun y ca hy => ?_
 ·rcases hcL with h | h
  ·exact .inl ⟨hcls'.trans h.1, h.2⟩
  ·refine .inr ⟨hcls'.trans h.1, ?_, h.2.2⟩;rcases P.na with hat | h2
   ·rw [hsm _ (cS hat)]; exact h.2.1
   ·rw [h.2.2] at h2; injection h2
 ·unfold iU;rw [hk];exact .no
 ·have hsy := (hsl y j hj).mono (s := s) (s' := { s with heap := h' }) kp ow cs;exact iA.imp hsy (fun Z h => by rw [hsm y hy]; exact h) id
 ·refine (hjo kk z hz) _ fun h3 fv h4 h5 => ?_;exact (fun Z kJ => kJ h3 fv (by rw [hsm _ (cS P.nj)]; exact h4) (h5.mono (s := s) (s' := { s with heap := h' }) kp ow fun ca o ho Z hlt q => absurd (aV.mp q) (cj hlt)))
 ·obtain ⟨h1, h2, o1, h3, h4, h5⟩ := F.cells y ca hy;exact ⟨h1, h2, o1, (hs'.2 ca (hcL' y ca hy)).trans h3, h4, h5⟩
def HI(F:aq c wz wu k loc φ s.heap)(S:ak c φ H s)(hX:aO aM wz X)(P:a0 aM wz wu wu x i)(hk:wz.kindOf x=some .local)(hxi:wu.lookup x=some i) :
  wpAny (model c.prog c.w) A (do bindName wz x .none;unbindBehindTheSuite wz x pos) (fun Z s'=>bA c wz wu k (loc.set i none) φ H X s s') E s:=by
 refine ai (wpAny_bindName (wm (qV F S P hX (rN (h:=s.heap))) ?_));rintro _ s₁ ⟨F₁,S₁,e₁,k₁⟩;unfold unbindBehindTheSuite;refine wpAny_onRaise ?_;unfold unbindName;refine ai (rH (ai (wm (Ie (X:=X) F₁ S₁ P.toSlotPut hX.loc hk (v:=.none) ?_ hxi) ?_)))
 ·exact FG (dg P.lt F.len)
 ·rintro _ s₂ ⟨F₂,S₂,e₂,k₂⟩;rw[List.set_set] at F₂;exact rH ⟨F₂,S₂,e₁.trans e₂,k₁.trans k₂⟩
def b9.obj{x:V}(R:b9 c φ s₀ h x e)(hk:kz x=true):∃cn y a o C,x=.exc cn y/\cn∈kids/\e=.ref a/\h.get? a=some o/\o.cls=.ref C/\c.g cn=some (.ref C):=by
 obtain⟨R,⟨cn,y,rfl⟩,_⟩:=R;obtain⟨a,o,vs,rfl,_,_,ho,⟨C,hC⟩,hg,_,_⟩:=R;exact⟨cn,y,a,o,C,rfl,of_decide_eq_true hk,rfl,ho,hC,by rw[hg,hC]⟩
theorem Jn(O:c.Ok)(XO:cx c)(hX:aO aM wz X)(hh:gE c wz wu X (h₀::hs) xh)(hkN:wz.kindOf (ao "NetError")=some .globalImplicit)(P:a0 aM wz wu wu n i)(hk:wz.kindOf n=some .local)(hxi:wu.lookup n=some i){Q:SPost}{E:SX}{x:V}(hA:bR c A true d φ s.heap)(hH:wI A wz)(hkx:kz x=true)(w₁:az (Calls c) false d k xh (fun f l'' H=>Q f (l''.set i none) H) (fun Z Z Z=>False) (l₁.set i (some x)) H₁)(R₃:b9 c φ₁ s s₃.heap x e)(ht₃:oi s₃.heap e)(e₃:au X φ s φ₁ s₃)(S₃:ak c φ₁ H₁ s₃)(F₃:aq c wz wu k l₁ φ₁ s₃.heap) :
  wpAny (model c.prog c.w) A (handleBy e wz [.ExceptHandler (some (.Name (ao "NetError") np)) (some n) (h₀::hs) hp]) (fQ c wz wu k φ s X Q) (bw c wz wu k φ s X E) s₃:=by
 obtain⟨outer,hfr⟩:=id hH;obtain⟨cn,y,a,o,C,rfl,hm,rfl,ho,hC,hg⟩:=R₃.obj hkx;obtain⟨NE,hNE,net,kid,inj,_⟩:=XO;obtain⟨C',ini,g',_,K',_⟩:=kid cn hm;rw[hg] at g';cases g';have K:bT s₃.heap C NE:=⟨⟨ini,K'.keeps S₃.stays⟩,net.keeps S₃.stays⟩;refine wpAny_handleBy_cons (codeAny_handlers_test (Calls.Name_function_global F₃.fn hkN (Calls.loadGlobal_global (by rw[F₃.gl];exact O.gl.keeps S₃.stays) hNE ?_))) (by intro q;cases q);refine qq K ho hC ?_;rw[if_pos rfl];refine codeAny_handlers_suite_as (wm (z9 R₃ ht₃) ?_);rintro _ s₄ ⟨xs,hx,hn,n₄,R₄,_⟩;have e₄:=e₃.noted n₄ hn;have S₄:=S₃.noted n₄ hx;have F₄:=F₃.noted n₄ hx;obtain⟨R₄,_⟩:=R₄;refine wm (qV F₄ S₄ P hX R₄) ?_;rintro _ s₅ ⟨F₅,S₅,e₅,_⟩;have e₀₅:=e₄.trans e₅;have hA₅:=hA.monoX e₀₅;have hA':bR c (A.mark (some (.ref a))) false d φ₁ s₅.heap:=⟨⟨hA₅.dep,hA₅.un,(fun h=>nomatch h),hA₅.fr⟩,hA₅.ne⟩;refine a8 (hh (A.mark (some (.ref a))) false d k _ φ₁ H₁ s₅ _ _ hA' ⟨outer,hfr⟩ F₅ S₅ w₁) ?_ fun Z Z h=>bw.no h;rintro f s₆ ⟨φ₆,H₆,l₆,e₆,S₆,F₆,w₆⟩;refine wm (HI F₆ S₆ hX P hk hxi) ?_;rintro _ s₇ ⟨F₇,S₇,e₇,_⟩;refine⟨φ₆,H₆,_,(e₀₅.trans e₆).trans e₇,S₇,F₇,?_⟩;cases f with
 |next=>exact w₆
 |ret r=>refine w₆ _ fun v Rv w=>?_;clear w₆;exact(fun Z kJ=>kJ v (ar.mono e₇.toKp (F₆.ownX hX) Rv) w)
 |_=>exact w₆.elim
theorem HL(O:c.Ok)(XO:cx c)(hX:aO aM wz X)(hb:gE c wz wu X b xb)(hh:gE c wz wu X (h₀::hs) xh) (hkN:wz.kindOf (ao "NetError")=some .globalImplicit) (P:a0 aM wz wu wu n i) (hk:wz.kindOf n=some .local) (hxi:wu.lookup n=some i) :
  eN c wz wu X (.Try b [.ExceptHandler (some (.Name (ao "NetError") np)) (some n) (h₀::hs) hp] [] [] pos) (.tri xb i xh):=fun A q d k loc φ H s Q E hA hH hF hS hw=>by
 obtain⟨rfl,hw⟩:=hw;refine wpAny_Try_except (a8 (hb A true d k loc φ H s _ _ hA hH hF hS hw) ?_ ?_)
 ·rintro f s₁ ⟨φ₁,H₁,l₁,e₁,S₁,F₁,w₁⟩;cases f with
  |next=>exact wpAny_execs_nil ⟨φ₁,H₁,l₁,e₁,S₁,F₁,w₁⟩
  |ret r=>exact⟨φ₁,H₁,l₁,e₁,S₁,F₁,w₁⟩
  |_=>exact w₁.elim
 ·rintro e s₁ ⟨φ₁,H₁,l₁,x,e₁,S₁,F₁,R₁,hkx,w₁⟩;obtain⟨outer,hfr⟩:=id hH;have hE:∀e∈wz::outer,bt c φ₁ s₁.heap e:=by
   obtain⟨l',h1,h2⟩:=(hA.monoX e₁).fr;replace h1:=ah (hfr.symm.trans h1);subst h1;exact h2
  refine wm (CJ hfr hE S₁ e₁ R₁) ?_;rintro _ s₂ ⟨xs,hx,hn,n₂,R₂,ht⟩;have e₂:=e₁.noted n₂ hn;have S₂:=S₁.noted n₂ hx;have F₂:=F₁.noted n₂ hx;clear hx hn n₂ S₁ F₁ R₁ e₁ hE;refine wm (z9 R₂ ht) ?_;rintro _ s₃ ⟨xs,hx,hn,n₃,R₃,ht₃⟩;have e₃:=e₂.noted n₃ hn;have S₃:=S₂.noted n₃ hx;have F₃:=F₂.noted n₃ hx;clear hx hn n₃ S₂ F₂ R₂ e₂ ht;exact Jn O XO hX hh hkN P hk hxi hA ⟨outer,hfr⟩ hkx w₁ R₃ ht₃ e₃ S₃ F₃
end
variable {d:Drawn}{e:Addr}{i:Expr}{k:Nat}{x:Sem Value}
section
open PySem PyProof.Rows
set_option maxRecDepth 100000
section
variable {nm:Str}{sub:List Value}
theorem G6(F:ExcBaseFacts B newId initId bmB)(T:OwnTail h bmB bm){Q:Fin->Shared->Prop} (hC:h.get? C=some (qY nm q C N bs bm hdct sn sub ab col dd k0 k1 k2 k3 k5 newId)) (hn:h.Ns N mN) (hi:mN "__init__"=some (.ref fI)) (hfI:h.get? fI=some oI) (hfc:oI.cls=.type "function") (hq:∀h' e,Heap.MadeExcOf h h' e (.ref C) rest->wpAny (model prog w) A (call (.ref fI) (.ref e::rest)) (fun r s'=>r=.none/\Q (.done (.ret (.ref e))) s') E ⟨h',g,d,t,os⟩) (hrest:rest.length<=qag) :
  wpAny (model prog w) A (Builtin.«type.__call__» ⟨.ref C::rest,[]⟩) Q E ⟨h,g,d,t,os⟩:=by
 repeat(first |with_reducible refine dK hC ?_ |with_reducible refine wpAny_madeBy_exc hC ?_ |wp_step)
 refine codeAny_call_builtin_code (Code.quiet_builtin _ F.quiet) (wpAny_check_new_subT F T hC ?_);refine codeAny_exc_new_subT F T hC ?_ hrest;show wpAny _ _ _ _ _ _;have hC₁:=bV { cls:=.ref C,data:=.fields #[.ref h.objs.size,.none,.none,.none,.bool false,.none] }
  (bV { cls:=.type "tuple",data:=.seq rest.toArray } hC)
 have hfI₁:=bV { cls:=.ref C,data:=.fields #[.ref h.objs.size,.none,.none,.none,.bool false,.none] }
  (bV { cls:=.type "tuple",data:=.seq rest.toArray } hfI)
 have keep:∀b o,h.get? b=some o->((h.push { cls:=.type "tuple",data:=.seq rest.toArray }).push { cls:=.ref C,data:=.fields #[.ref h.objs.size,.none,.none,.none,.bool false,.none] }).get? b=some o:=
  fun b o e=>bV _ (bV _ e)
 have hn₁:=hn.keeps keep;have hget:((h.push { cls:=.type "tuple",data:=.seq rest.toArray }).push
   { cls:=.ref C,data:=.fields #[.ref h.objs.size,.none,.none,.none,.bool false,.none] }).get? (h.objs.size+1)=some
   { cls:=.ref C,data:=.fields #[.ref h.objs.size,.none,.none,.none,.bool false,.none] }:=by heap_get
 have hcC:(cF C::bm).contains (.ref C)=true:=by simp
 have T₁:=T.keeps keep
 unfold isInstance
 repeat(first |with_reducible refine dK hget ?_ |(with_reducible refine Ah hC₁ ?_;rw[hcC]) |wp_step)
 show wpAny _ _ (o7 (.ref C) _) _ _ _
 refine wpAny_typeLookup_tail hC₁ hn₁ T₁ F.mroIs F.init.lookup ?_
 rw[hi]
 refine de (ai ?_)
 unfold bindSpecial
 refine ai (wpAny_typeOf (T:="function") ⟨_,hfI₁,hfc⟩ ?_)
 rw[if_pos (by decide)]
 refine aC (ai (a8 (hq _ (h.objs.size+1) ⟨keep,fz (Nat.le_succ _),h.objs.size,hget,fz (aN _),?_⟩) (fun r s' hr=>?_) fun Z Z x=>x))
 ·exact bV _ (Heap.get?_push_at rfl rfl)
 ·obtain⟨rfl,hQ⟩:=hr
  wp_walk
  exact hQ
def Ht(F:ExcBaseFacts B newId initId bmB)(T:OwnTail h bmB bm)
  (hC:h.get? C=some (qY nm q C N bs bm hdct sn sub ab col dd k0 k1 k2 k3 k5 newId)) (hn:h.Ns N mN) (hi:mN "__init__"=some (.ref fI)) (hfI:h.get? fI=some oI) (hfc:oI.cls=.type "function")
  (hq:∀h' e,Heap.MadeExcOf h h' e (.ref C) rest->wpAny (model prog w) (A.under (.builtin "type.__call__" ⟨.ref C::rest,[]⟩)) (call (.ref fI) (.ref e::rest)) (fun r s'=>r=.none/\Q (.ref e) s') E ⟨h',g,d,t,os⟩) (hrest:rest.length<=qag) :
  wpAny (model prog w) A (call (.ref C) rest) Q E ⟨h,g,d,t,os⟩:=by
 have f1:=tc_lookup
 have f2:=tc_bind (.ref C)
 have hT:(⟨h,g,d,t,os⟩:Shared).TypeIs (.ref C) "type":=⟨_,hC,rfl⟩
 refine wpAny_call (codeAny_of_tree ?_)
 show wpAny _ _ (callAny (.ref C) _) _ _ _
 repeat(any_goals(first |assumption |with_reducible refine dK hC ?_ |wp_step))
 refine⟨rfl,?_⟩
 refine codeAny_call_builtin_at (Code.quiet_builtin _ (by decide +kernel)) entry_typeCall (wpAny_check_type_call_sub hC (G6 F T hC hn hi hfI hfc (fun h' e hm=>?_) hrest))
 exact hq h' e hm
def GC{Q:Flow->Shared->Prop}(hbase:bm.contains (.type "BaseException")=true)(hh:A.handled=none) (h:wpAny M A x (fun v s₁=>∃e oe,v=.ref e/\s₁.heap.get? C=some (qY nm q C N bs bm hdct sn sub ab col dd k0 k1 k2 k3 k5 newId)/\s₁.heap.get? e=some oe/\oe.cls=.ref C/\(∃t,oe.data=.fields #[.ref t,.none,.none,.none,.bool false,.none])/\E (.ref e) s₁) E s) :
  wpAny M A (raiseStmt wz (some x) none) Q E s:=by
 have hcB:(cF C::bm).contains (.type "BaseException")=true:=by rw[List.contains_cons,hbase,Bool.or_true]
 unfold raiseStmt;refine ai (a8 h (fun v s₁ h₁=>?_) fun Z Z x=>x);obtain⟨e,⟨oc,od,odt,osl⟩,rfl,hC,he,hc,⟨vs,hd⟩,hE⟩:=h₁;obtain rfl:oc=_:=hc;obtain rfl:odt=_:=hd;obtain⟨hp,g,d,tk,os⟩:=s₁;repeat(first |with_reducible refine dK he ?_ |with_reducible refine dK hC ?_ |(with_reducible refine Ah hC ?_;rw[hcB]) |wp_step)
 exact wpAny_raiseNew_none hh hE
end
end
variable {x:Str}
section
open PySem PySem.W PySem.Calls PyProof.Rows Builtin Builtin.ObjectAttr Builtin.Getset_descriptor
set_option maxRecDepth 100000
def u0:findIn [] (.type "type") "__init__"=some (some (.builtin "type.__init__")):=by kernel_rfl
def wU:specialIn [] (.builtin "type.__init__") "__get__"=some (some (.builtin "wrapper_descriptor.__get__")):=by kernel_rfl
def wa:specialIn [] (.builtin "type.__init__") "__set__"=some none:=by kernel_rfl
def yI:specialIn [] (.builtin "type.__init__") "__delete__"=some none:=by kernel_rfl
def C0:typeIn [] (.builtin "ValueError.__init__")=some (.type "wrapper_descriptor"):=by kernel_rfl
def zk:heldUnderItsOwnName "__init__" (.builtin "ValueError.__init__")=false:=by decide +kernel
def sV:handedIn (.builtin "ValueError.__init__")=true:=by decide +kernel
def wR:findIn [] (.type "type") "__getattribute__"=some (some (.builtin "type.__getattribute__")):=by kernel_rfl
def we:subIn [] (.type "type") (.type "type")=some true:=by kernel_rfl
def ql:Frag.In [] h:=fun Z Z e=>nomatch e
def sT {Q:Fin->Shared->Prop} (ho:Looks (model prog w) s.heap (xc (.ref NE)) none) (ht:Looks (model prog w) s.heap (typeOf (.ref NE)) (.type "type")) (hl:Looks (model prog w) s.heap (o7 (.ref NE) "__init__") (some (.builtin "ValueError.__init__"))) (h:Q (.done (.ret (.builtin "ValueError.__init__"))) s):wpAny (model prog w) A (Builtin.«type.__getattribute__» ⟨[.ref NE,.str "__init__" tk],[]⟩) Q E s:=by
 obtain⟨hh,g,d,t,os⟩:=s;dsimp only at ho ht hl;unfold Builtin.«type.__getattribute__»;refine ai (aC (ai (ho.at (ai (ht.at (ai ((looks_findIn ql u0).at ?_)))))));refine ai ((looks_specialIn ql wU).at ?_);refine ai ((looks_specialIn ql wa).at (ai ((looks_specialIn ql yI).at (ai (aC ?_)))));refine ai (hl.at ?_);dsimp only;rw[if_neg (by rw[zk];decide)];refine ai ((looks_typeIn ql C0).at ?_);rw[if_pos (by decide +kernel)];exact aC h
def pM(ho:Looks (model prog w) s.heap (xc (.ref NE)) none)(ht:Looks (model prog w) s.heap (typeOf (.ref NE)) (.type "type")) (hl:Looks (model prog w) s.heap (o7 (.ref NE) "__init__") (some (.builtin "ValueError.__init__"))) (h:Q (.builtin "ValueError.__init__") { s with toks:=s.toks+1 }):wpAny (model prog w) A (getAttr (.ref NE) "__init__" expr) Q E s:=by
 refine ai (wpAny_mkText (de (ai (ht _ _ _ _ (fun Z Z e=>e) (ai (looks_findIn ql wR _ _ _ _ (fun Z Z e=>e) ?_))))));dsimp only;rw[if_neg (by decide +kernel)];refine ai (looks_hook (K:=[]) ql (mc:=.type "type") (r:=none) (by kernel_rfl) _ _ _ _ (fun Z Z e=>e) (ai (wpAny_attempt (de ?_))));unfold callGetattribute;rw[show(expr&&onTheHeap (iN "type.__getattribute__"))=false from Bool.and_false _,if_neg (by decide)];unfold boundAndCalled;rw[KF.slot_tga.bind];refine ai (aC ?_);show wpAny _ _ (call (.builtin "type.__getattribute__") [.ref NE,.str "__init__" s.toks]) _ _ _;refine wpAny_call ?_;refine vJ KF.slot_tga.plain KF.entry_tga ?_;refine @check_slot (model prog w) _ _ { s with toks:=s.toks+1 } "type.__getattribute__" "type" "__getattribute__" (.ref NE) [.str "__init__" s.toks] [] _ (by decide +kernel) (by decide +kernel) (ht.andThen (looks_subIn ql we)) (KF.args_tga (.ref NE) (.str "__init__" s.toks)) ?_;refine sT (s:={ s with toks:=s.toks+1 }) ho ht hl ?_;show wpAny _ _ (handedOut _) _ _ _;rw[handedOut_of sV];exact aC h
end
section
open PySem PySem.W PySem.Calls PyProof.Rows Builtin Builtin.ObjectAttr Builtin.Getset_descriptor
set_option maxRecDepth 100000
section
variable {nm:Str}{sub:List Value}
def Iv(F:ExcBaseFacts B newId initId bmB)(T:OwnTail h bmB bm) (hC:h.get? C=some (qY nm q C N bs bm hdct sn sub ab col dd k0 k1 k2 k3 k5 newId)) (he:h.get? e=some { cls:=.ref C,data:=.fields #[.ref t0,.none,.none,.none,.bool false,.none] }) (hq:∀h',(∀b o,b≠e->h.get? b=some o->h'.get? b=some o)->h'.get? e=some { cls:=.ref C,data:=.fields #[.ref h.objs.size,.none,.none,.none,.bool false,.none] }->h'.objs.size=h.objs.size+1->Q .none ⟨h',g,d,t,os⟩) (hrest:rest.length<=qag) :
  wpAny (model prog w) A (call (.builtin initId) (.ref e::rest)) Q E ⟨h,g,d,t,os⟩:=by
 refine wpAny_call (vJ F.init.plain F.initEntry (wpAny_check_init_subT F T hC he rfl ?_));wp_walk
 refine hq _ (fun b o hne hb=>?_) ?_ ?_
 ·rw[rq _ _ (cS hne)]
  exact bV _ hb
 ·rw[gc _ (bV _ he) rfl]
  rfl
 ·rw[Heap.size_update,qG]
end
end
section
open PySem PySem.W PySem.Calls PyProof.Rows Builtin Builtin.ObjectAttr Builtin.Getset_descriptor
set_option maxRecDepth 100000
def Ej:o7 (.type "ValueError") "at"=pure none:=by rw[vO,vV];kernel_rfl
section
variable {x:Addr}{v:Value}
def bT.mro{Q:List Value->Shared->Prop}(K:bT h C NE)(hq:Q (.ref C::.ref NE::cu) ⟨h,g,d,t,os⟩):wpAny M A (mroOf (.ref C)) Q E ⟨h,g,d,t,os⟩:=by
 obtain⟨⟨ini,nm,q,N,bs,sn,sub,ab,col,dd,k0,k1,k2,k3,k5,mN,hC,_⟩,_⟩:=K;exact wpAny_mroOf_exc hC hq
def lz(C NE:Addr)(self:Value):refuseLoop self "__setattr__" (.ref C::.ref NE::cu)=pure ():=by
 rw[refuseLoop_ref,refuseLoop_ref];exact PySem.F.store_ValueError.passes self
theorem bT.check{Q:Unit->Shared->Prop}(K:bT h C NE)(hx:h.get? x=some o)(hc:o.cls=.ref C)(hq:Q () ⟨h,g,d,t,os⟩) :
  wpAny M A (xr "object.__setattr__" ⟨[.ref x,nameV,v],[]⟩) Q E ⟨h,g,d,t,os⟩:=by
 have SF:=PySem.F.store_ValueError;have hcB:(cF C::.ref NE::cu).contains (.type "object")=true:=rfl;have ha:=SF.args (.ref x) nameV v;simp only[xr,SF.kind,SF.split];refine ai ?_
 ·unfold isInstance;repeat(first |(with_reducible refine dK hx ?_;rw[hc]) |(with_reducible refine K.sub ?_;rw[hcB]) |wp_step)
  exact hq
theorem I4(ho:s.heap.get? a=some o)(hd:o.data=.dict #[] 0){Q:Unit->Shared->Prop} (hQ:∀h' od es n,h'.get? a=some od->od.cls=o.cls->od.data=.dict es n->es.size=1->nsFind es name=some v->iy a s.heap h'->Q () { s with heap:=h',toks:=s.toks+1 }):wpAny M A (nsSet a name v) Q E s:=fun Γ p Z=>by
 simp only[nsSet,strHash,Sem.wp_bind',Sem.wp_cmd_ask,Sem.wp_pure',Sem.wp_cmd_mkText];rw[Sem.wp_loadPart_of M Γ _ p { s with toks:=s.toks+1 } (o:=o) _ ho];have hany:(#[]:Array iJ).any (·.refKey)=false:=by simp
 simp only[hd,aRefKeyMayBeTheName_eq,aRefKeyMayBeTheNameByArray,hany,Bool.and_false,gw,if_false,Sem.wp_cmd_updatePart];obtain⟨c,dc,dt,sl⟩:=o;subst hd;have hi:(#[]:Array iJ).findIdx? (·.key.isStr name)=none:=by simp
 refine⟨by rw[ho];rfl,hQ _ _ _ _ (gc _ ho (by simp only[jE,mR,hi];rfl)) (by simp only[jE,mR,hi]) (by simp only[jE,mR,hi];rfl) ?_ ?_ (qo ..)⟩
 ·rfl
 ·exact(findBy_push (fun n v=>v.isStr n) #[] name name _ _ v (fun y=>by
    show(name==y)=decide (y=name);by_cases h:y=name
    ·subst h;simp
    ·have:¬name=y:=fun e=>h e.symm;simp[h,this]) hi).trans (if_pos rfl)
structure rn(h h':Heap)(x:Addr)(o:Obj)(v:Value):Prop where
 keep:∀b ob,b≠x->h.get? b=some ob->h'.get? b=some ob
 here:h'.get? x=some { cls:=o.cls,dict:=some h.objs.size,data:=o.data,slots:=o.slots }
 dct:∃od es n,h'.get? h.objs.size=some od/\od.cls=.type "dict"/\od.data=.dict es n/\nsFind es (ao "at")=some v
theorem jB{Q:Fin->Shared->Prop}(K:bT h C NE)(hx:h.get? x=some o)(hc:o.cls=.ref C)(hd:o.data=.fields vs)(hdn:o.dict=none) (hq:∀h' tk',rn h h' x o v->Q (.done (.ret .none)) ⟨h',g,d,tk',os⟩) :
  wpAny (model prog w) A (Builtin.«object.__setattr__» ⟨[.ref x,.str "at" tk,v],[]⟩) Q E ⟨h,g,d,t,os⟩:=by
 have hpass:=lz C NE (.ref x);have hm:("at":Str)∈zd0:=.tail _ (.tail _ (.tail _ (.head _)));unfold Builtin.«object.__setattr__»;repeat(first |rw[refuse_eq] at⊢| rw[hpass] at⊢| (with_reducible refine dK hx ?_;rw[hc] at ⊢) |with_reducible refine K.mro ?_ |with_reducible refine K.lookup hm Ej ?_ |wp_step)
 obtain⟨⟨ini,nm,q,N,bs,sn,sub,ab,col,dd,k0,k1,k2,k3,k5,mN,hC,_⟩,_⟩:=id K;repeat(first |with_reducible refine dK hC ?_ |wp_step)
 rw[hdn,hd] at ⊢;dsimp only;rw[if_neg (by simp[typeHasDict])] at ⊢;have hx₁:(h.push { cls:=.type "dict",data:=.dict #[] }).get? x=some o:=bV _ hx;have hxs:x≠h.objs.size:=cj (f9 hx);refine ai (wpAny_alloc' ?_);refine ai (wpAny_update' hx₁ ?_);refine aC ?_;generalize hg1:((h.push { cls:=.type "dict",data:=.dict #[] }).update x fun o=>{ cls:=o.cls,dict:=some h.objs.size,data:=o.data,slots:=o.slots })=h₁;have hgd:h₁.get? h.objs.size=some { cls:=.type "dict",data:=.dict #[] }:=by rw[<- hg1] at ⊢;exact(xF _ _ _ _ hxs.symm).trans (Heap.get?_push_at rfl rfl)
 have hgx:h₁.get? x=some { cls:=o.cls,dict:=some h.objs.size,data:=o.data,slots:=o.slots }:=by
  rw[<- hg1] at ⊢;refine gc _ hx₁ ?_;obtain⟨oc,od,odt,osl⟩:=o;obtain rfl:odt=_:=hd;rfl
 have hgb:∀b ob,b≠x->h.get? b=some ob->h₁.get? b=some ob:=fun b ob hbx hb=>by rw[<- hg1] at ⊢;exact(xF _ _ _ _ hbx).trans (bV _ hb)
 have hnd:h₁.Ns h.objs.size (fun Z=>none):=⟨_,#[],_,hgd,rfl,fun e he=>absurd he (by simp),fun Z=>rfl⟩;show wpAny _ _ (storeInDict h.objs.size (.str "at" tk) "at" v) _ _ _;unfold storeInDict newKeyGuard;refine ai (aC (ai (I4 hgd rfl fun h' od es n q1 q2 q3 q4 q5 hs=>?_)));refine ai (wpAny_lookBehind q1 (by rw[q3] at ⊢;exact pastItsLine_dict (by rw[q4,sizeLine_eq] at ⊢;decide)) ?_);wp_walk
 exact hq h' _ ⟨fun b ob hbx hb=>(hs.2 b (cj (f9 hb))).trans (hgb b ob hbx hb),(hs.2 x hxs).trans hgx,od,es,n,q1,q2,q3,q5⟩
def r3{Q:Unit->Shared->Prop}(K:bT h C NE)(hx:h.get? x=some o)(hc:o.cls=.ref C)(hd:o.data=.fields vs)(hdn:o.dict=none)
  (hq:∀h' tk',rn h h' x o v->Q () ⟨h',g,d,tk',os⟩):wpAny (model prog w) A (setAttr (.ref x) "at" v) Q E ⟨h,g,d,t,os⟩:=by
 have SF:=PySem.F.store_ValueError
 have f3:=SF.slot.bind (.ref x)
 have hm:("__setattr__":Str)∈zd0:=.tail _ (.tail _ (.tail _ (.tail _ (.head _))))
 unfold setAttr callSpecial? specialOf
 repeat(any_goals(first |assumption |(with_reducible refine dK hx ?_;rw[hc]) |with_reducible refine K.lookup hm SF.slot.lookup ?_ |wp_step))
 refine vJ SF.slot.plain SF.entry (K.check hx hc (jB K hx hc hd hdn fun h' tk' I=>?_))
 repeat(any_goals(first |assumption |wp_step))
 exact hq h' tk' I
end
end
section
open PySem PySem.W PySem.Calls PyProof.Rows Builtin Builtin.ObjectAttr Builtin.Getset_descriptor
set_option maxRecDepth 100000
def IM:o7 (.type "ValueError") "__init__"=pure (some (.builtin "ValueError.__init__")):=by rw[vO,vV];kernel_rfl
theorem aR.type (K:aR h NE bm ini):Looks M h (typeOf (.ref NE)) (.type "type"):=by
 obtain⟨nm,q,N,bs,sn,sub,ab,col,dd,k0,k1,k2,k3,k5,mN,hC,_⟩:=K;exact(Looks.ld hC).andThen .now
def aR.init(K:aR h NE cu none):Looks M h (o7 (.ref NE) "__init__") (some (.builtin "ValueError.__init__")):=by
 obtain⟨nm,q,N,bs,sn,sub,ab,col,dd,k0,k1,k2,k3,k5,mN,hC,hN,hq,hi⟩:=K;intro A Q E s k hQ;have hrest:lookupAlong cu "__init__"=pure (some (.builtin "ValueError.__init__")):=by have hB:=IM;rw[typeLookup_eq,PySem.F.excBase_ValueError.mroIs] at hB;exact hB
 obtain⟨hp,g,d,t,os⟩:=s;rw[typeLookup_eq];refine ai (wpAny_mroOf_exc (k _ _ hC) ?_);rw[lookupAlong_cons];refine ai (wpAny_classOwn_exc (k _ _ hC) (hN.keeps k) ?_);rw[hi];show wpAny _ _ (lookupAlong cu "__init__") _ _ _;rw[hrest];exact aC hQ
theorem Gz(hb:attributeBase (.Name n p1) "__init__" wz (eval (.Name n p1) wz)=eval (.Name n p1) wz) (hform:methodCallForm (args.length+([]:List Keyword).length) (backTo pos (eL args wz)) (backToKw pos (keywordEach [] wz))=true) (hl:(apos.endLine==pos.line)=true) (h:wpAny (model prog w) A (eval (.Name n p1) wz) (fun ov s₁=>ov=.ref NE/\Looks (model prog w) s₁.heap (xc (.ref NE)) none/\aR s₁.heap NE cu none /\
   wpAny (model prog w) A (callWith pos (.builtin "ValueError.__init__") [] (backTo pos (eL args wz)) []) Q E { s₁ with toks:=s₁.toks+1 }) E s) :
  wpAny (model prog w) A (eval (.Call (.Attribute (.Name n p1) "__init__" apos) args [] pos) wz) Q E s:=by
 rw[arm_eval_Call,hb];refine ai (a8 h (fun ov s₁ h₁=>?_) fun Z Z e=>e);obtain⟨rfl,ho,K,hc⟩:=h₁;refine ai (i5 ?_);have hpos:methodCallPos true (.Name n p1) wz apos pos=pure pos:=by unfold methodCallPos;simp[hl]
 unfold methodCall;rw[hform];refine ai (de ?_);show wpAny (model prog w) A (getMethod (.ref NE) "__init__" _) _ _ _;unfold getMethod;refine ai ((K.type.andThen (looks_findIn ql wR)).here ?_);dsimp only;rw[if_pos canon_tga];refine ai (pM ho K.type K.init (aC ?_));exact ai (mX hpos hc)
end
variable {n:Nat}
section
open PySem PySem.W PySem.Calls PyProof.Rows Builtin Builtin.ObjectAttr Builtin.Getset_descriptor
set_option maxRecDepth 100000
structure fG(h h':Heap)(e C:Addr)(v:Value):Prop where
 keep:∀b ob,b≠e->h.get? b=some ob->h'.get? b=some ob
 here:∃t dc,h'.get? e=some { cls:=.ref C,dict:=some dc,data:=.fields #[.ref t,.none,.none,.none,.bool false,.none] }/\h.get? dc=none/\∃od es n,h'.get? dc=some od/\od.cls=.type "dict"/\od.data=.dict es n/\nsFind es (ao "at")=some v
section
variable {p2 p3 p4 p5 p6 p7 p8:Pos}{v:Value}{Q:Flow->Shared->Prop}
def Kg(hf:wz.scope.kind=.function)(hg:h0.Ns wz.globals mg)(hNE:mg "NetError"=some (.ref NE))(kN:wz.kindOf "NetError"=some .globalImplicit)(kS:wz.kindOf "self"=some .local)(kA:wz.kindOf "at"=some .local) (hL:s.heap.Ns wz.locals m) (hLe:wz.locals≠e) (mS:m "self"=some (.ref e)) (mA:m "at"=some v) (K:bT h0 C NE) (ho:Looks (model prog w) h0 (xc (.ref NE)) none) (h0k:∀b o,h0.get? b=some o->s.heap.get? b=some o) (he0:h0.get? e=none) (he:s.heap.get? e=some { cls:=.ref C,data:=.fields #[.ref t0,.none,.none,.none,.bool false,.none] }) (hl:(apos.endLine==pos.line)=true) (hi:interactive wz=false) (hq:∀h' tk,fG s.heap h' e C v->Q .next { s with heap:=h',toks:=tk }) :
  wpAny (model prog w) A (execs (AY p1 apos p2 p3 pos p4 p5 p6 p7 p8 k) wz) Q E s:=by
 refine wpAny_execs_cons (wpAny_Expr_any ?_ hi rfl);obtain⟨h,g,d,t,os⟩:=s;dsimp only at hL h0k he hq;have K₀:=K.keeps h0k;refine Gz (NE:=NE) (Bm rfl) rfl hl (Name_function_global hf kN (loadGlobal_global (hg.keeps h0k) hNE ⟨rfl,fun A Q E s k hQ=>ho A Q E s (fun b o q=>k b o (h0k b o q)) hQ,K₀.net,?_⟩));refine vn (by intro a h;injection h) rfl (Calls.evalArgs_plain (Calls.spliced_cons (wpAny_Name (xE hf kS hL mS (Calls.spliced_cons (wpAny_mkText (Calls.spliced_nil ?_)))) rfl)));obtain⟨ini,nm,q,N,bs,sn,sub,ab,col,dd,k0,k1,k2,k3,k5,mN,hC,_⟩:=K₀.own;obtain⟨nm',q',N',bs',sn',sub',ab',col',dd',k0',k1',k2',k3',k5',mN',hC',hN',hq',hi'⟩:=K₀.net;refine Iv (rest:=[_]) PySem.F.excBase_ValueError (.own hC' hN' hi' .base) hC he (fun h₁ e1 e2 e3=>?_) (show 1<=qag by decide);have hL₁:h₁.Ns wz.locals m:=let⟨o,es,ep,q1,q2⟩:=hL;⟨o,es,ep,e1 _ _ hLe q1,q2⟩
 have h0k₁:∀b o,h0.get? b=some o->h₁.get? b=some o:=fun b o q=>e1 b o (fun q'=>by rw[q',he0] at q;injection q) (h0k b o q);refine wpAny_execs_cons (plainObj_wpAny_Assign_Attribute (wpAny_Name (xE hf kA hL₁ mA (wpAny_Name (xE hf kS hL₁ mS (r3 (K.keeps h0k₁) e2 rfl rfl rfl fun h' tk' I=>?_)) rfl)) rfl) rfl);refine wpAny_execs_nil (hq h' tk' ⟨fun b ob hne hb=>I.keep b ob hne (e1 b ob hne hb),_,_,I.here,?_,I.dct⟩);rw[e3];exact fz (Nat.le_succ _)
end
end
section
open PySem PySem.W PySem.Calls PyProof.Rows
set_option maxRecDepth 100000
structure fb(h:Heap)(fI:Addr)(oI:Obj)(fd:qbe):Prop where
 ho:h.get? fI=some oI
 cls:oI.cls=.type "function"
 hd:oI.data=.func fd
 code:h.CodeRec fd.code fd.qualname
 body:∃p1 apos p2 p3 pos p4 p5 p6 p7 p8 k,fd.body=.stmts (AY p1 apos p2 p3 pos p4 p5 p6 p7 p8 k)/\(apos.endLine==pos.line)=true
 clo:fd.closure=[]
 gl:fd.globals=c8
 bl:fd.builtins=nr
 kind:fd.scope.kind=.function
 co:fd.scope.isCoroutine=false
 gen:fd.scope.isGenerator=false
 names:fd.scope.names=z8
 bind:∀a b:Value,bindArgs fd ⟨[a,b],[]⟩=pure [(ao "self",a),(ao "at",b)]
section
variable {v:Value}
def GG(hs:∃mc,h.Ns cStatics mc/\mc "thirdparty.any"=none):Looks M h (xc (.ref NE)) none:=by
 obtain⟨mc,h1,h2⟩:=hs;have L:Looks M h (nsGet cStatics "thirdparty.any") none:=fun A Q E s k q=>wpAny_nsGet (h1.keeps k) (by rw[h2];exact q);exact Looks.andThen (a:=false) (L.andThen .now) (by show Looks M h (if(!false)=true then pure none else _) none;rw[if_pos (show(!false)=true from rfl)];exact .now)
theorem Ih(O:c.Ok)(I:fb c.h0 fI oI fd)(hst:∃mc,c.h0.Ns cStatics mc/\mc "thirdparty.any"=none)(hdep:A.depth<1000)(hNE:c.g "NetError"=some (.ref NE))(K:bT c.h0 C NE)(h0k:∀b o,c.h0.get? b=some o->s.heap.get? b=some o)(he0:c.h0.get? e=none) (he:s.heap.get? e=some { cls:=.ref C,data:=.fields #[.ref t0,.none,.none,.none,.bool false,.none] }) (hq:∀h' tk,fG s.heap h' e C v->Q .none { s with heap:=h',toks:=tk }) :
  wpAny (model c.prog c.w) A (call (.ref fI) [.ref e,v]) Q E s:=by
 refine wpAny_call ?_;obtain⟨p1,apos,p2,p3,pos,p4,p5,p6,p7,p8,k,hb,hl⟩:=I.body;refine codeAny_call_function hdep (h0k _ _ I.ho) I.hd I.co I.gen hb (I.code.keeps h0k) ?_;rw[I.bind,I.clo];refine aC ?_;simp only[qN,Option.isSome_none,gw,if_false];refine ai (wpAny_alloc ?_);refine ai (wpAny_layCells _ (fun name kind cells=>by cases hkc:kind==qaj<;>simp[hkc]) _ _ _ _ ?_);rw[I.names];generalize hE:({ scope:=fd.scope,locals:=s.heap.objs.size,globals:=fd.globals,cells:=dD ({ s with heap:=s.heap.push { cls:=.type "frame",data:=.dict #[] } }:Shared).heap.objs.size z8 [],qual:=fd.qualname++ao ".<locals>.",func:=some fI,code:=fd.code,frame:=some s.heap.objs.size,builtins:=fd.builtins }:Env)=wz;show wpAny _ _ _ _ _ { s with heap:=s.heap.push { cls:=.type "frame",data:=.dict #[] } };generalize hh₁:s.heap.push { cls:=.type "frame",data:=.dict #[] }=h₁;have hf:wz.scope.kind=.function:=by rw[<- hE];exact I.kind
 have hL:wz.locals=s.heap.objs.size:=by rw[<- hE]
 have kk:∀x,wz.kindOf x=z8.lookup x:=fun x=>by rw[<- hE,<-I.names];rfl
 have kS:wz.kindOf "self"=some .local:=(kk _).trans (by decide +kernel);have kA:wz.kindOf "at"=some .local:=(kk _).trans (by decide +kernel);have kN:wz.kindOf "NetError"=some .globalImplicit:=(kk _).trans (by decide +kernel);have hfr:h₁.get? wz.locals=some { cls:=.type "frame",data:=.dict #[] }:=by rw[hL,<-hh₁];exact dw _ rfl
 have hn₁:h₁.Ns wz.locals (fun Z=>none):=⟨_,#[],_,hfr,rfl,fun e he=>absurd he (by simp),fun Z=>rfl⟩;have k1:∀b o,s.heap.get? b=some o->h₁.get? b=some o:=fun b o q=>by rw[<- hh₁];exact bV _ q
 have nl:∀b o,s.heap.get? b=some o->b≠wz.locals:=fun b o q=>by rw[hL];exact cj (f9 q)
 rw[List.forIn_cons];refine ai (ai (ai (zv kS hf hn₁ hfr fun h₂ n2 b2 o2=>aC ?_)));obtain⟨o2,g2,c2⟩:=o2;dsimp only;rw[List.forIn_cons];refine ai (ai (zv kA hf n2 g2 fun h₃ n3 b3 o3=>aC ?_));dsimp only;rw[List.forIn_nil];refine aC (aC ?_);have k3:∀b o,s.heap.get? b=some o->h₃.get? b=some o:=fun b o q=>(b3.2 b (nl b o q)).trans ((b2.2 b (nl b o q)).trans (k1 b o q));refine⟨O.lim.keeps fun b o q=>k3 b o (h0k b o q),codeAny_func ?_⟩;refine Kg (mg:=c.g) (h0:=c.h0) hf (by rw[<- hE];show c.h0.Ns fd.globals c.g;rw[I.gl];exact O.gl) hNE kN kS kA n3 (cS (nl _ _ he)) ?_ (if_pos rfl) K (GG hst) (fun b o q=>k3 b o (h0k b o q)) he0 (k3 _ _ he) hl (by simp[interactive,hf]) fun h' tk D=>?_
 ·show(if ao "self"=ao "at" then some v else if ao "self"=ao "self" then some (.ref e) else none)=some (.ref e);rw[if_neg (by decide),if_pos rfl]
 ·refine hq h' tk ⟨fun b ob hne hb=>D.keep b ob hne (k3 b ob hb),?_⟩;obtain⟨t,dc,g1,g2,g3⟩:=D.here;refine⟨t,dc,g1,?_,g3⟩;refine xC (s.heap.get? dc) (fun q=>?_) fun o q=>?_
  ·rfl
  ·exact Eu ((k3 _ _ q).symm.trans g2)
end
end
variable {e:Expr}
section
open PySem PySem.W PySem.Calls PyProof.Rows
set_option maxRecDepth 100000
section
variable {nm:Str}{sub:List Value}
def He(F:ExcBaseFacts B newId initId bmB){Q:Flow->Shared->Prop} (hbase:bm.contains (.type "BaseException")=true) (hh:A.handled=none) (hplain:(backTo cpos (eL args wz)).any (·.1)=false) (hi:mN "__init__"=some (.ref fI)) (hfc:oI.cls=.type "function") (h:wpAny (model prog w) A (eval (.Name x np) wz) (fun f s₁=>f=.ref C/\wpAny (model prog w) A (evalArgs (.ref C) true (backTo cpos (eL args wz)) []) (fun a s₂=>a.kw=[]/\a.pos.length<=qag/\s₂.heap.get? C=some (qY nm q C N bs bm hdct sn sub ab col dd k0 k1 k2 k3 k5 newId)/\s₂.heap.Ns N mN/\s₂.heap.get? fI=some oI/\OwnTail s₂.heap bmB bm /\
    ∀h' e A',A'.depth<=A.depth+1->Heap.MadeExcOf s₂.heap h' e (.ref C) a.pos->wpAny (model prog w) A' (call (.ref fI) (.ref e::a.pos)) (fun r s'=>r=.none/\s'.heap.get? C=some (qY nm q C N bs bm hdct sn sub ab col dd k0 k1 k2 k3 k5 newId) /\
     (∃oe,s'.heap.get? e=some oe/\oe.cls=.ref C/\∃t,oe.data=.fields #[.ref t,.none,.none,.none,.bool false,.none])/\E (.ref e) s') E { s₂ with heap:=h' }) E s₁) E s) :
  wpAny (model prog w) A (exec (.Raise (some (.Call (.Name x np) args [] cpos)) none pos) wz) Q E s:=by
 rw[arm_exec_Raise];refine ai (i5 (GC (C:=C) (nm:=nm) (q:=q) (N:=N) (bs:=bs) (bm:=bm) (hdct:=hdct) (sn:=sn) (sub:=sub) (ab:=ab) (col:=col) (dd:=dd) (k0:=k0) (k1:=k1) (k2:=k2) (k3:=k3) (k5:=k5) (newId:=newId) hbase hh (ai (a8 (wpAny_Call_ofName (a8 h (fun f s₁ h₁=>?_) fun Z Z x=>x)) (fun v s₃ h₃=>ai (i5 (aC h₃))) fun Z Z x=>x))));obtain⟨rfl,h₁⟩:=h₁;unfold callWith;refine ai (de (a8 h₁ (fun a s₂ h₂=>ai (i5 ?_)) fun Z Z x=>x));obtain⟨apos,akw⟩:=a;obtain⟨hkw,wq,hC,hn,hfI,T,h₂⟩:=h₂;obtain rfl:akw=[]:=hkw;obtain⟨hp,g,d,tk,os⟩:=s₂;rw[hplain];refine ai (wpAny_keeperOf_exc hC ?_);refine ai (Ht F T hC hn hi hfI hfc (fun h' e hm=>a8 (h₂ h' e _ ?_ hm) (fun r s' hr=>⟨hr.1,ai (de (rH (aC ?_)))⟩) fun Z Z x=>x) wq)
 ·exact aN _
 ·obtain⟨rfl,g1,⟨oe,g2,g3,g4⟩,g5⟩:=hr;exact⟨e,oe,rfl,g1,g2,g3,g4,g5⟩
end
inductive dY(c:Cx):Prop
 |mk (NE C fI:Addr)(oI:Obj)(fd:qbe)(hn:c.g (ao "NetError")=some (.ref NE))(hg:c.g (ao "BadNet")=some (.ref C))(own:aR c.h0 C (.ref NE::cu) (some (.ref fI)))(net:aR c.h0 NE cu none)
   (I:fb c.h0 fI oI fd) (hst:∃mc,c.h0.Ns cStatics mc/\mc "thirdparty.any"=none):dY c
theorem G8(O:c.Ok)(NO:dY c)(hX:aO aM wz X)(hk:wz.kindOf (ao "BadNet")=some .globalImplicit)(h:gD c wz wu [e1] [x1]) :
  eN c wz wu X (.Raise (some (.Call (.Name (ao "BadNet") np) [e1] [] cpos)) none pos) (.rais (ao "BadNet") [x1]):=fun A q d k loc φ H s Q E hA hh hF hS hw=>by
 obtain⟨rfl,hw⟩:=hw;obtain⟨NE,C,fI,oI,fd,hn,hg,own,net,I,hst⟩:=NO;have K:bT c.h0 C NE:=⟨⟨_,own⟩,net⟩;obtain⟨nm,q,N,bs,sn,sub,ab,col,dd,k0,k1,k2,k3,k5,mN,hC,hN,hq,hi⟩:=own;obtain⟨nm',q',N',bs',sn',sub',ab',col',dd',k0',k1',k2',k3',k5',mN',hC',hN',hq',hi'⟩:=net;have hdep:=hA.dep;refine He (nm:=nm) (q:=q) (C:=C) (N:=N) (bs:=bs) (hdct:=true) (sn:=sn) (sub:=sub) (ab:=ab) (col:=col) (dd:=dd) (k0:=k0) (k1:=k1) (k2:=k2) (k3:=k3) (k5:=k5) (bm:=.ref NE::cu) (mN:=mN) PySem.F.excBase_ValueError rfl (hA.hd rfl) (vL h.1.1) hi I.cls (Calls.Name_function_global hF.fn hk (Calls.loadGlobal_global (by rw[hF.gl];exact O.gl.keeps hS.stays) hg ⟨rfl,?_⟩) (by decide));refine a8 (uo h (fun q=>nomatch q) hA hF hS hw) ?_ fun Z Z h=>ay.no h;rintro _ s₁ w0;refine w0 _ fun rs wk φ₁ H₁ vs e₁ S₁ R₁ eN2=>?_;clear w0;subst wk;obtain⟨l₁,w₁⟩:=eN2;cases LV.of vs with
 |one v1=>
  refine R₁.one _ fun r1 wk Rv=>?_;subst wk;refine⟨rfl,show 1<=qag by decide,S₁.stays _ _ hC,hN.keeps S₁.stays,S₁.stays _ _ I.ho,.own (S₁.stays _ _ hC') (hN'.keeps S₁.stays) hi' .base,fun h' e A' hd hme=>?_⟩;obtain⟨t0,ht,_,_⟩:=hme.there;have h0:c.h0.get? e=none:=by
   refine xC (c.h0.get? e) (fun q=>?_) fun o q=>?_
   ·rfl
   ·have:=S₁.stays e o q;exact cq (hme.new.symm.trans this)
  refine Ih (s:={ s₁ with heap:=h' }) O I hst (by exact aA [_,_,_] [] kab (Y1 V0 (.l 1000)) (Y0 (Y0 V1 V2) (.l 890)) (Y0 V0 (Y0 V1 J1)) hdep hd) hn K (fun b o q=>hme.keeps b o (S₁.stays b o q)) h0 ht fun h'' tk D=>?_;obtain⟨t,dc,g1,g2,od,es,n,g3,g4,g5,g6⟩:=D.here;have kp:∀b o,s₁.heap.get? b=some o->h''.get? b=some o:=fun b o q=>D.keep b o (fun q'=>by rw[q',hme.new] at q;injection q) (hme.keeps b o q);have e₂:au [] φ₁ s₁ φ₁ { s₁ with heap:=h'',toks:=tk }:=au.of_keeps kp rfl;have new:∀{b:Addr},s₁.heap.get? b=none->b∉φ₁:=fun hb q=>by
   obtain⟨o,ho,_⟩:=S₁.isList q;exact cq (hb.symm.trans ho)
  have dn:s₁.heap.get? dc=none:=by
   refine xC (s₁.heap.get? dc) (fun q=>?_) fun o q=>?_
   ·rfl
   ·have:=hme.keeps _ _ q;exact cq (g2.symm.trans this)
  have w₂:E (.exc (ao "BadNet") v1) loc H₁:=by
   have:bK (ao "BadNet") [v1]=v1:=if_pos rfl;rw[this] at w₁;exact w₁
  refine⟨rfl,kp _ _ (S₁.stays _ _ hC),⟨_,g1,rfl,t,rfl⟩,φ₁,H₁,loc,_,hF.weak hX (e₁.trans e₂),S₁.keeps (s':={ s₁ with heap:=h'',toks:=tk }) kp rfl,hF.mono (e₁.trans e₂),?_,w₂⟩;exact⟨⟨e,_,_,rfl,new hme.new,h0,g1,⟨C,rfl⟩,hg,rfl,fun Z=>⟨dc,od,es,n,r1,rfl,new dn,g3,g4,g5,g6,ar.mono e₂.toKp ax.nil Rv⟩⟩,⟨_,_,rfl⟩,e,_,_,rfl,e₁.fresh S₁ hme.new,g1,rfl,.inl rfl⟩
 |_=>cases l₁
end
variable {B:Nat->Nat}{N:Nat}{bs:List Ex}{q:Option Expr×Option Expr×Option Expr}{s:Array (Option Value)}
section
open PySem PySem.W PySem.Calls PyProof.Rows Builtin Builtin.ObjectAttr Builtin.Getset_descriptor
set_option maxRecDepth 100000
section
variable {dx:Addr}{es:Array iJ}{v:Value}
def oS(ho:h.get? dx=some od)(hd:od.data=.dict es n)(hv:nsFind es name=some v){Q:Option Value->Shared->Prop}(hq:Q (some v) ⟨h,g,d,t,os⟩):wpAny M A (nsGet dx name) Q E ⟨h,g,d,t,os⟩:=by
 have e:lookIn name od=some (some v):=by
  unfold lookIn;rw[hd];refine xM (fun x h1 h2=>?_) (show(es.find? (·.key.isStr name)).map (·.val)=some v from hv);dsimp only;rw[Array.find?_toList,h1];exact congrArg (fun z=>some (some z)) h2
 unfold nsGet;refine ai (wpAny_loadPart ho ?_);rw[nsLook_of e];exact aC hq
def ju{Q:Fin->Shared->Prop}(K:bT h C NE)(hx:h.get? a=some o)(hc:o.cls=.ref C)(hd:o.data=.fields vs)(hdx:o.dict=some dx)(ho:h.get? dx=some od)(hod:od.data=.dict es n)(hv:nsFind es (ao "at")=some v) (hq:Q (.done (.ret v)) ⟨h,g,d,t,os⟩):wpAny (model prog w) A (Builtin.«object.__getattribute__» ⟨[.ref a,.str "at" tk],[]⟩) Q E ⟨h,g,d,t,os⟩:=by
 have hm:("at":Str)∈zd0:=.tail _ (.tail _ (.tail _ (.head _)));obtain⟨oc,odt,data,slots⟩:=o;obtain rfl:oc=_:=hc;obtain rfl:data=_:=hd;obtain rfl:odt=_:=hdx;obtain⟨ini,nm,q,N,bs,sn,sub,ab,col,dd,k0,k1,k2,k3,k5,mN,hC,_⟩:=K.own;repeat(any_goals(first |assumption |with_reducible refine dK hx ?_ |with_reducible refine K.lookup hm Ej ?_ |with_reducible refine dK hC ?_ |with_reducible refine oS ho hod hv ?_ |wp_step))
def uY(K:bT h C NE)(hx:h.get? a=some o)(hc:o.cls=.ref C)(hd:o.data=.fields vs)(hdx:o.dict=some dx)(ho:h.get? dx=some od)(hod:od.data=.dict es n)(hv:nsFind es (ao "at")=some v) (hh:handedOut v=pure v) (hq:Q v ⟨h,g,d,t+1,os⟩):wpAny (model prog w) A (getAttr (.ref a) "at" expr) Q E ⟨h,g,d,t,os⟩:=by
 unfold getAttr;have FB:=PySem.F.attrBase_ValueError;have f3:=FB.ga.bind (.ref a);have hx0:(expr&&onTheHeap (iN "BaseException.__getattribute__"))=false:=by cases expr<;>rfl
 have hx2:(iN "BaseException.__getattribute__"==iN "object.__getattribute__")=false:=by decide +kernel
 have hx1:(onTheHeap (cF C)&&iN "BaseException.__getattribute__"==iN "object.__getattribute__")=false:=by rw[hx2];rfl
 have hm1:("__getattribute__":Str)∈zd0:=.head _;have hm2:("__getattr__":Str)∈zd0:=.tail _ (.head _);repeat(any_goals(first |assumption |(with_reducible refine dK hx ?_;rw[hc]) |with_reducible refine K.lookup hm1 FB.ga.lookup ?_ |with_reducible refine K.lookup hm2 FB.noGetattr ?_ |wp_step))
 refine vJ FB.ga.plain F.entry_bexc_ga (E5 K hx hc (ju K hx hc hd hdx ho hod hv ?_));repeat(any_goals(first |assumption |wp_step))
end
theorem mF{v w:V}(h:gI v x=some w):x=ao "at"/\v=.exc (ao "BadNet") w/\((∃i,w=.int i)\/w=.none):=by
 cases v with
 |exc cn y=>
  by_cases hc:x=ao "at"/\cn=ao "BadNet"
  ·replace h:vA y=some w:=(if_pos hc).symm.trans h;cases y with
   |none=>obtain rfl:=ah h;exact⟨hc.1,by rw[hc.2],.inr rfl⟩
   |int i=>obtain rfl:=ah h;exact⟨hc.1,by rw[hc.2],.inl ⟨i,rfl⟩⟩
   |_=>injection h
  ·exact absurd ((if_neg hc).symm.trans h) (fun q=>nomatch q)
 |_=>injection h
def Hm{o:Expr}{x:Ex}{m:Str}(NO:dY c)(hb:yn o=true)(h:aQ c wz wu o x):aQ c wz wu (.Attribute o m p) (.attr x m):=fun A q d k loc φ H s Q E hA hF hS hw=>by
 rw[arm_eval_Attribute,Bm hb];refine ai (wm (h A q d k loc φ H s _ E hA hF hS hw) ?_);rintro r s₁ ⟨φ₁,H₁,v₁,e₁,S₁,R₁,w₁⟩;revert w₁;refine xI fun y hy w₂=>?_;skip;obtain⟨rfl,rfl,hw⟩:=mF hy;obtain⟨a,ob,vs,rfl,ha,h0,ho,⟨C,hC⟩,hg,hd,hn⟩:=R₁;obtain⟨dx,od,es,n,ra,h1,h2,h3,h4,h5,h6,Rv⟩:=hn rfl;obtain⟨NE,C',fI,oI,fd,hn,hg',own,net,I,hst⟩:=NO;rw[hg,hC] at hg';(injection hg' with Ja;injection Ja with w4;subst w4);have K:bT s₁.heap C NE:=⟨⟨_,own.keeps S₁.stays⟩,net.keeps S₁.stays⟩;have hh:handedOut ra=pure ra:=by
  rcases hw with⟨i,rfl⟩|rfl
  ·obtain⟨t,rfl⟩:=Rv;rfl
  ·obtain rfl:=Rv;rfl
 refine ai (i5 (ai (de ?_)));obtain⟨hp,g,d,t,os⟩:=s₁;refine uY K ho hC hd h1 h3 h5 h6 hh ?_;refine ai (wpAny_letTemporaryGo (aC ?_));exact aE.lift (e₁.trans (au.of_heap (s':=⟨hp,g,d,t+1,os⟩) rfl rfl)) (aE.at' (s:=⟨hp,g,d,t+1,os⟩) (S₁.tok _) Rv w₂)
end
variable {A:Prop}{E:XPost}{M d:Nat}{Q:V->Hp->Prop}{g:Expr×Expr×List Expr}{o:Option Nat}{os:List Cm}{p:Str×aT}{t:Tg}{vs:List V}
section
open PySem PyProof.Rows
inductive Gk |fn |val (v:V) |blt (b:Bl) |isi |enum |rev
structure Tab where
 g:List (Str×Gk)
 t:List (Str×Tc)
inductive EV(e:Expr):Type
 |name (x:Str)(p:Pos)(h:e=.Name x p)
 |tup (es:List Expr)(k:Nat)(p:Pos)(h:e=.Tuple es k p)
 |attr (o:Expr)(m:Str)(p:Pos)(h:e=.Attribute o m p)
 |slice (q:Option Expr×Option Expr×Option Expr)(p:Pos)(h:e=.Slice q.1 q.2.1 q.2.2 p)
 |sub (o i:Expr)(p:Pos)(h:e=.Subscript o i p)
 |call (f:Expr)(es:List Expr)(kw:List Keyword)(p:Pos)(h:e=.Call f es kw p)
 |un (o:UnaryOp)(l:Expr)(p:Pos)(h:e=.UnaryOp o l p)
 |const (k:Const)(n:Nat)(p:Pos)(h:e=.Constant k n p)
 |lam (a:Arguments)(b:Expr)(s:Scope)(p:Pos)(h:e=.Lambda a b s p)
 |other
noncomputable def ev(e:Expr):EV e:=match e with
 |.Name x p=>.name x p rfl
 |.Tuple es k p=>.tup es k p rfl
 |.Attribute o m p=>.attr o m p rfl
 |.Slice a b c p=>.slice (a,b,c) p rfl
 |.Subscript o i p=>.sub o i p rfl
 |.Call f es kw p=>.call f es kw p rfl
 |.UnaryOp o l p=>.un o l p rfl
 |.Constant k n p=>.const k n p rfl
 |.Lambda a b s p=>.lam a b s p rfl
 |_=>.other
noncomputable def CW(x:Str):Bool:=!(x==("__debug__":Str))&&!(x==("__classdict__":Str))
def Dv(h:CW x=true):(x==("__debug__":Str))=false/\(x==("__classdict__":Str))=false:=by
 revert h;refine xA fun h1 h2=>?_;exact⟨iu _ |>.mp h1,iu _ |>.mp h2⟩
noncomputable def u3:Operator->Option Op
 |.Add=>some .add |.Sub=>some .sub |.Mult=>some .mul |.FloorDiv=>some .div |.Mod=>some .mod
 |.Pow=>some .pow
 |_=>none
def Gx{o:Operator}{p:Op}(h:u3 o=some p):o=p.real:=by
 cases o<;>first |(cases h;done) |(obtain rfl:=ah h;rfl)
noncomputable def tA:CmpOp->Option Cm
 |.Lt=>some .lt |.LtE=>some .le |.Gt=>some .gt |.GtE=>some .ge |.Eq=>some .eq |.NotEq=>some .ne
 |.In=>some .isIn
 |.NotIn=>some .notIn
 |_=>none
def JC{o:CmpOp}{p:Cm}(h:tA o=some p):o=p.real:=by
 cases o<;>first |(cases h;done) |(obtain rfl:=ah h;rfl)
theorem Ea:∀{os:List CmpOp}{ps:List Cm},aF tA os=some ps->os=ps.map Cm.real
 |[],ps,h=>by obtain rfl:=ah h;rfl
 |o::os,ps,h=>by
  refine(gi h) _ fun p ps' h1 h2 wk=>?_;subst wk;rw[JC h1,Ea h2];rfl
noncomputable def rA:List Me:=[Me.append]
 ++ [Me.count,Me.index]
 ++ [Me.join]
noncomputable def xN(x:Str):Option Me:=rA.find? fun m=>m.nm==x
def om{m:Me}(h:xN x=some m):x=m.nm:=by
 have:=List.find?_some (show rA.find? (fun m=>m.nm==x)=some m from h);exact(beq_iff_eq.mp this).symm
noncomputable def zl(wu:Res)(names:List (Str×aT)):Res:=⟨false,wu.n,names.filterMap fun p=>(if p.2=.free then wu.lookup p.1 else none).map fun i=>(p.1,i)⟩
noncomputable def below(o:Option Nat)(n:Nat):Bool:=match o with
 |some i=>decide (i<n)
 |none=>false
theorem Hh(h:below o n=true):∃i,o=some i/\i<n:=by
 cases o with
 |none=>injection h
 |some i=>exact⟨i,rfl,of_decide_eq_true h⟩
noncomputable def tE(nm names:List (Str×aT))(wu:Res)(nx:Nat)(p:Str×aT):Bool:=match p.2 with
 |.cell=>names.lookup p.1==some .cell
 |.local=>names.lookup p.1==some .local
 |.free=>names.lookup p.1==some .free&&(nm.lookup p.1==some .cell||nm.lookup p.1==some .free)&&below (wu.lookup p.1) nx
 |_=>true
noncomputable def Fs(nm names:List (Str×aT))(wu:Res)(nx:Nat):Bool:=names.all (tE nm names wu nx)&&decide ((names.filter fun p=>p.2==.cell).length<=1)
def mK{nm:List (Str×aT)}{n:Str}(h:tE nm names wu nx (n,.free)=true):names.lookup n=some .free/\(nm.lookup n=some .cell\/nm.lookup n=some .free)/\∃i,wu.lookup n=some i/\i<nx:=by
 revert h;refine xA fun h1 h2=>?_;revert h1;refine xA fun h0 h1=>?_;exact⟨beq_iff_eq.mp h0,(nD.mp h1).imp beq_iff_eq.mp beq_iff_eq.mp,Hh h2⟩
def Fz{nm:List (Str×aT)}(h:tE nm names wu nx p=true):(p.2=.cell->names.lookup p.1=some .cell)/\(p.2=.local->names.lookup p.1=some .local):=by
 obtain⟨n,k⟩:=p;refine⟨fun q=>?_,fun q=>?_⟩
 ·obtain rfl:k=.cell:=q;exact beq_iff_eq.mp h
 ·obtain rfl:k=.local:=q;exact beq_iff_eq.mp h
theorem m9(h:(names.filter fun p=>p.2==qaj).length<=1){n:Str}(h1:(n,qaj)∈names)(h2:(n',qaj)∈names):n'=n:=by
 have m1:(n,qaj)∈names.filter fun p=>p.2==qaj:=List.mem_filter.mpr ⟨h1,beq_self_eq_true qaj⟩;have m2:(n',qaj)∈names.filter fun p=>p.2==qaj:=List.mem_filter.mpr ⟨h2,beq_self_eq_true qaj⟩;generalize(names.filter fun p=>p.2==qaj)=l at h m1 m2;cases l with
 |nil=>exact nomatch m1
 |cons p r=>
  obtain rfl:r=[]:=iG.mp (Nat.le_zero.mp (Nat.le_of_succ_le_succ h));exact(qt ((aV.mp m2).trans (aV.mp m1).symm)).1
noncomputable def zw (names : List (Str × aT)) (x : Str) : Bool := (names.lookup x == some .local || names.lookup x == some .cell) && x != b7 && x != ao "at"
noncomputable def fP(e:Expr):Option Str:=match ev e with
 |.name x _ _=>some x
 |_=>none
noncomputable def m5(e:Expr):Option (List Expr):=match ev e with
 |.tup es _ _ _=>some es
 |_=>none
theorem gC(h:fP i=some x):∃p,i=.Name x p:=by
 unfold fP at h;generalize ev i=v at h;cases v with
 |name y p e=>obtain rfl:=ah h;exact⟨p,e⟩
 |_=>injection h
theorem IJ(h:m5 i=some es):∃x p,i=.Tuple es x p:=by
 unfold m5 at h;generalize ev i=v at h;cases v with
 |tup y k p e=>obtain rfl:=ah h;exact⟨k,p,e⟩
 |_=>injection h
noncomputable def IG(names:List (Str×aT))(r0:Res)(nx:Nat)(x y:Str):Option (Res×Tg×Nat):=
 if zw names x=true/\zw names y=true/\nx+1<r0.n then some (⟨false,r0.n,(y,nx+1)::(x,nx)::r0.t⟩,.two nx (nx+1),nx+2) else none
noncomputable def pI(names:List (Str×aT))(r0:Res)(nx:Nat)(e:Expr):Option (Res×Tg×Nat):=match fP e with
 |some x=>if zw names x=true/\nx<r0.n then some (⟨false,r0.n,(x,nx)::r0.t⟩,.one nx,nx+1) else none
 |none=>(m5 e).bind fun es=>(aF fP es).bind fun xs=>match xs with
  |[x,y]=>IG names r0 nx x y
  |_=>none
noncomputable def iX(nm names:List (Str×aT)):List (Str×aT):=names.map fun(n,k)=>if(k==eG&&nm.lookup n==some .cell) then(n,qaj) else(n,k)
noncomputable def nA(nm:List (Str×aT))(f:Str):Bool:=CW f&&nm.lookup f==some .globalImplicit
noncomputable def mD:Const->Option Ex
 |.int i=>some (.lit (.int i))
 |.str s=>some (.lit (.str s))
 |.bool b=>some (.lit (.bool b))
 |.none=>some (.lit .none)
 |_=>none
noncomputable def xm:Gk->Option V
 |.val v=>some v
 |_=>none
noncomputable def rW(T:Tab)(nm:List (Str×aT))(wu:Res)(x:Str):Option Ex:=
 if CW x=true then
  match wu.lookup x with
  |some i=>some (.var i)
  |none=>if(nm.lookup x==some .globalImplicit)=true then((T.g.lookup x).bind xm).map .lit else none
 else none
noncomputable def Fe:UnaryOp->Option (Ex->Ex)
 |.USub=>some .neg
 |.Not=>some .not
 |_=>none
noncomputable def IT:BoolOp->List Ex->Ex
 |.And=>.and
 |.Or=>.or
noncomputable def mQ(e:Expr):Option (Option Expr×Option Expr×Option Expr):=match ev e with
 |.slice q _ _=>some q
 |_=>none
theorem F0(h:mQ i=some q):∃p,i=.Slice q.1 q.2.1 q.2.2 p:=by
 unfold mQ at h;generalize ev i=v at h;cases v with
 |slice y p e=>obtain rfl:=ah h;exact⟨p,e⟩
 |_=>injection h
noncomputable def CM(e:Expr):Bool:=match ev e with
 |.const k _ _ _=>k==.int 1
 |_=>false
noncomputable def zR(e:Expr):Bool:=match ev e with
 |.un o e _ _=>o==.USub&&CM e
 |_=>false
theorem Hd(h:CM e=true):∃k p,e=.Constant (.int 1) k p:=by
 unfold CM at h;generalize ev e=v at h;cases v with
 |const k n p e=>exact⟨n,p,by rw[e,beq_iff_eq.mp h]⟩
 |_=>injection h
theorem E9(h:zR e=true):∃k p p',e=.UnaryOp .USub (.Constant (.int 1) k p) p':=by
 unfold zR at h;generalize ev e=v at h;cases v with
 |un o l p' e=>
  revert h;refine xA fun h1 h2=>?_;obtain⟨k,p,rfl⟩:=Hd h2;exact⟨k,p,p',by rw[e,beq_iff_eq.mp h1]⟩
 |_=>injection h
noncomputable def nU(r:Expr->Option Ex):Option Expr->Option Ex
 |none=>some (.lit .none)
 |some e=>r e
noncomputable def Dl(r:Expr->Option Ex)(a:Ex)(lo hi st:Option Expr):Option Ex:=match st with
 |none=>(nU r lo).bind fun x=>(nU r hi).map fun y=>.slice a x y
 |some s=>if zR s=true/\lo=none/\hi=none then some (.rev a) else none
noncomputable def yK(r:Expr->Option Ex)(l i:Expr):Option Ex:=(r l).bind fun a=>match mQ i with
 |none=>(r i).map fun x=>.idx a x
 |some q=>Dl r a q.1 q.2.1 q.2.2
noncomputable def xp(T:Tab)(nm:List (Str×aT))(r:Expr->Option Ex)(es:List Expr):Option Ex:=match es with
 |[e,t]=>(fP t).bind fun t=>(T.t.lookup t).bind fun tc=>(r e).bind fun x=>if nA nm t=true/\dA e=true then some (.isi x tc) else none
 |_=>none
noncomputable def GZ(T:Tab)(nm:List (Str×aT))(r:Expr->Option Ex)(f:Str)(es:List Expr):Gk->Option Ex
 |.fn=>(aF r es).bind fun xs=>if es.all dA=true/\es≠[] then some (.call f xs) else none
 |.blt b=>(aF r es).bind fun xs=>if es.all dA=true/\es≠[] then some (.blt b xs) else none
 |.isi=>xp T nm r es
 |_=>none
noncomputable def wd(r:Expr->Option Ex)(o:Expr)(m:Str)(apos pos:Pos)(es:List Expr):Option Ex:=
 (xN m).bind fun me=>(r o).bind fun x=>(aF r es).bind fun xs=>if(es.all dA=true/\yn o=true)/\(apos.endLine==pos.line)=true/\es.length<20 then some (.meth me x xs) else none
noncomputable def CT(e:Expr):Option (Expr×Str×Pos):=match ev e with
 |.attr o m p _=>some (o,m,p)
 |_=>none
theorem HG{q:Expr×Str×Pos}(h:CT i=some q):i=.Attribute q.1 q.2.1 q.2.2:=by
 unfold CT at h;generalize ev i=v at h;cases v with
 |attr y k p e=>obtain rfl:=ah h;exact e
 |_=>injection h
noncomputable def jI(T:Tab)(nm:List (Str×aT))(r:Expr->Option Ex)(f:Expr)(es:List Expr)(pos:Pos):Option Ex:=match fP f with
 |some f=>if f=b7 then(aF r es).bind fun xs=>if es.all dA=true/\es≠[] then some (.callv xs) else none else if nA nm f=true then(T.g.lookup f).bind (GZ T nm r f es) else none
 |none=>(CT f).bind fun q=>wd r q.1 q.2.1 q.2.2 pos es
noncomputable def g9:List Comprehension->Option (Expr×Expr×List Expr)
 |[g]=>if g.is_async=0 then some (g.target,g.iter,g.ifs) else none
 |_=>none
noncomputable def eE(T:Tab):Nat->List (Str×aT)->Res->Nat->Expr->Option Ex
 |0,_,_,_,_=>none
 |n+1,nm,wu,nx,e=>match e with
  |.Constant k _ _=>mD k
  |.Name x _=>rW T nm wu x
  |.Tuple es _ _=>(aF (eE T n nm wu nx) es).bind fun xs=>if es.all dA=true/\xs.length<=1000 then some (.tup xs) else none
  |.List es _=>(aF (eE T n nm wu nx) es).bind fun xs=>if es.all dA=true/\xs.length<=1000 then some (.list xs) else none
  |.Dict ks vs _=>if ks=[]/\vs=[] then some .dict0 else none
  |.BinOp l op r _=>(u3 op).bind fun p=>(eE T n nm wu nx l).bind fun a=>(eE T n nm wu nx r).map fun b=>.bin p a b
  |.UnaryOp o l _=>(Fe o).bind fun f=>(eE T n nm wu nx l).map f
  |.BoolOp o es _=>(aF (eE T n nm wu nx) es).map (IT o)
  |.Compare l ops es _=>(aF tA ops).bind fun ps=>(eE T n nm wu nx l).bind fun a=>(aF (eE T n nm wu nx) es).bind fun xs=>if es.all rQ=true/\ps.length=es.length then some (.cmp a ps xs) else none
  |.Subscript l i _=>yK (eE T n nm wu nx) l i
  |.Attribute o m _=>if yn o=true then(eE T n nm wu nx o).map fun a=>.attr a m else none
  |.Call f es kw pos=>if kw=[] then jI T nm (eE T n nm wu nx) f es pos else none
  |.ListComp elt gs scope _=>(g9 gs).bind fun g=>(if(Fs nm scope.names wu nx=true/\scope.kind=.function)/\rQ g.2.1=true then
    pI scope.names (zl wu scope.names) nx g.1 else none).bind fun q=>(eE T n nm wu nx g.2.1).bind fun xs=>
     (eE T n (iX nm scope.names) q.1 q.2.2 elt).bind fun x=>(aF (eE T n (iX nm scope.names) q.1 q.2.2) g.2.2).map fun ys=>.comp x q.2.1 xs ys
  |_=>none
def Cu(c:Cx)(x:Str):Prop:=∀GJ:Prop,(∀(a:Addr),∀(o:Obj),∀(fd:qbe),(c.g x=some (.ref a))->(c.h0.get? a=some o)->(o.data=.func fd)->GJ)->GJ
inductive nH(c:Cx)(x:Str)(t:Tc):Prop
 |mk (S:String)(h1:t.real=some S)(h2:x=ao S)(h3:c.g x=none)(h4:c.b x=some (.type S)):nH c x t
 |own (h1:t=.own x)(h2:x∈kids\/x=ao "ValueError"):nH c x t
structure aY(c:Cx)(T:Tab):Prop where
 fn:∀x,T.g.lookup x=some .fn->Cu c x
 val:∀x v,T.g.lookup x=some (.val v)->∃r,c.g x=some r/\ar c [] c.h0 v r
 blt:∀x b,T.g.lookup x=some (.blt b)->c.g x=none/\c.b x=some b.real
 isi:∀x,T.g.lookup x=some .isi->x=ao "isinstance"/\c.g x=none/\c.b x=some (.builtin "isinstance")
 enum:∀x,T.g.lookup x=some .enum->c.g x=none/\c.b x=some (.type "enumerate")
 rev:∀x,T.g.lookup x=some .rev->c.g x=none/\c.b x=some (.type "reversed")
 ty:∀x t,T.t.lookup x=some t->nH c x t
 ex:cx c
 nt:dY c
 lam:∀kk fd nm,c.lam kk fd nm->d5 kk fd nm
def bJ(c:Cx)(wz:Env)(wu:Res)(e:Expr)(x:Ex):Prop:=aQ c wz wu e x/\jt c wz wu e x
theorem Df{f:α->Option β}:∀{l:List α}{r:List β},aF f l=some r->l.length=r.length
 |[],r,h=>by obtain rfl:=ah h;rfl
 |a::l,r,h=>by
  refine(gi h) _ fun b bs Z h2 wk=>?_;subst wk;exact congrArg (· + 1) (Df h2)
theorem xT(ih:∀e x,r e=some x->bJ c wz wu e x):∀{es:List Expr}{xs:List Ex},aF r es=some xs->j4 c wz wu es xs
 |[],_,h=>by obtain rfl:=ah h;rfl
 |e::es,_,h=>by
  refine(gi h) _ fun x xs h1 h2 wk=>?_;subst wk;exact⟨(ih _ _ h1).1,xT ih h2⟩
theorem yC(ih:∀e x,r e=some x->bJ c wz wu e x):∀{es:List Expr}{xs:List Ex},aF r es=some xs->iQ c wz wu es xs
 |[],_,h=>by obtain rfl:=ah h;rfl
 |e::es,_,h=>by
  refine(gi h) _ fun x xs h1 h2 wk=>?_;subst wk;exact⟨(ih _ _ h1).2,yC ih h2⟩
theorem oX(ih:∀e x,r e=some x->bJ c wz wu e x):∀{es:List Expr}{xs:List Ex},aF r es=some xs->es.all dA=true->gD c wz wu es xs
 |[],_,h,_=>by obtain rfl:=ah h;exact BC
 |e::es,_,h,hn=>by
  refine(gi h) _ fun x xs h1 h2 wk=>?_;subst wk;revert hn;refine xA fun n1 n2=>?_;exact wO n1 (ih _ _ h1).1 (oX ih h2 n2)
end
variable {T Tb:Tab}{i:Nat}{p:Pos}{q:Bool}{x:Ex}
section
open PySem PyProof.Rows
def eC(h:aQ c wz wu e x)(hp:BY e=true):bJ c wz wu e x:=⟨h,Ju h hp⟩
theorem Ey{scope:Scope}{nm:List (Str×aT)}(h:wz.scope.names=nm)(hk:wz.scope.kind=.function):(ey scope wz).names=iX nm scope.names:=by
 unfold ey iX;simp only;refine List.map_congr_left fun p Z=>?_;obtain⟨n,k⟩:=p;have:wz.kindOf n=nm.lookup n:=by rw[<- h];rfl
 simp only[this,hk];cases k<;>simp
theorem C8{f:Str×α->Option β}:∀{l:List (Str×α)}{x:Str}{i:β},(l.filterMap fun p=>(f p).map fun i=>(p.1,i)).lookup x=some i->∃p∈l,p.1=x/\f p=some i
 |p::l,x,i,h=>by
  rw[List.filterMap_cons] at h;refine xC (f p) (fun hp=>?_) fun r hp=>?_
  ·rw[hp] at h;obtain⟨q,hq,hq'⟩:=C8 h;exact⟨q,a9 _ hq,hq'⟩
  ·rw[hp] at h;change List.lookup x ((p.1,r)::_)=_ at h;rw[cW] at h;refine xD (x==p.1) (fun hb=>?_) fun hb=>?_
   ·rw[hb] at h;exact⟨p,aL,(beq_iff_eq.mp hb).symm,by rw[<- h];exact hp⟩
   ·rw[hb] at h;obtain⟨q,hq,hq'⟩:=C8 h;exact⟨q,a9 _ hq,hq'⟩
def Fn{x:Str}(h:(zl wu names).lookup x=some i):(x,eG)∈names/\wu.lookup x=some i:=by
 obtain⟨⟨n,k⟩,hp,rfl,hp'⟩:=C8 (f:=fun p:Str×aT=>if p.2=.free then wu.lookup p.1 else none) h;revert hp';refine xO fun hk hl=>?_;obtain rfl:k=.free:=hk;exact⟨hp,hl⟩
def F2{x:Str}(h:List.lookup y ((x,nx)::l)=some j):(y=x/\j=nx)\/(y≠x/\l.lookup y=some j):=by
 rw[cW] at h;refine xD (y==x) (fun hb=>?_) fun hb=>?_
 ·rw[hb] at h;exact .inl ⟨beq_iff_eq.mp hb,(ah h).symm⟩
 ·rw[hb] at h;exact .inr ⟨beq_eq_false_iff_ne.mp hb,h⟩
def CY{x:Str}(h:zw names x=true):(names.lookup x=some .local\/names.lookup x=some .cell)/\x≠b7/\x≠ao "at":=by
 revert h;refine xA fun h1 h2=>?_;revert h1;refine xA fun h0 h1=>?_;exact⟨(nD.mp h0).imp beq_iff_eq.mp beq_iff_eq.mp,bne_iff_ne.mp h1,bne_iff_ne.mp h2⟩
def Cv{x:Str}(hk:wv.kindOf x=some .local\/(al x=true/\wv.kindOf x=some .cell))(hj:x≠b7/\x≠ao "at")(hlt:nx<r0.n)(hb:∀y j,r0.lookup y=some j->j<nx) :
  a0 al wv r0 ⟨r0.fr,r0.n,(x,nx)::r0.t⟩ x nx:=
 ⟨⟨rfl,rfl,fun y j hy=>(F2 hy).imp id fun h=>⟨h.1,h.2,cj (hb y j h.2)⟩,hlt,hj.1,.inl hj.2⟩,hk⟩
structure sG(nm:List (Str×aT))(wu:Res)(nx:Nat)(names:List (Str×aT))(n:Str):Prop where
 free:names.lookup n=some .free
 kind:nm.lookup n=some .cell\/nm.lookup n=some .free
 slot:∃i,wu.lookup n=some i/\i<nx
structure yL(r0 res':Res)(scope:Scope)(wz:Env)(tgt:Expr)(t:Tg):Prop where
 n:res'.n=r0.n/\res'.fr=false
 tg:∀wv:Env,wv.scope=ey scope wz->jR (i7 scope) wv r0 res' tgt t
 sub:∀y i,r0.lookup y=some i->(y,eG)∈scope.names->res'.lookup y=some i/\t.out i
def AO{x:Str}(h:y≠x)(hl:l.lookup y=o):List.lookup y ((x,nx)::l)=o:=by
 rw[cW,beq_eq_false_iff_ne.mpr h];exact hl
theorem tY{scope:Scope}(hfr:r0.fr=false)(hfree:∀n,(n,eG)∈scope.names->scope.names.lookup n=some .free)(hb:∀y j,r0.lookup y=some j->j<nx) (ht:pI scope.names r0 nx tgt=some (res',t,nx')):yL r0 res' scope wz tgt t:=by
 have hloc:∀wv:Env,wv.scope=ey scope wz->∀x,(scope.names.lookup x=some .local\/scope.names.lookup x=some .cell)->wv.kindOf x=some .local\/(i7 scope x=true/\wv.kindOf x=some .cell):=fun wv hcs x hx=>by
  show List.lookup x wv.scope.names=_\/_/\List.lookup x wv.scope.names=_;rw[hcs];rcases hx with hx |hx
  ·exact .inl (lookup_relabel_local hx)
  ·exact .inr ⟨by rw[i7,hx];rfl,(B9 hx).trans rfl⟩
 have ne:∀{x y:Str},(scope.names.lookup x=some .local\/scope.names.lookup x=some .cell)->(y,eG)∈scope.names->y≠x:=fun{x y} hx hy q=>by
  subst q;rcases hx with hx |hx<;>(rw[hfree y hy] at hx;injection hx with Ja;injection Ja)
 obtain⟨fr,n,l⟩:=r0;obtain rfl:fr=false:=hfr;unfold pI at ht;refine xC (fP tgt) (fun hn=>?_) fun x hn=>?_
 ·rw[hn] at ht;revert ht;refine xB fun es h1 ht1=>?_;skip;obtain⟨k,p,rfl⟩:=IJ h1;revert ht1;refine xB fun xs h2 ht2=>?_;skip;match xs,ht2,h2 with
  |[x,y],ht3,h2=>
   obtain⟨⟨h3,h4,h5⟩,e⟩:=iI ht3;obtain⟨t1,t2⟩:=CY h3;obtain⟨u1,u2⟩:=CY h4;(injection e with Ja Jb;injection Jb with w4 Jb1;subst Jb1;subst w4;subst Ja);match es,h2 with
   |e1::es,h2=>
    refine(gi h2) _ fun Z Z a1 a2 a3=>?_;clear h2;(injection a3 with Ja Jb;subst Jb;subst Ja);obtain⟨p1,rfl⟩:=gC a1;match es,a2 with
    |e2::es,a2=>
     refine(gi a2) _ fun Z Z b1 b2 b3=>?_;clear a2;(injection b3 with Ja Jb;subst Jb;subst Ja);obtain⟨p2,rfl⟩:=gC b1;match es,b2 with
     |[],_=>
      refine⟨⟨rfl,rfl⟩,fun wv hcs=>⟨_,_,_,rfl,x,p1,⟨false,n,(x,nx)::l⟩,rfl,Cv (hloc wv hcs x t1) t2 (Nat.lt_of_succ_lt h5) hb,y,p2,_,rfl,Cv (r0:=⟨false,n,(x,nx)::l⟩) (hloc wv hcs y u1) u2 h5 fun z j hz=>?_,rfl,rfl⟩,
       fun z i hz hm=>⟨AO (ne u1 hm) (AO (ne t1 hm) hz),cj (hb z i hz),cj (Nat.lt_succ_of_lt (hb z i hz))⟩⟩
      rcases F2 hz with⟨_,rfl⟩|⟨_,h⟩
      ·exact Nat.lt_succ_self _
      ·exact Nat.lt_succ_of_lt (hb z j h)
     |_::_,b2=>
      refine(gi b2) _ fun Z Z Z Z b4=>?_;injection b4
 ·rw[hn] at ht;obtain⟨p,rfl⟩:=gC hn;obtain⟨⟨h1,h2⟩,e⟩:=iI ht;obtain⟨t1,t2⟩:=CY h1;(injection e with Ja Jb;injection Jb with w4 Jb1;subst Jb1;subst w4;subst Ja);exact⟨⟨rfl,rfl⟩,fun wv hcs=>⟨x,p,rfl,Cv (hloc wv hcs x t1) t2 h2 hb⟩,fun y i hy hm=>⟨AO (ne t1 hm) hy,cj (hb y i hy)⟩⟩
def DB{nm:List (Str×aT)}{scope:Scope}(hnm:wz.scope.names=nm)(hc:Fs nm scope.names wu nx=true)(hkind:scope.kind=.function) (ht:pI scope.names (zl wu scope.names) nx tgt=some (res',t,nx')):cP c wz wu (zl wu scope.names) res' scope tgt t:=by
 revert hc;refine xA fun hc h1c=>?_;have hall:=dQ.mp hc;have hfree:∀n,(n,eG)∈scope.names->sG nm wu nx scope.names n:=fun n hn=>by
  obtain⟨h1,h2,i,hi,h3⟩:=mK (hall _ hn);exact⟨h1,h2,i,hi,h3⟩
 have hb:∀y j,(zl wu scope.names).lookup y=some j->j<nx:=fun y j hy=>by
  obtain⟨h1,h2⟩:=Fn hy;obtain⟨i,h3,h4⟩:=(hfree y h1).slot;obtain rfl:=ah (h2.symm.trans h3);exact h4
 have b:=tY (wz:=wz) rfl (fun n hn=>(hfree n hn).free) hb ht;refine⟨hkind,fun n n' h1 h2=>m9 (of_decide_eq_true h1c) h1 h2,fun n hn hm=>(nomatch ((Fz (hall _ hm)).1 rfl).symm.trans (hfree n hn).free),fun y hy q=>(Fz (hall y hy)).2 q,fun n hn=>?_,rfl,rfl,fun x i hx=>?_,b.n,b.tg⟩
 ·have:wz.kindOf n=nm.lookup n:=by rw[<- hnm];rfl
  rw[this];obtain⟨i,h3,_⟩:=(hfree n hn).slot;exact⟨(hfree n hn).kind,i,h3⟩
 ·obtain⟨h1,h2⟩:=Fn hx;exact⟨h2,h1,(hfree x h1).free,(b.sub x i hx h1).1,(b.sub x i hx h1).2⟩
def q9{nm:List (Str×aT)}(hnm:wz.scope.names=nm)(h:nA nm f=true):wz.kindOf f=some .globalImplicit/\(f==("__debug__":Str))=false:=by
 revert h;refine xA fun h1 h2=>?_;refine⟨?_,(Dv h1).1⟩;show List.lookup f wz.scope.names=_;rw[hnm];exact beq_iff_eq.mp h2
def Bb(h:rQ iter=true):∀x,vw iter wz x=pure x:=fun x=>by
 cases iter<;>first |rfl |injection h
theorem FU(h:g9 gs=some g):gs=[⟨g.1,g.2.1,g.2.2,0⟩]:=by
 match gs,h with
 |[⟨a,b,c,d⟩],h=>
  revert h;refine xS fun h0 wj=>?_;subst wj;obtain rfl:d=0:=h0;rfl
section
variable {nm:List (Str×aT)}
theorem Iz{k:Const}(h:mD k=some x):bJ c wz wu (.Constant k n p) x:=by
 cases k with
 |int=>obtain rfl:=ah h;exact eC Hz rfl
 |str=>obtain rfl:=ah h;exact eC HJ rfl
 |bool=>obtain rfl:=ah h;exact eC Ii rfl
 |none=>obtain rfl:=ah h;exact eC Je rfl
 |_=>injection h
theorem mL(O:c.Ok)(TO:aY c T)(hnm:wz.scope.names=nm)(h:rW T nm wu y=some x):bJ c wz wu (.Name y p) x:=by
 revert h;refine xO fun h1 h=>?_;obtain⟨n1,n2⟩:=Dv h1;refine xC (wu.lookup y) (fun h2=>?_) fun i h2=>?_
 ·rw[h2] at h;revert h;refine xO fun h2 h=>?_;revert h;refine xM fun v h3 wj=>?_;subst wj;revert h3;refine xB fun g h4 h5=>?_;cases g with
  |val w=>
   obtain rfl:=ah h5;obtain⟨q,hr,hR⟩:=TO.val _ _ h4;refine eC (HR O ?_ hr hR n1) rfl;show List.lookup _ wz.scope.names=_;rw[hnm];exact beq_iff_eq.mp h2
  |_=>injection h5
 ·rw[h2] at h;obtain rfl:=ah h;exact eC (E2 h2 n1 n2) rfl
theorem Fi(ih:∀e x,r e=some x->bJ c wz wu e x){o:Option Expr}{y:Ex}(q:nU r o=some y):Af c wz wu o y:=by
 cases o with
 |none=>exact(ah q).symm
 |some e=>exact(ih _ _ q).1
theorem nS(ih:∀e x,r e=some x->bJ c wz wu e x){l i:Expr}(h:yK r l i=some x):bJ c wz wu (.Subscript l i p) x:=by
 revert h;refine xB fun a h1 h2=>?_;refine xC (mQ i) (fun hs=>?_) fun q hs=>?_
 ·rw[hs] at h2;revert h2;refine xM fun y h3 wj=>?_;subst wj;exact eC (Hw (ih _ _ h1).1 (ih _ _ h3).1) rfl
 ·rw[hs] at h2;obtain⟨lo,hi,st⟩:=q;obtain⟨p',rfl⟩:=F0 hs;cases st with
  |none=>
   refine xB (fun y h3 h4=>?_) (show(nU r lo).bind _=some x from h2);revert h4;refine xM fun z h5 wj=>?_;subst wj;exact eC (IP (ih _ _ h1).1 (Fi ih h3) (Fi ih h5)) rfl
  |some s=>
   obtain⟨⟨h3,h4,h5⟩,rfl⟩:=iI h2;obtain⟨k,q,q',rfl⟩:=E9 h3;obtain rfl:lo=none:=h4;obtain rfl:hi=none:=h5;exact eC (DG (ih _ _ h1).1) rfl
theorem pG(O:c.Ok)(TO:aY c T)(hnm:wz.scope.names=nm)(ih:∀e x,r e=some x->bJ c wz wu e x)(h1:nA nm f=true)(h2:T.g.lookup f=some .isi)(h:xp T nm r es=some x):bJ c wz wu (.Call (.Name f p) es [] p') x:=by
 match es,h with
 |[e,t],h=>
  revert h;refine xB fun t ht k=>?_;obtain⟨q,rfl⟩:=gC ht;revert k;refine xB fun tc h4 k=>?_;revert k;refine xB fun y h5 k6=>?_;obtain⟨⟨h6,h7⟩,rfl⟩:=iI k6;obtain⟨rfl,g1,g2⟩:=TO.isi _ h2;obtain⟨k1,_⟩:=q9 hnm h1;obtain⟨k2,k3⟩:=q9 hnm h6;cases TO.ty _ _ h4 with
  |mk S s1 s2 s3 s4=>subst s2;exact eC (KC O s1 k1 k2 g1 g2 s3 s4 k3 h7 (ih _ _ h5).1) rfl
  |own s1 s2=>subst s1;exact eC (Ip O TO.ex s2 k1 k2 g1 g2 k3 h7 (ih _ _ h5).1) rfl
theorem j0(O:c.Ok)(TO:aY c T)(hnm:wz.scope.names=nm)(ih:∀e x,r e=some x->bJ c wz wu e x){f:Expr}(h:jI T nm r f es p=some x):bJ c wz wu (.Call f es [] p) x:=by
 unfold jI at h;refine xC (fP f) (fun hf=>?_) fun f' hf=>?_
 ·rw[hf] at h;revert h;refine xB fun q ha h'=>?_;skip;obtain rfl:=HG ha;revert h';refine xB fun me h1 k=>?_;revert k;refine xB fun y h2 k2=>?_;revert k2;refine xB fun xs h3 k3=>?_;revert k3;refine xS fun h4 wj=>?_;subst wj;rw[om h1];exact eC (JE h4.1.2 h4.2.1 h4.2.2 (ih _ _ h2).1 (oX ih h3 h4.1.1)) rfl
 ·rw[hf] at h;obtain⟨p',rfl⟩:=gC hf;by_cases hj:f'=b7
  ·replace h:=(if_pos hj).symm.trans h;revert h;refine xB fun xs m3 h4=>?_;revert h4;refine xS fun h5 wj=>?_;subst wj;rw[hj];exact eC (Kf O TO.lam (oX ih m3 h5.1) h5.2) rfl
  replace h:=(if_neg hj).symm.trans h;revert h;refine xO fun h1 h=>?_;obtain⟨k1,k2⟩:=q9 hnm h1;revert h;refine xB fun g h2 h3=>?_;cases g with
  |fn=>
   refine xB (fun xs m3 h4=>?_) (show(aF r es).bind _=some x from h3);revert h4;refine xS fun h5 wj=>?_;subst wj;refine(TO.fn _ h2) _ fun a o fd g1 g2 g3=>?_;exact eC (Gl O k1 g1 g2 g3 k2 (oX ih m3 h5.1) h5.2) rfl
  |blt b=>
   refine xB (fun xs m3 h4=>?_) (show(aF r es).bind _=some x from h3);revert h4;refine xS fun h5 wj=>?_;subst wj;obtain⟨g1,g2⟩:=TO.blt _ _ h2;exact eC (Jh O k1 g1 g2 k2 (oX ih m3 h5.1) h5.2) rfl
  |isi=>exact pG O TO hnm ih h1 h2 h3
  |_=>injection h3
end
theorem iq(O:c.Ok)(TO:aY c T):∀n {nm:List (Str×aT)}{wu:Res}{nx:Nat}{e:Expr}{x:Ex}{wz:Env},eE T n nm wu nx e=some x->wz.scope.names=nm->wz.scope.kind=.function->bJ c wz wu e x
 |0,_,_,_,_,_,_,h,_,_=>nomatch h
 |n+1,nm,wu,nx,e,x,wz,h,hnm,hef=>by
  have ih:∀e x,eE T n nm wu nx e=some x->bJ c wz wu e x:=fun e x h=>iq O TO n h hnm hef;cases e with
  |Constant k i p=>exact Iz h
  |Name y p=>exact mL O TO hnm h
  |Tuple es k p=>
   refine xB (fun xs h1 h2=>?_) (show(aF _ es).bind _=some x from h);revert h2;refine xS fun h3 wj=>?_;subst wj;exact eC (JK (oX ih h1 h3.1) h3.2) rfl
  |List es p=>
   refine xB (fun xs h1 h2=>?_) (show(aF _ es).bind _=some x from h);revert h2;refine xS fun h3 wj=>?_;subst wj;exact eC (JX (oX ih h1 h3.1) h3.2) rfl
  |Dict ks vs p=>
   revert h;refine xS fun h3 wj=>?_;subst wj;obtain rfl:ks=[]:=h3.1;obtain rfl:vs=[]:=h3.2;exact eC (JJ O) rfl
  |BinOp l op r p=>
   refine xB (fun o h1 h2=>?_) (show(u3 op).bind _=some x from h);revert h2;refine xB fun a h3 h4=>?_;revert h4;refine xM fun b h5 wj=>?_;subst wj;rw[Gx h1];exact eC (JP O (ih _ _ h3).1 (ih _ _ h5).1) rfl
  |UnaryOp o l p=>
   refine xB (fun f h1 h2=>?_) (show(Fe o).bind _=some x from h);revert h2;refine xM fun a h3 wj=>?_;subst wj;cases o with
   |USub=>obtain rfl:=ah h1;exact eC (G2 (ih _ _ h3).1) rfl
   |Not=>obtain rfl:=ah h1;exact⟨J6 (ih _ _ h3).1,Iq (ih _ _ h3).2⟩
   |_=>injection h1
  |BoolOp o es p=>
   refine xM (fun xs h1 wj=>?_) (show(aF _ es).map _=some x from h);subst wj;cases o with
   |And=>exact⟨Kw (xT ih h1),Iy (yC ih h1)⟩
   |Or=>exact⟨lG (xT ih h1),GR (yC ih h1)⟩
  |Compare l ops es p=>
   refine xB (fun ps h1 h2=>?_) (show(aF _ ops).bind _=some x from h);revert h2;refine xB fun a h3 h4=>?_;revert h4;refine xB fun xs h5 h6=>?_;revert h6;refine xS fun h7 wj=>?_;subst wj;rw[Ea h1];exact⟨Hq (ih _ _ h3).1 (xT ih h5) h7.2 h7.1,IH (ih _ _ h3).1 (xT ih h5) h7.2 h7.1⟩
  |Subscript l i p=>exact nS ih h
  |Attribute o m p=>
   revert h;refine xO fun h1 h2=>?_;revert h2;refine xM fun a h3 wj=>?_;subst wj;exact eC (Hm TO.nt h1 (ih _ _ h3).1) rfl
  |Call f es kw p=>
   revert h;refine xO fun h3 h2=>?_;obtain rfl:kw=[]:=h3;exact j0 O TO hnm ih h2
  |ListComp elt gs scope p=>
   refine xB (fun g h1 h2=>?_) (show(g9 gs).bind _=some x from h);revert h2;refine xB fun q h3 h4=>?_;revert h3;refine xO fun h5 h6=>?_;revert h4;refine xB fun xs h7 h8=>?_;revert h8;refine xB fun y h9 h10=>?_;revert h10;refine xM fun ys h11 wj=>?_;subst wj;obtain rfl:=FU h1;have sub:∀wv:Env,wv.scope=ey scope wz->∀e x,eE T n (iX nm scope.names) q.1 q.2.2 e=some x->bJ c wv q.1 e x:=fun wv hcs e x h=>iq O TO n h (by rw[hcs];exact Ey hnm hef) (by rw[hcs];exact h5.1.2);exact eC (GU (DB (c:=c) hnm h5.1.1 h5.1.2 h6) (Bb h5.2) (ih _ _ h7).1 (fun wv hcs=>(sub wv hcs _ _ h9).1) fun wv hcs=>yC (sub wv hcs) h11) rfl
  |_=>injection h
end
variable {f:Stmt->Option St}{g:List Nat}{gs:List (List Nat)}{l r:Nat}{o:Option Gk}{x:St}
section
open PySem PyProof.Rows
noncomputable def iR(nm:List (Str×aT))(wu:Res)(y:Str):Option Nat:=
 (wu.lookup y).bind fun i=>if(nm.lookup y=some .local\/nm.lookup y=some .cell)/\y≠b7/\wu.fr=true then some i else none
noncomputable def nu(wu:Res):Bool:=decide ((wu.t.map (·.2)).Nodup)&&wu.t.all fun p=>decide (p.2<wu.n)
noncomputable def CF(nm:List (Str×aT))(wu:Res)(e:Expr):Option Nat:=(fP e).bind (iR nm wu)
noncomputable def Cy(nm:List (Str×aT))(wu:Res)(e:Expr):Option Tg:=match ev e with
 |.name x _ _=>(iR nm wu x).map .one
 |.tup es _ _ _=>(aF (CF nm wu) es).bind fun l=>match l with
  |[i,j]=>some (.two i j)
  |_=>none
 |_=>none
noncomputable def jx:Expr->Bool
 |.Tuple ..=>true
 |_=>false
noncomputable def B5:Expr->Bool
 |.ListComp .. |.SetComp .. |.DictComp ..=>true
 |_=>false
noncomputable def n9{α β:Type}(l:List α)(f:α->Option β):Option β:=match l with
 |[]=>none
 |x::r=>match r with
  |[]=>f x
  |_::_=>none
theorem DQ{l:List α}{f:α->Option β}{r:β}(h:n9 l f=some r):∃x,l=[x]/\f x=some r:=by
 cases l with
 |nil=>injection h
 |cons x l=>cases l with
  |nil=>exact⟨x,rfl,h⟩
  |cons=>injection h
noncomputable def oK(e:Expr):Option (Str×Expr):=match ev e with
 |.call f es kw _ _=>(fP f).bind fun x=>n9 es fun e=>if kw=[] then some (x,e) else none
 |_=>none
theorem EK{i:Expr}{f:Str}(h:oK i=some (f,e)):∃p p',i=.Call (.Name f p) [e] [] p':=by
 unfold oK at h;generalize ev i=v at h;cases v with
 |call g es kw p' q=>
  revert h;refine xB fun x h1 k=>?_;obtain⟨e',rfl,k2⟩:=DQ k;revert k2;refine xS fun h2 k3=>?_;obtain⟨p,rfl⟩:=gC h1;(injection k3 with Ja Jb;subst Jb;subst Ja);obtain rfl:kw=[]:=h2;exact⟨p,p',q⟩
 |_=>injection h
noncomputable def Ha(r:Expr->Option Ex)(tg:Expr)(e:Expr)(dflt:Option Sr)(g:Gk):Option Sr:=match g with
 |.enum=>if jx tg=true then(r e).map .enum else none
 |.rev=>(r e).map .rev
 |_=>dflt
noncomputable def De(T:Tab)(n:Nat)(nm:List (Str×aT))(wu:Res)(nx:Nat)(tg:Expr)(iter:Expr):Option Sr:=
 match(oK iter).bind fun q=>if nA nm q.1=true/\dA q.2=true then(T.g.lookup q.1).map fun g=>(q,g) else none with
 |some q=>Ha (eE T n nm wu nx) tg q.1.2 ((eE T n nm wu nx iter).map .val) q.2
 |none=>(eE T n nm wu nx iter).map .val
noncomputable def yj(T:Tab)(n:Nat)(nm:List (Str×aT))(wu:Res)(nx:Nat)(e:Expr)(t:Expr):Option St:=match ev t with
 |.name y _ _=>(iR nm wu y).bind fun i=>(eE T n nm wu nx e).map fun x=>.set i x
 |.tup es _ _ _=>(aF (CF nm wu) es).bind fun is=>(eE T n nm wu nx e).bind fun x=>if jx e=false then some (.unp is x) else none
 |.sub o i _ _=>(eE T n nm wu nx o).bind fun a=>(eE T n nm wu nx i).bind fun j=>(eE T n nm wu nx e).map fun x=>.put a j x
 |_=>none
noncomputable def yu(T:Tab)(n:Nat)(nm:List (Str×aT))(wu:Res)(nx:Nat)(cn:Str)(es:List Expr)(kw:List Keyword):Option St:=
 if nA nm cn=true/\cn=ao "BadNet"/\kw=[]/\es.all dA=true/\es.length=1 then(aF (eE T n nm wu nx) es).map (.rais cn) else some .stuck
noncomputable def tI(T:Tab)(n:Nat)(nm:List (Str×aT))(wu:Res)(nx:Nat)(e:Expr):Option St:=match ev e with
 |.call f es kw _ _=>match fP f with
  |some cn=>if nA nm cn=true/\cn∈kids/\cn≠ao "BadNet"/\kw=[]/\es.all dA=true/\es≠[]/\es.length<=9 then(aF (eE T n nm wu nx) es).map (.rais cn) else yu T n nm wu nx cn es kw
  |none=>some .stuck
 |_=>some .stuck
structure Hand where
 t:Expr
 n:Str
 h:Stmt
 hs:List Stmt
 p:Pos
noncomputable def GK:List Stmt->Option (Stmt×List Stmt)
 |[]=>none
 |h::hs=>some (h,hs)
noncomputable def yZ:ExceptHandler->Option Hand
 |.ExceptHandler t n b p=>t.bind fun t=>n.bind fun n=>(GK b).map fun q=>⟨t,n,q.1,q.2,p⟩
noncomputable def Bv(l:List ExceptHandler):Option Hand:=match l with
 |[]=>none
 |a::r=>match r with
  |[]=>yZ a
  |_::_=>none
theorem Hu {l:List ExceptHandler} {k:Hand} (h:Bv l=some k):l=[.ExceptHandler (some k.t) (some k.n) (k.h::k.hs) k.p]:=by
 cases l with
 |nil=>injection h
 |cons a r=>cases r with
  |cons=>cases h
  |nil=>
   obtain⟨t,n,b,p⟩:=a;refine xB (fun t wj h=>?_) (show t.bind _=_ from h);subst wj;revert h;refine xB fun n wj h=>?_;subst wj;revert h;refine xM fun q hb wj=>?_;subst wj;cases b with
   |nil=>cases hb
   |cons s hs=>obtain rfl:=ah hb;rfl
noncomputable def uM (f:Stmt->Option St) (nm:List (Str×aT)) (wu:Res) (b:List Stmt) (hs:List ExceptHandler) (els fin:List Stmt):Option St:=match Bv hs with
 |some k=>if els=[]/\fin=[]/\fP k.t=some (ao "NetError")/\nA nm (ao "NetError")=true/\nm.lookup k.n=some .local then
   (iR nm wu k.n).bind fun i=>(aF f b).bind fun xb=>(aF f (k.h::k.hs)).map fun xh=>.tri xb i xh else some .stuck
 |none=>some .stuck
noncomputable def Dm:Option Ex->St
 |some x=>.ret x
 |none=>.stuck
noncomputable def eS(T:Tab):Nat->List (Str×aT)->Res->Nat->Stmt->Option St
 |0,_,_,_,_=>none
 |n+1,nm,wu,nx,st=>match st with
  |.Assign ts e _=>n9 ts (yj T n nm wu nx e)
  |.Expr e _=>if B5 e=false then(eE T n nm wu nx e).map .expr else none
  |.Return o _=>o.bind fun e=>some (Dm (eE T n nm wu nx e))
  |.If t a b _=>(eE T n nm wu nx t).bind fun x=>(aF (eS T n nm wu nx) a).bind fun xa=>(aF (eS T n nm wu nx) b).map fun xb=>.ite x xa xb
  |.While t b els _=>if els=[] then(eE T n nm wu nx t).bind fun x=>(aF (eS T n nm wu nx) b).map fun xb=>.whil x xb else none
  |.For tg iter b els _=>if rQ iter=true/\els=[] then(Cy nm wu tg).bind fun t=>(De T n nm wu nx tg iter).bind fun sr=>(aF (eS T n nm wu nx) b).map fun xb=>.loop t sr xb else none
  |.Raise o q _=>(match o,q with |some e,none=>tI T n nm wu nx e |_,_=>some .stuck)
  |.Try b hs els fin _=>uM (eS T n nm wu nx) nm wu b hs els fin
  |_=>none
section
variable {nm:List (Str×aT)}
theorem Fd:∀{l:List (Str×Nat)},(l.map (·.2)).Nodup->∀{x y:Str} {i:Nat},l.lookup x=some i->l.lookup y=some i->x=y
 |[],_,_,_,_,h,_=>by simp at h
 |(k,v)::l,hn,x,y,i,hx,hy=>by
  rw[er,mT] at hn;rw[cW] at hx hy;have notin:∀{z:Str},l.lookup z=some i->v≠i:=fun{z} hz q=>hn.1 (by
   rw[List.mem_map];exact⟨(z,i),fT hz,q.symm⟩)
  refine xD (x==k) (fun h1=>?_) fun h1=>?_
  ·rw[h1] at hx;simp at hx;refine xD (y==k) (fun h2=>?_) fun h2=>?_
   ·rw[beq_iff_eq.mp h1,beq_iff_eq.mp h2]
   ·rw[h2] at hy;exact absurd hx (notin hy)
  ·rw[h1] at hx;refine xD (y==k) (fun h2=>?_) fun h2=>?_
   ·rw[h2] at hy;simp at hy;exact absurd hy (notin hx)
   ·rw[h2] at hy;exact Fd hn.2 hx hy
def yP (hr:nu wu=true) (hnm:wz.scope.names=nm) (h:iR nm wu y=some i):a0 aM wz wu wu y i:=by
 revert h;refine xB fun j hj h=>?_;revert h;refine xS fun hc wj=>?_;subst wj;revert hr;refine xA fun r1 r2=>?_;have hk:wz.kindOf y=nm.lookup y:=by rw[<- hnm];rfl
 refine⟨⟨rfl,rfl,fun z k hz=>?_,of_decide_eq_true (dQ.mp r2 _ (fT hj)),hc.2.1,.inr hc.2.2⟩,?_⟩
 ·by_cases q:z=y
  ·subst q;exact .inl ⟨rfl,ah (hz.symm.trans hj)⟩
  ·exact .inr ⟨q,hz,fun e=>q (Fd (of_decide_eq_true r1) hz (e▸hj))⟩
 ·rw[hk];exact hc.1.imp id fun h=>⟨rfl,h⟩
theorem AV(hr:nu wu=true)(hnm:wz.scope.names=nm):∀{es:List Expr}{is:List Nat},aF (CF nm wu) es=some is->tK aM wz wu wu es is
 |[],is,h=>by obtain rfl:=ah h;exact⟨rfl,rfl⟩
 |e::es,is,h=>by
  refine(gi h) _ fun i is h1 h2 wk=>?_;subst wk;revert h1;refine xB fun x h3 h4=>?_;obtain⟨p,rfl⟩:=gC h3;exact⟨x,p,wu,rfl,yP hr hnm h4,AV hr hnm h2⟩
theorem tR(hr:nu wu=true)(hnm:wz.scope.names=nm)(h:Cy nm wu tg=some t):jR aM wz wu wu tg t:=by
 unfold Cy at h;generalize ev tg=v at h;cases v with
 |name x p e=>
  revert h;refine xM fun i h1 wj=>?_;subst wj;exact⟨x,p,e,yP hr hnm h1⟩
 |tup es k p e=>
  revert h;refine xB fun l h1 k2=>?_;match l,k2,h1 with
  |[i,j],k2,h1=>
   obtain rfl:=ah k2;exact⟨es,k,p,e,AV hr hnm h1⟩
 |_=>injection h
def rz:eN c wz wu X st .stuck:=fun A q d k loc φ H s Q E hA hh hF hS hw=>False.elim hw
def DP{t:Option Expr}(h:B5 e=false):swapsWith e t l wz=pure false:=by
 cases e<;>first |rfl |injection h
def Hf:swapsWithSole [.Tuple es k p] e l wz=pure false:=by cases e<;>rfl
def Kx(h:jx e=false):swappedStores [.Tuple es k p] e wz=pure none:=by cases e<;>first |rfl |injection h
def Kt{o i:Expr}:swapsWith e (some (.Subscript o i p)) l wz=pure false:=by cases e<;>rfl
theorem J3(O:c.Ok)(TO:aY c T)(h:De T n nm wu nx tg iter=some sr)(hnm:wz.scope.names=nm)(hef:wz.scope.kind=.function):vG c wz wu tg iter sr:=by
 have val:(eE T n nm wu nx iter).map .val=some sr->vG c wz wu tg iter sr:=fun h=>by
  revert h;refine xM fun x h1 wj=>?_;subst wj;exact uh (iq O TO n h1 hnm hef).1
 unfold De at h;refine xC (((oK iter).bind fun q=>if nA nm q.1=true/\dA q.2=true then(T.g.lookup q.1).map fun g=>(q,g) else none)) (fun hs=>?_) fun q hs=>?_
 ·rw[hs] at h;exact val h
 ·rw[hs] at h;obtain⟨⟨f,e⟩,h1,h2⟩:=uJ.mp hs;revert h2;refine xO fun h3 h4=>?_;revert h4;refine xM fun g h5 wj=>?_;subst wj;obtain⟨k1,k2⟩:=q9 hnm h3.1;cases g with
  |enum=>
   obtain⟨p,p',rfl⟩:=EK h1;obtain⟨g1,g2⟩:=TO.enum _ h5;revert h;refine xO fun ht h=>?_;revert h;refine xM fun x h6 wj=>?_;subst wj;cases tg with
   |Tuple=>exact nM O k1 g1 g2 k2 h3.2 (iq O TO n h6 hnm hef).1
   |_=>injection ht
  |rev=>
   obtain⟨p,p',rfl⟩:=EK h1;obtain⟨g1,g2⟩:=TO.rev _ h5;revert h;refine xM fun x h6 wj=>?_;subst wj;exact uv O k1 g1 g2 k2 h3.2 (iq O TO n h6 hnm hef).1
  |_=>exact val h
theorem GQ(O:c.Ok)(TO:aY c T){x:Ex}(hX:aO aM wz X)(hy:a0 aM wz wu wu y i)(h:eE T n nm wu nx e=some x)(hnm:wz.scope.names=nm)(hef:wz.scope.kind=.function) :
  eN c wz wu X (.Assign [.Name y py] e pos) (.set i x):=by
 refine xD (B5 e) (fun hc=>?_) fun hc=>?_
 ·cases n with
  |zero=>injection h
  |succ n=>
   cases e with
   |ListComp elt gs scope cpos=>
    refine xD ((wz.blockKind==.function&&wz.kindOf y==some .local&&py.line==cpos.line&&!(scope.names.any fun(n,k)=>n==y&&(k==.local||k==.cell)))) (fun hb=>?_) fun hb=>?_
    ·refine xB (fun g h1 h2=>?_) (show(g9 gs).bind _=some x from h);revert h2;refine xB fun q h3 h4=>?_;revert h3;refine xO fun h5 h6=>?_;revert h4;refine xB fun xs h7 h8=>?_;revert h8;refine xB fun z h9 h10=>?_;revert h10;refine xM fun ys h11 wj=>?_;subst wj;obtain rfl:=FU h1;have sub:∀wv:Env,wv.scope=ey scope wz->∀e x,eE T n (iX nm scope.names) q.1 q.2.2 e=some x->bJ c wv q.1 e x:=fun wv hcs e x h=>iq O TO n h (by rw[hcs];exact Ey hnm hef) (by rw[hcs];exact h5.1.2);refine Jx hX (DB (c:=c) hnm h5.1.1 h5.1.2 h6) (Bb h5.2) (iq O TO n h7 hnm hef).1 (fun wv hcs=>(sub wv hcs _ _ h9).1) (fun wv hcs=>yC (sub wv hcs) h11) ?_ hy;show(pure _:Sem Bool)=pure true;rw[<- hb];rfl
    ·refine FQ hX (iq O TO (n+1) h hnm hef).1 ?_ hy;show(pure _:Sem Bool)=pure false;rw[<- hb];rfl
   |_=>first |(cases hc;done) |(injection h;done)
 ·exact FQ hX (iq O TO n h hnm hef).1 (DP hc) hy
def yq{p:Prop} [Decidable p]{o:Option α}{z b:α}{P:Prop}(h:(if p then o else some z)=some b)(h1:p->o=some b->P)(h2:z=b->P):P:=by
 by_cases q:p
 ·rw[if_pos q] at h;exact h1 q h
 ·rw[if_neg q] at h;exact h2 (ah h)
def BA{p:Prop} [Decidable p]{o o':Option α}{b:α}{P:Prop}(h:(if p then o else o')=some b)(h1:p->o=some b->P)(h2:o'=some b->P):P:=by
 by_cases q:p
 ·rw[if_pos q] at h;exact h1 q h
 ·rw[if_neg q] at h;exact h2 h
theorem Kj(O:c.Ok)(TO:aY c T)(hX:aO aM wz X)(hnm:wz.scope.names=nm)(hef:wz.scope.kind=.function){kw:List Keyword}(h:yu T n nm wu nx cn es kw=some x) :
  eN c wz wu X (.Raise (some (.Call (.Name cn np) es kw cpos)) none pos) x:=by
 refine yq h (fun hc g=>?_) fun g=>?_
 ·clear h;obtain⟨h1,rfl,rfl,h5,h6⟩:=hc;revert g;refine xM fun xs h8 wj=>?_;subst wj;obtain⟨k1,k2⟩:=q9 hnm h1;have hs:=oX (fun e x h=>iq O TO n h hnm hef) h8 h5;have hl:=Df h8;rw[h6] at hl;cases LV.of es with
  |one e1=>
   cases LV.of xs with
   |one x1=>exact G8 O TO.nt hX k1 hs
   |_=>cases hl
  |_=>cases h6
 ·subst g;exact rz
theorem JN(O:c.Ok)(TO:aY c T)(hX:aO aM wz X)(hnm:wz.scope.names=nm)(hef:wz.scope.kind=.function)(h:tI T n nm wu nx e=some x):eN c wz wu X (.Raise (some e) none pos) x:=by
 unfold tI at h;generalize ev e=v at h;cases v with
 |call f es kw p q=>
  replace h:(match fP f with |some cn=>_ |none=>some St.stuck)=some x:=h;refine xC (fP f) (fun hf=>?_) fun cn hf=>?_
  ·rw[hf] at h;obtain rfl:=ah h;exact rz
  ·rw[hf] at h;refine BA h (fun hc g=>?_) fun g=>?_
   ·clear h;obtain⟨h1,h2,h3,rfl,h5,h6,h7⟩:=hc;revert g;refine xM fun xs h8 wj=>?_;subst wj;obtain⟨p',rfl⟩:=gC hf;obtain⟨k1,k2⟩:=q9 hnm h1;rw[q];exact KA O TO.ex hX h2 h3 k1 k2 (oX (fun e x h=>iq O TO n h hnm hef) h8 h5) h6 (Df h8▸h7)
   ·obtain⟨p',rfl⟩:=gC hf;rw[q];exact Kj O TO hX hnm hef g
 |_=>obtain rfl:=ah h;exact rz
def Jy(O:c.Ok)(TO:aY c T)(hX:aO aM wz X)(hr:nu wu=true)(hnm:wz.scope.names=nm)(hf:∀{ss:List Stmt}{xs:List St},aF f ss=some xs->gE c wz wu X ss xs){els fin:List Stmt}{hs:List ExceptHandler} (h:uM f nm wu b hs els fin=some x):eN c wz wu X (.Try b hs els fin pos) x:=by
 unfold uM at h;refine xC (Bv hs) (fun hh=>?_) fun k hh=>?_
 ·rw[hh] at h;obtain rfl:=ah h;exact rz
 ·rw[hh] at h;refine yq h (fun hc g=>?_) fun g=>?_
  ·clear h;obtain⟨rfl,rfl,h3,h4,h5⟩:=hc;refine xB (fun i h6 g2=>?_) g;refine xB (fun xb h7 g3=>?_) g2;refine xM (fun xh h8 wj=>?_) g3;subst wj;obtain rfl:=Hu hh;obtain⟨p',ht⟩:=gC h3;rw[ht];refine xB (fun j hj h9=>?_) h6;refine xS (fun Z wj=>?_) h9;subst wj;exact HL O TO.ex hX (hf h7) (hf h8) (q9 hnm h4).1 (yP hr hnm h6) (by rw[<- hnm] at h5;exact h5) hj
  ·subst g;exact rz
theorem xx(O:c.Ok)(TO:aY c T)(hX:aO aM wz X)(hr:nu wu=true)(hnm:wz.scope.names=nm)(hef:wz.scope.kind=.function):∀n {nx:Nat}{st:Stmt}{x:St},eS T n nm wu nx st=some x->eN c wz wu X st x
 |0,_,_,_,h=>nomatch h
 |n+1,nx,st,x,h=>by
  have ih:=@xx O TO hX hr hnm hef n;have list:∀{ss:List Stmt} {xs:List St},aF (eS T n nm wu nx) ss=some xs->gE c wz wu X ss xs:=fun{ss}=>by
   induction ss with
   |nil=>intro xs h;obtain rfl:=ah h;exact Ce
   |cons s ss ihs=>
    intro xs h;refine(gi h) _ fun y ys h1 h2 wk=>?_;subst wk;exact w8 (ih h1) (ihs h2)
  have es:∀{e:Expr} {x:Ex},eE T n nm wu nx e=some x->bJ c wz wu e x:=fun h=>iq O TO n h hnm hef;cases st with
  |Assign ts e p=>
   obtain⟨t,rfl,k⟩:=DQ (show n9 ts _=some x from h);clear h;unfold yj at k;generalize ev t=v at k;cases v with
   |name y p q=>
    revert k;refine xB fun i h1 k=>?_;revert k;refine xM fun z h2 wj=>?_;subst wj;rw[q];exact GQ O TO hX (yP hr hnm h1) h2 hnm hef
   |tup es' y p q=>
    revert k;refine xB fun is h1 k=>?_;revert k;refine xB fun z h2 k=>?_;revert k;refine xS fun h3 wj=>?_;subst wj;rw[q];exact Gw hX (es h2).1 Hf (Kx h3) (AV hr hnm h1)
   |sub o i p q=>
    revert k;refine xB fun a h1 k=>?_;revert k;refine xB fun j h2 k=>?_;revert k;refine xM fun z h3 wj=>?_;subst wj;rw[q];exact GI hX (es h1).1 (es h2).1 (es h3).1 Kt
   |_=>injection k
  |Expr e p=>
   revert h;refine xO fun h1 k=>?_;revert k;refine xM fun y h2 wj=>?_;subst wj;exact GM hX (es h2).1 (DP h1)
  |Return o p=>
   refine xB (fun e wj k=>?_) (show o.bind _=some x from h);subst wj;obtain rfl:=ah k;refine xC (eE T n nm wu nx e) (fun h2=>?_) fun y h2=>?_
   ·exact rz
   ·exact Es hX (es h2).1
  |If t a b p=>
   refine xB (fun y h1 k=>?_) (show(eE T n nm wu nx t).bind _=some x from h);revert k;refine xB fun xa h2 k=>?_;revert k;refine xM fun xb h3 wj=>?_;subst wj;exact JB hX (es h1).2 (list h2) (list h3)
  |While t b els p=>
   revert h;refine xO fun h0 k=>?_;obtain rfl:els=[]:=h0;revert k;refine xB fun y h1 k=>?_;revert k;refine xM fun xb h2 wj=>?_;subst wj;exact Jj hX (es h1).2 (list h2)
  |For tg iter b els p=>
   revert h;refine xO fun h0 k=>?_;obtain rfl:els=[]:=h0.2;revert k;refine xB fun t h2 k=>?_;revert k;refine xB fun sr h3 k=>?_;revert k;refine xM fun xb h4 wj=>?_;subst wj;exact GS hX (Bb h0.1) (J3 O TO h3 hnm hef) (tR hr hnm h2) (list h4)
  |Raise o q p=>
   cases o with
   |none=>obtain rfl:=ah h;exact rz
   |some e=>cases q with
    |none=>exact JN O TO hX hnm hef h
    |some _=>obtain rfl:=ah h;exact rz
  |Try b hs els fin p=>exact Jy O TO hX hr hnm list h
  |_=>injection h
end
end
variable {b:Expr}{es:List Ex}{np t x:Nat}{p:qbj}{y:Ex×Nat×Nat}
section
open PySem PyProof.Rows
theorem E8:∀{ps:List Str}{vals:List Value},vals.length=ps.length->∀n∈ps,((ps.zip vals).lookup n).isSome=true
 |[],_,_,n,hn=>by cases hn
 |p::ps,v::vals,hl,n,hn=>by
  rw[List.zip_cons_cons,cW];refine xD (n==p) (fun hb=>?_) fun hb=>?_
  ·rfl
  ·rcases bc.mp hn with rfl |hn
   ·simp at hb
   ·exact E8 (by simpa using hl) n hn
 |_::_,[],hl,_,_=>by simp at hl
theorem FI{f g:α->Option β}:∀{l:List α},(∀a∈l,f a=g a)->l.filterMap f=l.filterMap g
 |[],_=>rfl
 |a::l,h=>by
  rw[List.filterMap_cons,List.filterMap_cons,h a aL,FI fun b hb=>h b (a9 _ hb)]
theorem D1:∀{ps:List Str}{vals:List Value},ps.Nodup->vals.length=ps.length->ps.filterMap (fun n=>((ps.zip vals).lookup n).map (n,·))=ps.zip vals
 |[],_,_,_=>by simp
 |p::ps,v::vals,hn,hl=>by
  rw[mT] at hn;rw[List.zip_cons_cons,List.filterMap_cons];simp only[List.lookup_cons_self,Option.map_some];congr 1;have ih:=D1 hn.2 (show vals.length=ps.length by simpa using hl);rw[<- ih];refine FI fun n hm=>?_;have hne:(n==p)=false:=by
   rw[beq_eq_false_iff_ne];rintro rfl;exact hn.1 hm
  rw[cW,hne,ih]
 |_::_,[],_,hl=>by simp at hl
def yp(hdv:fd.defaults=.none)(hkv:fd.kwdefaults=.none)(h1:fd.params.posonlyargs=[])(h2:fd.params.kwonlyargs=[])(h3:fd.params.vararg=none)(h4:fd.params.kwarg=none) (hn:(fd.params.args.map (·.arg)).Nodup) (vals:List Value) (hl:vals.length=(fd.params.args.map (·.arg)).length):bindArgs fd ⟨vals,[]⟩=pure ((fd.params.args.map (·.arg)).zip vals):=by
 obtain⟨_,_,⟨pos,args,va,ko,kd,ka,df⟩,_,_,_,_,dv,kv,_,_,_,_,_,_⟩:=fd;dsimp only at hdv hkv h1 h2 h3 h4 hn hl ⊢;subst hdv hkv h1 h2 h3 h4;generalize hg:args.map (·.arg)=l at hn hl ⊢;have hmiss:¬((!((l.take (l.length-(List.drop (0-l.length) ([]:List Value)).length)).filter (fun n=>((l.zip vals).lookup n).isNone)).isEmpty)=true):=by
  rw[List.drop_nil,List.length_nil,Nat.sub_zero,List.take_length,List.filter_eq_nil_iff.mpr]
  ·exact fun h=>nomatch h
  ·intro n hm h;have:=E8 hl n hm;rw[jw.mp h] at this;injection this
 subst hg;refine(if_neg (c:=(decide (vals.length>(args.map (·.arg)).length)&&true)=true) ?_).trans ((if_neg hmiss).trans ?_)
 ·rw[hl,decide_eq_false (eI _)];exact fun h=>nomatch h
 ·have e:∀{α:Type} (k:Nat) (m:List (Str×Value)->Sem α) (f:Str×Value->List (Str×Value)->Sem (ForInStep (List (Str×Value)))) (s:List (Str×Value)),(forIn (((args.map (·.arg)).drop k).zip (List.drop (0-(args.map (·.arg)).length) ([]:List Value))) s f >>=m)=m s:=fun k m f s=>by
   rw[List.drop_nil,List.zip_nil_right,List.forIn_nil,pure_bind]
  refine(e _ _ _ _).trans ?_;show(pure ((args.map (fun x=>Arg.arg x)++[]).filterMap _):Sem (List (Str×Value)))=_;rw[fA];exact congrArg pure (D1 hn hl)
noncomputable def slots(names:List (Str×aT)):List Str:=(names.filter fun p=>(p.2==.local||p.2==.cell)&&p.1!=b7).map (·.1)
noncomputable def fJ(names:List (Str×aT))(r:Nat):Res:=⟨true,(slots names).length+r,(slots names).zip (List.range (slots names).length)⟩
noncomputable def zr(names:List (Str×aT))(x:Str):Bool:=names.lookup x==some .local||names.lookup x==some .cell
noncomputable def vm(nm:List (Str×aT))(wu:Res):List Str->Nat->Bool
 |[],i=>decide (i<=wu.n)
 |x::r,i=>iR nm wu x==some i&&vm nm wu r (i+1)
structure Bj(e:ez)(r:Nat):Prop where
 p1:e.params.posonlyargs=[]
 p2:e.params.kwonlyargs=[]
 p3:e.params.vararg=none
 p4:e.params.kwarg=none
 p5:(e.params.args.map (·.arg)).Nodup
 p6:e.scope.kind=.function
 p7:e.scope.isCoroutine=false
 p8:e.scope.isGenerator=false
 p10:nu (fJ e.scope.names r)=true
 p11:(slots e.scope.names).all (zr e.scope.names)=true
 p12:vm e.scope.names (fJ e.scope.names r) (e.params.args.map (·.arg)) 0=true
noncomputable def lL(e:ez)(r:Nat):Bool:=
 e.params.posonlyargs.isEmpty&&(e.params.kwonlyargs.isEmpty&&(e.params.vararg.isNone&&(e.params.kwarg.isNone&&(decide ((e.params.args.map (·.arg)).Nodup) &&
 (e.scope.kind==.function&&(!e.scope.isCoroutine&&(!e.scope.isGenerator&&(nu (fJ e.scope.names r)&&((slots e.scope.names).all (zr e.scope.names)&&vm e.scope.names (fJ e.scope.names r) (e.params.args.map (·.arg)) 0)))))))))
def EI{e:ez}(h:lL e r=true):Bj e r:=by
 revert h;refine xA fun p1 h=>?_;revert h;refine xA fun p2 h=>?_;revert h;refine xA fun p3 h=>?_;revert h;refine xA fun p4 h=>?_;revert h;refine xA fun p5 h=>?_;revert h;refine xA fun p6 h=>?_;revert h;refine xA fun p7 h=>?_;revert h;refine xA fun p8 h=>?_;revert h;refine xA fun p10 h=>?_;revert h;refine xA fun p11 p12=>?_;exact⟨gj.mp p1,gj.mp p2,jw.mp p3,jw.mp p4,of_decide_eq_true p5,beq_iff_eq.mp p6,(iu _).mp p7,(iu _).mp p8,p10,p11,p12⟩
noncomputable def sd(T:Tab)(fuel r:Nat)(e:ez):Option (List St):=
 if lL e r=true then aF (eS T fuel e.scope.names (fJ e.scope.names r) (slots e.scope.names).length) e.body else none
theorem tH{nm:List (Str×aT)}(hr:nu wu=true)(hnm:wz.scope.names=nm):∀{ps:List Str}{i:Nat},vm nm wu ps i=true->vW wz wu ps i/\i+ps.length<=wu.n
 |[],_,h=>⟨trivial,of_decide_eq_true h⟩
 |x::ps,i,h=>by
  revert h;refine xA fun h1 h2=>?_;obtain⟨h3,h4⟩:=tH hr hnm h2;refine⟨⟨yP hr hnm (beq_iff_eq.mp h1),h3⟩,?_⟩;rw[eU,Nat.add_comm ps.length 1,<-Nat.add_assoc];exact h4
theorem AG(hf:∀st x,f st=some x->eN c wz wu X st x):∀{ss:List Stmt}{xs:List St},aF f ss=some xs->gE c wz wu X ss xs
 |[],_,h=>by obtain rfl:=ah h;exact Ce
 |s::ss,_,h=>by
  refine(gi h) _ fun y ys h1 h2 wk=>?_;subst wk;exact w8 (hf _ _ h1) (AG hf h2)
inductive cB(c:Cx)(e:ez):Prop
 |mk (a cc:Addr)(o:Obj)(pm doc:Value)(g1:c.g e.name=some (.ref a))(g2:c.h0.get? a=some o)(g3:o.data=.func (Calls.docDef e.name e.params e.body e.scope pm (.ref cc) doc))(g4:c.h0.CodeRec (.ref cc) e.name):cB c e
def Jm(O:c.Ok)(TO:aY c T){e:ez}(hat:cB c e)(he:sd T fuel r e=some xs)(wq:vs.length=e.params.args.length) (hw:az (Calls c) q d none xs (cK Q) (dM E) (vs.map some++List.replicate ((slots e.scope.names).length+r-vs.length) none) H):Calls c q (d+1) e.name vs none Q E H:=by
 revert he;refine xO fun hok he=>?_;have P:=EI hok;obtain⟨a,cc,o,pm,doc,g1,g2,g3,g4⟩:=hat;have K:eY c e.name a o (Calls.docDef e.name e.params e.body e.scope pm (.ref cc) doc) e.body (e.params.args.map (·.arg)) (e.params.args.map (·.arg)) (fJ e.scope.names r):=by
  refine⟨g1,g2,g3,g4,rfl,rfl,rfl,rfl,P.p6,P.p7,P.p8,fun vals hl=>yp rfl rfl P.p1 P.p2 P.p3 P.p4 P.p5 vals hl,rfl,fun x i hx=>?_,fun L=>(tH P.p10 rfl P.p12).1,?_⟩
  ·exact(nD.mp (dQ.mp P.p11 x (List.of_mem_zip (fT (show List.lookup x _=some i from hx))).1)).imp beq_iff_eq.mp beq_iff_eq.mp
  ·have:=(tH (wz:=bX (Calls.docDef e.name e.params e.body e.scope pm (.ref cc) doc) 0 a) P.p10 rfl P.p12).2;rw[Nat.zero_add] at this;exact this
 exact EY O K (xs:=xs) (fun L hX=>AG (fun Z Z h=>xx O TO hX P.p10 rfl P.p6 fuel h) he) (by rw[wq,aG]) hw
end
variable {f:Addr}
section
open PySem PyProof.Rows
structure AZ(e:ez)(r:Nat)(ps:List Str):Prop where
 p1:e.params.posonlyargs=[]
 p2:e.params.kwonlyargs=[]
 p3:e.params.vararg=none
 p4:e.params.kwarg=none
 p5:(e.params.args.map (·.arg)).Nodup
 p6:e.scope.kind=.function
 p7:e.scope.isCoroutine=false
 p8:e.scope.isGenerator=false
 p10:nu (fJ e.scope.names r)=true
 p11:(slots e.scope.names).all (zr e.scope.names)=true
 p12:vm e.scope.names (fJ e.scope.names r) ps 0=true
 p13:e.params.args.map (·.arg)=ps++[b7]
 p14:e.scope.names.lookup b7=some .local
noncomputable def m7(e:ez)(r:Nat)(ps:List Str):Bool:=
 e.params.posonlyargs.isEmpty&&(e.params.kwonlyargs.isEmpty&&(e.params.vararg.isNone&&(e.params.kwarg.isNone&&(decide ((e.params.args.map (·.arg)).Nodup) &&
 (e.scope.kind==.function&&(!e.scope.isCoroutine&&(!e.scope.isGenerator&&(nu (fJ e.scope.names r)&&((slots e.scope.names).all (zr e.scope.names)&&(vm e.scope.names (fJ e.scope.names r) ps 0 &&
 (decide (e.params.args.map (·.arg)=ps++[b7])&&e.scope.names.lookup b7==some .local)))))))))))
def Kh{e:ez}(h:m7 e r ps=true):AZ e r ps:=by
 revert h;refine xA fun p1 h=>?_;revert h;refine xA fun p2 h=>?_;revert h;refine xA fun p3 h=>?_;revert h;refine xA fun p4 h=>?_;revert h;refine xA fun p5 h=>?_;revert h;refine xA fun p6 h=>?_;revert h;refine xA fun p7 h=>?_;revert h;refine xA fun p8 h=>?_;revert h;refine xA fun p10 h=>?_;revert h;refine xA fun p11 h=>?_;revert h;refine xA fun p12 h=>?_;revert h;refine xA fun p13 p14=>?_;exact⟨gj.mp p1,gj.mp p2,jw.mp p3,jw.mp p4,of_decide_eq_true p5,beq_iff_eq.mp p6,(iu _).mp p7,(iu _).mp p8,p10,p11,p12,of_decide_eq_true p13,beq_iff_eq.mp p14⟩
noncomputable def rV(T:Tab)(fuel r:Nat)(ps:List Str)(e:ez):Option (List St):=
 if m7 e r ps=true then aF (eS T fuel e.scope.names (fJ e.scope.names r) (slots e.scope.names).length) e.body else none
def IY:(fJ names r).lookup b7=none:=by
 refine xC ((fJ names r).lookup b7) (fun h=>?_) fun i h=>?_
 ·rfl
 ·have hm:=(List.of_mem_zip (fT (show List.lookup b7 _=some i from h))).1;revert hm;refine xL fun p hp e=>?_;have:=(eQ.mp (List.mem_filter.mp hp).2).2;rw[e] at this;exact absurd rfl (bne_iff_ne.mp this)
def GY(O:c.Ok)(TO:aY c T){e:ez}(hat:cB c e)(he:rV T fuel r ps e=some xs)(wq:vs.length=ps.length) (hw:az (Calls c) q d (some (kk,z)) xs (cK Q) (dM E) (vs.map some++List.replicate ((slots e.scope.names).length+r-vs.length) none) H):Calls c q (d+1) e.name vs (some (kk,z)) Q E H:=by
 revert he;refine xO fun hok he=>?_;have P:=Kh hok;obtain⟨a,cc,o,pm,doc,g1,g2,g3,g4⟩:=hat;have K:eY c e.name a o (Calls.docDef e.name e.params e.body e.scope pm (.ref cc) doc) e.body ps (ps++[b7]) (fJ e.scope.names r):=by
  refine⟨g1,g2,g3,g4,rfl,rfl,rfl,rfl,P.p6,P.p7,P.p8,fun vals hl=>?_,rfl,fun x i hx=>?_,fun L=>(tH P.p10 rfl P.p12).1,?_⟩
  ·rw[<- P.p13];exact yp rfl rfl P.p1 P.p2 P.p3 P.p4 P.p5 vals (by show _=(e.params.args.map (·.arg)).length;rw[P.p13];exact hl)
  ·exact(nD.mp (dQ.mp P.p11 x (List.of_mem_zip (fT (show List.lookup x _=some i from hx))).1)).imp beq_iff_eq.mp beq_iff_eq.mp
  ·have:=(tH (wz:=bX (Calls.docDef e.name e.params e.body e.scope pm (.ref cc) doc) 0 a) P.p10 rfl P.p12).2;rw[Nat.zero_add] at this;exact this
 exact KH O K (xs:=xs) P.p14 IY (fun L hX=>AG (fun Z Z h=>xx O TO hX P.p10 rfl P.p6 fuel h) he) wq hw
noncomputable def jG(e:Expr):Option (Arguments×Expr×Scope×Pos):=match ev e with
 |.lam a b s p _=>some (a,b,s,p)
 |_=>none
theorem Im{q:Arguments×Expr×Scope×Pos}(h:jG e=some q):e=.Lambda q.1 q.2.1 q.2.2.1 q.2.2.2:=by
 unfold jG at h;generalize ev e=v at h;cases v with
 |lam a b s p e=>obtain rfl:=ah h;exact e
 |_=>injection h
noncomputable def w5(e:Expr):Option (Expr×List Expr×List Keyword×Pos):=match ev e with
 |.call f es kw p _=>some (f,es,kw,p)
 |_=>none
theorem DW{q:Expr×List Expr×List Keyword×Pos}(h:w5 e=some q):e=.Call q.1 q.2.1 q.2.2.1 q.2.2.2:=by
 unfold w5 at h;generalize ev e=v at h;cases v with
 |call a b s p e=>obtain rfl:=ah h;exact e
 |_=>injection h
noncomputable def xw(st:Stmt):Option { q:Expr×Pos // st=.Return (some q.1) q.2 }:=match st with
 |.Return (some e) p=>some ⟨(e,p),rfl⟩
 |_=>none
noncomputable def dE:Str:=ao "one"
noncomputable def jg:Str:=ao "other"
noncomputable def zgk:Str:=ao "kind"
noncomputable def ke:List (Str×aT):=[(dE,.local),(jg,.local),(zgk,.free),(ie,.globalImplicit)]
noncomputable def pA (kk:Nat) (b:Expr):Bool:=match w5 b with
 |some q=>decide (fP q.1=some ie)&&q.2.2.1.isEmpty&&decide (q.2.1.map fP=[some (aZ dE jg zgk (kk/9)),some (aZ dE jg zgk (kk/3%3)),some (aZ dE jg zgk (kk%3))])
 |none=>false
def wy(kk:Nat)(b:Expr):Prop:=∀GJ:Prop,(∀(pf q0 q1 q2 pos:Pos),(b=.Call (.Name ie pf) [.Name (aZ dE jg zgk (kk/9)) q0,.Name (aZ dE jg zgk (kk/3%3)) q1,.Name (aZ dE jg zgk (kk%3)) q2] [] pos)->GJ)->GJ
theorem lp(h:pA kk b=true):wy kk b:=by
 unfold pA at h;refine xC (w5 b) (fun hq=>?_) fun q hq=>?_
 ·rw[hq] at h;injection h
 ·rw[hq] at h;revert h;refine xA fun h h3=>?_;revert h;refine xA fun h1 h2=>?_;obtain⟨pf,hf⟩:=gC (of_decide_eq_true h1);have k:=of_decide_eq_true h3;clear h3;have e:=DW hq;clear hq;obtain⟨f,es,kw,pos⟩:=q;dsimp only at e h2 k hf;obtain rfl:=gj.mp h2;subst hf;cases es with
  |nil=>exact nomatch k
  |cons a es=>
   obtain⟨k1,k⟩:=List.cons.inj k;cases es with
   |nil=>exact nomatch k
   |cons b es=>
    obtain⟨k2,k⟩:=List.cons.inj k;cases es with
    |nil=>exact nomatch k
    |cons c es=>
     obtain⟨k3,k⟩:=List.cons.inj k;cases es with
     |cons _ _=>exact nomatch k
     |nil=>
      obtain⟨q0,rfl⟩:=gC k1;obtain⟨q1,rfl⟩:=gC k2;obtain⟨q2,rfl⟩:=gC k3;exact(fun Z kJ=>kJ pf q0 q1 q2 pos e)
noncomputable def yA(a:Arguments):Bool:=a.posonlyargs.isEmpty&&(a.kwonlyargs.isEmpty&&(a.vararg.isNone&&(a.kwarg.isNone&&(a.defaults.isEmpty&&(a.kw_defaults.isEmpty&&decide (a.args.map (·.arg)=[dE,jg]))))))
noncomputable def yi(s:Scope):Bool:=decide (s.names=ke)&&(s.kind==.function&&(!s.isCoroutine&&!s.isGenerator))
def qF{a:Arguments}{s:Scope}{pm ct:Value}(h1:yA a=true)(h2:yi s=true)(h3:pA kk b=true):d5 kk (dT qual a b s [(zgk,ca)] pm cv ct) zgk:=by
 revert h1;refine xA fun a1 h1=>?_;revert h1;refine xA fun a2 h1=>?_;revert h1;refine xA fun a3 h1=>?_;revert h1;refine xA fun a4 h1=>?_;revert h1;refine xA fun a5 h1=>?_;revert h1;refine xA fun a6 a7=>?_;have a7:=of_decide_eq_true a7;revert h2;refine xA fun s1 h2=>?_;have s1:=of_decide_eq_true s1;revert h2;refine xA fun s2 h2=>?_;revert h2;refine xA fun s3 s4=>?_;refine(lp h3) _ fun pf q0 q1 q2 pos wk=>?_;subst wk;refine⟨dE,jg,q0,q1,q2,pf,pos,fun x y=>?_,rfl,?_,?_,?_,?_,?_,by decide +kernel,by decide +kernel,rfl,rfl,beq_iff_eq.mp s2,(iu _).mp s3,(iu _).mp s4⟩
 ·have:=yp (fd:=dT qual a (.Call (.Name ie pf) [.Name (aZ dE jg zgk (kk/9)) q0,.Name (aZ dE jg zgk (kk/3%3)) q1,.Name (aZ dE jg zgk (kk%3)) q2] [] pos) s [(zgk,ca)] pm cv ct) rfl rfl (gj.mp a1) (gj.mp a2) (jw.mp a3) (jw.mp a4) (by show(a.args.map (·.arg)).Nodup;rw[a7];decide +kernel) [x,y] (by show 2=(a.args.map (·.arg)).length;rw[a7];rfl);refine this.trans ?_;show(pure ((a.args.map (·.arg)).zip [x,y]):Sem _)=_;rw[a7];rfl
 ·show s.names.lookup _=_;rw[s1];decide +kernel
 ·show s.names.lookup _=_;rw[s1];decide +kernel
 ·show s.names.lookup _=_;rw[s1];decide +kernel
 ·show s.names.lookup _=_;rw[s1];decide +kernel
 ·show s.names.all _=_;rw[s1];decide +kernel
noncomputable def yf:Option Gk->Bool
 |some .fn=>true
 |_=>false
theorem jq(h:yf o=true):o=some .fn:=by
 cases o with
 |none=>injection h
 |some g=>cases g<;>first |rfl |injection h
noncomputable def AU(T:Tab)(nm:List (Str×aT))(kk:Nat)(q:Expr×List Expr×List Keyword×Pos)(f:Str)(e1 e2:Expr)(m:Arguments×Expr×Scope×Pos):Bool:=
 q.2.2.1.isEmpty&&(nA nm f&&(yf (T.g.lookup f)&&(dA e1&&(dA e2&&(nm.lookup zgk==some .cell&&(yA m.1&&(yi m.2.2.1&&pA kk m.2.1)))))))
noncomputable def wQ(T:Tab)(n:Nat)(nm:List (Str×aT))(wu:Res)(nx kk:Nat)(e:Expr):Option (Ex×Nat×Nat):=
 (w5 e).bind fun q=>(fP q.1).bind fun f=>match q.2.1 with
  |[e1,e2,l]=>(jG l).bind fun m=>(eE T n nm wu nx e1).bind fun x1=>(eE T n nm wu nx e2).bind fun x2=>(wu.lookup zgk).bind fun i=>
   if AU T nm kk q f e1 e2 m=true then some (.callL f [x1,x2] kk i,m.2.2.2.line,m.2.2.2.col) else none
  |_=>none
def j9(c:Cx)(wz:Env)(lc:Nat×Nat):Prop:=∀GJ:Prop,(∀(x:Addr×(Nat×Nat)×Str),∀(cc:Addr),x∈c.tabs->(∀y∈c.tabs,y.1=x.1->y=x)->(c.h0.get? x.1=none)->c0 c.h0 cc x.1->(wz.code=.ref cc)->(x.2.1=lc)->(x.2.2=wz.qual++"<lambda>")->GJ)->GJ
theorem GT{nm:List (Str×aT)}(O:c.Ok)(TO:aY c T)(BM:cX c)(LO:∀kk fd nm,d5 kk fd nm->c.lam kk fd nm)(hnm:wz.scope.names=nm)(hef:wz.scope.kind=.function) (TE:j9 c wz y.2) (h':wQ T n nm wu nx kk e=some y):aQ c wz wu e y.1:=by
 obtain⟨⟨f,es,kw,pos⟩,hc,h''⟩:=uJ.mp h';clear h';revert h'';refine xB fun fn hf h=>?_;skip;obtain rfl:=DW hc;obtain⟨pf,rfl⟩:=gC hf;dsimp only at h;cases LV.of es with
 |three e1 e2 l=>
  revert h;refine xB fun m hm h=>?_;revert h;refine xB fun x1 h1 h=>?_;revert h;refine xB fun x2 h2 h=>?_;revert h;refine xB fun i hi h=>?_;revert h;refine xS fun hk wj=>?_;subst wj;obtain rfl:=Im hm;revert hk;refine xA fun k1 hk=>?_;revert hk;refine xA fun k2 hk=>?_;revert hk;refine xA fun k3 hk=>?_;revert hk;refine xA fun k4 hk=>?_;revert hk;refine xA fun k5 hk=>?_;revert hk;refine xA fun k6 hk=>?_;revert hk;refine xA fun k7 hk=>?_;revert hk;refine xA fun k8 k9=>?_;obtain rfl:kw=[]:=gj.mp k1;obtain⟨g1,g2⟩:=q9 hnm k2;refine(TO.fn _ (jq k3)) _ fun a o fd f1 f2 f3=>?_;refine TE _ fun x cc t1 t2 t3 t4 t5 t6 t7=>?_;clear TE;obtain⟨a5,a6⟩:m.1.defaults=[]/\m.1.kw_defaults=[]:=by
   revert k7;refine xA fun Z h=>?_;revert h;refine xA fun Z h=>?_;revert h;refine xA fun Z h=>?_;revert h;refine xA fun Z h=>?_;revert h;refine xA fun a5 h=>?_;exact⟨gj.mp a5,gj.mp (eQ.mp h).1⟩
  exact J8 O BM g1 f1 f2 f3 g2 k4 k5 (iq O TO n h1 hnm hef).1 (iq O TO n h2 hnm hef).1 t1 t2 t3 t4 t5 t6 t7 a5 a6 (of_decide_eq_true (eQ.mp k8).1) (by show wz.scope.names.lookup zgk=_;rw[hnm];exact beq_iff_eq.mp k6) hi fun ca pm cv ct=>LO _ _ _ (qF k7 k8 k9)
 |_=>cases h
inductive dp(c:Cx)(e:ez)(lc:Nat×Nat):Prop
 |mk (a cc:Addr)(o:Obj)(pm doc:Value)(x:Addr×(Nat×Nat)×Str)(g1:c.g e.name=some (.ref a))(g2:c.h0.get? a=some o)(g3:o.data=.func (Calls.docDef e.name e.params e.body e.scope pm (.ref cc) doc))(g4:c.h0.CodeRec (.ref cc) e.name)
   (hm:x∈c.tabs) (hone:∀y∈c.tabs,y.1=x.1->y=x) (h0:c.h0.get? x.1=none) (CH:c0 c.h0 cc x.1) (hl:x.2.1=lc) (hq:x.2.2=e.name++".<locals>."++"<lambda>"):dp c e lc
end
variable {b:Nat}{o:Obj}{ps:Array Value}{y:List St×Nat×Nat}{z:Nat×V}
section
open PySem PyProof.Rows
noncomputable def lY(e:Expr):Option Expr:=match ev e with
 |.sub a i _ _=>(mQ i).bind fun q=>match q.2.2 with
  |some s=>if zR s=true/\q.1=none/\q.2.1=none then some a else none
  |none=>none
 |_=>none
theorem G4{a:Expr}(h:lY e=some a):∃n p p' p'' pos,e=.Subscript a (.Slice none none (some (.UnaryOp .USub (.Constant (.int 1) n p) p')) p'') pos:=by
 unfold lY at h;generalize ev e=v at h;cases v with
 |sub o i pos he=>
  obtain⟨⟨lo,hi,st⟩,hs,h⟩:=uJ.mp h;obtain⟨p'',rfl⟩:=F0 hs;cases st with
  |none=>cases h
  |some s=>
   obtain⟨⟨h3,h4,h5⟩,rfl⟩:=iI h;obtain⟨k,q,q',rfl⟩:=E9 h3;obtain rfl:lo=none:=h4;obtain rfl:hi=none:=h5;exact⟨k,q,q',p'',pos,he⟩
 |_=>cases h
noncomputable def rO(T:Tab)(n:Nat)(nm:List (Str×aT))(wu:Res)(nx kk:Nat)(st:Stmt):Option (St×Nat×Nat):=
 (xw st).bind fun r=>(lY r.1.1).bind fun a=>(wQ T n nm wu nx kk a).map fun y=>(.ret (.rev y.1),y.2)
def JH{nm:List (Str×aT)}{y:St×Nat×Nat}(O:c.Ok)(TO:aY c T)(BM:cX c)(LO:∀kk fd nm,d5 kk fd nm->c.lam kk fd nm)(hX:aO aM wz X)(hnm:wz.scope.names=nm)(hef:wz.scope.kind=.function) (TE:j9 c wz y.2) (h:rO T n nm wu nx kk st=some y):eN c wz wu X st y.1:=by
 obtain⟨⟨⟨e,pr⟩,hr⟩,_,h⟩:=uJ.mp h;revert h;refine xB fun a ha h=>?_;revert h;refine xM fun z hz wj=>?_;subst wj;subst hr;obtain⟨k,p,p',p'',pos,rfl⟩:=G4 ha;exact Es hX (DG (GT O TO BM LO hnm hef TE hz))
noncomputable def mq(T:Tab)(n r kk:Nat)(e:ez):Option (List St×Nat×Nat):=
 if lL e r=true then match e.body with
  |[s1,s2,st]=>(aF (eS T n e.scope.names (fJ e.scope.names r) (slots e.scope.names).length) [s1,s2]).bind fun ys=>(rO T n e.scope.names (fJ e.scope.names r) (slots e.scope.names).length kk st).map fun y=>(ys++[y.1],y.2)
  |_=>none
 else none
theorem GD(O:c.Ok)(TO:aY c T)(BM:cX c)(LO:∀kk fd nm,d5 kk fd nm->c.lam kk fd nm){e:ez}(hat:dp c e y.2)(he:mq T fuel r kk e=some y)(wq:vs.length=e.params.args.length) (hw:az (Calls c) q d none y.1 (cK Q) (dM E) (vs.map some++List.replicate ((slots e.scope.names).length+r-vs.length) none) H):Calls c q (d+1) e.name vs none Q E H:=by
 revert he;refine xO fun hok he=>?_;have P:=EI hok;obtain⟨a,cc,o,pm,doc,x,g1,g2,g3,g4,t1,t2,t3,t4,t5,t6⟩:=hat;have K:eY c e.name a o (Calls.docDef e.name e.params e.body e.scope pm (.ref cc) doc) e.body (e.params.args.map (·.arg)) (e.params.args.map (·.arg)) (fJ e.scope.names r):=by
  refine⟨g1,g2,g3,g4,rfl,rfl,rfl,rfl,P.p6,P.p7,P.p8,fun vals hl=>yp rfl rfl P.p1 P.p2 P.p3 P.p4 P.p5 vals hl,rfl,fun x i hx=>?_,fun L=>(tH P.p10 rfl P.p12).1,?_⟩
  ·exact(nD.mp (dQ.mp P.p11 x (List.of_mem_zip (fT (show List.lookup x _=some i from hx))).1)).imp beq_iff_eq.mp beq_iff_eq.mp
  ·have:=(tH (wz:=bX (Calls.docDef e.name e.params e.body e.scope pm (.ref cc) doc) 0 a) P.p10 rfl P.p12).2;rw[Nat.zero_add] at this;exact this
 refine EY O K (xs:=y.1) (fun L hX=>?_) (by rw[wq,aG]) hw;generalize hb:e.body=bd at he;cases LV.of bd with
 |three s1 s2 st=>
  revert he;refine xB fun ys h1 he=>?_;revert he;refine xM fun y2 h2 wj=>?_;subst wj;refine gi h1 _ fun y1 zs g1 g2 e1=>?_;subst e1;refine gi g2 _ fun y3 zs g3 g4 e1=>?_;subst e1;obtain rfl:=ah g4;exact w8 (xx O TO hX P.p10 rfl P.p6 fuel g1) (w8 (xx O TO hX P.p10 rfl P.p6 fuel g3) (w8 (JH O TO BM LO hX rfl P.p6 (fun Z kJ=>kJ x cc t1 t2 t3 t4 rfl t5 t6) h2) Ce))
 |_=>cases he
end
variable {E:SX}{Q:SPost}{X:List Nat}{e:Ex}{q:Str}{r:List (List (Nat×Nat))}{y:List (Nat×Nat)}
section
open PySem PyProof.Rows
set_option maxRecDepth 100000
def Cr(h:Heap)(name:Str)(bm:List Value)(ini:Bool):Prop:=∀GJ:Prop,(∀(C:Addr),∀(i:Option Value),(h.nsMap c8 name=some (.ref C))->aR h C bm i->(ini=true->i=none)->GJ)->GJ
theorem vY{l:List α}(h:l.length=n+1):∃a r,l=a::r/\r.length=n:=by
 cases l with
 |nil=>exact nomatch h
 |cons a r=>exact⟨a,r,rfl,Nat.succ.inj h⟩
def IC(s:Array (Option Value))(v:Option Value):Prop:=∀GJ:Prop,(∀(a b c d f:Option Value),(s = #[a,b,c,d,v,f])->GJ)->GJ
def JG{v:Option Value}(hz:s.size=6)(h4:s[4]?=some v):IC s v:=by
 obtain⟨l⟩:=s;obtain⟨a,l1,rfl,h1⟩:=vY (show l.length=5+1 from hz);obtain⟨b,l2,rfl,h2⟩:=vY h1;obtain⟨c,l3,rfl,h3⟩:=vY h2;obtain⟨d,l5,rfl,h5⟩:=vY h3;obtain⟨e,l6,rfl,h6⟩:=vY h5;obtain⟨f,l7,rfl,h7⟩:=vY h6;obtain rfl:=iG.mp h7;obtain rfl:=ah (show some e=some v from h4);exact(fun Z kJ=>kJ a b c d f rfl)
def CK(o:Obj)(C N:Addr)(bm:List Value):Prop:=∀GJ:Prop,(∀(nm q:Str),∀(bs:List Value),∀(sn:List Str),∀(sub:List Value),∀(ab:Bool),∀(col:Option Bool),∀(dd:Option Addr),∀(k0 k1 k2 k3 k5:Option Value),(o=qY nm q C N bs bm true sn sub ab col dd k0 k1 k2 k3 k5 "ValueError.__new__")->GJ)->GJ
def AQ{cd:ClassData}(h1:o.cls=.type "type")(h2:cd.mro=.ref C::bm)(h3:cd.hasDel=false)(h5:cd.hasDict=true)(hd:o.data=.cls cd)(hz:o.slots.size=6)(h4:o.slots[4]?=some (some (.builtin "ValueError.__new__"))):CK o C cd.ns bm:=by
 refine(JG hz h4) _ fun a b c d f hs=>?_;obtain⟨oc,odict,odata,slots⟩:=o;obtain⟨nm,bs,mro,ns,q,hdct,sn,sub,ab,col,hdel⟩:=cd;obtain rfl:oc=_:=h1;obtain rfl:mro=_:=h2;obtain rfl:hdel=_:=h3;obtain rfl:hdct=_:=h5;obtain rfl:odata=_:=hd;obtain rfl:slots=_:=hs;exact(fun Z kJ=>kJ nm q bs sn sub ab col odict a b c d f rfl)
def j2{ini:Bool}(x:oE h name bm ini=true):Cr h name bm ini:=by
 unfold oE at x;refine xC (h.clsAt c8 name) (fun hf=>?_) fun y hf=>?_
 ·rw[hf] at x;injection x
 ·obtain⟨C,o,cd⟩:=y;rw[hf] at x;obtain⟨hn,ho,hd⟩:=Heap.clsAt_spec hf;revert x;refine xA fun x1 x=>?_;revert x;refine xA fun x2 x=>?_;revert x;refine xA fun x3 x=>?_;revert x;refine xA fun xd x=>?_;revert x;refine xA fun x4 x=>?_;revert x;refine xA fun x5 x=>?_;revert x;refine xA fun x6 x=>?_;revert x;refine xA fun x7 x8=>?_;refine(AQ (of_decide_eq_true x1) (of_decide_eq_true x2) ((iu _).mp x3) xd hd (of_decide_eq_true x4) (of_decide_eq_true x5)) _ fun nm q bs sn sub ab col dd k0 k1 k2 k3 k5 e=>?_;rw[e] at ho;exact(fun Z kJ=>kJ C (h.nsMap cd.ns "__init__") hn ⟨nm,q,cd.ns,bs,sn,sub,ab,col,dd,k0,k1,k2,k3,k5,h.nsMap cd.ns,ho,Heap.Ns.of_isNs x6,fun n hn=>jw.mp (dQ.mp x7 n hn),rfl⟩ (fun hi=>by
   rw[hi] at x8;exact jw.mp x8))
inductive eK(h:Heap):Prop
 |mk (m:Str->Option Value)(hm:h.Ns c8 m)(NE:Addr)(hn:m (ao "NetError")=some (.ref NE))(net:aR h NE cu none)(kid:∀cn∈kids,∃C ini,m cn=some (.ref C)/\C≠NE/\aR h C (.ref NE::cu) ini/\(cn≠ao "BadNet"->ini=none))
   (inj:∀cn∈kids,∀dn∈kids,m cn=m dn->cn=dn):eK h
def eK.keeps(X:eK h)(hk:∀b o,h.get? b=some o->h'.get? b=some o):eK h':=by
 obtain⟨m,hm,NE,hn,net,kid,inj⟩:=X;refine⟨m,hm.keeps hk,NE,hn,net.keeps hk,fun cn hc=>?_,inj⟩;obtain⟨C,ini,h1,h2,h3,h4⟩:=kid cn hc;exact⟨C,ini,h1,h2,h3.keeps hk,h4⟩
theorem Gf[DecidableEq β]{f:α->β}:∀{l:List α},zH (l.map f)=true->∀a∈l,∀b∈l,f a=f b->a=b
 |[],_,_,ha,_,_,_=>nomatch ha
 |x::r,h,a,ha,b,hb,e=>by
  revert h;refine xA fun h1 h2=>?_;have h1:=of_decide_eq_true h1;rcases bc.mp ha with ea |ha'
  ·rcases bc.mp hb with eb |hb'
   ·rw[ea,eb]
   ·exact absurd (List.mem_map.mpr ⟨b,hb',e.symm.trans (by rw[ea])⟩) h1
  ·rcases bc.mp hb with eb |hb'
   ·exact absurd (List.mem_map.mpr ⟨a,ha',e.trans (by rw[eb])⟩) h1
   ·exact Gf h2 a ha' b hb' e
def uQ(x:tj h=true):eK h:=by
 revert x;refine xA fun x0 x=>?_;refine xC (iv (h.nsMap c8 (ao "NetError"))) (fun hr=>?_) fun NE hr=>?_
 ·rw[hr] at x;injection x
 ·rw[hr] at x;revert x;refine xA fun x1 x=>?_;revert x;refine xA fun x2 x3=>?_;refine xA (fun x4 x5=>?_) (show(decide _&&zH _)=true from x3);refine(j2 x1) _ fun C i h1 h2 h3=>?_;rw[h1] at hr;obtain rfl:=ah hr;obtain rfl:=h3 rfl;have k:∀cn∈kids,∃D ini,h.nsMap c8 cn=some (.ref D)/\D≠C/\aR h D (.ref C::cu) ini/\(cn≠ao "BadNet"->ini=none):=fun cn hc=>by
   refine(j2 (dQ.mp x2 cn hc)) _ fun D i g1 g2 g3=>?_;refine⟨D,i,g1,fun q=>of_decide_eq_true x4 (List.mem_map.mpr ⟨cn,hc,?_⟩),g2,fun q=>g3 (decide_eq_true q)⟩;rw[g1,q];rfl
  exact⟨_,Heap.Ns.of_isNs x0,C,h1,h2,k,fun cn hc dn hd q=>Gf x5 cn hc dn hd (by show(h.nsMap c8 cn).getD .none=_;rw[q])⟩
def jr(x:h.Ns a m)(y:h.Ns a m'):m=m':=by
 obtain⟨o,es,ep,h1,h2,_,h3⟩:=x;obtain⟨o',es',ep',g1,g2,_,g3⟩:=y;obtain rfl:=ah (h1.symm.trans g1);rw[h2] at g2;(injection g2 with Ja Jb;subst Jb;subst Ja);funext n;rw[<- h3,<-g3]
def sI(X:eK c.h0)(hg:c.h0.Ns c8 c.g)(ve:c.g (ao "ValueError")=none/\c.b (ao "ValueError")=some (.type "ValueError")):cx c:=by
 obtain⟨m,hm,NE,hn,net,kid,inj⟩:=X;obtain rfl:=jr hm hg;exact⟨NE,hn,net,kid,inj,ve⟩
end
variable {C:CallT}{m m' s:Nat}
section
open PySem PySem.W PySem.Calls PyProof.Rows
set_option maxRecDepth 100000
theorem IX{v:Option Value}(x:rJ q v=true):∃t,v=some (.str q t):=by
 cases v with
 |none=>injection x
 |some v=>
  cases v with
  |str y t=>obtain rfl:y=q:=of_decide_eq_true x;exact⟨t,rfl⟩
  |_=>injection x
theorem nN(x:qS h cd q=true):h.CodeRec cd q:=by
 cases cd with
 |ref c=>
  replace x:((h.get? c).map (nQ q)).getD false=true:=x;refine xC (h.get? c) (fun ho=>?_) fun o ho=>?_
  ·rw[ho] at x;injection x
  ·rw[ho] at x;replace x:nQ q o=true:=x;unfold nQ at x;cases hd:o.data with
   |fields vs=>
    rw[hd] at x;obtain⟨t,ht⟩:=IX x;exact⟨c,o,vs,t,rfl,ho,hd,ht⟩
   |_=>rw[hd] at x;injection x
 |_=>injection x
theorem E7{v:Value}(x:jS v=true):v=.none:=by
 cases v with
 |none=>rfl
 |_=>injection x
theorem JF{b:FuncBody}(ho:h.get? f=some o)(x:sX h o=some b)(hb:some b=tT p)(hl:vT p=true):∃fd,fb h f o fd:=by
 unfold sX at x;cases hd:o.data with
 |func fd=>
  rw[hd] at x;refine xS (fun z wj=>?_) (show(if FH h o fd=true then some fd.body else none)=some b from x);subst wj;clear x;revert z;refine xA fun x1 x=>?_;skip;revert x;refine xA fun x2 x=>?_;revert x;refine xA fun x3 x=>?_;revert x;refine xA fun x4 x=>?_;revert x;refine xA fun x5 x=>?_;revert x;refine xA fun x6 x=>?_;revert x;refine xA fun x7 x=>?_;revert x;refine xA fun x8 x=>?_;revert x;refine xA fun x9 x=>?_;revert x;refine xA fun x10 x11=>?_;obtain⟨y1,y2,y3,y4,y5,y6⟩:=of_decide_eq_true x4;have ha:=of_decide_eq_true x11;refine⟨fd,ho,of_decide_eq_true x1,hd,nN x2,?_,of_decide_eq_true x3,y1,y2,y3,y4,y5,y6,fun a b=>?_⟩
  ·unfold tT at hb;unfold vT at hl;refine xC (Aq (Av p)) (fun hq=>?_) fun q hq=>?_
   ·rw[hq] at hb;injection hb
   ·rw[hq] at hb hl;exact⟨_,_,_,_,_,_,_,_,_,_,_,ah hb,hl⟩
  ·have:=yp (fd:=fd) (E7 x5) (E7 x6) (gj.mp x7) (gj.mp x8) (jw.mp x9) (jw.mp x10) (by rw[ha];decide) [a,b] (by rw[ha];rfl);rw[ha] at this;exact this
 |_=>rw[hd] at x;injection x
inductive ft(h:Heap):Prop
 |mk (m:Str->Option Value)(hm:h.Ns c8 m)(NE C fI:Addr)(oI:Obj)(fd:qbe)(hn:m (ao "NetError")=some (.ref NE))(hg:m (ao "BadNet")=some (.ref C))(own:aR h C (.ref NE::cu) (some (.ref fI)))(net:aR h NE cu none)
   (I:fb h fI oI fd) (hst:∃mc,h.Ns cStatics mc/\mc "thirdparty.any"=none):ft h
def ft.keeps(X:ft h)(hk:∀b o,h.get? b=some o->h'.get? b=some o):ft h':=by
 obtain⟨m,hm,NE,C,fI,oI,fd,hn,hg,own,net,I,mc,h1,h2⟩:=X;exact⟨m,hm.keeps hk,NE,C,fI,oI,fd,hn,hg,own.keeps hk,net.keeps hk,{ I with ho:=hk _ _ I.ho,code:=I.code.keeps hk },mc,h1.keeps hk,h2⟩
def ti(X:ft c.h0)(hg:c.h0.Ns c8 c.g):dY c:=by
 obtain⟨m,hm,NE,C,fI,oI,fd,hn,hg',own,net,I,hst⟩:=X;obtain rfl:=jr hm hg;exact⟨NE,C,fI,oI,fd,hn,hg',own,net,I,hst⟩
theorem Jq{v:Option Value}(h:iv v=some a):v=some (.ref a):=by
 cases v with
 |none=>injection h
 |some v=>
  cases v with
  |ref b=>obtain rfl:=ah h;rfl
  |_=>injection h
def uW(X:eK h)(hb:qe h=tT p)(hl:vT p=true):ft h:=by
 have hs:∃b,tT p=some b:=by
  unfold vT at hl;unfold tT;refine xC (Aq (Av p)) (fun hq=>?_) fun q hq=>?_
  ·rw[hq] at hl;injection hl
  ·exact⟨_,rfl⟩
 obtain⟨b,hb'⟩:=hs;rw[hb'] at hb;unfold qe at hb;refine xC (h.clsAt c8 (ao "BadNet")) (fun hc=>?_) fun y hc=>?_
 ·rw[hc] at hb;injection hb
 ·obtain⟨C,o,cd⟩:=y;rw[hc] at hb;obtain⟨hn,ho,hd⟩:=Heap.clsAt_spec hc;revert hb;refine xB fun f h1 hb=>?_;revert hb;refine xB fun oI h2 hb=>?_;revert hb;refine xO fun h3 h4=>?_;obtain⟨fd,I⟩:=JF h2 h4 hb'.symm hl;obtain⟨m,hm,NE,hN,net,kid,inj⟩:=X;obtain⟨C',ini,g1,g2,g3,g4⟩:=kid (ao "BadNet") (by decide);obtain rfl:C'=C:=by
   have e:=hm.eq_nsMap;rw[e,hn] at g1;(injection g1 with Ja;injection Ja with w4;subst w4);rfl
  obtain⟨nm,q,N,bs,sn,sub,ab,col,dd,k0,k1,k2,k3,k5,mN,hC,hNs,hq,hi⟩:=g3;obtain rfl:=ah (ho.symm.trans hC);obtain rfl:N=cd.ns:=by
   have e:=Data.cls.inj hd;rw[<- e]
  have hi':mN "__init__"=some (.ref f):=by rw[hNs.eq_nsMap];exact Jq h1
  exact⟨m,hm,NE,C',f,oI,fd,hN,g1,⟨nm,q,_,bs,sn,sub,ab,col,dd,k0,k1,k2,k3,k5,mN,hC,hNs,hq,hi'⟩,net,I,_,Heap.Ns.of_isNs h3.1,h3.2⟩
noncomputable def yD(p:qbj)(hl:vT p=true):W.Hook:=⟨Bool×Option FuncBody,fun s=>(tj s.heap,qe s.heap),fun Z=>(true,tT p),fun Z h=>eK h/\ft h,fun Z Z h=>
 have X:=uQ (qt h).1
 ⟨X,uW X (qt h).2 hl⟩,fun Z Z Z h hk=>⟨h.1.keeps hk,h.2.keeps hk⟩⟩
end
variable {a h:Nat}{c:List Nat}{f:String}{o:Ex}{p:Nat×Nat}{q:Bool}
abbrev Net:=List (List (Nat×Nat))
def qj(n:Nat):Nat->List (Nat×Nat)->Prop
 |_,[]=>True
 |lo,(l,h)::r=>l<h/\h<n/\lo<=h/\qj n (h+1) r
def fZ(n:Nat)(layer:List (Nat×Nat)):Prop:=layer≠[]/\qj n 0 layer
def fL(n:Nat)(net:Net):Prop:=net.length<=80/\∀layer∈net,fZ n layer
theorem Bw:∀{layer:List (Nat×Nat)} {lo:Nat},qj n lo layer->layer≠[]->layer.length+lo<=n/\(0<lo\/layer.length<n)
 |[],_,_,hn=>absurd rfl hn
 |(l,h)::r,lo,hr,_=>by
  obtain⟨h1,h2,h3,h4⟩:=hr;by_cases hn:r=[]
  ·subst hn;simp only[eU,List.length_nil];exact bC [_,_,_,_] [] 0x310a528003080801840500c2008000294a000c20180610100308000 (Y6 (Y0 (Y0 J1 V0) V1) (Y7 (Y1 J0 V0) (Y1 J1 V1))) (Y1 V2 V3) (Y1 V3 V1) (Y0 V0 V3) h1 h2 h3
  ·have:=Bw h4 hn;simp only[eU];exact bC [_,_,_,_,_] [] 0x310a528003080801840600c2008000294a000c20180610100308000 (Y6 (Y0 (Y0 (Y0 V0 J1) V1) V2) (Y7 (Y1 J0 V1) (Y1 (Y0 V0 J1) V2))) (Y1 V3 V4) (Y0 V1 V4) (Y0 (Y0 V0 (Y0 V4 J1)) V2) h1 h3 this.1
noncomputable def pZ (n:Nat) (lays:Net):Net:=lays++List.replicate (n-lays.length) []
noncomputable def vo(lays:Net)(i:Nat)(p:Nat×Nat):Net:=(pZ (i+1) lays).set i ((pZ (i+1) lays).getD i []++[p])
noncomputable def g0(xs:List Nat)(i:Nat):Nat:=xs.getD i 0
noncomputable def gg(done read:List Nat)(l h:Nat):Nat:=max (max (g0 done l) (g0 done h)) (g0 read h)
variable {lays:Net}
noncomputable def bx{α:Type}(f:α->α->α)(layer:List (Nat×Nat))(σ:Nat->α):Nat->α:=fun x=>match layer.find? (fun p=>p.2==x) with
 |some p=>f (σ p.1) (σ x)
 |none=>σ x
noncomputable def aX{α:Type}(f:α->α->α):List (List (Nat×Nat))->(Nat->α)->Nat->α
 |[],σ=>σ
 |layer::r,σ=>aX f r (bx f layer σ)
noncomputable def zg{α:Type}(f:α->α->α)(l h:Nat)(σ:Nat->α):Nat->α:=fun x=>if x=h then f (σ l) (σ h) else σ x
noncomputable def fK{α:Type}(f:α->α->α):List (Nat×Nat)->(Nat->α)->Nat->α
 |[],σ=>σ
 |p::r,σ=>fK f r (zg f p.1 p.2 σ)
section
variable {f:α->α->α}
theorem Az{σ:Nat->α}:aX f [] σ=σ:=rfl
theorem kx{σ:Nat->α}:aX f (y::r) σ=aX f r (bx f y σ):=rfl
theorem J5{r:List (Nat×Nat)}{σ:Nat->α}:fK f (p::r) σ=fK f r (zg f p.1 p.2 σ):=rfl
theorem vU:∀(a b:List (List (Nat×Nat)))(σ:Nat->α),aX f (a++b) σ=aX f b (aX f a σ)
 |[],_,_=>rfl
 |_::a,b,_=>vU a b _
theorem EO:∀(a b:List (Nat×Nat))(σ:Nat->α),fK f (a++b) σ=fK f b (fK f a σ)
 |[],_,_=>rfl
 |_::a,b,_=>EO a b _
theorem BQ{σ:Nat->α}(h:∀p∈layer,p.2≠x):bx f layer σ x=σ x:=by
 unfold bx;have:layer.find? (fun p=>p.2==x)=none:=by
  rw[List.find?_eq_none];intro p hp;simpa using h p hp
 rw[this]
theorem yJ:∀{net:List (List (Nat×Nat))} {σ:Nat->α} {x:Nat},(∀layer∈net,∀p∈layer,p.2≠x)->aX f net σ x=σ x
 |[],_,_,_=>rfl
 |layer::r,σ,x,h=>by
  simp only[Az,kx];rw[yJ fun l hl=>h l (a9 _ hl),BQ (h layer aL)]
theorem IF {σ τ:Nat->α} (ha:∀x,x≠h->σ x=τ x) (hr:∀p∈layer,p.1≠h/\p.2≠h):∀x,x≠h->bx f layer σ x=bx f layer τ x:=by
 intro x hx;unfold bx;cases hf:layer.find? (fun p=>p.2==x) with
 |none=>exact ha x hx
 |some p=>
  have hp:=rh hf;simp only;rw[ha p.1 (hr p hp).1,ha x hx]
theorem Gh:∀{net:List (List (Nat×Nat))} {σ τ:Nat->α} {h:Nat},(∀x,x≠h->σ x=τ x)->(∀layer∈net,∀p∈layer,p.1≠h/\p.2≠h)->∀x,x≠h->aX f net σ x=aX f net τ x
 |[],_,_,_,ha,_=>ha
 |layer::r,σ,τ,h,ha,hr=>by
  simp only[Az,kx];exact Gh (net:=r) (IF ha (hr layer aL)) fun l hl=>hr l (a9 _ hl)
theorem Kv {pre post:List (List (Nat×Nat))} {layer':List (Nat×Nat)} (hperm:∀p,p∈layer'↔p=(l,h)\/p∈layer) (hnd:∀p∈layer,∀q∈layer,p.2=q.2->p=q) (h1:∀p∈layer,p.2≠h/\p.2≠l) (h2:∀lay∈post,∀p∈lay,p.1≠h/\p.2≠h/\p.2≠l) (hlh:l≠h) (σ:Nat->α) :
  aX f (pre++layer'::post) σ=zg f l h (aX f (pre++layer::post) σ):=by
 rw[vU,vU];generalize aX f pre σ=τ;simp only[Az,kx];have find_eq:∀x,x≠h->(layer'.find? (fun p=>p.2==x))=layer.find? (fun p=>p.2==x):=by
  intro x hx;cases hf:layer.find? (fun p=>p.2==x) with
  |none=>
   rw[List.find?_eq_none] at hf ⊢;intro p hp;rcases(hperm p).mp hp with rfl |hp
   ·simpa using cS hx
   ·exact hf p hp
  |some p=>
   have hp:=rh hf;have hpx:p.2=x:=by have:=List.find?_some hf;simpa using this
   cases hf':layer'.find? (fun p=>p.2==x) with
   |none=>
    rw[List.find?_eq_none] at hf';exact absurd (by simpa using hpx) (hf' p ((hperm p).mpr (.inr hp)))
   |some p'=>
    have hp':=rh hf';have hpx':p'.2=x:=by have:=List.find?_some hf';simpa using this
    rcases(hperm p').mp hp' with rfl |hp'
    ·exact absurd hpx' (cS hx)
    ·rw[hnd p hp p' hp' (hpx.trans hpx'.symm)]
 have agree:∀x,x≠h->bx f layer' τ x=bx f layer τ x:=by
  intro x hx;unfold bx;rw[find_eq x hx]
 have athigh:bx f layer' τ h=f (τ l) (τ h):=by
  unfold bx;cases hf:layer'.find? (fun p=>p.2==h) with
  |none=>
   rw[List.find?_eq_none] at hf;exact absurd (by simp) (hf (l,h) ((hperm _).mpr (.inl rfl)))
  |some p=>
   have hp:=rh hf;have hpx:p.2=h:=by have:=List.find?_some hf;simpa using this
   rcases(hperm p).mp hp with rfl |hp
   ·rfl
   ·exact absurd hpx (h1 p hp).1
 funext x;unfold zg;by_cases hx:x=h
 ·subst hx;rw[if_pos rfl,yJ (fun lay hl p hp=>(h2 lay hl p hp).2.1),athigh];rw[yJ (fun lay hl p hp=>(h2 lay hl p hp).2.2),yJ (fun lay hl p hp=>(h2 lay hl p hp).2.1)];rw[BQ (fun p hp=>(h1 p hp).2),BQ (fun p hp=>(h1 p hp).1)]
 ·rw[if_neg hx];exact Gh agree (fun lay hl p hp=>⟨(h2 lay hl p hp).1,(h2 lay hl p hp).2.1⟩) x hx
end
variable {r:List Nat}
def rY(h:a<=s+k)(hs:s<=800)(hk:k<=64):a<900:=b0 (aB h (Nat.add_le_add hs hk)) (by decide)
def AS(ha:a<=80)(hb:b<=80):a+b<10000:=b0 (Nat.add_le_add ha hb) (by decide)
def wb(ha:a<=80)(hb:b<=80):a+1+b<10000:=b0 (Nat.add_le_add (Nat.succ_le_succ ha) hb) (by decide)
def oq(h:i+1<n):n-1=min i n+(n-(i+2)+1):=by
 obtain⟨k,rfl⟩:=Nat.exists_eq_add_of_le' (show i+2<=n from h);rw[Nat.min_eq_left (aB (fM i 2) (Nat.le_add_left ..)),Nat.add_sub_cancel];exact Nat.add_left_comm k i 1
def Ai{x y:Int}(h:0<y):∃n:Nat,x%y=(n:Int):=⟨_,(Int.toNat_of_nonneg (Int.emod_nonneg _ (Int.ne_of_gt h))).symm⟩
def zf:(0:Int)<1+(k:Int):=Int.add_pos_of_pos_of_nonneg (by decide) (hV k)
structure PS where
 lays:Net
 done:List Nat
 read:List Nat
noncomputable def PS.put(s:PS)(p:Nat×Nat):PS:=
 ⟨vo s.lays (gg s.done s.read p.1 p.2) p,s.done.set p.2 (gg s.done s.read p.1 p.2+1),s.read.set p.1 (max (g0 s.read p.1) (gg s.done s.read p.1 p.2))⟩
noncomputable def PS.puts(s:PS)(js:List (Nat×Nat)):PS:=js.foldl PS.put s
noncomputable def PS.init(n:Nat):PS:=⟨[],List.replicate n 0,List.replicate n 0⟩
def PS.puts_append(s:PS)(a b:List (Nat×Nat)):s.puts (a++b)=(s.puts a).puts b:=List.foldl_append
theorem FF(h:i<=lays.length):vo lays i p=lays.take i++(lays.getD i []++[p])::lays.drop (i+1):=by
 unfold vo;by_cases hi:i<lays.length
 ·have e:pZ (i+1) lays=lays:=by unfold pZ;rw[Nat.sub_eq_zero_of_le hi,List.replicate_zero,fA]
  rw[e,wG,if_pos hi]
 ·obtain rfl:=Nat.le_antisymm h (eP hi);have e:pZ (lays.length+1) lays=lays++[[]]:=by unfold pZ;rw[Nat.add_sub_cancel_left];rfl
  rw[e,List.set_append_right _ _ (aN _)];simp[ck]
theorem Hj{f:α->α->α}{σ:Nat->α}:bx f [] σ=σ:=rfl
theorem JQ{f:α->α->α}{σ:Nat->α}(h:i<=lays.length):aX f lays σ=aX f (lays.take i++lays.getD i []::lays.drop (i+1)) σ:=by
 by_cases hi:i<lays.length
 ·have:lays.take i++lays.getD i []::lays.drop (i+1)=lays:=by
   rw[ck,bp hi];simp
  rw[this]
 ·obtain rfl:=Nat.le_antisymm h (eP hi);rw[vU,List.drop_eq_nil_of_le (Nat.le_succ _)];simp[Az,kx,Hj,ck]
theorem zT{xs:List Nat}{v:Nat}(hi:i<xs.length):g0 (xs.set i v) x=if x=i then v else g0 xs x:=by
 unfold g0;rw[ck,List.getElem?_set,ck];by_cases h:x=i
 ·subst h;simp[hi]
 ·rw[if_neg (cS h),if_neg h]
structure bg(n:Nat)(s:PS)(js:List (Nat×Nat)):Prop where
 dl:s.done.length=n
 rl:s.read.length=n
 hi:∀i y,s.lays[i]?=some y->∀p∈y,i<g0 s.done p.2/\i<=g0 s.read p.1/\p.1<p.2/\p.2<n
 ne:∀y∈s.lays,y≠[]
 nd:∀y∈s.lays,(y.map (·.2)).Nodup
 dm:∀x,g0 s.done x<=s.lays.length/\g0 s.read x<=s.lays.length
 run:∀{α:Type} (f:α->α->α) (σ:Nat->α),aX f s.lays σ=fK f js σ
def pP(n x:Nat):g0 (List.replicate n 0) x=0:=by
 unfold g0;rw[ck,List.getElem?_replicate];split<;>rfl
theorem bg.init(n:Nat):bg n (PS.init n) [] where
 dl:=by simp[PS.init]
 rl:=by simp[PS.init]
 hi:=by simp[PS.init]
 ne:=by simp[PS.init]
 nd:=by simp[PS.init]
 dm:=by intro x;simp[PS.init,pP]
 run:=by intros;rfl
theorem FY(h:(y.map (·.2)).Nodup):∀p∈y,∀q∈y,p.2=q.2->p=q:=by
 induction y with
 |nil=>intro p hp;cases hp
 |cons a r ih=>
  simp only[er,mT,List.mem_map,not_exists,not_and] at h;intro p hp q hq e;rcases bc.mp hp with hp1 |hp1<;>rcases bc.mp hq with hq1 |hq1
  ·rw[hp1,hq1]
  ·exact absurd (e.symm.trans (by rw[hp1])) (h.1 q hq1)
  ·exact absurd (e.trans (by rw[hq1])) (h.1 p hp1)
  ·exact ih h.2 p hp1 q hq1 e
def bg.at_le{s:PS}(L:bg n s js)(l h:Nat):gg s.done s.read l h<=s.lays.length:=Nat.max_le.mpr ⟨Nat.max_le.mpr ⟨(L.dm l).1,(L.dm h).1⟩,(L.dm h).2⟩
def Gd(h:k<=n):k+(n-(k+1)+1)=max n (k+1):=by
 rcases Nat.lt_or_ge k n with h' |h'
 ·exact((Nat.succ_add k _).symm.trans (Nat.add_sub_cancel' h')).trans (Nat.max_eq_left h').symm
 ·obtain rfl:=Nat.le_antisymm h h';rw[Nat.sub_eq_zero_of_le (Nat.le_succ k)];exact(Nat.max_eq_right (Nat.le_succ k)).symm
set_option tactic.hygienic true in
theorem bg.put{s:PS}(L:bg n s js)(hlh:l<h)(hn:h<n):bg n (s.put (l,h)) (js++[(l,h)]):=by
 have hat:=L.at_le l h
 have e1:g0 s.done l<=gg s.done s.read l h:=aB (Nat.le_max_left ..) (Nat.le_max_left ..)
 have e2:g0 s.done h<=gg s.done s.read l h:=aB (Nat.le_max_right ..) (Nat.le_max_left ..)
 have e3:g0 s.read h<=gg s.done s.read l h:=Nat.le_max_right ..
 generalize hk:gg s.done s.read l h=k at hat e1 e2 e3
 have hput:s.put (l,h)=⟨s.lays.take k++(s.lays.getD k []++[(l,h)])::s.lays.drop (k+1),s.done.set h (k+1),s.read.set l (max (g0 s.read l) k)⟩:=by
  simp only[PS.put,hk,FF hat]
 rw[hput]
 have dl:=L.dl;have rl:=L.rl
 have hgd:∀x,g0 (s.done.set h (k+1)) x=if x=h then k+1 else g0 s.done x:=fun x=>zT (dl▸hn)
 have hgr:∀x,g0 (s.read.set l (max (g0 s.read l) k)) x=if x=l then max (g0 s.read l) k else g0 s.read x:=fun x=>zT (rl▸cw hlh hn)
 have wq:(s.lays.take k++(s.lays.getD k []++[(l,h)])::s.lays.drop (k+1)).length=max s.lays.length (k+1):=by rw[bG,gP,eU,hZ,Nat.min_eq_left hat,Gd hat]
 have hlt:(s.lays.take k).length=k:=by rw[gP,Nat.min_eq_left hat]
 have old:∀i y,s.lays[i]?=some y->∀p∈y,i<g0 (s.done.set h (k+1)) p.2/\i<=g0 (s.read.set l (max (g0 s.read l) k)) p.1/\p.1<p.2/\p.2<n:=by
  intro i y hy p hp
  obtain⟨a1,a2,a3,a4⟩:=L.hi i y hy p hp
  rw[hgd,hgr]
  refine⟨?_,?_,a3,a4⟩
  ·split
   ·rename_i e;rw[e] at a1;exact Nat.lt_succ_of_le (aB (bY a1) e2)
   ·exact a1
  ·split
   ·rename_i e;rw[e] at a2;exact aB a2 (Nat.le_max_left ..)
   ·exact a2
 have hgetk:∀p,p∈s.lays.getD k []->∃y,s.lays[k]?=some y/\p∈y:=by
  intro p hp
  rw[ck] at hp
  refine xC (s.lays[k]?) (fun hy=>?_) fun y hy=>?_
  ·rw[hy] at hp;cases hp
  ·rw[hy] at hp;exact⟨y,rfl,hp⟩
 have hidx:∀i,(s.lays.take k++(s.lays.getD k []++[(l,h)])::s.lays.drop (k+1))[i]?=if i=k then some (s.lays.getD k []++[(l,h)]) else s.lays[i]?:=by
  intro i
  rcases Nat.lt_trichotomy i k with hi |hi |hi
  ·rw[jd (Nat.lt_of_lt_of_eq hi hlt.symm),List.getElem?_take,if_pos hi,if_neg (cj hi)]
  ·subst hi;rw[iE (gk hlt),hlt,Nat.sub_self,if_pos rfl];rfl
  ·rw[iE (aB (gk hlt) (bY hi)),if_neg (Nat.ne_of_gt hi),hlt]
   obtain⟨j,rfl⟩:=Nat.exists_eq_add_of_le (show k+1<=i from hi)
   rw[show k+1+j-k=j+1 by rw[Nat.add_assoc,Nat.add_sub_cancel_left,Nat.add_comm],List.getElem?_cons_succ,List.getElem?_drop]
 have hmem:∀y,y∈(s.lays.take k++(s.lays.getD k []++[(l,h)])::s.lays.drop (k+1))->y=s.lays.getD k []++[(l,h)]\/y∈s.lays:=by
  intro y hy
  rcases cE.mp hy with hy |hy
  ·exact .inr (List.mem_of_mem_take hy)
  ·rcases bc.mp hy with hy |hy
   ·exact .inl hy
   ·exact .inr (List.mem_of_mem_drop hy)
 have hkh:∀p∈s.lays.getD k [],p.2≠h/\p.2≠l:=by
  intro p hp
  obtain⟨y,hy,hp⟩:=hgetk p hp
  obtain⟨a1,_⟩:=L.hi k y hy p hp
  constructor
  ·intro e;rw[e] at a1;exact eI _ (dg a1 e2)
  ·intro e;rw[e] at a1;exact eI _ (dg a1 e1)
 have hknd:((s.lays.getD k []).map (·.2)).Nodup:=by
  rw[ck]
  refine xC (s.lays[k]?) (fun hy=>?_) fun y hy=>?_
  ·exact List.nodup_nil
  ·exact L.nd y (cD hy)
 exact{
  dl:=(fW ..).trans dl
  rl:=(fW ..).trans rl
  hi:=by
   intro i y hy p hp
   rw[hidx] at hy
   split at hy
   ·rename_i e;subst e
    (injection hy with Ja;subst Ja)
    rcases cE.mp hp with hp |hp
    ·obtain⟨y,hy,hp⟩:=hgetk p hp
     exact old _ y hy p hp
    ·rw[aV.mp hp,hgd,hgr,if_pos rfl,if_pos rfl]
     exact⟨Nat.lt_succ_self _,Nat.le_max_right ..,hlh,hn⟩
   ·exact old _ y hy p hp
  ne:=by
   intro y hy
   rcases hmem y hy with rfl |hy
   ·exact List.append_ne_nil_of_right_ne_nil _ (List.cons_ne_nil _ _)
   ·exact L.ne y hy
  nd:=by
   intro y hy
   rcases hmem y hy with rfl |hy
   ·rw[du,List.nodup_append]
    refine⟨hknd,List.pairwise_singleton ..,?_⟩
    intro a ha b hb
    revert ha;refine xL fun p hp wj=>?_;subst wj
    rw[show b=h from aV.mp hb]
    exact(hkh p hp).1
   ·exact L.nd y hy
  dm:=by
   intro x
   rw[wq,hgd,hgr]
   have d1:=L.dm x;have d2:=L.dm l
   constructor<;>split
   ·exact Nat.le_max_right ..
   ·exact aB d1.1 (Nat.le_max_left ..)
   ·exact Nat.max_le.mpr ⟨aB d2.2 (Nat.le_max_left ..),aB (Nat.le_succ k) (Nat.le_max_right ..)⟩
   ·exact aB d1.2 (Nat.le_max_left ..)
  run:=by
   intro α f σ
   rw[EO,<-L.run f σ,JQ hat]
   refine Kv (l:=l) (h:=h) ?_ (FY hknd) hkh ?_ (cj hlh) σ
   ·intro p;exact cE.trans (Or.comm.trans (or_congr_left aV))
   ·intro lay hlay p hp
    obtain⟨i,hi,e⟩:=List.mem_iff_getElem.mp hlay
    have hy:s.lays[k+1+i]?=some lay:=by
     rw[<- List.getElem?_drop,bp hi,e]
    obtain⟨a1,a2,a3,a4⟩:=L.hi _ lay hy p hp
    refine⟨?_,?_,?_⟩<;>intro e
    ·rw[e] at a2;exact Nat.not_succ_le_self k (aB (fM ..) (aB a2 e3))
    ·rw[e] at a1;exact Nat.not_succ_le_self k (aB (fM ..) (aB (bY a1) e2))
    ·rw[e] at a1;exact Nat.not_succ_le_self k (aB (fM ..) (aB (bY a1) e1)) }
theorem bg.puts:∀{ks:List (Nat×Nat)} {s:PS} {js:List (Nat×Nat)},bg n s js->(∀p∈ks,p.1<p.2/\p.2<n)->bg n (s.puts ks) (js++ks)
 |[],s,js,L,_=>by simpa[PS.puts] using L
 |(l,h)::r,s,js,L,hk=>by
  have hp:=hk (l,h) aL;have:=bg.puts (ks:=r) (L.put hp.1 hp.2) fun p hp=>hk p (a9 _ hp);rw[eH] at this;exact this
def batch:List Nat->List Nat->List (Nat×Nat)->Prop
 |_,_,[]=>True
 |wr,rd,(l,h)::r=>l∉wr/\h∉wr/\h∉rd/\batch (h::wr) (l::rd) r
theorem EZ {s:PS} (L:bg n s js) (l h:Nat):(s.put (l,h)).lays.length=max s.lays.length (gg s.done s.read l h+1):=by
 simp only[PS.put,FF (L.at_le l h)];rw[bG,gP,eU,hZ,Nat.min_eq_left (L.at_le l h),Gd (L.at_le l h)]
theorem DR:∀{ks:List (Nat×Nat)} {s:PS} {js:List (Nat×Nat)} {wr rd:List Nat},bg n s js->(∀p∈ks,p.1<p.2/\p.2<n)->batch wr rd ks -> (∀x,(x∉wr->g0 s.done x<=M)/\(x∉wr->x∉rd->g0 s.read x<=M))->s.lays.length<=M+1->(s.puts ks).lays.length<=M+1
 |[],s,js,wr,rd,L,_,_,_,hs=>hs
 |(l,h)::r,s,js,wr,rd,L,hk,hb,hx,hs=>by
  have hp:=hk (l,h) aL;obtain⟨b1,b2,b3,b4⟩:=hb;have x1:=(hx l).1 b1;have x2:=(hx h).1 b2;have x3:=(hx h).2 b2 b3;have hat:gg s.done s.read l h<=M:=Nat.max_le.mpr ⟨Nat.max_le.mpr ⟨x1,x2⟩,x3⟩;refine DR (ks:=r) (L.put hp.1 hp.2) (fun p hp=>hk p (a9 _ hp)) b4 ?_ ?_
  ·intro x;show(_->g0 (s.done.set _ _) x<=M)/\(_->_->g0 (s.read.set _ _) x<=M);rw[zT (L.dl▸hp.2),zT (L.rl▸cw hp.1 hp.2)];constructor
   ·intro hw;have:x≠h:=fun e=>hw (e▸aL);rw[if_neg this];exact(hx x).1 fun hw'=>hw (a9 _ hw')
   ·intro hw hr;have:x≠l:=fun e=>hr (e▸aL);rw[if_neg this];exact(hx x).2 (fun hw'=>hw (a9 _ hw')) (fun hr'=>hr (a9 _ hr'))
  ·rw[EZ L];exact Nat.max_le.mpr ⟨hs,Nat.succ_le_succ hat⟩
def bg.batch {s:PS} (L:bg n s js) (hk:∀p∈ks,p.1<p.2/\p.2<n) (hb:Bn.batch [] [] ks):(s.puts ks).lays.length<=s.lays.length+1:=
 DR L hk hb (fun x=>⟨fun Z=>(L.dm x).1,fun Z Z=>(L.dm x).2⟩) (Nat.le_succ _)
variable {a b:List (Nat×Nat)}{s':PS}
noncomputable def upd(B:Nat->Nat)(h v:Nat):Nat->Nat:=fun x=>if x=h then v else B x
def qx{v:Nat}(e:x≠h):upd B h v x=B x:=if_neg e
def zY{v:Nat}:upd B h v h=v:=if_pos rfl
def fY(B:Nat->Nat):List (Nat×Nat)->(Nat->Nat)->Prop
 |[],B'=>B=B'
 |(l,h)::r,B'=>l+1=B h/\fY (upd B h (B l)) r B'
theorem fY.append:∀{a b:List (Nat×Nat)}{B B1 B2:Nat->Nat},fY B a B1->fY B1 b B2->fY B (a++b) B2
 |[],b,B,B1,B2,h1,h2=>by subst h1;exact h2
 |(l,h)::r,b,B,B1,B2,h1,h2=>⟨h1.1,h1.2.append h2⟩
noncomputable def c7(b x:Nat):List Nat:=List.range' b (x+1-b)
def ET{b:Nat}(h1:b<=l)(h2:l<h):c7 b l++c7 (l+1) h=c7 b h:=by
 unfold c7;have e:l+1=b+1*(l+1-b):=by exact aw [_,_] [] 0x6194a000c2018061004050846100023410a5000610200308000000a50006101003080002842308001 (Y2 (Y0 V0 J1) (Y0 V1 (Y1 J1 (Y2 (Y0 V0 J1) V1)))) (Y0 V1 V0) h1
 rw[show List.range' (l+1) (h+1-(l+1))=List.range' (b+1*(l+1-b)) (h+1-(l+1)) by rw[<- e],List.range'_append];congr 1;exact bC [_,_,_] [] 0x61a08528003081201840000003294a50008102c03080e01840300c20080a108c20104a3080011840208d04294a000c2040061024030800000065294a000c205806101c0308060184010146100023080412842308041 (Y2 (Y0 (Y2 (Y0 V0 J1) V1) (Y2 (Y0 V2 J1) (Y0 V0 J1))) (Y2 (Y0 V2 J1) V1)) (Y0 V1 V0) (Y1 V0 V2) (Y2 (Y0 V0 J1) (Y0 V1 (Y1 J1 (Y2 (Y0 V0 J1) V1)))) h1 h2 e
theorem yV:∀{js:List (Nat×Nat)} {B B':Nat->Nat},fY B js B'->(∀x,B x<=x)->(∀x,B' x<=x)/\fK (·++·) js (fun x=>c7 (B x) x)=fun x=>c7 (B' x) x
 |[],B,B',h,hb=>by subst h;exact⟨hb,rfl⟩
 |(l,h)::r,B,B',hp,hb=>by
  obtain⟨h1,h2⟩:=hp;have hlh:l<h:=by have:=hb h;exact aA [_,_,_] [] kab (Y1 V0 V1) (Y2 (Y0 V0 J1) V2) (Y0 V2 V1) h1 this
  have hb':∀x,upd B h (B l) x<=x:=by
   intro x;unfold upd;split
   ·have:=hb l;exact bC [_,_,_,_] [] 0xa5294001840000c200808100c0308040 (Y0 V0 V1) (Y1 V2 V3) (Y0 V0 V2) (Y2 V1 V3) hlh this (by assumption)
   ·exact hb x
  obtain⟨i1,i2⟩:=yV h2 hb';refine⟨i1,?_⟩;rw[<- i2];simp only[J5];congr 1;funext x;unfold zg;by_cases e:x=h
  ·subst e;rw[if_pos rfl,zY];show c7 (B l) l++c7 (B x) x=_;rw[<- h1,ET (hb l) hlh]
  ·rw[if_neg e,qx e]
theorem Ac:∀{js:List (Nat×Nat)} {B B':Nat->Nat},fY B js B'->(∀x,B x<=x)->∀p∈js,p.1<p.2
 |[],_,_,_,_,p,hp=>by cases hp
 |(l,h)::r,B,B',hp,hb,p,hm=>by
  obtain⟨h1,h2⟩:=hp;have hlh:l<h:=by have:=hb h;exact aA [_,_,_] [] kab (Y1 V0 V1) (Y2 (Y0 V0 J1) V2) (Y0 V2 V1) h1 this
  rcases bc.mp hm with rfl |hm
  ·exact hlh
  ·refine Ac h2 ?_ p hm;intro x;unfold upd;split
   ·have:=hb l;exact bC [_,_,_,_] [] 0xa5294001840000c200808100c0308040 (Y0 V0 V1) (Y1 V2 V3) (Y0 V0 V2) (Y2 V1 V3) hlh this (by assumption)
   ·exact hb x
def my (B:Nat->Nat):Nat->List Nat->Prop
 |_,[]=>True
 |s,x::r=>B x=s/\s<=x/\my B (x+1) r
theorem my.ge:∀{xs:List Nat}{s:Nat},my B s xs->∀x∈xs,s<=x
 |[],_,_,x,hx=>by cases hx
 |y::r,s,h,x,hx=>by
  rcases bc.mp hx with rfl |hx
  ·exact h.2.1
  ·have:=h.2.2.ge x hx;have:=h.2.1;exact aA [_,_,_] [] kaf (Y0 V0 V1) (Y0 V0 V2) (Y0 (Y0 V2 J1) V1) this (by assumption)
theorem my.congr:∀{xs:List Nat}{s:Nat},my B s xs->(∀x∈xs,B' x=B x)->my B' s xs
 |[],_,_,_=>trivial
 |y::r,s,h,hx=>⟨(hx y aL).trans h.1,h.2.1,h.2.2.congr fun x hm=>hx x (a9 _ hm)⟩
noncomputable def thin(cond:Nat->Bool):Nat->Nat->List Nat->List (Nat×Nat)×List (Nat×Nat)×List Nat
 |_,_,[]=>([],[],[])
 |_,_,[x]=>([],[],[x])
 |k,s,x::y::r=>if cond k then((x,y)::(thin cond (k+2) (y+1) r).1,(if s=0 then[] else[(s-1,x)])++(thin cond (k+2) (y+1) r).2.1,y::(thin cond (k+2) (y+1) r).2.2)
  else((thin cond (k+1) (x+1) (y::r)).1,(thin cond (k+1) (x+1) (y::r)).2.1,x::(thin cond (k+1) (x+1) (y::r)).2.2)
theorem ky:thin cond k s []=([],[],[]):=rfl
theorem Bk{y:Nat}:thin cond k s (x::y::r)=if cond k then((x,y)::(thin cond (k+2) (y+1) r).1,(if s=0 then[] else[(s-1,x)])++(thin cond (k+2) (y+1) r).2.1,y::(thin cond (k+2) (y+1) r).2.2)
  else((thin cond (k+1) (x+1) (y::r)).1,(thin cond (k+1) (x+1) (y::r)).2.1,x::(thin cond (k+1) (x+1) (y::r)).2.2):=rfl
structure cH(B:Nat->Nat)(s:Nat)(rest:List Nat)(t:List (Nat×Nat)×List (Nat×Nat)×List Nat)(B1:Nat->Nat):Prop where
 plays:fY B t.1 B1
 same:∀x,x∉rest->B1 x=B x
 chain:my B1 s t.2.2
 sub:∀x∈t.2.2,x∈rest
 mem:∀p∈t.1,p.1∈rest/\p.2∈rest
 lmem:∀p∈t.2.1,(p.1∈rest\/p.1+1=s)/\p.2∈rest
 batch:∀wr rd:List Nat,(∀z∈wr,z<s)->(∀z∈rd,z<s)->batch wr rd t.1
 len:t.2.2.length+t.1.length=rest.length/\t.2.1.length<=t.1.length
 fill:∀B2,(∀x∈t.2.2,B2 x=0)->(∀x∈rest,x∉t.2.2->B2 x=B1 x)->(s=0\/B2 (s-1)=0)->∃B3,fY B2 t.2.1.reverse B3/\(∀x∈rest,B3 x=0)/\∀x,x∉rest->B3 x=B2 x
def wD{y z:Nat}(h:z∈x::y::r){P:Nat->Prop}(hx:P x)(hy:P y)(hr:∀z∈r,P z):P z:=eD.mpr ⟨hx,eD.mpr ⟨hy,hr⟩⟩ z h
def cH.two{y:Nat}(c1:B x=s)(c2:s<=x)(c3:x+1=B y)(c4:x<y)(hr:∀z∈r,y<z)(T:cH (upd B y (B x)) (y+1) r (a,b,c) B1) :
  cH B s (x::y::r) ((x,y)::a,(if s=0 then[] else[(s-1,x)])++b,y::c) B1:=by
 have hyr:y∉r:=fun h=>eI _ (hr y h)
 have hxr:x∉r:=fun h=>Nat.lt_asymm c4 (hr x h)
 have hx1:B1 x=s:=(T.same x hxr).trans ((qx (cj c4)).trans c1)
 exact{
  plays:=⟨c3,T.plays⟩
  same:=fun z hz=>(T.same z fun h=>hz (.tail _ (.tail _ h))).trans (qx fun e=>hz (e▸.tail _ (.head _)))
  chain:=⟨(T.same y hyr).trans (zY.trans c1),aB c2 (bY c4),T.chain⟩
  sub:=eD.mpr ⟨.tail _ (.head _),fun z hz=>.tail _ (.tail _ (T.sub z hz))⟩
  mem:=eD.mpr ⟨⟨.head _,.tail _ (.head _)⟩,fun p hp=>⟨.tail _ (.tail _ (T.mem p hp).1),.tail _ (.tail _ (T.mem p hp).2)⟩⟩
  lmem:=List.forall_mem_append.mpr ⟨fun p hp=>by
   by_cases hs:s=0
   ·rw[if_pos hs] at hp;cases hp
   ·rw[if_neg hs] at hp
    rw[aV.mp hp]
    exact⟨.inr (Nat.sub_add_cancel (Nat.pos_of_ne_zero hs)),.head _⟩,fun p hp=>⟨.inl ((T.lmem p hp).1.elim (fun h=>.tail _ (.tail _ h)) fun h=>Nat.succ.inj h▸.tail _ (.head _)),.tail _ (.tail _ (T.lmem p hp).2)⟩⟩
  batch:=fun wr rd hw hrd=>⟨fun h=>Nat.not_lt.mpr c2 (hw _ h),fun h=>Nat.not_lt.mpr (aB c2 (bY c4)) (hw _ h),fun h=>Nat.not_lt.mpr (aB c2 (bY c4)) (hrd _ h),
   T.batch _ _ (eD.mpr ⟨Nat.lt_succ_self y,fun z hz=>dg (hw z hz) (aB c2 (ir (bY c4)))⟩) (eD.mpr ⟨Nat.lt_succ_of_lt c4,fun z hz=>dg (hrd z hz) (aB c2 (ir (bY c4)))⟩)⟩
  len:=by
   refine⟨?_,?_⟩
   ·have:=T.len.1;show c.length+1+(a.length+1)=r.length+1+1;have:c.length+a.length=r.length:=this;exact aw [_,_,_] [] kae (Y2 (Y0 (Y0 V0 J1) (Y0 V1 J1)) (Y0 (Y0 V2 J1) J1)) (Y2 (Y0 V0 V1) V2) (by assumption)
   ·have:b.length<=a.length:=T.len.2
    show((if s=0 then[] else[(s-1,x)])++b).length<=a.length+1
    by_cases hs:s=0
    ·rw[if_pos hs];exact ir this
    ·rw[if_neg hs];exact Nat.succ_le_succ this
  fill:=fun B2 h0 h1 hs=>by
   have hB2x:B2 x=s:=(h1 x (.head _) fun h=>(bc.mp h).elim (cj c4) fun h=>hxr (T.sub x h)).trans hx1
   obtain⟨B3,P3,Z3,S3⟩:=T.fill B2 (fun z hz=>h0 z (.tail _ hz)) (fun z hzr hz=>h1 z (.tail _ (.tail _ hzr)) fun h=>(bc.mp h).elim (fun e=>hyr (e▸hzr)) hz) (.inr (h0 y (.head _)))
   have h3y:B3 y=0:=(S3 y hyr).trans (h0 y (.head _))
   have h3x:B3 x=s:=(S3 x hxr).trans hB2x
   by_cases e0:s=0
   ·rw[if_pos e0]
    exact⟨B3,P3,fun z hz=>wD (P:=fun z=>B3 z=0) hz (h3x.trans e0) h3y Z3,fun z hz=>S3 z fun h=>hz (.tail _ (.tail _ h))⟩
   ·have h30:B3 (s-1)=0:=(S3 _ fun h=>Nat.lt_asymm (hr _ h) (dg (Nat.sub_lt (Nat.pos_of_ne_zero e0) Nat.one_pos) (aB c2 (bY c4)))).trans (hs.resolve_left e0)
    rw[if_neg e0]
    refine⟨upd B3 x (B3 (s-1)),?_,fun z hz=>?_,fun z hz=>(qx fun e:z=x=>hz (e▸.head _)).trans (S3 z fun h=>hz (.tail _ (.tail _ h)))⟩
    ·show fY B2 ((s-1,x)::b).reverse _
     rw[List.reverse_cons]
     exact P3.append ⟨(Nat.sub_add_cancel (Nat.pos_of_ne_zero e0)).trans h3x.symm,rfl⟩
    ·by_cases e:z=x
     ·rw[e,zY,h30]
     ·rw[qx e];exact wD (P:=fun z=>z≠x->B3 z=0) hz (fun h=>absurd rfl h) (fun Z=>h3y) (fun z h Z=>Z3 z h) e }
def cH.one (c1:B x=s) (c2:s<=x) (hr:∀z∈r,x<z) (T:cH B (x+1) r (a,b,c) B1):cH B s (x::r) (a,b,x::c) B1:=by
 have hxr:x∉r:=fun h=>eI _ (hr x h)
 exact{
  plays:=T.plays
  same:=fun z hz=>T.same z fun h=>hz (.tail _ h)
  chain:=⟨(T.same x hxr).trans c1,c2,T.chain⟩
  sub:=eD.mpr ⟨.head _,fun z hz=>.tail _ (T.sub z hz)⟩
  mem:=fun p hp=>⟨.tail _ (T.mem p hp).1,.tail _ (T.mem p hp).2⟩
  lmem:=fun p hp=>⟨.inl ((T.lmem p hp).1.elim (fun h=>.tail _ h) fun h=>Nat.succ.inj h▸.head _),.tail _ (T.lmem p hp).2⟩
  batch:=fun wr rd hw hrd=>T.batch _ _ (fun z hz=>dg (hw z hz) (ir c2)) (fun z hz=>dg (hrd z hz) (ir c2))
  len:=⟨by have:c.length+a.length=r.length:=T.len.1;show c.length+1+a.length=r.length+1;exact aw [_,_,_] [] kae (Y2 (Y0 (Y0 V0 J1) V1) (Y0 V2 J1)) (Y2 (Y0 V0 V1) V2) this,T.len.2⟩
  fill:=fun B2 h0 h1 hs=>by
   obtain⟨B3,P3,Z3,S3⟩:=T.fill B2 (fun z hz=>h0 z (.tail _ hz)) (fun z hzr hz=>h1 z (.tail _ hzr) fun h=>(bc.mp h).elim (fun e=>hxr (e▸hzr)) hz) (.inr (h0 x (.head _)))
   exact⟨B3,P3,eD.mpr ⟨(S3 x hxr).trans (h0 x (.head _)),Z3⟩,fun z hz=>S3 z fun h=>hz (.tail _ h)⟩ }
theorem Bd (cond:Nat->Bool):∀(k s:Nat) (rest:List Nat) (B:Nat->Nat),my B s rest->∃B1,cH B s rest (thin cond k s rest) B1
 |k,s,[],B,_=>⟨B,{ plays:=rfl,same:=fun Z Z=>rfl,chain:=trivial,sub:=fun Z h=>(nomatch h),mem:=fun Z h=>(nomatch h),lmem:=fun Z h=>(nomatch h),batch:=fun Z Z Z Z=>trivial,len:=⟨rfl,aN _⟩,fill:=fun B2 Z Z Z=>⟨B2,rfl,fun Z h=>(nomatch h),fun Z Z=>rfl⟩ }⟩
 |k,s,[x],B,hc=>⟨B,{ plays:=rfl,same:=fun Z Z=>rfl,chain:=hc,sub:=fun x hx=>hx,mem:=fun Z h=>(nomatch h),lmem:=fun Z h=>(nomatch h),batch:=fun Z Z Z Z=>trivial,len:=⟨rfl,aN _⟩,fill:=fun B2 h Z Z=>⟨B2,rfl,h,fun Z Z=>rfl⟩ }⟩
 |k,s,x::y::r,B,hc=>by
  rw[Bk]
  have hr:∀z∈r,y<z:=fun z hz=>hc.2.2.2.2.ge z hz
  by_cases hk:cond k=true
  ·rw[if_pos hk]
   obtain⟨B1,T⟩:=Bd cond (k+2) (y+1) r (upd B y (B x)) (hc.2.2.2.2.congr fun z hz=>qx (Nat.ne_of_gt (hr z hz)))
   exact⟨B1,.two hc.1 hc.2.1 hc.2.2.1.symm hc.2.2.2.1 hr T⟩
  ·rw[if_neg hk]
   obtain⟨B1,T⟩:=Bd cond (k+1) (x+1) (y::r) B hc.2.2
   exact⟨B1,.one hc.1 hc.2.1 (eD.mpr ⟨hc.2.2.2.1,fun z hz=>cw hc.2.2.2.1 (hr z hz)⟩) T⟩
def gH(B:Nat->Nat):Nat->List (List Nat)->Prop
 |_,[]=>True
 |s,g::r=>(∀x∈g,B x=s/\s<=x)/\g.Pairwise (· < ·)/\∃m,g.getLast?=some m/\gH B (m+1) r
theorem vt:∀{g:List Nat}{m:Nat},g.Pairwise (· < ·)->g.getLast?=some m->∀x∈g,x<=m
 |[],_,_,h,_,_=>by injection h
 |[a],m,_,h,x,hx=>by simp at h hx;exact aA [_,_,_] [] kab (Y0 V0 V1) (Y2 V2 V1) (Y2 V0 V2) h hx
 |a::b::r,m,hp,h,x,hx=>by
  rw[List.pairwise_cons] at hp;have hm:(b::r).getLast?=some m:=by rw[<- h];simp[List.getLast?_cons]
  rcases bc.mp hx with rfl |hx
  ·have:=hp.1 b aL;have:=vt hp.2 hm b aL;exact aA [_,_,_] [] kaf (Y0 V0 V1) (Y0 V2 V1) (Y1 V0 V2) this (by assumption)
  ·exact vt hp.2 hm x hx
theorem gH.ge:∀{gs:List (List Nat)} {s:Nat},gH B s gs->∀g∈gs,∀x∈g,s<=x
 |[],_,_,g,hg,_,_=>by cases hg
 |g::r,s,h,g',hg,x,hx=>by
  obtain⟨h1,h2,m,h3,h4⟩:=h;rcases bc.mp hg with rfl |hg
  ·exact(h1 x hx).2
  ·have:=h4.ge g' hg x hx;have hm:m∈g:=List.mem_of_getLast? h3;have:=(h1 m hm).2;exact aA [_,_,_] [] kaf (Y0 V0 V1) (Y0 V0 V2) (Y0 (Y0 V2 J1) V1) this (by assumption)
theorem gH.congr:∀{gs:List (List Nat)} {s:Nat},gH B s gs->(∀g∈gs,∀x∈g,B' x=B x)->gH B' s gs
 |[],_,_,_=>trivial
 |g::r,s,hG,hx=>⟨fun x hm=>by rw[hx g aL x hm];exact hG.1 x hm,hG.2.1,hG.2.2.elim fun m h=>⟨m,h.1,h.2.congr fun g' hg=>hx g' (a9 _ hg)⟩⟩
theorem gH.of:∀{xs:List Nat} {s:Nat},my B s xs->gH B s (xs.map fun x=>[x])
 |[],_,_=>trivial
 |x::r,s,h=>⟨fun y hy=>by rw[aV.mp hy];exact⟨h.1,h.2.1⟩,List.pairwise_singleton _ _,x,rfl,gH.of h.2.2⟩
theorem Do:∀{h:List Nat}{B:Nat->Nat},(∀x∈h,B x=m+1)->m∉h->h.Nodup->∃B',fY B (h.map fun y=>(m,y)) B'/\(∀x∈h,B' x=B m)/\∀x,x∉h->B' x=B x
 |[],B,_,_,_=>⟨B,rfl,fun x hx=>(by cases hx),fun Z Z=>rfl⟩
 |y::r,B,hB,hm,hnd=>by
  rw[mT] at hnd;simp only[bc,not_or] at hm;obtain⟨B',h1,h2,h3⟩:=Do (h:=r) (B:=upd B y (B m)) (fun x hx=>by
   have hxy:x≠y:=fun e=>hnd.1 (e▸hx);rw[qx hxy];exact hB x (a9 _ hx)) hm.2 hnd.2
  have hmm:upd B y (B m) m=B m:=qx hm.1;refine⟨B',⟨(hB y aL).symm,h1⟩,?_,?_⟩
  ·intro x hx;rcases bc.mp hx with rfl |hx
   ·rw[h3 x hnd.1,zY]
   ·rw[h2 x hx,hmm]
  ·intro x hx;simp only[bc,not_or] at hx;rw[h3 x hx.2,qx hx.1]
theorem D4:∀{h:List Nat}{wr rd:List Nat},h.Nodup->m∉h->m∉wr->(∀x∈h,x∉wr/\x∉rd)->batch wr rd (h.map fun y=>(m,y))
 |[],_,_,_,_,_,_=>trivial
 |y::r,wr,rd,hnd,hm,hw,hx=>by
  rw[mT] at hnd;simp only[bc,not_or] at hm;have h1:=hx y aL;refine⟨hw,h1.1,h1.2,D4 hnd.2 hm.2 ?_ ?_⟩
  ·simp only[bc,not_or];exact⟨hm.1,hw⟩
  ·intro x hxr;have h2:=hx x (a9 _ hxr);simp only[bc,not_or];exact⟨⟨fun e=>hnd.1 (e▸hxr),h2.1⟩,fun e=>hm.2 (e▸hxr),h2.2⟩
def Dd(h:g.Pairwise (· < ·)):g.Nodup:=h.imp (fun h=>by exact aw [_,_] [] 0x429400184020102000000 (Y8 (Y2 V0 V1) J0) (Y1 V0 V1) h)
theorem Gj{a b:List Nat}:∀{pre post:List (List Nat)}{s:Nat}{B:Nat->Nat},gH B s (pre++a::b::post)->∃m,a.getLast?=some m/\m∉b/\b.Nodup/\∃B',fY B (b.map fun y=>(m,y)) B' /\
  gH B' s (pre++(a++b)::post)/\∀x,x∉b->B' x=B x
 |[],post,s,B,hG=>by
  obtain⟨h1,h2,m,h3,h4,h5,m',h6,h7⟩:=hG;have hm:=(h1 m (List.mem_of_getLast? h3));have hmb:m∉b:=fun h=>by have:=(h4 m h).2;exact aw [_] [] 171801870368 J0 (Y0 (Y0 V0 J1) V0) this
  obtain⟨B',p1,p2,p3⟩:=Do (B:=B) (m:=m) (fun x hx=>(h4 x hx).1) hmb (Dd h5);refine⟨m,h3,hmb,Dd h5,B',p1,⟨?_,?_,m',?_,h7.congr fun g hg x hx=>p3 x fun hb=>?_⟩,p3⟩
  ·intro x hx;rcases cE.mp hx with hx |hx
   ·rw[p3 x fun hb=>?_] at ⊢
    ·exact h1 x hx
    ·have:=vt h2 h3 x hx;have:=(h4 x hb).2;exact aA [_,_] [] 0xa5000610080308020 J0 (Y0 (Y0 V0 J1) V1) (Y0 V1 V0) this (by assumption)
   ·rw[p2 x hx] at ⊢;have:=(h4 x hx).2;exact⟨hm.1,by exact aA [_,_,_] [] kab (Y0 V0 V1) (Y0 V0 V2) (Y0 (Y0 V2 J1) V1) hm.2 this⟩
  ·rw[List.pairwise_append] at ⊢;refine⟨h2,h5,fun x hx y hy=>?_⟩;have:=vt h2 h3 x hx;have:=(h4 y hy).2;exact aA [_,_,_] [] kaf (Y1 V0 V1) (Y0 (Y0 V2 J1) V1) (Y0 V0 V2) this (by assumption)
  ·rw[List.getLast?_append,h6] at ⊢;rfl
  ·have:=h7.ge g hg x hx;have:=vt h5 h6 x hb;exact aA [_,_] [] 0xa5000610080308020 J0 (Y0 V0 V1) (Y0 (Y0 V1 J1) V0) this (by assumption)
 |g::pre,post,s,B,hG=>by
  obtain⟨h1,h2,m,h3,h4⟩:=hG;obtain⟨m',a1,a2,a3,B',a4,a5,a6⟩:=Gj h4;refine⟨m',a1,a2,a3,B',a4,⟨?_,h2,m,h3,a5⟩,a6⟩;intro x hx;rw[a6 x fun hb=>?_] at ⊢
  ·exact h1 x hx
  ·have:=h4.ge b (by simp) x hb;have:=vt h2 h3 x hx;exact aA [_,_] [] 0xa5000610080308020 J0 (Y0 V0 V1) (Y0 (Y0 V1 J1) V0) this (by assumption)
variable {a b g:Nat}{c:Cx}{k:cZ}{r:Net}{s:List (Nat×Nat)->List (Nat×Nat)}
noncomputable def iV(B:Nat->Nat)(y:List (Nat×Nat)):Bool:=y.all fun p=>p.1+1==B p.2
noncomputable def bZ:Net->(Nat->Nat)->Option (Nat->Nat)
 |[],B=>some B
 |y::r,B=>if iV B y then bZ r (bx (fun l Z=>l) y B) else none
theorem Aj:bZ (y::r) B=if iV B y then bZ r (bx (fun l Z=>l) y B) else none:=rfl
def zS (h:bZ (y::r) B=some B'):iV B y=true/\bZ r (bx (fun l Z=>l) y B)=some B':=by
 by_cases c:iV B y=true
 ·exact⟨c,((if_pos c).symm.trans h:bZ r _=_)⟩
 ·exact absurd (((if_neg c).symm.trans h:none=some B')) (fun e=>nomatch e)
noncomputable def c9(n:Nat)(net:Net):Bool:=match bZ net id with
 |none=>false
 |some B=>(List.range n).all fun x=>B x==0
noncomputable def pq(net:Net):Nat->List Nat:=aX (·++·) net fun x=>[x]
def eg(n:Nat)(net:Net):Prop:=∀y∈net,(∀p∈y,p.1<p.2/\p.2<n)/\(y.map (·.2)).Nodup
theorem zc(f:α->α->α)(y:List (Nat×Nat))(σ:Nat->α)(x:Nat):(∃p∈y,p.2=x/\bx f y σ x=f (σ p.1) (σ x))\/bx f y σ x=σ x:=by
 unfold bx;cases h:y.find? (fun p=>p.2==x) with
 |none=>exact .inr rfl
 |some p=>
  have:=List.find?_some h;exact .inl ⟨p,rh h,by simpa using this,rfl⟩
theorem Bf(f:α->α->α)(σ:Nat->α)(hn:(y.map (·.2)).Nodup)(hp:p∈y):bx f y σ p.2=f (σ p.1) (σ p.2):=by
 unfold bx;cases h:y.find? (fun q=>q.2==p.2) with
 |none=>
  rw[List.find?_eq_none] at h;exact absurd (by simp) (h p hp)
 |some q=>
  have:=List.find?_some h;have:=FY hn q (rh h) p hp (by simpa using this);rw[this]
theorem Fb:∀(net:Net)(σ:Nat->List Nat)(x:Nat),∃pre,aX (·++·) net σ x=pre++σ x
 |[],σ,x=>⟨[],rfl⟩
 |y::r,σ,x=>by
  obtain⟨pre,h⟩:=Fb r (bx (·++·) y σ) x;rw[kx,h];rcases zc (·++·) y σ x with⟨p,_,_,e⟩|e
  ·rw[e];exact⟨pre++σ p.1,by simp⟩
  ·rw[e];exact⟨pre,rfl⟩
theorem E4(hb:∀x,B x<=x)(hy:∀p∈y,p.1<p.2/\p.2<n)(ht:iV B y=true) : (∀x,bx (fun l Z=>l) y B x<=x)/\bx (·++·) y (fun x=>c7 (B x) x)=fun x=>c7 (bx (fun l Z=>l) y B x) x:=by
 constructor
 ·intro x;rcases zc (fun l Z=>l) y B x with⟨p,hp,hx,e⟩|e
  ·rw[e];have:=hy p hp;have:=hb p.1;exact bC [_,_,_,_,_] [] 0x4294a50006100803080601840400c2000060 (Y0 V0 V1) (Y2 V2 V1) (Y0 V0 V3) (Y6 (Y1 V3 V2) (Y1 V2 V4)) hx this (by assumption)
  ·rw[e];exact hb x
 ·funext x;unfold bx;cases h:y.find? (fun p=>p.2==x) with
  |none=>rfl
  |some p=>
   have hp:=rh h;have hx:p.2=x:=by simpa using List.find?_some h
   have h1:p.1+1=B p.2:=by
    have:=dQ.mp ht p hp;simpa using this
   subst hx;show c7 (B p.1) p.1++c7 (B p.2) p.2=c7 (B p.1) p.2;rw[<- h1,ET (hb p.1) (hy p hp).1]
theorem Dp:∀{net:Net}{B B':Nat->Nat},eg n net->(∀x,B x<=x)->bZ net B=some B'->(∀x,B' x<=x)/\aX (·++·) net (fun x=>c7 (B x) x)=fun x=>c7 (B' x) x
 |[],B,B',_,hb,h=>by(injection h with Ja;subst Ja);exact⟨hb,rfl⟩
 |y::r,B,B',hf,hb,h=>by
  obtain⟨ht,h⟩:=zS h;obtain⟨s1,s2⟩:=E4 hb (hf y aL).1 ht;have:=Dp (fun z hz=>hf z (a9 _ hz)) s1 h;refine⟨this.1,?_⟩;rw[kx,s2];exact this.2
theorem Hk{P:List Nat}(h:P++a::b::S=List.range m):b=a+1:=by
 have h1:(P++a::b::S)[P.length]?=some a:=by simp
 have h2:(P++a::b::S)[P.length+1]?=some b:=by simp
 rw[h,mO] at h1 h2
 ·(injection h1 with Ja;subst Ja);(injection h2 with Ja;subst Ja);rfl
 all_goals
  have:=congrArg List.length h;simp at this;(first |exact aw [_,_,_] [] kaa (Y1 (Y0 V0 J1) V1) (Y2 (Y0 V0 (Y0 (Y0 V2 J1) J1)) V1) this |exact aw [_,_,_] [] kaa (Y1 V0 V1) (Y2 (Y0 V0 (Y0 (Y0 V2 J1) J1)) V1) this)
set_option tactic.hygienic true in
theorem En:∀{net:Net}{B:Nat->Nat},eg n net->(∀x,B x<=x)->bZ net B=none->∃x,x<n/\aX (·++·) net (fun x=>c7 (B x) x) x≠List.range (x+1)
 |[],B,_,hb,h=>by injection h
 |y::r,B,hf,hb,h=>by
  rw[Aj] at h
  split at h
  ·rename_i ht
   obtain⟨s1,s2⟩:=E4 hb (hf y aL).1 ht
   have:=En (fun z hz=>hf z (a9 _ hz)) s1 h
   rw[kx,s2];exact this
  ·rename_i ht
   have hfy:=hf y aL
   have:∃p∈y,p.1+1≠B p.2:=by
    refine Classical.byContradiction fun hno=>ht ?_
    simp only[iV,dQ,beq_iff_eq]
    exact fun p hp=>Classical.byContradiction fun hne=>hno ⟨p,hp,hne⟩
   obtain⟨p,hp,hne⟩:=this
   refine⟨p.2,(hfy.1 p hp).2,fun hr=>hne ?_⟩
   obtain⟨pre,hs⟩:=Fb r (bx (·++·) y fun x=>c7 (B x) x) p.2
   rw[kx,hs,Bf _ _ hfy.2 hp] at hr
   have e1:c7 (B p.1) p.1=List.range' (B p.1) (p.1-B p.1)++[p.1]:=by
    unfold c7
    have:=hb p.1
    rw[show p.1+1-B p.1=(p.1-B p.1)+1 by exact aw [_,_] [] kay (Y2 (Y2 (Y0 V0 J1) V1) (Y0 (Y2 V0 V1) J1)) (Y0 V1 V0) this,List.range'_concat]
    congr 2;exact aw [_,_] [] kaz (Y2 (Y0 V0 (Y1 J1 (Y2 V1 V0))) V1) (Y0 V0 V1) this
   have e2:c7 (B p.2) p.2=B p.2::List.range' (B p.2+1) (p.2-B p.2):=by
    unfold c7
    have:=hb p.2
    rw[show p.2+1-B p.2=(p.2-B p.2)+1 by exact aw [_,_] [] kay (Y2 (Y2 (Y0 V0 J1) V1) (Y0 (Y2 V0 V1) J1)) (Y0 V1 V0) this,List.range'_succ]
   simp only[e1,e2] at hr
   have hr':(pre++List.range' (B p.1) (p.1-B p.1))++p.1::B p.2::List.range' (B p.2+1) (p.2-B p.2)=List.range (p.2+1):=by
    rw[<- hr];simp
   exact(Hk hr').symm
theorem BW(hb:b<=x):c7 b x=List.range (x+1)↔b=0:=by
 constructor
 ·intro h;have:=congrArg List.length h;simp[c7] at this;exact aA [_,_] [] 0x30d04294001840800c2000000294a00102038061010030800028023080212800308000 (Y2 V0 J0) (Y0 V0 V1) (Y2 (Y2 (Y0 V1 J1) V0) (Y0 V1 J1)) hb this
 ·rintro rfl;simp[c7,List.range_eq_range']
theorem C4{net:Net}(hf:eg n net):c9 n net=true↔∀x,x<n->pq net x=List.range (x+1):=by
 have e0:(fun x:Nat=>[x])=fun x=>c7 (id x) x:=by funext x;simp[c7]
 have hb:∀x:Nat,id x<=x:=fun x=>aN _;unfold c9 pq;rw[e0];refine xC (bZ net id) (fun h=>?_) fun B h=>?_
 ·obtain⟨x,hx,hne⟩:=En hf hb h;simp only[gw,false_iff];exact fun hall=>hne (hall x hx)
 ·obtain⟨s1,s2⟩:=Dp hf hb h;rw[s2];simp only[dQ,eZ,beq_iff_eq];exact⟨fun h x hx=>(BW (s1 x)).mpr (h x hx),fun h x hx=>(BW (s1 x)).mp (h x hx)⟩
theorem Ao:∀{y:List (Nat×Nat)} {lo:Nat},qj n lo y->(∀p∈y,p.1<p.2/\p.2<n/\lo<=p.2)/\(y.map (·.2)).Nodup
 |[],_,_=>⟨fun p hp=>(by cases hp),List.nodup_nil⟩
 |(l,h)::r,lo,⟨h1,h2,h3,h4⟩=>by
  obtain⟨i1,i2⟩:=Ao h4;refine⟨fun p hp=>?_,?_⟩
  ·rcases bc.mp hp with rfl |hp
   ·exact⟨h1,h2,h3⟩
   ·have:=i1 p hp;exact iZ [_,_,_,_,_] [] 0xc6294a000c20180610180308000294001840500c20000a50006100c0308000 (Y6 (Y1 V0 V1) (Y6 (Y1 V1 V2) (Y0 V3 V1))) (Y0 V3 V4) (Y1 V0 V1) (Y1 V1 V2) (Y0 (Y0 V4 J1) V1) h3 this.1 this.2.1 this.2.2
  ·rw[er,mT];refine⟨fun hm=>?_,i2⟩;revert hm;refine xL fun p hp e=>?_;have:=i1 p hp;simp only at e;exact aA [_,_] [] 0xa5000610040308040 J0 (Y2 V0 V1) (Y0 (Y0 V1 J1) V0) e this.2.2
def fL.fair {net:Net} (h:fL n net):eg n net:=fun y hy=>by
 have:=Ao (h.2 y hy).2;exact⟨fun p hp=>⟨(this.1 p hp).1,(this.1 p hp).2.1⟩,this.2⟩
def IK(f:α->α->α){z:List (Nat×Nat)}(σ:Nat->α)(hn:(y.map (·.2)).Nodup)(hp:y.Perm z):bx f z σ=bx f y σ:=by
 have hz:(z.map (·.2)).Nodup:=(hp.map _).nodup_iff.mp hn;funext x;rcases zc f y σ x with⟨p,h1,h2,e⟩|e
 ·subst h2;rw[e,Bf f σ hz (hp.mem_iff.mp h1)]
 ·rcases zc f z σ x with⟨p,h1,h2,e'⟩|e'
  ·subst h2;rw[e',Bf f σ hn (hp.mem_iff.mpr h1)]
  ·rw[e,e']
theorem DH(f:α->α->α):∀{a:Net}(σ:Nat->α),(∀y∈a,(y.map (·.2)).Nodup)->(∀y∈a,y.Perm (s y))->aX f (a.map s) σ=aX f a σ
 |[],σ,_,_=>rfl
 |y::r,σ,hn,hp=>by
  rw[er,kx,kx,IK f σ (hn y aL) (hp y aL)];exact DH f _ (fun y hy=>hn y (a9 _ hy)) (fun y hy=>hp y (a9 _ hy))
theorem se:∀(a b:Net)(B:Nat->Nat),bZ (a++b) B=(bZ a B).bind (bZ b)
 |[],b,B=>rfl
 |y::r,b,B=>by
  simp only[List.cons_append,Aj];split
  ·exact se r b _
  ·rfl
theorem aP:iV B y=true↔∀p∈y,p.1+1=B p.2:=by
 simp only[iV,dQ,beq_iff_eq]
variable {m:Me}{p:Prop}{r:Loc}{s:PS}{x:Option V}
noncomputable def fo(a b:Nat×Nat):Bool:=decide (a.2<b.2)||(decide (a.2=b.2)&&decide (a.1<=b.1))
noncomputable def iT(y:List (Nat×Nat)):List (Nat×Nat):=y.mergeSort fo
def xj(y:List (Nat×Nat)):y.Perm (iT y):=(List.mergeSort_perm y fo).symm
theorem bP{a b:Nat×Nat}:fo a b=true↔a.2<b.2\/(a.2=b.2/\a.1<=b.1):=by simp only[fo,Bool.or_eq_true,Bool.and_eq_true,decide_eq_true_eq]
def Ku{c e f:Nat}(h1:b<d\/(b=d/\a<=c))(h2:d<f\/(d=f/\c<=e)):b<f\/(b=f/\a<=e):=by exact aA [_,_,_,_,_,_] [] kav (Y7 (Y1 V0 V1) (Y6 (Y2 V0 V1) (Y0 V2 V3))) (Y7 (Y1 V0 V4) (Y6 (Y2 V0 V4) (Y0 V2 V5))) (Y7 (Y1 V4 V1) (Y6 (Y2 V4 V1) (Y0 V5 V3))) h1 h2
def Gv(a b c d:Nat):(b<d\/(b=d/\a<=c))\/(d<b\/(d=b/\c<=a)):=by exact ew [_,_,_,_] [] kaw (Y7 (Y7 (Y1 V0 V1) (Y6 (Y2 V0 V1) (Y0 V2 V3))) (Y7 (Y1 V1 V0) (Y6 (Y2 V1 V0) (Y0 V3 V2))))
def G9(y:List (Nat×Nat)):(iT y).Pairwise fun a b=>fo a b=true:=by
 refine List.pairwise_mergeSort ?_ ?_ y
 ·exact fun a b c h1 h2=>bP.mpr (Ku (bP.mp h1) (bP.mp h2))
 ·exact fun a b=>nD.mpr ((Gv a.1 a.2 b.1 b.2).imp bP.mpr bP.mpr)
theorem EA:∀{y:List (Nat×Nat)} {lo:Nat},(y.Pairwise fun a b=>fo a b=true)->(y.map (·.2)).Nodup->(∀p∈y,p.1<p.2/\p.2<n/\lo<=p.2)->qj n lo y
 |[],_,_,_,_=>trivial
 |(l,h)::r,lo,hp,hn,hy=>by
  have h1:=hy (l,h) aL;rw[List.pairwise_cons] at hp;rw[er,mT] at hn;refine⟨h1.1,h1.2.1,h1.2.2,EA hp.2 hn.2 fun p hm=>?_⟩;have h2:=hy p (a9 _ hm);have h3:=hp.1 p hm;have h4:p.2≠h:=fun e=>hn.1 (List.mem_map.mpr ⟨p,hm,e⟩);simp only[fo,Bool.or_eq_true,Bool.and_eq_true,decide_eq_true_eq] at h3;exact⟨h2.1,h2.2.1,by exact aA [_,_,_,_] [] 0x1ca5000610040308000490a50006100c0308000000a5000610040308000 (Y0 (Y0 V0 J1) V1) (Y8 (Y2 V1 V0) J0) (Y7 (Y1 V0 V1) (Y6 (Y2 V0 V1) (Y0 V2 V3))) h4 h3⟩
def I7 (hn:(y.map (·.2)).Nodup) (hy:∀p∈y,p.1<p.2/\p.2<n):qj n 0 (iT y):=by
 refine EA (G9 y) (((xj y).map _).nodup_iff.mp hn) fun p hp=>?_;have:=hy p ((xj y).mem_iff.mpr hp);exact⟨this.1,this.2,dF _⟩
def ly(h:y≠[]):iT y≠[]:=by
 intro e;have:=(xj y).length_eq;rw[e] at this;exact h (iG.mp this)
theorem yQ:∀{n:Nat}{xs:List Nat},xs.Nodup->(∀x∈xs,x<n)->xs.length<=n
 |0,[],_,_=>aN _
 |0,x::_,_,h=>absurd (h x aL) (by exact ew [_] [] 4679524742594560 (Y8 (Y1 V0 J0) J0))
 |n+1,xs,hn,h=>by
  by_cases hm:n∈xs
  ·have:=yQ (n:=n) (xs:=xs.erase n) (hn.erase n) fun x hx=>by
    rw[hn.mem_erase_iff] at hx;have:=h x hx.2;exact aA [_,_] [] kap (Y1 V0 V1) (Y8 (Y2 V0 V1) J0) (Y1 V0 (Y0 V1 J1)) hx.1 this
   rw[List.length_erase_of_mem hm] at this;exact aw [_,_] [] 0x65294001840300c20200610040508001 (Y0 V0 (Y0 V1 J1)) (Y0 (Y2 V0 J1) V1) this
  ·have:=yQ (n:=n) hn fun x hx=>by
    have:=h x hx;have:x≠n:=fun e=>hm (e▸hx);exact aA [_,_] [] kap (Y1 V0 V1) (Y8 (Y2 V0 V1) J0) (Y1 V0 (Y0 V1 J1)) this (by assumption)
   exact aw [_,_] [] kaa (Y0 V0 (Y0 V1 J1)) (Y0 V0 V1) this
theorem bg.wide(L:bg n s js):∀y∈s.lays,y.length<=n:=by
 intro y hy;obtain⟨i,hi,e⟩:=List.mem_iff_getElem.mp hy;have hiy:s.lays[i]?=some y:=by rw[bp hi,e]
 have:=yQ (L.nd y hy) fun x hx=>by
  revert hx;refine xL fun p hp wj=>?_;subst wj;exact(L.hi i y hiy p hp).2.2.2
 simpa using this
theorem vq:∀{ks:List (Nat×Nat)} {s:PS} {js:List (Nat×Nat)},bg n s js->(∀p∈ks,p.1<p.2/\p.2<n)->(s.puts ks).lays.length<=s.lays.length+ks.length
 |[],s,js,_,_=>aN _
 |(l,h)::r,s,js,L,hk=>by
  have hp:=hk (l,h) aL;have:=vq (ks:=r) (L.put hp.1 hp.2) fun p hp=>hk p (a9 _ hp);rw[EZ L] at this;have:=L.at_le l h;simp only[PS.puts,List.foldl_cons,eU] at *;exact bC [_,_,_,_,_] [] 0x9214a528003080601840500c202006100000010a528003080601840500c2000000 (Y0 V0 (Y0 V1 (Y0 V2 J1))) (Y0 V3 V1) (Y0 V0 (Y0 V4 V2)) (Y7 (Y6 (Y2 V4 V1) (Y0 (Y0 V3 J1) V1)) (Y6 (Y2 V4 (Y0 V3 J1)) (Y0 V1 (Y0 V3 J1)))) this (by assumption) (by exact Ar.mx _ _)
structure fH (n:Nat) (net:Net):Prop where
 ok:∀y∈net,fZ n y
 len:net.length<=n+3
 whole:∀x,x<n->pq net x=List.range (x+1)
theorem pL(L:bg n s js)(P:fY id js B)(h0:∀x,x<n->B x=0)(hl:s.lays.length<=n+3):fH n (s.lays.map iT) where
 ok:=by
  intro y hy
  revert hy;refine xL fun z hz wj=>?_;subst wj
  obtain⟨i,hi,e⟩:=List.mem_iff_getElem.mp hz
  have hiz:s.lays[i]?=some z:=by rw[bp hi,e]
  exact⟨ly (L.ne z hz),I7 (L.nd z hz) fun p hp=>(L.hi i z hiz p hp).2.2⟩
 len:=by simpa using hl
 whole:=by
  intro x hx
  unfold pq
  rw[DH _ _ L.nd fun y Z=>xj y,L.run]
  have e0:(fun x:Nat=>[x])=fun x=>c7 (id x) x:=by funext x;simp[c7]
  have:=(yV P fun x=>aN _)
  rw[e0,this.2]
  exact(BW (this.1 x)).mpr (h0 x hx)
def jY(n:Nat)(B:Nat->Nat)(A:List Nat)(left:List (Nat×Nat)):Prop:=
 ∀B2,(∀x∈A,B2 x=0)->(∀x,x∉A->B2 x=B x)->∃B3,fY B2 left.reverse B3/\∀x,x<n->B3 x=0
structure aU(n t:Nat)(s:PS)(left:List (Nat×Nat))(active:List Nat):Prop where
 ex:∃js B,bg n s js/\fY id js B/\my B 0 active/\jY n B active left
 lt:∀x∈active,x<n
 llt:∀p∈left,p.1<n/\p.2<n
 len:active.length+left.length<=n
 lay:s.lays.length<=t
theorem Eo:∀(k s:Nat),my id s (List.range' s k)
 |0,_=>trivial
 |k+1,s=>⟨rfl,aN _,Eo k (s+1)⟩
theorem aU.init(n:Nat):aU n 0 (PS.init n) [] (List.range n) where
 ex:=⟨[],id,bg.init n,rfl,by rw[List.range_eq_range'];exact Eo n 0,fun B2 h Z=>⟨B2,rfl,fun x hx=>h x (by simpa using hx)⟩⟩
 lt:=by simp
 llt:=by simp
 len:=by simp
 lay:=by simp[PS.init]
theorem aU.thin(I:aU n t s left active)(cond:Nat->Bool) :
  aU n (t+1) (s.puts (thin cond 0 0 active).1) (left++(Bn.thin cond 0 0 active).2.1) (Bn.thin cond 0 0 active).2.2/\∀p∈(Bn.thin cond 0 0 active).1,p.1<p.2/\p.2<n:=by
 obtain⟨js,B,L,P,C,F⟩:=I.ex;obtain⟨B1,T⟩:=Bd cond 0 0 active B C;generalize Bn.thin cond 0 0 active=th at T;have hb:=(yV P fun x=>aN _).1;have hlt:∀p∈th.1,p.1<p.2/\p.2<n:=fun p hp=>⟨Ac T.plays hb p hp,I.lt _ (T.mem p hp).2⟩;refine⟨⟨⟨js++th.1,B1,L.puts hlt,P.append T.plays,T.chain,?_⟩,fun x hx=>I.lt x (T.sub x hx),?_,?_,?_⟩,hlt⟩
 ·intro B2 h0 h1;obtain⟨B3,P3,Z3,S3⟩:=T.fill B2 h0 (fun x Z hx=>h1 x hx) (.inl rfl);obtain⟨B4,P4,Z4⟩:=F B3 Z3 fun x hx=>by rw[S3 x hx,h1 x fun h=>hx (T.sub x h),T.same x hx]
  exact⟨B4,by rw[List.reverse_append];exact P3.append P4,Z4⟩
 ·intro p hp;rcases cE.mp hp with hp |hp
  ·exact I.llt p hp
  ·have:=T.lmem p hp;exact⟨I.lt _ (this.1.resolve_right (by exact ew [_] [] 4679524742594560 (Y8 (Y2 (Y0 V0 J1) J0) J0))),I.lt _ this.2⟩
 ·have:=I.len;have:=T.len;simp;exact bC [_,_,_,_,_,_] [] 0xa5294001840000c20180610040308040 (Y0 (Y0 V0 (Y0 V1 V2)) V3) (Y2 (Y0 V0 V4) V5) (Y0 V2 V4) (Y0 (Y0 V5 V1) V3) this.1 this.2 (by assumption)
 ·have:=L.batch hlt (T.batch [] [] (by simp) (by simp));have:=I.lay;exact aA [_,_,_] [] kaf (Y0 V0 (Y0 V1 J1)) (Y0 V2 V1) (Y0 V0 (Y0 V2 J1)) this (by assumption)
structure dr(n M:Nat)(s:PS)(left:List (Nat×Nat))(gs:List (List Nat)):Prop where
 ex:∃js B,bg n s js/\fY id js B/\gH B 0 gs/\jY n B gs.flatten left
 lt:∀g∈gs,∀x∈g,x<n
 llt:∀p∈left,p.1<n/\p.2<n
 lay:s.lays.length+gs.length+left.length<=M
theorem dr.of(I:aU n t s left active):dr n (n+t) s left (active.map fun x=>[x]):=by
 obtain⟨js,B,L,P,C,F⟩:=I.ex;refine⟨⟨js,B,L,P,gH.of C,?_⟩,?_,I.llt,?_⟩
 ·have:∀l:List Nat,(l.map fun x=>[x]).flatten=l:=by intro l;induction l<;>simp_all
  rw[this];exact F
 ·intro g hg x hx;revert hg;refine xL fun y hy wj=>?_;subst wj;rw[aV.mp hx];exact I.lt y hy
 ·have:=I.len;have:=I.lay;simp;exact aA [_,_,_,_,_] [] kaf (Y0 (Y0 (Y0 V0 V1) V2) (Y0 V3 V4)) (Y0 V0 V4) (Y0 (Y0 V1 V2) V3) this (by assumption)
theorem dr.merge{pre post:List (List Nat)}{a b:List Nat}(I:dr n M s left (pre++a::b::post)) :
  ∃m,a.getLast?=some m/\dr n M (s.puts (b.map fun y=>(m,y))) left (pre++(a++b)::post)/\(∀p∈b.map (fun y=>(m,y)),p.1<p.2/\p.2<n):=by
 obtain⟨js,B,L,P,C,F⟩:=I.ex;obtain⟨m,h1,h2,h3,B',h4,h5,h6⟩:=Gj C;have hb:=(yV P fun x=>aN _).1;have hlt:∀p∈b.map (fun y=>(m,y)),p.1<p.2/\p.2<n:=fun p hp=>⟨Ac h4 hb p hp,by
  revert hp;refine xL fun y hy wj=>?_;subst wj;exact I.lt b (by simp) y hy⟩
 refine⟨m,h1,⟨⟨js++_,B',L.puts hlt,P.append h4,h5,?_⟩,?_,I.llt,?_⟩,hlt⟩
 ·have e:(pre++(a++b)::post).flatten=(pre++a::b::post).flatten:=by simp
  rw[e] at ⊢;intro B2 z0 z1;refine F B2 z0 fun x hx=>?_;rw[z1 x hx,h6 x fun hb=>hx ?_] at ⊢;simp[hb]
 ·intro g hg x hx;simp only[cE,bc] at hg;rcases hg with hg |rfl |hg
  ·exact I.lt g (by simp[hg]) x hx
  ·rcases cE.mp hx with hx |hx
   ·exact I.lt a (by simp) x hx
   ·exact I.lt b (by simp) x hx
  ·exact I.lt g (by simp[hg]) x hx
 ·have:=L.batch hlt (D4 h3 h2 (by simp) (by simp));have:=I.lay;simp only[bG,eU] at *;exact aA [_,_,_,_,_,_] [] kaf (Y0 (Y0 (Y0 V0 (Y0 V1 (Y0 V2 J1))) V3) V4) (Y0 (Y0 (Y0 V5 (Y0 V1 (Y0 (Y0 V2 J1) J1))) V3) V4) (Y0 V0 (Y0 V5 J1)) this (by assumption)
theorem dr.fin(I:dr n M s left gs)(h1:gs.length<=1)(hM:M<=n+3) :
  fH n ((s.puts left.reverse).lays.map iT)/\(∃js,bg n s js)/\(∀p∈left.reverse,p.1<p.2/\p.2<n):=by
 obtain⟨js,B,L,P,C,F⟩:=I.ex;have hz:∀x∈gs.flatten,B x=0:=by
  cases gs with
  |nil=>exact fun x hx=>nomatch hx
  |cons g r=>
   obtain rfl:r=[]:=iG.mp (Nat.le_zero.mp (Nat.le_of_succ_le_succ h1));exact fun x hx=>(C.1 x (by simpa using hx)).1
 obtain⟨B3,P3,Z3⟩:=F B hz fun Z Z=>rfl;have hb:=(yV P fun x=>aN _).1;have hlt:∀p∈left.reverse,p.1<p.2/\p.2<n:=fun p hp=>⟨Ac P3 hb p hp,(I.llt p (by simpa using hp)).2⟩;refine⟨pL (L.puts hlt) (P.append P3) Z3 ?_,⟨js,L⟩,hlt⟩;have:=vq L hlt;have:=I.lay;simp at *;exact bC [_,_,_,_,_,_] [] 0xa5294001840000c200806100c0308040 (Y0 V0 (Y0 V1 (.l 3))) (Y0 V2 (Y0 V1 (.l 3))) (Y0 V0 (Y0 V3 V4)) (Y0 (Y0 (Y0 V3 V5) V4) V2) hM this (by assumption)
variable {B:Prop}{a t:Ex}{b:Int}{s:Loc}
noncomputable def tri:Nat->Nat
 |0=>0
 |n+1=>(n+1)+tri n
theorem j5:tri (n+1)=(n+1)+tri n:=rfl
def C2:∀n,n<=11->tri n<=66:=by decide
theorem sC(h1:l<h)(h2:h<n):fZ n [(l,h)]:=⟨by simp,h1,h2,dF _,trivial⟩
theorem fH.net{net:Net}(T:fH n net)(hn:n<=77):fL n net:=⟨by have:=T.len;exact aA [_,_] [] kab (Y0 V0 (.l 80)) (Y0 V1 (.l 77)) (Y0 V0 (Y0 V1 (.l 3))) hn this,T.ok⟩
variable {l:Loc}
noncomputable def gz(net:Net):Nat->Nat:=aX (· + ·) net fun Z=>1
theorem F9{f:α->α->α}{g:β->β->β}{k:α->β}(hk:∀a b,k (f a b)=g (k a) (k b)):∀(net:Net)(σ:Nat->α)(x:Nat),k (aX f net σ x)=aX g net (fun y=>k (σ y)) x
 |[],σ,x=>rfl
 |y::r,σ,x=>by
  rw[kx,F9 hk r];have:(fun z=>k (bx f y σ z))=bx g y fun z=>k (σ z):=by
   funext z;unfold bx;cases y.find? fun p=>p.2==z with
   |none=>rfl
   |some p=>exact hk _ _
  rw[this];rfl
def Ef(net:Net)(x:Nat):(pq net x).length=gz net x:=by
 unfold pq gz;exact F9 (k:=List.length) (fun a b=>bG) net _ x
theorem oZ(x:Nat):σ x<=bx (· + ·) y σ x:=by
 unfold bx;cases y.find? fun p=>p.2==x with
 |none=>exact aN _
 |some p=>show σ x<=σ p.1+σ x;exact ew [_,_] [] 171801870336 (Y0 V0 (Y0 V1 V0))
theorem j3:∀{net:Net}{σ:Nat->Nat}(x:Nat),σ x<=aX (· + ·) net σ x
 |[],_,_=>aN _
 |y::r,σ,x=>aB (oZ x) (j3 (net:=r) x)
def jU{net:Net}(h:∀x,gz net x<=N)(i x:Nat):gz (net.take i) x<=N:=by
 have:=h x;unfold gz at this ⊢;rw[<- List.take_append_drop i net,vU] at this;exact aB (j3 x) this
def kQ{net:Net}(hf:eg n net)(hn:1<=n)(hw:∀x,x<n->pq net x=List.range (x+1))(x:Nat):gz net x<=n:=by
 by_cases h:x<n
 ·rw[<- Ef,hw x h,dj];exact aw [_,_] [] kaa (Y0 (Y0 V0 J1) V1) (Y1 V0 V1) h
 ·unfold gz;rw[yJ (fun y hy p hp=>by have:=((hf y hy).1 p hp).2;exact aA [_,_,_] [] kal (Y8 (Y2 V0 V1) J0) (Y8 (Y1 V1 V2) J0) (Y1 V0 V2) h this)];exact hn
def DM{net:Net}(h:net[i]?=some y):net=net.take i++[y]++net.drop (i+1):=by
 obtain⟨h1,h2⟩:=gG.mp h;rw[eH];show net=net.take i++y::net.drop (i+1);rw[<- h2,<-qC h1,List.take_append_drop]
noncomputable def gv(p:Nat×List Nat):Net:=p.2.map fun l=>[(l,p.1)]
variable {N:Loc->Hp->Prop}{y:V}
theorem xH{ok:Hp->Prop}{body:V->Loc->SPost->Hp->Prop}(I:Nat->Loc->Hp->Prop) (step:∀i x l H (K:SPost),items[i]?=some x->I i l H->(∀l' H',ok H'->I (i+1) l' H'->K .next l' H')->(∀v l' H',Q (.ret v) l' H'->K (.ret v) l' H')->body x l K H) (hend:∀l H,I items.length l H->Q .next l H) (h0:I 0 l H):nw ok body items Q l H:=by
 have key:∀(n i:Nat),n+i=items.length->∀l H,I i l H->nw ok body (items.drop i) Q l H:=by
  intro n;induction n with
  |zero=>
   intro i hi l H hI;have:i=items.length:=by exact aw [_,_] [] kae (Y2 V0 V1) (Y2 (Y0 J0 V0) V1) hi
   subst this;rw[List.drop_length];exact hend l H hI
  |succ n ih=>
   intro i hi l H hI;have hlt:i<items.length:=by exact aw [_,_,_] [] kaa (Y1 V0 V1) (Y2 (Y0 (Y0 V2 J1) V0) V1) hi
   rw[qC hlt];refine step i _ l H _ (bp hlt) hI (fun l' H' hok hI'=>⟨hok,ih (i+1) (by exact aw [_,_,_] [] kae (Y2 (Y0 V0 (Y0 V1 J1)) V2) (Y2 (Y0 (Y0 V0 J1) V1) V2) hi) l' H' hI'⟩) fun v l' H' hq=>hq
 exact key items.length 0 rfl l H h0
theorem wV{σ:Type}{ok:Hp->Prop}{f:V->σ->(σ->Hp->Prop)->Hp->Prop}{Q:σ->Hp->Prop}(I:Nat->σ->Hp->Prop) (step:∀i x a H (K:σ->Hp->Prop),items[i]?=some x->I i a H->(∀a' H',ok H'->I (i+1) a' H'->K a' H')->f x a K H) (hend:∀a H,I items.length a H->Q a H) {a:σ} (h0:I 0 a H):gW ok f items a Q H:=by
 have key:∀(n i:Nat),n+i=items.length->∀a H,I i a H->gW ok f (items.drop i) a Q H:=by
  intro n;induction n with
  |zero=>
   intro i hi a H hI;have:i=items.length:=by exact aw [_,_] [] kae (Y2 V0 V1) (Y2 (Y0 J0 V0) V1) hi
   subst this;rw[List.drop_length];exact hend a H hI
  |succ n ih=>
   intro i hi a H hI;have hlt:i<items.length:=by exact aw [_,_,_] [] kaa (Y1 V0 V1) (Y2 (Y0 (Y0 V2 J1) V0) V1) hi
   rw[qC hlt];exact step i _ a H _ (bp hlt) hI fun a' H' hok hI'=>⟨hok,ih (i+1) (by exact aw [_,_,_] [] kae (Y2 (Y0 V0 (Y0 V1 J1)) V2) (Y2 (Y0 (Y0 V0 J1) V1) V2) hi) a' H' hI'⟩
 exact key items.length 0 rfl a H h0
theorem vp{g:α->V}{ok:Hp->Prop}{body:V->Loc->SPost->Hp->Prop}(I:List α->Loc->Hp->Prop) (step:∀x r l H (K:SPost),I (x::r) l H->(∀l' H',ok H'->I r l' H'->K .next l' H')->(∀v l' H',Q (.ret v) l' H'->K (.ret v) l' H')->body (g x) l K H) (hend:∀l H,I [] l H->Q .next l H):∀{xs:List α} {l:Loc} {H:Hp},I xs l H->nw ok body (xs.map g) Q l H
 |[],l,H,h=>hend l H h
 |x::r,l,H,h=>step x r l H _ h (fun Z Z hok hI=>⟨hok,vp I step hend hI⟩) fun Z Z Z hq=>hq
def aK(c:Cx)(f:String)(np n:Nat)(xs:List St):Prop:=
 ∀q d vs Q E H,vs.length=np->az (Calls c) q d none xs (cK Q) (dM E) (vs.map some++List.replicate (n-np) none) H->Calls c q (d+1) (ao f) vs none Q E H
def tu(O:c.Ok)(TO:aY c T){e:PyProof.Rows.DefItem}(hat:cB c e){r:Nat}(he:sd T fuel r e=some xs)(hf:e.name=ao f)(hnp:e.params.args.length=np)(hn:(slots e.scope.names).length+r=n):aK c f np n xs:=by
 intro q d vs Q E H hl hw;rw[<- hf];refine Jm O TO hat he (by rw[hl,hnp]) ?_;rw[hn,hl];exact hw
theorem E_lit{v:V} {Q E}:aD C q d k (.lit v) l Q E H=Q v H:=rfl
theorem E_var{Q E}:aD C q d k (.var i) l Q E H=ae (l.getD i none) fun v=>Q v H:=rfl
theorem E_tup{Q E}:aD C q d k (.tup es) l Q E H=dC C q d k es l (fun vs H=>Q (.tup vs) H) E H:=rfl
theorem E_list{Q E}:aD C q d k (.list es) l Q E H=dC C q d k es l (fun vs H=>Q (.lst H.length) (H++[vs])) E H:=rfl
theorem E_bin{b:Ex} {Q E}:aD C q d k (.bin op a b) l Q E H=aD C q d k a l (fun x H=>aD C q d k b l (fun y H=>ae (bI H op x y) fun p=>Q p.1 p.2) E H) E H:=rfl
theorem E_neg{Q E}:aD C q d k (.neg a) l Q E H=aD C q d k a l (fun x H=>ae (jb x) fun i=>Q (.int (-i)) H) E H:=rfl
theorem E_not{Q E}:aD C q d k (.not a) l Q E H=aD C q d k a l (fO fun b H=>Q (.bool !b) H) E H:=rfl
theorem E_cmp{Q E}:aD C q d k (.cmp a os bs) l Q E H=aD C q d k a l (fun x H=>vh C q d k x os bs l (fun b H=>Q (.bool b) H) E H) E H:=rfl
theorem E_and{Q E}:aD C q d k (.and es) l Q E H=vz C q d k es l (fun b H=>Q (.bool b) H) E H:=rfl
theorem E_or{Q E}:aD C q d k (.or es) l Q E H=iW C q d k es l (fun b H=>Q (.bool b) H) E H:=rfl
theorem E_idx{b:Ex} {Q E}:aD C q d k (.idx a b) l Q E H=aD C q d k a l (fun x H=>aD C q d k b l (fun y H=>ae (bO H x y) fun v=>Q v H) E H) E H:=rfl
theorem E_slice{b c:Ex} {Q E}:aD C q d k (.slice a b c) l Q E H=aD C q d k a l (fun x H=>aD C q d k b l (fun y H=>aD C q d k c l (fun z H=>ae (vy H x y z) fun p=>Q p.1 p.2) E H) E H) E H:=rfl
theorem E_rev{Q E}:aD C q d k (.rev a) l Q E H=aD C q d k a l (fun x H=>ae (pe H x) fun p=>Q p.1 p.2) E H:=rfl
theorem E_call{f:Str} {Q E}:aD C q d k (.call f es) l Q E H=dC C q d k es l (fun vs H=>C q d f vs none Q E H) E H:=rfl
theorem E_blt{b:Bl} {Q E}:aD C q d k (.blt b es) l Q E H=dC C q d k es l (fun vs H=>ae (fj q (bF H b vs)) fun p=>Q p.1 p.2) E H:=rfl
theorem E_meth{Q E}:aD C q d k (.meth m o es) l Q E H=aD C q d k o l (fun x H=>Cp m x=true/\dC C q d k es l (fun vs H=>ae (uR H m x vs) fun p=>Q p.1 p.2) E H) E H:=rfl
theorem E_isi{t:Tc} {Q E}:aD C q d k (.isi a t) l Q E H=aD C q d k a l (fun x H=>ae (c5 x t) fun b=>Q (.bool b) H) E H:=rfl
theorem E_attr{x:Str}{Q:V->Hp->Prop}{E:XPost}:aD C q d k (.attr a x) l Q E H=aD C q d k a l (fun v H=>ae (gI v x) fun w=>Q w H) E H:=rfl
theorem E_comp{t:Tg} {Q E}:aD C q d k (.comp elt t src ifs) l Q E H=aD C q d k src l (fun sv H=>ae (fj q (ff H sv)) fun items=>items.length<=qag /\
   gW (gx sv items) (nz (fun l' Q H=>rR C q d none ifs l' Q H) (fun l' Q H=>aD C q d none elt l' Q fu H) t l) items [] (fun acc H'=>Q (.lst H'.length) (H'++[acc])) H) E H:=rfl
theorem L_nil{Q E}:dC C q d k [] l Q E H=Q [] H:=rfl
theorem L_cons{Q E}:dC C q d k (e::es) l Q E H=aD C q d k e l (fun v H=>dC C q d k es l (fun vs H=>Q (v::vs) H) E H) E H:=rfl
theorem A_cons{Q:Bool->Hp->Prop} {E}:vz C q d k (e::es) l Q E H=aD C q d k e l (fO fun b H=>pb es (Q b H) (eJ b (vz C q d k es l Q E H) (Q false H))) E H:=rfl
theorem O_cons{Q:Bool->Hp->Prop} {E}:iW C q d k (e::es) l Q E H=aD C q d k e l (fO fun b H=>pb es (Q b H) (eJ b (Q true H) (iW C q d k es l Q E H))) E H:=rfl
theorem C_cons {x:V} {o:Cm} {Q:Bool->Hp->Prop} {E}:vh C q d k x (o::os) (e::es) l Q E H=aD C q d k e l (fun y H=>ae (dq H o x y) fun b=>pb es (Q b H) (eJ b (vh C q d k y os es l Q E H) (Q false H))) E H:=rfl
theorem I_nil {Q:Bool->Hp->Prop}:rR C q d k [] l Q H=Q true H:=rfl
theorem I_cons{Q:Bool->Hp->Prop}:rR C q d k (e::es) l Q H=aD C q d k e l (fO fun b H=>eJ b (rR C q d k es l Q H) (Q false H)) fu H:=rfl
theorem Opt_some{a:α}{K:α->Prop}:ae (some a) K=K a:=rfl
theorem truthP_bool{b:Bool}{Q:Bool->Hp->Prop}:fO Q (.bool b) H=Q b H:=rfl
theorem CondP_true:eJ true A B=A:=rfl
theorem CondP_false:eJ false A B=B:=rfl
theorem lastOr_nil:pb [] A B=A:=rfl
theorem lastOr_cons:pb (e::es) A B=B:=rfl
theorem asInt_int {i:Int}:jb (.int i)=some i:=rfl
theorem onQ_true{o:Option α}:fj true o=o:=rfl
theorem bin_addi{a:Int}:bI H .add (.int a) (.int b)=some (.int (a+b),H):=rfl
theorem bin_subi{a:Int}:bI H .sub (.int a) (.int b)=some (.int (a-b),H):=rfl
theorem cmp_lt{a:Int}:dq H .lt (.int a) (.int b)=some (decide (a<b)):=rfl
theorem cmp_le{a:Int}:dq H .le (.int a) (.int b)=some (decide (a<=b)):=rfl
theorem cmp_gt{a:Int}:dq H .gt (.int a) (.int b)=some (decide (a>b)):=rfl
theorem cmp_ge{a:Int}:dq H .ge (.int a) (.int b)=some (decide (a>=b)):=rfl
theorem cmp_eqi{a:Int}:dq H .eq (.int a) (.int b)=some (decide (a=b)):=rfl
theorem cmp_nei{a:Int}:dq H .ne (.int a) (.int b)=some (!decide (a=b)):=rfl
theorem isi_ii{i:Int}:c5 (.int i) .int=some true:=rfl
theorem isi_ib{i:Int}:c5 (.int i) .bool=some false:=rfl
theorem isi_bb{b:Bool}:c5 (.bool b) .bool=some true:=rfl
theorem isi_tt{l:List V}:c5 (.tup l) .tuple=some true:=rfl
theorem isi_ll{a:Nat}:c5 (.lst a) .list=some true:=rfl
theorem not_t:(!true)=false:=rfl
theorem not_f:(!false)=true:=rfl
theorem dec_22:decide ((2:Int)=2)=true:=rfl
theorem len_tup {x:V}:bF H .len [.tup [x,y]]=some (.int 2,H):=rfl
theorem len_scr{l:List Int}:bF H .len [.scr l]=some (.int l.length,H):=rfl
theorem idx_t0{x:V}:bO H (.tup [x,y]) (.int 0)=some x:=rfl
theorem idx_t1{x:V}:bO H (.tup [x,y]) (.int 1)=some y:=rfl
def cN[Decidable p](h1:p->A)(h2:¬p->B):eJ (decide p) A B:=by
 by_cases h:p
 ·rw[decide_eq_true h];exact h1 h
 ·rw[decide_eq_false h];exact h2 h
def wB[Decidable p](h1:¬p->A)(h2:p->B):eJ (!decide p) A B:=by
 by_cases h:p
 ·rw[decide_eq_true h];exact h2 h
 ·rw[decide_eq_false h];exact h1 h
def ye[Decidable p](h:p)(h1:A):eJ (decide p) A B:=by rw[decide_eq_true h];exact h1
def F7[Decidable p](h:¬p)(h1:B):eJ (decide p) A B:=by rw[decide_eq_false h];exact h1
theorem S_set:gO C q d k (.set i e) Q E l H=aD C q d k e l (fun v H=>Q .next (l.set i (some v)) H) (fun x H=>E x l H) H:=rfl
theorem S_unp:gO C q d k (.unp is e) Q E l H=(q=true/\aD C q d k e l (fun v H=>ae (zb is v l) fun l'=>Q .next l' H) (fun x H=>E x l H) H):=rfl
theorem S_put{i:Ex}:gO C q d k (.put o i e) Q E l H=aD C q d k e l (fun v H=>aD C q d k o l (fun a H=>aD C q d k i l (fun j H=>ae (lU H a j v) fun H'=>Q .next l H') (fun x H=>E x l H) H) (fun x H=>E x l H) H) (fun x H=>E x l H) H:=rfl
theorem S_expr:gO C q d k (.expr e) Q E l H=aD C q d k e l (fun Z H=>Q .next l H) (fun x H=>E x l H) H:=rfl
theorem S_ret:gO C q d k (.ret e) Q E l H=aD C q d k e l (fun v H=>Q (.ret v) l H) (fun x H=>E x l H) H:=rfl
theorem S_ite{a b:List St}:gO C q d k (.ite t a b) Q E l H=aD C q d k t l (fO fun c H=>eJ c (az C q d k a Q E l H) (az C q d k b Q E l H)) (fun x H=>E x l H) H:=rfl
theorem S_whil{b:List St}:gO C q d k (.whil t b) Q E l H=(q=true/\fi (fun l Q H=>Bg C q d k t l Q fu H) (fun l Q H=>az C q d k b Q (fun Z Z Z=>False) l H) l Q H):=rfl
theorem S_rais:gO C q d k (.rais cn es) Q E l H=(q=true/\dC C q d k es l (fun vs H=>E (.exc cn (bK cn vs)) l H) fu H):=rfl
theorem S_tri{b:List St}{h:List St}:gO C q d k (.tri b i h) Q E l H=(q=true/\az C q d k b Q (fun x l' H=>kz x=true/\az C false d k h (fun f l'' H=>Q f (l''.set i none) H) (fun Z Z Z=>False) (l'.set i (some x)) H) l H):=rfl
theorem S_loop{t:Tg}{s:Sr}{b:List St}:gO C q d k (.loop t s b) Q E l H=(q=true/\iH C q d k s l (fun items ok H=>nw ok (fun x l Q H=>ae (fX t x l) fun l'=>az C q d k b Q E l' H) items Q l H) (fun x H=>E x l H) H):=rfl
theorem T_eq{Q:Bool->Hp->Prop} {E}:Bg C q d k t l Q E H=aD C q d k t l (fO Q) E H:=rfl
theorem End_ret{v:V}{Q:V->Hp->Prop}:cK Q (.ret v) l H=Q v H:=rfl
theorem End_next{Q:V->Hp->Prop}:cK Q .next l H=Q .none H:=rfl
theorem Then_ret{v:V}:d9 N Q (.ret v) l H=Q (.ret v) l H:=rfl
theorem bind_one{x:V}:fX (.one i) x l=some (l.set i (some x)):=rfl
theorem bind_two{a b:V}:fX (.two i j) (.tup [a,b]) l=some ((l.set i (some a)).set j (some b)):=rfl
theorem CompS_eq{W:Loc->(V->Hp->Prop)->Hp->Prop}{t:Tg}{x:V}:nz I W t l x acc K H=ae (fX t x l) fun l'=>I l' (fun b H=>eJ b (W l' (fun v H=>K (acc++[v]) H) H) (K acc H)) H:=rfl
theorem getD_0:(x::r).getD 0 none=x:=rfl
theorem getD_s:(x::r).getD (i+1) none=r.getD i none:=rfl
theorem set_0 {y:Option V}:List.set (x::r) 0 y=y::r:=rfl
theorem set_s{y:Option V}:List.set (x::r) (i+1) y=x::List.set r i y:=rfl
theorem map_c{x:V}{r:List V}:List.map some (x::r)=some x::List.map some r:=rfl
theorem map_n:List.map some ([]:List V)=[]:=rfl
theorem app_c:(x::r)++s=x::(r++s):=rfl
theorem app_n:[]++s=s:=rfl
theorem rep_s:List.replicate (n+1) (none:Option V)=none::List.replicate n none:=rfl
theorem rep_n:List.replicate 0 (none:Option V)=[]:=rfl
def Then_go(h:N l H):d9 N Q .next l H:=h
def Ss_go{s:St}(h:gO C q d k s (d9 (az C q d k ss Q E) Q) E l H):az C q d k (s::ss) Q E l H:=h
def Ss_end(h:Q .next l H):az C q d k [] Q E l H:=h
def lT{Q:List V->(Hp->Prop)->Hp->Prop} {E}{v:V}(hv:∀(K:V->Hp->Prop) E',K v H->aD C q d k e l K E' H)(h:ff H v=some items)(hq:Q items (gx v items) H):iH C q d k (.val e) l Q E H:=hv _ _ (ae.mk h hq)
local macro_rules | `(tactic| walk_at $s:str)=>do
 match s.getString with
 |"d"=>
  let a:=("Bn.E_lit Bn.E_var Bn.E_tup Bn.E_list Bn.E_bin Bn.E_neg Bn.E_not Bn.E_cmp Bn.E_and Bn.E_or Bn.E_idx Bn.E_slice Bn.E_rev Bn.E_call Bn.E_blt Bn.E_meth Bn.E_isi Bn.E_attr Bn.E_comp Bn.L_nil Bn.L_cons Bn.A_cons Bn.O_cons Bn.C_cons Bn.I_nil Bn.I_cons Bn.Opt_some Bn.truthP_bool Bn.CondP_true Bn.CondP_false Bn.lastOr_nil Bn.lastOr_cons Bn.asInt_int Bn.onQ_true Bn.bin_addi Bn.bin_subi Bn.isi_ii Bn.isi_ib Bn.isi_bb Bn.isi_tt Bn.isi_ll Bn.len_tup Bn.len_scr Bn.idx_t0 Bn.idx_t1 Bn.cmp_lt Bn.cmp_le Bn.cmp_gt Bn.cmp_ge Bn.cmp_eqi Bn.cmp_nei Bn.S_set Bn.S_unp Bn.S_put Bn.S_expr Bn.S_ret Bn.S_ite Bn.S_whil Bn.S_loop Bn.S_rais Bn.S_tri Bn.T_eq Bn.End_ret Bn.End_next Bn.Then_ret Bn.bind_one Bn.bind_two Bn.CompS_eq Bn.getD_0 Bn.getD_s Bn.set_0 Bn.set_s Bn.map_c Bn.map_n Bn.app_c Bn.app_n Bn.rep_s Bn.rep_n Nat.reduceSub Nat.sub_self Bn.not_t Bn.not_f Bn.dec_22".splitOn " ").toArray.map fun s=>Lean.mkIdent s.toName
  `(tactic| dsimp only[$[$a:ident],*])
 |"g"=>`(tactic| first |with_reducible refine Bn.Then_go ?_ |with_reducible refine Bn.Ss_go ?_ |with_reducible refine Bn.Ss_end ?_)
 |""=>`(tactic| ((try walk_at "d");(repeat(walk_at "g";(try walk_at "d")))))
 |_=>Lean.Macro.throwUnsupported
variable {A:Around}{B:Nat->Nat}{E:XPost}{K:V×Hp->Prop}{Q:V->Hp->Prop}{a:Nat}{bs:List Nat}{is:List Int}{m:Str->Option Value}{o:Option (V×Hp)}{p:qbj}{r:Net}{s:Shared}{t:Tc}{x:Str}{y:List St×Nat×Nat}
noncomputable def rG:List St:=[.ret (.and [.isi (.wx 0) .int,.not (.isi (.wx 0) .bool),.cmp (.wx 1) [.le,.le] [.wx 0,.wx 2]])]
noncomputable def AK:List St:=[.ite (.or [.not (.isi (.wx 0) .tuple),.cmp (.blt .len [.wx 0]) [.ne] [.ww 2]]) [.ret (.lit (.bool false))] [],.ite (.or [.not (.call "is_among" [.idx (.wx 0) (.ww 0),.ww 0,.bin .sub (.wx 1) (.ww 1)]),.not (.call "is_among" [.idx (.wx 0) (.ww 1),.ww 0,.bin .sub (.wx 1) (.ww 1)])]) [.ret (.lit (.bool false))] [],.ret (.cmp (.idx (.wx 0) (.ww 0)) [.lt] [.idx (.wx 0) (.ww 1)])]
noncomputable def FO:List St:=[.ite (.or [.not (.isi (.wx 0) .list),.not (.cmp (.ww 1) [.le,.le] [.blt .len [.wx 0],.ww 63])]) [.ret (.lit (.bool false))] [],.set 2 (.neg (.ww 1)),.loop (.one 3) (.val (.wx 0)) [.ite (.or [.not (.call "is_joint" [.wx 3,.wx 1]),.cmp (.idx (.wx 3) (.ww 1)) [.le] [.wx 2]]) [.ret (.lit (.bool false))] [],.set 2 (.idx (.wx 3) (.ww 1))],.ret (.lit (.bool true))]
noncomputable def DS:List St:=[.set 2 (.blt .list [.blt .range [.wx 0]]),.loop (.one 3) (.val (.wx 1)) [.set 4 (.blt .list [.wx 2]),.loop (.two 5 6) (.val (.wx 3)) [.ite (.cmp (.bin .add (.wx 5) (.ww 1)) [.ne] [.idx (.wx 2) (.wx 6)]) [.ret (.lit (.bool false))] [],.put (.wx 4) (.wx 6) (.idx (.wx 2) (.wx 5))],.set 2 (.wx 4)],.ret (.blt .all [.comp (.cmp (.wx 7) [.eq] [.ww 0]) (.one 7) (.wx 2) []])]
noncomputable def FA:List St:=[.ite (.cmp (.wx 1) [.lt] [.blt .len [.wx 0]]) [.ret (.idx (.wx 0) (.wx 1))] [],.ret (.ww 0)]
noncomputable def Ak:List St:=[.ret (.and [.isi (.wx 0) .int,.not (.isi (.wx 0) .bool)])]
noncomputable def pz:List St:=[.set 5 (.blt .max [.idx (.wx 3) (.wx 1),.idx (.wx 3) (.wx 2),.idx (.wx 4) (.wx 2)]),.whil (.cmp (.blt .len [.wx 0]) [.le] [.wx 5]) [.expr (.meth .append (.wx 0) [.list []])],.expr (.meth .append (.idx (.wx 0) (.wx 5)) [.tup [.wx 2,.wx 1]]),.put (.wx 4) (.wx 1) (.blt .max [.idx (.wx 4) (.wx 1),.wx 5]),.put (.wx 3) (.wx 2) (.bin .add (.wx 5) (.ww 1))]
noncomputable def Aw:List St:=[.set 6 (.list []),.set 7 (.ww 0),.whil (.cmp (.wx 7) [.lt] [.blt .len [.wx 1]]) [.ite (.and [.cmp (.bin .add (.wx 7) (.ww 1)) [.lt] [.blt .len [.wx 1]],.cmp (.bin .mod (.bin .div (.wx 2) (.bin .add (.ww 1) (.wx 7))) (.ww 4)) [.gt] [.ww 0]]) [.expr (.call "_law_place" [.wx 0,.idx (.wx 1) (.wx 7),.idx (.wx 1) (.bin .add (.wx 7) (.ww 1)),.wx 3,.wx 4]),.ite (.cmp (.wx 6) [.ne] [.list []]) [.expr (.meth .append (.wx 5) [.tup [.idx (.wx 6) (.neg (.ww 1)),.idx (.wx 1) (.wx 7)]])] [],.set 7 (.bin .add (.wx 7) (.ww 1))] [],.expr (.meth .append (.wx 6) [.idx (.wx 1) (.wx 7)]),.set 7 (.bin .add (.wx 7) (.ww 1))],.ret (.wx 6)]
noncomputable def AW:List St:=[.set 0 (.bin .mod (.bin .mul (.wx 0) (.ww 48271)) (.ww 2147483647)),.set 2 (.list []),.set 3 (.list []),.set 4 (.bin .mul (.list [.ww 0]) (.wx 1)),.set 5 (.bin .mul (.list [.ww 0]) (.wx 1)),.set 6 (.blt .list [.blt .range [.wx 1]]),.loop (.one 7) (.val (.blt .range [.bin .mod (.wx 0) (.ww 4)])) [.set 6 (.call "_law_thinner" [.wx 2,.wx 6,.bin .div (.bin .div (.wx 0) (.ww 4)) (.bin .add (.ww 1) (.wx 7)),.wx 4,.wx 5,.wx 3])],.set 8 (.comp (.list [.wx 13]) (.one 13) (.wx 6) []),.whil (.cmp (.blt .len [.wx 8]) [.gt] [.ww 1]) [.set 0 (.bin .mod (.bin .mul (.wx 0) (.ww 16807)) (.ww 2147483647)),.set 9 (.idx (.list [.bin .mod (.bin .div (.wx 0) (.ww 3)) (.bin .sub (.blt .len [.wx 8]) (.ww 1)),.ww 0,.bin .sub (.blt .len [.wx 8]) (.ww 2)]) (.bin .mod (.wx 0) (.ww 3))),.loop (.one 10) (.val (.idx (.wx 8) (.bin .add (.wx 9) (.ww 1)))) [.expr (.call "_law_place" [.wx 2,.idx (.idx (.wx 8) (.wx 9)) (.neg (.ww 1)),.wx 10,.wx 4,.wx 5])],.set 11 (.bin .add (.idx (.wx 8) (.wx 9)) (.idx (.wx 8) (.bin .add (.wx 9) (.ww 1)))),.set 8 (.bin .add (.bin .add (.slice (.wx 8) (.lit .none) (.wx 9)) (.list [.wx 11])) (.slice (.wx 8) (.bin .add (.wx 9) (.ww 2)) (.lit .none)))],.loop (.two 12 10) (.rev (.wx 3)) [.expr (.call "_law_place" [.wx 2,.wx 12,.wx 10,.wx 4,.wx 5])],.ret (.comp (.comp (.tup [.wx 15,.wx 14]) (.two 14 15) (.blt .sorted [.wx 13]) []) (.one 13) (.wx 2) [])]
noncomputable def Ga:List St:=[.set 1 (.bin .add (.ww 1) (.bin .mod (.wx 0) (.ww 12))),.ite (.cmp (.bin .mod (.bin .div (.wx 0) (.ww 12)) (.ww 9)) [.eq] [.ww 1]) [.set 1 (.bin .add (.ww 13) (.bin .mod (.bin .div (.wx 0) (.ww 108)) (.ww 20)))] [],.ret (.wx 1)]
def BJ(P:aK c "is_among" 3 3 rG){v:Int}(h1:lo<=v)(h2:v<=hi)(hq:Q (.bool true) H):Calls c q (d+1) "is_among" [.int v,.int lo,.int hi] none Q E H:=by
 refine P q d _ Q E H rfl (Ss_go ?_);walk_at "";refine ye h1 ?_;walk_at "";rw[decide_eq_true h2];exact hq
def I8(P1:aK c "is_among" 3 3 rG)(P:aK c "is_joint" 2 2 AK){l:Nat}{n:Int}(h1:l<h)(h2:h<n)(hc:q=true)(hq:Q (.bool true) H):Calls c q (d+2) "is_joint" [.tup [.int l,.int h],.int n] none Q E H:=by
 subst hc;have h3:(l:Int)<h:=bW.mpr h1;refine P true (d+1) _ Q E H rfl (Ss_go ?_);walk_at "";refine BJ P1 (hV l) (Int.le_sub_one_of_lt (Int.lt_trans h3 h2)) ?_;walk_at "";refine BJ P1 (hV h) (Int.le_sub_one_of_lt h2) ?_;walk_at "";rw[decide_eq_true h3];exact hq
noncomputable def pr(p:Nat×Nat):V:=.tup [.int p.1,.int p.2]
def kC(a n:Nat)(H:Hp)(r:List (Nat×Nat))(x1:Loc)(x2:Hp):Prop:=∀GJ:Prop,(∀(last:Int),∀(lo:Nat),∀(z:Option V),qj n lo r->(∀h:Nat,lo<=h->last<h)->[some (.lst a),some (.int n),some (.int last),z]=x1->H=x2->GJ)->GJ
def eh{xs:List V}(h:H[a]?=some xs):fj true (bF H .len [.lst a])=some (.int xs.length,H):=by
 show(H[a]?).map _=_;rw[h];rfl
def Hc(P1:aK c "is_among" 3 3 rG)(P2:aK c "is_joint" 2 2 AK)(P:aK c "is_layer" 2 4 FO)(ha:H[a]?=some (layer.map pr))(hn:n<=64)(hok:fZ n layer)(hc:q=true)(hq:Q (.bool true) H):Calls c q (d+3) "is_layer" [.lst a,.int n] none Q E H:=by
 subst hc;refine P true (d+2) _ Q E H rfl (Ss_go ?_);walk_at "";refine ae.mk (eh ha) ?_;rw[aG];walk_at "";have hl:=Bw hok.2 hok.1;refine ye (dO.mpr (Nat.pos_of_ne_zero fun h=>hok.1 (List.eq_nil_of_length_eq_zero h))) ?_;walk_at "";rw[decide_eq_true (show(layer.length:Int)<=63 by exact aA [_,_] [] 0x8294a000c200806100803080002800308000 (Y3 (Y4 V0 J0) (.l 63)) (Y0 V1 (.l 64)) (Y7 (Y1 J0 J0) (Y1 V0 V1)) hn hl.2)];walk_at "";refine⟨rfl,lT (v:=.lst a) (fun K E' h=>h) ha ?_⟩;refine vp (kC a n H) ?_ ?_ (fun Z kJ=>kJ _ 0 _ hok.2 (fun h Z=>Int.lt_of_lt_of_le (by decide) (hV h)) rfl rfl)
 ·rintro x r l H' K hI hnext hret;refine hI _ fun last lo z hr hl wg eI2=>?_;clear hI;subst wg;subst eI2;obtain⟨h1,h2,h3,h4⟩:=hr;refine ae.mk rfl (Ss_go ?_);walk_at "";refine I8 P1 P2 h1 (bW.mpr h2) rfl ?_;walk_at "";refine F7 (fun q=>Int.not_lt.mpr q (hl _ h3)) ?_;walk_at "";exact hnext _ _ ha (fun Z kJ=>kJ _ _ _ h4 (fun h hh=>bW.mpr hh) rfl rfl)
 ·intro l H' hI;refine hI _ fun Z Z Z Z Z wg eI2=>?_;clear hI;subst wg;subst eI2;walk_at "";exact hq
variable {Q:List V->(Hp->Prop)->Hp->Prop}{h:Heap}
structure aj(H:Hp)(a:Nat)(bs:List Nat)(net:Net):Prop where
 top:H[a]?=some (bs.map .lst)
 len:bs.length=net.length
 lay:∀(i b:Nat) (layer:List (Nat×Nat)),bs[i]?=some b->net[i]?=some layer->H[b]?=some (layer.map pr)
section
variable {Q:V->Hp->Prop}
def DU(h:H[a]?=some items):iL H (.lst a)=some items:=h
def oY{Q:List V->(Hp->Prop)->Hp->Prop} {E}(hv:∀(K:V->Hp->Prop) E',K (.lst a) H->aD C q d k e l K E' H)(h:H[a]?=some items)(hq:Q (uL 0 items) (gx (.lst a) items) H):iH C q d k (.enum e) l Q E H:=hv _ _ (ae.mk (DU h) hq)
def ux{Q:List V->(Hp->Prop)->Hp->Prop} {E}(hv:∀(K:V->Hp->Prop) E',K (.lst a) H->aD C q d k e l K E' H)(h:H[a]?=some items)(hq:Q items.reverse (gx (.lst a) items) H):iH C q d k (.rev e) l Q E H:=hv _ _ (ae.mk (DU h) hq)
end
variable {Q:V->Hp->Prop}{a:Addr}{e:Str}{l:List Int}
section
open PySem PyProof.Rows
noncomputable def zhn:List (Str×Gk):=[("len",.blt .len),("max",.blt .max),("range",.blt .range),("list",.blt .list),("all",.blt .all),
 ("tuple",.blt .tuple),
 ("sorted",.blt .sorted),
 ("int",.blt .int),
 ("enumerate",.enum),
 ("reversed",.rev),
 ("isinstance",.isi)]
noncomputable def CV:List (Str×Tc):=[("int",.int),("bool",.bool),("list",.list),
 ("str",.str),
 ("tuple",.tuple)]
noncomputable def w7:List (Str×Tc):=(kids.map fun k=>(k,Tc.own k))++[(ao "ValueError",Tc.own (ao "ValueError"))]
noncomputable def xq (fs:List Str) (vals:List (Str×V)):Tab:=⟨fs.map (fun f=>(f,Gk.fn))++vals.map (fun p=>(p.1,Gk.val p.2))++zhn,CV++w7⟩
def vb(h:(x,t)∈w7):nH c x t:=by
 rcases cE.mp h with h |h
 ·revert h;refine xL fun k hk e=>?_;obtain⟨e1,e2⟩:=qt e;subst e1 e2;exact .own rfl (.inl hk)
 ·obtain⟨e1,e2⟩:=qt (aV.mp h);subst e1 e2;exact .own rfl (.inr rfl)
noncomputable def ng(p:qbj)(loose:List Str)(x:Str):Bool:=!(startupNames.contains x)&&!(loose.contains x)&&!(((recsOf p).map (·.name)).contains x)&&!(((litsOf p).map (·.1)).contains x)&&!(((clssOf p loose).map (·.name)).contains x)
noncomputable def xg:PyData->Option Int
 |.int i=>some i
 |_=>none
noncomputable def yt(p:qbj)(x:Str)(v:V):Option Unit:=(jb v).bind fun j=>(valOf p x).bind fun w=>(xg w).bind fun i=>if i=j then some () else none
noncomputable def w6:PyData->Option Str
 |.str i=>some i
 |_=>none
noncomputable def xJ(p:qbj)(x:Str)(v:V):Option Unit:=(vR v).bind fun j=>(valOf p x).bind fun w=>(w6 w).bind fun i=>if i=j then some () else none
noncomputable def yW(p:qbj)(x:Str)(v:V):Option Unit:=(vr v).bind fun l=>(jj l).bind fun ss=>(tupStrsOf p x).bind fun ts=>if ts=ss then some () else none
noncomputable def xY(p:qbj)(x:Str)(v:V):Bool:=(yt p x v).isSome||((xJ p x v).isSome||(yW p x v).isSome)
noncomputable def qT:Gk->Option Value
 |.blt b=>some b.real
 |.isi=>some (.builtin "isinstance")
 |.enum=>some (.type "enumerate")
 |.rev=>some (.type "reversed")
 |_=>none
inductive r8(p:Str×Gk):Prop
 |mk (h1:p.1≠"__name__")(h2:bootBuiltins p.1=qT p.2)(h3:p.2=.isi->p.1=ao "isinstance")(h4:∀v,p.2≠.val v)(h5:p.2≠.fn):r8 p
inductive rf(p:Str×Tc):Prop
 |mk (S:String)(h1:p.1≠"__name__")(h2:p.2.real=some S)(h3:p.1=ao S)(h4:bootBuiltins p.1=some (.type S)):rf p
def Er{P:α->Prop}:∀p∈([]:List α),P p:=fun Z h=>nomatch h
def all_cons{P:α->Prop}{x:α}{l:List α}(h:P x)(t:∀p∈l,P p):∀p∈x::l,P p:=eD.mpr ⟨h,t⟩
def mG{b:Bl}(h1:x≠"__name__")(h2:bootBuiltins x=some b.real):r8 (x,.blt b):=⟨h1,h2,(fun h=>nomatch h),(fun Z h=>nomatch h),(fun h=>nomatch h)⟩
def zh:∀p∈zhn,r8 p:=by
 repeat(refine all_cons ?_ ?_;first |refine mG (by decide +kernel) (by kernel_rfl) |refine⟨by decide +kernel,by kernel_rfl,by(intro h;first |rfl |injection h),by(intro v h;injection h),by(intro h;injection h)⟩)
 exact Er
def uE:∀p∈CV,rf p:=by
 repeat(refine all_cons ?_ ?_;exact⟨_,by decide +kernel,rfl,rfl,by kernel_rfl⟩)
 exact Er
def gM(h:Heap)(c:Cx):Prop:=∀b o,h.get? b=some o->(∀ps,o≠bz ps)->c.h0.get? b=some o
def cB.of{e:ez}(hh:gM h c)(hat:e.At c.g h):cB c e:=by
 obtain⟨a,cc,P,o,pm,doc,g1,g2,g3,g4,B⟩:=hat;obtain⟨⟨o1,vs1,t1,t2,t3,t4⟩,_⟩:=B.tab;obtain⟨c2,o2,vs2,t,q1,q2,q3,q4⟩:=g4;obtain rfl:=tB q1;obtain rfl:=ah (t1.symm.trans q2);exact⟨a,cc,o,pm,doc,g1,hh a o g2 (fun ps q=>by rw[q] at g3;injection g3),g3,cc,o1,vs2,t,rfl,hh cc o1 q2 (fun ps q=>by rw[q] at t2;injection t2),q3,q4⟩
theorem CN(T:Top p loose mean mg mb h)(hx:ng p loose x=true):mg x=none:=by
 simp only[ng,Bool.and_eq_true,iu,List.contains_eq_mem,decide_eq_false_iff_not] at hx;exact T.free x hx.1.1.1.1 hx.1.1.1.2 hx.1.1.2 hx.1.2 hx.2
inductive BS(fs:List Str)(vals:List (Str×V))(x:Str)(k:Gk):Prop
 |fn (h:k=.fn)(hm:x∈fs)
 |val (v:V)(h:k=.val v)(hm:(x,v)∈vals)
 |blt (h:(x,k)∈zhn)
def sY{k:Gk}(hx:(xq fs vals).g.lookup x=some k):BS fs vals x k:=by
 rcases cE.mp (fT hx) with h |h
 ·rcases cE.mp h with h |h
  ·revert h;refine xL fun f hf e=>?_;obtain⟨e1,e2⟩:=qt e;exact .fn e2.symm (e1▸hf)
  ·revert h;refine xL fun q hq e=>?_;obtain⟨e1,e2⟩:=qt e;exact .val q.2 e2.symm (e1▸hq)
 ·exact .blt h
theorem mY(T:Top p loose mean mg mb h){v:V}(hv:(yt p x v).isSome=true):∃r,mg x=some r/\ar c [] c.h0 v r:=by
 obtain⟨u,hu⟩:=tG.mp hv;revert hu;refine xB fun j hj hu=>?_;revert hu;refine xB fun w hw hu=>?_;revert hu;refine xB fun i hi hu=>?_;obtain rfl:=(iK hu).1;obtain rfl:=pH hj;obtain⟨r,hr,hR⟩:=T.const _ _ hw;cases w with
 |int k=>
  obtain rfl:=ah hi;cases hR c.h0;exact⟨_,hr,rI⟩
 |_=>cases hi
theorem kZ(T:Top p loose mean mg mb h){v:V}(hv:(xJ p x v).isSome=true):∃r,mg x=some r/\ar c [] c.h0 v r:=by
 obtain⟨u,hu⟩:=tG.mp hv;revert hu;refine xB fun j hj hu=>?_;revert hu;refine xB fun w hw hu=>?_;revert hu;refine xB fun i hi hu=>?_;obtain rfl:=(iK hu).1;obtain rfl:=vj hj;obtain⟨r,hr,hR⟩:=T.const _ _ hw;cases w with
 |str k=>
  obtain rfl:=ah hi;obtain⟨t,rfl,_⟩:=reads_str_inv (hR c.h0);exact⟨_,hr,rS⟩
 |_=>injection hi
theorem Gi:∀{l:List V}{vs:List Value}{ss:List Str},jj l=some ss->StrsAre vs ss->ag c [] h l vs
 |[],_,_,e,S=>by
  obtain rfl:=ah e;cases S;exact rL
 |v::l,_,_,e,S=>by
  revert e;refine xB fun i h1 f=>?_;revert f;refine xM fun l' h2 wj=>?_;subst wj;obtain rfl:=vj h1;cases S with
  |cons y t S=>exact⟨rS,Gi h2 S⟩
def jv(hh:gM h c)(B:Tables p w mg h){v:V}(hv:(yW p x v).isSome=true)(hz:∀l,v=.tup l->l.length<=qag):∃r,mg x=some r/\ar c [] c.h0 v r:=by
 obtain⟨u,hu⟩:=tG.mp hv;revert hu;refine xB fun l hl hu=>?_;revert hu;refine xB fun ss hs hu=>?_;revert hu;refine xB fun ts ht hu=>?_;obtain rfl:=(iK hu).1;obtain rfl:=yo hl;obtain⟨a,vs,h1,⟨o,h2,h3,n,h4⟩,h5⟩:=B.tupS x ts ht;exact⟨_,h1,dU.mk a o vs.toArray n rfl gq (hh a o h2 fun ps q=>by rw[q] at h3;injection h3) h3 h4 (hz l rfl) (Gi hs h5)⟩
noncomputable def mu(v:V):Bool:=match v with
 |.tup l=>decide (l.length<=100)
 |_=>true
def pY(T:Top p loose mean mg mb h)(hh:gM h c)(B:Tables p w mg h){v:V}(hv:(xY p x v&&mu v)=true):∃r,mg x=some r/\ar c [] c.h0 v r:=by
 revert hv;refine xA fun hv hs=>?_;rcases nD.mp hv with hv |hv
 ·exact mY T hv
 ·rcases nD.mp hv with hv |hv
  ·exact kZ T hv
  ·exact jv hh B hv fun l e=>by subst e;exact aB (of_decide_eq_true hs) (by decide)
def tQ(T:Top p loose mean mg mb h)(B:Tables p w mg h)(hg:c.g=mg)(hb:c.b=mb)(hh:gM h c)(h1:fs.all (fun f=>((recsOf p).map (·.name)).contains f)=true)(h2:vals.all (fun q=>xY p q.1 q.2&&mu q.2)=true)
  (h3:(zhn.map (·.1)++CV.map (·.1)).all (ng p loose)=true)
  (XO:cx c)
  (NO:dY c)
  (LO:∀kk fd nm,c.lam kk fd nm->d5 kk fd nm)
  :aY c (xq fs vals):=by
 subst hg hb
 have h1:=dQ.mp h1
 have h2:=dQ.mp h2
 have h3:=dQ.mp h3
 have bl:∀{x:Str} {k:Gk},(x,k)∈zhn->c.g x=none/\c.b x=qT k:=fun{x k} hx=>
  ⟨CN T (h3 x (List.mem_append_left _ (List.mem_map.mpr ⟨_,hx,rfl⟩))),(T.builtins x (zh _ hx).1).trans (zh _ hx).2⟩
 have bk:∀{x:Str} {k:Gk},k≠.fn->(∀v,k≠.val v)->(xq fs vals).g.lookup x=some k->(x,k)∈zhn:=fun n1 n2 hx=>by
  rcases sY hx with⟨hk,_⟩|⟨v,hk,_⟩|hm
  ·exact absurd hk n1
  ·exact absurd hk (n2 v)
  ·exact hm
 refine⟨fun x hx=>?_,fun x v hx=>?_,fun x b hx=>bl (bk (k:=.blt b) (fun h=>nomatch h) (fun Z h=>nomatch h) hx),fun x hx=>?_,fun x hx=>bl (bk (k:=.enum) (fun h=>nomatch h) (fun Z h=>nomatch h) hx),fun x hx=>bl (bk (k:=.rev) (fun h=>nomatch h) (fun Z h=>nomatch h) hx),fun x t hx=>?_,XO
  ,NO
  ,LO
  ⟩
 ·rcases sY hx with⟨_,hm⟩|⟨v,hk,_⟩|hm
  ·refine xL (fun dd hd wj=>?_) (List.contains_iff_mem.mp (h1 x hm));subst wj
   obtain⟨a,o,pm,code,doc,g1,g2,g3,_⟩:=T.fn dd hd
   exact(fun Z kJ=>kJ a o _ g1 (hh a o g2 (fun ps q=>by rw[q] at g3;injection g3)) g3)
  ·injection hk
  ·exact absurd rfl (zh _ hm).5
 ·rcases sY hx with⟨hk,_⟩|⟨v',hk,hm⟩|hm
  ·injection hk
  ·(injection hk with Ja;subst Ja)
   exact pY T hh B (h2 _ hm)
  ·exact absurd rfl ((zh _ hm).4 v)
 ·have hm:=bk (k:=.isi) (fun h=>nomatch h) (fun Z h=>nomatch h) hx
  exact⟨(zh _ hm).3 rfl,bl hm⟩
 ·have hm:=fT hx
  rcases cE.mp hm with hm |hm;rotate_left;exact vb hm
  obtain⟨S,b1,b2,b3,b4⟩:=uE _ hm
  exact .mk S b2 b3 (CN T (h3 x (kE _ (List.mem_map.mpr ⟨_,hm,rfl⟩)))) ((T.builtins x b1).trans b4)
theorem oW:∀{vs:List Value}{l:List Int},IntsAre vs l->sR l vs:=by
 intro vs l h
 induction h with
 |nil=>trivial
 |cons _ _ _ ih=>exact⟨⟨_,rfl⟩,ih⟩
def cg(TA:∀e∈(recsOf p).map W.itemOf,e.params.defaults=[]->cB c e)(O:c.Ok)(TO:aY c Tb)(j fuel r:Nat) (hj:(((recsOf p).map W.itemOf)[j]?.bind fun e=>if e.params.defaults.isEmpty=true/\e.name=ao f/\e.params.args.length=np/\(slots e.scope.names).length+r=n then sd Tb fuel r e else none)=some xs):aK c f np n xs:=by
 revert hj;refine xB fun e he hx=>?_;obtain⟨⟨h0,h1,h2,h3⟩,hx⟩:=iK hx;exact tu O TO (TA e (cD he) (gj.mp h0)) hx h1 h2 h3
end
variable {t:Nat}{w:V}{x:Int}
section
open PySem PyProof.Rows
def Ct{P:Addr}(hc:c.h0=h.hide P)(hP:h.get? P=some (bz ps)):gM h c:=fun b o hb hn=>by
 rw[hc,Heap.hide_ne h fun q=>by rw[q,hP] at hb;exact hn ps (ah hb).symm];exact hb
def iY(hh:gM h c)(n:h.Ns a m):c.h0.Ns a m:=
 let⟨o,es,ep,e,hd,r⟩:=n;⟨o,es,ep,hh a o e (fun ps q=>by rw[q] at hd;injection hd),hd,r⟩
def sz (T : Top p loose mean mg mb h) (hh : gM h c) (hg : c.g = mg) (hb : c.b = mb) (hs : h.NoSeer) (ht : c.prog.given.tree = none) : c.Ok := by
 subst hg hb
 exact { lim := let ⟨mc, a, r⟩ := T.nolimit; ⟨mc, iY hh a, r⟩
         gl := iY hh T.g
         bl := iY hh T.b
         tree := ht
         seer := { statics := let ⟨mc, a, r⟩ := hs.statics; ⟨mc, iY hh a, r⟩
                   mods := let ⟨mc, a, r⟩ := hs.mods; ⟨mc, iY hh a, r⟩
                   imp := let ⟨mc, a, r⟩ := hs.imp; ⟨mc, iY hh a, r⟩
                   main := let ⟨mg, bm, ob, a, b, c, d, e⟩ := hs.main; ⟨mg, bm, ob, iY hh a, b, hh bm ob c (fun ps q => by rw [q] at d; injection d), d, e⟩ } }
def uC (T : Top p loose mean mg mb h) (hh : gM h c) (hg : c.g = mg) : cX c := by
 subst hg
 obtain ⟨bm, ob, b1, b2, b3, b4, b5, b6⟩ := T.bmain
 exact ⟨bm, ob, b1, b2, hh bm ob b3 (fun ps q => by rw [q] at b4; injection b4), b4, b5, b6⟩
def oH{c P:Addr}(hc:h.IsCode c P #[])(ht:h.TableAt c P #[]):c0 h c P:=by
 obtain⟨⟨o,vs,e1,e2,e3,e4⟩,_⟩:=ht;obtain⟨o',vs',file,tf,flags,tg,inF,text,tt,op,f1,f2,f3,f4,f5,f6,f7,_,_,_,f11⟩:=hc;obtain rfl:=ah (e1.symm.trans f1);obtain rfl:=Data.fields.inj (e3.symm.trans f2);exact⟨o,vs,file,tf,flags,tg,inF,text,tt,e1,e2,e3,e4,f3,f4,f5,f6,f7,f11⟩
inductive uZ(e:ez)(mg:Str->Option Value)(h:Heap)(P:Addr):Prop
 |mk (a cc:Addr)(o:Obj)(pm doc:Value)(g1:mg e.name=some (.ref a))(g2:h.get? a=some o)(g3:o.data=.func (Calls.docDef e.name e.params e.body e.scope pm (.ref cc) doc))(g4:h.CodeRec (.ref cc) e.name)(g5:c0 h cc P)(g6:h.get? P=some (bz #[])):uZ e mg h P
def JL{e:ez}(hat:e.At mg h):∃P,uZ e mg h P:=by
 obtain⟨a,cc,P,o,pm,doc,g1,g2,g3,g4,B⟩:=hat;exact⟨P,a,cc,o,pm,doc,g1,g2,g3,g4,oH B.code B.tab,B.tab.2⟩
def dp.of{e:ez}{P:Addr}(hh:gM h c)(q:uZ e c.g h P)(h0:c.h0.get? P=none)(ht:c.tabs=[(P,lc,e.name++".<locals>."++"<lambda>")]):dp c e lc:=by
 obtain⟨a,cc,o,pm,doc,g1,g2,g3,g4,g5,g6⟩:=q;obtain⟨o1,vs,file,tf,flags,tg,inF,text,tt,e1,e2,e3,e4,f3,f4,f5,f6,f7,f11⟩:=g5;obtain⟨c2,o2,vs2,t,q1,q2,q3,q4⟩:=g4;obtain rfl:=tB q1;obtain rfl:=ah (e1.symm.trans q2);have k:=hh cc o1 e1 (fun ps q=>by rw[q] at e2;injection e2);exact⟨a,cc,o,pm,doc,(P,lc,e.name++".<locals>."++"<lambda>"),g1,hh a o g2 (fun ps q=>by rw[q] at g3;injection g3),g3,⟨cc,o1,vs2,t,rfl,k,q3,q4⟩,by rw[ht];exact aL,fun y hy Z=>by rw[ht] at hy;exact aV.mp hy,h0,⟨o1,vs,file,tf,flags,tg,inF,text,tt,k,e2,e3,e4,f3,f4,f5,f6,f7,f11⟩,rfl,rfl⟩
def vc(c:Cx)(f:String)(np n:Nat)(xs:List St):Prop:=
 ∀q d kk z vs Q E H,vs.length=np->az (Calls c) q d (some (kk,z)) xs (cK Q) (dM E) (vs.map some++List.replicate (n-np) none) H->Calls c q (d+1) (ao f) vs (some (kk,z)) Q E H
def qz(TA:∀e∈(recsOf p).map W.itemOf,e.params.defaults=[]->cB c e)(O:c.Ok)(TO:aY c Tb)(j fuel r:Nat)(ps:List Str) (hj:(((recsOf p).map W.itemOf)[j]?.bind fun e=>if e.params.defaults.isEmpty=true/\e.name=ao f/\ps.length=np/\(slots e.scope.names).length+r=n then rV Tb fuel r ps e else none)=some xs):vc c f np n xs:=by
 revert hj;refine xB fun e he hx=>?_;obtain⟨⟨h0,h1,h2,h3⟩,hx⟩:=iK hx;intro q d kk z vs Q E H hl hw;rw[<- h1];refine GY O TO (TA e (cD he) (gj.mp h0)) hx (by rw[hl,h2]) ?_;rw[h3,hl];exact hw
def uZ.tab{e:ez}{P:Addr}(q:uZ e mg h P):h.get? P=some (bz #[]):=let⟨_,_,_,_,_,_,_,_,_,_,g⟩:=q;g
def px{e:ez}{P:Addr}(q:uZ e mg h P)(k:∀b o,b≠P->h.get? b=some o->h'.get? b=some o)(hg:∃ps,h'.get? P=some (bz ps)):OldK h h':=by
 have hP:=q.tab;obtain⟨_,cc,_,_,_,_,_,_,_,g5,_⟩:=q;obtain⟨o1,vs,_,_,_,_,_,_,_,e1,e2,e3,e4,_,_,_,_,_,_⟩:=g5;obtain⟨ps,hg⟩:=hg;refine⟨fun b o e=>?_,fun b o e=>?_⟩
 ·by_cases hb:b=P
  ·subst hb;obtain rfl:=ah (hP.symm.trans e);exact .inr (.inl ⟨⟨cc,o1,vs,e1,e2,e3,e4⟩,rfl,#[],ps,rfl,by rw[Array.empty_append];exact hg⟩)
  ·exact .inl (k b o hb e)
 ·by_cases hb:b=P
  ·subst hb;exact⟨_,hg⟩
  ·exact⟨o,k b o hb e⟩
theorem kK{fa P:Addr}{nm:Str}(hA:OkA c A true d [] s.heap)(h0:c.h0=s.heap.hide P)(hP:s.heap.get? P=some (bz #[]))(ht:c.tabs=[(P,lc,nm)])(hgens:s.gens = #[])(hg:c.g (ao "law")=some (.ref fa)){vs:List Value}(hL:s.heap.IsList a vs.toArray)(hI:IntsAre vs l)(hl:l.length<=qag) (hc:Calls c true d (ao "law") [.scr l] none (fun v Z=>v=.bool true) fu []) (hR:∀s',(∀b o,b≠P->s.heap.get? b=some o->s'.heap.get? b=some o)->(∃ps,s'.heap.get? P=some (bz ps))->s'.os=s.os->s'.gens = #[]->R (.ok (.ret (.bool true))) s'):codeAny (model c.prog c.w) A (.call (.ref fa) ⟨[.ref a],[]⟩) R s:=by
 refine hc _ fun a' o' fd' g1 g2 g3 g4=>?_;clear hc;rw[hg] at g1;injection g1 with Ja;injection Ja with w4;subst w4;have hh:gM s.heap c:=Ct h0 hP;have S:ak c [] [] s:=⟨fun b o h=>Heap.of_hide (h0▸h),(fun Z h=>nomatch h),List.nodup_nil,rfl,(fun Z Z h=>nomatch h),hgens,fun x hx=>by
  rw[ht] at hx;rw[aV.mp hx];exact .no hP⟩
 obtain⟨ol,ho,hcl,n,hd⟩:=hL;have R1:ag c [] s.heap [.scr l] [.ref a]:=⟨⟨a,ol,vs.toArray,n,rfl,gq,hh a ol ho (fun ps q=>by rw[q] at hcl;injection hcl),ho,hcl,hd,hl,oW hI⟩,rfl⟩;have:=g4 A [] s [.ref a] [] hA S R1 rfl;refine sJ this ?_;intro r s' hr;cases r with
 |error e=>
  obtain⟨_,_,_,_,_,_,hq⟩:=hr;exact hq.elim
 |ok f=>cases f with
  |ret v=>
   obtain⟨φ',H',v,e,S',Rv,hv⟩:=hr;subst hv;cases(show _=_ from Rv);refine hR s' (fun b o hb ho=>S'.stays b o (by rw[h0,Heap.hide_ne _ hb];exact ho)) ?_ e.os S'.gens;rcases S'.tab _ (ht▸aL) with h1 |⟨cc,h1,_⟩
   ·exact⟨_,h1⟩
   ·exact⟨_,h1⟩
  |_=>exact hr.elim
end
variable {R:SPost}{a:Int}{l:Loc}{m:Nat}{s:PS}{xs:List V}
section
open PySem PyProof.Rows
def As(hh:gM h c){C:Addr}(K:aR h C bm ini):aR c.h0 C bm ini:=by
 obtain⟨nm,q,N,bs,sn,sub,ab,col,dd,k0,k1,k2,k3,k5,mN,hC,hN,hq,hi⟩:=K;exact⟨nm,q,N,bs,sn,sub,ab,col,dd,k0,k1,k2,k3,k5,mN,hh C _ hC (fun ps e=>nomatch congrArg Obj.cls e),iY hh hN,hq,hi⟩
def pB(hh:gM h c)(X:eK h):eK c.h0:=by
 obtain⟨m,hm,NE,hn,net,kid,inj⟩:=X;refine⟨m,iY hh hm,NE,hn,As hh net,fun cn hc=>?_,inj⟩;obtain⟨C,ini,h1,h2,h3,h4⟩:=kid cn hc;exact⟨C,ini,h1,h2,As hh h3,h4⟩
def pw{P:Addr}(hc:c.h0=h.hide P)(hP:h.get? P=some (bz #[]))(X:ft h):ft c.h0:=by
 have hh:gM h c:=Ct hc hP;obtain⟨m,hm,NE,C,fI,oI,fd,hn,hg,own,net,I,mc,h1,h2⟩:=X;refine⟨m,iY hh hm,NE,C,fI,oI,fd,hn,hg,As hh own,As hh net,{ I with ho:=hh _ _ I.ho (fun ps e=>?_),code:=?_ },mc,iY hh h1,h2⟩
 ·have:=I.cls;rw[e] at this;injection this
 ·obtain⟨c2,o2,vs2,t,q1,q2,q3,q4⟩:=I.code;refine⟨c2,o2,vs2,t,q1,?_,q3,q4⟩;have hne:c2≠P:=fun e=>by
   rw[e,hP] at q2;obtain rfl:=ah q2;(injection q3 with Ja;subst Ja);injection q4
  rw[hc,Heap.hide_ne _ hne];exact q2
end
section
open PySem PySem.W PyProof.Rows
def rX(p:qbj)(Tb:Tab)(f:String)(np n kk:Nat)(y:List St×Nat×Nat)(e:ez):Prop:=∃fuel r,e.name=ao f/\e.params.args.length=np/\(slots e.scope.names).length+r=n/\mq Tb fuel r kk e=some y
def o6(TA:∀e∈(recsOf p).map W.itemOf,e.params.defaults=[]->e.At mg h)(j fuel r kk:Nat) (hj:(((recsOf p).map W.itemOf)[j]?.bind fun e=>if e.params.defaults.isEmpty=true/\e.name=ao f/\e.params.args.length=np/\(slots e.scope.names).length+r=n then mq Tb fuel r kk e else none)=some y):∃e P,rX p Tb f np n kk y e/\uZ e mg h P:=by
 revert hj;refine xB fun e he hx=>?_;obtain⟨⟨h0,h1,h2,h3⟩,hx⟩:=iK hx;obtain⟨P,hP⟩:=JL (TA e (cD he) (gj.mp h0));exact⟨e,P,⟨fuel,r,h1,h2,h3,hx⟩,hP⟩
def lN{e:ez}(O:c.Ok)(TO:aY c Tb)(BM:cX c)(LO:∀kk fd nm,d5 kk fd nm->c.lam kk fd nm)(hl:rX p Tb f np n kk y e)(hat:dp c e y.2):aK c f np n y.1:=by
 obtain⟨fuel,r,h1,h2,h3,he⟩:=hl;intro q d vs Q E H hl hw;rw[<- h1];refine GD O TO BM LO hat he (by rw[hl,h2]) ?_;rw[h3,hl];exact hw
end
variable {f h:Nat}{p:Nat×Nat}{y:List V}
def zE(h:i<n):ix (i:Int) n=some i:=by
 refine(if_pos (hV i)).trans ((if_pos (bW.mpr h)).trans ?_);rw[pn]
def eB{xs:List α}{x:α}(h:xs[i]?=some x):i<xs.length:=(gG.mp h).1
def oB{xs:List Int}(h:xs[i]?=some x):bO H (.scr xs) (.int i)=some (.int x):=by
 show(ix i xs.length).bind _=_;rw[zE (eB h)];show(xs[i]?).map _=_;rw[h];rfl
def dP{a:Nat}{x:V}(ha:H[a]?=some xs)(h:xs[i]?=some x):bO H (.lst a) (.int i)=some x:=by
 show(H[a]?).bind _=_;rw[ha];show(ix i xs.length).bind _=_;rw[zE (eB h)];exact h
def Ad{a:Nat}{x:V}(ha:H[a]?=some xs)(h:xs.getLast?=some x):bO H (.lst a) (.int (-1))=some x:=by
 show(H[a]?).bind _=_;rw[ha];show(ix (-1) xs.length).bind _=_;rw[List.getLast?_eq_getElem?] at h;have wq:=Nat.pos_of_lt_add_left (n:=0) (k:=xs.length) (by have:=eB h;exact aw [_] [] kaa (Y1 J0 (Y0 V0 J0)) (Y1 (Y2 V0 J1) V0) this);have e:ix (-1) xs.length=some (xs.length-1):=by
  refine(if_neg (by decide)).trans ((if_pos (by exact aw [_] [] kaa (Y3 (Y3 (Y4 V0 J0) J0) (Y3 J1 J0)) (Y1 J0 V0) wq)).trans ?_);rw[show((-1:Int)+xs.length).toNat=xs.length-1 by exact aw [_,_] [] 0x6410a50006100c030802000065294001840400c2018061004050802140d04294001840700c2008000214a50006101c03080401840001005080211a08528003080e01840100005294001840501020200610000508021 (Y2 V0 (Y2 V1 J1)) (Y7 (Y5 (Y4 V0 J0) (Y0 (Y3 J1 J0) (Y4 V1 J0))) (Y6 (Y3 (Y0 (Y3 J1 J0) (Y4 V1 J0)) J0) (Y2 V0 J0))) (Ar.tn _)]
 rw[e];exact h
def zD(P:aK c "_law_cell_at" 2 2 FA){xs:List Int}(hc:q=true)(hq:Q (.int (xs.getD i 0)) H):Calls c q (d+1) "_law_cell_at" [.scr xs,.int i] none Q E H:=by
 subst hc;refine P true d _ Q E H rfl (Ss_go ?_);walk_at "";refine cN (fun h=>?_) (fun h=>?_)
 ·walk_at "";have hg:=bp (bW.mp h);refine ae.mk (oB hg) ?_;rw[ck,hg] at hq;exact hq
 ·walk_at "";rw[ck,iP (eP fun q=>h (bW.mpr q))] at hq;exact hq
def o4(hb:0<b):bI H .mod (.int a) (.int b)=some (.int (a%b),H):=by
 refine(if_neg (Int.ne_of_gt hb)).trans ?_;rw[Int.fmod_eq_emod_of_nonneg _ (Int.le_of_lt hb)]
def pX(hb:0<b):bI H .div (.int a) (.int b)=some (.int (a/b),H):=by
 refine(if_neg (Int.ne_of_gt hb)).trans ?_;rw[Int.fdiv_eq_ediv_of_nonneg _ (Int.le_of_lt hb)]
def cL(hb:0<b)(h:K (.int (a%b),H)):ae (bI H .mod (.int a) (.int b)) K:=ae.mk (o4 hb) h
def gA(hb:0<b)(h:K (.int (a/b),H)):ae (bI H .div (.int a) (.int b)) K:=ae.mk (pX hb) h
noncomputable def sq(x:Int):Int:=if x/12%9=1 then 13+x/108%20 else 1+x%12
def Ic(x:Int):1<=sq x/\sq x<=32:=by unfold sq;split<;>(first |exact aw [] [_,_,_] kba (Y6 (Y3 J1 (Y0 (.l 13) V0)) (Y3 (Y0 (.l 13) V0) (.l 32))) (Y6 (Y5 (Y0 (Y1 (.l 20) V1) V0) V2) (Y6 (Y3 J0 V0) (Y4 V0 (.l 20)))) (Ar.zd _ (k:=20) (by decide)) |exact aw [] [_,_,_] kba (Y6 (Y3 J1 (Y0 J1 V0)) (Y3 (Y0 J1 V0) (.l 32))) (Y6 (Y5 (Y0 (Y1 (.l 12) V1) V0) V2) (Y6 (Y3 J0 V0) (Y4 V0 (.l 12)))) (Ar.zd _ (k:=12) (by decide)))
def Ig(P:aK c "_law_lines_by" 1 2 Ga)(hq:Q (.int (sq x)) H):Calls c q (d+1) "_law_lines_by" [.int x] none Q E H:=by
 refine P q d _ Q E H rfl (Ss_go ?_);walk_at "";refine cL (by decide) ?_;walk_at "";refine gA (by decide) ?_;walk_at "";refine cL (by decide) ?_;walk_at "";refine cN (fun h=>?_) (fun h=>?_)
 ·walk_at "";refine gA (by decide) ?_;walk_at "";refine cL (by decide) ?_;walk_at "";rw[sq,if_pos h] at hq;exact hq
 ·walk_at "";rw[sq,if_neg h] at hq;exact hq
def Ds(P:aK c "_law_whole" 1 1 Ak){i:Int}(hq:Q (.bool true) H):Calls c q (d+1) "_law_whole" [.int i] none Q E H:=by
 refine P q d _ Q E H rfl (Ss_go ?_);walk_at "";exact hq
variable {a b k x:Nat}
noncomputable def nat(n:Nat):V:=.int n
noncomputable def fl(p:Nat×Nat):V:=.tup [.int p.2,.int p.1]
structure wK(f dn rd:Nat)(bs:List Nat):Prop where
 n1:f≠dn
 n2:f≠rd
 n3:f∉bs
 n4:dn≠rd
 n5:dn∉bs
 n6:rd∉bs
 n7:bs.Nodup
structure aI(H:Hp)(f dn rd:Nat)(bs:List Nat)(lays:Net)(done read:List Nat):Prop where
 F:H[f]?=some (bs.map .lst)
 len:bs.length=lays.length
 L:∀(i b:Nat) (y:List (Nat×Nat)),bs[i]?=some b->lays[i]?=some y->H[b]?=some (y.map fl)
 D:H[dn]?=some (done.map nat)
 R:H[rd]?=some (read.map nat)
 ap:wK f dn rd bs
structure aa(S:List Nat)(H H':Hp):Prop where
 len:H.length<=H'.length
 same:∀x,x<H.length->x∉S->H'[x]?=H[x]?
def aa.refl:aa S H H:=⟨aN _,fun Z Z Z=>rfl⟩
def dG(h:H[x]?=some y):x<H.length:=eB h
def jh(h:H[x]?=some y):(H++[xs])[x]?=some y:=(jd (dG h)).trans h
def ba:(H++[xs])[H.length]?=some xs:=List.getElem?_concat_length
def fq(h:H[x]?=some y)(hn:x≠a):(H.set a xs)[x]?=some y:=(iF (cS hn)).trans h
def qd(h:H[a]?=some y):(H.set a xs)[a]?=some xs:=iz (dG h)
def aI.lt(B:aI H f dn rd bs lays done read)(hb:bs[i]?=some b):b<H.length/\i<lays.length:=
 have hi:i<lays.length:=B.len▸eB hb
 ⟨dG (B.L i b _ hb (bp hi)),hi⟩
def aI.ltm(B:aI H f dn rd bs lays done read)(hb:b∈bs):b<H.length:=by
 obtain⟨i,hi⟩:=rg.mp hb;exact(B.lt hi).1
def tL{l:List α}{x y:α}(h:(l++[x])[i]?=some y):l[i]?=some y\/(i=l.length/\x=y):=by
 by_cases hi:i<l.length
 ·exact .inl ((jd hi).symm.trans h)
 ·have hlt:=eB h;rw[bG] at hlt;have e:i=l.length:=Nat.le_antisymm (Nat.le_of_lt_succ hlt) (eP hi);rw[e,List.getElem?_concat_length] at h;exact .inr ⟨e,ah h⟩
def aI.grow(B:aI H f dn rd bs lays done read):aI ((H++[[]]).set f (bs.map V.lst++[V.lst H.length])) f dn rd (bs++[H.length]) (lays++[[]]) done read:=by
 have hf:=dG B.F;have A:=B.ap;have keep:∀{x:Nat} {y:List V},x≠f->H[x]?=some y->((H++[[]]).set f (bs.map V.lst++[V.lst H.length]))[x]?=some y:=fun hx h=>fq (jh h) hx;have out:∀{x:Nat},x<H.length->x∉bs->x∉bs++[H.length]:=fun hx hn hm=>(cE.mp hm).elim hn fun e=>cj hx (aV.mp e);refine⟨?_,?_,fun i b y hb hy=>?_,keep (cS A.n1) B.D,keep (cS A.n2) B.R,⟨A.n1,A.n2,out hf A.n3,A.n4,out (dG B.D) A.n5,out (dG B.R) A.n6,?_⟩⟩
 ·rw[du];exact qd (jh B.F)
 ·rw[bG,bG,B.len];rfl
 ·rcases tL hb with hb |⟨e,rfl⟩
  ·rcases tL hy with hy |⟨e,rfl⟩
   ·exact keep (fun q=>A.n3 (q▸cD hb)) (B.L i b y hb hy)
   ·exact absurd (eB hb) (by rw[e,B.len];exact eI _)
  ·rcases tL hy with hy |⟨_,rfl⟩
   ·exact absurd (eB hy) (by rw[e,B.len];exact eI _)
   ·exact fq ba (Nat.ne_of_gt hf)
 ·refine List.nodup_append.mpr ⟨A.n7,mT.mpr ⟨gq,List.nodup_nil⟩,fun x hx y hy=>?_⟩;rw[aV.mp hy];exact cj (B.ltm hx)
def aI.putL(B:aI H f dn rd bs lays done read){y:List (Nat×Nat)}(hb:bs[i]?=some b):aI (H.set b (y.map fl)) f dn rd bs (lays.set i y) done read:=by
 have A:=B.ap;have hm:=cD hb;obtain⟨hlt,hi⟩:=B.lt hb;refine⟨fq B.F (fun q=>A.n3 (q▸hm)),B.len.trans fW.symm,fun j b' y' hb' hy'=>?_,fq B.D (fun q=>A.n5 (q▸hm)),fq B.R (fun q=>A.n6 (q▸hm)),A⟩;by_cases hij:j=i
 ·subst hij;obtain rfl:=ah (hb.symm.trans hb');obtain rfl:=ah ((iz hi).symm.trans hy');exact iz hlt
 ·rw[iF (cS hij)] at hy';exact fq (B.L j b' y' hb' hy') (fun q=>hij (Eb A.n7 (q▸hb') hb))
def aI.putD(B:aI H f dn rd bs lays done read):aI (H.set dn (done'.map nat)) f dn rd bs lays done' read:=
 have A:=B.ap
 ⟨fq B.F A.n1,B.len,fun j b y hb hy=>fq (B.L j b y hb hy) (fun q=>A.n5 (q▸cD hb)),qd B.D,fq B.R (cS A.n4),A⟩
def aI.putR(B:aI H f dn rd bs lays done read):aI (H.set rd (read'.map nat)) f dn rd bs lays done read':=
 have A:=B.ap
 ⟨fq B.F A.n2,B.len,fun j b y hb hy=>fq (B.L j b y hb hy) (fun q=>A.n6 (q▸cD hb)),fq B.D A.n4,qd B.R,A⟩
def aa.set(h:aa S H H')(ha:a∈S\/H.length<=a):aa S H (H'.set a xs):=
 ⟨by rw[fW];exact h.len,fun x hx hn=>(iF (fun q:a=x=>ha.elim (fun m=>hn (q▸m)) fun m=>Nat.not_lt.mpr m (q▸hx))).trans (h.same x hx hn)⟩
def aa.app(h:aa S H H'):aa S H (H'++[xs]):=
 ⟨by rw[bG];exact Nat.le_add_right_of_le h.len,fun x hx hn=>(jd (dg hx h.len)).trans (h.same x hx hn)⟩
variable {xs:List Nat}
def CZ(a b:Nat):(if(a:Int)<b then(b:Int) else a)=((max a b:Nat):Int):=by
 by_cases h:a<b
 ·rw[if_pos (bW.mpr h),Nat.max_eq_right (bY h)]
 ·rw[if_neg (fun q=>h (bW.mp q)),Nat.max_eq_left (eP h)]
def lx:fj true (bF H .max [.int a,.int b])=some (.int (max a b:Nat),H):=by
 rw[<- CZ];rfl
def kB{e:Nat}:fj true (bF H .max [.int a,.int b,.int e])=some (.int (max (max a b) e:Nat),H):=by
 rw[<- CZ,<-CZ];rfl
def xR{g:α->V}{xs:List α}{x:α}(h:xs[i]?=some x):(xs.map g)[i]?=some (g x):=by rw[bL,h];rfl
def jk(ha:H[a]?=some (xs.map nat))(h:xs[i]?=some x):bO H (.lst a) (.int i)=some (.int x):=dP ha (xR h)
def Cj{v:V}{xs:List V}(ha:H[a]?=some xs)(h:i<xs.length):lU H (.lst a) (.int i) v=some (H.set a (xs.set i v)):=by
 show(H[a]?).bind _=_;rw[ha];refine(if_pos ⟨hV i,bW.mpr h⟩).trans ?_;rw[pn]
def Bq(ha:H[a]?=some (xs.map nat))(h:i<xs.length):lU H (.lst a) (.int i) (.int x)=some (H.set a ((xs.set i x).map nat)):=by
 rw[List.map_set];exact Cj ha (by rw[aG];exact h)
def vX{xs:List V}{v:V}(ha:H[a]?=some xs)(hz:xs.length<10000):uR H .append (.lst a) [v]=some (.none,H.set a (xs++[v])):=by
 show(H[a]?).bind _=_;rw[ha];exact if_pos (cw hz (by decide))
structure uu(H:Hp)(f dn rd:Nat)(bs:List Nat)(lays:Net)(done read:List Nat)(l h:Nat)(bs':List Nat)(H':Hp):Prop where
 build:aI H' f dn rd bs' (vo lays (gg done read l h) (l,h)) (done.set h (gg done read l h+1)) (read.set l (max (g0 read l) (gg done read l h)))
 stay:aa (f::dn::rd::bs) H H'
 new:∀b∈bs',b∈bs\/H.length<=b
def HB(hnm:n+m=k+1-L)(wq:b=L+m)(hle:b<=k):n-1<n/\n-1+(m+1)=k+1-L:=by exact bC [_,_,_,_,_] [] 0xc61a064294a528004081a01840e00c204806100c0308020180a308c20104a528003080e01840400c20000a100023294a0010203006100c03080202840008d04294a00102048061028030800000068214a5294a0010206008103403081c01840a010203006100400014a000c2040061000050800128c2308041 (Y6 (Y1 (Y2 V0 J1) V0) (Y2 (Y0 (Y2 V0 J1) (Y0 V1 J1)) (Y2 (Y0 V2 J1) V3))) (Y2 (Y0 V0 V1) (Y2 (Y0 V2 J1) V3)) (Y2 V4 (Y0 V3 V1)) (Y0 V4 V2) hnm wq hle
def I6(hnm:n+m=k+1-L)(wq:b=L+m)(hle:¬b<=k):m=k+1-L:=by exact bC [_,_,_,_,_] [] 0x314a000c201006100003410a5000610180308020000a5294001840700c204006101003080002882308021 (Y2 V0 (Y2 (Y0 V1 J1) V2)) (Y2 (Y0 V3 V0) (Y2 (Y0 V1 J1) V2)) (Y2 V4 (Y0 V2 V0)) (Y8 (Y0 V4 V1) J0) hnm wq hle
def oO(H:Hp)(f dn rd:Nat)(bs:List Nat)(lays:Net)(done read:List Nat)(l h k n:Nat)(x0:Loc)(H':Hp):Prop:=∀GJ:Prop,(∀(bs':List Nat),∀(m:Nat),(n+m=k+1-lays.length)->aI H' f dn rd bs' (lays++List.replicate m []) done read->aa (f::dn::rd::bs) H H'->(∀b∈bs',b∈bs\/H.length<=b)->[some (.lst f),some (.int l),some (.int h),some (.lst dn),some (.lst rd),some (.int k)]=x0->GJ)->GJ
def BF(h:i<xs.length):xs[i]?=some (g0 xs i):=by
 rw[g0,ck,bp h];rfl
def qf(P:aK c "_law_place" 5 6 pz){l:Nat}(B:aI H f dn rd bs lays done read)(hl:l<done.length)(hh:h<done.length)(hrl:read.length=done.length)(hc:q=true) (hsz:gg done read l h<1000) (hlz:lays.length<1000) (hyz:∀y∈lays,y.length<1000) (hq:∀bs' H',uu H f dn rd bs lays done read l h bs' H'->Q .none H') :
  Calls c q (d+1) "_law_place" [.lst f,.int l,.int h,.lst dn,.lst rd] none Q E H:=by
 subst hc;refine P true d _ Q E H rfl (Ss_go ?_);have gR:∀{x:Nat},x<done.length->read[x]?=some (g0 read x):=fun hx=>BF (hrl▸hx);walk_at "";refine ae.mk (jk B.D (BF hl)) ?_;walk_at "";refine ae.mk (jk B.D (BF hh)) ?_;walk_at "";refine ae.mk (jk B.R (gR hh)) ?_;walk_at "";refine ae.mk kB ?_;walk_at "";rw[show max (max (g0 done l) (g0 done h)) (g0 read h)=gg done read l h from rfl];generalize hat:gg done read l h=k at hsz;refine⟨rfl,.mk (oO H f dn rd bs lays done read l h k) (k+1-lays.length) (fun Z kJ=>kJ bs 0 rfl (by rw[List.replicate_zero,fA];exact B) aa.refl (fun b hb=>.inl hb) rfl) ?_⟩;rintro n l' H' hI;refine hI _ fun bs' m hnm B' st hnew wg=>?_;clear hI;subst wg;have wq:=B'.len;rw[bG,List.length_replicate] at wq;walk_at "";refine ae.mk (eh B'.F) ?_;walk_at "";rw[aG];refine cN (fun hle=>?_) (fun hle=>?_)
 ·have hle:=dO.mp hle;walk_at "";refine⟨rfl,?_⟩;walk_at "";refine ae.mk (vX (jh B'.F) (by rw[aG];exact b0 hle (cw hsz (by decide)))) ?_;walk_at "";have hst:=HB hnm wq hle;refine⟨n-1,hst.1,(fun Z kJ=>kJ (bs'++[H'.length]) (m+1) hst.2 ?_ ((st.app).set (.inl aL)) (fun b hb=>?_) rfl)⟩
  ·have:=B'.grow;rw[eH,<-List.replicate_succ'] at this;exact this
  ·rcases cE.mp hb with hb |hb
   ·exact hnew b hb
   ·rw[aV.mp hb];exact .inr st.len
 ·have hle:¬bs'.length<=k:=fun q=>hle (dO.mpr q);walk_at "";have hm:m=k+1-lays.length:=I6 hnm wq hle;rw[hm] at B';rw[show lays++List.replicate (k+1-lays.length) []=pZ (k+1) lays from rfl] at B';have hb:=bp (Nat.lt_of_not_le hle);generalize bs'[k]=b at hb;obtain⟨hblt,hkl⟩:=B'.lt hb;have hy:=bp hkl;generalize hyy:(pZ (k+1) lays)[k]=y at hy;have hyl:y.length<1000:=by
   rcases cE.mp (cD hy) with h1 |h1
   ·exact hyz y h1
   ·rw[(List.mem_replicate.mp h1).2];decide
  refine ae.mk (dP B'.F (xR hb)) ⟨rfl,?_⟩;walk_at "";refine ae.mk (vX (B'.L k b y hb hy) (by rw[aG];exact cw hyl (by decide))) ?_;rw[show y.map fl++[.tup [.int h,.int l]]=(y++[(l,h)]).map fl by rw[du];rfl];have B2:=B'.putL (y:=y++[(l,h)]) hb;walk_at "";refine ae.mk (jk B2.R (gR hl)) ?_;walk_at "";refine ae.mk lx ?_;walk_at "";refine ae.mk (Bq B2.R (hrl▸hl)) ?_;have B3:=B2.putR (read':=read.set l (max (g0 read l) k));walk_at "";refine ae.mk (Bq (x:=k+1) B3.D hh) ?_;have B4:=B3.putD (done':=done.set h (k+1));refine hq bs' _ ⟨?_,((st.set ?_).set (.inl (a9 _ (a9 _ aL)))).set (.inl (a9 _ aL)),hnew⟩
  ·rw[hat];have e2:(pZ (k+1) lays).set k (y++[(l,h)])=vo lays k (l,h):=by
    rw[vo,ck,hy];rfl
   rw[<- e2];exact B4
  ·exact(hnew b (cD hb)).imp (fun h1=>a9 _ (a9 _ (a9 _ h1))) id
def aa.trans{S':List Nat}(h:aa S H H')(h':aa S' H' H'')(hs:∀x∈S',x∈S\/H.length<=x):aa S H H'':=
 ⟨aB h.len h'.len,fun x hx hn=>(h'.same x (dg hx h.len) fun hm=>(hs x hm).elim hn fun hl=>Nat.not_lt.mpr hl hx).trans (h.same x hx hn)⟩
structure cz(H:Hp)(f dn rd:Nat)(bs:List Nat)(X:List Nat)(s:PS)(bs':List Nat)(H':Hp):Prop where
 build:aI H' f dn rd bs' s.lays s.done s.read
 stay:aa (X++f::dn::rd::bs) H H'
 new:∀b∈bs',b∈bs\/H.length<=b
def qB{P:Nat->Prop}(h1:P f)(h2:P dn)(h3:P rd)(h4:∀b∈bs,P b):∀x∈f::dn::rd::bs,P x:=
 eD.mpr ⟨h1,eD.mpr ⟨h2,eD.mpr ⟨h3,h4⟩⟩⟩
def m1:f∈f::dn::rd::bs:=aL
def m2:dn∈f::dn::rd::bs:=a9 _ aL
def m3:rd∈f::dn::rd::bs:=a9 _ (a9 _ aL)
def m4(h:x∈bs):x∈f::dn::rd::bs:=a9 _ (a9 _ (a9 _ h))
def tm(h1:x≠f)(h2:x≠dn)(h3:x≠rd)(h4:x∉bs):x∉f::dn::rd::bs:=fun hm=>by
 rcases bc.mp hm with h |hm
 ·exact h1 h
 rcases bc.mp hm with h |hm
 ·exact h2 h
 rcases bc.mp hm with h |hm
 ·exact h3 h
 exact h4 hm
def mw(P:aK c "_law_place" 5 6 pz){l:Nat}(K:cz H0 f dn rd bs0 X s bs H)(L:bg n s js)(hn:n<=64)(hz:s.lays.length<900)(hlh:l<h)(hhn:h<n)(hc:q=true) (hq:∀bs' H',cz H0 f dn rd bs0 X (s.put (l,h)) bs' H'->aa (f::dn::rd::bs) H H'->(∀b∈bs',b∈bs\/H.length<=b)->Q .none H') :
  Calls c q (d+1) "_law_place" [.lst f,.int l,.int h,.lst dn,.lst rd] none Q E H:=by
 have dl:=L.dl;have rl:=L.rl;refine qf P K.build (dl▸cw hlh hhn) (dl▸hhn) (rl.trans dl.symm) hc ?_ (cw hz (by decide)) (fun y hy=>b0 (aB (L.wide y hy) hn) (by decide)) ?_
 ·exact b0 (L.at_le l h) (cw hz (by decide))
 ·intro bs' H' Pl;exact hq bs' H' ⟨Pl.build,K.stay.trans Pl.stay (qB (.inl (kE _ m1)) (.inl (kE _ m2)) (.inl (kE _ m3)) fun b hb=>(K.new b hb).imp (fun h=>kE _ (m4 h)) id),
   fun b hb=>(Pl.new b hb).elim (K.new b) fun h=>.inr (aB K.stay.len h)⟩ Pl.stay Pl.new
noncomputable def fh(cell:Int)(k:Nat):Bool:=decide (cell/(1+k)%4>0)
def aa.at(h:aa S H H')(hx:H[x]?=some y)(hn:x∉S):H'[x]?=some y:=(h.same x (eB hx) hn).trans hx
variable {y:List (Nat×Nat)}
structure gb{α:Type} [DecidableEq α](f:α->PyData):Prop where
 eq:∀a b,PyData.eqv (f a) (f b)=decide (a=b)
 lay:∀a,PyData.canLay0 (f a)=true
def oG[DecidableEq α]{x y:α}{xs ys:List α}:(decide (x=y)&&decide (xs=ys))=decide (x::xs=y::ys):=by
 rw[<- Bool.decide_and];exact decide_eq_decide.mpr (List.cons.injEq ..).symm.to_iff
theorem gb.all[DecidableEq α]{f:α->PyData}(h:gb f):∀xs ys:List α,PyData.eqvAll (xs.map f) (ys.map f)=decide (xs=ys)
 |[],[]=>rfl
 |[],_::_=>rfl
 |_::_,[]=>rfl
 |x::xs,y::ys=>by
  refine(show _=(PyData.eqv (f x) (f y)&&PyData.eqvAll (xs.map f) (ys.map f)) from rfl).trans ?_;rw[h.eq,h.all xs ys,oG]
theorem gb.layAll[DecidableEq α]{f:α->PyData}(h:gb f):∀xs:List α,PyData.canLayAll0 (xs.map f)=true
 |[]=>rfl
 |x::xs=>eQ.mpr ⟨h.lay x,h.layAll xs⟩
noncomputable def jC{α:Type}(f:α->PyData)(xs:List α):PyData:=.list (xs.map f)
def gb.list[DecidableEq α]{f:α->PyData}(h:gb f):gb (jC f):=⟨h.all,h.layAll⟩
noncomputable def pF{α:Type}(f:α->PyData)(xs:List α):PyData:=.tuple (xs.map f)
def gb.tup[DecidableEq α]{f:α->PyData}(h:gb f):gb (pF f):=⟨h.all,h.layAll⟩
noncomputable def natP(n:Nat):PyData:=.int n
def wJ:decide ((a:Int)=b)=decide (a=b):=decide_eq_decide.mpr Int.ofNat_inj
def nZ:gb natP:=⟨fun Z Z=>wJ,fun Z=>rfl⟩
noncomputable def zm5(p:Nat×Nat):PyData:=.tuple [.int p.1,.int p.2]
def eR:gb zm5:=⟨fun a b=>by
 refine(show _=(decide ((a.1:Int)=b.1)&&(decide ((a.2:Int)=b.2)&&true)) from rfl).trans ?_;rw[wJ,wJ,Bool.and_true,<-Bool.decide_and];exact decide_eq_decide.mpr Prod.ext_iff.symm,fun Z=>rfl⟩
theorem Cb{g:α->V}{f:α->PyData}{F:V->Option PyData}:∀{xs:List α},(∀x∈xs,F (g x)=some (f x))->aF F (xs.map g)=some (xs.map f)
 |[],_=>rfl
 |x::r,h=>by
  show(F (g x)).bind _=_;rw[h x aL];show(aF F (r.map g)).map _=_;rw[Cb fun y hy=>h y (a9 _ hy)];rfl
theorem jN{f:β->PyData}{F:V->Option PyData}:∀{bs:List V}{ys:List β},bs.length=ys.length->(∀(i:Nat) b y,bs[i]?=some b->ys[i]?=some y->F b=some (f y))->aF F bs=some (ys.map f)
 :=by
 intro bs;induction bs with
 |nil=>exact fun h Z=>by rw[iG.mp h.symm];rfl
 |cons b bs ih=>
  intro ys h hh;cases ys with
  |nil=>exact nomatch h
  |cons y ys=>
  show(F b).bind _=_;rw[hh 0 b y rfl rfl];show(aF F bs).map _=_;rw[ih (Nat.succ.inj h) fun i b y h1 h2=>hh (i+1) b y h1 h2];rfl
def sZ{xs:List V}(ha:H[a]?=some xs)(h:aF (bB n H) xs=some ys):bB (n+1) H (.lst a)=some (.list ys):=by
 show((H[a]?).bind _).map _=_;rw[ha];show(aF (bB n H) xs).map _=_;rw[h];rfl
def Bp{g:α->V}{f:α->PyData}{xs:List α}(ha:H[a]?=some (xs.map g))(h:∀x∈xs,bB n H (g x)=some (f x)):bB (n+1) H (.lst a)=some (jC f xs):=sZ ha (Cb h)
def HP{f:β->PyData}{bs:List V}{ys:List β}(ha:H[a]?=some bs)(hl:bs.length=ys.length)(h:∀(i:Nat) b y,bs[i]?=some b->ys[i]?=some y->bB n H b=some (f y)):bB (n+1) H (.lst a)=some (jC f ys):=sZ ha (jN hl h)
def nK(x:Nat):bB n H (nat x)=some (natP x):=by cases n<;>rfl
def ur(p:Nat×Nat):bB (n+1) H (pr p)=some (zm5 p):=by cases n<;>rfl
def Em(ha:H[a]?=some (xs.map nat)):bB (n+1) H (.lst a)=some (jC natP xs):=Bp ha fun x Z=>nK x
def HA(ha:H[a]?=some (y.map pr)):bB (n+2) H (.lst a)=some (jC zm5 y):=Bp ha fun x Z=>ur x
def Cd{net:Net}(N:aj H a bs net):bB (n+3) H (.lst a)=some (jC (jC zm5) net):=by
 refine HP N.top (aG .. |>.trans N.len) fun i b y h1 h2=>?_;rw[bL] at h1;revert h1;refine xM fun b' hb wj=>?_;subst wj;exact HA (N.lay i b' y hb h2)
def Bx{v:V} [DecidableEq α]{f:α->PyData}(h:gb f){x y:α}(h1:bB 9 H v=some (f x))(h2:bB 9 H w=some (f y)):fB H v w=some (decide (x=y)):=by
 show(bB 9 H v).bind _=_;rw[h1];show(bB 9 H w).bind _=_;rw[h2,<-h.eq];exact if_pos (eQ.mpr ⟨h.lay x,h.lay y⟩)
def uK{ys:List Nat}(ha:H[a]?=some (xs.map nat))(hb:H[b]?=some (ys.map nat)):fB H (.lst a) (.lst b)=some (decide (xs=ys)):=Bx nZ.list (Em ha) (Em hb)
def sf{xs ys:Net}(ha:aj H a bs xs)(hb:aj H b cs ys):fB H (.lst a) (.lst b)=some (decide (xs=ys)):=Bx eR.list.list (Cd ha) (Cd hb)
def q6{v:V}{b:Bool}(h:fB H v w=some b):dq H .eq v w=some b:=h
def lI{v:V}{b:Bool}(h:fB H v w=some b):dq H .ne v w=some (!b):=by
 show(fB H v w).map _=_;rw[h];rfl
variable {w:Str}{xs:List V}{ys:List (List V)}
def aI.below(B:aI H f dn rd bs lays done read):∀b∈f::dn::rd::bs,b<H.length:=qB (dG B.F) (dG B.D) (dG B.R) fun Z h=>B.ltm h
def aI.keep(B:aI H f dn rd bs lays done read)(h:∀x∈f::dn::rd::bs,H'[x]?=H[x]?):aI H' f dn rd bs lays done read:=
 ⟨(h f m1).trans B.F,B.len,fun i b y hb hy=>(h b (m4 (cD hb))).trans (B.L i b y hb hy),(h dn m2).trans B.D,(h rd m3).trans B.R,B.ap⟩
def cz.set(K:cz H0 f dn rd bs0 X s bs H)(hn:a∉f::dn::rd::bs)(hx:a∈X\/H0.length<=a):cz H0 f dn rd bs0 X s bs (H.set a xs):=
 ⟨K.build.keep fun x hx=>iF fun e:a=x=>hn (e▸hx),K.stay.set (hx.imp (List.mem_append_left _) id),K.new⟩
def cz.app(K:cz H0 f dn rd bs0 X s bs H):cz H0 f dn rd bs0 X s bs (H++[xs]):=
 ⟨K.build.keep fun x hx=>jd (K.build.below x hx),K.stay.app,K.new⟩
structure aS(H:Hp)(f dn rd lf la fw:Nat)(bs:List Nat)(s:PS)(left:List (Nat×Nat))(act:List Nat)(fwx:List Nat)(H0:Hp)(bs0:List Nat):Prop where
 kept:cz H0 f dn rd bs0 [lf] s bs H
 hact:H[la]?=some (act.map nat)
 hleft:H[lf]?=some (left.map pr)
 hfw:H[fw]?=some (fwx.map nat)
 nla:la∉f::dn::rd::bs
 nlf:lf∉f::dn::rd::bs
 nfw:fw∉f::dn::rd::bs
 d1:la≠lf
 d2:la≠fw
 d3:lf≠fw
 new:H0.length<=fw
def aS.push(T:aS H f dn rd lf la fw bs s left act fwx H0 bs0):aS (H.set fw (fwx.map nat++[.int x])) f dn rd lf la fw bs s left act (fwx++[x]) H0 bs0:=
 ⟨T.kept.set T.nfw (.inr T.new),fq T.hact T.d2,fq T.hleft T.d3,(by rw[du];exact qd T.hfw),T.nla,T.nlf,T.nfw,T.d1,T.d2,T.d3,T.new⟩
def aS.leave(T:aS H f dn rd lf la fw bs s left act fwx H0 bs0):aS (H.set lf (left.map pr++[pr p])) f dn rd lf la fw bs s (left++[p]) act fwx H0 bs0:=
 ⟨T.kept.set T.nlf (.inl aL),fq T.hact T.d1,(by rw[du];exact qd T.hleft),fq T.hfw (cS T.d3),T.nla,T.nlf,T.nfw,T.d1,T.d2,T.d3,T.new⟩
def aS.more(T:aS H f dn rd lf la fw bs s left act fwx H0 bs0):aS (H++[xs]) f dn rd lf la fw bs s left act fwx H0 bs0:=
 ⟨T.kept.app,jh T.hact,jh T.hleft,jh T.hfw,T.nla,T.nlf,T.nfw,T.d1,T.d2,T.d3,T.new⟩
def ni(hx:x<H.length)(hn:x∉f::dn::rd::bs)(hnew:∀b∈bs',b∈bs\/H.length<=b):x∉f::dn::rd::bs':=
 tm (fun e=>hn (e▸m1)) (fun e=>hn (e▸m2)) (fun e=>hn (e▸m3)) fun h=>(hnew x h).elim (fun h=>hn (m4 h)) fun h=>Nat.not_lt.mpr h hx
def aS.place(T:aS H f dn rd lf la fw bs s left act fwx H0 bs0)(K:cz H0 f dn rd bs0 [lf] s' bs' H')(st:aa (f::dn::rd::bs) H H')(hnew:∀b∈bs',b∈bs\/H.length<=b):aS H' f dn rd lf la fw bs' s' left act fwx H0 bs0:=
 ⟨K,st.at T.hact T.nla,st.at T.hleft T.nlf,st.at T.hfw T.nfw,ni (dG T.hact) T.nla hnew,ni (dG T.hleft) T.nlf hnew,ni (dG T.hfw) T.nfw hnew,T.d1,T.d2,T.d3,T.new⟩
def zu(H:Hp)(f dn rd la lf:Nat)(bs:List Nat)(s:PS)(left:List (Nat×Nat))(act:List Nat)(cell:Int)(m:Nat)(x0:Loc)(H':Hp):Prop:=∀GJ:Prop,(∀(k sp:Nat),∀(pl lfx:List (Nat×Nat)),∀(fwx bs':List Nat),(m+k=act.length)->(thin (fh cell) 0 0 act=(pl++(thin (fh cell) k sp (act.drop k)).1,lfx++(thin (fh cell) k sp (act.drop k)).2.1,fwx++(thin (fh cell) k sp (act.drop k)).2.2))->(fwx=[]->sp=0)->(fwx≠[]->fwx.getLast?=some (sp-1)/\sp≠0)->lfx.length<=k->pl.length<=k->fwx.length<=k->aS H' f dn rd lf la H.length bs' (s.puts pl) (left++lfx) act fwx H bs->[some (.lst f),some (.lst la),some (.int cell),some (.lst dn),some (.lst rd),some (.lst lf),some (.lst H.length),some (.int (k:Nat))]=x0->GJ)->GJ
def zu.mk{cell:Int}(k sp:Nat)(pl lfx:List (Nat×Nat))(fwx bs':List Nat)(H':Hp)(hmk:m+k=act.length)(hth:thin (fh cell) 0 0 act=(pl++(thin (fh cell) k sp (act.drop k)).1,lfx++(thin (fh cell) k sp (act.drop k)).2.1,fwx++(thin (fh cell) k sp (act.drop k)).2.2))(hf0:fwx=[]->sp=0)(hf1:fwx≠[]->fwx.getLast?=some (sp-1)/\sp≠0)(hll:lfx.length<=k)(hpl:pl.length<=k)(hfl:fwx.length<=k)(T:aS H' f dn rd lf la H.length bs' (s.puts pl) (left++lfx) act fwx H bs):zu H f dn rd la lf bs s left act cell m [some (.lst f),some (.lst la),some (.int cell),some (.lst dn),some (.lst rd),some (.lst lf),some (.lst H.length),some (.int (k:Nat))] H':=fun Z kJ=>kJ k sp pl lfx fwx bs' hmk hth hf0 hf1 hll hpl hfl T rfl
def Ho(hm:m=n-k)(hlt:k<n)(h:m<=m'):m-1<m'/\m-1+(k+1)=n:=by exact bC [_,_,_,_] [] 0x31868214a000c20500610000000d04294a000c20700610280308020000a5294001840b00c20400610100308000284000944118463294a50008102403080c01840400c20080a100025104611a08528003081201840000003410a5294a50008103003081a01840e00c20500810180308020000a528003081801840800c20000a10002510461 (Y6 (Y1 (Y2 V0 J1) V1) (Y2 (Y0 (Y2 V0 J1) (Y0 V2 J1)) V3)) (Y2 V0 (Y2 V3 V2)) (Y1 V2 V3) (Y0 V0 V1) hm hlt h
def zP{cell:Int}{pl lfx:List (Nat×Nat)}{Ex:SX}(hm:m=act.length-kk)(hx:act[kk]?=some x) (hth:thin (fh cell) 0 0 act=(pl++(thin (fh cell) (kk+1) (x+1) (act.drop (kk+1))).1,lfx++(thin (fh cell) (kk+1) (x+1) (act.drop (kk+1))).2.1,fwx++x::(thin (fh cell) (kk+1) (x+1) (act.drop (kk+1))).2.2)) (hll:lfx.length<=kk+1) (hpl:pl.length<=kk+1) (hfl:fwx.length<=kk) (hz:act.length<=64) (T:aS H3 f dn rd lf la H.length bs' (s.puts pl) (left++lfx) act fwx H bs) (hm':m<=m') :
  az (Calls c) true d none [.expr (.meth .append (.var 6) [(.idx (.var 1) (.var 7))]),.set 7 (.bin .add (.var 7) (.lit (.int 1)))] (d9 (fun l' H''=>∃m,m<m'/\zu H f dn rd la lf bs s left act cell m l' H'') Qx) Ex
   [some (.lst f),some (.lst la),some (.int cell),some (.lst dn),some (.lst rd),some (.lst lf),some (.lst H.length),some (.int (kk:Nat))] H3:=by
 have hlt:=eB hx;refine Ss_go ?_;walk_at "";refine⟨rfl,?_⟩;walk_at "";refine ae.mk (jk T.hact hx) ?_;walk_at "";refine ae.mk (vX T.hfw (by rw[aG];exact b0 hfl (dg hlt (aB hz (by decide))))) ?_;walk_at "";have hts:=Ho hm hlt hm';refine⟨m-1,hts.1,.mk (kk+1) (x+1) pl lfx (fwx++[x]) bs' _ hts.2 (hth.trans (by rw[eH];rfl)) (fun h=>absurd h (List.append_ne_nil_of_right_ne_nil _ (List.cons_ne_nil _ _)))
  (fun Z=>⟨List.getLast?_concat,Nat.succ_ne_zero _⟩) hll hpl (by rw[bG];exact Nat.succ_le_succ hfl) T.push⟩
def JS(P:aK c "_law_thinner" 6 8 Aw)(PP:aK c "_law_place" 5 6 pz){cell:Int} (B:aI H f dn rd bs s.lays s.done s.read) (L:bg n s js) (hn:n<=64) (ha:H[la]?=some (act.map nat)) (hlf:H[lf]?=some (left.map pr)) (nla:la∉f::dn::rd::bs) (nlf:lf∉f::dn::rd::bs) (hal:la≠lf) (hlt:∀p∈(thin (fh cell) 0 0 act).1,p.1<p.2/\p.2<n) (hz:act.length<=64) (hlz:left.length+act.length<=200) (hsz:s.lays.length<=800) (hc:q=true) (hq:∀bs' H' fw,aS H' f dn rd lf la fw bs' (s.puts (thin (fh cell) 0 0 act).1) (left++(thin (fh cell) 0 0 act).2.1) act (thin (fh cell) 0 0 act).2.2 H bs->Q (.lst fw) H') :
  Calls c q (d+2) "_law_thinner" [.lst f,.lst la,.int cell,.lst dn,.lst rd,.lst lf] none Q E H:=by
 subst hc;refine P true (d+1) _ Q E H rfl (Ss_go ?_);walk_at "";have hbs:=B.below;have n0:H.length∉f::dn::rd::bs:=fun h=>eI _ (hbs _ h);refine⟨rfl,.mk (zu H f dn rd la lf bs s left act cell) act.length (.mk 0 0 [] [] [] bs _ (Nat.add_zero _) rfl (fun Z=>rfl) (fun h=>absurd rfl h) (aN _) (aN _) (aN _)
  ⟨⟨B.keep fun x hx=>jd (hbs x hx),aa.refl.app,fun b hb=>.inl hb⟩,jh ha,(by rw[fA];exact jh hlf),ba,nla,nlf,n0,hal,cj (dG ha),cj (dG hlf),aN _⟩) ?_⟩
 intro m l' H' hI;refine hI _ fun k sp pl lfx fwx bs' hmk hth hf0 hf1 hll hpl hfl T wg=>?_;clear hI;subst wg;walk_at "";refine ae.mk (eh T.hact) ?_;walk_at "";rw[aG];refine cN (fun hk=>?_) (fun hk=>?_)
 ·have hk:=bW.mp hk;have hx:=bp hk;have hm0:act.length-k<=m:=Nat.sub_le_of_le_add (gk hmk.symm);have hm1:act.length-(k+1)<=m:=aB (Nat.sub_le_sub_left (Nat.le_succ k) _) hm0;have hdr:=qC hk;generalize act[k]=x at hx hdr;refine Ss_go ?_;walk_at "";refine ae.mk (eh T.hact) ?_;walk_at "";rw[aG];refine cN (fun hk1=>?_) (fun hk1=>?_)
  ·have hk1:k+1<act.length:=bW.mp hk1;have hy:=bp hk1;have hdr2:=qC hk1;generalize act[k+1]=y at hy hdr2;walk_at "";refine gA zf ?_;walk_at "";refine cL (by decide) ?_;walk_at "";refine cN (fun hcn=>?_) (fun hcn=>?_)
   ·have hct:fh cell k=true:=decide_eq_true hcn;refine Ss_go ?_;walk_at "";refine ae.mk (jk T.hact hx) ?_;walk_at "";refine ae.mk (jk (i:=k+1) T.hact hy) ?_;walk_at "";rw[hdr,hdr2,Bk,if_pos hct] at hth;have hplt:∀p∈pl,p.1<p.2/\p.2<n:=fun p hp=>hlt p (by rw[hth];exact List.mem_append_left _ hp);have hxy:=hlt (x,y) (by rw[hth];exact kE _ aL);have hpz:=vq L hplt;refine mw PP T.kept (L.puts hplt) hn (rY hpz hsz (aB hpl (aB (bY hk) hz))) hxy.1 hxy.2 rfl fun bs'' H'' K'' st'' new''=>?_;have T1:=T.place K'' st'' new'';rw[show(s.puts pl).put (x,y)=s.puts (pl++[(x,y)]) by rw[PS.puts_append];rfl] at T1;have T2:=T1.more (xs:=[]);refine Then_go (Ss_go ?_);walk_at "";refine ae.mk (lI (uK T2.hfw (ys:=[]) ba)) ?_;have hpl':(pl++[(x,y)]).length<=k+1+1:=by rw[bG];exact ir (Nat.succ_le_succ hpl)
    refine wB (fun hfw=>?_) (fun hfw=>?_)
    ·obtain⟨hlast,hs0⟩:=hf1 hfw;refine Ss_go ?_;walk_at "";refine⟨rfl,?_⟩;walk_at "";refine ae.mk (Ad T2.hfw (by rw[List.getLast?_map,hlast];rfl)) ?_;walk_at "";refine ae.mk (jk T2.hact hx) ?_;walk_at "";refine ae.mk (vX T2.hleft (by rw[aG,bG];exact b0 (Nat.add_le_add_left (aB hll (bY hk)) _) (b0 hlz (by decide)))) ?_;have T3:=T2.leave (p:=(sp-1,x));rw[eH] at T3;walk_at "";refine zP (kk:=k+1) rfl hy ?_ (by rw[bG];exact ir (Nat.succ_le_succ hll)) hpl' (ir hfl) hz T3 hm1;rw[hth,if_neg hs0,eH,eH];rfl
    ·have hs0:=hf0 hfw;walk_at "";refine zP (kk:=k+1) rfl hy ?_ (aB hll (fM _ 2)) hpl' (ir hfl) hz T2 hm1;rw[hth,hs0,eH];rfl
   ·have hct:¬fh cell k=true:=fun h=>hcn (of_decide_eq_true h);walk_at "";refine zP rfl hx ?_ (ir hll) (ir hpl) hfl hz T hm0;rw[hth,hdr,hdr2,Bk,if_neg hct]
  ·have hk1:¬k+1<act.length:=fun h=>hk1 (bW.mpr h);walk_at "";refine zP rfl hx ?_ (ir hll) (ir hpl) hfl hz T hm0;rw[hth,hdr,List.drop_eq_nil_of_le (eP hk1)];rfl
 ·have hk:=eP fun h=>hk (bW.mpr h);walk_at "";rw[List.drop_eq_nil_of_le hk] at hth;have hth:_=(pl,lfx,fwx):=hth.trans (by rw[ky,fA,fA,fA]);rw[hth] at hq;exact hq bs' _ _ T
variable {Q:List V->Hp->Prop}{f:V->List V->(List V->Hp->Prop)->Hp->Prop}{p:Nat×List Nat}
section
variable {Q:V->Hp->Prop}
def gZ{a b:Int}(hb:q7 b=true)(h:K (.int (a*b),H)):ae (bI H .mul (.int a) (.int b)) K:=
 ae.mk (if_pos (by rw[hb,Bool.or_true])) h
def vM(n:Nat):eA 0 (n:Int) 1=(List.range n).map nat:=by
 have:(if 0<(1:Int)/\0<(n:Int) then(((n:Int)-0-1)/1+1).toNat else 0)=n:=by
  split<;>(first |exact aA [_,_] [_,_] 0x1904294001840300c2008000210a5294001840500c202006100803080000808041084294a50006101c04080801840200c200806010080210a529400184050102020081008030802008080 (Y2 V0 V1) (Y7 (Y5 (Y4 V0 J0) (Y0 V0 J1)) (Y6 (Y3 (Y0 V0 J1) J0) (Y2 V0 J0))) (Y6 (Y5 (Y0 (Y1 J1 V0) V1) (Y2 (Y2 (Y4 V1 J0) J0) J1)) (Y6 (Y3 J0 V1) (Y4 V1 J1))) (Ar.tn _) (Ar.zd _ (k:=1) (by decide)) |exact aw [_] [] 0x3140018400020a50006100403080002800308000 (Y2 J0 V0) (Y8 (Y6 (Y4 J0 J1) (Y4 J0 (Y4 V0 J0))) J0) (by assumption))
 rw[eA,this];refine List.map_congr_left fun i Z=>?_;rw[Int.mul_one,Int.zero_add];rfl
def j8(h:n<100000):fj true (bF H .range [.int n])=some (.rng 0 n 1,H):=if_pos (show(n:Int).natAbs<2^31 by exact aw [_] [] kaa (Y1 V0 (.l 2147483648)) (Y1 V0 (.l 100000)) h)
def Bz(h:n<100000):fj true (bF H .list [.rng 0 n 1])=some (.lst H.length,H++[(List.range n).map nat]):=by
 rw[<- vM];exact if_pos (by rw[vM,aG,dj];exact bY (cw h (by decide)))
def vE(h:H[a]?=some xs):fj true (bF H .list [.lst a])=some (.lst H.length,H++[xs]):=by
 show(H[a]?).map _=_;rw[h];rfl
theorem C3(x:α):∀n,rep [x] n=List.replicate n x
 |0=>rfl
 |n+1=>congrArg (x::·) (C3 x n)
def mul_zero(h:H[a]?=some [V.int 0])(hn:n<100000):bI H .mul (.lst a) (.int n)=some (.lst H.length,H++[(List.replicate n 0).map nat]):=by
 show(H[a]?).bind _=_;rw[h];have h2:(n:Int).toNat*[V.int 0].length<=qag:=by
  rw[pn];exact aB (gk (Nat.mul_one n)) (bY (cw hn (by decide)))
 refine(if_pos ⟨hV n,dO.mpr (aB (bY hn) (by decide)),h2⟩).trans ?_
 ·rw[pn,C3,List.map_replicate];rfl
def mZ{ys:List V}(ha:H[a]?=some xs)(hb:H[b]?=some ys)(hz:xs.length+ys.length<100000):bI H .add (.lst a) (.lst b)=some (.lst H.length,H++[xs++ys]):=by
 show(H[a]?).bind _=_;rw[ha];show(H[b]?).bind _=_;rw[hb];exact if_pos (bY (cw hz (by decide)))
def FV:qv (i:Int) n=min i n:=by
 rw[qv,if_neg (Int.not_lt.mpr (hV i)),pn]
def zy (ha:H[a]?=some xs):vy H (.lst a) .none (.int i)=some (.lst H.length,H++[xs.take i]):=by
 show(H[a]?).bind _=_;rw[ha,List.take_eq_take_min,<-FV];rfl
def wi(ha:H[a]?=some xs):vy H (.lst a) (.int i) .none=some (.lst H.length,H++[xs.drop i]):=by
 show(H[a]?).bind _=_;rw[ha];show some (V.lst H.length,H++[(xs.drop (qv i xs.length)).take (xs.length-qv i xs.length)])=_;rw[FV,List.take_of_length_le (by rw[hZ];exact aN _)];by_cases h:i<=xs.length
 ·rw[Nat.min_eq_left h]
 ·have h:=Nat.le_of_not_le h;rw[Nat.min_eq_right h,List.drop_of_length_le (aN _),List.drop_of_length_le h]
end
structure Rows(H H':Hp)(cs:List Nat)(ys:List (List V)):Prop where
 st:aa [] H H'
 len:cs.length=ys.length
 hold:∀(i b:Nat) (y:List V),cs[i]?=some b->ys[i]?=some y->H'[b]?=some y
 fr:∀b∈cs,H.length<=b/\b<H'.length
 nd:cs.Nodup
def Rows.nil:Rows H H [] []:=⟨aa.refl,rfl,(fun Z Z Z h=>nomatch h),(fun Z h=>nomatch h),List.nodup_nil⟩
def aH(st:aa [] H H')(h:H[a]?=some xs):H'[a]?=some xs:=st.at h gq
def aa.trans0(h:aa [] H H')(h':aa [] H' H''):aa [] H H'':=h.trans h' fun Z m=>nomatch m
def Rows.snoc{y:List V}(R:Rows H H' cs ys)(st:aa [] H' H'')(hb:H''[b]?=some y)(hn:H'.length<=b):Rows H H'' (cs++[b]) (ys++[y]):=by
 refine⟨R.st.trans0 st,?_,fun i b' y' h1 h2=>?_,fun b' hb'=>?_,?_⟩
 ·rw[bG,bG,R.len];rfl
 ·rcases tL h1 with h1 |⟨e,rfl⟩
  ·rcases tL h2 with h2 |⟨e,rfl⟩
   ·exact aH st (R.hold i b' y' h1 h2)
   ·exact absurd (eB h1) (by rw[e,R.len];exact eI _)
  ·rcases tL h2 with h2 |⟨_,rfl⟩
   ·exact absurd (eB h2) (by rw[e,R.len];exact eI _)
   ·exact hb
 ·rcases cE.mp hb' with h |h
  ·exact⟨(R.fr b' h).1,dg (R.fr b' h).2 st.len⟩
  ·rw[aV.mp h];exact⟨aB R.st.len hn,dG hb⟩
 ·refine List.nodup_append.mpr ⟨R.nd,mT.mpr ⟨gq,List.nodup_nil⟩,fun x hx z hz=>?_⟩;rw[aV.mp hz];exact cj (dg (R.fr x hx).2 hn)
def zO{ok:Hp->Prop}(ys:List (List V))(wq:items.length=ys.length) (step:∀(i:Nat) x y acc H' (K:List V->Hp->Prop),items[i]?=some x->ys[i]?=some y->aa [] H H'->(∀b H'',aa [] H' H''->H''[b]?=some y->H'.length<=b->K (acc++[.lst b]) H'')->f x acc K H') (hok:∀H',aa [] H H'->ok H') (hend:∀cs H',Rows H H' cs ys->Q (cs.map .lst) H'):gW ok f items [] Q H:=by
 refine wV (I:=fun i acc H'=>∃cs,acc=cs.map V.lst/\Rows H H' cs (ys.take i)) (fun i x acc H' K hx hI hK=>?_) (fun acc H' hI=>?_) ⟨[],rfl,Rows.nil⟩
 ·obtain⟨cs,rfl,R⟩:=hI;have hi:i<ys.length:=wq▸eB hx;have hy:=bp hi;refine step i x _ _ H' K hx hy R.st fun b H'' st hb hn=>?_;have R':=R.snoc st hb hn;refine hK _ _ (hok _ R'.st) ⟨cs++[b],by rw[du];rfl,?_⟩;rw[List.take_add_one,hy];exact R'
 ·obtain⟨cs,rfl,R⟩:=hI;rw[wq,List.take_length] at R;exact hend cs H' R
theorem Rows.net{net:Net}(R:Rows H H' cs (net.map fun y=>y.map pr)):aj (H'++[cs.map .lst]) H'.length cs net:=
 ⟨ba,R.len.trans (aG ..),fun i b y h1 h2=>jh (R.hold i b _ h1 (by rw[bL,h2];rfl))⟩
variable {E:SX}{f:Nat}
structure aW(H0 H:Hp)(f dn rd lf:Nat)(bs:List Nat)(s:PS)(left:List (Nat×Nat)):Prop where
 build:aI H f dn rd bs s.lays s.done s.read
 hleft:H[lf]?=some (left.map pr)
 nlf:lf∉f::dn::rd::bs
 stay:aa [] H0 H
 fresh:∀b∈f::dn::rd::bs,H0.length<=b
 freshL:H0.length<=lf
structure cQ(H:Hp)(g:Nat)(rs:List Nat)(gs:List (List Nat)):Prop where
 top:H[g]?=some (rs.map .lst)
 len:rs.length=gs.length
 gr:∀(i r:Nat) (y:List Nat),rs[i]?=some r->gs[i]?=some y->H[r]?=some (y.map nat)
section
variable {left':List (Nat×Nat)}
def aW.freshB(T:aW H0 H f dn rd lf bs s left)(hnew:∀b∈bs',b∈bs\/H.length<=b):∀b∈f::dn::rd::bs',H0.length<=b:=
 qB (T.fresh _ m1) (T.fresh _ m2) (T.fresh _ m3) fun b hb=>(hnew b hb).elim (fun h=>T.fresh _ (m4 h)) fun h=>aB T.stay.len h
def aW.place(T:aW H0 H f dn rd lf bs s left)(B:aI H' f dn rd bs' s'.lays s'.done s'.read)(st:aa (f::dn::rd::bs) H H')(hnew:∀b∈bs',b∈bs\/H.length<=b):aW H0 H' f dn rd lf bs' s' left:=
 ⟨B,st.at T.hleft T.nlf,ni (dG T.hleft) T.nlf hnew,T.stay.trans st fun x hx=>.inr (T.fresh x hx),T.freshB hnew,T.freshL⟩
def aW.thin(T:aW H0 H f dn rd lf bs s left)(K:aS H' f dn rd lf la fw bs' s' left' act fwx H bs):aW H0 H' f dn rd lf bs' s' left':=
 ⟨K.kept.build,K.hleft,K.nlf,T.stay.trans K.kept.stay fun x hx=>.inr ((bc.mp hx).elim (fun e=>e▸T.freshL) (T.fresh x)),T.freshB K.kept.new,T.freshL⟩
def wt(f dn rd:Nat)(bs rs:List Nat):Prop:=∀r∈rs,r∉f::dn::rd::bs
def cQ.lt(G:cQ H g rs gs):∀r∈rs,r<H.length:=by
 intro r hr;obtain⟨i,hi,rfl⟩:=List.mem_iff_getElem.mp hr;exact dG (G.gr i _ _ (bp hi) (bp (G.len▸hi)))
def cQ.stay(G:cQ H g rs gs)(st:aa (f::dn::rd::bs) H H')(ap:wt f dn rd bs (g::rs)):cQ H' g rs gs:=
 ⟨st.at G.top (ap g aL),G.len,fun i r y h1 h2=>st.at (G.gr i r y h1 h2) (ap r (a9 _ (cD h1)))⟩
end
noncomputable def yR:List St:=[.ret (.comp (.comp (.tup [.wx 15,.wx 14]) (.two 14 15) (.blt .sorted [.wx 13]) []) (.one 13) (.wx 2) [])]
noncomputable def ya:List St:=.loop (.two 12 10) (.rev (.wx 3)) [.expr (.call "_law_place" [.wx 2,.wx 12,.wx 10,.wx 4,.wx 5])]::yR
noncomputable def BN:List St:=[.set 0 (.bin .mod (.bin .mul (.wx 0) (.ww 16807)) (.ww 2147483647)),.set 9 (.idx (.list [.bin .mod (.bin .div (.wx 0) (.ww 3)) (.bin .sub (.blt .len [.wx 8]) (.ww 1)),.ww 0,.bin .sub (.blt .len [.wx 8]) (.ww 2)]) (.bin .mod (.wx 0) (.ww 3))),.loop (.one 10) (.val (.idx (.wx 8) (.bin .add (.wx 9) (.ww 1)))) [.expr (.call "_law_place" [.wx 2,.idx (.idx (.wx 8) (.wx 9)) (.neg (.ww 1)),.wx 10,.wx 4,.wx 5])],.set 11 (.bin .add (.idx (.wx 8) (.wx 9)) (.idx (.wx 8) (.bin .add (.wx 9) (.ww 1)))),.set 8 (.bin .add (.bin .add (.slice (.wx 8) (.lit .none) (.wx 9)) (.list [.wx 11])) (.slice (.wx 8) (.bin .add (.wx 9) (.ww 2)) (.lit .none)))]
noncomputable def xK:List St:=.whil (.cmp (.blt .len [.wx 8]) [.gt] [.ww 1]) BN::ya
noncomputable def zj:List St:=.set 8 (.comp (.list [.wx 13]) (.one 13) (.wx 6) [])::xK
noncomputable def telT:List St:=.loop (.one 7) (.val (.blt .range [.bin .mod (.wx 0) (.ww 4)])) [.set 6 (.call "_law_thinner" [.wx 2,.wx 6,.bin .div (.bin .div (.wx 0) (.ww 4)) (.bin .add (.ww 1) (.wx 7)),.wx 4,.wx 5,.wx 3])]::zj
theorem uk:AW=.set 0 (.bin .mod (.bin .mul (.var 0) (.lit (.int 48271))) (.lit (.int 2147483647)))::.set 2 (.list [])::.set 3 (.list [])::.set 4 (.bin .mul (.list [(.lit (.int 0))]) (.var 1))::.set 5 (.bin .mul (.list [(.lit (.int 0))]) (.var 1))::.set 6 (.blt .list [(.blt .range [(.var 1)])])::telT:=rfl
noncomputable def sw(p:Nat×Nat):Int×Int:=(p.2,p.1)
theorem D2:∀z:List (Nat×Nat),vK (z.map fl)=some (z.map sw)
 |[]=>rfl
 |p::r=>by
  show(vK (r.map fl)).map _=_;rw[D2 r];rfl
def J9:decide ((a:Int)<b)=decide (a<b):=decide_eq_decide.mpr bW
def JM:decide ((a:Int)<=b)=decide (a<=b):=decide_eq_decide.mpr dO
def yh (a b:Nat×Nat):fo a b=iS (sw a) (sw b):=by
 refine Eq.symm ((show _=(decide ((a.2:Int)<b.2)||(decide ((a.2:Int)=b.2)&&decide ((a.1:Int)<=b.1))) from rfl).trans ?_);rw[J9,wJ,JM];rfl
theorem Ik(hb:H[b]?=some (y.map fl))(hy:∀p∈y,p.1<p.2/\p.2<n)(hn:n<=64)(hnd:(y.map (·.2)).Nodup):fj true (bF H .sorted [.lst b])=some (.lst H.length,H++[(iT y).map fl]):=by
 have hlt:y.length<64:=by
  have:=yQ (n:=n-1) (xs:=y.map fun p=>p.2-1) ?_ ?_
  ·rw[aG] at this;cases y with
   |nil=>decide
   |cons p r=>have:=hy p aL;exact aA [_,_] [] 0x68214a528003080c01840800c201806100000014a528003080801840500c20300610000508021 (Y1 V0 (.l 64)) (Y0 V1 (.l 64)) (Y0 V0 (Y2 V1 J1)) hn (by assumption)
  ·refine List.pairwise_map.mpr ((List.pairwise_map.mp hnd).imp_of_mem ?_);intro a b ha hb hne;have:=hy a ha;have:=hy b hb;exact bC [_,_,_,_,_] [] 0x38d03210a5294a000c206806102803080801840200c2008080400a100023214a528003081001840400c20100610000801420004a10042340c84214a5294001840c00c20300810100308040184010180c0200508021190a5294001840800c20200610080408000400a10042508001 (Y8 (Y2 (Y2 V0 J1) (Y2 V1 J1)) J0) (Y8 (Y2 V0 V1) J0) (Y1 V2 V1) (Y6 (Y1 V3 V0) (Y1 V0 V4)) hne this.1 (by assumption)
  ·intro x hx;revert hx;refine xL fun p hp wj=>?_;subst wj;have:=hy p hp;exact aA [_,_,_] [] 0x1a064294a528003081201840a00c205806100c0308020180a100423294a50006101c03081201840300c20080a10042508001 (Y1 (Y2 V0 J1) (Y2 V1 J1)) (Y1 V2 V0) (Y1 V0 V1) this.1 this.2
 have e2:yO (y.map sw)=true:=by
  refine eQ.mpr ⟨eQ.mpr ⟨decide_eq_true (by rw[aG];exact hlt),decide_eq_true ?_⟩,dQ.mpr ?_⟩
  ·exact List.pairwise_map.mpr ((List.pairwise_map.mp hnd).imp fun hne e=>hne (Int.ofNat_inj.mp (congrArg Prod.fst e)))
  ·intro x hx;revert hx;refine xL fun p hp wj=>?_;subst wj;have h2:=dg (hy p hp).2 hn;exact eQ.mpr ⟨decide_eq_true (cw h2 (by decide)),decide_eq_true (cw (cw (hy p hp).1 h2) (by decide))⟩
 have e3:((y.map sw).mergeSort iS).map lQ=(iT y).map fl:=by
  rw[<- List.map_mergeSort (r:=fo) (s:=iS) (f:=sw) (l:=y) (fun a Z b Z=>yh a b),ib];rfl
 show(H[b]?).bind _=_;rw[hb];show(vK (y.map fl)).bind _=_;rw[D2,<-e3];exact if_pos e2
def uO(h:H[a]?=some xs):fj true (ff H (.lst a))=some xs:=h
def gf(h:n<100000):n<=qag:=bY (cw h (by decide))
def p9{l3 l4 l5:Option V}(B:aI H f dn rd bs s.lays s.done s.read)(L:bg n s js)(hn:n<=64)(hz:s.lays.length<=900) (hq:∀a bs' H' l',aj H' a bs' (s.lays.map iT)->aa [] H H'->(∀b∈a::bs',H.length<=b)->(a::bs').Nodup->R (.ret (.lst a)) l' H') :
  az (Calls c) true d none yR R E [l0,l1,some (.lst f),l3,l4,l5,l6,l7,l8,l9,l10,l11,l12,l13,l14,l15] H:=by
 refine Ss_go ?_;walk_at "";refine ae.mk (uO B.F) ⟨gf (by rw[aG,B.len];exact aw [_] [] kaa (Y1 V0 (.l 100000)) (Y0 V0 (.l 900)) hz),?_⟩;refine zO ((s.lays.map iT).map fun y=>y.map pr) ?_ ?_ (fun H' st=>aH st B.F) ?_
 ·rw[aG,aG,aG,B.len]
 ·intro i x y' acc H' K hx hy' st hK;rw[ib,bL] at hy';revert hy';refine xM fun y hy wj=>?_;subst wj;rw[bL] at hx;revert hx;refine xM fun b hb wj=>?_;subst wj;have hm:=cD hy;have hyz:=L.wide y hm;walk_at "";refine ae.mk (Ik (aH st (B.L i b y hb hy)) (fun p hp=>(L.hi i y hy p hp).2.2) hn (L.nd y hm)) ?_;walk_at "";refine ae.mk (uO ba) ⟨gf (by rw[aG,<-(xj y).length_eq];exact aA [_,_] [] kab (Y1 V0 (.l 100000)) (Y0 V1 (.l 64)) (Y0 V0 V1) hn hyz),?_⟩;refine wV (I:=fun j acc2 H2=>H2=H'++[(iT y).map fl]/\acc2=((iT y).take j).map pr) ?_ ?_ ⟨rfl,rfl⟩
  ·rintro j x2 acc2 H2 K2 hx2 ⟨rfl,rfl⟩ hK2;rw[bL] at hx2;revert hx2;refine xM fun p hp wj=>?_;subst wj;unfold fl;walk_at "";refine hK2 _ _ ba ⟨rfl,?_⟩;rw[List.take_add_one,hp,du];rfl
  ·rintro acc2 H2 ⟨rfl,rfl⟩;rw[aG,List.take_length];exact hK _ _ aa.refl.app.app ba (aa.refl (S:=[])).app.len
 ·intro cs H' RR;exact hq _ cs _ _ RR.net RR.st.app (eD.mpr ⟨RR.st.len,fun b hb=>(RR.fr b hb).1⟩) (mT.mpr ⟨fun h=>eI _ (RR.fr _ h).2,RR.nd⟩)
variable {b y:List Nat}
structure iB(H:Hp)(a:Nat)(xs:List V)(H':Hp):Prop where
 st:aa [] H H'
 hold:H'[a]?=some xs
 lo:H.length<=a
def iB.mk0:iB H H.length xs (H++[xs]):=⟨aa.refl.app,ba,aN _⟩
def bU(h:o=some (.lst H.length,H++[xs]))(k:∀a H',iB H a xs H'->K (.lst a,H')):ae o K:=ae.mk h (k _ _ .mk0)
def aW.grow(T:aW H0 H f dn rd lf bs s left)(st:aa [] H H'):aW H0 H' f dn rd lf bs s left:=
 ⟨T.build.keep fun x hx=>st.same x (T.build.below x hx) gq,aH st T.hleft,T.nlf,T.stay.trans0 st,T.fresh,T.freshL⟩
def oN(H0:Hp)(f dn rd lf:Nat)(s:PS)(left:List (Nat×Nat))(l0 l1 l6 l7 l8 l9 l11 l13 l14 l15:Option V)(r:List (Nat×Nat))(x1:Loc)(H:Hp):Prop:=∀GJ:Prop,(∀(ks:List (Nat×Nat)),∀(v10 v12:Option V),∀(bs:List Nat),(ks++r=left.reverse)->aW H0 H f dn rd lf bs (s.puts ks) left->[l0,l1,some (.lst f),some (.lst lf),some (.lst dn),some (.lst rd),l6,l7,l8,l9,v10,l11,v12,l13,l14,l15]=x1->GJ)->GJ
def pk(PP:aK c "_law_place" 5 6 pz)(T:aW H0 H f dn rd lf bs s left)(L:bg n s js)(hn:n<=64)(hz:s.lays.length+left.length<=800) (hlt:∀p∈left.reverse,p.1<p.2/\p.2<n) (hq:∀a bs' H' l',aj H' a bs' ((s.puts left.reverse).lays.map iT)->aa [] H0 H'->(∀b∈a::bs',H0.length<=b)->(a::bs').Nodup->R (.ret (.lst a)) l' H') :
  az (Calls c) true (d+1) none ya R E [l0,l1,some (.lst f),some (.lst lf),some (.lst dn),some (.lst rd),l6,l7,l8,l9,l10,l11,l12,l13,l14,l15] H:=by
 refine Ss_go ?_;walk_at "";refine⟨rfl,ux (a:=lf) (items:=left.map pr) (fun K E' h=>h) T.hleft ?_⟩;rw[<- List.map_reverse];refine vp (oN H0 f dn rd lf s left l0 l1 l6 l7 l8 l9 l11 l13 l14 l15) ?_ ?_ (fun Z kJ=>kJ [] _ _ bs rfl T rfl)
 ·intro p r l' H' K hI hnext hret;refine hI _ fun ks v10 v12 bs he T wg=>?_;clear hI;subst wg;have hpm:=hlt p (by rw[<- he];exact kE _ aL);have htk:∀p∈ks,p.1<p.2/\p.2<n:=fun p hp=>hlt p (by rw[<- he];exact List.mem_append_left _ hp);have wq:=vq L htk;have hl:=congrArg List.length he;rw[bG,List.length_reverse] at hl;refine ae.mk rfl (Ss_go ?_);walk_at "";refine mw PP (H0:=H') (bs0:=bs) (X:=[]) ⟨T.build,aa.refl,fun b hb=>.inl hb⟩ (L.puts htk) hn (by exact bC [_,_,_,_,_] [] kak (Y1 V0 (.l 900)) (Y0 (Y0 V1 V2) (.l 800)) (Y0 V0 (Y0 V1 V3)) (Y2 (Y0 V3 V4) V2) hz wq hl) hpm.1 hpm.2 rfl fun bs'' H'' K'' st'' new''=>?_;have T2:=T.place K''.build st'' new'';rw[show(s.puts ks).put (p.1,p.2)=s.puts (ks++[p]) by rw[PS.puts_append];rfl] at T2;exact hnext _ _ T2.hleft (fun Z kJ=>kJ (ks++[p]) _ _ bs'' (by rw[eH];exact he) T2 rfl)
 ·intro l' H' hI;refine hI _ fun ks v10 v12 bs he T wg=>?_;clear hI;subst wg;rw[fA] at he;subst he;have wq:=vq L hlt;rw[List.length_reverse] at wq;exact p9 T.build (L.puts hlt) hn (by exact aA [_,_,_] [] kab (Y0 V0 (.l 900)) (Y0 (Y0 V1 V2) (.l 800)) (Y0 V0 (Y0 V1 V2)) hz wq) fun a cs H'' l'' N st fr nd=>hq a cs H'' l'' N (T.stay.trans0 st) (fun b hb=>aB T.stay.len (fr b hb)) nd
structure d4(H:Hp)(f dn rd g:Nat)(bs rs:List Nat)(gs:List (List Nat)):Prop where
 gr:cQ H g rs gs
 apart:wt f dn rd bs (g::rs)
def cQ.grow(G:cQ H g rs gs)(st:aa [] H H'):cQ H' g rs gs:=⟨aH st G.top,G.len,fun i r y h1 h2=>aH st (G.gr i r y h1 h2)⟩
def d4.grow(G:d4 H f dn rd g bs rs gs)(st:aa [] H H'):d4 H' f dn rd g bs rs gs:=⟨G.gr.grow st,G.apart⟩
def d4.place(G:d4 H f dn rd g bs rs gs)(st:aa (f::dn::rd::bs) H H')(hnew:∀b∈bs',b∈bs\/H.length<=b):d4 H' f dn rd g bs' rs gs:=
 ⟨G.gr.stay st G.apart,fun r hr=>ni ((bc.mp hr).elim (fun e=>e▸dG G.gr.top) (G.gr.lt r)) (G.apart r hr) hnew⟩
inductive wW(H:Hp)(g i:Nat)(rs:List Nat)(y:List Nat):Prop
 |mk (r:Nat)(hr:rs[i]?=some r)(hold:H[r]?=some (y.map nat))(ix:bO H (.lst g) (.int i)=some (.lst r)):wW H g i rs y
def cQ.at(G:cQ H g rs gs)(h:gs[i]?=some y):wW H g i rs y:=
 have hr:=bp (show i<rs.length from G.len▸eB h)
 ⟨_,hr,G.gr i _ y hr h,dP G.top (xR hr)⟩
def cQ.merge{g':Nat}(G:cQ H g rs gs)(hi:i+1<gs.length)(hM:H[M]?=some (y.map nat))(top:H[g']?=some ((rs.take i++M::rs.drop (i+2)).map V.lst)) :
  cQ H g' (rs.take i++M::rs.drop (i+2)) (gs.take i++y::gs.drop (i+2)):=by
 have hl:=G.len;have hle:=bY (Nat.lt_of_succ_lt hi);have l1:(rs.take i).length=i:=List.length_take_of_le (aB hle (gk hl.symm));have l2:(gs.take i).length=i:=List.length_take_of_le hle;refine⟨top,?_,fun j r z h1 h2=>?_⟩
 ·rw[bG,bG,l1,l2,eU,eU,hZ,hZ,hl]
 rcases Nat.lt_trichotomy j i with h |h |h
 ·rw[jd (by rw[l1];exact h),List.getElem?_take,if_pos h] at h1;rw[jd (by rw[l2];exact h),List.getElem?_take,if_pos h] at h2;exact G.gr j r z h1 h2
 ·subst h;rw[iE (by rw[l1];exact aN _),l1,Nat.sub_self] at h1;rw[iE (by rw[l2];exact aN _),l2,Nat.sub_self] at h2;(injection h1 with Ja;subst Ja);(injection h2 with Ja;subst Ja);exact hM
 ·rw[iE (by rw[l1];exact bY h),l1,show j-i=(j-i-1)+1 from(Nat.sub_add_cancel (Nat.sub_pos_of_lt h)).symm,List.getElem?_cons_succ,List.getElem?_drop] at h1;rw[iE (by rw[l2];exact bY h),l2,show j-i=(j-i-1)+1 from(Nat.sub_add_cancel (Nat.sub_pos_of_lt h)).symm,List.getElem?_cons_succ,List.getElem?_drop] at h2;exact G.gr _ r z h1 h2
def Br(h:t<3):t=0\/t=1\/t=2:=(Nat.lt_succ_iff_lt_or_eq.mp h).elim (fun h=>(Nat.lt_succ_iff_lt_or_eq.mp h).elim (fun h=>.inl (Nat.lt_one_iff.mp h)) fun h=>.inr (.inl h)) fun h=>.inr (.inr h)
def zp(hcl:0<=cl)(hm:2<=m):∃i:Nat,i+1<m/\bO (H++[[V.int (cl/3%((m:Int)-1)),V.int 0,V.int ((m:Int)-2)]]) (.lst H.length) (.int (cl%3))=some (.int i):=by
 obtain⟨t,h⟩:=Ai (x:=cl) (y:=3) (by decide);have ht:t<3:=bW.mp (h▸Int.emod_lt_of_pos cl (by decide));have hp:(0:Int)<(m:Int)-1:=Int.sub_pos_of_lt (bW.mpr hm);rw[h];rcases Br ht with rfl |rfl |rfl
 ·skip;have a1:0<=cl/3%((m:Int)-1):=Int.emod_nonneg _ (Int.ne_of_gt hp);have a2:cl/3%((m:Int)-1)<(m:Int)-1:=Int.emod_lt_of_pos _ hp;refine⟨(cl/3%((m:Int)-1)).toNat,by exact bC [_,_] [_] 0x490a528003080601840400c2008000294a000c200806100c0308000 (Y1 (Y0 V0 J1) V1) (Y0 J2 V1) (Y4 V0 (Y2 (Y4 V1 J0) J1)) (Y7 (Y5 (Y4 V0 J0) V0) (Y6 (Y3 V0 J0) (Y2 V0 J0))) hm a2 (Ar.tn _),?_⟩;rw[Int.toNat_of_nonneg a1];exact dP ba rfl
 ·exact⟨0,hm,dP ba rfl⟩
 ·refine⟨m-2,Nat.lt_of_lt_of_eq (Nat.lt_succ_self _) (Nat.sub_add_cancel hm),?_⟩;rw[show((m-2:Nat):Int)=(m:Int)-2 from Int.ofNat_sub hm];exact dP ba rfl
theorem Dt:∀{gs:List (List Nat)} {s:Nat},gH B s gs->∀g∈gs,g.Nodup
 |[],_,_,_,hg=>nomatch hg
 |_::_,_,h,g',hg'=>(bc.mp hg').elim (fun e=>e▸Dd h.2.1) (h.2.2.elim fun Z q=>Dt q.2 g')
def dr.short (I:dr n M s left gs) (hg:y∈gs):y.length<=n:=by
 obtain⟨_,B1,_,_,C1,_⟩:=I.ex;exact yQ (Dt C1 y hg) (I.lt y hg)
def Bh(H0:Hp)(f dn rd lf n:Nat)(left:List (Nat×Nat))(l1 l6 l7 l12 l13 l14 l15:Option V)(m:Nat)(x0:Loc)(H:Hp):Prop:=∀GJ:Prop,(∀(cl:Int),∀(g:Nat),∀(bs rs:List Nat),∀(s:PS),∀(gs:List (List Nat)),∀(v9 v10 v11:Option V),(m=gs.length)->0<=cl->aW H0 H f dn rd lf bs s left->d4 H f dn rd g bs rs gs->dr n (n+3) s left gs->[some (.int cl),l1,some (.lst f),some (.lst lf),some (.lst dn),some (.lst rd),l6,l7,some (.lst g),v9,v10,v11,l12,l13,l14,l15]=x0->GJ)->GJ
def Bh.mk(cl:Int)(g:Nat)(bs rs:List Nat)(s:PS)(gs:List (List Nat))(v9 v10 v11:Option V)(H:Hp)(hm:m=gs.length)(hcl:0<=cl)(T:aW H0 H f dn rd lf bs s left)(G:d4 H f dn rd g bs rs gs)(I:dr n (n+3) s left gs):Bh H0 f dn rd lf n left l1 l6 l7 l12 l13 l14 l15 m [some (.int cl),l1,some (.lst f),some (.lst lf),some (.lst dn),some (.lst rd),l6,l7,some (.lst g),v9,v10,v11,l12,l13,l14,l15] H:=fun Z kJ=>kJ cl g bs rs s gs v9 v10 v11 hm hcl T G I rfl
def B6(H0:Hp)(f dn rd lf g:Nat)(rs:List Nat)(s:PS)(left:List (Nat×Nat))(gs:List (List Nat))(mm:Nat)(b:List Nat)(l0 l1 l6 l7 l9 l11 l12 l13 l14 l15:Option V)(r:List Nat)(x1:Loc)(H:Hp):Prop:=∀GJ:Prop,(∀(ks:List Nat),∀(v10:Option V),∀(bs:List Nat),(ks++r=b)->(aW H0 H f dn rd lf bs (s.puts (ks.map fun y=>(mm,y))) left)->d4 H f dn rd g bs rs gs->[l0,l1,some (.lst f),some (.lst lf),some (.lst dn),some (.lst rd),l6,l7,some (.lst g),l9,v10,l11,l12,l13,l14,l15]=x1->GJ)->GJ
def B6.mk(r ks:List Nat)(v10:Option V)(bs:List Nat)(H:Hp)(he:ks++r=b)(T:aW H0 H f dn rd lf bs (s.puts (ks.map fun y=>(mm,y))) left)(G:d4 H f dn rd g bs rs gs):B6 H0 f dn rd lf g rs s left gs mm b l0 l1 l6 l7 l9 l11 l12 l13 l14 l15 r [l0,l1,some (.lst f),some (.lst lf),some (.lst dn),some (.lst rd),l6,l7,some (.lst g),l9,v10,l11,l12,l13,l14,l15] H:=fun Z kJ=>kJ ks v10 bs he T G rfl
variable {b:Nat}{l0:List V}{xs:List Nat}{y:List (Nat×Nat)}
def si{gs:List α}{a b:α}(ha:gs[i]?=some a)(hb:gs[i+1]?=some b):gs=gs.take i++a::b::gs.drop (i+2):=by
 obtain⟨h1,rfl⟩:=gG.mp ha;obtain⟨h2,rfl⟩:=gG.mp hb;rw[<- qC h2,<-qC h1,List.take_append_drop]
def pD(PP:aK c "_law_place" 5 6 pz)(hn:n<=64)(hcl:0<=cl)(T:aW H0 H f dn rd lf bs s left)(G:d4 H f dn rd g bs rs gs)(I:dr n (n+3) s left gs) (hq:∀a bs' H' l' net,fH n net->aj H' a bs' net->aa [] H0 H'->(∀b∈a::bs',H0.length<=b)->(a::bs').Nodup->R (.ret (.lst a)) l' H') :
  az (Calls c) true (d+1) none xK R E [some (.int cl),l1,some (.lst f),some (.lst lf),some (.lst dn),some (.lst rd),l6,l7,some (.lst g),l9,l10,l11,l12,l13,l14,l15] H:=by
 refine Ss_go ?_;walk_at "";refine⟨rfl,.mk (Bh H0 f dn rd lf n left l1 l6 l7 l12 l13 l14 l15) gs.length (.mk cl g bs rs s gs _ _ _ _ rfl hcl T G I) ?_⟩;clear T G I hcl;intro m l' H' hI;refine hI _ fun cl g bs rs s gs v9 v10 v11 wk hcl T G I wg=>?_;clear hI;subst wg;subst wk;walk_at "";refine ae.mk (eh G.gr.top) ?_;walk_at "";rw[aG,G.gr.len];refine cN (fun h1=>?_) (fun h1=>?_)
 ·have h1:2<=gs.length:=bW.mp h1;refine Ss_go ?_;walk_at "";refine gZ (by decide) ?_;walk_at "";refine cL (by decide) ?_;walk_at "";generalize hcell:cl*16807%2147483647=cl';have hcl':0<=cl':=hcell▸Int.emod_nonneg _ (by decide);refine gA (by decide) ?_;walk_at "";refine ae.mk (eh G.gr.top) ?_;walk_at "";rw[aG,G.gr.len];refine cL (Int.sub_pos_of_lt (bW.mpr h1)) ?_;walk_at "";refine ae.mk (eh G.gr.top) ?_;walk_at "";rw[aG,G.gr.len];refine cL (by decide) ?_;walk_at "";obtain⟨i,hi,hidx⟩:=zp (H:=H') (m:=gs.length) hcl' h1;refine ae.mk hidx ?_;clear hidx hcell;walk_at "";generalize hH1:H'++[[V.int (cl'/3%((gs.length:Int)-1)),V.int 0,V.int ((gs.length:Int)-2)]]=H1;have st1:aa [] H' H1:=hH1▸aa.refl.app;clear hH1;have T1:=T.grow st1;have G1:=G.grow st1;have ha:=bp (Nat.lt_of_succ_lt hi);have hb:=bp hi;generalize gs[i]=a at ha;generalize gs[i+1]=b at hb;have I2:=I;rw[si ha hb] at I2;obtain⟨mm,hmm,I3,hlt⟩:=I2.merge;clear I2;obtain⟨js,B0,L,_⟩:=I.ex;obtain⟨rb,hrb,hrbH,hrbI⟩:=G1.gr.at hb;have hbz:=I.short (cD hb);have hlayz:=aB I.lay (aB (Nat.add_le_add_right hn 3) (show 64+3<=80 by decide));have hgz:gs.length<=80:=aB (aB (Nat.le_add_left ..) (fM ..)) hlayz;have hsz:s.lays.length<=800:=aB (aB (fM ..) (fM ..)) (aB hlayz (by decide));have hn80:=aB hn (show 64<=80 by decide);refine⟨rfl,lT (v:=.lst rb) (fun K E' h=>ae.mk hrbI h) hrbH ?_⟩;refine vp (B6 H0 f dn rd lf g rs s left gs mm b (some (.int cl')) l1 l6 l7 (some (.int i)) v11 l12 l13 l14 l15) ?_ ?_ (.mk _ [] _ bs _ rfl T1 G1)
  ·clear T1 G1 st1 hrbH hrbI T G;intro y r l' H2 K hI hnext hret;refine hI _ fun ks v10 bs he T G wg=>?_;clear hI;subst wg;obtain⟨ra,hra,hraH,hraI⟩:=G.gr.at ha;walk_at "";refine ae.mk hraI ?_;walk_at "";refine ae.mk (Ad hraH (by rw[List.getLast?_map,hmm];rfl)) ?_;walk_at "";have htk:∀p∈ks.map fun y=>(mm,y),p.1<p.2/\p.2<n:=fun p hp=>hlt p (by rw[<- he,du];exact List.mem_append_left _ hp);have hpm:=hlt (mm,y) (by rw[<- he,du];exact kE _ aL);have hl2:=vq L htk;have hkz:=congrArg List.length he;rw[bG] at hkz;rw[aG] at hl2;refine mw PP (H0:=H2) (bs0:=bs) (X:=[]) ⟨T.build,aa.refl,fun b hb=>.inl hb⟩ (L.puts htk) hn (rY hl2 hsz (aB (hkz▸fM ..) (aB hbz hn))) hpm.1 hpm.2 rfl fun bs'' H'' K'' st'' new''=>?_;have T3:=T.place K''.build st'' new'';have G3:=G.place st'' new'';rw[show(s.puts (ks.map fun y=>(mm,y))).put (mm,y)=s.puts ((ks++[y]).map fun y=>(mm,y)) by rw[du,PS.puts_append];rfl] at T3;obtain⟨rb',hrb',hrbH',_⟩:=G3.gr.at hb;obtain rfl:=ah (hrb.symm.trans hrb');exact hnext _ _ hrbH' (.mk _ (ks++[y]) _ bs'' _ (by rw[eH];exact he) T3 G3)
  ·clear T1 G1 st1 hrbH hrbI T G;intro l' H2 hI;refine hI _ fun ks v10 bs he T G wg=>?_;clear hI;subst wg;rw[fA] at he;subst he;obtain⟨ra,hra,hraH,hraI⟩:=G.gr.at ha;obtain⟨rb',hrb',hrbH,hrbI⟩:=G.gr.at hb;have haz:=I.short (cD ha);have hrl:=G.gr.len;refine Then_go (Ss_go ?_);walk_at "";refine ae.mk hraI ?_;walk_at "";refine ae.mk hrbI ?_;walk_at "";refine bU (mZ hraH hrbH (by rw[aG,aG];exact cw (AS (aB haz hn80) (aB hbz hn80)) (by decide))) fun M h1 N1=>?_;walk_at "";have G1:=G.grow N1.st;refine bU (zy G1.gr.top) fun A h2 N2=>?_;walk_at "";refine bU (mZ (jh N2.hold) ba (by rw[gP,aG];exact cw (wb (b:=0) (aB (Nat.min_le_right ..) (hrl▸hgz)) (by decide)) (by decide))) fun A3 h3 N3=>?_;walk_at "";have st3:=(N2.st.app).trans0 N3.st;have G3:=G1.grow st3;refine bU (wi (i:=i+2) G3.gr.top) fun A4 h4 N4=>?_;walk_at "";refine bU (mZ (aH N4.st N3.hold) N4.hold (by rw[bG,gP,hZ,aG];exact cw (wb (aB (Nat.min_le_right ..) (hrl▸hgz)) (aB (Nat.sub_le ..) (hrl▸hgz))) (by decide))) fun A5 h5 N5=>?_;have st5:=N4.st.trans0 N5.st;have T5:=T.grow (N1.st.trans0 (st3.trans0 st5));refine⟨gs.length-1,Nat.sub_lt (Nat.zero_lt_of_lt hi) (by decide),.mk cl' _ bs (rs.take i++M::rs.drop (i+2)) _ (gs.take i++(a++ks)::gs.drop (i+2)) _ _ _ _ ?_ hcl' T5 ⟨?_,?_⟩ I3⟩
   ·rw[bG,gP,eU,hZ];exact oq hi
   ·refine(G3.gr.grow st5).merge hi ?_ ?_
    ·rw[du];exact aH (st3.trans0 st5) N1.hold
    ·rw[N5.hold,du,er,List.map_take,List.map_drop,eH];rfl
   ·have big:∀{x:Nat},H2.length<=x->x∉f::dn::rd::bs:=fun hx hm=>Nat.not_lt.mpr hx (T.build.below _ hm);intro r hr;rcases bc.mp hr with rfl |hr
    ·exact big (aB N1.st.len (aB st3.len (aB N4.st.len N5.lo)))
    ·rcases cE.mp hr with hr |hr
     ·exact G.apart r (a9 _ (List.mem_of_mem_take hr))
     ·rcases bc.mp hr with rfl |hr
      ·exact big N1.lo
      ·exact G.apart r (a9 _ (List.mem_of_mem_drop hr))
 ·have h1:gs.length<=1:=eP fun h=>h1 (bW.mpr h);obtain⟨F1,⟨js,L⟩,F3⟩:=I.fin h1 (aN _);exact pk PP T L hn (aB (Nat.add_le_add_right (fM ..) _) (aB I.lay (aB (Nat.add_le_add_right hn 3) (by decide)))) F3 fun a bs' H' l' N st fr nd=>hq a bs' H' l' _ F1 N st fr nd
variable {E:XPost}
section
variable {ok:Hp->Prop}
def Be{v:V}(hi:i<l.length):(l.set i (some v)).getD i none=some v:=by
 rw[ck,iz hi];rfl
def II(hi:i<l.length)(hok:∀H',aa [] H H'->ok H')(hq:∀cs H',Rows H H' cs (xs.map fun x=>[nat x])->Q (cs.map .lst) H') :
  gW ok (nz (fun l' Q H=>Q true H) (fun l' Q H=>ae (l'.getD i none) fun v=>Q (.lst H.length) (H++[[v]])) (.one i) l) (xs.map nat) [] Q H:=by
 refine zO (xs.map fun x=>[nat x]) (by rw[aG,aG]) ?_ hok hq;intro j x y acc H' K hx hy st hK;rw[bL] at hx hy;revert hx;refine xM fun z hz wj=>?_;subst wj;rw[hz] at hy;obtain rfl:=ah hy;walk_at "";exact ae.mk (Be hi) (hK _ _ aa.refl.app ba (aN _))
def IB(hi:i<l.length)(wq:rs.length=ys.length)(hr:∀(i b:Nat)(y:List V),rs[i]?=some b->ys[i]?=some y->H[b]?=some y)(hok:∀H',aa [] H H'->ok H')(hq:∀cs H',Rows H H' cs ys->Q (cs.map .lst) H') :
  gW ok (nz (fun l' Q H=>Q true H) (fun l' Q H=>ae (l'.getD i none) fun v=>ae (bF H .list [v]) fun p=>Q p.1 p.2) (.one i) l) (rs.map .lst) [] Q H:=by
 refine zO ys (by rw[aG];exact wq) ?_ hok hq;intro j x y acc H' K hx hy st hK;rw[bL] at hx;revert hx;refine xM fun b hb wj=>?_;subst wj;walk_at "";exact ae.mk (Be hi) (ae.mk (vE (aH st (hr j b y hb hy))) (hK _ _ aa.refl.app ba (aN _)))
def Rows.grat(R:Rows H H' cs (gs.map fun y=>y.map nat)):cQ (H'++[cs.map .lst]) H'.length cs gs:=
 ⟨ba,R.len.trans (aG ..),fun i b y h1 h2=>jh (R.hold i b _ h1 (by rw[bL,h2];rfl))⟩
def nP:(xs.map fun x=>[nat x])=(xs.map fun x=>[x]).map fun y=>y.map nat:=by rw[ib];rfl
def Rows.top(R:Rows H H' cs ys):∀b∈H'.length::cs,H.length<=b:=eD.mpr ⟨R.st.len,fun b hb=>(R.fr b hb).1⟩
end
section
variable {E:SX}
def oz(PP:aK c "_law_place" 5 6 pz)(hn:n<=64)(hcl:0<=cl)(T:aW H0 H f dn rd lf bs s left)(ha:H[la]?=some (act.map nat))(I:aU n 3 s left act) (hq:∀a bs' H' l' net,fH n net->aj H' a bs' net->aa [] H0 H'->(∀b∈a::bs',H0.length<=b)->(a::bs').Nodup->R (.ret (.lst a)) l' H') :
  az (Calls c) true (d+1) none zj R E [some (.int cl),l1,some (.lst f),some (.lst lf),some (.lst dn),some (.lst rd),some (.lst la),l7,l8,l9,l10,l11,l12,l13,l14,l15] H:=by
 have hal:=I.len;refine Ss_go ?_;walk_at "";refine ae.mk (uO ha) ⟨gf (by rw[aG];exact b0 (aB (fM ..) (aB hal hn)) (by decide)),?_⟩;refine II (Nat.le_of_ble_eq_true rfl) (fun H' st=>aH st ha) fun rs H' RR=>?_;rw[nP] at RR;refine pD PP hn hcl (T.grow RR.st.app) ⟨RR.grat,fun r hr hm=>?_⟩ (dr.of I) hq;exact Nat.not_lt.mpr (RR.top r hr) (T.build.below r hm)
def aU.mono(I:aU n t s left act)(h:t<=t'):aU n t' s left act:={ I with lay:=aB I.lay h }
def nX(H0:Hp)(f dn rd lf n:Nat)(cl:Int)(l1 l8 l9 l10 l11 l12 l13 l14 l15:Option V)(i:Nat)(x0:Loc)(H:Hp):Prop:=∀GJ:Prop,(∀(v7:Option V),∀(la:Nat),∀(bs:List Nat),∀(s:PS),∀(left:List (Nat×Nat)),∀(act:List Nat),aW H0 H f dn rd lf bs s left->(H[la]?=some (act.map nat))->la∉f::dn::rd::bs->la≠lf->aU n i s left act->[some (.int cl),l1,some (.lst f),some (.lst lf),some (.lst dn),some (.lst rd),some (.lst la),v7,l8,l9,l10,l11,l12,l13,l14,l15]=x0->GJ)->GJ
def oU(PT:aK c "_law_thinner" 6 8 Aw)(PP:aK c "_law_place" 5 6 pz)(hn:n<=64)(hcl:0<=cl)(T:aW H0 H f dn rd lf bs s left)(ha:H[la]?=some (act.map nat))(nla:la∉f::dn::rd::bs)(hal:la≠lf)(I:aU n 0 s left act) (hq:∀a bs' H' l' net,fH n net->aj H' a bs' net->aa [] H0 H'->(∀b∈a::bs',H0.length<=b)->(a::bs').Nodup->R (.ret (.lst a)) l' H') :
  az (Calls c) true (d+2) none telT R E [some (.int cl),l1,some (.lst f),some (.lst lf),some (.lst dn),some (.lst rd),some (.lst la),l7,l8,l9,l10,l11,l12,l13,l14,l15] H:=by
 refine Ss_go ?_;walk_at "";obtain⟨t,ht,ht3⟩:∃t:Nat,cl%4=t/\t<=3:=⟨(cl%4).toNat,(Int.toNat_of_nonneg (Int.emod_nonneg _ (by decide))).symm,Int.toNat_le.mpr (Int.le_of_lt_add_one (Int.emod_lt_of_pos _ (by decide)))⟩;refine⟨rfl,lT (v:=.rng 0 t 1) (items:=(List.range t).map nat) (fun K E' h=>by walk_at "";refine cL (by decide) ?_;walk_at "";rw[ht];exact ae.mk (j8 (b0 ht3 (by decide))) h) (congrArg some (vM t)) ?_⟩;refine xH (nX H0 f dn rd lf n cl l1 l8 l9 l10 l11 l12 l13 l14 l15) ?_ ?_ (fun Z kJ=>kJ _ la bs s left act T ha nla hal I rfl)
 ·clear T ha nla hal I;intro i x l' H' K hx hI hnext hret;refine hI _ fun v7 la bs s left act T ha nla hal I wg=>?_;clear hI;subst wg;have hit:=eB hx;rw[aG,dj] at hit;rw[bL,mO hit] at hx;obtain rfl:=ah hx;unfold nat;walk_at "";refine gA (by decide) ?_;walk_at "";refine gA zf ?_;walk_at "";obtain⟨js,B,L,_⟩:=I.ex;have hln:=I.len;have hly:=I.lay;have st:=I.thin (fh (cl/4/(1+(i:Int))));refine JS PT PP T.build L hn ha T.hleft nla T.nlf hal st.2 (aB (fM ..) (aB hln hn)) (aB (gk (Nat.add_comm ..)) (aB hln (aB hn (by decide)))) (aB hly (aB (bY hit) (aB ht3 (by decide)))) rfl fun bs' H'' fw K'=>?_;exact hnext _ _ trivial (fun Z kJ=>kJ _ fw bs' _ _ _ (T.thin K') K'.hfw K'.nfw (cS K'.d3) st.1 rfl)
 ·clear T ha nla hal I;intro l' H' hI;refine hI _ fun v7 la bs s left act T ha nla hal I wg=>?_;clear hI;subst wg;rw[aG,dj] at I;exact oz (d:=d+1) PP hn hcl T ha (I.mono ht3) hq
end
section
variable {Q:V->Hp->Prop}
def Jo(P:aK c "_law_telling" 2 16 AW)(PT:aK c "_law_thinner" 6 8 Aw)(PP:aK c "_law_place" 5 6 pz){cell:Int}(hn1:1<=n)(hn:n<=64)(hc:q=true) (hq:∀a bs net H',fH n net->aj H' a bs net->aa [] H H'->(∀b∈a::bs,H.length<=b)->(a::bs).Nodup->Q (.lst a) H') :
  Calls c q (d+3) "_law_telling" [.int cell,.int n] none Q E H:=by
 subst hc;refine P true (d+2) _ Q E H rfl ?_;rw[uk];refine Ss_go ?_;walk_at "";refine gZ (by decide) ?_;walk_at "";refine cL (by decide) ?_;have hcl:0<=cell*48271%2147483647:=Int.emod_nonneg _ (by decide);walk_at "";generalize cell*48271%2147483647=cl at hcl;refine bU (mul_zero ba (b0 hn (by decide))) fun dn H1 N1=>?_;walk_at "";refine bU (mul_zero ba (b0 hn (by decide))) fun rd H2 N2=>?_;walk_at "";refine ae.mk (j8 (b0 hn (by decide))) ?_;walk_at "";refine bU (Bz (b0 hn (by decide))) fun la H3 N3=>?_;have a1:aa [] (H++[[]]) H1:=aa.refl.app.app.trans0 N1.st;have a2:aa [] H1 H3:=aa.refl.app.trans0 (N2.st.trans0 N3.st);have b1:=(aa.refl (S:=[]) (H:=H)).app (xs:=[]);have g1:H.length<(H++[[]]).length:=dG ba;have g2:(H++[[]]).length<(H++[[]]++[[]]).length:=dG ba;have g3:(H++[[]]).length<dn:=dg g2 (aB (aa.refl (S:=[])).app.len N1.lo);have g4:dn<rd:=dg (dG N1.hold) (aB (aa.refl (S:=[])).app.len N2.lo);have g5:rd<la:=dg (dG N2.hold) N3.lo;have T:aW H H3 H.length dn rd (H++[[]]).length [] (PS.init n) []:=
  ⟨⟨aH (a1.trans0 a2) ba,rfl,(fun Z Z Z h=>nomatch h),aH a2 N1.hold,aH N3.st N2.hold,
   ⟨by exact aA [_,_,_] [] kal (Y8 (Y2 V0 V1) J0) (Y1 V0 V2) (Y1 V2 V1) g1 g3,by exact bC [_,_,_,_] [] 0x4294a5000610080308060184040102000000 (Y8 (Y2 V0 V1) J0) (Y1 V0 V2) (Y1 V2 V3) (Y1 V3 V1) g1 g3 g4,gq,by exact aw [_,_] [] 0x429400184020102000000 (Y8 (Y2 V0 V1) J0) (Y1 V0 V1) g4,gq,gq,List.nodup_nil⟩⟩,
   aH a2 (aH (aa.refl.app.trans0 N1.st) ba),tm (by exact aw [_,_] [] 0x4294001840200c2000000 (Y8 (Y2 V0 V1) J0) (Y1 V1 V0) g1) (by exact aw [_,_] [] 0x429400184020102000000 (Y8 (Y2 V0 V1) J0) (Y1 V0 V1) g3) (by exact aA [_,_,_] [] kal (Y8 (Y2 V0 V1) J0) (Y1 V0 V2) (Y1 V2 V1) g3 g4) gq,b1.trans0 (a1.trans0 a2),qB (aN _) (by exact aA [_,_,_] [] kab (Y0 V0 V1) (Y1 V0 V2) (Y1 V2 V1) g1 g3) (by exact bC [_,_,_,_] [] kak (Y0 V0 V1) (Y1 V0 V2) (Y1 V2 V3) (Y1 V3 V1) g1 g3 g4) (fun Z h=>nomatch h),by exact aw [_,_] [] kaa (Y0 V0 V1) (Y1 V0 V1) g1⟩
 exact oU (d:=d) PT PP hn hcl T N3.hold (tm (by exact iZ [_,_,_,_,_] [] 0x10a5294a000c201006100c03080801840500c2000000 (Y8 (Y2 V0 V1) J0) (Y1 V1 V2) (Y1 V2 V3) (Y1 V3 V4) (Y1 V4 V0) g1 g3 g4 g5) (by exact aA [_,_,_] [] 0x10a528003080401840300c2000000 (Y8 (Y2 V0 V1) J0) (Y1 V1 V2) (Y1 V2 V0) g4 g5) (by exact aw [_,_] [] 0x4294001840200c2000000 (Y8 (Y2 V0 V1) J0) (Y1 V1 V0) g5) gq) (by exact bC [_,_,_,_] [] 0x4294a50006100803080601840400c2000000 (Y8 (Y2 V0 V1) J0) (Y1 V1 V2) (Y1 V2 V3) (Y1 V3 V0) g3 g4 g5) (aU.init n) fun a bs' H' l' net Tn N s2 fr nd=>hq a bs' net H' Tn N s2 fr nd
end
variable {Q:V->Hp->Prop}{f:Nat->V}{gs:Net}{s:Str}{t:Tg}{xs:List V}
def EM(f:α->α->α){l:Nat}(hn:((y++[(l,h)]).map (·.2)).Nodup)(σ:Nat->α):bx f (y++[(l,h)]) σ=fun x=>if x=h then f (σ l) (σ h) else bx f y σ x:=by
 funext x;rw[du,List.nodup_append] at hn;have hnh:∀p∈y,p.2≠h:=fun p hp e=>hn.2.2 p.2 (List.mem_map.mpr ⟨p,hp,rfl⟩) h aL e;unfold bx;rw[List.find?_append];by_cases e:x=h
 ·subst e;rw[List.find?_eq_none.mpr fun p hp q=>hnh p hp (beq_iff_eq.mp q),if_pos rfl,List.find?_cons_of_pos (p:=fun p:Nat×Nat=>p.2==x) (a:=(l,x)) (beq_iff_eq.mpr rfl)];rfl
 ·rw[if_neg e,List.find?_cons_of_neg (p:=fun p:Nat×Nat=>p.2==x) (a:=(l,h)) (fun q=>e (beq_iff_eq.mp q).symm)];cases y.find? (fun p=>p.2==x)<;>rfl
def aj.stay{net:Net}(N:aj H a bs net)(st:aa S H H')(h:∀b∈a::bs,b∉S):aj H' a bs net:=
 ⟨st.at N.top (h a aL),N.len,fun i b y h1 h2=>st.at (N.lay i b y h1 h2) (h b (a9 _ (cD h1)))⟩
def aj.grow{net:Net}(N:aj H a bs net)(st:aa [] H H'):aj H' a bs net:=N.stay st fun Z Z=>gq
inductive qX(H:Hp)(a i:Nat)(bs:List Nat)(y:List (Nat×Nat)):Prop
 |mk (b:Nat)(hb:bs[i]?=some b)(hold:H[b]?=some (y.map pr))(ix:bO H (.lst a) (.int i)=some (.lst b)):qX H a i bs y
def aj.at{net:Net}(N:aj H a bs net)(h:net[i]?=some y):qX H a i bs y:=
 have hr:=bp (show i<bs.length from N.len▸eB h)
 ⟨_,hr,N.lay i _ y hr h,dP N.top (xR hr)⟩
def aj.get{net:Net}(N:aj H a bs net)(h:bs[i]?=some b):∃y,net[i]?=some y/\H[b]?=some (y.map pr):=
 have hr:=bp (show i<net.length from N.len▸eB h)
 ⟨_,hr,N.lay i _ _ h hr⟩
def yk:fj true (ff H (.rng 0 n 1))=some ((List.range n).map nat):=congrArg some (vM n)
noncomputable def c6(n:Nat)(σ:Nat->Nat):List Nat:=(List.range n).map σ
def wh:(c6 n σ).length=n:=by rw[c6,aG,dj]
def zM(h:x<n):(c6 n σ)[x]?=some (σ x):=by
 rw[c6,bL,mO h];rfl
def kD{v:Nat}:(c6 n σ).set h v=c6 n (fun x=>if x=h then v else σ x):=by
 apply List.ext_getElem?;intro i;by_cases hi:i<n
 ·rw[zM hi];by_cases e:i=h
  ·subst e;rw[iz (by rw[wh];exact hi),if_pos rfl]
  ·rw[iF (cS e),zM hi,if_neg e]
 ·have hi:=eP hi;rw[iP (by rw[fW,wh];exact hi),iP (by rw[wh];exact hi)]
theorem F4:bZ (y::r) B=if iV B y then bZ r (bx (fun l Z=>l) y B) else none:=rfl
def Hv {net:Net} (h:bZ (net.take i) id=some B) (hy:net[i]?=some y) (hn:iV B y=false):bZ net id=none:=by
 rw[DM hy,eH,se,h];refine(F4 (y:=y)).trans ?_;rw[hn];rfl
def Jt{net:Net}(h:bZ (net.take i) id=some B)(hy:net[i]?=some y)(hn:iV B y=true):bZ (net.take (i+1)) id=some (bx (fun l Z=>l) y B):=by
 rw[List.take_add_one,hy,se,h];refine(F4 (y:=y)).trans ?_;rw[hn];rfl
def tF(H:Hp)(n a:Nat)(net:Net)(i:Nat)(x1:Loc)(H':Hp):Prop:=∀GJ:Prop,(∀(v3 v4 v5 v6:Option V)(g:Nat)(B:Nat->Nat),H'[g]?=some ((c6 n B).map nat)->bZ (net.take i) id=some B->aa [] H H'->[some (.int n),some (.lst a),some (.lst g),v3,v4,v5,v6,none]=x1->GJ)->GJ
def uj(H:Hp)(n a b g g':Nat)(B:Nat->Nat)(y r:List (Nat×Nat))(x1:Loc)(H':Hp):Prop:=∀GJ:Prop,(∀(ks:List (Nat×Nat))(v5 v6:Option V),ks++r=y->H'[g]?=some ((c6 n B).map nat)->H'[g']?=some ((c6 n (bx (fun l Z=>l) ks B)).map nat)->iV B ks=true->aa [] H H'->[some (.int n),some (.lst a),some (.lst g),some (.lst b),some (.lst g'),v5,v6,none]=x1->GJ)->GJ
theorem FX{f:α->Bool}:∀zs:List α,gu (zs.map fun x=>V.bool (f x))=some (zs.map f)
 |[]=>rfl
 |z::r=>by
  show(gu (r.map fun x=>V.bool (f x))).map _=_;rw[FX r];rfl
def vI{f:α->Bool}{zs:List α}(h:H[a]?=some (zs.map fun x=>V.bool (f x))):fj true (bF H .all [.lst a])=some (.bool (zs.all f),H):=by
 show(H[a]?).bind _=_;rw[h];show(gu (zs.map fun x=>V.bool (f x))).map _=_;rw[FX];show some (V.bool ((zs.map f).all id),H)=_;rw[List.all_map];rfl
def JI(P:aK c "does_tell" 2 8 DS){net:Net}(A:aj H a bs net)(hn:n<=64)(hf:eg n net)(hc:q=true) (hq:∀H',aa [] H H'->Q (.bool (c9 n net)) H'):Calls c q (d+1) "does_tell" [.int n,.lst a] none Q E H:=by
 subst hc;refine P true d _ Q E H rfl (Ss_go ?_);walk_at "";refine ae.mk (j8 (b0 hn (by decide))) ?_;walk_at "";refine bU (Bz (b0 hn (by decide))) fun g H1 N1=>?_;walk_at "";refine⟨rfl,lT (v:=.lst a) (fun K E' h=>h) (aH N1.st A.top) ?_⟩;refine xH (tF H n a net) ?_ ?_ (fun Z kJ=>kJ _ _ _ _ g id (by rw[c6,List.map_id];exact N1.hold) rfl N1.st rfl)
 ·clear N1;intro i x l' H' K hx hI hnext hret;refine hI _ fun v3 v4 v5 v6 g B hg ht st wg=>?_;clear hI;subst wg;rw[bL] at hx;revert hx;refine xM fun b hb wj=>?_;subst wj;obtain⟨y,hy,hby⟩:=(A.grow st).get hb;have hfy:=hf y (cD hy);walk_at "";refine bU (vE hg) fun g' H'' N=>?_;walk_at "";have hgg:g≠g':=cj (dg (dG hg) N.lo);have hgl:H.length<=g':=aB st.len N.lo;refine⟨rfl,lT (v:=.lst b) (fun K E' h=>h) (aH N.st hby) ?_⟩;refine vp (uj H n a b g g' B y) ?_ ?_ (fun Z kJ=>kJ [] _ _ rfl (aH N.st hg) N.hold rfl (st.trans0 N.st) rfl)
  ·clear N hg st hby;intro p r l' H2 K2 hI hnext2 hret2;refine hI _ fun ks v5 v6 he g1 g2 hl st wg=>?_;clear hI;subst wg;obtain⟨pl,ph⟩:=p;have hpy:(pl,ph)∈y:=by rw[<- he];exact kE _ aL
   have hpm:=hfy.1 _ hpy;have he':(ks++[(pl,ph)])++r=y:=by rw[eH];exact he
   have hnd:=hfy.2;rw[<- he',du] at hnd;have hnd:=(List.nodup_append.mp hnd).1;refine ae.mk rfl (Ss_go ?_);walk_at "";refine ae.mk (jk g1 (zM hpm.2)) ?_;walk_at "";refine wB (fun hne=>?_) (fun heq=>?_)
   ·have hne:¬pl+1=B ph:=fun e=>hne (Int.ofNat_inj.mpr e);refine Ss_go ?_;walk_at "";refine hret2 _ _ _ (hret _ _ _ ?_);have hly:iV B y=false:=Bool.eq_false_iff.mpr fun e=>hne (aP.mp e _ hpy);have:=hq H2 st;unfold c9 at this;rw[Hv ht hy hly] at this;exact this
   ·have heq:pl+1=B ph:=Int.ofNat_inj.mp heq;walk_at "";refine ae.mk (jk g1 (zM (cw hpm.1 hpm.2))) ?_;walk_at "";refine ae.mk (Bq g2 (by rw[wh];exact hpm.2)) ?_;have st3:=st.set (a:=g') (xs:=((c6 n (bx (fun l Z=>l) ks B)).set ph (B pl)).map nat) (.inr hgl);refine hnext2 _ _ ((A.grow st3).lay i b y hb hy) (fun Z kJ=>kJ (ks++[(pl,ph)]) _ _ he' (fq g1 hgg) ?_ ?_ st3 rfl)
    ·rw[qd g2,EM _ hnd,kD]
    ·refine aP.mpr fun p hp=>(cE.mp hp).elim (aP.mp hl p) fun h=>?_;rw[aV.mp h];exact heq
  ·clear N hg st hby;intro l' H2 hI;refine hI _ fun ks v5 v6 he g1 g2 hl st wg=>?_;clear hI;subst wg;rw[fA] at he;subst he;refine Then_go (Ss_go ?_);walk_at "";exact hnext _ _ (A.grow st).top (fun Z kJ=>kJ _ _ _ _ _ _ g2 (Jt ht hy hl) st rfl)
 ·clear N1;intro l' H' hI;refine hI _ fun v3 v4 v5 v6 g B hg ht st wg=>?_;clear hI;subst wg;rw[aG,A.len,List.take_length] at ht;refine Then_go (Ss_go ?_);walk_at "";refine ae.mk (uO hg) ⟨gf (by rw[aG,wh];exact b0 hn (by decide)),?_⟩;refine wV (I:=fun j acc H2=>H2=H'/\acc=((c6 n B).take j).map fun x=>V.bool (decide (x=0))) ?_ ?_ ⟨rfl,rfl⟩
  ·rintro j x acc H2 K hx ⟨rfl,rfl⟩ hK;rw[bL] at hx;revert hx;refine xM fun z hz wj=>?_;subst wj;unfold nat;walk_at "";refine hK _ _ hg ⟨rfl,?_⟩;rw[List.take_add_one,hz,du];exact congrArg (fun b=>List.map _ _++[V.bool b]) (wJ (a:=z) (b:=0))
  ·rintro acc H2 ⟨rfl,rfl⟩;rw[aG,List.take_length];refine ae.mk (vI ba) ?_;have e:c9 n net=(c6 n B).all fun x=>decide (x=0):=by
    unfold c9 c6;rw[ht,List.all_map];rfl
   rw[<- e];exact hq _ st.app
variable {r:List Nat}{x y:Net}
section
variable {ok:Hp->Prop}{Q:List V->Hp->Prop}
def GP(G:aj H g rs gs)(hi:i<l.length)(hok:∀H',aa [] H H'->ok H')(hq:∀cs H',Rows H H' cs (gs.map fun y=>y.map pr)->Q (cs.map .lst) H') :
  gW ok (nz (fun l' Q H=>Q true H) (fun l' Q H=>ae (l'.getD i none) fun v=>ae (bF H .list [v]) fun p=>Q p.1 p.2) (.one i) l) (rs.map .lst) [] Q H:=by
 refine IB hi (by rw[aG];exact G.len) (fun j b y h1 h2=>?_) hok hq;rw[bL] at h2;revert h2;refine xM fun z hz wj=>?_;subst wj;exact G.lay j b z h1 hz
def nJ{W:Loc->(V->Hp->Prop)->Hp->Prop}{f g:α->V}{xs:List α}(hok:ok H)(he:∀x∈xs,∀K:V->Hp->Prop,K (g x) H->ae (fX t (f x) l) fun l'=>W l' K H)(hq:Q (xs.map g) H) :
  gW ok (nz (fun l' Q H=>Q true H) W t l) (xs.map f) [] Q H:=by
 refine wV (I:=fun j acc H2=>H2=H/\acc=(xs.take j).map g) ?_ ?_ ⟨rfl,rfl⟩
 ·rintro j x acc H2 K hx ⟨rfl,rfl⟩ hK;rw[bL] at hx;revert hx;refine xM fun z hz wj=>?_;subst wj;refine he z (cD hz) _ (hK _ _ hok ⟨rfl,?_⟩);rw[List.take_add_one,hz,du];rfl
 ·rintro acc H2 ⟨rfl,rfl⟩;rw[aG,List.take_length];exact hq
end
def fE(hb:0<b)(h:K (.int (a%b:Nat),H)):ae (bI H .mod (.int a) (.int b)) K:=cL (bW.mpr hb) (Int.natCast_emod a b▸h)
def ij(hb:0<b)(h:K (.int (a/b:Nat),H)):ae (bI H .div (.int a) (.int b)) K:=gA (bW.mpr hb) (Int.natCast_ediv a b▸h)
def aj.ofz{zs:List (Nat×List (Nat×Nat))}(top:H[a]?=some ((zs.map (·.1)).map V.lst))(h:∀p∈zs,H[p.1]?=some (p.2.map pr)):aj H a (zs.map (·.1)) (zs.map (·.2)):=by
 refine⟨top,by rw[aG,aG],fun i b y h1 h2=>?_⟩;rw[bL] at h1 h2;revert h1;refine xM fun p hp wj=>?_;subst wj;rw[hp] at h2;obtain rfl:=ah h2;exact h p (cD hp)
theorem aj.zs{net:Net}(N:aj H a bs net):∃zs:List (Nat×List (Nat×Nat)),zs.map (·.1)=bs/\zs.map (·.2)=net/\∀p∈zs,H[p.1]?=some (p.2.map pr):=by
 refine⟨bs.zip net,List.map_fst_zip (gk N.len),List.map_snd_zip (gk N.len.symm),fun p hp=>?_⟩;obtain⟨i,hi⟩:=rg.mp hp;have h1:=List.getElem?_zip_eq_some.mp hi;exact N.lay i p.1 p.2 h1.1 h1.2
def aj.append{a':Nat}(N:aj H a bs x)(M:aj H b cs y)(top:H[a']?=some (bs.map V.lst++cs.map .lst)):aj H a' (bs++cs) (x++y):=by
 obtain⟨zs,z1,z2,z3⟩:=N.zs;obtain⟨ws,w1,w2,w3⟩:=M.zs;have:aj H a' ((zs++ws).map (·.1)) ((zs++ws).map (·.2)):=by
  refine aj.ofz ?_ fun p hp=>(cE.mp hp).elim (z3 p) (w3 p);rw[top,<-z1,<-w1,du,du]
 rw[du,du,z1,z2,w1,w2] at this;exact this
def jQ:((gv (h,ls)).map fun y=>y.map pr)=ls.map fun x=>[pr (x,h)]:=by rw[gv,ib];rfl
def Jk {ok:Hp->Prop} {Q:List V->Hp->Prop} (hi:i<l.length) (hij:j≠i) (hj:l.getD j none=some (.int h)) (hok:∀H',aa [] H H'->ok H') (hq:∀cs H',Rows H H' cs ((gv (h,ls)).map fun y=>y.map pr)->Q (cs.map .lst) H') :
  gW ok (nz (fun l' Q H=>Q true H) (fun l' Q H=>ae (l'.getD i none) fun v=>ae (l'.getD j none) fun w=>Q (.lst H.length) (H++[[.tup [v,w]]])) (.one i) l) (ls.map nat) [] Q H:=by
 rw[jQ] at hq;refine zO (ls.map fun x=>[pr (x,h)]) (by rw[aG,aG]) ?_ hok hq;intro k x y acc H' K hx hy st hK;rw[bL] at hx hy;revert hx;refine xM fun z hz wj=>?_;subst wj;rw[hz] at hy;obtain rfl:=ah hy;walk_at "";refine ae.mk (Be hi) (ae.mk (a:=.int h) ?_ (hK _ _ aa.refl.app ba (aN _)));rw[ck,iF (cS hij),<-ck];exact hj
def BK(h:H[a]?=some xs):pe H (.lst a)=some (.lst H.length,H++[xs.reverse]):=by
 show(H[a]?).map _=_;rw[h];rfl
structure cJ(n k:Nat)(bl:List (Nat×List Nat)):Prop where
 len:bl.length=k
 at':∀(i:Nat) (p:Nat×List Nat),bl[i]?=some p->p.1+i+1=n/\p.2.length=p.1/\∀l∈p.2,l<p.1
 tot:(bl.flatMap gv).length+tri (n-1-k)=tri (n-1)
def cJ.ok(B:cJ n k bl)(hn:n<=12):fL n (bl.flatMap gv):=by
 refine⟨by have:=B.tot;have:=C2 (n-1) (by exact aw [_] [] kbb (Y0 (Y2 V0 J1) (.l 11)) (Y0 V0 (.l 12)) hn);exact aA [_,_,_] [] kaf (Y0 V0 (.l 80)) (Y0 V1 (.l 66)) (Y2 (Y0 V0 V2) V1) this (by assumption),fun y hy=>?_⟩;obtain⟨p,hp,hy⟩:=List.mem_flatMap.mp hy;revert hy;refine xL fun l hl wj=>?_;subst wj;obtain⟨i,hi⟩:=rg.mp hp;obtain⟨h1,h2,h3⟩:=B.at' i p hi;exact sC (h3 l hl) (by exact aw [_,_,_] [] kaa (Y1 V0 V1) (Y2 (Y0 (Y0 V0 V2) J1) V1) h1)
def CU:[p].flatMap gv=gv p:=by rw[List.flatMap_cons,List.flatMap_nil,fA]
def cJ.snoc(B:cJ n k bl)(hk:k<n-1)(hh:n-1-k=h)(hl:ls.length=h)(hls:∀x∈ls,x<h):cJ n (k+1) (bl++[(h,ls)]):=by
 refine⟨by rw[bG,B.len];rfl,fun i p hp=>?_,?_⟩
 ·rcases tL hp with hp |⟨e,rfl⟩
  ·exact B.at' i p hp
  ·have:=B.len;exact⟨by show h+i+1=n;exact iZ [_,_,_,_,_] [] 0x1868214a000c20400610040000d04294001840c00c2000000294a5294002040b00c206006103403081001840400c20000a309420104a100823194a5294a000c204808102804081601840600c202006100405184a10082508041 (Y2 (Y0 (Y0 V0 V1) J1) V2) (Y1 V3 (Y2 V2 J1)) (Y2 (Y2 (Y2 V2 J1) V3) V0) (Y2 V1 V4) (Y2 V4 V3) hk hh e this,hl,hls⟩
 ·have:=B.tot;rw[List.flatMap_append,bG,CU,gv,aG,hl];rw[show n-1-k=(n-1-(k+1))+1 by exact aw [_,_] [] 0x30d04294001840800c2000000194a50006101c03080601840101461004250800128425080011a064294a50006102c03081201840300c20080602842508001194a50006101c0308060184010142128400094610042508001 (Y2 (Y2 (Y2 V0 J1) V1) (Y0 (Y2 (Y2 V0 J1) (Y0 V1 J1)) J1)) (Y1 V1 (Y2 V0 J1)) hk,j5] at this;exact bC [_,_,_,_,_,_] [] 0x30d04294001840800c2000000194a5294002040a00c205806101c0308060184010146101025080a129025080a11a064294a5294001840b00c206008103403081201840300c200806029025080a1194a5294001840a010205806101c03080601840101481284050946101025080a1 (Y2 (Y0 (Y0 V0 V1) V2) V3) (Y1 V4 (Y2 V5 J1)) (Y2 (Y2 (Y2 V5 J1) V4) V1) (Y2 (Y0 V0 (Y0 (Y0 (Y2 (Y2 V5 J1) (Y0 V4 J1)) J1) V2)) V3) hk hh this
variable {b p:Str}{k:cZ}{x:V}
section
variable {E:SX}
end
variable {R:Hp->V->Prop}
noncomputable def Fk:List St:=[.ret (.and [.isi (.wx 0) .str,.cmp (.blt .len [.wx 0]) [.le] [.ww 1000],.blt .all [.comp (.cmp (.wx 1) [.isIn] [.lit (.str "abcdefghijklmnopqrstuvwxyz")]) (.one 1) (.wx 0) []]])]
noncomputable def EN:List St:=[.ite (.or [.not (.isi (.wx 0) .tuple),.not (.cmp (.ww 1) [.le,.le] [.blt .len [.wx 0],.ww 8])]) [.ret (.lit (.bool false))] [],.ret (.blt .all [.comp (.call "is_among" [.wx 1,.ww 0,.bin .sub (.blt .len [.wx 0]) (.ww 1)]) (.one 1) (.wx 0) []])]
noncomputable def DV:List St:=[.ret (.and [.isi (.wx 0) .tuple,.cmp (.blt .len [.wx 0]) [.eq] [.ww 2],.blt .all [.comp (.call "is_among" [.wx 1,.ww 0,.bin .sub (.ww 1000003) (.ww 1)]) (.one 1) (.wx 0) []]])]
noncomputable def CC:List St:=[.ite (.or [.not (.isi (.wx 0) .str),.cmp (.wx 0) [.notIn] [.lit (.tup [.str "sum",.str "most",.str "text",.str "map",.str "step"])]]) [.rais "BadKind" [.lit (.str "no kind")]] []]
noncomputable def Jc:List St:=[.ite (.cmp (.wx 0) [.eq] [.lit (.str "text")]) [.ret (.call "is_text" [.wx 1])] [],.ite (.cmp (.wx 0) [.eq] [.lit (.str "map")]) [.ret (.call "is_map" [.wx 1])] [],.ite (.cmp (.wx 0) [.eq] [.lit (.str "step")]) [.ret (.call "is_step" [.wx 1])] [],.ret (.call "is_among" [.wx 1,.bin .sub (.ww 0) (.ww 1000000000000),.ww 1000000000000])]
noncomputable def J7:List St:=[.expr (.call "need_kind" [.wx 0]),.ite (.not (.call "is_thing" [.wx 0,.wx 1])) [.rais "BadThing" [.lit (.str "no thing of that kind")]] []]
noncomputable def Kr:List St:=[.ite (.and [.cmp (.wx 0) [.eq] [.lit (.str "map")],.not (.blt .all [.comp (.cmp (.blt .len [.wx 2]) [.eq] [.blt .len [.idx (.wx 1) (.ww 0)]]) (.one 2) (.wx 1) []])]) [.rais "BadThing" [.lit (.str "maps of unlike lengths")]] []]
noncomputable def HT:List St:=[.ite (.cmp (.wx 0) [.eq] [.lit (.str "most")]) [.ret (.blt .max [.wx 1,.wx 2])] [],.ite (.cmp (.wx 0) [.eq] [.lit (.str "map")]) [.ret (.blt .tuple [.comp (.idx (.wx 2) (.wx 3)) (.one 3) (.wx 1) []])] [],.ite (.cmp (.wx 0) [.eq] [.lit (.str "step")]) [.ret (.tup [.bin .mod (.bin .mul (.idx (.wx 1) (.ww 0)) (.idx (.wx 2) (.ww 0))) (.ww 1000003),.bin .mod (.bin .add (.bin .mul (.idx (.wx 1) (.ww 1)) (.idx (.wx 2) (.ww 0))) (.idx (.wx 2) (.ww 1))) (.ww 1000003)])] [],.ret (.bin .add (.wx 1) (.wx 2))]
noncomputable def Dy:List St:=[.ite (.cmp (.wx 0) [.eq] [.lit (.str "sum")]) [.ret (.bin .add (.wx 1) (.wx 2))] [],.ite (.cmp (.wx 0) [.eq] [.lit (.str "most")]) [.ret (.idx (.list [.wx 1,.wx 2]) (.blt .int [.cmp (.wx 2) [.gt] [.wx 1]]))] [],.ite (.cmp (.wx 0) [.eq] [.lit (.str "text")]) [.ret (.meth .join (.lit (.str "")) [.list [.wx 1,.wx 2]])] [],.ite (.cmp (.wx 0) [.eq] [.lit (.str "map")]) [.ret (.blt .tuple [.comp (.idx (.wx 2) (.idx (.wx 1) (.wx 3))) (.one 3) (.blt .range [.blt .len [.wx 1]]) []])] [],.ret (.tup [.bin .mod (.bin .mul (.idx (.wx 1) (.ww 0)) (.idx (.wx 2) (.ww 0))) (.ww 1000003),.bin .mod (.bin .add (.bin .mul (.idx (.wx 1) (.ww 1)) (.idx (.wx 2) (.ww 0))) (.idx (.wx 2) (.ww 1))) (.ww 1000003)])]
noncomputable def C5:List St:=[.ite (.isi (.wx 1) .tuple) [.ite (.or [.not (.isi (.wx 0) .tuple),.cmp (.blt .len [.wx 0]) [.ne] [.blt .len [.wx 1]]]) [.ret (.lit (.bool false))] [],.ret (.and [.blt .all [.comp (.call "_law_whole" [.wx 2]) (.one 2) (.wx 0) []],.cmp (.wx 0) [.eq] [.wx 1]])] [],.ite (.isi (.wx 1) .str) [.ret (.and [.isi (.wx 0) .str,.cmp (.wx 0) [.eq] [.wx 1]])] [],.ret (.and [.call "_law_whole" [.wx 0],.cmp (.wx 0) [.eq] [.wx 1]])]
noncomputable def rm:List St:=[.set 1 (.bin .mod (.bin .mul (.wx 1) (.ww 48271)) (.ww 2147483647)),.ite (.or [.cmp (.wx 0) [.eq] [.lit (.str "sum")],.cmp (.wx 0) [.eq] [.lit (.str "most")]]) [.ite (.cmp (.bin .mod (.wx 1) (.ww 4)) [.eq] [.ww 0]) [.ret (.idx (.list [.ww 1000000000000,.neg (.ww 1000000000000),.ww 0,.neg (.ww 1)]) (.bin .mod (.bin .div (.wx 1) (.ww 4)) (.ww 4)))] [],.ret (.idx (.list [.bin .sub (.bin .mod (.bin .div (.wx 1) (.ww 4)) (.ww 21)) (.ww 10),.bin .sub (.bin .mod (.bin .mul (.wx 1) (.ww 977)) (.ww 2000000000001)) (.ww 1000000000000)]) (.bin .mod (.bin .div (.wx 1) (.ww 4)) (.ww 2)))] [],.ite (.cmp (.wx 0) [.eq] [.lit (.str "text")]) [.set 3 (.lit (.str "abcdefghijklmnopqrstuvwxyz")),.ret (.meth .join (.lit (.str "")) [.comp (.idx (.wx 3) (.bin .mod (.bin .add (.bin .div (.wx 1) (.ww 7)) (.bin .mul (.wx 4) (.bin .add (.ww 1) (.bin .mod (.bin .div (.wx 1) (.ww 31)) (.ww 25))))) (.ww 26))) (.one 4) (.blt .range [.bin .mod (.wx 1) (.ww 7)]) []])] [],.ite (.cmp (.wx 0) [.eq] [.lit (.str "map")]) [.ret (.blt .tuple [.comp (.bin .mod (.bin .div (.wx 1) (.bin .add (.ww 1) (.bin .mul (.ww 7) (.wx 4)))) (.wx 2)) (.one 4) (.blt .range [.wx 2]) []])] [],.ret (.tup [.bin .mod (.wx 1) (.ww 1000003),.idx (.list [.bin .mod (.bin .div (.wx 1) (.ww 7)) (.ww 1000003),.ww 1000002,.ww 0]) (.bin .mod (.bin .div (.wx 1) (.ww 5)) (.ww 3))])]
inductive Kd |sum |most |text |map |step
 deriving DecidableEq
noncomputable def kS:Kd->Str
 |.sum=>"sum" |.most=>"most" |.text=>"text" |.map=>"map" |.step=>"step"
noncomputable def fg:Str:="abcdefghijklmnopqrstuvwxyz"
def mV{a:Str}(ha:fD a=true)(hb:fD b=true):fB H (.str a) (.str b)=some (decide (a=b)):=by
 refine(if_pos (show(fD a&&fD b)=true by rw[ha,hb];rfl)).trans ?_;show some (a==b)=_;congr 1
def rM(k:Kd):fD (kS k)=true:=by cases k<;>decide +kernel
def bE{k k':Kd}:dq H .eq (.str (kS k)) (.str (kS k'))=some (decide (k=k')):=by
 refine q6 ((mV (rM k) (rM k')).trans ?_);congr 1;refine decide_eq_decide.mpr ⟨fun h=>?_,fun h=>by rw[h]⟩;revert h;cases k<;>cases k'<;>decide +kernel
noncomputable def eW(lo hi:Int)(v:V):Bool:=match v with
 |.int i=>decide (lo<=i/\i<=hi)
 |_=>false
theorem vi(P:aK c "is_among" 3 3 rG){v:V}(hk:(kd v).isSome=true)(hq:Q (.bool (eW lo hi v)) H):Calls c q (d+1) "is_among" [v,.int lo,.int hi] none Q E H:=by
 refine P q d _ Q E H rfl (Ss_go ?_);walk_at "";cases v with
 |int i=>
  walk_at "";refine cN (fun h=>?_) (fun h=>?_)
  ·walk_at "";refine cast ?_ hq;show Q (.bool (decide (lo<=i/\i<=hi))) H=_;congr 2;exact decide_eq_decide.mpr ⟨fun h=>h.2,fun h2=>⟨h,h2⟩⟩
  ·walk_at "";refine cast ?_ hq;show Q (.bool (decide (lo<=i/\i<=hi))) H=_;rw[decide_eq_false (fun h2=>h h2.1)]
 |bool b=>walk_at "";exact hq
 |none=>walk_at "";exact hq
 |str s=>walk_at "";exact hq
 |tup l=>walk_at "";exact hq
 |lst a=>walk_at "";exact hq
 |dict0=>walk_at "";exact hq
 |_=>injection hk
variable {kk:Kd}
noncomputable def Au:V->Bool
 |.str s=>decide (s.length<=1000)&&s.cps.toList.all fun x=>decide (x∈fg.cps.toList)
 |_=>false
noncomputable def hU:V->Bool
 |.tup l=>decide (1<=l.length/\l.length<=8)&&l.all (eW 0 (l.length-1))
 |_=>false
noncomputable def z4:V->Bool
 |.tup l=>decide (l.length=2)&&l.all (eW 0 1000002)
 |_=>false
noncomputable def jf:Kd->V->Bool
 |.text,v=>Au v
 |.map,v=>hU v
 |.step,v=>z4 v
 |_,v=>eW (-1000000000000) 1000000000000 v
def mW:V->Prop
 |.str s=>s.length<=10000
 |.tup l=>l.length<=20/\∀x∈l,(kd x).isSome=true
 |.none=>True |.bool _=>True |.int _=>True |.lst _=>True
 |.dict0 _=>True
 |_=>False
def Fo{v:V}(h:mW v):(kd v).isSome=true:=by cases v<;>first |rfl |exact h.elim
theorem nO:ff H (.str s)=some (s.cps.toList.map fun x=>V.str ⟨#[x]⟩):=rfl
def DK{l:List V}:ff H (.tup l)=some (l.map id):=congrArg some (List.map_id l).symm
def len_str(h:s.length<=10000):u6 H (.str s)=some (.int s.length,H):=if_pos (aB h (by decide))
def jz(h:s.length<=10000)(k:K (.int s.length,H)):ae (bF H .len [.str s]) K:=ae.mk (len_str h) k
theorem Il(P:aK c "is_text" 1 2 Fk){v:V}(hp:mW v)(hc:q=true)(hq:∀H',aa [] H H'->Q (.bool (Au v)) H'):Calls c q (d+1) "is_text" [v] none Q E H:=by
 subst hc;refine P true d _ Q E H rfl (Ss_go ?_);walk_at "";cases v with
 |str s=>
  walk_at "";refine jz hp ?_;walk_at "";refine cN (fun h=>?_) (fun h=>?_)
  ·have h:s.length<=1000:=dO.mp h;walk_at "";refine ae.mk (nO (H:=H)) ⟨gf (by rw[aG];exact b0 (show s.cps.toList.length<=1000 by rw[e9];exact h) (by decide)),?_⟩;refine nJ (g:=fun x=>V.bool (decide (x∈fg.cps.toList))) trivial (fun x hx K hK=>?_) ?_
   ·walk_at "";exact hK
   walk_at "";refine ae.mk (vI ba) ?_;walk_at "";have:=hq _ (aa.refl.app (xs:=s.cps.toList.map fun x=>V.bool (decide (x∈fg.cps.toList))));rw[show Au (.str s)=s.cps.toList.all fun x=>decide (x∈fg.cps.toList) by show(decide _&&_)=_;rw[decide_eq_true h,Bool.true_and]] at this;exact this
  ·have h:¬s.length<=1000:=fun q=>h (dO.mpr q);walk_at "";have:=hq _ aa.refl;rw[show Au (.str s)=false by show(decide _&&_)=_;rw[decide_eq_false h,Bool.false_and]] at this;exact this
 |bool b=>walk_at "";exact hq _ aa.refl
 |none=>walk_at "";exact hq _ aa.refl
 |int s=>walk_at "";exact hq _ aa.refl
 |tup l=>walk_at "";exact hq _ aa.refl
 |lst a=>walk_at "";exact hq _ aa.refl
 |dict0=>walk_at "";exact hq _ aa.refl
 |_=>exact hp.elim
theorem kq(P:aK c "is_map" 1 2 EN)(PA:aK c "is_among" 3 3 rG){v:V}(hp:mW v)(hc:q=true)(hq:∀H',aa [] H H'->Q (.bool (hU v)) H'):Calls c q (d+2) "is_map" [v] none Q E H:=by
 subst hc;refine P true (d+1) _ Q E H rfl (Ss_go ?_);walk_at "";cases v with
 |tup l=>
  walk_at "";have no:¬(1<=l.length/\l.length<=8)->hU (.tup l)=false:=fun h=>by show(decide _&&_)=_;rw[decide_eq_false h,Bool.false_and]
  refine cN (fun h1=>?_) (fun h1=>?_)
  ·have h1:1<=l.length:=dO.mp h1;walk_at "";refine wB (fun h2=>?_) (fun h2=>?_)
   ·refine Ss_go ?_;walk_at "";have:=hq _ aa.refl;rw[no (fun q=>h2 (dO.mpr q.2))] at this;exact this
   ·have h2:l.length<=8:=dO.mp h2;walk_at "";refine ae.mk (DK (H:=H)) ⟨gf (by rw[aG];exact b0 h2 (by decide)),?_⟩;refine nJ (g:=fun x=>V.bool (eW 0 (l.length-1) x)) trivial (fun x hx K hK=>?_) ?_
    ·walk_at "";exact vi PA (hp.2 x hx) hK
    walk_at "";refine ae.mk (vI ba) ?_;walk_at "";have:=hq _ (aa.refl.app (xs:=l.map fun x=>V.bool (eW 0 (l.length-1) x)));rw[show hU (.tup l)=l.all (eW 0 (l.length-1)) by show(decide _&&_)=_;rw[decide_eq_true ⟨h1,h2⟩,Bool.true_and]] at this;exact this
  ·walk_at "";have:=hq _ aa.refl;rw[no (fun q=>h1 (dO.mpr q.1))] at this;exact this
 |bool b=>walk_at "";refine Ss_go ?_;walk_at "";exact hq _ aa.refl
 |none=>walk_at "";refine Ss_go ?_;walk_at "";exact hq _ aa.refl
 |int s=>walk_at "";refine Ss_go ?_;walk_at "";exact hq _ aa.refl
 |str l=>walk_at "";refine Ss_go ?_;walk_at "";exact hq _ aa.refl
 |lst a=>walk_at "";refine Ss_go ?_;walk_at "";exact hq _ aa.refl
 |dict0=>walk_at "";refine Ss_go ?_;walk_at "";exact hq _ aa.refl
 |_=>exact hp.elim
theorem Km(P:aK c "is_step" 1 2 DV)(PA:aK c "is_among" 3 3 rG){v:V}(hp:mW v)(hc:q=true)(hq:∀H',aa [] H H'->Q (.bool (z4 v)) H'):Calls c q (d+2) "is_step" [v] none Q E H:=by
 subst hc;refine P true (d+1) _ Q E H rfl (Ss_go ?_);walk_at "";cases v with
 |tup l=>
  walk_at "";refine cN (fun h=>?_) (fun h=>?_)
  ·have h:l.length=2:=Int.ofNat_inj.mp h;walk_at "";refine ae.mk (DK (H:=H)) ⟨gf (by rw[aG,h];decide),?_⟩;refine nJ (g:=fun x=>V.bool (eW 0 1000002 x)) trivial (fun x hx K hK=>?_) ?_
   ·walk_at "";exact vi PA (hp.2 x hx) hK
   walk_at "";refine ae.mk (vI ba) ?_;walk_at "";have:=hq _ (aa.refl.app (xs:=l.map fun x=>V.bool (eW 0 1000002 x)));rw[show z4 (.tup l)=l.all (eW 0 1000002) by show(decide _&&_)=_;rw[decide_eq_true h,Bool.true_and]] at this;exact this
  ·have h:¬l.length=2:=fun q=>h (Int.ofNat_inj.mpr q);walk_at "";have:=hq _ aa.refl;rw[show z4 (.tup l)=false by show(decide _&&_)=_;rw[decide_eq_false h,Bool.false_and]] at this;exact this
 |bool b=>walk_at "";exact hq _ aa.refl
 |none=>walk_at "";exact hq _ aa.refl
 |int s=>walk_at "";exact hq _ aa.refl
 |str l=>walk_at "";exact hq _ aa.refl
 |lst a=>walk_at "";exact hq _ aa.refl
 |dict0=>walk_at "";exact hq _ aa.refl
 |_=>exact hp.elim
structure FnsK(c:Cx):Prop where
 among:aK c "is_among" 3 3 rG
 text:aK c "is_text" 1 2 Fk
 map:aK c "is_map" 1 2 EN
 step:aK c "is_step" 1 2 DV
 thing:aK c "is_thing" 2 2 Jc
 put:aK c "put_together" 3 4 HT
theorem GX(F:FnsK c){v:V}(hp:mW v)(hc:q=true)(hq:∀H',aa [] H H'->Q (.bool (jf kk v)) H'):Calls c q (d+3) "is_thing" [.str (kS kk),v] none Q E H:=by
 subst hc;refine F.thing true (d+2) _ Q E H rfl (Ss_go ?_);walk_at "";refine ae.mk (bE (k':=.text)) ?_;walk_at "";cases kk with
 |text=>walk_at "";refine Ss_go ?_;walk_at "";exact Il F.text hp rfl hq
 |map=>
  walk_at "";refine ae.mk (bE (k:=.map) (k':=.map)) ?_;walk_at "";refine Ss_go ?_;walk_at "";exact kq F.map F.among hp rfl hq
 |step=>
  walk_at "";refine ae.mk (bE (k:=.step) (k':=.map)) ?_;walk_at "";refine ae.mk (bE (k:=.step) (k':=.step)) ?_;walk_at "";refine Ss_go ?_;walk_at "";exact Km F.step F.among hp rfl hq
 |sum=>
  walk_at "";refine ae.mk (bE (k:=.sum) (k':=.map)) ?_;walk_at "";refine ae.mk (bE (k:=.sum) (k':=.step)) ?_;walk_at "";exact vi F.among (Fo hp) (hq _ aa.refl)
 |most=>
  walk_at "";refine ae.mk (bE (k:=.most) (k':=.map)) ?_;walk_at "";refine ae.mk (bE (k:=.most) (k':=.step)) ?_;walk_at "";exact vi F.among (Fo hp) (hq _ aa.refl)
noncomputable def zqg:List Str:=["sum","most","text","map","step"]
def sU(k:Kd):kS k∈zqg:=by cases k<;>decide +kernel
def yg:V->Prop
 |.str s=>s∉zqg
 |.none=>True |.bool _=>True |.int _=>True |.lst _=>True |.tup _=>True
 |.dict0 _=>True
 |_=>False
theorem Gb:dq H .notIn (.str s) (.tup [.str "sum",.str "most",.str "text",.str "map",.str "step"])=some (!decide (s∈zqg)):=rfl
def oh:bK (ao "BadKind") vs=.none:=if_neg (by decide +kernel)
def D9:bK (ao "BadThing") vs=.none:=if_neg (by decide +kernel)
def FR (P:aK c "need_kind" 1 1 CC) (hc:q=true) (hq:Q .none H):Calls c q (d+1) "need_kind" [.str (kS kk)] none Q E H:=by
 subst hc;refine P true d _ Q E H rfl (Ss_go ?_);walk_at "";refine ae.mk (a:=true) rfl ?_;walk_at "";refine ae.mk Gb ?_;walk_at "";rw[decide_eq_true (sU kk)];walk_at "";exact hq
theorem GL(P:aK c "need_kind" 1 1 CC){v:V}(hv:yg v)(hc:q=true)(hq:E (.exc "BadKind" .none) H):Calls c q (d+1) "need_kind" [v] none Q E H:=by
 subst hc;refine P true d _ Q E H rfl (Ss_go ?_);have go:az (Calls c) true d none [.rais "BadKind" [(.lit (.str "no kind"))]] (d9 (fun l H=>cK Q .next l H) (cK Q)) (dM E) [some v] H:=by
  refine Ss_go ?_;walk_at "";refine⟨rfl,?_⟩;walk_at "";show E (.exc "BadKind" (bK _ _)) H;rw[oh];exact hq
 walk_at "";cases v with
 |str s=>
  walk_at "";refine ae.mk (a:=true) rfl ?_;walk_at "";refine ae.mk Gb ?_;walk_at "";rw[decide_eq_false hv];walk_at "";exact go
 |bool b=>walk_at "";exact go
 |none=>walk_at "";exact go
 |int s=>walk_at "";exact go
 |tup l=>walk_at "";exact go
 |lst a=>walk_at "";exact go
 |dict0=>walk_at "";exact go
 |_=>exact hv.elim
noncomputable def qU:V->Nat
 |.tup l=>l.length
 |_=>0
inductive Th
 |int (i:Int) |text (s:Str) |map (ns:List Nat) |step (a b:Int)
noncomputable def Th.v:Th->V
 |.int i=>.int i
 |.text s=>.str s
 |.map ns=>.tup (ns.map nat)
 |.step a b=>.tup [.int a,.int b]
def tC(s:Str):Prop:=s.length<=9000/\∀x∈s.cps.toList,x∈fg.cps.toList
def lg(ns:List Nat):Prop:=(1<=ns.length/\ns.length<=8)/\∀n∈ns,n<ns.length
def jP(a b:Int):Prop:=(0<=a/\a<=1000002)/\0<=b/\b<=1000002
def Sh:Kd->Th->Prop
 |.sum,.int _=>True
 |.most,.int i=>-1000000000000<=i/\i<=1000000000000
 |.text,.text s=>tC s
 |.map,.map ns=>lg ns
 |.step,.step a b=>jP a b
 |_,_=>False
def gK{t:Th}(h:Sh .sum t):∃i,t=.int i:=by cases t<;>first |exact⟨_,rfl⟩|exact h.elim
def iD{t:Th}(h:Sh .most t):∃i,t=.int i:=by cases t<;>first |exact⟨_,rfl⟩|exact h.elim
def ia{t:Th}(h:Sh .text t):∃s,t=.text s:=by cases t<;>first |exact⟨_,rfl⟩|exact h.elim
def gd{t:Th}(h:Sh .map t):∃ns,t=.map ns:=by cases t<;>first |exact⟨_,rfl⟩|exact h.elim
def gT{t:Th}(h:Sh .step t):∃a b,t=.step a b:=by cases t<;>first |exact⟨_,_,rfl⟩|exact h.elim
noncomputable def eV:Kd->Th->Th->Th
 |.sum,.int a,.int b=>.int (a+b)
 |.most,.int a,.int b=>.int (if a<b then b else a)
 |.text,.text a,.text b=>.text (a++b)
 |.map,.map a,.map b=>.map (a.map fun n=>b.getD n 0)
 |.step,.step a b,.step e f=>.step (a*e%1000003) ((b*e+f)%1000003)
 |_,t,_=>t
def BV:Th->Th->Prop
 |.map a,.map b=>a.length=b.length
 |_,_=>True
def Ay(h:H[a]?=some xs):fj true (bF H .tuple [.lst a])=some (.tup xs,H):=by
 show(H[a]?).map _=_;rw[h];rfl
def qR(h:xs[i]?=some x):bO H (.tup xs) (.int i)=some x:=by
 show(ix i xs.length).bind _=_;rw[zE (eB h)];exact h
def nk{a:Str}(h:a.length+b.length<=20000):bI H .add (.str a) (.str b)=some (.str (a++b),H):=if_pos (aB h (by decide))
def AE(h:n<ms.length):(ms.map nat)[n]?=some (nat (ms.getD n 0)):=by
 rw[bL,ck,bp h];rfl
def zJ{a:Int}(h:0<=a/\a<=1000002):q7 a=true:=decide_eq_true (by exact bC [_] [_] 0x2485294001840300c202006100000010a528003080601840500c2000000 (Y1 V0 (.l 9223372036854775808)) (Y3 J0 V0) (Y3 V0 (.l 1000002)) (Y7 (Y6 (Y5 (Y4 V0 J0) V0) (Y3 J0 V0)) (Y6 (Y5 (Y4 V0 J0) (Y3 V0 J0)) (Y3 V0 J0))) h.1 h.2 (Ar.na _))
theorem te(F:FnsK c){x y:Th}(hx:Sh kk x)(hy:Sh kk y)(hl:BV x y)(hc:q=true)(hq:∀H',aa [] H H'->Q (eV kk x y).v H'):Calls c q (d+1) "put_together" [.str (kS kk),x.v,y.v] none Q E H:=by
 subst hc;refine F.put true d _ Q E H rfl (Ss_go ?_);walk_at "";refine ae.mk (bE (k':=.most)) ?_;walk_at "";cases kk with
 |most=>
  obtain⟨a,rfl⟩:=iD hx;obtain⟨b,rfl⟩:=iD hy;walk_at "";refine Ss_go ?_;unfold Th.v;walk_at "";refine ae.mk (a:=(.int (if a<b then b else a),H)) rfl ?_;walk_at "";exact hq _ aa.refl
 |map=>
  obtain⟨ns,rfl⟩:=gd hx;obtain⟨ms,rfl⟩:=gd hy;walk_at "";refine ae.mk (bE (k:=.map) (k':=.map)) ?_;walk_at "";refine Ss_go ?_;unfold Th.v;walk_at "";refine ae.mk (a:=ns.map nat) rfl ⟨gf (by rw[aG];exact b0 hx.1.2 (by decide)),?_⟩;refine nJ (g:=fun n=>nat (ms.getD n 0)) trivial (fun n hn K hK=>?_) ?_
  ·have hlt:n<ms.length:=Nat.lt_of_lt_of_eq (hx.2 n hn) hl;unfold nat;walk_at "";refine ae.mk (qR (AE hlt)) ?_;exact hK
  walk_at "";refine ae.mk (Ay ba) ?_;walk_at "";have:=hq _ (aa.refl.app (xs:=ns.map fun n=>nat (ms.getD n 0)));rw[show(eV .map (.map ns) (.map ms)).v=.tup (ns.map fun n=>nat (ms.getD n 0)) by show V.tup ((ns.map _).map nat)=_;rw[ib];rfl] at this;exact this
 |step=>
  obtain⟨a,b,rfl⟩:=gT hx;obtain⟨e,f,rfl⟩:=gT hy;walk_at "";refine ae.mk (bE (k:=.step) (k':=.map)) ?_;walk_at "";refine ae.mk (bE (k:=.step) (k':=.step)) ?_;walk_at "";refine Ss_go ?_;unfold Th.v;walk_at "";refine gZ (zJ hy.1) ?_;walk_at "";refine cL (by decide) ?_;walk_at "";refine gZ (zJ hy.1) ?_;walk_at "";refine cL (by decide) ?_;walk_at "";exact hq _ aa.refl
 |sum=>
  obtain⟨a,rfl⟩:=gK hx;obtain⟨b,rfl⟩:=gK hy;walk_at "";refine ae.mk (bE (k:=.sum) (k':=.map)) ?_;walk_at "";refine ae.mk (bE (k:=.sum) (k':=.step)) ?_;unfold Th.v;walk_at "";exact hq _ aa.refl
 |text=>
  obtain⟨a,rfl⟩:=ia hx;obtain⟨b,rfl⟩:=ia hy;walk_at "";refine ae.mk (bE (k:=.text) (k':=.map)) ?_;walk_at "";refine ae.mk (bE (k:=.text) (k':=.step)) ?_;unfold Th.v;walk_at "";refine ae.mk (nk (aB (Nat.add_le_add hx.1 hy.1) (by decide))) ?_;exact hq _ aa.refl
variable {J:Th->Th->Th}{b:Bool}{i:Int}{t x y:Th}{σ τ:Nat->Th}
def Ff{l:List Str}(h:H[a]?=some xs)(hs:jj xs=some l)(hz:(l.map Str.length).sum<=20000):uR H .join (.str "") [.lst a]=some (.str ⟨(l.flatMap fun x=>x.cps.toList).toArray⟩,H):=by
 show(H[a]?).bind _=_;rw[h];show(jj xs).bind _=_;rw[hs];exact if_pos ⟨rfl,aB hz (by decide)⟩
def xn(a b:Str):(⟨([a,b].flatMap fun x=>x.cps.toList).toArray⟩:Str)=a++b:=by
 obtain⟨a⟩:=a;obtain⟨b⟩:=b;show(⟨(a.toList++(b.toList++[])).toArray⟩:Str)=⟨a++b⟩;rw[fA,<-Array.toList_append,Array.toArray_toList]
def Hs{ns:List Nat}:(List.range ns.length).map (fun k=>f (ns.getD k 0))=ns.map f:=by
 refine List.ext_getElem? fun i=>?_;rw[bL,bL];by_cases h:i<ns.length
 ·rw[mO h,bp h];show some (f (ns.getD i 0))=_;rw[ck,bp h];rfl
 ·rw[iP (by rw[dj];exact eP h),iP (eP h)];rfl
theorem ue(P:aK c "_law_join" 3 4 Dy)(hx:Sh kk x)(hy:Sh kk y)(hl:BV x y)(hc:q=true)(hq:∀H',aa [] H H'->Q (eV kk x y).v H'):Calls c q (d+1) "_law_join" [.str (kS kk),x.v,y.v] none Q E H:=by
 subst hc;refine P true d _ Q E H rfl (Ss_go ?_);walk_at "";refine ae.mk (bE (k':=.sum)) ?_;walk_at "";cases kk with
 |sum=>
  obtain⟨a,rfl⟩:=gK hx;obtain⟨b,rfl⟩:=gK hy;walk_at "";refine Ss_go ?_;unfold Th.v;walk_at "";exact hq _ aa.refl
 |most=>
  obtain⟨a,rfl⟩:=iD hx;obtain⟨b,rfl⟩:=iD hy;walk_at "";refine ae.mk (bE (k:=.most) (k':=.most)) ?_;walk_at "";refine Ss_go ?_;unfold Th.v;walk_at "";have hn:(H++[[V.int a,.int b]])[H.length]?=some [V.int a,.int b]:=ba;have st:=aa.refl (S:=[]) (H:=H) |>.app (xs:=[V.int a,.int b]);refine ae.mk (a:=(.int (if decide (b>a) then 1 else 0),H++[[V.int a,.int b]])) rfl ?_;walk_at "";by_cases h:a<b
  ·rw[decide_eq_true (show b>a from h)];refine ae.mk (dP (i:=1) hn rfl) ?_;have:=hq _ st;rw[show eV .most (.int a) (.int b)=.int b by show Th.int (if a<b then b else a)=_;rw[if_pos h]] at this;exact this
  ·rw[decide_eq_false (show ¬b>a from h)];refine ae.mk (dP (i:=0) hn rfl) ?_;have:=hq _ st;rw[show eV .most (.int a) (.int b)=.int a by show Th.int (if a<b then b else a)=_;rw[if_neg h]] at this;exact this
 |text=>
  obtain⟨a,rfl⟩:=ia hx;obtain⟨b,rfl⟩:=ia hy;walk_at "";refine ae.mk (bE (k:=.text) (k':=.most)) ?_;walk_at "";refine ae.mk (bE (k:=.text) (k':=.text)) ?_;walk_at "";refine Ss_go ?_;unfold Th.v;walk_at "";refine⟨rfl,?_⟩;walk_at "";refine ae.mk (Ff (l:=[a,b]) ba rfl ?_) ?_
  ·show a.length+(b.length+0)<=_;exact aB (Nat.add_le_add hx.1 hy.1) (by decide)
  ·rw[xn];exact hq _ (aa.refl.app (xs:=[V.str a,.str b]))
 |map=>
  obtain⟨ns,rfl⟩:=gd hx;obtain⟨ms,rfl⟩:=gd hy;walk_at "";refine ae.mk (bE (k:=.map) (k':=.most)) ?_;walk_at "";refine ae.mk (bE (k:=.map) (k':=.text)) ?_;walk_at "";refine ae.mk (bE (k:=.map) (k':=.map)) ?_;walk_at "";refine Ss_go ?_;unfold Th.v;walk_at "";refine ae.mk (a:=(.int (ns.map nat).length,H)) rfl ?_;walk_at "";rw[aG];refine ae.mk (j8 (b0 hx.1.2 (by decide))) ?_;walk_at "";refine ae.mk (yk (H:=H)) ⟨gf (by rw[aG,dj];exact b0 hx.1.2 (by decide)),?_⟩;refine nJ (g:=fun k=>nat (ms.getD (ns.getD k 0) 0)) trivial (fun n hn K hK=>?_) ?_
  ·have hn:=eZ.mp hn;have hlt:ns.getD n 0<ms.length:=Nat.lt_of_lt_of_eq (hx.2 _ (by rw[ck,bp hn];exact List.getElem_mem hn)) hl;unfold nat;walk_at "";refine ae.mk (qR (AE hn)) ?_;unfold nat;walk_at "";refine ae.mk (qR (AE hlt)) ?_;exact hK
  rw[Hs (f:=fun n=>nat (ms.getD n 0))];walk_at "";refine ae.mk (Ay ba) ?_;walk_at "";have:=hq _ (aa.refl.app (xs:=ns.map fun n=>nat (ms.getD n 0)));rw[show(eV .map (.map ns) (.map ms)).v=.tup (ns.map fun n=>nat (ms.getD n 0)) by show V.tup ((ns.map _).map nat)=_;rw[ib];rfl] at this;exact this
 |step=>
  obtain⟨a,b,rfl⟩:=gT hx;obtain⟨e,f,rfl⟩:=gT hy;walk_at "";refine ae.mk (bE (k:=.step) (k':=.most)) ?_;walk_at "";refine ae.mk (bE (k:=.step) (k':=.text)) ?_;walk_at "";refine ae.mk (bE (k:=.step) (k':=.map)) ?_;unfold Th.v;walk_at "";refine gZ (zJ hy.1) ?_;walk_at "";refine cL (by decide) ?_;walk_at "";refine gZ (zJ hy.1) ?_;walk_at "";refine cL (by decide) ?_;walk_at "";exact hq _ aa.refl
variable {f:Str}{l:List Bool}
section
variable {l:Loc}
def sW{y:V}(he:e∈kids)(hp:p∈kids\/p=ao "ValueError")(hb:decide (e=p\/p=ao "ValueError")=b):c5 (.exc e y) (.own p)=some b:=by
 subst hb;exact if_pos ⟨he,hp⟩
def HS{l:List Bool}(h:H[a]?=some xs)(hl:gu xs=some l):uR H .count (.lst a) [.bool true]=some (.int (l.count true),H):=by
 show(H[a]?).bind _=_;rw[h];show(gu xs).map _=_;rw[hl];rfl
def IW{l:List Bool}(h:H[a]?=some xs)(hl:gu xs=some l)(ht:true∈l):uR H .index (.lst a) [.bool true]=some (.int (l.idxOf true),H):=by
 show(H[a]?).bind _=_;rw[h];show(gu xs).bind _=_;rw[hl];exact if_pos ht
end
variable {b:Nat}{l:Loc}
noncomputable def intP(i:Int):PyData:=.int i
def cU:gb intP:=⟨fun Z Z=>rfl,fun Z=>rfl⟩
def BG(h:tC s):fD s=true:=by
 have hl:∀x∈fg.cps.toList,x<0x110000:=by decide +kernel
 refine Array.all_eq_true_iff_forall_mem.mpr fun x hx=>decide_eq_true (hl x (h.2 x (Array.mem_toList_iff.mpr hx)))
def DN(ns:List Nat):ns.map nat=(ns.map Int.ofNat).map V.int:=by rw[ib];rfl
def Ab:bB (n+2) H (.tup (is.map V.int))=some (pF intP is):=by
 show(aF (bB (n+1) H) (is.map V.int)).map _=_;rw[Cb (f:=intP) fun x Z=>rfl];rfl
def qh {js:List Int}:fB H (.tup (is.map V.int)) (.tup (js.map V.int))=some (decide (is=js)):=Bx cU.tup Ab Ab
def kI(ha:H[a]?=some [.str w])(hb:H[b]?=some [.str w'])(h1:fD w=true)(h2:fD w'=true):fB H (.lst a) (.lst b)=some (decide (w=w')):=by
 have t1:bB 9 H (.lst a)=some (.list [.str w]):=sZ ha rfl;have t2:bB 9 H (.lst b)=some (.list [.str w']):=sZ hb rfl;show(bB 9 H (.lst a)).bind _=_;rw[t1];show(bB 9 H (.lst b)).bind _=_;rw[t2];refine(if_pos (show((fD w&&true)&&(fD w'&&true))=true by rw[h1,h2];rfl)).trans ?_;show some ((w==w')&&true)=_;rw[Bool.and_true];congr 1
def FC(P:aK c "_law_alike" 2 3 C5)(PW:aK c "_law_whole" 1 1 Ak)(hz:is.length<=20)(hc:q=true)(hq:∀H',aa [] H H'->Q (.bool true) H'):Calls c q (d+2) "_law_alike" [.tup (is.map V.int),.tup (is.map V.int)] none Q E H:=by
 subst hc;refine P true (d+1) _ Q E H rfl (Ss_go ?_);walk_at "";refine ae.mk (a:=(.int (is.map V.int).length,H)) rfl ?_;walk_at "";refine ae.mk (a:=(.int (is.map V.int).length,H)) rfl ?_;walk_at "";rw[decide_eq_true rfl];walk_at "";refine ae.mk (a:=is.map V.int) rfl ⟨gf (by rw[aG];exact b0 hz (by decide)),?_⟩;refine nJ (g:=fun Z=>V.bool true) trivial (fun x hx K hK=>?_) ?_
 ·walk_at "";exact Ds PW hK
 walk_at "";refine ae.mk (vI (f:=fun Z=>true) ba) ?_;rw[show(is.all fun Z=>true)=true from dQ.mpr fun Z Z=>rfl];walk_at "";refine ae.mk (q6 qh) ?_;rw[decide_eq_true rfl];walk_at "";exact hq _ (aa.refl.app (xs:=is.map fun Z=>V.bool true))
theorem qy(P:aK c "_law_alike" 2 3 C5)(PW:aK c "_law_whole" 1 1 Ak)(h:Sh kk t)(hc:q=true)(hq:∀H',aa [] H H'->Q (.bool true) H'):Calls c q (d+2) "_law_alike" [t.v,t.v] none Q E H:=by
 have int:∀i:Int,Calls c q (d+2) "_law_alike" [.int i,.int i] none Q E H:=fun i=>by
  subst hc;refine P true (d+1) _ Q E H rfl (Ss_go ?_);walk_at "";refine Ds PW ?_;walk_at "";rw[decide_eq_true rfl];exact hq _ aa.refl
 cases kk with
 |sum=>obtain⟨i,rfl⟩:=gK h;exact int i
 |most=>obtain⟨i,rfl⟩:=iD h;exact int i
 |map=>
  obtain⟨ns,rfl⟩:=gd h;rw[Th.v,DN];exact FC P PW (by rw[aG];exact aB h.1.2 (show 8<=20 by decide)) hc hq
 |step=>obtain⟨a,b,rfl⟩:=gT h;exact FC (is:=[a,b]) P PW (show 2<=20 by decide) hc hq
 |text=>
  obtain⟨s,rfl⟩:=ia h;subst hc;refine P true (d+1) _ Q E H rfl (Ss_go ?_);unfold Th.v;walk_at "";refine ae.mk (a:=false) rfl ?_;walk_at "";refine ae.mk (a:=true) rfl ?_;walk_at "";refine ae.mk (a:=true) rfl ?_;walk_at "";refine ae.mk (q6 (mV (BG h) (BG h))) ?_;rw[decide_eq_true rfl];exact hq _ aa.refl
variable {s:List Nat}
def Gm(h:lo<=i/\i<=hi):eW lo hi (.int i)=true:=decide_eq_true h
inductive y9(H:Hp)(a:Nat)(xs:List V)(i:Int):Prop
 |mk (j:Nat)(x:V)(hi:i=j)(hx:xs[j]?=some x)(h:bO H (.lst a) (.int i)=some x):y9 H a xs i
def zI(ha:H[a]?=some xs)(h0:0<=i)(h1:i<xs.length):y9 H a xs i:=by
 obtain⟨j,rfl⟩:=Int.eq_ofNat_of_zero_le h0;have hj:=bp (bW.mp h1);exact⟨j,_,rfl,hj,dP ha hj⟩
def fx{a b:Int}(h:0<b):0<=a%b/\a%b<b:=⟨Int.emod_nonneg _ (Int.ne_of_gt h),Int.emod_lt_of_pos _ h⟩
def nF(i:Int):Prop:=-1000000000000<=i/\i<=1000000000000
theorem Fc(P:aK c "_law_thing" 3 5 rm)(hk:kk=.sum\/kk=.most){cell:Int}(hc:q=true)(hq:∀i H',nF i->aa [] H H'->Q (.int i) H'):Calls c q (d+1) "_law_thing" [.str (kS kk),.int cell,.int long] none Q E H:=by
 subst hc;refine P true d _ Q E H rfl (Ss_go ?_);walk_at "";refine gZ (by decide) ?_;walk_at "";refine cL (by decide) ?_;generalize cell*48271%2147483647=cl;walk_at "";refine ae.mk (bE (k':=.sum)) ?_;have body:∀l0:Option V,az (Calls c) true d none ((rm.drop 1).headD .stuck |> fun s=>match s with |.ite _ a _=>a |_=>[]) (d9 (fun l H=>az (Calls c) true d none (rm.drop 2) (cK Q) (dM E) l H) (cK Q)) (dM E) [l0,some (.int cl),some (.int long),none,none] H:=fun l0=>by
  refine Ss_go ?_;walk_at "";refine cL (by decide) ?_;walk_at "";refine cN (fun Z=>?_) (fun Z=>?_)
  ·refine Ss_go ?_;walk_at "";refine gA (by decide) ?_;walk_at "";refine cL (by decide) ?_;walk_at "";obtain⟨j,x,hj,hx,h⟩:=zI (H:=H++[[V.int 1000000000000,.int (-1000000000000),.int 0,.int (-1)]]) (i:=cl/4%4) ba (fx (by decide)).1 (fx (by decide)).2;refine ae.mk h ?_;have st:=aa.refl (S:=[]) (H:=H) |>.app (xs:=[V.int 1000000000000,.int (-1000000000000),.int 0,.int (-1)]);match j,hx with
   |0,hx=>obtain rfl:=ah hx;exact hq _ _ ⟨by decide,by decide⟩ st
   |1,hx=>obtain rfl:=ah hx;exact hq _ _ ⟨by decide,by decide⟩ st
   |2,hx=>obtain rfl:=ah hx;exact hq _ _ ⟨by decide,by decide⟩ st
   |3,hx=>obtain rfl:=ah hx;exact hq _ _ ⟨by decide,by decide⟩ st
  ·walk_at "";refine gA (by decide) ?_;walk_at "";refine cL (by decide) ?_;walk_at "";refine gZ (by decide) ?_;walk_at "";refine cL (by decide) ?_;walk_at "";refine gA (by decide) ?_;walk_at "";refine cL (by decide) ?_;walk_at "";have b1:=fx (a:=cl/4) (b:=21) (by decide);have b2:=fx (a:=cl*977) (b:=2000000000001) (by decide);generalize cl/4%21=y at b1;generalize cl*977%2000000000001=z at b2;obtain⟨j,x,hj,hx,h⟩:=zI (H:=H++[[V.int (y-10),.int (z-1000000000000)]]) (i:=cl/4%2) ba (fx (by decide)).1 (fx (by decide)).2;refine ae.mk h ?_;have st:=aa.refl (S:=[]) (H:=H) |>.app (xs:=[V.int (y-10),.int (z-1000000000000)]);match j,hx with
   |0,hx=>obtain rfl:=ah hx;exact hq _ _ (by unfold nF;exact aA [] [_] kac (Y6 (Y3 (Y3 (.l 1000000000000) J0) (Y2 V0 (.l 10))) (Y3 (Y2 V0 (.l 10)) (.l 1000000000000))) (Y3 J0 V0) (Y4 V0 (.l 21)) b1.1 b1.2) st
   |1,hx=>obtain rfl:=ah hx;exact hq _ _ (by unfold nF;exact aA [] [_] kac (Y6 (Y3 (Y3 (.l 1000000000000) J0) (Y2 V0 (.l 1000000000000))) (Y3 (Y2 V0 (.l 1000000000000)) (.l 1000000000000))) (Y3 J0 V0) (Y4 V0 (.l 2000000000001)) b2.1 b2.2) st
 rcases hk with rfl |rfl
 ·walk_at "";exact body _
 ·walk_at "";refine ae.mk (bE (k:=.most) (k':=.most)) ?_;walk_at "";exact body _
variable {hi lo:Nat}
noncomputable def jn(i:Int):Nat:=fg.cps.toList.getD i.toNat 0
def Du:fg.cps.toList.length=26:=by decide +kernel
def qi(h0:0<=i)(h:i<26):jn i∈fg.cps.toList:=by
 have:i.toNat<fg.cps.toList.length:=by rw[Du];exact aA [_] [_] 0x104294001840300c2008000294a000c20080610080308000 (Y1 V0 (.l 26)) (Y4 V0 (.l 26)) (Y7 (Y5 (Y4 V0 J0) V0) (Y6 (Y3 V0 J0) (Y2 V0 J0))) h (Ar.tn _)
 unfold jn;rw[ck,bp this];exact List.getElem_mem this
theorem Eg:∀l:List Nat,jj (l.map fun x=>V.str ⟨#[x]⟩)=some (l.map fun x=>⟨#[x]⟩)
 |[]=>rfl
 |x::l=>by
  show(jj (l.map fun x=>V.str ⟨#[x]⟩)).map _=_;rw[Eg l];rfl
theorem Ed:∀l:List Nat,((l.map fun x=>(⟨#[x]⟩:Str)).flatMap fun x=>x.cps.toList)=l
 |[]=>rfl
 |x::l=>by
  rw[er,List.flatMap_cons,Ed l];rfl
theorem Dw:∀l:List Nat,((l.map fun x=>(⟨#[x]⟩:Str)).map Str.length).sum=l.length
 |[]=>rfl
 |x::l=>by
  rw[er,er,List.sum_cons,Dw l,eU,Nat.add_comm];rfl
def qI(h0:0<=i)(h:i<26):bO H (.str fg) (.int i)=some (.str ⟨#[jn i]⟩):=by
 obtain⟨j,rfl⟩:=Int.eq_ofNat_of_zero_le h0;have hj:j<fg.cps.size:=by rw[<- e9,Du];exact bW.mp h
 show(za fg.cps.size (ix (j:Int) fg.cps.size)).bind (qW fg)=_;rw[zE hj,za,if_pos (by decide +kernel)];show fg.cps[j]?.map _=_;rw[qa hj];have e:jn (j:Int)=fg.cps[j]:=by
  show fg.cps.toList.getD j 0=_;rw[ck,sL,qa hj];rfl
 rw[e];rfl
def Jv(P:aK c "_law_thing" 3 5 rm){cell:Int}(hc:q=true)(hq:∀s H',s.length<=6->tC s->aa [] H H'->Q (.str s) H'):Calls c q (d+1) "_law_thing" [.str (kS .text),.int cell,.int long] none Q E H:=by
 subst hc;refine P true d _ Q E H rfl (Ss_go ?_);walk_at "";refine gZ (by decide) ?_;walk_at "";refine cL (by decide) ?_;generalize cell*48271%2147483647=cl;walk_at "";refine ae.mk (bE (k:=.text) (k':=.sum)) ?_;walk_at "";refine ae.mk (bE (k:=.text) (k':=.most)) ?_;walk_at "";refine ae.mk (bE (k:=.text) (k':=.text)) ?_;walk_at "";refine Ss_go ?_;walk_at "";refine⟨rfl,?_⟩;walk_at "";refine cL (by decide) ?_;walk_at "";obtain⟨n,hn⟩:=Ai (x:=cl) (y:=7) (by decide);have hn7:n<7:=bW.mp (hn▸(fx (by decide)).2);rw[hn];refine ae.mk (j8 (cw hn7 (by decide))) ?_;walk_at "";refine ae.mk (yk (H:=H)) ⟨gf (by rw[aG,dj];exact cw hn7 (by decide)),?_⟩;refine nJ (g:=fun(k:Nat)=>V.str ⟨#[jn ((cl/7+(k:Int)*(1+cl/31%25))%26)]⟩) trivial (fun k hk K hK=>?_) ?_
 ·have hk:=eZ.mp hk;have b:=fx (a:=cl/31) (b:=25) (by decide);unfold nat;walk_at "";refine gA (by decide) ?_;walk_at "";refine gA (by decide) ?_;walk_at "";refine cL (by decide) ?_;walk_at "";refine gZ (decide_eq_true (by exact iZ [_] [_,_,_] 0x9214a000c202006100000010a528003080601840500c2000000 (Y1 V0 (.l 9223372036854775808)) (Y3 J0 V0) (Y4 V0 (.l 25)) (Y7 (Y6 (Y5 (Y4 V0 J0) (Y0 J1 V0)) (Y3 J0 (Y0 J1 V0))) (Y6 (Y5 (Y4 V0 J0) (Y3 (Y0 J1 V0) J0)) (Y3 (Y0 J1 V0) J0))) (Y6 (Y5 (Y0 (Y1 (.l 25) V1) V0) V2) (Y6 (Y3 J0 V0) (Y4 V0 (.l 25)))) b.1 b.2 (Ar.na _) (Ar.zd _ (k:=25) (by decide)))) ?_;walk_at "";refine cL (by decide) ?_;walk_at "";refine ae.mk (qI (fx (by decide)).1 (fx (by decide)).2) ?_;exact hK
 walk_at "";have hn2:(H++[(List.range n).map fun(k:Nat)=>V.str ⟨#[jn ((cl/7+(k:Int)*(1+cl/31%25))%26)]⟩])[H.length]?=some (((List.range n).map fun(k:Nat)=>jn ((cl/7+(k:Int)*(1+cl/31%25))%26)).map fun x=>V.str ⟨#[x]⟩):=by
  rw[ba,ib];rfl
 have hlm:∀x∈(List.range n).map fun(k:Nat)=>jn ((cl/7+(k:Int)*(1+cl/31%25))%26),x∈fg.cps.toList:=fun x hx=>by
  revert hx;refine xL fun k Z wj=>?_;subst wj;exact qi (fx (by decide)).1 (fx (by decide)).2
 have hll:((List.range n).map fun(k:Nat)=>jn ((cl/7+(k:Int)*(1+cl/31%25))%26)).length=n:=by rw[aG,dj]
 have st:=aa.refl (S:=[]) (H:=H) |>.app (xs:=(List.range n).map fun(k:Nat)=>V.str ⟨#[jn ((cl/7+(k:Int)*(1+cl/31%25))%26)]⟩);generalize H++[(List.range n).map fun(k:Nat)=>V.str ⟨#[jn ((cl/7+(k:Int)*(1+cl/31%25))%26)]⟩]=H2 at hn2 st;generalize((List.range n).map fun(k:Nat)=>jn ((cl/7+(k:Int)*(1+cl/31%25))%26))=ch at hn2 hlm hll;refine ae.mk (Ff hn2 (Eg ch) (by rw[Dw,hll];exact bY (cw hn7 (by decide)))) ?_;rw[Ed];have wq:(⟨ch.toArray⟩:Str).length=n:=by show ch.toArray.size=n;rw[List.size_toArray,hll]
 exact hq _ _ (wq▸Nat.le_of_lt_succ hn7) ⟨wq▸bY (cw hn7 (by decide)),hlm⟩ st
def Hr(P:aK c "_law_thing" 3 5 rm){cell:Int}(h1:1<=long)(h8:long<=8)(hc:q=true)(hq:∀ns H',lg ns->ns.length=long->aa [] H H'->Q (.tup (ns.map nat)) H'):Calls c q (d+1) "_law_thing" [.str (kS .map),.int cell,.int long] none Q E H:=by
 subst hc;refine P true d _ Q E H rfl (Ss_go ?_);walk_at "";refine gZ (by decide) ?_;walk_at "";refine cL (by decide) ?_;obtain⟨cl,hcl⟩:=Ai (x:=cell*48271) (y:=2147483647) (by decide);rw[hcl];walk_at "";refine ae.mk (bE (k:=.map) (k':=.sum)) ?_;walk_at "";refine ae.mk (bE (k:=.map) (k':=.most)) ?_;walk_at "";refine ae.mk (bE (k:=.map) (k':=.text)) ?_;walk_at "";refine ae.mk (bE (k:=.map) (k':=.map)) ?_;walk_at "";refine Ss_go ?_;walk_at "";refine ae.mk (j8 (b0 h8 (by decide))) ?_;walk_at "";refine ae.mk (yk (H:=H)) ⟨gf (by rw[aG,dj];exact b0 h8 (by decide)),?_⟩;refine nJ (g:=fun k=>nat (cl/(1+7*k)%long)) trivial (fun k hk K hK=>?_) ?_
 ·unfold nat;walk_at "";refine gZ (decide_eq_true (by have:=eZ.mp hk;exact aA [_,_] [] kab (Y1 V0 (.l 9223372036854775808)) (Y0 V1 (.l 8)) (Y1 V0 V1) h8 this)) ?_;walk_at "";rw[show(1:Int)+7*(k:Int)=((1+7*k:Nat):Int) by exact ew [_] [] kad (Y5 (Y0 J1 (Y1 (.l 7) (Y4 V0 J0))) (Y4 (Y0 J1 (Y1 (.l 7) V0)) J0))];refine ij (by exact ew [_] [] 171801870336 (Y1 J0 (Y0 J1 (Y1 (.l 7) V0)))) ?_;walk_at "";refine fE (by exact aw [_] [] kaa (Y1 J0 V0) (Y0 J1 V0) h1) ?_;exact hK
 walk_at "";refine ae.mk (Ay ba) ?_;walk_at "";have:=hq ((List.range long).map fun k=>cl/(1+7*k)%long) _ ?_ (by rw[aG,dj]) (aa.refl.app (xs:=(List.range long).map fun k=>nat (cl/(1+7*k)%long)))
 ·rw[ib] at this;exact this
 ·have hl:((List.range long).map fun k=>cl/(1+7*k)%long).length=long:=by rw[aG,dj]
  refine⟨by rw[hl];exact⟨h1,h8⟩,fun n hn=>?_⟩;revert hn;refine xL fun k Z wj=>?_;subst wj;rw[hl];exact Nat.mod_lt _ h1
theorem Jr(P:aK c "_law_thing" 3 5 rm){cell:Int}(hc:q=true)(hq:∀a b H',jP a b->aa [] H H'->Q (.tup [.int a,.int b]) H'):Calls c q (d+1) "_law_thing" [.str (kS .step),.int cell,.int long] none Q E H:=by
 subst hc;refine P true d _ Q E H rfl (Ss_go ?_);walk_at "";refine gZ (by decide) ?_;walk_at "";refine cL (by decide) ?_;generalize cell*48271%2147483647=cl;walk_at "";refine ae.mk (bE (k:=.step) (k':=.sum)) ?_;walk_at "";refine ae.mk (bE (k:=.step) (k':=.most)) ?_;walk_at "";refine ae.mk (bE (k:=.step) (k':=.text)) ?_;walk_at "";refine ae.mk (bE (k:=.step) (k':=.map)) ?_;walk_at "";refine F7 (p:=Kd.step=Kd.map) (by decide) ?_;walk_at "";refine cL (by decide) ?_;walk_at "";refine gA (by decide) ?_;walk_at "";refine cL (by decide) ?_;walk_at "";refine gA (by decide) ?_;walk_at "";refine cL (by decide) ?_;walk_at "";have b1:=fx (a:=cl) (b:=1000003) (by decide);have b2:=fx (a:=cl/7) (b:=1000003) (by decide);generalize cl%1000003=y at b1;generalize cl/7%1000003=z at b2;obtain⟨j,x,hj,hx,h⟩:=zI (H:=H++[[V.int z,.int 1000002,.int 0]]) (i:=cl/5%3) ba (fx (a:=cl/5) (b:=3) (by decide)).1 (fx (a:=cl/5) (b:=3) (by decide)).2;refine ae.mk h ?_;have st:=aa.refl (S:=[]) (H:=H) |>.app (xs:=[V.int z,.int 1000002,.int 0]);match j,hx with
 |0,hx=>obtain rfl:=ah hx;exact hq _ _ _ ⟨by exact aA [] [_] kac (Y6 (Y3 J0 V0) (Y3 V0 (.l 1000002))) (Y3 J0 V0) (Y4 V0 (.l 1000003)) b1.1 b1.2,by exact aA [] [_] kac (Y6 (Y3 J0 V0) (Y3 V0 (.l 1000002))) (Y3 J0 V0) (Y4 V0 (.l 1000003)) b2.1 b2.2⟩ st
 |1,hx=>obtain rfl:=ah hx;exact hq _ _ _ ⟨by exact aA [] [_] kac (Y6 (Y3 J0 V0) (Y3 V0 (.l 1000002))) (Y3 J0 V0) (Y4 V0 (.l 1000003)) b1.1 b1.2,by exact ew [] [] kad (Y6 (Y3 J0 (.l 1000002)) (Y3 (.l 1000002) (.l 1000002)))⟩ st
 |2,hx=>obtain rfl:=ah hx;exact hq _ _ _ ⟨by exact aA [] [_] kac (Y6 (Y3 J0 V0) (Y3 V0 (.l 1000002))) (Y3 J0 V0) (Y4 V0 (.l 1000003)) b1.1 b1.2,by exact ew [] [] kad (Y6 (Y3 J0 J0) (Y3 J0 (.l 1000002)))⟩ st
variable {i:Nat}{k:Kd}
noncomputable def dh:Th->Nat
 |.text s=>s.length
 |_=>0
noncomputable def b8:Th->Nat
 |.map ns=>ns.length
 |_=>0
def DX(a b:Str):(a++b).length=a.length+b.length:=by
 obtain⟨a⟩:=a;obtain⟨b⟩:=b;exact Array.size_append
def ox(a b:Str):(a++b).cps.toList=a.cps.toList++b.cps.toList:=by
 obtain⟨a⟩:=a;obtain⟨b⟩:=b;exact Array.toList_append
def DD{a:Int}:0<=a%1000003/\a%1000003<=1000002:=⟨(fx (by decide)).1,Int.le_of_lt_add_one (fx (by decide)).2⟩
theorem Sh.join(hx:Sh k x)(hy:Sh k y)(hl:b8 x=b8 y)(ht:dh x+dh y<=9000):Sh k (eV k x y):=by
 cases k with
 |sum=>
  obtain⟨a,rfl⟩:=gK hx;obtain⟨b,rfl⟩:=gK hy;trivial
 |most=>
  obtain⟨a,rfl⟩:=iD hx;obtain⟨b,rfl⟩:=iD hy;show _<=(if a<b then b else a)/\(if a<b then b else a)<=_;by_cases h:a<b
  ·rw[if_pos h];exact hy
  ·rw[if_neg h];exact hx
 |text=>
  obtain⟨a,rfl⟩:=ia hx;obtain⟨b,rfl⟩:=ia hy;refine⟨by rw[DX];exact ht,fun z hz=>?_⟩;rw[ox] at hz;exact(cE.mp hz).elim (hx.2 z) (hy.2 z)
 |map=>
  obtain⟨a,rfl⟩:=gd hx;obtain⟨b,rfl⟩:=gd hy;have e:(a.map fun n=>b.getD n 0).length=a.length:=aG ..;refine⟨by rw[e];exact hx.1,fun z hz=>?_⟩;revert hz;refine xL fun n hn wj=>?_;subst wj;have hlt:n<b.length:=Nat.lt_of_lt_of_eq (hx.2 n hn) hl;rw[e,show a.length=b.length from hl,ck,bp hlt];exact hy.2 _ (List.getElem_mem hlt)
 |step=>
  obtain⟨a,b,rfl⟩:=gT hx;obtain⟨e,f,rfl⟩:=gT hy;exact⟨DD,DD⟩
theorem Ir(hx:Sh k x)(hy:Sh k y):b8 (eV k x y)=b8 x:=by
 cases k with
 |sum=>obtain⟨a,rfl⟩:=gK hx;obtain⟨b,rfl⟩:=gK hy;rfl
 |most=>obtain⟨a,rfl⟩:=iD hx;obtain⟨b,rfl⟩:=iD hy;rfl
 |text=>obtain⟨a,rfl⟩:=ia hx;obtain⟨b,rfl⟩:=ia hy;rfl
 |map=>obtain⟨a,rfl⟩:=gd hx;obtain⟨b,rfl⟩:=gd hy;exact aG ..
 |step=>obtain⟨a,b,rfl⟩:=gT hx;obtain⟨e,f,rfl⟩:=gT hy;rfl
theorem HO(hx:Sh k x)(hy:Sh k y):dh (eV k x y)=dh x+dh y:=by
 cases k with
 |sum=>obtain⟨a,rfl⟩:=gK hx;obtain⟨b,rfl⟩:=gK hy;rfl
 |most=>obtain⟨a,rfl⟩:=iD hx;obtain⟨b,rfl⟩:=iD hy;rfl
 |text=>obtain⟨a,rfl⟩:=ia hx;obtain⟨b,rfl⟩:=ia hy;exact DX a b
 |map=>obtain⟨a,rfl⟩:=gd hx;obtain⟨b,rfl⟩:=gd hy;rfl
 |step=>obtain⟨a,b,rfl⟩:=gT hx;obtain⟨e,f,rfl⟩:=gT hy;rfl
theorem DC(h:b8 x=b8 y):BV x y:=by
 match x,y with
 |.map a,.map b=>exact h
 |.int _,_=>trivial
 |.text _,_=>trivial
 |.step _ _,_=>trivial
 |.map _,.int _=>trivial
 |.map _,.text _=>trivial
 |.map _,.step _ _=>trivial
theorem B7(hx:Sh k x):mW x.v:=by
 cases k with
 |sum=>obtain⟨a,rfl⟩:=gK hx;trivial
 |most=>obtain⟨a,rfl⟩:=iD hx;trivial
 |text=>obtain⟨a,rfl⟩:=ia hx;exact aB hx.1 (by decide)
 |map=>
  obtain⟨ns,rfl⟩:=gd hx;refine⟨by rw[aG];exact aB hx.1.2 (by decide),fun z hz=>?_⟩;revert hz;refine xL fun n Z wj=>?_;subst wj;rfl
 |step=>
  obtain⟨a,b,rfl⟩:=gT hx;refine⟨show 2<=20 by decide,fun z hz=>?_⟩;rcases bc.mp hz with rfl |hz
  ·rfl
  ·rw[aV.mp hz];rfl
def lB:Kd->Th->Prop
 |.sum,.int i=>nF i
 |_,_=>True
theorem oV(hx:Sh k x)(h:lB k x)(hz:dh x<=1000):jf k x.v=true:=by
 cases k with
 |sum=>obtain⟨a,rfl⟩:=gK hx;exact decide_eq_true h
 |most=>obtain⟨a,rfl⟩:=iD hx;exact decide_eq_true hx
 |text=>obtain⟨a,rfl⟩:=ia hx;exact eQ.mpr ⟨decide_eq_true hz,dQ.mpr fun z hz=>decide_eq_true (hx.2 z hz)⟩
 |map=>
  obtain⟨ns,rfl⟩:=gd hx;refine eQ.mpr ⟨decide_eq_true (by rw[aG];exact hx.1),dQ.mpr fun z hz=>?_⟩;revert hz;refine xL fun n hn wj=>?_;subst wj;have:=hx.2 n hn;exact decide_eq_true (by rw[aG];exact⟨hV n,by exact aw [_,_] [] kaa (Y3 (Y4 V0 J0) (Y2 (Y4 V1 J0) J1)) (Y1 V0 V1) this⟩)
 |step=>
  obtain⟨a,b,rfl⟩:=gT hx;show(decide (2=2)&&([V.int a,.int b].all (eW 0 1000002)))=true;rw[decide_eq_true rfl,Bool.true_and];show(eW 0 1000002 (.int a)&&(eW 0 1000002 (.int b)&&true))=true;rw[Gm hx.1,Gm hx.2];rfl
def rt(x g:Int):x%1000003*g%1000003=x*g%1000003:=by
 rw[Int.mul_emod,Int.emod_emod_of_dvd x (Int.dvd_refl _),<-Int.mul_emod]
def q8(g x:Int):g*(x%1000003)%1000003=g*x%1000003:=by
 rw[Int.mul_emod,Int.emod_emod_of_dvd x (Int.dvd_refl _),<-Int.mul_emod]
theorem xZ(x y:Int):(x+y%1000003)%1000003=(x+y)%1000003:=by lia
theorem z7(x y:Int):(x+y)%1000003=(x%1000003+y)%1000003:=by lia
def Sv:Kd->Th->Prop
 |.sum,.int _=>True
 |.most,.int _=>True
 |.text,.text _=>True
 |.map,.map ns=>lg ns
 |.step,.step _ _=>True
 |_,_=>False
theorem Sh.sv(hx:Sh k x):Sv k x:=by
 cases k with
 |sum=>obtain⟨a,rfl⟩:=gK hx;trivial
 |most=>obtain⟨a,rfl⟩:=iD hx;trivial
 |text=>obtain⟨a,rfl⟩:=ia hx;trivial
 |map=>obtain⟨a,rfl⟩:=gd hx;exact hx
 |step=>obtain⟨a,b,rfl⟩:=gT hx;trivial
theorem vf(e:k=.sum\/k=.most)(h:Sv k t):∃i,t=.int i:=by
 cases t with
 |int i=>exact⟨i,rfl⟩
 |_=>rcases e with rfl |rfl<;>exact h.elim
def Ch(h:Sv .text t):∃s,t=.text s:=by cases t<;>first |exact⟨_,rfl⟩|exact h.elim
def Bc(h:Sv .map t):∃ns,t=.map ns:=by cases t<;>first |exact⟨_,rfl⟩|exact h.elim
def Dg(h:Sv .step t):∃a b,t=.step a b:=by cases t<;>first |exact⟨_,_,rfl⟩|exact h.elim
theorem IU{z:Th}(hx:Sv k x)(hy:Sv k y)(hz:Sv k z)(h1:b8 x=b8 y):eV k x (eV k y z)=eV k (eV k x y) z:=by
 cases k with
 |sum=>
  obtain⟨a,rfl⟩:=vf (.inl rfl) hx;obtain⟨b,rfl⟩:=vf (.inl rfl) hy;obtain⟨e,rfl⟩:=vf (.inl rfl) hz;exact congrArg Th.int (Int.add_assoc a b e).symm
 |most=>
  obtain⟨a,rfl⟩:=vf (.inr rfl) hx;obtain⟨b,rfl⟩:=vf (.inr rfl) hy;obtain⟨e,rfl⟩:=vf (.inr rfl) hz;show Th.int (if a<(if b<e then e else b) then(if b<e then e else b) else a)=.int (if(if a<b then b else a)<e then e else(if a<b then b else a));congr 1;repeat' split
  all_goals(first |exact ew [] [_] kad (Y5 V0 V0) |exact bC [] [_,_,_] kaq (Y5 V0 V1) (Y4 V2 V1) (Y8 (Y4 V0 V1) J0) (Y4 V0 V2) (by assumption) (by assumption) (by assumption) |exact bC [] [_,_,_] kaq (Y5 V0 V1) (Y8 (Y4 V2 V1) J0) (Y8 (Y4 V0 V2) J0) (Y4 V0 V1) (by assumption) (by assumption) (by assumption))
 |text=>
  obtain⟨⟨a⟩,rfl⟩:=Ch hx;obtain⟨⟨b⟩,rfl⟩:=Ch hy;obtain⟨⟨e⟩,rfl⟩:=Ch hz;exact congrArg (fun z=>Th.text ⟨z⟩) Array.append_assoc.symm
 |map=>
  obtain⟨a,rfl⟩:=Bc hx;obtain⟨b,rfl⟩:=Bc hy;obtain⟨e,rfl⟩:=Bc hz;show Th.map (a.map fun n=>(b.map fun m=>e.getD m 0).getD n 0)=.map ((a.map fun n=>b.getD n 0).map fun m=>e.getD m 0);rw[ib];refine congrArg Th.map (List.map_congr_left fun n hn=>?_);have hlt:n<b.length:=Nat.lt_of_lt_of_eq (hx.2 n hn) h1;show _=e.getD (b.getD n 0) 0;rw[ck,bL,ck (l:=b),bp hlt];rfl
 |step=>
  obtain⟨a,b,rfl⟩:=Dg hx;obtain⟨e,f,rfl⟩:=Dg hy;obtain⟨g,h,rfl⟩:=Dg hz;show Th.step (a*(e*g%1000003)%1000003) ((b*(e*g%1000003)+(f*g+h)%1000003)%1000003)=.step (a*e%1000003*g%1000003) (((b*e+f)%1000003*g+h)%1000003);rw[q8,rt,Int.mul_assoc];congr 1;rw[xZ,z7,q8,<-z7,z7 ((b*e+f)%1000003*g),rt,<-z7,Int.add_mul,Int.mul_assoc,Int.add_assoc]
variable {k:cZ}{x y:V}
noncomputable def wide(kk:Kd)(long:Nat):Nat:=if kk=.map then long else 0
theorem qE(P:aK c "_law_thing" 3 5 rm){cell:Int}(h1:1<=long)(h8:long<=8)(hc:q=true)(hq:∀t H',Sh kk t->lB kk t->dh t<=6->b8 t=wide kk long->aa [] H H'->Q t.v H'):Calls c q (d+1) "_law_thing" [.str (kS kk),.int cell,.int long] none Q E H:=by
 cases kk with
 |sum=>exact Fc P (.inl rfl) hc fun i H' hi st=>hq (.int i) H' trivial hi (dF _) rfl st
 |most=>exact Fc P (.inr rfl) hc fun i H' hi st=>hq (.int i) H' hi trivial (dF _) rfl st
 |text=>exact Jv P hc fun s H' hs hl st=>hq (.text s) H' hl trivial hs rfl st
 |map=>exact Hr P h1 h8 hc fun ns H' hm hl st=>hq (.map ns) H' hm trivial (dF _) hl st
 |step=>exact Jr P hc fun a b H' hs st=>hq (.step a b) H' hs trivial (dF _) rfl st
noncomputable def vS:List V:=[.str "sum",.str "most",.str "text",.str "map",.str "step"]
theorem zm(h:vS[j]?=some x):∃kk,x=.str (kS kk):=by
 match j,h with
 |0,h=>exact⟨.sum,(ah h).symm⟩
 |1,h=>exact⟨.most,(ah h).symm⟩
 |2,h=>exact⟨.text,(ah h).symm⟩
 |3,h=>exact⟨.map,(ah h).symm⟩
 |4,h=>exact⟨.step,(ah h).symm⟩
 |n+5,h=>cases h
def nY(x:Int):∃n:Nat,1+x/5%8=(n:Int)/\1<=n/\n<=8:=⟨(1+x/5%8).toNat,by exact aA [_] [_,_,_] 0x6410a50006100c0308000000a500061004040800041084294a000c20380610140308000080c0000a5000610040308000 (Y5 (Y0 J1 V0) (Y4 V0 J0)) (Y7 (Y5 (Y4 V0 J0) (Y0 J1 V0)) (Y6 (Y3 (Y0 J1 V0) J0) (Y2 V0 J0))) (Y6 (Y5 (Y0 (Y1 (.l 8) V1) V0) V2) (Y6 (Y3 J0 V0) (Y4 V0 (.l 8)))) (Ar.tn _) (Ar.zd _ (k:=8) (by decide)),by exact aA [_] [_,_,_] 0xe4210a5000610100308000080a000084294a000c2028081010030800008060 (Y0 J1 V0) (Y7 (Y5 (Y4 V0 J0) (Y0 J1 V0)) (Y6 (Y3 (Y0 J1 V0) J0) (Y2 V0 J0))) (Y6 (Y5 (Y0 (Y1 (.l 8) V1) V0) V2) (Y6 (Y3 J0 V0) (Y4 V0 (.l 8)))) (Ar.tn _) (Ar.zd _ (k:=8) (by decide)),by exact aA [_] [_,_,_] 0x390a50006100c030802000084294a000c2028061010030802008060 (Y0 V0 (.l 8)) (Y7 (Y5 (Y4 V0 J0) (Y0 J1 V0)) (Y6 (Y3 (Y0 J1 V0) J0) (Y2 V0 J0))) (Y6 (Y5 (Y0 (Y1 (.l 8) V1) V0) V2) (Y6 (Y3 J0 V0) (Y4 V0 (.l 8)))) (Ar.tn _) (Ar.zd _ (k:=8) (by decide))⟩
def GV(hz:n<=1000):fj true (bF H .tuple [.rng 0 n 1])=some (.tup ((List.range n).map nat),H):=by
 have e:eA 0 n 1=(List.range n).map nat:=ah (yk (H:=H) (n:=n));show(if(eA 0 n 1).length<=1000 then some (V.tup (eA 0 n 1),H) else none)=_;rw[e];exact if_pos (by rw[aG,dj];exact hz)
noncomputable def Kq:List St:=[.ite (.not (.call "is_among" [.wx 0,.ww 1,.ww 64])) [.rais "BadLines" [.lit (.str "there are 1 to 64 lines")]] []]
def EF:bK (ao "BadLines") vs=.none:=if_neg (by decide +kernel)
def kL:bK (ao "NoNet") vs=.none:=if_neg (by decide +kernel)
def sD (h1:lo<=n) (h2:n<=hi):eW lo hi (.int n)=true:=decide_eq_true ⟨dO.mpr h1,dO.mpr h2⟩
inductive rk(e:Str)(w:Str)(b1 b2 b3 b4 b5:Bool):Prop
 |mk (hk:e∈kids)(h1:decide (e=ao "BadKind"\/ao "BadKind"=ao "ValueError")=b1)(h2:decide (e=ao "BadThing"\/ao "BadThing"=ao "ValueError")=b2)
   (h3:decide (e=ao "BadLines"\/ao "BadLines"=ao "ValueError")=b3) (h4:decide (e=ao "BadNet"\/ao "BadNet"=ao "ValueError")=b4) (h5:decide (e=ao "NoNet"\/ao "NoNet"=ao "ValueError")=b5)
   (hc:[b1,b2,b3,b4,b5].count true=1) (hi:[V.str "kind",.str "thing",.str "lines",.str "net",.str "none"][[b1,b2,b3,b4,b5].idxOf true]?=some (.str w)) (hm:true∈[b1,b2,b3,b4,b5]):rk e w b1 b2 b3 b4 b5
def kn:rk (ao "BadLines") "lines" false false true false false:=⟨by decide +kernel,by decide +kernel,by decide +kernel,by decide +kernel,by decide +kernel,by decide +kernel,by decide,rfl,by decide⟩
def pO:rk (ao "NoNet") "none" false false false false true:=⟨by decide +kernel,by decide +kernel,by decide +kernel,by decide +kernel,by decide +kernel,by decide +kernel,by decide,rfl,by decide⟩
noncomputable def IS:List St:=[.expr (.call "need_lines" [.wx 0]),.ite (.or [.not (.isi (.wx 1) .list),.cmp (.blt .len [.wx 1]) [.gt] [.ww 80]]) [.rais "BadNet" [.lit .none]] [],.loop (.two 2 3) (.enum (.wx 1)) [.ite (.not (.call "is_layer" [.wx 3,.wx 0])) [.rais "BadNet" [.wx 2]] []]]
theorem DE{g:α->V}{ok:Hp->Prop}{body:V->Loc->SPost->Hp->Prop}{Q:SPost}(I:Nat->List α->Loc->Hp->Prop) (step:∀(k:Nat) x r l H (K:SPost),I k (x::r) l H->(∀l' H',ok H'->I (k+1) r l' H'->K .next l' H')->(∀v l' H',Q (.ret v) l' H'->K (.ret v) l' H')->body (.tup [.int k,g x]) l K H) (hend:∀k l H,I k [] l H->Q .next l H):∀{xs:List α} {k:Nat} {l:Loc} {H:Hp},I k xs l H->nw ok body (uL (k:Int) (xs.map g)) Q l H
 |[],k,l,H,h=>hend k l H h
 |x::r,k,l,H,h=>step k x r l H _ h (fun Z Z hok hI=>⟨hok,DE I step hend (k:=k+1) hI⟩) fun Z Z Z hq=>hq
structure iO(c:Cx):Prop where
 among:aK c "is_among" 3 3 rG
 lines:aK c "need_lines" 1 1 Kq
 joint:aK c "is_joint" 2 2 AK
 layer:aK c "is_layer" 2 4 FO
 net:aK c "need_net" 2 4 IS
def jW{v:V}:bK (ao "BadNet") [v]=v:=if_pos rfl
def lO(F:iO c){v:V}(hk:(kd v).isSome=true)(hc:q=true)(hy:eW 1 64 v=true->Q .none H)(hn:eW 1 64 v=false->E (.exc "BadLines" .none) H):Calls c q (d+2) "need_lines" [v] none Q E H:=by
 subst hc;refine F.lines true (d+1) _ Q E H rfl (Ss_go ?_);walk_at "";refine vi F.among hk ?_;walk_at "";refine xD (eW 1 64 v) (fun hg=>?_) fun hg=>?_
 ·walk_at "";exact hy hg
 ·walk_at "";refine⟨rfl,?_⟩;show E (.exc "BadLines" (bK _ _)) H;rw[EF];exact hn hg
def GB(F:iO c)(hn:1<=n)(hc:q=true)(hq:Q (.bool false) H):Calls c q (d+2) "is_joint" [.tup [.int 0,.int n],.int n] none Q E H:=by
 subst hc;refine F.joint true (d+1) _ Q E H rfl (Ss_go ?_);walk_at "";refine BJ F.among (Int.le_refl 0) (Int.le_sub_one_of_lt (bW.mpr hn)) ?_;walk_at "";refine vi F.among rfl ?_;rw[show eW 0 ((n:Int)-1) (.int n)=false from decide_eq_false fun h=>absurd h.2 (by exact aw [_] [] 171801870368 (Y8 (Y3 (Y4 V0 J0) (Y2 (Y4 V0 J0) J1)) J0) (Y3 (Y4 V0 J0) (Y2 (Y4 V0 J0) J1)) h.2)];walk_at "";exact hq
def GH(F:iO c)(ha:H[a]?=some [pr (0,n)])(hn:1<=n)(hc:q=true)(hq:Q (.bool false) H):Calls c q (d+3) "is_layer" [.lst a,.int n] none Q E H:=by
 subst hc;refine F.layer true (d+2) _ Q E H rfl (Ss_go ?_);walk_at "";refine ae.mk (eh ha) ?_;walk_at "";refine ye (Int.le_refl 1) ?_;walk_at "";refine⟨rfl,lT (v:=.lst a) (fun K E' h=>h) ha ?_⟩;refine ae.mk rfl (Ss_go ?_);walk_at "";refine GB F hn rfl ?_;walk_at "";exact hq
def pv(a n:Nat)(bs:List Nat)(net:Net)(H:Hp)(k:Nat)(r:List Nat)(x2:Loc)(x3:Hp):Prop:=∀GJ:Prop,(∀(x y:Option V),(bs.drop k=r)->(∀j y,j<k->net[j]?=some y->fZ n y)->[some (.int n),some (.lst a),x,y]=x2->H=x3->GJ)->GJ
def kG(F:iO c){net:Net}(hn:1<=n/\n<=64)(hN:aj H a bs net)(hc:q=true)(good:∀y∈net,fZ n y\/y=[(0,n)])(hl:80<net.length->E (.exc "BadNet" .none) H) (hq:net.length<=80->(∀y∈net,fZ n y)->Q .none H) (hb:∀i:Nat,net[i]?=some [(0,n)]->(∀j y,j<i->net[j]?=some y->fZ n y)->net.length<=80->E (.exc "BadNet" (.int i)) H):Calls c q (d+4) "need_net" [.int n,.lst a] none Q E H:=by
 subst hc;refine F.net true (d+3) _ Q E H rfl (Ss_go ?_);walk_at "";refine lO (d:=d+1) F rfl rfl (fun Z=>?_) (fun h=>absurd (sD (lo:=1) (hi:=64) hn.1 hn.2) (by rw[show eW ((1:Nat):Int) ((64:Nat):Int) (.int n)=false from h];decide));walk_at "";refine ae.mk (eh hN.top) ?_;rw[aG,hN.len];walk_at "";refine cN (fun h=>?_) (fun h=>?_)
 ·walk_at "";refine⟨rfl,?_⟩;show E (.exc "BadNet" (bK _ _)) H;rw[jW];exact hl (bW.mp h)
 ·have hz:net.length<=80:=eP fun q=>h (bW.mpr q);walk_at "";refine⟨rfl,oY (a:=a) (fun K E' h=>h) hN.top ?_⟩;refine DE (k:=0) (pv a n bs net H) ?_ ?_ (fun Z kJ=>kJ _ _ rfl (fun j Z hj=>absurd hj (Nat.not_lt_zero _)) rfl rfl)
  ·intro k b r l H' K hI hnext hret;refine hI _ fun x y hr hp wg eI2=>?_;clear hI;subst wg;subst eI2;have hk:bs[k]?=some b:=by rw[<- List.head?_drop,hr];rfl
   obtain⟨layer,hy,hb'⟩:=hN.get hk;refine ae.mk rfl (Ss_go ?_);walk_at "";rcases good layer (cD hy) with ho |rfl
   ·refine Hc F.among F.joint F.layer hb' hn.2 ho rfl ?_;walk_at "";refine hnext _ _ hN.top (fun Z kJ=>kJ _ _ (by rw[<- List.drop_drop,hr];rfl) (fun j y hj hy'=>?_) rfl rfl);rcases Nat.lt_succ_iff_lt_or_eq.mp hj with hj |rfl
    ·exact hp j y hj hy'
    ·rw[hy] at hy';obtain rfl:=ah hy';exact ho
   ·refine GH F hb' hn.1 rfl ?_;walk_at "";refine⟨rfl,?_⟩;show E (.exc "BadNet" (bK _ _)) _;rw[jW];exact hb k hy hp hz
  ·intro k l H' hI;refine hI _ fun x y hr hp wg eI2=>?_;clear hI;subst wg;subst eI2;walk_at "";refine hq hz fun y hy=>?_;obtain⟨j,hj,e⟩:=List.getElem_of_mem hy;refine hp j y (dg hj ?_) (by rw[bp hj,e]);rw[<- hN.len];exact List.drop_eq_nil_iff.mp hr
def uI:rk (ao "BadNet") "net" false false false true false:=⟨by decide +kernel,by decide +kernel,by decide +kernel,by decide +kernel,by decide +kernel,by decide +kernel,by decide,rfl,by decide⟩
inductive ee (Q:V->Hp->Prop) (x:V) (H:Hp):Prop
 |word (e w:Str) (b1 b2 b3 b5:Bool) (h1:x=.exc e .none) (W:rk e w b1 b2 b3 false b5) (hq:∀a H',iB H a [.str w] H'->Q (.lst a) H'):ee Q x H
 |net (y:V) (h1:x=.exc "BadNet" y) (hy:vA y=some y) (hq:∀a H',iB H a [.str "net",y] H'->Q (.lst a) H'):ee Q x H
def HU(hq:∀a H',iB H a [.str "lines"] H'->Q (.lst a) H'):ee Q (.exc "BadLines" .none) H:=.word _ _ _ _ _ _ rfl kn hq
def J4(hq:∀a H',iB H a [.str "none"] H'->Q (.lst a) H'):ee Q (.exc "NoNet" .none) H:=.word _ _ _ _ _ _ rfl pO hq
noncomputable def jD:List St:=[.ite (.or [.not (.isi (.wx 2) .list),.not (.cmp (.ww 1) [.le,.le] [.blt .len [.wx 2],.ww 64])]) [.rais "BadLines" [.lit (.str "a list of 1 to 64 things is wanted")]] [],.expr (.call "need_net" [.blt .len [.wx 2],.wx 0]),.expr (.call "need_kind" [.wx 1]),.loop (.one 3) (.val (.wx 2)) [.expr (.call "need_thing" [.wx 1,.wx 3])],.expr (.call "need_alike" [.wx 1,.wx 2])]
noncomputable def BR:List St:=[.set 1 (.list [.isi (.wx 0) (.own "BadKind"),.isi (.wx 0) (.own "BadThing"),.isi (.wx 0) (.own "BadLines"),.isi (.wx 0) (.own "BadNet")]),.expr (.meth .append (.wx 1) [.isi (.wx 0) (.own "NoNet")]),.ite (.or [.cmp (.meth .count (.wx 1) [.lit (.bool true)]) [.ne] [.ww 1],.not (.isi (.wx 0) (.own "ValueError"))]) [.ret (.list [.lit (.str "other")])] [],.ite (.and [.isi (.wx 0) (.own "BadNet"),.not (.isi (.attr (.wx 0) "at") .bool)]) [.ret (.list [.lit (.str "net"),.attr (.wx 0) "at"])] [],.ret (.list [.idx (.list [.lit (.str "kind"),.lit (.str "thing"),.lit (.str "lines"),.lit (.str "net"),.lit (.str "none")]) (.meth .index (.wx 1) [.lit (.bool true)])])]
def ua(F:iO c){net:Net}(hn:1<=n/\n<=64)(A:aj H a bs net)(ok:fL n net)(hc:q=true)(hq:Q .none H):Calls c q (d+4) "need_net" [.int n,.lst a] none Q E H:=
 kG F hn A hc (fun y hy=>.inl (ok.2 y hy)) (fun h=>absurd h (Nat.not_lt.mpr ok.1)) (fun Z Z=>hq) fun i hi hj Z=>by
  have:=ok.2 _ (cD hi);exact absurd this.2.2.1 (eI _)
theorem FK(P:aK c "_law_word" 1 2 BR){b1 b2 b3 b4 b5:Bool}(W:rk e w b1 b2 b3 b4 b5)(hy:b4=true->gI (.exc e y) "at"=some y/\c5 y .bool=some false)(hq:b4=false->∀a H',iB H a [.str w] H'->Q (.lst a) H')(hn:b4=true->∀a H',iB H a [.str "net",y] H'->Q (.lst a) H'):Calls c q (d+1) "_law_word" [.exc e y] none Q E H:=by
 obtain⟨hk,h1,h2,h3,h4,h5,hc,hi,hm⟩:=W;refine P q d _ Q E H rfl (Ss_go ?_);walk_at "";refine ae.mk (sW hk (.inl (by decide +kernel)) h1) ?_;walk_at "";refine ae.mk (sW hk (.inl (by decide +kernel)) h2) ?_;walk_at "";refine ae.mk (sW hk (.inl (by decide +kernel)) h3) ?_;walk_at "";refine ae.mk (sW hk (.inl (by decide +kernel)) h4) ?_;walk_at "";have hn1:(H++[[V.bool b1,.bool b2,.bool b3,.bool b4]])[H.length]?=some [V.bool b1,.bool b2,.bool b3,.bool b4]:=ba;have st1:=aa.refl (S:=[]) (H:=H) |>.app (xs:=[V.bool b1,.bool b2,.bool b3,.bool b4]);generalize H++[[V.bool b1,.bool b2,.bool b3,.bool b4]]=H1 at hn1 st1;refine⟨rfl,?_⟩;walk_at "";refine ae.mk (sW hk (.inl (by decide +kernel)) h5) ?_;walk_at "";refine ae.mk (vX hn1 (show 4<10000 by decide)) ?_;walk_at "";have hn2:(H1.set H.length ([V.bool b1,.bool b2,.bool b3,.bool b4]++[.bool b5]))[H.length]?=some [V.bool b1,.bool b2,.bool b3,.bool b4,.bool b5]:=qd hn1;have st2:=st1.set (a:=H.length) (xs:=[V.bool b1,.bool b2,.bool b3,.bool b4]++[.bool b5]) (.inr (aN _));generalize H1.set H.length ([V.bool b1,.bool b2,.bool b3,.bool b4]++[.bool b5])=H2 at hn2 st2;refine⟨rfl,?_⟩;walk_at "";refine ae.mk (HS (l:=[b1,b2,b3,b4,b5]) hn2 rfl) ?_;rw[hc];walk_at "";refine ae.mk (sW hk (.inr rfl) (b:=true) (decide_eq_true (.inr rfl))) ?_;walk_at "";refine ae.mk (sW hk (.inl (by decide +kernel)) h4) ?_;walk_at "";cases b4 with
 |true=>
  obtain⟨y1,y2⟩:=hy rfl;walk_at "";refine ae.mk y1 ?_;refine ae.mk y2 ?_;walk_at "";refine ae.mk y1 ?_;walk_at "";exact hn rfl _ _ ⟨st2.app,ba,st2.len⟩
 |false=>
  walk_at "";refine⟨rfl,?_⟩;walk_at "";have hn3:(H2++[[V.str "kind",.str "thing",.str "lines",.str "net",.str "none"]])[H.length]?=some [V.bool b1,.bool b2,.bool b3,.bool false,.bool b5]:=jh hn2;refine ae.mk (IW (l:=[b1,b2,b3,false,b5]) hn3 rfl hm) ?_;walk_at "";refine ae.mk (dP ba hi) ?_;walk_at "";refine hq rfl _ _ ⟨(st2.app).app,ba,?_⟩;exact aB st2.len (aa.refl (S:=[])).app.len
def lk(hy:vA y=some y):c5 y .bool=some false:=by
 cases y<;>first |rfl |injection hy
theorem FE(PW:aK c "_law_word" 1 2 BR)(h:ee Q x H):kz x=true/\Calls c q (d+1) "_law_word" [x] none Q E H:=by
 cases h with
 |word e w b1 b2 b3 b5 h1 W hq=>
  subst h1;have hk:e∈kids:=by obtain⟨hk,_⟩:=W;exact hk
  exact⟨decide_eq_true hk,FK PW W (fun h=>nomatch h) (fun Z=>hq) fun h=>nomatch h⟩
 |net y h1 hy hq=>
  subst h1;exact⟨decide_eq_true (show ao "BadNet"∈kids by decide +kernel),FK PW uI (fun Z=>⟨by show(if ao "at"=ao "at"/\ao "BadNet"=ao "BadNet" then vA y else none)=_;rw[if_pos ⟨rfl,rfl⟩];exact hy,lk hy⟩) (fun h=>nomatch h) fun Z=>hq⟩
def jy(h:H[a]?=some [x])(hn:n<100000):bI H .mul (.lst a) (.int n)=some (.lst H.length,H++[List.replicate n x]):=by
 show(H[a]?).bind _=_;rw[h];have h2:(n:Int).toNat*[x].length<=qag:=by
  rw[pn];exact aB (gk (Nat.mul_one n)) (bY (cw hn (by decide)))
 refine(if_pos ⟨hV n,dO.mpr (aB (bY hn) (by decide)),h2⟩).trans ?_;rw[pn,C3]
variable {e:Ex}{x:Nat}{y:List (Nat×Nat)}
noncomputable def FJ:List St:=[.set 2 (.blt .list [.wx 1]),.loop (.one 3) (.val (.wx 0)) [.set 4 (.blt .list [.wx 2]),.loop (.two 5 6) (.val (.wx 3)) [.put (.wx 4) (.wx 6) (.callv [.idx (.wx 2) (.wx 5),.idx (.wx 2) (.wx 6)])],.set 2 (.wx 4)],.ret (.wx 2)]
noncomputable def bo(n:Nat)(σ:Nat->Th):List V:=(List.range n).map fun x=>(σ x).v
def dH:(bo n σ).length=n:=by rw[bo,aG,dj]
def gL(h:x<n):(bo n σ)[x]?=some (σ x).v:=by
 rw[bo,bL,mO h];rfl
def Kb(h:∀x,x<n->σ x=τ x):bo n σ=bo n τ:=List.map_congr_left fun x hx=>by rw[h x (eZ.mp hx)]
def pN:(bo n σ).set h t.v=bo n fun x=>if x=h then t else σ x:=by
 refine List.ext_getElem? fun i=>?_;by_cases hi:i<n
 ·rw[gL hi];by_cases e:i=h
  ·subst e;rw[iz (by rw[dH];exact hi),if_pos rfl]
  ·rw[iF (cS e),gL hi,if_neg e]
 ·rw[iP (by rw[fW,dH];exact eP hi),iP (by rw[dH];exact eP hi)]
def i9(kk:Kd)(w n:Nat)(B:Nat->Nat)(σ:Nat->Th):Prop:=∀x,x<n->Sh kk (σ x)/\b8 (σ x)=w/\dh (σ x)<=B x
def mC(hk:k=some z)(h:dC C q d k es l (fun vs H=>ae (sO k d vs) fun p=>C q p.1 ie p.2 none Q fu H) E H):aD C q d k (.callv es) l Q E H:=ae.mk hk h
def yv(H:Hp)(J:Th->Th->Th)(n tg sr:Nat)(σ:Nat->Th)(y:List (Nat×Nat))(L:Option V->Option V->Loc)(r:List (Nat×Nat))(x1:Loc)(H2:Hp):Prop:=∀GJ:Prop,(∀(ks:List (Nat×Nat)),∀(u v:Option V),(ks++r=y)->(H2[tg]?=some (bo n (bx J ks σ)))->(H2[sr]?=some (bo n σ))->aa [] H H2->(L u v)=x1->GJ)->GJ
def nR{tg sr tv il ih:Nat}{ok:Hp->Prop}{u v:Option V}(L:Option V->Option V->Loc)(hset:∀u v x w,((L u v).set il x).set ih w=L x w)(gh:∀u v,(L u v).getD ih none=v) (gt:∀u v,(L u v).getD tv none=some (.lst tg)) (hts:tg≠sr) (ht:H2[tg]?=some (bo n σ)) (hs:H2[sr]?=some (bo n σ)) (st:aa [] H H2) (hg:H.length<=tg) (hok:∀H',aa [] H H'->ok H') (hy:∀p∈y,p.1<p.2/\p.2<n) (hnd:(y.map (·.2)).Nodup) (he:∀a b H' (K:V->Hp->Prop) E',a<n->b<n->H'[sr]?=some (bo n σ)->(∀H'',aa [] H' H''->K (J (σ a) (σ b)).v H'')->aD (Calls c) true d k e (L (some (.int a)) (some (.int b))) K E' H') (hq:∀u v H3,H3[tg]?=some (bo n (bx (J) y σ))->aa [] H H3->QQ .next (L u v) H3) :
  nw ok (fun x l Q H=>ae (fX (.two il ih) x l) fun l'=>az (Calls c) true d k [.put (.var tv) (.var ih) e] Q EE l' H) (y.map pr) QQ (L u v) H2:=by
 refine vp (yv H J n tg sr σ y L) ?_ ?_ (fun Z kJ=>kJ [] _ _ rfl ht hs st rfl)
 ·clear ht hs st;intro p r l' H2 K hI hnext hret;refine hI _ fun ks u v hk ht hs st wg=>?_;clear hI;subst wg;obtain⟨pl,ph⟩:=p;have hpm:=hy (pl,ph) (by rw[<- hk];exact kE _ aL);have hk':(ks++[(pl,ph)])++r=y:=by rw[eH];exact hk
  have hn:((ks++[(pl,ph)]).map (·.2)).Nodup:=by rw[<- hk',du] at hnd;exact(List.nodup_append.mp hnd).1
  refine ae.mk (congrArg some (hset u v (some (.int pl)) (some (.int ph)))) (Ss_go ?_);refine he pl ph H2 _ _ (cw hpm.1 hpm.2) hpm.2 hs fun H3 st3=>?_;refine ae.mk (gt _ _) (ae.mk (gh _ _) ?_);have ht3:=aH st3 ht;refine ae.mk (Cj ht3 (by rw[dH];exact hpm.2)) ?_;rw[pN,<-EM (J) hn σ];have st4:=(st.trans0 st3).set (a:=tg) (xs:=bo n (bx (J) (ks++[(pl,ph)]) σ)) (.inr hg);exact hnext _ _ (hok _ st4) (fun Z kJ=>kJ (ks++[(pl,ph)]) _ _ hk' (qd ht3) (fq (aH st3 hs) (cS hts)) st4 rfl)
 ·clear ht hs st;intro l' H2 hI;refine hI _ fun ks u v hk ht hs st wg=>?_;clear hI;subst wg;rw[fA] at hk;subst hk;exact hq u v H2 ht st
variable {z:V}
def lr{kk:Nat}(hz:l.getD i none=some z)(h:dC C q d k es l (fun vs H=>C q d f vs (some (kk,z)) Q E H) E H):aD C q d k (.callL f es kk i) l Q E H:=by
 have e:aD C q d k (.callL f es kk i) l Q E H=dC C q d k es l (fun vs H=>ae (l.getD i none) fun v=>C q d f vs (some (kk,v)) Q E H) E H:=rfl;rw[e,hz];exact h
variable {k:Nat}
theorem Gq:∀{y:List (Nat×Nat)} {lo i l l' h:Nat},qj n lo y->y[i]?=some (l,h)->l'<h->qj n lo (y.set i (l',h))
 :=by
 intro y;induction y with
 |nil=>exact fun Z e=>nomatch e
 |cons p r ih=>
  intro lo i l l' h q e hl;cases i with
  |zero=>obtain rfl:=ah e;exact⟨hl,q.2⟩
  |succ i=>exact⟨q.1,q.2.1,q.2.2.1,ih q.2.2.2 e hl⟩
def JD {l:Nat} (ho:fZ n y) (e:y[i]?=some (l,h)) (hl:l'<h):fZ n (y.set i (l',h)):=
 ⟨fun q=>ho.1 (by cases y with |nil=>rfl |cons a r=>cases i<;>exact nomatch q),Gq ho.2 e hl⟩
def Js{net:Net}(ho:fL n net)(h:fZ n y):fL n (net.set k y):=
 ⟨by rw[fW];exact ho.1,fun z hz=>(List.mem_or_eq_of_mem_set hz).elim (ho.2 z) fun e=>e▸h⟩
structure cm(P:PyData):Prop where
 lay:PyData.canLay0 P=true
 self:PyData.eqv P P=true
def gb.self[DecidableEq α]{f:α->PyData}(h:gb f)(a:α):cm (f a):=⟨h.lay a,by rw[h.eq,decide_eq_true rfl]⟩
theorem Ba:∀{l:List PyData},(∀P∈l,cm P)->PyData.canLayAll0 l=true/\PyData.eqvAll l l=true
 |[],_=>⟨rfl,rfl⟩
 |P::l,h=>by
  obtain⟨h1,h2⟩:=Ba fun Q hQ=>h Q (a9 _ hQ);have hP:=h P aL;exact⟨eQ.mpr ⟨hP.lay,h1⟩,(show _=(PyData.eqv P P&&PyData.eqvAll l l) from rfl).trans (by rw[hP.self,h2];rfl)⟩
def cm.list{l:List PyData}(h:∀P∈l,cm P):cm (.list l):=⟨(Ba h).1,(Ba h).2⟩
noncomputable def zX:Th->PyData
 |.int i=>.int i
 |.text s=>.str s
 |.map ns=>pF intP (ns.map Int.ofNat)
 |.step a b=>pF intP [a,b]
theorem Ek(h:Sh kk t):cm (zX t):=by
 match kk,t,h with
 |.sum,.int i,_=>exact cU.self i
 |.most,.int i,_=>exact cU.self i
 |.text,.text s,h=>exact⟨BG h,beq_self_eq_true s⟩
 |.map,.map ns,_=>exact cU.tup.self _
 |.step,.step a b,_=>exact cU.tup.self _
theorem sM(t:Th):bB (n+2) H t.v=some (zX t):=by
 cases t with
 |int i=>rfl
 |text s=>rfl
 |map ns=>rw[Th.v,DN];exact Ab
 |step a b=>exact Ab (is:=[a,b])
def EG{v w:V}{P:PyData}(h:cm P)(h1:bB 9 H v=some P)(h2:bB 9 H w=some P):fB H v w=some true:=by
 show(bB 9 H v).bind _=_;rw[h1];show(bB 9 H w).bind _=_;rw[h2];refine(if_pos (eQ.mpr ⟨h.lay,h.lay⟩)).trans ?_;rw[h.self]
def AR{t:Nat}(ht:H[t]?=some (bo n σ)):bB (m+3) H (.lst t)=some (jC (fun x=>zX (σ x)) (List.range n)):=Bp (g:=fun x=>(σ x).v) ht fun x Z=>sM (σ x)
def nI{u v t:Nat}{net:Net}(hσ:∀x,x<n->Sh kk (σ x))(hu:H[u]?=some [.lst a,.lst t])(hv:H[v]?=some [.lst b,.lst t'])(A:aj H a bs net)(B:aj H b cs net)(ht:H[t]?=some (bo n σ))(ht':H[t']?=some (bo n σ)):fB H (.lst u) (.lst v)=some true:=by
 have p:∀{u a t:Nat} {bs:List Nat},H[u]?=some [.lst a,.lst t]->aj H a bs net->H[t]?=some (bo n σ)->bB 9 H (.lst u)=some (.list [jC (jC zm5) net,jC (fun x=>zX (σ x)) (List.range n)]):=fun hu A ht=>by
  refine sZ hu ?_;show(bB 8 H (.lst _)).bind _=_;rw[Cd A];show((bB 8 H (.lst _)).bind _).map _=_;rw[AR ht];rfl
 refine EG (cm.list ?_) (p hu A ht) (p hv B ht');intro P hP;rcases bc.mp hP with rfl |hP
 ·exact eR.list.list.self _
 ·rw[aV.mp hP];refine cm.list fun R hR=>?_;revert hR;refine xL fun x hx wj=>?_;subst wj;exact Ek (hσ x (eZ.mp hx))
def lR{a b:Int}(ha:q7 a=true)(h:K (.int (a*b),H)):ae (bI H .mul (.int a) (.int b)) K:=ae.mk (if_pos (by rw[ha];rfl)) h
inductive gF(H:Hp)(kk:Kd)(w j:Nat)(acc:List V)(H':Hp):Prop
 |mk (ts:List Th)(ha:acc=ts.map Th.v)(hl:ts.length=j)(hs:∀t∈ts,Sh kk t/\lB kk t/\dh t<=6/\b8 t=w)(st:aa [] H H'):gF H kk w j acc H'
def I1{w:Nat}{t:Tg}{W:Loc->(V->Hp->Prop)->Hp->Prop}{K:List V->Hp->Prop}{v:V}(hv:∀xs H,gx v xs H)(hW:∀i H' (K:V->Hp->Prop),(∀t H'',Sh kk t->lB kk t->dh t<=6->b8 t=w->aa [] H' H''->K t.v H'')->ae (fX t (nat i) l) fun l'=>W l' K H') (hq:∀σ H',(∀x,x<n->lB kk (σ x))->i9 kk w n (fun Z=>6) σ->aa [] H H'->K (bo n σ) H') :
  gW (gx v ((List.range n).map nat)) (nz (fun Z Q H=>Q true H) W t l) ((List.range n).map nat) [] K H:=by
 refine wV (I:=gF H kk w) ?_ ?_ ⟨[],rfl,rfl,(fun Z h=>nomatch h),aa.refl⟩
 ·rintro j x acc H' K' hx ⟨ts,rfl,wq,hs,st⟩ hK;rw[bL] at hx;revert hx;refine xM fun i hi wj=>?_;subst wj;have key:=hW i H' (fun v H=>K' (ts.map Th.v++[v]) H) fun t H2 sh ok tl ml st2=>by
   refine hK _ _ (hv _ _) ⟨ts++[t],by rw[du];rfl,by rw[bG,wq];rfl,fun u hu=>?_,st.trans0 st2⟩;rcases cE.mp hu with hu |hu
   ·exact hs u hu
   ·rw[aV.mp hu];exact⟨sh,ok,tl,ml⟩
  revert key;refine xI fun l' hb hw=>?_;exact ae.mk hb hw
 ·rintro acc H' ⟨ts,rfl,wq,hs,st⟩;rw[aG,dj] at wq;have e:ts.map Th.v=bo n (fun x=>ts.getD x (.int 0)):=by
   refine List.ext_getElem? fun i=>?_;by_cases hi:i<n
   ·rw[gL hi,bL,ck,bp (by rw[wq];exact hi)];rfl
   ·rw[iP (by rw[aG,wq];exact eP hi),iP (by rw[dH];exact eP hi)]
  have m:∀x,x<n->ts.getD x (.int 0)∈ts:=fun x hx=>by
   rw[ck,bp (by rw[wq];exact hx)];exact List.getElem_mem _
  rw[e];exact hq _ H' (fun x hx=>(hs _ (m x hx)).2.1) (fun x hx=>⟨(hs _ (m x hx)).1,(hs _ (m x hx)).2.2.2,(hs _ (m x hx)).2.2.1⟩) st
variable {K:SPost}{t:Nat}
def gS(h1:fD w=true)(ha:H[a]?=some [.str w])(hb:H[b]?=some [.str w]):fB H (.lst a) (.lst b)=some true:=(kI ha hb h1 h1).trans (by rw[decide_eq_true rfl])
def mH:fD (ao "lines")=true:=by decide +kernel
def oJ:fD (ao "none")=true:=by decide +kernel
theorem yY {y:V} (hy:vA y=some y) (ha:H[a]?=some [.str "net",y]) (hb:H[b]?=some [.str "net",y]):fB H (.lst a) (.lst b)=some true:=by
 have hn:fD (ao "net")=true:=by decide +kernel
 have he:(ao "net"==ao "net")=true:=beq_self_eq_true _;cases y with
 |none=>
  have t:∀{a:Nat},H[a]?=some [.str "net",.none]->bB 9 H (.lst a)=some (.list [.str "net",.none]):=fun h=>sZ h rfl;show(bB 9 H (.lst a)).bind _=_;rw[t ha];show(bB 9 H (.lst b)).bind _=_;rw[t hb];refine(if_pos (show((fD "net"&&true)&&(fD "net"&&true))=true by rw[hn];rfl)).trans ?_;show some ((ao "net"==ao "net")&&true)=_;rw[he];rfl
 |int i=>
  have t:∀{a:Nat},H[a]?=some [.str "net",.int i]->bB 9 H (.lst a)=some (.list [.str "net",.int i]):=fun h=>sZ h rfl;show(bB 9 H (.lst a)).bind _=_;rw[t ha];show(bB 9 H (.lst b)).bind _=_;rw[t hb];refine(if_pos (show((fD "net"&&true)&&(fD "net"&&true))=true by rw[hn];rfl)).trans ?_;show some ((ao "net"==ao "net")&&(decide (i=i)&&true))=_;rw[he,decide_eq_true rfl];rfl
 |_=>injection hy
variable {b:Net}
theorem Ei:∀{net:Net}{B B':Nat->Nat},bZ net B=some B'->(∀y∈net,∀p∈y,p.2≠x)->B' x=B x
 |[],B,B',h,_=>by obtain rfl:=ah h;rfl
 |y::net,B,B',h,hx=>by
  obtain⟨_,h2⟩:=zS h;rw[Ei h2 fun z hz=>hx z (a9 _ hz)];rcases zc (fun l Z=>l) y B x with⟨p,hp,e,_⟩|e
  ·exact absurd e (hx y aL p hp)
  ·exact e
def Eh{net:Net}(h:bZ net id=none):c9 n net=false:=by
 unfold c9;rw[h]
def jO{a:Net}(h:bZ a id=none):bZ (a++b) id=none:=by
 rw[se,h];rfl
def HW{net:Net}(hh:2<=h)(hb:∀y∈net,∀p∈y,p.2≠h):bZ (net++gv (h,(h-2)::ls)) id=none:=by
 rw[se];refine xC (bZ net id) (fun e=>?_) fun B e=>?_
 ·rfl
 ·have hB:B h=h:=Ei e hb;show bZ ([(h-2,h)]::gv (h,ls)) B=none;rw[Aj,if_neg];intro q;have:=aP.mp q (h-2,h) aL;dsimp only at this;rw[hB] at this;exact aA [_] [] 0x1a0852940018407010204006100400014a001020300610000510001 J0 (Y0 J2 V0) (Y2 (Y0 (Y2 V0 J2) J1) V0) hh this
def Fu{a:Net}(h:c9 n (a++b)=true):∃B B',bZ a id=some B/\bZ b B=some B':=by
 unfold c9 at h;rw[se] at h;refine xC (bZ a id) (fun e=>?_) fun B e=>?_
 ·rw[e] at h;injection h
 ·rw[e] at h;refine xC (bZ b B) (fun e2=>?_) fun B' e2=>?_
  ·rw[show(some B).bind (bZ b)=none from e2] at h;injection h
  ·exact⟨B,B',rfl,e2⟩
def lP{net:Net}(h:c9 n net=true)(hy:net[i]?=some y)(hp:y[k]?=some (lo,hi))(hl:l'≠lo):c9 n (net.set i (y.set k (l',hi)))=false:=by
 have hi':=eB hy;have hk':=eB hp;rw[show net=net.take i++(y::net.drop (i+1)) by rw[List.append_cons];exact DM hy] at h;obtain⟨B,B',h1,h2⟩:=Fu h;refine Eh ?_;rw[wG,if_pos hi',se,h1];show bZ (_::_) B=none;rw[Aj,if_neg];intro q;have q1:=aP.mp q (l',hi) (rg.mpr ⟨k,by rw[iz hk']⟩);have q2:=aP.mp (zS h2).1 (lo,hi) (cD hp);dsimp only at q1 q2;exact bC [_,_,_] [] 0x7294a000c20180810100308000294a001020180610100308000 J0 (Y8 (Y2 V0 V1) J0) (Y2 (Y0 V0 J1) V2) (Y2 (Y0 V1 J1) V2) hl q1 q2
theorem IE{net:Net}(ok:∀y∈net,fZ n y)(hne:net≠[])(h:c9 n net=true):c9 n net.dropLast=false:=by
 have e:=List.dropLast_concat_getLast hne;have hm:=ok _ (List.getLast_mem hne);rw[<- e] at h;obtain⟨B,B',h1,h2⟩:=Fu h;have h3:=aP.mp (zS h2).1;unfold c9;rw[h1];generalize net.getLast hne=y at h3 hm;cases y with
 |nil=>exact absurd rfl hm.1
 |cons p r=>
  have hp:=h3 p aL;have hf:=(Ao hm.2).1 p aL;refine List.all_eq_false.mpr ⟨p.2,eZ.mpr hf.2.1,fun q=>?_⟩;have:B p.2=0:=eq_of_beq q;exact aA [_,_] [] 0xa5000610040308040 J0 (Y2 (Y0 V0 J1) V1) (Y2 V1 J0) hp this
noncomputable def AB:List St:=[.set 2 (.list []),.loop (.one 3) (.val (.blt .range [.bin .sub (.wx 0) (.ww 1)])) [.set 4 (.bin .sub (.bin .sub (.wx 0) (.ww 1)) (.wx 3)),.set 5 (.rev (.blt .list [.blt .range [.wx 4]])),.ite (.cmp (.wx 3) [.eq] [.bin .mod (.wx 1) (.bin .sub (.wx 0) (.ww 2))]) [.set 5 (.bin .add (.list [.idx (.wx 5) (.ww 1),.idx (.wx 5) (.ww 0)]) (.slice (.wx 5) (.ww 2) (.lit .none)))] [],.set 2 (.bin .add (.wx 2) (.comp (.list [.tup [.wx 6,.wx 4]]) (.one 6) (.wx 5) []))],.ret (.wx 2)]
noncomputable def Cf:List St:=[.ite (.and [.cmp (.bin .mod (.wx 2) (.ww 3)) [.eq] [.ww 1],.cmp (.ww 3) [.le,.le] [.wx 1,.ww 12]]) [.ret (.call "_law_crossed" [.wx 1,.bin .div (.wx 2) (.ww 3)])] [],.set 3 (.bin .mod (.wx 2) (.blt .len [.wx 0])),.set 4 (.bin .mod (.bin .div (.wx 2) (.ww 64)) (.blt .len [.idx (.wx 0) (.wx 3)])),.unp [5,6] (.idx (.idx (.wx 0) (.wx 3)) (.wx 4)),.set 7 (.bin .mod (.bin .div (.wx 2) (.ww 4096)) (.wx 6)),.ite (.cmp (.wx 7) [.eq] [.wx 5]) [.ret (.slice (.wx 0) (.lit .none) (.neg (.ww 1)))] [],.set 8 (.bin .add (.bin .add (.slice (.idx (.wx 0) (.wx 3)) (.lit .none) (.wx 4)) (.list [.tup [.wx 7,.wx 6]])) (.slice (.idx (.wx 0) (.wx 3)) (.bin .add (.wx 4) (.ww 1)) (.lit .none))),.ret (.bin .add (.bin .add (.slice (.wx 0) (.lit .none) (.wx 3)) (.list [.wx 8])) (.slice (.wx 0) (.bin .add (.wx 3) (.ww 1)) (.lit .none)))]
def mE(n j k:Nat)(net:Net):Prop:=(k<=j->∀y∈net,∀p∈y,n-1-k<p.2)/\(j<k->bZ net id=none)
def Fq(H:Hp)(n cell j k:Nat)(x0:Loc)(H':Hp):Prop:=∀GJ:Prop,(∀(v3 v4 v5:Option V),∀(nt:Nat),∀(bs:List Nat),∀(bl:List (Nat×List Nat)),aj H' nt bs (bl.flatMap gv)->cJ n k bl->mE n j k (bl.flatMap gv)->aa [] H H'->[some (.int n),some (.int cell),some (.lst nt),v3,v4,v5,none]=x0->GJ)->GJ
def Fg{cell v5:Nat}(hn:n<=12)(hk:k<n-1)(hh:n-1-k=h)(hv:H2[v5]?=some (ls.map nat))(hl:ls.length=h)(hls:∀x∈ls,x<h)(N:aj H2 nt bs (bl.flatMap gv))(B:cJ n k bl)(C:mE n j k (bl.flatMap gv))(hj:k=j->2<=h/\∃r,ls=(h-2)::r)(st:aa [] H H2) (hK:∀l' H',Fq H n cell j (k+1) l' H'->K .next l' H') :
  az (Calls c) true d none [.set 2 (.bin .add (.var 2) (.comp (.list [(.tup [(.var 6),(.var 4)])]) (.one 6) (.var 5) []))] K EE [some (.int n),some (.int cell),some (.lst nt),v3,some (.int h),some (.lst v5),none] H2:=by
 refine Ss_go ?_;walk_at "";refine ae.mk (uO hv) ⟨gf (by rw[aG];exact bC [_,_,_,_] [] 0x3194a5294a000c203006101c04081001840900c201806100005104a10042508021 (Y1 V0 (.l 100000)) (Y0 V1 (.l 12)) (Y2 (Y2 (Y2 V1 J1) V2) V3) (Y2 V0 V3) hn hh hl),?_⟩;refine Jk (Nat.le_of_ble_eq_true rfl) (by decide) rfl (fun H' st=>aH st hv) fun cs H3 RR=>?_;have N3:=RR.net;have st3:=RR.st.app (xs:=cs.map .lst);generalize H3++[cs.map .lst]=H3' at N3 st3;generalize H3.length=a3 at N3;clear RR;have N2:=N.grow st3;have htot:=B.tot;have ht:=C2 (n-1) (by exact aw [_] [] kbb (Y0 (Y2 V0 J1) (.l 11)) (Y0 V0 (.l 12)) hn);have hz2:=N.len;have hz3:cs.length=h:=by rw[N3.len,gv,aG,hl]
 walk_at "";refine bU (mZ N2.top N3.top (by rw[aG,aG];exact CS [_,_,_,_,_,_,_,_] [] 0xc65294a5294a50006101803080e02040800c204806102803081601840c00c201806100005184a10082508041 (Y1 (Y0 V0 V1) (.l 100000)) (Y0 V2 (.l 12)) (Y2 (Y2 (Y2 V2 J1) V3) V4) (Y2 (Y0 V5 V6) (.v 7)) (Y0 (.v 7) (.l 66)) (Y2 V0 V5) (Y2 V1 V4) hn hh htot ht hz2 hz3)) fun a4 H4 N4=>?_;walk_at "";refine hK _ _ (fun Z kJ=>kJ _ _ _ a4 (bs++cs) (bl++[(h,ls)]) ?_ (B.snoc hk hh hl hls) ?_ (st.trans0 (st3.trans0 N4.st)) rfl)
 ·rw[List.flatMap_append,CU];exact(N2.grow N4.st).append (N3.grow N4.st) N4.hold
 ·rw[List.flatMap_append,CU];refine⟨fun hkj y hy p hp=>?_,fun hjk=>?_⟩
  ·rcases cE.mp hy with hy |hy
   ·have:=C.1 (Nat.le_of_succ_le hkj) y hy p hp;exact aw [_,_,_] [] 0xd04294a000c203006101c030802000065294a000c20380610200308060184010142128400094610042508001 (Y1 (Y2 (Y2 V0 J1) (Y0 V1 J1)) V2) (Y1 (Y2 (Y2 V0 J1) V1) V2) this
   ·revert hy;refine xL fun l hl' wj=>?_;subst wj;rw[aV.mp hp];show n-1-(k+1)<h;exact aA [_,_,_] [] 0x1a064294a528003081201840a00c205806100c0308020180a10942000465294a000c20380610240308060184010142128400094610042508001 (Y1 (Y2 (Y2 V0 J1) (Y0 V1 J1)) V2) (Y1 V1 (Y2 V0 J1)) (Y2 (Y2 (Y2 V0 J1) V1) V2) hk hh
  ·rcases Nat.lt_succ_iff_lt_or_eq.mp hjk with hjk |rfl
   ·exact jO (C.2 hjk)
   ·obtain⟨h2,r,rfl⟩:=hj rfl;refine HW h2 fun y hy p hp e=>?_;have:=C.1 (aN _) y hy p hp;exact bC [_,_,_,_] [] 0x294a001020080610080308060 J0 (Y2 (Y2 (Y2 V0 J1) V1) V2) (Y2 V3 V2) (Y1 (Y2 (Y2 V0 J1) V1) V3) hh e this
def F8(hi:i<h):(List.range h).reverse[i]?=some (h-1-i):=by
 rw[List.getElem?_reverse (by rw[dj];exact hi),dj,mO (by exact aw [_,_] [] kag (Y1 (Y2 (Y2 V0 J1) V1) V0) (Y1 V1 V0) hi)]
def JA(P:aK c "_law_crossed" 2 7 AB){cell:Nat}(hn1:3<=n)(hn:n<=12)(hc:q=true) (hq:∀a bs H' net,aj H' a bs net->fL n net->net.length<=70->c9 n net=false->aa [] H H'->Q (.lst a) H'):Calls c q (d+1) "_law_crossed" [.int n,.int cell] none Q E H:=by
 subst hc;refine P true d _ Q E H rfl (Ss_go ?_);have en:((n:Int)-1)=((n-1:Nat):Int):=by exact aw [_] [] 0x18652800308060184010142000468214a000c204006100000014a000c20200610000508001 (Y5 (Y2 (Y4 V0 J0) J1) (Y4 (Y2 V0 J1) J0)) (Y0 (.l 3) V0) hn1
 have hjn:cell%(n-2)<n-2:=Nat.mod_lt _ (by exact aw [_] [] 0x65294001840300c20200610040510001 (Y1 J0 (Y2 V0 J2)) (Y0 (.l 3) V0) hn1);walk_at "";refine⟨rfl,lT (v:=.rng 0 ((n-1:Nat):Int) 1) (items:=(List.range (n-1)).map nat) (fun K E' h=>by walk_at "";rw[en];exact ae.mk (j8 (by exact aA [_] [] kao (Y1 (Y2 V0 J1) (.l 100000)) (Y0 V0 (.l 12)) (Y5 (Y2 (Y4 V0 J0) J1) (Y4 (Y2 V0 J1) J0)) hn en)) h) (congrArg some (vM _)) ?_⟩;refine xH (Fq H n cell (cell%(n-2))) ?_ ?_ (fun Z kJ=>kJ _ _ _ H.length [] [] ⟨ba,rfl,fun Z Z Z h=>nomatch h⟩ ⟨rfl,(fun Z Z h=>nomatch h),Nat.zero_add _⟩ ⟨(fun Z Z h=>nomatch h),fun h=>absurd h (Nat.not_lt_zero _)⟩ aa.refl.app rfl)
 ·intro k x l' H' K hx hI hnext hret;refine hI _ fun v3 v4 v5 nt bs bl N B C st wg=>?_;clear hI;subst wg;have hk:=eB hx;rw[aG,dj] at hk;rw[bL,mO hk] at hx;obtain rfl:=ah hx;have hnext:=fun l' H' h=>hnext l' H' trivial h;unfold nat;walk_at "";rw[show((n:Int)-1-(k:Int))=((n-1-k:Nat):Int) by exact aA [_,_] [] 0x6194a500061014030806018401014212840008d04294001840900c2000000294a0010203006101003080002842508001 (Y5 (Y2 (Y2 (Y4 V0 J0) J1) (Y4 V1 J0)) (Y4 (Y2 (Y2 V0 J1) V1) J0)) (Y5 (Y2 (Y4 V0 J0) J1) (Y4 (Y2 V0 J1) J0)) (Y1 V1 (Y2 V0 J1)) en hk];generalize hh:n-1-k=h;refine ae.mk (j8 (by exact bC [_,_,_] [] kbc (Y1 V0 (.l 100000)) (Y0 V1 (.l 12)) (Y5 (Y2 (Y4 V1 J0) J1) (Y4 (Y2 V1 J1) J0)) (Y2 (Y2 (Y2 V1 J1) V2) V0) hn en hh)) ?_;walk_at "";refine bU (Bz (by exact bC [_,_,_] [] kbc (Y1 V0 (.l 100000)) (Y0 V1 (.l 12)) (Y5 (Y2 (Y4 V1 J0) J1) (Y4 (Y2 V1 J1) J0)) (Y2 (Y2 (Y2 V1 J1) V2) V0) hn en hh)) fun a1 H1 N1=>?_;walk_at "";refine bU (BK N1.hold) fun a2 H2 N2=>?_;have hv:H2[a2]?=some (((List.range h).reverse).map nat):=by rw[List.map_reverse];exact N2.hold
  have hLl:(List.range h).reverse.length=h:=by rw[List.length_reverse,dj]
  have hLm:∀x∈(List.range h).reverse,x<h:=fun x hx=>eZ.mp (List.mem_reverse.mp hx);have st2:=N1.st.trans0 N2.st;have NN:=N.grow st2;have st3:=st.trans0 st2;clear N1 N2 st2;walk_at "";rw[show(n:Int)-2=((n-2:Nat):Int) by exact aw [_] [] 0x18652800308060184010144000468214a000c204006100000014a000c20200610000510001 (Y5 (Y2 (Y4 V0 J0) J2) (Y4 (Y2 V0 J2) J0)) (Y0 (.l 3) V0) hn1];refine fE (by exact aw [_] [] 0x65294001840300c20200610040510001 (Y1 J0 (Y2 V0 J2)) (Y0 (.l 3) V0) hn1) ?_;walk_at "";generalize cell%(n-2)=j at hjn C hnext;refine cN (fun hkj=>?_) (fun hkj=>?_)
  ·obtain rfl:k=j:=Int.ofNat.inj hkj;have h2:2<=h:=by exact iZ [_,_,_] [] 0xd04294001840700c2000000194a5294a000c203806102403081401840b00c201806100405104a10042510021 (Y0 J2 V0) (Y0 (.l 3) V1) (Y5 (Y2 (Y4 V1 J0) J1) (Y4 (Y2 V1 J1) J0)) (Y2 (Y2 (Y2 V1 J1) V2) V0) (Y1 V2 (Y2 V1 J2)) hn1 en hh hjn
   refine Ss_go ?_;walk_at "";refine ae.mk (jk (i:=1) hv (F8 (by exact aw [_] [] kaa (Y1 J1 V0) (Y0 J2 V0) h2))) ?_;walk_at "";refine ae.mk (jk (i:=0) hv (F8 (by exact aw [_] [] kaa (Y1 J0 V0) (Y0 J2 V0) h2))) ?_;walk_at "";have s4:=(aa.refl (S:=[]) (H:=H2)).app (xs:=[V.int (h-1-1:Nat),V.int (h-1-0:Nat)]);refine bU (wi (i:=2) (aH s4 hv)) fun a5 H5 N5=>?_;walk_at "";refine bU (mZ (aH N5.st ba) N5.hold (by rw[hZ,aG];show 2+_<_;exact iZ [_,_,_,_] [] 0xc65294a5294001840600c203808102004081201840a00c201806100005100012882508021 (Y1 (Y0 J2 (Y2 V0 J2)) (.l 100000)) (Y0 V1 (.l 12)) (Y5 (Y2 (Y4 V1 J0) J1) (Y4 (Y2 V1 J1) J0)) (Y2 (Y2 (Y2 V1 J1) V2) V3) (Y2 V0 V3) hn en hh hLl)) fun a6 H6 N6=>?_;have st6:=s4.trans0 (N5.st.trans0 N6.st);refine Fg (ls:=(h-2)::(h-1)::(List.range h).reverse.drop 2) hn hk hh ?_ ?_ ?_ (NN.grow st6) B C (fun Z=>⟨h2,_,rfl⟩) (st3.trans0 st6) hnext
   ·rw[N6.hold,er,er,List.map_drop,Nat.sub_sub];rfl
   ·rw[eU,eU,hZ,hLl];exact aw [_] [] 0x61a085294001840800c203006100400014a000c20200610000510001194a000c20180610040510001 (Y2 (Y0 (Y0 (Y2 V0 J2) J1) J1) V0) (Y0 J2 V0) h2
   ·intro x hx;rcases bc.mp hx with rfl |hx
    ·exact aA [_,_,_] [] 0x340c85294a50006102403081401840b00c2018061004030142128402094a000c20200610000510001 (Y1 (Y2 V0 J2) V0) (Y1 V1 (Y2 V2 J1)) (Y2 (Y2 (Y2 V2 J1) V1) V0) hk hh
    ·rcases bc.mp hx with rfl |hx
     ·exact aw [_] [] kam (Y1 (Y2 V0 J1) V0) (Y0 J2 V0) h2
     ·exact hLm x (List.mem_of_mem_drop hx)
  ·exact Fg hn hk hh hv hLl hLm NN B C (fun e=>absurd (congrArg Int.ofNat e) hkj) st3 hnext
 ·intro l' H' hI;refine hI _ fun v3 v4 v5 nt bs bl N B C st wg=>?_;clear hI;subst wg;rw[aG,dj] at B C;refine Then_go (Ss_go ?_);walk_at "";have hz:=B.tot;have:=C2 (n-1) (by exact aA [_] [] kao (Y0 (Y2 V0 J1) (.l 11)) (Y0 V0 (.l 12)) (Y5 (Y2 (Y4 V0 J0) J1) (Y4 (Y2 V0 J1) J0)) hn en);exact hq _ _ _ _ N (B.ok hn) (by exact aA [_,_,_] [] kab (Y0 V0 (.l 70)) (Y2 (Y0 V0 V1) V2) (Y0 V2 (.l 66)) hz this) (Eh (C.2 (by exact bC [_,_] [] 0x68214a000c203806100000014a528003080801840600c20380610000510021 (Y1 V0 (Y2 V1 J1)) (Y0 (.l 3) V1) (Y5 (Y2 (Y4 V1 J0) J1) (Y4 (Y2 V1 J1) J0)) (Y1 V0 (Y2 V1 J2)) hn1 en hjn))) st
def Kn(ha:H[a]?=some xs)(hne:xs≠[]):vy H (.lst a) .none (.int (-1))=some (.lst H.length,H++[xs.dropLast]):=by
 show(H[a]?).bind _=_;rw[ha];show some (V.lst H.length,H++[(xs.drop 0).take (qv (-1) xs.length-0)])=_;have hl:=List.length_pos_iff.mpr hne;rw[List.drop_zero,List.dropLast_eq_take,show qv (-1) xs.length-0=xs.length-1 by show((-1:Int)+(xs.length:Int)).toNat-0=_;exact aw [_,_] [] 0x640c85294001840600c2010061004030140000463294a50006101c03080c01840300c20080a1004250000140d04294001840700c2008000214a50006101c03080401840001005080211a08528003080e01840100003294a50006102004080e01840300c20080a00002508021 (Y2 (Y2 V0 J0) (Y2 V1 J1)) (Y7 (Y5 (Y4 V0 J0) (Y0 (Y3 J1 J0) (Y4 V1 J0))) (Y6 (Y3 (Y0 (Y3 J1 J0) (Y4 V1 J0)) J0) (Y2 V0 J0))) (Ar.tn _)]
def zi(P:aK c "_law_untelling" 3 9 Cf)(PC:aK c "_law_crossed" 2 7 AB){cell:Nat}{net:Net}(A:aj H a bs net)(hn:1<=n/\n<=64)(ok:fL n net)(hz:net.length<=70)(ht:c9 n net=true)(hne:net≠[])(hc:q=true) (hq:∀a' bs' H' net',aj H' a' bs' net'->fL n net'->net'.length<=70->c9 n net'=false->aa [] H H'->Q (.lst a') H'):Calls c q (d+2) "_law_untelling" [.lst a,.int n,.int cell] none Q E H:=by
 subst hc;refine P true (d+1) _ Q E H rfl (Ss_go ?_);walk_at "";have hnl:0<net.length:=List.length_pos_iff.mpr hne;refine fE (b:=3) (by decide) ?_;walk_at "";have go:az (Calls c) true (d+1) none (Cf.drop 1) (cK Q) (dM E) [some (.lst a),some (.int n),some (.int cell),none,none,none,none,none,none] H:=by
  refine Ss_go ?_;walk_at "";refine ae.mk (eh A.top) ?_;walk_at "";rw[aG,A.len];refine fE hnl ?_;walk_at "";have hat:cell%net.length<net.length:=Nat.mod_lt _ hnl;generalize cell%net.length=i at hat;have hy:=bp hat;generalize net[i]=y at hy;obtain⟨b,hb,hbH,hbI⟩:=A.at hy;refine ij (b:=64) (by decide) ?_;walk_at "";refine ae.mk hbI ?_;walk_at "";refine ae.mk (eh hbH) ?_;walk_at "";have hyo:=ok.2 y (cD hy);have hyl:0<y.length:=List.length_pos_iff.mpr hyo.1;rw[aG];refine fE hyl ?_;walk_at "";have hsp:cell/64%y.length<y.length:=Nat.mod_lt _ hyl;generalize cell/64%y.length=k at hsp;have hp:=bp hsp;generalize y[k]=p at hp;obtain⟨lo,hi⟩:=p;have hpm:lo<hi/\hi<n/\0<=hi:=(Ao hyo.2).1 _ (cD hp);have hi0:0<hi:=b0 (dF _) hpm.1;refine⟨rfl,?_⟩;refine ae.mk hbI ?_;walk_at "";refine ae.mk (dP hbH (xR hp)) ?_;refine ae.mk (a:=[some (.lst a),some (.int n),some (.int cell),some (.int i),some (.int k),some (.int lo),some (.int hi),none,none]) rfl ?_;walk_at "";refine ij (b:=4096) (by decide) ?_;walk_at "";refine fE hi0 ?_;walk_at "";have hlt:cell/4096%hi<hi:=Nat.mod_lt _ hi0;generalize cell/4096%hi=l' at hlt;refine cN (fun e=>?_) (fun e=>?_)
  ·walk_at "";refine bU (Kn A.top (fun q=>hne (iG.mp (by rw[<- A.len,<-aG (f:=V.lst),q];rfl)))) fun a2 H2 N2=>?_;walk_at "";refine hq a2 bs.dropLast H2 net.dropLast ⟨by rw[N2.hold,List.map_dropLast],by rw[List.length_dropLast,List.length_dropLast,A.len],fun j r z h1 h2=>?_⟩ ⟨?_,fun z hz=>ok.2 z (List.dropLast_subset _ hz)⟩ ?_ (IE ok.2 hne ht) N2.st
   ·rw[List.getElem?_dropLast] at h1 h2;revert h1;refine xO fun Z h1=>?_;revert h2;refine xO fun Z h2=>?_;exact aH N2.st (A.lay j r z h1 h2)
   ·rw[List.length_dropLast];exact aB (Nat.sub_le _ _) ok.1
   ·rw[List.length_dropLast];exact aB (Nat.sub_le _ _) hz
  ·have hlo:l'≠lo:=fun q=>e (by rw[q]);have ny:y.length<50000:=by have:=(Bw hyo.2 hyo.1).1;exact aA [_,_] [] kab (Y1 V0 (.l 50000)) (Y0 V1 (.l 64)) (Y0 (Y0 V0 J0) V1) hn.2 this
   walk_at "";refine ae.mk hbI ?_;walk_at "";refine bU (zy hbH) fun e1 H3 N3=>?_;walk_at "";have s4:=(aa.refl (S:=[]) (H:=H3)).app (xs:=[pr (l',hi)]);refine bU (mZ (aH s4 N3.hold) ba (by rw[gP,aG];show _+1<_;exact aA [_,_] [] 0x194a528003080601840400c20280610000808401 (Y1 (Y0 (Y5 V0 V1) J1) (.l 100000)) (Y1 V0 V1) (Y1 V1 (.l 50000)) hsp ny)) fun e3 H5 N5=>?_;walk_at "";have s5:=N3.st.trans0 (s4.trans0 N5.st);refine ae.mk (show bO H5 (.lst a) (.int i)=some (.lst b) from dP (aH s5 A.top) (by rw[bL,hb];rfl)) ?_;refine bU (wi (i:=k+1) (aH s5 hbH)) fun e4 H6 N6=>?_;walk_at "";refine bU (mZ (aH N6.st N5.hold) N6.hold (by rw[bG,gP,hZ,aG];show _+1+_<_;exact aA [_,_] [] 0xc65294a50006101803080e01880800c201806100005184000842808401 (Y1 (Y0 (Y0 (Y5 V0 V1) J1) (Y2 V1 (Y0 V0 J1))) (.l 100000)) (Y1 V0 V1) (Y1 V1 (.l 50000)) hsp ny)) fun e5 H7 N7=>?_;have hl5:H7[e5]?=some ((y.set k (l',hi)).map pr):=by
    rw[N7.hold,List.map_set,wG,if_pos (by rw[aG];exact hsp),eH];rfl
   have s7:=s5.trans0 (N6.st.trans0 N7.st);clear N3 N5 N6 N7 s4 s5;walk_at "";refine bU (zy (aH s7 A.top)) fun a2 H8 N8=>?_;walk_at "";have s8:=(aa.refl (S:=[]) (H:=H8)).app (xs:=[V.lst e5]);refine bU (mZ (aH s8 N8.hold) ba (by rw[gP,aG,A.len];show _+1<_;exact aA [_,_] [] 0x194a528003080601840400c20280610000808401 (Y1 (Y0 (Y5 V0 V1) J1) (.l 100000)) (Y0 V1 (.l 70)) (Y1 V0 V1) hz hat)) fun e6 H9 N9=>?_;walk_at "";have s9:=N8.st.trans0 (s8.trans0 N9.st);refine bU (wi (i:=i+1) (aH (s7.trans0 s9) A.top)) fun e7 H10 N10=>?_;walk_at "";refine bU (mZ (aH N10.st N9.hold) N10.hold (by rw[bG,gP,hZ,aG,A.len];show _+1+_<_;exact aA [_,_] [] 0xc65294a50006101803100e01840800c201806100005184000842808401 (Y1 (Y0 (Y0 (Y5 V0 V1) J1) (Y2 V1 (Y0 V0 J1))) (.l 100000)) (Y0 V1 (.l 70)) (Y1 V0 V1) hz hat)) fun e8 H11 N11=>?_;have top:H11[e8]?=some ((bs.set i e5).map .lst):=by
    rw[N11.hold,List.map_set,wG,if_pos (by rw[aG,A.len];exact hat),eH];rfl
   have s11:=s9.trans0 (N10.st.trans0 N11.st);walk_at "";refine hq e8 (bs.set i e5) H11 (net.set i (y.set k (l',hi))) ⟨top,by rw[fW,fW];exact A.len,fun j r z h1 h2=>?_⟩ (Js ok (JD hyo hp hlt)) (by rw[fW];exact hz) (lP ht hy hp hlo) (s7.trans0 s11);by_cases e:j=i
   ·subst e;rw[iz (by rw[A.len];exact hat)] at h1;rw[iz hat] at h2;obtain rfl:=ah h1;obtain rfl:=ah h2;exact aH s11 hl5
   ·rw[iF (cS e)] at h1 h2;exact aH (s7.trans0 s11) (A.lay j r z h1 h2)
 refine cN (fun Z=>?_) (fun Z=>?_)
 ·refine cN (fun h3=>?_) (fun Z=>?_)
  ·refine cN (fun h12=>?_) (fun Z=>?_)
   ·refine Ss_go ?_;walk_at "";refine ij (b:=3) (by decide) ?_;exact JA PC (dO.mp h3) (dO.mp h12) rfl hq
   ·exact go
  ·exact go
 ·exact go
variable {b:Nat}
def Fv{k:cZ}{Q:SPost}(h:EE (.exc cn (bK cn [.str w])) l H):az C true d k [.rais cn [(.lit (.str w))]] Q EE l H:=by
 refine Ss_go ?_;walk_at "";exact⟨rfl,h⟩
variable {w:Nat}
def dW(C:CallT)(d:Nat)(l:Loc)(H:Hp)(P:Nat->Hp->V->Prop):Nat->List Ex->Prop
 |_,[]=>True
 |k,e::es=>(∀H' (K:V->Hp->Prop)(E:XPost),aa [] H H'->(∀v H2,aa [] H' H2->P k H2 v->K v H2)->aD C true d none e l K E H')/\dW C d l H P (k+1) es
section
variable {P:Nat->Hp->V->Prop}
def dW.nil:dW C d l H P k []:=trivial
def dW.cons(h:∀H' (K:V->Hp->Prop)(E:XPost),aa [] H H'->(∀v H2,aa [] H' H2->P k H2 v->K v H2)->aD C true d none e l K E H')(t:dW C d l H P (k+1) es):dW C d l H P k (e::es):=⟨h,t⟩
def dW.lit{v:V}(h:∀H',P k H' v)(t:dW C d l H P (k+1) es):dW C d l H P k (.lit v::es):=⟨fun H' K E st hK=>hK v H' .refl (h H'),t⟩
theorem rK(mono:∀k H H' v,aa [] H H'->P k H v->P k H' v):∀{es:List Ex}{k:Nat},dW C d l H P k es->∀{H':Hp}{Q:List V->Hp->Prop}{E:XPost},aa [] H H'->(∀vs H2,aa [] H' H2->(∀i v,vs[i]?=some v->P (k+i) H2 v)->vs.length=es.length->Q vs H2)->dC C true d none es l Q E H'
 |[],_,_,_,_,_,_,hq=>hq [] _ .refl (fun Z Z h=>nomatch h) rfl
 |e::es,k,g,H',Q,E,st,hq=>by
  rw[L_cons];refine g.1 _ _ _ st fun v H1 s1 hv=>?_;refine rK mono g.2 (st.trans0 s1) fun vs H2 s2 hvs hl=>hq _ _ (s1.trans0 s2) (fun i x hx=>?_) (congrArg (· + 1) hl);cases i with
  |zero=>obtain rfl:=ah hx;exact mono _ _ _ _ s2 hv
  |succ i=>rw[Nat.add_succ,<-Nat.succ_add];exact hvs i x hx
def yH(mono:∀k H H' v,aa [] H H'->P k H v->P k H' v){ix:Ex}(g:dW C d l H P 0 es)(hj:j<es.length)(hi:∀H' (K:V->Hp->Prop),aa [] H H'->K (.int j) H'->aD C true d none ix l K E H')(hq:∀v H2,aa [] H H2->P j H2 v->Q v H2):aD C true d none (.idx (.list es) ix) l Q E H:=by
 rw[E_idx,E_list];refine rK mono g .refl fun vs H2 st hvs hl=>?_;have t2:=st.app (xs:=vs);refine hi _ _ t2 ?_;have hj':j<vs.length:=hl.symm▸hj;refine ae.mk (dP ba (bp hj')) (hq _ _ t2 ?_);have:=hvs j _ (bp hj');rw[Nat.zero_add] at this;exact mono _ _ _ _ aa.refl.app this
def BP{k m:Int}{kk:cZ}{A B:List St}{Q:SPost}{E:SX}(h5:l.getD i none=some (.int k))(h6:l.getD j none=some (.int m))(ha:k=t\/m=t->az C q d kk A Q E l H)(hb:k≠t->az C q d kk B Q E l H):gO C q d kk (.ite (.or [(.cmp (.var i) [.eq] [(.lit (.int t))]),(.cmp (.var j) [.eq] [(.lit (.int t))])]) A B) Q E l H:=by
 walk_at "d";rw[h5];walk_at "d";refine cN (fun e=>ha (.inl e)) (fun e=>?_);rw[h6];walk_at "d";exact cN (fun e=>ha (.inr e)) (fun Z=>hb e)
def Hx{net:Net}(N:aj H a bs net)(hL:H[L]?=some [pr (0,m)])(top:H[A7]?=some ((bs.map V.lst).take i++[V.lst L]++(bs.map V.lst).drop i)):∃cs,aj H A7 cs (net.take i++[(0,m)]::net.drop i):=by
 obtain⟨zs,z1,z2,z3⟩:=N.zs;have key:=aj.ofz (H:=H) (a:=A7) (zs:=zs.take i++(L,[(0,m)])::zs.drop i) ?_ fun p hp=>?_
 ·have e:net.take i++[(0,m)]::net.drop i=(zs.take i++(L,[(0,m)])::zs.drop i).map (·.2):=by rw[du,er,List.map_take,List.map_drop,z2]
  rw[e];exact⟨_,key⟩
 ·rw[top,du,du,er,er,List.map_take,List.map_drop,List.map_take,List.map_drop,z1,eH];rfl
 ·rcases cE.mp hp with hp |hp
  ·exact z3 p (List.mem_of_mem_take hp)
  ·rcases bc.mp hp with rfl |hp
   ·exact hL
   ·exact z3 p (List.mem_of_mem_drop hp)
def lK{net:Net}(ok:∀y∈net,fZ n y)(hi:i<=net.length):(net.take i++[(0,n)]::net.drop i)[i]?=some [(0,n)]/\(∀j y,(net.take i++[(0,n)]::net.drop i)[j]?=some y->j=i\/fZ n y)/\(net.take i++[(0,n)]::net.drop i).length=net.length+1:=by
 have hl:(net.take i).length=i:=by rw[gP];exact Nat.min_eq_left hi
 refine⟨?_,fun j y hj=>?_,?_⟩
 ·rw[iE (gk hl),hl,Nat.sub_self];rfl
 ·rcases Nat.lt_trichotomy j i with h |h |h
  ·rw[jd (by rw[hl];exact h)] at hj;exact .inr (ok y (List.mem_of_mem_take (cD hj)))
  ·exact .inl h
  ·rw[iE (by rw[hl];exact bY h),hl,show j-i=(j-i-1)+1 by exact aw [_,_] [] 0x1865280030806018401014202842008d03214a528003081601840900c20180610040301421004a50006101003080002840508401 (Y2 (Y2 V0 V1) (Y0 (Y2 (Y2 V0 V1) J1) J1)) (Y1 V1 V0) h,List.getElem?_cons_succ] at hj;exact .inr (ok y (List.mem_of_mem_drop (cD hj)))
 ·rw[bG,eU,hZ,hl];exact aw [_,_] [] kaz (Y2 (Y0 V0 (Y0 (Y2 V1 V0) J1)) (Y0 V1 J1)) (Y0 V0 V1) hi
end
noncomputable def Ft:List St:=[.expr (.call "need_things" [.wx 0,.wx 1,.wx 2]),.ite (.not (.call "does_tell" [.blt .len [.wx 2],.wx 0])) [.rais "NoNet" [.lit (.str "the net doesn't tell beginnings")]] [],.ret (.rev (.callL "carried" [.wx 0,.rev (.wx 2)] 21 1))]
noncomputable def pU:List St:=[.expr (.call "need_things" [.wx 0,.wx 1,.wx 2]),.stuck]
noncomputable def I0:List St:=[.tri [.ret (.tup [.call "led" [.wx 0,.wx 1,.wx 2]])] 3 [.ret (.call "_law_word" [.wx 3])]]
noncomputable def Ki:List St:=[.tri [.ret (.tup [.call "ends" [.wx 0,.wx 1,.wx 2]])] 3 [.ret (.call "_law_word" [.wx 3])]]
structure ui(c:Cx):Prop extends FnsK c where
 nkind:aK c "need_kind" 1 1 CC
 nthing:aK c "need_thing" 2 2 J7
 alike:aK c "need_alike" 2 3 Kr
structure eF(c:Cx):Prop where
 chk:iO c
 n:ui c
 things:aK c "need_things" 3 4 jD
section
variable {v w:V}
def jJ(F:ui c){v:V}(hp:mW v)(hc:q=true)(hy:jf kk v=true->∀H',aa [] H H'->Q .none H')(hn:jf kk v=false->∀H',aa [] H H'->E (.exc "BadThing" .none) H'):Calls c q (d+4) "need_thing" [.str (kS kk),v] none Q E H:=by
 subst hc;refine F.nthing true (d+3) _ Q E H rfl (Ss_go ?_);walk_at "";refine FR F.nkind rfl ?_;walk_at "";refine GX F.toFnsK hp rfl fun H1 st1=>?_;walk_at "";refine xD (jf kk v) (fun hg=>?_) fun hg=>?_
 ·walk_at "";exact hy hg H1 st1
 ·walk_at "";refine⟨rfl,?_⟩;show E (.exc "BadThing" (bK _ _)) H1;rw[D9];exact hn hg H1 st1
def Ee(F:ui c)(ha:H[a]?=some xs)(h0:kk=.map->xs[0]?=some (.tup l0))(hz:xs.length<=64)(hm:kk=.map->∀x∈xs,∃l,x=.tup l)(hc:q=true)(hy:(kk=.map->∀x∈xs,qU x=l0.length)->∀H',aa [] H H'->Q .none H')(hn:kk=.map->(∃x∈xs,qU x≠l0.length)->∀H',aa [] H H'->E (.exc "BadThing" .none) H') :
  Calls c q (d+1) "need_alike" [.str (kS kk),.lst a] none Q E H:=by
 subst hc;refine F.alike true d _ Q E H rfl (Ss_go ?_);walk_at "";refine ae.mk (bE (k':=.map)) ?_;refine cN (fun h=>?_) (fun h=>?_)
 ·subst h;walk_at "";refine ae.mk (uO ha) ⟨gf (by exact aw [_] [] kaa (Y1 V0 (.l 100000)) (Y0 V0 (.l 64)) hz),?_⟩;rw[<- List.map_id xs];refine nJ (f:=id) (g:=fun z=>V.bool (decide ((qU z:Int)=l0.length))) (by rw[List.map_id];exact ha) (fun z hz K hK=>?_) ?_
  ·obtain⟨l,rfl⟩:=hm rfl z hz;refine ae.mk rfl ?_;walk_at "";refine ae.mk (a:=(.int l.length,H)) rfl ?_;walk_at "";refine ae.mk (dP (i:=0) ha (h0 rfl)) ?_;refine ae.mk (a:=(.int l0.length,H)) rfl ?_;walk_at "";exact hK
  walk_at "";refine ae.mk (vI (f:=fun z=>decide ((qU z:Int)=l0.length)) (zs:=xs) ba) ?_;have st:=(aa.refl (S:=[]) (H:=H)).app (xs:=xs.map fun z=>V.bool (decide ((qU z:Int)=l0.length)));generalize H++[xs.map fun z=>V.bool (decide ((qU z:Int)=l0.length))]=H1 at st;refine xD (xs.all fun z=>decide ((qU z:Int)=l0.length)) (fun e=>?_) fun e=>?_
  ·walk_at "";exact hy (fun Z x hx=>Int.ofNat.inj (of_decide_eq_true (dQ.mp e x hx))) _ st
  ·walk_at "";refine⟨rfl,?_⟩;show E (.exc "BadThing" (bK _ _)) _;rw[D9];refine hn rfl ?_ _ st;obtain⟨x,hx,hx2⟩:=List.all_eq_false.mp e;exact⟨x,hx,fun q=>hx2 (decide_eq_true (congrArg _ q))⟩
 ·walk_at "";exact hy (fun e=>absurd e h) _ aa.refl
def vx(H:Hp)(v:V):Prop:=c5 v .list=some false\/∃a xs,v=.lst a/\H[a]?=some xs/\¬(1<=xs.length/\xs.length<=64)
def vx.grow{v:V}(h:vx H v)(st:aa [] H H'):vx H' v:=h.imp id fun⟨a,xs,e,h,b⟩=>⟨a,xs,e,aH st h,b⟩
def jA(hu:vx H u)(hq:EE (.exc "BadLines" .none) [some v,some w,some u,none] H):az (Calls c) true d none jD QQ EE [some v,some w,some u,none] H:=by
 have hq':EE (.exc "BadLines" (bK (ao "BadLines") [V.str "a list of 1 to 64 things is wanted"])) [some v,some w,some u,none] H:=by
  rw[EF];exact hq
 refine Ss_go ?_;walk_at "";rcases hu with hu |⟨a,xs,rfl,ha,hb⟩
 ·refine ae.mk hu ?_;walk_at "";exact⟨rfl,hq'⟩
 ·walk_at "";refine ae.mk (eh ha) ?_;walk_at "";refine cN (fun h1=>?_) (fun h1=>?_)
  ·refine wB (fun h2=>?_) (fun h2=>absurd ⟨dO.mp h1,dO.mp h2⟩ hb);exact Fv hq'
  ·exact Fv hq'
def gX(ht:H[t]?=some xs)(hx:xs.length=n)(hn:1<=n/\n<=64)(h:az (Calls c) true d none (jD.drop 1) QQ EE [some v,some w,some (.lst t),none] H):az (Calls c) true d none jD QQ EE [some v,some w,some (.lst t),none] H:=by
 subst hx;refine Ss_go ?_;walk_at "";refine ae.mk (eh ht) ?_;walk_at "";refine ye (dO.mpr hn.1) ?_;refine wB (fun h=>absurd (dO.mpr hn.2) h) (fun Z=>?_);walk_at "";exact h
def qJ(F:eF c){net:Net}(ht:H[t]?=some xs)(hx:xs.length=n)(hn:1<=n/\n<=64)(A:aj H m bs net)(hz:net.length<=80)(hi:net[i]?=some [(0,n)])(ok:∀j y,net[j]?=some y->j=i\/fZ n y)(hq:EE (.exc "BadNet" (.int i)) [some (.lst m),some w,some (.lst t),none] H) :
  az (Calls c) true (d+4) none (jD.drop 1) QQ EE [some (.lst m),some w,some (.lst t),none] H:=by
 subst hx;refine Ss_go ?_;walk_at "";refine ae.mk (eh ht) ?_;walk_at "";refine kG (d:=d) F.chk hn A rfl (fun y hy=>?_) (fun h=>absurd h (Nat.not_lt.mpr hz)) (fun Z h=>?_) (fun j hj hl Z=>?_)
 ·obtain⟨j,hj⟩:=rg.mp hy;rcases ok j y hj with rfl |h
  ·rw[hi] at hj;exact .inr (ah hj).symm
  ·exact .inl h
 ·exact absurd (h _ (cD hi)).2.2.1 (eI _)
 ·rcases ok j _ hj with rfl |h
  ·exact hq
  ·exact absurd h.2.2.1 (eI _)
def Dk(F:eF c){net:Net}(ht:H[t]?=some xs)(hx:xs.length=n)(hn:1<=n/\n<=64)(A:aj H m bs net)(ok:fL n net)(h:az (Calls c) true (d+4) none (jD.drop 2) QQ EE [some (.lst m),some w,some (.lst t),none] H) :
  az (Calls c) true (d+4) none (jD.drop 1) QQ EE [some (.lst m),some w,some (.lst t),none] H:=by
 subst hx;refine Ss_go ?_;walk_at "";refine ae.mk (eh ht) ?_;walk_at "";refine ua F.chk hn A ok rfl ?_;exact h
def ki(F:eF c)(hw:yg w)(hq:EE (.exc "BadKind" .none) [some v,some w,some u,none] H):az (Calls c) true (d+1) none (jD.drop 2) QQ EE [some v,some w,some u,none] H:=by
 refine Ss_go ?_;walk_at "";exact GL F.n.nkind hw rfl hq
theorem El(F:eF c)(ht:H[t]?=some xs)(hp:∀x∈xs,mW x)(hy:(∀x∈xs,jf kk x=true)->∀z H',aa [] H H'->az (Calls c) true (d+4) none (jD.drop 4) QQ EE [some v,some (.str (kS kk)),some (.lst t),z] H')(hn:(∃x∈xs,jf kk x=false)->∀z H',aa [] H H'->EE (.exc "BadThing" .none) [some v,some (.str (kS kk)),some (.lst t),z] H') :
  az (Calls c) true (d+4) none (jD.drop 2) QQ EE [some v,some (.str (kS kk)),some (.lst t),none] H:=by
 refine Ss_go ?_;walk_at "";refine FR (d:=d+3) F.n.nkind rfl ?_;walk_at "";refine⟨rfl,lT (v:=.lst t) (fun K E' h=>h) ht ?_⟩;have key:∀(r done:List V),done++r=xs->(∀x∈done,jf kk x=true)->∀(z:Option V) H',aa [] H H'->nw (gx (.lst t) xs) (fun x l Q H=>ae (fX (.one 3) x l) fun l'=>az (Calls c) true (d+4) none [.expr (.call "need_thing" [(.var 1),(.var 3)])] Q EE l' H) r (d9 (az (Calls c) true (d+4) none (jD.drop 4) QQ EE) QQ) [some v,some (.str (kS kk)),some (.lst t),z] H':=by
  intro r;induction r with
  |nil=>
   intro done e hd z H' st;rw[fA] at e;exact hy (e▸hd) z H' st
  |cons x r ih=>
   intro done e hd z H' st;have hx:x∈xs:=e▸kE _ aL;refine ae.mk rfl (Ss_go ?_);walk_at "";refine jJ F.n (hp x hx) rfl (fun hg H2 st2=>?_) (fun hg H2 st2=>?_)
   ·walk_at "";exact⟨aH (st.trans0 st2) ht,ih (done++[x]) (by rw[eH];exact e) (fun y hy=>(cE.mp hy).elim (hd y) fun h=>by rw[aV.mp h];exact hg) _ _ (st.trans0 st2)⟩
   ·exact hn ⟨x,hx,hg⟩ _ _ (st.trans0 st2)
 exact key xs [] rfl (fun Z h=>nomatch h) _ _ .refl
end
variable {a:Th}
noncomputable def jF(kk:Kd)(x y:Th):Th:=eV kk y x
def fC(kk:Kd)(w m:Nat)(t:Th):Prop:=Sh kk t/\b8 t=w/\dh t<=6*m
def fC.join{x y:Th}(hx:fC kk w m x)(hy:fC kk w k y)(h:m+k<=1500):fC kk w (m+k) (eV kk x y):=by
 have ht:dh x+dh y<=6*(m+k):=Nat.mul_add 6 m k▸Nat.add_le_add hx.2.2 hy.2.2;exact⟨hx.1.join hy.1 (hx.2.1.trans hy.2.1.symm) (aB ht (Nat.mul_le_mul_left 6 h)),(Ir hx.1 hy.1).trans hx.2.1,by rw[HO hx.1 hy.1];exact ht⟩
noncomputable def ot(kk:Kd)(τ:Nat->Th)(s:List Nat)(a:Th):Th:=s.foldl (fun a y=>eV kk (τ y) a) a
theorem jV{y:Nat}:ot kk τ (y::s) a=ot kk τ s (eV kk (τ y) a):=rfl
theorem Cw(hτ:∀x,x<n->fC kk w 1 (τ x)):∀{s:List Nat}{m:Nat}{b:Th},fC kk w m b->(∀z∈s,z<n)->m+s.length<=1500->fC kk w (m+s.length) (ot kk τ s b)
 |[],_,_,hb,_,_=>hb
 |y::s,m,b,hb,hs,h=>by
  have e:1+m+s.length=m+(y::s).length:=by rw[eU,Nat.add_comm 1 m,Nat.add_assoc,Nat.add_comm 1]
  rw[<- e] at h ⊢;exact Cw hτ ((hτ y (hs y aL)).join hb (aB (fM _ _) h)) (fun z hz=>hs z (a9 _ hz)) h
theorem E0(hτ:∀x,x<n->fC kk w 1 (τ x))(ha:Sh kk a):∀{s:List Nat}{m:Nat}{b:Th},fC kk w m b->(∀z∈s,z<n)->m+s.length<=1500->ot kk τ s (eV kk b a)=eV kk (ot kk τ s b) a
 |[],_,_,_,_,_=>rfl
 |y::s,m,b,hb,hs,h=>by
  have e:1+m+s.length=m+(y::s).length:=by rw[eU,Nat.add_comm 1 m,Nat.add_assoc,Nat.add_comm 1]
  rw[<- e] at h;have hy:=hτ y (hs y aL);rw[jV,jV,IU hy.1.sv hb.1.sv ha.sv (hy.2.1.trans hb.2.1.symm)];exact E0 hτ ha (hy.join hb (aB (fM _ _) h)) (fun z hz=>hs z (a9 _ hz)) h
def fp(kk:Kd)(n:Nat)(τ:Nat->Th)(v:Th)(r:List Nat):Prop:=∃x s,r=x::s/\(∀z∈r,z<n)/\(r.length<=1500->v=ot kk τ s (τ x))
def fp.ok{v:Th}(hτ:∀x,x<n->fC kk w 1 (τ x))(R:fp kk n τ v r)(h:r.length<=1500):fC kk w r.length v:=by
 obtain⟨x,s,rfl,hs,e⟩:=R;rw[e h,eU,Nat.add_comm];rw[eU,Nat.add_comm] at h;exact Cw hτ (hτ x (hs x aL)) (fun z hz=>hs z (a9 _ hz)) h
def fp.join{u v:Th}{t:List Nat}(hτ:∀x,x<n->fC kk w 1 (τ x))(R:fp kk n τ u r)(S:fp kk n τ v t):fp kk n τ (jF kk u v) (r++t):=by
 have R0:=R;obtain⟨x,s,rfl,hs,e⟩:=R;obtain⟨y,t,rfl,ht,f⟩:=S;refine⟨x,s++y::t,rfl,fun z hz=>(cE.mp hz).elim (hs z) (ht z),fun h=>?_⟩;rw[bG] at h;have h1:(x::s).length<=1500:=aB (fM _ _) h;have h2:(y::t).length<=1500:=aB (Nat.le_add_left _ _) h;have hu:=(R0.ok hτ h1).1;rw[f h2];have e1:=e h1;subst e1;unfold ot at hu ⊢;rw[List.foldl_append];refine Eq.symm (E0 hτ hu (hτ y (ht y aL)) (fun z hz=>ht z (a9 _ hz)) ?_);rw[Nat.add_comm];exact h2
theorem Gg(hσ:∀x,x<n->fC kk w 1 (σ x)):∀{net:Net}{τ:Nat->Th}{ρ:Nat->List Nat},eg n net->(∀x,x<n->fp kk n σ (τ x) (ρ x))->∀x,x<n->fp kk n σ (aX (jF kk) net τ x) (aX (·++·) net ρ x)
 |[],_,_,_,h=>h
 |y::net,τ,ρ,hf,h=>Gg hσ (net:=net) (fun z hz=>hf z (a9 _ hz)) fun x hx=>by
  have hy:=hf y aL;unfold bx;generalize e:y.find? (fun p=>p.2==x)=o;cases o with
  |none=>exact h x hx
  |some p=>
   have hp:=hy.1 p (rh e);exact(h p.1 (cw hp.1 hp.2)).join hσ (h x hx)
def FW{net:Net}(hσ:∀x,x<n->fC kk w 1 (σ x))(hf:eg n net)(hx:x<n):fp kk n σ (aX (jF kk) net σ x) (pq net x):=
 Gg hσ hf (τ:=σ) (ρ:=fun x=>[x]) (fun x hx=>⟨x,[],rfl,fun y hy=>by rw[aV.mp hy];exact hx,fun Z=>rfl⟩) x hx
noncomputable def jl(kk:Kd)(net:Net)(σ:Nat->Th)(i:Nat):Nat->Th:=aX (jF kk) (net.take i) σ
def mU{net:Net}(h:net[i]?=some y):jl kk net σ (i+1)=bx (jF kk) y (jl kk net σ i):=by
 unfold jl;rw[List.take_add_one,h,vU];rfl
def qb{net:Net}:jl kk net σ net.length=aX (jF kk) net σ:=by unfold jl;rw[List.take_length]
def ud{net:Net}(hσ:∀x,x<n->fC kk w 1 (σ x))(hf:eg n net)(hn1:1<=n)(hn:n<=64)(ht:c9 n net=true)(i x:Nat)(hx:x<n):Sh kk (jl kk net σ i x)/\b8 (jl kk net σ i x)=w:=by
 have hl:(pq (net.take i) x).length<=1500:=by
  rw[Ef];exact aB (jU (kQ hf hn1 ((C4 hf).mp ht)) i x) (aB hn (by decide))
 have:=(FW hσ (fun y hy=>hf y (List.mem_of_mem_take hy)) hx).ok hσ hl;exact⟨this.1,this.2.1⟩
noncomputable def dJ(kk:Kd)(τ:Nat->Th)(k:Nat):Th:=ot kk τ ((List.range k).map (· + 1)) (τ 0)
def nh:dJ kk τ (k+1)=eV kk (τ (k+1)) (dJ kk τ k):=by
 unfold dJ ot;rw[List.range_succ,du,List.foldl_append];rfl
def nT{net:Net}(hσ:∀x,x<n->fC kk w 1 (σ x))(hf:eg n net)(ht:c9 n net=true)(hn:n<=64)(hx:x<n):aX (jF kk) net σ x=dJ kk σ x:=by
 obtain⟨y,s,e,_,h⟩:=FW hσ hf hx;rw[(C4 hf).mp ht x hx] at e h;rw[h (by rw[dj];exact aB hx (aB hn (by decide)))];rw[List.range_succ_eq_map] at e;obtain⟨e1,e2⟩:=List.cons.inj e;rw[<- e1,<-e2];rfl
def BB(hσ:∀x,x<n->fC kk w 1 (σ x))(hn:n<=64)(hx:x<n):Sh kk (dJ kk σ x)/\b8 (dJ kk σ x)=w:=by
 have:=Cw hσ (s:=(List.range x).map (· + 1)) (hσ 0 (b0 (dF _) hx)) (fun z hz=>by
  revert hz;refine xL fun k hk wj=>?_;subst wj;exact b0 (eZ.mp hk) hx) (by rw[aG,dj,Nat.add_comm];exact aB hx (aB hn (by decide)))
 exact⟨this.1,this.2.1⟩
noncomputable def nB(n:Nat)(σ:Nat->Th)(x:Nat):Th:=σ (n-1-x)
def ER:(bo n σ).reverse=bo n (nB n σ):=by
 refine List.ext_getElem? fun i=>?_;by_cases hi:i<n
 ·rw[List.getElem?_reverse (by rw[dH];exact hi),dH,gL (by exact aw [_,_] [] kag (Y1 (Y2 (Y2 V0 J1) V1) V0) (Y1 V1 V0) hi),gL hi];rfl
 ·rw[iP (by rw[List.length_reverse,dH];exact eP hi),iP (by rw[dH];exact eP hi)]
theorem xX{x y:V}:vD 21 x y z=[z,y,x]:=by simp[vD]
def AI(H:Hp)(kk:Kd)(n a t:Nat)(net:Net)(σ:Nat->Th)(i:Nat)(x0:Loc)(H':Hp):Prop:=∀GJ:Prop,(∀(g:Nat),∀(v3 v4 v5 v6:Option V),(H'[g]?=some (bo n (jl kk net σ i)))->aa [] H H'->H.length<=g->[some (.lst a),some (.lst t),some (.lst g),v3,v4,v5,v6]=x0->GJ)->GJ
def tr(P:vc c "carried" 2 7 FJ)(F:FnsK c){a:Nat}{net:Net}(A:aj H a bs net)(ht:H[t]?=some (bo n σ))(hf:eg n net)(hT:∀i x,x<n->Sh kk (jl kk net σ i x)/\b8 (jl kk net σ i x)=w)(hc:q=true) (hq:∀g H',iB H g (bo n (aX (jF kk) net σ)) H'->Q (.lst g) H'):Calls c q (d+3) "carried" [.lst a,.lst t] (some (21,.str (kS kk))) Q E H:=by
 subst hc;refine P true (d+2) 21 _ _ Q E H rfl (Ss_go ?_);walk_at "";refine bU (vE ht) fun g H1 N=>?_;walk_at "";refine⟨rfl,lT (v:=.lst a) (fun K E' h=>h) (aH N.st A.top) ?_⟩;refine xH (AI H kk n a t net σ) ?_ ?_ (fun Z kJ=>kJ g _ _ _ _ N.hold N.st N.lo rfl)
 ·clear N;intro i x l' H' K hx hI hnext hret;refine hI _ fun g v3 v4 v5 v6 hg st lo wg=>?_;clear hI;subst wg;rw[bL] at hx;revert hx;refine xM fun b hb wj=>?_;subst wj;obtain⟨y,hy,hby⟩:=(A.grow st).get hb;have hfy:=hf y (cD hy);walk_at "";refine bU (vE hg) fun g' H'' N=>?_;walk_at "";have st2:=st.trans0 N.st;refine⟨rfl,lT (v:=.lst b) (fun K E' h=>h) (aH N.st hby) ?_⟩;have hng:g'≠g:=Nat.ne_of_gt (dg (dG hg) N.lo);refine nR (J:=jF kk) (sr:=g) (fun u v=>[some (.lst a),some (.lst t),some (.lst g),some (.lst b),some (.lst g'),u,v]) (fun Z Z Z Z=>rfl) (fun Z Z=>rfl) (fun Z Z=>rfl) hng N.hold (aH N.st hg) st2 (aB st.len N.lo) (fun H' st'=>(A.grow st').lay i b y hb hy) hfy.1 hfy.2 (fun x y H' K E' hx hy hs hK=>?_) fun u v H3 ht3 st3=>?_
  ·obtain⟨a1,a2⟩:=hT i x hx;obtain⟨b1,b2⟩:=hT i y hy;refine mC rfl ?_;walk_at "";refine ae.mk (dP hs (gL hx)) ?_;walk_at "";refine ae.mk (dP hs (gL hy)) ?_;refine ae.mk rfl ?_;show Calls c true (d+1) ie (vD 21 (jl kk net σ i x).v (jl kk net σ i y).v (.str (kS kk))) none K fu H';rw[xX];exact te F b1 a1 (DC (b2.trans a2.symm)) rfl fun H'' st''=>hK H'' st''
  ·walk_at "";exact hnext _ _ (A.grow st3).top (fun Z kJ=>kJ g' _ _ _ _ (by rw[mU hy];exact ht3) st3 (aB st.len N.lo) rfl)
 ·clear N;intro l' H' hI;refine hI _ fun g v3 v4 v5 v6 hg st lo wg=>?_;clear hI;subst wg;rw[aG,A.len,qb] at hg;walk_at "";exact hq g H' ⟨st,hg,lo⟩
structure bN(c:Cx):Prop where
 v:eF c
 does:aK c "does_tell" 2 8 DS
 car:vc c "carried" 2 7 FJ
 led:aK c "led" 3 3 pU
 ends:aK c "ends" 3 3 Ft
 word:aK c "_law_word" 1 2 BR
 lled:aK c "_law_led" 3 4 I0
 tried:aK c "_law_tried" 3 4 Ki
def pS(F:eF c){net:Net}(A:aj H m bs net)(ok:fL n net)(ht:H[t]?=some (bo n σ))(hn:1<=n/\n<=64)(hT:i9 kk w n (fun Z=>6) σ)(hS:∀x,x<n->lB kk (σ x))(hc:q=true)(hq:∀H',aa [] H H'->Q .none H'):Calls c q (d+5) "need_things" [.lst m,.str (kS kk),.lst t] none Q E H:=by
 subst hc;refine F.things true (d+4) _ Q E H rfl ?_;refine gX ht dH hn (Dk F ht dH hn A ok (El F ht (fun x hx=>?_) (fun Z z H1 st1=>?_) (fun h=>?_)))
 ·revert hx;refine xL fun i hi wj=>?_;subst wj;exact B7 (hT i (eZ.mp hi)).1
 ·refine Ss_go ?_;walk_at "";have ml:kk=.map->∀i,i<n->∃l:List V,(σ i).v=.tup l/\l.length=w:=fun e i hi=>by
   subst e;obtain⟨a,b,_⟩:=hT i hi;obtain⟨ns,e⟩:=gd a;exact⟨ns.map nat,by rw[e];rfl,by rw[<- b,e,aG];rfl⟩
  have h0:∃l0:List V,kk=.map->(σ 0).v=.tup l0/\l0.length=w:=by
   by_cases e:kk=.map
   ·obtain⟨l,h⟩:=ml e 0 hn.1;exact⟨l,fun Z=>h⟩
   ·exact⟨[],fun h=>absurd h e⟩
  obtain⟨l0,h0⟩:=h0;refine Ee (l0:=l0) F.n (aH st1 ht) (fun e=>(gL hn.1).trans (congrArg some (h0 e).1)) (by rw[dH];exact hn.2) (fun e x hx=>?_) rfl (fun Z H2 st2=>?_) (fun e hx=>?_)
  ·revert hx;refine xL fun i hi wj=>?_;subst wj;obtain⟨l,h,_⟩:=ml e i (eZ.mp hi);exact⟨l,h⟩
  ·walk_at "";exact hq H2 (st1.trans0 st2)
  ·obtain⟨x,hx,hne⟩:=hx;revert hx;refine xL fun i hi wj=>?_;subst wj;obtain⟨l,h,h'⟩:=ml e i (eZ.mp hi);exact absurd (by rw[h];exact h'.trans (h0 e).2.symm) hne
 ·obtain⟨x,hx,hne⟩:=h;revert hx;refine xL fun i hi wj=>?_;subst wj;have hi:=eZ.mp hi;rw[oV (hT i hi).1 (hS i hi) (aB (hT i hi).2.2 (show 6<=1000 by decide))] at hne;cases hne
def CD(hn:1<=n)(hT:i9 kk w n (fun Z=>6) σ)(x:Nat)(hx:x<n):fC kk w 1 (nB n σ x):=hT (n-1-x) (by exact aw [_,_] [] kag (Y1 (Y2 (Y2 V0 J1) V1) V0) (Y0 J1 V0) hn)
noncomputable def fV(kk:Kd)(n:Nat)(σ:Nat->Th)(x:Nat):Th:=dJ kk (nB n σ) (n-1-x)
def A8(F:bN c){net:Net}(A:aj H m bs net)(ok:fL n net)(ht:H[t]?=some (bo n σ))(hn:1<=n/\n<=64)(hT:i9 kk w n (fun Z=>6) σ)(hS:∀x,x<n->lB kk (σ x))(hc:q=true) (hq:c9 n net=true->∀g H',iB H g (bo n (fV kk n σ)) H'->Q (.lst g) H') (hx:c9 n net=false->∀H',aa [] H H'->E (.exc "NoNet" .none) H'):Calls c q (d+6) "ends" [.lst m,.str (kS kk),.lst t] none Q E H:=by
 subst hc;refine F.ends true (d+5) _ Q E H rfl (Ss_go ?_);walk_at "";refine pS F.v A ok ht hn hT hS rfl fun H1 st1=>?_;walk_at "";refine ae.mk (eh (aH st1 ht)) ?_;rw[dH];walk_at "";refine JI (d:=d+4) F.does (A.grow st1) hn.2 ok.fair rfl fun H2 st2=>?_;have s2:=st1.trans0 st2;walk_at "";refine xD (c9 n net) (fun e=>?_) fun e=>?_
 ·walk_at "";refine lr rfl ?_;walk_at "";refine bU (BK (aH s2 ht)) fun t2 H3 N3=>?_;walk_at "";have s3:=s2.trans0 N3.st;refine tr (d:=d+2) F.car F.v.n.toFnsK (σ:=nB n σ) (A.grow s3) (N3.hold.trans (congrArg some ER)) ok.fair (ud (CD hn.1 hT) ok.fair hn.1 hn.2 e) rfl fun g H4 N4=>?_;walk_at "";refine bU (BK N4.hold) fun g5 H5 N5=>?_;walk_at "";refine hq e _ _ ⟨s3.trans0 (N4.st.trans0 N5.st),?_,aB s3.len (aB N4.st.len N5.lo)⟩;rw[N5.hold,ER];exact congrArg some (Kb fun x hx=>nT (CD hn.1 hT) ok.fair e hn.2 (by exact aw [_,_] [] kag (Y1 (Y2 (Y2 V0 J1) V1) V0) (Y0 J1 V0) hn.1))
 ·walk_at "";refine⟨rfl,?_⟩;show E (.exc "NoNet" (bK _ _)) _;rw[kL];exact hx e _ s2
variable {a:Nat}{s:Str}{x:V}
def HQ:rk (ao "BadKind") "kind" true false false false false:=⟨by decide +kernel,by decide +kernel,by decide +kernel,by decide +kernel,by decide +kernel,by decide +kernel,by decide,rfl,by decide⟩
def Io:rk (ao "BadThing") "thing" false true false false false:=⟨by decide +kernel,by decide +kernel,by decide +kernel,by decide +kernel,by decide +kernel,by decide +kernel,by decide,rfl,by decide⟩
inductive cG:V->List V->Prop
 |lines:cG (.exc "BadLines" .none) [.str "lines"]
 |kind:cG (.exc "BadKind" .none) [.str "kind"]
 |thing:cG (.exc "BadThing" .none) [.str "thing"]
 |none:cG (.exc "NoNet" .none) [.str "none"]
 |net (i:Nat):cG (.exc "BadNet" (.int i)) [.str "net",.int i]
theorem cG.word{W:List V}(h:cG z W)(hq:∀a H',iB H a W H'->Q (.lst a) H'):ee Q z H:=by
 cases h with
 |lines=>exact HU hq
 |kind=>exact .word _ _ _ _ _ _ rfl HQ hq
 |thing=>exact .word _ _ _ _ _ _ rfl Io hq
 |none=>exact J4 hq
 |net i=>exact .net _ rfl rfl hq
theorem cG.eq{W:List V}(h:cG z W)(ha:H[a]?=some W)(hb:H[b]?=some W):fB H (.lst a) (.lst b)=some true:=by
 cases h with
 |lines=>exact gS mH ha hb
 |kind=>exact gS (by decide +kernel) ha hb
 |thing=>exact gS (by decide +kernel) ha hb
 |none=>exact gS oJ ha hb
 |net i=>exact yY rfl ha hb
section
variable {v w:V}
def d0(c:Cx)(v w u z:V)(H:Hp):Prop:=∀{d:Nat}{Q:V->Hp->Prop}{E:XPost}{H':Hp},aa [] H H'->(∀H1,aa [] H' H1->E z H1)->Calls c true (d+5) "need_things" [v,w,u] none Q E H'
def Ap(c:Cx)(f:Str)(v w u:V)(W:List V)(H:Hp):Prop:=∀{d:Nat}{Q:V->Hp->Prop}{E:XPost}{H':Hp},aa [] H H'->(∀a H1 H2,aa [] H' H1->iB H1 a W H2->Q (.lst a) H2)->Calls c true (d+8) f [v,w,u] none Q E H'
def AX(F:bN c)(h:∀{K:V->Hp->Prop}{X:XPost},(∀r H',Q (.tup [r]) H'->K r H')->(∀z H',ee Q z H'->X z H')->Calls c true (d+1) "ends" [v,w,u] none K X H)(hc:q=true):Calls c q (d+2) "_law_tried" [v,w,u] none Q E H:=by
 subst hc;refine F.tried true (d+1) _ Q E H rfl (Ss_go ?_);walk_at "";refine⟨rfl,?_⟩;refine Ss_go ?_;walk_at "";refine h (fun r H' h=>?_) (fun z H' h=>?_)
 ·exact h
 ·obtain⟨h1,h2⟩:=FE (q:=false) (d:=d) (E:=fun Z Z=>False) F.word h;refine⟨h1,?_⟩;refine Ss_go ?_;walk_at "";exact h2
def tW(F:bN c){W:List V}(D:cG z W)(R:d0 c v w u z H):Ap c "_law_tried" v w u W H:=by
 intro d Q E H' st hq;refine AX (d:=d+6) F (fun hK hX=>?_) rfl;refine F.ends true (d+6) _ _ _ _ rfl (Ss_go ?_);walk_at "";exact R (d:=d+1) st fun H1 st1=>hX _ _ (D.word fun a H2 N=>hq a H1 H2 st1 N)
def sj(F:bN c){W:List V}(D:cG z W)(R:d0 c v w u z H):Ap c "_law_led" v w u W H:=by
 intro d Q E H' st hq;refine F.lled true (d+7) _ Q E _ rfl (Ss_go ?_);walk_at "";refine⟨rfl,?_⟩;refine Ss_go ?_;walk_at "";refine F.led true (d+6) _ _ _ _ rfl (Ss_go ?_);walk_at "";refine R (d:=d+1) st fun H1 st1=>?_;obtain⟨h1,h2⟩:=FE (q:=false) (d:=d+6) (E:=fun Z Z=>False) F.word (D.word fun a H2 N=>hq a H1 H2 st1 N);refine⟨h1,?_⟩;refine Ss_go ?_;walk_at "";exact h2
def uB(F:bN c){w:Nat}{net:Net}(A:aj H m bs net)(ok:fL n net)(ht:H[t]?=some (bo n σ))(hn:1<=n/\n<=64)(hT:i9 kk w n (fun Z=>6) σ)(hS:∀x,x<n->lB kk (σ x))(hf:c9 n net=false):Ap c "_law_tried" (.lst m) (.str (kS kk)) (.lst t) [.str "none"] H:=by
 intro d Q E H' st hq;exact AX (d:=d+6) F (fun hK hX=>A8 (d:=d+1) F (A.grow st) ok (aH st ht) hn hT hS rfl (fun h=>by rw[hf] at h;cases h) fun Z H1 st1=>hX _ _ (cG.none.word fun a H2 N=>hq a H1 H2 st1 N)) rfl
def mz(F:eF c)(h:vx H u):d0 c v w u (.exc "BadLines" .none) H:=fun{d} {_} {_} {_} st hX=>
 F.things true (d+4) _ _ _ _ rfl (jA (h.grow st) (hX _ .refl))
def sg(F:eF c){net:Net}(ht:H[t]?=some xs)(hx:xs.length=n)(hn:1<=n/\n<=64)(A:aj H m bs net)(hz:net.length<=80)(hi:net[i]?=some [(0,n)])(ok:∀j y,net[j]?=some y->j=i\/fZ n y):d0 c (.lst m) w (.lst t) (.exc "BadNet" (.int i)) H:=fun{d} {_} {_} {_} st hX=>
 F.things true (d+4) _ _ _ _ rfl (gX (aH st ht) hx hn (qJ F (aH st ht) hx hn (A.grow st) hz hi ok (hX _ .refl)))
def pK(F:eF c){net:Net}(ht:H[t]?=some xs)(hx:xs.length=n)(hn:1<=n/\n<=64)(A:aj H m bs net)(ok:fL n net)(hw:yg w):d0 c (.lst m) w (.lst t) (.exc "BadKind" .none) H:=fun{d} {_} {_} {_} st hX=>
 F.things true (d+4) _ _ _ _ rfl (gX (aH st ht) hx hn (Dk F (aH st ht) hx hn (A.grow st) ok (ki (d:=d+3) F hw (hX _ .refl))))
def Am(kk:Kd)(xs:List V):Prop:=(∀x∈xs,mW x)/\((∃x∈xs,jf kk x=false)\/(kk=.map/\∃l0,xs[0]?=some (.tup l0)/\∃x∈xs,qU x≠l0.length))
theorem qk(h:jf .map x=true):∃l,x=.tup l:=by
 cases x with
 |tup l=>exact⟨l,rfl⟩
 |_=>injection h
def lH(F:eF c){net:Net}(ht:H[t]?=some xs)(hx:xs.length=n)(hn:1<=n/\n<=64)(A:aj H m bs net)(ok:fL n net)(B:Am kk xs):d0 c (.lst m) (.str (kS kk)) (.lst t) (.exc "BadThing" .none) H:=fun{d} {_} {_} {_} st hX=>
 F.things true (d+4) _ _ _ _ rfl (gX (aH st ht) hx hn (Dk F (aH st ht) hx hn (A.grow st) ok (El F (aH st ht) B.1 (fun hg z H1 st1=>by
  rcases B.2 with⟨x,hx,h⟩|⟨rfl,l0,h0,h⟩
  ·rw[hg x hx] at h;cases h
  ·refine Ss_go ?_;walk_at "";refine Ee (l0:=l0) (d:=d+3) F.n (kk:=.map) (aH (st.trans0 st1) ht) (fun Z=>h0) (hx▸hn.2) (fun Z x hx=>qk (hg x hx)) rfl (fun h'=>?_) (fun Z Z H2 st2=>?_)
   ·obtain⟨x,hx,hne⟩:=h;exact absurd (h' rfl x hx) hne
   ·exact hX _ (st1.trans0 st2)) fun Z z H1 st1=>hX _ st1)))
end
noncomputable def CI:List St:=[.ite (.and [.cmp (.wx 4) [.lt] [.ww 4],.cmp (.call "_law_led" [.wx 0,.wx 1,.wx 2]) [.ne] [.wx 7]]) [.ret (.lit (.bool false))] [],.ret (.cmp (.call "_law_tried" [.wx 0,.wx 1,.wx 2]) [.eq] [.wx 7])]
noncomputable def xG:List St:=[.set 2 (.idx (.list [.list [],.blt .tuple [.wx 2],.lit .none,.bin .mul (.list [.ww 0]) (.ww 65)]) (.bin .mod (.bin .div (.wx 3) (.ww 480)) (.ww 4)))]
noncomputable def BX:List St:=.ite (.cmp (.wx 4) [.eq] [.ww 0]) xG []::CI
noncomputable def y8:List St:=[.set 8 (.bin .mod (.bin .div (.wx 3) (.ww 33)) (.bin .add (.blt .len [.wx 0]) (.ww 1))),.set 0 (.bin .add (.bin .add (.slice (.wx 0) (.lit .none) (.wx 8)) (.list [.list [.tup [.ww 0,.blt .len [.wx 2]]]])) (.slice (.wx 0) (.wx 8) (.lit .none))),.set 7 (.idx (.list [.wx 7,.list [.lit (.str "net"),.wx 8]]) (.blt .int [.cmp (.wx 4) [.eq] [.ww 1]]))]
noncomputable def Ca:List St:=.ite (.or [.cmp (.wx 4) [.eq] [.ww 1],.cmp (.wx 5) [.eq] [.ww 1]]) y8 []::BX
noncomputable def yl:List St:=[.set 1 (.idx (.list [.lit (.str "sums"),.lit .none,.lit (.str ""),.ww 5]) (.bin .mod (.bin .div (.wx 3) (.ww 480)) (.ww 4)))]
noncomputable def zF:List St:=.ite (.or [.cmp (.wx 4) [.eq] [.ww 2],.cmp (.wx 5) [.eq] [.ww 2]]) yl []::Ca
noncomputable def yw:List St:=[.put (.wx 2) (.wx 6) (.blt .tuple [.blt .range [.bin .add (.ww 1) (.bin .mod (.blt .len [.idx (.wx 2) (.bin .sub (.wx 6) (.ww 1))]) (.ww 8))]])]
noncomputable def wM:List St:=[.ite (.and [.cmp (.wx 1) [.eq] [.lit (.str "map")],.cmp (.blt .len [.wx 2]) [.gt] [.ww 1],.cmp (.bin .mod (.bin .div (.wx 3) (.ww 480)) (.ww 2)) [.eq] [.ww 0]]) yw []]
noncomputable def yy:List St:=.set 2 (.bin .add (.bin .add (.slice (.wx 2) (.lit .none) (.wx 6)) (.list [.idx (.list [.lit (.bool true),.lit .none,.list [.ww 1],.dict0,.bin .pow (.ww 10) (.ww 13)]) (.bin .mod (.bin .div (.wx 3) (.ww 480)) (.ww 5))])) (.slice (.wx 2) (.bin .add (.wx 6) (.ww 1)) (.lit .none)))::wM
noncomputable def zC:List St:=.ite (.or [.cmp (.wx 4) [.eq] [.ww 3],.cmp (.wx 5) [.eq] [.ww 3]]) yy []::zF
noncomputable def sH:List St:=[.ite (.cmp (.wx 0) [.eq] [.list []]) [.ret (.lit (.bool true))] [],.set 0 (.call "_law_untelling" [.wx 0,.blt .len [.wx 2],.bin .div (.wx 3) (.ww 15)])]
noncomputable def AM:List St:=.ite (.or [.cmp (.wx 4) [.eq] [.ww 4],.cmp (.wx 5) [.ge] [.ww 4]]) sH []::zC
noncomputable def AN:List St:=.set 4 (.bin .mod (.wx 3) (.ww 5))::.set 5 (.bin .add (.wx 4) (.bin .mod (.bin .div (.wx 3) (.ww 5)) (.ww 3)))::.set 6 (.bin .mod (.bin .div (.wx 3) (.ww 15)) (.blt .len [.wx 2]))::.set 7 (.idx (.list [.list [.lit (.str "lines")],.list [.lit (.str "net"),.ww 0],.list [.lit (.str "kind")],.list [.lit (.str "thing")],.list [.lit (.str "none")]]) (.wx 4))::AM
abbrev cV (v0 v1 v2 v3 v4 v5 v6 v7 v8:Option V):Loc:=[v0,v1,v2,v3,v4,v5,v6,v7,v8]
noncomputable def BD(k:Nat):List V:=if k=0 then[.str "lines"] else if k=1 then[.str "net",.int 0] else if k=2 then[.str "kind"] else if k=3 then[.str "thing"] else[.str "none"]
structure gy(c:Cx):Prop where
 f:bN c
 unt:aK c "_law_untelling" 3 9 Cf
 cross:aK c "_law_crossed" 2 7 AB
def vB(c:Cx)(k:Nat)(v w u:V)(W:List V)(H:Hp):Prop:=(k<4->∃z,cG z W/\d0 c v w u z H)/\(¬k<4->W=[.str "none"]/\Ap c "_law_tried" v w u W H)
structure Tn(H:Hp)(t n:Nat)(xs:List V)(m:Nat)(bs:List Nat)(net:Net):Prop where
 ht:H[t]?=some xs
 len:xs.length=n
 hn:1<=n/\n<=64
 A:aj H m bs net
 ok:fL n net
 hz:net.length<=70
def zt{v w:V}{W:List V}(hk:k<4)(D:cG z W)(R:d0 c v w u z H):vB c k v w u W H:=⟨fun Z=>⟨z,D,R⟩,fun h=>absurd hk h⟩
def d0.grow{v w:V}(R:d0 c v w u z H)(st:aa [] H H'):d0 c v w u z H':=fun st2 hq=>R (st.trans0 st2) hq
def j1(F:bN c){v2:V}{W:List V}(hd:H[due]?=some W)(A:vB c k v0 v1 v2 W H)(hQ:∀l H,QQ (.ret (.bool true)) l H) :
  az (Calls c) true (d+8) none CI QQ EE (cV (some v0) (some v1) (some v2) v3 (some (.int k)) v5 v6 (some (.lst due)) v8) H:=by
 unfold CI cV;walk_at "g";walk_at "d";refine cN (fun h=>?_) (fun h=>?_)
 ·obtain⟨z,D,R⟩:=A.1 (bW.mp h);refine sj F D R (d:=d) .refl fun a H1 H2 st N=>?_;have s2:=st.trans0 N.st;refine ae.mk (lI (D.eq N.hold (aH s2 hd))) ?_;walk_at "";refine tW F D (R.grow s2) (d:=d) .refl fun a H3 H4 st N=>?_;walk_at "";refine ae.mk (q6 (D.eq N.hold (aH (s2.trans0 (st.trans0 N.st)) hd))) ?_;walk_at "";exact hQ _ _
 ·obtain⟨rfl,G⟩:=A.2 fun h'=>h (bW.mpr h');walk_at "";refine G (d:=d) .refl fun a H3 H4 st N=>?_;walk_at "";refine ae.mk (q6 (cG.none.eq N.hold (aH (st.trans0 N.st) hd))) ?_;walk_at "";exact hQ _ _
def Bs(F:bN c){W:List V}{cell:Nat}(hd:H[due]?=some W)(ht:H[t]?=some xs)(h0:k=0->W=[.str "lines"])(A:k≠0->vB c k v0 v1 (.lst t) W H)(hQ:∀l H,QQ (.ret (.bool true)) l H) :
  az (Calls c) true (d+8) none BX QQ EE (cV (some v0) (some v1) (some (.lst t)) (some (.int cell)) (some (.int k)) v5 v6 (some (.lst due)) v8) H:=by
 unfold BX;walk_at "g";walk_at "d";refine cN (fun e=>?_) (fun e=>?_)
 ·obtain rfl:k=0:=Int.ofNat.inj e;obtain rfl:=h0 rfl;unfold xG cV;walk_at "g";rw[S_set];refine yH (P:=fun Z H v=>vx H v) (j:=cell/480%4) (fun Z Z Z Z st h=>h.grow st) (.cons (fun H' K E st hK=>hK _ _ aa.refl.app (.inr ⟨_,_,rfl,ba,fun h=>absurd h.1 (by decide)⟩)) (.cons (fun H' K E st hK=>?_) (.lit (fun Z=>.inl rfl) (.cons (fun H' K E st hK=>?_) .nil)))) (Nat.mod_lt _ (by decide)) (fun H' K st hK=>?_) fun v H1 s1 hv=>?_
  ·walk_at "d";exact ae.mk (Ay (aH st ht)) (hK _ _ .refl (.inl rfl))
  ·walk_at "d";refine bU (jy (n:=65) ba (by decide)) fun x H6 N=>?_;exact hK _ _ (aa.refl.app.trans0 N.st) (.inr ⟨_,_,rfl,N.hold,fun h=>absurd h.2 (by rw[List.length_replicate];decide)⟩)
  ·walk_at "d";refine ij (b:=480) (by decide) ?_;exact fE (b:=4) (by decide) hK
  walk_at "g";walk_at "g";walk_at "g";exact j1 F (aH s1 hd) (zt (by decide) .lines (mz F.v hv)) hQ
 ·walk_at "g";walk_at "g";exact j1 F hd (A fun e'=>e (by rw[e'];rfl)) hQ
def Fj{ix:Ex}(h1:l.getD a none=some (.lst t))(h2:l.getD i none=some (.int n))(hx:H[t]?=some xs)(hz:xs.length<1000)(he:∀H' (K:V->Hp->Prop),aa [] H H'->(∀v H2,aa [] H' H2->R H2 v->K v H2)->aD C true d none e l K E H')(hi:∀H' (K:V->Hp->Prop),K (.int m) H'->aD C true d none ix l K E H') (hq:∀v r H2 H5,R H2 v->aa [] H2 H5->iB H r (xs.take n++[v]++xs.drop m) H5->Q (.lst r) H5):aD C true d none (.bin .add (.bin .add (.slice (.var a) (.lit .none) (.var i)) (.list [e])) (.slice (.var a) ix (.lit .none))) l Q E H:=by
 rw[E_bin,E_bin,E_slice,E_var,h1];refine ae.mk rfl ?_;rw[E_lit,E_var,h2];refine ae.mk rfl ?_;refine bU (zy hx) fun t1 H1 N1=>?_;rw[E_list,L_cons];refine he _ _ N1.st fun v H2 s2 hv=>?_;rw[L_nil];have s3:=(aa.refl (S:=[]) (H:=H2)).app (xs:=[v]);refine bU (mZ (aH (s2.trans0 s3) N1.hold) ba (by rw[gP];show _+1<_;exact aw [_,_] [] 0x65294001840300c20200610040808401 (Y1 (Y0 (Y5 V0 V1) J1) (.l 100000)) (Y1 V1 (.l 1000)) hz)) fun t2 H3 N2=>?_;rw[E_slice,E_var,h1];refine ae.mk rfl ?_;refine hi _ _ ?_;rw[E_lit];have s4:=N1.st.trans0 (s2.trans0 (s3.trans0 N2.st));refine bU (wi (aH s4 hx)) fun t3 H4 N3=>?_;refine bU (mZ (aH N3.st N2.hold) N3.hold (by rw[bG,gP,hZ];show _+1+_<_;exact aw [_,_,_] [] 0x63294a50006101803100e01840400c20000a20842808401 (Y1 (Y0 (Y0 (Y5 V0 V1) J1) (Y2 V1 V2)) (.l 100000)) (Y1 V1 (.l 1000)) hz)) fun t4 H5 N4=>?_;have s5:=s4.trans0 N3.st;exact hq v _ _ _ hv (s3.trans0 (N2.st.trans0 (N3.st.trans0 N4.st))) ⟨s5.trans0 N4.st,N4.hold,aB s5.len N4.lo⟩
def mP(F:bN c){W:List V}{net:Net}{cell:Nat}(hd:H[due]?=some W)(T:Tn H t n xs m bs net)(h0:k=0->W=[.str "lines"])(A:2<=k->vB c k (.lst m) v1 (.lst t) W H)(hQ:∀l H,QQ (.ret (.bool true)) l H) :
  az (Calls c) true (d+8) none Ca QQ EE (cV (some (.lst m)) (some v1) (some (.lst t)) (some (.int cell)) (some (.int k)) (some (.int (k+j:Nat))) v6 (some (.lst due)) v8) H:=by
 unfold Ca;walk_at "g";refine BP (i:=4) (j:=5) (t:=1) rfl rfl (fun e=>?_) (fun e=>?_)
 ·have hk1:k<=1:=by exact aw [_,_] [] kar (Y0 V0 J1) (Y7 (Y5 (Y4 V0 J0) (Y4 J1 J0)) (Y5 (Y4 (Y0 V0 V1) J0) (Y4 J1 J0))) e
  have hz:=T.hz;unfold y8 cV;walk_at "g";walk_at "d";refine ij (b:=33) (by decide) ?_;walk_at "d";refine ae.mk (eh T.A.top) ?_;rw[aG,T.A.len];walk_at "d";refine fE (b:=net.length+1) (Nat.succ_pos _) ?_;have hs:cell/33%(net.length+1)<=net.length:=Nat.le_of_lt_succ (Nat.mod_lt _ (Nat.succ_pos _));generalize cell/33%(net.length+1)=sp at hs;walk_at "g";walk_at "g";rw[S_set];refine Fj (R:=fun H v=>∃L,v=.lst L/\H[L]?=some [pr (0,n)]) rfl rfl T.A.top (by rw[aG,T.A.len];exact aw [_] [] kaa (Y1 V0 (.l 1000)) (Y0 V0 (.l 70)) hz) (fun H' K st hK=>?_) (fun H' K h=>h) fun v x H2 H4 hv s2 N4=>?_
  ·walk_at "d";refine ae.mk (eh (aH st T.ht)) ?_;rw[T.len];exact hK _ _ aa.refl.app ⟨_,rfl,ba⟩
  obtain⟨L,rfl,hL⟩:=hv;have s4:=N4.st;obtain⟨cs,A4⟩:=Hx (T.A.grow s4) (aH s2 hL) N4.hold;walk_at "g";walk_at "g";rw[S_set];refine yH (P:=fun j H v=>(j=0->v=.lst due)/\(j=1->∃y,v=.lst y/\H[y]?=some [.str "net",.int sp])) (j:=if k=1 then 1 else 0) (fun Z Z Z Z st h=>⟨h.1,fun e=>let⟨y,e,hy⟩:=h.2 e;⟨y,e,aH st hy⟩⟩) (.cons (fun H' K E st hK=>hK _ _ .refl ⟨fun Z=>rfl,(fun h=>nomatch h)⟩) (.cons (fun H' K E st hK=>hK _ _ aa.refl.app ⟨(fun h=>nomatch h),fun Z=>⟨_,rfl,ba⟩⟩) .nil)) (by split<;>decide) (fun H' K st hK=>?_) fun v H5 s5 hv=>?_
  ·walk_at "d";by_cases h3:k=1
   ·subst h3;exact hK
   ·rw[if_neg h3] at hK;rw[decide_eq_false (show ¬((k:Int)=1) by exact aA [_] [] 0x414a000c20100610000429400184010102000020 (Y8 (Y5 (Y4 V0 J0) J1) J0) (Y0 V0 J1) (Y8 (Y2 V0 J1) J0) hk1 h3)];exact hK
  have s6:=s4.trans0 s5;walk_at "g";walk_at "g";walk_at "g";by_cases h3:k=1
  ·subst h3;obtain⟨y,rfl,hy⟩:=hv.2 rfl;obtain⟨b1,b2,b3⟩:=lK T.ok.2 hs;exact Bs F hy (aH s6 T.ht) (fun h=>nomatch h) (fun Z=>zt (by decide) (.net sp) (sg F.v (aH s6 T.ht) T.len T.hn (A4.grow s5) (by rw[b3];exact aw [_] [] kaa (Y0 (Y0 V0 J1) (.l 80)) (Y0 V0 (.l 70)) hz) b1 b2)) hQ
  ·obtain rfl:=hv.1 (if_neg h3);exact Bs F (aH s6 hd) (aH s6 T.ht) h0 (fun h=>absurd hk1 (by exact bC [_] [] 0x105280030804018400028a50006100403080002800308000 (Y8 (Y0 V0 J1) J0) (Y0 V0 J1) (Y8 (Y2 V0 J1) J0) (Y8 (Y2 V0 J0) J0) hk1 h3 h)) hQ
 ·walk_at "g";walk_at "g";exact Bs F hd T.ht h0 (fun h=>A (by exact aA [_] [] 0xe5280030802018400024a50006100403080002800308000 (Y0 J2 V0) (Y8 (Y5 (Y4 V0 J0) (Y4 J1 J0)) J0) (Y8 (Y2 V0 J0) J0) e h)) hQ
def Fh(h:s∉zqg):yg (.str s):=h
def lE(F:bN c){W:List V}{net:Net}{cell:Nat}(hd:H[due]?=some W)(T:Tn H t n xs m bs net)(h0:k=0->W=[.str "lines"])(h2:k=2->W=[.str "kind"])(A:3<=k->vB c k (.lst m) v1 (.lst t) W H)(hQ:∀l H,QQ (.ret (.bool true)) l H) :
  az (Calls c) true (d+8) none zF QQ EE (cV (some (.lst m)) (some v1) (some (.lst t)) (some (.int cell)) (some (.int k)) (some (.int (k+j:Nat))) v6 (some (.lst due)) v8) H:=by
 unfold zF;walk_at "g";refine BP (i:=4) (j:=5) (t:=2) rfl rfl (fun e=>?_) (fun e=>?_)
 ·have hk2:k<=2:=by exact aw [_,_] [] kar (Y0 V0 J2) (Y7 (Y5 (Y4 V0 J0) (Y4 J2 J0)) (Y5 (Y4 (Y0 V0 V1) J0) (Y4 J2 J0))) e
  unfold yl cV;walk_at "g";rw[S_set];refine yH (P:=fun Z Z v=>yg v) (j:=cell/480%4) (fun Z Z Z Z Z h=>h) (.lit (fun Z=>Fh (by decide +kernel)) (.lit (fun Z=>trivial) (.lit (fun Z=>Fh (by decide +kernel)) (.lit (fun Z=>trivial) .nil)))) (Nat.mod_lt _ (by decide)) (fun H' K st hK=>?_) fun v H1 s1 hv=>?_
  ·walk_at "d";refine ij (b:=480) (by decide) ?_;exact fE (b:=4) (by decide) hK
  walk_at "g";walk_at "g";walk_at "g";have T1:Tn H1 t n xs m bs net:=⟨aH s1 T.ht,T.len,T.hn,T.A.grow s1,T.ok,T.hz⟩;refine mP F (aH s1 hd) T1 h0 (fun h=>?_) hQ;obtain rfl:k=2:=Nat.le_antisymm hk2 h;obtain rfl:=h2 rfl;exact zt (by decide) .kind (pK F.v T1.ht T1.len T1.hn T1.A T1.ok hv)
 ·walk_at "g";walk_at "g";exact mP F hd T h0 (fun h=>A (by exact aA [_] [] 0x7294001840100c20000a50006100c0308000 (Y0 (.l 3) V0) (Y8 (Y5 (Y4 V0 J0) (Y4 J2 J0)) J0) (Y0 J2 V0) e h)) hQ
variable {v0:Option V}
def qp{v:V}(hT:i9 kk w n (fun Z=>6) σ)(hi:i<n)(hp:mW v)(hg:jf kk v=false):Am kk ((bo n σ).set i v):=by
 refine⟨fun x hx=>?_,.inl ⟨v,rg.mpr ⟨i,iz (by rw[dH];exact hi)⟩,hg⟩⟩;rcases List.mem_or_eq_of_mem_set hx with hx |rfl
 ·revert hx;refine xL fun k hk wj=>?_;subst wj;exact B7 (hT k (eZ.mp hk)).1
 ·exact hp
def CP(hT:i9 .map w n (fun Z=>6) σ)(hk:k<n):∃l:List V,(σ k).v=.tup l/\l.length=w/\1<=w/\w<=8:=by
 obtain⟨a,b,_⟩:=hT k hk;obtain⟨ns,e⟩:=gd a;rw[e] at a b ⊢;have b:ns.length=w:=b;exact⟨ns.map nat,rfl,by rw[aG];exact b,b▸a.1⟩
def pQ{p u:Nat}(hT:i9 .map w n (fun Z=>6) σ)(hi:i<n)(hp:p<n)(hpi:p≠i)(hu:u<=8)(hw:u≠w):Am .map ((bo n σ).set i (.tup ((List.range u).map nat))):=by
 have len:((List.range u).map nat).length=u:=by rw[aG,dj]
 have hin:i<(bo n σ).length:=by rw[dH];exact hi
 refine⟨fun x hx=>?_,.inr ⟨rfl,?_⟩⟩
 ·rcases List.mem_or_eq_of_mem_set hx with hx |rfl
  ·revert hx;refine xL fun k hk wj=>?_;subst wj;exact B7 (hT k (eZ.mp hk)).1
  ·exact⟨by rw[len];exact aB hu (by decide),fun x hx=>by revert hx;refine xL fun k Z wj=>?_;subst wj;rfl⟩
 ·by_cases e:i=0
  ·subst e;obtain⟨l,h1,h2,_⟩:=CP hT hp;refine⟨_,iz hin,(σ p).v,rg.mpr ⟨p,(iF hpi.symm).trans (gL hp)⟩,?_⟩;rw[h1,len];show l.length≠u;rw[h2];exact hw.symm
  ·obtain⟨l,h1,h2,_⟩:=CP hT (b0 (dF _) hi);refine⟨l,(iF e).trans ((gL (b0 (dF _) hi)).trans (congrArg some h1)),_,rg.mpr ⟨i,iz hin⟩,?_⟩;rw[h2];show((List.range u).map nat).length≠w;rw[len];exact hw
theorem kl(ha:H[a]?=some xs)(hl:xs.length=n)(hi:i<n):∃p,p<n/\(1<n->p≠i)/\∀x,xs[p]?=some x->bO H (.lst a) (.int ((i:Int)-1))=some x:=by
 subst hl;cases i with
 |zero=>
  refine⟨xs.length-1,by exact aw [_] [] kai (Y1 (Y2 V0 J1) V0) (Y1 J0 V0) hi,(fun h=>by exact aw [_] [] 0x3214a50006101403080401840000c0508001 (Y8 (Y2 (Y2 V0 J1) J0) J0) (Y1 J1 V0) h),fun x hx=>?_⟩;exact Ad ha (by rw[List.getLast?_eq_getElem?];exact hx)
 |succ i=>
  refine⟨i,Nat.lt_of_succ_lt hi,(fun Z=>by exact ew [_] [] 4679525816336384 (Y8 (Y2 V0 (Y0 V0 J1)) J0)),fun x hx=>?_⟩;rw[show((i+1:Nat):Int)-1=(i:Int) by exact ew [_] [] kad (Y5 (Y2 (Y4 (Y0 V0 J1) J0) J1) (Y4 V0 J0))];exact dP ha hx
theorem r9:bI H .pow (.int 10) (.int 13)=some (.int 10000000000000,H):=rfl
def zo(_:Nat)(_:Hp)(v:V):Prop:=mW v/\∀kk,jf kk v=false
def jo(F:bN c){W:List V}{net:Net}{cell:Nat}(hd:H[due]?=some W)(T:Tn H t n (bo n σ) m bs net)(hT:i9 kk w n (fun Z=>6) σ)(hi:i<n)(hk:k<5)(h0:k=0->W=[.str "lines"])(h2:k=2->W=[.str "kind"])(h3:k=3->W=[.str "thing"])(A:k=4->vB c k (.lst m) (.str (kS kk)) (.lst t) W H)(hQ:∀l H,QQ (.ret (.bool true)) l H) :
  az (Calls c) true (d+8) none zC QQ EE (cV (some (.lst m)) (some (.str (kS kk))) (some (.lst t)) (some (.int cell)) (some (.int k)) (some (.int (k+j:Nat))) (some (.int i)) (some (.lst due)) v8) H:=by
 unfold zC;walk_at "g";refine BP (i:=4) (j:=5) (t:=3) rfl rfl (fun e=>?_) (fun e=>?_)
 ·have hk3:k<=3:=by exact aw [_,_] [] kar (Y0 V0 (.l 3)) (Y7 (Y5 (Y4 V0 J0) (Y4 (.l 3) J0)) (Y5 (Y4 (Y0 V0 V1) J0) (Y4 (.l 3) J0))) e
  have hn:=T.hn;unfold yy cV;walk_at "g";rw[S_set];refine Fj (R:=zo 0) rfl rfl T.ht (by rw[dH];exact aw [_] [] kaa (Y1 V0 (.l 1000)) (Y0 V0 (.l 64)) hn.2) (fun H' K st hK=>?_) (fun H' K h=>h) fun v r H2 H5 hv s2 N=>?_
  ·refine yH (P:=zo) (j:=cell/480%5) (fun Z Z Z Z Z h=>h) (.lit (fun Z=>⟨trivial,fun kk=>by cases kk<;>rfl⟩) (.lit (fun Z=>⟨trivial,fun kk=>by cases kk<;>rfl⟩) (.cons (fun H2 K E s2 hK=>hK _ _ aa.refl.app ⟨trivial,fun kk=>by cases kk<;>rfl⟩) (.cons (fun H2 K E s2 hK=>fun z=>hK _ _ .refl ⟨trivial,fun kk=>by cases kk<;>rfl⟩) (.cons (fun H2 K E s2 hK=>?_) .nil))))) (Nat.mod_lt _ (by decide)) (fun H' K st hK=>?_) hK
   ·walk_at "d";exact ae.mk r9 (hK _ _ .refl ⟨trivial,fun kk=>by cases kk<;>rfl⟩)
   ·walk_at "d";refine ij (b:=480) (by decide) ?_;exact fE (b:=5) (by decide) hK
  have hr:H5[r]?=some ((bo n σ).set i v):=by rw[N.hold,wG,if_pos (by rw[dH];exact hi),eH];rfl
  have st:=N.st;have lo:=N.lo;clear N s2;have fin:∀H6 xs,aa [] H H6->H6[r]?=some xs->xs.length=n->Am kk xs->az (Calls c) true (d+8) none zF QQ EE (cV (some (.lst m)) (some (.str (kS kk))) (some (.lst r)) (some (.int cell)) (some (.int k)) (some (.int (k+j:Nat))) (some (.int i)) (some (.lst due)) v8) H6:=fun H6 xs s6 hx hl B=>by
   have T6:Tn H6 r n xs m bs net:=⟨hx,hl,T.hn,T.A.grow s6,T.ok,T.hz⟩;refine lE F (aH s6 hd) T6 h0 h2 (fun h=>?_) hQ;obtain rfl:k=3:=by exact aA [_] [] kaj (Y2 V0 (.l 3)) (Y0 V0 (.l 3)) (Y0 (.l 3) V0) hk3 h
   obtain rfl:=h3 rfl;exact zt (by decide) .thing (lH F.v T6.ht T6.len T6.hn T6.A T6.ok B)
  have hl5:((bo n σ).set i v).length=n:=by rw[fW,dH]
  have fin5:=fin H5 _ st hr hl5 (qp hT hi hv.1 (hv.2 kk));unfold wM;walk_at "g";walk_at "g";walk_at "d";refine ae.mk (bE (k':=.map)) ?_;refine cN (fun hm=>?_) (fun hm=>?_)
  ·refine ae.mk (eh hr) ?_;rw[hl5];walk_at "d";refine cN (fun h1=>?_) (fun h1=>?_)
   ·refine ij (b:=480) (by decide) ?_;walk_at "d";refine fE (b:=2) (by decide) ?_;walk_at "d";refine cN (fun Z=>?_) (fun Z=>?_)
    ·subst hm;unfold yw;obtain⟨p,hp,hpi,hx⟩:=kl hr hl5 hi;have hpi:=hpi (bW.mp h1);obtain⟨l,e1,e2,hw⟩:=CP hT hp;walk_at "g";walk_at "d";refine ae.mk (hx (.tup l) ((iF hpi.symm).trans ((gL hp).trans (congrArg some e1)))) ?_;refine ae.mk (show fj true (bF H5 .len [.tup l])=some (.int w,H5) by show some (V.int l.length,H5)=_;rw[e2]) ?_;walk_at "d";refine fE (b:=8) (by decide) ?_;walk_at "d";rw[show(1:Int)+((w%8:Nat):Int)=((1+w%8:Nat):Int) by rw[Int.natCast_add];rfl];have hu:1+w%8<=8/\1+w%8≠w:=by exact aw [_] [] 0x32064294a000d00180810040308000180e800023214a50006800c03080202040000c0740001194a000c20100610040740001 (Y6 (Y0 (Y0 J1 (Y4 V0 (.l 8))) (.l 8)) (Y8 (Y2 (Y0 J1 (Y4 V0 (.l 8))) V0) J0)) (Y7 (Y1 J0 (Y3 V0 (.l 8))) (Y0 (Y3 V0 (.l 8)) J0)) (Nat.lt_or_ge _ _)
     generalize 1+w%8=u at hu;refine ae.mk (j8 (by exact aw [_] [] kaa (Y1 V0 (.l 100000)) (Y0 V0 (.l 8)) hu.1)) ?_;walk_at "d";refine ae.mk (GV (aB hu.1 (by decide))) ?_;walk_at "d";refine ae.mk (Cj hr (by rw[hl5];exact hi)) ?_;rw[List.set_set];walk_at "g";walk_at "g";walk_at "g";exact fin _ _ (st.set (.inr lo)) (qd hr) (by rw[fW,dH]) (pQ hT hi hp hpi hu.1 hu.2)
    ·walk_at "g";walk_at "g";walk_at "g";exact fin5
   ·walk_at "g";walk_at "g";walk_at "g";exact fin5
  ·walk_at "g";walk_at "g";walk_at "g";exact fin5
 ·walk_at "g";walk_at "g";exact lE F hd T h0 h2 (fun h=>A (by exact bC [_] [] 0x314a000c201006100009294001840100c20000a5000610140308000 (Y2 V0 (.l 4)) (Y1 V0 (.l 5)) (Y8 (Y5 (Y4 V0 J0) (Y4 (.l 3) J0)) J0) (Y0 (.l 3) V0) hk e h)) hQ
def uH(F:gy c){W:List V}{net:Net}{cell:Nat}(hd:H[due]?=some W)(T:Tn H t n (bo n σ) m bs net)(hN:c9 n net=true)(hT:i9 kk w n (fun Z=>6) σ)(hS:∀x,x<n->lB kk (σ x))(hi:i<n)(hk:k<5)(h0:k=0->W=[.str "lines"])(h2:k=2->W=[.str "kind"])(h3:k=3->W=[.str "thing"])(h4:k=4->W=[.str "none"])(hQ:∀l H,QQ (.ret (.bool true)) l H) :
  az (Calls c) true (d+8) none AM QQ EE (cV (some (.lst m)) (some (.str (kS kk))) (some (.lst t)) (some (.int cell)) (some (.int k)) (some (.int (k+j:Nat))) (some (.int i)) (some (.lst due)) v8) H:=by
 unfold AM;have go:az (Calls c) true (d+8) none sH (d9 (az (Calls c) true (d+8) none zC QQ EE) QQ) EE (cV (some (.lst m)) (some (.str (kS kk))) (some (.lst t)) (some (.int cell)) (some (.int k)) (some (.int (k+j:Nat))) (some (.int i)) (some (.lst due)) v8) H:=by
  unfold sH cV;walk_at "g";walk_at "d";have s1:=(aa.refl (S:=[]) (H:=H)).app (xs:=[]);refine ae.mk (q6 (sf (T.A.grow s1) (cs:=[]) (ys:=[]) ⟨ba,rfl,fun Z Z Z h=>nomatch h⟩)) ?_;generalize H++[[]]=H1 at s1;refine cN (fun e=>?_) (fun e=>?_)
  ·walk_at "g";walk_at "d";exact hQ _ _
  ·walk_at "g";walk_at "g";walk_at "g";walk_at "d";refine ae.mk (eh (aH s1 T.ht)) ?_;rw[dH];walk_at "d";refine ij (b:=15) (by decide) ?_;refine zi (d:=d+6) F.unt F.cross (T.A.grow s1) T.hn T.ok T.hz hN e rfl fun a' bs' H2 net' A2 An hz2 ht2 st2=>?_;have s2:=s1.trans0 st2;have ht:=aH s2 T.ht;walk_at "g";walk_at "g";walk_at "g";refine jo F.f (aH s2 hd) ⟨ht,T.len,T.hn,A2,An,hz2⟩ hT hi hk h0 h2 h3 (fun h=>?_) hQ;obtain rfl:=h4 h;exact⟨fun h'=>absurd h' (by exact aA [_] [] 0xa5000810040308040 (Y8 (Y1 V0 (.l 4)) J0) (Y2 V0 (.l 4)) (Y1 V0 (.l 4)) h h'),fun Z=>⟨rfl,uB F.f A2 An ht T.hn hT hS ht2⟩⟩
 walk_at "g";walk_at "d";refine cN (fun e=>?_) (fun e=>?_)
 ·exact go
 ·refine cN (fun e2=>?_) (fun e2=>?_)
  ·exact go
  ·walk_at "g";walk_at "g";exact jo F.f hd T hT hi hk h0 h2 h3 (fun h=>absurd (congrArg Int.ofNat h) e) hQ
def pT(F:gy c)(P:aK c "_law_refused" 4 9 AN){net:Net}{cell:Nat}(T:Tn H t n (bo n σ) m bs net)(hN:c9 n net=true)(hT:i9 kk w n (fun Z=>6) σ)(hS:∀x,x<n->lB kk (σ x))(hc:q=true)(hq:∀H',Q (.bool true) H'):Calls c q (d+9) "_law_refused" [.lst m,.str (kS kk),.lst t,.int cell] none Q E H:=by
 subst hc;refine P true (d+8) _ Q E H rfl ?_;unfold AN;walk_at "g";walk_at "d";refine fE (b:=5) (by decide) ?_;have hk:cell%5<5:=Nat.mod_lt _ (by decide);generalize cell%5=k at hk;walk_at "g";walk_at "g";walk_at "d";refine ij (b:=5) (by decide) ?_;walk_at "d";refine fE (b:=3) (by decide) ?_;walk_at "d";generalize cell/5%3=j;rw[<- Int.natCast_add];walk_at "g";walk_at "g";walk_at "d";refine ij (b:=15) (by decide) ?_;walk_at "d";refine ae.mk (eh T.ht) ?_;rw[dH];walk_at "d";refine fE (b:=n) T.hn.1 ?_;have hi:cell/15%n<n:=Nat.mod_lt _ T.hn.1;generalize cell/15%n=i at hi;walk_at "g";walk_at "g";rw[S_set];refine yH (P:=fun j H v=>∃x,v=.lst x/\H[x]?=some (BD j)) (j:=k) (fun Z Z Z Z st h=>let⟨y,e,hy⟩:=h;⟨y,e,aH st hy⟩) (.cons (fun H' K E st hK=>hK _ _ aa.refl.app ⟨_,rfl,ba⟩) (.cons (fun H' K E st hK=>hK _ _ aa.refl.app ⟨_,rfl,ba⟩) (.cons (fun H' K E st hK=>hK _ _ aa.refl.app ⟨_,rfl,ba⟩) (.cons (fun H' K E st hK=>hK _ _ aa.refl.app ⟨_,rfl,ba⟩) (.cons (fun H' K E st hK=>hK _ _ aa.refl.app ⟨_,rfl,ba⟩) .nil))))) hk (fun H' K st hK=>hK) fun v H1 s1 hv=>?_;obtain⟨due,rfl,hd⟩:=hv;walk_at "g";exact uH F hd ⟨aH s1 T.ht,T.len,T.hn,T.A.grow s1,T.ok,T.hz⟩ hN hT hS hi hk (fun h=>by rw[h];rfl) (fun h=>by rw[h];rfl) (fun h=>by rw[h];rfl) (fun h=>by rw[h];rfl) fun Z H'=>hq H'
variable {xs:List Int}
noncomputable def gU:List St:=[.set 1 (.call "_law_lines_by" [.call "_law_cell_at" [.wx 0,.ww 0]]),.set 2 (.call "_law_telling" [.call "_law_cell_at" [.wx 0,.ww 1],.wx 1]),.set 3 (.bin .mod (.bin .mul (.call "_law_cell_at" [.wx 0,.ww 2]) (.ww 48271)) (.ww 2147483647)),.set 4 (.idx (.list [.lit (.str "sum"),.lit (.str "most"),.lit (.str "text"),.lit (.str "map"),.lit (.str "step")]) (.bin .mod (.wx 3) (.ww 5))),.set 6 (.comp (.call "_law_thing" [.wx 4,.bin .add (.call "_law_cell_at" [.wx 0,.bin .add (.ww 3) (.bin .mod (.wx 12) (.ww 40))]) (.bin .mul (.ww 7919) (.wx 12)),.bin .add (.ww 1) (.bin .mod (.bin .div (.wx 3) (.ww 5)) (.ww 8))]) (.one 12) (.blt .range [.wx 1]) []),.ite (.cmp (.bin .mod (.bin .div (.wx 3) (.ww 40)) (.ww 3)) [.eq] [.ww 1]) [.ret (.call "_law_refused" [.wx 2,.wx 4,.wx 6,.bin .div (.wx 3) (.ww 120)])] [],.set 7 (.list [.comp (.blt .list [.wx 12]) (.one 12) (.wx 2) [],.blt .list [.wx 6]]),.set 8 (.call "_law_tried" [.idx (.wx 7) (.ww 0),.wx 4,.idx (.wx 7) (.ww 1)]),.ite (.or [.not (.isi (.wx 8) .tuple),.not (.isi (.idx (.wx 8) (.ww 0)) .list),.cmp (.blt .len [.idx (.wx 8) (.ww 0)]) [.ne] [.wx 1]]) [.ret (.lit (.bool false))] [],.set 9 (.idx (.wx 6) (.neg (.ww 1))),.loop (.one 5) (.val (.blt .range [.wx 1])) [.set 10 (.bin .sub (.bin .sub (.wx 1) (.ww 1)) (.wx 5)),.ite (.cmp (.wx 5) [.gt] [.ww 0]) [.set 9 (.call "_law_join" [.wx 4,.idx (.wx 6) (.wx 10),.wx 9])] [],.ite (.not (.call "_law_alike" [.idx (.idx (.wx 8) (.ww 0)) (.wx 10),.wx 9])) [.ret (.lit (.bool false))] []],.set 11 (.blt .list [.idx (.wx 8) (.ww 0)]),.expr (.meth .append (.idx (.wx 8) (.ww 0)) [.wx 9]),.ret (.and [.cmp (.wx 7) [.eq] [.list [.wx 2,.wx 6]],.cmp (.call "ends" [.idx (.wx 7) (.ww 0),.wx 4,.idx (.wx 7) (.ww 1)]) [.eq] [.wx 11]])]
structure gp(c:Cx):Prop where
 r:gy c
 cell:aK c "_law_cell_at" 2 2 FA
 whole:aK c "_law_whole" 1 1 Ak
 ljoin:aK c "_law_join" 3 4 Dy
 lalike:aK c "_law_alike" 2 3 C5
 lthing:aK c "_law_thing" 3 5 rm
 place:aK c "_law_place" 5 6 pz
 thinner:aK c "_law_thinner" 6 8 Aw
 telling:aK c "_law_telling" 2 16 AW
 lines:aK c "_law_lines_by" 1 2 Ga
 ref:aK c "_law_refused" 4 9 AN
 law:aK c "law" 1 13 gU
abbrev gn (v0 v1 v2 v3 v4 v5 v6 v7 v8 v9 v10 v11 v12:Option V):Loc:=[v0,v1,v2,v3,v4,v5,v6,v7,v8,v9,v10,v11,v12]
def lV(hn:1<=n):(bo n σ).getLast?=some (σ (n-1)).v:=by
 rw[List.getLast?_eq_getElem?,dH,gL (by exact aw [_] [] kai (Y1 (Y2 V0 J1) V0) (Y0 J1 V0) hn)]
def tZ(H:Hp)(L:Option V->Option V->V->Loc)(kk:Kd)(τ:Nat->Th)(i:Nat)(x0:Loc)(H':Hp):Prop:=∀GJ:Prop,(∀(v5 v10:Option V),aa [] H H'->L v5 v10 (dJ kk τ (i-1)).v=x0->GJ)->GJ
def sN(hσ:∀x,x<n->Sh kk (σ x))(ha:H[a]?=some (bo n σ))(hb:H[b]?=some (bo n σ)):fB H (.lst a) (.lst b)=some true:=by
 refine EG (cm.list fun R hR=>?_) (AR ha) (AR hb);revert hR;refine xL fun x hx wj=>?_;subst wj;exact Ek (hσ x (eZ.mp hx))
theorem Jg(F:gp c){cell:Nat}{net:Net}(T:Tn H t n (bo n σ) nt bs net)(hN:c9 n net=true)(hT:i9 kk w n (fun Z=>6) σ)(hS:∀x,x<n->lB kk (σ x)) :
  az (Calls c) true (d+9) none (gU.drop 6) (cK fun v Z=>v=.bool true) EE (gn v0 (some (.int n)) (some (.lst nt)) (some (.int cell)) (some (.str (kS kk))) none (some (.lst t)) none none none none none none) H:=by
 unfold gn;have hn:=T.hn;have hz:=T.hz;have A:=T.A;refine Ss_go ?_;walk_at "";refine ae.mk (uO A.top) ⟨gf (by rw[aG,A.len];exact aw [_] [] kaa (Y1 V0 (.l 100000)) (Y0 V0 (.l 70)) hz),?_⟩;refine GP A (Nat.le_of_ble_eq_true rfl) (fun H' st=>aH st A.top) fun ts H2 RR=>?_;have A1:=RR.net;have s1:=RR.st.app (xs:=ts.map .lst);generalize H2++[ts.map .lst]=H1 at A1 s1;generalize H2.length=x0 at A1;clear RR;walk_at "";refine bU (vE (aH s1 T.ht)) fun x1 H3 N1=>?_;walk_at "";have t5:=(aa.refl (S:=[]) (H:=H3)).app (xs:=[V.lst x0,V.lst x1]);have kh:=ba (H:=H3) (xs:=[V.lst x0,V.lst x1]);have k0:=A1.grow (N1.st.trans0 t5);have k1:=aH t5 N1.hold;have s5:=s1.trans0 (N1.st.trans0 t5);generalize H3++[[V.lst x0,V.lst x1]]=H5 at t5 kh k0 k1 s5;generalize H3.length=h7 at kh;clear N1 t5 A1 s1;refine ae.mk (dP (i:=0) kh rfl) ?_;refine ae.mk (dP (i:=1) kh rfl) ?_;refine AX (d:=d+7) F.r.f (fun hK hX=>A8 (d:=d+2) F.r.f k0 T.ok k1 hn hT hS rfl (fun Z g H6 N6=>hK _ _ ?_) (fun h=>by rw[hN] at h;cases h)) rfl;have s6:=s5.trans0 N6.st;have kr:=N6.hold;have rlo:H5.length<=g:=N6.lo;have st6:=N6.st;clear N6;walk_at "";refine ae.mk (qR (i:=0) rfl) ?_;walk_at "";refine ae.mk (qR (i:=0) rfl) ?_;refine ae.mk (eh kr) ?_;rw[dH];walk_at "";rw[decide_eq_true rfl];walk_at "";have ta:=aH s6 T.ht;refine ae.mk (Ad ta (lV hn.1)) ?_;walk_at "";refine⟨rfl,lT (v:=.rng 0 (n:Int) 1) (items:=(List.range n).map nat) (fun K E' h=>by walk_at "";exact ae.mk (j8 (by exact aw [_] [] kaa (Y1 V0 (.l 100000)) (Y0 V0 (.l 64)) hn.2)) h) (congrArg some (vM _)) ?_⟩;have hτ:=CD hn.1 hT;refine xH (tZ H6 (fun v5 v10 u=>gn v0 (some (.int n)) (some (.lst nt)) (some (.int cell)) (some (.str (kS kk))) v5 (some (.lst t)) (some (.lst h7)) (some (.tup [.lst g])) (some u) v10 none none) kk (nB n σ)) ?_ ?_ (fun Z kJ=>kJ _ _ .refl rfl)
 ·intro i x l' H' K hx hI hnext hret;refine hI _ fun v5 v10 st wg=>?_;clear hI;subst wg;have hi:=eB hx;rw[aG,dj] at hi;rw[bL,mO hi] at hx;obtain rfl:=ah hx;have fin:∀H2,aa [] H6 H2->az (Calls c) true (d+9) none [.ite (.not (.call "_law_alike" [(.idx (.idx (.var 8) (.lit (.int 0))) (.var 10)),(.var 9)])) [.ret (.lit (.bool false))] []] K EE (gn v0 (some (.int n)) (some (.lst nt)) (some (.int cell)) (some (.str (kS kk))) (some (.int i)) (some (.lst t)) (some (.lst h7)) (some (.tup [.lst g])) (some (dJ kk (nB n σ) i).v) (some (.int (n-1-i:Nat))) none none) H2:=fun H2 s2=>by
   unfold gn;walk_at "";refine ae.mk (qR (i:=0) rfl) ?_;refine ae.mk (dP (aH s2 kr) (gL (by exact aw [_,_] [] kag (Y1 (Y2 (Y2 V0 J1) V1) V0) (Y0 J1 V0) hn.1))) ?_;rw[show fV kk n σ (n-1-i)=dJ kk (nB n σ) i by unfold fV;rw[show n-1-(n-1-i)=i by exact aw [_,_] [] 0x30d04294001840600c2008000194a50006101c0308060184010142128400094a109420004a10002340c64294a528003081c01840c00c203006100c0308020300a10002528425080012840008ca528003080e01840300c20080a5084a100025080012842508001 (Y2 (Y2 (Y2 V0 J1) (Y2 (Y2 V0 J1) V1)) V1) (Y1 V1 V0) hi]];refine qy (d:=d+7) F.lalike F.whole (BB hτ hn.2 hi).1 rfl fun H3 s3=>?_;walk_at "";exact hnext _ _ trivial (fun Z kJ=>kJ _ _ (s2.trans0 s3) rfl)
  unfold nat gn;walk_at "";rw[show(n:Int)-1-(i:Int)=((n-1-i:Nat):Int) by exact aA [_,_] [] 0x618ca528003080c01840400c20080a100025084a100023410a528003081201840600c20080001a085294a000c206006102803080c01840100005294001840800c202006100005080012842508001 (Y5 (Y2 (Y2 (Y4 V0 J0) J1) (Y4 V1 J0)) (Y4 (Y2 (Y2 V0 J1) V1) J0)) (Y0 J1 V0) (Y1 V1 V0) hn.1 hi];cases i with
  |zero=>exact fin H' st
  |succ i=>
   refine ye (show(0:Int)<((i+1:Nat):Int) by exact ew [_] [] 171801870336 (Y4 J0 (Y4 (Y0 V0 J1) J0))) ?_;walk_at "";refine ae.mk (dP (aH st ta) (gL (by exact aw [_,_] [] 0x1a085294a000c203006101c03080601840000003294a000c203806100c030800028400094610042508001 (Y1 (Y2 (Y2 V0 J1) (Y0 V1 J1)) V0) (Y1 (Y0 V1 J1) V0) hi))) ?_;have h1:=hτ (i+1) hi;have h2:=BB hτ hn.2 (Nat.lt_of_succ_lt hi);refine ue (x:=nB n σ (i+1)) (y:=dJ kk (nB n σ) i) (d:=d+8) F.ljoin h1.1 h2.1 (DC (h1.2.1.trans h2.2.symm)) rfl fun H3 s3=>?_;rw[<- nh];exact fin H3 (st.trans0 s3)
 intro l' H' hI;refine hI _ fun v5 v10 st wg=>?_;clear hI;subst wg;unfold gn;walk_at "";have kr:=aH st kr;refine ae.mk (qR (i:=0) rfl) ?_;refine bU (vE kr) fun cp H8 N8=>?_;walk_at "";refine ae.mk (qR (i:=0) rfl) ?_;refine⟨rfl,?_⟩;have kr8:=aH N8.st kr;walk_at "";refine ae.mk (vX kr8 (by rw[dH];exact aw [_] [] kaa (Y1 V0 (.l 10000)) (Y0 V0 (.l 64)) hn.2)) ?_;generalize(dJ kk (nB n σ) (((List.range n).map nat).length-1)).v=z;have st8:=st6.trans0 (st.trans0 N8.st);have u9:=st8.set (a:=g) (xs:=bo n (fV kk n σ)++[z]) (.inr rlo);have u9':=(s5.trans0 st8).set (a:=g) (xs:=bo n (fV kk n σ)++[z]) (.inr (aB s5.len rlo));have kc:(H8.set g (bo n (fV kk n σ)++[z]))[cp]?=some (bo n (fV kk n σ)):=fq N8.hold (Nat.ne_of_gt (dg (dG kr) N8.lo));generalize H8.set g (bo n (fV kk n σ)++[z])=H9 at u9 u9' kc;clear N8 kr8 st;walk_at "";have w1:=(aa.refl (S:=[]) (H:=H9)).app (xs:=[V.lst nt,V.lst t]);have v1:=u9.trans0 w1;have v2':=u9'.trans0 w1;have hSh:∀x,x<n->Sh kk (σ x):=fun x hx=>(hT x hx).1;refine ae.mk (q6 (nI hSh (aH v1 kh) ba (k0.grow v1) (A.grow v2') (aH v1 k1) (aH v2' T.ht))) ?_;generalize H9++[[V.lst nt,V.lst t]]=H10 at w1 v1 v2';walk_at "";refine ae.mk (dP (i:=0) (aH v1 kh) rfl) ?_;refine ae.mk (dP (i:=1) (aH v1 kh) rfl) ?_;refine A8 (d:=d+3) F.r.f (k0.grow v1) T.ok (aH v1 k1) hn hT hS rfl (fun Z g2 H11 N11=>?_) (fun h=>by rw[hN] at h;cases h);refine ae.mk (q6 (sN (kk:=kk) (fun x hx=>(BB hτ hn.2 (by exact aw [_,_] [] kag (Y1 (Y2 (Y2 V0 J1) V1) V0) (Y0 J1 V0) hn.1)).1) N11.hold (aH (w1.trans0 N11.st) kc))) ?_;walk_at ""
def kM(F:gp c):Calls c true (d+10) "law" [.scr xs] none (fun v Z=>v=.bool true) E H:=by
 refine F.law true (d+9) _ _ _ _ rfl ?_;refine Ss_go ?_;walk_at "d";refine zD F.cell (i:=0) rfl ?_;refine Ig F.lines ?_;obtain⟨n,e,hn⟩:∃n:Nat,sq (xs.getD 0 0)=(n:Int)/\1<=n/\n<=32:=by
  have hl:=Ic (xs.getD 0 0);have hn:=(Int.toNat_of_nonneg (Int.le_trans (by decide) hl.1)).symm;rw[hn] at hl;exact⟨_,hn,dO.mp hl.1,dO.mp hl.2⟩
 rw[e];clear e;have hn64:n<=64:=aB hn.2 (by decide);have hn77:n<=77:=aB hn.2 (by decide);walk_at "g";walk_at "g";walk_at "d";refine zD F.cell (i:=1) rfl ?_;refine Jo (d:=d+6) F.telling F.thinner F.place hn.1 hn64 rfl fun nt bs net H1 T A st1 fr1 nd1=>?_;clear fr1 nd1;walk_at "g";walk_at "g";walk_at "d";refine zD F.cell (i:=2) rfl ?_;refine gZ rfl ?_;walk_at "d";refine cL (by decide) ?_;obtain⟨cell,he⟩:=Ai (x:=xs.getD 2 0*48271) (y:=2147483647) (by decide);rw[he];clear he;walk_at "g";walk_at "g";walk_at "d";refine fE (b:=5) (by decide) ?_;have hk5:cell%5<5:=Nat.mod_lt _ (by decide);obtain⟨j,kv,hi,hj,hb⟩:=zI (H:=H1++[vS]) (xs:=vS) (i:=((cell%5:Nat):Int)) ba (hV _) (bW.mpr hk5);refine ae.mk hb ?_;obtain⟨kk,rfl⟩:=zm hj;have st2:=(aa.refl (S:=[]) (H:=H1)).app (xs:=vS);clear hb hj hi hk5;walk_at "g";walk_at "g";walk_at "d";refine ae.mk (j8 (b0 hn.2 (by decide))) ?_;refine ae.mk (yk (H:=H1++[vS])) ⟨gf (by rw[aG,dj];exact b0 hn.2 (by decide)),?_⟩;obtain⟨long,hl,h1,h8⟩:=nY (cell:Int);refine I1 (kk:=kk) (w:=wide kk long) (fun Z Z=>trivial) (fun i H' K hK=>?_) fun σ H2 hS hT st3=>?_
 ·refine ae.mk rfl ?_;walk_at "";refine fE (b:=40) (by decide) ?_;walk_at "";rw[show(3:Int)+((i%40:Nat):Int)=((3+i%40:Nat):Int) by rw[Int.natCast_add];rfl];refine zD F.cell rfl ?_;refine lR (a:=7919) (b:=i) (by decide) ?_;walk_at "";refine gA (by decide) ?_;walk_at "";refine cL (by decide) ?_;walk_at "";rw[hl];exact qE F.lthing h1 h8 rfl fun t H2 sh ok tl ml st2=>hK t H2 sh ok tl ml st2
 have s4:=(st2.trans0 (show aa [] (H1++[vS]) H2 from st3)).app (xs:=bo n σ);have ht:(H2++[bo n σ])[H2.length]?=some (bo n σ):=ba;generalize H2++[bo n σ]=H3 at s4 ht;generalize H2.length=t at ht;have TN:Tn H3 t n (bo n σ) nt bs net:=⟨ht,dH,⟨hn.1,hn64⟩,A.grow s4,T.net hn77,aB T.len (by exact aw [_] [] kaa (Y0 (Y0 V0 (.l 3)) (.l 70)) (Y0 V0 (.l 32)) hn.2)⟩;have hN:c9 n net=true:=(C4 (T.net hn77).fair).mpr T.whole;clear ht s4 st3 st2 A T;walk_at "g";walk_at "g";walk_at "d";refine ij (b:=40) (by decide) ?_;walk_at "d";refine fE (b:=3) (by decide) ?_;walk_at "d";refine cN (fun Z=>?_) (fun Z=>?_)
 ·walk_at "g";walk_at "d";refine ij (b:=120) (by decide) ?_;exact pT (d:=d) F.r F.ref TN hN hT hS rfl fun Z=>rfl
 ·walk_at "g";walk_at "g";exact Jg F TN hN hT hS
end Bn
open PySem PySem.W PyProof.Rows Bn
set_option maxRecDepth 100000
set_option maxHeartbeats 8000000
namespace Bn
noncomputable def yN:List Str:=(["is_among","is_text","is_map","is_step","need_kind","is_thing","need_thing","need_alike","put_together","need_lines","is_joint","is_layer","need_net","does_tell"]:List Str)++(["carried","need_things","led","ends","_law_cell_at","_law_whole","_law_join","_law_alike","_law_thing","_law_place","_law_thinner","_law_telling","_law_lines_by","_law_word"]:List Str)++(["_law_led","_law_tried","_law_crossed","_law_untelling","_law_refused","law"]:List Str)
noncomputable def mh:List (Str×V):=[("KINDS",.tup [.str "sum",.str "most",.str "text",.str "map",.str "step"]),("MOST_NUMBER",.int 1000000000000),("MOST_PLACES",.int 8),("WHOLE",.int 1000003),("MOST_LINES",.int 64),("MOST_LAYERS",.int 80),("MOST_JOINTS",.int 63),("MOST_SIGNS",.int 1000),("LETTERS",.str "abcdefghijklmnopqrstuvwxyz")]
end Bn
set_option tactic.hygienic true in
theorem PySem.Challenge.cw_uf020024_10_holds : PySem.Challenge.rw_uf020024_10.Holds := by
 w_on;(refine PySem.W.holds_law uz fun said=>?_)
 (refine holds_open (q:=yF) (loose:=[]) (Xt:=fun s=>xlAt yF [] s&&recOk (RowW.records Challenge.rw_uf020024_10.row.toRowW) s) (XP:=XL yF []) (Yf:=Hook.obs (yD _ wZ)) (Ya:=Hook.val (yD _ wZ)) (YP:=Hook.says (yD _ wZ)) (N:=8000) um (Hook.of (yD _ wZ)) (Hook.keeps (yD _ wZ)) (fun s e=>xl_of s (eQ.mp e).1) XL.keeps (by rfl) (by rfl) (by rfl) (fun s e=>recFacts_of (eQ.mp e).2) (by rfl) (by first |assumption |decide +kernel) (by decide +kernel) ⟨rfl,rfl,rfl,rfl,rfl,by decide +kernel⟩ ?hw ?hc);(case hw=>w_witness2)
 intro w s₀ s₁ mg mb G Y fa o pm cd doc dV kV ho hd hcd hD hmg hg args vals as hpre hlay hrd hwl hlo
 refine Ground.open G ?_
 intro T B D TE TW
 have TA:=at_of_top T
 wrow_args hpre hlay hrd hwl hlo
 refine enter_call ?_
 rename_i l _ _ _ _ _ _ _ a vs _ hL _ _ _ hI _ wq _
 obtain⟨e,P,LD,AP⟩:=o6 TA (Tb:=xq yN mh) 17 30 0 21 (f:="ends") (np:=3) (n:=3) (y:=(Ft,123,38)) (by kernel_rfl)
 have hP:=AP.tab
 let c:Cx:=⟨Challenge.rw_uf020024_10.row.prog,w,s₁.heap.hide P,mg,mb,d5,[(P,(123,38),e.name++".<locals>."++"<lambda>")]⟩
 have hh:gM s₁.heap c:=Ct rfl hP
 have O:c.Ok:=sz T hh rfl rfl (T.seer (by decide +kernel)) rfl
 have XO:cx c:=sI (c:=c) (pB hh Y.1) (iY hh T.g) ⟨CN T (by kernel_rfl),(T.builtins _ (by decide +kernel)).trans (by kernel_rfl)⟩
 have NO:dY c:=ti (c:=c) (pw rfl hP Y.2) (iY hh T.g)
 have TO:aY c (xq yN mh):=tQ T B rfl rfl hh (by kernel_rfl) (by kernel_rfl) (by kernel_rfl) XO NO (fun Z Z Z h=>h)
 have TD:∀e∈(recsOf Challenge.rw_uf020024_10.row.prog).map W.itemOf,e.params.defaults=[]->cB c e:=fun e he hd=>cB.of hh (TA e he hd)
 have F:gp c:={
  r:={
  f:={
  v:={
  chk:={
  among:=cg (c:=c) TD O TO 0 30 0 (by kernel_rfl)
  lines:=cg (c:=c) TD O TO 9 30 0 (by kernel_rfl)
  joint:=cg (c:=c) TD O TO 10 30 0 (by kernel_rfl)
  layer:=cg (c:=c) TD O TO 11 30 0 (by kernel_rfl)
  net:=cg (c:=c) TD O TO 12 30 0 (by kernel_rfl) }
  n:={
  among:=cg (c:=c) TD O TO 0 30 0 (by kernel_rfl)
  text:=cg (c:=c) TD O TO 1 30 1 (by kernel_rfl)
  map:=cg (c:=c) TD O TO 2 30 1 (by kernel_rfl)
  step:=cg (c:=c) TD O TO 3 30 1 (by kernel_rfl)
  thing:=cg (c:=c) TD O TO 5 30 0 (by kernel_rfl)
  put:=cg (c:=c) TD O TO 8 30 1 (by kernel_rfl)
  nkind:=cg (c:=c) TD O TO 4 30 0 (by kernel_rfl)
  nthing:=cg (c:=c) TD O TO 6 30 0 (by kernel_rfl)
  alike:=cg (c:=c) TD O TO 7 30 1 (by kernel_rfl) }
  things:=cg (c:=c) TD O TO 15 30 0 (by kernel_rfl) }
  does:=cg (c:=c) TD O TO 13 30 1 (by kernel_rfl)
  led:=cg (c:=c) TD O TO 16 30 0 (by kernel_rfl)
  word:=cg (c:=c) TD O TO 27 30 0 (by kernel_rfl)
  lled:=cg (c:=c) TD O TO 28 30 0 (by kernel_rfl)
  tried:=cg (c:=c) TD O TO 29 30 0 (by kernel_rfl)
  ends:=lN (c:=c) O TO (uC T hh rfl) (fun Z Z Z h=>h) LD (dp.of hh AP (Heap.hide_self _ _) rfl)
  car:=qz (c:=c) TD O TO 14 30 0 ["net","things"] (by kernel_rfl) }
  unt:=cg (c:=c) TD O TO 31 30 0 (by kernel_rfl)
  cross:=cg (c:=c) TD O TO 30 30 1 (by kernel_rfl) }
  cell:=cg (c:=c) TD O TO 18 30 0 (by kernel_rfl)
  whole:=cg (c:=c) TD O TO 19 30 0 (by kernel_rfl)
  ljoin:=cg (c:=c) TD O TO 20 30 1 (by kernel_rfl)
  lalike:=cg (c:=c) TD O TO 21 30 1 (by kernel_rfl)
  lthing:=cg (c:=c) TD O TO 22 30 1 (by kernel_rfl)
  place:=cg (c:=c) TD O TO 23 30 0 (by kernel_rfl)
  thinner:=cg (c:=c) TD O TO 24 30 0 (by kernel_rfl)
  telling:=cg (c:=c) TD O TO 25 30 3 (by kernel_rfl)
  lines:=cg (c:=c) TD O TO 26 30 0 (by kernel_rfl)
  ref:=cg (c:=c) TD O TO 32 30 0 (by kernel_rfl)
  law:=cg (c:=c) TD O TO 33 30 1 (by kernel_rfl) }
 refine kK (c:=c) (d:=500) (vs:=vs) (l:=l) ⟨by decide,by decide,fun Z=>rfl,[],rfl,by simp⟩ rfl hP rfl hg hmg hL hI (by have:qag=2^24:=rfl;omega) ?_ ?_
 ·exact kM (d:=490) F
 ·intro s' h1 h2 h3 h4
  refine⟨.inl ⟨.bool true,.bool true,[],rfl,fun Z=>?_,.bool true,?_,fun h=>?_⟩,px AP h1 h2,h3,.of_eq h4⟩
  ·first |rfl |kernel_rfl
  ·first |rfl |kernel_rfl
  ·first |(cases h;done) |exact⟨List.nodup_nil,by simp⟩
