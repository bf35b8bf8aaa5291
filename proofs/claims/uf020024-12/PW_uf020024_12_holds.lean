import PyProof.Rows.All
import Wide.All
import Wide.FinOn
import Open.Line
import PyProof.TupleOfStr
import KE.KSortTup
import PyProof.ExcBaseAll.ValueError
import PyProof.ExcAttrAll.ValueError
import OpenK.KCls
import PyProof.ExcInit
import PyProof.InstStoreFacts
import PyProof.CodeObjX
import PyProof.DefMake
import PyProof.Rows.PlainStore
import PyProof.OldK
import PySem.Challenge.RW_uf020024_12
set_option Elab.async false
set_option compiler.extract_closed false
set_option compiler.reuse false
set_option linter.all false
set_option tactic.hygienic false
set_option genSizeOf false
set_option backward.match.sparseCases false
set_option genInjectivity false
set_option bootstrap.genMatcherCode false
open Option.some renaming inj->ai
open List renaming length_map->ao,mem_cons_self->aI,mem_singleton->aN,mem_cons_of_mem->a0,mem_cons->bj,getElem?_map->br,getElem?_eq_getElem->bt,length_append->bw,mem_of_getElem?->bG,mem_append->bJ,map_append->bT,getD_eq_getElem?_getD->b7,all_eq_true->dg,length_range->di,lookup_cons->dr,append_nil->d5,forall_mem_cons->eh,map_map->d8,mem_map->fg,map_cons->fK,append_assoc->fQ,length_cons->fO,not_mem_nil->fX,length_eq_zero_iff->gj,length_take->gg,isEmpty_iff->gq,length_drop->gF,length_set->gv,getElem?_eq_some_iff->gW,mem_range->gY,getElem?_append_right->iH,getElem?_range->iM,mem_append_right->iK,getElem?_append_left->jc,getElem?_set_self->nu,nodup_cons->lX,nodup_nil->nB,prefix_rfl->nU,getElem?_set_ne->nT,getElem?_eq_none->nO,nodup_append->og,drop_eq_getElem_cons->nX,mem_iff_getElem->q9,mem_of_find?_eq_some->rY,set_eq_take_append_cons_drop->zW
open Nat renaming le_trans->aD,le_refl->aJ,le_of_lt->bO,ne_of_lt->ck,lt_trans->cN,lt_of_lt_of_le->cS,lt_irrefl->d4,eq_of_beq_eq_true->er,zero_le->eA,lt_of_le_of_lt->eJ,le_of_eq->eR,le_of_not_lt->fE,not_lt->fN,le_add_right->gM,le_succ_of_le->iC
open Int renaming ofNat_lt->bP,ofNat_le->c7,natCast_nonneg->iS,toNat_natCast->jV
open Array renaming length_toList->eY,getElem?_eq_getElem->uA
open Bool renaming and_eq_true_iff->gd,false_eq_true->gO,not_eq_true'->gX,or_eq_true_iff->nN
open Option renaming isNone_iff_eq_none->jI,isSome_iff_exists->uS,bind_eq_some_iff->vV
open PySem renaming wpAny_bind->ak,wpAny_pure->aE,wpAny_mono->a9,NameKind->aU,sizeLine->qag,wpAny_loadPart_at->dP,wpAny_holding->dz,mainGlobals->dH,callEnvC->cq,cellsFrom->dN,pushCells->dJ,mem_of_lookup->fW,wpAny_standAt->i8,starEach->fe,relabel->eP,wpAny_newObj_type->oV,builtinLookup_eq_fast->vC,wpAny_of_eq->mw,FuncData->qbe,codeAny_call_builtin->vh,Program->qbi,wpAny_truthy_bool->uF,DictEntry->i4,wpAny_call_entry->u7,newFunctionEnv->r3,builtinsNs->kj,call_isinstance->tA,pushCells_keeps->uW,foldedSetIterable->wb,wpAny_loadName_local->yl,wpAny_field->nW,typeLookup_type->vF,typeLookup->pP,wpAny_point->qX,excClassObj->qZ,checkBuiltinCall->xW,opaqueClassAbove->xN,wpAny_isSubtype_exc->Ao
open PySem.Str renaming ofString->ar
open PySem.Heap renaming get?_push_of_some->cz,get?_push_size->eG,get?_none_of_le->fJ,get?_update_self->gi,get?_update_other->rD,SameBut->hU,lt_size->ic,size_push->oR,get?_update_ne->yC
open PySem.NameKind renaming cell->qaj,free->eV
open PySem.Value renaming ref->bX,none->dS,builtin->i9,type->jb
open PySem.Obj renaming dropNameByArray->jk,putNameByArray->lA,dropName_eq->jf,putName_eq->mR,mapFields->rQ,mapSeq->nS
open PySem.PyData renaming strOk->fR
open Ne renaming symm->c5
open PySem.Heap.SameBut renaming update->oQ
open PyProof.Rows renaming DefItem->eO
open ForInStep renaming yield->rH
open Prod.mk renaming inj->pY
open PySem.F renaming isi_meta_tuple->vj,isi_meta_bool->vU,isi_meta_list->vT,isi_meta_int->vW,isi_meta_str->vt
open PySem.Value.ref renaming inj->tl
open Classical renaming byContradiction->Bj
namespace Bn
def xB{α β:Type _}{o:Option α}{f:α->Option β}{b:β}{G:Prop}(k:∀a,o=some a->f a=some b->G)(h:o.bind f=some b):G:=let⟨a,p,q⟩:=vV.mp h;k a p q
def xM{α β:Type _}{o:Option α}{f:α->β}{b:β}{G:Prop}(k:∀a,o=some a->f a=b->G)(h:o.map f=some b):G:=let⟨a,p,q⟩:=Option.map_eq_some_iff.mp h;k a p q
def xA{a b:Bool}{G:Prop}(k:a=true->b=true->G)(h:(a&&b)=true):G:=let⟨p,q⟩:=gd.mp h;k p q
def xL{α β:Type _}{f:α->β}{l:List α}{b:β}{G:Prop}(k:∀a,a∈l->f a=b->G)(h:b∈l.map f):G:=let⟨a,p,q⟩:=fg.mp h;k a p q
def xS{α:Type}{p:Prop} [Decidable p]{a b:α}{G:Prop}(k:p->a=b->G)(h:(if p then some a else none)=some b):G:=if hp:p then k hp (ai ((if_pos hp).symm.trans h)) else nomatch (if_neg hp).symm.trans h
def xO{α:Type}{p:Prop} [Decidable p]{o:Option α}{b:α}{G:Prop}(k:p->o=some b->G)(h:(if p then o else none)=some b):G:=if hp:p then k hp ((if_pos hp).symm.trans h) else nomatch (if_neg hp).symm.trans h
def wm{M:PySem.Model}{A:PySem.Around}{E:PySem.Value->PySem.Shared->Prop}{s:PySem.Shared}{α:Type}{t:PySem.Sem α}{Q R:α->PySem.Shared->Prop}(h:PySem.wpAny M A t Q E s)(k:∀a s,Q a s->R a s):PySem.wpAny M A t R E s:=PySem.wpAny_mono h k fun J J h=>h
end Bn
namespace Bn
@[elab_as_elim] theorem xC {α:Type _} {motive:Option α->Prop} (o:Option α) (k:o=none->motive none) (l:∀a,o=some a->motive (some a)):motive o:=match o with
 |none=>k rfl
 |some a=>l a rfl
@[elab_as_elim] theorem xD {motive:Bool->Prop} (o:Bool) (k:o=true->motive true) (l:o=false->motive false):motive o:=match o with
 |true=>k rfl
 |false=>l rfl
def cR{α:Type _}{a:α}{P:Prop}(h:none=some a):P:=nomatch h
def FA{α:Type _}{a:α}{P:Prop}(h:some a=none):P:=nomatch h
end Bn
namespace Bn
@[elab_as_elim] theorem rw1 {α:Sort u} {b:α} {motive:α->Prop} {a:α} (h:a=b) (x:motive b):motive a:=h▸x
@[elab_as_elim] theorem rw2 {α:Sort u} {a:α} {motive:α->Prop} {b:α} (h:a=b) (x:motive a):motive b:=h▸x
end Bn
local macro_rules | `(tactic| rw[$rs,*])=>do
 let ts<-rs.getElems.mapM fun r=>do
  let h:Lean.Term:=⟨r.raw[1]⟩
  let n:=Lean.mkIdent (if r.raw[0].isNone then `Bn.rw1 else `Bn.rw2)
  `(tactic| first |refine $n ($h ..) ?_ |rewrite [$r])
 `(tactic| ($[$ts]*;try with_reducible rfl))
section
open PySem PySem.W PySem.Calls PyProof.Rows
set_option maxRecDepth 100000
set_option maxHeartbeats 8000000
namespace Bn
noncomputable def kids:List Str:=["BadNet","BadLines","BadThing","BadKind","NoNet"]
noncomputable def cF:List Value:=[.type "ValueError",.type "Exception",.type "BaseException",.type "object"]
noncomputable def zd5:List Str:=["__getattribute__","__getattr__","__class__","at","__setattr__"]
noncomputable def oK(h:Heap)(name:Str)(bm:List Value)(ini:Bool):Bool:=match h.clsAt dH name with
 |some (C,o,cd)=>decide (o.cls=.type "type")&&(decide (cd.mro=.ref C::bm)&&(!cd.hasDel&&(cd.hasDict&&(decide (o.slots.size=6)&&(decide (o.slots[4]?=some (some (.builtin "ValueError.__new__")))&&(h.isNs cd.ns&&(zd5.all (fun n=>(h.nsMap cd.ns n).isNone)&&(!ini||(h.nsMap cd.ns "__init__").isNone))))))))
 |none=>false
noncomputable def gS:Option Value->Option Addr
 |some (.ref a)=>some a
 |_=>none
noncomputable def z4{α:Type} [DecidableEq α]:List α->Bool
 |[]=>true
 |x::r=>decide (x∉r)&&z4 r
noncomputable def tC(h:Heap):Bool:=h.isNs dH&&(match gS (h.nsMap dH (ar "NetError")) with
 |some NE=>oK h (ar "NetError") cF true&&(kids.all (fun cn=>oK h cn (.ref NE::cF) (decide (cn≠ar "BadNet")))&&z4 (.ref NE::kids.map fun cn=>(h.nsMap dH cn).getD .none))
 |none=>false)
noncomputable def CX(p1 apos p2 p3 pos p4 p5 p6 p7 p8:Pos)(k:Nat):List Stmt:=
 [.Expr (.Call (.Attribute (.Name "NetError" p1) "__init__" apos) [.Name "self" p2,.Constant (.str "no net") k p3] [] pos) p4,.Assign [.Attribute (.Name "self" p5) "at" p6] (.Name "at" p7) p8]
noncomputable def zL:List (Str×aU):=[(ar "self",.local),(ar "at",.local),(ar "NetError",.globalImplicit)]
noncomputable def Ac (p:qbi):List Stmt:=(p.main.body.findSome? fun st=>match st with
 |.ClassDef nm _ _ body _ _ _ _ _ _ _=>if nm=ar "BadNet" then(match body with |.FunctionDef _ _ b _ _ _ _ _ _ _::_=>some b |_=>none) else none
 |_=>none).getD []
structure fH where
 p1:Pos
 apos:Pos
 p2:Pos
 p3:Pos
 pos:Pos
 p4:Pos
 p5:Pos
 p6:Pos
 p7:Pos
 p8:Pos
 k:Nat
noncomputable def Ak:List Stmt->Option fH
 |[.Expr (.Call (.Attribute (.Name _ p1) _ apos) [.Name _ p2,.Constant _ k p3] _ pos) p4,.Assign [.Attribute (.Name _ p5) _ p6] (.Name _ p7) p8]=>some ⟨p1,apos,p2,p3,pos,p4,p5,p6,p7,p8,k⟩
 |_=>none
noncomputable def fH.body(q:fH):List Stmt:=CX q.p1 q.apos q.p2 q.p3 q.pos q.p4 q.p5 q.p6 q.p7 q.p8 q.k
noncomputable def sU(p:qbi):Option FuncBody:=(Ak (Ac p)).map fun q=>.stmts q.body
noncomputable def vr(p:qbi):Bool:=((Ak (Ac p)).map fun q=>q.apos.endLine==q.pos.line).getD false
noncomputable def rX(q:Str)(v:Option Value):Bool:=match v with
 |some (Value.str y _)=>decide (y=q)
 |_=>false
noncomputable def pS(q:Str)(o:Obj):Bool:=match o.data with
 |.fields vs=>rX q vs[1]?
 |_=>false
noncomputable def rn(h:Heap)(cd:Value)(q:Str):Bool:=match cd with
 |.ref c=>((h.get? c).map (pS q)).getD false
 |_=>false
noncomputable def kF:Value->Bool
 |.none=>true
 |_=>false
noncomputable def DY(h:Heap)(o:Obj)(fd:qbe):Bool:=
 decide (o.cls=.type "function")&&(rn h fd.code fd.qualname&&(decide (fd.closure=[])&&(decide (fd.globals=dH/\fd.builtins=kj/\fd.scope.kind=.function/\fd.scope.isCoroutine=false/\fd.scope.isGenerator=false/\fd.scope.names=zL) &&
  (kF fd.defaults&&(kF fd.kwdefaults&&(fd.params.posonlyargs.isEmpty&&(fd.params.kwonlyargs.isEmpty&&(fd.params.vararg.isNone&&(fd.params.kwarg.isNone&&decide (fd.params.args.map (·.arg)=[ar "self",ar "at"]))))))))))
noncomputable def uI(h:Heap)(o:Obj):Option FuncBody:=match o.data with
 |.func fd=>if DY h o fd=true then some fd.body else none
 |_=>none
noncomputable def pR(h:Heap):Option FuncBody:=match h.clsAt dH (ar "BadNet") with
 |some (_,_,cd)=>(gS (h.nsMap cd.ns "__init__")).bind fun f=>(h.get? f).bind fun o=>if h.isNs cStatics=true/\h.nsMap cStatics "thirdparty.any"=none then uI h o else none
 |none=>none
noncomputable def yE:qbi:={ Challenge.rw_uf020024_12.row.prog with main:={ Challenge.rw_uf020024_12.row.prog.main with body:=([1,2,3,4,5,6,8,9,10,11,12,13,14,15,16,17,18,19,20,21,22,24,25,26,27,28,29,30,31,32,33,34,36,37,38,40,41,42,43,45,46,47,48,50,51,52,53,54,55,56,57,58,59,60,61,62,63,64]:List Nat).filterMap fun i=>Challenge.rw_uf020024_12.row.prog.main.body[i]? } }
def yp:vr Challenge.rw_uf020024_12.row.prog=true:=by kernel_rfl
def sC:Challenge.rw_uf020024_12.wellSaid=true:=by kernel_rfl
def sA:LeftO Challenge.rw_uf020024_12.row.prog yE [] (fun s=>xlAt yE [] s&&recOk (RowW.records Challenge.rw_uf020024_12.row.toRowW) s) (fun s=>(tC s.heap,pR s.heap)) (fun J=>(true,sU Challenge.rw_uf020024_12.row.prog)) 8000:=by intro w;kernel_rfl
end Bn
end
namespace Ar
inductive Nd where
 |l (k:Nat) |v (i:Nat) |b (t:Nat)(x y:Nd)
noncomputable def yy{α:Type}(z:α)(l:List α):Nat->α:=List.rec (fun J=>z) (fun x J ih i=>Nat.rec x (fun j J=>ih j) i) l
noncomputable def vN(c:List Nat)(e:Nd):Nat:=
 (fun _:Nat=>Nd.rec (fun k=>k) (fun i=>List.rec (fun J=>0) (fun x J ih i=>Nat.rec x (fun j J=>ih j) i) c i) (fun t J J X Y=>cond (t.beq 0) (X+Y) (cond (t.beq 1) (X*Y) (cond (t.beq 2) (X-Y) (cond (t.beq 3) (X/Y) (cond (t.beq 4) (X%Y) (min X Y)))))) e) PySem.sizeLine
noncomputable def vZ(c:List Nat)(z:List Int)(e:Nd):Int:=
 Nd.rec (fun k=>(k:Int)) (fun i=>yy 0 z i) (fun t x J X Y=>cond (t.beq 0) (X+Y) (cond (t.beq 1) (X*Y) (cond (t.beq 2) (X-Y) (cond (t.beq 3) (-X) ((vN c x:Nat):Int))))) e
def vP(c:List Nat)(z:List Int)(e:Nd):Prop:=
 Nd.rec (fun J=>False) (fun J=>False) (fun t x y X Y=>cond (t.beq 0) (vN c x<=vN c y) (cond (t.beq 1) (vN c x<vN c y) (cond (t.beq 2) (vN c x=vN c y)
  (cond (t.beq 3) (vZ c z x<=vZ c z y) (cond (t.beq 4) (vZ c z x<vZ c z y) (cond (t.beq 5) (vZ c z x=vZ c z y)
  (cond (t.beq 6) (X/\Y) (cond (t.beq 7) (X\/Y) (¬X))))))))) e
noncomputable def same(e:Nd):Nd->Bool:=
 Nd.rec (fun k f=>Nd.rec (fun j=>k.beq j) (fun J=>false) (fun J J J J J=>false) f) (fun k f=>Nd.rec (fun J=>false) (fun j=>k.beq j) (fun J J J J J=>false) f)
  (fun t J J X Y f=>Nd.rec (fun J=>false) (fun J=>false) (fun u x y J J=>cond (t.beq u) (cond (X x) (Y y) false) false) f) e
theorem DQ(e:Nd):∀f,same e f=true->e=f:=by
 induction e with
 |l k=>intro f h;cases f with
  |l j=>rw[er h]
  |v j=>exact nomatch h
  |b t x y=>exact nomatch h
 |v k=>intro f h;cases f with
  |l j=>exact nomatch h
  |v j=>rw[er h]
  |b t x y=>exact nomatch h
 |b t x y ihx ihy=>intro f h;cases f with
  |l j=>exact nomatch h
  |v j=>exact nomatch h
  |b u x' y'=>
   replace h:cond (t.beq u) (cond (same x x') (same y y') false) false=true:=h;refine Bn.xD (t.beq u) (fun h1=>?_) fun h1=>?_
   ·rw[h1] at h;replace h:cond (same x x') (same y y') false=true:=h;refine Bn.xD (same x x') (fun h2=>?_) fun h2=>?_
    ·rw[h2] at h;rw[er h1,ihx _ h2,ihy _ h]
    ·rw[h2] at h;exact nomatch h
   ·rw[h1] at h;exact nomatch h
abbrev Lin:=List (Int×Bool×Nd)
section
variable (c:List Nat)(z:List Int)
noncomputable def eg(s:Bool)(a:Nd):Int:=cond s (vN c a:Int) (vZ c z a)
noncomputable def val(l:Lin):Int:=List.rec 0 (fun p J ih=>p.1*eg c z p.2.1 p.2.2+ih) l
noncomputable def put (k:Int) (s:Bool) (a:Nd) (l:Lin):Lin:=List.rec [(k,s,a)] (fun p r ih=>cond (cond (s==p.2.1) (same a p.2.2) false) ((k+p.1,s,a)::r) (p::ih)) l
theorem qf (k:Int) (s:Bool) (a:Nd) (l:Lin):val c z (put k s a l)=k*eg c z s a+val c z l:=by
 induction l with
 |nil=>rfl
 |cons p r ih=>
  show val c z (cond (cond (s==p.2.1) (same a p.2.2) false) ((k+p.1,s,a)::r) (p::put k s a r))=k*eg c z s a+(p.1*eg c z p.2.1 p.2.2+val c z r);refine Bn.xD (cond (s==p.2.1) (same a p.2.2) false) (fun h=>?_) fun h=>?_
  ·refine Bn.xD (s==p.2.1) (fun h1=>?_) fun h1=>?_
   ·rw[h1] at h;show(k+p.1)*eg c z s a+val c z r=_;rw[<- eq_of_beq h1,<-DQ _ _ h,Int.add_mul,Int.add_assoc]
   ·rw[h1] at h;exact nomatch h
  ·show p.1*eg c z p.2.1 p.2.2+val c z (put k s a r)=_;rw[ih];exact Int.add_left_comm ..
noncomputable def cY(e:Nd):Option Nat:=Nd.rec some (fun J=>none) (fun J J J J J=>none) e
theorem Bp{e:Nd}{n:Nat}(h:cY e=some n):e=.l n:=by
 cases e with
 |l k=>rw[ai h]
 |v _=>exact nomatch h
 |b _ _ _=>exact nomatch h
noncomputable def cf(e:Nd):Int->Lin->Lin:=
 Nd.rec (fun n k L=>put (k*n) true (.l 1) L) (fun i k L=>put k true (.v i) L)
  (fun t x y X Y k L=>cond (t.beq 0) (X k (Y k L)) (cond (t.beq 1) (Option.rec (Option.rec (put k true (.b t x y) L) (fun n=>X (k*n) L) (cY y)) (fun n=>Y (k*n) L) (cY x)) (put k true (.b t x y) L))) e
theorem Dw(e:Nd):∀k L,val c z (cf e k L)=k*(vN c e:Int)+val c z L:=by
 induction e with
 |l n=>intro k L;exact(qf c z _ _ _ _).trans (by show k*n*((1:Nat):Int)+_=_;rw[Int.natCast_one,Int.mul_one];rfl)
 |v i=>intro k L;exact qf c z _ _ _ _
 |b t x y X Y=>
  intro k L;show val c z (cond (t.beq 0) (cf x k (cf y k L)) (cond (t.beq 1) (Option.rec (Option.rec (put k true (.b t x y) L) (fun n=>cf x (k*n) L) (cY y)) (fun n=>cf y (k*n) L) (cY x)) (put k true (.b t x y) L)))=_;refine Bn.xD (t.beq 0) (fun h0=>?_) fun h0=>?_
  ·obtain rfl:=er h0;show val c z (cf x k (cf y k L))=k*((vN c x+vN c y:Nat):Int)+_;rw[X,Y,Int.natCast_add,Int.mul_add,Int.add_assoc]
  ·refine Bn.xD (t.beq 1) (fun h1=>?_) fun h1=>?_
   ·obtain rfl:=er h1;show val c z (Option.rec (Option.rec (put k true (.b 1 x y) L) (fun n=>cf x (k*n) L) (cY y)) (fun n=>cf y (k*n) L) (cY x))=k*((vN c x*vN c y:Nat):Int)+_;refine Bn.xC (cY x) (fun hx=>?_) fun n hx=>?_
    ·refine Bn.xC (cY y) (fun hy=>?_) fun n hy=>?_
     ·exact qf c z _ _ _ _
     ·rw[Bp hy];show val c z (cf x (k*n) L)=k*((vN c x*n:Nat):Int)+_;rw[X,Int.natCast_mul,Int.mul_assoc,Int.mul_comm (n:Int)]
    ·rw[Bp hx];show val c z (cf y (k*n) L)=k*((n*vN c y:Nat):Int)+_;rw[Y,Int.natCast_mul,Int.mul_assoc]
   ·exact qf c z _ _ _ _
noncomputable def bS(e:Nd):Int->Lin->Lin:=
 Nd.rec (fun n k L=>put (k*n) true (.l 1) L) (fun i k L=>put k false (.v i) L)
  (fun t x y X Y k L=>cond (t.beq 0) (X k (Y k L)) (cond (t.beq 2) (X k (Y (-k) L)) (cond (t.beq 3) (X (-k) L) (cond (t.beq 4) (cf x k L)
   (cond (t.beq 1) (Option.rec (put k false (.b t x y) L) (fun n=>Y (k*n) L) (cY x)) (put k false (.b t x y) L)))))) e
theorem Gb(e:Nd):∀k L,val c z (bS e k L)=k*vZ c z e+val c z L:=by
 induction e with
 |l n=>intro k L;exact(qf c z _ _ _ _).trans (by show k*n*((1:Nat):Int)+_=_;rw[Int.natCast_one,Int.mul_one];rfl)
 |v i=>intro k L;exact qf c z _ _ _ _
 |b t x y X Y=>
  intro k L;show val c z (cond (t.beq 0) (bS x k (bS y k L)) (cond (t.beq 2) (bS x k (bS y (-k) L)) (cond (t.beq 3) (bS x (-k) L) (cond (t.beq 4) (cf x k L)
   (cond (t.beq 1) (Option.rec (put k false (.b t x y) L) (fun n=>bS y (k*n) L) (cY x)) (put k false (.b t x y) L))))))=_
  cases h0:t.beq 0 with
  |true=>
   obtain rfl:=er h0;show val c z (bS x k (bS y k L))=k*(vZ c z x+vZ c z y)+_;rw[X,Y,Int.mul_add,Int.add_assoc]
  |false=>
  cases h2:t.beq 2 with
  |true=>
   obtain rfl:=er h2;show val c z (bS x k (bS y (-k) L))=k*(vZ c z x-vZ c z y)+_;rw[X,Y,Int.mul_sub,Int.sub_eq_add_neg,Int.neg_mul,Int.add_assoc]
  |false=>
  cases h3:t.beq 3 with
  |true=>
   obtain rfl:=er h3;show val c z (bS x (-k) L)=k*(- vZ c z x)+_;rw[X,Int.neg_mul,Int.mul_neg]
  |false=>
  cases h4:t.beq 4 with
  |true=>
   obtain rfl:=er h4;exact Dw c z x k L
  |false=>
  refine Bn.xD (t.beq 1) (fun h1=>?_) fun h1=>?_
  ·obtain rfl:=er h1;show val c z (Option.rec (put k false (.b 1 x y) L) (fun n=>bS y (k*n) L) (cY x))=k*(vZ c z x*vZ c z y)+_;refine Bn.xC (cY x) (fun hx=>?_) fun n hx=>?_
   ·exact qf c z _ _ _ _
   ·rw[Bp hx];show val c z (bS y (k*n) L)=k*((n:Int)*vZ c z y)+_;rw[Y,Int.mul_assoc]
  ·exact qf c z _ _ _ _
noncomputable def iI(k:Int)(s:Bool)(d:Int)(x y:Nd)(L:Lin):Lin:=put (k*d) true (.l 1) (cond s (cf y k (cf x (-k) L)) (bS y k (bS x (-k) L)))
def FM(k:Int)(s:Bool)(d:Int)(x y:Nd)(L:Lin):val c z (iI k s d x y L)=k*(d+(eg c z s y-eg c z s x))+val c z L:=by
 refine(qf c z _ _ _ _).trans ?_;have e:val c z (cond s (cf y k (cf x (-k) L)) (bS y k (bS x (-k) L)))=k*(eg c z s y-eg c z s x)+val c z L:=by
  rw[Int.mul_sub,Int.sub_eq_add_neg,<-Int.neg_mul,Int.add_assoc] at ⊢;cases s
  ·exact(Gb c z _ _ _).trans (congrArg _ (Gb c z _ _ _))
  ·exact(Dw c z _ _ _).trans (congrArg _ (Dw c z _ _ _))
 rw[e,show eg c z true (.l 1)=1 from rfl,Int.mul_one,Int.mul_add,Int.add_assoc] at ⊢
noncomputable def hV(f:Nd):Option (Bool×Bool×Int×Nd×Nd):=
 Nd.rec (fun J=>none) (fun J=>none) (fun t x y J J=>cond (t.beq 0) (some (false,true,0,x,y)) (cond (t.beq 1) (some (false,true,-1,x,y)) (cond (t.beq 2) (some (true,true,0,x,y))
  (cond (t.beq 3) (some (false,false,0,x,y)) (cond (t.beq 4) (some (false,false,-1,x,y)) (cond (t.beq 5) (some (true,false,0,x,y)) (cond (t.beq 8)
   (Nd.rec (fun J=>none) (fun J=>none) (fun t x y J J=>cond (t.beq 0) (some (false,true,-1,y,x)) (cond (t.beq 1) (some (false,true,0,y,x)) (cond (t.beq 3) (some (false,false,-1,y,x)) (cond (t.beq 4) (some (false,false,0,y,x)) none)))) x)
   none))))))) f
variable {c z} in
def fM{α:Type}{b:Bool}{x y:α}{P:Prop}{a:α}(h1:b=true->x=a->P)(h2:b=false->y=a->P)(h:cond b x y=a):P:=by
 cases b
 ·exact h2 rfl h
 ·exact h1 rfl h
def Sh(q s:Bool)(d:Int)(x y:Nd):Prop:=(q=true->d+(eg c z s y-eg c z s x)=0)/\0<=d+(eg c z s y-eg c z s x)
def ir{s:Bool}{x y:Nd}(h:eg c z s x<=eg c z s y):Sh c z false s 0 x y:=⟨nofun,by rw[Int.zero_add];exact Int.sub_nonneg_of_le h⟩
def ig{s:Bool}{x y:Nd}(h:eg c z s x<eg c z s y):Sh c z false s (-1) x y:=⟨nofun,by rw[Int.add_comm];exact Int.sub_nonneg_of_le (Int.sub_pos_of_lt h)⟩
def rJ{s:Bool}{x y:Nd}(h:eg c z s x=eg c z s y):Sh c z true s 0 x y:=⟨fun J=>by rw[h,Int.sub_self];rfl,by rw[h,Int.sub_self];decide⟩
theorem kg{f:Nd}{p:Bool×Bool×Int×Nd×Nd}(h:hV f=some p)(hf:vP c z f):Sh c z p.1 p.2.1 p.2.2.1 p.2.2.2.1 p.2.2.2.2:=by
 cases f with
 |l _=>exact nomatch h
 |v _=>exact nomatch h
 |b t a b=>
  revert h;refine fM (fun e h=>?_) fun J=>fM (fun e h=>?_) fun J=>fM (fun e h=>?_) fun J=>fM (fun e h=>?_) fun J=>fM (fun e h=>?_) fun J=>fM (fun e h=>?_) fun J=>fM (fun e h=>?_) fun J h=>nomatch h;all_goals obtain rfl:=er e
  ·rw[<- ai h];exact ir c z (s:=true) (c7.mpr hf)
  ·rw[<- ai h];exact ig c z (s:=true) (bP.mpr hf)
  ·rw[<- ai h];exact rJ c z (s:=true) (congrArg Int.ofNat hf)
  ·rw[<- ai h];exact ir c z (s:=false) hf
  ·rw[<- ai h];exact ig c z (s:=false) hf
  ·rw[<- ai h];exact rJ c z (s:=false) hf
  ·cases a with
   |l _=>exact nomatch h
   |v _=>exact nomatch h
   |b t a b=>
    revert h;refine fM (fun e h=>?_) fun J=>fM (fun e h=>?_) fun J=>fM (fun e h=>?_) fun J=>fM (fun e h=>?_) fun J h=>nomatch h;all_goals obtain rfl:=er e
    ·rw[<- ai h];exact ig c z (s:=true) (bP.mpr (Nat.lt_of_not_le hf))
    ·rw[<- ai h];exact ir c z (s:=true) (c7.mpr (fE hf))
    ·rw[<- ai h];exact ig c z (s:=false) (Int.lt_of_not_ge hf)
    ·rw[<- ai h];exact ir c z (s:=false) (Int.le_of_not_gt hf)
end
end Ar
noncomputable def Ar.kaa:=0xa5000610000308020
noncomputable def Ar.kab:=0x294a000c20000610040308040
noncomputable def Ar.kac:=0x628003080002800308000
noncomputable def Ar.kad:=0x6294001840200c20000a5000810080308000
noncomputable def Ar.kae:=0x294a000c20000610080308020
noncomputable def Ar.kaf:=0xa5000610000310020
noncomputable def Ar.kag:=0x18a50006100803080002800308000
noncomputable def Ar.kah:=0xa5000610040308040
noncomputable def Ar.kai:=0xa5294001840000c20080610080308060
noncomputable def Ar.kaj:=0x1a085294001840600c203806100400014a000c20200610000508001
noncomputable def Ar.kak:=0x65294001840300c20200610000508001
noncomputable def Ar.kal:=0x4294001840200c2000000
noncomputable def Ar.kam:=0x294a528003080001840100c201006100c0408080
noncomputable def Ar.kan:=0x6294001840300c20000a5000610080308000
noncomputable def Ar.kao:=0x6294001840200c20000a50006100c0308000
noncomputable def Ar.kap:=0x429400184020102000000
noncomputable def Ar.kaq:=0x8294001840200c20000a5000610040308000
noncomputable def Ar.kar:=0x68214a000c203806100000014a000c20200610000508001
noncomputable def Ar.kas:=0x294a000c20000610040408040
noncomputable def Ar.kat:=0x10a52800308040184030102000000
noncomputable def Ar.kau:=0x7294001840300c20000a5000610040308000
noncomputable def Ar.kav:=0x61a085294001840800c203006100400014a000c20200610000500421194a000c20180610040500421
noncomputable def Ar.kaw:=0x1c852800308020184000040429400184010102000020
noncomputable def Ar.kax:=0x1c852800310020184000040429400188010102000020
noncomputable def Ar.kay:=0xc3294001840200c20080e200c202002202065294001840300c40100810000710061010011006528003100401840001c401840400440
noncomputable def Ar.kaz:=0x194a528003080601840400c20280610000808401
noncomputable def Ar.kba:=0x7294001840100c20000a5000610040308000
noncomputable def Ar.kbb:=0x8194a50006101403080601840101420084a5000610040308000
noncomputable def Ar.kbc:=0x68210a528003081001840200c2008020200852800308020184000100508001
noncomputable def Ar.kbd:=0x1a085294a000c203006101c03081001840100005294001840400c20300610000508001
noncomputable def Ar.kbe:=0x7490e4214a5000610100308060184010140401884294a000c20200610080308000300a0294001840000c2010040210a528003080801840200c200006010124214a50006101403080401840000802010a528003080601840200c2000040
noncomputable def Ar.kbf:=0x84390e5280030806018400018a50006100003080a0294001840000c2010080310a5000610080308000280a500061000030804000000
noncomputable def Ar.kbg:=0x68190a5294001840900c20500610080308020180a10942000465294001840700c201806100005084a10002508001
noncomputable def Ar.kbh:=0xd03214a528003081201840a00c2018061004030142100465294001840700c2018061004050840128c2008401
noncomputable def Ar.kbi:=0x30d04294001840800c2000000194a50006101c03080601840101421004a108c2000468190a5294001840b00c204806100c0308020180a108c2000465294001840700c201806100405084610002508401
noncomputable def Ar.kbj:=0x1868214a000c203006100400014a000c202006100005080610100110065280030806018401014201840400440
noncomputable def Ar.kbk:=0x6194a50008101003080401840001c4000465294001840400c20100810000710001
noncomputable def Ar.kbl:=0x18ca5294a000c402008101403080c01840200c20080c20042710001
noncomputable def Ar.kbm:=0xd04294001840700c2000000194a528003080c01880800c201006100006100a10042508021
noncomputable def Ar.kbn:=0x6210a500061010030802008040210a500061010030800008040
noncomputable def Ar.kbo:=0x68214a50006101803080601840000005294001840400c20280610000508001
noncomputable def Ar.kbp:=0x6194a000c201806100405080011a085294001840800c203006100400014a000c20200610000508001
noncomputable def Ar.kbq:=0x8214a000c201806100000010a528003080601840400c2000000
noncomputable def Ar.kbr:=0x3294a5280030806018404010202808101803080002882508021
noncomputable def Ar.kbs:=0xc9294001840300c20000a50006100403080002800308000
open Ar
namespace Ar
section
variable (c:List Nat)(z:List Int)
noncomputable def xR(g:Bool)(m:Nat)(f:Nd)(L:Lin):Lin:=
 Option.rec L (fun p=>cond g (cond p.1 (iI (-(m:Int)) p.2.1 p.2.2.1 p.2.2.2.1 p.2.2.2.2 L) L) (iI m p.2.1 p.2.2.1 p.2.2.2.1 p.2.2.2.2 L)) (hV f)
theorem pV{g:Bool}{m:Nat}{f:Nd}{L:Lin}(hf:vP c z f)(h:0<=val c z L):0<=val c z (xR g m f L):=by
 show 0<=val c z (Option.rec L _ (hV f));refine Bn.xC (hV f) (fun e=>?_) fun p e=>?_
 ·exact h
 ·obtain⟨h1,h2⟩:=kg c z e hf;cases g with
  |false=>
   show 0<=val c z (iI m p.2.1 p.2.2.1 p.2.2.2.1 p.2.2.2.2 L);rw[FM];exact Int.add_nonneg (Int.mul_nonneg (iS m) h2) h
  |true=>
   show 0<=val c z (cond p.1 (iI (-(m:Int)) p.2.1 p.2.2.1 p.2.2.2.1 p.2.2.2.2 L) L);refine Bn.xD p.1 (fun e=>?_) fun e=>?_
   ·show 0<=val c z (iI (-(m:Int)) p.2.1 p.2.2.1 p.2.2.2.1 p.2.2.2.2 L);rw[FM,h1 e,Int.mul_zero,Int.zero_add];exact h
   ·exact h
noncomputable def ub(L:Lin):Option Int:=
 List.rec (some 0) (fun p J ih=>Option.rec none (fun u=>cond (cond p.2.1 (same p.2.2 (.l 1)) false) (some (p.1+u)) (cond (p.1==0) (some u) (cond p.2.1 (cond (decide (p.1<=0)) (some u) none) none))) ih) L
theorem ze(L:Lin):∀u,ub L=some u->val c z L<=u:=by
 induction L with
 |nil=>intro u h;rw[<- ai h];exact Int.le_refl 0
 |cons p r ih=>
  intro u h;obtain⟨k,s,a⟩:=p;replace h:Option.rec none (fun u=>cond (cond s (same a (.l 1)) false) (some (k+u)) (cond (k==0) (some u) (cond s (cond (decide (k<=0)) (some u) none) none))) (ub r)=some u:=h;show k*eg c z s a+val c z r<=u;refine Bn.xC (ub r) (fun e=>?_) fun w e=>?_
  ·rw[e] at h;exact nomatch h
  ·have hr:=ih w e;rw[e] at h;revert h;refine fM (fun e1 h=>?_) fun J=>fM (fun e1 h=>?_) fun J h=>?_
   ·rw[<- ai h];cases s with
    |false=>exact nomatch e1
    |true=>
     rw[DQ _ _ e1];exact Int.add_le_add (Int.le_of_eq (Int.mul_one k)) hr
   ·rw[<- ai h,eq_of_beq e1,Int.zero_mul,Int.zero_add];exact hr
   ·cases s with
    |false=>exact nomatch h
    |true=>
     replace h:cond (decide (k<=0)) (some w) none=some u:=h;revert h;refine fM (fun e1 h=>?_) fun J h=>nomatch h;rw[<- ai h];have:=Int.mul_nonneg (Int.neg_nonneg_of_nonpos (of_decide_eq_true e1)) (iS (vN c a));rw[Int.neg_mul] at this;have h2:k*eg c z true a<=0:=Int.nonpos_of_neg_nonneg this;exact Int.le_trans (Int.add_le_add h2 hr) (Int.le_of_eq (Int.zero_add w))
noncomputable def fin(L:Lin):Bool:=Option.rec false (fun u=>decide (u<0)) (ub L)
def tM{L:Lin}(h:fin L=true)(h0:0<=val c z L):False:=by
 replace h:Option.rec false (fun u=>decide (u<0)) (ub L)=true:=h;refine Bn.xC (ub L) (fun e=>?_) fun u e=>?_
 ·rw[e] at h;exact nomatch h
 ·rw[e] at h;exact Int.not_lt.mpr (Int.le_trans h0 (ze c z L u e)) (of_decide_eq_true h)
abbrev dq (F:List Nd):Prop:=∀f∈F,vP c z f
noncomputable def nf(F:List Nd)(i:Nat):Nd:=yy (.b 8 (.l 0) (.l 0)) F i
theorem jY{F:List Nd}(h:dq c z F):∀i,vP c z (nf F i):=by
 induction F with
 |nil=>exact fun _ (x:False)=>x
 |cons f r ih=>
  intro i;cases i with
  |zero=>exact h f aI
  |succ i=>exact ih (fun g hg=>h g (a0 _ hg)) i
noncomputable def kid(e:Nd):Nat:=Nd.rec (fun k=>k) (fun k=>k) (fun J J J J J=>0) e
noncomputable def yc(e:Nd):List Nd->Lin->Lin:=
 Nd.rec (fun J J L=>L) (fun J J L=>L) (fun J x J J Y F L=>Y F (Nd.rec (fun J=>L) (fun J=>L) (fun s i m J J=>xR (s.beq 1) (kid m) (nf F (kid i)) L) x)) e
theorem oo(e:Nd):∀F L,dq c z F->0<=val c z L->0<=val c z (yc e F L):=by
 induction e with
 |l _=>exact fun J J J h=>h
 |v _=>exact fun J J J h=>h
 |b t x y _ Y=>
  intro F L hF h;refine Y F _ hF ?_;cases x with
  |l _=>exact h
  |v _=>exact h
  |b s i m=>exact pV c z (jY c z hF _) h
noncomputable def EZ(e:Nd):List Nd:=
 Nd.rec (fun J=>[]) (fun J=>[]) (fun t x y J J=>cond (t.beq 2) [.b 0 (.b 2 x y) x,.b 0 x (.b 0 (.b 2 x y) y),.b 7 (.b 2 (.b 0 (.b 2 x y) y) x) (.b 6 (.b 0 x y) (.b 2 (.b 2 x y) (.l 0)))]
  (cond (t.beq 5) [.b 0 (.b 5 x y) x,.b 0 (.b 5 x y) y,.b 7 (.b 2 (.b 5 x y) x) (.b 2 (.b 5 x y) y)]
  (Option.rec [] (fun k=>cond (k.beq 0) [] (cond (t.beq 3) [.b 0 (.b 1 (.l k) (.b 3 x (.l k))) x,.b 1 x (.b 0 (.b 1 (.l k) (.b 3 x (.l k))) (.l k))]
   (cond (t.beq 4) [.b 2 (.b 0 (.b 1 (.l k) (.b 3 x (.l k))) (.b 4 x (.l k))) x,.b 1 (.b 4 x (.l k)) (.l k)] []))) (cY y)))) e
def i0{p:Nd->Prop}{a b:Nd}(h1:p a)(h2:p b):∀f∈[a,b],p f:=eh.mpr ⟨h1,eh.mpr ⟨h2,fun J h=>nomatch h⟩⟩
def fD{p:Nd->Prop}{a:Nd}(h1:p a):∀f∈[a],p f:=eh.mpr ⟨h1,fun J h=>nomatch h⟩
theorem uM(e:Nd):dq c z (EZ e):=by
 cases e with
 |l _=>exact fun J h=>nomatch h
 |v _=>exact fun J h=>nomatch h
 |b t x y=>
  refine Bn.xD (t.beq 2) (fun h2=>?_) fun h2=>?_
  ·obtain rfl:=er h2;refine eh.mpr ⟨Nat.sub_le (vN c x) (vN c y),i0 (p:=vP c z) (Nat.le_add_of_sub_le (aJ (vN c x-vN c y))) ?_⟩;show vN c x-vN c y+vN c y=vN c x\/(vN c x<=vN c y/\vN c x-vN c y=0);exact(Nat.le_total (vN c y) (vN c x)).elim (fun h=>.inl (Nat.sub_add_cancel h)) fun h=>.inr ⟨h,Nat.sub_eq_zero_of_le h⟩
  ·show ∀f∈cond (t.beq 2) _ _,vP c z f;rw[h2];show ∀f∈cond (t.beq 5) _ _,vP c z f;refine Bn.xD (t.beq 5) (fun h5=>?_) fun h5=>?_
   ·obtain rfl:=er h5;refine eh.mpr ⟨Nat.min_le_left (vN c x) (vN c y),i0 (p:=vP c z) (Nat.min_le_right (vN c x) (vN c y)) ?_⟩;show min (vN c x) (vN c y)=vN c x\/min (vN c x) (vN c y)=vN c y;exact(Nat.le_total (vN c x) (vN c y)).elim (fun h=>.inl (Nat.min_eq_left h)) fun h=>.inr (Nat.min_eq_right h)
   ·refine Bn.xC (cY y) (fun hy=>?_) fun k hy=>?_
    ·exact fun J h=>nomatch h
    ·show ∀f∈cond (k.beq 0) _ _,vP c z f;refine Bn.xD (k.beq 0) (fun h0=>?_) fun h0=>?_
     ·exact fun J h=>nomatch h
     ·have k0:0<k:=Nat.pos_of_ne_zero fun e=>Nat.ne_of_beq_eq_false h0 e;show ∀f∈cond (t.beq 3) _ _,vP c z f;refine Bn.xD (t.beq 3) (fun h3=>?_) fun h3=>?_
      ·exact i0 (p:=vP c z) (Nat.mul_div_le (vN c x) k) (Nat.lt_mul_div_succ (vN c x) k0)
      ·show ∀f∈cond (t.beq 4) _ _,vP c z f;cases t.beq 4 with
       |false=>exact fun J h=>nomatch h
       |true=>exact i0 (p:=vP c z) (Nat.div_add_mod (vN c x) k) (Nat.mod_lt (vN c x) k0)
noncomputable def neg(f:Nd):Nd:=.b 8 f (.l 0)
noncomputable def Eh(f:Nd):List Nd:=
 Nd.rec (fun J=>[]) (fun J=>[]) (fun t x y J J=>cond (t.beq 6) [x,y] (cond (t.beq 8) (Nd.rec (fun J=>[]) (fun J=>[]) (fun t x y J J=>cond (t.beq 7) [neg x,neg y] (cond (t.beq 8) [x] [])) x) [])) f
theorem u0{f:Nd}(h:vP c z f):dq c z (Eh f):=by
 cases f with
 |l _=>exact fun J h=>nomatch h
 |v _=>exact fun J h=>nomatch h
 |b t x y=>
  show ∀f∈cond (t.beq 6) _ _,vP c z f;refine Bn.xD (t.beq 6) (fun h6=>?_) fun h6=>?_
  ·obtain rfl:=er h6;exact i0 (p:=vP c z) h.1 h.2
  ·show ∀f∈cond (t.beq 8) _ _,vP c z f;refine Bn.xD (t.beq 8) (fun h8=>?_) fun h8=>?_
   ·obtain rfl:=er h8;cases x with
    |l _=>exact fun J h=>nomatch h
    |v _=>exact fun J h=>nomatch h
    |b t x y=>
     show ∀f∈cond (t.beq 7) _ _,vP c z f;refine Bn.xD (t.beq 7) (fun h7=>?_) fun h7=>?_
     ·obtain rfl:=er h7;exact i0 (p:=vP c z) (fun q:vP c z x=>h (Or.inl q)) (fun q:vP c z y=>h (Or.inr q))
     ·show ∀f∈cond (t.beq 8) _ _,vP c z f;refine Bn.xD (t.beq 8) (fun h8=>?_) fun h8=>?_
      ·obtain rfl:=er h8;exact fD (p:=vP c z) (Classical.not_not.mp h)
      ·exact fun J h=>nomatch h
   ·exact fun J h=>nomatch h
noncomputable def zB(g:Bool)(f:Nd):List Nd:=
 Nd.rec (fun J=>[]) (fun J=>[]) (fun t x y J J=>cond (t.beq 7) [cond g x y] (cond (t.beq 8) (Nd.rec (fun J=>[]) (fun J=>[]) (fun t x y J J=>cond (t.beq 6) [neg (cond g x y)] (cond (t.beq 2) [.b 1 (cond g x y) (cond g y x)] (cond (t.beq 5) [.b 4 (cond g x y) (cond g y x)] []))) x) [])) f
theorem si{f:Nd}(h:vP c z f):dq c z (zB true f)\/dq c z (zB false f):=by
 cases f with
 |l _=>exact .inl fun J h=>nomatch h
 |v _=>exact .inl fun J h=>nomatch h
 |b t x y=>
  show(∀f∈cond (t.beq 7) _ _,vP c z f)\/∀f∈cond (t.beq 7) _ _,vP c z f;refine Bn.xD (t.beq 7) (fun h6=>?_) fun h6=>?_
  ·obtain rfl:=er h6;exact Or.imp (fun q=>fD q) (fun q=>fD q) h
  ·show(∀f∈cond (t.beq 8) _ _,vP c z f)\/∀f∈cond (t.beq 8) _ _,vP c z f;refine Bn.xD (t.beq 8) (fun h8=>?_) fun h8=>?_
   ·obtain rfl:=er h8;cases x with
    |l _=>exact .inl fun J h=>nomatch h
    |v _=>exact .inl fun J h=>nomatch h
    |b t x y=>
     show(∀f∈cond (t.beq 6) _ _,vP c z f)\/∀f∈cond (t.beq 6) _ _,vP c z f;refine Bn.xD (t.beq 6) (fun h7=>?_) fun h7=>?_
     ·obtain rfl:=er h7;exact(Classical.not_and_iff_not_or_not.mp h).imp (fun q=>fD (p:=vP c z) (a:=neg x) q) (fun q=>fD (p:=vP c z) (a:=neg y) q)
     ·show(∀f∈cond (t.beq 2) _ _,vP c z f)\/∀f∈cond (t.beq 2) _ _,vP c z f;refine Bn.xD (t.beq 2) (fun h8=>?_) fun h8=>?_
      ·obtain rfl:=er h8;exact(Nat.lt_or_gt_of_ne h).imp (fun q=>fD (p:=vP c z) (a:=.b 1 x y) q) (fun q=>fD (p:=vP c z) (a:=.b 1 y x) q)
      ·show(∀f∈cond (t.beq 5) _ _,vP c z f)\/∀f∈cond (t.beq 5) _ _,vP c z f;refine Bn.xD (t.beq 5) (fun h8=>?_) fun h8=>?_
       ·obtain rfl:=er h8;exact(Int.lt_or_gt_of_ne h).imp (fun q=>fD (p:=vP c z) (a:=.b 4 x y) q) (fun q=>fD (p:=vP c z) (a:=.b 4 y x) q)
       ·exact .inl fun J h=>nomatch h
   ·exact .inl fun J h=>nomatch h
noncomputable def run(e:Nd):List Nd->Bool:=
 Nd.rec (fun J J=>false) (fun J J=>false) (fun t x y X Y F=>cond (t.beq 0) (Y (EZ x++F)) (cond (t.beq 1) (Y (Eh (nf F (kid x))++F)) (cond (t.beq 2) (fin (yc (.b t x y) F []))
  (cond (X (zB true (nf F (t-3))++F)) (Y (zB false (nf F (t-3))++F)) false)))) e
def zM{F G:List Nd}(h:dq c z F)(k:dq c z G):dq c z (F++G):=List.forall_mem_append.mpr ⟨h,k⟩
theorem Am(e:Nd):∀F,run e F=true->dq c z F->False:=by
 induction e with
 |l _=>exact fun J h=>nomatch h
 |v _=>exact fun J h=>nomatch h
 |b t x y X Y=>
  intro F;refine fM (fun J h hF=>Y _ h (zM c z (uM c z x) hF)) fun J=>fM (fun J h hF=>Y _ h (zM c z (u0 c z (jY c z hF _)) hF)) fun J=>
   fM (fun J h hF=>tM c z h (oo c z _ F [] hF (Int.le_refl 0))) fun J=>fM (fun e h hF=>?_) fun J h=>nomatch h
  exact(si c z (jY c z hF (t-3))).elim (fun q=>X _ e (zM c z q hF)) fun q=>Y _ h (zM c z q hF)
end
noncomputable def GN(f:Nat):Nat->List Nd->List Nd:=
 Nat.rec (fun J S=>S) (fun J ih n S=>Nat.rec S (fun m J=>
  cond (Nat.beq ((m+1)%32) 0) (ih ((m+1)/1024) (.l ((m+1)/32%32)::S))
  (cond (Nat.beq ((m+1)%32) 1) (ih ((m+1)/1024) (.v ((m+1)/32%32)::S))
  (cond (Nat.beq ((m+1)%32) 2) (ih ((m+1)/37778931862957161709568) (.l ((m+1)/32%1180591620717411303424)::S))
  (List.rec S (fun y R J=>List.rec S (fun x R' J=>cond (Nat.beq ((m+1)%32) 31) (ih ((m+1)/1024) (.b ((m+1)/32%32) x y::R')) (ih ((m+1)/32) (.b ((m+1)%32-3) x y::R'))) R) S)))) n) f
noncomputable def uV(n:Nat):Nd:=nf (GN 2000 n []) 0
def mx(a b:Nat):(max a b=a/\b<=a)\/(max a b=b/\a<=b):=(Nat.le_total b a).imp (fun h=>⟨Nat.max_eq_left h,h⟩) fun h=>⟨Nat.max_eq_right h,h⟩
def tn(a:Int):((a.toNat:Nat):Int)=a\/(a<=0/\a.toNat=0):=(Int.le_total 0 a).imp Int.toNat_of_nonneg fun h=>⟨h,Int.toNat_of_nonpos h⟩
def zx(a b:Int):(max a b=a/\b<=a)\/(max a b=b/\a<=b):=(Int.le_total b a).imp (fun h=>⟨Int.max_eq_left h,h⟩) fun h=>⟨Int.max_eq_right h,h⟩
def zn(a b:Int):(min a b=a/\a<=b)\/(min a b=b/\b<=a):=(Int.le_total a b).imp (fun h=>⟨Int.min_eq_left h,h⟩) fun h=>⟨Int.min_eq_right h,h⟩
def na(a:Int):(((a.natAbs:Nat):Int)=a/\0<=a)\/(((a.natAbs:Nat):Int) = -a/\a<=0):=(Int.le_total 0 a).imp (fun h=>⟨Int.natAbs_of_nonneg h,h⟩) fun h=>⟨Int.ofNat_natAbs_of_nonpos h,h⟩
def p63:(2:Int)^63=9223372036854775808:=by decide
def p31:(2:Int)^31=2147483648:=by decide
def zd(a:Int){k:Int}(h:0<k):k*(a/k)+a%k=a/\0<=a%k/\a%k<k:=⟨Int.mul_ediv_add_emod a k,Int.emod_nonneg a (Int.ne_of_gt h),Int.emod_lt_of_pos a h⟩
def tw(c:List Nat)(z:List Int):dq c z []:=fun J h=>nomatch h
def eN(c:List Nat)(z:List Int){f:Nd}{F:List Nd}(h:vP c z f)(k:dq c z F):dq c z (f::F):=eh.mpr ⟨h,k⟩
def uY{c:List Nat}{z:List Int}{e g:Nd}{F:List Nd}(h:run e (neg g::F)=true)(k:dq c z F):vP c z g:=Classical.not_not.mp fun q=>Am c z _ _ h (eN c z (f:=neg g) q k)
noncomputable def jn(n:Nat)(g:Nd):Bool:=run (uV n) [neg g]
def bp(c:List Nat)(z:List Int)(n:Nat)(g:Nd)(e:jn n g=true:=by kernel_rfl):vP c z g:=uY e (tw c z)
noncomputable def KN(n:Nat)(g f1:Nd):Bool:=run (uV n) [neg g,f1]
def aj(c:List Nat)(z:List Int)(n:Nat)(g f1:Nd)(h1:vP c z f1)(e:KN n g f1=true:=by kernel_rfl):vP c z g:=uY e (eN c z h1 (tw c z))
noncomputable def AM(n:Nat)(g f1 f2:Nd):Bool:=run (uV n) [neg g,f1,f2]
def ay(c:List Nat)(z:List Int)(n:Nat)(g f1 f2:Nd)(h1:vP c z f1)(h2:vP c z f2)(e:AM n g f1 f2=true:=by kernel_rfl):vP c z g:=uY e (eN c z h1 (eN c z h2 (tw c z)))
noncomputable def JY(n:Nat)(g f1 f2 f3:Nd):Bool:=run (uV n) [neg g,f1,f2,f3]
def bo(c:List Nat)(z:List Int)(n:Nat)(g f1 f2 f3:Nd)(h1:vP c z f1)(h2:vP c z f2)(h3:vP c z f3)(e:JY n g f1 f2 f3=true:=by kernel_rfl):vP c z g:=uY e (eN c z h1 (eN c z h2 (eN c z h3 (tw c z))))
noncomputable def K5(n:Nat)(g f1 f2 f3 f4:Nd):Bool:=run (uV n) [neg g,f1,f2,f3,f4]
def gy(c:List Nat)(z:List Int)(n:Nat)(g f1 f2 f3 f4:Nd)(h1:vP c z f1)(h2:vP c z f2)(h3:vP c z f3)(h4:vP c z f4)(e:K5 n g f1 f2 f3 f4=true:=by kernel_rfl):vP c z g:=uY e (eN c z h1 (eN c z h2 (eN c z h3 (eN c z h4 (tw c z)))))
noncomputable def HC(n:Nat)(g f1 f2 f3 f4 f5:Nd):Bool:=run (uV n) [neg g,f1,f2,f3,f4,f5]
def An(c:List Nat)(z:List Int)(n:Nat)(g f1 f2 f3 f4 f5:Nd)(h1:vP c z f1)(h2:vP c z f2)(h3:vP c z f3)(h4:vP c z f4)(h5:vP c z f5)(e:HC n g f1 f2 f3 f4 f5=true:=by kernel_rfl):vP c z g:=uY e (eN c z h1 (eN c z h2 (eN c z h3 (eN c z h4 (eN c z h5 (tw c z))))))
noncomputable def HF(n:Nat)(g f1 f2 f3 f4 f5 f6:Nd):Bool:=run (uV n) [neg g,f1,f2,f3,f4,f5,f6]
def Cy(c:List Nat)(z:List Int)(n:Nat)(g f1 f2 f3 f4 f5 f6:Nd)(h1:vP c z f1)(h2:vP c z f2)(h3:vP c z f3)(h4:vP c z f4)(h5:vP c z f5)(h6:vP c z f6)(e:HF n g f1 f2 f3 f4 f5 f6=true:=by kernel_rfl):vP c z g:=uY e (eN c z h1 (eN c z h2 (eN c z h3 (eN c z h4 (eN c z h5 (eN c z h6 (tw c z)))))))
noncomputable def V0:Nd:=.v 0
noncomputable def V1:Nd:=.v 1
noncomputable def V2:Nd:=.v 2
noncomputable def V3:Nd:=.v 3
noncomputable def V4:Nd:=.v 4
noncomputable def V5:Nd:=.v 5
noncomputable def V6:Nd:=.v 6
noncomputable def J0:Nd:=.l 0
noncomputable def J1:Nd:=.l 1
noncomputable def J2:Nd:=.l 2
noncomputable def Y0(x y:Nd):Nd:=.b 0 x y
noncomputable def Y1(x y:Nd):Nd:=.b 1 x y
noncomputable def Y2(x y:Nd):Nd:=.b 2 x y
noncomputable def Y3(x y:Nd):Nd:=.b 3 x y
noncomputable def Y4(x y:Nd):Nd:=.b 4 x y
noncomputable def Y5(x y:Nd):Nd:=.b 5 x y
noncomputable def Y6(x y:Nd):Nd:=.b 6 x y
noncomputable def Y7(x y:Nd):Nd:=.b 7 x y
noncomputable def Y8(x y:Nd):Nd:=.b 8 x y
end Ar
open Ar (V0 V1 V2 V3 V4 V5 V6 J0 J1 J2 Y0 Y1 Y2 Y3 Y4 Y5 Y6 Y7 Y8)
namespace Bn
open PySem PySem.W PyProof.Rows
noncomputable def uH(key:Nat->Int)(i j:Nat):Bool:=decide (key i<key j)
noncomputable def bg(p:Array Nat)(i:Nat):Nat:=p.getD i 0
def ja(p:Array Nat)(i:Nat):bg p i=(p[i]?).getD 0:=by
 unfold bg;rw[Array.getD_eq_getD_getElem?]
section
variable {key:Nat->Int}{N:Nat}
def dY(N:Nat)(p:Array Nat):Prop:=p.toList.Perm (List.range N)
theorem dY.size{p:Array Nat}(h:dY N p):p.size=N:=by
 have:=List.Perm.length_eq h;simpa using this
theorem dY.lt{p:Array Nat}(h:dY N p){x:Nat}(hx:x<N):bg p x<N:=by
 have hs:=h.size;have:bg p x∈p.toList:=by rw[ja,uA (by lia)];simp
 simpa using h.mem_iff.mp this
theorem dY.ne{p:Array Nat}(h:dY N p)(hk:∀i j,i<N->j<N->key i=key j->i=j){i j:Nat}(hi:i<N)(hj:j<N)(hij:i≠j):key (bg p i)≠key (bg p j):=by
 have hs:=h.size;have hn:p.toList.Nodup:=h.nodup_iff.mpr List.nodup_range;intro hc;have:=hk _ _ (h.lt hi) (h.lt hj) hc;rw[ja,ja,uA (by lia),uA (by lia)] at this;simp only[Option.getD_some] at this;have h2:p.toList[i]'(by simp;lia)=p.toList[j]'(by simp;lia):=by simpa using this
 exact hij ((List.getElem_inj hn).mp h2)
def Up(key:Nat->Int)(p:Array Nat)(m:Nat):Prop:=∀i j,i<j->j<m->key (bg p i)<key (bg p j)
def fS(key:Nat->Int)(p:Array Nat)(m:Nat):Prop:=∀i j,i<j->j<m->key (bg p j)<key (bg p i)
def Up.succ{p:Array Nat}{m:Nat}(h:Up key p m)(h1:1<=m)(hl:key (bg p (m-1))<key (bg p m)):Up key p (m+1):=by
 intro i j hij hj;by_cases e:j=m
 ·subst e;by_cases e':i=j-1
  ·rw[e'];exact hl
  ·exact Int.lt_trans (h i (j-1) (by exact ay [_,_] [] kbb (Y1 V0 (Y2 V1 J1)) (Y1 V0 V1) (Y8 (Y2 V0 (Y2 V1 J1)) J0) hij e') (by exact aj [_] [] kaj (Y1 (Y2 V0 J1) V0) (Y0 J1 V0) h1)) hl
 ·exact h i j hij (by exact ay [_,_] [] kaq (Y1 V0 V1) (Y1 V0 (Y0 V1 J1)) (Y8 (Y2 V0 V1) J0) hj e)
def fS.succ{p:Array Nat}{m:Nat}(h:fS key p m)(h1:1<=m)(hl:key (bg p m)<key (bg p (m-1))):fS key p (m+1):=by
 intro i j hij hj;by_cases e:j=m
 ·subst e;by_cases e':i=j-1
  ·rw[e'];exact hl
  ·exact Int.lt_trans hl (h i (j-1) (by exact ay [_,_] [] kbb (Y1 V0 (Y2 V1 J1)) (Y1 V0 V1) (Y8 (Y2 V0 (Y2 V1 J1)) J0) hij e') (by exact aj [_] [] kaj (Y1 (Y2 V0 J1) V0) (Y0 J1 V0) h1))
 ·exact h i j hij (by exact ay [_,_] [] kaq (Y1 V0 V1) (Y1 V0 (Y0 V1 J1)) (Y8 (Y2 V0 V1) J0) hj e)
def dY.rev{p:Array Nat}(hp:dY N p)(i j:Nat):dY N (kas_rev p i j):=(Array.perm_iff_toList_perm.mp (mirror_perm p i j _)).trans hp
def dY.bub{p:Array Nat}(hp:dY N p)(i j:Nat):dY N (bubble p i j):=(Array.perm_iff_toList_perm.mp (bubble_perm p i j)).trans hp
theorem kT{p:Array Nat}{n:Nat}(h:n<=p.size)(k:Nat):bg (kas_rev p 0 n) k=if k<n then bg p (n-1-k) else bg p k:=by
 rw[ja,ja,ja];unfold kas_rev;rw[getElem?_mirror_all h];simp only[eA,true_and];split
 ·congr 2;exact bp [_,_] [] 0x61a08528003080c01840100003410a528003081401840700c200800018ca5294a000c207006102803080c01840400c20080a100025084a1000250806008005084a100c0100068214a000c20300610040000d04294a000c2050061018030802000063294a528003081c01840a00c203006101003080202840300400284250806008005080012842508001 (Y2 (Y2 (Y2 (Y0 J0 V0) J1) V1) (Y2 (Y2 V0 J1) V1))
 ·rfl
def fS.rev{p:Array Nat}{n:Nat}(h:fS key p n)(hn:n<=p.size):Up key (kas_rev p 0 n) n:=by
 intro i j hij hj;rw[kT hn,kT hn,if_pos (by exact ay [_,_,_] [] kab (Y1 V0 V1) (Y1 V0 V2) (Y1 V2 V1) hij hj),if_pos hj];exact h _ _ (by exact ay [_,_,_] [] 0x340c64294a5294001840c00c206806103803080c01840300c20080c028825080012840008ca5294001840700c204006100c030802028825080012842508001 (Y1 (Y2 (Y2 V0 J1) V1) (Y2 (Y2 V0 J1) V2)) (Y1 V2 V1) (Y1 V1 V0) hij hj) (by exact ay [_,_,_] [] 0xd04294a000c2038061020030800000065294001840700c201806100005084a10002508001 (Y1 (Y2 (Y2 V0 J1) V1) V0) (Y1 V1 V2) (Y1 V2 V0) hij hj)
def cQ(key:Nat->Int)(N:Nat){α:Type}(R:α->Prop):KasT α->Prop
 |.ret a=>R a
 |.ask i j k=>i<N/\j<N/\cQ key N R (k (uH key i j))
theorem cQ.bind{α β:Type}{R:α->Prop}{R':β->Prop}{f:α->KasT β}(hf:∀a,R a->cQ key N R' (f a)):∀{t:KasT α},cQ key N R t->cQ key N R' (t.bind f)
 |.ret _,h=>hf _ h
 |.ask _ _ _,h=>⟨h.1,h.2.1,cQ.bind hf h.2.2⟩
theorem cQ.wp{cmp:Nat->Nat->(Bool->Shared->Prop)->Shared->Prop}{s:Shared}(hc:∀i j C,i<N->j<N->C (uH key i j) s->cmp i j C s){α:Type}{R:α->Prop}{Q:α->Shared->Prop}(hq:∀a,R a->Q a s):∀t:KasT α,cQ key N R t->t.kasWp cmp Q s
 |.ret a,h=>hq a h
 |.ask i j k,h=>hc i j _ h.1 h.2.1 (cQ.wp hc hq (k (uH key i j)) h.2.2)
section
variable {p:Array Nat}(hp:dY N p)(hk:∀i j,i<N->j<N->key i=key j->i=j)
include hp in
def cQ.ask{α:Type}{R:α->Prop}{i j:Nat}{k:Bool->KasT α}(hi:i<N)(hj:j<N)(h1:key (bg p i)<key (bg p j)->cQ key N R (k true))(h2:¬key (bg p i)<key (bg p j)->cQ key N R (k false)):cQ key N R (.ask (bg p i) (bg p j) k):=by
 refine⟨hp.lt hi,hp.lt hj,?_⟩
 unfold uH
 by_cases h:key (bg p i)<key (bg p j)
 ·rw[decide_eq_true h];exact h1 h
 ·rw[decide_eq_false h];exact h2 h
include hp hk
def dY.gt{i j:Nat}(hi:i<N)(hj:j<N)(hij:i≠j)(h:¬key (bg p i)<key (bg p j)):key (bg p j)<key (bg p i):=Int.lt_iff_le_and_ne.mpr ⟨Int.not_lt.mp h,fun e=>hp.ne hk hi hj hij e.symm⟩
theorem mM{R:Nat->Prop}(f:Nat):∀n,1<=n->n+f<=N->Up key p n->(∀m,n<=m->m<=n+f->Up key p m->(m=n+f\/key (bg p m)<key (bg p (m-1)))->R m)->cQ key N R (kas_asc p f n):=by
 induction f with
 |zero=>exact fun n J J hu h=>h n (aJ _) (aJ _) hu (.inl rfl)
 |succ f ih=>
  intro n h1 hn hu h;have n1:n<N:=by exact aj [_,_,_] [] kaa (Y1 V0 V1) (Y0 (Y0 V0 (Y0 V2 J1)) V1) hn
  have n2:n-1<N:=by exact aj [_,_] [] kak (Y1 (Y2 V0 J1) V1) (Y1 V0 V1) n1
  refine cQ.ask hp n1 n2 (fun hl=>h n (aJ _) (gM _ _) hu (.inr hl)) fun hl=>?_;refine ih (n+1) (Nat.le_add_left _ _) (by exact aj [_,_,_] [] kaa (Y0 (Y0 (Y0 V0 J1) V1) V2) (Y0 (Y0 V0 (Y0 V1 J1)) V2) hn) (hu.succ h1 (hp.gt hk n1 n2 (by exact aj [_] [] kbc (Y8 (Y2 V0 (Y2 V0 J1)) J0) (Y0 J1 V0) h1) hl)) fun m a b u o=>h m (by exact aj [_,_] [] kaa (Y0 V0 V1) (Y0 (Y0 V0 J1) V1) a) (by exact aj [_,_,_] [] kaa (Y0 V0 (Y0 V1 (Y0 V2 J1))) (Y0 V0 (Y0 (Y0 V1 J1) V2)) b) u (o.imp (fun e=>?_) id);exact ay [_,_,_] [] 0x6294001840200c20000a50008100c0308000 (Y2 V0 (Y0 V1 (Y0 V2 J1))) (Y0 V0 (Y0 (Y0 V1 J1) V2)) (Y2 V0 (Y0 (Y0 V1 J1) V2)) b e
theorem qg{R:Array Nat×Nat×Nat->Prop}(f:Nat):∀n,1<=n->n+f<=N->fS key p n->(∀m,n<=m->m<=n+f->fS key p m->R (p,m,0))->cQ key N R (kas_desc f p n 0):=by
 induction f with
 |zero=>exact fun n J J hu h=>h n (aJ _) (aJ _) hu
 |succ f ih=>
  intro n h1 hn hu h;have n1:n<N:=by exact aj [_,_,_] [] kaa (Y1 V0 V1) (Y0 (Y0 V0 (Y0 V2 J1)) V1) hn
  have n2:n-1<N:=by exact aj [_,_] [] kak (Y1 (Y2 V0 J1) V1) (Y1 V0 V1) n1
  refine cQ.ask hp n1 n2 (fun hl=>?_) fun hl=>cQ.ask hp n2 n1 (fun J=>h n (aJ _) (gM _ _) hu) fun h'=>absurd (hp.gt hk n1 n2 (by exact aj [_] [] kbc (Y8 (Y2 V0 (Y2 V0 J1)) J0) (Y0 J1 V0) h1) hl) h';exact ih (n+1) (Nat.le_add_left _ _) (by exact aj [_,_,_] [] kaa (Y0 (Y0 (Y0 V0 J1) V1) V2) (Y0 (Y0 V0 (Y0 V1 J1)) V2) hn) (hu.succ h1 hl) fun m a b u=>h m (by exact aj [_,_] [] kaa (Y0 V0 V1) (Y0 (Y0 V0 J1) V1) a) (by exact aj [_,_,_] [] kaa (Y0 V0 (Y0 V1 (Y0 V2 J1))) (Y0 V0 (Y0 (Y0 V1 J1) V2)) b) u
def mI{R:Nat×Array Nat->Prop}(hN:2<=N)(h:∀m p',1<=m->m<=N->dY N p'->Up key p' m->R (m,p')):cQ key N R (kas_count N p):=by
 refine cQ.bind (R:=fun n=>1<=n/\n<=N/\Up key p n/\(n=N\/key (bg p n)<key (bg p (n-1)))) (fun n a=>?_) (mM hp hk (N-1) 1 (aJ _) (by exact aj [_] [] kar (Y0 (Y0 J1 (Y2 V0 J1)) V0) (Y0 J2 V0) hN) (fun i j h1 h2=>absurd h2 (by exact ay [_,_] [] kah (Y8 (Y1 V0 J1) J0) (Y1 V1 V0) (Y1 V0 J1) h1 h2)) fun m a b u o=>⟨a,by exact ay [_,_] [] 0x1a08528003080e01840000005294001840400c20300610000508021 (Y0 V0 V1) (Y0 J2 V1) (Y0 V0 (Y0 J1 (Y2 V1 J1))) hN b,u,o.imp (fun e=>by exact bo [_,_] [] 0x1868214a000c204006100000014a50006101c0308080184000142008465294002040700c20180610040508021 (Y2 V0 V1) (Y0 J2 V1) (Y0 V0 (Y0 J1 (Y2 V1 J1))) (Y2 V0 (Y0 J1 (Y2 V1 J1))) hN b e) id⟩);obtain⟨a1,a2,a3,a4⟩:=a;by_cases e:n=N
 ·rw[if_pos (beq_iff_eq.mpr e)];exact h n p a1 a2 hp a3
 ·rw[if_neg fun q=>e (beq_iff_eq.mp q)];by_cases h1:n>1
  ·rw[if_pos h1];exact cQ.ask hp (by exact aj [_] [] kaa (Y1 J0 V0) (Y0 J2 V0) hN) (by exact ay [_,_] [] 0x8294001840200c2000065294001840400c20180610000508001 (Y1 (Y2 V0 J1) V1) (Y0 V0 V1) (Y8 (Y2 V0 V1) J0) a2 e) (fun J=>h n p a1 a2 hp a3) fun q=>absurd (a3 0 (n-1) (by exact aj [_] [] 0x65294001840300c20200610040508001 (Y1 J0 (Y2 V0 J1)) (Y1 J1 V0) h1) (by exact aj [_] [] kar (Y1 (Y2 V0 J1) V0) (Y1 J1 V0) h1)) q
  ·rw[if_neg h1];obtain rfl:n=1:=by exact ay [_] [] kan (Y2 V0 J1) (Y0 J1 V0) (Y8 (Y1 J1 V0) J0) a1 h1
   have h10:=a4.resolve_left e;have hs:=hp.size;refine cQ.bind (R:=fun r=>∃m,r=(p,m,0)/\2<=m/\m<=N/\fS key p m) (fun r b=>?_) (qg hp hk (N-2) 2 (by decide) (by exact aj [_] [] 0x1a085294001840600c203806100400014a000c20200610000510001 (Y0 (Y0 J2 (Y2 V0 J2)) V0) (Y0 J2 V0) hN) (fun i j h1 h2=>?_) fun m a b u=>⟨m,rfl,a,by exact ay [_,_] [] 0x1a085294a000c203006101c03081001840100005294001840400c20300610000510021 (Y0 V0 V1) (Y0 J2 V1) (Y0 V0 (Y0 J2 (Y2 V1 J2))) hN b,u⟩)
   ·obtain⟨m,rfl,b2,b3,b4⟩:=b;refine cQ.bind (R:=fun k=>m<=k/\k<=N/\Up key (kas_rev p 0 m) k) (fun k c=>?_) (mM (hp.rev 0 m) hk (N-m) m (by exact aj [_] [] kaa (Y0 J1 V0) (Y0 J2 V0) b2) (by exact aj [_,_] [] 0x1a085294001840600c203806100400014a000c20200610000500421 (Y0 (Y0 V0 (Y2 V1 V0)) V1) (Y0 V0 V1) b3) (b4.rev (by exact ay [_,_,_] [] 0x294a000c20000810040308040 (Y0 V0 V1) (Y2 V1 V2) (Y0 V0 V2) hs b3)) fun k a b u J=>⟨a,by exact ay [_,_,_] [] 0x1a085294a000c203006101c03081001840100005294001840400c20300610000510421 (Y0 V0 V1) (Y0 V2 V1) (Y0 V0 (Y0 V2 (Y2 V1 V2))) b3 b,u⟩);exact h k _ (by exact ay [_,_] [] kab (Y0 J1 V0) (Y0 J2 V1) (Y0 V1 V0) b2 c.1) c.2.1 (hp.rev 0 m) c.2.2
   ·obtain rfl:i=0:=by exact ay [_,_] [] 0x6294a000c201006100c03080002800308000 (Y2 V0 J0) (Y1 V0 V1) (Y1 V1 J2) h1 h2
    obtain rfl:j=1:=by exact ay [_] [] kao (Y2 V0 J1) (Y1 V0 J2) (Y1 J0 V0) h2 h1
    exact h10
theorem nq{R:Nat->Prop}{k:Nat}(hkN:k<N)(hu:Up key p k)(h:∀m,m<=k->(∀i,i<m->key (bg p i)<key (bg p k))->(∀i,m<=i->i<k->key (bg p k)<key (bg p i))->R m)(f:Nat) :
  ∀l r,r<=k->l<=r->r-l<=f->(∀i,i<l->key (bg p i)<key (bg p k))->(∀i,r<=i->i<k->key (bg p k)<key (bg p i))->cQ key N R (kas_place p k f l r):=by
 induction f with
 |zero=>
  intro l r h1 h2 h3 h4 h5;obtain rfl:l=r:=by exact ay [_,_] [] 0x6294001840200c2000065294001840600c20180610040500421 (Y2 V0 V1) (Y0 V0 V1) (Y0 (Y2 V1 V0) J0) h2 h3
  exact h l h1 h4 h5
 |succ f ih=>
  intro l r h1 h2 h3 h4 h5;show cQ key N R (if l>=r then .ret l else .ask (bg p k) (bg p ((l+r)/2)) fun c=>if c=true then kas_place p k f l ((l+r)/2) else kas_place p k f ((l+r)/2+1) r);by_cases e:l>=r
  ·rw[if_pos e];obtain rfl:l=r:=by exact ay [_,_] [] kao (Y2 V0 V1) (Y0 V0 V1) (Y0 V1 V0) h2 e
   exact h l h1 h4 h5
  ·rw[if_neg e];have hm:(l+r)/2<r/\l<=(l+r)/2:=by exact aj [_,_] [] 0x1865294001840400c4010061004061006108023294a000c202006200803080003080308401 (Y6 (Y1 (Y3 (Y0 V0 V1) J2) V1) (Y0 V0 (Y3 (Y0 V0 V1) J2))) (Y8 (Y0 V1 V0) J0) e
   generalize(l+r)/2=mid at hm;have up:∀i j,i<=j->j<k->key (bg p i)<=key (bg p j):=fun i j hij hj=>(Nat.eq_or_lt_of_le hij).elim (fun e=>e▸Int.le_refl _) fun e=>Int.le_of_lt (hu i j e hj);have mN:mid<N:=by exact bo [_,_,_,_] [] kai (Y1 V0 V1) (Y1 V2 V1) (Y0 V3 V2) (Y1 V0 V3) hkN h1 hm.1
   refine cQ.ask hp hkN mN (fun hl=>ih l mid (by exact ay [_,_,_] [] kab (Y0 V0 V1) (Y0 V2 V1) (Y1 V0 V2) h1 hm.1) hm.2 (by exact ay [_,_,_,_] [] 0x68214a000c20300610040000ca5294a000c203806102003081201840300c20080a108c2508401 (Y0 (Y2 V0 V1) V2) (Y0 (Y2 V3 V1) (Y0 V2 J1)) (Y1 V0 V3) h3 hm.1) h4 fun i hi hik=>Int.lt_of_lt_of_le hl (up mid i hi hik)) fun hl=>ih (mid+1) r h1 (by exact aj [_,_] [] kaa (Y0 (Y0 V0 J1) V1) (Y1 V0 V1) hm.1) (by exact ay [_,_,_,_] [] 0x3410a500061018030802000065294a50006101c03081001840900c2018061004051840128c2008401 (Y0 (Y2 V0 (Y0 V1 J1)) V2) (Y0 (Y2 V0 V3) (Y0 V2 J1)) (Y0 V3 V1) h3 hm.2) (fun i hi=>Int.lt_of_le_of_lt (up i mid (Nat.le_of_lt_succ hi) (by exact ay [_,_,_] [] kab (Y1 V0 V1) (Y0 V2 V1) (Y1 V0 V2) h1 hm.1)) (hp.gt hk hkN mN (by exact ay [_,_,_] [] 0x10a528003080401840300c2000000 (Y8 (Y2 V0 V1) J0) (Y0 V2 V0) (Y1 V1 V2) h1 hm.1) hl)) h5
omit hp
theorem uX(f:Nat):∀(k:Nat)(p:Array Nat),dY N p->k+f=N->Up key p k->cQ key N (fun p=>dY N p/\Up key p N) (kas_bin f p k):=by
 induction f with
 |zero=>
  intro k p hp hf hu;obtain rfl:k=N:=hf;exact⟨hp,hu⟩
 |succ f ih=>
  intro k p hp hf hu;have kN:k<N:=by exact aj [_,_,_] [] kaa (Y1 V0 V1) (Y2 (Y0 V0 (Y0 V2 J1)) V1) hf
  refine cQ.bind (R:=fun m=>m<=k/\(∀i,i<m->key (bg p i)<key (bg p k))/\∀i,m<=i->i<k->key (bg p k)<key (bg p i)) (fun m a=>ih (k+1) _ (hp.bub _ _) (by exact aj [_,_,_] [] kad (Y2 (Y0 (Y0 V0 J1) V1) V2) (Y2 (Y0 V0 (Y0 V1 J1)) V2) hf) ?_) (nq hp hk kN hu (fun m a b c=>⟨a,b,c⟩) k 0 k (aJ _) (eA _) (Nat.sub_le _ _) (fun i hi=>absurd hi (Nat.not_lt_zero _)) fun i h1 h2=>absurd h2 (fN.mpr h1));obtain⟨a2,a3,a4⟩:=a;have hs:=hp.size;have at':∀x,bg (bubble p k (k-m)) x=if x=m then bg p k else if m<x/\x<=k then bg p (x-1) else bg p x:=by
   intro x;rw[ja,ja,ja,ja,getElem?_bubble (by exact ay [_,_,_] [] kas (Y1 V0 V1) (Y1 V0 V2) (Y2 V1 V2) kN hs) _ (by exact bp [_,_] [] 0x194a000c20180610000508401 (Y0 (Y2 V0 V1) V0)),show k-(k-m)=m by exact aj [_,_] [] 0x30d04294001840600c2008000194a50006101c03080601840101421004a50840100468190a5294001840b00c204806100c0308020180a50840100465294001840700c201806100405284200802508401 (Y2 (Y2 V0 (Y2 V0 V1)) V1) (Y0 V1 V0) a2];repeat' split
   all_goals rfl
  intro i j hij hj;rw[at',at'];by_cases e1:j=m
  ·rw[if_pos e1,if_neg (by exact ay [_,_,_] [] kat (Y8 (Y2 V0 V1) J0) (Y1 V0 V2) (Y2 V2 V1) hij e1),if_neg (by exact ay [_,_,_,_] [] 0x84294a000c2020061014030800000000 (Y8 (Y6 (Y1 V0 V1) (Y0 V1 V2)) J0) (Y1 V1 V3) (Y2 V3 V0) hij e1)];exact a3 i (by exact ay [_,_,_] [] kab (Y1 V0 V1) (Y1 V0 V2) (Y2 V2 V1) hij e1)
  ·rw[if_neg e1];by_cases e2:i=m
   ·rw[if_pos e2,if_pos (by exact bo [_,_,_,_] [] 0x18a50006100c0308000294a000c20100810100308000 (Y6 (Y1 V0 V1) (Y0 V1 V2)) (Y1 V3 V1) (Y1 V1 (Y0 V2 J1)) (Y2 V3 V0) hij hj e2)];exact a4 (j-1) (by exact ay [_,_,_] [] 0x194a528003080601840401020280610040508021 (Y0 V0 (Y2 V1 J1)) (Y1 V2 V1) (Y2 V2 V0) hij e2) (by exact ay [_,_,_] [] kbd (Y1 (Y2 V0 J1) V1) (Y1 V2 V0) (Y1 V0 (Y0 V1 J1)) hij hj)
   ·rw[if_neg e2];by_cases e3:m<i
    ·rw[if_pos ⟨e3,by exact ay [_,_,_] [] kab (Y0 V0 V1) (Y1 V0 V2) (Y1 V2 (Y0 V1 J1)) hij hj⟩,if_pos ⟨by exact ay [_,_,_] [] kab (Y1 V0 V1) (Y1 V2 V1) (Y1 V0 V2) hij e3,by exact aj [_,_] [] kaa (Y0 V0 V1) (Y1 V0 (Y0 V1 J1)) hj⟩];exact hu _ _ (by exact ay [_,_,_] [] 0x1a064294a528003081201840a00c205806100c0308020180a100423294a50006101c03081001840300c20080a10042508001 (Y1 (Y2 V0 J1) (Y2 V1 J1)) (Y1 V0 V1) (Y1 V2 V0) hij e3) (by exact ay [_,_,_] [] kbd (Y1 (Y2 V0 J1) V1) (Y1 V2 V0) (Y1 V0 (Y0 V1 J1)) hij hj)
    ·rw[if_neg (by exact aj [_,_,_] [] 0x210a500061010030800000000 (Y8 (Y6 (Y1 V0 V1) (Y0 V1 V2)) J0) (Y8 (Y1 V0 V1) J0) e3)];by_cases e4:m<j
     ·rw[if_pos ⟨e4,by exact aj [_,_] [] kaa (Y0 V0 V1) (Y1 V0 (Y0 V1 J1)) hj⟩];exact Int.lt_trans (a3 i (by exact ay [_,_] [] kau (Y1 V0 V1) (Y8 (Y2 V0 V1) J0) (Y8 (Y1 V1 V0) J0) e2 e3)) (a4 (j-1) (by exact aj [_,_] [] 0x65294001840300c20200610040508021 (Y0 V0 (Y2 V1 J1)) (Y1 V0 V1) e4) (by exact ay [_,_,_] [] 0x1a085294a000c203006101c03081001840100005294001840400c20280610000508001 (Y1 (Y2 V0 J1) V1) (Y1 V0 (Y0 V1 J1)) (Y1 V2 V0) hj e4))
     ·rw[if_neg (by exact aj [_,_,_] [] 0x210a500061010030800000000 (Y8 (Y6 (Y1 V0 V1) (Y0 V1 V2)) J0) (Y8 (Y1 V0 V1) J0) e4)];exact hu _ _ hij (by exact bo [_,_,_] [] 0x20a5000610100308000294a000c20080610080308000 (Y1 V0 V1) (Y0 V2 V1) (Y8 (Y2 V0 V2) J0) (Y8 (Y1 V2 V0) J0) a2 e1 e4)
def qh(hN:2<=N):cQ key N (fun p=>dY N p/\Up key p N) (kas_sort N):=by
 have hp:dY N (List.toArray (List.range N)):=List.Perm.refl _;refine cQ.bind (R:=fun r=>1<=r.1/\r.1<=N/\dY N r.2/\Up key r.2 r.1) (fun r a=>?_) (mI hp hk hN fun m p' a b c d=>⟨a,b,c,d⟩);obtain⟨a1,a2,a3,a4⟩:=a;by_cases h:r.1<N
 ·rw[if_pos h,Nat.max_eq_left a1];exact uX hk (N-r.1) r.1 r.2 a3 (Nat.add_sub_cancel' a2) a4
 ·rw[if_neg h];have e:r.1=N:=Nat.le_antisymm a2 (fN.mp h);rw[e] at a4;exact⟨a3,a4⟩
end
end
section
variable {prog:qbi}{w:World}{A:Around}{E:Value->Shared->Prop}{s:Shared}{κ:SortKind}{vs:List Value}{key:Nat->Int}
def Fa(prog:qbi)(w:World)(A:Around)(s:Shared)(κ:SortKind)(vs:List Value)(key:Nat->Int)(N:Nat):Prop:=
 ∀i j,i<N->j<N->∀(Q:Bool->Shared->Prop) (E:Value->Shared->Prop),Q (uH key i j) s->wpAny (model prog w) A (keyLt' κ (vs.getD i dS) (vs.getD j dS)) Q E s
inductive rE(s:Shared)(vs:List Value)(key:Nat->Int)(st:SortSt)(s':Shared):Prop
 |mk (e:s'=s)(p:Array Nat)(hp:dY vs.length p)(hu:Up key p vs.length)(ha:(arrOf st).map (·.2)=(p.toList.map fun i=>vs.getD i dS).toArray)(hf:failedOf st=none):rE s vs key st s'
def pw(hc:Fa prog w A s κ vs key vs.length)(hk:∀i j,i<vs.length->j<vs.length->key i=key j->i=j)(h2:2<=vs.length)(h64:vs.length<64) :
  wpAny (model prog w) A (sortRuns'.run (SortSt.mk' κ (vs.toArray.zip vs.toArray) #[] 7 none)) (fun r s'=>rE s vs key r.2 s') E s:=
 kat_run (ks:=vs) (G:=fun p s'=>s'=s/\dY vs.length p/\Up key p vs.length) rfl h2 h64 (fun p J J J ha hf g=>⟨g.1,p,g.2.1,g.2.2,kat_snds rfl ha,hf⟩)
  (cQ.wp (fun i j C hi hj h=>hc i j hi hj C _ h) (fun p a=>⟨rfl,a.1,a.2⟩) _ (qh hk h2))
end
end Bn
namespace Bn
open PySem
variable {A:Around}{A7 B d dn due ep fuel fw i j kk la lf lo' mm n nt nx nx' rd t' tk wd:Nat}{B' B1 Ba:Nat->Nat}{D I L N NE a af b ca cc fI globals t0:Addr}{E Q':Value->Shared->Prop}{G p:Prop}{M:Model}{R:Result->Shared->Prop}{S:Nat->Nat->Nat}{T initId newId:String}{X wr φ φ' φ₀ φ₁ φ₂:List Addr}{a' b' dep hi lo nn st:Int}{ab expr fill fr hdct:Bool}{acc items ps' vs:Array Value}{act active bs' bs0 cs done done' fwx is ls ms read read' ws:List Nat}{al:Str->Bool}{apos cpos hp np p' p'' pf pos pos' py tp:Pos}{args:List (Bool×Sem Value)}{base cd cv fv head it nameV r ra rv v:Value}{bl:List (Nat×List Nat)}{bm bmB bs rest rs:List Value}{cellsOf:List (Str×aU)->List Value}{wv wz env' outer:Env}{cl closure:List (Str×Addr)}{cn n' name p1 p2 q qual w':Str}{col:Option Bool}{cond:Nat->Bool}{dd func:Option Addr}{e e1 elt iter slice tg tgt value:Expr}{es:Array i4}{fd fdf:qbe}{fs loose sn:List Str}{g:Nat->Value}{gs:List Comprehension}{h h' h0:Heap}{hs sts:List Stmt}{h₀:Stmt}{ifs:List Expr}{ini k0 k1 k2 k3 k5:Option Value}{js ks layer left:List (Nat×Nat)}{key:Nat->Int}{lc:Nat×Nat}{ll ps:List (Int×Int)}{m m' mN mb mg:Str->Option Value}{mean:ExcName->Option Value}{names:List (Str×aU)}{o o' oI oa oc od o₁ o₂:Obj}{prog:qbi}{s s' s₀ s₁ s₂ s₃:Shared}{scr:List Int}{t u:Tok}{x:Addr×(Nat×Nat)×Str}{ys:List PyData}{α β σ:Type}
inductive V where
 |none
 |bool (b:Bool)
 |int (i:Int)
 |str (s:Str)
 |tup (l:List V)
 |lst (a:Nat)
 |scr (l:List Int)
 |dict0 (a:Nat)
 |rng (lo hi st:Int)
 |exc (c:Str)(x:V)
 deriving Inhabited
abbrev Hp:=List (List V)
abbrev Loc:=List (Option V)
inductive LV{α:Type}:List α->Prop
 |zero:LV []
 |one (a:α):LV [a]
 |two (a b:α):LV [a,b]
 |three (a b c:α):LV [a,b,c]
 |more (a b c d:α)(l:List α):LV (a::b::c::d::l)
theorem LV.of(l:List α):LV l:=by
 cases l with
 |nil=>exact .zero
 |cons a l=>cases l with
  |nil=>exact .one a
  |cons b l=>cases l with
   |nil=>exact .two a b
   |cons c l=>cases l with
    |nil=>exact .three a b c
    |cons d l=>exact .more a b c d l
def uC:List Int->List Value->Prop
 |[],[]=>True
 |i::is,r::rs=>(∃t,r=.int i t)/\uC is rs
 |_,_=>False
structure Cx where
 prog:qbi
 w:World
 h0:Heap
 g:Str->Option Value
 b:Str->Option Value
 lam:Nat->qbe->Str->Prop
 tabs:List (Addr×(Nat×Nat)×Str)
abbrev bF (ps:Array Value):Obj:={ cls:=.none,data:=.fields ps }
inductive b0(h:Heap)(cc:Addr)(q:Str):Prop
 |mk (o:Obj)(vs:Array Value)(t:Tok)(h1:h.get? cc=some o)(h2:o.cls=.type "code")(h3:o.data=.fields vs)(h4:vs[1]?=some (.str q t)):b0 h cc q
inductive eI(h:Heap)(x:Addr×(Nat×Nat)×Str):Prop
 |no (h1:h.get? x.1=some (bF #[])):eI h x
 |yes (cc:Addr)(h1:h.get? x.1=some (bF #[rawInt x.2.1.1,rawInt x.2.1.2,.ref cc]))(h2:b0 h cc x.2.2):eI h x
theorem b0.mono(hk:∀b o,h.get? b=some o->o.cls=.type "code"->h'.get? b=some o):b0 h cc q->b0 h' cc q
 |.mk o vs t h1 h2 h3 h4=>.mk o vs t (hk _ _ h1 h2) h2 h3 h4
theorem eI.mono(hn:∀b ps,h.get? b=some (bF ps)->h'.get? b=some (bF ps))(hk:∀b o,h.get? b=some o->o.cls=.type "code"->h'.get? b=some o):eI h x->eI h' x
 |.no h1=>.no (hn _ _ h1)
 |.yes cc h1 h2=>.yes cc (hn _ _ h1) (h2.mono hk)
inductive cL(φ:List Addr)(h:Heap)(r:Value)(k:Nat)(P:List Value->Prop):Prop
 |mk (a:Addr)(o:Obj)(vs:Array Value)(n:Nat)(hr:r=.ref a)(ha:a∉φ)(ho:h.get? a=some o)(hc:o.cls=.type "tuple")(hd:o.data=.seq vs n)(hz:k<=qag)(hl:P vs.toList):cL φ h r k P
inductive ew(φ:List Addr)(i:Nat)(r:Value):Prop
 |mk (a:Addr)(hr:r=.ref a)(ha:φ[i]?=some a):ew φ i r
inductive gV(c:Cx)(φ:List Addr)(h:Heap)(l:List Int)(r:Value):Prop
 |mk (a:Addr)(o:Obj)(vs:Array Value)(n:Nat)(hr:r=.ref a)(ha:a∉φ)(h0:c.h0.get? a=some o)(ho:h.get? a=some o)(hc:o.cls=.type "list")(hd:o.data=.seq vs n)(hz:l.length<=qag)(hl:uC l vs.toList):gV c φ h l r
noncomputable def j4:Value->Str
 |.str n _=>n
 |_=>⟨#[]⟩
def mO(es:Array i4):Prop:=StrKeys es/\(es.toList.map fun e=>j4 e.key).Nodup
inductive dK(o o':Obj):Prop
 |mk (h:o'.cls=o.cls)(g:∀es n es' n',o.data=.dict es n->o'.data=.dict es' n'->mO es->mO es'):dK o o'
def dK.same(h:o'.cls=o.cls)(hd:o'.data=o.data):dK o o':=.mk h fun es n es' n' h1 h2 g=>by rw[hd,h1] at h2;(injection h2 with Ja Jb;subst Jb;subst Ja);exact g
def dK.rfl:dK o o:=.same (Eq.refl _) (Eq.refl _)
def dK.cls(h:dK o o'):o'.cls=o.cls:=let⟨h,_⟩:=h;h
def dK.trans(f:dK o₁ o₂)(e:dK o o₁)(d:o₁.data=.dict es n):dK o o₂:=let⟨h,g⟩:=f;let⟨h',g'⟩:=e;.mk (h.trans h') fun J J J J h1 h2 q=>g _ _ _ _ d h2 (g' _ _ _ _ h1 d q)
inductive ft(φ:List Addr)(h:Heap)(a:Addr)(r:Value):Prop
 |mk (o:Obj)(es:Array i4)(n:Nat)(hr:r=.ref a)(ha:a∉φ)(ho:h.get? a=some o)(hc:o.cls=.type "dict")(hd:o.data=.dict es n)(hg:mO es/\sysModules<a):ft φ h a r
inductive eC(φ:List Addr)(h:Heap)(lo hi st:Int)(r:Value):Prop
 |mk (a:Addr)(t u v:Tok)(hr:r=.ref a)(ha:a∉φ)(ho:IsRange h a lo hi st t u v)(hb:lo.natAbs<2^31/\hi.natAbs<2^31/\0<st/\st<2^31):eC φ h lo hi st r
inductive xH(φ:List Addr)(h:Heap)(o:Obj)(P:Value->Prop):Prop
 |mk (d:Addr)(od:Obj)(es:Array i4)(n:Nat)(ra:Value)(h1:o.dict=some d)(h2:d∉φ)(h3:h.get? d=some od)(h4:od.cls=.type "dict")(h5:od.data=.dict es n)(h6:nsFind es (ar "at")=some ra)(h7:P ra):xH φ h o P
inductive ib(c:Cx)(φ:List Addr)(h:Heap)(cn:Str)(r:Value)(P:Value->Prop):Prop
 |mk (a:Addr)(o:Obj)(vs:Array Value)(hr:r=.ref a)(ha:a∉φ)(h0:c.h0.get? a=none)(ho:h.get? a=some o)(hC:∃C,o.cls=.ref C)(hg:c.g cn=some o.cls)(hd:o.data=.fields vs)(hn:cn=ar "BadNet"->xH φ h o P):ib c φ h cn r P
mutual
def ax(c:Cx)(φ:List Addr)(h:Heap):V->Value->Prop
 |.none,r=>r=.none
 |.bool b,r=>r=.bool b
 |.int i,r=>∃t,r=.int i t
 |.str s,r=>∃t,r=.str s t
 |.tup l,r=>cL φ h r l.length (fun vs=>ah c φ h l vs)
 |.lst i,r=>ew φ i r
 |.scr l,r=>gV c φ h l r
 |.dict0 a,r=>ft φ h a r
 |.rng lo hi st,r=>eC φ h lo hi st r
 |.exc cn x,r=>ib c φ h cn r (fun ra=>ax c φ h x ra)
def ah(c:Cx)(φ:List Addr)(h:Heap):List V->List Value->Prop
 |[],rs=>rs=[]
 |x::xs,rs=>match rs with
  |[]=>False
  |r::rs=>ax c φ h x r/\ah c φ h xs rs
end
def uq(c:Cx)(φ:List Addr)(h:Heap)(i:Nat)(xs:List V):Prop:=∀GJ:Prop,(∀(a:Addr),∀(o:Obj),∀(vs:Array Value),∀(n:Nat),(φ[i]?=some a)->(h.get? a=some o)->(o.cls=.type "list")->(o.data=.seq vs n)->ah c φ h xs vs.toList->(xs.length<=qag/\o.dict=none/\o.slots = #[])->GJ)->GJ
structure aq(c:Cx)(φ:List Addr)(H:Hp)(s:Shared):Prop where
 stays:∀b o,c.h0.get? b=some o->s.heap.get? b=some o
 fresh:∀a∈φ,c.h0.get? a=none
 nodup:φ.Nodup
 len:φ.length=H.length
 lists:∀(i:Nat) xs,H[i]?=some xs->uq c φ s.heap i xs
 gens:s.gens = #[]
 tab:∀x∈c.tabs,eI s.heap x
def rI{c:Cx}{i:Int}:ax c φ h (.int i) (.int i t):=⟨t,rfl⟩
def rS{c:Cx}{i:Str}:ax c φ h (.str i) (.str i t):=⟨t,rfl⟩
theorem rB{c:Cx}{b:Bool}:ax c φ h (.bool b) (.bool b):=rfl
theorem rN{c:Cx}:ax c φ h .none .none:=rfl
theorem rL{c:Cx}:ah c φ h [] []:=rfl
noncomputable def vD : Value -> Bool
 | .type t => t != "frame"
 | .none => false
 | _ => true
theorem lr(h1:v≠.type "frame")(h2:v≠.none):vD v=true:=by
 cases v with
 |type t=>exact bne_iff_ne.mpr fun e=>h1 (by rw[e])
 |none=>exact absurd rfl h2
 |_=>rfl
def lR(h:vD v=true):v≠.type "frame":=fun e=>by rw[e] at h;exact nomatch h
structure Kp(X φ:List Addr)(h:Heap)(φ':List Addr)(h':Heap):Prop where
 pre:φ <+:φ'
 keep:∀b o,h.get? b=some o->b∉φ->b∉X->vD o.cls=true->h'.get? b=some o
 new:∀a∈φ',a∈φ\/h.get? a=none
 dict:∀b o es n,h.get? b=some o->b∉φ->o.data=.dict es n->∃o' es' n',h'.get? b=some o'/\o'.data=.dict es' n'/\dK o o'
 exc:∀b o vs C,h.get? b=some o->b∉φ->o.cls=.ref C->o.data=.fields vs->∃vs',h'.get? b=some { o with data:=.fields vs' }
structure aw(X φ:List Addr)(s:Shared)(φ':List Addr)(s':Shared):Prop extends Kp X φ s.heap φ' s'.heap where
 frame:∀b o,s.heap.get? b=some o->b∉φ->b∉X->o.cls≠.none->∃sl,s'.heap.get? b=some { o with slots:=sl }
 alive:∀b o,s.heap.get? b=some o->b∈X->∃o',s'.heap.get? b=some o'
 tabs:∀b o,s.heap.get? b=some o->b∉φ->b∉X->o.cls=.none->∃o',s'.heap.get? b=some o'/\o'.cls=.none
 os:s'.os=s.os
def Kp.notin(e:Kp X φ h φ' h')(hb:h.get? b=some o)(hn:b∉φ):b∉φ':=fun hm=> (e.new b hm).elim hn fun hle=>by exact cR (hle.symm.trans hb)
theorem aw.refl{X φ}:aw X φ s φ s where
 pre:=nU
 keep:=fun J J h J J J=>h
 new:=fun J h=>.inl h
 frame:=fun J o h J J J=>⟨o.slots,h⟩
 dict:=fun J o es n h J hd=>⟨o,es,n,h,hd,.rfl⟩
 exc:=fun J o vs J h J J hd=>⟨vs,by rw[<- hd];exact h⟩
 alive:=fun J o h J=>⟨o,h⟩
 tabs:=fun J o h J J hc=>⟨o,h,hc⟩
 os:=rfl
def aw.live(e:aw X φ s φ' s')(b:Addr)(o:Obj)(h:s.heap.get? b=some o)(hφ:b∉φ)(hX:b∉X):∃o',s'.heap.get? b=some o':= (Classical.em (o.cls=.none)).elim (fun hc=>let⟨o',h',_⟩:=e.tabs b o h hφ hX hc;⟨o',h'⟩) fun hc=>let⟨_,h'⟩:=e.frame b o h hφ hX hc;⟨_,h'⟩
def aw.trans(e:aw X φ s φ₁ s₁)(f:aw X φ₁ s₁ φ₂ s₂):aw X φ s φ₂ s₂ where
 pre:=e.pre.trans f.pre
 keep b o h hφ hX hc:=f.keep b o (e.keep b o h hφ hX hc) (e.notin h hφ) hX hc
 frame b o h hφ hX hc:=by
  obtain⟨sl,h₁⟩:=e.frame b o h hφ hX hc
  obtain⟨sl',h₂⟩:=f.frame b _ h₁ (e.notin h hφ) hX hc
  exact⟨sl',h₂⟩
 tabs b o h hφ hX hc:=by
  obtain⟨o₁,h₁,c₁⟩:=e.tabs b o h hφ hX hc
  exact f.tabs b o₁ h₁ (e.notin h hφ) hX c₁
 dict b o es n h hφ hd:=by
  obtain⟨o₁,es₁,n₁,h₁,d₁,c₁⟩:=e.dict b o es n h hφ hd
  obtain⟨o₂,es₂,n₂,h₂,d₂,c₂⟩:=f.dict b o₁ es₁ n₁ h₁ (e.notin h hφ) d₁
  exact⟨o₂,es₂,n₂,h₂,d₂,c₂.trans c₁ d₁⟩
 exc b o vs C h hφ hc hd:=by
  obtain⟨vs₁,h₁⟩:=e.exc b o vs C h hφ hc hd
  obtain⟨vs₂,h₂⟩:=f.exc b _ vs₁ C h₁ (e.notin h hφ) hc rfl
  exact⟨vs₂,h₂⟩
 new a ha:=(f.new a ha).elim (fun h=>e.new a h) fun h=>by
  refine xC (s.heap.get? a) (fun ho=>?_) fun o ho=>?_
  ·exact .inr rfl
  ·by_cases hφ:a∈φ
   ·exact .inl hφ
   ·by_cases hX:a∈X
    ·obtain⟨o',h'⟩:=e.alive a o ho hX
     exact cR (h.symm.trans h')
    ·obtain⟨o',h'⟩:=e.live a o ho hφ hX
     exact cR (h.symm.trans h')
 alive b o h hX:=by
  obtain⟨o',h'⟩:=e.alive b o h hX
  exact f.alive b o' h' hX
 os:=f.os.trans e.os
def aw.weaken{Y:List Addr}(e:aw X φ s φ' s')(h:∀b∈X,b∈Y)(hY:∀b∈Y,b∉φ):aw Y φ s φ' s' where
 pre:=e.pre
 keep b o hb hφ hY hc:=e.keep b o hb hφ (fun hx=>hY (h b hx)) hc
 new:=e.new
 frame b o hb hφ hY hc:=e.frame b o hb hφ (fun hx=>hY (h b hx)) hc
 tabs b o hb hφ hY hc:=e.tabs b o hb hφ (fun hx=>hY (h b hx)) hc
 dict:=e.dict
 exc:=e.exc
 alive b o hb hm:=by
  by_cases hX:b∈X
  ·exact e.alive b o hb hX
  ·exact e.live b o hb (hY b hm) hX
 os:=e.os
def aw.drop(e:aw X φ s φ' s')(h:∀b∈X,s.heap.get? b=none):aw [] φ s φ' s' where
 pre:=e.pre
 keep b o hb hφ _ hc:=e.keep b o hb hφ (fun hx=>by exact cR ((h b hx).symm.trans hb)) hc
 new:=e.new
 frame b o hb hφ _ hc:=e.frame b o hb hφ (fun hx=>by exact cR ((h b hx).symm.trans hb)) hc
 tabs b o hb hφ _ hc:=e.tabs b o hb hφ (fun hx=>by exact cR ((h b hx).symm.trans hb)) hc
 dict:=e.dict
 exc:=e.exc
 alive _ _ _ hx:=nomatch hx
 os:=e.os
def aw.of_heap(hh:s'.heap=s.heap)(ho:s'.os=s.os):aw X φ s φ s' where
 pre:=nU
 keep _ _ h _ _ _:=by rw[hh];exact h
 new _ h:=.inl h
 frame _ o h _ _ _:=⟨o.slots,by rw[hh];exact h⟩
 tabs _ o h _ _ hc:=⟨o,by rw[hh];exact h,hc⟩
 dict _ o es n h _ hd:=⟨o,es,n,by rw[hh];exact h,hd,.rfl⟩
 exc _ o vs _ h _ _ hd:=⟨vs,by rw[hh,<-hd];exact h⟩
 alive _ o h _:=⟨o,by rw[hh];exact h⟩
 os:=ho
def aw.of_sameBut(hs:hU a s.heap s'.heap)(ha:a∈φ)(hX:a∉X)(ho:s'.os=s.os):aw X φ s φ s' where
 pre:=nU
 keep b o h hφ _ _:=(hs.2 b fun e=>hφ (e▸ha)).trans h
 new _ h:=.inl h
 frame b o h hφ _ _:=⟨o.slots,(hs.2 b fun e=>hφ (e▸ha)).trans h⟩
 tabs b o h hφ _ hc:=⟨o,(hs.2 b fun e=>hφ (e▸ha)).trans h,hc⟩
 dict b o es n h hφ hd:=⟨o,es,n,(hs.2 b fun e=>hφ (e▸ha)).trans h,hd,.rfl⟩
 exc b o vs _ h hφ _ hd:=⟨vs,by rw[<- hd];exact(hs.2 b fun e=>hφ (e▸ha)).trans h⟩
 alive b o h hb:=⟨o,(hs.2 b fun e=>hX (e▸hb)).trans h⟩
 os:=ho
def aw.of_keeps(hk:∀b o,s.heap.get? b=some o->s'.heap.get? b=some o)(ho:s'.os=s.os):aw X φ s φ s' where
 pre:=nU
 keep b o h _ _ _:=hk b o h
 new _ h:=.inl h
 frame b o h _ _ _:=⟨o.slots,hk b o h⟩
 tabs b o h _ _ hc:=⟨o,hk b o h,hc⟩
 dict b o es n h _ hd:=⟨o,es,n,hk b o h,hd,.rfl⟩
 exc b o vs _ h _ _ hd:=⟨vs,by rw[<- hd];exact hk b o h⟩
 alive b o h _:=⟨o,hk b o h⟩
 os:=ho
def aw.of_own(hs:hU a s.heap s'.heap)(ha:a∈X)(hd:∀o es n,s.heap.get? a=some o->o.data=.dict es n->∃o' es' n',s'.heap.get? a=some o'/\o'.data=.dict es' n'/\dK o o')
  (hal:∃o',s'.heap.get? a=some o') (ho:s'.os=s.os) (hf:∀o vs,s.heap.get? a=some o->o.data≠.fields vs):aw X φ s φ s' where
 pre:=nU
 keep b o h _ hX _:=(hs.2 b fun e=>hX (e▸ha)).trans h
 new _ h:=.inl h
 frame b o h _ hX _:=⟨o.slots,(hs.2 b fun e=>hX (e▸ha)).trans h⟩
 tabs b o h _ hX hc:=⟨o,(hs.2 b fun e=>hX (e▸ha)).trans h,hc⟩
 dict b o es n h _ hdd:=by
  by_cases e:b=a
  ·subst e;exact hd o es n h hdd
  ·exact⟨o,es,n,(hs.2 b e).trans h,hdd,.rfl⟩
 exc b o vs _ h _ _ hdd:=by
  by_cases e:b=a
  ·subst e;exact absurd hdd (hf o vs h)
  ·exact⟨vs,by rw[<- hdd];exact(hs.2 b e).trans h⟩
 alive b o h _:=by
  by_cases e:b=a
  ·subst e;exact hal
  ·exact⟨o,(hs.2 b e).trans h⟩
 os:=ho
noncomputable def hid:Value->Bool
 |.type t=>["frame","cell","traceback","list_iterator","tuple_iterator","range_iterator","longrange_iterator","str_iterator","str_ascii_iterator","enumerate","zip","list_reverseiterator"].contains t
 |.none=>true
 |_=>false
theorem uQ(h:hid v=false):vD v=true:=by
 cases v with
 |type t=>exact bne_iff_ne.mpr fun e=>by rw[e] at h;exact nomatch h
 |none=>exact nomatch h
 |_=>rfl
def own(c:Cx)(b:Addr)(o:Obj):Prop:=
 hid o.cls=true\/(o.cls=.type "list"/\c.h0.get? b=none)\/(o.cls=.type "dict"/\∃es n,o.data=.dict es n/\nsFind es (ar "at")=none)\/(∃C,o.cls=.ref C)
noncomputable def mq (T : String) : Bool := !hid (.type T) && T != "list" && T != "dict"
theorem vp{c:Cx}(h0:o.cls=.type T)(h1:mq T=true):¬own c b o:=fun h=>by
 simp only[mq,Bool.and_eq_true,gX,bne_iff_ne] at h1;rcases h with h |h |h |⟨C,h⟩
 ·rw[h0,h1.1.1] at h;injection h
 ·rw[h0] at h;injection h.1 with h;exact h1.1.2 h
 ·rw[h0] at h;injection h.1 with h;exact h1.2 h
 ·rw[h0] at h;injection h
def aA(c:Cx)(X:List Addr)(h:Heap):Prop:=∀b∈X,∀o,h.get? b=some o->own c b o
def aA.nil{c:Cx}:aA c [] h:=fun J hb=>nomatch hb
def y7{l l':List α}(h:l <+:l'){a:α}(e:l[i]?=some a):l'[i]?=some a:=by
 obtain⟨t,rfl⟩:=h;rw[jc (gW.mp e).1];exact e
section
variable {c:Cx}
def tH(e:Kp X φ h φ' h')(hX:aA c X h)(ho:h.get? a=some o)(ha:a∉φ)(hc:¬own c a o):h'.get? a=some o:=
 e.keep a o ho ha (fun hx=>hc (hX a hx o ho)) (uQ (Bool.eq_false_iff.mpr fun q=>hc (.inl q)))
def oS{c:Cx}(h0:c.h0.get? b=some o')(hc:o.cls=.type "list"):¬own c b o:=fun q=>by
 rcases q with q |q |q |⟨C,q⟩
 ·rw[hc] at q;revert q;decide
 ·rw[h0] at q;cases q.2
 ·rw[hc] at q;exact absurd q.1 (by decide)
 ·rw[hc] at q;injection q
def uf{c:Cx}(h4:od.cls=.type "dict")(h5:od.data=.dict es n)(h6:nsFind es (ar "at")=some ra):¬own c b od:=fun q=>by
 rcases q with q |q |⟨_,es',n',q,q''⟩|⟨C',q⟩
 ·rw[h4] at q;revert q;decide
 ·rw[h4] at q;exact absurd q.1 (by decide)
 ·rw[h5] at q;injection q with Ja Jb;subst Jb;subst Ja;exact FA (h6.symm.trans q'')
 ·rw[h4] at q;injection q
mutual
theorem ax.mono(e:Kp X φ h φ' h')(hX:aA c X h):∀{v:V}{r:Value},ax c φ h v r->ax c φ' h' v r
 |.none,_,h=>h
 |.bool _,_,h=>h
 |.int _,_,h=>h
 |.str _,_,h=>h
 |.tup l,r,.mk a o vs n hr ha ho hc hd hz hl=>cL.mk a o vs n hr (e.notin ho ha) (tH e hX ho ha (vp hc rfl)) hc hd hz (ah.mono e hX hl)
 |.lst i,r,.mk a hr ha=>ew.mk a hr (y7 e.pre ha)
 |.scr l,r,.mk a o vs n hr ha h0 ho hc hd hz hl=>gV.mk a o vs n hr (e.notin ho ha) h0 (tH e hX ho ha (oS h0 hc)) hc hd hz hl
 |.dict0 a,r,.mk o es n hr ha ho hc hd hg=>
  let⟨o',es',n',h1,h2,h3,h4⟩:=e.dict a o es n ho ha hd
  ft.mk o' es' n' hr (e.notin ho ha) h1 (h3.trans hc) h2 ⟨h4 _ _ _ _ hd h2 hg.1,hg.2⟩
 |.rng lo hi st,r,.mk a t u v hr ha ho hb=>eC.mk a t u v hr (e.notin ho ha) (tH e hX ho ha (vp (T:="range") rfl rfl)) hb
 |.exc cn x,r,.mk a o vs hr ha h0 ho ⟨C,hC⟩ hg hd hn=>
  let⟨vs',ho'⟩:=e.exc a o vs C ho ha hC hd
  ib.mk a _ vs' hr (e.notin ho ha) h0 ho' ⟨C,hC⟩ hg rfl fun q=>
   let⟨d,od,es,n,ra,h1,h2,h3,h4,h5,h6,h7⟩:=hn q
   ⟨d,od,es,n,ra,h1,e.notin h3 h2,tH e hX h3 h2 (uf h4 h5 h6),h4,h5,h6,ax.mono e hX h7⟩
theorem ah.mono(e:Kp X φ h φ' h')(hX:aA c X h):∀{l:List V}{rs:List Value},ah c φ h l rs->ah c φ' h' l rs
 |[],_,h=>h
 |_::_,[],h=>False.elim h
 |_::_,_::_,h=>⟨ax.mono e hX h.1,ah.mono e hX h.2⟩
end
def wh(ha:h.get? a=some oa)(hla:oa.cls=.type "list")(hb:h.get? b=some o)(hc:o.cls≠.type "list")(hn:b∉φ):b∉φ++[a]:=fun hm=> (bJ.mp hm).elim hn fun e=>by
  rw[aN.mp e,ha] at hb;(injection hb with Ja;subst Ja);exact hc hla
mutual
theorem ax.adopt(ha:h.get? a=some oa)(hla:oa.cls=.type "list")(h0:c.h0.get? a=none):∀{v:V}{r:Value},ax c φ h v r->ax c (φ++[a]) h v r
 |.none,_,q=>q
 |.bool _,_,q=>q
 |.int _,_,q=>q
 |.str _,_,q=>q
 |.tup l,r,.mk b o vs n hr hb ho hc hd hz hl=>cL.mk b o vs n hr (wh ha hla ho (by rw[hc];decide) hb) ho hc hd hz (ah.adopt ha hla h0 hl)
 |.lst i,r,.mk b hr hb=>ew.mk b hr (y7 (List.prefix_append _ _) hb)
 |.scr l,r,.mk b o vs n hr hb hb0 ho hc hd hz hl=>gV.mk b o vs n hr (fun hm=>(bJ.mp hm).elim hb fun e=>by rw[aN.mp e,h0] at hb0;injection hb0) hb0 ho hc hd hz hl
 |.dict0 b,r,.mk o es n hr hb ho hc hd hg=>ft.mk o es n hr (wh ha hla ho (by rw[hc];decide) hb) ho hc hd hg
 |.rng lo hi st,r,.mk b t u v hr hb ho hs=>eC.mk b t u v hr (wh ha hla ho (show jb "range"≠_ by decide) hb) ho hs
 |.exc cn x,r,.mk b o vs hr hb hb0 ho ⟨C,hC⟩ hg hd hn=>
  ib.mk b o vs hr (wh ha hla ho (by rw[hC];intro q;injection q) hb) hb0 ho ⟨C,hC⟩ hg hd fun q=>
   let⟨d,od,es,n,ra,h1,h2,h3,h4,h5,h6,h7⟩:=hn q
   ⟨d,od,es,n,ra,h1,wh ha hla h3 (by rw[h4];decide) h2,h3,h4,h5,h6,ax.adopt ha hla h0 h7⟩
theorem ah.adopt(ha:h.get? a=some oa)(hla:oa.cls=.type "list")(h0:c.h0.get? a=none):∀{l:List V}{rs:List Value},ah c φ h l rs->ah c (φ++[a]) h l rs
 |[],_,q=>q
 |_::_,[],q=>False.elim q
 |_::_,_::_,q=>⟨ax.adopt ha hla h0 q.1,ah.adopt ha hla h0 q.2⟩
end
def Cq(c:Cx)(φ:List Addr)(h:Heap)(v:V)(l:List V)(rs:List Value):Prop:=∀GJ:Prop,(∀(r:Value),∀(rs':List Value),(rs=r::rs')->ax c φ h v r->ah c φ h l rs'->GJ)->GJ
theorem ah.uncons{v:V}{vs:List V}(R:ah c φ h (v::vs) rs):Cq c φ h v vs rs:=by
 cases rs with
 |nil=>exact R.elim
 |cons r rs=>exact(fun J kJ=>kJ r rs rfl R.1 R.2)
def ah.nil_inv(R:ah c φ h [] rs):rs=[]:=R
theorem ah.length:∀{l:List V}{rs:List Value},ah c φ h l rs->rs.length=l.length
 |[],_,q=>by rw[q.nil_inv];rfl
 |_::_,_,q=>by
  refine q.uncons _ fun r rs' wk J q2=>?_;subst wk;exact congrArg (· + 1) (ah.length q2)
def CO(c:Cx)(φ:List Addr)(h:Heap)(rs:List Value)(i:Nat)(v:V):Prop:=∀GJ:Prop,(∀(r:Value),(rs[i]?=some r)->ax c φ h v r->GJ)->GJ
theorem ah.get:∀{l:List V}{rs:List Value},ah c φ h l rs->∀{i:Nat}{v:V},l[i]?=some v->CO c φ h rs i v
 |[],_,_,_,_,e=>nomatch e
 |x::xs,_,q,i,v,e=>by
  refine q.uncons _ fun r rs' wk hv q2=>?_;subst wk;cases i with
  |zero=>(injection e with Ja;subst Ja);exact(fun J kJ=>kJ r rfl hv)
  |succ i=>
   refine(ah.get q2 (i:=i) (v:=v) e) _ fun r' e' h'=>?_;exact(fun J kJ=>kJ r' e' h')
theorem ah.append:∀{l l':List V}{rs rs':List Value},ah c φ h l rs->ah c φ h l' rs'->ah c φ h (l++l') (rs++rs')
 |[],_,_,_,q,q'=>by rw[q.nil_inv];exact q'
 |_::_,_,_,_,q,q'=>by
  refine q.uncons _ fun r rs' wk hv q2=>?_;subst wk;exact⟨hv,ah.append q2 q'⟩
theorem ah.set:∀{l:List V}{rs:List Value},ah c φ h l rs->∀(i:Nat){v:V}{r:Value},ax c φ h v r->ah c φ h (l.set i v) (rs.set i r)
 |[],_,q,_,_,_,_=>by rw[q.nil_inv];rfl
 |_::_,_,q,i,_,_,hv'=>by
  refine q.uncons _ fun r rs' wk hv q2=>?_;subst wk;cases i with
  |zero=>exact⟨hv',q2⟩
  |succ i=>exact⟨hv,ah.set q2 i hv'⟩
def aq.lt{H:Hp}(S:aq c φ H s)(ha:a∈φ):a<s.heap.objs.size:=by
 obtain⟨i,hi,rfl⟩:=q9.mp ha;have hi':i<H.length:=S.len▸hi;refine(S.lists i H[i] (bt hi')) _ fun a o J J h1 h2 J J J J=>?_;replace h1:=ai ((bt hi).symm.trans h1);subst h1;exact ic h2
def aq.isList{H:Hp}(S:aq c φ H s)(ha:a∈φ):∃o,s.heap.get? a=some o/\o.cls=.type "list":=by
 obtain⟨i,hi,rfl⟩:=q9.mp ha;have hi':i<H.length:=S.len▸hi;refine(S.lists i H[i] (bt hi')) _ fun a o J J h1 h2 h3 J J J=>?_;replace h1:=ai ((bt hi).symm.trans h1);subst h1;exact⟨o,h2,h3⟩
def aq.new{H:Hp}(S:aq c φ H s):s.heap.objs.size∉φ:=fun h=>d4 _ (S.lt h)
def aq.h0_new{H:Hp}(S:aq c φ H s)(ha:s.heap.objs.size<=a):c.h0.get? a=none:=by
 refine xC (c.h0.get? a) (fun e=>?_) fun o e=>?_
 ·rfl
 ·exact absurd (ic (S.stays a o e)) (fN.mpr ha)
def aq.mono{H:Hp}(S:aq c φ H s)(e:Kp X φ s.heap φ s'.heap)(hX:aA c X s.heap)(hXb:∀b∈X,c.h0.get? b=none)
  (hl:∀a∈φ,∀o,s.heap.get? a=some o->s'.heap.get? a=some o) (hst:∀b o,c.h0.get? b=some o->vD o.cls=false->s'.heap.get? b=some o) (hg:s'.gens = #[])
  (hn:∀b ps,s.heap.get? b=some (bF ps)->s'.heap.get? b=some (bF ps)):aq c φ H s' where
 stays b o h:=by
  refine xD (vD o.cls) (fun hf=>?_) fun hf=>?_
  ·exact e.keep b o (S.stays b o h) (fun hm=>by exact cR ((S.fresh b hm).symm.trans h)) (fun hm=>by exact cR ((hXb b hm).symm.trans h)) hf
  ·exact hst b o h hf
 fresh:=S.fresh
 nodup:=S.nodup
 len:=S.len
 lists i xs h:=by
  refine(S.lists i xs h) _ fun a o vs n h1 h2 h3 h4 h5 h6=>?_
  exact(fun J kJ=>kJ a o vs n h1 (hl a (bG h1) o h2) h3 h4 (ah.mono e hX h5) h6)
 gens:=hg
 tab x hx:=(S.tab x hx).mono hn fun b o hb hc=>e.keep b o hb (fun hm=>by
  obtain⟨o',h1,h2⟩:=S.isList hm
  replace h1:=ai (hb.symm.trans h1);subst h1;rw[hc] at h2;exact absurd h2 (by decide)) (fun hm=>vp hc rfl (hX b hm o hb)) (by rw[hc];rfl)
theorem aq.keeps{H:Hp}(S:aq c φ H s)(hk:∀b o,s.heap.get? b=some o->s'.heap.get? b=some o)(hg:s'.gens=s.gens):aq c φ H s':=
 S.mono (X:=[]) ⟨nU,fun b o h J J J=>hk b o h,fun J h=>.inl h,fun b o es n h J hd=>⟨o,es,n,hk b o h,hd,.rfl⟩,fun b o vs J h J J hd=>⟨vs,by rw[<- hd];exact hk b o h⟩⟩ aA.nil (by simp) (fun a J o h=>hk a o h) (fun b o h J=>hk b o (S.stays b o h)) (hg.trans S.gens) fun b J h=>hk b _ h
def aq.tok{H:Hp}(S:aq c φ H s)(t:Nat):aq c φ H { s with toks:=t }:=⟨S.stays,S.fresh,S.nodup,S.len,S.lists,S.gens,S.tab⟩
def aq.push{H:Hp}(S:aq c φ H s)(o:Obj):aq c φ H { s with heap:=s.heap.push o }:=
 S.keeps (fun J J h=>cz _ h) rfl
def aw.push:aw X φ s φ { s with heap:=s.heap.push o }:=
 aw.of_keeps (fun J J h=>cz _ h) rfl
theorem aq.adopt{H:Hp}(S:aq c φ H s){xs:List V}(ha:a∉φ)(h0:c.h0.get? a=none)(ho:s.heap.get? a=some o)(hc:o.cls=.type "list")
  (hd:o.data=.seq vs n) (hp:o.dict=none/\o.slots = #[]) (hr:ah c φ s.heap xs vs.toList) (hz:xs.length<=qag):aq c (φ++[a]) (H++[xs]) s where
 stays:=S.stays
 fresh b hb:=by
  rcases bJ.mp hb with h |h
  ·exact S.fresh b h
  ·rw[aN.mp h];exact h0
 nodup:=by
  rw[og]
  refine⟨S.nodup,by simp,fun x hx y hy=>?_⟩
  rw[aN.mp hy];rintro rfl;exact ha hx
 len:=by simp[S.len]
 lists i ys h:=by
  by_cases hi:i<H.length
  ·rw[jc hi] at h
   refine(S.lists i ys h) _ fun b o' vs' n' h1 h2 h3 h4 h5 h6=>?_
   exact(fun J kJ=>kJ b o' vs' n' (by rw[jc (S.len▸hi)];exact h1) h2 h3 h4 (ah.adopt ho hc h0 h5) h6)
  ·have hlt:i<(H++[xs]).length:=(gW.mp h).1
   have:i=H.length:=by simp at hlt;exact ay [_,_] [] kan (Y2 V0 V1) (Y8 (Y1 V0 V1) J0) (Y1 V0 (Y0 V1 J1)) hi hlt
   subst this
   rw[iH (aJ _)] at h
   simp at h;subst h
   exact(fun J kJ=>kJ a o vs n (by rw[iH (eR S.len)];simp[S.len]) ho hc hd (ah.adopt ho hc h0 hr) ⟨hz,hp⟩)
 gens:=S.gens
 tab:=S.tab
theorem aq.newList{H:Hp}(S:aq c φ H s){xs:List V}{vs:List Value}(hr:ah c φ s.heap xs vs)(hz:xs.length<=qag)(ho:o={ cls:=.type "list",data:=.seq vs.toArray }) :
  aw [] φ s (φ++[s.heap.objs.size]) { s with heap:=s.heap.push o }/\aq c (φ++[s.heap.objs.size]) (H++[xs]) { s with heap:=s.heap.push o }:=by
 subst ho
 have e:aw [] φ s (φ++[s.heap.objs.size]) { s with heap:=s.heap.push { cls:=.type "list",data:=.seq vs.toArray } }:=
  { (aw.push (X:=[]) (φ:=φ) (s:=s) (o:={ cls:=.type "list",data:=.seq vs.toArray })) with
   pre:=List.prefix_append _ _
   new:=fun a ha=>(bJ.mp ha).elim .inl fun h=>.inr (by rw[aN.mp h];exact fJ (aJ _)) }
 refine⟨e,?_⟩
 have S':=S.push { cls:=.type "list",data:=.seq vs.toArray }
 refine S'.adopt (o:={ cls:=.type "list",data:=.seq vs.toArray }) (vs:=vs.toArray) (n:=0) S.new (S.h0_new (aJ _)) (eG _ rfl) rfl rfl ⟨rfl,rfl⟩ ?_ hz
 have:=ah.mono (aw.push (X:=[]) (φ:=φ) (s:=s) (o:={ cls:=.type "list",data:=.seq vs.toArray })).toKp aA.nil hr
 simpa using this
end
variable {H H' H'' H0 H2 H3 H₁:Hp}{K QQ:List V->Hp->Prop}{Q:V->Hp->Prop}{av l l1 l2 xs:List V}{b q:Bool}{c:Cx}{es:List Expr}{f:V->Option PyData}{l' loc loc' l₁:Loc}{l0 l10 l11 l12 l13 l14 l15 l6 l7 l8 l9 ov v3 v5 v6:Option V}{t:Nat}{v v0 v2 w x y z:V}{vals:List (Str×V)}
inductive Op |add |sub |mul |div |mod
 |pow
inductive Cm |lt |le |gt |ge |eq |ne
 |notIn
inductive Bl |len |max |range |list |all
 |tuple
 |sorted
 |int
inductive Me |append
 |extend
 |count
 |index
inductive Tc |int |bool |list |tuple
 |str
 |own (cn:Str)
inductive Tg |one (i:Nat) |two (i j:Nat)
inductive Ex where
 |lit (v:V)
 |var (i:Nat)
 |tup (es:List Ex)
 |list (es:List Ex)
 |dict0
 |bin (op:Op)(a b:Ex)
 |neg (a:Ex)
 |not (a:Ex)
 |cmp (a:Ex)(os:List Cm)(bs:List Ex)
 |and (es:List Ex)
 |or (es:List Ex)
 |idx (a i:Ex)
 |slice (a lo hi:Ex)
 |rev (a:Ex)
 |call (f:Str)(es:List Ex)
 |callL (f:Str)(es:List Ex)(k:Nat)(i:Nat)
 |callv (es:List Ex)
 |blt (b:Bl)(es:List Ex)
 |meth (m:Me)(o:Ex)(es:List Ex)
 |isi (a:Ex)(t:Tc)
 |comp (elt:Ex)(t:Tg)(src:Ex)(ifs:List Ex)
 |attr (a:Ex)(x:Str)
 deriving Inhabited
noncomputable abbrev Ex.ww (n:Int):Ex:=.lit (.int n)
noncomputable abbrev Ex.wx (n:Nat):Ex:=.var n
inductive Sr where
 |val (e:Ex)
 |enum (e:Ex)
 |rev (e:Ex)
 |zip (a b:Ex)
 deriving Inhabited
inductive St where
 |set (i:Nat)(e:Ex)
 |unp (is:List Nat)(e:Ex)
 |put (o i e:Ex)
 |expr (e:Ex)
 |ret (e:Ex)
 |ite (t:Ex)(a b:List St)
 |whil (t:Ex)(b:List St)
 |loop (t:Tg)(s:Sr)(b:List St)
 |rais (cn:Str)(es:List Ex)
 |tri (b:List St)(i:Nat)(h:List St)
 |stuck
 deriving Inhabited
inductive Fl where
 |next
 |ret (v:V)
noncomputable def j5:V->Option Bool
 |.bool b=>some b
 |_=>none
noncomputable def aH{α β:Type}(f:α->Option β):List α->Option (List β)
 |[]=>some []
 |x::xs=>(f x).bind fun y=>(aH f xs).map (y::·)
def BS{α β:Type}(f:α->Option β)(x:α)(xs:List α)(r:List β):Prop:=∀GJ:Prop,(∀(y:β),∀(ys:List β),(f x=some y)->(aH f xs=some ys)->(r=y::ys)->GJ)->GJ
def iW{f:α->Option β}{x:α}{xs:List α}{r:List β}(h:aH f (x::xs)=some r):BS f x xs r:=by
 revert h;refine xB fun y h1 h=>?_;revert h;refine xM fun ys h2 h=>?_;exact(fun J kJ=>kJ y ys h1 h2 h.symm)
noncomputable def my:V->Option PyData
 |.none=>some PyData.none
 |.bool b=>some (PyData.bool b)
 |.int i=>some (PyData.int i)
 |.str s=>some (PyData.str s)
 |_=>none
noncomputable def bM:Nat->Hp->V->Option PyData
 |0,_,v=>my v
 |n+1,H,v=>match v with
  |.tup l=>(aH (bM n H) l).map PyData.tuple
  |.lst a=>(H[a]?.bind fun xs=>aH (bM n H) xs).map PyData.list
  |v=>my v
noncomputable def gP(H:Hp)(v w:V):Option Bool:=(bM 9 H v).bind fun a=>(bM 9 H w).bind fun b=>if a.canLay0&&b.canLay0 then some (PyData.eqv a b) else none
noncomputable def ix(i:Int)(n:Nat):Option Nat:=
 if 0<=i then(if i<n then some i.toNat else none) else(if -(n:Int)<=i then some (i+n).toNat else none)
noncomputable def jh:V->Option Int
 |.int i=>some i
 |_=>none
noncomputable def oZ:V->Option Nat
 |.lst a=>some a
 |_=>none
noncomputable def uL:V->Option (List V)
 |.tup l=>some l
 |_=>none
def qG {i:Int} (h:jh v=some i):v=.int i:=by cases v<;>cases h;rfl
def zl(h:oZ v=some i):v=.lst i:=by cases v<;>cases h;rfl
noncomputable def ik:V->Option Str
 |.str s=>some s
 |_=>none
def zv{l:Str}(h:ik v=some l):v=.str l:=by cases v<;>cases h;rfl
def lj[Decidable p]{a b:α}(h:(if p then some a else none)=some b):p/\a=b:=by
 by_cases hp:p
 ·rw[if_pos hp] at h;exact⟨hp,ai h⟩
 ·exact cR ((if_neg hp).symm.trans h)
def iD[Decidable p]{o:Option α}{b:α}(h:(if p then o else none)=some b):p/\o=some b:=by
 by_cases hp:p
 ·rw[if_pos hp] at h;exact⟨hp,h⟩
 ·exact cR ((if_neg hp).symm.trans h)
def xU[Decidable p]{a b:α}(h:(if p then none else some a)=some b):¬p/\a=b:=by
 by_cases hp:p
 ·exact cR ((if_pos hp).symm.trans h)
 ·rw[if_neg hp] at h;exact⟨hp,ai h⟩
def vy(h:uL v=some l):v=.tup l:=by cases v<;>cases h;rfl
def pz(h:j5 v=some b):v=.bool b:=by cases v<;>cases h;rfl
noncomputable def il:List V->Option (List Int)
 |[]=>some []
 |x::r=>(jh x).bind fun i=>(il r).map (i::·)
noncomputable def gw:List V->Option (List Bool)
 |[]=>some []
 |x::r=>(j5 x).bind fun i=>(gw r).map (i::·)
noncomputable def yG:List V->Option (List Str)
 |[]=>some []
 |x::r=>(ik x).bind fun i=>(yG r).map (i::·)
noncomputable def cA(H:Hp)(v w:V):Option V:=(jh w).bind fun i=>match v with
 |.lst a=>H[a]?.bind fun xs=>(ix i xs.length).bind fun j=>xs[j]?
 |.tup xs=>(ix i xs.length).bind fun j=>xs[j]?
 |.scr xs=>(ix i xs.length).bind fun j=>xs[j]?.map .int
 |_=>none
noncomputable def eU{β:Type}(x y:V)(f:Int->Int->Option β):Option β:=(jh x).bind fun a=>(jh y).bind fun b=>f a b
def pn{f:Int->Int->Option β}{r:β}(h:eU x y f=some r):∃a b,x=.int a/\y=.int b/\f a b=some r:=by
 revert h;refine xB fun a h1 h=>?_;revert h;refine xB fun b h2 h=>?_;exact⟨a,b,qG h1,qG h2,h⟩
noncomputable def gK{β:Type}(H:Hp)(x:V)(f:List V->Option β):Option β:=(oZ x).bind fun a=>(H[a]?).bind f
def vE{f:List V->Option β}{r:β}(h:gK H x f=some r):∃a xs,x=.lst a/\H[a]?=some xs/\f xs=some r:=by
 revert h;refine xB fun a h1 h=>?_;revert h;refine xB fun xs h2 h=>?_;exact⟨a,xs,zl h1,h2,h⟩
noncomputable def yj(x y:V):Option Bool:=(ik x).bind fun s=>(uL y).bind fun l=>(yG l).map fun l=>!decide (s∈l)
noncomputable def isNone:V->Option Bool
 |.none=>some true
 |.int _=>some false
 |_=>none
noncomputable def dh(H:Hp)(o:Cm)(x y:V):Option Bool:=match o with
 |.lt=>eU x y fun a b=>some (decide (a<b))
 |.le=>eU x y fun a b=>some (decide (a<=b))
 |.gt=>eU x y fun a b=>some (decide (a>b))
 |.ge=>eU x y fun a b=>some (decide (a>=b))
 |.eq=>gP H x y
 |.ne=>(gP H x y).map (!·)
 |.notIn=>yj x y
noncomputable def small(i:Int):Bool:=decide (i.natAbs<2^63)
noncomputable def rep{α:Type}(l:List α):Nat->List α
 |0=>[]
 |n+1=>l++rep l n
theorem Ek{l:List α}:rep l (n+1)=l++rep l n:=rfl
noncomputable def yn(H:Hp)(x y:V):Option (V×Hp):=match x with
 |.int a=>(jh y).map fun b=>(.int (a+b),H)
 |.tup a=>(uL y).bind fun b=>if a.length+b.length<=qag then some (.tup (a++b),H) else none
 |.lst a=>(H[a]?).bind fun x=>gK H y fun y=>if x.length+y.length<=qag then some (.lst H.length,H++[x++y]) else none
 |_=>none
noncomputable def xv(H:Hp)(x y:V):Option (V×Hp):=(jh y).bind fun n=>match x with
 |.int a=>if small a||small n then some (.int (a*n),H) else none
 |.lst a=>(H[a]?).bind fun x=>if 0<=n/\n<=1000000/\n.toNat*x.length<=qag then some (.lst H.length,H++[rep x n.toNat]) else none
 |.tup x=>if(0<=n/\n<=1000000/\n.toNat*x.length<=qag)/\x≠[] then some (.tup (rep x n.toNat),H) else none
 |_=>none
noncomputable def bL(H:Hp)(op:Op)(x y:V):Option (V×Hp):=match op with
 |.add=>yn H x y
 |.sub=>eU x y fun a b=>some (.int (a-b),H)
 |.mul=>xv H x y
 |.div=>eU x y fun a b=>if b=0 then none else some (.int (a.fdiv b),H)
 |.mod=>eU x y fun a b=>if b=0 then none else some (.int (a.fmod b),H)
 |.pow=>eU x y fun a b=>if 0<=b/\b<=100/\small a then some (.int (a^b.toNat),H) else none
noncomputable def qd(i:Int)(n:Nat):Nat:=if i<0 then(i+n).toNat else min i.toNat n
noncomputable def bound?(n:Nat)(d:Nat):V->Option Nat
 |.none=>some d
 |.int i=>some (qd i n)
 |_=>none
noncomputable def vg(H:Hp)(a lo hi:V):Option (V×Hp):=(oZ a).bind fun a=>(H[a]?).bind fun xs=>(bound? xs.length 0 lo).bind fun i=>(bound? xs.length xs.length hi).map fun j=>(.lst H.length,H++[(xs.drop i).take (j-i)])
noncomputable def qe(H:Hp)(a:V):Option (V×Hp):=(oZ a).bind fun a=>(H[a]?).map fun xs=>(.lst H.length,H++[xs.reverse])
noncomputable def eQ(lo hi st:Int):List V:=(List.range (if 0<st/\lo<hi then((hi-lo-1)/st+1).toNat else 0)).map fun(i:Nat)=>V.int (lo+(i:Int)*st)
noncomputable def d0(H:Hp):V->Option (List V)
 |.lst a=>H[a]?
 |.tup l=>some l
 |.rng lo hi st=>some (eQ lo hi st)
 |_=>none
def gx(v:V)(items:List V)(H:Hp):Prop:=match v with
 |.lst a=>H[a]?=some items
 |_=>True
noncomputable def r4(v:V):Option (Int×Int):=(uL v).bind fun l=>match l with
 |[x,y]=>eU x y fun a b=>some (a,b)
 |_=>none
noncomputable def vX(xs:List V):Option (List (Int×Int)):=aH r4 xs
noncomputable def i7(a b:Int×Int):Bool:=decide (a.1<b.1)||(decide (a.1=b.1)&&decide (a.2<=b.2))
noncomputable def xc(l:List (Int×Int)):Bool:=decide (l.length<64)&&decide l.Nodup&&l.all fun p=>decide (p.1.natAbs<2^31)&&decide (p.2.natAbs<2^31)
noncomputable def ju(p:Int×Int):V:=.tup [.int p.1,.int p.2]
noncomputable def eK{β:Type}(vs:List V)(f:V->Option β):Option β:=match vs with
 |[]=>none
 |x::r=>match r with
  |[]=>f x
  |_::_=>none
theorem nK{vs:List V}{f:V->Option β}{r:β}(h:eK vs f=some r):∃x,vs=[x]/\f x=some r:=by
 cases vs with
 |nil=>injection h
 |cons x l=>cases l with
  |nil=>exact⟨x,rfl,h⟩
  |cons=>injection h
noncomputable def zj(H:Hp)(x:V):Option (V×Hp):=match x with
 |.lst a=>(H[a]?).map fun xs=>(.int xs.length,H)
 |.tup l=>some (.int l.length,H)
 |.scr l=>some (.int l.length,H)
 |_=>none
noncomputable def yH(H:Hp)(vs:List V):Option (V×Hp):=(il vs).bind fun l=>match l with
 |[a,b]=>some (.int (if a<b then b else a),H)
 |[a,b,c]=>some (.int (if(if a<b then b else a)<c then c else(if a<b then b else a)),H)
 |_=>none
noncomputable def xE(H:Hp)(vs:List V):Option (V×Hp):=(il vs).bind fun l=>match l with
 |[n]=>if n.natAbs<2^31 then some (.rng 0 n 1,H) else none
 |[a,b]=>if a.natAbs<2^31/\b.natAbs<2^31 then some (.rng a b 1,H) else none
 |[a,b,c]=>if a.natAbs<2^31/\b.natAbs<2^31/\0<c/\c<2^31 then some (.rng a b c,H) else none
 |_=>none
noncomputable def rg(H:Hp)(x:V):Option (V×Hp):=match x with
 |.lst a=>(H[a]?).map fun xs=>(.lst H.length,H++[xs])
 |.rng lo hi st=>if(eQ lo hi st).length<=qag then some (.lst H.length,H++[eQ lo hi st]) else none
 |.tup l=>if l.length<=qag then some (.lst H.length,H++[l]) else none
 |_=>none
noncomputable def kf(H:Hp)(x:V):Option (V×Hp):=match x with
 |.lst a=>(H[a]?).map fun xs=>(.tup xs,H)
 |_=>none
noncomputable def Dg(H:Hp)(x:V):Option (V×Hp):=(j5 x).map fun b=>(.int (if b then 1 else 0),H)
noncomputable def ba(H:Hp)(b:Bl)(vs:List V):Option (V×Hp):=match b with
 |.len=>eK vs (zj H)
 |.max=>yH H vs
 |.range=>xE H vs
 |.list=>eK vs (rg H)
 |.tuple=>eK vs (kf H)
 |.all=>eK vs fun x=>gK H x fun xs=>(gw xs).map fun l=>(.bool (l.all id),H)
 |.sorted=>eK vs fun x=>gK H x fun xs=>(vX xs).bind fun l=>if xc l=true then some (.lst H.length,H++[(l.mergeSort i7).map ju]) else none
 |.int=>eK vs (Dg H)
noncomputable def AD(v:V):Option Unit:=(j5 v).bind fun b=>if b then some () else none
noncomputable def sT(H:Hp)(m:Me)(x:V)(vs:List V):Option (V×Hp):=match m with
 |.append=>(oZ x).bind fun a=>(H[a]?).bind fun xs=>eK vs fun v=>if xs.length<qag then some (.none,H.set a (xs++[v])) else none
 |.extend=>(oZ x).bind fun a=>(H[a]?).bind fun xs=>eK vs fun v=>gK H v fun ys=>if xs.length+ys.length<=qag then some (.none,H.set a (xs++ys)) else none
 |.count=>gK H x fun xs=>eK vs fun v=>(AD v).bind fun J=>(gw xs).map fun l=>(.int (l.count true),H)
 |.index=>gK H x fun xs=>eK vs fun v=>(AD v).bind fun J=>(gw xs).bind fun l=>if true∈l then some (.int (l.idxOf true),H) else none
noncomputable def yD:V->Bool
 |.lst _=>true
 |_=>false
noncomputable def isStr:V->Bool
 |.str _=>true
 |_=>false
noncomputable def BH(m:Me)(v:V):Bool:=match m with
 |.append=>yD v
 |.extend=>yD v
 |.count=>yD v
 |.index=>yD v
noncomputable def lJ:V->Bool
 |.exc c _=>decide (c∈kids)
 |_=>false
noncomputable def kd:V->Option Nat
 |.none=>some 0
 |.bool _=>some 1
 |.int _=>some 2
 |.tup _=>some 4
 |.lst _=>some 5
 |.str _=>some 3
 |_=>none
noncomputable def q7:V->Option Str
 |.exc c _=>some c
 |_=>none
noncomputable def bZ(v:V)(t:Tc):Option Bool:=match t with
 |.own p=>(q7 v).bind fun e=>if e∈kids/\(p∈kids\/p=ar "ValueError") then some (decide (e=p\/p=ar "ValueError")) else none
 |.int=>(kd v).map fun n=>n==1||n==2
 |.bool=>(kd v).map (·==1)
 |.tuple=>(kd v).map (·==4)
 |.list=>(kd v).map (·==5)
 |.str=>(kd v).map (·==3)
noncomputable def kD(H:Hp)(a i v:V):Option Hp:=(oZ a).bind fun a=>(jh i).bind fun i=>(H[a]?).bind fun xs=>if 0<=i/\i<xs.length then some (H.set a (xs.set i.toNat v)) else none
noncomputable def gA(t:Tg)(x:V)(l:Loc):Option Loc:=match t with
 |.one i=>some (l.set i (some x))
 |.two i j=>(uL x).bind fun vs=>match vs with
  |[a,b]=>some ((l.set i (some a)).set j (some b))
  |_=>none
noncomputable def vm:List Nat->List V->Loc->Option Loc
 |[],[],l=>some l
 |i::is,v::vs,l=>vm is vs (l.set i (some v))
 |_,_,_=>none
abbrev dB:=Option (Nat×V)
abbrev XPost:=V->Hp->Prop
abbrev CallT:=Bool->Nat->Str->List V->dB->(V->Hp->Prop)->XPost->Hp->Prop
def ae{α:Type}(o:Option α)(K:α->Prop):Prop:=match o with
 |some a=>K a
 |none=>False
inductive iL{α:Type}(o:Option α)(K:α->Prop):Prop
 |mk (a:α)(h:o=some a)(k:K a):iL o K
theorem ae.inv{o:Option α}{K:α->Prop}(h:ae o K):iL o K:=by
 cases o with
 |none=>exact h.elim
 |some a=>exact⟨a,rfl,h⟩
def xI{o:Option α}{K:α->Prop}(k:∀a,o=some a->K a->G)(h:ae o K):G:=let⟨a,p,q⟩:=ae.inv h;k a p q
def ae.mk{o:Option α}{K:α->Prop}{a:α}(h:o=some a)(k:K a):ae o K:=by subst h;exact k
def qb(es:List Ex)(A B:Prop):Prop:=match es with
 |[]=>A
 |_::_=>B
def d6(b:Bool)(A B:Prop):Prop:=match b with
 |true=>A
 |false=>B
noncomputable def dp{α:Type}(q:Bool)(o:Option α):Option α:=match q with
 |true=>o
 |false=>none
theorem Ef{o:Option α}{a:α}(h:dp q o=some a):q=true/\o=some a:=by
 cases q with
 |true=>exact⟨rfl,h⟩
 |false=>injection h
def gH{σ:Type}(ok:Hp->Prop)(step:V->σ->(σ->Hp->Prop)->Hp->Prop):List V->σ->(σ->Hp->Prop)->Hp->Prop
 |[],a,Q,H=>Q a H
 |x::xs,a,Q,H=>step x a (fun a' H'=>ok H'/\gH ok step xs a' Q H') H
noncomputable def fo:XPost:=fun J J=>False
noncomputable def vz(k:Nat)(x y z:V):List V:=
 let p:=fun(i:Nat)=>if i=0 then x else if i=1 then y else z
 [p (k/9),p (k/3%3),p (k%3)]
noncomputable def tR(k:dB)(d:Nat)(vs:List V):Option (Nat×List V):=k.bind fun z=>match d with
 |0=>none
 |d+1=>match vs with
  |[x,y]=>some (d,vz z.1 x y z.2)
  |_=>none
noncomputable def iX(H:Hp)(v:V):Option (List V):=(oZ v).bind fun a=>H[a]?
noncomputable def vo:V->Option V
 |.none=>some .none
 |.int i=>some (.int i)
 |_=>none
noncomputable def gU(v:V)(x:Str):Option V:=match v with
 |.exc cn w=>if x=ar "at"/\cn=ar "BadNet" then vo w else none
 |_=>none
noncomputable def yu(is:List Nat)(v:V)(l:Loc):Option Loc:=(uL v).bind fun vs=>vm is vs l
def fp(Q:Bool->Hp->Prop)(v:V)(H:Hp):Prop:=ae (j5 v) fun b=>Q b H
def kG(I:Loc->(Bool->Hp->Prop)->Hp->Prop)(W:Loc->(V->Hp->Prop)->Hp->Prop)(t:Tg)(l:Loc)(x:V)(acc:List V)(K:List V->Hp->Prop)(H:Hp):Prop:=
 ae (gA t x l) fun l'=>I l' (fun b H=>d6 b (W l' (fun v H=>K (acc++[v]) H) H) (K acc H)) H
mutual
def aF(C:CallT)(q:Bool)(d:Nat)(k:dB):Ex->Loc->(V->Hp->Prop)->XPost->Hp->Prop
 |.lit v,_,Q,_,H=>Q v H
 |.var i,l,Q,_,H=>ae (l.getD i none) fun v=>Q v H
 |.tup es,l,Q,E,H=>dI C q d k es l (fun vs H=>Q (.tup vs) H) E H
 |.list es,l,Q,E,H=>dI C q d k es l (fun vs H=>Q (.lst H.length) (H++[vs])) E H
 |.dict0,_,Q,_,H=>∀a,Q (.dict0 a) H
 |.bin op a b,l,Q,E,H=>aF C q d k a l (fun x H=>aF C q d k b l (fun y H=>ae (bL H op x y) fun p=>Q p.1 p.2) E H) E H
 |.neg a,l,Q,E,H=>aF C q d k a l (fun x H=>ae (jh x) fun i=>Q (.int (-i)) H) E H
 |.not a,l,Q,E,H=>aF C q d k a l (fp fun b H=>Q (.bool !b) H) E H
 |.cmp a os bs,l,Q,E,H=>aF C q d k a l (fun x H=>vL C q d k x os bs l (fun b H=>Q (.bool b) H) E H) E H
 |.and es,l,Q,E,H=>vY C q d k es l (fun b H=>Q (.bool b) H) E H
 |.or es,l,Q,E,H=>iN C q d k es l (fun b H=>Q (.bool b) H) E H
 |.idx a i,l,Q,E,H=>aF C q d k a l (fun x H=>aF C q d k i l (fun y H=>ae (cA H x y) fun v=>Q v H) E H) E H
 |.slice a lo hi,l,Q,E,H=>aF C q d k a l (fun x H=>aF C q d k lo l (fun y H=>aF C q d k hi l (fun z H=>ae (vg H x y z) fun p=>Q p.1 p.2) E H) E H) E H
 |.rev a,l,Q,E,H=>aF C q d k a l (fun x H=>ae (qe H x) fun p=>Q p.1 p.2) E H
 |.call f es,l,Q,E,H=>dI C q d k es l (fun vs H=>C q d f vs none Q E H) E H
 |.callL f es kk i,l,Q,E,H=>dI C q d k es l (fun vs H=>ae (l.getD i none) fun v=>C q d f vs (some (kk,v)) Q E H) E H
 |.callv es,l,Q,E,H=>ae k fun J=>dI C q d k es l (fun vs H=>ae (tR k d vs) fun p=>C q p.1 (ar "put_together") p.2 none Q fo H) E H
 |.blt b es,l,Q,E,H=>dI C q d k es l (fun vs H=>ae (dp q (ba H b vs)) fun p=>Q p.1 p.2) E H
 |.meth m o es,l,Q,E,H=>aF C q d k o l (fun x H=>BH m x=true/\dI C q d k es l (fun vs H=>ae (sT H m x vs) fun p=>Q p.1 p.2) E H) E H
 |.isi a t,l,Q,E,H=>aF C q d k a l (fun x H=>ae (bZ x t) fun b=>Q (.bool b) H) E H
 |.comp elt t src ifs,l,Q,E,H=>aF C q d k src l (fun sv H=>ae (dp q (d0 H sv)) fun items=>items.length<=qag /\
   gH (gx sv items) (kG (fun l' Q H=>rr C q d none ifs l' Q H) (fun l' Q H=>aF C q d none elt l' Q fo H) t l) items [] (fun acc H'=>Q (.lst H'.length) (H'++[acc])) H) E H
 |.attr a x,l,Q,E,H=>aF C q d k a l (fun v H=>ae (gU v x) fun w=>Q w H) E H
def dI(C:CallT)(q:Bool)(d:Nat)(k:dB):List Ex->Loc->(List V->Hp->Prop)->XPost->Hp->Prop
 |[],_,Q,_,H=>Q [] H
 |e::es,l,Q,E,H=>aF C q d k e l (fun v H=>dI C q d k es l (fun vs H=>Q (v::vs) H) E H) E H
def vY(C:CallT)(q:Bool)(d:Nat)(k:dB):List Ex->Loc->(Bool->Hp->Prop)->XPost->Hp->Prop
 |[],_,_,_,_=>False
 |e::es,l,Q,E,H=>aF C q d k e l (fp fun b H=>qb es (Q b H) (d6 b (vY C q d k es l Q E H) (Q false H))) E H
def iN(C:CallT)(q:Bool)(d:Nat)(k:dB):List Ex->Loc->(Bool->Hp->Prop)->XPost->Hp->Prop
 |[],_,_,_,_=>False
 |e::es,l,Q,E,H=>aF C q d k e l (fp fun b H=>qb es (Q b H) (d6 b (Q true H) (iN C q d k es l Q E H))) E H
def vL(C:CallT)(q:Bool)(d:Nat)(k:dB):V->List Cm->List Ex->Loc->(Bool->Hp->Prop)->XPost->Hp->Prop
 |x,os,e::es,l,Q,E,H=>ae os.head? fun o=>aF C q d k e l (fun y H=>ae (dh H o x y) fun b=>qb es (Q b H) (d6 b (vL C q d k y os.tail es l Q E H) (Q false H))) E H
 |_,_,[],_,_,_,_=>False
def rr(C:CallT)(q:Bool)(d:Nat)(k:dB):List Ex->Loc->(Bool->Hp->Prop)->Hp->Prop
 |[],_,Q,H=>Q true H
 |e::es,l,Q,H=>aF C q d k e l (fp fun b H=>d6 b (rr C q d k es l Q H) (Q false H)) fo H
end
def A9(C:CallT)(q:Bool)(d:Nat)(k:dB)(e:Ex)(l:Loc)(Q:Bool->Hp->Prop)(E:XPost)(H:Hp):Prop:=aF C q d k e l (fp Q) E H
abbrev SPost:=Fl->Loc->Hp->Prop
abbrev SX:=V->Loc->Hp->Prop
noncomputable def cu(N:Loc->Hp->Prop)(Q:SPost):SPost:=fun f l H=>match f with
 |.next=>N l H
 |.ret v=>Q (.ret v) l H
def jG(ok:Hp->Prop)(body:V->Loc->SPost->Hp->Prop):List V->SPost->Loc->Hp->Prop
 |[],Q,l,H=>Q .next l H
 |x::xs,Q,l,H=>body x l (cu (fun l' H'=>ok H'/\jG ok body xs Q l' H') Q) H
inductive fF(test:Loc->(Bool->Hp->Prop)->Hp->Prop)(body:Loc->SPost->Hp->Prop)(l:Loc)(Q:SPost)(H:Hp):Prop
 |mk (I:Nat->Loc->Hp->Prop)(n:Nat)(h0:I n l H)(step:∀n l H,I n l H->test l (fun b H'=>d6 b (body l (cu (fun l' H''=>∃m,m<n/\I m l' H'') Q) H') (Q .next l H')) H):fF test body l Q H
noncomputable def tP(n:Int):List V->List V
 |[]=>[]
 |x::xs=>.tup [.int n,x]::tP (n+1) xs
noncomputable def xl:List V->List V->List V
 |x::xs,y::ys=>.tup [x,y]::xl xs ys
 |_,_=>[]
def iF(C:CallT)(q:Bool)(d:Nat)(k:dB):Sr->Loc->(List V->(Hp->Prop)->Hp->Prop)->XPost->Hp->Prop
 |.val e,l,Q,E,H=>aF C q d k e l (fun v H=>ae (d0 H v) fun items=>Q items (gx v items) H) E H
 |.enum e,l,Q,E,H=>aF C q d k e l (fun v H=>ae (iX H v) fun items=>Q (tP 0 items) (gx v items) H) E H
 |.rev e,l,Q,E,H=>aF C q d k e l (fun v H=>ae (iX H v) fun items=>Q items.reverse (gx v items) H) E H
 |.zip a b,l,Q,E,H=>aF C q d k a l (fun v H=>aF C q d k b l (fun w H=>ae (iX H v) fun x=>ae (iX H w) fun y=>Q (xl x y) (fun H=>gx v x H/\gx w y H) H) E H) E H
noncomputable def bQ(cn:Str)(vs:List V):V:=if cn=ar "BadNet" then vs.headD .none else .none
mutual
def iz(C:CallT)(q:Bool)(d:Nat)(k:dB):St->SPost->SX->Loc->Hp->Prop
 |.set i e,Q,E,l,H=>aF C q d k e l (fun v H=>Q .next (l.set i (some v)) H) (fun x H=>E x l H) H
 |.unp is e,Q,E,l,H=>q=true/\aF C q d k e l (fun v H=>ae (yu is v l) fun l'=>Q .next l' H) (fun x H=>E x l H) H
 |.put o i e,Q,E,l,H=>aF C q d k e l (fun v H=>aF C q d k o l (fun a H=>aF C q d k i l (fun j H=>ae (kD H a j v) fun H'=>Q .next l H') (fun x H=>E x l H) H) (fun x H=>E x l H) H) (fun x H=>E x l H) H
 |.expr e,Q,E,l,H=>aF C q d k e l (fun J H=>Q .next l H) (fun x H=>E x l H) H
 |.ret e,Q,E,l,H=>aF C q d k e l (fun v H=>Q (.ret v) l H) (fun x H=>E x l H) H
 |.ite t a b,Q,E,l,H=>aF C q d k t l (fp fun c H=>d6 c (az C q d k a Q E l H) (az C q d k b Q E l H)) (fun x H=>E x l H) H
 |.whil t b,Q,_,l,H=>q=true/\fF (fun l Q H=>A9 C q d k t l Q fo H) (fun l Q H=>az C q d k b Q (fun J J J=>False) l H) l Q H
 |.loop t s b,Q,E,l,H=>q=true/\iF C q d k s l (fun items ok H=>jG ok (fun x l Q H=>ae (gA t x l) fun l'=>az C q d k b Q E l' H) items Q l H) (fun x H=>E x l H) H
 |.rais cn es,_,E,l,H=>q=true/\dI C q d k es l (fun vs H=>E (.exc cn (bQ cn vs)) l H) fo H
 |.tri b i h,Q,_,l,H=>q=true/\az C q d k b Q (fun x l' H=>lJ x=true/\az C false d k h (fun f l'' H=>Q f (l''.set i none) H) (fun J J J=>False) (l'.set i (some x)) H) l H
 |.stuck,_,_,_,_=>False
def az(C:CallT)(q:Bool)(d:Nat)(k:dB):List St->SPost->SX->Loc->Hp->Prop
 |[],Q,_,l,H=>Q .next l H
 |s::ss,Q,E,l,H=>iz C q d k s (cu (az C q d k ss Q E) Q) E l H
end
variable {C:CallT}{EE:SX}{Qx:SPost}{k:dB}{op:Op}{os:List Cm}{p:V×Hp}{sr:Sr}{src x1 xelt xsrc xt y1 y2:Ex}{ss xb xh:List St}{x:Str}{xifs:List Ex}{y:Value}
structure Res where
 fr:Bool
 n:Nat
 t:List (Str×Nat)
noncomputable def Res.lookup(r:Res)(x:Str):Option Nat:=r.t.lookup x
structure mn(wz:Env):Prop where
 g0:wz.scope.kind≠.module
 g1:wz.scope.isGenerator=false
 g2:wz.scope.isCoroutine=false
 g3:wz.builtins=kj
 g4:wz.globals=dH
inductive bB(c:Cx)(φ:List Addr)(h:Heap)(wz:Env):Prop
 |mk (pl:mn wz)(L:Addr)(o:Obj)(es:Array i4)(n:Nat)(h4:wz.frame=some L)(h5:c.h0.get? L=none)(h6:L∉φ)(h7:h.get? L=some o)(h8:o.data=.dict es n)(h9:o.cls=.type "frame"):bB c φ h wz
structure OkA(c:Cx)(A:Around)(q:Bool)(d:Nat)(φ:List Addr)(h:Heap):Prop where
 dep:A.depth+d<=890
 un:A.units+10*d<=9000
 hd:q=true->A.handled=none
 fr:∃l,A.frames=some l/\∀wz∈l,bB c φ h wz
structure bY(c:Cx)(A:Around)(q:Bool)(d:Nat)(φ:List Addr)(h:Heap):Prop extends OkA c A q d φ h where
 ne:A.frames≠some []
def OkA.mono(h:OkA c A q d φ s.heap)(e:aw X φ s φ' s'):OkA c A q d φ' s'.heap where
 dep:=h.dep
 un:=h.un
 hd:=h.hd
 fr:=by
  obtain⟨l,h1,h2⟩:=h.fr
  refine⟨l,h1,fun wz he=>?_⟩
  obtain⟨h3,L,o,es,n,h4,h5,h6,h7,h8,h9⟩:=h2 wz he
  obtain⟨o',es',n',g1,g2,g3⟩:=e.dict L o es n h7 h6 h8
  exact⟨h3,L,o',es',n',h4,h5,e.notin h7 h6,g1,g2,g3.cls.trans h9⟩
def bY.mono(h:bY c A q d φ s.heap)(e:aw X φ s φ' s'):bY c A q d φ' s'.heap:=⟨h.toOkA.mono e,h.ne⟩
inductive bq(c:Cx)(φ:List Addr)(h:Heap)(wz:Env)(x:Str):Option V->Prop
 |yes (v:V)(ca:Addr)(r:Value)(h1:wz.cells.lookup x=some ca)(h2:h.IsCell ca (some r))(h3:ax c φ h v r):bq c φ h wz x (some v)
 |no (ca:Addr)(h1:wz.cells.lookup x=some ca)(h2:h.IsCell ca none):bq c φ h wz x none
inductive cJ(c:Cx)(φ:List Addr)(h:Heap)(m:Option Value):Option V->Prop
 |yes (v:V)(r:Value)(h1:m=some r)(h2:ax c φ h v r):cJ c φ h m (some v)
 |no:cJ c φ h m none
def hW(k:Option aU)(L C:Prop):Prop:=match k with
 |some .local=>L
 |some .cell=>C
 |some .free=>C
 |_=>False
def iJ(c:Cx)(φ:List Addr)(h:Heap)(wz:Env)(m:Str->Option Value)(x:Str)(ov:Option V):Prop:=hW (wz.kindOf x) (cJ c φ h (m x) ov) (bq c φ h wz x ov)
theorem hW.imp{k:Option aU}{L C L' C':Prop}(h:hW k L C)(hL:k=some .local->L->L')(hC:C->C'):hW k L' C':=by
 cases k with
 |none=>exact h.elim
 |some k=>cases k<;>first |exact hL rfl h |exact hC h |exact h.elim
inductive bz(c:Cx)(φ:List Addr)(h:Heap)(B:Nat)(kk:Nat)(z:V)(fv:Value):Prop
 |mk (a:Addr)(o:Obj)(fd:qbe)(nm:Str)(ca:Addr)(oc:Obj)(rv:Value)(hr:fv=.ref a)(ha:a∉φ)(ho:h.get? a=some o)(hc:o.cls=.type "function")(hd:o.data=.func fd)(hk:c.lam kk fd nm)
   (hcl:fd.closure=[(nm,ca)]) (hca:ca∉φ) (hlt:ca<B) (hoc:h.get? ca=some oc) (hcc:oc.cls=.type "cell") (hdc:oc.data=.cell (some rv)) (hx:ax c φ h z rv)
   (h0:c.h0.get? ca=none) (cc:Addr) (hcd:fd.code=.ref cc) (hco:b0 h cc fd.qualname) (hcφ:cc∉φ):bz c φ h B kk z fv
noncomputable def cD:Str:=ar "join"
def mh(c:Cx)(wz:Env)(m:Str->Option Value)(kk:Nat)(z:V)(φ:List Addr)(h:Heap):Prop:=∀GJ:Prop,((wz.kindOf cD=some .local)->∀(fv:Value),(m cD=some fv)->bz c φ h wz.locals kk z fv->GJ)->GJ
inductive ef(wz:Env)(fr:Bool)(h:Heap)(m:Str->Option Value):Prop
 |mk (ns:h.Ns wz.locals m)(o:Obj)(ho:h.get? wz.locals=some o)(hc:(o.cls=.type "frame"/\fr=true)\/(o.cls=.type "dict"/\m (ar "at")=none/\fr=false)):ef wz fr h m
def ef.ns(q:ef wz fr h m):h.Ns wz.locals m:=let⟨n,_,_,_⟩:=q;n
inductive wJ(c:Cx)(wz:Env)(wu:Res)(k:dB)(loc:Loc)(φ:List Addr)(h:Heap):Prop
 |mk (m:Str->Option Value)(room:ef wz wu.fr h m)(slot:∀x i,wu.lookup x=some i->iJ c φ h wz m x (loc.getD i none))(clo:∀kk z,k=some (kk,z)->mh c wz m kk z φ h):wJ c wz wu k loc φ h
inductive bf(c:Cx)(φ:List Addr)(h:Heap)(ca:Addr):Prop
 |mk (h1:ca∉φ)(h2:c.h0.get? ca=none)(o:Obj)(h3:h.get? ca=some o)(h4:o.cls=.type "cell")(h5:∃r,o.data=.cell r):bf c φ h ca
def bf.out(q:bf c φ h ca):ca∉φ/\c.h0.get? ca=none:=let⟨h1,h2,_,_,_,_⟩:=q;⟨h1,h2⟩
structure au(c:Cx)(wz:Env)(wu:Res)(k:dB)(loc:Loc)(φ:List Addr)(h:Heap):Prop where
 fn:wz.scope.kind=.function
 gl:wz.globals=dH
 bl:wz.builtins=kj
 ns:wJ c wz wu k loc φ h
 len:wu.n<=loc.length
 Lφ:wz.locals∉φ
 L0:c.h0.get? wz.locals=none
 cells:∀x ca,wz.cells.lookup x=some ca->bf c φ h ca
def nI(hn:h.Ns L m)(hk:∀o,h.get? L=some o->∃sl,h'.get? L=some { o with slots:=sl }):h'.Ns L m:=by
 obtain⟨o,es,ep,ho,hd,r⟩:=hn;obtain⟨sl,h1⟩:=hk o ho;exact⟨_,es,ep,h1,hd,r⟩
structure ee(wz:Env)(X:List Addr)(s:Shared):Prop where
 loc:wz.locals∉X
 cells:∀x ca,wz.cells.lookup x=some ca->ca∉X
 clo:∀ca o,s.heap.get? ca=some o->o.cls=.type "cell"->ca<wz.locals->ca∉X
theorem ee.nil:ee wz [] s:=⟨by simp,by simp,by simp⟩
def Kw{q:Str}(e:Kp X φ h φ' h')(hX:aA c X h)(k:b0 h cc q)(hn:cc∉φ):b0 h' cc q:=by
 obtain⟨o,vs,t,h1,h2,h3,h4⟩:=k;exact⟨o,vs,t,tH e hX h1 hn (vp h2 rfl),h2,h3,h4⟩
def bz.mono{kk z fv}(e:Kp X φ s.heap φ' s'.heap)(hX:aA c X s.heap)(hB:∀ca o,s.heap.get? ca=some o->o.cls=.type "cell"->ca<B->ca∉X)(h:bz c φ s.heap B kk z fv):bz c φ' s'.heap B kk z fv:=by
 obtain⟨a,o,fd,nm,ca,oc,rv,hr,ha,ho,hc,hd,hk,hcl,hca,hlt,hoc,hcc,hdc,hx,h0,cc,hcd,hco,hcφ⟩:=h;exact⟨a,o,fd,nm,ca,oc,rv,hr,e.notin ho ha,tH e hX ho ha (vp hc rfl),hc,hd,hk,hcl,e.notin hoc hca,hlt,
  e.keep ca oc hoc hca (hB ca oc hoc hcc hlt) (by rw[hcc];decide),hcc,hdc,ax.mono e hX hx,h0,cc,hcd,Kw e hX hco hcφ,let⟨_,_,_,g1,_,_,_⟩:=hco;e.notin g1 hcφ⟩
theorem cJ.mono{m:Option Value}(e:Kp X φ s.heap φ' s'.heap)(hX:aA c X s.heap):cJ c φ s.heap m ov->cJ c φ' s'.heap m ov
 |.yes v r h1 h2=>.yes v r h1 (ax.mono e hX h2)
 |.no=>.no
def GU{r:Option Value}(e:Kp X φ s.heap φ' s'.heap)(k0:ca∉X)(k1:bf c φ s.heap ca)(h:s.heap.IsCell ca r):s'.heap.IsCell ca r:=by
 obtain⟨k1,k2,o',k3,k4⟩:=k1;obtain⟨o,h2,h2'⟩:=h;cases ai (h2.symm.trans k3);exact⟨_,e.keep ca _ h2 k1 k0 (by rw[k4];decide),h2'⟩
theorem bq.imp(hc:∀ca r,wz.cells.lookup x=some ca->h.IsCell ca r->h'.IsCell ca r)(hr:∀v r,ax c φ h v r->ax c φ' h' v r):bq c φ h wz x ov->bq c φ' h' wz x ov
 |.yes v ca r h1 h2 h3=>.yes v ca r h1 (hc ca _ h1 h2) (hr v r h3)
 |.no ca h1 h2=>.no ca h1 (hc ca _ h1 h2)
def bq.mono(e:Kp X φ s.heap φ' s'.heap)(hX:aA c X s.heap)(hc:∀x ca,wz.cells.lookup x=some ca->ca∉X/\bf c φ s.heap ca)(h:bq c φ s.heap wz x ov):bq c φ' s'.heap wz x ov:=
 h.imp (fun ca J h1 h2=>GU e (hc x ca h1).1 (hc x ca h1).2 h2) fun J J h=>ax.mono e hX h
def iJ.mono(e:Kp X φ s.heap φ' s'.heap)(hX:aA c X s.heap)(hc:∀x ca,wz.cells.lookup x=some ca->ca∉X/\bf c φ s.heap ca) (h:iJ c φ s.heap wz m x ov):iJ c φ' s'.heap wz m x ov:=hW.imp h (fun J h=>cJ.mono e hX h) (bq.mono e hX hc)
def au.lcls{wu:Res}(F:au c wz wu k loc φ h)(ho:h.get? wz.locals=some o):o.cls≠.none:=fun q=>by
 obtain⟨m,⟨_,o',h3,h4⟩,_,_⟩:=F.ns;obtain rfl:=ai (ho.symm.trans h3);rcases h4 with h4 |h4
 ·rw[h4.1] at q;injection q
 ·rw[h4.1] at q;injection q
def au.off{wu:Res}(F:au c wz wu k loc φ s.heap)(e:Kp X φ s.heap φ' s'.heap)(hX:aA c X s.heap)(hO:ee wz X s)
  (hL:∀o,s.heap.get? wz.locals=some o->∃sl,s'.heap.get? wz.locals=some { o with slots:=sl }):au c wz wu k loc φ' s'.heap where
 fn:=F.fn
 gl:=F.gl
 bl:=F.bl
 len:=F.len
 ns:=by
  obtain⟨m,⟨hn,o,ho,hc⟩,h1,h2⟩:=F.ns
  obtain⟨sl,h'⟩:=hL o ho
  refine⟨m,⟨nI hn hL,_,h',hc⟩,fun x i hx=>(h1 x i hx).mono e hX fun x ca h=>⟨hO.cells x ca h,F.cells x ca h⟩,fun kk z hk=>?_⟩
  refine(h2 kk z hk) _ fun h3 fv h4 h5=>?_
  exact(fun J kJ=>kJ h3 fv h4 (h5.mono e hX hO.clo))
 Lφ:=by
  obtain⟨m,⟨_,o,ho,_⟩,_⟩:=F.ns
  exact e.notin ho F.Lφ
 L0:=F.L0
 cells x ca h:=by
  obtain⟨h1,h2,o,h3,h4,h5⟩:=F.cells x ca h
  exact⟨e.notin h3 h1,h2,o,e.keep ca o h3 h1 (hO.cells x ca h) (by rw[h4];decide),h4,h5⟩
theorem au.mono{wu:Res}(F:au c wz wu k loc φ s.heap)(e:aw [] φ s φ' s'):au c wz wu k loc φ' s'.heap:=
 F.off e.toKp aA.nil ee.nil fun o ho=>e.frame _ o ho F.Lφ (by simp) (F.lcls ho)
inductive aG(c:Cx)(φ:List Addr)(s:Shared)(Q:V->Hp->Prop)(r:Value)(s':Shared):Prop
 |mk (φ':List Addr)(H':Hp)(v:V)(e:aw [] φ s φ' s')(S:aq c φ' H' s')(R:ax c φ' s'.heap v r)(q:Q v H'):aG c φ s Q r s'
inductive ym(c:Cx)(φ:List Addr)(s:Shared)(h:Heap)(vs:Array Value):Prop
 |mk (T:Addr)(oT:Obj)(ts:Array Value)(h1:vs[1]?=some (.ref T))(h2:s.heap.get? T=none)(h3:T∉φ)(h4:c.h0.get? T=none)(h5:h.get? T=some oT)(h6:oT.cls=.type "traceback")(h7:oT.data=.fields ts)(h8:3<ts.size):ym c φ s h vs
inductive cx(c:Cx)(φ:List Addr)(s:Shared)(h:Heap)(x:V)(e:Value):Prop
 |mk (R:ax c φ h x e)(hx:∃cn y,x=.exc cn y)(a:Addr)(o:Obj)(vs:Array Value)(h3:e=.ref a)(h4:s.heap.get? a=none)(h5:h.get? a=some o)(h6:o.data=.fields vs)(h7:vs[1]?=some .none\/ym c φ s h vs):cx c φ s h x e
inductive aB(c:Cx)(φ:List Addr)(s:Shared)(E:XPost)(e:Value)(s':Shared):Prop
 |mk (φ':List Addr)(H':Hp)(x:V)(ex:aw [] φ s φ' s')(S:aq c φ' H' s')(R:cx c φ' s s'.heap x e)(q:E x H'):aB c φ s E e s'
def aw.fresh(e:aw X φ s φ₁ s₁)(S:aq c φ₁ H s₁){b:Addr}(hb:s₁.heap.get? b=none):s.heap.get? b=none:=by
 refine xC (s.heap.get? b) (fun q=>?_) fun o q=>?_
 ·rfl
 ·by_cases hφ:b∈φ
  ·obtain⟨o',h1,_⟩:=S.isList (e.pre.subset hφ);exact cR (hb.symm.trans h1)
  ·by_cases hX:b∈X
   ·obtain⟨o',h1⟩:=e.alive b o q hX;exact cR (hb.symm.trans h1)
   ·obtain⟨o',h1⟩:=e.live b o q hφ hX;exact cR (hb.symm.trans h1)
def cx.lift{x:V}(e:aw X φ s φ₁ s₁)(S:aq c φ₁ H s₁)(q:cx c φ₂ s₁ h x r):cx c φ₂ s h x r:=by
 obtain⟨h1,h2,a,o,vs,h3,h4,h5,h6,h7⟩:=q;exact⟨h1,h2,a,o,vs,h3,e.fresh S h4,h5,h6,h7.imp id fun⟨T,oT,ts,g1,g2,g3,g4,g5,g6,g7,g8⟩=>⟨T,oT,ts,g1,e.fresh S g2,g3,g4,g5,g6,g7,g8⟩⟩
def aG.lift(e:aw [] φ s φ₁ s₁)(h:aG c φ₁ s₁ Q r s₂):aG c φ s Q r s₂:=
 let⟨φ',H',v,e',S,R,hq⟩:=h;⟨φ',H',v,e.trans e',S,R,hq⟩
def aB.lift{E:XPost}(e:aw [] φ s φ₁ s₁)(S₁:aq c φ₁ H s₁)(h:aB c φ₁ s₁ E r s₂):aB c φ s E r s₂:=
 let⟨φ',H',v,e',S,R,hq⟩:=h;⟨φ',H',v,e.trans e',S,R.lift e S₁,hq⟩
def aG.mono{Q':V->Hp->Prop}(hq:∀v H,Q v H->Q' v H)(h:aG c φ s Q r s₂):aG c φ s Q' r s₂:=
 let⟨φ',H',v,e',S,R,h⟩:=h;⟨φ',H',v,e',S,R,hq _ _ h⟩
def aB.mono{Q Q':XPost}(hq:∀v H,Q v H->Q' v H)(h:aB c φ s Q r s₂):aB c φ s Q' r s₂:=
 let⟨φ',H',v,e',S,R,h⟩:=h;⟨φ',H',v,e',S,R,hq _ _ h⟩
def aB.no{P:Prop}(h:aB c φ s fo r s₂):P:=
 let⟨_,_,_,_,_,_,h⟩:=h;h.elim
def sk(c:Cx)(φ:List Addr)(h:Heap):dB->List Value->Prop
 |none,l=>l=[]
 |some (kk,z),l=>∃fv,l=[fv]/\bz c φ h h.objs.size kk z fv
def wC(c:Cx)(φ:List Addr)(s:Shared)(Q:V->Hp->Prop)(E:XPost)(r:Result)(s':Shared):Prop:=
 match r with
 |.ok (.ret v)=>aG c φ s Q v s'
 |.ok _=>False
 |.error e=>aB c φ s E e s'
def r6(c:Cx)(q:Bool)(d:Nat)(f:Str)(vs:List V)(k:dB)(Q:V->Hp->Prop)(E:XPost)(H:Hp):Prop:=∀GJ:Prop,(∀(a:Addr),∀(o:Obj),∀(fd:qbe),(c.g f=some (.ref a))->(c.h0.get? a=some o)->(o.data=.func fd)->(∀A φ s args extra,OkA c A q d φ s.heap->aq c φ H s->ah c φ s.heap vs args->sk c φ s.heap k extra->codeAny (model c.prog c.w) A (.call (.ref a) ⟨args++extra,[]⟩) (wC c φ s Q E) s)->GJ)->GJ
noncomputable def Calls(c:Cx):CallT:=fun q d f vs k Q E H=>r6 c q d f vs k Q E H
noncomputable def de(Q:V->Hp->Prop):SPost:=fun f J H=>match f with
 |.ret v=>Q v H
 |.next=>Q .none H
noncomputable def dZ(E:XPost):SX:=fun x J H=>E x H
def aT(c:Cx)(wz:Env)(wu:Res)(e:Expr)(x:Ex):Prop:=
 ∀A q d k loc φ H s Q E,bY c A q d φ s.heap->au c wz wu k loc φ s.heap->aq c φ H s->aF (Calls c) q d k x loc Q E H->
  wpAny (model c.prog c.w) A (eval e wz) (aG c φ s Q) (aB c φ s E) s
def fV(c:Cx)(A:Around)(φ:List Addr)(s:Shared)(m:Sem Value)(v:V)(H':Hp):Prop:=
 ∀E:Value->Shared->Prop,wpAny (model c.prog c.w) A m (aG c φ s fun x H=>x=v/\H=H') E s
def fV.use{m:Sem Value}(h:fV c A φ s m v H')(e:aw [] φ₀ s₀ φ s)(hq:Q v H') :
  wpAny (model c.prog c.w) A m (aG c φ₀ s₀ Q) E s:=
 wm (h E) (fun J J h=>aG.lift e (aG.mono (fun _ _ ⟨h1,h2⟩=>by rw[h1,h2];exact hq) h))
def aG.at(S:aq c φ H s)(R:ax c φ s.heap v r)(hq:Q v H):aG c φ s Q r { s with toks:=t }:=
 ⟨φ,H,v,aw.of_heap rfl rfl,S.tok t,R,hq⟩
def aG.at'(S:aq c φ H s)(R:ax c φ s.heap v r)(hq:Q v H):aG c φ s Q r s:=
 ⟨φ,H,v,aw.refl,S,R,hq⟩
def aG.eq(h:aG c φ s (fun x H=>x=v/\H=H') r s')(hq:Q v H'):aG c φ s Q r s':=
 aG.mono (fun J J h=>by rw[h.1,h.2];exact hq) h
def aG.same(S:aq c φ H s)(R:ax c φ s.heap v r):aG c φ s (fun x H'=>x=v/\H'=H) r { s with toks:=t }:=
 ⟨φ,H,v,aw.of_heap rfl rfl,S.tok t,R,rfl,rfl⟩
def aG.same'(S:aq c φ H s)(R:ax c φ s.heap v r):aG c φ s (fun x H'=>x=v/\H'=H) r s:=
 ⟨φ,H,v,aw.refl,S,R,rfl,rfl⟩
variable {Q:Value->Shared->Prop}{k:Str}{m:Sem Value}{r0 wu res' res0:Res}{x:Value}
section
open PySem PyProof.Rows
structure Cx.Ok(c:Cx):Prop where
 lim:c.h0.NoLimit
 gl:c.h0.Ns dH c.g
 bl:c.h0.Ns kj c.b
 seer:c.h0.NoSeer
 tree:c.prog.given.tree=none
noncomputable def Op.real:Op->Operator
 |.add=>.Add |.sub=>.Sub |.mul=>.Mult |.div=>.FloorDiv |.mod=>.Mod
 |.pow=>.Pow
def aq.lim(S:aq c φ H s)(O:c.Ok):s.heap.NoLimit:=O.lim.keeps S.stays
theorem bY.seer(O:c.Ok)(hA:bY c A q d φ s.heap)(S:aq c φ H s):SeerAt (model c.prog c.w) A s.heap:=by
 obtain⟨l,h1,h2⟩:=hA.fr;cases l with
 |nil=>exact absurd h1 hA.ne
 |cons wz l=>
  obtain⟨⟨_,g1,g2,g3,g4⟩,_⟩:=h2 wz aI;exact SeerAt.of (O.seer.keeps S.stays) O.tree h1 g1 g2 g3 g4
abbrev ey (vs:Array Value) (n:Nat):Obj:={ cls:=.type "list",data:=.seq vs n }
def GY(c:Cx)(φ:List Addr)(h:Heap)(i:Nat)(xs:List V)(r:Value):Prop:=∀GJ:Prop,(∀(a:Addr),∀(vs:Array Value),∀(n:Nat),(r=.ref a)->(φ[i]?=some a)->(h.get? a=some (ey vs n))->ah c φ h xs vs.toList->xs.length<=qag->(vs.size=xs.length)->GJ)->GJ
def aq.getP(S:aq c φ H s)(R:ax c φ s.heap (.lst i) r)(h:H[i]?=some xs):GY c φ s.heap i xs r:=by
 obtain⟨a,hr,ha⟩:=R;refine(S.lists i xs h) _ fun a' eN1 vs n h1 h2 h3 h4 h5 eN2=>?_;obtain⟨cls,dd,data,sl⟩:=eN1;obtain⟨h6,h7,h8⟩:=eN2;obtain rfl:=ai (ha.symm.trans h1);dsimp only at h3 h4 h7 h8;subst h3 h4 h7 h8;exact(fun J kJ=>kJ a vs n hr ha h2 h5 h6 (eY.symm.trans h5.length))
def nD(ho:h.get? a=some (ey vs n)):h.IsList a vs:=⟨_,ho,rfl,n,rfl⟩
def DU{l:List Addr}(h:l.Nodup)(hi:l[i]?=some a)(hj:l[j]?=some a):i=j:=by
 obtain⟨h1,e1⟩:=gW.mp hi;obtain⟨h2,e2⟩:=gW.mp hj;rcases Nat.lt_trichotomy i j with hlt |hlt |hlt
 ·exact absurd (e1.trans e2.symm) (List.pairwise_iff_getElem.mp h i j h1 h2 hlt)
 ·exact hlt
 ·exact absurd (e2.trans e1.symm) (List.pairwise_iff_getElem.mp h j i h2 h1 hlt)
theorem aq.put(S:aq c φ H s)(ha:φ[i]?=some a)(hs:hU a s.heap h')(hn:h'.get? a=some (ey vs n))(hr:ah c φ s.heap xs vs.toList)(hz:xs.length<=qag) :
  aw [] φ s φ { s with heap:=h' }/\aq c φ (H.set i xs) { s with heap:=h' }:=by
 have ham:a∈φ:=bG ha;have e:aw [] φ s φ { s with heap:=h' }:=aw.of_sameBut (s':={ s with heap:=h' }) hs ham (by simp) rfl;refine⟨e,⟨fun b o h=>?_,S.fresh,S.nodup,by simp[S.len],fun j ys h=>?_,S.gens,fun x hx=>(S.tab x hx).mono (fun b ps hb=>(hs.2 b fun q=>by obtain⟨o,h1,h2⟩:=S.isList ham;rw[q,h1] at hb;(injection hb with Ja;subst Ja);injection h2).trans hb) fun b o hb hc=>(hs.2 b fun q=>by obtain⟨o,h1,h2⟩:=S.isList ham;rw[q,h1] at hb;(injection hb with Ja;subst Ja);rw[hc] at h2;exact absurd h2 (by decide)).trans hb⟩⟩
 ·exact(hs.2 b fun q=>by rw[q,S.fresh a ham] at h;injection h).trans (S.stays b o h)
 ·by_cases hji:j=i
  ·subst hji;have hlt:j<H.length:=by rw[<- S.len];exact(gW.mp ha).1
   rw[nu hlt] at h;(injection h with Ja;subst Ja);exact(fun J kJ=>kJ a _ vs n ha hn rfl rfl (ah.mono e.toKp aA.nil hr) ⟨hz,rfl,rfl⟩)
  ·rw[nT (c5 hji)] at h;refine(S.lists j ys h) _ fun b o us k h1 h2 h3 h4 h5 h6=>?_;refine(fun J kJ=>kJ b o us k h1 ((hs.2 b fun q=>hji (DU S.nodup (q▸h1) ha)).trans h2) h3 h4 (ah.mono e.toKp aA.nil h5) h6)
theorem Gw(S:aq c φ H s){vs:List Value}(hr:ah c φ s.heap xs vs)(hz:xs.length<=qag) :
  aG c φ s (fun x H'=>x=.lst H.length/\H'=H++[xs]) (.ref s.heap.objs.size) { s with heap:=s.heap.push { cls:=.type "list",data:=.seq vs.toArray } }:=by
 obtain⟨e,S'⟩:=S.newList hr hz rfl;refine⟨_,_,.lst H.length,e,S',?_,rfl,rfl⟩;exact ew.mk _ rfl (by rw[iH (eR S.len)];simp[S.len])
theorem Az(S:aq c φ H s)(hr:ah c φ s.heap xs vs.toList)(hz:xs.length<=qag) :
  aG c φ s (fun x H'=>x=.lst H.length/\H'=H++[xs]) (.ref s.heap.objs.size) { s with heap:=s.heap.push { cls:=.type "list",data:=.seq vs } }:=by
 have:=Gw S hr hz;simpa using this
def yX(S:aq c φ H s)(hr:ah c φ s.heap xs vs.toList)(hz:xs.length<=qag) :
  aG c φ s (fun x H'=>x=.tup xs/\H'=H) (.ref s.heap.objs.size) { s with heap:=s.heap.push { cls:=.type "tuple",data:=.seq vs n } }:=by
 refine⟨φ,H,.tup xs,aw.push,S.push _,?_,rfl,rfl⟩;exact cL.mk _ _ vs n rfl S.new (eG _ rfl) rfl rfl hz (ah.mono (aw.push (X:=[])).toKp aA.nil hr)
set_option tactic.hygienic true in
theorem DD{a:Int}(h:small a=true):Builtin.Int.intBits a<=64:=by
 simp only[small,decide_eq_true_eq] at h
 unfold Builtin.Int.intBits
 split
 ·exact eA _
 ·rename_i h0
  have h1:a≠0:=by simpa using h0
  have:a.natAbs.log2<63:=(Nat.log2_lt (by exact ay [_] [_] 0x7490a50006100c030800000084294a000c202006100804080000804049085294001840400c20100810000100804294001840300c2000000 (Y8 (Y2 V0 J0) J0) (Y8 (Y5 V0 J0) J0) (Y7 (Y6 (Y5 (Y4 V0 J0) V0) (Y3 J0 V0)) (Y6 (Y5 (Y4 V0 J0) (Y3 V0 J0)) (Y3 V0 J0))) h1 (Ar.na _))).mpr h
  exact aj [_] [] kaa (Y0 (Y0 V0 J1) (.l 64)) (Y1 V0 (.l 63)) this
theorem z6(l:List α)(n:Nat):(rep l n).length=n*l.length:=by
 induction n with
 |zero=>exact(Nat.zero_mul _).symm
 |succ n ih=>rw[Ek,bw,ih,Nat.succ_mul,Nat.add_comm]
theorem ah.rep(hr:ah c φ h l rs):∀n,ah c φ h (rep l n) (rep rs n)
 |0=>rfl
 |n+1=>hr.append (ah.rep hr n)
theorem GV(vs:Array Value)(n:Nat):∀acc:Array Value,(List.foldl (fun x1 x2=>x1++x2) acc (List.replicate n vs)).toList=acc.toList++rep vs.toList n:=by
 induction n with
 |zero=>exact fun acc=>(d5 _).symm
 |succ n ih=>intro acc;rw[List.replicate_succ,List.foldl_cons,ih,Ek];simp
theorem qQ(S:aq c φ H s) {E}(R1:ax c φ s.heap (.tup l1) x)(R2:ax c φ s.heap (.tup l2) y)(hz:l1.length+l2.length<=qag):wpAny (model c.prog c.w) A (binaryOp .Add x y) (aG c φ s fun v H'=>v=.tup (l1++l2)/\H'=H) E s:=by
 have hsl:qag=2^24:=rfl;obtain⟨a1,⟨cls,dd,data,sl⟩,vs,n,rfl,ha1,ho,hc,hd,hz1,hr⟩:=R1;obtain⟨a2,⟨cls2,dd2,data2,sl2⟩,ws,n2,rfl,ha2,ho2,hc2,hd2,hz2,hr2⟩:=R2;dsimp only at hc hd hc2 hd2;subst hc hd hc2 hd2;have z1:vs.size=l1.length:=eY.symm.trans hr.length;have z2:ws.size=l2.length:=eY.symm.trans hr2.length;by_cases hv:vs.isEmpty=true
 ·refine concat_meets ⟨_,ho,rfl⟩ ⟨_,ho2,rfl⟩ noFill_tuple_add seq_tuple_add PySem.F.slot_tuple_add PySem.F.entry_tuple_add (PySem.F.args_tuple_add_2 _ _) (tuple_addW0 a1 a2 vs ws n n2 dd dd2 sl sl2 hv) ⟨ho,ho2,?_⟩;obtain rfl:l1=[]:=gj.mp (z1▸by simpa using hv);exact aG.same' S (cL.mk a2 _ ws n2 rfl ha2 ho2 rfl rfl hz2 hr2)
 ·by_cases hw:ws.isEmpty=true
  ·refine concat_meets ⟨_,ho,rfl⟩ ⟨_,ho2,rfl⟩ noFill_tuple_add seq_tuple_add PySem.F.slot_tuple_add PySem.F.entry_tuple_add (PySem.F.args_tuple_add_2 _ _) (tuple_addW1 a1 a2 vs ws n n2 dd dd2 sl sl2 hv hw) ⟨ho,ho2,?_⟩;obtain rfl:l2=[]:=gj.mp (z2▸by simpa using hw);rw[d5];exact aG.same' S (cL.mk a1 _ vs n rfl ha1 ho rfl rfl hz1 hr)
  ·refine concat_meets ⟨_,ho,rfl⟩ ⟨_,ho2,rfl⟩ noFill_tuple_add seq_tuple_add PySem.F.slot_tuple_add PySem.F.entry_tuple_add (PySem.F.args_tuple_add_2 _ _) (tuple_addW2 a1 a2 vs ws n n2 dd dd2 sl sl2 hv hw (by exact bo [_,_,_,_,_] [] kai (Y0 (Y0 V0 V1) V2) (Y0 (Y0 V3 V4) V2) (Y2 V0 V3) (Y2 V1 V4) hz z1 z2)) ⟨ho,ho2,?_⟩;exact yX S (by rw[Array.toList_append];exact hr.append hr2) (by rw[bw];exact hz)
def qr(S:aq c φ H s) {E}(R1:ax c φ s.heap (.lst i) x)(R2:ax c φ s.heap (.lst j) y)(e1:H[i]?=some l1)(e2:H[j]?=some l2)(hz:l1.length+l2.length<=qag) :
  wpAny (model c.prog c.w) A (binaryOp .Add x y) (aG c φ s fun v H'=>v=.lst H.length/\H'=H++[l1++l2]) E s:=by
 have hsl:qag=2^24:=rfl;refine(S.getP R1 e1) _ fun a1 vs n wk J ho hr J z1=>?_;subst wk;refine(S.getP R2 e2) _ fun a2 ws n2 wk J ho2 hr2 J z2=>?_;subst wk;refine concat_meets ⟨_,ho,rfl⟩ ⟨_,ho2,rfl⟩ noFill_list_add seq_list_add PySem.F.slot_list_add PySem.F.entry_list_add (PySem.F.args_list_add_2 _ _) (list_addW a1 a2 vs ws n n2 none none #[] #[] (by exact bo [_,_,_,_,_] [] kai (Y0 (Y0 V0 V1) V2) (Y0 (Y0 V3 V4) V2) (Y2 V0 V3) (Y2 V1 V4) hz z1 z2)) ⟨ho,ho2,?_⟩;exact Az S (by rw[Array.toList_append];exact hr.append hr2) (by rw[bw];exact hz)
abbrev f9 (c:Cx) (A:Around) (φ:List Addr) (s:Shared) (m:Sem Value) (p:V×Hp):Prop:=fV c A φ s m p.1 p.2
theorem sO(S:aq c φ H s)(R1:ax c φ s.heap v x)(R2:ax c φ s.heap w y)(e:yn H v w=some p):f9 c A φ s (binaryOp .Add x y) p:=by
 intro E;cases v with
 |int a=>
  revert e;refine xM fun b hb wj=>?_;subst wj;obtain rfl:=qG hb;obtain⟨t1,rfl⟩:=R1;obtain⟨t2,rfl⟩:=R2;exact add_int (aG.same S rI)
 |tup a=>
  revert e;refine xB fun b hb f=>?_;obtain rfl:=vy hb;revert f;refine xS fun hz wj=>?_;subst wj;exact qQ S R1 R2 hz
 |lst a=>
  revert e;refine xB fun x1 e1 f=>?_;obtain⟨_,x2,rfl,e2,g⟩:=vE f;revert g;refine xS fun hz wj=>?_;subst wj;exact qr S R1 R2 e1 e2 hz
 |_=>injection e
set_option tactic.hygienic true in
theorem ox(S:aq c φ H s) {E}(R1:ax c φ s.heap (.lst i) x)(R2:ax c φ s.heap (.int nn) y)(e1:H[i]?=some l)(hz:0<=nn/\nn<=1000000/\nn.toNat*l.length<=qag) :
  wpAny (model c.prog c.w) A (binaryOp .Mult x y) (aG c φ s fun v H'=>v=.lst H.length/\H'=H++[rep l nn.toNat]) E s:=by
 obtain⟨t2,rfl⟩:=R2
 refine(S.getP R1 e1) _ fun a1 vs n wk J ho hr J z1=>?_;subst wk
 have hsz':vs.size*nn.toNat<=2^24:=by rw[z1,Nat.mul_comm];exact hz.2.2
 refine wpAny_binaryOp_repeat_ref (T:="list") (U:="int") (by decide) ⟨_,ho,rfl⟩ (fun s'=>typeIs_int s' nn t2) noFill_list_mul F.fills_int_mul F.slot_int_rmul repeat_list F.slot_int_index.lookup
  (call_meets F.slot_int_rmul (typeIs_int s nn t2) F.entry_int_rmul (F.args_int_rmul_2 _ _) (lm_int_rmul_list_any nn t2 a1 vs n none #[])
   ⟨ho,rfl,⟨_,ho,rfl⟩,call_meets F.slot_list_mul ⟨_,ho,rfl⟩ F.entry_list_mul (F.args_list_mul_2 _ _)
    (lm_list_mul_any a1 vs n none #[] nn t2 (by simp[Builtin.List.listFitsIndex];lia) (by lia) (by simp[Builtin.List.listTooLong,qag];lia))
    ⟨ho,?_⟩⟩)
 refine Az S ?_ (by rw[z6];exact hz.2.2)
 rw[GV]
 split
 ·rename_i hem
  obtain rfl:l=[]:=gj.mp (z1▸by simpa using hem)
  have:∀k,rep ([]:List V) k=[]:=fun k=>gj.mp (by rw[z6];simp)
  rw[this];rfl
 ·simpa using hr.rep nn.toNat
set_option maxRecDepth 100000
theorem Ct:∀(k:Nat)(xs acc:Array α),((List.replicate k xs).foldl (·++·) acc).toList=acc.toList++rep xs.toList k
 |0,xs,acc=>(d5 _).symm
 |k+1,xs,acc=>by
  rw[List.replicate_succ,List.foldl_cons,Ct k xs (acc++xs),Array.toList_append,fQ];rfl
def Io:fillsNumberSlot (.type "tuple") "mul"=pure false:=
 PySem.fillsNumberSlot_seq (id:="tuple.__mul__") (r:=some (.builtin "tuple.__rmul__")) F.slot_tuple_mul.lookup (by decide +kernel) F.slot_tuple_rmul.lookup (by decide +kernel)
def HM:seqRepeat? (.type "tuple")=pure (some (.builtin "tuple.__mul__")):=by
 unfold seqRepeat?;rw[PySem.seqSlot_of (T:="tuple") (name:="__mul__") (id:="tuple.__mul__") F.slot_tuple_mul.lookup (by decide +kernel),PySem.seqSlot_of (T:="tuple") (name:="__rmul__") (id:="tuple.__rmul__") F.slot_tuple_rmul.lookup (by decide +kernel)];rfl
def GE (a:Int) (t:Tok) (l:Addr) (items:Array Value) (n:Nat) (d:Option Addr) (sl:Array (Option Value)) :
  Meets (Builtin.«int.__rmul__» ⟨[.int a t,.ref l],[]⟩) (fun J R s=>s.heap.get? l=some { cls:=.type "tuple",dict:=d,data:=.seq items n,slots:=sl }/\R (.ok (.ret Value.notImplemented)) s):=
 .of_wp fun prog w A R s h=>by obtain⟨hp,g,d,tk,os⟩:=s;obtain⟨hl,h⟩:=h;wp_walk;exact⟨_,rfl,h⟩
theorem GB(l:Addr)(items:Array Value)(n:Nat)(d:Option Addr)(sl:Array (Option Value))(x:Int)(u:Tok)(h0:2<=x/\x<=1000000)(hne:items.isEmpty=false)(hz:items.size*x.toNat<=2^24) :
  Meets (Builtin.«tuple.__mul__» ⟨[.ref l,.int x u],[]⟩) (fun J R s=>s.heap.get? l=some { cls:=.type "tuple",dict:=d,data:=.seq items n,slots:=sl } /\
   R (.ok (.ret (bX s.heap.objs.size))) { s with heap:=s.heap.push { cls:=.type "tuple",data:=.seq ((List.replicate x.toNat items).foldl (·++·) #[]) } }):=
 .of_wp fun prog w A R s h=>by
  obtain⟨hp,g,d,tk,os⟩:=s
  obtain⟨hl,h⟩:=h
  have hxs:((items.size:Int)*x)<=2^24:=by
   have:((items.size*x.toNat:Nat):Int)<=((2^24:Nat):Int):=c7.mpr hz
   rw[Int.natCast_mul,Int.toNat_of_nonneg (by exact aj [] [_] kaa (Y3 J0 V0) (Y3 J2 V0) h0.1)] at this
   exact this
  have c0:(decide (x < -2^63)||decide (x>=2^63))=false:=by rw[decide_eq_false (by exact ay [] [_,_] 0x10a528003080402040300c2000000 (Y8 (Y4 V0 (Y3 V1 J0)) J0) (Y3 J2 V0) (Y5 V1 (.l 9223372036854775808)) h0.1 (Ar.p63)),decide_eq_false (by exact ay [] [_,_] 0x10a528003080402040300c2000000 (Y8 (Y3 V0 V1) J0) (Y3 V1 (.l 1000000)) (Y5 V0 (.l 9223372036854775808)) h0.2 (Ar.p63))];rfl
  have c1:(items.isEmpty||x==1)=false:=by rw[hne,Bool.false_or];exact beq_eq_false_iff_ne.mpr (by exact aj [] [_] kal (Y8 (Y5 V0 J1) J0) (Y3 J2 V0) h0.1)
  have c2:(decide (x<=0)||items.isEmpty)=false:=by rw[hne,decide_eq_false (by exact aj [] [_] kal (Y8 (Y3 V0 J0) J0) (Y3 J2 V0) h0.1)];rfl
  wp_walk
  refine wpAny_ite_false (by rw[c0];rfl) ?_
  wp_walk
  refine wpAny_ite_false (by rw[c1];rfl) ?_
  wp_walk
  refine wpAny_ite_false (by rw[c2];rfl) ?_
  wp_walk
  refine wpAny_ite_false (decide_eq_false (by lia)) ?_
  have c4:Builtin.Tuple.tupleTooMany ((items.size:Int)*x)=false:=by
   unfold Builtin.Tuple.tupleTooMany
   exact decide_eq_false (by have:qag=2^24:=rfl;lia)
  refine wpAny_ite_false (by rw[c4];rfl) ?_
  show wpAny _ _ (Builtin.Tuple.tupleExact ((List.replicate x.toNat items).foldl (·++·) #[]) >>=fun v=>ret v) _ _ _
  unfold Builtin.Tuple.tupleExact
  refine ak (oV ?_ (show((List.replicate x.toNat items).foldl (·++·) #[]).size<=qag by
   rw[<- eY,Ct,bw,z6,eY,Nat.mul_comm];exact aD (eR (Nat.zero_add _)) hz))
  exact aE ⟨_,rfl,h⟩
def KQ(l:Addr)(items:Array Value)(n:Nat)(d:Option Addr)(sl:Array (Option Value))(u:Tok) :
  Meets (Builtin.«tuple.__mul__» ⟨[.ref l,.int 1 u],[]⟩) (fun J R s=>s.heap.get? l=some { cls:=.type "tuple",dict:=d,data:=.seq items n,slots:=sl }/\R (.ok (.ret (bX l))) s):=
 .of_wp fun prog w A R s h=>by
  obtain⟨hp,g,d,tk,os⟩:=s
  obtain⟨hl,h⟩:=h
  wp_walk
  exact⟨_,rfl,h⟩
def Ht(l:Addr)(items:Array Value)(n:Nat)(d:Option Addr)(sl:Array (Option Value))(u:Tok)(hne:items.isEmpty=false) :
  Meets (Builtin.«tuple.__mul__» ⟨[.ref l,.int 0 u],[]⟩) (fun J R s=>s.heap.get? l=some { cls:=.type "tuple",dict:=d,data:=.seq items n,slots:=sl } /\
   R (.ok (.ret (bX s.heap.objs.size))) { s with heap:=s.heap.push { cls:=.type "tuple",data:=.seq #[] } }):=
 .of_wp fun prog w A R s h=>by
  obtain⟨hp,g,d,tk,os⟩:=s
  obtain⟨hl,h⟩:=h
  have c1:(items.isEmpty||(0:Int)==1)=false:=by rw[hne];rfl
  wp_walk
  exact⟨_,rfl,h⟩
theorem jx(S:aq c φ H s) {E}(R1:ax c φ s.heap (.tup l) x)(R2:ax c φ s.heap (.int nn) y)(hz:0<=nn/\nn<=1000000/\nn.toNat*l.length<=qag)(hne:l≠[]) :
  wpAny (model c.prog c.w) A (binaryOp .Mult x y) (aG c φ s fun v H'=>v=.tup (rep l nn.toNat)/\H'=H) E s:=by
 obtain⟨t2,rfl⟩:=R2
 obtain⟨a1,⟨cls,dd,data,sl⟩,vs,n,rfl,ha1,ho,hc,hd,hz1,hr⟩:=R1
 dsimp only at hc hd
 subst hc hd
 have z1:vs.size=l.length:=eY.symm.trans hr.length
 have hem:vs.isEmpty=false:=by
  refine xD vs.isEmpty (fun q=>?_) fun q=>?_
  ·exact absurd (gj.mp (z1▸(by simpa using q:vs.size=0))) hne
  ·rfl
 have hsz':vs.size*nn.toNat<=2^24:=by rw[z1,Nat.mul_comm];exact hz.2.2
 have go:∀{S':PySem.Spec},Meets (Builtin.«tuple.__mul__» ⟨[.ref a1,.int nn t2],[]⟩) S'->S' A (wants (aG c φ s fun v H'=>v=.tup (rep l nn.toNat)/\H'=H) E) s->
   wpAny (model c.prog c.w) A (binaryOp .Mult (.ref a1) (.int nn t2)) (aG c φ s fun v H'=>v=.tup (rep l nn.toNat)/\H'=H) E s:=fun m h=>
  wpAny_binaryOp_repeat_ref (T:="tuple") (U:="int") (by decide) ⟨_,ho,rfl⟩ (fun s'=>typeIs_int s' nn t2) Io F.fills_int_mul F.slot_int_rmul HM F.slot_int_index.lookup
   (call_meets F.slot_int_rmul (typeIs_int s nn t2) F.entry_int_rmul (F.args_int_rmul_2 _ _) (GE nn t2 a1 vs n dd sl)
    ⟨ho,rfl,⟨_,ho,rfl⟩,call_meets F.slot_tuple_mul ⟨_,ho,rfl⟩ F.entry_tuple_mul (F.args_tuple_mul_2 _ _) m h⟩)
 by_cases h2:2<=nn
 ·refine go (GB a1 vs n dd sl nn t2 ⟨h2,hz.2.1⟩ hem hsz') ⟨ho,?_⟩
  refine yX S ?_ (by rw[z6];exact hz.2.2)
  rw[Ct]
  exact hr.rep nn.toNat
 ·by_cases h1:nn=1
  ·subst h1
   refine go (KQ a1 vs n dd sl t2) ⟨ho,?_⟩
   rw[show rep l (1:Int).toNat=l from d5 l]
   exact aG.same' S (cL.mk a1 _ vs n rfl ha1 ho rfl rfl hz1 hr)
  ·obtain rfl:nn=0:=by exact bo [] [_] 0x328a5000610100308000294001840100c20000a5000610080308000 (Y5 V0 J0) (Y3 J0 V0) (Y8 (Y3 J2 V0) J0) (Y8 (Y5 V0 J1) J0) hz.1 h2 h1
   refine go (Ht a1 vs n dd sl t2 hem) ⟨ho,?_⟩
   exact yX (n:=0) S (xs:=[]) rfl (eA _)
theorem sR(S:aq c φ H s)(R1:ax c φ s.heap v x)(R2:ax c φ s.heap w y)(e:xv H v w=some p):f9 c A φ s (binaryOp .Mult x y) p:=by
 intro E;revert e;refine xB fun nn hb f=>?_;skip;obtain rfl:=qG hb;cases v with
 |int a=>
  revert f;refine xS fun hs wj=>?_;subst wj;obtain⟨t1,rfl⟩:=R1;obtain⟨t2,rfl⟩:=R2;exact PyProof.Rows.mul_int (aG.same S rI) ((nN.mp hs).elim (fun h=>IntMulOk.of_left (DD h)) fun h=>IntMulOk.of_right (DD h))
 |lst a=>
  revert f;refine xB fun x1 e1 g=>?_;revert g;refine xS fun hz wj=>?_;subst wj;exact ox S R1 R2 e1 hz
 |tup a=>
  revert f;refine xS fun hz wj=>?_;subst wj;exact jx S R1 R2 hz.1 hz.2
 |_=>injection f
theorem te(O:c.Ok)(hA:bY c A q d φ s.heap)(S:aq c φ H s)(R1:ax c φ s.heap v x)(R2:ax c φ s.heap w y) (e:bL H op v w=some p):f9 c A φ s (binaryOp op.real x y) p:=by
 cases op with
 |add=>exact sO S R1 R2 e
 |mul=>exact sR S R1 R2 e
 |sub=>
  obtain⟨a,b,rfl,rfl,f⟩:=pn e;obtain rfl:=ai f;obtain⟨t1,rfl⟩:=R1;obtain⟨t2,rfl⟩:=R2;exact fun E=>PyProof.Rows.sub_int (aG.same S rI)
 |div=>
  obtain⟨a,b,rfl,rfl,f⟩:=pn e;obtain⟨hb,rfl⟩:=xU f;obtain⟨t1,rfl⟩:=R1;obtain⟨t2,rfl⟩:=R2;exact fun E=>floordiv_int hb (aG.same S rI) (Or.inr (PySem.PylongRoom.of (S.lim O) (by have:=hA.dep;show _+100<1000;exact aj [_,_] [] kaa (Y1 (Y0 V0 (.l 100)) (.l 1000)) (Y0 (Y0 V0 V1) (.l 890)) this) (hA.seer O S)))
 |mod=>
  obtain⟨a,b,rfl,rfl,f⟩:=pn e;obtain⟨hb,rfl⟩:=xU f;obtain⟨t1,rfl⟩:=R1;obtain⟨t2,rfl⟩:=R2;exact fun E=>mod_int' hb (aG.same S rI)
 |pow=>
  obtain⟨a,b,rfl,rfl,f⟩:=pn e;revert f;refine xS fun h wj=>?_;subst wj;obtain⟨t1,rfl⟩:=R1;obtain⟨t2,rfl⟩:=R2;exact fun E=>pow_int_small h.1 (by exact aj [] [_] kaa (Y3 V0 (.l 1000000)) (Y3 V0 (.l 100)) h.2.1) (cN (of_decide_eq_true h.2.2) (by decide)) (aG.same S rI)
end
variable {a:Int}{l:List Str}{l1:Option V}{p:PyData}
section
open PySem PyProof.Rows
end
section
open PySem PyProof.Rows
noncomputable def Cm.real:Cm->CmpOp
 |.lt=>.Lt |.le=>.LtE |.gt=>.Gt |.ge=>.GtE |.eq=>.Eq |.ne=>.NotEq
 |.notIn=>.NotIn
def Cb(h:Heap)(r:Value)(p:PyData)(n:Nat):Prop:=∀GJ:Prop,(∀(as:List Addr),Reads h r p as->p.depth<=n->GJ)->GJ
def tT(h:Heap)(rs:List Value)(ps:List PyData)(n:Nat):Prop:=∀GJ:Prop,(∀(as:List Addr),ReadsAll h rs ps as->PyData.depthAll ps<=n->GJ)->GJ
theorem Bz(hf:∀v p r,f v=some p->ax c φ h v r->Cb h r p n) :
  ∀{xs:List V} {rs:List Value} {ps:List PyData},aH f xs=some ps->ah c φ h xs rs->tT h rs ps n
 |[],_,_,e,R=>by
  obtain rfl:=R.nil_inv;obtain rfl:=ai e;exact(fun J kJ=>kJ _ .nil (eA _))
 |x::xs,_,_,e,R=>by
  refine(iW e) _ fun y ys h1 h2 wk=>?_;subst wk;refine R.uncons _ fun r rs wk R1 R2=>?_;subst wk;refine(hf x y r h1 R1) _ fun as ra da=>?_;refine(Bz hf h2 R2) _ fun bs rb db=>?_;exact(fun J kJ=>kJ _ (.cons ra rb) (Nat.max_le.mpr ⟨da,db⟩))
theorem EU(n:Nat)(R:ax c φ h v r)(e:my v=some p):Cb h r p n:=by
 cases v with
 |none=>obtain rfl:=ai e;obtain rfl:=R;exact(fun J kJ=>kJ _ (by constructor) (eA _))
 |bool=>obtain rfl:=ai e;obtain rfl:=R;exact(fun J kJ=>kJ _ (by constructor) (eA _))
 |int=>obtain rfl:=ai e;obtain⟨t,rfl⟩:=R;exact(fun J kJ=>kJ _ (by constructor) (eA _))
 |str=>obtain rfl:=ai e;obtain⟨t,rfl⟩:=R;exact(fun J kJ=>kJ _ (by constructor) (eA _))
 |_=>injection e
theorem zH(S:aq c φ H s):∀(n:Nat)(v:V)(p:PyData)(r:Value),bM n H v=some p->ax c φ s.heap v r->Cb s.heap r p n
 |0,v,p,r,e,R=>EU 0 R e
 |n+1,v,p,r,e,R=>by
  cases v with
  |tup l=>
   revert e;refine xM fun ps e1 wj=>?_;subst wj;obtain⟨a,o,vs,m,rfl,_,ho,hc,hd,_,hl⟩:=R;refine(Bz (zH S n) e1 hl) _ fun as ra da=>?_;exact(fun J kJ=>kJ _ (.tuple ho hc hd ra) (Nat.succ_le_succ da))
  |lst i=>
   revert e;refine xM fun ps e1 wj=>?_;subst wj;revert e1;refine xB fun xs e2 e3=>?_;refine(S.getP R e2) _ fun a vs m wk J ho hl J J=>?_;subst wk;refine(Bz (zH S n) e3 hl) _ fun as ra da=>?_;exact(fun J kJ=>kJ _ (.list ho rfl rfl ra) (Nat.succ_le_succ da))
  |_=>exact EU _ R e
def JC(h:Heap)(x y:Value)(b:Bool):Prop:=∀GJ:Prop,(∀(p p':PyData),∀(as bs:List Addr),Reads h x p as->Reads h y p' bs->(p.canLay0=true)->(p'.canLay0=true)->p.depth<=9->p'.depth<=9->(PyData.eqv p p'=b)->GJ)->GJ
def ET(S:aq c φ H s)(R1:ax c φ s.heap v x)(R2:ax c φ s.heap w y)(e:gP H v w=some b):JC s.heap x y b:=by
 revert e;refine xB fun p e1 f=>?_;revert f;refine xB fun p' e2 g=>?_;revert g;refine xS fun h wj=>?_;subst wj;refine(zH S 9 v p x e1 R1) _ fun as ra da=>?_;refine(zH S 9 w p' y e2 R2) _ fun bs rb db=>?_;exact(fun J kJ=>kJ p p' as bs ra rb ((gd.mp h).1) ((gd.mp h).2) da db rfl)
theorem BJ:∀{xs:List V}{rs:List Value}{l:List Int},ah c φ h xs rs->il xs=some l->IntsAre rs l
 |[],_,_,R,e=>by
  obtain rfl:=R.nil_inv;obtain rfl:=ai e;exact .nil
 |x::xs,_,_,R,e=>by
  refine R.uncons _ fun r rs wk R1 R2=>?_;subst wk;revert e;refine xB fun i h1 f=>?_;revert f;refine xM fun l' h2 wj=>?_;subst wj;obtain rfl:=qG h1;obtain⟨t,rfl⟩:=R1;exact .cons _ _ (BJ R2 h2)
theorem D9:∀{xs:List V}{rs:List Value}{l:List Str},ah c φ h xs rs->yG xs=some l->StrsAre rs l
 |[],_,_,R,e=>by
  obtain rfl:=R.nil_inv;obtain rfl:=ai e;exact .nil
 |x::xs,_,_,R,e=>by
  refine R.uncons _ fun r rs wk R1 R2=>?_;subst wk;revert e;refine xB fun i h1 f=>?_;revert f;refine xM fun l' h2 wj=>?_;subst wj;obtain rfl:=zv h1;obtain⟨t,rfl⟩:=R1;exact .cons _ _ (D9 R2 h2)
theorem zm:∀{xs:List V}{rs:List Value}{l:List Bool},ah c φ h xs rs->gw xs=some l->rs=l.map Value.bool
 |[],_,_,R,e=>by
  obtain rfl:=R.nil_inv;obtain rfl:=ai e;rfl
 |x::xs,_,_,R,e=>by
  refine R.uncons _ fun r rs wk R1 R2=>?_;subst wk;revert e;refine xB fun i h1 f=>?_;revert f;refine xM fun l' h2 wj=>?_;subst wj;obtain rfl:=pz h1;obtain rfl:=R1;rw[zm R2 h2];rfl
noncomputable def BN(k:Str):Value->Bool
 |.str i _=>i==k
 |_=>false
theorem qH(h:StrsAre rs l):rs.any (BN k)=decide (k∈l):=by
 induction h with
 |nil=>rfl
 |cons n t h ih=>
  rw[List.any_cons,ih];rw[Bool.eq_iff_iff,show BN k (.str n t)=(n==k) from rfl];simp only[Bool.or_eq_true,beq_iff_eq,decide_eq_true_eq,bj];exact⟨fun h=>h.imp Eq.symm id,fun h=>h.imp Eq.symm id⟩
theorem lK(h:StrsAre rs l):∀r∈rs,∃i t,r=.str i t:=by
 induction h with
 |nil=>intro r hr;cases hr
 |cons n t h ih=>
  intro r hr;rcases bj.mp hr with rfl |hr
  ·exact⟨n,t,rfl⟩
  ·exact ih r hr
def yP(c:Cx)(A:Around)(s:Shared)(o:Cm)(x y:Value)(b:Bool):Prop:=∀{Q:Value->Shared->Prop}{E:Value->Shared->Prop},Q (.bool b) s->wpAny (model c.prog c.w) A (compareOp o.real x y) Q E s
def kW(R1:ax c φ s.heap v x)(R2:ax c φ s.heap w y)(e:yj v w=some b):yP c A s .notIn x y b:=by
 intro Q E hq;revert e;refine xB fun k h1 f=>?_;revert f;refine xB fun l0 h2 g=>?_;obtain rfl:=zv h1;obtain rfl:=vy h2;revert g;refine xM fun l e' wj=>?_;subst wj;obtain⟨t1,rfl⟩:=R1;obtain⟨a,o,vs,n,rfl,_,ho,hc,hd,_,hr⟩:=R2;have hi:=D9 hr e';refine SeqAt.notIn_tupleAt (BN k) ⟨o,ho,hc,n,hd⟩ (fun r hr'=>?_) ?_
 ·obtain⟨i,t,rfl⟩:=lK hi r (Array.mem_toList_iff.mpr hr');exact SeqAt.EqAt.str_str _ _ _ _
 ·rw[<- Array.any_toList,qH hi];exact hq
theorem mK(hu:A.units+100<cLine)(S:aq c φ H s){o:Cm}(R1:ax c φ s.heap v x)(R2:ax c φ s.heap w y) (e:dh H o v w=some b):yP c A s o x y b:=by
 cases o with
 |lt=>
  obtain⟨a,b,rfl,rfl,f⟩:=pn e;obtain rfl:=ai f;obtain⟨t1,rfl⟩:=R1;obtain⟨t2,rfl⟩:=R2;exact PyProof.Rows.lt_int
 |le=>
  obtain⟨a,b,rfl,rfl,f⟩:=pn e;obtain rfl:=ai f;obtain⟨t1,rfl⟩:=R1;obtain⟨t2,rfl⟩:=R2;exact PyProof.Rows.le_int
 |gt=>
  obtain⟨a,b,rfl,rfl,f⟩:=pn e;obtain rfl:=ai f;obtain⟨t1,rfl⟩:=R1;obtain⟨t2,rfl⟩:=R2;exact PyProof.Rows.gt_int
 |ge=>
  obtain⟨a,b,rfl,rfl,f⟩:=pn e;obtain rfl:=ai f;obtain⟨t1,rfl⟩:=R1;obtain⟨t2,rfl⟩:=R2;exact PyProof.Rows.ge_int
 |eq=>
  refine(ET S R1 R2 e) _ fun p p' as bs ra rb l l' da db wk=>?_;subst wk;exact SeqAt.compareEq_reads ra rb l l' (by exact ay [_,_,_,_] [] 0x194a528003080601840400c20280610000810421 (Y1 (Y0 V0 (Y5 V1 V2)) V3) (Y1 (Y0 V0 (.l 100)) V3) (Y0 V1 (.l 9)) hu da)
 |ne=>
  revert e;refine xM fun b' e' wj=>?_;subst wj;refine(ET S R1 R2 e') _ fun p p' as bs ra rb l l' da db wk=>?_;subst wk;exact SeqAt.compareNe_reads ra rb l l' (by exact ay [_,_,_,_] [] 0x194a528003080601840400c20280610000810421 (Y1 (Y0 V0 (Y5 V1 V2)) V3) (Y1 (Y0 V0 (.l 100)) V3) (Y0 V1 (.l 9)) hu da)
 |notIn=>exact kW R1 R2 e
end
variable {b k:Int}{f:Nat->V}{l:List Int}{p:Int×Int}
section
open PySem PyProof.Rows
def tO(slice:Expr)(o i:Value):Prop:=∀GJ:Prop,(∀(ops:List Value),(subscripted slice false o i=operate ops (getItem o i))->GJ)->GJ
theorem zQ(slice:Expr)(o i:Value):tO slice o i:=by
 cases slice with
 |Slice l u st p=>cases st<;>exact(fun J kJ=>kJ _ rfl)
 |_=>exact(fun J kJ=>kJ _ rfl)
theorem uC.get:∀{rs:List Value},uC l rs->∀{i:Nat}{v:Int},l[i]?=some v->∃t,rs[i]?=some (.int v t):=by
 induction l with
 |nil=>exact fun J J J e=>nomatch e
 |cons x l ih=>
  intro rs h i v e;cases rs with
  |nil=>exact h.elim
  |cons r rs=>
   cases i with
   |zero=>obtain rfl:=ai e;exact h.1.elim fun t e=>⟨t,congrArg some e⟩
   |succ i=>exact ih h.2 e
theorem uC.length:∀{rs:List Value},uC l rs->rs.length=l.length:=by
 induction l with
 |nil=>
  intro rs h;cases rs with
  |nil=>rfl
  |cons _ _=>exact h.elim
 |cons x l ih=>
  intro rs h;cases rs with
  |nil=>exact h.elim
  |cons r rs=>exact congrArg (· + 1) (ih h.2)
def IQ(i:Int)(n j:Nat):Prop:=∀GJ:Prop,(j<n->((0<=i/\i.toNat=j)\/(i<0/\-(n:Int)<=i/\(i+n).toNat=j))->(seqIndex? i n=some j)->GJ)->GJ
theorem Eg{i:Int}(h:ix i n=some j):IQ i n j:=by
 unfold ix at h;by_cases h0:0<=i
 ·rw[if_pos h0] at h;revert h;refine xS fun h1 wj=>?_;subst wj;refine(fun J kJ=>kJ (by exact bo [_,_] [_] 0x124294a50006100c03080801840500c2008000294a000c200806100c0308000 (Y1 V0 V1) (Y3 J0 V0) (Y4 V0 (Y4 V1 J0)) (Y7 (Y5 (Y4 V0 J0) V0) (Y6 (Y3 V0 J0) (Y2 V0 J0))) h0 h1 (Ar.tn _)) (.inl ⟨h0,rfl⟩) ?_);unfold seqIndex?;simp only[Int.not_lt.mpr h0,if_false];rw[if_pos (by simp;exact ay [_] [_] kan (Y6 (Y3 J0 V0) (Y4 V0 (Y4 V0 J0))) (Y3 J0 V0) (Y4 V0 (Y4 V0 J0)) h0 h1)]
 ·rw[if_neg h0] at h;revert h;refine xS fun h1 wj=>?_;subst wj;refine(fun J kJ=>kJ (by exact bo [_,_] [_] 0x124294a50006100c03080801840500c2008000294a000c20080610080308000 (Y1 V0 V1) (Y8 (Y3 J0 V0) J0) (Y3 (Y3 (Y4 V1 J0) J0) V0) (Y7 (Y5 (Y4 V0 J0) (Y0 V0 (Y4 V1 J0))) (Y6 (Y3 (Y0 V0 (Y4 V1 J0)) J0) (Y2 V0 J0))) h0 h1 (Ar.tn _)) (.inr ⟨Int.not_le.mp h0,h1,rfl⟩) ?_);unfold seqIndex?;simp only[Int.not_le.mp h0,if_true];rw[if_pos (by simp;exact ay [_] [_] kao (Y6 (Y3 J0 (Y0 V0 (Y4 V0 J0))) (Y4 (Y0 V0 (Y4 V0 J0)) (Y4 V0 J0))) (Y8 (Y3 J0 V0) J0) (Y3 (Y3 (Y4 V0 J0) J0) V0) h0 h1)]
def DK{l:Addr}{t:Tok}(hl:s.heap.IsList l items)(hj:ix k items.size=some j) (hz:items.size<=qag) (hx:items[j]?=some x) (h:Q x s):wpAny (model c.prog c.w) A (subscriptTail value slice (.ref l) (.int k t)) Q E s:=by
 have hsl:qag=2^24:=rfl;refine(Eg hj) _ fun h1 h2 J=>?_;refine(zQ slice (.ref l) (.int k t)) _ fun ops hops=>?_;refine tail_any hl.typeIs slot_list_getitem.lookup ?_ hops;rcases h2 with⟨h3,rfl⟩|⟨h3,h4,rfl⟩
 ·exact wpAny_getItem_list hl h3 (by exact An [_,_,_] [_,_] 0x164294a000c201808101c0308000000a5294a50006100403080401840300c20200810140408000 (Y4 V0 V1) (Y0 V0 V1) (Y2 V1 (.l 16777216)) (Y1 V2 V0) (Y5 V1 (.l 9223372036854775808)) (Y7 (Y5 (Y4 V2 J0) V0) (Y6 (Y3 V0 J0) (Y2 V2 J0))) hz hsl h1 (Ar.p63) (Ar.tn _)) hx h
 ·exact wpAny_getItem_list_neg hl h3 h4 (by exact gy [_,_] [_,_] kam (Y3 (Y3 V0 J0) V1) (Y0 V0 V1) (Y2 V1 (.l 16777216)) (Y3 (Y3 (Y4 V0 J0) J0) V1) (Y5 V0 (.l 9223372036854775808)) hz hsl h4 (Ar.p63)) hx h
def rM(h:vs.toList[j]?=some r):vs[j]?=some r:=by rw[<- Array.getElem?_toList];exact h
theorem vb(S:aq c φ H s){u:V}(R1:ax c φ s.heap v x)(R2:ax c φ s.heap w y) (e:cA H v w=some u):fV c A φ s (subscriptTail value slice x y) u H:=by
 have hsl:qag=2^24:=rfl;intro E;revert e;refine xB fun i hi f=>?_;skip;obtain rfl:=qG hi;obtain⟨t2,rfl⟩:=R2;cases v with
 |lst a=>
  revert f;refine xB fun xs e1 g=>?_;revert g;refine xB fun j e3 e4=>?_;refine(S.getP R1 e1) _ fun a vs n wk J ho hr hz z=>?_;subst wk;refine(hr.get e4) _ fun r hr1 hr2=>?_;exact DK (nD ho) (by rw[z];exact e3) (by rw[z];exact hz) (rM hr1) (aG.same' S hr2)
 |tup xs=>
  revert f;refine xB fun j e3 e4=>?_;obtain⟨a,o,vs,n,rfl,_,ho,hc,hd,hz,hr⟩:=R1;have z:vs.size=xs.length:=eY.symm.trans hr.length;refine(hr.get e4) _ fun r hr1 hr2=>?_;refine(Eg e3) _ fun h1 h2 h3=>?_;refine(zQ slice (.ref a) (.int i t2)) _ fun ops hops=>?_;have hT:IsTup s.heap a vs:=⟨o,ho,hc,n,hd⟩;exact tail_any hT.typeIs slot_tuple_getitem.lookup (getItem_tuple hT (by exact gy [_,_,_,_,_] [_,_] 0x124214a5294001840500c203006101c04081201840000400010a528003080602040700c2000000 (Y3 (Y3 V0 J0) V1) (Y2 V0 (.l 16777216)) (Y0 V1 V0) (Y7 (Y6 (Y3 J0 V1) (Y2 V2 V3)) (Y6 (Y4 V1 J0) (Y6 (Y3 (Y3 (Y4 V1 J0) J0) V1) (Y2 V4 V3)))) (Y5 V0 (.l 9223372036854775808)) hsl hz h2 (Ar.p63)) (by exact Cy [_,_,_,_,_] [_,_] 0x28852940018403010204006100000034852940018404010204806100000010a5294a528003080801840500c203006101c04081202040200c2008020 (Y4 V0 V1) (Y2 V0 (.l 16777216)) (Y0 V1 V0) (Y1 V2 V1) (Y7 (Y6 (Y3 J0 V0) (Y2 V3 V2)) (Y6 (Y4 V0 J0) (Y6 (Y3 (Y3 (Y4 V1 J0) J0) V0) (Y2 V4 V2)))) (Y5 V1 (.l 9223372036854775808)) (Y7 (Y5 (Y4 V3 J0) V0) (Y6 (Y3 V0 J0) (Y2 V3 J0))) hsl hz h1 h2 (Ar.p63) (Ar.tn _)) (by rw[z];exact h3) (rM hr1) (aG.same' S hr2)) hops
 |scr l=>
  revert f;refine xB fun j e3 g=>?_;revert g;refine xM fun k e5 wj=>?_;subst wj;obtain⟨a,o,vs,n,rfl,_,_,ho,hc,hd,hz,hr⟩:=R1;have z:=eY.symm.trans hr.length;obtain⟨t,hr1⟩:=hr.get e5;exact DK ⟨o,ho,hc,n,hd⟩ (by rw[z];exact e3) (by rw[z];exact hz) (rM hr1) (aG.same' S rI)
 |_=>injection f
end
variable {d:Int}{items:List V}{k:dB}{l:List (Int×Int)}{vs:List Value}{x y:Int×Int}
section
open PySem PySem.W PySem.Calls PyProof.Rows
section
variable {w:World}
inductive bx(h:Heap)(v:Value)(a b:Int):Prop
 |mk (x:Addr)(o:Obj)(t u:Tok)(n:Nat)(hr:v=.ref x)(ho:h.get? x=some o)(hc:o.cls=.type "tuple")(hd:o.data=.seq #[.int a t,.int b u] n):bx h v a b
def Cu(ha:a=a')(hb:b=b'):(decide (a<a')||(decide (a=a')&&decide (b<b')))=false:=by rw[ha,hb,decide_eq_false (Int.lt_irrefl _),decide_eq_false (Int.lt_irrefl _),Bool.and_false];rfl
def Dt(ha:a=a'):(decide (a<a')||(decide (a=a')&&decide (b<b')))=decide (b<b'):=by rw[decide_eq_true ha,ha,decide_eq_false (Int.lt_irrefl _)];rfl
def AN(ha:a≠a'):(decide (a<a')||(decide (a=a')&&decide (b<b')))=decide (a<a'):=by rw[decide_eq_false ha];exact Bool.or_false _
def qA{v v':Value}{Q:Bool->Shared->Prop}(hp:bx s.heap v a b)(hp':bx s.heap v' a' b')(h:Q (decide (a<a')||(decide (a=a')&&decide (b<b'))) s):wpAny (model prog w) A (keyLt' (tuples' true) v v') Q E s:=by
 obtain⟨x,o,t,u,n,rfl,ho,hc,hd⟩:=hp;obtain⟨x',o',t',u',n',rfl,ho',hc',hd'⟩:=hp';refine kat_lt ho hd ho' hd' (kat_cons (wpAny_eqBool_int (kat_go (fun e=>kat_yes (kat_cons (wpAny_eqBool_int (kat_go (fun e2=>kat_yes (kat_nil ?_)) fun e2=>kat_no ?_)))) fun e=>kat_no ?_)))
 ·rw[Cu (beq_iff_eq.mp e) (beq_iff_eq.mp e2)] at h;exact h
 ·rw[Dt (beq_iff_eq.mp e)] at h;show wpAny (model prog w) A (oneLt' false _ _) Q _ s;rw[oneLt'_eq,if_neg Bool.false_ne_true];exact ak (wpAny_lt_int (uF h))
 ·rw[AN (beq_eq_false_iff_ne.mp e)] at h;exact oneLt_int h
def gZ(h:Heap):List Value->List (Int×Int)->Prop
 |[],[]=>True
 |v::vs,p::ps=>bx h v p.1 p.2/\gZ h vs ps
 |_,_=>False
def CG(h:Heap)(vs:List Value)(n:Nat):Prop:=∀GJ:Prop,(∀(fs:List Value),∀(t:KatTups h vs fs),(fs.length=n)->(∀v∈fs,∃i t,v=.int i t)->GJ)->GJ
theorem pd:∀{ps:List (Int×Int)},gZ h vs ps->CG h vs ps.length:=by
 induction vs with
 |nil=>
  intro ps t;cases ps with
  |nil=>exact(fun J kJ=>kJ [] trivial rfl (fun J h=>nomatch h))
  |cons _ _=>exact t.elim
 |cons v vs ih=>
  intro ps t;cases ps with
  |nil=>exact t.elim
  |cons p ps=>
   obtain⟨⟨x,o,tk,u,n,rfl,ho,hc,hd⟩,t⟩:=t;refine(ih t) _ fun fs k l a=>?_;exact(fun J kJ=>kJ _ (.cons ho hc hd rfl k) (congrArg (· + 1) l) (eh.mpr ⟨⟨_,_,rfl⟩,a⟩))
def oB {Q:SortKind->Shared->Prop} (t:gZ s.heap vs ps) (hne:0<ps.length) (h:Q (tuples' true) s):wpAny (model prog w) A (keyKind' vs.toArray) Q E s:=by
 refine(pd t) _ fun fs k l a=>?_;refine kat_kind (T:=.type "int") k (l.symm▸hne) (fun v hv=>?_) (by decide +kernel) h;obtain⟨i,t,rfl⟩:=a v hv;exact Looks.of_pure rfl
theorem pk(h:vs.length<2):(vs.toArray.zip vs.toArray).map (·.2)=((List.toArray (List.range vs.length)).toList.map fun i=>vs.getD i dS).toArray:=by
 refine Array.toList_inj.mp ?_;rw[Array.toList_map,Array.toList_zip];cases vs with
 |nil=>rfl
 |cons x r=>
  cases r with
  |nil=>rfl
  |cons y r=>exact absurd h (fN.mpr (Nat.le_add_left 2 _))
theorem JL{l:Addr}{κ:SortKind}(hl:s.heap.IsList l vs.toArray)(h64:vs.length<64) (inj:∀i j,i<vs.length->j<vs.length->key i=key j->i=j) (hκ:2<=vs.length->∀h',(∀b o,s.heap.get? b=some o->h'.get? b=some o)->(∀(Q:SortKind->Shared->Prop) E,Q κ { s with heap:=h' }->wpAny (model prog w) A.in1.in1 (keyKind' vs.toArray) Q E { s with heap:=h' })/\Fa prog w A.in1.in1 { s with heap:=h' } κ vs key vs.length) (h:∀h' c' (p:Array Nat),(∀b o,s.heap.get? b=some o->h'.get? b=some o)->h'.get? (s.heap.objs.size+1)=some (seqObj "list" (p.toList.map fun i=>vs.getD i dS).toArray c')->dY vs.length p->Up key p vs.length->Q (.ref (s.heap.objs.size+1)) { s with heap:=h' }) :
  wpAny (model prog w) A (call (.builtin "sorted") [.ref l]) Q E s:=by
 refine Calls.call_function_entry kind_sorted plain_sorted entry_sorted (args_sorted1 _) ?_;unfold Builtin.«sorted»;refine ak (m:=checkCount "sorted" 1 1 _) (aE ?_);refine ak (collect_list hl ?_ (by rw[sizeLine_eq];exact aj [_] [] kaa (Y0 V0 (.l 16777216)) (Y1 V0 (.l 64)) h64));refine ak (wpAny_newList ?_ (by rw[sizeLine_eq];exact aj [_] [] kaa (Y0 V0 (.l 16777216)) (Y1 V0 (.l 64)) h64));generalize hg1:(s.heap.push (seqObj "list" #[] 0)).update s.heap.objs.size (nS (·++vs.toArray))=g1;have hsz:g1.objs.size=s.heap.objs.size+1:=by rw[<- hg1,Heap.size_update,size_push']
 have k1:∀b o,s.heap.get? b=some o->g1.get? b=some o:=fun b o q=>by
  have hlt:=ic q;rw[<- hg1,yC _ _ _ _ (ck hlt),Heap.get?_push_ne _ _ _ (ck hlt)];exact q
 have hoL:(g1.push (seqObj "list" vs.toArray 0)).get? (s.heap.objs.size+1)=some (seqObj "list" vs.toArray 0):=by
  rw[<- hsz];exact eG _ rfl
 show wpAny _ _ _ _ _ { s with heap:=g1.push (seqObj "list" vs.toArray 0) };rw[hsz];refine ak (dz (u7 slot_list_sort ⟨_,hoL,rfl⟩ entry_list_sort ?body (args_list_sort _)));case body=>
 generalize ha:s.heap.objs.size+1=a at *;generalize hg2:g1.push (seqObj "list" vs.toArray 0)=g2 at *;have hz2:g2.objs.size=a+1:=by rw[<- hg2,size_push',hsz]
 have k2:∀b o,s.heap.get? b=some o->b≠a/\g2.get? b=some o:=fun b o q=>by
  refine⟨?_,?_⟩
  ·rw[<- ha];exact ck (Nat.lt_succ_of_lt (ic q))
  ·rw[<- hg2,cz _ (k1 b o q)]
 rw[list_sort_plain];refine ak (listItems_at hoL rfl ?_);refine ak (listUpdate_at hoL rfl ?_ (by rw[List.size_toArray,sizeLine_eq];exact aj [_] [] kaa (Y0 V0 (.l 16777216)) (Y1 V0 (.l 64)) h64) (eA _));obtain⟨e1,ho1⟩:∃e1,(g2.update a (nS fun J=>(#[]:Array Value))).get? a=some (seqObj "list" #[] e1):=⟨_,get?_update_seq hoL fun J=>#[]⟩;refine ak (seqEpoch_at ho1 rfl ?_);refine ak (wpAny_newTuple ?_ (by show vs.length<=_;rw[sizeLine_eq];exact aj [_] [] kaa (Y0 V0 (.l 16777216)) (Y1 V0 (.l 64)) h64));refine ak (wpAny_newList ?_ (eA _));refine dz ?_;generalize hg3:((g2.update a (nS fun J=>(#[]:Array Value))).push (seqObj "tuple" vs.toArray 0)).push (seqObj "list" #[] 0)=g3;have ho3:g3.get? a=some (seqObj "list" #[] e1):=by
  rw[<- hg3];exact cz _ (cz _ ho1)
 have k3:∀b o,s.heap.get? b=some o->b≠a/\g3.get? b=some o:=fun b o q=>by
  obtain⟨hne,q2⟩:=k2 b o q;refine⟨hne,?_⟩;rw[<- hg3];refine cz _ (cz _ ?_);rw[yC _ _ _ _ hne];exact q2
 show wpAny (model prog w) A.in1.in1 _ _ _ { s with heap:=g3 };dsimp only;have fin:∀(o2:Array Value) (p:Array Nat),o2=(p.toList.map fun i=>vs.getD i dS).toArray->dY vs.length p->Up key p vs.length->o2.size<=2^24/\Q (.ref a) { s with heap:=g3.update a (nS fun J=>o2) }:=by
  rintro _ p rfl hp hu;obtain⟨c2,hc2⟩:∃c2,(g3.update a (nS fun J=>(p.toList.map fun i=>vs.getD i dS).toArray)).get? a=some (seqObj "list" (p.toList.map fun i=>vs.getD i dS).toArray c2):=⟨_,get?_update_seq ho3 fun J=>(p.toList.map fun i=>vs.getD i dS).toArray⟩;refine⟨?_,h _ c2 p (fun b o q=>?_) hc2 hp hu⟩
  ·rw[List.size_toArray,ao,eY,hp.size];exact aj [_] [] kaa (Y0 V0 (.l 16777216)) (Y1 V0 (.l 64)) h64
  ·obtain⟨hne,q3⟩:=k3 b o q;rw[yC _ _ _ _ hne];exact q3
 have hr:dY vs.length (List.toArray (List.range vs.length)):=List.Perm.refl _;by_cases h22:vs.toArray.size<2
 ·rw[if_pos h22,if_pos h22];refine ak (aE ?_);rw[StateT.run_pure];refine ak (aE ?_);dsimp only;have hlt:vs.length<2:=by simpa using h22
  obtain⟨hz,hQ⟩:=fin _ _ (pk hlt) hr (fun i j h1 h2=>by exact bo [_,_,_] [_,_] 0x294a000c20080610080308060 (Y4 V0 V1) (Y1 V0 J2) (Y1 V1 V2) (Y1 V2 V0) hlt h1 h2);refine ak (seqEpoch_at ho3 rfl ?_);refine ak (listUpdate_at ho3 rfl ?_ (eA _) (aD hz (by rw[sizeLine_eq];decide)));simp only[bne_self_eq_false,gO,if_false];exact aE ⟨_,rfl,aE ⟨_,rfl,hQ⟩⟩
 ·rw[if_neg h22,if_neg h22];have hge:2<=vs.length:=by simpa using h22
  obtain⟨hk1,hk2⟩:=hκ hge g3 fun b o q=>(k3 b o q).2;refine ak (hk1 _ _ ?_);refine ak (a9 (pw hk2 inj hge h64) ?_ fun J J e=>e);rintro⟨⟨⟩,st'⟩ s' ⟨rfl,p,hp,hu,har,hf⟩;dsimp only;obtain⟨hz,hQ⟩:=fin ((arrOf st').map (·.2)) p har hp hu;refine ak (seqEpoch_at ho3 rfl ?_);refine ak (listUpdate_at ho3 rfl ?_ (eA _) (aD hz (by rw[sizeLine_eq];decide)));rw[hf];simp only[bne_self_eq_false,gO,if_false];exact aE ⟨_,rfl,aE ⟨_,rfl,hQ⟩⟩
end
def Bd(c:Cx)(φ:List Addr)(h:Heap)(v:V)(rs:List Value):Prop:=∀GJ:Prop,(∀(r:Value),(rs=[r])->ax c φ h v r->GJ)->GJ
def ah.one(R:ah c φ h [v] rs):Bd c φ h v rs:=by
 refine R.uncons _ fun r rs' wk h1 R2=>?_;subst wk;obtain rfl:=R2.nil_inv;exact(fun J kJ=>kJ r rfl h1)
def Bx(c:Cx)(φ:List Addr)(h:Heap)(v w:V)(rs:List Value):Prop:=∀GJ:Prop,(∀(r r':Value),(rs=[r,r'])->ax c φ h v r->ax c φ h w r'->GJ)->GJ
def ah.two(R:ah c φ h [v,w] rs):Bx c φ h v w rs:=by
 refine R.uncons _ fun r rs' wk h1 R2=>?_;subst wk;refine R2.one _ fun r' wk h2=>?_;subst wk;exact(fun J kJ=>kJ r r' rfl h1 h2)
theorem ah.of_get:∀{l:List V}{rs:List Value},rs.length=l.length->(∀(i:Nat) v r,l[i]?=some v->rs[i]?=some r->ax c φ h v r)->ah c φ h l rs:=by
 intro l;induction l with
 |nil=>intro rs h _;exact gj.mp h
 |cons x xs ih=>
  intro rs h hh;cases rs with
  |nil=>exact nomatch h
  |cons r rs=>exact⟨hh 0 x r rfl rfl,ih (Nat.succ.inj h) fun i v r h1 h2=>hh (i+1) v r h1 h2⟩
theorem Go{R:α->α->Prop}(anti:∀x y,R x y->R y x->x=y):∀{a b:List α},a.Perm b->a.Pairwise R->b.Pairwise R->a=b
 |[],b,h,_,_=>(List.nil_perm.mp h).symm
 |x::a,[],h,_,_=>absurd h.length_eq (by simp)
 |x::a,y::b,h,ha,hb=>by
  rw[List.pairwise_cons] at ha hb;have e:x=y:=by
   rcases bj.mp (h.mem_iff.mp aI) with e |hx
   ·exact e
   ·rcases bj.mp (h.mem_iff.mpr aI) with e |hy
    ·exact e.symm
    ·exact anti x y (ha.1 y hy) (hb.1 x hx)
  subst e;rw[Go anti h.cons_inv ha.2 hb.2]
theorem KZ(h:r4 v=some p):v=ju p:=by
 revert h;refine xB fun l h1 f=>?_;obtain rfl:=vy h1;cases LV.of l with
 |two x y=>
  obtain⟨a,b,rfl,rfl,g⟩:=pn f;obtain rfl:=ai g;rfl
 |_=>injection f
theorem D8:∀{xs:List V}{l:List (Int×Int)},vX xs=some l->xs=l.map ju
 |[],l,h=>by obtain rfl:=ai h;rfl
 |x::r,l,h=>by
  refine(iW h) _ fun p l' h1 h2 wk=>?_;subst wk;rw[D8 h2,KZ h1];rfl
def yL{c:Int}(hb : -2147483648<b/\b<2147483648)(hd : -2147483648<d/\d<2147483648):4294967296*a+b<4294967296*c+d↔a<c\/(a=c/\b<d):=⟨fun h=>by exact bo [] [_,_,_,_] 0x10e5294001840600c200006000000000800000000820314a528003080a01840600c203806000000000800000000800294001840000c2010000 (Y7 (Y4 V0 V1) (Y6 (Y5 V0 V1) (Y4 V2 V3))) (Y4 (Y3 (.l 2147483648) J0) V2) (Y4 V3 (.l 2147483648)) (Y4 (Y0 (Y1 (.l 4294967296) V0) V2) (Y0 (Y1 (.l 4294967296) V1) V3)) hb.1 hd.2 h,fun h=>by exact bo [] [_,_,_,_] 0x490a52800308060180000000020000000020006100400014a528003080201840200c201806000000000800000000800 (Y4 (Y0 (Y1 (.l 4294967296) V0) V1) (Y0 (Y1 (.l 4294967296) V2) V3)) (Y4 V1 (.l 2147483648)) (Y4 (Y3 (.l 2147483648) J0) V3) (Y7 (Y4 V0 V2) (Y6 (Y5 V0 V2) (Y4 V1 V3))) hb.2 hd.1 h⟩
def Bc{c:Int}(hb : -2147483648<b/\b<2147483648)(hd : -2147483648<d/\d<2147483648)(h:4294967296*a+b=4294967296*c+d):a=c/\b=d:=by
 have e:a=c:=by exact An [] [_,_,_,_] 0x18a5294001840200c20280610180300000000040000000040014a5280030806018404010203006000000000800000000800 (Y5 V0 V1) (Y4 (Y3 (.l 2147483648) J0) V2) (Y4 V2 (.l 2147483648)) (Y4 (Y3 (.l 2147483648) J0) V3) (Y4 V3 (.l 2147483648)) (Y5 (Y0 (Y1 (.l 4294967296) V0) V2) (Y0 (Y1 (.l 4294967296) V1) V3)) hb.1 hb.2 hd.1 hd.2 h
 exact⟨e,by exact ay [] [_,_,_,_] 0x18a52800308040200000000020000000021806100005294002040200c0000000010000000010c0308000 (Y5 V0 V1) (Y5 (Y0 (Y1 (.l 4294967296) V2) V0) (Y0 (Y1 (.l 4294967296) V3) V1)) (Y5 V2 V3) h e⟩
def iZ(h:b.natAbs<2147483648) : -2147483648<b/\b<2147483648:=by exact ay [_] [_] 0x1924294001840300c2008000214a50006101403080602040000009214a50006101403080602040000004294001840300c2008000 (Y6 (Y4 (Y3 (.l 2147483648) J0) V0) (Y4 V0 (.l 2147483648))) (Y1 V0 (.l 2147483648)) (Y7 (Y6 (Y5 (Y4 V0 J0) V0) (Y3 J0 V0)) (Y6 (Y5 (Y4 V0 J0) (Y3 V0 J0)) (Y3 V0 J0))) h (Ar.na _)
def G2{c e f:Int}(h1:a<c\/(a=c/\b<=d))(h2:c<e\/(c=e/\d<=f)):a<e\/(a=e/\b<=f):=by exact ay [] [_,_,_,_,_,_] kbe (Y7 (Y4 V0 V1) (Y6 (Y5 V0 V1) (Y3 V2 V3))) (Y7 (Y4 V0 V4) (Y6 (Y5 V0 V4) (Y3 V2 V5))) (Y7 (Y4 V4 V1) (Y6 (Y5 V4 V1) (Y3 V5 V3))) h1 h2
def FV{c:Int}(h1:a<c\/(a=c/\b<=d))(h2:c<a\/(c=a/\d<=b)):a=c/\b=d:=by
 have e:a=c:=by exact ay [] [_,_,_,_] 0x6410a50006100c0308000000a5000610040308000490a50006100c0308000000a5000610040308000 (Y5 V0 V1) (Y7 (Y4 V0 V1) (Y6 (Y5 V0 V1) (Y3 V2 V3))) (Y7 (Y4 V1 V0) (Y6 (Y5 V1 V0) (Y3 V3 V2))) h1 h2
 exact⟨e,by exact bo [] [_,_,_,_] 0x6410a50006100c0308020000a5000810140308000490a50006100c0308020000a5000610140308000 (Y5 V0 V1) (Y7 (Y4 V2 V3) (Y6 (Y5 V2 V3) (Y3 V0 V1))) (Y7 (Y4 V3 V2) (Y6 (Y5 V3 V2) (Y3 V1 V0))) (Y5 V2 V3) h1 h2 e⟩
def HI(a b c d:Int):(a<c\/(a=c/\b<=d))\/(c<a\/(c=a/\d<=b)):=by exact bp [] [_,_,_,_] kbf (Y7 (Y7 (Y4 V0 V1) (Y6 (Y5 V0 V1) (Y3 V2 V3))) (Y7 (Y4 V1 V0) (Y6 (Y5 V1 V0) (Y3 V3 V2))))
theorem qV:i7 x y=true↔x.1<y.1\/(x.1=y.1/\x.2<=y.2):=by simp[i7]
def kl(h1:x.1<y.1\/(x.1=y.1/\x.2<=y.2))(h2:y.1<x.1\/(y.1=x.1/\y.2<=x.2)):x=y:=Prod.ext (FV h1 h2).1 (FV h1 h2).2
def I4{z:Int×Int}(h1:x.1<y.1\/(x.1=y.1/\x.2<=y.2))(h2:y.1<z.1\/(y.1=z.1/\y.2<=z.2)):x.1<z.1\/(x.1=z.1/\x.2<=z.2):=G2 h1 h2
def Ke(x y:Int×Int):(i7 x y||i7 y x)=true:=nN.mpr ((HI x.1 x.2 y.1 y.2).imp qV.mpr qV.mpr)
noncomputable def pj(l:List (Int×Int))(i:Nat):Int:=4294967296*(l.getD i (0,0)).1+(l.getD i (0,0)).2
theorem ah.maps:∀{is:List Nat},(∀i∈is,ax c φ h (f i) (g i))->ah c φ h (is.map f) (is.map g)
 |[],_=>rfl
 |i::r,hh=>⟨hh i aI,ah.maps fun j hj=>hh j (a0 _ hj)⟩
def FO{v:Value}(R:ax c φ h (ju p) v):bx h v p.1 p.2:=by
 obtain⟨x,o,ws,n,hr,_,ho,hc,hd,_,hR⟩:=R;refine hR.two _ fun r r' e eN1 eN2=>?_;obtain⟨t,rfl⟩:=eN1;obtain⟨u,rfl⟩:=eN2;refine⟨x,o,t,u,n,hr,ho,hc,?_⟩;rw[hd];congr 1;exact Array.toList_inj.mp e
def bx.mono{v:Value}(hk:∀b o,h.get? b=some o->h'.get? b=some o)(p:bx h v a b):bx h' v a b:=
 let⟨x,o,t,u,n,h1,h2,h3,h4⟩:=p;⟨x,o,t,u,n,h1,hk _ _ h2,h3,h4⟩
theorem FP(hk:∀b o,h.get? b=some o->h'.get? b=some o):∀{l:List (Int×Int)}{vs:List Value},ah c φ h (l.map ju) vs->gZ h' vs l
 |[],vs,R=>by rw[R.nil_inv];trivial
 |p::l,vs,R=>by
  rw[fK] at R;refine R.uncons _ fun r rs wk h1 h2=>?_;subst wk;exact⟨(FO h1).mono hk,FP hk h2⟩
theorem JM{a:Addr}(R:ah c φ s.heap (l.map ju) vs)(hl:s.heap.IsList a vs.toArray)(hok:xc l=true) (h:∀h' c' out,(∀b o,s.heap.get? b=some o->h'.get? b=some o)->h'.get? (s.heap.objs.size+1)=some (seqObj "list" (List.toArray out) c')->ah c φ s.heap ((l.mergeSort i7).map ju) out->Q (.ref (s.heap.objs.size+1)) { s with heap:=h' }) :
  wpAny (model c.prog c.w) A (call (.builtin "sorted") [.ref a]) Q E s:=by
 have wq:vs.length=l.length:=by rw[R.length,ao]
 simp only[xc,Bool.and_eq_true,decide_eq_true_eq,dg] at hok;obtain⟨⟨h64,hnd⟩,hsm⟩:=hok;have gl:∀{i:Nat},i<l.length->l[i]?=some (l.getD i (0,0)):=fun{i} hi=>by simp[b7,hi]
 have gm:∀{i:Nat},i<l.length->l.getD i (0,0)∈l:=fun{i} hi=>bG (gl hi);have at':∀{i:Nat},i<l.length->ax c φ s.heap (ju (l.getD i (0,0))) (vs.getD i dS):=by
  intro i hi;refine(R.get (i:=i) (v:=ju (l.getD i (0,0))) (by rw[br,gl hi];rfl)) _ fun r h1 h2=>?_;have e:vs.getD i dS=r:=by rw[b7,h1];rfl
  rw[e];exact h2
 have ob:∀{i:Nat},i<l.length->bx s.heap (vs.getD i dS) (l.getD i (0,0)).1 (l.getD i (0,0)).2:=fun{i} hi=>FO (at' hi);have key:∀i j,i<l.length->j<l.length->pj l i=pj l j->i=j:=by
  intro i j hi hj e;have e0:=Bc (iZ (hsm _ (gm hi)).2) (iZ (hsm _ (gm hj)).2) e;have e3:l.getD i (0,0)=l.getD j (0,0):=Prod.ext e0.1 e0.2;have e4:l[i]=l[j]:=by simpa[b7,hi,hj] using e3
  exact(List.getElem_inj hnd).mp e4
 have lex:∀i j,i<l.length->j<l.length->(decide ((l.getD i (0,0)).1<(l.getD j (0,0)).1)||(decide ((l.getD i (0,0)).1=(l.getD j (0,0)).1)&&decide ((l.getD i (0,0)).2<(l.getD j (0,0)).2)))=uH (pj l) i j:=by
  intro i j hi hj;rw[Bool.eq_iff_iff,uH,decide_eq_true_eq];simp only[Bool.or_eq_true,Bool.and_eq_true,decide_eq_true_eq];exact(yL (iZ (hsm _ (gm hi)).2) (iZ (hsm _ (gm hj)).2)).symm
 refine JL (κ:=tuples' true) (key:=pj l) hl (by exact ay [_,_] [] kab (Y1 V0 (.l 64)) (Y2 V0 V1) (Y1 V1 (.l 64)) wq h64) (by rw[wq];exact key) (fun h2 h' hk=>⟨fun Q E hq=>oB (ps:=l) ?_ (by exact ay [_,_] [] kab (Y1 J0 V0) (Y2 V1 V0) (Y0 J2 V1) wq h2) hq,fun i j hi hj Q E hq=>?_⟩) fun h' c' p hk hg s1 s2=>?_
 ·exact FP hk R
 ·rw[wq] at hi hj;exact qA (bx.mono hk (ob hi)) (bx.mono hk (ob hj)) (by rw[lex i j hi hj];exact hq)
 ·rw[wq] at s1 s2;have hlt:∀i∈p.toList,i<l.length:=fun i hi=>by simpa using s1.mem_iff.mp hi
  have hsort:l.mergeSort i7=p.toList.map fun i=>l.getD i (0,0):=by
   refine Go (R:=fun a b=>i7 a b=true) ?_ ?_ ?_ ?_
   ·intro x y h1 h2;exact kl (qV.mp h1) (qV.mp h2)
   ·have e0:(List.range l.length).map (fun i=>l.getD i (0,0))=l:=by
     apply List.ext_getElem?;intro i;rw[br];by_cases hi:i<l.length
     ·rw[iM hi,gl hi];rfl
     ·rw[nO (by simpa using hi),nO (by simpa using hi)];rfl
    have:=(List.Perm.map (fun i=>l.getD i (0,0)) s1).symm;rw[e0] at this;exact(List.mergeSort_perm l i7).trans this
   ·refine List.pairwise_mergeSort ?_ ?_ l
    ·exact fun a b c h1 h2=>qV.mpr (I4 (qV.mp h1) (qV.mp h2))
    ·exact Ke
   ·rw[List.pairwise_map,List.pairwise_iff_getElem];intro i j hi hj hij;have hsz:=s1.size;have:=s2 i j hij (by simpa[hsz] using hj);have ei:bg p i=p.toList[i]:=by rw[ja,<-Array.getElem?_toList,bt hi];rfl
    have ej:bg p j=p.toList[j]:=by rw[ja,<-Array.getElem?_toList,bt hj];rfl
    rw[ei,ej] at this;exact qV.mpr (((yL (iZ (hsm _ (gm (hlt _ (List.getElem_mem hi)))).2) (iZ (hsm _ (gm (hlt _ (List.getElem_mem hj)))).2)).mp this).imp id fun h=>⟨h.1,Int.le_of_lt h.2⟩)
  refine h h' c' _ hk hg ?_;rw[hsort,d8];exact ah.maps fun i hi=>at' (hlt i hi)
end
variable {b':Bool}{d:Nat}{f:Value}{g:Comprehension}{l:Expr}{p:V×Hp}{ps:Array Value}{vs:List V}{x:V}{y:Str}
section
open PySem PyProof.Rows
def aG.kept(S:aq c φ H s)(hk:∀b o,s.heap.get? b=some o->h'.get? b=some o)(R:ax c φ s.heap v r):aG c φ s (fun x H'=>x=v/\H'=H) r { s with heap:=h',toks:=t }:=by
 have e:aw [] φ s φ { s with heap:=h',toks:=t }:=aw.of_keeps (s':={ s with heap:=h',toks:=t }) hk rfl;exact⟨φ,H,v,e,S.keeps (s':={ s with heap:=h',toks:=t }) hk rfl,ax.mono e.toKp aA.nil R,rfl,rfl⟩
theorem Ax(S:aq c φ H s){a:Addr}{vs:Array Value}(hk:∀b o,s.heap.get? b=some o->h'.get? b=some o)(ha:s.heap.get? a=none)(hn:h'.get? a=some (ey vs n))(hr:ah c φ s.heap xs vs.toList)(hz:xs.length<=qag) :
  aG c φ s (fun x H'=>x=.lst H.length/\H'=H++[xs]) (.ref a) { s with heap:=h',toks:=t }:=by
 have e:aw [] φ s φ { s with heap:=h',toks:=t }:=aw.of_keeps (s':={ s with heap:=h',toks:=t }) hk rfl
 have S':aq c φ H { s with heap:=h',toks:=t }:=S.keeps (s':={ s with heap:=h',toks:=t }) hk rfl
 have haφ:a∉φ:=fun hm=>by obtain⟨o,ho,_⟩:=S.isList hm;exact cR (ha.symm.trans ho)
 have h0:c.h0.get? a=none:=by
  refine xC (c.h0.get? a) (fun hq=>?_) fun o hq=>?_
  ·rfl
  ·have:=S.stays a o hq;exact cR (ha.symm.trans this)
 refine⟨φ++[a],H++[xs],.lst H.length,?_,S'.adopt (o:=ey vs n) haφ h0 hn rfl rfl ⟨rfl,rfl⟩ (ah.mono e.toKp aA.nil hr) hz,?_,rfl,rfl⟩
 ·exact{ e with
   pre:=List.prefix_append _ _
   new:=fun b hb=>(bJ.mp hb).elim .inl fun h=>.inr (by rw[aN.mp h];exact ha) }
 ·exact ew.mk a rfl (by rw[iH (eR S.len)];simp[S.len])
noncomputable def Bl.real:Bl->Value
 |.len=>.builtin "len" |.max=>.builtin "max" |.range=>.type "range" |.list=>.type "list" |.all=>.builtin "all"
 |.tuple=>.type "tuple"
 |.sorted=>.builtin "sorted"
 |.int=>.type "int"
theorem CP(lo hi st:Int):(eQ lo hi st).length=if 0<st/\lo<hi then((hi-lo-1)/st+1).toNat else 0:=by simp[eQ]
theorem Hz(lo hi st:Int)(h:i<(eQ lo hi st).length):(eQ lo hi st)[i]?=some (.int (lo+i*st)):=by
 simp only[eQ,br] at h ⊢;rw[iM (by simpa using h)];rfl
def JR(hi':ItemsOf (fun i v=>∃t,v=.int (lo+i*st) t) acc (eQ lo hi st).length):ah c φ h (eQ lo hi st) acc.toList:=by
 refine ah.of_get (by rw[eY,hi'.1]) fun i v r h1 h2=>?_;have hlt:=(gW.mp h1).1;rw[Hz _ _ _ hlt] at h1;(injection h1 with Ja;subst Ja);obtain⟨t,rfl⟩:=hi'.2 i r (rM h2);exact rI
def Df(lo hi st:Int)(h:0<st):Builtin.Range.rangeSize lo hi st=((eQ lo hi st).length:Nat):=by
 rw[CP];unfold Builtin.Range.rangeSize;rw[if_pos h];by_cases hl:lo<hi
 ·rw[if_pos hl,if_pos ⟨h,hl⟩];have:0<=(hi-lo-1)/st:=Int.ediv_nonneg (by exact aj [] [_,_] kaa (Y3 J0 (Y2 (Y2 V0 V1) J1)) (Y4 V1 V0) hl) (by exact aj [] [_] kaa (Y3 J0 V0) (Y4 J0 V0) h);exact ay [_] [_] 0x6490a5000610140308000000a5000610040408000490a5000610140308000000a5000610040308000 (Y5 (Y0 V0 J1) (Y4 V0 J0)) (Y3 J0 V0) (Y7 (Y5 (Y4 V0 J0) (Y0 V0 J1)) (Y6 (Y3 (Y0 V0 J1) J0) (Y2 V0 J0))) this (Ar.tn _)
 ·rw[if_neg hl,if_neg (fun q=>hl q.2)];rfl
set_option tactic.hygienic true in
theorem Gj(h:lo.natAbs<2^31/\hi.natAbs<2^31/\0<st/\st<2^31):Builtin.Range.small lo hi st=true:=by
 have hsz:=Df lo hi st h.2.2.1
 have hle:(eQ lo hi st).length<=2^33:=by
  rw[CP]
  split
  ·rename_i hl
   have:(hi-lo-1)/st<=hi-lo-1:=Int.ediv_le_self _ (by exact aj [] [_,_] kaa (Y3 J0 (Y2 (Y2 V0 V1) J1)) (Y4 V1 V0) hl.2)
   exact Cy [_,_,_] [_,_,_] 0xa214a000c201806100400031c4214a5294a000c203806102003081401840601020100610040200404214a5294a50006101c03081001840900c20500610180408040204000080103884294a528003080e01840a00c203006100c030802010020210a5294a50006101c03081201840a00c203006100c040800010020 (Y0 V0 (.l 8589934592)) (Y1 V1 (.l 2147483648)) (Y1 V2 (.l 2147483648)) (Y3 V0 (Y2 (Y2 V1 V2) J1)) (Y7 (Y5 (Y4 V0 J0) (Y0 V0 J1)) (Y6 (Y3 (Y0 V0 J1) J0) (Y2 V0 J0))) (Y7 (Y6 (Y5 (Y4 V1 J0) V2) (Y3 J0 V2)) (Y6 (Y5 (Y4 V1 J0) (Y3 V2 J0)) (Y3 V2 J0))) (Y7 (Y6 (Y5 (Y4 V2 J0) V1) (Y3 J0 V1)) (Y6 (Y5 (Y4 V2 J0) (Y3 V1 J0)) (Y3 V1 J0))) h.1 h.2.1 this (Ar.tn _) (Ar.na _) (Ar.na _)
  ·exact bp [] [] 171801870336 (Y0 J0 (.l 8589934592))
 unfold Builtin.Range.small Builtin.Range.rangeFitsLong
 rw[hsz]
 simp only[Bool.and_eq_true,Bool.or_eq_true,decide_eq_true_eq,gt_iff_lt,h.2.2.1,if_true]
 refine⟨⟨⟨⟨?_,?_⟩,?_⟩,?_⟩,.inr ?_⟩<;>first |omega |(constructor<;>omega)
theorem Jc(ll:List Bool):(List.range ll.length).all (fun i=>(ll[i]?).getD true)=ll.all id:=by
 rw[Bool.eq_iff_iff];simp only[dg,gY];constructor
 ·intro h x hx;obtain⟨i,hi,rfl⟩:=q9.mp hx;have:=h i hi;rw[bt hi] at this;simpa using this
 ·intro h i hi;rw[bt hi];exact h _ (List.getElem_mem hi)
def gI(c:Cx)(A:Around)(φ:List Addr)(s:Shared)(b:Bl)(rs:List Value)(p:V×Hp):Prop:=fV c A φ s (call b.real rs) p.1 p.2
theorem uy(S:aq c φ H s)(R:ax c φ s.heap x r)(e:zj H x=some p):gI c A φ s .len [r] p:=by
 intro E;have hsl:qag=2^24:=rfl;cases x with
 |lst i=>
  revert e;refine xM fun xs e1 wj=>?_;subst wj;refine(S.getP R e1) _ fun a ws n wk J ho hr hz z=>?_;subst wk;rw[<- z];exact len_list (nD ho) (by exact gy [_,_,_] [_] kam (Y4 (Y4 V0 J0) V0) (Y2 V1 (.l 16777216)) (Y0 V2 V1) (Y2 V0 V2) (Y5 V0 (.l 9223372036854775808)) hsl hz z (Ar.p63)) (aG.same S rI)
 |tup l=>
  obtain rfl:=ai e;obtain⟨a,o,ws,n,rfl,_,ho,hc,hd,hz,hr⟩:=R;have z:=hr.length;rw[eY] at z;rw[<- z];exact PyProof.Rows.len_tuple ⟨o,ho,hc,n,hd⟩ (by exact gy [_,_,_] [_] kam (Y4 (Y4 V0 J0) V0) (Y2 V1 (.l 16777216)) (Y0 V2 V1) (Y2 V0 V2) (Y5 V0 (.l 9223372036854775808)) hsl hz z (Ar.p63)) (aG.same S rI)
 |scr l=>
  obtain rfl:=ai e;obtain⟨a,o,ws,n,rfl,_,_,ho,hc,hd,hz,hr⟩:=R;have z:=hr.length;rw[eY] at z;rw[<- z];exact len_list ⟨o,ho,hc,n,hd⟩ (by exact gy [_,_,_] [_] kam (Y4 (Y4 V0 J0) V0) (Y2 V1 (.l 16777216)) (Y0 V2 V1) (Y2 V0 V2) (Y5 V0 (.l 9223372036854775808)) hsl hz z (Ar.p63)) (aG.same S rI)
 |_=>injection e
def rR(h:IntsAre rs [a]):∃t,rs=[.int a t]:=by
 cases h with |cons _ t h=>cases h;exact⟨t,rfl⟩
def kq(h:IntsAre rs [a,b]):∃t u,rs=[.int a t,.int b u]:=by
 cases h with |cons _ t h=>obtain⟨u,rfl⟩:=rR h;exact⟨t,u,rfl⟩
def rt{d:Int}(h:IntsAre rs [a,b,d]):∃t u v,rs=[.int a t,.int b u,.int d v]:=by
 cases h with |cons _ t h=>obtain⟨u,v,rfl⟩:=kq h;exact⟨t,u,v,rfl⟩
def CY{p:Prop} [Decidable p]{t:Tok}:ax c φ h (.int (if p then a else b)) (if p then .int a t else .int b u):=by
 by_cases q:p
 ·rw[if_pos q,if_pos q];exact rI
 ·rw[if_neg q,if_neg q];exact rI
theorem sQ(hh:A.handled=none)(S:aq c φ H s)(R:ah c φ s.heap vs rs)(e:yH H vs=some p):gI c A φ s .max rs p:=by
 intro E;revert e;refine xB fun l h1 f=>?_;have hi:=BJ R h1;cases LV.of l with
 |two a b=>
  obtain rfl:=ai f;obtain⟨t,u,rfl⟩:=kq hi;exact max_two_ints hh fun h' tk hk=>aG.kept S hk CY
 |three a b d=>
  obtain rfl:=ai f;obtain⟨t,u,v,rfl⟩:=rt hi;refine max_three_ints hh fun h' tk hk=>aG.kept S hk ?_;by_cases h:a<b
  ·rw[if_pos h,if_pos (show b>a from h)];exact CY
  ·rw[if_neg h,if_neg (show ¬b>a from h)];exact CY
 |_=>injection f
theorem mP(hpl:PySem.PylongRoom (model c.prog c.w) A s)(S:aq c φ H s)(R:ah c φ s.heap vs rs)(e:xE H vs=some p):gI c A φ s .range rs p:=by
 intro E;revert e;refine xB fun l h1 f=>?_;have hi:=BJ R h1;cases LV.of l with
 |one n=>
  revert f;refine xS fun hz wj=>?_;subst wj;obtain⟨t,rfl⟩:=rR hi;exact call_range_1 ⟨φ,H,.rng 0 n 1,(aw.push (o:={ cls:=.type "range",data:=.fields #[.int 0 s.toks,.int _ t,.int 1 (s.toks+1)] })).trans (aw.of_heap rfl rfl),(S.push _).tok _,eC.mk _ _ _ _ rfl S.new (eG _ rfl) ⟨by decide,hz,by decide,by decide⟩,rfl,rfl⟩
 |two a b=>
  revert f;refine xS fun hz wj=>?_;subst wj;obtain⟨t,u,rfl⟩:=kq hi;exact call_range_2 ⟨φ,H,.rng a b 1,(aw.push (o:={ cls:=.type "range",data:=.fields #[.int _ t,.int _ u,.int 1 s.toks] })).trans (aw.of_heap rfl rfl),(S.push _).tok _,eC.mk _ _ _ _ rfl S.new (eG _ rfl) ⟨hz.1,hz.2,by decide,by decide⟩,rfl,rfl⟩
 |three a b d=>
  revert f;refine xS fun hz wj=>?_;subst wj;obtain⟨t,u,v,rfl⟩:=rt hi;exact call_range_3 (by exact aj [] [_] kal (Y8 (Y5 V0 J0) J0) (Y4 J0 V0) hz.2.2.1) ⟨φ,H,.rng a b d,(aw.push (o:={ cls:=.type "range",data:=.fields #[.int _ t,.int _ u,.int _ v] })).trans (aw.of_heap rfl rfl),(S.push _).tok _,eC.mk _ _ _ _ rfl S.new (eG _ rfl) hz,rfl,rfl⟩ (Or.inr hpl)
 |_=>injection f
theorem pe(hh:A.handled=none)(S:aq c φ H s)(RR:ax c φ s.heap x r)(e:rg H x=some p):gI c A φ s .list [r] p:=by
 intro E;have hsl:qag=2^24:=rfl;cases x with
 |lst i=>
  revert e;refine xM fun xs e1 wj=>?_;subst wj;refine(S.getP RR e1) _ fun a ws n wk J ho hr hz z=>?_;subst wk;refine call_list_seq a (.inl rfl) ho rfl rfl (fun h' c' hk hn=>?_) (by exact ay [_,_,_] [] kab (Y0 V0 V1) (Y0 V2 V1) (Y2 V0 V2) hz z);exact Ax (t:=s.toks) S hk (fJ (aJ _)) hn hr hz
 |rng lo hi st=>
  revert e;refine xS fun hz wj=>?_;subst wj;obtain⟨a,t,u,v,rfl,_,hr,hb⟩:=RR;exact call_list_range hh hr (Gj hb) (Df lo hi st hb.2.2.1) hz fun h' tk acc' c' hk hn hi'=>Ax S hk (fJ (aJ _)) hn (JR hi') hz
 |tup l=>
  revert e;refine xS fun hz wj=>?_;subst wj;obtain⟨a,o,ws,n,rfl,_,ho,hc,hd,_,hr⟩:=RR;refine call_list_seq a (.inr rfl) ho hc hd (fun h' c' hk hn=>?_) (by rw[<- eY,hr.length];exact hz);exact Ax (t:=s.toks) S hk (fJ (aJ _)) hn hr hz
 |_=>injection e
theorem lB(hh:A.handled=none)(S:aq c φ H s)(RR:ax c φ s.heap x r)(e:kf H x=some p):gI c A φ s .tuple [r] p:=by
 intro E;have hsl:qag=2^24:=rfl;cases x with
 |lst i=>
  revert e;refine xM fun xs e1 wj=>?_;subst wj;refine(S.getP RR e1) _ fun a ws n wk J ho hr hz z=>?_;subst wk;refine call_tuple_list (nD ho) (fun h' hk=>?_) (by exact ay [_,_,_] [] kab (Y0 V0 V1) (Y0 V2 V1) (Y2 V0 V2) hz z);have e1:aw [] φ s φ { s with heap:=h' }:=aw.of_keeps (s':={ s with heap:=h' }) hk rfl;exact aG.lift e1 (yX (S.keeps (s':={ s with heap:=h' }) hk rfl) (ah.mono e1.toKp aA.nil hr) hz)
 |_=>injection e
theorem uB(hh:A.handled=none)(S:aq c φ H s){ll:List Bool}(RR:ax c φ s.heap (.lst i) r)(e2:H[i]?=some xs)(e3:gw xs=some ll):gI c A φ s .all [r] (.bool (ll.all id),H):=by
 intro E;refine(S.getP RR e2) _ fun a ws n wk J ho hr hz z=>?_;subst wk;have hL:=nD ho;have hi:=zm hr e3;have hlt:a<s.heap.objs.size:=ic ho;refine call_all_walk (wpAny_pyIter_list hL ?_);refine⟨s.heap.objs.size,[s.heap.objs.size,a],[s.heap.objs.size],ws.size,_,_,fun i=>(ll[i]?).getD true,rfl,Walks.list (A:=A.in1) hh _ a (ck hlt) ws,
  ⟨⟨_,eG _ rfl,rfl,rfl⟩,hL.push _⟩,?_,?_⟩
 ·intro i v s' Q E' hv hQ;have h1:ws.toList[i]?=some v:=by rw[Array.getElem?_toList];exact hv
  rw[hi,br] at h1;revert h1;refine xM fun bb h2 wj=>?_;subst wj;dsimp only at hQ;rw[h2] at hQ;exact uF hQ
 ·intro h' tk hk;have wq:ws.size=ll.length:=by rw[<- eY,hi];simp
  have:(List.range ws.size).all (fun i=>(ll[i]?).getD true)=ll.all id:=by rw[wq,Jc]
  rw[this];refine aG.kept S (fun b o hb=>hk b o ?_ (cz _ hb)) rB;simp only[aN];exact ck (ic hb)
def IE(S:aq c φ H s)(RR:ax c φ s.heap (.lst i) r)(e2:H[i]?=some xs)(e3:vX xs=some ll)(hok:xc ll=true):gI c A φ s .sorted [r] (.lst H.length,H++[(ll.mergeSort i7).map ju]):=by
 intro E;refine(S.getP RR e2) _ fun a ws n wk J ho hr hz z=>?_;subst wk;obtain rfl:=D8 e3;refine JM (vs:=ws.toList) hr (by rw[Array.toArray_toList];exact nD ho) hok fun h' c' out hk hn hR=>?_;exact Ax (t:=s.toks) S hk (fJ (Nat.le_succ _)) hn hR (by rw[ao,List.length_mergeSort];rw[ao] at hz;exact hz)
theorem uT (O:c.Ok) (hA:bY c A true d φ s.heap) (S:aq c φ H s) {b:Bl} (R:ah c φ s.heap vs rs) (e:ba H b vs=some p):f9 c A φ s (call b.real rs) p:=by
 have hh:=hA.hd rfl;cases b with
 |len=>
  obtain⟨x,rfl,f⟩:=nK e;refine R.one _ fun r wk RR=>?_;subst wk;exact uy S RR f
 |max=>exact sQ hh S R e
 |range=>exact mP (PySem.PylongRoom.of (S.lim O) (by have:=hA.dep;show _+100<1000;exact aj [_,_] [] kaa (Y1 (Y0 V0 (.l 100)) (.l 1000)) (Y0 (Y0 V0 V1) (.l 890)) this) (hA.seer O S)) S R e
 |list=>
  obtain⟨x,rfl,f⟩:=nK e;refine R.one _ fun r wk RR=>?_;subst wk;exact pe hh S RR f
 |tuple=>
  obtain⟨x,rfl,f⟩:=nK e;refine R.one _ fun r wk RR=>?_;subst wk;exact lB hh S RR f
 |all=>
  obtain⟨x,rfl,f⟩:=nK e;refine R.one _ fun r wk RR=>?_;subst wk;obtain⟨a,xs,rfl,e2,g⟩:=vE f;revert g;refine xM fun l e3 wj=>?_;subst wj;exact uB hh S RR e2 e3
 |sorted=>
  obtain⟨x,rfl,f⟩:=nK e;refine R.one _ fun r wk RR=>?_;subst wk;obtain⟨a,xs,rfl,e2,g⟩:=vE f;revert g;refine xB fun l e3 k=>?_;revert k;refine xS fun hs wj=>?_;subst wj;exact IE S RR e2 e3 hs
 |int=>
  obtain⟨x,rfl,f⟩:=nK e;refine R.one _ fun r wk RR=>?_;subst wk;revert f;refine xM fun b hb wj=>?_;subst wj;obtain rfl:=pz hb;obtain rfl:=RR;exact fun E=>call_int_bool (aG.same S rI)
end
variable {a b x:Ex}{acc:List (Str×Addr)}{hi lo:Option Expr}{p:Pos}{t:Bool}{u:V×Hp}{vs:List Value}{xs:List Ex}
section
open PySem PyProof.Rows
noncomputable def dM:Expr->Bool
 |.Starred ..=>false
 |_=>true
def rf(h:dM e=true):fe (e::es) wz=(false,eval e wz)::fe es wz:=by
 cases e<;>first |rfl |injection h
def AS(c:Cx)(φ:List Addr)(s:Shared)(Q:List V->Hp->Prop)(rs:List Value)(s':Shared):Prop:=∀GJ:Prop,(∀(φ':List Addr),∀(H':Hp),∀(vs:List V),aw [] φ s φ' s'->aq c φ' H' s'->ah c φ' s'.heap vs rs->Q vs H'->GJ)->GJ
def gG(c:Cx)(wz:Env)(wu:Res)(es:List Expr)(xs:List Ex):Prop:=
 (es.all dM=true/\es.length=xs.length)/\∀A q d k loc φ H s Q E pos,bY c A q d φ s.heap->au c wz wu k loc φ s.heap->aq c φ H s->dI (Calls c) q d k xs loc Q E H->
  wpAny (model c.prog c.w) A (spliced (backTo pos (fe es wz))) (AS c φ s fun vs H=>vs.length=xs.length/\Q vs H) (aB c φ s E) s
def CV:gG c wz wu [] []:=⟨⟨rfl,rfl⟩,fun A q d k loc φ H s Q E pos hA hF hS hw=>by
 exact aE (fun J kJ=>kJ φ H [] aw.refl hS rL ⟨rfl,hw⟩)⟩
theorem xK (hn:dM e=true) (h:aT c wz wu e x) (hs:gG c wz wu es xs):gG c wz wu (e::es) (x::xs):=
 ⟨⟨by simp[hn,hs.1.1],by simp[hs.1.2]⟩,fun A q d k loc φ H s Q E pos hA hF hS hw=>by
 rw[rf hn];show wpAny _ _ (spliced ((false,eval e wz)::backTo pos (fe es wz))) _ _ _;refine Calls.spliced_cons (wm (h A q d k loc φ H s _ E hA hF hS hw) ?_);rintro r s₁ ⟨φ₁,H₁,v₁,e₁,S₁,R₁,w₁⟩;refine a9 (hs.2 A q d k loc φ₁ H₁ s₁ _ E pos (hA.mono e₁) (hF.mono e₁) S₁ w₁) ?_ fun J J h=>aB.lift e₁ S₁ h;rintro rs s₂ w0;refine w0 _ fun φ₂ H₂ vs e₂ S₂ R₂ eN1=>?_;clear w0;obtain⟨l₂,w₂⟩:=eN1;exact(fun J kJ=>kJ φ₂ H₂ (v₁::vs) (e₁.trans e₂) S₂ ⟨ax.mono e₂.toKp aA.nil R₁,R₂⟩ ⟨congrArg (· + 1) l₂,w₂⟩)⟩
def Iu {i:Int}:aT c wz wu (.Constant (.int i) n pos) (.lit (.int i)):=fun A q d k loc φ H s Q E hA hF hS hw=>by
 exact wpAny_Constant_int (aG.at hS rI hw)
def Hg{i:Str}:aT c wz wu (.Constant (.str i) n pos) (.lit (.str i)):=fun A q d k loc φ H s Q E hA hF hS hw=>by
 exact Calls.Constant_str (aG.at hS rS hw)
def HJ{i:Bool}:aT c wz wu (.Constant (.bool i) n pos) (.lit (.bool i)):=fun A q d k loc φ H s Q E hA hF hS hw=>by
 exact aE (aG.at' hS rB hw)
def Hq:aT c wz wu (.Constant .none n pos) (.lit .none):=fun A q d k loc φ H s Q E hA hF hS hw=>by
 exact aE (aG.at' hS rN hw)
theorem Gi{x:Str}(hx:wu.lookup x=some i)(hd:(x==("__debug__":Str))=false)(hcd:(x==("__classdict__":Str))=false):aT c wz wu (.Name x pos) (.var i):=fun A q d k loc φ H s Q E hA hF hS hw=>by
 revert hw;refine xI fun v hv hw=>?_;obtain⟨m,hn,h1,h2⟩:=hF.ns;have h3:=h1 x i hx;refine wpAny_Name ?_ hd;rw[hv] at h3;unfold iJ at h3;refine xC (wz.kindOf x) (fun hk=>?_) fun kd hk=>?_
 ·rw[hk] at h3;exact h3.elim
 ·rw[hk] at h3;cases kd with
  | «local»=>
   obtain⟨_,r,h4,h5⟩:=h3;exact yl hF.fn hk hn.ns h4 (aG.at' hS h5 hw)
  |cell=>
   obtain⟨_,ca,r,h4,h5,h6⟩:=h3;exact wpAny_loadName_cell hF.fn hk h4 h5 (aG.at' hS h6 hw)
  |free=>
   obtain⟨_,ca,r,h4,h5,h6⟩:=h3;exact wpAny_loadName_free hF.fn hk h4 h5 (aG.at' hS h6 hw) hcd
  |_=>exact h3.elim
def Ic{x:Str}(O:c.Ok)(hx:wz.kindOf x=some .globalImplicit)(hg:c.g x=some r)(hr:ax c [] c.h0 v r)(hd:(x==("__debug__":Str))=false):aT c wz wu (.Name x pos) (.lit v):=fun A q d k loc φ H s Q E hA hF hS hw=>by
 refine Calls.Name_function_global hF.fn hx (Calls.loadGlobal_global (by rw[hF.gl];exact O.gl.keeps hS.stays) hg ?_) hd;refine aG.at' hS ?_ hw;exact ax.mono (X:=[]) ⟨List.nil_prefix,fun b o h J J J=>hS.stays b o h,fun a ha=>.inr (hS.fresh a ha),fun b o es n h J hd=>⟨o,es,n,hS.stays b o h,hd,.rfl⟩,fun b o vs J h J J hd=>⟨vs,by rw[<- hd];exact hS.stays b o h⟩⟩ aA.nil hr
def J8(h:gG c wz wu es xs)(hz:xs.length<=1000):aT c wz wu (.Tuple es n pos) (.tup xs):=fun A q d k loc φ H s Q E hA hF hS hw=>by
 refine Tuple_ (wm (h.2 A q d k loc φ H s _ E pos hA hF hS hw) ?_);rintro rs s₁ w0;refine w0 _ fun φ₁ H₁ vs e₁ S₁ R₁ eN1=>?_;clear w0;obtain⟨l₁,w₁⟩:=eN1;have hz':vs.length<=qag:=by rw[l₁];exact aD hz (by decide)
 exact oV (aG.lift e₁ ((yX S₁ R₁ hz').eq w₁)) (by show rs.toArray.size<=qag;rw[List.size_toArray,R₁.length];exact hz')
def KH(h:gG c wz wu es xs)(hz:xs.length<=1000):aT c wz wu (.List es pos) (.list xs):=fun A q d k loc φ H s Q E hA hF hS hw=>by
 refine List_ (wm (h.2 A q d k loc φ H s _ E pos hA hF hS hw) ?_);rintro rs s₁ w0;refine w0 _ fun φ₁ H₁ vs e₁ S₁ R₁ eN1=>?_;clear w0;obtain⟨l₁,w₁⟩:=eN1;have hz':vs.length<=qag:=by rw[l₁];exact aD hz (by decide)
 exact oV (aG.lift e₁ ((Gw S₁ R₁ hz').eq w₁)) (by show rs.toArray.size<=qag;rw[List.size_toArray,R₁.length];exact hz')
def Js(h1:aT c wz wu l a):aT c wz wu (.UnaryOp .USub l pos) (.neg a):=fun A q d k loc φ H s Q E hA hF hS hw=>by
 refine wpAny_UnaryOp (wm (h1 A q d k loc φ H s _ E hA hF hS hw) ?_);rintro x s₁ ⟨φ₁,H₁,v₁,e₁,S₁,R₁,w₁⟩;revert w₁;refine xI fun i hi w₁=>?_;obtain rfl:=qG hi;obtain⟨t,rfl⟩:=R₁;exact PyProof.Rows.neg_int (aG.lift e₁ (aG.at S₁ rI w₁))
def IG(h1:aT c wz wu l a):aT c wz wu (.UnaryOp .Not l pos) (.not a):=fun A q d k loc φ H s Q E hA hF hS hw=>by
 refine wpAny_UnaryOp (wm (h1 A q d k loc φ H s _ E hA hF hS hw) ?_);rintro x s₁ ⟨φ₁,H₁,v₁,e₁,S₁,R₁,w₁⟩;revert w₁;refine xI fun b hb w₁=>?_;obtain rfl:=pz hb;obtain rfl:=R₁;exact not_of (uF (aG.lift e₁ (aG.at' S₁ rB w₁)))
def lT(c:Cx)(wz:Env)(wu:Res):List Expr->List Ex->Prop
 |[],xs=>xs=[]
 |e::es,xs=>match xs with
  |[]=>False
  |x::xs=>aT c wz wu e x/\lT c wz wu es xs
inductive g9(c:Cx)(wz:Env)(wu:Res)(e:Expr)(es:List Expr)(xs:List Ex):Prop
 |mk (x:Ex)(xs':List Ex)(h:xs=x::xs')(h1:aT c wz wu e x)(h2:lT c wz wu es xs'):g9 c wz wu e es xs
theorem lT.uncons(h:lT c wz wu (e::es) xs):g9 c wz wu e es xs:=by
 cases xs with
 |nil=>exact h.elim
 |cons x xs=>exact⟨x,xs,rfl,h.1,h.2⟩
def iG(C:CallT)(q:Bool)(d:Nat)(k:dB)(t:Bool)(xs:List Ex)(l:Loc)(Q:Bool->Hp->Prop)(E:XPost)(H:Hp):Prop:=match t with
 |true=>vY C q d k xs l Q E H
 |false=>iN C q d k xs l Q E H
noncomputable def r5(t:Bool):BoolOp:=match t with
 |true=>.And
 |false=>.Or
theorem Dy{l:Loc}{Q:Bool->Hp->Prop}{E:XPost}(h:iG C q d k t (x::xs) l Q E H) :
  aF C q d k x l (fp fun b H=>qb xs (Q b H) (d6 (b==t) (iG C q d k t xs l Q E H) (Q b H))) E H:=by
 have e:∀{P P':V->Hp->Prop} {E:XPost},(∀v H,P v H=P' v H)->aF C q d k x l P E H->aF C q d k x l P' E H:=fun h w=>by
  have:_=_:=funext fun v=>funext fun H=>h v H;exact this▸w
 cases t with
 |true=>
  refine e (fun v H=>?_) h;unfold fp;cases j5 v with
  |none=>rfl
  |some b=>cases b<;>rfl
 |false=>
  refine e (fun v H=>?_) h;unfold fp;cases j5 v with
  |none=>rfl
  |some b=>cases b<;>rfl
set_option backward.match.sparseCases true in
theorem Ck{pos:Pos}{t:Bool}:∀{es:List Expr}{xs:List Ex},lT c wz wu es xs->∀A q d k loc φ H s (Q:Bool->Hp->Prop) E,bY c A q d φ s.heap->au c wz wu k loc φ s.heap->aq c φ H s->iG (Calls c) q d k t xs loc Q E H->
  wpAny (model c.prog c.w) A (boolOp pos (r5 t) (evalEach es wz)) (aG c φ s fun v H=>iL (j5 v) fun b=>Q b H) (aB c φ s E) s
 |[],xs,h=>fun A q d k loc φ H s Q E hA hF hS hw=>by
  obtain rfl:xs=[]:=h;cases t<;>exact hw.elim
 |[e],xs,h=>fun A q d k loc φ H s Q E hA hF hS hw=>by
  obtain⟨x,xs',rfl,h1,h2⟩:=h.uncons;obtain rfl:xs'=[]:=h2;show wpAny _ _ (eval e wz) _ _ _;exact wm (h1 A q d k loc φ H s _ E hA hF hS (Dy hw)) (fun J J h=>aG.mono (fun J J h=>ae.inv h) h)
 |e::e'::es,xs,h=>fun A q d k loc φ H s Q E hA hF hS hw=>by
  obtain⟨x,xs',rfl,h1,h2⟩:=h.uncons;have ih:=Ck (pos:=pos) (t:=t) h2;obtain⟨x',xs'',rfl,_,_⟩:=h2.uncons;show wpAny _ _ (eval e wz >>=fun v=>standAt pos >>=fun J=>holding [v] (truthy v) >>=fun tv=>match r5 t,tv with
   |.And,false |.Or,true=>pure v
   |_,_=>boolOp pos (r5 t) (evalEach (e'::es) wz)) _ _ _
  refine ak (wm (h1 A q d k loc φ H s _ E hA hF hS (Dy hw)) ?_);rintro r s₁ ⟨φ₁,H₁,v₁,e₁,S₁,R₁,w₁⟩;revert w₁;refine xI fun b hb w₁=>?_;obtain rfl:=pz hb;obtain rfl:=R₁;refine ak (i8 (ak (dz (uF ?_))));have go:iG (Calls c) q d k t (x'::xs'') loc Q E H₁->wpAny (model c.prog c.w) A (boolOp pos (r5 t) (evalEach (e'::es) wz)) (aG c φ s fun v H=>iL (j5 v) fun b=>Q b H) (aB c φ s E) s₁:=fun w=>
   a9 (ih A q d k loc φ₁ H₁ s₁ Q E (hA.mono e₁) (hF.mono e₁) S₁ w) (fun J J h=>aG.lift e₁ h) fun J J h=>aB.lift e₁ S₁ h
  have st:Q b H₁->wpAny (model c.prog c.w) A (pure (.bool b)) (aG c φ s fun v H=>iL (j5 v) fun b=>Q b H) (aB c φ s E) s₁:=fun w=>aE (aG.lift e₁ (aG.at' S₁ rB ⟨b,rfl,w⟩));cases t<;>cases b<;>first |exact st w₁ |exact go w₁
def Iy(h:lT c wz wu es xs):aT c wz wu (.BoolOp .And es pos) (.and xs):=fun A q d k loc φ H s Q E hA hF hS hw=>
 wm (Ck (t:=true) h A q d k loc φ H s _ E hA hF hS hw) (fun J J h=>aG.mono (fun _ _ ⟨_,hb,h⟩=>by rw[pz hb];exact h) h)
def nF(h:lT c wz wu es xs):aT c wz wu (.BoolOp .Or es pos) (.or xs):=fun A q d k loc φ H s Q E hA hF hS hw=>
 wm (Ck (t:=false) h A q d k loc φ H s _ E hA hF hS hw) (fun J J h=>aG.mono (fun _ _ ⟨_,hb,h⟩=>by rw[pz hb];exact h) h)
def Iq{r:Expr}(O:c.Ok)(h1:aT c wz wu l a)(h2:aT c wz wu r b):aT c wz wu (.BinOp l op.real r pos) (.bin op a b):=fun A q d k loc φ H s Q E hA hF hS hw=>by
 refine wpAny_BinOp (wm (h1 A q d k loc φ H s _ E hA hF hS hw) ?_);rintro x s₁ ⟨φ₁,H₁,v₁,e₁,S₁,R₁,w₁⟩;refine a9 (h2 A q d k loc φ₁ H₁ s₁ _ E (hA.mono e₁) (hF.mono e₁) S₁ w₁) ?_ fun J J h=>aB.lift e₁ S₁ h;rintro y s₂ ⟨φ₂,H₂,v₂,e₂,S₂,R₂,w₂⟩;revert w₂;refine xI fun p e w₂=>?_;exact(te O (hA.mono (e₁.trans e₂)) S₂ (ax.mono e₂.toKp aA.nil R₁) R₂ e).use (e₁.trans e₂) w₂
def IR{r:Expr}(h1:aT c wz wu l a)(h2:aT c wz wu r b):aT c wz wu (.Subscript l r pos) (.idx a b):=fun A q d k loc φ H s Q E hA hF hS hw=>by
 refine Subscript_ (wm (h1 A q d k loc φ H s _ E hA hF hS hw) ?_);rintro x s₁ ⟨φ₁,H₁,v₁,e₁,S₁,R₁,w₁⟩;refine a9 (h2 A q d k loc φ₁ H₁ s₁ _ E (hA.mono e₁) (hF.mono e₁) S₁ w₁) ?_ fun J J h=>aB.lift e₁ S₁ h;rintro y s₂ ⟨φ₂,H₂,v₂,e₂,S₂,R₂,w₂⟩;revert w₂;refine xI fun v e w₂=>?_;exact(vb S₂ (ax.mono e₂.toKp aA.nil R₁) R₂ e).use (e₁.trans e₂) w₂
end
variable {C:Addr}{b:Bool}{t:Tc}
section
open PySem PyProof.Rows
noncomputable def rP:Expr->Bool
 |.Set ..=>false
 |_=>true
def m8{op:CmpOp}(h:rP e=true)(t:Sem Value):markedBehindIn op e t=t:=by
 refine markedBehindIn_of_false ?_;cases e<;>first |rfl |injection h
theorem Af:∀{ops:List CmpOp}{es:List Expr},es.all rP=true->markedEach ops es (evalEach es wz)=evalEach es wz
 |[],es,_=>by cases es<;>rfl
 |[op],[],_=>rfl
 |[op],e::es,h=>by
  revert h;refine xA fun h1 h2=>?_;cases es with
  |nil=>exact congrArg (fun x=>[x]) (m8 h1 _)
  |cons e' es=>exact congrArg (eval e wz::·) (Af (ops:=[]) h2)
 |op::op'::ops,[],_=>rfl
 |op::op'::ops,e::es,h=>congrArg (eval e wz::·) (Af (ops:=op'::ops) (gd.mp h).2)
def FU(h:wpAny M A m Q E s):wpAny M A (operate vs m) Q E s:=fun Γ p hΓ=>by rw[Sem.wp_operate];exact h Γ p hΓ
def bY.hu(hA:bY c A q d φ h):A.units+100<cLine:=by have:=hA.un;show _<9900;exact aj [_,_] [] kaa (Y1 (Y0 V0 (.l 100)) (.l 9900)) (Y0 (Y0 V0 (Y1 (.l 10) V1)) (.l 9000)) this
inductive cW(c:Cx)(φ:List Addr)(s:Shared)(Q:Bool->Hp->Prop)(b:Bool)(s':Shared):Prop
 |mk (φ':List Addr)(H':Hp)(e:aw [] φ s φ' s')(S:aq c φ' H' s')(q:Q b H'):cW c φ s Q b s'
def cW.lift{Q:Bool->Hp->Prop}{r:Bool}(e:aw [] φ s φ₁ s₁)(h:cW c φ₁ s₁ Q r s₂):cW c φ s Q r s₂:=
 let⟨φ',H',e',S,hq⟩:=h;⟨φ',H',e.trans e',S,hq⟩
theorem AE{go:Value->List CmpOp->List (Sem Value)->Sem α}{fin:Value->Value->CmpOp->Sem α}{no:Value->Sem α}{R:(Bool->Hp->Prop)->List Addr->Shared->α->Shared->Prop} (g1:∀x o m,go x [o] [m]=(holding [x] m >>=fun rv=>standAt pos >>=fun J=>fin x rv o)) (g2:∀x o o' os m m' ms,go x (o::o'::os) (m::m'::ms)=(holding [x] m >>=fun rv=>standAt pos >>=fun J=>holding [x,rv] (compareOp o x rv) >>=fun cc=>release [x,rv] [cc] >>=fun J=>holding [cc,rv] (truthy cc) >>=fun t=>
   if t then go rv (o'::os) (m'::ms) else no cc))
  (hfin:∀{A E s x rv o b} {P:α->Shared->Prop},(∀{Q E},Q (.bool b) s->wpAny (model c.prog c.w) A (compareOp o x rv) Q E s)->(∀a,(∀φ H Q,aq c φ H s->Q b H->R Q φ s a s)->P a s)->wpAny (model c.prog c.w) A (fin x rv o) P E s)
  (hno:∀{A E s} {P:α->Shared->Prop},(∀a,(∀φ H Q,aq c φ H s->Q false H->R Q φ s a s)->P a s)->wpAny (model c.prog c.w) A (no (.bool false)) P E s)
  (hlift:∀{Q φ s φ₁ s₁ a s₂},aw [] φ s φ₁ s₁->R Q φ₁ s₁ a s₂->R Q φ s a s₂) :
  ∀{es:List Expr} {xs:List Ex} {os:List Cm},lT c wz wu es xs->os.length=es.length->∀A q d k loc φ H s (Q:Bool->Hp->Prop) E v x,bY c A q d φ s.heap->au c wz wu k loc φ s.heap->aq c φ H s->ax c φ s.heap v x->
  vL (Calls c) q d k v os xs loc Q E H->wpAny (model c.prog c.w) A (go x (os.map Cm.real) (evalEach es wz)) (R Q φ s) (aB c φ s E) s
 |[],xs,os,h,hl=>fun A q d k loc φ H s Q E v x hA hF hS hR hw=>by
  obtain rfl:xs=[]:=h;exact hw.elim
 |_::_,_,[],h,hl=>nomatch hl
 |[e],xs,o::os,h,hl=>fun A q d k loc φ H s Q E v x hA hF hS hR hw=>by
  obtain⟨y,ys,rfl,h1,h2⟩:=h.uncons;obtain rfl:ys=[]:=h2;obtain rfl:os=[]:=gj.mp (Nat.succ.inj hl);show wpAny _ _ (go x [o.real] [eval e wz]) _ _ _;rw[g1];refine ak (dz (wm (h1 A q d k loc φ H s _ E hA hF hS hw) ?_));rintro r s₁ ⟨φ₁,H₁,w,e₁,S₁,R₁,w₁⟩;revert w₁;refine xI fun b hb w₁=>?_;exact ak (i8 (hfin (mK hA.hu S₁ (ax.mono e₁.toKp aA.nil hR) R₁ hb) fun a ha=>hlift e₁ (ha φ₁ H₁ Q S₁ w₁)))
 |_::_::_,_,[_],h,hl=>nomatch (Nat.succ.inj hl)
 |e::e'::es,xs,o::o'::os,h,hl=>fun A q d k loc φ H s Q E v x hA hF hS hR hw=>by
  obtain⟨y,ys,rfl,h1,h2⟩:=h.uncons;have ih:=AE g1 g2 hfin hno hlift h2 (os:=o'::os) (Nat.succ.inj hl);obtain⟨y',ys',rfl,_,_⟩:=h2.uncons;show wpAny _ _ (go x (o.real::o'.real::os.map Cm.real) (eval e wz::eval e' wz::evalEach es wz)) _ _ _;rw[g2];refine ak (dz (wm (h1 A q d k loc φ H s _ E hA hF hS hw) ?_));rintro r s₁ ⟨φ₁,H₁,w,e₁,S₁,R₁,w₁⟩;revert w₁;refine xI fun b hb w₁=>?_;refine ak (i8 (ak (dz (mK hA.hu S₁ (ax.mono e₁.toKp aA.nil hR) R₁ hb (ak (wpAny_release (ak (dz (uF ?_)))))))));cases b with
  |true=>exact a9 (ih A q d k loc φ₁ H₁ s₁ Q E w r (hA.mono e₁) (hF.mono e₁) S₁ R₁ w₁) (fun J J h=>hlift e₁ h) fun J J h=>aB.lift e₁ S₁ h
  |false=>exact hno fun a ha=>hlift e₁ (ha φ₁ H₁ Q S₁ w₁)
def G8(h1:aT c wz wu l a)(h2:lT c wz wu es xs)(hl:os.length=es.length)(hn:es.all rP=true) :
  aT c wz wu (.Compare l (os.map Cm.real) es pos) (.cmp a os xs):=fun A q d k loc φ H s Q E hA hF hS hw=>by
 show wpAny _ _ (eval l wz >>=fun v=>compareChain pos v (os.map Cm.real) (markedEach (os.map Cm.real) es (evalEach es wz))) _ _ _;rw[Af hn];refine ak (wm (h1 A q d k loc φ H s _ E hA hF hS hw) ?_);rintro x s₁ ⟨φ₁,H₁,v₁,e₁,S₁,R₁,w₁⟩;exact a9 (AE (go:=compareChain pos) (fin:=fun x rv o=>operate [x,rv] (compareOp o x rv)) (no:=fun cc=>pure cc) (R:=fun Q φ s=>aG c φ s fun v H=>iL (j5 v) fun b=>Q b H) (fun J J J=>rfl) (fun J J J J J J J=>rfl)
  (fun h hp=>FU (h (hp _ fun φ H Q S hq=>aG.at' S rB ⟨_,rfl,hq⟩))) (fun hp=>aE (hp _ fun φ H Q S hq=>aG.at' S rB ⟨_,rfl,hq⟩)) (fun e h=>aG.lift e h) h2 hl A q d k loc φ₁ H₁ s₁ _ E v₁ x (hA.mono e₁) (hF.mono e₁) S₁ R₁ w₁)
  (fun J J h=>aG.lift e₁ (aG.mono (fun _ _ ⟨_,hb,h⟩=>by rw[pz hb];exact h) h)) fun J J h=>aB.lift e₁ S₁ h
def mB(c:Cx)(wz:Env)(wu:Res)(e:Expr)(x:Ex):Prop:=
 ∀A q d k loc φ H s Q E,bY c A q d φ s.heap->au c wz wu k loc φ s.heap->aq c φ H s->aF (Calls c) q d k x loc (fp Q) E H->
  wpAny (model c.prog c.w) A (isTrue e wz (eval e wz)) (cW c φ s Q) (aB c φ s E) s
noncomputable def Dq:Expr->Bool
 |.UnaryOp .Not _ _=>false
 |.BoolOp ..=>false
 |.IfExp ..=>false
 |.Compare ..=>false
 |_=>true
set_option tactic.hygienic true in
def Ig(h:Dq e=true)(whole:Sem Value):isTrue e wz whole=(do
  let v<-whole
  standAt e.pos
  holding [v] (truthy v)):=by
 cases e<;>first |rfl |(injection h;done) |skip
 rename_i op _ _
 cases op<;>first |rfl |injection h
def Ir(h:aT c wz wu e x)(hp:Dq e=true):mB c wz wu e x:=fun A q d k loc φ H s Q E hA hF hS hw=>by
 rw[Ig hp];refine ak (wm (h A q d k loc φ H s _ E hA hF hS hw) ?_);rintro r s₁ ⟨φ₁,H₁,v₁,e₁,S₁,R₁,w₁⟩;revert w₁;refine xI fun b hb w₁=>?_;obtain rfl:=pz hb;obtain rfl:=R₁;exact ak (i8 (dz (uF ⟨φ₁,H₁,e₁,S₁,w₁⟩)))
def G9(h:mB c wz wu l a):mB c wz wu (.UnaryOp .Not l pos) (.not a):=fun A q d k loc φ H s Q E hA hF hS hw=>
 wpAny_isTrue_Not (wm (h A q d k loc φ H s (fun b H=>Q (!b) H) E hA hF hS hw) (fun _ _ ⟨φ',H',e,S,h⟩=>⟨φ',H',e,S,h⟩))
def iP(c:Cx)(wz:Env)(wu:Res):List Expr->List Ex->Prop
 |[],xs=>xs=[]
 |e::es,xs=>match xs with
  |[]=>False
  |x::xs=>mB c wz wu e x/\iP c wz wu es xs
inductive ie(c:Cx)(wz:Env)(wu:Res)(e:Expr)(es:List Expr)(xs:List Ex):Prop
 |mk (x:Ex)(xs':List Ex)(h:xs=x::xs')(h1:mB c wz wu e x)(h2:iP c wz wu es xs'):ie c wz wu e es xs
theorem iP.uncons(h:iP c wz wu (e::es) xs):ie c wz wu e es xs:=by
 cases xs with
 |nil=>exact h.elim
 |cons x xs=>exact⟨x,xs,rfl,h.1,h.2⟩
theorem BW{t:Bool}:∀{es:List Expr}{xs:List Ex},iP c wz wu es xs->∀A q d k loc φ H s (Q:Bool->Hp->Prop) E,bY c A q d φ s.heap->au c wz wu k loc φ s.heap->aq c φ H s->iG (Calls c) q d k t xs loc Q E H->
  wpAny (model c.prog c.w) A (allTrue (r5 t) es wz) (cW c φ s Q) (aB c φ s E) s
 |[],xs,h=>fun A q d k loc φ H s Q E hA hF hS hw=>by
  obtain rfl:xs=[]:=h;cases t<;>exact hw.elim
 |e::es,xs,h=>fun A q d k loc φ H s Q E hA hF hS hw=>by
  obtain⟨x,xs',rfl,h1,h2⟩:=h.uncons;have key:wpAny (model c.prog c.w) A (isTrue e wz (eval e wz)) (fun b s₁=>d6 (b==t) (wpAny (model c.prog c.w) A (allTrue (r5 t) es wz) (cW c φ s Q) (aB c φ s E) s₁) (cW c φ s Q b s₁)) (aB c φ s E) s:=by
   refine wm (h1 A q d k loc φ H s _ E hA hF hS (Dy hw)) ?_;rintro b s₁ ⟨φ₁,H₁,e₁,S₁,w₁⟩;cases es with
   |nil=>
    obtain rfl:xs'=[]:=h2;cases t<;>cases b<;>first |exact⟨φ₁,H₁,e₁,S₁,w₁⟩|exact wpAny_allTrue_And_nil ⟨φ₁,H₁,e₁,S₁,w₁⟩|exact wpAny_allTrue_Or_nil ⟨φ₁,H₁,e₁,S₁,w₁⟩
   |cons e' es=>
    have ih:=BW (t:=t) h2;obtain⟨x',xs'',rfl,_,_⟩:=h2.uncons;have go:iG (Calls c) q d k t (x'::xs'') loc Q E H₁->wpAny (model c.prog c.w) A (allTrue (r5 t) (e'::es) wz) (cW c φ s Q) (aB c φ s E) s₁:=fun w=>
     a9 (ih A q d k loc φ₁ H₁ s₁ Q E (hA.mono e₁) (hF.mono e₁) S₁ w) (fun J J h=>cW.lift e₁ h) fun J J h=>aB.lift e₁ S₁ h
    cases t<;>cases b<;>first |exact go w₁ |exact⟨φ₁,H₁,e₁,S₁,w₁⟩
  cases t with
  |true=>exact wpAny_allTrue_And_cons (wm key (fun b J h=>by cases b<;>exact h))
  |false=>exact wpAny_allTrue_Or_cons (wm key (fun b J h=>by cases b<;>exact h))
def JN(h:iP c wz wu es xs):mB c wz wu (.BoolOp .And es pos) (.and xs):=fun A q d k loc φ H s Q E hA hF hS hw=>
 wpAny_isTrue_BoolOp (BW (t:=true) h A q d k loc φ H s Q E hA hF hS hw)
def KB(h:iP c wz wu es xs):mB c wz wu (.BoolOp .Or es pos) (.or xs):=fun A q d k loc φ H s Q E hA hF hS hw=>
 wpAny_isTrue_BoolOp (BW (t:=false) h A q d k loc φ H s Q E hA hF hS hw)
def JK(h1:aT c wz wu l a)(h2:lT c wz wu es xs)(hl:os.length=es.length)(hn:es.all rP=true) :
  mB c wz wu (.Compare l (os.map Cm.real) es pos) (.cmp a os xs):=fun A q d k loc φ H s Q E hA hF hS hw=>by
 show wpAny _ _ (eval l wz >>=fun v=>testChain pos v (os.map Cm.real) (markedEach (os.map Cm.real) es (evalEach es wz))) _ _ _;rw[Af hn];refine ak (wm (h1 A q d k loc φ H s _ E hA hF hS hw) ?_);rintro x s₁ ⟨φ₁,H₁,v₁,e₁,S₁,R₁,w₁⟩;exact a9 (AE (go:=testChain pos) (fin:=fun x rv o=>operate [x,rv] (compareOp o x rv) >>=fun cc=>holding [cc] (truthy cc)) (no:=fun J=>pure false) (R:=fun Q φ s=>cW c φ s Q) (fun J J J=>rfl) (fun J J J J J J J=>rfl)
  (fun h hp=>ak (FU (h (dz (uF (hp _ fun φ H Q S hq=>⟨φ,H,aw.refl,S,hq⟩)))))) (fun hp=>aE (hp _ fun φ H Q S hq=>⟨φ,H,aw.refl,S,hq⟩)) (fun e h=>cW.lift e h) h2 hl A q d k loc φ₁ H₁ s₁ Q E v₁ x (hA.mono e₁) (hF.mono e₁) S₁ R₁ w₁)
  (fun J J h=>cW.lift e₁ h) fun J J h=>aB.lift e₁ S₁ h
end
variable {a:Addr}{l:List Bool}{m:Me}{os:OsState}{vs:Array Value}
section
open PySem PyProof.Rows
noncomputable def Tc.real:Tc->Option String
 |.int=>some "int" |.bool=>some "bool" |.list=>some "list" |.tuple=>some "tuple"
 |.str=>some "str"
 |.own _=>none
def oz(h:Heap)(x:Value):Prop:=∀GJ:Prop,(∀(a:Addr),∀(o:Obj),(x=.ref a)->(h.get? a=some o)->(o.cls=.type "list")->GJ)->GJ
def xF(Tx:Option String)(T:String)(b:Bool):Prop:=∀GJ:Prop,(∀(X:String),(Tx=some X)->(typeOf (.type T)=pure (.type "type"))->(isSubtype (.type X) (.type T)=pure b)->(b=false->(jb X==jb T)=false)->GJ)->GJ
def c9{X:String}(e:some b'=some b)(h1:typeOf (.type T)=pure (.type "type"))(h2:isSubtype (.type X) (.type T)=pure b')(h3:(b'||!(jb X==jb T))=true):xF (some X) T b:=by
 obtain rfl:=ai e;exact(fun J kJ=>kJ X rfl h1 h2 (fun h=>by rw[h] at h3;exact Bool.not_eq_eq_eq_not.mp h3))
noncomputable def GK:V->Option String
 |.none=>some "NoneType" |.bool _=>some "bool" |.int _=>some "int" |.tup _=>some "tuple" |.lst _=>some "list"
 |.str _=>some "str"
 |_=>none
theorem qI(hT:t.real=some T)(e:bZ v t=some b):xF (GK v) T b:=by
 cases t with
 |int=>
  obtain rfl:=ai hT;cases v with
  |none=>exact c9 e vW F.sub_NoneType_int (by decide +kernel)
  |bool=>exact c9 e vW F.sub_bool_int (by decide +kernel)
  |int=>exact c9 e vW F.sub_int_int (by decide +kernel)
  |tup=>exact c9 e vW F.sub_tuple_int (by decide +kernel)
  |lst=>exact c9 e vW F.sub_list_int (by decide +kernel)
  |str=>exact c9 e vW F.sub_str_int (by decide +kernel)
  |_=>injection e
 |bool=>
  obtain rfl:=ai hT;cases v with
  |none=>exact c9 e vU F.sub_NoneType_bool (by decide +kernel)
  |bool=>exact c9 e vU F.sub_bool_bool (by decide +kernel)
  |int=>exact c9 e vU F.sub_int_bool (by decide +kernel)
  |tup=>exact c9 e vU F.sub_tuple_bool (by decide +kernel)
  |lst=>exact c9 e vU F.sub_list_bool (by decide +kernel)
  |str=>exact c9 e vU F.sub_str_bool (by decide +kernel)
  |_=>injection e
 |list=>
  obtain rfl:=ai hT;cases v with
  |none=>exact c9 e vT F.sub_NoneType_list (by decide +kernel)
  |bool=>exact c9 e vT F.sub_bool_list (by decide +kernel)
  |int=>exact c9 e vT F.sub_int_list (by decide +kernel)
  |tup=>exact c9 e vT F.sub_tuple_list (by decide +kernel)
  |lst=>exact c9 e vT F.sub_list_list (by decide +kernel)
  |str=>exact c9 e vT F.sub_str_list (by decide +kernel)
  |_=>injection e
 |tuple=>
  obtain rfl:=ai hT;cases v with
  |none=>exact c9 e vj F.sub_NoneType_tuple (by decide +kernel)
  |bool=>exact c9 e vj F.sub_bool_tuple (by decide +kernel)
  |int=>exact c9 e vj F.sub_int_tuple (by decide +kernel)
  |tup=>exact c9 e vj F.sub_tuple_tuple (by decide +kernel)
  |lst=>exact c9 e vj F.sub_list_tuple (by decide +kernel)
  |str=>exact c9 e vj F.sub_str_tuple (by decide +kernel)
  |_=>injection e
 |str=>
  obtain rfl:=ai hT;cases v with
  |none=>exact c9 e vt F.sub_NoneType_str (by decide +kernel)
  |bool=>exact c9 e vt F.sub_bool_str (by decide +kernel)
  |int=>exact c9 e vt F.sub_int_str (by decide +kernel)
  |tup=>exact c9 e vt F.sub_tuple_str (by decide +kernel)
  |lst=>exact c9 e vt F.sub_list_str (by decide +kernel)
  |str=>exact c9 e vt F.sub_str_str (by decide +kernel)
  |_=>injection e
 |own=>injection hT
theorem uJ(S:aq c φ H s){v:V}{x:Value}{t:Tc}{T:String}{b:Bool}(R:ax c φ s.heap v x)(hT:t.real=some T)(e:bZ v t=some b):fV c A φ s (call (.builtin "isinstance") [x,.type T]) (.bool b) H:=by
 intro E;have hlst:∀{i:Nat} {x:Value},ax c φ s.heap (.lst i) x->oz s.heap x:=fun R=>by
  obtain⟨a,rfl,ha⟩:=R;obtain⟨o,h1,h2⟩:=S.isList (bG ha);exact(fun J kJ=>kJ a o rfl h1 h2)
 refine(qI hT e) _ fun X eX h1 h2 h3=>?_;clear e hT t;cases b with
 |true=>
  refine tA (isinstance_true (Tx:=X) h1 h2) ⟨?_,aG.same' S rB⟩;cases v with
  |none=>obtain rfl:=ai eX;obtain rfl:=R;exact rfl
  |bool=>obtain rfl:=ai eX;obtain rfl:=R;exact rfl
  |int=>obtain rfl:=ai eX;obtain⟨t1,rfl⟩:=R;exact rfl
  |tup=>obtain rfl:=ai eX;obtain⟨a,o,vs,n,rfl,_,ho,hc,_⟩:=R;exact⟨o,ho,hc⟩
  |lst=>obtain rfl:=ai eX;refine(hlst R) _ fun a o wk ho hc=>?_;subst wk;exact⟨o,ho,hc⟩
  |str=>obtain rfl:=ai eX;obtain⟨t1,rfl⟩:=R;exact rfl
  |_=>injection eX
 |false=>
  have yes:∀{t:Nat},aG c φ s (fun x H'=>x=.bool false/\H'=H) (.bool false) { s with toks:=t }:=aG.same S rB;have h3:=h3 rfl;cases v with
  |none=>obtain rfl:=ai eX;obtain rfl:=R;exact tA (isinstance_false_none h3 h1 h2) yes
  |bool=>obtain rfl:=ai eX;obtain rfl:=R;exact tA (isinstance_false_bool h3 h1 h2) yes
  |int=>obtain rfl:=ai eX;obtain⟨t1,rfl⟩:=R;exact tA (isinstance_false_int h3 h1 h2) yes
  |tup=>obtain rfl:=ai eX;obtain⟨a,o,vs,n,rfl,_,ho,hc,_⟩:=R;exact tA (isinstance_false_tuple h3 h1 h2) ⟨⟨o,ho,hc⟩,yes⟩
  |lst=>obtain rfl:=ai eX;refine(hlst R) _ fun a o wk ho hc=>?_;subst wk;exact tA (isinstance_false_list h3 h1 h2) ⟨⟨o,ho,hc⟩,yes⟩
  |str=>obtain rfl:=ai eX;obtain⟨t1,rfl⟩:=R;exact tA (isinstance_false_str h3 h1 h2) yes
  |_=>injection eX
theorem wa:es.all dM=true->(backTo pos (fe es wz)).any (·.1)=false:=by
 induction es with
 |nil=>intro _;rfl
 |cons e es ih=>
  intro h;simp only[List.all_cons,Bool.and_eq_true] at h;rw[rf h.1];show(false||(backTo pos (fe es wz)).any (·.1))=false;rw[ih h.2];rfl
def wK(c:Cx)(φ:List Addr)(s:Shared)(Q:List V->Hp->Prop)(a:Args)(s':Shared):Prop:=∀GJ:Prop,(∀(rs:List Value),(a=⟨rs,[]⟩)->∀(φ':List Addr),∀(H':Hp),∀(vs:List V),aw [] φ s φ' s'->aq c φ' H' s'->ah c φ' s'.heap vs rs->Q vs H'->GJ)->GJ
theorem sS(h:gG c wz wu es xs)(hne:es≠[]) {A q d k loc φ H s Q E}(hA:bY c A q d φ s.heap)(hF:au c wz wu k loc φ s.heap)(hS:aq c φ H s)(hw:dI (Calls c) q d k xs loc Q E H) :
  wpAny (model c.prog c.w) A (evalArgs f true (backTo pos (fe es wz)) []) (fun a s'=>wK c φ s (fun vs H=>vs.length=xs.length/\Q vs H) a s') (aB c φ s E) s:=by
 cases es with
 |nil=>exact absurd rfl hne
 |cons e es=>
  have h2:=h.2 A q d k loc φ H s Q E pos hA hF hS hw;have hn:=h.1.1;simp only[List.all_cons,Bool.and_eq_true] at hn;rw[rf hn.1] at h2 ⊢;exact Calls.evalArgs_plain (wm h2 (fun rs s' hJq=>hJq _ fun φ' H' vs e S R q=>fun J kJ=>kJ rs rfl φ' H' vs e S R q))
theorem Gd{f:Str}(O:c.Ok)(hk:wz.kindOf f=some .globalImplicit)(hg:c.g f=some (.ref a))(ho:c.h0.get? a=some o)(hd:o.data=.func fd) (hx:(f==("__debug__":Str))=false) (h:gG c wz wu es xs) (hne:es≠[]):aT c wz wu (.Call (.Name f p) es [] pos) (.call f xs):=fun A q d k loc φ H s Q E hA hF hS hw=>by
 show wpAny _ _ (eval (.Name f p) wz >>=fun fv=>callWith pos fv [] (backTo pos (fe es wz)) []) _ _ _;refine ak (Calls.Name_function_global hF.fn hk (Calls.loadGlobal_global (by rw[hF.gl];exact O.gl.keeps hS.stays) hg ?_) hx);refine Calls.callWith_function (o:=o) (fd:=fd) (wm (sS h hne hA hF hS hw) ?_);rintro _ s₁ w0;refine w0 _ fun rs wk φ₁ H₁ vs e₁ S₁ R₁ eN2=>?_;clear w0;subst wk;obtain⟨l₁,w₁⟩:=eN2;refine⟨⟨S₁.stays a o ho,hd⟩,wpAny_call ?_⟩;refine w₁ _ fun a' o' fd' g1 g2 g3 g4=>?_;clear w₁;rw[hg] at g1;injection g1 with Ja;injection Ja with w4;subst w4;have:=g4 A φ₁ s₁ rs [] (hA.mono e₁).toOkA S₁ R₁ rfl;rw[d5] at this;refine codeAny_mono this ?_;intro r s' hr;cases r with
 |error e=>exact aB.lift e₁ S₁ hr
 |ok f=>cases f with
  |ret v=>exact aG.lift e₁ hr
  |_=>exact hr.elim
def vw(hf:∀a,f≠.ref a){first:List Value}(hplain:args.any (·.1)=false) (h:wpAny M A (evalArgs f true args []) (fun a s₁=>wpAny M A (call f (first++a.pos) a.kw) Q E s₁) E s):wpAny M A (callWith pos f first args []) Q E s:=by
 unfold callWith;refine ak (dz (a9 h (fun a s₁ h₁=>ak (i8 ?_)) fun J J x=>x));rw[hplain];have hk:keeperOf f=pure .machine:=by cases f<;>first |rfl |exact absurd rfl (hf _)
 rw[hk];refine ak (aE ?_);exact ak (a9 h₁ (fun r s₂ hr=>ak (dz (qX (aE hr)))) fun J J x=>x)
def Bl.noref(b:Bl):∀a,b.real≠.ref a:=by intro a;cases b<;>(intro h;injection h)
def Hu{f:Str}{b:Bl}(O:c.Ok)(hk:wz.kindOf f=some .globalImplicit)(hg:c.g f=none)(hb:c.b f=some b.real) (hx:(f==("__debug__":Str))=false) (h:gG c wz wu es xs) (hne:es≠[]):aT c wz wu (.Call (.Name f p) es [] pos) (.blt b xs):=fun A q d k loc φ H s Q E hA hF hS hw=>by
 show wpAny _ _ (eval (.Name f p) wz >>=fun fv=>callWith pos fv [] (backTo pos (fe es wz)) []) _ _ _;refine ak (Calls.Name_function_global hF.fn hk (Calls.loadGlobal_builtin (by rw[hF.gl];exact O.gl.keeps hS.stays) hg (by rw[hF.bl];exact O.bl.keeps hS.stays) hb ?_) hx);refine vw b.noref (wa h.1.1) (wm (sS h hne hA hF hS hw) ?_);rintro _ s₁ w0;refine w0 _ fun rs wk φ₁ H₁ vs e₁ S₁ R₁ eN2=>?_;clear w0;subst wk;obtain⟨l₁,w₁⟩:=eN2;revert w₁;refine xI fun p e w₂=>?_;obtain⟨rfl,e'⟩:=Ef e;exact(uT O (hA.mono e₁) S₁ R₁ e').use e₁ w₂
def JZ(O:c.Ok)(hT:t.real=some T)(hk:wz.kindOf (ar "isinstance")=some .globalImplicit)(hk':wz.kindOf (ar T)=some .globalImplicit) (hg:c.g (ar "isinstance")=none) (hb:c.b (ar "isinstance")=some (.builtin "isinstance")) (hg':c.g (ar T)=none) (hb':c.b (ar T)=some (.type T)) (hx:(ar T==("__debug__":Str))=false) (hn:dM e=true) (h:aT c wz wu e x):aT c wz wu (.Call (.Name (ar "isinstance") p) [e,.Name (ar T) p'] [] pos) (.isi x t):=fun A q d k loc φ H s Q E hA hF hS hw=>by
 show wpAny _ _ (eval (.Name (ar "isinstance") p) wz >>=fun fv=>callWith pos fv [] (backTo pos (fe [e,.Name (ar T) p'] wz)) []) _ _ _;refine ak (Calls.Name_function_global hF.fn hk (Calls.loadGlobal_builtin (by rw[hF.gl];exact O.gl.keeps hS.stays) hg (by rw[hF.bl];exact O.bl.keeps hS.stays) hb ?_));rw[rf hn];refine vw (by intro a h;injection h) rfl (Calls.evalArgs_plain (Calls.spliced_cons (wm (h A q d k loc φ H s _ E hA hF hS hw) ?_)));rintro r s₁ ⟨φ₁,H₁,v₁,e₁,S₁,R₁,w₁⟩;refine Calls.spliced_cons (Calls.Name_function_global hF.fn hk' (Calls.loadGlobal_builtin (by rw[hF.gl];exact O.gl.keeps S₁.stays) hg' (by rw[hF.bl];exact O.bl.keeps S₁.stays) hb' (Calls.spliced_nil ?_)) hx);revert w₁;refine xI fun b hb w₁=>?_;exact(uJ S₁ R₁ hT hb).use e₁ w₁
end
variable {T x:Value}{args:List Value}{b:Addr}{e:Option Expr}{f:Array Value->Array Value}{o:Expr}{t:Nat}{xs:List V}
section
open PySem PyProof.Rows
noncomputable def Me.on:Me->String
 |_=>"list"
noncomputable def Me.nm:Me->Str
 |.append=>"append"
 |.extend=>"extend"
 |.count=>"count"
 |.index=>"index"
noncomputable def Me.id:Me->String
 |.append=>"list.append"
 |.extend=>"list.extend"
 |.count=>"list.count"
 |.index=>"list.index"
theorem Me.slot(m:Me):Slot m.on m.nm m.id:=by
 cases m with
 |append=>exact PySem.F.slot_list_append
 |extend=>exact PySem.F.slot_list_extend
 |count=>exact PySem.F.slot_list_count
 |index=>exact PySem.F.slot_list_index
theorem Me.ty(m:Me):typeOf (.builtin m.id)=pure (.type "method_descriptor"):=by
 cases m with
 |append=>exact PySem.F.type_list_append
 |extend=>exact PySem.F.type_list_extend
 |count=>exact PySem.F.type_list_count
 |index=>exact PySem.F.type_list_index
theorem Me.attrs(m:Me):PlainAttrs m.on:=by
 cases m with
 |_=>exact PySem.F.plainAttrs_list
def ER(S:aq c φ H s)(ha:φ[i]?=some a)(ho:s.heap.get? a=some (ey vs n)) (hr:ah c φ s.heap xs (f vs).toList) (hz:xs.length<=qag) (hv:ax c φ s.heap v r):aG c φ s (fun x H'=>x=v/\H'=H.set i xs) r { s with heap:=s.heap.update a (nS f),toks:=t }:=by
 obtain⟨e,S'⟩:=S.put (h':=s.heap.update a (nS f)) ha (oQ ..) (IsL.update (n:=n) ho f) hr hz;exact⟨φ,_,v,e.trans (aw.of_heap rfl rfl),S'.tok t,ax.mono e.toKp aA.nil hv,rfl,rfl⟩
noncomputable def xp(v:Value):Bool:=v==.bool true
def jl(h:vs.toList=l.map Value.bool):∀y,y∈vs->SeqAt.EqAt A s y (.bool true) (xp y):=fun y hy=>by
 have:y∈vs.toList:=Array.mem_toList_iff.mpr hy;rw[h] at this;revert this;refine xL fun b J wj=>?_;subst wj;have:=SeqAt.EqAt.bool_bool (A:=A) (s:=s) b true;have e:xp (Value.bool b)=(b==true):=by cases b<;>rfl
 rw[e];exact this
theorem Fg:∀l:List Bool,(l.map Value.bool).countP xp=l.count true
 |[]=>rfl
 |b::l=>by
  rw[fK,List.countP_cons,Fg l,List.count_cons];cases b<;>rfl
def oA (c:Cx) (A:Around) (φ:List Addr) (s:Shared) (m:Me) (x:Value) (rs:List Value) (p:V×Hp):Prop:=fV c A φ s (call (.builtin m.id) (x::rs)) p.1 p.2
theorem JQ (S:aq c φ H s) (R1:ax c φ s.heap (.lst i) x) (Rw:ax c φ s.heap w r) (e1:H[i]?=some xs) (hz:xs.length<qag):oA c A φ s .append x [r] (.none,H.set i (xs++[w])):=by
 intro E;have hsl:qag=2^24:=rfl;refine(S.getP R1 e1) _ fun a us n wk ha ho hr hz1 z=>?_;subst wk;refine u7 slot_list_append ⟨_,ho,rfl⟩ entry_list_append ?_ (args_list_append _ _);show wpAny _ _ (updateSeq a (·.push r) >>=fun J=>ret .none) _ _ s;refine ak (wpAny_updateSeq ho rfl (aE ⟨.none,rfl,?_⟩) (by exact ay [_,_,_] [] kab (Y0 V0 V1) (Y1 V2 V1) (Y2 V0 V2) hz z) (by simp;exact ay [_,_,_] [] kab (Y0 V0 V1) (Y1 V2 V1) (Y2 V0 V2) hz z));exact ER (t:=s.toks) S ha ho (by rw[Array.toList_push];exact hr.append (show ah c φ s.heap [w] [r] from⟨Rw,rfl⟩)) (by rw[bw];exact hz) rN
theorem IZ(S:aq c φ H s){ys:List V}(R1:ax c φ s.heap (.lst i) x)(Rw:ax c φ s.heap (.lst j) r)(e1:H[i]?=some xs)(e2:H[j]?=some ys)(hz:xs.length+ys.length<=qag):oA c A φ s .extend x [r] (.none,H.set i (xs++ys)):=by
 intro E;have hsl:qag=2^24:=rfl;refine(S.getP R1 e1) _ fun a us n wk ha ho hr hz1 z=>?_;subst wk;refine(S.getP Rw e2) _ fun a2 us2 n2 wk ha2 ho2 hr2 hz2 z2=>?_;subst wk;refine call_meets PySem.F.slot_list_extend ⟨_,ho,rfl⟩ PySem.F.entry_list_extend (PySem.F.args_list_extend_2 _ _) (PySem.AutoSeq1.list_extend_list_list_0 a us n a2 us2 n2 ?_ (by exact ay [_,_,_] [] kab (Y0 V0 V1) (Y0 V2 V1) (Y2 V0 V2) hz1 z) (by exact gy [_,_,_,_,_] [] 0x294a528003080001840100c201006100c0308080 (Y0 (Y0 V0 V1) (.l 16777217)) (Y0 (Y0 V2 V3) V4) (Y2 V4 (.l 16777216)) (Y2 V0 V2) (Y2 V1 V3) hz hsl z z2)) ⟨ho,ho2,?_⟩
 ·simp[Builtin.List.listTooLong];lia
 ·exact ER (f:=fun x=>x++us2) S ha ho (by rw[Array.toList_append];exact hr.append hr2) (by rw[bw];exact hz) rN
def m6(S:aq c φ H s)(R1:ax c φ s.heap (.lst i) x)(e3:H[i]?=some xs)(e4:gw xs=some l):oA c A φ s .count x [.bool true] (.int (l.count true),H):=by
 intro E;refine(S.getP R1 e3) _ fun a us n wk ha ho hr hz1 z=>?_;subst wk;have hb:=zm hr e4;refine call_meets PySem.F.slot_list_count ⟨_,ho,rfl⟩ PySem.F.entry_list_count (PySem.F.args_list_count_2 _ _) (SeqAt.list_countAt a us n none #[] (.bool true) xp) ⟨ho,jl hb,?_⟩;rw[hb,Fg];exact aG.same S rI
theorem jX(S:aq c φ H s)(R1:ax c φ s.heap (.lst i) x)(e3:H[i]?=some xs)(e4:gw xs=some l)(hm:true∈l):oA c A φ s .index x [.bool true] (.int (l.idxOf true),H):=by
 intro E;have hsl:qag=2^24:=rfl;refine(S.getP R1 e3) _ fun a us n wk ha ho hr hz1 z=>?_;subst wk;have hb:=zm hr e4;have hlt:l.idxOf true<l.length:=List.idxOf_lt_length_iff.mpr hm;have hsz:us.size=l.length:=by rw[<- eY,hb,ao]
 have hat:∀m (h:m<us.size),us[m]=.bool (l[m]'(by lia)):=fun m h=>by
  have:us.toList[m]?=some (.bool (l[m]'(by lia))):=by rw[hb,br,bt (by lia)];rfl
  rw[Array.getElem?_toList,uA h] at this;exact ai this
 refine call_meets PySem.F.slot_list_index ⟨_,ho,rfl⟩ PySem.F.entry_list_index (PySem.F.args_list_index_2 _ _) (SeqAt.list_indexAt a us n none #[] (.bool true) xp (l.idxOf true) (by lia) (by lia) ?_ ?_) ⟨ho,jl hb,?_⟩
 ·rw[hat _ (by lia),List.getElem_idxOf hlt];rfl
 ·intro m h1 h2;rw[hat _ h1];have:=List.not_of_lt_findIdx (p:=(·==true)) (xs:=l) (i:=m) h2;refine xD (l[m]'(by lia)) (fun hl=>?_) fun hl=>?_
  ·simp[hl] at this
  ·rfl
 ·exact aG.same S rI
def C4(H:Hp){β:Type}(v:V)(f:Nat->List V->Option β)(r:β):Prop:=∀GJ:Prop,(∀(i:Nat),∀(xs:List V),(v=.lst i)->(H[i]?=some xs)->(f i xs=some r)->GJ)->GJ
def tQ{f:Nat->List V->Option β}{r:β}(h:((oZ v).bind fun a=>(H[a]?).bind fun xs=>f a xs)=some r):C4 H v f r:=by
 revert h;refine xB fun i hi g=>?_;revert g;refine xB fun xs e g=>?_;exact(fun J kJ=>kJ i xs (zl hi) e g)
def Em{u:Unit}(h:AD v=some u):v=.bool true:=by
 revert h;refine xB fun b hb g=>?_;obtain rfl:=pz hb;revert g;refine xS fun hb J=>?_;rw[hb]
theorem qi(S:aq c φ H s){vs:List V}{p:V×Hp}(R1:ax c φ s.heap v x)(R2:ah c φ s.heap vs rs)(e:sT H m v vs=some p) :
  f9 c A φ s (call (.builtin m.id) (x::rs)) p:=by
 cases m with
 |append=>
  refine(tQ e) _ fun i xs wk e1 g=>?_;subst wk;obtain⟨w,rfl,k⟩:=nK g;refine R2.one _ fun r wk Rw=>?_;subst wk;revert k;refine xS fun hz wj=>?_;subst wj;exact JQ S R1 Rw e1 hz
 |extend=>
  refine(tQ e) _ fun i xs wk e1 g=>?_;subst wk;obtain⟨w,rfl,k⟩:=nK g;obtain⟨j,ys,rfl,e2,k2⟩:=vE k;refine R2.one _ fun r wk Rw=>?_;subst wk;revert k2;refine xS fun hz wj=>?_;subst wj;exact IZ S R1 Rw e1 e2 hz
 |count=>
  obtain⟨i,xs,rfl,e3,f⟩:=vE e;obtain⟨w,rfl,k⟩:=nK f;refine R2.one _ fun r wk Rw=>?_;subst wk;revert k;refine xB fun J hw k1=>?_;obtain rfl:=Em hw;revert k1;refine xM fun l e4 wj=>?_;subst wj;obtain rfl:=Rw;exact m6 S R1 e3 e4
 |index=>
  obtain⟨i,xs,rfl,e3,f⟩:=vE e;obtain⟨w,rfl,k⟩:=nK f;refine R2.one _ fun r wk Rw=>?_;subst wk;revert k;refine xB fun J hw k1=>?_;obtain rfl:=Em hw;revert k1;refine xB fun l e4 k2=>?_;revert k2;refine xS fun hm wj=>?_;subst wj;obtain rfl:=Rw;exact jX S R1 e3 e4 hm
end
variable {f:Value}{l:List V}{t:Tok}{w:World}{x:Ex}{xs:List Ex}
section
open PySem PyProof.Rows
noncomputable def wD:Expr->Bool
 |.Name ..=>true
 |.Constant ..=>true
 |.Subscript ..=>true
 |_=>false
def Di(h:wD o=true):attributeBase o name wz (eval o wz)=eval o wz:=by
 cases o<;>first |rfl |injection h
def Hj{Q:Args->Shared->Prop}(h:Q ⟨[],[]⟩ s):wpAny M A (evalArgs f true [] []) Q E s:=by
 unfold evalArgs;show wpAny M A (spliced [] >>=_) Q E s;refine ak (aE (ak (aE ?_)));refine dz ?_;exact ak (aE (ak (aE (aE h))))
theorem j1(items:Array Value):slicePick items none none (some (-1))=items.toList.reverse.toArray:=by
 have hr:sliceRange ((items.size:Int)-1) (-1) (-1)=(List.range items.size).map fun k=>items.size-1-k:=by
  unfold sliceRange;by_cases h:(items.size:Int)-1 > -1
  ·have e:((items.size:Int)-1 - -1 - -1-1)/(- -1)=(items.size:Int):=by
    rw[show(- -1:Int)=1 from rfl,Int.ediv_one];exact bp [_] [] kac (Y5 (Y2 (Y2 (Y2 (Y2 (Y4 V0 J0) J1) (Y3 J1 J0)) (Y3 J1 J0)) J1) (Y4 V0 J0))
   simp only[show ¬((-1:Int)>0) by decide,if_false,h,if_true,e,jV];exact List.map_congr_left fun k hk=>by have:=gY.mp hk;lia
  ·simp[show items.size=0 by exact aj [_] [] kag (Y2 V0 J0) (Y8 (Y4 (Y3 J1 J0) (Y2 (Y4 V0 J0) J1)) J0) h]
 have hb:sliceBounds none none (some (-1)) items.size=((items.size:Int)-1,-1,-1):=by simp[sliceBounds]
 unfold slicePick;rw[hb];congr 1;show(sliceRange ((items.size:Int)-1) (-1) (-1)).filterMap (items[·]?)=_;rw[hr,List.filterMap_map];have:∀k∈List.range items.size,((items[·]?)∘fun k=>items.size-1-k) k=some (items.toList.reverse.getD k dS):=by
  intro k hk;have hk:=gY.mp hk;show items[items.size-1-k]?=_;rw[b7,List.getElem?_reverse (by simpa using hk),eY,Array.getElem?_toList,uA (by exact aj [_,_] [] kbg (Y1 (Y2 (Y2 V0 J1) V1) V0) (Y1 V1 V0) hk)];rfl
 have fm:∀(f:Nat->Option Value) (g:Nat->Value) (l:List Nat),(∀k∈l,f k=some (g k))->l.filterMap f=l.map g:=by
  intro f g l;induction l with
  |nil=>intro _;rfl
  |cons x r ih=>intro h;rw[List.filterMap_cons_some (h x aI),ih fun k hk=>h k (a0 _ hk),fK]
 rw[fm _ _ _ this];apply List.ext_getElem
 ·simp
 ·intro i h1 h2;have:i<items.size:=by simpa using h2
  simp[this]
theorem jA(h:gG c wz wu es xs) {A q d k loc φ H s Q E}(hA:bY c A q d φ s.heap)(hF:au c wz wu k loc φ s.heap)(hS:aq c φ H s)(hw:dI (Calls c) q d k xs loc Q E H) :
  wpAny (model c.prog c.w) A (evalArgs f true (backTo pos (fe es wz)) []) (fun a s'=>wK c φ s (fun vs H=>vs.length=xs.length/\Q vs H) a s') (aB c φ s E) s:=by
 cases es with
 |cons e es=>exact sS h (by simp) hA hF hS hw
 |nil=>
  have hx:xs=[]:=gj.mp h.1.2.symm;subst hx;exact Hj (fun J kJ=>kJ [] rfl φ H [] aw.refl hS rL ⟨rfl,hw⟩)
def kX(h:es.all dM=true)(hes:es.length<20):((backTo pos (fe es wz)).all (fun x=>!x.1)&&(backToKw pos (keywordEach [] wz)).all (fun x=>x.1.isSome)
   && decide (es.length+([]:List Keyword).length+(if([]:List Keyword).isEmpty then 0 else 1)<30))=true:=by
 have h3:(backTo pos (fe es wz)).all (fun x=>!x.1)=true:=by
  rw[dg];intro x hx;have:=List.any_eq_false.mp (wa (wz:=wz) (pos:=pos) h) x hx;rw[Bool.not_eq_true] at this;rw[this];rfl
 exact gd.mpr ⟨gd.mpr ⟨h3,rfl⟩,decide_eq_true (cN hes (by decide))⟩
theorem n9{A:Around}(S:aq c φ H s)(R:ax c φ s.heap v r)(h:BH m v=true):s.TypeIs r m.on/\(∀a,r=.ref a->∃ob,s.heap.get? a=some ob/\ob.dict=none):=by
 have lst:∀{v},yD v=true->ax c φ s.heap v r->s.TypeIs r "list"/\(∀a,r=.ref a->∃ob,s.heap.get? a=some ob/\ob.dict=none):=fun{v} h R=>by
  cases v with
  |lst i=>
   have R0:=R;obtain⟨a,_,ha⟩:=R0;refine(S.getP R (bt (S.len▸(gW.mp ha).1))) _ fun a us n wk J ho J J J=>?_;subst wk;exact⟨⟨_,ho,rfl⟩,fun a h=>by(injection h with Ja;subst Ja);exact⟨_,ho,rfl⟩⟩
  |_=>injection h
 cases m with
 |_=>exact lst h R
def Ii(hb:wD o=true)(hl:(apos.endLine==pos.line)=true)(hes:es.length<20)(h1:aT c wz wu o x)(h2:gG c wz wu es xs) :
  aT c wz wu (.Call (.Attribute o m.nm apos) es [] pos) (.meth m x xs):=fun A q d k loc φ H s Q E hA hF hS hw=>by
 refine wpAny_Call_method (Di hb) (kX h2.1.1 hes) hl m.attrs m.slot m.ty (wm (h1 A q d k loc φ H s _ E hA hF hS hw) ?_);rintro r s₁ ⟨φ₁,H₁,v₁,e₁,S₁,R₁,hok,w₁⟩;obtain⟨t1,t2⟩:=n9 (A:=A) S₁ R₁ hok;refine⟨t1,t2,vw (by intro a h;injection h) (wa h2.1.1) (a9 (jA h2 (hA.mono e₁) (hF.mono e₁) S₁ w₁) ?_ fun J J h=>aB.lift e₁ S₁ h)⟩;rintro _ s₂ w0;refine w0 _ fun rs wk φ₂ H₂ vs e₂ S₂ R₂ eN2=>?_;clear w0;subst wk;obtain⟨l₂,w₂⟩:=eN2;revert w₂;refine xI fun p e w₂=>?_;exact(qi S₂ (ax.mono e₂.toKp aA.nil R₁) R₂ e).use (e₁.trans e₂) w₂
set_option tactic.hygienic true in
def oF(n:Nat)(i:Int):clipAt n i=qd i n:=by
 have h:=clipAt_cast n i
 unfold qd
 split at h<;>rename_i hi
 ·rw[if_pos hi];exact An [_,_,_] [_,_,_] 0x3298e214a000c20380610040001084294a528003081801840900c202006100803080002006010085294001840700c202006100000031c4294001840700c2008000210a5294a000c205006101c04080c01840200c200004008085294001840700c202006100000028852800308060184010000c71085294a528003081202040a00c20380610180408040204000080101085294a50008102803080e0184060102010081000020040e210a5294001840900c203006100c040800010020210a5294001840700c203006100c040800010020 (Y2 V0 V1) (Y4 V0 J0) (Y5 (Y4 V0 J0) V1) (Y7 (Y5 (Y4 V1 J0) (Y0 V0 (Y4 V2 J0))) (Y6 (Y3 (Y0 V0 (Y4 V2 J0)) J0) (Y2 V1 J0))) (Y7 (Y6 (Y5 V1 J0) (Y3 V2 J0)) (Y6 (Y5 V1 V2) (Y3 J0 V2))) (Y7 (Y6 (Y5 V2 (Y0 V0 (Y4 V2 J0))) (Y3 (Y0 V0 (Y4 V2 J0)) (Y4 V2 J0))) (Y6 (Y5 V2 (Y4 V2 J0)) (Y3 (Y4 V2 J0) (Y0 V0 (Y4 V2 J0))))) hi h (Ar.tn _) (Ar.zx _ _) (Ar.zn _ _)
 ·rw[if_neg hi];exact gy [_,_,_] [_,_,_] 0x192b69084294a5294001840b00c204806101003080401840000c20080801804021085294a50006102c03081201840400c20100610000400c02010a528003080c01840400c20000005b468210a5294a000c206806102c04080801840200c20000c028084294a5294a000c206806102c04081402040400c20100610000308020300a04082108d04214a5294a000c206806102c04080801840200c20000610040601404214a5294a000c206806102c04081402040400c2010061000060140810421214a50006101803080801840000009190a528003080c01840200c2008060408210ada3210a5294a0010206006102803080a02040201020000a02010208423210a5294a50008103003081401840900c2020081008040800028080408210b464214a528003081401840500c201808100005010081042119085294a50006102803081201840400c2018081000050100810421 (Y2 V0 (Y5 V1 V2)) (Y5 (Y4 V0 J0) V0) (Y7 (Y5 (Y4 V1 J0) V1) (Y6 (Y3 V1 J0) (Y2 V1 J0))) (Y7 (Y6 (Y5 V0 J0) (Y3 V2 J0)) (Y6 (Y5 V0 V2) (Y3 J0 V2))) (Y7 (Y6 (Y5 V2 V1) (Y3 V1 (Y4 V2 J0))) (Y6 (Y5 V2 (Y4 V2 J0)) (Y3 (Y4 V2 J0) V1))) h (Ar.tn _) (Ar.zx _ _) (Ar.zn _ _)
theorem ah.drop:∀{l:List V}{rs:List Value},ah c φ h l rs->∀i:Nat,ah c φ h (l.drop i) (rs.drop i)
 |_,_,h,0=>h
 |[],_,h,_+1=>by rw[h.nil_inv];rfl
 |x::xs,_,h,i+1=>by
  refine h.uncons _ fun r rs wk J h2=>?_;subst wk;exact ah.drop h2 i
theorem ah.take:∀{l:List V}{rs:List Value},ah c φ h l rs->∀i:Nat,ah c φ h (l.take i) (rs.take i)
 |_,_,_,0=>rfl
 |[],_,h,_+1=>by rw[h.nil_inv];rfl
 |x::xs,_,h,i+1=>by
  refine h.uncons _ fun r rs wk h1 h2=>?_;subst wk;exact⟨h1,ah.take h2 i⟩
theorem ah.reverse(hr:ah c φ h l rs):ah c φ h l.reverse rs.reverse:=by
 have wq:=hr.length;refine ah.of_get (by simp[wq]) fun i v r h1 h2=>?_;have hi:i<l.length:=by have:=(gW.mp h1).1;simpa using this
 rw[List.getElem?_reverse hi] at h1;rw[List.getElem?_reverse (by exact ay [_,_,_] [] 0x294a000c20000810040308040 (Y1 V0 V1) (Y2 V1 V2) (Y1 V0 V2) wq hi),wq] at h2;refine(hr.get h1) _ fun r' h3 h4=>?_;replace h3:=ai (h2.symm.trans h3);subst h3;exact h4
def Ad(c:Cx)(wz:Env)(wu:Res)(e:Option Expr)(x:Ex):Prop:=
 match e with
 |none=>x=.lit .none
 |some e=>aT c wz wu e x
theorem DZ(h:Ad c wz wu e x) {A q d k loc φ H s Q E}(hA:bY c A q d φ s.heap)(hF:au c wz wu k loc φ s.heap)(hS:aq c φ H s)(hw:aF (Calls c) q d k x loc Q E H) :
  wpAny (model c.prog c.w) A (evalPart e wz) (aG c φ s Q) (aB c φ s E) s:=by
 cases e with
 |none=>
  obtain rfl:x=.lit .none:=h;rw[evalPart_none];exact aE (aG.at' hS rN hw)
 |some e=>
  rw[evalPart_some];exact h A q d k loc φ H s Q E hA hF hS hw
def y0(r:Value)(n dflt k:Nat):Prop:=∀GJ:Prop,(∀(o:Option Int),IsPart r o->(o.elim dflt (clipAt n)=k)->GJ)->GJ
theorem Ga{dflt k:Nat}(R:ax c φ h v r)(hb:bound? n dflt v=some k):y0 r n dflt k:=by
 cases v with
 |none=>obtain rfl:=R;obtain rfl:=ai hb;exact(fun J kJ=>kJ none .none rfl)
 |int i=>obtain⟨t,rfl⟩:=R;obtain rfl:=ai hb;exact(fun J kJ=>kJ (some _) (.int _ _) (oF _ _))
 |_=>injection hb
theorem lW(S:aq c φ H s){vl vu:V}{rl ru:Value}(R:ax c φ s.heap v r)(Rl:ax c φ s.heap vl rl)(Ru:ax c φ s.heap vu ru)(e:vg H v vl vu=some u) {E} :
  wpAny (model c.prog c.w) A (subscriptTail o (.Slice lo hi none p) r (.ref s.heap.objs.size)) (aG c φ s fun x H'=>x=u.1/\H'=u.2) E { s with heap:=s.heap.push { cls:=.type "slice",data:=.fields #[rl,ru,.none] } }:=by
 have hsl:qag=2^24:=rfl;refine(tQ e) _ fun i xs wk ex g=>?_;subst wk;revert g;refine xB fun i ei g=>?_;revert g;refine xM fun j ej wj=>?_;subst wj;refine(S.getP R ex) _ fun b us n wk hb hob hr hz zz=>?_;subst wk;refine(Ga Rl ei) _ fun ol pl el=>?_;refine(Ga Ru ej) _ fun ou pu eu=>?_;refine(zQ (.Slice lo hi none p) (.ref b) (.ref s.heap.objs.size)) _ fun ops hops=>?_;have hL:=nD hob;refine tail_any (hL.push _).typeIs slot_list_getitem.lookup (wpAny_getItem_list_slice (hL.push _) (Heap.IsSliceOf.new ..) pl pu .none (by simp) ?_ (by exact ay [_,_,_] [] kab (Y0 V0 V1) (Y0 V2 V1) (Y2 V0 V2) hz zz)) hops;have S₄:=S.push { cls:=.type "slice",data:=.fields #[rl,ru,.none] };have e₄:aw [] φ s φ { s with heap:=s.heap.push { cls:=.type "slice",data:=.fields #[rl,ru,.none] } }:=aw.push;refine aG.lift e₄ (Az S₄ ?_ ?_)
 ·rw[slicePick_plain,zz,el,eu];exact ah.mono e₄.toKp aA.nil ((hr.drop i).take (j-i))
 ·rw[gg,gF];exact aD (Nat.min_le_right _ _) (aD (Nat.sub_le _ _) hz)
theorem sd(S:aq c φ H s)(R:ax c φ s.heap v r)(e:qe H v=some u) {E} :
  wpAny (model c.prog c.w) A (subscriptTail o (.Slice none none (some (.UnaryOp .USub (.Constant (.int 1) n p) p')) p'') r (.ref s.heap.objs.size)) (aG c φ s fun x H'=>x=u.1/\H'=u.2) E { s with heap:=s.heap.push { cls:=.type "slice",data:=.fields #[.none,.none,.int (-1) t] } }:=by
 have hsl:qag=2^24:=rfl;revert e;refine xB fun i hi g=>?_;obtain rfl:=zl hi;revert g;refine xM fun xs ex wj=>?_;subst wj;refine(S.getP R ex) _ fun b us m wk hb hob hr hz zz=>?_;subst wk;refine(zQ (.Slice none none (some (.UnaryOp .USub (.Constant (.int 1) n p) p')) p'') (.ref b) (.ref s.heap.objs.size)) _ fun ops hops=>?_;have hL:=nD hob;refine tail_any (hL.push _).typeIs slot_list_getitem.lookup (wpAny_getItem_list_slice (hL.push _) (Heap.IsSliceOf.new ..) .none .none (.int (-1) _) (by simp) ?_ (by exact ay [_,_,_] [] kab (Y0 V0 V1) (Y0 V2 V1) (Y2 V0 V2) hz zz)) hops;have S₄:=S.push { cls:=.type "slice",data:=.fields #[.none,.none,.int (-1) t] };have e₄:aw [] φ s φ { s with heap:=s.heap.push { cls:=.type "slice",data:=.fields #[.none,.none,.int (-1) t] } }:=aw.push;refine aG.lift e₄ (Az S₄ ?_ (by rw[List.length_reverse];exact hz));rw[j1];exact ah.mono e₄.toKp aA.nil hr.reverse
def Ku{y z:Ex}(h1:aT c wz wu o x)(h2:Ad c wz wu lo y)(h3:Ad c wz wu hi z):aT c wz wu (.Subscript o (.Slice lo hi none p) pos) (.slice x y z):=fun A q d k loc φ H s Q E hA hF hS hw=>by
 refine Subscript_ (wm (h1 A q d k loc φ H s _ E hA hF hS hw) ?_);rintro r s₁ ⟨φ₁,H₁,v₁,e₁,S₁,R₁,w₁⟩;refine wpAny_Slice (a9 (DZ h2 (hA.mono e₁) (hF.mono e₁) S₁ w₁) ?_ fun J J h=>aB.lift e₁ S₁ h);rintro rl s₂ ⟨φ₂,H₂,v₂,e₂,S₂,R₂,w₂⟩;have e12:=e₁.trans e₂;refine a9 (DZ h3 (hA.mono e12) (hF.mono e12) S₂ w₂) ?_ fun J J h=>aB.lift e12 S₂ h;rintro ru s₃ ⟨φ₃,H₃,v₃,e₃,S₃,R₃,w₃⟩;revert w₃;refine xI fun u e w₃=>?_;rw[evalPart_none];exact aE (wm (lW S₃ (ax.mono (e₂.trans e₃).toKp aA.nil R₁) (ax.mono e₃.toKp aA.nil R₂) R₃ e) (fun J J h=>aG.lift (e12.trans e₃) (h.eq w₃)))
def Hi(h1:aT c wz wu o x):aT c wz wu (.Subscript o (.Slice none none (some (.UnaryOp .USub (.Constant (.int 1) n p) p')) p'') pos) (.rev x):=fun A q d k loc φ H s Q E hA hF hS hw=>by
 refine Subscript_ (wm (h1 A q d k loc φ H s _ E hA hF hS hw) ?_);rintro r s₁ ⟨φ₁,H₁,v₁,e₁,S₁,R₁,w₁⟩;revert w₁;refine xI fun u e w₁=>?_;refine wpAny_Slice ?_;rw[evalPart_none];refine aE (aE ?_);rw[evalPart_some];refine wpAny_UnaryOp (wpAny_Constant_int (PyProof.Rows.neg_int ?_));have et:aw [] φ₁ s₁ φ₁ { s₁ with toks:=s₁.toks+1+1 }:=aw.of_heap rfl rfl;exact wm (sd (S₁.tok (s₁.toks+1+1)) R₁ e) (fun J J h=>aG.lift (e₁.trans et) (h.eq w₁))
end
set_option maxRecDepth 100000
variable {e l:Addr}{f:i4->i4}{hi lo:Int}{m:Str->Option Value}{o:Obj}{rs:List Nat}{t:String}{u:V}{v x:Value}{xs:Array Value}
section
open PySem PyProof.Rows
noncomputable def rvT:String:="list_reverseiterator"
noncomputable def vG(l:Addr)(i:Int):Obj:={ cls:=.type rvT,data:=.fields #[.ref l,rawInt i] }
inductive fZ(h:Heap)(I l:Addr)(i:Int):Prop
 |mk (o:Obj)(ho:h.get? I=some o)(hc:o.cls=.type rvT)(hd:o.data=.fields #[.ref l,rawInt i])
def jw:Manifest.owners.lookup (String.ofList ['r','o','t','a','r','e','t','i','e','s','r','e','v','e','r','_','t','s','i','l'].reverse)=some Manifest.sig_list_reverseiterator:=by kernel_rfl
def xT:Slot rvT "__next__" "list_reverseiterator.__next__":=
 .of (owner:=rvT) (n:="__next__") (by rw[vF,vC];kernel_rfl) (by decide +kernel) (by decide +kernel) (by decide +kernel) (.inl (by decide +kernel)) (by rw[isSubtype_type];kernel_rfl)
def EI:Slot rvT "__iter__" "list_reverseiterator.__iter__":=
 .of (owner:=rvT) (n:="__iter__") (by rw[vF,vC];kernel_rfl) (by decide +kernel) (by decide +kernel) (by decide +kernel) (.inl (by decide +kernel)) (by rw[isSubtype_type];kernel_rfl)
def EP(a:Value):argsOk "list_reverseiterator.__next__" ⟨[a],[]⟩:=by
 unfold argsOk;rw[signature?_of (id:="list_reverseiterator.__next__") (n:=['_','_','t','x','e','n','_','_']) (o:=['r','o','t','a','r','e','t','i','e','s','r','e','v','e','r','_','t','s','i','l']) (by kernel_rfl) jw];kernel_rfl
def Kk(a:Value):argsOk "list_reverseiterator.__iter__" ⟨[a],[]⟩:=by
 unfold argsOk;rw[signature?_of (id:="list_reverseiterator.__iter__") (n:=['_','_','r','e','t','i','_','_']) (o:=['r','o','t','a','r','e','t','i','e','s','r','e','v','e','r','_','t','s','i','l']) (by kernel_rfl) jw];kernel_rfl
def DL:entryFor table "list_reverseiterator.__next__"=some Builtin.«list_reverseiterator.__next__»:=entryFor_of_tree (by kernel_rfl)
theorem HX:entryFor table "list_reverseiterator.__iter__"=some Builtin.«dict_keyiterator.__iter__»:=
 entryFor_alias (id':="dict_keyiterator.__iter__") (by kernel_rfl) (by first |rfl |decide +kernel |(unfold String.splitOn;simp +decide [String.splitOnAux])) (by decide +kernel) (by kernel_rfl)
def jm:mroOf (.type "reversed")=pure [.type "reversed",.type "object"]:=by rw[mroOf_type];kernel_rfl
def qp:Bind.madeBy (.type "reversed")=pure (some "reversed.__new__"):=
 madeBy_type jm (by rw[vF,vC];kernel_rfl) (by decide +kernel)
def kC:entryFor table "reversed.__new__"=some Builtin.«reversed.__new__»:=entryFor_of_tree (by kernel_rfl)
def Ei:plainId "reversed.__new__"=true:=by decide +kernel
def fZ.ty{i:Int}(h:fZ s.heap I l i):s.TypeIs (.ref I) rvT:=let⟨o,ho,hc,_⟩:=h;⟨o,ho,hc⟩
theorem kB (hl : s.heap.IsList l xs) (h : Q (.ref s.heap.objs.size) { s with heap := s.heap.push (vG l ((xs.size : Int) - 1)) }) : wpAny (model prog w) A (call (.type "reversed") [.ref l]) Q E s := by
 obtain ⟨o, ho, hc, n, hd⟩ := id hl;refine wpAny_call (codeAny_of_tree ?_);show wpAny _ _ (callAny (.type "reversed") _) _ _ _;refine aE ⟨Code.quiet_builtin _ (by decide +kernel), codeAny_builtin F.entry_type_call ?_⟩;rw [Around.under_plain (weight_type_call_type "reversed" [.ref l] []) rfl];have h1 : (jb "reversed" == jb "type") = false := by decide +kernel
 have h2 : ((Manifest.find? "reversed").bind (·.mro.findSome? fun t => (Manifest.find? t).bind fun b => if b.noNew then some true else if b.attrs.any (·.1 == "__new__") then some false else none)).getD false = false := by decide +kernel
 have h3 := qp;have h4 : isSubtype (.type rvT) (.type "reversed") = pure false := by rw [isSubtype_type]; kernel_rfl
 have h5 : checkTypeCall "reversed" ⟨[bX l], []⟩ = pure () := by kernel_rfl
 have h6 := jm;repeat (any_goals (first | assumption | wp_step))
 refine codeAny_mono (R := fun r s' => r = .ok (.ret (.ref s.heap.objs.size)) /\ s' = { s with heap := s.heap.push (vG l ((xs.size : Int) - 1)) }) ?_ ?_
 ·refine codeAny_of_tree ?_;show wpAny _ A.in1.in1 (do xW "reversed.__new__" ⟨[.type "reversed", .ref l], []⟩; again (.builtin "reversed.__new__" ⟨[.type "reversed", .ref l], []⟩)) _ _ s;refine ak (mw (a := ()) (by kernel_rfl) (aE ⟨plainId_quiet Ei _, codeAny_builtin kC ?_⟩));rw [Around.under_plainId Ei _];unfold Builtin.«reversed.__new__»;have hself : isSubtype (.type "reversed") (.type "reversed") = pure true := by rw [isSubtype_type]; kernel_rfl
  refine ak (mw (a := (jb "reversed", [bX l])) ?_ ?_)
  ·unfold Builtin.SmallTypes.newClass;simp only [isType, hself, pure_bind, Bool.not_true, gO, if_false]
  refine ak (mw (a := ()) (by first | rfl | kernel_rfl) ?_);refine ak (mw (a := ()) (by first | rfl | kernel_rfl) ?_);dsimp only;refine ak (wpAny_specialOf hl.typeIs F.slot_list_reversed.lookup ?_);dsimp only;refine ak (mw (F.slot_list_reversed.bind _) ?_);show wpAny _ _ (if (i9 "list.__reversed__" == dS) = true then _ else _) _ _ _;rw [if_neg (show ¬ ((i9 "list.__reversed__" == dS) = true) from Bool.false_ne_true)];refine ak (wpAny_rule ?_);refine ak (m := runValue (.call (.builtin "list.__reversed__") ⟨[.ref l], []⟩)) (show wpAny _ _ (call (.builtin "list.__reversed__") [.ref l]) _ _ _ from ?_);refine u7 F.slot_list_reversed hl.typeIs F.entry_list_reversed ?_ (F.args_list_reversed_1 _);unfold Builtin.«list.__reversed__»;refine ak (mw (a := bX l) rfl ?_);refine ak (wpAny_listItems ho hd ?_);refine ak (oV (aE ⟨_, rfl, ?_⟩));exact aE ⟨rfl, rfl⟩
 ·rintro r s' ⟨rfl, rfl⟩;have hT : ({ s with heap := s.heap.push (vG l ((xs.size : Int) - 1)) } : Shared).TypeIs (.ref s.heap.objs.size) rvT := ⟨_, eG _ rfl, rfl⟩;repeat (any_goals (first | assumption | wp_step))
theorem oX {Q : Option Value -> Shared -> Prop} (hI : fZ s.heap I l (i : Int)) (hl : s.heap.IsList l xs) (hx : xs[i]? = some x) (hQ : ∀ h', fZ h' I l ((i : Int) - 1) -> hU I s.heap h' -> Q (some x) { s with heap := h' }) : wpAny (model prog w) A (pyNext (.ref I)) Q E s := by
 obtain ⟨ol, hol, _, nl, hdl⟩ := hl;have hT := hI.ty;obtain ⟨o, ho, hc, hd⟩ := hI;unfold pyNext;refine ak (wpAny_attempt (wpAny_callSpecial?_slot (name := ar "__next__") hT xT (u7 xT hT DL ?_ (EP _))));unfold Builtin.«list_reverseiterator.__next__»;refine ak (mw (a := (bX I, [])) rfl ?_);refine ak (nW ho hd (x := rawInt (i : Int)) rfl ?_);show wpAny _ _ (if (i : Int) < 0 then _ else _) _ _ s;rw [if_neg (Int.not_lt.mpr (iS i))];show wpAny _ _ (field (.ref I) 0 >>= _) _ _ s;refine ak (nW ho hd (x := .ref l) rfl ?_);show wpAny _ _ (seqItems? (.ref l) >>= _) _ _ s;refine ak (wpAny_seqItems hol hdl ?_);simp only [jV, hx];refine ak (wpAny_setField ho hd (by simp) ?_);first
  | refine aE ⟨x, rfl, aE (hQ _ ?_ (oQ ..))⟩
  | refine ak (aE (aE ⟨x, rfl, aE (hQ _ ?_ (oQ ..))⟩))
 exact ⟨_, gi _ ho (Obj.isFreed_of_fields (Obj.data_mapFields hd _)), (Obj.cls_mapFields ..).trans hc, by rw [Obj.data_mapFields hd]; simp⟩
theorem pA{Q:Option Value->Shared->Prop}(hh:A.handled=none)(hI:fZ s.heap I l (-1)) (hQ:∀h',Heap.ExtBut I s.heap h'->Q none { s with heap:=h' }):wpAny (model prog w) A (pyNext (.ref I)) Q E s:=by
 have hT:=hI.ty;obtain⟨o,ho,hc,hd⟩:=hI;unfold pyNext;refine ak (wpAny_attempt (wpAny_callSpecial?_slot (name:=ar "__next__") hT xT (u7 xT hT DL ?_ (EP _))));unfold Builtin.«list_reverseiterator.__next__»;refine ak (mw (a:=(bX I,[])) rfl ?_);refine ak (nW ho hd (x:=rawInt (-1)) rfl ?_);show wpAny _ _ (if(-1:Int)<0 then _ else _) _ _ s;rw[if_pos (by decide)];refine ak (wpAny_rule ?_);refine ak ?_;show wpAny _ _ (newExc (.type "StopIteration") [] >>=_) _ _ _;refine ak ?_;simp only[newExc,newTuple];refine ak (oV ?_ (by size_fits));refine ak (m:=firstArgMember _ _) (mw (a:=dS) (by first |rfl |(simp only[firstArgMember];rfl)) ?_);refine oV ?_ (by size_fits);unfold raiseNew;refine ak (wpAny_handled ?_);first |rw[show A.in1.handled=none from hh] |rw[hh]
 refine ak (aE (wpAny_throw ?_));refine ak (wpAny_isInstance (T:="StopIteration") (b:=true) ⟨_,eG _ rfl,rfl⟩ isSubtype_stop ?_);exact aE (hQ _ (((Heap.ExtBut.refl _ _).push _).push _))
def Gg{i:Int}(hI:fZ s.heap I l i)(h:Q (.ref I) s):wpAny (model prog w) A (pyIter (.ref I)) Q E s:=by
 refine wpAny_pyIter_slot hI.ty EI (u7 EI hI.ty HX ?_ (Kk _));show wpAny _ _ (ret (.ref I)) _ _ s;exact aE ⟨_,rfl,rvT,_,hI.ty,xT.lookup,h⟩
end
variable {Q:Env->Shared->Prop}{l:List Env}{x:V}{xs:List Addr}
section
open PySem PyProof.Rows
def cB(wr:List Addr)(s s':Shared):Prop:=(∀b o,b∉wr->s.heap.get? b=some o->s'.heap.get? b=some o)/\s'.gens=s.gens/\s'.os=s.os
noncomputable def tG:Value->Bool
 |.type t=>["list_iterator","tuple_iterator","range_iterator","longrange_iterator","str_iterator","str_ascii_iterator","enumerate","zip","list_reverseiterator"].contains t
 |_=>false
theorem pK(h:tG v=true):hid v=true:=by
 cases v with
 |type t=>exact List.contains_iff_mem.mpr (.tail _ (.tail _ (.tail _ (List.contains_iff_mem.mp h))))
 |_=>injection h
def uk{w:Value}(h:tG v=true)(hw:tG w=false):v≠w:=fun q=>by rw[q,hw] at h;injection h
def KY(h:tG (bF ps).cls=true):False:=nomatch h
inductive qN(c:Cx)(φ:List Addr)(h:Heap)(b:Addr):Prop
 |mk (h1:b∉φ)(h2:c.h0.get? b=none)(o:Obj)(h3:h.get? b=some o)(h4:tG o.cls=true)(h5:∀es n,o.data≠.dict es n):qN c φ h b
def qN.out(q:qN c φ h b):b∉φ/\c.h0.get? b=none:=let⟨h1,h2,_,_,_,_⟩:=q;⟨h1,h2⟩
def dQ(c:Cx)(wr φ:List Addr)(h:Heap):Prop:=∀b∈wr,qN c φ h b
def cB.kp(h:cB wr s s')(x:dQ c wr φ s.heap):Kp wr φ s.heap φ s'.heap:=
 ⟨nU,fun b o hb J hX J=>h.1 b o hX hb,fun J h=>.inl h,fun b o es n hb J hd=>⟨o,es,n,h.1 b o (fun hw=>by
  obtain⟨_,_,o',h1,_,h2⟩:=x b hw;replace h1:=ai (hb.symm.trans h1);subst h1;exact h2 _ _ hd) hb,hd,.rfl⟩,fun b o vs C hb J hc hd=>⟨vs,by
  rw[<- hd];refine h.1 b o (fun hw=>?_) hb;obtain⟨_,_,o',h1,h2,_⟩:=x b hw;replace h1:=ai (hb.symm.trans h1);subst h1;rw[hc] at h2;injection h2⟩⟩
def dQ.own(x:dQ c wr φ h):aA c wr h:=fun b hb o ho=>by
 obtain⟨_,_,o',h1,h2,_⟩:=x b hb;replace h1:=ai (ho.symm.trans h1);subst h1;exact .inl (pK h2)
def dQ.kp(x:dQ c wr φ h)(e:Kp X φ h φ' h')(hX:∀b∈wr,b∉X):dQ c wr φ' h':=fun b hb=>by
 obtain⟨h1,h2,o,h3,h4,h5⟩:=x b hb;exact⟨e.notin h3 h1,h2,o,e.keep b o h3 h1 (hX b hb) (lr (uk h4 rfl) (uk h4 rfl)),h4,h5⟩
def aq.kept(S:aq c φ H s)(h:cB wr s s')(x:dQ c wr φ s.heap):aq c φ H s':=
 S.mono (h.kp x) x.own (fun b hb=>(x b hb).out.2) (fun a ha o ho=>h.1 a o (fun hw=>(x a hw).out.1 ha) ho) (fun b o hb J=>h.1 b o (fun hw=>by exact cR (((x b hw).out.2).symm.trans hb)) (S.stays b o hb)) (h.2.1.trans S.gens) fun b J hb=>h.1 b _ (fun hw=>by obtain⟨_,_,o1,h1,h2,_⟩:=x b hw;replace h1:=ai (hb.symm.trans h1);subst h1;exact KY h2) hb
def aw.kept(e:aw X φ s φ₁ s₁)(h:cB wr s₁ s₂)(hn:∀b∈wr,s.heap.get? b=none):aw X φ s φ₁ s₂:=
 have out:∀{b o},s.heap.get? b=some o->b∉wr:=fun hb q=>by exact cR ((hn _ q).symm.trans hb)
 { pre:=e.pre
   keep:=fun b o hb hφ hX hc=>h.1 b o (out hb) (e.keep b o hb hφ hX hc)
   new:=e.new
   frame:=fun b o hb hφ hX hc=>let⟨sl,h₁⟩:=e.frame b o hb hφ hX hc;⟨sl,h.1 b _ (out hb) h₁⟩
   tabs:=fun b o hb hφ hX hc=>let⟨o',h₁,c₁⟩:=e.tabs b o hb hφ hX hc;⟨o',h.1 b _ (out hb) h₁,c₁⟩
   dict:=fun b o es n hb hφ hd=>let⟨o₁,es₁,n₁,h₁,d₁⟩:=e.dict b o es n hb hφ hd;⟨o₁,es₁,n₁,h.1 b _ (out hb) h₁,d₁⟩
   exc:=fun b o vs C hb hφ hc hd=>let⟨vs₁,h₁⟩:=e.exc b o vs C hb hφ hc hd;⟨vs₁,h.1 b _ (out hb) h₁⟩
   alive:=fun b o hb hX=>let⟨o',h'⟩:=e.alive b o hb hX;⟨o',h.1 b o' (out hb) h'⟩
   os:=h.2.2.trans e.os }
def rK(c:Cx)(A:Around)(it:Value)(tg:Expr)(wr:List Addr)(s:Shared)(P:Heap->Value->Prop)(E:Value->Shared->Prop)(r:Option Value)(s₁:Shared):Prop:=∀GJ:Prop,(∀(v:Value),(r=some v)->(wpAny (model c.prog c.w) A (letOwnedTupleGo tg it v) (fun J s₂=>cB wr s s₂/\P s₂.heap v) E s₁)->GJ)->GJ
structure qn(c:Cx)(A:Around)(it:Value)(tg:Expr)(wr:List Addr)(items:List V)(ok:Hp->Prop)(St:Nat->List Addr->Heap->Prop):Prop where
 seen:∀i φ h,St i φ h->dQ c wr φ h
 frame:∀i X φ φ' h h',St i φ h->Kp X φ h φ' h'->aA c X h->(∀b∈wr,b∉X)->St i φ' h'
 item:∀i x φ H s E,items[i]?=some x->St i φ s.heap->aq c φ H s->ok H->
  wpAny (model c.prog c.w) A (pyNext it) (rK c A it tg wr s (fun h v=>St (i+1) φ h/\ax c φ h x v) E) E s
 done:∀φ H s E,St items.length φ s.heap->aq c φ H s->ok H->wpAny (model c.prog c.w) A (pyNext it) (fun r s₁=>r=none/\cB wr s s₁) E s
 self:∀i φ s Q E,St i φ s.heap->Q it s->wpAny (model c.prog c.w) A (pyIter it) Q E s
theorem F0{t:Nat}(hs:hU I s.heap h'):cB [I] s { s with heap:=h',toks:=t }:=
 ⟨fun b o hb ho=>(hs.2 b (by simpa using hb)).trans ho,rfl,rfl⟩
theorem Aq{t:Nat}(hs:Heap.ExtBut I s.heap h'):cB [I] s { s with heap:=h',toks:=t }:=
 ⟨fun b o hb ho=>hs b o (by simpa using hb) ho,rfl,rfl⟩
set_option backward.match.sparseCases true in
theorem Jj{Q:Unit->Shared->Prop}(ho:s.heap.get? I=some o)(hc:o.cls=.type t)(ht:["enumerate","zip","dict_itemiterator","dict_reverseitemiterator","odict_iterator","itertools.zip_longest","itertools.pairwise"].contains t=false)
  (h:Q () s):wpAny M A (letOwnedTupleGo tg (.ref I) v) Q E s:=by
 have key:wpAny M A (do
  let(.ref r,.ref a):=(bX I,v) |return
  let o<-load r
  match o.cls,o.data with
  |.type n,.fields vs=>
   if["enumerate","zip","dict_itemiterator","dict_reverseitemiterator","odict_iterator","itertools.zip_longest","itertools.pairwise"].contains n&&vs[0]?==some (rawInt a) then
    rule "for.unpacks-the-owned-tuple"
    updateField r 0 .none
  |_,_=>pure ()) Q E s:=by
  cases v<;>first |exact aE h |skip
  refine ak (wpAny_load ho ?_)
  rw[hc]
  cases o.data<;>first |exact aE h |skip
  dsimp only
  rw[ht]
  exact aE h
 cases tg<;>first |exact aE h |exact key
inductive ia(h:Heap)(I:Addr)(t:String):Prop
 |mk (o:Obj)(h1:h.get? I=some o)(h2:o.cls=.type t)(vs:Array Value)(h3:o.data=.fields vs):ia h I t
def dQ.one(hφ:I∉φ)(h0:c.h0.get? I=none)(ho:ia h I t)(ht:tG (.type t)=true):dQ c [I] φ h:=fun b hb=>by
 rw[aN.mp hb];obtain⟨o,h1,h2,vs,h3⟩:=ho;exact⟨hφ,h0,o,h1,by rw[h2];exact ht,fun es n q=>by rw[h3] at q;injection q⟩
def dQ.keepOne(x:dQ c [I] φ h)(e:Kp X φ h φ' h')(hX:∀b∈[I],b∉X)(ho:h.get? I=some o):h'.get? I=some o:=by
 obtain⟨h1,_,o',h3,h4,_⟩:=x I aI;obtain rfl:=ai (ho.symm.trans h3);exact e.keep I o ho h1 (hX I aI) (lr (uk h4 rfl) (uk h4 rfl))
def z9{P:Heap->Prop}(its:dQ c [I] φ s.heap)(hs:hU I s.heap h')(ho:ia h' I t)(ht:["enumerate","zip","dict_itemiterator","dict_reverseitemiterator","odict_iterator","itertools.zip_longest","itertools.pairwise"].contains t=false) (hP:P h') (R:ax c φ s.heap x v):rK c A (.ref I) tg [I] s (fun h v=>P h/\ax c φ h x v) E (some v) { s with heap:=h',toks:=tk }:=by
 obtain⟨o,h1,h2,_,_⟩:=ho;have k:=F0 (t:=tk) hs;exact(fun J kJ=>kJ v rfl (Jj h1 h2 ht ⟨k,hP,ax.mono (k.kp its) its.own R⟩))
inductive tU(φ:List Addr)(h:Heap)(I a:Addr)(j i:Nat):Prop
 |mk (it:h.IsListIter I a i)(ha:φ[j]?=some a)(hI:I∉φ):tU φ h I a j i
def tU.one(q:tU φ h I a j i):ia h I "list_iterator":=let⟨⟨o,h1,h2,h3⟩,_,_⟩:=q;⟨o,h1,h2,_,h3⟩
def tU.its(h0:c.h0.get? I=none)(q:tU φ h I a j i):dQ c [I] φ h:=dQ.one (let⟨_,_,h⟩:=q;h) h0 q.one rfl
def lG(hh:A.handled=none)(h0:c.h0.get? I=none) :
  qn c A (.ref I) tg [I] items (fun H=>H[j]?=some items) (fun i φ h=>tU φ h I a j i) where
 seen i φ h st:=st.its h0
 frame i X φ φ' h h' st e hX hw:=by
  have it:=st.its h0
  obtain⟨⟨o,ho,r⟩,h2,h3⟩:=st
  exact⟨⟨o,it.keepOne e hw ho,r⟩,y7 e.pre h2,e.notin ho h3⟩
 item i x φ H s E hx st S hok:=by
  have it:=st.its h0
  obtain⟨st1,ha,hI⟩:=st
  refine(S.lists j items hok) _ fun b o vs n h1 h2 h3 h4 h5 J=>?_
  obtain rfl:=ai (ha.symm.trans h1)
  refine(ah.get h5 hx) _ fun v hv hr=>?_
  exact wpAny_pyNext_list_item st1 ⟨o,h2,h3,n,h4⟩ (x:=v) (rM hv) fun h' hit hs=>z9 (tk:=s.toks) it hs (tU.one ⟨hit,ha,hI⟩) (by decide) ⟨hit,ha,hI⟩ hr
 done φ H s E st S hok:=by
  obtain⟨st1,ha,hI⟩:=st
  refine(S.lists j items hok) _ fun b o vs n h1 h2 h3 h4 h5 J=>?_
  obtain rfl:=ai (ha.symm.trans h1)
  refine wpAny_pyNext_list_end hh st1 ⟨o,h2,h3,n,h4⟩ ?_ fun h' hs=>⟨rfl,Aq hs⟩
  rw[<- ah.length h5,eY];exact Array.getElem?_eq_none (aJ _)
 self i φ s Q E st hq:=let⟨h,_,_⟩:=st;wpAny_pyIter_listiter h hq
inductive zX(c:Cx)(φ:List Addr)(h:Heap)(I:Addr)(r:Value)(items:List V)(i:Nat):Prop
 |mk (a:Addr)(hr:r=.ref a)(it:h.IsTupleIter I a i)(R:ax c φ h (.tup items) r)(hI:I∉φ):zX c φ h I r items i
def zX.its(h0:c.h0.get? I=none)(q:zX c φ h I r items i):dQ c [I] φ h:=let⟨_,_,⟨o,h1,h2,h3⟩,_,h4⟩:=q;dQ.one h4 h0 ⟨o,h1,h2,_,h3⟩ rfl
def Ie(hh:A.handled=none)(h0:c.h0.get? I=none) :
  qn c A (.ref I) tg [I] items (fun J=>True) (fun i φ h=>zX c φ h I r items i) where
 seen i φ h st:=st.its h0
 frame i X φ φ' h h' st e hX hw:=by
  have it:=st.its h0
  obtain⟨a,hr,⟨o,h1,h2,h3⟩,h4,h5⟩:=st
  exact⟨a,hr,⟨o,it.keepOne e hw h1,h2,h3⟩,ax.mono e hX h4,e.notin h1 h5⟩
 item i x φ H s E hx st S hok:=by
  have its:=st.its h0
  obtain⟨a,hr,hit,hR,hI⟩:=st
  have hR':=hR
  obtain⟨a',o,vs,n,rfl,ha,ho,hc,hd,hz,hl⟩:=hR
  (injection hr with Ja;subst Ja)
  refine(ah.get hl hx) _ fun v hv hrv=>?_
  exact wpAny_pyNext_tuple_item hit ⟨o,ho,hc,n,hd⟩ (x:=v) (rM hv) fun h' hit' hs=>z9 (tk:=s.toks) its hs (let⟨o,h1,h2,h3⟩:=hit';⟨o,h1,h2,_,h3⟩) (by decide) ⟨_,rfl,hit',ax.mono ((F0 (t:=s.toks) hs).kp its) its.own hR',hI⟩ hrv
 done φ H s E st S hok:=by
  obtain⟨a,hr,hit,hR,hI⟩:=st
  obtain⟨a',o,vs,n,rfl,ha,ho,hc,hd,hz,hl⟩:=hR
  (injection hr with Ja;subst Ja)
  refine wpAny_pyNext_tuple_end hh hit ⟨o,ho,hc,n,hd⟩ ?_ fun h' hs=>⟨rfl,Aq hs⟩
  rw[<- ah.length hl,eY];exact Array.getElem?_eq_none (aJ _)
 self i φ s Q E st hq:=let⟨_,_,h,_,_⟩:=st;wpAny_pyIter_tupleiter h hq
inductive As(φ:List Addr)(h:Heap)(I:Addr)(lo st:Int)(n i:Nat):Prop
 |mk (hi:i<=n)(it:IsRangeIter h I (lo+(i:Int)*st) ((n:Int)-i) st)(hI:I∉φ):As φ h I lo st n i
def As.its(h0:c.h0.get? I=none)(q:As φ h I lo st n i):dQ c [I] φ h:=let⟨_,h1,h2⟩:=q;dQ.one (t:="range_iterator") h2 h0 ⟨_,h1,rfl,_,rfl⟩ rfl
def IA(hh:A.handled=none)(h0:c.h0.get? I=none) :
  qn c A (.ref I) tg [I] ((List.range n).map fun(i:Nat)=>V.int (lo+(i:Int)*st)) (fun J=>True) (fun i φ h=>As φ h I lo st n i) where
 seen i φ h q:=q.its h0
 frame i X φ φ' h h' q e hX hw:=by
  have it:=q.its h0
  obtain⟨q1,q2,q3⟩:=q
  exact⟨q1,it.keepOne e hw q2,e.notin q2 q3⟩
 item i x φ H s E hx q S hok:=by
  have its:=q.its h0
  obtain⟨_,q2,q3⟩:=q
  have hi:i<n:=by
   have:=(gW.mp hx).1
   rw[ao,di] at this;exact this
  rw[br,iM hi] at hx
  obtain rfl:=ai hx
  refine wpAny_pyNext_range_item q2 (by exact aj [_,_] [] kaa (Y4 J0 (Y2 (Y4 V0 J0) (Y4 V1 J0))) (Y1 V1 V0) hi) fun h' hit hs=>z9 its hs ⟨_,hit,rfl,_,rfl⟩ (by decide) ⟨hi,?_,q3⟩ rI
  have e1:lo+((i+1:Nat):Int)*st=lo+(i:Int)*st+st:=by rw[Int.natCast_succ,Int.add_mul,Int.one_mul,Int.add_assoc]
  have e2:(n:Int)-((i+1:Nat):Int)=(n:Int)-i-1:=by exact bp [_,_] [] kac (Y5 (Y2 (Y4 V0 J0) (Y4 (Y0 V1 J1) J0)) (Y2 (Y2 (Y4 V0 J0) (Y4 V1 J0)) J1))
  rw[e1,e2];exact hit
 done φ H s E q S hok:=by
  rw[ao,di] at q
  obtain⟨_,q2,_⟩:=q
  exact wpAny_pyNext_range_end hh q2 (by exact bp [_] [] 171801870336 (Y3 (Y2 (Y4 V0 J0) (Y4 V0 J0)) J0)) fun h' hs=>⟨rfl,Aq hs⟩
 self i φ s Q E q hq:=let⟨_,h,_⟩:=q;wpAny_pyIter_rangeiter h hq
inductive Aw(φ:List Addr)(h:Heap)(I a:Addr)(j n i:Nat):Prop
 |mk (it:fZ h I a ((n:Int)-1-i))(ha:φ[j]?=some a)(hI:I∉φ):Aw φ h I a j n i
def Aw.its(h0:c.h0.get? I=none)(q:Aw φ h I a j n i):dQ c [I] φ h:=let⟨⟨o,h1,h2,h3⟩,_,h4⟩:=q;dQ.one h4 h0 ⟨o,h1,h2,_,h3⟩ rfl
def pF(hh:A.handled=none)(h0:c.h0.get? I=none) :
  qn c A (.ref I) tg [I] items.reverse (fun H=>H[j]?=some items) (fun i φ h=>Aw φ h I a j items.length i) where
 seen i φ h st:=st.its h0
 frame i X φ φ' h h' st e hX hw:=by
  have it:=st.its h0
  obtain⟨⟨o,ho,r1,r2⟩,h2,h3⟩:=st
  exact⟨⟨o,it.keepOne e hw ho,r1,r2⟩,y7 e.pre h2,e.notin ho h3⟩
 item i x φ H s E hx st S hok:=by
  have its:=st.its h0
  obtain⟨st1,ha,hI⟩:=st
  refine(S.lists j items hok) _ fun b o vs n h1 h2 h3 h4 h5 J=>?_
  obtain rfl:=ai (ha.symm.trans h1)
  have hi:i<items.length:=by have:=(gW.mp hx).1;rw[List.length_reverse] at this;exact this
  rw[List.getElem?_reverse hi] at hx
  refine(ah.get h5 hx) _ fun v hv hr=>?_
  have e0:(items.length:Int)-1-i=((items.length-1-i:Nat):Int):=by exact aj [_,_] [] 0x618ca528003080c01840400c20080a100025084a100023410a528003081001840600c20080001a085294a000c206006102803080e01840100005294001840800c202006100005080012842508001 (Y5 (Y2 (Y2 (Y4 V0 J0) J1) (Y4 V1 J0)) (Y4 (Y2 (Y2 V0 J1) V1) J0)) (Y1 V1 V0) hi
  rw[e0] at st1
  refine oX st1 ⟨o,h2,h3,n,h4⟩ (rM hv) fun h' hit hs=>z9 (t:=rvT) (tk:=s.toks) its hs (let⟨o,h1,h2,h3⟩:=hit;⟨o,h1,h2,_,h3⟩) (by decide) ⟨?_,ha,hI⟩ hr
  have:(items.length:Int)-1-((i+1:Nat):Int)=((items.length-1-i:Nat):Int)-1:=by exact aj [_,_] [] kad (Y5 (Y2 (Y2 (Y4 V0 J0) J1) (Y4 (Y0 V1 J1) J0)) (Y2 (Y4 (Y2 (Y2 V0 J1) V1) J0) J1)) (Y5 (Y2 (Y2 (Y4 V0 J0) J1) (Y4 V1 J0)) (Y4 (Y2 (Y2 V0 J1) V1) J0)) e0
  rw[this];exact hit
 done φ H s E st S hok:=by
  rw[List.length_reverse] at st
  obtain⟨st1,_,_⟩:=st
  have:(items.length:Int)-1-(items.length:Int) = -1:=by exact bp [_] [] kac (Y5 (Y2 (Y2 (Y4 V0 J0) J1) (Y4 V0 J0)) (Y3 J1 J0))
  rw[this] at st1
  exact pA hh st1 fun h' hs=>⟨rfl,Aq hs⟩
 self i φ s Q E st hq:=let⟨h,_,_⟩:=st;Gg h hq
theorem Kx:∀{i:Nat}{n:Int}{x:V},(tP n items)[i]?=some x->∃v,items[i]?=some v/\x=.tup [.int (n+i),v]:=by
 induction items with
 |nil=>exact fun h=>nomatch h
 |cons y ys ih=>
  intro i n x h;cases i with
  |zero=>obtain rfl:=ai h;exact⟨y,rfl,by rw[show n+((0:Nat):Int)=n from Int.add_zero n]⟩
  |succ i=>
   obtain⟨v,h1,h2⟩:=ih (n:=n+1) (i:=i) h;exact⟨v,h1,by rw[h2,Int.add_assoc,Int.add_comm 1];rfl⟩
theorem Kl:∀{n:Int},(tP n items).length=items.length:=by
 induction items with
 |nil=>intro n;rfl
 |cons y ys ih=>exact fun{n}=>congrArg (· + 1) (ih (n:=n+1))
inductive zw(φ:List Addr)(h:Heap)(e I a:Addr)(j i:Nat):Prop
 |mk (old:Value)(he:IsEnum h e I (i:Int) old)(it:h.IsListIter I a i)(ha:φ[j]?=some a)(hI:I∉φ)(hE:e∉φ):zw φ h e I a j i
def zw.its(h0:c.h0.get? I=none)(h0':c.h0.get? e=none)(q:zw φ h e I a j i):dQ c [e,I] φ h:=fun b hb=>by
 obtain⟨old,he,⟨o,h1,h2,hd⟩,h3,h4,h5⟩:=q;rcases bj.mp hb with rfl |hb
 ·exact⟨h5,h0',_,he,rfl,fun es n q=>by injection q⟩
 ·rw[aN.mp hb];exact⟨h4,h0,o,h1,by rw[h2];rfl,fun es n q=>by rw[hd] at q;injection q⟩
def jF(hh:A.handled=none) {x1}(h0:c.h0.get? I=none)(h0':c.h0.get? e=none)(hne:e≠I) :
  qn c A (.ref e) (.Tuple es x1 pos) [e,I] (tP 0 items) (fun H=>H[j]?=some items) (fun i φ h=>zw φ h e I a j i) where
 seen i φ h st:=st.its h0 h0'
 frame i X φ φ' h h' st k hX hw:=by
  obtain⟨old,he,⟨o,h1,h2,hd⟩,h3,h4,h5⟩:=st
  exact⟨old,k.keep e _ he h5 (hw e aI) rfl,⟨o,k.keep I o h1 h4 (hw I (a0 _ aI)) (by rw[h2];decide),h2,hd⟩,y7 k.pre h3,k.notin h1 h4,k.notin he h5⟩
 item i x φ H s E hx st S hok:=by
  have its:=st.its h0 h0'
  obtain⟨old,he,hit,h3,h4,h5⟩:=st
  refine(S.lists j items hok) _ fun b o vs n h1 h2 h3' h4' h5' J=>?_
  obtain rfl:=ai (h3.symm.trans h1)
  obtain⟨v0,hv0,rfl⟩:=Kx hx
  refine(ah.get h5' hv0) _ fun v hv hr=>?_
  refine wpAny_pyNext_enum_item he hit ⟨o,h2,h3',n,h4'⟩ (x:=v) (rM hv) hne fun h' heo hit' ht hz hk=>(fun J kJ=>kJ _ rfl ?_)
  refine wpAny_letOwnedTupleGo_enum heo fun h'' he'' hs''=>?_
  have heT:e≠s.heap.objs.size:=ck (ic he)
  have kept:cB [e,I] s { s with heap:=h'',toks:=s.toks+1 }:=
   ⟨fun b o hb ho=>(hs''.2 b (fun q=>hb (by rw[q];exact aI))).trans (hk b o (fun q=>hb (by rw[q];exact aI)) (fun q=>hb (by rw[q];exact a0 _ aI)) ho),rfl,rfl⟩
  refine⟨kept,⟨_,he'',hit'.extBut hs''.extBut (c5 hne),h3,h4,h5⟩,?_⟩
  exact cL.mk s.heap.objs.size _ _ _ rfl S.new ((hs''.2 _ (c5 heT)).trans ht) rfl rfl (by show 2<=qag;decide) ⟨⟨s.toks,by rw[Int.zero_add]⟩,ax.mono (kept.kp its) its.own hr,rfl⟩
 done φ H s E st S hok:=by
  obtain⟨old,he,hit,h3,h4,h5⟩:=st
  refine(S.lists j items hok) _ fun b o vs n h1 h2 h3' h4' h5' J=>?_
  obtain rfl:=ai (h3.symm.trans h1)
  rw[Kl] at he hit
  refine wpAny_pyNext_enum_end hh he hit ⟨o,h2,h3',n,h4'⟩ ?_ fun h' hs=>⟨rfl,fun b o hb ho=>hs b o (fun q=>hb (by rw[q];exact a0 _ aI)) ho,rfl,rfl⟩
  rw[<- ah.length h5',eY];exact Array.getElem?_eq_none (aJ _)
 self i φ s Q E st hq:=let⟨_,he,_,_,_,_⟩:=st;wpAny_pyIter_enum he hq
end
variable {e:Expr}{n x:Str}{ps:List Str}{st:Stmt}{t:Nat}{tk:Tok}
section
open PySem PyProof.Rows
def IP{es:List i4}(hk:∀e∈es,∃n t,e.key=.str n t)(hi:es.findIdx? (fun e=>e.key.isStr n)=none):n∉es.map fun e=>j4 e.key:=fun hm=>by
 revert hm;refine xL fun e he wj=>?_;subst wj;have h:=List.findIdx?_eq_none_iff.mp hi e he;obtain⟨x,t,q⟩:=hk e he;rw[q] at h;exact absurd (show(x==x)=true from beq_self_eq_true _) (by rw[show(x==x)=false from h];exact Bool.false_ne_true)
theorem Fj(hf:∀e,(f e).key=e.key):∀(es:List i4)(i:Nat),(es.modify i f).map (fun e=>j4 e.key)=es.map fun e=>j4 e.key
 |[],_=>by rw[List.modify_nil]
 |e::es,0=>by rw[List.modify_zero_cons,fK,fK,hf]
 |e::es,i+1=>by rw[List.modify_succ_cons,fK,fK,Fj hf es i]
theorem JT(M:Model)(Γ:Ctx)(E:Value->Pos->Shared->Prop)(p:Pos)(s:Shared) {m}(hn:s.heap.Ns a m)(hoo:s.heap.get? a=some o)(name:Str)(v:Value)(Q:Unit->Pos->Shared->Prop) (hQ:∀h',h'.Ns a (fun x=>if x=name then some v else m x)->hU a s.heap h'->(∃o',h'.get? a=some o'/\dK o o')->
   Q () p { s with heap:=h',toks:=s.toks+1 }):Sem.wp M Γ (nsSet a name v) Q E p s:=by
 obtain⟨o1,es,ep,ho,hd,hk,hm⟩:=hn;replace ho:=ai (hoo.symm.trans ho);subst ho;have ho:=hoo;simp only[nsSet,strHash,Sem.wp_bind',Sem.wp_cmd_ask,Sem.wp_pure',Sem.wp_cmd_mkText];rw[Sem.wp_loadPart_of M Γ E p { s with toks:=s.toks+1 } (o:=o) _ ho];have hany:es.any (·.refKey)=false:=by
  rw[Array.any_eq_false'];intro e he;obtain⟨n,t,h⟩:=hk e he;simp[DictEntry.refKey,h]
 simp only[hd,aRefKeyMayBeTheName_eq,aRefKeyMayBeTheNameByArray,hany,Bool.and_false,gO,if_false,Sem.wp_cmd_updatePart];refine⟨by rw[ho];rfl,hQ _ ?_ (oQ ..) ?_⟩
 ·obtain⟨c,d,dt,sl⟩:=o;subst hd;refine xC (es.findIdx? (·.key.isStr name)) (fun hi=>?_) fun i hi=>?_
  ·refine⟨_,_,ep+1,gi _ ho (by simp only[mR,lA,hi];rfl),by simp only[mR,lA,hi];rfl,hk.push _ _ _ _,fun x=>?_⟩;show _=if x=name then some v else m x;rw[<- hm];exact findBy_push (fun n v=>v.isStr n) es name x _ _ v (fun y=>by
    show(name==y)=decide (y=name);by_cases h:y=name
    ·subst h;simp
    ·have:¬name=y:=fun e=>h e.symm;simp[h,this]) hi
  ·refine⟨_,_,ep,gi _ ho (by simp only[mR,lA,hi];rfl),by simp only[mR,lA,hi];rfl,hk.modify _ _,fun x=>?_⟩;show _=if x=name then some v else m x;rw[<- hm];exact findBy_modify (fun n v=>v.isStr n) Value.isStr_inj es name x v i hi
 ·obtain⟨c,d,dt,sl⟩:=o;subst hd;refine xC (es.findIdx? (·.key.isStr name)) (fun hi=>?_) fun i hi=>?_
  ·refine⟨_,gi _ ho (by simp only[mR,lA,hi];rfl),?_⟩;simp only[mR,lA,hi];refine .mk rfl fun es1 n es' n' q1 q2 g=>?_;(injection q1 with Ja Jb;subst Jb;subst Ja);(injection q2 with Ja Jb;subst Jb;subst Ja);obtain⟨l⟩:=es;refine⟨g.1.push _ _ _ _,?_⟩;rw[Array.toList_push,bT];exact og.mpr ⟨g.2,lX.mpr ⟨fX,nB⟩,fun x hx y hy e=>IP (n:=name) (fun e he=>hk e (List.mem_toArray.mpr he)) (by rw[List.findIdx?_toArray] at hi;exact hi) (by rw[aN.mp hy] at e;rw[show x=name from e] at hx;exact hx)⟩
  ·refine⟨_,gi _ ho (by simp only[mR,lA,hi];rfl),?_⟩;simp only[mR,lA,hi];refine .mk rfl fun es1 n es' n' q1 q2 g=>?_;(injection q1 with Ja Jb;subst Jb;subst Ja);(injection q2 with Ja Jb;subst Jb;subst Ja);exact⟨g.1.modify _ _,by rw[Array.toList_modify,Fj (f:=fun e=>{ e with val:=v }) fun J=>rfl];exact g.2⟩
def zY{m}{Q:Unit->Shared->Prop}(hl:wz.kindOf name=some .local)(hf:wz.scope.kind=.function) (hn:s.heap.Ns wz.locals m) (ho:s.heap.get? wz.locals=some o) (h:∀h',h'.Ns wz.locals (fun x=>if x=name then some v else m x)->hU wz.locals s.heap h'->(∃o',h'.get? wz.locals=some o'/\dK o o')->Q () { s with heap:=h',toks:=s.toks+1 }):wpAny M A (storeName wz name v) Q E s:=by
 rw[storeName_local hl (by rw[hf];rfl)];exact fun Γ p J=>JT M Γ _ p s hn ho name v _ h
def JJ{r:Option Value}{Q:Unit->Shared->Prop}(hf:wz.scope.kind=.function)(hl:wz.kindOf name=some .cell) (hc:wz.cells.lookup name=some ca) (ho:s.heap.get? ca=some o) (hd:o.data=.cell r) (h:∀h',h'.get? ca=some { o with data:=.cell (some v) }->hU ca s.heap h'->Q () { s with heap:=h' }):wpAny M A (storeName wz name v) Q E s:=by
 unfold storeName;rw[hl,hf];change wpAny M A (cellOf wz name >>=_) Q E s;refine ak (wpAny_cellOf hc ?_);unfold cellSet;refine ak (wpAny_load ho ?_);rw[hd];exact wpAny_update ho (h _ (gi _ ho rfl) (oQ ..))
def wY(F:au c wz wu k loc φ s.heap)(ho:s.heap.get? wz.locals=some o):own c wz.locals o:=by
 obtain⟨m,⟨⟨o1,es,ep,h1,h2,_,h3⟩,o2,h4,h5⟩,_,_⟩:=F.ns;obtain rfl:=ai (ho.symm.trans h1);obtain rfl:=ai (ho.symm.trans h4);rcases h5 with h5 |h5
 ·exact .inl (by rw[h5.1];decide)
 ·exact .inr (.inr (.inl ⟨h5.1,es,ep,h2,(h3 _).trans h5.2.1⟩))
def C6(F:au c wz wu k loc φ s.heap)(hx:wz.cells.lookup x=some ca)(ho:s.heap.get? ca=some o):own c ca o:=by
 obtain⟨_,_,o',h1,h2⟩:=F.cells x ca hx;obtain rfl:=ai (ho.symm.trans h1);exact .inl (by rw[h2];decide)
def Gc{o:Option V}(h:i<loc.length):(loc.set i o).getD i none=o:=by rw[b7,nu h];rfl
def zK{o:Option V}(h:j≠i):(loc.set i o).getD j none=loc.getD j none:=by rw[b7,nT (c5 h),b7]
def vx(keep:∀b o,b≠a->s.heap.get? b=some o->h'.get? b=some o)
  (hd:∀o es n,s.heap.get? a=some o->o.data=.dict es n->∃o' es' n',h'.get? a=some o'/\o'.data=.dict es' n'/\dK o o') (hx:∀o vs,s.heap.get? a=some o->o.data≠.fields vs):Kp [a] φ s.heap φ h' where
 pre:=nU
 keep b o hb _ hX _:=keep b o (fun e=>hX (by rw[e];exact aI)) hb
 new _ h:=.inl h
 dict b o es n hb _ hdd:=by
  by_cases e:b=a
  ·subst e;exact hd o es n hb hdd
  ·exact⟨o,es,n,keep b o e hb,hdd,.rfl⟩
 exc b o vs _ hb _ _ hdd:=by
  by_cases e:b=a
  ·subst e;exact absurd hdd (hx o vs hb)
  ·exact⟨vs,by rw[<- hdd];exact keep b o e hb⟩
inductive bI(c:Cx)(wz:Env)(wu:Res)(k:dB)(loc:Loc)(φ:List Addr)(H:Hp)(X:List Addr)(s:Shared)(s':Shared):Prop
 |mk (F:au c wz wu k loc φ s'.heap)(S:aq c φ H s')(e:aw X φ s φ s')(kp:cB X s s'):bI c wz wu k loc φ H X s s'
structure SlotPut(wu res':Res)(x:Str)(i:Nat):Prop where
 n:res'.n=wu.n
 fr:res'.fr=wu.fr
 sub:∀y j,res'.lookup y=some j->(y=x/\j=i)\/(y≠x/\wu.lookup y=some j/\j≠i)
 lt:i<wu.n
 nj:x≠cD
 na:x≠ar "at"\/wu.fr=true
def CF(F:au c wz wu k loc φ s.heap)(S:aq c φ H s)(P:SlotPut wu res' x i)(hs':hU a s.heap h') (hd:∀o es n,s.heap.get? a=some o->o.data=.dict es n->∃o' es' n',h'.get? a=some o'/\o'.data=.dict es' n'/\dK o o') (hx:∀o vs,s.heap.get? a=some o->o.data≠.fields vs) (hal:∃o,h'.get? a=some o) (ow:∀o,s.heap.get? a=some o->own c a o) (ha0:c.h0.get? a=none) (haφ:a∉φ) (haX:a∈X) (room:ef wz res'.fr h' m) (sx:iJ c φ h' wz m x ov) (sy:∀y j,y≠x->wu.lookup y=some j->Kp [a] φ s.heap φ h'->aA c [a] s.heap->iJ c φ h' wz m y (loc.getD j none)) (clo:∀kk z,k=some (kk,z)->Kp [a] φ s.heap φ h'->aA c [a] s.heap->mh c wz m kk z φ h') (cells:∀y ca,wz.cells.lookup y=some ca->bf c φ h' ca) :
  bI c wz res' k (loc.set i ov) φ H X s { s with heap:=h',toks:=t }:=by
 have keep:∀b o,b≠a->s.heap.get? b=some o->h'.get? b=some o:=fun b o hb ho=>(hs'.2 b hb).trans ho;have kp:=vx (φ:=φ) keep hd hx;have owx:aA c [a] s.heap:=fun b hb o ho=>by rw[aN.mp hb] at ho ⊢;exact ow o ho
 refine⟨⟨F.fn,F.gl,F.bl,⟨m,room,fun y j hy=>?_,fun kk z hz=>clo kk z hz kp owx⟩,by rw[P.n,gv];exact F.len,F.Lφ,F.L0,cells⟩,?_,?_,fun b o hb ho=>keep b o (fun q=>hb (q▸haX)) ho,rfl,rfl⟩
 ·rcases P.sub y j hy with⟨rfl,rfl⟩|⟨e,hy,hji⟩
  ·rw[Gc (cS P.lt F.len)];exact sx
  ·rw[zK hji];exact sy y j e hy kp owx
 ·exact S.mono (s':={ s with heap:=h',toks:=t }) kp owx (fun b hb=>by rw[aN.mp hb];exact ha0) (fun b hb o ho=>keep b o (fun q=>haφ (q▸hb)) ho) (fun b o hb J=>keep b o (fun q=>by rw[q,ha0] at hb;injection hb) (S.stays b o hb)) S.gens fun b ps hb=>keep b _ (fun q=>hx _ ps (q▸hb) rfl) hb
 ·exact aw.of_own (s':={ s with heap:=h',toks:=t }) hs' haX hd hal rfl hx
def Jm{v:V}(F:au c wz wu k loc φ s.heap)(S:aq c φ H s)(P:SlotPut wu res' x i)(hXL:wz.locals∈X)(hk:wz.kindOf x=some .local)(R:ax c φ s.heap v r) :
  wpAny (model c.prog c.w) A (storeName wz x r) (fun J s'=>bI c wz res' k (loc.set i (some v)) φ H X s s') E s:=by
 obtain⟨m,⟨hn,oL,hoL,hcL⟩,hsl,hjo⟩:=F.ns;refine zY hk F.fn hn hoL fun h' hn' hs' hc'=>?_;obtain⟨o',ho',hcls'⟩:=hc';have hnf:∀o vs,s.heap.get? wz.locals=some o->o.data≠.fields vs:=fun o vs ho hd=>by
  obtain⟨o1,es1,n1,h1,h2,_⟩:=hn;obtain rfl:=ai (ho.symm.trans h1);rw[h2] at hd;injection hd
 have hdd:∀o es n,s.heap.get? wz.locals=some o->o.data=.dict es n->∃o' es' n',h'.get? wz.locals=some o'/\o'.data=.dict es' n'/\dK o o':=fun o es n ho J=>by
  obtain⟨o1,es1,n1,h1,h2,_⟩:=hn';obtain rfl:=ai (ho'.symm.trans h1);obtain rfl:=ai (hoL.symm.trans ho);exact⟨o',es1,n1,ho',h2,hcls'⟩
 have hcL':∀y ca,wz.cells.lookup y=some ca->ca≠wz.locals:=fun y ca hy q=>by
  obtain⟨_,_,o1,h1,h2⟩:=F.cells y ca hy;rw[q] at h1;obtain rfl:=ai (hoL.symm.trans h1);rcases hcL with h |h
  ·rw[h2] at h;exact absurd h.1 (by decide)
  ·rw[h2] at h;exact absurd h.1 (by decide)
 have cs:∀z ca,wz.cells.lookup z=some ca->ca∉[wz.locals]/\bf c φ s.heap ca:=fun z ca hz=>⟨fun q=>hcL' z ca hz (aN.mp q),F.cells z ca hz⟩;have kp:=vx (φ:=φ) (fun b o hb ho=>(hs'.2 b hb).trans ho) hdd hnf;have ow:aA c [wz.locals] s.heap:=fun b hb o ho=>by rw[aN.mp hb] at ho ⊢;exact wY F ho
 refine CF (m:=fun y=>if y=x then some r else m y) F S P hs' hdd hnf ⟨o',ho'⟩ (fun o ho=>wY F ho) F.L0 F.Lφ hXL ⟨hn',o',ho',?_⟩ ?_ (fun y j hy hj kp ow=>?_) (fun kk z hz kp ow=>?_) fun y ca hy=>?_
 ·rcases hcL with h |h
  ·exact .inl ⟨hcls'.cls.trans h.1,P.fr.trans h.2⟩
  ·refine .inr ⟨hcls'.cls.trans h.1,?_,P.fr.trans h.2.2⟩;rcases P.na with hat |h2
   ·rw[if_neg (c5 hat)];exact h.2.1
   ·rw[h.2.2] at h2;injection h2
 ·unfold iJ;rw[hk];exact .yes v r (if_pos rfl) (ax.mono kp ow R)
 ·have hsy:=(hsl y j hj).mono (s:=s) (s':={ s with heap:=h' }) kp ow cs;exact hW.imp hsy (fun J h=>by show cJ _ _ _ (if y=x then _ else _) _;rw[if_neg hy];exact h) id
 ·refine(hjo kk z hz) _ fun h3 fv h4 h5=>?_;exact(fun J kJ=>kJ h3 fv ((if_neg (c5 P.nj)).trans h4) (h5.mono (s:=s) (s':={ s with heap:=h' }) kp ow fun ca o ho J hlt q=>absurd (aN.mp q) (ck hlt)))
 ·obtain⟨h1,h2,o1,h3,h4,h5⟩:=F.cells y ca hy;exact⟨h1,h2,o1,(hs'.2 ca (hcL' y ca hy)).trans h3,h4,h5⟩
def qt(wz:Env)(X:List Addr)(h:Heap)(x:Str):Prop:=∀GJ:Prop,(∀(ca:Addr),∀(r:Option Value),(wz.cells.lookup x=some ca)->h.IsCell ca r->wz.locals<ca->ca∈X->(∀y,wz.cells.lookup y=some ca->y=x)->GJ)->GJ
def GC{v:V}(F:au c wz wu k loc φ s.heap)(S:aq c φ H s)(P:SlotPut wu res' x i)(hk:wz.kindOf x=some .cell)(hc:qt wz X s.heap x)(R:ax c φ s.heap v r) :
  wpAny (model c.prog c.w) A (storeName wz x r) (fun J s'=>bI c wz res' k (loc.set i (some v)) φ H X s s') E s:=by
 obtain⟨m,⟨hn,oL,hoL,hcL⟩,hsl,hjo⟩:=F.ns;refine hc _ fun ca r0 hca eN1 hlt0 hcX hap=>?_;clear hc;obtain⟨oc,hoc,hdc⟩:=eN1;obtain⟨hcφ,hc0,oc',hoc',hcc⟩:=F.cells x ca hca;obtain rfl:=ai (hoc.symm.trans hoc');refine JJ F.fn hk hca hoc hdc fun h' ho' hs'=>?_;have hLc:wz.locals≠ca:=ck hlt0;have no:∀{P:Prop} o,s.heap.get? ca=some o->(∀r,o.data≠.cell r)->P:=fun o ho h=>by
  obtain rfl:=ai (hoc.symm.trans ho);exact absurd hdc (h _)
 have hdd:∀o es n,s.heap.get? ca=some o->o.data=.dict es n->∃o' es' n',h'.get? ca=some o'/\o'.data=.dict es' n'/\dK o o':=fun o es n ho hd=>no o ho fun r q=>by rw[hd] at q;injection q
 have hnf:∀o vs,s.heap.get? ca=some o->o.data≠.fields vs:=fun o vs ho hd=>no o ho fun r q=>by rw[hd] at q;injection q
 have kp:=vx (φ:=φ) (fun b o hb ho=>(hs'.2 b hb).trans ho) hdd hnf;have ow:aA c [ca] s.heap:=fun b hb o ho=>by rw[aN.mp hb] at ho ⊢;exact C6 F hca ho
 have cell:∀{y cy r},y≠x->wz.cells.lookup y=some cy->s.heap.IsCell cy r->h'.IsCell cy r:=fun{y cy r} e h1 ⟨o1,h2,h2'⟩=>⟨o1,(hs'.2 cy fun q=>e (hap y (q▸h1))).trans h2,h2'⟩;refine CF (m:=m) (t:=s.toks) F S P hs' hdd hnf ⟨_,ho'⟩ (fun o ho=>C6 F hca ho) hc0 hcφ hcX ⟨hn.sameBut hs' hLc,oL,(hs'.2 _ hLc).trans hoL,P.fr▸hcL⟩ ?_ (fun y j hy hj kp ow=>?_) (fun kk z hz kp ow=>?_) fun y cy hy=>?_
 ·unfold iJ;rw[hk];exact .yes v ca r hca ⟨_,ho',rfl⟩ (ax.mono kp ow R)
 ·exact hW.imp (hsl y j hj) (fun J h=>cJ.mono (s:=s) (s':={ s with heap:=h' }) kp ow h) (bq.imp (fun cy ry h1 h2=>cell hy h1 h2) fun v r h=>ax.mono kp ow h)
 ·refine(hjo kk z hz) _ fun h3 fv h4 h5=>?_;exact(fun J kJ=>kJ h3 fv h4 (h5.mono (s:=s) (s':={ s with heap:=h' }) kp ow fun cb o ho J hlt q=>absurd (aN.mp q) (ck (cN hlt hlt0))))
 ·obtain⟨h1,h2,o1,h3,h4,h5⟩:=F.cells y cy hy;by_cases q:cy=ca
  ·subst q;obtain rfl:=ai (hoc.symm.trans h3);exact⟨h1,h2,_,ho',h4,_,rfl⟩
  ·exact⟨h1,h2,o1,(hs'.2 cy q).trans h3,h4,h5⟩
end
variable {f:Flow}{t:Tg}{v:V}
section
open PySem PyProof.Rows
def yQ(c:Cx)(A:Around)(φ:List Addr)(s:Shared)(tg:Expr)(items:List V)(ok:Hp->Prop)(H:Hp)(it:Value)(s':Shared):Prop:=∀GJ:Prop,(∀(wr:List Addr),∀(St:Nat->List Addr->Heap->Prop),aw [] φ s φ s'->aq c φ H s'->qn c A it tg wr items ok St->St 0 φ s'.heap->(∀b∈wr,s.heap.get? b=none)->GJ)->GJ
def BF{ok:Hp->Prop}{St:Nat->List Addr->Heap->Prop}(S:aq c φ H s)(hI:I=s.heap.objs.size)(h:qn c A (.ref I) tg [I] items ok St)(hst:St 0 φ (s.heap.push o)):yQ c A φ s tg items ok H (.ref I) { s with heap:=s.heap.push o }:=by
 subst hI;exact(fun J kJ=>kJ _ _ aw.push (S.push o) h hst (fun b hb=>by rw[aN.mp hb];exact fJ (aJ _)))
theorem D3(hh:A.handled=none)(S:aq c φ H s)(R:ax c φ s.heap v r)(hs:d0 H v=some items) :
  wpAny (model c.prog c.w) A (pyIter r) (yQ c A φ s tg items (gx v items) H) E s:=by
 have h0:=S.h0_new (aJ s.heap.objs.size);cases v with
 |tup l=>
  obtain rfl:=ai hs;have R':=R;obtain⟨a,o,vs,n,rfl,ha,ho,hc,hd,hz,hl⟩:=R;exact wpAny_pyIter_tuple ⟨o,ho,hc,n,hd⟩ (BF S rfl (Ie hh (r:=.ref a) h0) ⟨a,rfl,⟨_,eG _ rfl,rfl,rfl⟩,ax.mono (aw.push (X:=[]) (s:=s)).toKp aA.nil R',S.new⟩)
 |lst j=>
  refine(S.getP R hs) _ fun a vs n wk ha ho J J J=>?_;subst wk;exact wpAny_pyIter_list (nD ho) (BF S rfl (lG hh (a:=a) (j:=j) h0) ⟨⟨_,eG _ rfl,rfl,rfl⟩,ha,S.new⟩)
 |rng lo hi st=>
  obtain rfl:=ai hs;obtain⟨a,t,u,v,rfl,ha,hr,hb⟩:=R;refine wpAny_pyIter_range hr (Gj hb) ?_;rw[Df lo hi st hb.2.2.1];have e:eQ lo hi st=(List.range (eQ lo hi st).length).map fun(i:Nat)=>V.int (lo+(i:Int)*st):=by
   rw[CP];rfl
  generalize(eQ lo hi st).length=n at e ⊢;rw[e];refine BF S rfl (IA hh (lo:=lo) (st:=st) (n:=n) h0) ⟨eA _,?_,S.new⟩;have:=eG (h:=s.heap) (o:={ cls:=.type "range_iterator",data:=.fields #[rawInt lo,rawInt (n:Int),rawInt st] }) rfl;simpa using this
 |_=>injection hs
end
variable {I:Loc->(Bool->Hp->Prop)->Hp->Prop}{r:List (Str×aU)}
section
open PySem PyProof.Rows
theorem KL{target:Expr}{scope:Scope}{acc:Value}(I:Nat->Shared->Prop) (turn:∀n s,I n s->wpAny (model prog w) A (pyNext it) (fun r s₁=>match r with
   |none=>R (.ok .next) s₁
   |some v=>wpAny (model prog w) A (letOwnedTupleGo target it v) (fun J s₁'=>wpAny (model prog w) A (assign target wz v) (fun J s₂=>
     wpAny (model prog w) A (forIn ifs true fun c r=>if r=true then do let ok<-isTrue c wz (eval c wz);pure (rH ok) else pure (rH r)) (fun ok s₃=>
      if ok=true then wpAny (model prog w) A (eval elt wz) (fun x s₄=>
       wpAny (model prog w) A (call (.builtin "list.append") [acc,x]) (fun J s₅=>∃m,m<n/\I m s₅) (fun J J=>False) s₄) (fun J J=>False) s₃
      else ∃m,m<n/\I m s₃) (fun J J=>False) s₂) (fun J J=>False) s₁') (fun J J=>False) s₁) (fun J J=>False) s)
  (n:Nat) (h:I n s) :
  codeAny (model prog w) A (.compLoop (.ListComp elt [⟨target,iter,ifs,0⟩] scope pos) 0 it acc wz) R s:=by
 refine codeAny_loop rfl I (fun n s hI=>?_) n h;show wpAny _ A ((compTurn (.ListComp elt [⟨target,iter,ifs,0⟩] scope pos) 0 it acc wz).onRaise (fun x=>do noteFrame x wz;theTreesLotGoes x)) _ _ s;refine wpAny_noted ?_;rw[compTurn_list];refine ak (i8 (ak (a9 (turn n s hI) (fun r s₁ h₁=>?_) fun J J h'=>h'.elim)));cases r with
 |none=>exact aE h₁
 |some v=>
  refine ak (a9 h₁ (fun J s₁' h₁'=>?_) fun J J h'=>h'.elim);refine ak (a9 h₁' (fun J s₂ h₂=>ak (a9 h₂ (fun ok s₃ h₃=>?_) fun J J h'=>h'.elim)) fun J J h'=>h'.elim);cases ok with
  |false=>exact aE ⟨rfl,h₃⟩
  |true=>
   exact ak (ak (a9 h₃ (fun x s₄ h₄=>ak (a9 h₄ (fun J s₅ h₅=>aE (aE ⟨rfl,h₅⟩)) fun J J h'=>h'.elim)) fun J J h'=>h'.elim))
noncomputable def e9(wz:Env):List (Str×aU)->List (Str×Addr)->List (Str×Addr)
 |[],acc=>acc
 |(n,k)::r,acc=>if k==.free then e9 wz r ((n,(wz.cells.lookup n).getD 0)::acc) else e9 wz r acc
theorem Bo{k:aU}:e9 wz ((n,k)::r) acc=if k==.free then e9 wz r ((n,(wz.cells.lookup n).getD 0)::acc) else e9 wz r acc:=rfl
theorem EC(f:Str×aU->List (Str×Addr)->Sem (ForInStep (List (Str×Addr)))) (hf:∀n k cs,f (n,k) cs=if k==.free then(do let a<-cellOf wz n;pure (.yield ((n,a)::cs))) else pure (.yield cs)) :
  ∀(names:List (Str×aU)) (acc:List (Str×Addr)),(∀n,(n,eV)∈names->∃ca,wz.cells.lookup n=some ca)->forIn names acc f=pure (e9 wz names acc)
 |[],acc,_=>List.forIn_nil
 |(n,k)::r,acc,h=>by
  have ih:=fun acc=>EC f hf r acc fun n hn=>h n (a0 _ hn);rw[List.forIn_cons,hf];rw[Bo];by_cases hk:(k==eV)=true
  ·rw[if_pos hk,if_pos hk];have hk':k=.free:=by simpa using hk
   subst hk';obtain⟨ca,hca⟩:=h n aI;simp only[cellOf,hca,Option.getD_some];simp only[pure_bind];exact ih _
  ·rw[if_neg hk,if_neg hk];simp only[pure_bind];exact ih _
theorem JE{scope:Scope}(h:∀n,(n,eV)∈scope.names->∃ca,wz.cells.lookup n=some ca):closureFor scope wz=pure (e9 wz scope.names []):=by
 unfold closureFor;have:=EC (wz:=wz) (fun x r=>match x with
  |(name,kind)=>if(kind==eV)=true then(do let a<-cellOf wz name;pure (.yield ((name,a)::r))) else pure (.yield r)) (fun n k cs=>rfl) scope.names [] h
 simp only[bind_pure] at this ⊢;exact this
set_option tactic.hygienic true in
theorem vR:∀{names:List (Str×aU)} {acc:List (Str×Addr)} {x:Str} {ca:Addr},(e9 wz names acc).lookup x=some ca ->
  acc.lookup x=some ca\/((x,eV)∈names/\ca=(wz.cells.lookup x).getD 0)
 |[],acc,x,ca,h=>.inl h
 |(n,k)::r,acc,x,ca,h=>by
  rw[Bo] at h
  split at h
  ·rename_i hk
   have hk':k=.free:=by simpa using hk
   subst hk'
   rcases vR h with h |h
   ·rw[dr] at h
    refine xD (x==n) (fun hb=>?_) fun hb=>?_
    ·rw[hb] at h
     have:=beq_iff_eq.mp hb;subst this
     (injection h with Ja;subst Ja)
     exact .inr ⟨aI,rfl⟩
    ·rw[hb] at h;exact .inl h
   ·exact .inr ⟨a0 _ h.1,h.2⟩
  ·rcases vR h with h |h
   ·exact .inl h
   ·exact .inr ⟨a0 _ h.1,h.2⟩
set_option tactic.hygienic true in
theorem AY:∀{names:List (Str×aU)} {acc:List (Str×Addr)} {x:Str},((x,eV)∈names\/(acc.lookup x).isSome)->((e9 wz names acc).lookup x).isSome
 |[],acc,x,h=>by
  rcases h with h |h
  ·cases h
  ·exact h
 |(n,k)::r,acc,x,h=>by
  rw[Bo]
  split
  ·rename_i hk
   refine AY ?_
   rcases h with h |h
   ·rcases bj.mp h with e |h
    ·cases e
     right;simp[dr]
    ·exact .inl h
   ·right
    rw[dr]
    cases x==n<;>simp[h]
  ·rename_i hk
   refine AY ?_
   rcases h with h |h
   ·rcases bj.mp h with e |h
    ·cases e;exact absurd rfl hk
    ·exact .inl h
   ·exact .inr h
theorem Kq {scope:Scope} {code:Value} (hQ:Q { scope,locals:=s.heap.objs.size,globals,cells:=dN (s.heap.objs.size+1) scope.names closure,qual,func,code:=outer.code,frame:=outer.frame,builtins:=outer.builtins } { s with heap:=dJ (s.heap.push { cls:=.type "dict",data:=.dict #[] }) scope.names }) :
  wpAny M A (r3 scope globals closure [] qual func code (some outer)) Q E s:=by
 simp only[r3,Option.isSome_some,if_true];refine ak (wpAny_alloc ?_);refine ak (wpAny_layCells _ (fun name kind cells=>by cases hkc:kind==qaj<;>simp[hkc]) _ _ _ _ ?_);rw[show({ s with heap:=s.heap.push { cls:=.type "dict",data:=.dict #[] } }:Shared).heap.objs.size=s.heap.objs.size+1 from oR ..];rw[List.forIn_nil];exact ak (aE (aE hQ))
theorem DJ:∀{es:List Expr}{xs:List Ex},iP c wz wu es xs->∀A q d k loc φ H s Q (E:Value->Shared->Prop),bY c A q d φ s.heap->au c wz wu k loc φ s.heap->aq c φ H s->rr (Calls c) q d k xs loc Q H->
  wpAny (model c.prog c.w) A (forIn es true fun c r=>if r=true then do let ok<-isTrue c wz (eval c wz);pure (rH ok) else pure (rH r)) (cW c φ s Q) E s
 |[],xs,h=>fun A q d k loc φ H s Q E hA hF hS hw=>by
  obtain rfl:xs=[]:=h;rw[List.forIn_nil];exact aE ⟨φ,H,aw.refl,hS,hw⟩
 |e::es,xs,h=>fun A q d k loc φ H s Q E hA hF hS hw=>by
  obtain⟨x,xs',rfl,h1,h2⟩:=h.uncons;rw[List.forIn_cons];refine ak (ak (a9 (h1 A q d k loc φ H s _ fo hA hF hS hw) ?_ fun J J h=>aB.no h));rintro b s₁ ⟨φ₁,H₁,e₁,S₁,w₁⟩;refine aE ?_;cases b with
  |true=>exact wm (DJ h2 A q d k loc φ₁ H₁ s₁ Q E (hA.mono e₁) (hF.mono e₁) S₁ w₁) (fun J J h=>cW.lift e₁ h)
  |false=>
   have:∀es:List Expr,(forIn es false fun c r=>if r=true then do let ok<-isTrue c wz (eval c wz);pure (rH ok) else pure (rH r):Sem Bool)=pure false:=by
    intro es;induction es with
    |nil=>rfl
    |cons e es ih=>rw[List.forIn_cons];exact ih
   show wpAny _ _ (forIn es false _) _ _ _;rw[this];exact aE ⟨φ₁,H₁,e₁,S₁,w₁⟩
def au.sub(F:au c wz wu k loc φ h)(hn:res'.n<=loc'.length)(hff:res'.fr=wu.fr)(hs:∀x i,res'.lookup x=some i->wu.lookup x=some i/\loc'.getD i none=loc.getD i none):au c wz res' none loc' φ h where
 fn:=F.fn
 gl:=F.gl
 bl:=F.bl
 ns:=by
  obtain⟨m,h1,h2,h3⟩:=F.ns
  exact⟨m,by rw[hff];exact h1,fun x i hx=>by rw[(hs x i hx).2];exact h2 x i (hs x i hx).1,fun kk z hz=>nomatch hz⟩
 len:=hn
 Lφ:=F.Lφ
 L0:=F.L0
 cells:=F.cells
end
variable {Q:Bool->Shared->Prop}{acc:List V}{outer:List Env}{r:Value}
section
open PySem PyProof.Rows
structure a8(al:Str->Bool)(wz:Env)(wu res':Res)(x:Str)(i:Nat):Prop extends SlotPut wu res' x i where
 kind:wz.kindOf x=some .local\/(al x=true/\wz.kindOf x=some .cell)
inductive hJ(al:Str->Bool)(wz:Env)(wu:Res)(e:Expr)(i:Nat)(P:Res->Prop):Prop
 |mk (x:Str)(p:Pos)(res1:Res)(h:e=.Name x p)(h1:a8 al wz wu res1 x i)(h2:P res1):hJ al wz wu e i P
def tE(al:Str->Bool)(wz:Env):Res->Res->List Expr->List Nat->Prop
 |wu,res',[],is=>res'=wu/\is=[]
 |wu,res',e::es,is=>match is with
  |[]=>False
  |i::is=>hJ al wz wu e i fun res1=>tE al wz res1 res' es is
def kU(al:Str->Bool)(wz:Env)(wu res':Res)(e:Expr)(t:Tg):Prop:=match t with
 |.one i=>∃x p,e=.Name x p/\a8 al wz wu res' x i
 |.two i j=>∃es x p,e=.Tuple es x p/\tE al wz wu res' es [i,j]
def tq(wz:Env)(X:List Addr)(x:Str):Prop:=∀GJ:Prop,(∀(ca:Addr),(wz.cells.lookup x=some ca)->wz.locals<ca->ca∈X->(∀y,wz.cells.lookup y=some ca->y=x)->GJ)->GJ
noncomputable def aO:Str->Bool:=fun J=>true
structure aP(al:Str->Bool)(wz:Env)(X:List Addr):Prop where
 loc:wz.locals∈X
 cell:∀x,al x=true->wz.kindOf x=some .cell->tq wz X x
 only:∀b∈X,b=wz.locals\/∃x,wz.cells.lookup x=some b
def au.ownX(F:au c wz wu k loc φ s.heap)(hX:aP al wz X):aA c X s.heap:=fun b hb o ho=>by
 rcases hX.only b hb with rfl |⟨x,hx⟩
 ·exact wY F ho
 ·exact C6 F hx ho
def au.outX(F:au c wz wu k loc φ s.heap)(hX:aP al wz X):∀b∈X,b∉φ/\c.h0.get? b=none:=fun b hb=>by
 rcases hX.only b hb with rfl |⟨x,hx⟩
 ·exact⟨F.Lφ,F.L0⟩
 ·exact(F.cells x b hx).out
def cB.trans(a:cB X s s₁)(b:cB X s₁ s₂):cB X s s₂:=
 ⟨fun y o hy ho=>b.1 y o hy (a.1 y o hy ho),b.2.1.trans a.2.1,b.2.2.trans a.2.2⟩
def qY(F:au c wz wu k loc φ s.heap)(S:aq c φ H s)(h:a8 al wz wu res' x i)(hX:aP al wz X)(R:ax c φ s.heap v r) :
  wpAny (model c.prog c.w) A (storeName wz x r) (fun J s'=>bI c wz res' k (loc.set i (some v)) φ H X s s') E s:=by
 rcases h.kind with h5 |⟨ha,hk⟩
 ·exact Jm F S h.toSlotPut hX.loc h5 R
 ·refine GC F S h.toSlotPut hk ?_ R;refine(hX.cell x ha hk) _ fun ca g1 g2 g3 g4=>?_;obtain⟨_,_,o,h3,_,r,h5⟩:=F.cells x ca g1;exact(fun J kJ=>kJ ca r g1 ⟨o,h3,h5⟩ g2 g3 g4)
theorem FD(hX:aP al wz X):∀{es:List Expr}{is:List Nat}{vs:List V}{rs:List Value}{wu res':Res}{loc loc':Loc}{s:Shared},
  tE al wz wu res' es is->vm is vs loc=some loc'->au c wz wu k loc φ s.heap->aq c φ H s->ah c φ s.heap vs rs->
  wpAny (model c.prog c.w) A (assignInOrder ((assignEach es wz).map (·.2)) rs) (fun J s'=>bI c wz res' k loc' φ H X s s') E s
 |[],is,vs,rs,wu,res',loc,loc',s,h,hb,F,S,R=>by
  obtain⟨rfl,rfl⟩:=h;cases vs with
  |nil=>
   obtain rfl:=ai hb;obtain rfl:=R.nil_inv;exact aE ⟨F,S,aw.refl,fun J J J h=>h,rfl,rfl⟩
  |cons=>injection hb
 |e::es,[],vs,rs,wu,res',loc,loc',s,h,hb,F,S,R=>h.elim
 |e::es,i::is,[],rs,wu,res',loc,loc',s,h,hb,F,S,R=>nomatch hb
 |e::es,i::is,v::vs,rs,wu,res',loc,loc',s,h,hb,F,S,R=>by
  obtain⟨x,p,res1,rfl,h1,h2⟩:=h;refine R.uncons _ fun r rs wk R1 R2=>?_;subst wk;show wpAny _ _ (do holding rs (assign (.Name x p) wz r);assignInOrder ((assignEach es wz).map (·.2)) rs) _ _ s;refine ak (dz (wpAny_assign_Name (wm (qY F S h1 hX R1) ?_)));rintro _ s₁ ⟨F₁,S₁,e₁,k₁⟩;refine wm (FD hX h2 hb F₁ S₁ (ah.mono e₁.toKp (F.ownX hX) R2)) ?_;rintro _ s₂ ⟨F₂,S₂,e₂,k₂⟩;exact⟨F₂,S₂,e₁.trans e₂,k₁.trans k₂⟩
theorem Dm:∀{es:List Expr}{is:List Nat}{wu res':Res},tE al wz wu res' es is->(assignEach es wz).length=is.length/\(assignEach es wz).findIdx? (·.1)=none
 |[],is,_,_,h=>by obtain⟨rfl,rfl⟩:=h;exact⟨rfl,rfl⟩
 |e::es,[],_,_,h=>h.elim
 |e::es,i::is,_,_,h=>by
  obtain⟨x,p,res1,rfl,_,h2⟩:=h;obtain⟨h3,h4⟩:=Dm h2;refine⟨congrArg (· + 1) h3,?_⟩;show(((false,assign (.Name x p) wz)::assignEach es wz).findIdx? (·.1))=none;rw[List.findIdx?_cons,h4];rfl
theorem E2:∀{is:List Nat}{vs:List V}{loc loc':Loc},vm is vs loc=some loc'->vs.length=is.length
 |[],[],_,_,_=>rfl
 |_::_,_::_,_,_,h=>congrArg (· + 1) (E2 (by exact h))
 |[],_::_,_,_,h=>nomatch h
 |_::_,[],_,_,h=>nomatch h
def EY(hh:A.handled=none)(hX:aP al wz X) {x1}{vs:List V} (h:tE al wz wu res' es is) (hb:vm is vs loc=some loc') (F:au c wz wu k loc φ s.heap) (S:aq c φ H s) (R:ax c φ s.heap (.tup vs) r) :
  wpAny (model c.prog c.w) A (assign (.Tuple es x1 pos) wz r) (fun J s'=>bI c wz res' k loc' φ H X s s') E s:=by
 obtain⟨a,o,us,n,rfl,ha,ho,hc,hd,hz,hl⟩:=R;have wq:us.size=is.length:=by rw[<- E2 hb,<-ah.length hl,eY]
 refine wpAny_assign_Tuple hh ⟨o,ho,hc,n,hd⟩ ((Dm h).1.trans wq.symm) (Dm h).2 fun h' hx=>?_;have keep:∀b o,s.heap.get? b=some o->h'.get? b=some o:=fun b o hb=>hx b o (ck (ic hb)) hb;have e:aw [] φ s φ { s with heap:=h' }:=aw.of_keeps keep rfl;refine wm (FD hX h hb (F.mono e) (S.keeps (s':={ s with heap:=h' }) keep rfl) (ah.mono e.toKp aA.nil hl)) ?_;rintro _ s₂ ⟨F₂,S₂,e₂,k₂⟩;exact⟨F₂,S₂,(e.weaken (fun J h=>nomatch h) fun b hb=>(F.outX hX b hb).1).trans e₂,fun b o hb ho=>k₂.1 b o hb (keep b o ho),k₂.2⟩
theorem Fe(hh:A.handled=none)(hX:aP al wz X) (h:kU al wz wu res' tg t) (hb:gA t v loc=some loc') (F:au c wz wu k loc φ s.heap) (S:aq c φ H s) (R:ax c φ s.heap v r) :
  wpAny (model c.prog c.w) A (assign tg wz r) (fun J s'=>bI c wz res' k loc' φ H X s s') E s:=by
 cases t with
 |one i=>
  obtain⟨x,p,rfl,h⟩:=h;obtain rfl:=ai hb;exact wpAny_assign_Name (qY F S h hX R)
 |two i j=>
  obtain⟨es,x,p,rfl,h⟩:=h;revert hb;refine xB fun vs h1 g=>?_;obtain rfl:=vy h1;cases LV.of vs with
  |two a b=>exact EY hh hX h (show vm [i,j] [a,b] loc=some loc' from g) F S R
  |_=>injection g
end
variable {es:Array i4}
section
open PySem PyProof.Rows
inductive wN(T:Value)(h:Heap)(C:Addr)(m:Str->Option Value):Prop
 |mk (ns:h.Ns C m)(o:Obj)(ho:h.get? C=some o)(hc:o.cls=T):wN T h C m
abbrev iO (h:Heap) (C:Addr) (m:Str->Option Value):Prop:=wN (.type "dict") h C m
def iO.ns(q:iO h C m):h.Ns C m:=let⟨n,_,_,_⟩:=q;n
def Bk(T:Value)(h:Heap)(C:Addr)(m₀:Str->Option Value)(n:Str):Prop:=∀GJ:Prop,(∀(m:Str->Option Value),wN T h C m->(∀y,y≠n->m y=m₀ y)->GJ)->GJ
theorem Gh{p q:α->Bool}(hpq:∀e,p e=true->q e=false):∀(l:List α)(i:Nat),l.findIdx? p=some i->(l.eraseIdx i).find? q=l.find? q
 |[],_,h=>nomatch h
 |e::l,i,h=>by
  rw[List.findIdx?_cons] at h;refine xD (p e) (fun hp=>?_) fun hp=>?_
  ·rw[hp] at h;obtain rfl:=ai h;rw[List.eraseIdx_cons_zero,List.find?_cons,hpq e hp]
  ·rw[hp] at h;revert h;refine xM fun j hj wj=>?_;subst wj;rw[List.eraseIdx_cons_succ,List.find?_cons,List.find?_cons,Gh hpq l j hj]
theorem HA(hi:es.findIdx? (fun e=>e.key.isStr n)=some i)(hy:y≠n):nsFind (es.eraseIdxIfInBounds i) y=nsFind es y:=by
 obtain⟨l⟩:=es;simp only[nsFind,findBy,List.eraseIdxIfInBounds_toArray,List.find?_toArray,List.findIdx?_toArray] at hi ⊢;rw[Gh (fun e he=>?_) l i hi] at ⊢;refine xD (e.key.isStr y) (fun hq=>?_) fun hq=>?_
 ·exact absurd (Value.isStr_inj _ _ _ he hq).symm hy
 ·rfl
theorem pM(ho:h.get? a=some o)(hd:o.data=.dict es ep)(h2:(h.update a (Obj.dropName name)).get? a=some o'):dK o o':=by
 obtain⟨cl,d,dt,sl⟩:=o;subst hd;refine xC (es.findIdx? (·.key.isStr name)) (fun hi=>?_) fun i hi=>?_
 ·have e:=gi (Obj.dropName name) ho (by simp only[jf,jk,hi]<;>rfl);rw[e] at h2;obtain rfl:=ai h2;simp only[jf,jk,hi];exact .rfl
 ·have e:=gi (Obj.dropName name) ho (by simp only[jf,jk,hi]<;>rfl);rw[e] at h2;obtain rfl:=ai h2;simp only[jf,jk,hi];refine .mk rfl fun es1 n es' n' q1 q2 g=>?_;(injection q1 with Ja Jb;subst Jb;subst Ja);(injection q2 with Ja Jb;subst Jb;subst Ja);obtain⟨l⟩:=es;refine⟨g.1.erase i,?_⟩;rw[List.eraseIdxIfInBounds_toArray];exact(((List.eraseIdx_sublist l i).map fun e=>j4 e.key)).nodup g.2
theorem mH{m}(hD:wN T s.heap a m) (hQ:∀h' m',wN T h' a m'->(∀y,y≠name->m' y=m y)->hU a s.heap h'->(∀o o',s.heap.get? a=some o->h'.get? a=some o'->dK o o')->Q (m name).isSome { s with heap:=h' }):wpAny M A (nsDel a name) Q E s:=by
 obtain⟨hn,o2,ho2,hc2⟩:=id hD;obtain⟨o,es,ep,ho,hd,hk,hm⟩:=id hn;replace hc2:o.cls=T:=by replace ho2:=ai (ho.symm.trans ho2);subst ho2;exact hc2
 have hany:es.any (·.refKey)=false:=by
  rw[Array.any_eq_false'];intro e he;obtain⟨n,t,h⟩:=hk e he;simp[DictEntry.refKey,h]
 have hsome:(m name).isSome=es.any (·.key.isStr name):=by
  rw[<- hm name];simp only[nsFind,findBy,Option.isSome_map];rw[Bool.eq_iff_iff];simp only[Array.find?_isSome,Array.any_eq_true];constructor
  ·rintro⟨x,hx,hp⟩;obtain⟨i,hi,rfl⟩:=Array.mem_iff_getElem.mp hx;exact⟨i,hi,hp⟩
  ·rintro⟨i,hi,hp⟩;exact⟨_,Array.getElem_mem hi,hp⟩
 have hhas:nsHas name o=pure (es.any (·.key.isStr name)):=by
  rw[nsHas_eq];unfold nsHasByArray;rw[hd];show(if(es.any fun x=>x.key.isStr name)=true then _ else _)=_;generalize(es.any fun x=>x.key.isStr name)=b;cases b<;>simp[hany]
 unfold nsDel;refine ak (wpAny_loadPart ho ?_);rw[hhas];refine ak (aE ?_);rw[<- hsome];cases hmn:(m name).isSome
 ·have:=hQ s.heap m hD (fun J J=>rfl) (.refl ..) fun o o' h1 h2=>by replace h2:=ai (h1.symm.trans h2);subst h2;exact .rfl
  rw[hmn] at this;exact aE this
 ·refine ak (wpAny_updatePart ho (aE ?_));have key:Bk T (s.heap.update a (Obj.dropName name)) a m name:=by
   obtain⟨cl,d,dt,sl⟩:=o;subst hd;refine xC (es.findIdx? (·.key.isStr name)) (fun hi=>?_) fun i hi=>?_
   ·exact(fun J kJ=>kJ _ ⟨⟨_,_,ep,gi _ ho (by simp only[jf,jk,hi]<;>rfl),(by simp only[jf,jk,hi]<;>rfl),hk,fun J=>rfl⟩,_,gi _ ho (by simp only[jf,jk,hi]<;>rfl),(by simp only[jf,jk,hi];exact hc2)⟩ (fun y J=>hm y))
   ·exact(fun J kJ=>kJ _ ⟨⟨_,_,ep+1,gi _ ho (by simp only[jf,jk,hi]<;>rfl),(by simp only[jf,jk,hi]<;>rfl),hk.erase i,fun J=>rfl⟩,_,gi _ ho (by simp only[jf,jk,hi]<;>rfl),(by simp only[jf,jk,hi];exact hc2)⟩ (fun y hy=>(HA hi hy).trans (hm y)))
  refine key _ fun m' hm' hsm=>?_;clear key;have:=hQ _ m' hm' hsm (oQ ..) fun o₁ o' h1 h2=>by
   obtain rfl:=ai (ho.symm.trans h1);exact pM ho hd h2
  rw[hmn] at this;exact this
structure cE(a:Addr)(h h':Heap):Prop where
 same:hU a h h'
 dk:∀o o',h.get? a=some o->h'.get? a=some o'->dK o o'
def cE.refl:cE a h h:=⟨.refl ..,fun o o' h1 h2=>by replace h2:=ai (h1.symm.trans h2);subst h2;exact .rfl⟩
def cE.trans{h'':Heap} {m}(x:cE a h h')(hn:iO h' a m)(y:cE a h' h''):cE a h h'':=⟨x.same.trans y.same,fun o o' h1 h2=>by
 obtain⟨⟨o1,es,n,ho,hd,_⟩,_⟩:=hn;exact(y.dk o1 o' ho h2).trans (x.dk o o1 h1 ho) hd⟩
def uu{m}(hD:iO s.heap a m) (hQ:∀h' m',iO h' a m'->cE a s.heap h'->Q (m name).isSome { s with heap:=h' }):wpAny M A (nsDel a name) Q E s:=mH hD fun h' m' h1 J h2 h3=>hQ h' m' h1 ⟨h2,h3⟩
theorem jr(hkind:wv.scope.kind=.function){Q:Unit->Shared->Prop} :
  ∀(vs:List (Str×aU)) (s:Shared) (m:Str->Option Value),(∀x∈vs,x.2=.local->wv.kindOf x.1=some .local)->iO s.heap wv.locals m->
   (∀h' m',iO h' wv.locals m'->cE wv.locals s.heap h'->Q () { s with heap:=h' })->wpAny M A (comprehension.letGo wv cellsOf vs) Q E s:=by
 intro vs;induction vs with
 |nil=>intro s m _ hn hQ;exact aE (hQ s.heap m hn .refl)
 |cons x r ih=>
  intro s m hv hn hQ;obtain⟨n,k⟩:=x;rw[comprehension.letGo];have hr:∀y∈r,y.2=.local->wv.kindOf y.1=some .local:=fun y hy=>hv y (a0 _ hy);refine ak (dz ?_);by_cases hk:k=.local
  ·subst hk;have hkn:wv.kindOf n=some .local:=hv (n,.local) aI rfl;simp only[beq_self_eq_true,if_true];refine ak (wpAny_nsGet hn.ns ?_);cases hmn:(m n).isSome
   ·simp only[gO,if_false];exact aE (ih s m hr hn hQ)
   ·simp only[if_true];unfold unbindName deleteName;refine ak (qX (ak ?_));simp only[hkn,hkind];refine ak (m:=nsDel wv.locals n) (uu hn fun h' m' hn' hs'=>?_);rw[hmn];refine aE (qX ?_);exact ih { s with heap:=h' } m' hr hn' fun h'' m'' hn'' hs''=>hQ h'' m'' hn'' (hs'.trans hn' hs'')
  ·have hb:(k==NameKind.local)=false:=by simpa using hk
   simp only[hb,gO,if_false];exact qX (ih s m hr hn hQ)
inductive uK(P:Heap->Prop)(C:Addr)(h:Heap):Prop
 |mk (m:Str->Option Value)(hn:iO h C m)(g:∀h' m',iO h' C m'->cE C h h'->P h'):uK P C h
def ud(M:Model)(A:Around)(E:Value->Shared->Prop)(use:Option (Value->Sem Unit))(Q:Value->Shared->Prop)(acc:Value)(C:Addr)(r:Result)(s':Shared):Prop:=
 match r with
 |.ok _=>(match use with
  |none=>uK (fun h'=>Q acc { s' with heap:=h' }) C s'.heap
  |some u=>wpAny M A (u acc) (fun J s''=>uK (fun h'=>Q .none { s'' with heap:=h' }) C s''.heap) E s')
 |.error _=>False
theorem Hk {scope : Scope} {newAcc first : Sem Value} {use : Option (Value -> Sem Unit)} {Q : Value -> Shared -> Prop} (hcl : clausesOf e = g :: gs) (hs : ∀ x, wb g.iter wz x = pure x) (hclos : closureFor scope wz = pure cl) (hkind : scope.kind = .function) (hnames : ∀ x ∈ scope.names, x.2 = .local -> scope.names.lookup x.1 = some .local) (h : wpAny M A first (fun x s₁ => wpAny M A (pyIter x) (fun it s₂ => wpAny M A newAcc (fun acc s₃ =>
   wpAny M A (r3 scope wz.globals cl [] wz.qual none .none (some wz)) (fun wv s₄ =>
    codeAny M A (.compStart e 0 it acc { wv with scope := eP scope wz }) (ud M A E use Q acc wv.locals) s₄) E s₃) E s₂) E s₁) E s) :
  wpAny M A (comprehension e scope wz pos newAcc false first use) Q E s := by
 unfold comprehension;rw [hclos, hcl];refine ak (a9 h (fun x s₁ h₁ => ak (i8 (ak (mw (hs x) (ak (dz (a9 h₁ (fun it s₂ h₂ =>
  wpAny_standIf (ak (a9 h₂ (fun acc s₃ h₃ => ak (aE (ak (a9 h₃ (fun wv s₄ h₄ => ?_) fun J J h' => h')))) fun J J h' => h')))
   fun J J h' => h'))))))) fun J J h' => h')
 dsimp only;have hv : ∀ x ∈ (scope.names.filter fun x => (x.2 == .local || x.2 == .cell) && x.1 != (".0" : Str)).reverse, x.2 = .local ->
   Env.kindOf { wv with scope := eP scope wz } x.1 = some .local := fun x hx hl => lookup_relabel_local (hnames x (List.mem_filter.mp (List.mem_reverse.mp hx)).1 hl)
 have hv' : ∀ x ∈ (scope.names.filter fun x => (x.2 == .local || x.2 == .cell) && x.1 != (".0" : Str)).reverse.drop 1 ++ (scope.names.filter fun x => (x.2 == .local || x.2 == .cell) && x.1 != (".0" : Str)).reverse.take 1,
   x.2 = .local -> Env.kindOf { wv with scope := eP scope wz } x.1 = some .local := fun x hx hl => by
  rcases bJ.mp hx with h1 | h1
  ·exact hv x (List.mem_of_mem_drop h1) hl
  ·exact hv x (List.mem_of_mem_take h1) hl
 refine dz (ak (wpAny_attempt (dz (wpAny_run (codeAny_mono h₄ fun r s' hr => ?_)))));cases r with
 | ok f =>
  cases use with
  | none =>
   obtain ⟨m, hn, hr⟩ := hr;exact ak (dz (jr (wv := { wv with scope := eP scope wz }) hkind _ s' m hv hn fun h' m' hn' hs' => aE (hr h' m' hn' hs')))
  | some u =>
   refine ak (wpAny_rule (ak (dz (a9 hr (fun J s'' hr' => ?_) fun J J h' => h'))));obtain ⟨m, hn, hr'⟩ := hr';exact ak (jr (wv := { wv with scope := eP scope wz }) hkind _ s'' m hv' hn fun h' m' hn' hs' => aE (hr' h' m' hn' hs'))
 | error x => exact hr.elim
def Tg.out : Tg -> Nat -> Prop
 | .one k, i => i ≠ k
 | .two k l, i => i ≠ k /\ i ≠ l
theorem Fb{x:V}(h:gA t x loc=some loc'):loc'.length=loc.length/\∀{i:Nat},t.out i->loc'.getD i none=loc.getD i none:=by
 cases t with
 |one k=>
  obtain rfl:=ai h;exact⟨gv,fun hi=>zK hi⟩
 |two k l=>
  revert h;refine xB fun vs h1 g=>?_;cases LV.of vs with
  |two a b=>
   obtain rfl:=ai g;exact⟨by rw[gv,gv],fun hi=>(zK hi.2).trans (zK hi.1)⟩
  |_=>injection g
structure Cc(wu res':Res)(scope:Scope)(t:Tg)(x:Str)(i:Nat):Prop where
 up:wu.lookup x=some i
 mem:(x,eV)∈scope.names
 free:scope.names.lookup x=some .free
 dn:res'.lookup x=some i
 out:t.out i
noncomputable def iQ(scope:Scope):Str->Bool:=fun x=>scope.names.lookup x==some .cell
structure cT(c:Cx)(wz:Env)(wu res0 res':Res)(scope:Scope)(tgt:Expr)(t:Tg):Prop where
 kind:scope.kind=.function
 cell:∀n n',(n,qaj)∈scope.names->(n',qaj)∈scope.names->n'=n
 nocell:∀n,(n,eV)∈scope.names->(n,qaj)∉scope.names
 names:∀y∈scope.names,y.2=.local->scope.names.lookup y.1=some .local
 free:∀n,(n,eV)∈scope.names->(wz.kindOf n=some .cell\/wz.kindOf n=some .free)/\∃i,wu.lookup n=some i
 n0:res0.n=wu.n
 fr0:res0.fr=false
 sub0:∀x i,res0.lookup x=some i->Cc wu res' scope t x i
 n':res'.n=wu.n/\res'.fr=false
 tgt:∀wv:Env,wv.scope=eP scope wz->kU (iQ scope) wv res0 res' tgt t
theorem Dd{wz:Env}{x:Str}{k:aU}:∀{names:List (Str×aU)},names.lookup x=some k-> (names.map fun(n,k)=>if(k==eV&&wz.scope.kind==.function&&wz.kindOf n==some .cell) then(n,qaj) else(n,k)).lookup x =
   some (if(k==eV&&wz.scope.kind==.function&&wz.kindOf x==some .cell) then .cell else k)
 |[],h=>by simp at h
 |(n,k')::r,h=>by
  have ih:=@Dd wz x k r;show List.lookup x ((if(k'==eV&&wz.scope.kind==.function&&wz.kindOf n==some .cell)=true then(n,qaj) else(n,k'))::_)=_;refine xD (x==n) (fun hx=>?_) fun hx=>?_
  ·simp only[dr,hx] at h;(injection h with Ja;subst Ja);have:=beq_iff_eq.mp hx;subst this;split<;>simp[dr]
  ·simp only[dr,hx] at h;split
   ·simp only[dr,hx];exact ih h
   ·simp only[dr,hx];exact ih h
def z5(F:au c wz wu k loc φ h)(hk:wz.kindOf x=some .cell\/wz.kindOf x=some .free)(hi:wu.lookup x=some i):bq c φ h wz x (loc.getD i none):=by
 obtain⟨m,_,hs,_⟩:=F.ns;have h5:=hs x i hi;unfold iJ at h5;rcases hk with hk |hk<;>rw[hk] at h5<;>exact h5
theorem bq.addr:bq c φ h wz x ov->∃ca,wz.cells.lookup x=some ca
 |.yes _ ca _ h1 _ _=>⟨ca,h1⟩
 |.no ca h1 _=>⟨ca,h1⟩
def jP(h:(x,eV)∈names)(hc:wz.cells.lookup x=some ca):(e9 wz names []).lookup x=some ca:=by
 obtain⟨ca',hca'⟩:=uS.mp (AY (wz:=wz) (acc:=[]) (x:=x) (.inl h));rcases vR hca' with q |⟨_,q⟩
 ·injection q
 ·rw[hc] at q;obtain rfl:ca'=ca:=q;exact hca'
theorem bq.recell(he:∀ca,wz.cells.lookup x=some ca->env'.cells.lookup x=some ca):bq c φ h wz x ov->bq c φ h env' x ov
 |.yes v ca r h1 h2 h3=>.yes v ca r (he ca h1) h2 h3
 |.no ca h1 h2=>.no ca (he ca h1) h2
def hW.cell{k:Option aU}{L C:Prop}(hk:k=some .cell\/k=some .free)(h:C):hW k L C:=by
 rcases hk with rfl |rfl<;>exact h
noncomputable def rW:Obj:={ cls:=.type "cell",data:=.cell none }
theorem yB:∀{names:List (Str×aU)} {h:Heap} {acc:List (Str×Addr)} {x:Str} {ca:Addr},(dN h.objs.size names acc).lookup x=some ca ->
  acc.lookup x=some ca\/(h.objs.size<=ca/\(dJ h names).get? ca=some rW/\(x,qaj)∈names)
 |[],h,acc,x,ca,e=>.inl e
 |(n,kd)::r,h,acc,x,ca,e=>by
  unfold dN at e;unfold dJ;refine xD ((kd==qaj)) (fun hk=>?_) fun hk=>?_
  ·rw[hk,if_pos rfl] at e;obtain rfl:=beq_iff_eq.mp hk;rw[if_pos rfl];have:=yB (names:=r) (h:=h.push rW) (acc:=(n,h.objs.size)::acc) (x:=x) (ca:=ca) (by rw[oR];exact e);rcases this with q |⟨q1,q2,q3⟩
   ·rw[dr] at q;refine xD (x==n) (fun hx=>?_) fun hx=>?_
    ·rw[hx] at q;obtain rfl:=beq_iff_eq.mp hx;obtain rfl:=ai q;exact .inr ⟨aJ _,uW _ _ _ _ (eG _ rfl),aI⟩
    ·rw[hx] at q;exact .inl q
   ·rw[oR] at q1;exact .inr ⟨Nat.le_of_succ_le q1,q2,a0 _ q3⟩
  ·rw[hk,if_neg (by decide)] at e;rw[if_neg (by decide)];rcases yB (names:=r) e with q |⟨q1,q2,q3⟩
   ·exact .inl q
   ·exact .inr ⟨q1,q2,a0 _ q3⟩
theorem CZ:∀{names:List (Str×aU)} {k:Nat} {acc:List (Str×Addr)} {x:Str},(x,qaj)∉names->(dN k names acc).lookup x=acc.lookup x
 |[],_,_,_,_=>rfl
 |(n,kd)::r,k,acc,x,hn=>by
  unfold dN;refine xD ((kd==qaj)) (fun hk=>?_) fun hk=>?_
  ·obtain rfl:=beq_iff_eq.mp hk;rw[if_pos rfl,CZ fun q=>hn (a0 _ q),dr,beq_eq_false_iff_ne.mpr fun(q:x=n)=>hn (q▸aI)]
  ·rw[if_neg (by decide)];exact CZ fun q=>hn (a0 _ q)
set_option tactic.hygienic true in
theorem CE:∀{names:List (Str×aU)} {k:Nat} {acc:List (Str×Addr)} {x:Str},((x,qaj)∈names\/(acc.lookup x).isSome)->((dN k names acc).lookup x).isSome
 |[],_,acc,x,h=>by
  rcases h with h |h
  ·cases h
  ·exact h
 |(n,kd)::r,k,acc,x,h=>by
  unfold dN
  split
  ·rename_i hk
   refine CE ?_
   rcases h with h |h
   ·rcases bj.mp h with e |h
    ·cases e
     right;simp
    ·exact .inl h
   ·right
    rw[dr]
    cases x==n<;>simp[h]
  ·rename_i hk
   refine CE ?_
   rcases h with h |h
   ·rcases bj.mp h with e |h
    ·cases e;exact absurd rfl hk
    ·exact .inl h
   ·exact .inr h
noncomputable def XC (wz:Env):List Addr:=wz.locals::wz.cells.filterMap fun p=>(wz.cells.lookup p.1).filter fun a=>decide (wz.locals<a)
def Dv(h:b∈XC wz):b=wz.locals\/((∃x,wz.cells.lookup x=some b)/\wz.locals<b):=by
 rcases bj.mp h with h |h
 ·exact .inl h
 ·obtain⟨p,_,hp⟩:=List.mem_filterMap.mp h;obtain⟨h1,h2⟩:=Option.filter_eq_some_iff.mp hp;exact .inr ⟨⟨p.1,h1⟩,of_decide_eq_true h2⟩
def uc(h:wz.cells.lookup x=some b)(hb:wz.locals<b):b∈XC wz:=
 a0 _ (List.mem_filterMap.mpr ⟨(x,b),fW h,Option.filter_eq_some_iff.mpr ⟨h,decide_eq_true hb⟩⟩)
theorem Jn{scope:Scope}(K:cT c wz wu res0 res' scope tgt t)(hz:h.objs.size=C+1)(F:au c wz wu k loc φ (dJ h scope.names))(hC:h.get? C=some { cls:=.type "dict",data:=.dict #[] })(hnew:∀b,C<=b->b∉φ/\c.h0.get? b=none) :
  au c (compEnvC scope (dN (C+1) scope.names (e9 wz scope.names [])) C wz) res0 none loc φ (dJ h scope.names) where
 fn:=K.kind
 gl:=F.gl
 bl:=F.bl
 ns:=by
  have hC':=uW scope.names h C _ hC
  refine⟨fun J=>none,⟨⟨_,_,_,hC',rfl,by intro e he;simp at he,fun J=>by simp[nsFind,findBy]⟩,_,hC',.inr ⟨rfl,rfl,K.fr0⟩⟩,fun x i hx=>?_,fun kk z hz=>nomatch hz⟩
  have q:=K.sub0 x i hx
  have hkind:(compEnvC scope (dN (C+1) scope.names (e9 wz scope.names [])) C wz).kindOf x=some .cell\/(compEnvC scope (dN (C+1) scope.names (e9 wz scope.names [])) C wz).kindOf x=some .free:=by
   show List.lookup x (eP scope wz).names=_\/List.lookup x (eP scope wz).names=_
   rw[show List.lookup x (eP scope wz).names=_ from Dd q.free]
   split
   ·exact .inl rfl
   ·exact .inr rfl
  exact hW.cell hkind ((z5 F (K.free x q.mem).1 q.up).recell fun ca h=>(CZ (K.nocell x q.mem)).trans (jP q.mem h))
 len:=by rw[K.n0];exact F.len
 Lφ:=(hnew C (aJ _)).1
 L0:=(hnew C (aJ _)).2
 cells x ca hx:=by
  rcases yB (h:=h) (by rw[hz];exact hx) with q |⟨q1,q2,_⟩
  ·rcases vR q with q |⟨h1,q⟩
   ·injection q
   ·obtain⟨hk,i,hi⟩:=K.free x h1
    obtain⟨ca',h6⟩:=(z5 F hk hi).addr
    rw[h6] at q;obtain rfl:ca=ca':=q
    exact F.cells x ca h6
  ·rw[hz] at q1
   exact⟨(hnew ca (Nat.le_of_succ_le q1)).1,(hnew ca (Nat.le_of_succ_le q1)).2,_,q2,rfl,_,rfl⟩
def j0{scope:Scope}(K:cT c wz wu res0 res' scope tgt t)(hz:h.objs.size=C+1)(F:au c wz wu k loc φ h')(hlt:∀b o,h'.get? b=some o->b<C) :
  aP (iQ scope) (compEnvC scope (dN (C+1) scope.names (e9 wz scope.names [])) C wz) (XC (compEnvC scope (dN (C+1) scope.names (e9 wz scope.names [])) C wz)) where
 loc:=aI
 cell x ha _:=by
  have hm:=fW (beq_iff_eq.mp ha)
  obtain⟨ca,hca⟩:=uS.mp (CE (k:=C+1) (acc:=e9 wz scope.names []) (x:=x) (.inl hm))
  have old:∀{y cb},(e9 wz scope.names []).lookup y=some cb->cb<C:=fun{y cb} q=>by
   rcases vR q with q |⟨h1,q⟩
   ·injection q
   ·obtain⟨hk,i,hi⟩:=K.free y h1
    obtain⟨ca',h6⟩:=(z5 F hk hi).addr
    rw[h6] at q;obtain rfl:cb=ca':=q
    obtain⟨_,_,o,ho,_⟩:=F.cells y cb h6
    exact hlt cb o ho
  have hnf:(x,eV)∉scope.names:=fun q=>K.nocell x q hm
  have hgt:C<ca:=by
   rcases yB (h:=h) (by rw[hz];exact hca) with q |⟨q1,_,_⟩
   ·rcases vR q with q |⟨h1,_⟩
    ·injection q
    ·exact absurd h1 hnf
   ·rw[hz] at q1;exact q1
  refine(fun J kJ=>kJ ca hca hgt (uc (wz:=compEnvC scope (dN (C+1) scope.names (e9 wz scope.names [])) C wz) hca hgt) (fun y hy=>?_))
  rcases yB (h:=h) (by rw[hz];exact hy) with q |⟨_,_,q3⟩
  ·exact absurd (old q) (fN.mpr (bO hgt))
  ·exact K.cell x y hm q3
 only b hb:=(Dv hb).imp id fun h=>h.1
end
variable {Q:Shared->Prop}{cl:Str×Addr}{e:Value}{es:List Expr}{g:Array GenState}{n:Nat}{x:V}
section
open PySem PyProof.Rows
inductive dO(c:Cx)(φ:List Addr)(h:Heap)(D:Addr)(av:List V):Prop
 |mk (vs:Array Value)(n:Nat)(ho:h.get? D=some (ey vs n))(hr:ah c φ h av vs.toList)(hD:D∉φ):dO c φ h D av
structure fB(c:Cx)(wv:Env)(res0:Res)(loc:Loc)(φ₀:List Addr)(s₀:Shared)(D:Addr)(wr:List Addr)(St:Nat->List Addr->Heap->Prop)(i:Nat)(av:List V)(φ:List Addr)(H:Hp)(s:Shared):Prop where
 ext:aw [] φ₀ s₀ φ s
 sim:aq c φ H s
 fr:au c wv res0 none loc φ s.heap
 st:St i φ s.heap
 acc:dO c φ s.heap D av
def dO.keep(T:dO c φ h D av)(e:Kp X φ h φ' h')(hX:aA c X h)(hD:D∉X):dO c φ' h' D av:=by
 obtain⟨vs,n,h1,h2,h3⟩:=T;exact⟨vs,n,e.keep D _ h1 h3 hD rfl,ah.mono e hX h2,e.notin h1 h3⟩
def dO.out(T:dO c φ h D av)(its:dQ c wr φ h):D∉wr:=fun hm=>by
 obtain⟨_,_,o,h1,h2,_⟩:=its D hm;obtain⟨vs,n,h3,_,_⟩:=T;obtain rfl:=ai (h3.symm.trans h1);exact absurd h2 (by show tG (jb "list")≠true;decide)
def ee.of(F:au c wz wu k loc φ s.heap)(h:∀b∈X,∀o,s.heap.get? b=some o->o.cls≠.type "frame"/\o.cls≠.type "dict"/\o.cls≠.type "cell"):ee wz X s where
 loc hm:=by
  obtain⟨m,⟨_,o,h3,h4⟩,_,_⟩:=F.ns
  obtain⟨g1,g2,g3⟩:=h _ hm o h3
  rcases h4 with h4 |h4
  ·exact g1 h4.1
  ·exact g2 h4.1
 cells x ca hx hm:=by
  obtain⟨_,_,o,h3,h4⟩:=F.cells x ca hx
  exact(h _ hm o h3).2.2 h4
 clo ca o ho hc _ hm:=(h _ hm o ho).2.2 hc
def ee.its(F:au c wz wu k loc φ s.heap)(h:dQ c wr φ s.heap):ee wz wr s:=ee.of F fun b hb o ho=>by
 obtain⟨_,_,o',h1,h2,_⟩:=h b hb;obtain rfl:=ai (ho.symm.trans h1);exact⟨uk h2 rfl,uk h2 rfl,uk h2 rfl⟩
def au.kept(F:au c wz wu k loc φ s.heap)(h:dQ c wr φ s.heap)(hk:cB wr s s'):au c wz wu k loc φ s'.heap:=
 F.off (hk.kp h) h.own (ee.its F h) fun o ho=>⟨o.slots,hk.1 _ o (ee.its F h).loc ho⟩
def grow(S:aq c φ H s)(ho:s.heap.get? D=some (ey vs n))(hD:D∉φ)(h0:c.h0.get? D=none)(hs:hU D s.heap h') :
  Kp [D] φ s.heap φ h'/\aA c [D] s.heap/\aq c φ H { s with heap:=h' }:=by
 have keep:∀b o,b≠D->s.heap.get? b=some o->h'.get? b=some o:=fun b o hb ho=>(hs.2 b hb).trans ho;have kp:=vx (φ:=φ) keep (fun o es n h hd=>by obtain rfl:=ai (ho.symm.trans h);injection hd) (fun o vs h hd=>by obtain rfl:=ai (ho.symm.trans h);injection hd);have ow:aA c [D] s.heap:=fun b hb o ho'=>by
  rw[aN.mp hb] at ho' ⊢;obtain rfl:=ai (ho.symm.trans ho');exact .inr (.inl ⟨rfl,h0⟩)
 exact⟨kp,ow,S.mono (s':={ s with heap:=h' }) kp ow (fun b hb=>by rw[aN.mp hb];exact h0) (fun a ha o ho=>keep a o (fun q=>hD (q▸ha)) ho) (fun b o hb J=>keep b o (fun q=>by rw[q,h0] at hb;injection hb) (S.stays b o hb)) S.gens fun b ps hb=>keep b _ (fun q=>by rw[q,ho] at hb;(injection hb with Ja;injection Ja with w4 Jb1;clear Jb1;injection w4)) hb⟩
theorem ee.list(F:au c wz wu k loc φ s.heap)(ho:s.heap.get? D=some (ey vs n)):ee wz [D] s:=ee.of F fun b hb o ho'=>by
 rw[aN.mp hb] at ho';obtain rfl:=ai (ho.symm.trans ho');exact⟨show jb "list"≠_ by decide,show jb "list"≠_ by decide,show jb "list"≠_ by decide⟩
abbrev dy (c:Cx) (d:Nat) (t:Tg) (xifs:List Ex) (xelt:Ex) (loc:Loc):V->List V->(List V->Hp->Prop)->Hp->Prop:=
 kG (fun l' Q H=>rr (Calls c) true d none xifs l' Q H) (fun l' Q H=>aF (Calls c) true d none xelt l' Q fo H) t loc
structure iv(c:Cx)(A:Around)(d:Nat)(φ₀:List Addr)(s₀:Shared)(wz:Env)(wu res0 res':Res)(scope:Scope)(tgt:Expr)(t:Tg)(wv:Env)(D:Addr)(it:Value)(wr:List Addr)(items:List V)(ok:Hp->Prop)(St:Nat->List Addr->Heap->Prop):Prop where
 hA:bY c A true d φ₀ s₀.heap
 K:cT c wz wu res0 res' scope tgt t
 hcs:wv.scope=eP scope wz
 I:qn c A it tgt wr items ok St
 EX:aP (iQ scope) wv (XC wv)
 hX0:∀b∈XC wv,s₀.heap.get? b=none
 hD0:s₀.heap.get? D=none
 hw0:∀b∈wr,s₀.heap.get? b=none
 hDX:D∉XC wv
 hDh:c.h0.get? D=none
def mu(c:Cx)(wv:Env)(res0:Res)(loc:Loc)(φ₀:List Addr)(s₀:Shared)(D:Addr)(wr:List Addr)(St:Nat->List Addr->Heap->Prop)(items:List V)(ok:Hp->Prop)(f:V->List V->(List V->Hp->Prop)->Hp->Prop)(QQ:List V->Hp->Prop)(k:Nat)(s:Shared):Prop:=∀GJ:Prop,(∀(i:Nat),∀(av:List V),∀(φ:List Addr),∀(H:Hp),(k=items.length-i+1)->i<=items.length->av.length<=i->fB c wv res0 loc φ₀ s₀ D wr St i av φ H s->ok H->gH ok f (items.drop i) av QQ H->GJ)->GJ
section
variable {scope:Scope}{ok:Hp->Prop}{St:Nat->List Addr->Heap->Prop}
theorem Kr(L:iv c A d φ₀ s₀ wz wu res0 res' scope tgt t wv D it wr items ok St)(T:fB c wv res0 loc φ₀ s₀ D wr St i av φ H s)(hx:items[i]?=some x)(hok:ok H)(hb:gA t x loc=some l') (h:∀s₃,au c wv res' none l' φ s₃.heap->fB c wv res0 loc φ₀ s₀ D wr St (i+1) av φ H s₃->Q s₃) :
  wpAny (model c.prog c.w) A (pyNext it) (fun r s₁=>match r with
   |none=>False
   |some v=>wpAny (model c.prog c.w) A (letOwnedTupleGo tgt it v) (fun J s₁'=>wpAny (model c.prog c.w) A (assign tgt wv v) (fun J s₂=>Q s₂) (fun J J=>False) s₁') (fun J J=>False) s₁) (fun J J=>False) s:=by
 have its:=L.I.seen i φ s.heap T.st;have hEX:=L.EX;refine wm (L.I.item i x φ H s _ hx T.st T.sim hok) ?_;rintro r s₁ w0;refine w0 _ fun v wk h₁=>?_;clear w0;subst wk;refine wm h₁ ?_;rintro _ s₂ ⟨k₂,st₂,R₂⟩;have F₂:=T.fr.kept its k₂;refine wm (Fe (L.hA.hd rfl) hEX (L.K.tgt wv L.hcs) hb F₂ (T.sim.kept k₂ its) R₂) ?_;rintro _ s₃ ⟨F₃,S₃,e₃,k₃⟩;have ow₃:=F₂.ownX hEX;have hwC:∀b∈wr,b∉XC wv:=fun b hb hm=>by
  have off:=ee.its F₂ (L.I.seen _ _ _ st₂);rcases hEX.only b hm with rfl |⟨y,hy⟩
  ·exact off.loc hb
  ·exact off.cells y b hy hb
 exact h s₃ F₃ ⟨(T.ext.kept k₂ L.hw0).kept k₃ L.hX0,S₃,F₃.sub (by rw[L.K.n0,<-L.K.n'.1,<-(Fb hb).1];exact F₃.len) (L.K.fr0.trans L.K.n'.2.symm) fun y j hy=>⟨(L.K.sub0 y j hy).dn,((Fb hb).2 (L.K.sub0 y j hy).out).symm⟩,
  L.I.frame _ _ _ _ _ _ st₂ e₃.toKp ow₃ hwC,(T.acc.keep (k₂.kp its) its.own (T.acc.out its)).keep e₃.toKp ow₃ L.hDX⟩
def fB.mono(L:iv c A d φ₀ s₀ wz wu res0 res' scope tgt t wv D it wr items ok St)(T:fB c wv res0 loc φ₀ s₀ D wr St i av φ H s)(e:aw [] φ s φ' s')(S:aq c φ' H' s'):fB c wv res0 loc φ₀ s₀ D wr St i av φ' H' s':=
 ⟨T.ext.trans e,S,T.fr.mono e,L.I.frame _ _ _ _ _ _ T.st e.toKp aA.nil (fun J J h=>nomatch h),T.acc.keep e.toKp aA.nil (fun h=>nomatch h)⟩
def Hd(L:iv c A d φ₀ s₀ wz wu res0 res' scope tgt t wv D it wr items ok St)(T:fB c wv res0 loc φ₀ s₀ D wr St i av φ H s)(R:ax c φ s.heap v r)(hsz:av.length<qag) (h:∀s',fB c wv res0 loc φ₀ s₀ D wr St i (av++[v]) φ H s'->Q s'):wpAny (model c.prog c.w) A (call (.builtin "list.append") [.ref D,r]) (fun J s'=>Q s') E s:=by
 have hDw:=T.acc.out (L.I.seen _ _ _ T.st);obtain⟨vs,n,ho,hr,hD⟩:=T.acc;refine wpAny_list_append_plain (l:=D) (items:=vs) ⟨n,ho⟩ (fun h' hp hs=>?_) (by rw[<- eY,hr.length];exact bO hsz);obtain⟨kp,ow,S'⟩:=grow T.sim ho hD L.hDh hs;obtain⟨n',ho'⟩:=hp;refine h _ ⟨?_,S',T.fr.off (s':={ s with heap:=h' }) kp ow (ee.list T.fr ho) fun o ho1=>⟨o.slots,(hs.2 _ (fun q=>(ee.list T.fr ho).loc (by rw[q];exact aI))).trans ho1⟩,
  L.I.frame _ _ _ _ _ _ T.st kp ow fun b hb hm=>hDw (aN.mp hm▸hb),⟨_,n',ho',?_,hD⟩⟩
 ·exact T.ext.kept (wr:=[D]) ⟨fun b o hb ho=>(hs.2 b fun q=>hb (by rw[q];exact aI)).trans ho,rfl,rfl⟩ fun b hb=>by rw[aN.mp hb];exact L.hD0
 ·rw[Array.toList_push];exact ah.append (ah.mono kp ow hr) (show ah c φ h' [v] [r] from⟨ax.mono kp ow R,rfl⟩)
theorem IX(L:iv c A d φ₀ s₀ wz wu res0 res' scope tgt t wv D it wr items ok St)(helt:aT c wv res' elt xelt)(hifs:iP c wv res' ifs xifs)(wq:items.length<=qag) (T:fB c wv res0 loc φ₀ s₀ D wr St 0 [] φ H s) (hok:ok H) (hw:gH ok (dy c d t xifs xelt loc) items [] QQ H) (hR:∀av φ' H' s',aw [] φ₀ s₀ φ' s'->aq c φ' H' s'->au c wv res0 none loc φ' s'.heap->dO c φ' s'.heap D av->av.length<=qag->QQ av H'->R (.ok .next) s') :
  codeAny (model c.prog c.w) A (.compLoop (.ListComp elt [⟨tgt,iter,ifs,0⟩] scope pos) 0 it (.ref D) wv) R s:=by
 refine KL (mu c wv res0 loc φ₀ s₀ D wr St items ok (dy c d t xifs xelt loc) QQ) ?_ (items.length+1) (fun J kJ=>kJ 0 [] φ H rfl (eA _) (aJ _) T hok hw);rintro k s w0;refine w0 _ fun i av φ H wk hi hav T hok hw=>?_;clear w0;subst wk;by_cases hlt:i<items.length
 ·have hx:items[i]?=some items[i]:=bt hlt;rw[nX hlt] at hw;generalize items[i]=x at hx hw;refine xI (fun l' hb hw=>?_) (show ae (gA t x loc) _ from hw);have hm:items.length-(i+1)+1<items.length-i+1:=by exact aj [_,_] [] kbh (Y1 (Y0 (Y2 V0 (Y0 V1 J1)) J1) (Y0 (Y2 V0 V1) J1)) (Y1 V1 V0) hlt
  refine wm (Kr L T hx hok hb (Q:=fun s₂=>wpAny (model c.prog c.w) A (forIn ifs true fun c r=>if r=true then do let ok<-isTrue c wv (eval c wv);pure (rH ok) else pure (rH r)) (fun ok' s₃=>
      if ok'=true then wpAny (model c.prog c.w) A (eval elt wv) (fun x s₄=>
       wpAny (model c.prog c.w) A (call (.builtin "list.append") [.ref D,x]) (fun J s₅=>∃m,m<items.length-i+1/\mu c wv res0 loc φ₀ s₀ D wr St items ok (dy c d t xifs xelt loc) QQ m s₅) (fun J J=>False) s₄) (fun J J=>False) s₃
      else ∃m,m<items.length-i+1/\mu c wv res0 loc φ₀ s₀ D wr St items ok (dy c d t xifs xelt loc) QQ m s₃) (fun J J=>False) s₂) fun s₃ F₃ T₃=>?_) (fun r J h=>by cases r with |none=>exact h.elim |some v=>exact h)
  refine wm (DJ hifs A true d none l' φ H s₃ _ _ (L.hA.mono T₃.ext) F₃ T₃.sim hw) ?_;rintro b s₄ ⟨φ₄,H₄,e₄,S₄,w₄⟩;have T₄:=T₃.mono L e₄ S₄;cases b with
  |false=>exact⟨_,hm,(fun J kJ=>kJ (i+1) av φ₄ H₄ rfl hlt (iC hav) T₄ w₄.1 w₄.2)⟩
  |true=>
   refine a9 (helt A true d none l' φ₄ H₄ s₄ _ _ (L.hA.mono T₄.ext) (F₃.mono e₄) S₄ w₄) ?_ fun J J h=>aB.no h;rintro r s₅ ⟨φ₅,H₅,v₅,e₅,S₅,R₅,w₅⟩;exact Hd L (T₄.mono L e₅ S₅) R₅ (eJ hav (cS hlt wq)) fun s' T'=>⟨_,hm,(fun J kJ=>kJ (i+1) (av++[v₅]) φ₅ H₅ rfl hlt (by rw[bw];exact Nat.succ_le_succ hav) T' w₅.1 w₅.2)⟩
 ·obtain rfl:i=items.length:=Nat.le_antisymm hi (fE hlt);rw[List.drop_length] at hw;have its:=L.I.seen _ φ s.heap T.st;refine wm (L.I.done φ H s _ T.st T.sim hok) ?_;rintro r s₁ ⟨rfl,k₁⟩;exact hR av φ H s₁ (T.ext.kept k₁ L.hw0) (T.sim.kept k₁ its) (T.fr.kept its k₁) (T.acc.keep (k₁.kp its) its.own (T.acc.out its)) (aD hav wq) hw
end
end
variable {Q QQ:SPost}{l':Nat}{n:Str}
section
open PySem PyProof.Rows
structure A6(c:Cx)(φ:List Addr)(H:Hp)(s:Shared)(C:Addr)(h':Heap):Prop where
 kp:Kp [C] φ s.heap φ h'
 ow:aA c [C] s.heap
 sim:aq c φ H { s with heap:=h' }
 kept:cB [C] s { s with heap:=h' }
def yb(S:aq c φ H s)(hn:iO s.heap C m)(hat:m (ar "at")=none)(hφ:C∉φ)(h0:c.h0.get? C=none)(hn':iO h' C m')(hs:cE C s.heap h'):A6 c φ H s C h':=by
 obtain⟨⟨o,es,n,ho,hd,_,hm⟩,o1,ho1,hc1⟩:=hn;obtain rfl:=ai (ho.symm.trans ho1);obtain⟨⟨o',es',n',ho',hd',_⟩,o1',ho1',hc1'⟩:=hn';obtain rfl:=ai (ho'.symm.trans ho1');have keep:∀b o,b≠C->s.heap.get? b=some o->h'.get? b=some o:=fun b o hb ho=>(hs.same.2 b hb).trans ho;have kp:=vx (φ:=φ) keep (fun ob es1 k hb J=>by obtain rfl:=ai (ho.symm.trans hb);exact⟨o',es',n',ho',hd',hs.dk _ _ ho ho'⟩) (fun ob vs hb hd1=>by obtain rfl:=ai (ho.symm.trans hb);rw[hd] at hd1;injection hd1);have ow:aA c [C] s.heap:=fun b hb ob hob=>by
  rw[aN.mp hb] at hob ⊢;obtain rfl:=ai (ho.symm.trans hob);exact .inr (.inr (.inl ⟨hc1,es,n,hd,(hm _).trans hat⟩))
 exact⟨kp,ow,S.mono (s':={ s with heap:=h' }) kp ow (fun b hb=>by rw[aN.mp hb];exact h0) (fun a ha o ho=>keep a o (fun q=>hφ (q▸ha)) ho) (fun b o hb J=>keep b o (fun q=>by rw[q,h0] at hb;injection hb) (S.stays b o hb)) S.gens fun b ps hb=>keep b _ (fun q=>by rw[q,ho] at hb;(injection hb with Ja;subst Ja);injection hd) hb,
  fun b o hb ho=>keep b o (fun q=>hb (by rw[q];exact aI)) ho,rfl,rfl⟩
def Cf(c:Cx)(φ:List Addr)(s:Shared)(Q:V->Hp->Prop)(D C:Addr)(s':Shared):Prop:=∀GJ:Prop,(∀(φ':List Addr),∀(H':Hp),∀(a:Nat),aw [] φ s φ' s'->aq c φ' H' s'->ax c φ' s'.heap (.lst a) (.ref D)->Q (.lst a) H'->C∉φ'->∀(m:Str->Option Value),iO s'.heap C m->(m (ar "at")=none)->(s.heap.get? C=none)->(c.h0.get? C=none)->GJ)->GJ
theorem E9{scope:Scope}(K:cT c wz wu res0 res' scope tgt t)(hfold:∀x,wb iter wz x=pure x)(hsrc:aT c wz wu iter xsrc)
  (helt:∀wv:Env,wv.scope=eP scope wz->aT c wv res' elt xelt) (hifs:∀wv:Env,wv.scope=eP scope wz->iP c wv res' ifs xifs)
  {A q d k loc φ H s Q} {E:XPost} {use:Option (Value->Sem Unit)} (hA:bY c A q d φ s.heap) (hF:au c wz wu k loc φ s.heap) (hS:aq c φ H s) (hw:aF (Calls c) q d k (.comp xelt t xsrc xifs) loc Q E H)
  (hend:∀D C s',Cf c φ s Q D C s'->ud (model c.prog c.w) A (aB c φ s E) use Q' (.ref D) C (.ok .next) s') :
  wpAny (model c.prog c.w) A (comprehension (.ListComp elt [⟨tgt,iter,ifs,0⟩] scope pos) scope wz pos' (newList []) false (eval iter wz) use) Q' (aB c φ s E) s:=by
 have hcells:∀n,(n,eV)∈scope.names->∃ca,wz.cells.lookup n=some ca:=fun n hn=>by
  obtain⟨hk,i,hi⟩:=K.free n hn
  exact(z5 hF hk hi).addr
 refine Hk rfl hfold (JE hcells) K.kind K.names (wm (hsrc A q d k loc φ H s _ E hA hF hS hw) ?_)
 rintro sv s₁ ⟨φ₁,H₁,v₁,e₁,S₁,R₁,w₁⟩
 obtain⟨items,hit,wq,w₂⟩:=ae.inv w₁
 clear w₁
 obtain⟨rfl,hitems⟩:=Ef hit
 have hh:A.handled=none:=hA.hd rfl
 refine wm (D3 hh S₁ R₁ hitems (tg:=tgt)) ?_
 rintro it s₂ w0;refine w0 _ fun wr St e₂ S₂ I st₂ hw₂=>?_;clear w0
 have e₁₂:=e₁.trans e₂
 refine oV ?_ (by size_fits)
 refine Kq ?_
 dsimp only
 generalize hs₃:({ s₂ with heap:=s₂.heap.push { cls:=.type "list",dict:=none,data:=.seq ([]:List Value).toArray } }:Shared)=s₃
 have hh₃:s₃.heap=s₂.heap.push { cls:=.type "list",dict:=none,data:=.seq ([]:List Value).toArray }:=by rw[<- hs₃]
 have keep₄:∀b o,s₃.heap.get? b=some o->(dJ (s₃.heap.push { cls:=.type "dict",data:=.dict #[] }) scope.names).get? b=some o:=fun b o hb=>uW _ _ _ _ (cz _ hb)
 have hz₅:(s₃.heap.push { cls:=.type "dict",data:=.dict #[] }).objs.size=s₃.heap.objs.size+1:=oR ..
 generalize hs₄:({ s₃ with heap:=dJ (s₃.heap.push { cls:=.type "dict",data:=.dict #[] }) scope.names }:Shared)=s₄
 have hz₃:s₃.heap.objs.size=s₂.heap.objs.size+1:=by rw[hh₃,oR]
 have e₃:aw [] φ₁ s₂ φ₁ s₃:=by rw[<- hs₃];exact aw.push
 have S₃:aq c φ₁ H₁ s₃:=by rw[<- hs₃];exact S₂.push _
 have e₄:aw [] φ₁ s₃ φ₁ s₄:=by rw[<- hs₄];exact aw.of_keeps keep₄ rfl
 have S₄:aq c φ₁ H₁ s₄:=by rw[<- hs₄];exact S₃.keeps (s':={ s₃ with heap:=_ }) keep₄ rfl
 have hD₃:s₃.heap.get? s₂.heap.objs.size=some (ey #[] 0):=by rw[hh₃];exact eG _ rfl
 have hD₄:s₄.heap.get? s₂.heap.objs.size=some (ey #[] 0):=by rw[<- hs₄];exact keep₄ _ _ hD₃
 have hC₅:(s₃.heap.push { cls:=.type "dict",data:=.dict #[] }).get? s₃.heap.objs.size=some { cls:=.type "dict",data:=.dict #[] }:=eG _ rfl
 have e₀₄:aw [] φ s φ₁ s₄:=(e₁₂.trans e₃).trans e₄
 have hD0:s.heap.get? s₂.heap.objs.size=none:=e₁₂.fresh S₂ (fJ (aJ _))
 have hC0:s.heap.get? s₃.heap.objs.size=none:=(e₁₂.trans e₃).fresh S₃ (fJ (aJ _))
 have hw0:∀b∈wr,s.heap.get? b=none:=fun b hb=>e₁.fresh S₁ (hw₂ b hb)
 have hDC:s₂.heap.objs.size≠s₃.heap.objs.size:=by rw[hz₃];exact ck (Nat.lt_succ_self _)
 have hDh:=S₂.h0_new (aJ s₂.heap.objs.size)
 have hCh:=S₃.h0_new (aJ s₃.heap.objs.size)
 have hDφ:s₂.heap.objs.size∉φ₁:=S₂.new
 have hCφ:s₃.heap.objs.size∉φ₁:=S₃.new
 have hnew:∀b,s₃.heap.objs.size<=b->b∉φ₁/\c.h0.get? b=none:=fun b hb=>⟨fun hm=>fN.mpr hb (S₃.lt hm),S₃.h0_new hb⟩
 have F₃:=hF.mono e₀₄
 rw[<- hs₄] at F₃
 have F₄:=Jn K hz₅ F₃ hC₅ hnew
 have EX:=j0 K hz₅ (hF.mono (e₁₂.trans e₃)) (fun b o hb=>ic hb)
 have hX0:∀b∈XC (compEnvC scope (dN (s₃.heap.objs.size+1) scope.names (e9 wz scope.names [])) s₃.heap.objs.size wz),s.heap.get? b=none:=fun b hb=>
  (e₁₂.trans e₃).fresh S₃ (fJ ((Dv hb).elim (fun h=>eR h.symm) fun h=>bO h.2))
 have hDX:s₂.heap.objs.size∉XC (compEnvC scope (dN (s₃.heap.objs.size+1) scope.names (e9 wz scope.names [])) s₃.heap.objs.size wz):=fun h=>by
  have hlt:s₂.heap.objs.size<s₃.heap.objs.size:=by rw[hz₃];exact Nat.lt_succ_self _
  exact(Dv h).elim (fun h=>ck hlt h) fun h=>Nat.lt_asymm hlt h.2
 have st₄:=I.frame _ _ _ _ _ _ (I.frame _ _ _ _ _ _ st₂ e₃.toKp aA.nil fun J J h=>nomatch h) e₄.toKp aA.nil fun J J h=>nomatch h
 have hok:gx v₁ items H₁:=by
  cases v₁ with
  |lst a=>exact hitems
  |_=>trivial
 have loop:codeAny (model c.prog c.w) A (.compLoop (.ListComp elt [⟨tgt,iter,ifs,0⟩] scope pos) 0 it (.ref s₂.heap.objs.size) (compEnvC scope (dN (s₃.heap.objs.size+1) scope.names (e9 wz scope.names [])) s₃.heap.objs.size wz))
   (ud (model c.prog c.w) A (aB c φ s E) use Q' (.ref s₂.heap.objs.size) s₃.heap.objs.size) s₄:=by
  refine IX (c:=c) (wz:=wz) (wu:=wu) (loc:=loc) (QQ:=fun acc H'=>Q (.lst H'.length) (H'++[acc])) ⟨hA,K,rfl,I,EX,hX0,hD0,hw0,hDX,hDh⟩ (helt _ rfl) (hifs _ rfl) wq
   ⟨e₀₄,S₄,hs₄▸F₄,st₄,⟨#[],0,hD₄,rL,hDφ⟩⟩ hok w₂ ?_
  intro av φ' H' s' e' S' F' hacc hav hq
  obtain⟨vs,n,ho,hr,hD'⟩:=hacc
  obtain⟨m,⟨hn,o,h1,h2⟩,_,_⟩:=F'.ns
  have h2':o.cls=.type "dict"/\m (ar "at")=none:=by
   rcases h2 with h2 |h2
   ·rw[K.fr0] at h2;cases h2.2
   ·exact⟨h2.1,h2.2.1⟩
  refine hend _ _ s' (fun J kJ=>kJ (φ'++[s₂.heap.objs.size]) (H'++[av]) H'.length ?_ (S'.adopt hD' hDh ho rfl rfl ⟨rfl,rfl⟩ hr hav) (ew.mk _ rfl (by rw[iH (eR S'.len)];simp[S'.len])) hq (fun hm=>?_) m ⟨hn,o,h1,h2'.1⟩ h2'.2 hC0 hCh)
  ·exact{ e' with
    pre:=e'.pre.trans (List.prefix_append _ _)
    new:=fun a ha=>(bJ.mp ha).elim (e'.new a) fun h=>.inr (by rw[aN.mp h];exact hD0) }
  ·rcases bJ.mp hm with h |h
   ·exact F'.Lφ h
   ·exact hDC (aN.mp h).symm
 subst hs₄
 subst hs₃
 exact codeAny_compStart_list loop (I.self 0 φ₁ _ _ _ st₄ loop)
def Jr{scope:Scope}(K:cT c wz wu res0 res' scope tgt t)(hfold:∀x,wb iter wz x=pure x)(hsrc:aT c wz wu iter xsrc)
  (helt:∀wv:Env,wv.scope=eP scope wz->aT c wv res' elt xelt) (hifs:∀wv:Env,wv.scope=eP scope wz->iP c wv res' ifs xifs) :
  aT c wz wu (.ListComp elt [⟨tgt,iter,ifs,0⟩] scope pos) (.comp xelt t xsrc xifs):=fun A q d k loc φ H s Q E hA hF hS hw=>by
 rw[eval_ListComp]
 refine E9 K hfold hsrc helt hifs hA hF hS hw ?_
 rintro D C s' w0;refine w0 _ fun φ' H' a e S R hq hC m hm hat hC0 hCh=>?_;clear w0
 refine⟨m,hm,fun h' m' hn' hs'=>?_⟩
 have g:=yb S hm hat hC hCh hn' hs'
 exact⟨φ',H',.lst a,e.kept g.kept fun b hb=>by rw[aN.mp hb];exact hC0,g.sim,ax.mono g.kp g.ow R,hq⟩
end
section
open PySem PyProof.Rows
structure aL(c:Cx)(xs:List Addr)(s s':Shared):Prop where
 keep:∀b o,b∉xs->s.heap.get? b=some o->o.cls≠.type "frame"->s'.heap.get? b=some o
 slot:∀b o,b∉xs->s.heap.get? b=some o->∃sl,s'.heap.get? b=some { o with slots:=sl }
 base:∀b o,c.h0.get? b=some o->s.heap.get? b=some o->s'.heap.get? b=some o
 exc:∀b o,b∈xs->s.heap.get? b=some o->∃vs,s'.heap.get? b=some { o with data:=.fields vs }
 gens:s'.gens=s.gens
 os:s'.os=s.os
def bN(c:Cx)(xs φ:List Addr)(h:Heap):Prop:=∀b∈xs,b∉φ/\c.h0.get? b=none/\∃o vs,h.get? b=some o/\o.data=.fields vs/\((∃C,o.cls=.ref C)\/o.cls=.type "traceback")
def aL.trans(a:aL c xs s s₁)(b:aL c xs s₁ s'):aL c xs s s' where
 keep x o hx ho hc:=b.keep x o hx (a.keep x o hx ho hc) hc
 slot x o hx ho:=by
  obtain⟨sl,h1⟩:=a.slot x o hx ho
  obtain⟨sl',h2⟩:=b.slot x _ hx h1
  exact⟨sl',h2⟩
 base x o h0 ho:=b.base x o h0 (a.base x o h0 ho)
 exc x o hx ho:=by
  obtain⟨vs,h1⟩:=a.exc x o hx ho
  obtain⟨vs',h2⟩:=b.exc x _ hx h1
  exact⟨vs',h2⟩
 gens:=b.gens.trans a.gens
 os:=b.os.trans a.os
theorem aL.refl(hx:bN c xs φ s.heap):aL c xs s s where
 keep _ _ _ h _:=h
 slot _ o _ h:=⟨o.slots,h⟩
 base _ _ _ h:=h
 exc b o hb ho:=by
  obtain⟨_,_,o',vs,h1,h2,_⟩:=hx b hb
  replace h1:=ai (ho.symm.trans h1);subst h1
  exact⟨vs,by rw[<- h2];exact ho⟩
 gens:=rfl
 os:=rfl
def aL.kp(n:aL c xs s s')(hx:bN c xs φ s.heap):Kp xs φ s.heap φ s'.heap where
 pre:=nU
 keep b o hb _ hX hc:=n.keep b o hX hb (lR hc)
 new _ h:=.inl h
 dict b o es k hb _ hd:=by
  have hn:b∉xs:=fun hm=>by
   obtain⟨_,_,o',vs,h1,h2,_⟩:=hx b hm
   replace h1:=ai (hb.symm.trans h1);subst h1;rw[hd] at h2;injection h2
  obtain⟨sl,h1⟩:=n.slot b o hn hb
  exact⟨_,es,k,h1,hd,.same rfl rfl⟩
 exc b o vs C hb _ hc hd:=by
  by_cases hm:b∈xs
  ·exact n.exc b o hm hb
  ·exact⟨vs,by rw[<- hd];exact n.keep b o hm hb (by rw[hc];intro q;injection q)⟩
def bN.own(hx:bN c xs φ s.heap):aA c xs s.heap:=fun b hb o ho=>by
 obtain⟨_,_,o',vs,h1,_,h3⟩:=hx b hb;replace h1:=ai (ho.symm.trans h1);subst h1;rcases h3 with h3 |h3
 ·exact .inr (.inr (.inr h3))
 ·exact .inl (by rw[h3];decide)
def aq.noted(S:aq c φ H s)(n:aL c xs s s')(hx:bN c xs φ s.heap):aq c φ H s':=
 S.mono (n.kp hx) hx.own (fun b hb=>(hx b hb).2.1) (fun a ha o ho=>by
  obtain⟨o',h1,h2⟩:=S.isList ha;replace h1:=ai (ho.symm.trans h1);subst h1;exact n.keep a o (fun hm=>(hx a hm).1 ha) ho (by rw[h2];decide)) (fun b o hb J=>n.base b o hb (S.stays b o hb)) (n.gens.trans S.gens) fun b ps hb=>n.keep b _ (fun hm=>by obtain⟨_,_,o1,vs,h1,_,h3⟩:=hx b hm;replace h1:=ai (hb.symm.trans h1);subst h1;exact h3.elim (fun⟨_,q⟩=>nomatch q) fun q=>nomatch q) hb (fun q=>nomatch q)
def ee.excs(F:au c wz wu k loc φ s.heap)(h:bN c xs φ s.heap):ee wz xs s where
 loc hm:=by
  obtain⟨_,_,o,vs,h1,h2,_⟩:=h _ hm
  obtain⟨m,⟨⟨o',es,n,h3,h4,_⟩,_⟩,_⟩:=F.ns
  replace h3:=ai (h1.symm.trans h3);subst h3
  rw[h2] at h4;injection h4
 cells x ca hx hm:=by
  obtain⟨_,_,o,vs,h1,h2,h5⟩:=h _ hm
  obtain⟨_,_,o',h3,h4⟩:=F.cells x ca hx
  replace h3:=ai (h1.symm.trans h3);subst h3
  rcases h5 with⟨C,h5⟩|h5
  ·rw[h4] at h5;injection h5
  ·rw[h4] at h5;exact absurd h5 (by decide)
 clo ca o ho hc _ hm:=by
  obtain⟨_,_,o',vs,h1,h2,h5⟩:=h _ hm
  replace h1:=ai (ho.symm.trans h1);subst h1
  rcases h5 with⟨C,h5⟩|h5
  ·rw[hc] at h5;injection h5
  ·rw[hc] at h5;exact absurd h5 (by decide)
def au.noted(F:au c wz wu k loc φ s.heap)(n:aL c xs s s')(hx:bN c xs φ s.heap):au c wz wu k loc φ s'.heap:=
 F.off (n.kp hx) hx.own (ee.excs F hx) fun o ho=>n.slot _ o (ee.excs F hx).loc ho
def aw.noted(e:aw X φ₀ s₀ φ s)(n:aL c xs s s')(hn:∀b∈xs,s₀.heap.get? b=none):aw X φ₀ s₀ φ s' where
 pre:=e.pre
 keep b o hb hφ hX hc:=n.keep b o (fun q=>by exact cR ((hn b q).symm.trans hb)) (e.keep b o hb hφ hX hc) (lR hc)
 new:=e.new
 tabs b o hb hφ hX hc:=
  let⟨o',h',c'⟩:=e.tabs b o hb hφ hX hc
  ⟨o',n.keep b o' (fun q=>by exact cR ((hn b q).symm.trans hb)) h' (by rw[c'];decide),c'⟩
 frame b o hb hφ hX hc:=by
  obtain⟨sl,h₁⟩:=e.frame b o hb hφ hX hc
  obtain⟨sl',h₂⟩:=n.slot b _ (fun q=>by exact cR ((hn b q).symm.trans hb)) h₁
  exact⟨sl',h₂⟩
 dict b o es k hb hφ hd:=by
  obtain⟨o₁,es₁,n₁,h₁,d₁,c₁⟩:=e.dict b o es k hb hφ hd
  obtain⟨sl',h₂⟩:=n.slot b _ (fun q=>by exact cR ((hn b q).symm.trans hb)) h₁
  exact⟨_,es₁,n₁,h₂,d₁,dK.trans (o₁:=o₁) (dK.same rfl rfl) c₁ d₁⟩
 exc b o vs C hb hφ hc hd:=by
  obtain⟨vs₁,h₁⟩:=e.exc b o vs C hb hφ hc hd
  exact⟨vs₁,n.keep b _ (fun q=>by exact cR ((hn b q).symm.trans hb)) h₁ (by show o.cls≠_;rw[hc];intro q;injection q)⟩
 alive b o hb hX:=by
  obtain⟨o',h'⟩:=e.alive b o hb hX
  obtain⟨sl',h₂⟩:=n.slot b _ (fun q=>by exact cR ((hn b q).symm.trans hb)) h'
  exact⟨_,h₂⟩
 os:=n.os.trans e.os
def o8(h:Heap)(e:Value):Prop:=∃a o vs T,e=.ref a/\h.get? a=some o/\o.data=.fields vs/\vs[1]?=some (.ref T)
theorem cx.excs(q:cx c φ s₀ h x e):∃a o vs,e=.ref a/\h.get? a=some o/\o.data=.fields vs/\1<vs.size/\(∃C,o.cls=.ref C) /\ ((vs[1]?=some .none/\bN c [a] φ h/\∀b∈[a],s₀.heap.get? b=none) \/
   ∃T oT ts,vs[1]?=some (.ref T)/\T≠a/\h.get? T=some oT/\oT.data=.fields ts/\3<ts.size/\oT.cls=.type "traceback"/\bN c [a,T] φ h/\∀b∈[a,T],s₀.heap.get? b=none):=by
 obtain⟨h1,⟨cn,y,rfl⟩,a,o,vs,rfl,h4,h5,h6,h7⟩:=q;simp only[ax] at h1;obtain⟨a',o',vs',h8,h9,h10,h11,h12,h13,h14,_⟩:=h1;(injection h8 with Ja;subst Ja);replace h11:=ai (h5.symm.trans h11);subst h11;rw[h6] at h14;injection h14 with Ja;subst Ja;refine⟨a,o,vs,rfl,h5,h6,?_,h12,?_⟩
 ·rcases h7 with h7 |⟨T,_,_,h7,_⟩<;>exact(Array.getElem?_eq_some_iff.mp h7).1
 ·rcases h7 with h7 |⟨T,oT,ts,g1,g2,g3,g4,g5,g6,g7,g8⟩
  ·refine .inl ⟨h7,fun b hb=>?_,by simpa using h4⟩;rw[aN.mp hb];exact⟨h9,h10,o,vs,h5,h6,.inl h12⟩
  ·have hne:T≠a:=fun q=>by
    rw[q,h5] at g5;(injection g5 with Ja;subst Ja);obtain⟨C,h12⟩:=h12;rw[h12] at g6;injection g6
   refine .inr ⟨T,oT,ts,g1,hne,g5,g7,g8,g6,fun b hb=>?_,fun b hb=>?_⟩
   ·simp only[bj,fX,or_false] at hb;rcases hb with rfl |rfl
    ·exact⟨h9,h10,o,vs,h5,h6,.inl h12⟩
    ·exact⟨g3,g4,oT,ts,g5,g7,.inr g6⟩
   ·simp only[bj,fX,or_false] at hb;rcases hb with rfl |rfl
    ·exact h4
    ·exact g2
end
section
open PySem PyProof.Rows
def Im(h:o.data=.fields vs)(f:Array Value->Array Value):rQ f o={ o with data:=.fields (f vs) }:=by
 obtain⟨a,b,d,e⟩:=o;subst h;rfl
def aL.upd(hx:bN c xs φ s.heap)(hb:b∈xs)(ho:s.heap.get? b=some o)(hd:o.data=.fields vs)(f:Array Value->Array Value) :
  aL c xs s { s with heap:=s.heap.update b (rQ f) }/\(s.heap.update b (rQ f)).get? b=some { o with data:=.fields (f vs) }:=by
 have self:(s.heap.update b (rQ f)).get? b=some { o with data:=.fields (f vs) }:=by
  rw[gi _ ho (Obj.isFreed_of_fields (Obj.data_mapFields hd f)),Im hd]
 refine⟨⟨fun a oa ha hoa J=>?_,fun a oa ha hoa=>⟨oa.slots,?_⟩,fun a oa h0 hoa=>?_,fun a oa ha hoa=>?_,rfl,rfl⟩,self⟩
 ·exact(rD _ _ (fun(q:b=a)=>ha (q▸hb))).trans hoa
 ·exact(rD _ _ (fun(q:b=a)=>ha (q▸hb))).trans hoa
 ·exact(rD _ _ (fun q=>by rw[<- q,(hx b hb).2.1] at h0;injection h0)).trans hoa
 ·by_cases q:a=b
  ·subst q;replace hoa:=ai (ho.symm.trans hoa);subst hoa;exact⟨_,self⟩
  ·obtain⟨_,_,o',vs',h1,h2,_⟩:=hx a ha;replace h1:=ai (hoa.symm.trans h1);subst h1;exact⟨vs',by rw[<- h2];exact(rD _ _ (c5 q)).trans hoa⟩
theorem aL.push(hx:bN c xs φ s.heap)(o:Obj):aL c xs s { s with heap:=s.heap.push o } where
 keep _ _ _ h _:=cz _ h
 slot _ o' _ h:=⟨o'.slots,cz _ h⟩
 base _ _ _ h:=cz _ h
 exc b o' hb ho:=by
  obtain⟨_,_,o1,vs,h1,h2,_⟩:=hx b hb
  replace h1:=ai (ho.symm.trans h1);subst h1
  exact⟨vs,by rw[<- h2];exact cz _ ho⟩
 gens:=rfl
 os:=rfl
theorem G7(hE:∀wz∈l,bB c φ h wz):h.FunFrames c.h0 l:=by
 induction l with
 |nil=>trivial
 |cons wz l ih=>
  obtain⟨h1,L,o,es,n,h2,h3,h4,h5,h6,h7⟩:=hE wz aI;exact⟨h1.1,⟨L,o,h2,h3,h5,fun vs q=>by rw[h6] at q;injection q⟩,ih fun wz he=>hE wz (a0 _ he)⟩
def zF(hE:∀wz∈l,bB c φ h wz)(hb:b∈l.filterMap (·.frame)):c.h0.get? b=none/\∃o es n,h.get? b=some o/\o.cls=.type "frame"/\o.data=.dict es n:=by
 obtain⟨wz,he,hf⟩:=List.mem_filterMap.mp hb;obtain⟨h1,L,o,es,n,h2,h3,h4,h5,h6,h7⟩:=hE wz he;replace h2:=ai (hf.symm.trans h2);subst h2;exact⟨h3,o,es,n,h5,h7,h6⟩
theorem aL.slots(hx:bN c xs φ s.heap)(hE:∀wz∈l,bB c φ s.heap wz)(hs:Heap.SlotsOnly (l.filterMap (·.frame)) s.heap h'):aL c xs s { s with heap:=h' } where
 keep b o _ ho hc:=by
  refine(hs.2.1 b fun hm=>?_).trans ho
  obtain⟨_,o',_,_,h1,h2,_⟩:=zF hE hm
  replace h1:=ai (ho.symm.trans h1);subst h1;exact hc h2
 slot b o _ ho:=hs.2.2 b o ho
 base b o h0 ho:=(hs.2.1 b fun hm=>by exact cR (((zF hE hm).1).symm.trans h0)).trans ho
 exc b o hb ho:=by
  obtain⟨_,_,o1,vs,h1,h2,_⟩:=hx b hb
  replace h1:=ai (ho.symm.trans h1);subst h1
  refine⟨vs,?_⟩
  rw[<- h2]
  refine(hs.2.1 b fun hm=>?_).trans ho
  obtain⟨_,o',es,n,h3,_,h5⟩:=zF hE hm
  replace h3:=ai (ho.symm.trans h3);subst h3;rw[h2] at h5;injection h5
 gens:=rfl
 os:=rfl
def bN.noted(hx:bN c xs φ s.heap)(n:aL c xs s s'):bN c xs φ s'.heap:=fun b hb=>by
 obtain⟨h1,h2,o,vs,h3,h4,h5⟩:=hx b hb;obtain⟨vs',h6⟩:=n.exc b o hb h3;exact⟨h1,h2,_,vs',h6,rfl,h5⟩
def bB.noted(h:bB c φ s.heap wz)(n:aL c xs s s')(hx:bN c xs φ s.heap):bB c φ s'.heap wz:=by
 obtain⟨h1,L,o,es,k,h2,h3,h4,h5,h6,h7⟩:=h;obtain⟨sl,h8⟩:=n.slot L o (fun hm=>by
  obtain⟨_,_,o',vs,h1,h2,_⟩:=hx L hm;replace h1:=ai (h5.symm.trans h1);subst h1;rw[h6] at h2;injection h2) h5
 exact⟨h1,L,_,es,k,h2,h3,h4,h8,h6,h7⟩
theorem FS{b:Bool}(hfr:A.frames=some (wz::outer))(hE:∀e∈wz::outer,bB c φ s.heap e)(hf:wz.frame=some L) (hx:bN c xs φ s.heap) (ha:a∈xs) (ho:s.heap.get? a=some o) (hd:o.data=.fields vs) (hz:1<vs.size) :
  wpAny (model c.prog c.w) A (do let fr<-frameOf wz;let pl<-entryPlaceOf L b;let t<-EntryCells.newEntry head fr .none (rawInt L) .none pl;setField (.ref a) 1 t)
   (fun J s'=>aL c xs s s'/\∃T oT ts vs',s'.heap.get? a=some { o with data:=.fields vs' }/\vs'[1]?=some (.ref T)/\s.heap.objs.size<=T/\s'.heap.get? T=some oT/\oT.cls=.type "traceback"/\oT.data=.fields ts/\3<ts.size) E s:=by
 refine ak (wpAny_frameOf_fun hfr (G7 hE) hf fun h₁ hs₁=>?_);refine ak (wpAny_entryPlaceOf fun pl hpl=>?_);have n₁:=aL.slots hx hE hs₁;obtain⟨vs₁,ho₁⟩:=n₁.exc a o ha ho;have hv:vs₁=vs:=by
  have:h₁.get? a=some o:=by
   refine(hs₁.2.1 a fun hm=>?_).trans ho;obtain⟨_,o',es,n,h3,_,h5⟩:=zF hE hm;replace h3:=ai (ho.symm.trans h3);subst h3;rw[hd] at h5;injection h5
  have h2:=ai (this.symm.trans ho₁);rw[h2] at hd;simpa using hd
 subst hv;unfold EntryCells.newEntry newFields;refine ak (oV ?_ (hpl.sizeOk5 _ _ _ _ _));generalize hent:({ cls:=.type "traceback",dict:=none,data:=.fields ([head,.ref L,.none,rawInt L,.none]++(if pl.isEmpty then List.replicate 6 dS else pl)).toArray }:Obj)=ent;have n₂:=aL.push (s:={ s with heap:=h₁ }) (hx.noted n₁) ent;have ho₂:(h₁.push ent).get? a=some { o with data:=.fields vs₁ }:=cz _ ho₁;have hx₂:bN c xs φ (h₁.push ent):=(hx.noted n₁).noted n₂;obtain⟨n₃,ho₃⟩:=aL.upd (s:={ s with heap:=h₁.push ent }) hx₂ ha ho₂ rfl (·.setIfInBounds 1 (bX h₁.objs.size));refine wpAny_setField ho₂ rfl hz ?_;refine⟨(n₁.trans n₂).trans n₃,h₁.objs.size,ent,_,_,ho₃,by simp[hz],?_,?_,by rw[<- hent],by rw[<- hent],?_⟩
 ·rw[hs₁.1];exact aJ _
 ·refine(rD _ _ (ck (ic ho₁))).trans (eG _ ?_);rw[<- hent];rfl
 ·simp only[List.size_toArray,bw,fO,List.length_nil]<;>exact bp [_] [] 171801870336 (Y1 (.l 3) (Y0 (.l 5) V0))
theorem BX (hfr : A.frames = some (wz :: outer)) (hE : ∀ e ∈ wz :: outer, bB c φ s.heap e) (S : aq c φ H s) (e₀ : aw X φ₀ s₀ φ s) (q : cx c φ s₀ s.heap x e) :
  wpAny (model c.prog c.w) A (noteFrame e wz) (fun J s' => ∃ xs, bN c xs φ s.heap /\ (∀ b ∈ xs, s₀.heap.get? b = none) /\ aL c xs s s' /\ cx c φ s₀ s'.heap x e /\ o8 s'.heap e) E s := by
 obtain ⟨_, L, oL, esL, nL, hf, hL0, hLφ, hoL, hdL, hcL⟩ := hE wz aI;obtain ⟨a, o, vs, rfl, ho, hd, hz, hC, h7⟩ := q.excs;obtain ⟨q1, q2, _⟩ := q;have fresh : ∀ T, s.heap.objs.size <= T -> s₀.heap.get? T = none /\ T ∉ φ /\ c.h0.get? T = none := fun T hT =>
  ⟨e₀.fresh S (fJ hT), fun hm => d4 _ (cS (S.lt hm) hT), S.h0_new hT⟩
 unfold noteFrame;simp only [hf];rcases h7 with ⟨h1, hx, hn⟩ | ⟨T, oT, ts, h1, hTa, hoT, hdT, hzT, hcT, hx, hn⟩
 ·refine ak (nW ho hd h1 ?_);rw [if_neg (by decide)];refine wm (FS hfr hE hf hx (by simp) ho hd hz) ?_;rintro _ s' ⟨n, T, oT, ts, vs', g1, g2, g3, g4, g5, g6, g7⟩;obtain ⟨f1, f2, f3⟩ := fresh T g3;exact ⟨[a], hx, hn, n, ⟨ax.mono (n.kp hx) hx.own q1, q2, a, _, vs', rfl, hn a (by simp), g1, rfl, .inr ⟨T, oT, ts, g2, f1, f2, f3, g4, g5, g6, g7⟩⟩, a, _, vs', T, rfl, g1, rfl, g2⟩
 ·refine ak (nW ho hd h1 ?_);rw [if_pos (show (bX T != dS) = true from by simp)];have h3 : ts[3]? = some ts[3] := uA hzT;refine ak (nW hoT hdT h3 ?_);by_cases hsame : (ts[3] == rawInt L) = true
  ·rw [if_pos hsame];exact aE ⟨[a, T], hx, hn, aL.refl hx, ⟨q1, q2, a, o, vs, rfl, hn a (by simp), ho, hd, .inr ⟨T, oT, ts, h1, hn T (by simp), (hx T (by simp)).1, (hx T (by simp)).2.1, hoT, hcT, hdT, hzT⟩⟩, a, o, vs, T, rfl, ho, hd, h1⟩
  ·rw [if_neg hsame];obtain ⟨n₁, hoT₁⟩ := aL.upd hx (b := T) (by simp) hoT hdT (·.setIfInBounds 3 dS);refine ak (wpAny_setField hoT hdT hzT ?_);have ho₁ : (s.heap.update T (rQ (·.setIfInBounds 3 dS))).get? a = some o := (rD _ _ hTa).trans ho;refine wm (FS (s := { s with heap := s.heap.update T (rQ (·.setIfInBounds 3 dS)) }) hfr (fun e he => (hE e he).noted n₁ hx) hf (hx.noted n₁) (by simp) ho₁ hd hz) ?_;rintro _ s' ⟨n, T', oT', ts', vs', g1, g2, g3, g4, g5, g6, g7⟩;have hsz : s.heap.objs.size <= T' := by
    have : (s.heap.update T (rQ (·.setIfInBounds 3 dS))).objs.size = s.heap.objs.size := (oQ s.heap T _).1;exact this ▸ g3
   obtain ⟨f1, f2, f3⟩ := fresh T' hsz;have nn := n₁.trans n;exact ⟨[a, T], hx, hn, nn, ⟨ax.mono (nn.kp hx) hx.own q1, q2, a, _, vs', rfl, hn a (by simp), g1, rfl, .inr ⟨T', oT', ts', g2, f1, f2, f3, g4, g5, g6, g7⟩⟩, a, _, vs', T', rfl, g1, rfl, g2⟩
theorem Ah {fl : Option Addr} (q : cx c φ s₀ s.heap x e) (ht : o8 s.heap e) :
  wpAny (model c.prog c.w) A (setFlight e fl) (fun J s' => ∃ xs, bN c xs φ s.heap /\ (∀ b ∈ xs, s₀.heap.get? b = none) /\ aL c xs s s' /\ cx c φ s₀ s'.heap x e /\ o8 s'.heap e) E s := by
 obtain ⟨a, o, vs, rfl, ho, hd, hz, hC, h7⟩ := q.excs;obtain ⟨q1, q2, _⟩ := q;obtain ⟨a', o', vs', T', h8, h9, h10, h11⟩ := ht;(injection h8 with Ja; subst Ja);replace h9 := ai (ho.symm.trans h9); subst h9;rw [hd] at h10; injection h10 with Ja; subst Ja;rcases h7 with ⟨h1, _⟩ | ⟨T, oT, ts, h1, hTa, hoT, hdT, hzT, hcT, hx, hn⟩
 ·rw [h1] at h11; injection h11 with Ja; injection Ja
 ·unfold setFlight;refine ak (nW ho hd h1 ?_);rw [if_pos (show (bX T != dS) = true from by simp)];refine wpAny_setField hoT hdT hzT ?_;obtain ⟨n₁, hoT₁⟩ := aL.upd hx (b := T) (by simp) hoT hdT (·.setIfInBounds 3 (fl.elim dS fun f => rawInt f));have ho₁ : (s.heap.update T (rQ (·.setIfInBounds 3 (fl.elim dS fun f => rawInt f)))).get? a = some o := (rD _ _ hTa).trans ho;exact ⟨[a, T], hx, hn, n₁, ⟨ax.mono (n₁.kp hx) hx.own q1, q2, a, o, vs, rfl, hn a (by simp), ho₁, hd, .inr ⟨T, _, _, h1, hn T (by simp), (hx T (by simp)).1, (hx T (by simp)).2.1, hoT₁, hcT, rfl, by simpa using hzT⟩⟩, a, o, vs, T, rfl, ho₁, hd, h1⟩
end
variable {b:List Stmt}{e:Expr}{l:Loc}{vs:List V}{x:Value}{xs:List St}
section
open PySem PyProof.Rows
def C7(c:Cx)(φ:List Addr)(h:Heap)(r:Value)(P:V->Prop):Prop:=∀GJ:Prop,(∀(v:V),ax c φ h v r->P v->GJ)->GJ
def wR(c:Cx)(φ:List Addr)(h:Heap)(f:Flow)(P:Fl->Prop):Prop:=match f with
 |.next=>P .next
 |.ret r=>C7 c φ h r fun v=>P (.ret v)
 |_=>False
inductive gf(c:Cx)(wz:Env)(wu:Res)(k:dB)(φ:List Addr)(s:Shared)(X:List Addr)(Q:SPost)(f:Flow)(s':Shared):Prop
 |mk (φ':List Addr)(H':Hp)(loc':Loc)(e:aw X φ s φ' s')(S:aq c φ' H' s')(F:au c wz wu k loc' φ' s'.heap)(q:wR c φ' s'.heap f fun f=>Q f loc' H'):gf c wz wu k φ s X Q f s'
inductive bD(c:Cx)(wz:Env)(wu:Res)(k:dB)(φ:List Addr)(s:Shared)(X:List Addr)(E:SX)(e:Value)(s':Shared):Prop
 |mk (φ':List Addr)(H':Hp)(loc':Loc)(x:V)(ex:aw X φ s φ' s')(S:aq c φ' H' s')(F:au c wz wu k loc' φ' s'.heap)(R:cx c φ' s s'.heap x e)(q:E x loc' H'):bD c wz wu k φ s X E e s'
def wQ(A:Around)(wz:Env):Prop:=∃outer,A.frames=some (wz::outer)
def eZ(c:Cx)(wz:Env)(wu:Res)(X:List Addr)(st:Stmt)(x:St):Prop:=
 ∀A q d k loc φ H s Q E,bY c A q d φ s.heap->wQ A wz->au c wz wu k loc φ s.heap->aq c φ H s->iz (Calls c) q d k x Q E loc H->
  wpAny (model c.prog c.w) A (exec st wz) (gf c wz wu k φ s X Q) (bD c wz wu k φ s X E) s
def gD(c:Cx)(wz:Env)(wu:Res)(X:List Addr)(sts:List Stmt)(xs:List St):Prop:=
 ∀A q d k loc φ H s Q E,bY c A q d φ s.heap->wQ A wz->au c wz wu k loc φ s.heap->aq c φ H s->az (Calls c) q d k xs Q E loc H->
  wpAny (model c.prog c.w) A (execs sts wz) (gf c wz wu k φ s X Q) (bD c wz wu k φ s X E) s
section
variable {E:SX}
def gf.lift(e:aw X φ s φ₁ s₁)(h:gf c wz wu k φ₁ s₁ X Q f s₂):gf c wz wu k φ s X Q f s₂:=
 let⟨φ',H',l,e',S,F,q⟩:=h;⟨φ',H',l,e.trans e',S,F,q⟩
def bD.lift(e:aw X φ s φ₁ s₁)(S₁:aq c φ₁ H s₁)(h:bD c wz wu k φ₁ s₁ X E x s₂):bD c wz wu k φ s X E x s₂:=
 let⟨φ',H',l,v,e',S,F,R,hq⟩:=h;⟨φ',H',l,v,e.trans e',S,F,R.lift e S₁,hq⟩
def au.weak(F:au c wz wu k loc φ s.heap)(hX:aP al wz X)(e:aw [] φ s φ' s'):aw X φ s φ' s':=
 e.weaken (fun J h=>nomatch h) fun b hb=>(F.outX hX b hb).1
def aB.toS(F:au c wz wu k loc φ s.heap)(hX:aP al wz X)(h:aB c φ s (fun x H=>E x loc H) x s₁):bD c wz wu k φ s X E x s₁:=
 let⟨φ',H',v,e',S,R,hq⟩:=h;⟨φ',H',loc,v,F.weak hX e',S,F.mono e',R,hq⟩
def bD.no{P:Prop}(h:bD c wz wu k φ s X (fun J J J=>False) x s₁):P:=let⟨_,_,_,_,_,_,_,_,h⟩:=h;h.elim
def bY.monoX(h:bY c A q d φ s.heap)(e:aw X φ s φ' s'):bY c A q d φ' s'.heap:=h.mono e
def Je(hA:bY c A q d φ s.heap)(hh:wQ A wz)(h:bD c wz wu k φ s X E x s₁) :
  notedBy (model c.prog c.w) A wz (fun e s'=>cameBackBy (model c.prog c.w) A wz (bD c wz wu k φ s X E) e s') x s₁:=by
 obtain⟨φ',H',l,v,e',S,F,R,hq⟩:=h;obtain⟨outer,hfr⟩:=hh;have hE:∀e∈wz::outer,bB c φ' s₁.heap e:=by
  obtain⟨l',h1,h2⟩:=(hA.monoX e').fr;replace h1:=ai (hfr.symm.trans h1);subst h1;exact h2
 unfold notedBy;refine wm (BX hfr hE S e' R) ?_;rintro _ s₂ ⟨xs,hx,hn,n,R₂,ht⟩;have e₂:=e'.noted n hn;have S₂:=S.noted n hx;have F₂:=F.noted n hx;unfold cameBackBy;obtain⟨a,o,vs,T,rfl,g1,g2,g3⟩:=id ht;refine ak (nW g1 g2 g3 ?_);rw[if_neg (by intro q;injection q)];refine wm (Ah R₂ ht) ?_;rintro _ s₃ ⟨xs,hx,hn,n,R₃,ht⟩;exact⟨φ',H',l,v,e₂.noted n hn,S₂.noted n hx,F₂.noted n hx,R₃,hq⟩
def BR:gD c wz wu X [] []:=fun A q d k loc φ H s Q E hA hh hF hS hw=>by
 exact wpAny_execs_nil ⟨φ,H,loc,aw.refl,hS,hF,hw⟩
theorem zR {x:St} (h1:eZ c wz wu X st x) (h2:gD c wz wu X sts xs):gD c wz wu X (st::sts) (x::xs):=fun A q d k loc φ H s Q E hA hh hF hS hw=>by
 refine wpAny_execs_cons (wm (h1 A q d k loc φ H s _ E hA hh hF hS hw) ?_);rintro f s₁ ⟨φ₁,H₁,l₁,e₁,S₁,F₁,w₁⟩;cases f with
 |next=>exact a9 (h2 A q d k l₁ φ₁ H₁ s₁ Q E (hA.monoX e₁) hh F₁ S₁ w₁) (fun J J h=>h.lift e₁) fun J J h=>h.lift e₁ S₁
 |ret r=>exact⟨φ₁,H₁,l₁,e₁,S₁,F₁,w₁⟩
 |_=>exact w₁.elim
def FF {x:Ex} (hX:aP aO wz X) (h:aT c wz wu e x):eZ c wz wu X (.Return (some e) pos) (.ret x):=fun A q d k loc φ H s Q E hA hh hF hS hw=>by
 refine wpAny_Return_some (a9 (h A q d k loc φ H s _ _ hA hF hS hw) ?_ fun J J h=>aB.toS hF hX h);rintro r s₁ ⟨φ₁,H₁,v,e₁,S₁,R₁,w₁⟩;exact⟨φ₁,H₁,loc,hF.weak hX e₁,S₁,hF.mono e₁,(fun J kJ=>kJ v R₁ w₁)⟩
theorem KS{x:Ex}(hX:aP aO wz X)(h:aT c wz wu e x)(hs:swapsWith e none pos.line wz=pure false):eZ c wz wu X (.Expr e pos) (.expr x):=fun A q d k loc φ H s Q E hA hh hF hS hw=>by
 refine wpAny_Expr_any (a9 (h A q d k loc φ H s _ _ hA hF hS hw) ?_ fun J J h=>aB.toS hF hX h) (by simp[interactive,hF.fn]) hs;rintro r s₁ ⟨φ₁,H₁,v,e₁,S₁,R₁,w₁⟩;exact⟨φ₁,H₁,loc,hF.weak hX e₁,S₁,hF.mono e₁,w₁⟩
def Er{x:Ex}(hX:aP aO wz X)(h:aT c wz wu e x)(hs:swapsWith e (some (.Name y py)) pos.line wz=pure false)(hy:a8 aO wz wu wu y i) :
  eZ c wz wu X (.Assign [.Name y py] e pos) (.set i x):=fun A q d k loc φ H s Q E hA hh hF hS hw=>by
 refine wpAny_Assign_Name (a9 (h A q d k loc φ H s _ _ hA hF hS hw) ?_ fun J J h=>aB.toS hF hX h) hs;rintro r s₁ ⟨φ₁,H₁,v,e₁,S₁,R₁,w₁⟩;refine wm (qY (hF.mono e₁) S₁ hy hX R₁) ?_;rintro _ s₂ ⟨F₂,S₂,e₂,_⟩;exact⟨φ₁,H₁,_,(hF.weak hX e₁).trans e₂,S₂,F₂,w₁⟩
def IF{x:Ex} {x1}(hX:aP aO wz X)(h:aT c wz wu e x)(hs:swapsWithSole [.Tuple es x1 py] e pos.line wz=pure false)(hw':swappedStores [.Tuple es x1 py] e wz=pure none)(hy:tE aO wz wu wu es is) :
  eZ c wz wu X (.Assign [.Tuple es x1 py] e pos) (.unp is x):=fun A q d k loc φ H s Q E hA hh hF hS hw=>by
 obtain⟨rfl,hw⟩:=hw;refine PyProof.Rows.Assign_Tuple (a9 (h A true d k loc φ H s _ _ hA hF hS hw) ?_ fun J J h=>aB.toS hF hX h) hs hw';rintro r s₁ ⟨φ₁,H₁,v,e₁,S₁,R₁,w₁⟩;revert w₁;refine xI fun l' hu w₂=>?_;revert hu;refine xB fun vs hv hb=>?_;obtain rfl:=vy hv;refine wm (EY (hA.hd rfl) hX hy hb (hF.mono e₁) S₁ R₁) ?_;rintro _ s₂ ⟨F₂,S₂,e₂,_⟩;exact⟨φ₁,H₁,_,(hF.weak hX e₁).trans e₂,S₂,F₂,w₂⟩
theorem sh{E:Value->Shared->Prop}(S:aq c φ H s){w:V}{y:Value}(R1:ax c φ s.heap v x)(R2:ax c φ s.heap w y)(R3:ax c φ s.heap u r)(e:kD H v w u=some H') :
  wpAny (model c.prog c.w) A (setItem x y r) (fun J s'=>aw [] φ s φ s'/\aq c φ H' s') E s:=by
 revert e;refine xB fun i hi f=>?_;skip;obtain rfl:=zl hi;revert f;refine xB fun k hk' f2=>?_;obtain rfl:=qG hk';revert f2;refine xB fun xs e1 f3=>?_;revert f3;refine xS fun hk wj=>?_;subst wj;refine(S.getP R1 e1) _ fun l us n wk ha ho hr hz z=>?_;subst wk;obtain⟨t,rfl⟩:=R2;have hl:=nD ho;have hsl:qag=2^24:=rfl;unfold setItem;try with_reducible refine dz ?_
 first |refine ak (aE ?_) |skip
 refine ak (wpAny_sequenceKey hl.typeIs (by decide) ?_);refine ak (wpAny_callSpecial?_slot (name:=ar "__setitem__") hl.typeIs slot_list_setitem
  (u7 slot_list_setitem hl.typeIs entry_list_setitem ?_ (args_list_setitem _ _ _)))
 show wpAny _ _ (Builtin.List.listSubscript? (.int k t) >>=_) _ _ s;refine ak (wpAny_listSubscript_int (fitsIndex_of hk.1 (by exact gy [_,_] [_,_] kam (Y4 V0 V1) (Y4 V0 (Y4 V0 J0)) (Y0 V0 V1) (Y2 V1 (.l 16777216)) (Y5 V1 (.l 9223372036854775808)) hk.2 hz hsl (Ar.p63))) ?_);obtain⟨h0,hlt⟩:=hk;obtain⟨j,rfl⟩:=Int.eq_ofNat_of_zero_le h0;have hj:j<us.size:=by rw[z];exact bP.mp hlt
 have hx':us[j]?=some us[j]:=uA hj;show wpAny _ _ ((seqItemAt l j >>=fun r=>pure (r.map (j,·))) >>=_) _ _ s;refine ak (ak (wpAny_seqItemAt ho rfl (aE ?_)));rw[hx'];show wpAny _ _ (setSeqItemAt l j r >>=_) _ _ s;have hfin:aw [] φ s φ { s with heap:=s.heap.update l (nS (·.setIfInBounds j r)) }/\aq c φ (H.set i (xs.set j u)) { s with heap:=s.heap.update l (nS (·.setIfInBounds j r)) }:=
  S.put (h':=s.heap.update l (nS (·.setIfInBounds j r))) ha (oQ ..) (IsL.update (n:=n) ho _) (by rw[Array.toList_setIfInBounds];exact hr.set j R3) (by rw[gv];exact hz)
 refine ak (wpAny_setSeqItemAt ho rfl ?_);first
  |exact ak (aE (aE ⟨.none,rfl,aE hfin⟩))
  |exact aE ⟨.none,rfl,aE hfin⟩
def HD{o i:Expr}{xo xi xe:Ex}(hX:aP aO wz X)(h1:aT c wz wu o xo)(h2:aT c wz wu i xi)(h3:aT c wz wu e xe)(hs:swapsWith e (some (.Subscript o i py)) pos.line wz=pure false) :
  eZ c wz wu X (.Assign [.Subscript o i py] e pos) (.put xo xi xe):=fun A q d k loc φ H s Q E hA hh hF hS hw=>by
 refine wpAny_Assign_Subscript (a9 (h3 A q d k loc φ H s _ _ hA hF hS hw) ?_ fun J J h=>aB.toS hF hX h) hs;rintro r s₁ ⟨φ₁,H₁,v₁,e₁,S₁,R₁,w₁⟩;refine a9 (h1 A q d k loc φ₁ H₁ s₁ _ _ (hA.mono e₁) (hF.mono e₁) S₁ w₁) ?_ fun J J h=>aB.toS hF hX (h.lift e₁ S₁);rintro ro s₂ ⟨φ₂,H₂,v₂,e₂,S₂,R₂,w₂⟩;have e12:=e₁.trans e₂;refine a9 (h2 A q d k loc φ₂ H₂ s₂ _ _ (hA.mono e12) (hF.mono e12) S₂ w₂) ?_ fun J J h=>aB.toS hF hX (h.lift e12 S₂);rintro ri s₃ ⟨φ₃,H₃,v₃,e₃,S₃,R₃,w₃⟩;revert w₃;refine xI fun H' hp w₃=>?_;refine wm (sh S₃ (ax.mono e₃.toKp aA.nil R₂) R₃ (ax.mono (e₂.trans e₃).toKp aA.nil R₁) hp) ?_;rintro _ s₄ ⟨e₄,S₄⟩;have e14:=(e12.trans e₃).trans e₄;exact⟨φ₃,_,loc,hF.weak hX e14,S₄,hF.mono e14,w₃⟩
def KX{scope:Scope}(hX:aP aO wz X)(K:cT c wz wu res0 res' scope tgt t)(hfold:∀x,wb iter wz x=pure x)(hsrc:aT c wz wu iter xsrc) (helt:∀wv:Env,wv.scope=eP scope wz->aT c wv res' elt xelt) (hifs:∀wv:Env,wv.scope=eP scope wz->iP c wv res' ifs xifs) (hs:swapsWith (.ListComp elt [⟨tgt,iter,ifs,0⟩] scope cpos) (some (.Name y py)) pos.line wz=pure true) (hy:a8 aO wz wu wu y i) :
  eZ c wz wu X (.Assign [.Name y py] (.ListComp elt [⟨tgt,iter,ifs,0⟩] scope cpos) pos) (.set i (.comp xelt t xsrc xifs)):=fun A q d k loc φ H s Q E hA hh hF hS hw=>by
 replace hw:aF (Calls c) q d k (.comp xelt t xsrc xifs) loc (fun v H=>Q .next (loc.set i (some v)) H) (fun x H=>E x loc H) H:=hw;rw[exec_Assign_Name_used _ _ _ _ hs];refine ak (i8 (ak ?_));show wpAny _ A (do let _<-comprehension (.ListComp elt [⟨tgt,iter,ifs,0⟩] scope cpos) scope wz _ (newList []) false (eval iter wz) (some (assign (.Name y py) wz))) _ _ s;refine ak (a9 (E9 (use:=some (assign (.Name y py) wz)) (Q':=fun J s'=>gf c wz wu k φ s X Q .next s') K hfold hsrc helt hifs hA hF hS hw ?_) (fun J s' hq=>aE (aE hq)) fun J J h=>aB.toS hF hX h);rintro D C s' w0;refine w0 _ fun φ' H' a e S R hq hC m hm hat hC0 hCh=>?_;clear w0;show wpAny _ A (assign (.Name y py) wz (.ref D)) _ _ _;have F:=hF.mono e;have hCX:C∉X:=fun hm=>by
  rcases hX.only C hm with q |⟨x,hx⟩
  ·obtain⟨_,⟨_,o,ho,_⟩,_,_⟩:=hF.ns;rw[<- q,hC0] at ho;injection ho
  ·obtain⟨_,_,o,ho,_⟩:=hF.cells x C hx;exact cR (hC0.symm.trans ho)
 refine wpAny_assign_Name (wm (qY F S hy hX R) ?_);rintro _ s₂ ⟨F₂,S₂,e₂,k₂⟩;obtain⟨hn,o,ho,hc⟩:=hm;have hm₂:iO s₂.heap C m:=⟨hn.at' fun o' ho'=>k₂.1 C o' hCX ho',o,k₂.1 C o hCX ho,hc⟩;refine⟨m,hm₂,fun h' m' hn' hs'=>?_⟩;have g:=yb S₂ hm₂ hat hC hCh hn' hs';have off:ee wz [C] s₂:=⟨fun q=>hCX (by rw[<- aN.mp q];exact hX.loc),(fun x ca hx q=>by
   obtain⟨_,_,o,ho,_⟩:=hF.cells x ca hx;rw[aN.mp q,hC0] at ho;injection ho),fun ca oc hoc hcc J q=>by
   rw[aN.mp q] at hoc;obtain rfl:=ai ((k₂.1 C o hCX ho).symm.trans hoc);rw[hcc] at hc;exact absurd hc (by decide)⟩
 exact⟨φ',H',_,((hF.weak hX e).trans e₂).kept g.kept fun b hb=>by rw[aN.mp hb];exact hC0,g.sim,F₂.off (s':={ s₂ with heap:=h' }) g.kp g.ow off fun o ho=>⟨o.slots,g.kept.1 _ o off.loc ho⟩,hq⟩
theorem JW{t:Expr}{a:List Stmt}{xa:List St}(hX:aP aO wz X)(ht:mB c wz wu t xt)(ha:gD c wz wu X a xa)(hb:gD c wz wu X b xb):eZ c wz wu X (.If t a b pos) (.ite xt xa xb):=fun A q d k loc φ H s Q E hA hh hF hS hw=>by
 refine wpAny_If (a9 (ht A q d k loc φ H s _ _ hA hF hS hw) ?_ fun J J h=>aB.toS hF hX h);rintro t s₁ ⟨φ₁,H₁,e₁,S₁,w₁⟩;have e₁':=hF.weak hX e₁;cases t with
 |true=>exact a9 (ha A q d k loc φ₁ H₁ s₁ Q E (hA.mono e₁) hh (hF.mono e₁) S₁ w₁) (fun J J h=>h.lift e₁') fun J J h=>h.lift e₁' S₁
 |false=>exact a9 (hb A q d k loc φ₁ H₁ s₁ Q E (hA.mono e₁) hh (hF.mono e₁) S₁ w₁) (fun J J h=>h.lift e₁') fun J J h=>h.lift e₁' S₁
def zk(c:Cx)(wz:Env)(wu:Res)(k:dB)(φ:List Addr)(s:Shared)(X:List Addr)(I:Nat->Loc->Hp->Prop)(n:Nat)(s':Shared):Prop:=∀GJ:Prop,(∀(φ':List Addr),∀(H':Hp),∀(l':Loc),aw X φ s φ' s'->aq c φ' H' s'->au c wz wu k l' φ' s'.heap->I n l' H'->GJ)->GJ
theorem GQ{t:Expr}(hX:aP aO wz X)(ht:mB c wz wu t xt)(hb:gD c wz wu X b xb):eZ c wz wu X (.While t b [] pos) (.whil xt xb):=fun A q d k loc φ H s Q E hA hh hF hS hw=>by
 obtain⟨rfl,I,n₀,h₀,step⟩:=hw;refine wpAny_While (codeAny_whileLoop (zk c wz wu k φ s X I) ?_ n₀ (fun J kJ=>kJ φ H loc aw.refl hS hF h₀));rintro n s₁ w0;refine w0 _ fun φ₁ H₁ l₁ e₁ S₁ F₁ hI=>?_;clear w0;refine a9 (ht A true d k l₁ φ₁ H₁ s₁ _ _ (hA.monoX e₁) F₁ S₁ (step n l₁ H₁ hI)) ?_ fun J J h=>aB.no h;rintro t s₂ ⟨φ₂,H₂,e₂,S₂,w₂⟩;have e₁₂:=e₁.trans (F₁.weak hX e₂);cases t with
 |true=>
  refine a9 (hb A true d k l₁ φ₂ H₂ s₂ _ _ (hA.monoX e₁₂) hh (F₁.mono e₂) S₂ w₂) ?_ fun J J h=>bD.no h;rintro f s₃ ⟨φ₃,H₃,l₃,e₃,S₃,F₃,w₃⟩;cases f with
  |next=>
   obtain⟨m,hm,hI'⟩:=w₃;exact⟨m,hm,fun J kJ=>kJ φ₃ H₃ l₃ (e₁₂.trans e₃) S₃ F₃ hI'⟩
  |ret r=>exact⟨φ₃,H₃,l₃,e₁₂.trans e₃,S₃,F₃,w₃⟩
  |_=>exact w₃.elim
 |false=>exact wpAny_execs_nil ⟨φ₂,H₂,l₁,e₁₂,S₂,F₁.mono e₂,w₂⟩
def B8(c:Cx)(A:Around)(tg:Expr)(φ:List Addr)(s:Shared)(Q:List V->(Hp->Prop)->Hp->Prop)(it:Value)(s₂:Shared):Prop:=∀GJ:Prop,(∀(φ₁:List Addr),∀(H₁:Hp),∀(items:List V),∀(ok:Hp->Prop),∀(wr:List Addr),∀(St:Nat->List Addr->Heap->Prop),aw [] φ s φ₁ s₂->aq c φ₁ H₁ s₂->qn c A it tg wr items ok St->St 0 φ₁ s₂.heap->(∀b∈wr,s.heap.get? b=none)->ok H₁->Q items ok H₁->GJ)->GJ
def vk(c:Cx)(wz:Env)(wu:Res)(tg:Expr)(iter:Expr)(x:Sr):Prop:=
 ∀A d k loc φ H s (Q:List V->(Hp->Prop)->Hp->Prop) E,bY c A true d φ s.heap->au c wz wu k loc φ s.heap->aq c φ H s->iF (Calls c) true d k x loc Q E H->
  wpAny (model c.prog c.w) A (eval iter wz) (fun x s₁=>wpAny (model c.prog c.w) A (pyIter x) (B8 c A tg φ s Q) (aB c φ s E) s₁) (aB c φ s E) s
theorem tI{x:Ex}(h:aT c wz wu iter x):vk c wz wu tg iter (.val x):=fun A d k loc φ H s Q E hA hF hS hw=>by
 refine wm (h A true d k loc φ H s _ E hA hF hS hw) ?_;rintro r s₁ ⟨φ₁,H₁,v₁,e₁,S₁,R₁,w₁⟩;revert w₁;refine xI fun items hi w₁=>?_;refine wm (D3 (hA.hd rfl) S₁ R₁ hi (tg:=tg)) ?_;rintro it s₂ w0;refine w0 _ fun wr St e₂ S₂ I st hn=>?_;clear w0;refine(fun J kJ=>kJ φ₁ H₁ items _ wr St (e₁.trans e₂) S₂ I st (fun b hb=>e₁.fresh S₁ (hn b hb)) ?_ w₁);cases v₁ with
 |lst a=>exact hi
 |_=>trivial
def AL(c:Cx)(wz:Env)(wu:Res)(k:dB)(φ:List Addr)(s:Shared)(X:List Addr)(items:List V)(St:Nat->List Addr->Heap->Prop)(ok:Hp->Prop)(P:List V->Loc->Hp->Prop)(n:Nat)(s':Shared):Prop:=∀GJ:Prop,(∀(i:Nat),∀(φ':List Addr),∀(H':Hp),∀(l':Loc),(n=items.length-i+1)->i<=items.length->aw X φ s φ' s'->aq c φ' H' s'->au c wz wu k l' φ' s'.heap->St i φ' s'.heap->ok H'->P (items.drop i) l' H'->GJ)->GJ
theorem Kn(hX:aP aO wz X)(hs:∀x,wb iter wz x=pure x)(hsr:vk c wz wu tg iter sr)(htg:kU aO wz wu wu tg t)(hb:gD c wz wu X b xb) :
  eZ c wz wu X (.For tg iter b [] pos) (.loop t sr xb):=fun A q d k loc φ H s Q E hA hh hF hS hw=>by
 obtain⟨rfl,hw⟩:=hw;refine wpAny_For (a9 (hsr A d k loc φ H s _ _ hA hF hS hw) (fun x s₁ h₁=>a9 h₁ ?_ fun J J h=>aB.toS hF hX h) fun J J h=>aB.toS hF hX h) hs;rintro it s₂ w0;refine w0 _ fun φ₁ H₁ items ok wr St e₁ S₁ I st₁ hn hok w₁=>?_;clear w0;refine codeAny_forLoop_any (AL c wz wu k φ s X items St ok fun xs l H=>jG ok (fun x l Q H=>ae (gA t x l) fun l'=>az (Calls c) true d k xb Q E l' H) xs Q l H) ?_ (items.length+1) (fun J kJ=>kJ 0 φ₁ H₁ loc rfl (eA _) (hF.weak hX e₁) S₁ (hF.mono e₁) st₁ hok w₁);rintro n s₃ w0;refine w0 _ fun i φ₃ H₃ l₃ wk hi e₃ S₃ F₃ st₃ hok₃ w₃=>?_;clear w0;subst wk;have its:=I.seen _ _ _ st₃;by_cases hlt:i<items.length
 ·have hx:items[i]?=some items[i]:=bt hlt;rw[nX hlt] at w₃;generalize items[i]=x at hx w₃;refine xI (fun l' hbt w₃=>?_) (show ae (gA t x l₃) _ from w₃);refine wm (I.item i x φ₃ H₃ s₃ _ hx st₃ S₃ hok₃) ?_;rintro r s₄ w0;refine w0 _ fun v wk h₄=>?_;clear w0;subst wk;refine wm h₄ ?_;rintro _ s₅ ⟨k₅,st₅,R₅⟩;have F₅:=F₃.kept its k₅;refine wm (Fe (hA.hd rfl) hX htg hbt F₅ (S₃.kept k₅ its) R₅) ?_;rintro _ s₆ ⟨F₆,S₆,e₆,k₆⟩;have hwX:∀b∈wr,b∉X:=fun b hb hm=>by
   have off:=ee.its F₅ (I.seen _ _ _ st₅);rcases hX.only b hm with rfl |⟨y,hy⟩
   ·exact off.loc hb
   ·exact off.cells y b hy hb
  have st₆:=I.frame _ _ _ _ _ _ st₅ e₆.toKp (F₅.ownX hX) hwX;have e₀₆:=(e₃.kept k₅ hn).trans e₆;refine a9 (hb A true d k l' φ₃ H₃ s₆ _ _ (hA.monoX e₀₆) hh F₆ S₆ w₃) ?_ fun J J h=>Je hA hh (h.lift e₀₆ S₆);rintro f s₇ ⟨φ₇,H₇,l₇,e₇,S₇,F₇,w₇⟩;cases f with
  |next=>exact⟨items.length-(i+1)+1,by exact aj [_,_] [] kbh (Y1 (Y0 (Y2 V0 (Y0 V1 J1)) J1) (Y0 (Y2 V0 V1) J1)) (Y1 V1 V0) hlt,fun J kJ=>kJ (i+1) φ₇ H₇ l₇ rfl hlt (e₀₆.trans e₇) S₇ F₇ (I.frame _ _ _ _ _ _ st₆ e₇.toKp (F₆.ownX hX) hwX) w₇.1 w₇.2⟩
  |ret r=>exact⟨φ₇,H₇,l₇,e₀₆.trans e₇,S₇,F₇,w₇⟩
  |_=>exact w₇.elim
 ·obtain rfl:i=items.length:=Nat.le_antisymm hi (fE hlt);rw[List.drop_length] at w₃;refine wm (I.done φ₃ H₃ s₃ _ st₃ S₃ hok₃) ?_;rintro r s₄ ⟨rfl,k₄⟩;exact wpAny_execs_nil ⟨φ₃,H₃,l₃,e₃.kept k₄ hn,S₃.kept k₄ its,F₃.kept its k₄,w₃⟩
end
end
variable {Q:V->Hp->Prop}{elt:Ex}{f:Str}{ifs:List Ex}{r:List (Str×Value)}{t:Nat}{y:V}
section
open PySem PyProof.Rows
set_option tactic.hygienic true in
theorem Ag:∀(names:List (Str×aU)) (h:Heap) (acc:List (Str×Addr)),(∀n ca,(n,ca)∈acc->h.get? ca=some rW) ->
  ∀n ca,(n,ca)∈dN h.objs.size names acc->(dJ h names).get? ca=some rW
 |[],_,_,x,n,ca,hm=>x n ca hm
 |(name,kind)::r,h,acc,x,n,ca,hm=>by
  unfold dN at hm
  unfold dJ
  split
  ·rename_i hk
   rw[if_pos hk] at hm
   have:=Ag r (h.push rW) ((name,h.objs.size)::acc) (fun n' c' hm'=>by
    rcases bj.mp hm' with e |hm'
    ·(injection e with Ja Jb;subst Jb;subst Ja);exact eG _ rfl
    ·exact cz _ (x n' c' hm')) n ca (by rw[oR];exact hm)
   exact this
  ·rename_i hk
   rw[if_neg hk] at hm
   exact Ag r h acc x n ca hm
set_option tactic.hygienic true in
theorem AA:∀{names:List (Str×aU)} {k:Nat} {acc:List (Str×Addr)} {x:Str},((x,qaj)∈names\/(acc.lookup x).isSome)->((dN k names acc).lookup x).isSome
 |[],_,acc,x,h=>by
  rcases h with h |h
  ·cases h
  ·exact h
 |(n,kd)::r,k,acc,x,h=>by
  unfold dN
  split
  ·rename_i hk
   refine AA ?_
   rcases h with h |h
   ·rcases bj.mp h with e |h
    ·cases e
     right;simp
    ·exact .inl h
   ·right
    rw[dr]
    cases x==n<;>simp[h]
  ·rename_i hk
   refine AA ?_
   rcases h with h |h
   ·rcases bj.mp h with e |h
    ·cases e;exact absurd rfl hk
    ·exact .inl h
   ·exact .inr h
noncomputable def XS (wz:Env):List Addr:=wz.locals::wz.cells.filterMap fun p=>wz.cells.lookup p.1
def vK(wz:Env)(wu:Res):List Str->Nat->Prop
 |[],_=>True
 |x::r,i=>a8 aO wz wu wu x i/\vK wz wu r (i+1)
noncomputable def rV:Nat->List V->Loc->Loc
 |_,[],l=>l
 |i,v::vs,l=>rV (i+1) vs (l.set i (some v))
theorem KP:rV i (v::vs) l=rV (i+1) vs (l.set i (some v)):=rfl
theorem Bu:∀(vs:List V)(p:Loc)(k:Nat),rV p.length vs (p++List.replicate (vs.length+k) none)=p++vs.map some++List.replicate k none
 |[],p,k=>by rw[List.map_nil,d5,List.length_nil,Nat.zero_add];rfl
 |v::vs,p,k=>by
  have ih:=Bu vs (p++[some v]) k;rw[KP,show(v::vs).length+k=(vs.length+k)+1 by simp;exact bp [_,_] [] kac (Y2 (Y0 (Y0 V0 J1) V1) (Y0 (Y0 V0 V1) J1)),List.replicate_succ];rw[List.set_append_right _ _ (aJ _)];simp only[Nat.sub_self,List.set_cons_zero];simp only[bw,fO,List.length_nil] at ih;rw[show p++some v::List.replicate (vs.length+k) none=p++[some v]++List.replicate (vs.length+k) none by simp];rw[ih];simp
theorem Ez(hX:aP aO wz X)(f:Str×Value->PUnit->Sem (ForInStep PUnit))(hf:∀n v u,f (n,v) u=(do storeName wz n v;pure (.yield ⟨⟩))) :
  ∀{ps:List Str} {i:Nat} {vs:List V} {rs:List Value} {loc:Loc} {s:Shared} {Q:PUnit->Shared->Prop},vK wz wu ps i->vs.length=ps.length->au c wz wu none loc φ s.heap->aq c φ H s->ah c φ s.heap vs rs->
   (∀s',au c wz wu none (rV i vs loc) φ s'.heap->aq c φ H s'->aw X φ s φ s'->Q ⟨⟩ s')->wpAny (model c.prog c.w) A (forIn (ps.zip rs) ⟨⟩ f) Q E s
 :=by
 intro ps;induction ps with
 |nil=>
  intro _ vs _ _ s Q _ hl F S _ hQ;obtain rfl:=gj.mp hl;rw[List.zip_nil_left,List.forIn_nil];exact aE (hQ s F S aw.refl)
 |cons x ps ih=>
  intro i vs rs loc s Q hp hl F S R hQ;cases vs with
  |nil=>exact nomatch hl
  |cons v vs=>
  refine R.uncons _ fun r rs wk R1 R2=>?_;subst wk;rw[List.zip_cons_cons,List.forIn_cons,hf];refine ak (ak (wm (qY F S hp.1 hX R1) ?_));rintro _ s₁ ⟨F₁,S₁,e₁,_⟩;exact aE (ih hp.2 (Nat.succ.inj hl) F₁ S₁ (ah.mono e₁.toKp (F.ownX hX) R2) fun s₂ F₂ S₂ e₂=>hQ s₂ F₂ S₂ (e₁.trans e₂))
structure fq(c:Cx)(f:Str)(a:Addr)(o:Obj)(fd:qbe)(body:List Stmt)(ps pa:List Str)(wu:Res):Prop where
 g:c.g f=some (.ref a)
 ho:c.h0.get? a=some o
 hd:o.data=.func fd
 code:c.h0.CodeRec fd.code fd.qualname
 hbody:fd.body=.stmts body
 clo:fd.closure=[]
 gl:fd.globals=dH
 bl:fd.builtins=kj
 kind:fd.scope.kind=.function
 co:fd.scope.isCoroutine=false
 gen:fd.scope.isGenerator=false
 bind:∀vals:List Value,vals.length=pa.length->bindArgs fd ⟨vals,[]⟩=pure (pa.zip vals)
 fr:wu.fr=true
 hres:∀x i,wu.lookup x=some i->fd.scope.names.lookup x=some .local\/fd.scope.names.lookup x=some .cell
 par:∀L,vK (cq fd L a) wu ps 0
 np:ps.length<=wu.n
theorem Eb(fd:qbe)(L a:Addr)(h:Heap)(hL:h.objs.size=L+1):aP aO (cq fd L a) (XS (cq fd L a)) where
 loc:=by simp[XS]
 cell x _ hk:=by
  have ok:=cellsFrom_ok fd.scope.names h (L+1) [] ⟨fun J J hm=>(nomatch hm),List.Pairwise.nil⟩ (by rw[hL];exact aJ _)
  rw[hL] at ok
  obtain⟨ca,hx⟩:=uS.mp (AA (k:=L+1) (acc:=[]) (x:=x) (.inl (fW hk)))
  have hm:=fW hx
  refine(fun J kJ=>kJ ca hx ((ok.empty x ca hm).2) ?_ (fun y hy=>name_of_addr ok.apart (fW hy) hm))
  simp only[XS,bj,List.mem_filterMap]
  exact .inr ⟨(x,ca),hm,hx⟩
 only b hb:=by
  simp only[XS,bj,List.mem_filterMap] at hb
  rcases hb with rfl |⟨p,_,hp⟩
  ·exact .inl rfl
  ·exact .inr ⟨p.1,hp⟩
theorem D0{body:List Stmt}{pa:List Str}(K:fq c f a o fd body ps pa wu)(S:aq c φ H s)(hL:h.get? s.heap.objs.size=some { cls:=.type "frame",data:=.dict #[] })
  (cellok:∀x ca,(dN (s.heap.objs.size+1) fd.scope.names []).lookup x=some ca->h.get? ca=some rW/\s.heap.objs.size<ca) (newφ:∀b,s.heap.objs.size<=b->b∉φ/\c.h0.get? b=none/\s.heap.get? b=none) :
  au c (cq fd s.heap.objs.size a) wu none (List.replicate wu.n none) φ h where
 fn:=K.kind
 gl:=K.gl
 bl:=K.bl
 len:=by rw[List.length_replicate];exact aJ _
 Lφ:=(newφ _ (aJ _)).1
 L0:=(newφ _ (aJ _)).2.1
 ns:=by
  refine⟨fun J=>none,⟨⟨_,_,_,hL,rfl,by intro e he;simp at he,fun J=>by simp[nsFind,findBy]⟩,_,hL,.inl ⟨rfl,K.fr⟩⟩,fun x i hx=>?_,fun kk z hz=>nomatch hz⟩
  have hget:(List.replicate wu.n (none:Option V)).getD i none=none:=by
   rw[b7,List.getElem?_replicate]
   split<;>rfl
  rw[hget]
  show hW (fd.scope.names.lookup x) _ _
  rcases K.hres x i hx with h |h<;>rw[h]
  ·exact .no
  ·obtain⟨ca,hca⟩:=uS.mp (AA (k:=s.heap.objs.size+1) (acc:=[]) (x:=x) (.inl (fW h)))
   exact .no ca hca ⟨_,(cellok x ca hca).1,rfl⟩
 cells x ca hx:=by
  obtain⟨h1,h2⟩:=cellok x ca hx
  exact⟨(newφ ca (bO h2)).1,(newφ ca (bO h2)).2.1,_,h1,rfl,_,rfl⟩
def Eo{E:XPost}(hA:bY c A q d φ s.heap)(hH:wQ A wz)(S:aq c φ H s)(e₀:aw X φ₀ s₀ φ s)(hXn:∀b∈X,s₀.heap.get? b=none)(h:bD c wz wu k φ s X (dZ E) x s₃){Q:Value->Shared->Prop}{P:Value->Shared->Prop} (hP:∀e s',aB c φ₀ s₀ E e s'->P e s'):wpAny (model c.prog c.w) A (leaving wz x) (fun J s'=>P x s') Q s₃:=by
 obtain⟨φ₃,H₃,l₃,v,e₃,S₃,F₃,Rx,w₃⟩:=h;obtain⟨fr',hfr',hfrs'⟩:=(hA.mono e₃).fr;obtain⟨outer,hout⟩:=hH;obtain rfl:=ai (hout.symm.trans hfr');unfold leaving;refine ak (wm (BX hout hfrs' S₃ e₃ Rx) ?_);rintro _ s₄ ⟨xs',hx',hn',n',R₄,ht⟩;have e₄:=e₃.noted n' hn';have S₄:=S₃.noted n' hx';refine wm (Ah R₄ ht) ?_;rintro _ s₅ ⟨xs'',hx'',hn'',n'',R₅,ht'⟩;exact hP _ _ ⟨φ₃,H₃,v,(e₀.trans (e₄.noted n'' hn'')).drop hXn,S₄.noted n'' hx'',R₅.lift e₀ S,w₃⟩
theorem EL{body:List Stmt}(O:c.Ok)(K:fq c f a o fd body ps ps wu) (hbod:∀L,aP aO (cq fd L a) (XS (cq fd L a))->gD c (cq fd L a) wu (XS (cq fd L a)) body xs) {E:XPost} (wq:vs.length=ps.length) (hw:az (Calls c) q d none xs (de Q) (dZ E) (vs.map some++List.replicate (wu.n-vs.length) none) H):Calls c q (d+1) f vs none Q E H:=by
 refine(fun J kJ=>kJ a o fd K.g K.ho K.hd (fun A φ s args extra hA S R hex=>?_));obtain rfl:extra=[]:=hex;rw[d5];have hdep:=hA.dep;have hun:=hA.un;refine codeAny_call_function (by show _<1000;exact aj [_,_] [] kaa (Y1 V0 (.l 1000)) (Y0 (Y0 V0 (Y0 V1 J1)) (.l 890)) hdep) (S.stays a o K.ho) K.hd K.co K.gen K.hbody (K.code.keeps S.stays) ?_;rw[K.bind args (by rw[ah.length R,wq]),K.clo];refine aE ?_;simp only[r3,Option.isSome_none,gO,if_false];refine ak (wpAny_alloc ?_);refine ak (wpAny_layCells _ (fun name kind cells=>by cases hkc:kind==qaj<;>simp[hkc]) _ _ _ _ ?_);generalize hs₁:s.heap.push { cls:=.type "frame",data:=.dict #[] }=h₁;have hz₁:h₁.objs.size=s.heap.objs.size+1:=by rw[<- hs₁,oR]
 rw[show({ s with heap:=h₁ }:Shared).heap.objs.size=s.heap.objs.size+1 from hz₁];have keep:∀b o,s.heap.get? b=some o->(dJ h₁ fd.scope.names).get? b=some o:=fun b o hb=>uW _ _ b o (by rw[<- hs₁];exact cz _ hb);have hX:=Eb fd s.heap.objs.size a h₁ hz₁;have e₁:aw [] φ s φ { s with heap:=dJ h₁ fd.scope.names }:=aw.of_keeps keep rfl;have cellok:∀x ca,(dN (s.heap.objs.size+1) fd.scope.names []).lookup x=some ca->(dJ h₁ fd.scope.names).get? ca=some rW/\s.heap.objs.size<ca:=fun x ca hx=>by
  have hm:=fW hx;rw[<- hz₁] at hm;have ok:=cellsFrom_ok fd.scope.names h₁ (s.heap.objs.size+1) [] ⟨fun J J hm=>(nomatch hm),List.Pairwise.nil⟩ (by rw[hz₁];exact aJ _);exact⟨Ag fd.scope.names h₁ [] (fun J J hm=>nomatch hm) x ca hm,(ok.empty x ca hm).2⟩
 have newφ:∀b,s.heap.objs.size<=b->b∉φ/\c.h0.get? b=none/\s.heap.get? b=none:=fun b hb=>
  ⟨fun hm=>d4 _ (cS (S.lt hm) hb),S.h0_new hb,fJ hb⟩
 have F₁:=D0 K S (uW _ _ _ _ (by rw[<- hs₁];exact eG _ rfl)) cellok newφ;refine ak (Ez (c:=c) (wz:=cq fd s.heap.objs.size a) (X:=XS (cq fd s.heap.objs.size a)) (s:={ s with heap:=dJ h₁ fd.scope.names }) hX _ (fun J J J=>rfl) (K.par _) wq F₁ (S.keeps (s':={ s with heap:=dJ h₁ fd.scope.names }) keep rfl) (ah.mono e₁.toKp aA.nil R) fun s₂ F₂ S₂ e₂=>?_);refine aE ⟨O.lim.keeps S₂.stays,codeAny_func ?_⟩;have hXn:∀b∈XS (cq fd s.heap.objs.size a),s.heap.get? b=none:=fun b hb=>by
  rcases hX.only b hb with rfl |⟨x,hx⟩
  ·exact(newφ _ (aJ _)).2.2
  ·exact(newφ b (bO (cellok x b hx).2)).2.2
 have e₀₂:=(e₁.weaken (Y:=XS (cq fd s.heap.objs.size a)) (fun J h=>nomatch h) fun b hb=>(au.outX (s:={ s with heap:=dJ h₁ fd.scope.names }) F₁ hX b hb).1).trans e₂;have hloc:rV 0 vs (List.replicate wu.n none)=vs.map some++List.replicate (wu.n-vs.length) none:=by
  have:=Bu vs [] (wu.n-vs.length);rw[Nat.add_sub_cancel' (wq▸K.np)] at this;exact this
 rw[hloc] at F₂;obtain⟨fr,hfr,hfrs⟩:=(hA.mono e₀₂).fr;have hEnv:bB c φ s₂.heap (cq fd s.heap.objs.size a):=by
  obtain⟨m,⟨⟨o1,es,n,ho1,hd1,_⟩,o2,ho2,hc2⟩,_,_⟩:=F₂.ns;obtain rfl:=ai (ho1.symm.trans ho2);rcases hc2 with hc2 |hc2
  ·exact⟨⟨by rw[show(cq fd s.heap.objs.size a).scope.kind=fd.scope.kind from rfl,K.kind];decide,K.gen,K.co,K.bl,K.gl⟩,s.heap.objs.size,o1,es,n,rfl,F₂.L0,F₂.Lφ,ho1,hd1,hc2.1⟩
  ·rw[K.fr] at hc2;cases hc2.2.2
 have hfr2:(A.deeper (cq fd s.heap.objs.size a)).frames=some (cq fd s.heap.objs.size a::fr):=by show A.frames.map _=_;rw[hfr];rfl
 have hA₂:bY c (A.deeper (cq fd s.heap.objs.size a)) q d φ s₂.heap:=
  ⟨⟨by show A.depth+1+d<=890;exact aj [_,_] [] kaa (Y0 (Y0 (Y0 V0 J1) V1) (.l 890)) (Y0 (Y0 V0 (Y0 V1 J1)) (.l 890)) hdep,by show A.units+3+10*d<=9000;exact aj [_,_] [] kaa (Y0 (Y0 (Y0 V0 (.l 3)) (Y1 (.l 10) V1)) (.l 9000)) (Y0 (Y0 V0 (Y1 (.l 10) (Y0 V1 J1))) (.l 9000)) hun,hA.hd,_,hfr2,fun wz he=>by
   rcases bj.mp he with rfl |he
   ·exact hEnv
   ·exact hfrs wz he⟩,by rw[hfr2];exact fun h=>nomatch h⟩
 refine a9 (hbod _ hX _ q d none _ φ H s₂ _ _ hA₂ ⟨fr,hfr2⟩ F₂ S₂ hw) ?_ ?_
 ·rintro f s₃ ⟨φ₃,H₃,l₃,e₃,S₃,F₃,w₃⟩;have e₀₃:=(e₀₂.trans e₃).drop hXn;cases f with
  |next=>exact⟨φ₃,H₃,.none,e₀₃,S₃,rN,w₃⟩
  |ret r=>refine w₃ _ fun v Rv w=>?_;clear w₃;exact⟨φ₃,H₃,v,e₀₃,S₃,Rv,w⟩
  |_=>exact w₃.elim
 ·intro x s₃ h;exact Eo hA₂ ⟨fr,hfr2⟩ S₂ e₀₂ hXn h fun J J h=>h
end
variable {l:List (Str×Nat)}{x:Ex}
section
open PySem PyProof.Rows
theorem DC{F:Value}(O:c.Ok)(hF':∀a,F≠.ref a)(hk:wz.kindOf f=some .globalImplicit)(hg:c.g f=none)(hb:c.b f=some F)(hx:(f==("__debug__":Str))=false)(hn:dM e=true)(h:aT c wz wu e x) {A q d k loc φ H s Q} {E:XPost} {R:Value->Shared->Prop} (hA:bY c A q d φ s.heap) (hF:au c wz wu k loc φ s.heap) (hS:aq c φ H s) (hw:aF (Calls c) q d k x loc Q E H) (hR:∀r s₁,aG c φ s Q r s₁->wpAny (model c.prog c.w) A (call F [r]) R (aB c φ s E) s₁):wpAny (model c.prog c.w) A (eval (.Call (.Name f p) [e] [] pos) wz) R (aB c φ s E) s:=by
 show wpAny _ _ (eval (.Name f p) wz >>=fun fv=>callWith pos fv [] (backTo pos (fe [e] wz)) []) _ _ _;refine ak (Calls.Name_function_global hF.fn hk (Calls.loadGlobal_builtin (by rw[hF.gl];exact O.gl.keeps hS.stays) hg (by rw[hF.bl];exact O.bl.keeps hS.stays) hb ?_) hx);have hl:gG c wz wu [e] [x]:=xK hn h CV;have hw':dI (Calls c) q d k [x] loc (fun vs H=>match vs with |[v]=>Q v H |_=>False) E H:=hw;refine vw hF' (wa hl.1.1) (wm (sS hl (by simp) hA hF hS hw') ?_);rintro _ s₁ w0;refine w0 _ fun rs wk φ₁ H₁ vs e₁ S₁ R₁ eN2=>?_;clear w0;subst wk;obtain⟨l₁,w₁⟩:=eN2;match vs,l₁ with
 |[v],_=>
  refine R₁.one _ fun r wk Rr=>?_;subst wk;exact hR r s₁ ⟨φ₁,H₁,v,e₁,S₁,Rr,w₁⟩
def Eu(h:iX H v=some items):∃i,v=.lst i/\H[i]?=some items:=
 let⟨i,h1,h2⟩:=vV.mp h;⟨i,zl h1,h2⟩
def sX(O:c.Ok)(hk:wz.kindOf f=some .globalImplicit)(hg:c.g f=none)(hb:c.b f=some (.type "reversed"))(hx:(f==("__debug__":Str))=false)(hn:dM e=true)(h:aT c wz wu e x) :
  vk c wz wu tg (.Call (.Name f p) [e] [] pos) (.rev x):=fun A d k loc φ H s Q E hA hF hS hw=>by
 refine DC O (by intro a h;injection h) hk hg hb hx hn h hA hF hS hw ?_;rintro r s₁ ⟨φ₁,H₁,v₁,e₁,S₁,R₁,w₁⟩;have hh:A.handled=none:=hA.hd rfl;revert w₁;refine xI fun items hi w₂=>?_;obtain⟨i,rfl,hi⟩:=Eu hi;refine(S₁.getP R₁ hi) _ fun a us n wk ha ho hr hz z=>?_;subst wk;refine kB (nD ho) ?_;have hit:fZ (s₁.heap.push (vG a ((us.size:Int)-1))) s₁.heap.objs.size a ((items.length:Int)-1-(0:Nat)):=⟨_,eG _ rfl,rfl,by
  rw[z,Int.natCast_zero,Int.sub_zero];rfl⟩
 refine Gg (s:={ s₁ with heap:=s₁.heap.push (vG a ((us.size:Int)-1)) }) hit ?_;have e₂:aw [] φ₁ s₁ φ₁ { s₁ with heap:=s₁.heap.push (vG a ((us.size:Int)-1)) }:=aw.push;exact(fun J kJ=>kJ φ₁ H₁ _ _ [s₁.heap.objs.size] _ (e₁.trans e₂) (S₁.push _) (pF hh (a:=a) (j:=i) (S₁.h0_new (aJ s₁.heap.objs.size))) ⟨hit,ha,S₁.new⟩ (fun b hb=>by rw[aN.mp hb];exact e₁.fresh S₁ (fJ (aJ _))) hi w₂)
def qa{x1}(O:c.Ok)(hk:wz.kindOf f=some .globalImplicit)(hg:c.g f=none)(hb:c.b f=some (.type "enumerate"))(hx:(f==("__debug__":Str))=false)(hn:dM e=true)(h:aT c wz wu e x) :
  vk c wz wu (.Tuple es x1 tp) (.Call (.Name f p) [e] [] pos) (.enum x):=fun A d k loc φ H s Q E hA hF hS hw=>by
 refine DC O (by intro a h;injection h) hk hg hb hx hn h hA hF hS hw ?_;rintro r s₁ ⟨φ₁,H₁,v₁,e₁,S₁,R₁,w₁⟩;have hh:A.handled=none:=hA.hd rfl;revert w₁;refine xI fun items hi w₂=>?_;obtain⟨i,rfl,hi⟩:=Eu hi;refine(S₁.getP R₁ hi) _ fun a us n wk ha ho hr hz z=>?_;subst wk;refine call_enumerate_list (nD ho) fun h' he hit hsz hk'=>?_;refine wpAny_pyIter_enum (s:={ s₁ with heap:=h' }) he ?_;have e₂:aw [] φ₁ s₁ φ₁ { s₁ with heap:=h' }:=aw.of_keeps hk' rfl;have h0:=S₁.h0_new (aJ s₁.heap.objs.size);have h0':=S₁.h0_new (Nat.le_succ s₁.heap.objs.size);refine(fun J kJ=>kJ φ₁ H₁ _ _ [s₁.heap.objs.size+1,s₁.heap.objs.size] _ (e₁.trans e₂) (S₁.keeps (s':={ s₁ with heap:=h' }) hk' rfl) (jF hh (a:=a) (j:=i) h0 h0' (Nat.succ_ne_self _)) ⟨.none,he,hit,ha,S₁.new,fun hm=>?_⟩ (fun b hb=>?_) hi w₂)
 ·exact d4 _ (cN (Nat.lt_succ_self _) (S₁.lt hm))
 ·rcases bj.mp hb with rfl |hb
  ·exact e₁.fresh S₁ (fJ (Nat.le_succ _))
  ·rw[aN.mp hb];exact e₁.fresh S₁ (fJ (aJ _))
end
variable {x:V}
section
open PySem PyProof.Rows
noncomputable def hZ:Str:=ar "put_together"
noncomputable def aZ{α:Type}(x y z:α)(i:Nat):α:=if i=0 then x else if i=1 then y else z
inductive eB (kk : Nat) (fd : qbe) (nm : Str) : Prop
 | mk (p1 p2 : Str) (q0 q1 q2 pf pos : Pos) (bind : ∀ x y : Value, bindArgs fd ⟨[x, y], []⟩ = pure [(p1, x), (p2, y)])
   (hbody : fd.body = .expr (.Call (.Name hZ pf) [.Name (aZ p1 p2 nm (kk / 9)) q0, .Name (aZ p1 p2 nm (kk / 3 % 3)) q1, .Name (aZ p1 p2 nm (kk % 3)) q2] [] pos))
   (k1 : fd.scope.names.lookup p1 = some .local) (k2 : fd.scope.names.lookup p2 = some .local) (k3 : fd.scope.names.lookup nm = some .free) (k4 : fd.scope.names.lookup hZ = some .globalImplicit)
   (nc : fd.scope.names.all (fun p => !(p.2 == qaj)) = true) (ok : (p1 != cD && p2 != cD && p1 != p2 && p1 != nm && p2 != nm) = true)
   (dbg : [p1, p2, nm].all (fun x => !(x == ("__debug__" : Str)) && !(x == ("__classdict__" : Str))) = true)
   (gl : fd.globals = dH) (bl : fd.builtins = kj) (kind : fd.scope.kind = .function) (co : fd.scope.isCoroutine = false) (gen : fd.scope.isGenerator = false) : eB kk fd nm
theorem Cz:∀{names:List (Str×aU)} {k:Nat} {acc:List (Str×Addr)} {h:Heap},names.all (fun p=>!(p.2==qaj))=true->dN k names acc=acc/\dJ h names=h
 |[],_,_,_,_=>⟨rfl,rfl⟩
 |(n,kd)::r,k,acc,h,q=>by
  revert q;refine xA fun q1 q2=>?_;have e:(kd==qaj)=false:=(gX _).mp q1;unfold dN dJ;rw[e];exact Cz q2
def Jd (h:wpAny (model prog w) (A.deeper wz) (eval e wz) (fun v s'=>R (.ok (.ret v)) s') (fun J J=>False) s):codeAny (model prog w) A (.expr e wz) R s:=
 codeAny_of_tree (ak (qX (ak (wpAny_onRaise (a9 h (fun J J h'=>aE h') fun J J h'=>h'.elim)))))
theorem JA{args:Args}{body:Expr}(hroom:A.depth<recursionLimit)(ho:s.heap.get? a=some o)(hd:o.data=.func fd)(hco:fd.scope.isCoroutine=false)(hgen:fd.scope.isGenerator=false) (hbody:fd.body=.expr body) (hcd:fd.code=.ref cc) (hc:b0 s.heap cc fd.qualname) (h:wpAny (model prog w) A.in1 (bindArgs fd args) (fun binds s₁=>wpAny (model prog w) A.in1 (r3 fd.scope fd.globals fd.closure binds (fd.qualname++".<locals>.") (some a) fd.code none fd.builtins) (fun wz s₂=>s₂.heap.NoLimit/\codeAny (model prog w) A (.expr body wz) R s₂) (fun e s'=>R (.error e) s') s₁) (fun e s'=>R (.error e) s') s) :
  codeAny (model prog w) A (.call (.ref a) args) R s:=by
 refine codeAny_of_tree ?_;show wpAny _ A.in1 (callAny (.ref a) args) _ _ s;unfold callAny;refine ak (wpAny_load ho ?_);obtain⟨oc,vs,t,h1,_,h3,h4⟩:=hc;rw[hcd] at h;simp only[hd,callFunction,hco,hgen,hbody,hcd];refine ak (m:=field (.ref cc) 1) (nW h1 h3 h4 (ak (aE ?_)));exact ak (a9 h (fun J J h₁=>ak (a9 h₁ (fun J J h₂=>ak (wpAny_enterFrame h₂.1 hroom (aE ⟨rfl,h₂.2⟩))) fun J J q=>q)) fun J J q=>q)
abbrev bA (fd:qbe) (L a ca:Addr) (nm:Str):Env:=newEnv fd.scope L fd.globals [(nm,ca)] (fd.qualname++".<locals>.") (some a) fd.code none fd.builtins
abbrev dF (p1 p2 nm:Str):Res:=⟨true,3,[(p1,0),(p2,1),(nm,2)]⟩
def mr{nm x:Str}(h:(dF p1 p2 nm).lookup x=some i):(x=p1/\i=0)\/(x≠p1/\x=p2/\i=1)\/(x≠p1/\x≠p2/\x=nm/\i=2):=by
 replace h:List.lookup x [(p1,0),(p2,1),(nm,2)]=some i:=h;rw[dr] at h;refine xD (x==p1) (fun h1=>?_) fun h1=>?_
 ·rw[h1] at h;exact .inl ⟨eq_of_beq h1,(ai h).symm⟩
 ·rw[h1] at h;replace h:List.lookup x [(p2,1),(nm,2)]=some i:=h;rw[dr] at h;have n1:x≠p1:=ne_of_beq_false h1;refine xD (x==p2) (fun h2=>?_) fun h2=>?_
  ·rw[h2] at h;exact .inr (.inl ⟨n1,eq_of_beq h2,(ai h).symm⟩)
  ·rw[h2] at h;replace h:List.lookup x [(nm,2)]=some i:=h;rw[dr] at h;have n2:x≠p2:=ne_of_beq_false h2;refine xD (x==nm) (fun h3=>?_) fun h3=>?_
   ·rw[h3] at h;exact .inr (.inr ⟨n1,n2,eq_of_beq h3,(ai h).symm⟩)
   ·rw[h3] at h;exact nomatch h
def uU {nm : Str} (h : (p1 != cD && p2 != cD && p1 != p2 && p1 != nm && p2 != nm) = true) (k1 : fd.scope.names.lookup p1 = some .local) (k2 : fd.scope.names.lookup p2 = some .local) :
  vK (bA fd L a ca nm) (dF p1 p2 nm) [p1, p2] 0 := by
 revert h; refine xA fun h h5 => ?_;revert h; refine xA fun h h4 => ?_;revert h; refine xA fun h h3 => ?_;revert h; refine xA fun h1 h2 => ?_;refine ⟨⟨⟨rfl, rfl, fun y j hy => ?_, by show 0 < 3; decide, bne_iff_ne.mp h1, .inr rfl⟩, .inl k1⟩, ⟨⟨rfl, rfl, fun y j hy => ?_, by show 1 < 3; decide, bne_iff_ne.mp h2, .inr rfl⟩, .inl k2⟩, trivial⟩
 ·rcases mr hy with ⟨e, e'⟩ | ⟨n, e, e'⟩ | ⟨n, n', e, e'⟩
  ·exact .inl ⟨e, e'⟩
  ·exact .inr ⟨n, hy, by rw [e']; decide⟩
  ·exact .inr ⟨n, hy, by rw [e']; decide⟩
 ·rcases mr hy with ⟨e, e'⟩ | ⟨n, e, e'⟩ | ⟨n, n', e, e'⟩
  ·exact .inr ⟨by rw [e]; exact bne_iff_ne.mp h3, hy, by rw [e']; decide⟩
  ·exact .inl ⟨e, e'⟩
  ·exact .inr ⟨n', hy, by rw [e']; decide⟩
theorem I8{nm:Str}(S:aq c φ H s)(hca:ca∉φ)(h0:c.h0.get? ca=none)(hoc:s.heap.get? ca=some oc)(hcc:oc.cls=.type "cell")(hdc:oc.data=.cell (some rv))(hx:ax c φ s.heap z rv)
  (k1:fd.scope.names.lookup p1=some .local) (k2:fd.scope.names.lookup p2=some .local) (k3:fd.scope.names.lookup nm=some .free)
  (gl:fd.globals=dH) (bl:fd.builtins=kj) (kind:fd.scope.kind=.function) :
  au c (bA fd s.heap.objs.size a ca nm) (dF p1 p2 nm) none [none,none,some z] φ (s.heap.push { cls:=.type "frame",data:=.dict #[] }) where
 fn:=kind
 gl:=gl
 bl:=bl
 len:=aJ 3
 Lφ:=S.new
 L0:=S.h0_new (aJ _)
 ns:=by
  have hL:(s.heap.push { cls:=.type "frame",data:=.dict #[] }).get? s.heap.objs.size=some { cls:=.type "frame",data:=.dict #[] }:=eG _ rfl
  refine⟨fun J=>none,⟨⟨_,_,_,hL,rfl,by intro e he;simp at he,fun J=>by simp[nsFind,findBy]⟩,_,hL,.inl ⟨rfl,rfl⟩⟩,fun x i hx'=>?_,fun kk z hz=>nomatch hz⟩
  show hW (fd.scope.names.lookup x) _ _
  rcases mr hx' with⟨e,e'⟩|⟨n,e,e'⟩|⟨n,n',e,e'⟩
  ·rw[e,k1,e'];exact .no
  ·rw[e,k2,e'];exact .no
  ·rw[e,k3,e']
   refine .yes z ca rv ?_ ⟨oc,cz _ hoc,hdc⟩ (ax.mono (aw.push (X:=[]) (φ:=φ) (s:=s)).toKp aA.nil hx)
   show List.lookup nm [(nm,ca)]=some ca
   rw[dr,beq_self_eq_true]
 cells x ca' hx':=by
  replace hx':List.lookup x [(nm,ca)]=some ca':=hx'
  rw[dr] at hx'
  refine xD (x==nm) (fun e=>?_) fun e=>?_
  ·rw[e] at hx'
   obtain rfl:=ai hx'
   exact⟨hca,h0,oc,cz _ hoc,hcc,_,hdc⟩
  ·rw[e] at hx';exact nomatch hx'
def lp {nm : Str} {k : Nat} {q0 q1 q2 : Pos} {of : Obj} (O : c.Ok) (k4 : fd.scope.names.lookup hZ = some .globalImplicit) (hg : c.g hZ = some (.ref af)) (ho : c.h0.get? af = some of) (hd : of.data = .func fdf) (ok : (p1 != cD && p2 != cD && p1 != p2 && p1 != nm && p2 != nm) = true) (dbg : [p1, p2, nm].all (fun x => !(x == ("__debug__" : Str)) && !(x == ("__classdict__" : Str))) = true) :
  aT c (bA fd L a ca nm) (dF p1 p2 nm) (.Call (.Name hZ pf) [.Name (aZ p1 p2 nm i) q0, .Name (aZ p1 p2 nm j) q1, .Name (aZ p1 p2 nm k) q2] [] pos) (.call hZ [.var (aZ 0 1 2 i), .var (aZ 0 1 2 j), .var (aZ 0 1 2 k)]) := by
 revert ok; refine xA fun h h5 => ?_;revert h; refine xA fun h h4 => ?_;revert h; refine xA fun h h3 => ?_;have n1 := bne_iff_ne.mp h3;have n2 := bne_iff_ne.mp h4;have n3 := bne_iff_ne.mp h5;have v : ∀ i q, aT c (bA fd L a ca nm) (dF p1 p2 nm) (.Name (aZ p1 p2 nm i) q) (.var (aZ 0 1 2 i)) := fun i q => by
  have look : (dF p1 p2 nm).lookup (aZ p1 p2 nm i) = some (aZ 0 1 2 i) := by
   show List.lookup (aZ p1 p2 nm i) [(p1, 0), (p2, 1), (nm, 2)] = _;unfold aZ;by_cases e0 : i = 0
   ·rw [if_pos e0, if_pos e0, dr, beq_self_eq_true]
   ·rw [if_neg e0, if_neg e0];by_cases e1 : i = 1
    ·rw [if_pos e1, if_pos e1, dr, beq_false_of_ne (c5 n1), dr, beq_self_eq_true]
    ·rw [if_neg e1, if_neg e1, dr, beq_false_of_ne (c5 n2), dr, beq_false_of_ne (c5 n3), dr, beq_self_eq_true]
  have hm : aZ p1 p2 nm i ∈ [p1, p2, nm] := by
   unfold aZ;by_cases e0 : i = 0
   ·rw [if_pos e0]; exact aI
   ·rw [if_neg e0];by_cases e1 : i = 1
    ·rw [if_pos e1]; exact a0 _ aI
    ·rw [if_neg e1]; exact a0 _ (a0 _ aI)
  refine xA (fun d1 d2 => ?_) (dg.mp dbg _ hm);exact Gi look ((gX _).mp d1) ((gX _).mp d2)
 exact Gd O k4 hg ho hd (by decide) (xK rfl (v i q0) (xK rfl (v j q1) (xK rfl (v k q2) CV))) (fun h => nomatch h)
def kH(i:Nat):([some x,some y,some z]:Loc).getD (aZ 0 1 2 i) none=some (aZ x y z i):=by
 unfold aZ;by_cases e0:i=0
 ·rw[if_pos e0,if_pos e0];rfl
 ·rw[if_neg e0,if_neg e0];by_cases e1:i=1
  ·rw[if_pos e1,if_pos e1];rfl
  ·rw[if_neg e1,if_neg e1];rfl
theorem jO{rx ry:Value}(O:c.Ok)(LO:∀kk fd nm,c.lam kk fd nm->eB kk fd nm)(hA:OkA c A q (d+1) φ s.heap)(S:aq c φ H s)(K:bz c φ s.heap B kk z fv) (R1:ax c φ s.heap x rx) (R2:ax c φ s.heap y ry) (hw:Calls c q d hZ (vz kk x y z) none Q fo H):codeAny (model c.prog c.w) A (.call fv ⟨[rx,ry],[]⟩) (wC c φ s Q fo) s:=by
 obtain⟨a,o,fd,nm,ca,oc,rv,rfl,ha,ho,hc,hd,hk,hcl,hca,hlt,hoc,hcc,hdc,hx,h0,cc,hcd,hco,hcφ⟩:=K;obtain⟨p1,p2,q0,q1,q2,pf,pos,bind,hbody,k1,k2,k3,k4,nc,ok,dbg,gl,bl,kind,co,gen⟩:=LO kk fd nm hk;have hdep:=hA.dep;have hun:=hA.un;refine JA (by show _<1000;exact aj [_,_] [] kaa (Y1 V0 (.l 1000)) (Y0 (Y0 V0 (Y0 V1 J1)) (.l 890)) hdep) ho hd co gen hbody hcd hco ?_;rw[bind,hcl];refine aE ?_;simp only[r3,Option.isSome_none,gO,if_false];refine ak (wpAny_alloc ?_);refine ak (wpAny_layCells _ (fun name kind cells=>by cases hkc:kind==qaj<;>simp[hkc]) _ _ _ _ ?_);rw[(Cz (h:=s.heap) nc).1,(Cz (k:=0) (acc:=[]) nc).2];have F₁:=I8 (p1:=p1) (p2:=p2) (a:=a) S hca h0 hoc hcc hdc hx k1 k2 k3 gl bl kind;generalize hs₁:s.heap.push { cls:=.type "frame",data:=.dict #[] }=h₁ at F₁;have keep:∀b o,s.heap.get? b=some o->h₁.get? b=some o:=fun b o hb=>by rw[<- hs₁];exact cz _ hb
 have e₁:aw [] φ s φ { s with heap:=h₁ }:=aw.of_keeps keep rfl;have hX:aP aO (bA fd s.heap.objs.size a ca nm) [s.heap.objs.size]:=⟨aI,fun x J hx=>by
  have:=dg.mp nc _ (fW (show fd.scope.names.lookup x=some .cell from hx));exact(nomatch this),fun b hb=>.inl (aN.mp hb)⟩
 have S₁:aq c φ H { s with heap:=h₁ }:=S.keeps (s':={ s with heap:=h₁ }) keep rfl;refine ak (Ez (c:=c) (wz:=bA fd s.heap.objs.size a ca nm) (X:=[s.heap.objs.size]) (s:={ s with heap:=h₁ }) (vs:=[x,y]) (rs:=[rx,ry]) hX _ (fun J J J=>rfl) (uU ok k1 k2) rfl F₁ S₁ (ah.mono e₁.toKp aA.nil ⟨R1,R2,rL⟩) fun s₂ F₂ S₂ e₂=>?_);refine aE ⟨O.lim.keeps S₂.stays,Jd ?_⟩;have hXn:∀b∈[s.heap.objs.size],s.heap.get? b=none:=fun b hb=>by rw[aN.mp hb];exact fJ (aJ _)
 have e₀₂:=(e₁.weaken (Y:=[s.heap.objs.size]) (fun J h=>nomatch h) fun b hb=>by rw[aN.mp hb];exact S.new).trans e₂;obtain⟨fr,hfr,hfrs⟩:=(hA.mono e₀₂).fr;have hEnv:bB c φ s₂.heap (bA fd s.heap.objs.size a ca nm):=by
  obtain⟨m,⟨⟨o1,es,n,ho1,hd1,_⟩,o2,ho2,hc2⟩,_,_⟩:=F₂.ns;obtain rfl:=ai (ho1.symm.trans ho2);rcases hc2 with hc2 |hc2
  ·exact⟨⟨by rw[show(bA fd s.heap.objs.size a ca nm).scope.kind=fd.scope.kind from rfl,kind];decide,gen,co,bl,gl⟩,s.heap.objs.size,o1,es,n,rfl,F₂.L0,F₂.Lφ,ho1,hd1,hc2.1⟩
  ·exact nomatch hc2.2.2
 have hfr2:(A.deeper (bA fd s.heap.objs.size a ca nm)).frames=some (bA fd s.heap.objs.size a ca nm::fr):=by show A.frames.map _=_;rw[hfr];rfl
 have hA₂:bY c (A.deeper (bA fd s.heap.objs.size a ca nm)) q d φ s₂.heap:=
  ⟨⟨by show A.depth+1+d<=890;exact aj [_,_] [] kaa (Y0 (Y0 (Y0 V0 J1) V1) (.l 890)) (Y0 (Y0 V0 (Y0 V1 J1)) (.l 890)) hdep,by show A.units+3+10*d<=9000;exact aj [_,_] [] kaa (Y0 (Y0 (Y0 V0 (.l 3)) (Y1 (.l 10) V1)) (.l 9000)) (Y0 (Y0 V0 (Y1 (.l 10) (Y0 V1 J1))) (.l 9000)) hun,hA.hd,_,hfr2,fun wz he=>by
   rcases bj.mp he with rfl |he
   ·exact hEnv
   ·exact hfrs wz he⟩,by rw[hfr2];exact fun h=>nomatch h⟩
 refine(id hw) _ fun af of fdf g1 g2 g3 g4=>?_;have hw':aF (Calls c) q d none (.call hZ [.var (aZ 0 1 2 (kk/9)),.var (aZ 0 1 2 (kk/3%3)),.var (aZ 0 1 2 (kk%3))]) [some x,some y,some z] Q fo H:=by
  refine ae.mk (kH _) (ae.mk (kH _) (ae.mk (kH _) ?_));exact hw
 refine a9 (lp O k4 g1 g2 g3 ok dbg _ q d none _ φ H s₂ _ _ hA₂ F₂ S₂ hw') ?_ fun J J h=>h.no;rintro v s₃ ⟨φ₃,H₃,v',e₃,S₃,R₃,w₃⟩;exact⟨φ₃,H₃,v',(e₀₂.trans (e₃.weaken (fun J h=>nomatch h) fun b hb=>by rw[aN.mp hb];exact F₂.Lφ)).drop hXn,S₃,R₃,w₃⟩
def KC{Q:PUnit->Shared->Prop}(F:au c wz wu none loc φ s.heap)(S:aq c φ H s)(hfr:wu.fr=true)(hk:wz.kindOf cD=some .local) (hr:wu.lookup cD=none) (hXL:wz.locals∈X) (K:bz c φ s.heap wz.locals kk z fv) (hQ:∀s',au c wz wu (some (kk,z)) loc φ s'.heap->aq c φ H s'->aw X φ s φ s'->Q ⟨⟩ s'):wpAny (model c.prog c.w) A (storeName wz cD fv) Q E s:=by
 obtain⟨m,⟨hn,oL,hoL,hcL⟩,hsl,hjo⟩:=F.ns;have hcL:=hcL.elim id fun h=>by rw[hfr] at h;exact nomatch h.2.2
 refine zY hk F.fn hn hoL fun h' hn' hs' hc'=>?_;obtain⟨o',ho',hcls'⟩:=hc';have hnf:∀o vs,s.heap.get? wz.locals=some o->o.data≠.fields vs:=fun o vs ho hd=>by
  obtain⟨o1,es1,n1,h1,h2,_⟩:=hn;obtain rfl:=ai (ho.symm.trans h1);rw[h2] at hd;injection hd
 have hdd:∀o es n,s.heap.get? wz.locals=some o->o.data=.dict es n->∃o' es' n',h'.get? wz.locals=some o'/\o'.data=.dict es' n'/\dK o o':=fun o es n ho J=>by
  obtain⟨o1,es1,n1,h1,h2,_⟩:=hn';obtain rfl:=ai (ho'.symm.trans h1);obtain rfl:=ai (hoL.symm.trans ho);exact⟨o',es1,n1,ho',h2,hcls'⟩
 have keep:∀b o,b≠wz.locals->s.heap.get? b=some o->h'.get? b=some o:=fun b o hb ho=>(hs'.2 b hb).trans ho;have hcN:∀y ca,wz.cells.lookup y=some ca->ca≠wz.locals:=fun y ca hy q=>by
  obtain⟨_,_,o1,h1,h2⟩:=F.cells y ca hy;rw[q] at h1;obtain rfl:=ai (hoL.symm.trans h1);rw[h2] at hcL;exact absurd hcL.1 (by decide)
 have cs:∀z ca,wz.cells.lookup z=some ca->ca∉[wz.locals]/\bf c φ s.heap ca:=fun z ca hz=>⟨fun q=>hcN z ca hz (aN.mp q),F.cells z ca hz⟩;have kp:=vx (φ:=φ) keep hdd hnf;have ow:aA c [wz.locals] s.heap:=fun b hb o ho=>by rw[aN.mp hb] at ho ⊢;exact wY F ho
 refine hQ _ ⟨F.fn,F.gl,F.bl,⟨_,⟨hn',o',ho',.inl ⟨hcls'.cls.trans hcL.1,hfr⟩⟩,fun y j hy=>?_,fun kk' z' hz=>?_⟩,F.len,F.Lφ,F.L0,fun y ca hy=>?_⟩ ?_ (aw.of_own (s':={ s with heap:=h',toks:=s.toks+1 }) hs' hXL hdd ⟨o',ho'⟩ rfl hnf)
 ·have hsy:=(hsl y j hy).mono (s:=s) (s':={ s with heap:=h' }) kp ow cs;refine hW.imp hsy (fun J h=>?_) id;show cJ _ _ _ (if y=cD then _ else _) _;rw[if_neg fun q=>by rw[q,hr] at hy;cases hy];exact h
 ·obtain⟨rfl,rfl⟩:=pY (ai hz);exact(fun J kJ=>kJ hk fv (if_pos rfl) (K.mono (s:=s) (s':={ s with heap:=h' }) kp ow fun ca o ho J hlt q=>absurd (aN.mp q) (ck hlt)))
 ·obtain⟨h1,h2,o1,h3,h4,h5⟩:=F.cells y ca hy;exact⟨h1,h2,o1,(hs'.2 ca (hcN y ca hy)).trans h3,h4,h5⟩
 ·exact S.mono (s':={ s with heap:=h',toks:=s.toks+1 }) kp ow (fun b hb=>by rw[aN.mp hb];exact F.L0) (fun b hb o ho=>keep b o (fun q=>F.Lφ (q▸hb)) ho) (fun b o hb J=>keep b o (fun q=>by rw[q,F.L0] at hb;injection hb) (S.stays b o hb)) S.gens fun b ps hb=>keep b _ (fun q=>hnf _ ps (q▸hb) rfl) hb
theorem mE{p:Nat×List V}(h:tR k d vs=some p):∃kk z x y,k=some (kk,z)/\vs=[x,y]/\d=p.1+1/\p.2=vz kk x y z:=by
 obtain⟨⟨kk,z⟩,rfl,h⟩:=vV.mp h;cases d with
 |zero=>injection h
 |succ d=>
  cases vs with
  |nil=>injection h
  |cons x vs=>
   cases vs with
   |nil=>injection h
   |cons y vs=>
    cases vs with
    |nil=>obtain rfl:=ai h;exact⟨kk,z,x,y,rfl,rfl,rfl,rfl⟩
    |cons _ _=>injection h
theorem Jg{xs:List Ex}(O:c.Ok)(LO:∀kk fd nm,c.lam kk fd nm->eB kk fd nm)(h:gG c wz wu es xs)(hne:es≠[]):aT c wz wu (.Call (.Name cD p) es [] pos) (.callv xs):=fun A q d k loc φ H s Q E hA hF hS hw=>by
 obtain⟨⟨kk,z⟩,rfl,hw⟩:=ae.inv hw;obtain⟨m,hn,h1,h2⟩:=id hF.ns;refine(h2 kk z rfl) _ fun g1 fv g2 g3=>?_;show wpAny _ _ (eval (.Name cD p) wz >>=fun fv=>callWith pos fv [] (backTo pos (fe es wz)) []) _ _ _;refine ak (wpAny_Name (yl hF.fn g1 hn.ns g2 ?_) (by decide));obtain⟨a,o,fd,nm,ca,oc,rv,rfl,ha,ho,hc,hd,_⟩:=id g3;refine Calls.callWith_function (o:=o) (fd:=fd) (wm (sS h hne hA hF hS hw) ?_);rintro _ s₁ w0;refine w0 _ fun rs wk φ₁ H₁ vs e₁ S₁ R₁ eN2=>?_;clear w0;subst wk;obtain⟨l₁,w₁⟩:=eN2;refine⟨⟨tH (c:=c) e₁.toKp aA.nil ho ha (vp hc rfl),hd⟩,wpAny_call ?_⟩;obtain⟨⟨d',vs'⟩,hp,w₁⟩:=ae.inv w₁;obtain⟨kk',z',x,y,ek,rfl,ed,ev⟩:=mE hp;obtain⟨rfl,rfl⟩:=pY (ai ek);dsimp only at ed ev w₁;subst ed ev;refine R₁.uncons _ fun rx rs' wk Rx R₂=>?_;subst wk;refine R₂.uncons _ fun ry rs'' wk Ry R₃=>?_;subst wk;obtain rfl:rs''=[]:=R₃;refine codeAny_mono (jO O LO (hA.mono e₁).toOkA S₁ (g3.mono e₁.toKp aA.nil fun J J J J J q=>nomatch q) Rx Ry w₁) ?_;intro r s' hr;cases r with
 |error e=>exact(aB.no hr:False).elim
 |ok f=>cases f with
  |ret v=>exact aG.lift e₁ hr
  |_=>exact hr.elim
theorem F4(hX:aP aO wz X)(f:Str×Value->PUnit->Sem (ForInStep PUnit))(hf:∀n v u,f (n,v) u=(do storeName wz n v;pure (.yield ⟨⟩))) :
  ∀{ps:List Str} {i:Nat} {vs:List V} {rs:List Value} {loc:Loc} {s:Shared} {Q:PUnit->Shared->Prop},vK wz wu ps i->vs.length=ps.length->au c wz wu none loc φ s.heap->aq c φ H s->ah c φ s.heap vs rs->
   (∀s',au c wz wu none (rV i vs loc) φ s'.heap->aq c φ H s'->aw X φ s φ s'->wpAny (model c.prog c.w) A (forIn r ⟨⟩ f) Q E s')->wpAny (model c.prog c.w) A (forIn (ps.zip rs++r) ⟨⟩ f) Q E s
 |[],_,vs,_,_,s,Q,_,hl,F,S,_,hQ=>by
  obtain rfl:=gj.mp hl;rw[List.zip_nil_left];exact hQ s F S aw.refl
 |x::ps,i,[],rs,loc,s,Q,hp,hl,F,S,R,hQ=>nomatch hl
 |x::ps,i,v::vs,rs,loc,s,Q,hp,hl,F,S,R,hQ=>by
  refine R.uncons _ fun r rs wk R1 R2=>?_;subst wk;rw[List.zip_cons_cons,List.cons_append,List.forIn_cons,hf];refine ak (ak (wm (qY F S hp.1 hX R1) ?_));rintro _ s₁ ⟨F₁,S₁,e₁,_⟩;exact aE (F4 hX f hf hp.2 (Nat.succ.inj hl) F₁ S₁ (ah.mono e₁.toKp (F.ownX hX) R2) fun s₂ F₂ S₂ e₂=>hQ s₂ F₂ S₂ (e₁.trans e₂))
theorem Hf{body:List Stmt}(O:c.Ok)(K:fq c f a o fd body ps (ps++[cD]) wu)(hj:fd.scope.names.lookup cD=some .local)(hr:wu.lookup cD=none) (hbod:∀L,aP aO (cq fd L a) (XS (cq fd L a))->gD c (cq fd L a) wu (XS (cq fd L a)) body xs) {E:XPost} (wq:vs.length=ps.length) (hw:az (Calls c) q d (some (kk,z)) xs (de Q) (dZ E) (vs.map some++List.replicate (wu.n-vs.length) none) H):Calls c q (d+1) f vs (some (kk,z)) Q E H:=by
 refine(fun J kJ=>kJ a o fd K.g K.ho K.hd (fun A φ s args extra hA S R hex=>?_));obtain⟨fv,rfl,CR⟩:=hex;have hal:args.length=ps.length:=by rw[ah.length R,wq]
 have hdep:=hA.dep;have hun:=hA.un;refine codeAny_call_function (by show _<1000;exact aj [_,_] [] kaa (Y1 V0 (.l 1000)) (Y0 (Y0 V0 (Y0 V1 J1)) (.l 890)) hdep) (S.stays a o K.ho) K.hd K.co K.gen K.hbody (K.code.keeps S.stays) ?_;rw[K.bind (args++[fv]) (by rw[bw,bw,hal];rfl),K.clo,List.zip_append hal.symm];refine aE ?_;simp only[r3,Option.isSome_none,gO,if_false];refine ak (wpAny_alloc ?_);refine ak (wpAny_layCells _ (fun name kind cells=>by cases hkc:kind==qaj<;>simp[hkc]) _ _ _ _ ?_);generalize hs₁:s.heap.push { cls:=.type "frame",data:=.dict #[] }=h₁;have hz₁:h₁.objs.size=s.heap.objs.size+1:=by rw[<- hs₁,oR]
 rw[show({ s with heap:=h₁ }:Shared).heap.objs.size=s.heap.objs.size+1 from hz₁];have keep:∀b o,s.heap.get? b=some o->(dJ h₁ fd.scope.names).get? b=some o:=fun b o hb=>uW _ _ b o (by rw[<- hs₁];exact cz _ hb);have hX:=Eb fd s.heap.objs.size a h₁ hz₁;have e₁:aw [] φ s φ { s with heap:=dJ h₁ fd.scope.names }:=aw.of_keeps keep rfl;have cellok:∀x ca,(dN (s.heap.objs.size+1) fd.scope.names []).lookup x=some ca->(dJ h₁ fd.scope.names).get? ca=some rW/\s.heap.objs.size<ca:=fun x ca hx=>by
  have hm:=fW hx;rw[<- hz₁] at hm;have ok:=cellsFrom_ok fd.scope.names h₁ (s.heap.objs.size+1) [] ⟨fun J J hm=>(nomatch hm),List.Pairwise.nil⟩ (by rw[hz₁];exact aJ _);exact⟨Ag fd.scope.names h₁ [] (fun J J hm=>nomatch hm) x ca hm,(ok.empty x ca hm).2⟩
 have newφ:∀b,s.heap.objs.size<=b->b∉φ/\c.h0.get? b=none/\s.heap.get? b=none:=fun b hb=>
  ⟨fun hm=>d4 _ (cS (S.lt hm) hb),S.h0_new hb,fJ hb⟩
 have F₁:=D0 K S (uW _ _ _ _ (by rw[<- hs₁];exact eG _ rfl)) cellok newφ;have far:∀b∈XS (cq fd s.heap.objs.size a),s.heap.objs.size<=b:=fun b hb=>by
  rcases hX.only b hb with rfl |⟨x,hx⟩
  ·exact aJ _
  ·exact bO (cellok x b hx).2
 refine ak (F4 (c:=c) (wz:=cq fd s.heap.objs.size a) (X:=XS (cq fd s.heap.objs.size a)) (s:={ s with heap:=dJ h₁ fd.scope.names }) hX _ (fun J J J=>rfl) (K.par _) wq F₁ (S.keeps (s':={ s with heap:=dJ h₁ fd.scope.names }) keep rfl) (ah.mono e₁.toKp aA.nil R) fun s₁ F₁' S₁ e₁'=>?_);have CR₁:bz c φ s₁.heap s.heap.objs.size kk z fv:=(CR.mono (s':={ s with heap:=dJ h₁ fd.scope.names }) e₁.toKp aA.nil fun J J J J J q=>nomatch q).mono (s:={ s with heap:=dJ h₁ fd.scope.names }) e₁'.toKp (au.ownX (s:={ s with heap:=dJ h₁ fd.scope.names }) F₁ hX)
  fun ca o J J hlt q=>d4 _ (cS hlt (far ca q))
 rw[List.zip_cons_cons,List.zip_nil_left,List.forIn_cons];refine ak (ak (KC F₁' S₁ K.fr hj hr hX.loc CR₁ fun s₂ F₂ S₂ e₂'=>aE ?_));have e₂:=e₁'.trans e₂';dsimp only;rw[List.forIn_nil];refine aE (aE ⟨O.lim.keeps S₂.stays,codeAny_func ?_⟩);have hXn:∀b∈XS (cq fd s.heap.objs.size a),s.heap.get? b=none:=fun b hb=>(newφ b (far b hb)).2.2;have e₀₂:=(e₁.weaken (Y:=XS (cq fd s.heap.objs.size a)) (fun J h=>nomatch h) fun b hb=>(au.outX (s:={ s with heap:=dJ h₁ fd.scope.names }) F₁ hX b hb).1).trans e₂;have hloc:rV 0 vs (List.replicate wu.n none)=vs.map some++List.replicate (wu.n-vs.length) none:=by
  have:=Bu vs [] (wu.n-vs.length);rw[Nat.add_sub_cancel' (wq▸K.np)] at this;exact this
 rw[hloc] at F₂;obtain⟨fr,hfr,hfrs⟩:=(hA.mono e₀₂).fr;have hEnv:bB c φ s₂.heap (cq fd s.heap.objs.size a):=by
  obtain⟨m,⟨⟨o1,es,n,ho1,hd1,_⟩,o2,ho2,hc2⟩,_,_⟩:=F₂.ns;obtain rfl:=ai (ho1.symm.trans ho2);rcases hc2 with hc2 |hc2
  ·exact⟨⟨by rw[show(cq fd s.heap.objs.size a).scope.kind=fd.scope.kind from rfl,K.kind];decide,K.gen,K.co,K.bl,K.gl⟩,s.heap.objs.size,o1,es,n,rfl,F₂.L0,F₂.Lφ,ho1,hd1,hc2.1⟩
  ·rw[K.fr] at hc2;cases hc2.2.2
 have hfr2:(A.deeper (cq fd s.heap.objs.size a)).frames=some (cq fd s.heap.objs.size a::fr):=by show A.frames.map _=_;rw[hfr];rfl
 have hA₂:bY c (A.deeper (cq fd s.heap.objs.size a)) q d φ s₂.heap:=
  ⟨⟨by show A.depth+1+d<=890;exact aj [_,_] [] kaa (Y0 (Y0 (Y0 V0 J1) V1) (.l 890)) (Y0 (Y0 V0 (Y0 V1 J1)) (.l 890)) hdep,by show A.units+3+10*d<=9000;exact aj [_,_] [] kaa (Y0 (Y0 (Y0 V0 (.l 3)) (Y1 (.l 10) V1)) (.l 9000)) (Y0 (Y0 V0 (Y1 (.l 10) (Y0 V1 J1))) (.l 9000)) hun,hA.hd,_,hfr2,fun wz he=>by
   rcases bj.mp he with rfl |he
   ·exact hEnv
   ·exact hfrs wz he⟩,by rw[hfr2];exact fun h=>nomatch h⟩
 refine a9 (hbod _ hX _ q d _ _ φ H s₂ _ _ hA₂ ⟨fr,hfr2⟩ F₂ S₂ hw) ?_ ?_
 ·rintro f s₃ ⟨φ₃,H₃,l₃,e₃,S₃,F₃,w₃⟩;have e₀₃:=(e₀₂.trans e₃).drop hXn;cases f with
  |next=>exact⟨φ₃,H₃,.none,e₀₃,S₃,rN,w₃⟩
  |ret r=>refine w₃ _ fun v Rv w=>?_;clear w₃;exact⟨φ₃,H₃,v,e₀₃,S₃,Rv,w⟩
  |_=>exact w₃.elim
 ·intro x s₃ h;exact Eo hA₂ ⟨fr,hfr2⟩ S₂ e₀₂ hXn h fun J J h=>h
end
variable {B:String}{L:Nat}{Q:Value->Shared->Prop}{d:Drawn}{ps vs:Array Value}{r:Expr->Option Ex}{x:Addr×(Nat×Nat)×Str}{y:Option Value}
section
open PySem PyProof.Rows
inductive dj(h:Heap)(c P:Addr):Prop
 |mk (o:Obj)(vs:Array Value)(file:Str)(tf:Tok)(flags:Int)(tg:Tok)(inF:Bool)(text:Int)(tt:Tok)(h1:h.get? c=some o)(h2:o.cls=.type "code")(h3:o.data=.fields vs)(h4:vs[11]?=some (.ref P))(h5:vs.getD 11 .none=.ref P)
   (h6:vs.getD 18 .none=.str file tf) (h7:vs.getD 7 .none=.int flags tg) (h8:vs.getD 9 .none=.bool inF) (h9:vs.getD 10 .none=.int text tt) (ne:c≠P):dj h c P
theorem dj.keeps{c P:Addr}(k:∀b o,h.get? b=some o->h'.get? b=some o):dj h c P->dj h' c P
 |.mk o vs file tf flags tg inF text tt h1 h2 h3 h4 h5 h6 h7 h8 h9 ne=>.mk o vs file tf flags tg inF text tt (k _ _ h1) h2 h3 h4 h5 h6 h7 h8 h9 ne
theorem dj.code{c P:Addr}(hP:h.get? P=some (bF ps))(ht:TriplesOk ps.toList):dj h c P->h.IsCode c P ps
 |.mk o vs file tf flags tg inF text tt h1 _ h3 _ h5 h6 h7 h8 h9 ne=>⟨o,vs,file,tf,flags,tg,inF,text,tt,_,h1,h3,h5,h6,h7,h8,h9,hP,rfl,ht,ne⟩
theorem dj.tab{c P:Addr}(hP:h.get? P=some (bF ps)):dj h c P->h.TableAt c P ps
 |.mk o vs _ _ _ _ _ _ _ h1 h2 h3 h4 _ _ _ _ _ _=>⟨⟨o,vs,h1,h2,h3,h4⟩,hP⟩
inductive dw(c:Cx):Prop
 |mk (bm:Addr)(ob:Obj)(b1:c.g "__builtins__"=some (.ref bm))(b2:bm≠kj)(b3:c.h0.get? bm=some ob)(b4:ob.cls=.type "module")(b5:ob.dict=some kj)(b6:ob.data=.plain):dw c
abbrev eL (qual:Str) (params:Arguments) (body:Expr) (scope:Scope) (cl:List (Str×Addr)) (pm code ct:Value):qbe:=
 { name:="<lambda>",qualname:=qual,params,body:=.expr body,scope,globals:=dH,closure:=cl,defaults:=.none,kwdefaults:=.none,doc:=.none,pyModule:=pm,annotations:=none,code,closureTuple:=ct,builtins:=kj }
abbrev oi (fd:qbe):Obj:={ cls:=.type "function",data:=.func fd }
theorem jT{params:Arguments}{body:Expr}{scope:Scope}{fl:Nat}(BM:dw c)(hg:h0.Ns dH c.g)(hb:∀b o,c.h0.get? b=some o->h0.get? b=some o) (hcl:closureFor scope wz=pure [cl]) (hgl:wz.globals=dH) (h:∀its,wpAny (model c.prog c.w) A (functionCode wz pos fl "<lambda>" qual params scope (.expr body)) (fun cv s'=>(∀b o,h0.get? b=some o->s'.heap.get? b=some o)/\∀pm ct,Q (.ref s'.heap.objs.size) { s' with heap:=s'.heap.push (oi (eL qual params body scope [cl] pm cv ct)) }) E { s with heap:=s.heap.push { cls:=.type "tuple",data:=.seq its } }) :
  wpAny (model c.prog c.w) A (makeFunction "<lambda>" qual params (.expr body) scope wz [] [] [] pos fl) Q E s:=by
 obtain⟨bm,ob,b1,b2,b3,b4,b5,b6⟩:=BM;rw[makeFunction_eq];simp only[List.zip_nil_right,List.filterMap_nil,List.isEmpty_nil,if_true,pure_bind];unfold makeTail;rw[hcl,hgl];refine ak (aE ?_);simp only[List.isEmpty_cons,gO,if_false];refine ak (wpAny_newTextTuple ?_);refine ak (a9 (h _) ?_ fun J J q=>q);rintro cv s' ⟨k,q⟩;have hg':=hg.keeps k;refine ak (wpAny_builtinsFor hg' b1 b2 (k _ _ (hb _ _ b3)) b4 b5 b6 ?_);refine ak (wpAny_nsGet hg' ?_);exact ak (aE (oV (q _ _) (by size_fits)))
theorem IV{scope:Scope}{nm:Str}(hs:scope.names=[(p1,.local),(p2,.local),(nm,.free),(f,.globalImplicit)])(hc:wz.cells.lookup nm=some ca):closureFor scope wz=pure [(nm,ca)]:=by
 unfold closureFor;rw[hs];simp[cellOf,hc]
def aw.table {P : Addr} (hP : s.heap.get? P = some (bF ps)) (hP' : s'.heap.get? P = some (bF ps')) (hk : ∀ b o, b ≠ P -> s.heap.get? b = some o -> s'.heap.get? b = some o) (ho : s'.os = s.os) : aw [] φ s φ s' := by
 have ne : ∀ b o, s.heap.get? b = some o -> o.cls ≠ .none -> b ≠ P := fun b o hb hc q => by rw [q, hP] at hb; (injection hb with Ja; subst Ja); exact hc rfl
 exact { pre := nU
         keep := fun b o hb J J hf => hk b o (ne b o hb fun q => by rw [q] at hf; exact nomatch hf) hb
         new := fun J h => .inl h
         frame := fun b o hb J J hc => ⟨o.slots, hk b o (ne b o hb hc) hb⟩
         dict := fun b o es n hb J hd => ⟨o, es, n, hk b o (fun q => by rw [q, hP] at hb; (injection hb with Ja; subst Ja); injection hd) hb, hd, .rfl⟩
         exc := fun b o vs C hb J hc hd => ⟨vs, by rw [<- hd]; exact hk b o (ne b o hb (by rw [hc]; exact fun q => nomatch q)) hb⟩
         alive := fun J J J h => nomatch h
         tabs := fun b o hb J J hc => (Classical.em (b = P)).elim (fun q => ⟨_, q ▸ hP', rfl⟩) fun q => ⟨o, hk b o q hb, hc⟩
         os := ho }
def aq.table (S : aq c φ H s) (hP : s.heap.get? x.1 = some (bF ps)) (hP' : s'.heap.get? x.1 = some (bF ps')) (hk : ∀ b o, b ≠ x.1 -> s.heap.get? b = some o -> s'.heap.get? b = some o) (ho : s'.os = s.os) (hg : s'.gens = s.gens)
  (h0 : c.h0.get? x.1 = none) (hone : ∀ y ∈ c.tabs, y.1 = x.1 -> y = x) (hy : eI s'.heap x) : aq c φ H s' where
 stays b o h := hk b o (fun q => by rw [q, h0] at h; injection h) (S.stays b o h)
 fresh := S.fresh
 nodup := S.nodup
 len := S.len
 lists i xs h := by
  refine (S.lists i xs h) _ fun a o vs n h1 h2 h3 h4 h5 h6 => ?_
  exact (fun J kJ => kJ a o vs n h1 (hk a o (fun q => by rw [q, hP] at h2; (injection h2 with Ja; subst Ja); injection h3) h2) h3 h4 (ah.mono (aw.table hP hP' hk ho).toKp aA.nil h5) h6)
 gens := hg.trans S.gens
 tab y hm := (Classical.em (y.1 = x.1)).elim (fun q => by rw [hone y hm q]; exact hy) fun q => by
  have k : ∀ b o, s.heap.get? b = some o -> o.cls = .type "code" -> s'.heap.get? b = some o := fun b o hb hc => hk b o (fun q => by rw [q, hP] at hb; (injection hb with Ja; subst Ja); injection hc) hb
  rcases S.tab y hm with h1 | ⟨cc, h1, h2⟩
  ·exact .no (hk _ _ q h1)
  ·exact .yes cc (hk _ _ q h1) (h2.mono k)
def Gs{nm:Str}(e:aw [] φ s φ s₂)(S₂:aq c φ H s₂)(CA:bf c φ s.heap ca)(hoc:s.heap.IsCell ca (some rv))(Rz:ax c φ s.heap z rv)(hl:c.lam kk fd nm)(hcl:fd.closure=[(nm,ca)])(hcd:fd.code=.ref cc)(hco:b0 s₂.heap cc fd.qualname)(hn:cc∉φ) (hQ:∀fv s',aw [] φ s φ s'->aq c φ H s'->bz c φ s'.heap s'.heap.objs.size kk z fv->Q fv s'):Q (.ref s₂.heap.objs.size) { s₂ with heap:=s₂.heap.push (oi fd) }:=by
 have e₃:aw [] φ s φ { s₂ with heap:=s₂.heap.push (oi fd) }:=e.trans aw.push;obtain⟨o1,g1,g2⟩:=hoc;obtain⟨h1,h2,o,h3,h4,h5⟩:=CA;obtain rfl:=ai (g1.symm.trans h3);have hc:=e₃.keep ca o1 g1 h1 (fun q=>nomatch q) (by rw[h4];decide);exact hQ _ _ e₃ (S₂.push _) ⟨s₂.heap.objs.size,oi fd,fd,nm,ca,o1,rv,rfl,S₂.new,eG _ rfl,rfl,rfl,hl,hcl,h1,ic hc,hc,h4,g2,ax.mono e₃.toKp aA.nil Rz,h2,cc,hcd,hco.mono fun J J q J=>cz _ q,hn⟩
def kt{params:Arguments}{body:Expr}{scope:Scope}{nm:Str}(O:c.Ok)(BM:dw c) (hx:x∈c.tabs) (hone:∀y∈c.tabs,y.1=x.1->y=x) (h0:c.h0.get? x.1=none) (CH:dj c.h0 cc x.1) (hcode:wz.code=.ref cc) (hl:x.2.1=(pos.line,pos.col)) (hq:x.2.2=wz.qual++"<lambda>") (hd1:params.defaults=[]) (hd2:params.kw_defaults=[]) (hs:scope.names=[(p1,.local),(p2,.local),(nm,.free),(f,.globalImplicit)]) (hgl:wz.globals=dH) (S:aq c φ H s) (hca:wz.cells.lookup nm=some ca) (CA:bf c φ s.heap ca) (hoc:s.heap.IsCell ca (some rv)) (Rz:ax c φ s.heap z rv) (hLam:∀pm cv ct,c.lam kk (eL (wz.qual++"<lambda>") params body scope [(nm,ca)] pm cv ct) nm) (hQ:∀fv s',aw [] φ s φ s'->aq c φ H s'->bz c φ s'.heap s'.heap.objs.size kk z fv->Q fv s') :
  wpAny (model c.prog c.w) A (eval (.Lambda params body scope pos) wz) Q E s:=by
 have hdef:defaultsOf params wz=([],[]):=by
  obtain⟨_,_,_,_,_,_,_⟩:=params;dsimp only at hd1 hd2;subst hd1 hd2;rfl
 rw[arm_eval_Lambda,hdef];show wpAny _ _ (do let dv<-evalAll [];let kdv<-holding dv (evalAllOpt []);makeFunction "<lambda>" (wz.qual++"<lambda>") params (.expr body) scope wz dv kdv [] pos pos.line) Q E s;refine ak (aE (ak (dz (aE ?_))));refine jT (h0:=c.h0) BM O.gl (fun J J h=>h) (IV hs hca) hgl fun its=>?_;have S₁:=S.push { cls:=.type "tuple",data:=.seq its };have e₁:aw [] φ s φ { s with heap:=s.heap.push { cls:=.type "tuple",data:=.seq its } }:=aw.push;have C₁:=CH.keeps S₁.stays;rcases S₁.tab x hx with hP |⟨c',hP,hC⟩
 ·refine wpAny_functionCodeX hcode (C₁.code hP trivial) (C₁.tab hP) rfl fun c' h' tk hk hge hlt J hrec htb hc2=>?_;obtain⟨P',_,_,⟨o2,vs2,g1,g2,g3,_⟩,_⟩:=hc2;obtain⟨c2,o3,vs3,t3,q1,q2,q3,q4⟩:=hrec;obtain rfl:=tl q1;obtain rfl:=ai (g1.symm.trans q2);have hP':h'.get? x.1=some (bF #[rawInt pos.line,rawInt pos.col,.ref c']):=by
   have:=htb.2;rw[Array.empty_append] at this;exact this
  have hco:b0 h' c' (wz.qual++"<lambda>"):=⟨o2,vs3,t3,g1,g2,q3,q4⟩;have S₂:aq c φ H { s with heap:=h',toks:=tk }:=S₁.table (x:=x) (s':={ s with heap:=h',toks:=tk }) hP hP' (fun b o hb ho=>hk b o hb ho) rfl rfl h0 hone (.yes c' (by rw[hl];exact hP') (by rw[hq];exact hco));have e₂:aw [] φ s φ { s with heap:=h',toks:=tk }:=e₁.trans (aw.table (s':={ s with heap:=h',toks:=tk }) hP hP' (fun b o hb ho=>hk b o hb ho) rfl);have hn:c'∉φ:=fun hm=>d4 _ (cS (S₁.lt hm) hge);exact⟨fun b o hb=>S₂.stays b o hb,fun pm ct=>Gs (fd:=eL (wz.qual++"<lambda>") params body scope [(nm,ca)] pm (.ref c') ct) e₂ S₂ CA hoc Rz (hLam _ _ _) rfl rfl hco hn hQ⟩
 ·rw[hl] at hP;have hn:c'∉φ:=fun hm=>by
   obtain⟨o1,g1,g2⟩:=S₁.isList hm;obtain⟨o2,_,_,q1,q2,_,_⟩:=hC;obtain rfl:=ai (g1.symm.trans q1);rw[g2] at q2;exact absurd q2 (by decide)
  refine wpAny_functionCode_hit hcode (C₁.code hP trivial) (c':=.ref c') ?_ ⟨S₁.stays,fun pm ct=>Gs (fd:=eL (wz.qual++"<lambda>") params body scope [(nm,ca)] pm (.ref c') ct) e₁ S₁ CA hoc Rz (hLam _ _ _) rfl rfl (hq▸hC) hn hQ⟩;show(if((pos.line:Int)==(pos.line:Int)&&(pos.col:Int)==(pos.col:Int))=true then some (bX c') else _)=_;rw[beq_self_eq_true,beq_self_eq_true];rfl
theorem G5{pl:Pos}{e2 body:Expr}{params:Arguments}{scope:Scope}{nm g:Str}(O:c.Ok)(BM:dw c)(hk:wz.kindOf f=some .globalImplicit)(hg:c.g f=some (.ref a))(ho:c.h0.get? a=some o)(hd:o.data=.func fd) (hx:(f==("__debug__":Str))=false) (n1:dM e1=true) (n2:dM e2=true) (h1:aT c wz wu e1 y1) (h2:aT c wz wu e2 y2) (hm:x∈c.tabs) (hone:∀y∈c.tabs,y.1=x.1->y=x) (h0:c.h0.get? x.1=none) (CH:dj c.h0 cc x.1) (hcode:wz.code=.ref cc) (hl:x.2.1=(pl.line,pl.col)) (hq:x.2.2=wz.qual++"<lambda>") (hd1:params.defaults=[]) (hd2:params.kw_defaults=[]) (hs:scope.names=[(p1,.local),(p2,.local),(nm,.free),(g,.globalImplicit)]) (hn:wz.kindOf nm=some .cell) (hi:wu.lookup nm=some i) (hLam:∀ca pm cv ct,c.lam kk (eL (wz.qual++"<lambda>") params body scope [(nm,ca)] pm cv ct) nm) :
  aT c wz wu (.Call (.Name f p) [e1,e2,.Lambda params body scope pl] [] pos) (.callL f [y1,y2] kk i):=fun A q d k loc φ H s Q E hA hF hS hw=>by
 show wpAny _ _ (eval (.Name f p) wz >>=fun fv=>callWith pos fv [] (backTo pos (fe [e1,e2,.Lambda params body scope pl] wz)) []) _ _ _;refine ak (Calls.Name_function_global hF.fn hk (Calls.loadGlobal_global (by rw[hF.gl];exact O.gl.keeps hS.stays) hg ?_) hx);rw[rf n1,rf n2,rf rfl];refine Calls.callWith_function (o:=o) (fd:=fd) (Calls.evalArgs_plain ?_);refine Calls.spliced_cons (wm (h1 A q d k loc φ H s _ E hA hF hS hw) ?_);rintro r₁ s₁ ⟨φ₁,H₁,v₁,e₁,S₁,R₁,w₁⟩;refine Calls.spliced_cons (a9 (h2 A q d k loc φ₁ H₁ s₁ _ E (hA.mono e₁) (hF.mono e₁) S₁ w₁) ?_ fun J J h=>aB.lift e₁ S₁ h);rintro r₂ s₂ ⟨φ₂,H₂,v₂,e₂,S₂,R₂,w₂⟩;revert w₂;refine xI fun z hz w₂=>?_;have F₂:=(hF.mono e₁).mono e₂;obtain⟨m,hns,sl,_⟩:=id F₂.ns;have h3:=sl nm i hi;rw[hz] at h3;unfold iJ at h3;rw[hn] at h3;obtain⟨_,ca,rv,g1,g2,g3⟩:=h3;refine Calls.spliced_cons (kt O BM hm hone h0 CH hcode hl hq hd1 hd2 hs hF.gl S₂ g1 (F₂.cells nm ca g1) g2 g3 (hLam ca) fun fv s₃ e₃ S₃ CR=>Calls.spliced_nil ?_);refine⟨⟨S₃.stays a o ho,hd⟩,wpAny_call ?_⟩;refine w₂ _ fun a' o' fd' q1 q2 q3 q4=>?_;clear w₂;rw[hg] at q1;injection q1 with Ja;injection Ja with w4;subst w4;have e₀:=(e₁.trans e₂).trans e₃;refine codeAny_mono (q4 A φ₂ s₃ [r₁,r₂] [fv] ((hA.mono e₀)).toOkA S₃ ⟨ax.mono (e₂.trans e₃).toKp aA.nil R₁,ax.mono e₃.toKp aA.nil R₂,rL⟩ ⟨fv,rfl,CR⟩) ?_;intro r s' hr;cases r with
 |error e=>exact aB.lift e₀ S₃ hr
 |ok f=>cases f with
  |ret v=>exact aG.lift e₀ hr
  |_=>exact hr.elim
end
variable {Q:Option Value->Shared->Prop}{cl:Int}{p1:Pos}{ps:List Str}{x:Ex}
section
open PySem PyProof.Rows
set_option maxRecDepth 100000
inductive aR(h:Heap)(C:Addr)(bm:List Value)(ini:Option Value):Prop
 |mk (nm q:Str)(N:Addr)(bs:List Value)(sn:List Str)(sub:List Value)(ab:Bool)(col:Option Bool)(dd:Option Addr)(k0 k1 k2 k3 k5:Option Value)(mN:Str->Option Value)
   (hC:h.get? C=some (qZ nm q C N bs bm true sn sub ab col dd k0 k1 k2 k3 k5 "ValueError.__new__")) (hN:h.Ns N mN) (hq:∀n∈zd5,mN n=none) (hi:mN "__init__"=ini):aR h C bm ini
def aR.keeps(K:aR h C bm ini)(hk:∀b o,h.get? b=some o->h'.get? b=some o):aR h' C bm ini:=by
 obtain⟨nm,q,N,bs,sn,sub,ab,col,dd,k0,k1,k2,k3,k5,mN,hC,hN,hq,hi⟩:=K;exact⟨nm,q,N,bs,sn,sub,ab,col,dd,k0,k1,k2,k3,k5,mN,hk _ _ hC,hN.keeps hk,hq,hi⟩
structure bW(h:Heap)(C NE:Addr):Prop where
 own:∃ini,aR h C (.ref NE::cF) ini
 net:aR h NE cF none
def bW.keeps(K:bW h C NE)(hk:∀b o,h.get? b=some o->h'.get? b=some o):bW h' C NE:=
 ⟨let⟨i,k⟩:=K.own;⟨i,k.keeps hk⟩,K.net.keeps hk⟩
def bW.lookup(K:bW h C NE)(hn:n∈zd5)(hB:pP (.type "ValueError") n=pure y)(hq:Q y ⟨h,g,d,t,os⟩) :
  wpAny M A (pP (.ref C) n) Q E ⟨h,g,d,t,os⟩:=by
 obtain⟨⟨ini,nm,q,N,bs,sn,sub,ab,col,dd,k0,k1,k2,k3,k5,mN,hC,hN,hqn,hi⟩,⟨nm',q',N',bs',sn',sub',ab',col',dd',k0',k1',k2',k3',k5',mN',hC',hN',hqn',hi'⟩⟩:=K;have hrest:lookupAlong cF n=pure y:=by rw[typeLookup_eq,PySem.F.excBase_ValueError.mroIs] at hB;exact hB
 rw[typeLookup_eq];refine ak (wpAny_mroOf_exc hC ?_);rw[lookupAlong_cons];refine ak (wpAny_classOwn_exc hC hN ?_);rw[hqn n hn];show wpAny _ _ (lookupAlong (.ref NE::cF) n) _ _ _;rw[lookupAlong_cons];refine ak (wpAny_classOwn_exc hC' hN' ?_);rw[hqn' n hn];show wpAny _ _ (lookupAlong cF n) _ _ _;rw[hrest];exact aE hq
theorem bW.sub{Q:Bool->Shared->Prop}(K:bW h C NE)(hq:Q ((bX C::.ref NE::cF).contains base) ⟨h,g,d,t,os⟩):wpAny M A (isSubtype (.ref C) base) Q E ⟨h,g,d,t,os⟩:=by
 obtain⟨⟨ini,nm,q,N,bs,sn,sub,ab,col,dd,k0,k1,k2,k3,k5,mN,hC,_⟩,_⟩:=K;exact Ao hC hq
def bW.obj(K:bW h C NE):∃o cd,h.get? C=some o/\o.cls=.type "type"/\o.data=.cls cd:=by
 obtain⟨⟨ini,nm,q,N,bs,sn,sub,ab,col,dd,k0,k1,k2,k3,k5,mN,hC,_⟩,_⟩:=K;exact⟨_,_,hC,rfl,rfl⟩
def J4:pP (.type "ValueError") "__class__"=pure (some (.builtin "object.__class__")):=by rw[vF,vC];kernel_rfl
def IC (K:bW h C NE) (hx:h.get? a=some o) (hc:o.cls=.ref C) (hq:R (.ok (.ret (.ref C))) ⟨h,g,d,t,os⟩) :
  codeAny (model prog w) A (.call (.builtin "getset_descriptor.__get__") ⟨[.builtin "object.__class__",.ref a,.ref C],[]⟩) R ⟨h,g,d,t,os⟩:=by
 have hT5:(⟨h,g,d,t,os⟩:Shared).TypeIs (.builtin "object.__class__") "getset_descriptor":=F.typeOf_object_class;have hcB:(bX C::.ref NE::cF).contains (.type (".".intercalate ("object.__class__".cutAt '.').dropLast))=true:=by
  rw[F.owner_object_class];rfl
 refine vh F.slot_gs_get.plain F.entry_gs_get (F.slot_gs_get.check _ _ _ _ _ _ _ _ hT5 (F.args_gs_get _ _ _) ?_);repeat(any_goals(first |assumption |(with_reducible refine dP hx ?_;rw[hc]) |(with_reducible refine K.sub ?_;rw[hcB]) |wp_step))
 refine⟨Code.quiet_builtin _ (by decide +kernel),codeAny_builtin F.entry_object_class ?_⟩;repeat(any_goals(first |assumption |(with_reducible refine dP hx ?_;rw[hc]) |wp_step))
def Ju{Q:Fin->Shared->Prop}(K:bW h C NE)(hx:h.get? a=some o)(hc:o.cls=.ref C)(hq:Q (.done (.ret (.ref C))) ⟨h,g,d,t,os⟩) :
  wpAny (model prog w) A (Builtin.«object.__getattribute__» ⟨[.ref a,.str "__class__" tk],[]⟩) Q E ⟨h,g,d,t,os⟩:=by
 have hT5:(⟨h,g,d,t,os⟩:Shared).TypeIs (.builtin "object.__class__") "getset_descriptor":=F.typeOf_object_class;have f5:=F.typeOf_object_class;have f6:=F.slot_gs_get.lookup;have f7:=F.slot_gs_set.lookup;have hm:("__class__":Str)∈zd5:=.tail _ (.tail _ (.head _));repeat(any_goals(first |assumption |(with_reducible refine dP hx ?_;rw[hc]) |with_reducible refine K.lookup hm J4 ?_ |wp_step))
 refine IC K hx hc ?_;repeat(any_goals(first |assumption |wp_step))
theorem E6{Q:Unit->Shared->Prop}(K:bW h C NE)(hx:h.get? a=some o)(hc:o.cls=.ref C)(hq:Q () ⟨h,g,d,t,os⟩):wpAny M A (xW "BaseException.__getattribute__" ⟨[.ref a,nameV],[]⟩) Q E ⟨h,g,d,t,os⟩:=by
 have hk:builtinKind "BaseException.__getattribute__"=some .slot:=by decide +kernel
 have hsplit:splitId "BaseException.__getattribute__"=some ("BaseException","__getattribute__"):=by decide +kernel
 have hcB:(bX C::.ref NE::cF).contains (.type "BaseException")=true:=rfl;have ha:=F.args_bexc_ga (.ref a) nameV;simp only[xW,hk,hsplit];refine ak ?_;unfold isInstance;repeat(first |(with_reducible refine dP hx ?_;rw[hc]) |(with_reducible refine K.sub ?_;rw[hcB]) |wp_step)
 exact hq
def Kb{Q:Value->Shared->Prop}(K:bW h C NE)(hx:h.get? a=some o)(hc:o.cls=.ref C)(hq:Q (.ref C) ⟨h,g,d,t,os⟩) :
  wpAny (model prog w) A (getAttrBy (.ref a) (.str "__class__" tk) fill expr) Q E ⟨h,g,d,t,os⟩:=by
 have FB:=PySem.F.attrBase_ValueError;have f3:=FB.ga.bind (.ref a);have hx0:(expr&&onTheHeap (i9 "BaseException.__getattribute__"))=false:=by cases expr<;>rfl
 have hx2:(i9 "BaseException.__getattribute__"==i9 "object.__getattribute__")=false:=by decide +kernel
 have hx1:(onTheHeap (bX C)&&i9 "BaseException.__getattribute__"==i9 "object.__getattribute__")=false:=by rw[hx2];rfl
 have hm1:("__getattribute__":Str)∈zd5:=.head _;have hm2:("__getattr__":Str)∈zd5:=.tail _ (.head _);repeat(any_goals(first |assumption |(with_reducible refine dP hx ?_;rw[hc]) |with_reducible refine K.lookup hm1 FB.ga.lookup ?_ |with_reducible refine K.lookup hm2 FB.noGetattr ?_ |wp_step))
 refine vh FB.ga.plain F.entry_bexc_ga (E6 K hx hc (Ju K hx hc ?_));repeat(any_goals(first |assumption |wp_step))
def JB(K:bW h C NE)(hx:h.get? a=some o)(hc:o.cls=.ref C)(hq:Q (some (.ref C)) ⟨h,g,d,t+1,os⟩):wpAny (model prog w) A (getAttr? (.ref a) "__class__") Q E ⟨h,g,d,t,os⟩:=by
 unfold getAttr? getAttrBy?;repeat(any_goals(first |assumption |with_reducible apply Kb K hx hc |wp_step))
end
variable {Q:Value->Shared->Prop}{y:Str}
section
open PySem PyProof.Rows
set_option maxRecDepth 100000
theorem GD{Q:Fin->Shared->Prop}(hx:h.get? a=some o)(hc:o.cls=.ref C)(hq:Q (.done (.ret (.bool true))) ⟨h,g,d,t,os⟩) :
  wpAny (model prog w) A (Builtin.«isinstance.nested» ⟨[.ref a,.ref C,.int dep tk],[]⟩) Q E ⟨h,g,d,t,os⟩:=by
 have e:(bX C==bX C)=true:=beq_self_eq_true _;repeat(any_goals(first |assumption |(with_reducible refine dP hx ?_;rw[hc]) |simp only[e,if_true] |wp_step))
def KI{Q:Fin->Shared->Prop}(K:bW h C NE)(hx:h.get? a=some o)(hc:o.cls=.ref C)(hq:Q (.done (.ret (.bool true))) ⟨h,g,d,t,os⟩) :
  wpAny (model prog w) A (Builtin.«isinstance.nested» ⟨[.ref a,.type "ValueError",.int dep tk],[]⟩) Q E ⟨h,g,d,t,os⟩:=by
 have hty:typeOf (.type "ValueError")=pure (.type "type"):=by rfl
 have hcB:(bX C::.ref NE::cF).contains (.type "ValueError")=true:=rfl;repeat(any_goals(first |assumption |(with_reducible refine dP hx ?_;rw[hc]) |(with_reducible refine K.sub ?_;rw[hcB]) |wp_step))
theorem Ho{Q:Fin->Shared->Prop}(K:bW h C NE)(KD:bW h D NE)(hne:C≠D)(hnn:NE≠D)(hx:h.get? a=some o)(hc:o.cls=.ref C)(hq:Q (.done (.ret (.bool false))) ⟨h,g,d,t+1,os⟩) :
  wpAny (model prog w) A (Builtin.«isinstance.nested» ⟨[.ref a,.ref D,.int dep tk],[]⟩) Q E ⟨h,g,d,t,os⟩:=by
 obtain⟨oD,cdD,hD,hDc,hDd⟩:=KD.obj;obtain⟨oC,cdC,hC,hCc,hCd⟩:=K.obj;have e:(bX C==bX D)=false:=beq_eq_false_iff_ne.mpr fun q=>hne (tl q);have e2:(bX NE==bX D)=false:=beq_eq_false_iff_ne.mpr fun q=>hnn (tl q);have hcB:(bX C::.ref NE::cF).contains (.ref D)=false:=by
  rw[List.contains_cons,List.contains_cons,show(bX D==bX C)=false from beq_eq_false_iff_ne.mpr fun q=>hne (tl q).symm,show(bX D==bX NE)=false from beq_eq_false_iff_ne.mpr fun q=>hnn (tl q).symm];rfl
 repeat(any_goals(first |assumption |(with_reducible refine dP hx ?_;rw[hc]) |(with_reducible refine dP hD ?_;rw[hDc]) |(with_reducible refine dP hD ?_;rw[hDd]) |(with_reducible refine dP hC ?_;rw[hCd]) |(with_reducible refine K.sub ?_;rw[hcB]) |with_reducible apply JB K hx hc |simp only[e,gO,if_false] |wp_step))
end
variable {d:Nat}
section
open PySem PyProof.Rows
set_option maxRecDepth 100000
inductive cH(c:Cx):Prop
 |mk (NE:Addr)(hn:c.g (ar "NetError")=some (.ref NE))(net:aR c.h0 NE cF none)(kid:∀cn∈kids,∃C ini,c.g cn=some (.ref C)/\C≠NE/\aR c.h0 C (.ref NE::cF) ini/\(cn≠ar "BadNet"->ini=none))
   (inj:∀cn∈kids,∀dn∈kids,c.g cn=c.g dn->cn=dn) (ve:c.g (ar "ValueError")=none/\c.b (ar "ValueError")=some (.type "ValueError")):cH c
def nv(hx:s.heap.get? a=some o)(hc:o.cls=.ref C)(hq:Q (.bool true) s):wpAny (model prog w) A (call (.builtin "isinstance") [.ref a,.ref C]) Q E s:=by
 obtain⟨h,g,d,t,os⟩:=s;exact call_isinstance_of (GD hx hc hq) (by intro e;injection e)
def uo(K:bW s.heap C NE)(hx:s.heap.get? a=some o)(hc:o.cls=.ref C)(hq:Q (.bool true) s):wpAny (model prog w) A (call (.builtin "isinstance") [.ref a,.type "ValueError"]) Q E s:=by
 obtain⟨h,g,d,t,os⟩:=s;exact call_isinstance_of (KI K hx hc hq) (by intro e;injection e)
def pD(K:bW s.heap C NE)(KD:bW s.heap D NE)(hne:C≠D)(hnn:NE≠D)(hx:s.heap.get? a=some o)(hc:o.cls=.ref C)(hq:Q (.bool false) { s with toks:=s.toks+1 }):wpAny (model prog w) A (call (.builtin "isinstance") [.ref a,.ref D]) Q E s:=by
 obtain⟨h,g,d,t,os⟩:=s;exact call_isinstance_of (Ho K KD hne hnn hx hc hq) (by intro e;injection e)
def qm{Q:Bool->Shared->Prop}(K:bW s.heap C NE)(hx:s.heap.get? a=some o)(hc:o.cls=.ref C)(hq:Q true s):wpAny M A (excMatches (.ref a) (.ref NE)) Q E s:=by
 obtain⟨h,g,d,t,os⟩:=s;have hcN:(bX C::.ref NE::cF).contains (.ref NE)=true:=by rw[List.contains_cons,List.contains_cons,beq_self_eq_true,Bool.true_or,Bool.or_true]
 have f:=tc_notTuple;obtain⟨nm',q',N',bs',sn',sub',ab',col',dd',k0',k1',k2',k3',k5',mN',hC',hN',hqn',hi'⟩:=K.net;have hcB:(bX NE::cF).contains (.type "BaseException")=true:=rfl;unfold excMatches;repeat(first |(with_reducible refine dP hx ?_;rw[hc]) |with_reducible refine dP hC' ?_ |(with_reducible refine Ao hC' ?_;rw[hcB]) |(with_reducible refine K.sub ?_;rw[hcN]) |wp_step)
 exact hq
inductive tV(c:Cx)(p:Str)(cv:Value):Prop
 |kid (h1:p∈kids)(h2:c.g p=some cv):tV c p cv
 |ve (h1:p=ar "ValueError")(h2:cv=.type "ValueError"):tV c p cv
theorem Km{e:Str}(h:q7 v=some e):∃y,v=.exc e y:=by
 cases v with
 |exc cn y=>obtain rfl:=ai h;exact⟨y,rfl⟩
 |_=>injection h
theorem Et(X:cH c)(S:aq c φ H s){x:Value}{p:Str}{b:Bool}(R:ax c φ s.heap v x)(hcv:tV c p cv)(e:bZ v (.own p)=some b):fV c A φ s (call (.builtin "isinstance") [x,cv]) (.bool b) H:=by
 intro E;obtain⟨NE,hn,net,kid,inj,_⟩:=X;revert e;refine xB fun cn h1 h2=>?_;obtain⟨y,rfl⟩:=Km h1;obtain⟨⟨hm,_⟩,rfl⟩:=lj h2;obtain⟨a,o,vs,rfl,ha,h0,ho,⟨C,hC⟩,hg,hd,_⟩:=R;obtain⟨C',ini,g',hne,K',_⟩:=kid cn hm;rw[hg,hC] at g';(injection g' with Ja;injection Ja with w4;subst w4);have K:bW s.heap C NE:=⟨⟨ini,K'.keeps S.stays⟩,net.keeps S.stays⟩;cases hcv with
 |ve h3 h4=>
  subst h3 h4;rw[decide_eq_true (.inr rfl)];exact uo K ho hC (aG.same' S rB)
 |kid h3 h4=>
  have hnv:p≠ar "ValueError":=fun q=>by rw[q] at h3;revert h3;decide
  obtain⟨D,ini',g',hne',KD,_⟩:=kid p h3;rw[h4] at g';(injection g' with Ja;subst Ja);by_cases hp:cn=p
  ·subst hp;rw[hg,hC] at h4;(injection h4 with Ja;injection Ja with w4;subst w4);rw[decide_eq_true (.inl rfl)];exact nv ho hC (aG.same' S rB)
  ·rw[decide_eq_false (fun q=>q.elim hp hnv)];exact pD K ⟨⟨ini',KD.keeps S.stays⟩,net.keeps S.stays⟩ (fun q=>hp (inj cn hm p h3 (by rw[hg,hC,h4,q]))) (c5 hne') ho hC (aG.same S rB)
def J7{t:Str}(O:c.Ok)(XO:cH c)(ht:t∈kids\/t=ar "ValueError")(hk:wz.kindOf (ar "isinstance")=some .globalImplicit)(hk':wz.kindOf t=some .globalImplicit) (hg:c.g (ar "isinstance")=none) (hb:c.b (ar "isinstance")=some (.builtin "isinstance")) (hx:(t==("__debug__":Str))=false) (hn:dM e=true) (h:aT c wz wu e x):aT c wz wu (.Call (.Name (ar "isinstance") p) [e,.Name t p'] [] pos) (.isi x (.own t)):=fun A q d k loc φ H s Q E hA hF hS hw=>by
 show wpAny _ _ (eval (.Name (ar "isinstance") p) wz >>=fun fv=>callWith pos fv [] (backTo pos (fe [e,.Name t p'] wz)) []) _ _ _;refine ak (Calls.Name_function_global hF.fn hk (Calls.loadGlobal_builtin (by rw[hF.gl];exact O.gl.keeps hS.stays) hg (by rw[hF.bl];exact O.bl.keeps hS.stays) hb ?_));rw[rf hn];refine vw (by intro a h;injection h) rfl (Calls.evalArgs_plain (Calls.spliced_cons (wm (h A q d k loc φ H s _ E hA hF hS hw) ?_)));rintro r s₁ ⟨φ₁,H₁,v₁,e₁,S₁,R₁,w₁⟩;revert w₁;refine xI fun b hbb w₂=>?_;skip;rcases ht with ht |ht
 ·obtain⟨NE,hne,net,kid,inj,ve⟩:=id XO;obtain⟨C,ini,g',_⟩:=kid t ht;refine Calls.spliced_cons (Calls.Name_function_global hF.fn hk' (Calls.loadGlobal_global (by rw[hF.gl];exact O.gl.keeps S₁.stays) g' (Calls.spliced_nil ?_)) hx);exact(Et XO S₁ R₁ (.kid ht g') hbb).use e₁ w₂
 ·obtain⟨NE,hne,net,kid,inj,ve⟩:=id XO;subst ht;refine Calls.spliced_cons (Calls.Name_function_global hF.fn hk' (Calls.loadGlobal_builtin (by rw[hF.gl];exact O.gl.keeps S₁.stays) ve.1 (by rw[hF.bl];exact O.bl.keeps S₁.stays) ve.2 (Calls.spliced_nil ?_)) hx);exact(Et XO S₁ R₁ (.ve rfl rfl) hbb).use e₁ w₂
def lC{e:Addr}(e₁:aw [] φ₀ s₀ φ s)(S:aq c φ H s)(hg:c.g cn=some (.ref C))(hb:cn≠ar "BadNet")(hm:Heap.MadeExcOf s.heap h' e (.ref C) args):cx c φ s₀ h' (.exc cn .none) (.ref e):=by
 obtain⟨t,ht,_,_⟩:=hm.there;have hφ:e∉φ:=fun q=>by
  obtain⟨o,ho,_⟩:=S.isList q;exact cR (hm.new.symm.trans ho)
 have h0:c.h0.get? e=none:=by
  refine xC (c.h0.get? e) (fun q=>?_) fun o q=>?_
  ·rfl
  ·have:=S.stays e o q;exact cR (hm.new.symm.trans this)
 exact⟨⟨e,_,_,rfl,hφ,h0,ht,⟨C,rfl⟩,hg,rfl,fun q=>absurd q hb⟩,⟨_,_,rfl⟩,e,_,_,rfl,e₁.fresh S hm.new,ht,rfl,.inl rfl⟩
def Jk{xs:List Ex}(O:c.Ok)(XO:cH c)(hX:aP aO wz X)(hm:cn∈kids)(hb:cn≠ar "BadNet")(hk:wz.kindOf cn=some .globalImplicit)(hdb:(cn==("__debug__":Str))=false)(h:gG c wz wu es xs)(hne:es≠[])(hz:xs.length<=9) :
  eZ c wz wu X (.Raise (some (.Call (.Name cn np) es [] cpos)) none pos) (.rais cn xs):=fun A q d k loc φ H s Q E hA hh hF hS hw=>by
 obtain⟨rfl,hw⟩:=hw;obtain⟨NE,hn,net,kid,inj,_⟩:=XO;obtain⟨C,ini,hg,hCN,K,hini⟩:=kid cn hm;obtain rfl:=hini hb;obtain⟨nm,q,N,bs,sn,sub,ab,col,dd,k0,k1,k2,k3,k5,mN,hC,hN,hq,hi⟩:=K;obtain⟨nm',q',N',bs',sn',sub',ab',col',dd',k0',k1',k2',k3',k5',mN',hC',hN',hq',hi'⟩:=net;refine wpAny_Raise_call_subT (nm:=nm) (q:=q) (C:=C) (N:=N) (bs:=bs) (hdct:=true) (sn:=sn) (sub:=sub) (ab:=ab) (col:=col) (dd:=dd) (k0:=k0) (k1:=k1) (k2:=k2) (k3:=k3) (k5:=k5) (bm:=.ref NE::cF) (mN:=mN) PySem.F.excBase_ValueError rfl (hA.hd rfl) (wa h.1.1) hi (Calls.Name_function_global hF.fn hk (Calls.loadGlobal_global (by rw[hF.gl];exact O.gl.keeps hS.stays) hg ⟨rfl,?_⟩) hdb);refine a9 (sS h hne hA hF hS hw) ?_ fun J J h=>aB.no h;rintro _ s₁ w0;refine w0 _ fun rs wk φ₁ H₁ vs e₁ S₁ R₁ eN2=>?_;clear w0;subst wk;obtain⟨l₁,w₁⟩:=eN2;refine⟨rfl,?_,S₁.stays _ _ hC,hN.keeps S₁.stays,.own (S₁.stays _ _ hC') (hN'.keeps S₁.stays) hi' .base,fun h' e hme=>?_⟩
 ·show rs.length<=qag;rw[ah.length R₁,l₁];exact aD hz (by decide)
 ·have e₂:aw [] φ₁ s₁ φ₁ { s₁ with heap:=h' }:=aw.of_keeps hme.keeps rfl;have w₂:E (.exc cn .none) loc H₁:=by
   have:bQ cn vs=.none:=if_neg hb;rw[this] at w₁;exact w₁
  exact⟨φ₁,H₁,loc,_,hF.weak hX (e₁.trans e₂),S₁.keeps (s':={ s₁ with heap:=h' }) hme.keeps rfl,hF.mono (e₁.trans e₂),lC e₁ S₁ hg hb hme,w₂⟩
end
variable {args:List Expr}{e:Value}{q x:Str}
section
open PySem PyProof.Rows
set_option maxRecDepth 100000
theorem Ka (F : au c wz wu k loc φ s.heap) (S : aq c φ H s) (P : SlotPut wu wu x i) (hXL : wz.locals ∈ X) (hk : wz.kindOf x = some .local) (hi : loc.getD i none = some v) (hxi : wu.lookup x = some i) :
  wpAny (model c.prog c.w) A (deleteName wz x) (fun J s' => bI c wz wu k (loc.set i none) φ H X s s') E s := by
 obtain ⟨m, ⟨hn, oL, hoL, hcL⟩, hsl, hjo⟩ := F.ns;have hx := hsl x i hxi;rw [hi] at hx;unfold iJ at hx;rw [hk] at hx;have hsome : (m x).isSome = true := by
  cases hx with
  | yes _ r h1 _ => rw [h1]; rfl
 have hp : (wz.scope.kind == .class || (wz.scope.kind == .module && wz.locals != wz.globals)) = false := by rw [F.fn]; rfl
 unfold deleteName;simp only [hk, hp];rw [if_neg (by decide)];refine ak (mH (T := oL.cls) ⟨hn, oL, hoL, rfl⟩ fun h' m' hn' hsm hs' hdk => ?_);rw [hsome];simp only [Bool.not_true, gO, if_false];refine aE ?_;obtain ⟨hn', o', ho', hcls'⟩ := hn';have hnf : ∀ o vs, s.heap.get? wz.locals = some o -> o.data ≠ .fields vs := fun o vs ho hd => by
  obtain ⟨o1, es1, n1, h1, h2, _⟩ := hn;obtain rfl := ai (ho.symm.trans h1);rw [h2] at hd; injection hd
 have hdd : ∀ o es n, s.heap.get? wz.locals = some o -> o.data = .dict es n -> ∃ o' es' n', h'.get? wz.locals = some o' /\ o'.data = .dict es' n' /\ dK o o' := fun o es n ho J => by
  obtain ⟨o1, es1, n1, h1, h2, _⟩ := hn';obtain rfl := ai (ho'.symm.trans h1);obtain rfl := ai (hoL.symm.trans ho);exact ⟨o', es1, n1, ho', h2, hdk _ _ hoL ho'⟩
 have hcL' : ∀ y ca, wz.cells.lookup y = some ca -> ca ≠ wz.locals := fun y ca hy q => by
  obtain ⟨_, _, o1, h1, h2⟩ := F.cells y ca hy;rw [q] at h1;obtain rfl := ai (hoL.symm.trans h1);rcases hcL with h | h
  ·rw [h2] at h; exact absurd h.1 (by decide)
  ·rw [h2] at h; exact absurd h.1 (by decide)
 have cs : ∀ z ca, wz.cells.lookup z = some ca -> ca ∉ [wz.locals] /\ bf c φ s.heap ca := fun z ca hz => ⟨fun q => hcL' z ca hz (aN.mp q), F.cells z ca hz⟩;refine CF (ov := none) (m := m') (t := s.toks) F S P hs' hdd hnf ⟨o', ho'⟩ (fun o ho => wY F ho) F.L0 F.Lφ hXL ⟨hn', o', ho', ?_⟩ ?_ (fun y j hy hj kp ow => ?_) (fun kk z hz kp ow => ?_) fun y ca hy => ?_
 ·rcases hcL with h | h
  ·exact .inl ⟨hcls'.trans h.1, h.2⟩
  ·refine .inr ⟨hcls'.trans h.1, ?_, h.2.2⟩;rcases P.na with hat | h2
   ·rw [hsm _ (c5 hat)]; exact h.2.1
   ·rw [h.2.2] at h2; injection h2
 ·unfold iJ;rw [hk];exact .no
 ·have hsy := (hsl y j hj).mono (s := s) (s' := { s with heap := h' }) kp ow cs;exact hW.imp hsy (fun J h => by rw [hsm y hy]; exact h) id
 ·refine (hjo kk z hz) _ fun h3 fv h4 h5 => ?_;exact (fun J kJ => kJ h3 fv (by rw [hsm _ (c5 P.nj)]; exact h4) (h5.mono (s := s) (s' := { s with heap := h' }) kp ow fun ca o ho J hlt q => absurd (aN.mp q) (ck hlt)))
 ·obtain ⟨h1, h2, o1, h3, h4, h5⟩ := F.cells y ca hy;exact ⟨h1, h2, o1, (hs'.2 ca (hcL' y ca hy)).trans h3, h4, h5⟩
def Hs(F:au c wz wu k loc φ s.heap)(S:aq c φ H s)(hX:aP aO wz X)(P:a8 aO wz wu wu x i)(hk:wz.kindOf x=some .local)(hxi:wu.lookup x=some i) :
  wpAny (model c.prog c.w) A (do bindName wz x .none;unbindBehindTheSuite wz x pos) (fun J s'=>bI c wz wu k (loc.set i none) φ H X s s') E s:=by
 refine ak (wpAny_bindName (wm (qY F S P hX (rN (h:=s.heap))) ?_));rintro _ s₁ ⟨F₁,S₁,e₁,k₁⟩;unfold unbindBehindTheSuite;refine wpAny_onRaise ?_;unfold unbindName;refine ak (qX (ak (wm (Ka (X:=X) F₁ S₁ P.toSlotPut hX.loc hk (v:=.none) ?_ hxi) ?_)))
 ·exact Gc (cS P.lt F.len)
 ·rintro _ s₂ ⟨F₂,S₂,e₂,k₂⟩;rw[List.set_set] at F₂;exact qX ⟨F₂,S₂,e₁.trans e₂,k₁.trans k₂⟩
def cx.obj{x:V}(R:cx c φ s₀ h x e)(hk:lJ x=true):∃cn y a o C,x=.exc cn y/\cn∈kids/\e=.ref a/\h.get? a=some o/\o.cls=.ref C/\c.g cn=some (.ref C):=by
 obtain⟨R,⟨cn,y,rfl⟩,_⟩:=R;obtain⟨a,o,vs,rfl,_,_,ho,⟨C,hC⟩,hg,_,_⟩:=R;exact⟨cn,y,a,o,C,rfl,of_decide_eq_true hk,rfl,ho,hC,by rw[hg,hC]⟩
theorem Hc(O:c.Ok)(XO:cH c)(hX:aP aO wz X)(hh:gD c wz wu X (h₀::hs) xh)(hkN:wz.kindOf (ar "NetError")=some .globalImplicit)(P:a8 aO wz wu wu n i)(hk:wz.kindOf n=some .local)(hxi:wu.lookup n=some i){Q:SPost}{E:SX}{x:V}(hA:bY c A true d φ s.heap)(hH:wQ A wz)(hkx:lJ x=true)(w₁:az (Calls c) false d k xh (fun f l'' H=>Q f (l''.set i none) H) (fun J J J=>False) (l₁.set i (some x)) H₁)(R₃:cx c φ₁ s s₃.heap x e)(ht₃:o8 s₃.heap e)(e₃:aw X φ s φ₁ s₃)(S₃:aq c φ₁ H₁ s₃)(F₃:au c wz wu k l₁ φ₁ s₃.heap) :
  wpAny (model c.prog c.w) A (handleBy e wz [.ExceptHandler (some (.Name (ar "NetError") np)) (some n) (h₀::hs) hp]) (gf c wz wu k φ s X Q) (bD c wz wu k φ s X E) s₃:=by
 obtain⟨outer,hfr⟩:=id hH;obtain⟨cn,y,a,o,C,rfl,hm,rfl,ho,hC,hg⟩:=R₃.obj hkx;obtain⟨NE,hNE,net,kid,inj,_⟩:=XO;obtain⟨C',ini,g',_,K',_⟩:=kid cn hm;rw[hg] at g';cases g';have K:bW s₃.heap C NE:=⟨⟨ini,K'.keeps S₃.stays⟩,net.keeps S₃.stays⟩;refine wpAny_handleBy_cons (codeAny_handlers_test (Calls.Name_function_global F₃.fn hkN (Calls.loadGlobal_global (by rw[F₃.gl];exact O.gl.keeps S₃.stays) hNE ?_))) (by intro q;cases q);refine qm K ho hC ?_;rw[if_pos rfl];refine codeAny_handlers_suite_as (wm (Ah R₃ ht₃) ?_);rintro _ s₄ ⟨xs,hx,hn,n₄,R₄,_⟩;have e₄:=e₃.noted n₄ hn;have S₄:=S₃.noted n₄ hx;have F₄:=F₃.noted n₄ hx;obtain⟨R₄,_⟩:=R₄;refine wm (qY F₄ S₄ P hX R₄) ?_;rintro _ s₅ ⟨F₅,S₅,e₅,_⟩;have e₀₅:=e₄.trans e₅;have hA₅:=hA.monoX e₀₅;have hA':bY c (A.mark (some (.ref a))) false d φ₁ s₅.heap:=⟨⟨hA₅.dep,hA₅.un,(fun h=>nomatch h),hA₅.fr⟩,hA₅.ne⟩;refine a9 (hh (A.mark (some (.ref a))) false d k _ φ₁ H₁ s₅ _ _ hA' ⟨outer,hfr⟩ F₅ S₅ w₁) ?_ fun J J h=>bD.no h;rintro f s₆ ⟨φ₆,H₆,l₆,e₆,S₆,F₆,w₆⟩;refine wm (Hs F₆ S₆ hX P hk hxi) ?_;rintro _ s₇ ⟨F₇,S₇,e₇,_⟩;refine⟨φ₆,H₆,_,(e₀₅.trans e₆).trans e₇,S₇,F₇,?_⟩;cases f with
 |next=>exact w₆
 |ret r=>refine w₆ _ fun v Rv w=>?_;clear w₆;exact(fun J kJ=>kJ v (ax.mono e₇.toKp (F₆.ownX hX) Rv) w)
 |_=>exact w₆.elim
theorem Ip(O:c.Ok)(XO:cH c)(hX:aP aO wz X)(hb:gD c wz wu X b xb)(hh:gD c wz wu X (h₀::hs) xh) (hkN:wz.kindOf (ar "NetError")=some .globalImplicit) (P:a8 aO wz wu wu n i) (hk:wz.kindOf n=some .local) (hxi:wu.lookup n=some i) :
  eZ c wz wu X (.Try b [.ExceptHandler (some (.Name (ar "NetError") np)) (some n) (h₀::hs) hp] [] [] pos) (.tri xb i xh):=fun A q d k loc φ H s Q E hA hH hF hS hw=>by
 obtain⟨rfl,hw⟩:=hw;refine wpAny_Try_except (a9 (hb A true d k loc φ H s _ _ hA hH hF hS hw) ?_ ?_)
 ·rintro f s₁ ⟨φ₁,H₁,l₁,e₁,S₁,F₁,w₁⟩;cases f with
  |next=>exact wpAny_execs_nil ⟨φ₁,H₁,l₁,e₁,S₁,F₁,w₁⟩
  |ret r=>exact⟨φ₁,H₁,l₁,e₁,S₁,F₁,w₁⟩
  |_=>exact w₁.elim
 ·rintro e s₁ ⟨φ₁,H₁,l₁,x,e₁,S₁,F₁,R₁,hkx,w₁⟩;obtain⟨outer,hfr⟩:=id hH;have hE:∀e∈wz::outer,bB c φ₁ s₁.heap e:=by
   obtain⟨l',h1,h2⟩:=(hA.monoX e₁).fr;replace h1:=ai (hfr.symm.trans h1);subst h1;exact h2
  refine wm (BX hfr hE S₁ e₁ R₁) ?_;rintro _ s₂ ⟨xs,hx,hn,n₂,R₂,ht⟩;have e₂:=e₁.noted n₂ hn;have S₂:=S₁.noted n₂ hx;have F₂:=F₁.noted n₂ hx;clear hx hn n₂ S₁ F₁ R₁ e₁ hE;refine wm (Ah R₂ ht) ?_;rintro _ s₃ ⟨xs,hx,hn,n₃,R₃,ht₃⟩;have e₃:=e₂.noted n₃ hn;have S₃:=S₂.noted n₃ hx;have F₃:=F₂.noted n₃ hx;clear hx hn n₃ S₂ F₂ R₂ e₂ ht;exact Hc O XO hX hh hkN P hk hxi hA ⟨outer,hfr⟩ hkx w₁ R₃ ht₃ e₃ S₃ F₃
end
variable {d:Drawn}{e:Addr}{i:Expr}{k:Nat}{v:Value}{x:Sem Value}
section
open PySem PyProof.Rows
set_option maxRecDepth 100000
section
variable {nm:Str}{sub:List Value}
theorem Iv(F:ExcBaseFacts B newId initId bmB)(T:OwnTail h bmB bm){Q:Fin->Shared->Prop} (hC:h.get? C=some (qZ nm q C N bs bm hdct sn sub ab col dd k0 k1 k2 k3 k5 newId)) (hn:h.Ns N mN) (hi:mN "__init__"=some (.ref fI)) (hfI:h.get? fI=some oI) (hfc:oI.cls=.type "function") (hq:∀h' e,Heap.MadeExcOf h h' e (.ref C) rest->wpAny (model prog w) A (call (.ref fI) (.ref e::rest)) (fun r s'=>r=.none/\Q (.done (.ret (.ref e))) s') E ⟨h',g,d,t,os⟩) (hrest:rest.length<=qag) :
  wpAny (model prog w) A (Builtin.«type.__call__» ⟨.ref C::rest,[]⟩) Q E ⟨h,g,d,t,os⟩:=by
 repeat(first |with_reducible refine dP hC ?_ |with_reducible refine wpAny_madeBy_exc hC ?_ |wp_step)
 refine codeAny_call_builtin_code (Code.quiet_builtin _ F.quiet) (wpAny_check_new_subT F T hC ?_);refine codeAny_exc_new_subT F T hC ?_ hrest;show wpAny _ _ _ _ _ _;have hC₁:=cz { cls:=.ref C,data:=.fields #[.ref h.objs.size,.none,.none,.none,.bool false,.none] }
  (cz { cls:=.type "tuple",data:=.seq rest.toArray } hC)
 have hfI₁:=cz { cls:=.ref C,data:=.fields #[.ref h.objs.size,.none,.none,.none,.bool false,.none] }
  (cz { cls:=.type "tuple",data:=.seq rest.toArray } hfI)
 have keep:∀b o,h.get? b=some o->((h.push { cls:=.type "tuple",data:=.seq rest.toArray }).push { cls:=.ref C,data:=.fields #[.ref h.objs.size,.none,.none,.none,.bool false,.none] }).get? b=some o:=
  fun b o e=>cz _ (cz _ e)
 have hn₁:=hn.keeps keep;have hget:((h.push { cls:=.type "tuple",data:=.seq rest.toArray }).push
   { cls:=.ref C,data:=.fields #[.ref h.objs.size,.none,.none,.none,.bool false,.none] }).get? (h.objs.size+1)=some
   { cls:=.ref C,data:=.fields #[.ref h.objs.size,.none,.none,.none,.bool false,.none] }:=by heap_get
 have hcC:(bX C::bm).contains (.ref C)=true:=by simp
 have T₁:=T.keeps keep
 unfold isInstance
 repeat(first |with_reducible refine dP hget ?_ |(with_reducible refine Ao hC₁ ?_;rw[hcC]) |wp_step)
 show wpAny _ _ (pP (.ref C) _) _ _ _
 refine wpAny_typeLookup_tail hC₁ hn₁ T₁ F.mroIs F.init.lookup ?_
 rw[hi]
 refine dz (ak ?_)
 unfold bindSpecial
 refine ak (wpAny_typeOf (T:="function") ⟨_,hfI₁,hfc⟩ ?_)
 rw[if_pos (by decide)]
 refine aE (ak (a9 (hq _ (h.objs.size+1) ⟨keep,fJ (Nat.le_succ _),h.objs.size,hget,fJ (aJ _),?_⟩) (fun r s' hr=>?_) fun J J x=>x))
 ·exact cz _ (Heap.get?_push_at rfl rfl)
 ·obtain⟨rfl,hQ⟩:=hr
  wp_walk
  exact hQ
def K7(F:ExcBaseFacts B newId initId bmB)(T:OwnTail h bmB bm)
  (hC:h.get? C=some (qZ nm q C N bs bm hdct sn sub ab col dd k0 k1 k2 k3 k5 newId)) (hn:h.Ns N mN) (hi:mN "__init__"=some (.ref fI)) (hfI:h.get? fI=some oI) (hfc:oI.cls=.type "function")
  (hq:∀h' e,Heap.MadeExcOf h h' e (.ref C) rest->wpAny (model prog w) (A.under (.builtin "type.__call__" ⟨.ref C::rest,[]⟩)) (call (.ref fI) (.ref e::rest)) (fun r s'=>r=.none/\Q (.ref e) s') E ⟨h',g,d,t,os⟩) (hrest:rest.length<=qag) :
  wpAny (model prog w) A (call (.ref C) rest) Q E ⟨h,g,d,t,os⟩:=by
 have f1:=tc_lookup
 have f2:=tc_bind (.ref C)
 have hT:(⟨h,g,d,t,os⟩:Shared).TypeIs (.ref C) "type":=⟨_,hC,rfl⟩
 refine wpAny_call (codeAny_of_tree ?_)
 show wpAny _ _ (callAny (.ref C) _) _ _ _
 repeat(any_goals(first |assumption |with_reducible refine dP hC ?_ |wp_step))
 refine⟨rfl,?_⟩
 refine codeAny_call_builtin_at (Code.quiet_builtin _ (by decide +kernel)) entry_typeCall (wpAny_check_type_call_sub hC (Iv F T hC hn hi hfI hfc (fun h' e hm=>?_) hrest))
 exact hq h' e hm
def Hh{Q:Flow->Shared->Prop}(hbase:bm.contains (.type "BaseException")=true)(hh:A.handled=none) (h:wpAny M A x (fun v s₁=>∃e oe,v=.ref e/\s₁.heap.get? C=some (qZ nm q C N bs bm hdct sn sub ab col dd k0 k1 k2 k3 k5 newId)/\s₁.heap.get? e=some oe/\oe.cls=.ref C/\(∃t,oe.data=.fields #[.ref t,.none,.none,.none,.bool false,.none])/\E (.ref e) s₁) E s) :
  wpAny M A (raiseStmt wz (some x) none) Q E s:=by
 have hcB:(bX C::bm).contains (.type "BaseException")=true:=by rw[List.contains_cons,hbase,Bool.or_true]
 unfold raiseStmt;refine ak (a9 h (fun v s₁ h₁=>?_) fun J J x=>x);obtain⟨e,⟨oc,od,odt,osl⟩,rfl,hC,he,hc,⟨vs,hd⟩,hE⟩:=h₁;obtain rfl:oc=_:=hc;obtain rfl:odt=_:=hd;obtain⟨hp,g,d,tk,os⟩:=s₁;repeat(first |with_reducible refine dP he ?_ |with_reducible refine dP hC ?_ |(with_reducible refine Ao hC ?_;rw[hcB]) |wp_step)
 exact wpAny_raiseNew_none hh hE
end
end
variable {x:Str}
section
open PySem PySem.W PySem.Calls PyProof.Rows Builtin Builtin.ObjectAttr Builtin.Getset_descriptor
set_option maxRecDepth 100000
def se:findIn [] (.type "type") "__init__"=some (some (.builtin "type.__init__")):=by kernel_rfl
def yh:specialIn [] (.builtin "type.__init__") "__get__"=some (some (.builtin "wrapper_descriptor.__get__")):=by kernel_rfl
def yO:specialIn [] (.builtin "type.__init__") "__set__"=some none:=by kernel_rfl
def wH:specialIn [] (.builtin "type.__init__") "__delete__"=some none:=by kernel_rfl
def BY:typeIn [] (.builtin "ValueError.__init__")=some (.type "wrapper_descriptor"):=by kernel_rfl
def zi:heldUnderItsOwnName "__init__" (.builtin "ValueError.__init__")=false:=by decide +kernel
def tX:handedIn (.builtin "ValueError.__init__")=true:=by decide +kernel
def yA:findIn [] (.type "type") "__getattribute__"=some (some (.builtin "type.__getattribute__")):=by kernel_rfl
def yf:subIn [] (.type "type") (.type "type")=some true:=by kernel_rfl
def o5:Frag.In [] h:=fun J J e=>nomatch e
def tB {Q:Fin->Shared->Prop} (ho:Looks (model prog w) s.heap (xN (.ref NE)) none) (ht:Looks (model prog w) s.heap (typeOf (.ref NE)) (.type "type")) (hl:Looks (model prog w) s.heap (pP (.ref NE) "__init__") (some (.builtin "ValueError.__init__"))) (h:Q (.done (.ret (.builtin "ValueError.__init__"))) s):wpAny (model prog w) A (Builtin.«type.__getattribute__» ⟨[.ref NE,.str "__init__" tk],[]⟩) Q E s:=by
 obtain⟨hh,g,d,t,os⟩:=s;dsimp only at ho ht hl;unfold Builtin.«type.__getattribute__»;refine ak (aE (ak (ho.at (ak (ht.at (ak ((looks_findIn o5 se).at ?_)))))));refine ak ((looks_specialIn o5 yh).at ?_);refine ak ((looks_specialIn o5 yO).at (ak ((looks_specialIn o5 wH).at (ak (aE ?_)))));refine ak (hl.at ?_);dsimp only;rw[if_neg (by rw[zi];decide)];refine ak ((looks_typeIn o5 BY).at ?_);rw[if_pos (by decide +kernel)];exact aE h
def oY(ho:Looks (model prog w) s.heap (xN (.ref NE)) none)(ht:Looks (model prog w) s.heap (typeOf (.ref NE)) (.type "type")) (hl:Looks (model prog w) s.heap (pP (.ref NE) "__init__") (some (.builtin "ValueError.__init__"))) (h:Q (.builtin "ValueError.__init__") { s with toks:=s.toks+1 }):wpAny (model prog w) A (getAttr (.ref NE) "__init__" expr) Q E s:=by
 refine ak (wpAny_mkText (dz (ak (ht _ _ _ _ (fun J J e=>e) (ak (looks_findIn o5 yA _ _ _ _ (fun J J e=>e) ?_))))));dsimp only;rw[if_neg (by decide +kernel)];refine ak (looks_hook (K:=[]) o5 (mc:=.type "type") (r:=none) (by kernel_rfl) _ _ _ _ (fun J J e=>e) (ak (wpAny_attempt (dz ?_))));unfold callGetattribute;rw[show(expr&&onTheHeap (i9 "type.__getattribute__"))=false from Bool.and_false _,if_neg (by decide)];unfold boundAndCalled;rw[KF.slot_tga.bind];refine ak (aE ?_);show wpAny _ _ (call (.builtin "type.__getattribute__") [.ref NE,.str "__init__" s.toks]) _ _ _;refine wpAny_call ?_;refine vh KF.slot_tga.plain KF.entry_tga ?_;refine @check_slot (model prog w) _ _ { s with toks:=s.toks+1 } "type.__getattribute__" "type" "__getattribute__" (.ref NE) [.str "__init__" s.toks] [] _ (by decide +kernel) (by decide +kernel) (ht.andThen (looks_subIn o5 yf)) (KF.args_tga (.ref NE) (.str "__init__" s.toks)) ?_;refine tB (s:={ s with toks:=s.toks+1 }) ho ht hl ?_;show wpAny _ _ (handedOut _) _ _ _;rw[handedOut_of tX];exact aE h
end
section
open PySem PySem.W PySem.Calls PyProof.Rows Builtin Builtin.ObjectAttr Builtin.Getset_descriptor
set_option maxRecDepth 100000
section
variable {nm:Str}{sub:List Value}
def K6(F:ExcBaseFacts B newId initId bmB)(T:OwnTail h bmB bm) (hC:h.get? C=some (qZ nm q C N bs bm hdct sn sub ab col dd k0 k1 k2 k3 k5 newId)) (he:h.get? e=some { cls:=.ref C,data:=.fields #[.ref t0,.none,.none,.none,.bool false,.none] }) (hq:∀h',(∀b o,b≠e->h.get? b=some o->h'.get? b=some o)->h'.get? e=some { cls:=.ref C,data:=.fields #[.ref h.objs.size,.none,.none,.none,.bool false,.none] }->h'.objs.size=h.objs.size+1->Q .none ⟨h',g,d,t,os⟩) (hrest:rest.length<=qag) :
  wpAny (model prog w) A (call (.builtin initId) (.ref e::rest)) Q E ⟨h,g,d,t,os⟩:=by
 refine wpAny_call (vh F.init.plain F.initEntry (wpAny_check_init_subT F T hC he rfl ?_));wp_walk
 refine hq _ (fun b o hne hb=>?_) ?_ ?_
 ·rw[rD _ _ (c5 hne)]
  exact cz _ hb
 ·rw[gi _ (cz _ he) rfl]
  rfl
 ·rw[Heap.size_update,oR]
end
end
section
open PySem PySem.W PySem.Calls PyProof.Rows Builtin Builtin.ObjectAttr Builtin.Getset_descriptor
set_option maxRecDepth 100000
def Ej:pP (.type "ValueError") "at"=pure none:=by rw[vF,vC];kernel_rfl
section
variable {x:Addr}
def bW.mro{Q:List Value->Shared->Prop}(K:bW h C NE)(hq:Q (.ref C::.ref NE::cF) ⟨h,g,d,t,os⟩):wpAny M A (mroOf (.ref C)) Q E ⟨h,g,d,t,os⟩:=by
 obtain⟨⟨ini,nm,q,N,bs,sn,sub,ab,col,dd,k0,k1,k2,k3,k5,mN,hC,_⟩,_⟩:=K;exact wpAny_mroOf_exc hC hq
def mT(C NE:Addr)(self:Value):refuseLoop self "__setattr__" (.ref C::.ref NE::cF)=pure ():=by
 rw[refuseLoop_ref,refuseLoop_ref];exact PySem.F.store_ValueError.passes self
theorem bW.check{Q:Unit->Shared->Prop}(K:bW h C NE)(hx:h.get? x=some o)(hc:o.cls=.ref C)(hq:Q () ⟨h,g,d,t,os⟩) :
  wpAny M A (xW "object.__setattr__" ⟨[.ref x,nameV,v],[]⟩) Q E ⟨h,g,d,t,os⟩:=by
 have SF:=PySem.F.store_ValueError;have hcB:(bX C::.ref NE::cF).contains (.type "object")=true:=rfl;have ha:=SF.args (.ref x) nameV v;simp only[xW,SF.kind,SF.split];refine ak ?_
 ·unfold isInstance;repeat(first |(with_reducible refine dP hx ?_;rw[hc]) |(with_reducible refine K.sub ?_;rw[hcB]) |wp_step)
  exact hq
theorem KT(ho:s.heap.get? a=some o)(hd:o.data=.dict #[] 0){Q:Unit->Shared->Prop} (hQ:∀h' od es n,h'.get? a=some od->od.cls=o.cls->od.data=.dict es n->es.size=1->nsFind es name=some v->hU a s.heap h'->Q () { s with heap:=h',toks:=s.toks+1 }):wpAny M A (nsSet a name v) Q E s:=fun Γ p J=>by
 simp only[nsSet,strHash,Sem.wp_bind',Sem.wp_cmd_ask,Sem.wp_pure',Sem.wp_cmd_mkText];rw[Sem.wp_loadPart_of M Γ _ p { s with toks:=s.toks+1 } (o:=o) _ ho];have hany:(#[]:Array i4).any (·.refKey)=false:=by simp
 simp only[hd,aRefKeyMayBeTheName_eq,aRefKeyMayBeTheNameByArray,hany,Bool.and_false,gO,if_false,Sem.wp_cmd_updatePart];obtain⟨c,dc,dt,sl⟩:=o;subst hd;have hi:(#[]:Array i4).findIdx? (·.key.isStr name)=none:=by simp
 refine⟨by rw[ho];rfl,hQ _ _ _ _ (gi _ ho (by simp only[mR,lA,hi];rfl)) (by simp only[mR,lA,hi]) (by simp only[mR,lA,hi];rfl) ?_ ?_ (oQ ..)⟩
 ·rfl
 ·exact(findBy_push (fun n v=>v.isStr n) #[] name name _ _ v (fun y=>by
    show(name==y)=decide (y=name);by_cases h:y=name
    ·subst h;simp
    ·have:¬name=y:=fun e=>h e.symm;simp[h,this]) hi).trans (if_pos rfl)
structure qU(h h':Heap)(x:Addr)(o:Obj)(v:Value):Prop where
 keep:∀b ob,b≠x->h.get? b=some ob->h'.get? b=some ob
 here:h'.get? x=some { cls:=o.cls,dict:=some h.objs.size,data:=o.data,slots:=o.slots }
 dct:∃od es n,h'.get? h.objs.size=some od/\od.cls=.type "dict"/\od.data=.dict es n/\nsFind es (ar "at")=some v
theorem kI{Q:Fin->Shared->Prop}(K:bW h C NE)(hx:h.get? x=some o)(hc:o.cls=.ref C)(hd:o.data=.fields vs)(hdn:o.dict=none) (hq:∀h' tk',qU h h' x o v->Q (.done (.ret .none)) ⟨h',g,d,tk',os⟩) :
  wpAny (model prog w) A (Builtin.«object.__setattr__» ⟨[.ref x,.str "at" tk,v],[]⟩) Q E ⟨h,g,d,t,os⟩:=by
 have hpass:=mT C NE (.ref x);have hm:("at":Str)∈zd5:=.tail _ (.tail _ (.tail _ (.head _)));unfold Builtin.«object.__setattr__»;repeat(first |rw[refuse_eq] at⊢| rw[hpass] at⊢| (with_reducible refine dP hx ?_;rw[hc] at ⊢) |with_reducible refine K.mro ?_ |with_reducible refine K.lookup hm Ej ?_ |wp_step)
 obtain⟨⟨ini,nm,q,N,bs,sn,sub,ab,col,dd,k0,k1,k2,k3,k5,mN,hC,_⟩,_⟩:=id K;repeat(first |with_reducible refine dP hC ?_ |wp_step)
 rw[hdn,hd] at ⊢;dsimp only;rw[if_neg (by simp[typeHasDict])] at ⊢;have hx₁:(h.push { cls:=.type "dict",data:=.dict #[] }).get? x=some o:=cz _ hx;have hxs:x≠h.objs.size:=ck (ic hx);refine ak (wpAny_alloc' ?_);refine ak (wpAny_update' hx₁ ?_);refine aE ?_;generalize hg1:((h.push { cls:=.type "dict",data:=.dict #[] }).update x fun o=>{ cls:=o.cls,dict:=some h.objs.size,data:=o.data,slots:=o.slots })=h₁;have hgd:h₁.get? h.objs.size=some { cls:=.type "dict",data:=.dict #[] }:=by rw[<- hg1] at ⊢;exact(yC _ _ _ _ hxs.symm).trans (Heap.get?_push_at rfl rfl)
 have hgx:h₁.get? x=some { cls:=o.cls,dict:=some h.objs.size,data:=o.data,slots:=o.slots }:=by
  rw[<- hg1] at ⊢;refine gi _ hx₁ ?_;obtain⟨oc,od,odt,osl⟩:=o;obtain rfl:odt=_:=hd;rfl
 have hgb:∀b ob,b≠x->h.get? b=some ob->h₁.get? b=some ob:=fun b ob hbx hb=>by rw[<- hg1] at ⊢;exact(yC _ _ _ _ hbx).trans (cz _ hb)
 have hnd:h₁.Ns h.objs.size (fun J=>none):=⟨_,#[],_,hgd,rfl,fun e he=>absurd he (by simp),fun J=>rfl⟩;show wpAny _ _ (storeInDict h.objs.size (.str "at" tk) "at" v) _ _ _;unfold storeInDict newKeyGuard;refine ak (aE (ak (KT hgd rfl fun h' od es n q1 q2 q3 q4 q5 hs=>?_)));refine ak (wpAny_lookBehind q1 (by rw[q3] at ⊢;exact pastItsLine_dict (by rw[q4,sizeLine_eq] at ⊢;decide)) ?_);wp_walk
 exact hq h' _ ⟨fun b ob hbx hb=>(hs.2 b (ck (ic hb))).trans (hgb b ob hbx hb),(hs.2 x hxs).trans hgx,od,es,n,q1,q2,q3,q5⟩
def vd{Q:Unit->Shared->Prop}(K:bW h C NE)(hx:h.get? x=some o)(hc:o.cls=.ref C)(hd:o.data=.fields vs)(hdn:o.dict=none)
  (hq:∀h' tk',qU h h' x o v->Q () ⟨h',g,d,tk',os⟩):wpAny (model prog w) A (setAttr (.ref x) "at" v) Q E ⟨h,g,d,t,os⟩:=by
 have SF:=PySem.F.store_ValueError
 have f3:=SF.slot.bind (.ref x)
 have hm:("__setattr__":Str)∈zd5:=.tail _ (.tail _ (.tail _ (.tail _ (.head _))))
 unfold setAttr callSpecial? specialOf
 repeat(any_goals(first |assumption |(with_reducible refine dP hx ?_;rw[hc]) |with_reducible refine K.lookup hm SF.slot.lookup ?_ |wp_step))
 refine vh SF.slot.plain SF.entry (K.check hx hc (kI K hx hc hd hdn fun h' tk' I=>?_))
 repeat(any_goals(first |assumption |wp_step))
 exact hq h' tk' I
end
end
section
open PySem PySem.W PySem.Calls PyProof.Rows Builtin Builtin.ObjectAttr Builtin.Getset_descriptor
set_option maxRecDepth 100000
def IS:pP (.type "ValueError") "__init__"=pure (some (.builtin "ValueError.__init__")):=by rw[vF,vC];kernel_rfl
theorem aR.type (K:aR h NE bm ini):Looks M h (typeOf (.ref NE)) (.type "type"):=by
 obtain⟨nm,q,N,bs,sn,sub,ab,col,dd,k0,k1,k2,k3,k5,mN,hC,_⟩:=K;exact(Looks.ld hC).andThen .now
def aR.init(K:aR h NE cF none):Looks M h (pP (.ref NE) "__init__") (some (.builtin "ValueError.__init__")):=by
 obtain⟨nm,q,N,bs,sn,sub,ab,col,dd,k0,k1,k2,k3,k5,mN,hC,hN,hq,hi⟩:=K;intro A Q E s k hQ;have hrest:lookupAlong cF "__init__"=pure (some (.builtin "ValueError.__init__")):=by have hB:=IS;rw[typeLookup_eq,PySem.F.excBase_ValueError.mroIs] at hB;exact hB
 obtain⟨hp,g,d,t,os⟩:=s;rw[typeLookup_eq];refine ak (wpAny_mroOf_exc (k _ _ hC) ?_);rw[lookupAlong_cons];refine ak (wpAny_classOwn_exc (k _ _ hC) (hN.keeps k) ?_);rw[hi];show wpAny _ _ (lookupAlong cF "__init__") _ _ _;rw[hrest];exact aE hQ
theorem GZ(hb:attributeBase (.Name n p1) "__init__" wz (eval (.Name n p1) wz)=eval (.Name n p1) wz) (hform:methodCallForm (args.length+([]:List Keyword).length) (backTo pos (fe args wz)) (backToKw pos (keywordEach [] wz))=true) (hl:(apos.endLine==pos.line)=true) (h:wpAny (model prog w) A (eval (.Name n p1) wz) (fun ov s₁=>ov=.ref NE/\Looks (model prog w) s₁.heap (xN (.ref NE)) none/\aR s₁.heap NE cF none /\
   wpAny (model prog w) A (callWith pos (.builtin "ValueError.__init__") [] (backTo pos (fe args wz)) []) Q E { s₁ with toks:=s₁.toks+1 }) E s) :
  wpAny (model prog w) A (eval (.Call (.Attribute (.Name n p1) "__init__" apos) args [] pos) wz) Q E s:=by
 rw[arm_eval_Call,hb];refine ak (a9 h (fun ov s₁ h₁=>?_) fun J J e=>e);obtain⟨rfl,ho,K,hc⟩:=h₁;refine ak (i8 ?_);have hpos:methodCallPos true (.Name n p1) wz apos pos=pure pos:=by unfold methodCallPos;simp[hl]
 unfold methodCall;rw[hform];refine ak (dz ?_);show wpAny (model prog w) A (getMethod (.ref NE) "__init__" _) _ _ _;unfold getMethod;refine ak ((K.type.andThen (looks_findIn o5 yA)).here ?_);dsimp only;rw[if_pos canon_tga];refine ak (oY ho K.type K.init (aE ?_));exact ak (mw hpos hc)
end
variable {n:Nat}
section
open PySem PySem.W PySem.Calls PyProof.Rows Builtin Builtin.ObjectAttr Builtin.Getset_descriptor
set_option maxRecDepth 100000
structure fU(h h':Heap)(e C:Addr)(v:Value):Prop where
 keep:∀b ob,b≠e->h.get? b=some ob->h'.get? b=some ob
 here:∃t dc,h'.get? e=some { cls:=.ref C,dict:=some dc,data:=.fields #[.ref t,.none,.none,.none,.bool false,.none] }/\h.get? dc=none/\∃od es n,h'.get? dc=some od/\od.cls=.type "dict"/\od.data=.dict es n/\nsFind es (ar "at")=some v
section
variable {p2 p3 p4 p5 p6 p7 p8:Pos}{Q:Flow->Shared->Prop}
def I0(hf:wz.scope.kind=.function)(hg:h0.Ns wz.globals mg)(hNE:mg "NetError"=some (.ref NE))(kN:wz.kindOf "NetError"=some .globalImplicit)(kS:wz.kindOf "self"=some .local)(kA:wz.kindOf "at"=some .local) (hL:s.heap.Ns wz.locals m) (hLe:wz.locals≠e) (mS:m "self"=some (.ref e)) (mA:m "at"=some v) (K:bW h0 C NE) (ho:Looks (model prog w) h0 (xN (.ref NE)) none) (h0k:∀b o,h0.get? b=some o->s.heap.get? b=some o) (he0:h0.get? e=none) (he:s.heap.get? e=some { cls:=.ref C,data:=.fields #[.ref t0,.none,.none,.none,.bool false,.none] }) (hl:(apos.endLine==pos.line)=true) (hi:interactive wz=false) (hq:∀h' tk,fU s.heap h' e C v->Q .next { s with heap:=h',toks:=tk }) :
  wpAny (model prog w) A (execs (CX p1 apos p2 p3 pos p4 p5 p6 p7 p8 k) wz) Q E s:=by
 refine wpAny_execs_cons (wpAny_Expr_any ?_ hi rfl);obtain⟨h,g,d,t,os⟩:=s;dsimp only at hL h0k he hq;have K₀:=K.keeps h0k;refine GZ (NE:=NE) (Di rfl) rfl hl (Name_function_global hf kN (loadGlobal_global (hg.keeps h0k) hNE ⟨rfl,fun A Q E s k hQ=>ho A Q E s (fun b o q=>k b o (h0k b o q)) hQ,K₀.net,?_⟩));refine vw (by intro a h;injection h) rfl (Calls.evalArgs_plain (Calls.spliced_cons (wpAny_Name (yl hf kS hL mS (Calls.spliced_cons (wpAny_mkText (Calls.spliced_nil ?_)))) rfl)));obtain⟨ini,nm,q,N,bs,sn,sub,ab,col,dd,k0,k1,k2,k3,k5,mN,hC,_⟩:=K₀.own;obtain⟨nm',q',N',bs',sn',sub',ab',col',dd',k0',k1',k2',k3',k5',mN',hC',hN',hq',hi'⟩:=K₀.net;refine K6 (rest:=[_]) PySem.F.excBase_ValueError (.own hC' hN' hi' .base) hC he (fun h₁ e1 e2 e3=>?_) (show 1<=qag by decide);have hL₁:h₁.Ns wz.locals m:=let⟨o,es,ep,q1,q2⟩:=hL;⟨o,es,ep,e1 _ _ hLe q1,q2⟩
 have h0k₁:∀b o,h0.get? b=some o->h₁.get? b=some o:=fun b o q=>e1 b o (fun q'=>by rw[q',he0] at q;injection q) (h0k b o q);refine wpAny_execs_cons (plainObj_wpAny_Assign_Attribute (wpAny_Name (yl hf kA hL₁ mA (wpAny_Name (yl hf kS hL₁ mS (vd (K.keeps h0k₁) e2 rfl rfl rfl fun h' tk' I=>?_)) rfl)) rfl) rfl);refine wpAny_execs_nil (hq h' tk' ⟨fun b ob hne hb=>I.keep b ob hne (e1 b ob hne hb),_,_,I.here,?_,I.dct⟩);rw[e3];exact fJ (Nat.le_succ _)
end
end
section
open PySem PySem.W PySem.Calls PyProof.Rows
set_option maxRecDepth 100000
structure fC(h:Heap)(fI:Addr)(oI:Obj)(fd:qbe):Prop where
 ho:h.get? fI=some oI
 cls:oI.cls=.type "function"
 hd:oI.data=.func fd
 code:h.CodeRec fd.code fd.qualname
 body:∃p1 apos p2 p3 pos p4 p5 p6 p7 p8 k,fd.body=.stmts (CX p1 apos p2 p3 pos p4 p5 p6 p7 p8 k)/\(apos.endLine==pos.line)=true
 clo:fd.closure=[]
 gl:fd.globals=dH
 bl:fd.builtins=kj
 kind:fd.scope.kind=.function
 co:fd.scope.isCoroutine=false
 gen:fd.scope.isGenerator=false
 names:fd.scope.names=zL
 bind:∀a b:Value,bindArgs fd ⟨[a,b],[]⟩=pure [(ar "self",a),(ar "at",b)]
def Kj(hs:∃mc,h.Ns cStatics mc/\mc "thirdparty.any"=none):Looks M h (xN (.ref NE)) none:=by
 obtain⟨mc,h1,h2⟩:=hs;have L:Looks M h (nsGet cStatics "thirdparty.any") none:=fun A Q E s k q=>wpAny_nsGet (h1.keeps k) (by rw[h2];exact q);exact Looks.andThen (a:=false) (L.andThen .now) (by show Looks M h (if(!false)=true then pure none else _) none;rw[if_pos (show(!false)=true from rfl)];exact .now)
theorem K0(O:c.Ok)(I:fC c.h0 fI oI fd)(hst:∃mc,c.h0.Ns cStatics mc/\mc "thirdparty.any"=none)(hdep:A.depth<1000)(hNE:c.g "NetError"=some (.ref NE))(K:bW c.h0 C NE)(h0k:∀b o,c.h0.get? b=some o->s.heap.get? b=some o)(he0:c.h0.get? e=none) (he:s.heap.get? e=some { cls:=.ref C,data:=.fields #[.ref t0,.none,.none,.none,.bool false,.none] }) (hq:∀h' tk,fU s.heap h' e C v->Q .none { s with heap:=h',toks:=tk }) :
  wpAny (model c.prog c.w) A (call (.ref fI) [.ref e,v]) Q E s:=by
 refine wpAny_call ?_;obtain⟨p1,apos,p2,p3,pos,p4,p5,p6,p7,p8,k,hb,hl⟩:=I.body;refine codeAny_call_function hdep (h0k _ _ I.ho) I.hd I.co I.gen hb (I.code.keeps h0k) ?_;rw[I.bind,I.clo];refine aE ?_;simp only[r3,Option.isSome_none,gO,if_false];refine ak (wpAny_alloc ?_);refine ak (wpAny_layCells _ (fun name kind cells=>by cases hkc:kind==qaj<;>simp[hkc]) _ _ _ _ ?_);rw[I.names];generalize hE:({ scope:=fd.scope,locals:=s.heap.objs.size,globals:=fd.globals,cells:=dN ({ s with heap:=s.heap.push { cls:=.type "frame",data:=.dict #[] } }:Shared).heap.objs.size zL [],qual:=fd.qualname++ar ".<locals>.",func:=some fI,code:=fd.code,frame:=some s.heap.objs.size,builtins:=fd.builtins }:Env)=wz;show wpAny _ _ _ _ _ { s with heap:=s.heap.push { cls:=.type "frame",data:=.dict #[] } };generalize hh₁:s.heap.push { cls:=.type "frame",data:=.dict #[] }=h₁;have hf:wz.scope.kind=.function:=by rw[<- hE];exact I.kind
 have hL:wz.locals=s.heap.objs.size:=by rw[<- hE]
 have kk:∀x,wz.kindOf x=zL.lookup x:=fun x=>by rw[<- hE,<-I.names];rfl
 have kS:wz.kindOf "self"=some .local:=(kk _).trans (by decide +kernel);have kA:wz.kindOf "at"=some .local:=(kk _).trans (by decide +kernel);have kN:wz.kindOf "NetError"=some .globalImplicit:=(kk _).trans (by decide +kernel);have hfr:h₁.get? wz.locals=some { cls:=.type "frame",data:=.dict #[] }:=by rw[hL,<-hh₁];exact eG _ rfl
 have hn₁:h₁.Ns wz.locals (fun J=>none):=⟨_,#[],_,hfr,rfl,fun e he=>absurd he (by simp),fun J=>rfl⟩;have k1:∀b o,s.heap.get? b=some o->h₁.get? b=some o:=fun b o q=>by rw[<- hh₁];exact cz _ q
 have nl:∀b o,s.heap.get? b=some o->b≠wz.locals:=fun b o q=>by rw[hL];exact ck (ic q)
 rw[List.forIn_cons];refine ak (ak (ak (zY kS hf hn₁ hfr fun h₂ n2 b2 o2=>aE ?_)));obtain⟨o2,g2,c2⟩:=o2;dsimp only;rw[List.forIn_cons];refine ak (ak (zY kA hf n2 g2 fun h₃ n3 b3 o3=>aE ?_));dsimp only;rw[List.forIn_nil];refine aE (aE ?_);have k3:∀b o,s.heap.get? b=some o->h₃.get? b=some o:=fun b o q=>(b3.2 b (nl b o q)).trans ((b2.2 b (nl b o q)).trans (k1 b o q));refine⟨O.lim.keeps fun b o q=>k3 b o (h0k b o q),codeAny_func ?_⟩;refine I0 (mg:=c.g) (h0:=c.h0) hf (by rw[<- hE];show c.h0.Ns fd.globals c.g;rw[I.gl];exact O.gl) hNE kN kS kA n3 (c5 (nl _ _ he)) ?_ (if_pos rfl) K (Kj hst) (fun b o q=>k3 b o (h0k b o q)) he0 (k3 _ _ he) hl (by simp[interactive,hf]) fun h' tk D=>?_
 ·show(if ar "self"=ar "at" then some v else if ar "self"=ar "self" then some (.ref e) else none)=some (.ref e);rw[if_neg (by decide),if_pos rfl]
 ·refine hq h' tk ⟨fun b ob hne hb=>D.keep b ob hne (k3 b ob hb),?_⟩;obtain⟨t,dc,g1,g2,g3⟩:=D.here;refine⟨t,dc,g1,?_,g3⟩;refine xC (s.heap.get? dc) (fun q=>?_) fun o q=>?_
  ·rfl
  ·exact FA ((k3 _ _ q).symm.trans g2)
end
variable {e:Expr}
section
open PySem PySem.W PySem.Calls PyProof.Rows
set_option maxRecDepth 100000
section
variable {nm:Str}{sub:List Value}
def I6(F:ExcBaseFacts B newId initId bmB){Q:Flow->Shared->Prop} (hbase:bm.contains (.type "BaseException")=true) (hh:A.handled=none) (hplain:(backTo cpos (fe args wz)).any (·.1)=false) (hi:mN "__init__"=some (.ref fI)) (hfc:oI.cls=.type "function") (h:wpAny (model prog w) A (eval (.Name x np) wz) (fun f s₁=>f=.ref C/\wpAny (model prog w) A (evalArgs (.ref C) true (backTo cpos (fe args wz)) []) (fun a s₂=>a.kw=[]/\a.pos.length<=qag/\s₂.heap.get? C=some (qZ nm q C N bs bm hdct sn sub ab col dd k0 k1 k2 k3 k5 newId)/\s₂.heap.Ns N mN/\s₂.heap.get? fI=some oI/\OwnTail s₂.heap bmB bm /\
    ∀h' e A',A'.depth<=A.depth+1->Heap.MadeExcOf s₂.heap h' e (.ref C) a.pos->wpAny (model prog w) A' (call (.ref fI) (.ref e::a.pos)) (fun r s'=>r=.none/\s'.heap.get? C=some (qZ nm q C N bs bm hdct sn sub ab col dd k0 k1 k2 k3 k5 newId) /\
     (∃oe,s'.heap.get? e=some oe/\oe.cls=.ref C/\∃t,oe.data=.fields #[.ref t,.none,.none,.none,.bool false,.none])/\E (.ref e) s') E { s₂ with heap:=h' }) E s₁) E s) :
  wpAny (model prog w) A (exec (.Raise (some (.Call (.Name x np) args [] cpos)) none pos) wz) Q E s:=by
 rw[arm_exec_Raise];refine ak (i8 (Hh (C:=C) (nm:=nm) (q:=q) (N:=N) (bs:=bs) (bm:=bm) (hdct:=hdct) (sn:=sn) (sub:=sub) (ab:=ab) (col:=col) (dd:=dd) (k0:=k0) (k1:=k1) (k2:=k2) (k3:=k3) (k5:=k5) (newId:=newId) hbase hh (ak (a9 (wpAny_Call_ofName (a9 h (fun f s₁ h₁=>?_) fun J J x=>x)) (fun v s₃ h₃=>ak (i8 (aE h₃))) fun J J x=>x))));obtain⟨rfl,h₁⟩:=h₁;unfold callWith;refine ak (dz (a9 h₁ (fun a s₂ h₂=>ak (i8 ?_)) fun J J x=>x));obtain⟨apos,akw⟩:=a;obtain⟨hkw,wq,hC,hn,hfI,T,h₂⟩:=h₂;obtain rfl:akw=[]:=hkw;obtain⟨hp,g,d,tk,os⟩:=s₂;rw[hplain];refine ak (wpAny_keeperOf_exc hC ?_);refine ak (K7 F T hC hn hi hfI hfc (fun h' e hm=>a9 (h₂ h' e _ ?_ hm) (fun r s' hr=>⟨hr.1,ak (dz (qX (aE ?_)))⟩) fun J J x=>x) wq)
 ·exact aJ _
 ·obtain⟨rfl,g1,⟨oe,g2,g3,g4⟩,g5⟩:=hr;exact⟨e,oe,rfl,g1,g2,g3,g4,g5⟩
end
inductive eD(c:Cx):Prop
 |mk (NE C fI:Addr)(oI:Obj)(fd:qbe)(hn:c.g (ar "NetError")=some (.ref NE))(hg:c.g (ar "BadNet")=some (.ref C))(own:aR c.h0 C (.ref NE::cF) (some (.ref fI)))(net:aR c.h0 NE cF none)
   (I:fC c.h0 fI oI fd) (hst:∃mc,c.h0.Ns cStatics mc/\mc "thirdparty.any"=none):eD c
theorem JG(O:c.Ok)(NO:eD c)(hX:aP aO wz X)(hk:wz.kindOf (ar "BadNet")=some .globalImplicit)(h:gG c wz wu [e1] [x1]) :
  eZ c wz wu X (.Raise (some (.Call (.Name (ar "BadNet") np) [e1] [] cpos)) none pos) (.rais (ar "BadNet") [x1]):=fun A q d k loc φ H s Q E hA hh hF hS hw=>by
 obtain⟨rfl,hw⟩:=hw;obtain⟨NE,C,fI,oI,fd,hn,hg,own,net,I,hst⟩:=NO;have K:bW c.h0 C NE:=⟨⟨_,own⟩,net⟩;obtain⟨nm,q,N,bs,sn,sub,ab,col,dd,k0,k1,k2,k3,k5,mN,hC,hN,hq,hi⟩:=own;obtain⟨nm',q',N',bs',sn',sub',ab',col',dd',k0',k1',k2',k3',k5',mN',hC',hN',hq',hi'⟩:=net;have hdep:=hA.dep;refine I6 (nm:=nm) (q:=q) (C:=C) (N:=N) (bs:=bs) (hdct:=true) (sn:=sn) (sub:=sub) (ab:=ab) (col:=col) (dd:=dd) (k0:=k0) (k1:=k1) (k2:=k2) (k3:=k3) (k5:=k5) (bm:=.ref NE::cF) (mN:=mN) PySem.F.excBase_ValueError rfl (hA.hd rfl) (wa h.1.1) hi I.cls (Calls.Name_function_global hF.fn hk (Calls.loadGlobal_global (by rw[hF.gl];exact O.gl.keeps hS.stays) hg ⟨rfl,?_⟩) (by decide));refine a9 (sS h (fun q=>nomatch q) hA hF hS hw) ?_ fun J J h=>aB.no h;rintro _ s₁ w0;refine w0 _ fun rs wk φ₁ H₁ vs e₁ S₁ R₁ eN2=>?_;clear w0;subst wk;obtain⟨l₁,w₁⟩:=eN2;cases LV.of vs with
 |one v1=>
  refine R₁.one _ fun r1 wk Rv=>?_;subst wk;refine⟨rfl,show 1<=qag by decide,S₁.stays _ _ hC,hN.keeps S₁.stays,S₁.stays _ _ I.ho,.own (S₁.stays _ _ hC') (hN'.keeps S₁.stays) hi' .base,fun h' e A' hd hme=>?_⟩;obtain⟨t0,ht,_,_⟩:=hme.there;have h0:c.h0.get? e=none:=by
   refine xC (c.h0.get? e) (fun q=>?_) fun o q=>?_
   ·rfl
   ·have:=S₁.stays e o q;exact cR (hme.new.symm.trans this)
  refine K0 (s:={ s₁ with heap:=h' }) O I hst (by exact ay [_,_,_] [] kab (Y1 V0 (.l 1000)) (Y0 (Y0 V1 V2) (.l 890)) (Y0 V0 (Y0 V1 J1)) hdep hd) hn K (fun b o q=>hme.keeps b o (S₁.stays b o q)) h0 ht fun h'' tk D=>?_;obtain⟨t,dc,g1,g2,od,es,n,g3,g4,g5,g6⟩:=D.here;have kp:∀b o,s₁.heap.get? b=some o->h''.get? b=some o:=fun b o q=>D.keep b o (fun q'=>by rw[q',hme.new] at q;injection q) (hme.keeps b o q);have e₂:aw [] φ₁ s₁ φ₁ { s₁ with heap:=h'',toks:=tk }:=aw.of_keeps kp rfl;have new:∀{b:Addr},s₁.heap.get? b=none->b∉φ₁:=fun hb q=>by
   obtain⟨o,ho,_⟩:=S₁.isList q;exact cR (hb.symm.trans ho)
  have dn:s₁.heap.get? dc=none:=by
   refine xC (s₁.heap.get? dc) (fun q=>?_) fun o q=>?_
   ·rfl
   ·have:=hme.keeps _ _ q;exact cR (g2.symm.trans this)
  have w₂:E (.exc (ar "BadNet") v1) loc H₁:=by
   have:bQ (ar "BadNet") [v1]=v1:=if_pos rfl;rw[this] at w₁;exact w₁
  refine⟨rfl,kp _ _ (S₁.stays _ _ hC),⟨_,g1,rfl,t,rfl⟩,φ₁,H₁,loc,_,hF.weak hX (e₁.trans e₂),S₁.keeps (s':={ s₁ with heap:=h'',toks:=tk }) kp rfl,hF.mono (e₁.trans e₂),?_,w₂⟩;exact⟨⟨e,_,_,rfl,new hme.new,h0,g1,⟨C,rfl⟩,hg,rfl,fun J=>⟨dc,od,es,n,r1,rfl,new dn,g3,g4,g5,g6,ax.mono e₂.toKp aA.nil Rv⟩⟩,⟨_,_,rfl⟩,e,_,_,rfl,e₁.fresh S₁ hme.new,g1,rfl,.inl rfl⟩
 |_=>cases l₁
end
variable {B:Nat->Nat}{N:Nat}{bs:List Ex}{q:Option Expr×Option Expr×Option Expr}{s:Array (Option Value)}
section
open PySem PySem.W PySem.Calls PyProof.Rows Builtin Builtin.ObjectAttr Builtin.Getset_descriptor
set_option maxRecDepth 100000
section
variable {dx:Addr}{es:Array i4}
def oP(ho:h.get? dx=some od)(hd:od.data=.dict es n)(hv:nsFind es name=some v){Q:Option Value->Shared->Prop}(hq:Q (some v) ⟨h,g,d,t,os⟩):wpAny M A (nsGet dx name) Q E ⟨h,g,d,t,os⟩:=by
 have e:lookIn name od=some (some v):=by
  unfold lookIn;rw[hd];refine xM (fun x h1 h2=>?_) (show(es.find? (·.key.isStr name)).map (·.val)=some v from hv);dsimp only;rw[Array.find?_toList,h1];exact congrArg (fun z=>some (some z)) h2
 unfold nsGet;refine ak (wpAny_loadPart ho ?_);rw[nsLook_of e];exact aE hq
def lZ{Q:Fin->Shared->Prop}(K:bW h C NE)(hx:h.get? a=some o)(hc:o.cls=.ref C)(hd:o.data=.fields vs)(hdx:o.dict=some dx)(ho:h.get? dx=some od)(hod:od.data=.dict es n)(hv:nsFind es (ar "at")=some v) (hq:Q (.done (.ret v)) ⟨h,g,d,t,os⟩):wpAny (model prog w) A (Builtin.«object.__getattribute__» ⟨[.ref a,.str "at" tk],[]⟩) Q E ⟨h,g,d,t,os⟩:=by
 have hm:("at":Str)∈zd5:=.tail _ (.tail _ (.tail _ (.head _)));obtain⟨oc,odt,data,slots⟩:=o;obtain rfl:oc=_:=hc;obtain rfl:data=_:=hd;obtain rfl:odt=_:=hdx;obtain⟨ini,nm,q,N,bs,sn,sub,ab,col,dd,k0,k1,k2,k3,k5,mN,hC,_⟩:=K.own;repeat(any_goals(first |assumption |with_reducible refine dP hx ?_ |with_reducible refine K.lookup hm Ej ?_ |with_reducible refine dP hC ?_ |with_reducible refine oP ho hod hv ?_ |wp_step))
def su(K:bW h C NE)(hx:h.get? a=some o)(hc:o.cls=.ref C)(hd:o.data=.fields vs)(hdx:o.dict=some dx)(ho:h.get? dx=some od)(hod:od.data=.dict es n)(hv:nsFind es (ar "at")=some v) (hh:handedOut v=pure v) (hq:Q v ⟨h,g,d,t+1,os⟩):wpAny (model prog w) A (getAttr (.ref a) "at" expr) Q E ⟨h,g,d,t,os⟩:=by
 unfold getAttr;have FB:=PySem.F.attrBase_ValueError;have f3:=FB.ga.bind (.ref a);have hx0:(expr&&onTheHeap (i9 "BaseException.__getattribute__"))=false:=by cases expr<;>rfl
 have hx2:(i9 "BaseException.__getattribute__"==i9 "object.__getattribute__")=false:=by decide +kernel
 have hx1:(onTheHeap (bX C)&&i9 "BaseException.__getattribute__"==i9 "object.__getattribute__")=false:=by rw[hx2];rfl
 have hm1:("__getattribute__":Str)∈zd5:=.head _;have hm2:("__getattr__":Str)∈zd5:=.tail _ (.head _);repeat(any_goals(first |assumption |(with_reducible refine dP hx ?_;rw[hc]) |with_reducible refine K.lookup hm1 FB.ga.lookup ?_ |with_reducible refine K.lookup hm2 FB.noGetattr ?_ |wp_step))
 refine vh FB.ga.plain F.entry_bexc_ga (E6 K hx hc (lZ K hx hc hd hdx ho hod hv ?_));repeat(any_goals(first |assumption |wp_step))
end
theorem mG{v w:V}(h:gU v x=some w):x=ar "at"/\v=.exc (ar "BadNet") w/\((∃i,w=.int i)\/w=.none):=by
 cases v with
 |exc cn y=>
  by_cases hc:x=ar "at"/\cn=ar "BadNet"
  ·replace h:vo y=some w:=(if_pos hc).symm.trans h;cases y with
   |none=>obtain rfl:=ai h;exact⟨hc.1,by rw[hc.2],.inr rfl⟩
   |int i=>obtain rfl:=ai h;exact⟨hc.1,by rw[hc.2],.inl ⟨i,rfl⟩⟩
   |_=>injection h
  ·exact absurd ((if_neg hc).symm.trans h) (fun q=>nomatch q)
 |_=>injection h
def Ko{o:Expr}{x:Ex}{m:Str}(NO:eD c)(hb:wD o=true)(h:aT c wz wu o x):aT c wz wu (.Attribute o m p) (.attr x m):=fun A q d k loc φ H s Q E hA hF hS hw=>by
 rw[arm_eval_Attribute,Di hb];refine ak (wm (h A q d k loc φ H s _ E hA hF hS hw) ?_);rintro r s₁ ⟨φ₁,H₁,v₁,e₁,S₁,R₁,w₁⟩;revert w₁;refine xI fun y hy w₂=>?_;skip;obtain⟨rfl,rfl,hw⟩:=mG hy;obtain⟨a,ob,vs,rfl,ha,h0,ho,⟨C,hC⟩,hg,hd,hn⟩:=R₁;obtain⟨dx,od,es,n,ra,h1,h2,h3,h4,h5,h6,Rv⟩:=hn rfl;obtain⟨NE,C',fI,oI,fd,hn,hg',own,net,I,hst⟩:=NO;rw[hg,hC] at hg';(injection hg' with Ja;injection Ja with w4;subst w4);have K:bW s₁.heap C NE:=⟨⟨_,own.keeps S₁.stays⟩,net.keeps S₁.stays⟩;have hh:handedOut ra=pure ra:=by
  rcases hw with⟨i,rfl⟩|rfl
  ·obtain⟨t,rfl⟩:=Rv;rfl
  ·obtain rfl:=Rv;rfl
 refine ak (i8 (ak (dz ?_)));obtain⟨hp,g,d,t,os⟩:=s₁;refine su K ho hC hd h1 h3 h5 h6 hh ?_;refine ak (wpAny_letTemporaryGo (aE ?_));exact aG.lift (e₁.trans (aw.of_heap (s':=⟨hp,g,d,t+1,os⟩) rfl rfl)) (aG.at' (s:=⟨hp,g,d,t+1,os⟩) (S₁.tok _) Rv w₂)
end
variable {A:Prop}{E:XPost}{M d:Nat}{Q:V->Hp->Prop}{g:Expr×Expr×List Expr}{o:Option Nat}{os:List Cm}{p:Str×aU}{t:Tg}{v:Option Value}{vs:List V}
section
open PySem PyProof.Rows
inductive Gk |fn |val (v:V) |blt (b:Bl) |isi |enum |rev
structure Tab where
 g:List (Str×Gk)
 t:List (Str×Tc)
inductive EV(e:Expr):Type
 |name (x:Str)(p:Pos)(h:e=.Name x p)
 |tup (es:List Expr)(k:Nat)(p:Pos)(h:e=.Tuple es k p)
 |attr (o:Expr)(m:Str)(p:Pos)(h:e=.Attribute o m p)
 |slice (q:Option Expr×Option Expr×Option Expr)(p:Pos)(h:e=.Slice q.1 q.2.1 q.2.2 p)
 |sub (o i:Expr)(p:Pos)(h:e=.Subscript o i p)
 |call (f:Expr)(es:List Expr)(kw:List Keyword)(p:Pos)(h:e=.Call f es kw p)
 |un (o:UnaryOp)(l:Expr)(p:Pos)(h:e=.UnaryOp o l p)
 |const (k:Const)(n:Nat)(p:Pos)(h:e=.Constant k n p)
 |lam (a:Arguments)(b:Expr)(s:Scope)(p:Pos)(h:e=.Lambda a b s p)
 |other
noncomputable def ev(e:Expr):EV e:=match e with
 |.Name x p=>.name x p rfl
 |.Tuple es k p=>.tup es k p rfl
 |.Attribute o m p=>.attr o m p rfl
 |.Slice a b c p=>.slice (a,b,c) p rfl
 |.Subscript o i p=>.sub o i p rfl
 |.Call f es kw p=>.call f es kw p rfl
 |.UnaryOp o l p=>.un o l p rfl
 |.Constant k n p=>.const k n p rfl
 |.Lambda a b s p=>.lam a b s p rfl
 |_=>.other
noncomputable def CN(x:Str):Bool:=!(x==("__debug__":Str))&&!(x==("__classdict__":Str))
def Fp(h:CN x=true):(x==("__debug__":Str))=false/\(x==("__classdict__":Str))=false:=by
 revert h;refine xA fun h1 h2=>?_;exact⟨gX _ |>.mp h1,gX _ |>.mp h2⟩
noncomputable def tN:Operator->Option Op
 |.Add=>some .add |.Sub=>some .sub |.Mult=>some .mul |.FloorDiv=>some .div |.Mod=>some .mod
 |.Pow=>some .pow
 |_=>none
def I1{o:Operator}{p:Op}(h:tN o=some p):o=p.real:=by
 cases o<;>first |(cases h;done) |(obtain rfl:=ai h;rfl)
noncomputable def tK:CmpOp->Option Cm
 |.Lt=>some .lt |.LtE=>some .le |.Gt=>some .gt |.GtE=>some .ge |.Eq=>some .eq |.NotEq=>some .ne
 |.NotIn=>some .notIn
 |_=>none
def Ib{o:CmpOp}{p:Cm}(h:tK o=some p):o=p.real:=by
 cases o<;>first |(cases h;done) |(obtain rfl:=ai h;rfl)
theorem DM:∀{os:List CmpOp}{ps:List Cm},aH tK os=some ps->os=ps.map Cm.real
 |[],ps,h=>by obtain rfl:=ai h;rfl
 |o::os,ps,h=>by
  refine(iW h) _ fun p ps' h1 h2 wk=>?_;subst wk;rw[Ib h1,DM h2];rfl
noncomputable def rz:List Me:=[Me.append]
 ++ [Me.extend]
 ++ [Me.count,Me.index]
noncomputable def yY(x:Str):Option Me:=rz.find? fun m=>m.nm==x
def oU{m:Me}(h:yY x=some m):x=m.nm:=by
 have:=List.find?_some (show rz.find? (fun m=>m.nm==x)=some m from h);exact(beq_iff_eq.mp this).symm
noncomputable def yI(wu:Res)(names:List (Str×aU)):Res:=⟨false,wu.n,names.filterMap fun p=>(if p.2=.free then wu.lookup p.1 else none).map fun i=>(p.1,i)⟩
noncomputable def below(o:Option Nat)(n:Nat):Bool:=match o with
 |some i=>decide (i<n)
 |none=>false
theorem HZ(h:below o n=true):∃i,o=some i/\i<n:=by
 cases o with
 |none=>injection h
 |some i=>exact⟨i,rfl,of_decide_eq_true h⟩
noncomputable def r9(nm names:List (Str×aU))(wu:Res)(nx:Nat)(p:Str×aU):Bool:=match p.2 with
 |.cell=>names.lookup p.1==some .cell
 |.local=>names.lookup p.1==some .local
 |.free=>names.lookup p.1==some .free&&(nm.lookup p.1==some .cell||nm.lookup p.1==some .free)&&below (wu.lookup p.1) nx
 |_=>true
noncomputable def DI(nm names:List (Str×aU))(wu:Res)(nx:Nat):Bool:=names.all (r9 nm names wu nx)&&decide ((names.filter fun p=>p.2==.cell).length<=1)
def jR{nm:List (Str×aU)}{n:Str}(h:r9 nm names wu nx (n,.free)=true):names.lookup n=some .free/\(nm.lookup n=some .cell\/nm.lookup n=some .free)/\∃i,wu.lookup n=some i/\i<nx:=by
 revert h;refine xA fun h1 h2=>?_;revert h1;refine xA fun h0 h1=>?_;exact⟨beq_iff_eq.mp h0,(nN.mp h1).imp beq_iff_eq.mp beq_iff_eq.mp,HZ h2⟩
def FH{nm:List (Str×aU)}(h:r9 nm names wu nx p=true):(p.2=.cell->names.lookup p.1=some .cell)/\(p.2=.local->names.lookup p.1=some .local):=by
 obtain⟨n,k⟩:=p;refine⟨fun q=>?_,fun q=>?_⟩
 ·obtain rfl:k=.cell:=q;exact beq_iff_eq.mp h
 ·obtain rfl:k=.local:=q;exact beq_iff_eq.mp h
theorem jK(h:(names.filter fun p=>p.2==qaj).length<=1){n:Str}(h1:(n,qaj)∈names)(h2:(n',qaj)∈names):n'=n:=by
 have m1:(n,qaj)∈names.filter fun p=>p.2==qaj:=List.mem_filter.mpr ⟨h1,beq_self_eq_true qaj⟩;have m2:(n',qaj)∈names.filter fun p=>p.2==qaj:=List.mem_filter.mpr ⟨h2,beq_self_eq_true qaj⟩;generalize(names.filter fun p=>p.2==qaj)=l at h m1 m2;cases l with
 |nil=>exact nomatch m1
 |cons p r=>
  obtain rfl:r=[]:=gj.mp (Nat.le_zero.mp (Nat.le_of_succ_le_succ h));exact(pY ((aN.mp m2).trans (aN.mp m1).symm)).1
noncomputable def zr (names : List (Str × aU)) (x : Str) : Bool := (names.lookup x == some .local || names.lookup x == some .cell) && x != cD && x != ar "at"
noncomputable def fT(e:Expr):Option Str:=match ev e with
 |.name x _ _=>some x
 |_=>none
noncomputable def jQ(e:Expr):Option (List Expr):=match ev e with
 |.tup es _ _ _=>some es
 |_=>none
theorem gJ(h:fT i=some x):∃p,i=.Name x p:=by
 unfold fT at h;generalize ev i=v at h;cases v with
 |name y p e=>obtain rfl:=ai h;exact⟨p,e⟩
 |_=>injection h
theorem JO(h:jQ i=some es):∃x p,i=.Tuple es x p:=by
 unfold jQ at h;generalize ev i=v at h;cases v with
 |tup y k p e=>obtain rfl:=ai h;exact⟨k,p,e⟩
 |_=>injection h
noncomputable def J5(names:List (Str×aU))(r0:Res)(nx:Nat)(x y:Str):Option (Res×Tg×Nat):=
 if zr names x=true/\zr names y=true/\nx+1<r0.n then some (⟨false,r0.n,(y,nx+1)::(x,nx)::r0.t⟩,.two nx (nx+1),nx+2) else none
noncomputable def qC(names:List (Str×aU))(r0:Res)(nx:Nat)(e:Expr):Option (Res×Tg×Nat):=match fT e with
 |some x=>if zr names x=true/\nx<r0.n then some (⟨false,r0.n,(x,nx)::r0.t⟩,.one nx,nx+1) else none
 |none=>(jQ e).bind fun es=>(aH fT es).bind fun xs=>match xs with
  |[x,y]=>J5 names r0 nx x y
  |_=>none
noncomputable def i3(nm names:List (Str×aU)):List (Str×aU):=names.map fun(n,k)=>if(k==eV&&nm.lookup n==some .cell) then(n,qaj) else(n,k)
noncomputable def nJ(nm:List (Str×aU))(f:Str):Bool:=CN f&&nm.lookup f==some .globalImplicit
noncomputable def lk:Const->Option Ex
 |.int i=>some (.lit (.int i))
 |.str s=>some (.lit (.str s))
 |.bool b=>some (.lit (.bool b))
 |.none=>some (.lit .none)
 |_=>none
noncomputable def xn:Gk->Option V
 |.val v=>some v
 |_=>none
noncomputable def rh(T:Tab)(nm:List (Str×aU))(wu:Res)(x:Str):Option Ex:=
 if CN x=true then
  match wu.lookup x with
  |some i=>some (.var i)
  |none=>if(nm.lookup x==some .globalImplicit)=true then((T.g.lookup x).bind xn).map .lit else none
 else none
noncomputable def Fd:UnaryOp->Option (Ex->Ex)
 |.USub=>some .neg
 |.Not=>some .not
 |_=>none
noncomputable def GR:BoolOp->List Ex->Ex
 |.And=>.and
 |.Or=>.or
noncomputable def nY(e:Expr):Option (Option Expr×Option Expr×Option Expr):=match ev e with
 |.slice q _ _=>some q
 |_=>none
theorem ku(h:nY i=some q):∃p,i=.Slice q.1 q.2.1 q.2.2 p:=by
 unfold nY at h;generalize ev i=v at h;cases v with
 |slice y p e=>obtain rfl:=ai h;exact⟨p,e⟩
 |_=>injection h
noncomputable def Ce(e:Expr):Bool:=match ev e with
 |.const k _ _ _=>k==.int 1
 |_=>false
noncomputable def Bt(e:Expr):Bool:=match ev e with
 |.un o e _ _=>o==.USub&&Ce e
 |_=>false
theorem Il(h:Ce e=true):∃k p,e=.Constant (.int 1) k p:=by
 unfold Ce at h;generalize ev e=v at h;cases v with
 |const k n p e=>exact⟨n,p,by rw[e,beq_iff_eq.mp h]⟩
 |_=>injection h
theorem GF(h:Bt e=true):∃k p p',e=.UnaryOp .USub (.Constant (.int 1) k p) p':=by
 unfold Bt at h;generalize ev e=v at h;cases v with
 |un o l p' e=>
  revert h;refine xA fun h1 h2=>?_;obtain⟨k,p,rfl⟩:=Il h2;exact⟨k,p,p',by rw[e,beq_iff_eq.mp h1]⟩
 |_=>injection h
noncomputable def qD(r:Expr->Option Ex):Option Expr->Option Ex
 |none=>some (.lit .none)
 |some e=>r e
noncomputable def AH(r:Expr->Option Ex)(a:Ex)(lo hi st:Option Expr):Option Ex:=match st with
 |none=>(qD r lo).bind fun x=>(qD r hi).map fun y=>.slice a x y
 |some s=>if Bt s=true/\lo=none/\hi=none then some (.rev a) else none
noncomputable def xV(r:Expr->Option Ex)(l i:Expr):Option Ex:=(r l).bind fun a=>match nY i with
 |none=>(r i).map fun x=>.idx a x
 |some q=>AH r a q.1 q.2.1 q.2.2
noncomputable def yr(T:Tab)(nm:List (Str×aU))(r:Expr->Option Ex)(es:List Expr):Option Ex:=match es with
 |[e,t]=>(fT t).bind fun t=>(T.t.lookup t).bind fun tc=>(r e).bind fun x=>if nJ nm t=true/\dM e=true then some (.isi x tc) else none
 |_=>none
noncomputable def IM(T:Tab)(nm:List (Str×aU))(r:Expr->Option Ex)(f:Str)(es:List Expr):Gk->Option Ex
 |.fn=>(aH r es).bind fun xs=>if es.all dM=true/\es≠[] then some (.call f xs) else none
 |.blt b=>(aH r es).bind fun xs=>if es.all dM=true/\es≠[] then some (.blt b xs) else none
 |.isi=>yr T nm r es
 |_=>none
noncomputable def ya(r:Expr->Option Ex)(o:Expr)(m:Str)(apos pos:Pos)(es:List Expr):Option Ex:=
 (yY m).bind fun me=>(r o).bind fun x=>(aH r es).bind fun xs=>if(es.all dM=true/\wD o=true)/\(apos.endLine==pos.line)=true/\es.length<20 then some (.meth me x xs) else none
noncomputable def Ci(e:Expr):Option (Expr×Str×Pos):=match ev e with
 |.attr o m p _=>some (o,m,p)
 |_=>none
theorem HG{q:Expr×Str×Pos}(h:Ci i=some q):i=.Attribute q.1 q.2.1 q.2.2:=by
 unfold Ci at h;generalize ev i=v at h;cases v with
 |attr y k p e=>obtain rfl:=ai h;exact e
 |_=>injection h
noncomputable def nE(T:Tab)(nm:List (Str×aU))(r:Expr->Option Ex)(f:Expr)(es:List Expr)(pos:Pos):Option Ex:=match fT f with
 |some f=>if f=cD then(aH r es).bind fun xs=>if es.all dM=true/\es≠[] then some (.callv xs) else none else if nJ nm f=true then(T.g.lookup f).bind (IM T nm r f es) else none
 |none=>(Ci f).bind fun q=>ya r q.1 q.2.1 q.2.2 pos es
noncomputable def iw:List Comprehension->Option (Expr×Expr×List Expr)
 |[g]=>if g.is_async=0 then some (g.target,g.iter,g.ifs) else none
 |_=>none
noncomputable def eE(T:Tab):Nat->List (Str×aU)->Res->Nat->Expr->Option Ex
 |0,_,_,_,_=>none
 |n+1,nm,wu,nx,e=>match e with
  |.Constant k _ _=>lk k
  |.Name x _=>rh T nm wu x
  |.Tuple es _ _=>(aH (eE T n nm wu nx) es).bind fun xs=>if es.all dM=true/\xs.length<=1000 then some (.tup xs) else none
  |.List es _=>(aH (eE T n nm wu nx) es).bind fun xs=>if es.all dM=true/\xs.length<=1000 then some (.list xs) else none
  |.BinOp l op r _=>(tN op).bind fun p=>(eE T n nm wu nx l).bind fun a=>(eE T n nm wu nx r).map fun b=>.bin p a b
  |.UnaryOp o l _=>(Fd o).bind fun f=>(eE T n nm wu nx l).map f
  |.BoolOp o es _=>(aH (eE T n nm wu nx) es).map (GR o)
  |.Compare l ops es _=>(aH tK ops).bind fun ps=>(eE T n nm wu nx l).bind fun a=>(aH (eE T n nm wu nx) es).bind fun xs=>if es.all rP=true/\ps.length=es.length then some (.cmp a ps xs) else none
  |.Subscript l i _=>xV (eE T n nm wu nx) l i
  |.Attribute o m _=>if wD o=true then(eE T n nm wu nx o).map fun a=>.attr a m else none
  |.Call f es kw pos=>if kw=[] then nE T nm (eE T n nm wu nx) f es pos else none
  |.ListComp elt gs scope _=>(iw gs).bind fun g=>(if(DI nm scope.names wu nx=true/\scope.kind=.function)/\rP g.2.1=true then
    qC scope.names (yI wu scope.names) nx g.1 else none).bind fun q=>(eE T n nm wu nx g.2.1).bind fun xs=>
     (eE T n (i3 nm scope.names) q.1 q.2.2 elt).bind fun x=>(aH (eE T n (i3 nm scope.names) q.1 q.2.2) g.2.2).map fun ys=>.comp x q.2.1 xs ys
  |_=>none
def BO(c:Cx)(x:Str):Prop:=∀GJ:Prop,(∀(a:Addr),∀(o:Obj),∀(fd:qbe),(c.g x=some (.ref a))->(c.h0.get? a=some o)->(o.data=.func fd)->GJ)->GJ
inductive ot(c:Cx)(x:Str)(t:Tc):Prop
 |mk (S:String)(h1:t.real=some S)(h2:x=ar S)(h3:c.g x=none)(h4:c.b x=some (.type S)):ot c x t
 |own (h1:t=.own x)(h2:x∈kids\/x=ar "ValueError"):ot c x t
structure aX(c:Cx)(T:Tab):Prop where
 fn:∀x,T.g.lookup x=some .fn->BO c x
 val:∀x v,T.g.lookup x=some (.val v)->∃r,c.g x=some r/\ax c [] c.h0 v r
 blt:∀x b,T.g.lookup x=some (.blt b)->c.g x=none/\c.b x=some b.real
 isi:∀x,T.g.lookup x=some .isi->x=ar "isinstance"/\c.g x=none/\c.b x=some (.builtin "isinstance")
 enum:∀x,T.g.lookup x=some .enum->c.g x=none/\c.b x=some (.type "enumerate")
 rev:∀x,T.g.lookup x=some .rev->c.g x=none/\c.b x=some (.type "reversed")
 ty:∀x t,T.t.lookup x=some t->ot c x t
 ex:cH c
 nt:eD c
 lam:∀kk fd nm,c.lam kk fd nm->eB kk fd nm
def bU(c:Cx)(wz:Env)(wu:Res)(e:Expr)(x:Ex):Prop:=aT c wz wu e x/\mB c wz wu e x
theorem Dn{f:α->Option β}:∀{l:List α}{r:List β},aH f l=some r->l.length=r.length
 |[],r,h=>by obtain rfl:=ai h;rfl
 |a::l,r,h=>by
  refine(iW h) _ fun b bs J h2 wk=>?_;subst wk;exact congrArg (· + 1) (Dn h2)
theorem wA(ih:∀e x,r e=some x->bU c wz wu e x):∀{es:List Expr}{xs:List Ex},aH r es=some xs->lT c wz wu es xs
 |[],_,h=>by obtain rfl:=ai h;rfl
 |e::es,_,h=>by
  refine(iW h) _ fun x xs h1 h2 wk=>?_;subst wk;exact⟨(ih _ _ h1).1,wA ih h2⟩
theorem yi(ih:∀e x,r e=some x->bU c wz wu e x):∀{es:List Expr}{xs:List Ex},aH r es=some xs->iP c wz wu es xs
 |[],_,h=>by obtain rfl:=ai h;rfl
 |e::es,_,h=>by
  refine(iW h) _ fun x xs h1 h2 wk=>?_;subst wk;exact⟨(ih _ _ h1).2,yi ih h2⟩
theorem pQ(ih:∀e x,r e=some x->bU c wz wu e x):∀{es:List Expr}{xs:List Ex},aH r es=some xs->es.all dM=true->gG c wz wu es xs
 |[],_,h,_=>by obtain rfl:=ai h;exact CV
 |e::es,_,h,hn=>by
  refine(iW h) _ fun x xs h1 h2 wk=>?_;subst wk;revert hn;refine xA fun n1 n2=>?_;exact xK n1 (ih _ _ h1).1 (pQ ih h2 n2)
end
variable {T Tb:Tab}{i:Nat}{p:Pos}{q:Bool}{x:Ex}
section
open PySem PyProof.Rows
def fc(h:aT c wz wu e x)(hp:Dq e=true):bU c wz wu e x:=⟨h,Ir h hp⟩
theorem D1{scope:Scope}{nm:List (Str×aU)}(h:wz.scope.names=nm)(hk:wz.scope.kind=.function):(eP scope wz).names=i3 nm scope.names:=by
 unfold eP i3;simp only;refine List.map_congr_left fun p J=>?_;obtain⟨n,k⟩:=p;have:wz.kindOf n=nm.lookup n:=by rw[<- h];rfl
 simp only[this,hk];cases k<;>simp
theorem Cw{f:Str×α->Option β}:∀{l:List (Str×α)}{x:Str}{i:β},(l.filterMap fun p=>(f p).map fun i=>(p.1,i)).lookup x=some i->∃p∈l,p.1=x/\f p=some i
 |p::l,x,i,h=>by
  rw[List.filterMap_cons] at h;refine xC (f p) (fun hp=>?_) fun r hp=>?_
  ·rw[hp] at h;obtain⟨q,hq,hq'⟩:=Cw h;exact⟨q,a0 _ hq,hq'⟩
  ·rw[hp] at h;change List.lookup x ((p.1,r)::_)=_ at h;rw[dr] at h;refine xD (x==p.1) (fun hb=>?_) fun hb=>?_
   ·rw[hb] at h;exact⟨p,aI,(beq_iff_eq.mp hb).symm,by rw[<- h];exact hp⟩
   ·rw[hb] at h;obtain⟨q,hq,hq'⟩:=Cw h;exact⟨q,a0 _ hq,hq'⟩
def FX{x:Str}(h:(yI wu names).lookup x=some i):(x,eV)∈names/\wu.lookup x=some i:=by
 obtain⟨⟨n,k⟩,hp,rfl,hp'⟩:=Cw (f:=fun p:Str×aU=>if p.2=.free then wu.lookup p.1 else none) h;revert hp';refine xO fun hk hl=>?_;obtain rfl:k=.free:=hk;exact⟨hp,hl⟩
def DP{x:Str}(h:List.lookup y ((x,nx)::l)=some j):(y=x/\j=nx)\/(y≠x/\l.lookup y=some j):=by
 rw[dr] at h;refine xD (y==x) (fun hb=>?_) fun hb=>?_
 ·rw[hb] at h;exact .inl ⟨beq_iff_eq.mp hb,(ai h).symm⟩
 ·rw[hb] at h;exact .inr ⟨beq_eq_false_iff_ne.mp hb,h⟩
def CQ{x:Str}(h:zr names x=true):(names.lookup x=some .local\/names.lookup x=some .cell)/\x≠cD/\x≠ar "at":=by
 revert h;refine xA fun h1 h2=>?_;revert h1;refine xA fun h0 h1=>?_;exact⟨(nN.mp h0).imp beq_iff_eq.mp beq_iff_eq.mp,bne_iff_ne.mp h1,bne_iff_ne.mp h2⟩
def AK{x:Str}(hk:wv.kindOf x=some .local\/(al x=true/\wv.kindOf x=some .cell))(hj:x≠cD/\x≠ar "at")(hlt:nx<r0.n)(hb:∀y j,r0.lookup y=some j->j<nx) :
  a8 al wv r0 ⟨r0.fr,r0.n,(x,nx)::r0.t⟩ x nx:=
 ⟨⟨rfl,rfl,fun y j hy=>(DP hy).imp id fun h=>⟨h.1,h.2,ck (hb y j h.2)⟩,hlt,hj.1,.inl hj.2⟩,hk⟩
structure uv(nm:List (Str×aU))(wu:Res)(nx:Nat)(names:List (Str×aU))(n:Str):Prop where
 free:names.lookup n=some .free
 kind:nm.lookup n=some .cell\/nm.lookup n=some .free
 slot:∃i,wu.lookup n=some i/\i<nx
structure xZ(r0 res':Res)(scope:Scope)(wz:Env)(tgt:Expr)(t:Tg):Prop where
 n:res'.n=r0.n/\res'.fr=false
 tg:∀wv:Env,wv.scope=eP scope wz->kU (iQ scope) wv r0 res' tgt t
 sub:∀y i,r0.lookup y=some i->(y,eV)∈scope.names->res'.lookup y=some i/\t.out i
def CW{x:Str}(h:y≠x)(hl:l.lookup y=o):List.lookup y ((x,nx)::l)=o:=by
 rw[dr,beq_eq_false_iff_ne.mpr h];exact hl
theorem u4{scope:Scope}(hfr:r0.fr=false)(hfree:∀n,(n,eV)∈scope.names->scope.names.lookup n=some .free)(hb:∀y j,r0.lookup y=some j->j<nx) (ht:qC scope.names r0 nx tgt=some (res',t,nx')):xZ r0 res' scope wz tgt t:=by
 have hloc:∀wv:Env,wv.scope=eP scope wz->∀x,(scope.names.lookup x=some .local\/scope.names.lookup x=some .cell)->wv.kindOf x=some .local\/(iQ scope x=true/\wv.kindOf x=some .cell):=fun wv hcs x hx=>by
  show List.lookup x wv.scope.names=_\/_/\List.lookup x wv.scope.names=_;rw[hcs];rcases hx with hx |hx
  ·exact .inl (lookup_relabel_local hx)
  ·exact .inr ⟨by rw[iQ,hx];rfl,(Dd hx).trans rfl⟩
 have ne:∀{x y:Str},(scope.names.lookup x=some .local\/scope.names.lookup x=some .cell)->(y,eV)∈scope.names->y≠x:=fun{x y} hx hy q=>by
  subst q;rcases hx with hx |hx<;>(rw[hfree y hy] at hx;injection hx with Ja;injection Ja)
 obtain⟨fr,n,l⟩:=r0;obtain rfl:fr=false:=hfr;unfold qC at ht;refine xC (fT tgt) (fun hn=>?_) fun x hn=>?_
 ·rw[hn] at ht;revert ht;refine xB fun es h1 ht1=>?_;skip;obtain⟨k,p,rfl⟩:=JO h1;revert ht1;refine xB fun xs h2 ht2=>?_;skip;match xs,ht2,h2 with
  |[x,y],ht3,h2=>
   obtain⟨⟨h3,h4,h5⟩,e⟩:=lj ht3;obtain⟨t1,t2⟩:=CQ h3;obtain⟨u1,u2⟩:=CQ h4;(injection e with Ja Jb;injection Jb with w4 Jb1;subst Jb1;subst w4;subst Ja);match es,h2 with
   |e1::es,h2=>
    refine(iW h2) _ fun J J a1 a2 a3=>?_;clear h2;(injection a3 with Ja Jb;subst Jb;subst Ja);obtain⟨p1,rfl⟩:=gJ a1;match es,a2 with
    |e2::es,a2=>
     refine(iW a2) _ fun J J b1 b2 b3=>?_;clear a2;(injection b3 with Ja Jb;subst Jb;subst Ja);obtain⟨p2,rfl⟩:=gJ b1;match es,b2 with
     |[],_=>
      refine⟨⟨rfl,rfl⟩,fun wv hcs=>⟨_,_,_,rfl,x,p1,⟨false,n,(x,nx)::l⟩,rfl,AK (hloc wv hcs x t1) t2 (Nat.lt_of_succ_lt h5) hb,y,p2,_,rfl,AK (r0:=⟨false,n,(x,nx)::l⟩) (hloc wv hcs y u1) u2 h5 fun z j hz=>?_,rfl,rfl⟩,
       fun z i hz hm=>⟨CW (ne u1 hm) (CW (ne t1 hm) hz),ck (hb z i hz),ck (Nat.lt_succ_of_lt (hb z i hz))⟩⟩
      rcases DP hz with⟨_,rfl⟩|⟨_,h⟩
      ·exact Nat.lt_succ_self _
      ·exact Nat.lt_succ_of_lt (hb z j h)
     |_::_,b2=>
      refine(iW b2) _ fun J J J J b4=>?_;injection b4
 ·rw[hn] at ht;obtain⟨p,rfl⟩:=gJ hn;obtain⟨⟨h1,h2⟩,e⟩:=lj ht;obtain⟨t1,t2⟩:=CQ h1;(injection e with Ja Jb;injection Jb with w4 Jb1;subst Jb1;subst w4;subst Ja);exact⟨⟨rfl,rfl⟩,fun wv hcs=>⟨x,p,rfl,AK (hloc wv hcs x t1) t2 h2 hb⟩,fun y i hy hm=>⟨CW (ne t1 hm) hy,ck (hb y i hy)⟩⟩
def GA{nm:List (Str×aU)}{scope:Scope}(hnm:wz.scope.names=nm)(hc:DI nm scope.names wu nx=true)(hkind:scope.kind=.function) (ht:qC scope.names (yI wu scope.names) nx tgt=some (res',t,nx')):cT c wz wu (yI wu scope.names) res' scope tgt t:=by
 revert hc;refine xA fun hc h1c=>?_;have hall:=dg.mp hc;have hfree:∀n,(n,eV)∈scope.names->uv nm wu nx scope.names n:=fun n hn=>by
  obtain⟨h1,h2,i,hi,h3⟩:=jR (hall _ hn);exact⟨h1,h2,i,hi,h3⟩
 have hb:∀y j,(yI wu scope.names).lookup y=some j->j<nx:=fun y j hy=>by
  obtain⟨h1,h2⟩:=FX hy;obtain⟨i,h3,h4⟩:=(hfree y h1).slot;obtain rfl:=ai (h2.symm.trans h3);exact h4
 have b:=u4 (wz:=wz) rfl (fun n hn=>(hfree n hn).free) hb ht;refine⟨hkind,fun n n' h1 h2=>jK (of_decide_eq_true h1c) h1 h2,fun n hn hm=>(nomatch ((FH (hall _ hm)).1 rfl).symm.trans (hfree n hn).free),fun y hy q=>(FH (hall y hy)).2 q,fun n hn=>?_,rfl,rfl,fun x i hx=>?_,b.n,b.tg⟩
 ·have:wz.kindOf n=nm.lookup n:=by rw[<- hnm];rfl
  rw[this];obtain⟨i,h3,_⟩:=(hfree n hn).slot;exact⟨(hfree n hn).kind,i,h3⟩
 ·obtain⟨h1,h2⟩:=FX hx;exact⟨h2,h1,(hfree x h1).free,(b.sub x i hx h1).1,(b.sub x i hx h1).2⟩
def rp{nm:List (Str×aU)}(hnm:wz.scope.names=nm)(h:nJ nm f=true):wz.kindOf f=some .globalImplicit/\(f==("__debug__":Str))=false:=by
 revert h;refine xA fun h1 h2=>?_;refine⟨?_,(Fp h1).1⟩;show List.lookup f wz.scope.names=_;rw[hnm];exact beq_iff_eq.mp h2
def Bf(h:rP iter=true):∀x,wb iter wz x=pure x:=fun x=>by
 cases iter<;>first |rfl |injection h
theorem E0(h:iw gs=some g):gs=[⟨g.1,g.2.1,g.2.2,0⟩]:=by
 match gs,h with
 |[⟨a,b,c,d⟩],h=>
  revert h;refine xS fun h0 wj=>?_;subst wj;obtain rfl:d=0:=h0;rfl
section
variable {nm:List (Str×aU)}
theorem Hm{k:Const}(h:lk k=some x):bU c wz wu (.Constant k n p) x:=by
 cases k with
 |int=>obtain rfl:=ai h;exact fc Iu rfl
 |str=>obtain rfl:=ai h;exact fc Hg rfl
 |bool=>obtain rfl:=ai h;exact fc HJ rfl
 |none=>obtain rfl:=ai h;exact fc Hq rfl
 |_=>injection h
theorem jL(O:c.Ok)(TO:aX c T)(hnm:wz.scope.names=nm)(h:rh T nm wu y=some x):bU c wz wu (.Name y p) x:=by
 revert h;refine xO fun h1 h=>?_;obtain⟨n1,n2⟩:=Fp h1;refine xC (wu.lookup y) (fun h2=>?_) fun i h2=>?_
 ·rw[h2] at h;revert h;refine xO fun h2 h=>?_;revert h;refine xM fun v h3 wj=>?_;subst wj;revert h3;refine xB fun g h4 h5=>?_;cases g with
  |val w=>
   obtain rfl:=ai h5;obtain⟨q,hr,hR⟩:=TO.val _ _ h4;refine fc (Ic O ?_ hr hR n1) rfl;show List.lookup _ wz.scope.names=_;rw[hnm];exact beq_iff_eq.mp h2
  |_=>injection h5
 ·rw[h2] at h;obtain rfl:=ai h;exact fc (Gi h2 n1 n2) rfl
theorem Ft(ih:∀e x,r e=some x->bU c wz wu e x){o:Option Expr}{y:Ex}(q:qD r o=some y):Ad c wz wu o y:=by
 cases o with
 |none=>exact(ai q).symm
 |some e=>exact(ih _ _ q).1
theorem qx(ih:∀e x,r e=some x->bU c wz wu e x){l i:Expr}(h:xV r l i=some x):bU c wz wu (.Subscript l i p) x:=by
 revert h;refine xB fun a h1 h2=>?_;refine xC (nY i) (fun hs=>?_) fun q hs=>?_
 ·rw[hs] at h2;revert h2;refine xM fun y h3 wj=>?_;subst wj;exact fc (IR (ih _ _ h1).1 (ih _ _ h3).1) rfl
 ·rw[hs] at h2;obtain⟨lo,hi,st⟩:=q;obtain⟨p',rfl⟩:=ku hs;cases st with
  |none=>
   refine xB (fun y h3 h4=>?_) (show(qD r lo).bind _=some x from h2);revert h4;refine xM fun z h5 wj=>?_;subst wj;exact fc (Ku (ih _ _ h1).1 (Ft ih h3) (Ft ih h5)) rfl
  |some s=>
   obtain⟨⟨h3,h4,h5⟩,rfl⟩:=lj h2;obtain⟨k,q,q',rfl⟩:=GF h3;obtain rfl:lo=none:=h4;obtain rfl:hi=none:=h5;exact fc (Hi (ih _ _ h1).1) rfl
theorem qs(O:c.Ok)(TO:aX c T)(hnm:wz.scope.names=nm)(ih:∀e x,r e=some x->bU c wz wu e x)(h1:nJ nm f=true)(h2:T.g.lookup f=some .isi)(h:yr T nm r es=some x):bU c wz wu (.Call (.Name f p) es [] p') x:=by
 match es,h with
 |[e,t],h=>
  revert h;refine xB fun t ht k=>?_;obtain⟨q,rfl⟩:=gJ ht;revert k;refine xB fun tc h4 k=>?_;revert k;refine xB fun y h5 k6=>?_;obtain⟨⟨h6,h7⟩,rfl⟩:=lj k6;obtain⟨rfl,g1,g2⟩:=TO.isi _ h2;obtain⟨k1,_⟩:=rp hnm h1;obtain⟨k2,k3⟩:=rp hnm h6;cases TO.ty _ _ h4 with
  |mk S s1 s2 s3 s4=>subst s2;exact fc (JZ O s1 k1 k2 g1 g2 s3 s4 k3 h7 (ih _ _ h5).1) rfl
  |own s1 s2=>subst s1;exact fc (J7 O TO.ex s2 k1 k2 g1 g2 k3 h7 (ih _ _ h5).1) rfl
theorem lN(O:c.Ok)(TO:aX c T)(hnm:wz.scope.names=nm)(ih:∀e x,r e=some x->bU c wz wu e x){f:Expr}(h:nE T nm r f es p=some x):bU c wz wu (.Call f es [] p) x:=by
 unfold nE at h;refine xC (fT f) (fun hf=>?_) fun f' hf=>?_
 ·rw[hf] at h;revert h;refine xB fun q ha h'=>?_;skip;obtain rfl:=HG ha;revert h';refine xB fun me h1 k=>?_;revert k;refine xB fun y h2 k2=>?_;revert k2;refine xB fun xs h3 k3=>?_;revert k3;refine xS fun h4 wj=>?_;subst wj;rw[oU h1];exact fc (Ii h4.1.2 h4.2.1 h4.2.2 (ih _ _ h2).1 (pQ ih h3 h4.1.1)) rfl
 ·rw[hf] at h;obtain⟨p',rfl⟩:=gJ hf;by_cases hj:f'=cD
  ·replace h:=(if_pos hj).symm.trans h;revert h;refine xB fun xs m3 h4=>?_;revert h4;refine xS fun h5 wj=>?_;subst wj;rw[hj];exact fc (Jg O TO.lam (pQ ih m3 h5.1) h5.2) rfl
  replace h:=(if_neg hj).symm.trans h;revert h;refine xO fun h1 h=>?_;obtain⟨k1,k2⟩:=rp hnm h1;revert h;refine xB fun g h2 h3=>?_;cases g with
  |fn=>
   refine xB (fun xs m3 h4=>?_) (show(aH r es).bind _=some x from h3);revert h4;refine xS fun h5 wj=>?_;subst wj;refine(TO.fn _ h2) _ fun a o fd g1 g2 g3=>?_;exact fc (Gd O k1 g1 g2 g3 k2 (pQ ih m3 h5.1) h5.2) rfl
  |blt b=>
   refine xB (fun xs m3 h4=>?_) (show(aH r es).bind _=some x from h3);revert h4;refine xS fun h5 wj=>?_;subst wj;obtain⟨g1,g2⟩:=TO.blt _ _ h2;exact fc (Hu O k1 g1 g2 k2 (pQ ih m3 h5.1) h5.2) rfl
  |isi=>exact qs O TO hnm ih h1 h2 h3
  |_=>injection h3
end
theorem ip(O:c.Ok)(TO:aX c T):∀n {nm:List (Str×aU)}{wu:Res}{nx:Nat}{e:Expr}{x:Ex}{wz:Env},eE T n nm wu nx e=some x->wz.scope.names=nm->wz.scope.kind=.function->bU c wz wu e x
 |0,_,_,_,_,_,_,h,_,_=>nomatch h
 |n+1,nm,wu,nx,e,x,wz,h,hnm,hef=>by
  have ih:∀e x,eE T n nm wu nx e=some x->bU c wz wu e x:=fun e x h=>ip O TO n h hnm hef;cases e with
  |Constant k i p=>exact Hm h
  |Name y p=>exact jL O TO hnm h
  |Tuple es k p=>
   refine xB (fun xs h1 h2=>?_) (show(aH _ es).bind _=some x from h);revert h2;refine xS fun h3 wj=>?_;subst wj;exact fc (J8 (pQ ih h1 h3.1) h3.2) rfl
  |List es p=>
   refine xB (fun xs h1 h2=>?_) (show(aH _ es).bind _=some x from h);revert h2;refine xS fun h3 wj=>?_;subst wj;exact fc (KH (pQ ih h1 h3.1) h3.2) rfl
  |BinOp l op r p=>
   refine xB (fun o h1 h2=>?_) (show(tN op).bind _=some x from h);revert h2;refine xB fun a h3 h4=>?_;revert h4;refine xM fun b h5 wj=>?_;subst wj;rw[I1 h1];exact fc (Iq O (ih _ _ h3).1 (ih _ _ h5).1) rfl
  |UnaryOp o l p=>
   refine xB (fun f h1 h2=>?_) (show(Fd o).bind _=some x from h);revert h2;refine xM fun a h3 wj=>?_;subst wj;cases o with
   |USub=>obtain rfl:=ai h1;exact fc (Js (ih _ _ h3).1) rfl
   |Not=>obtain rfl:=ai h1;exact⟨IG (ih _ _ h3).1,G9 (ih _ _ h3).2⟩
   |_=>injection h1
  |BoolOp o es p=>
   refine xM (fun xs h1 wj=>?_) (show(aH _ es).map _=some x from h);subst wj;cases o with
   |And=>exact⟨Iy (wA ih h1),JN (yi ih h1)⟩
   |Or=>exact⟨nF (wA ih h1),KB (yi ih h1)⟩
  |Compare l ops es p=>
   refine xB (fun ps h1 h2=>?_) (show(aH _ ops).bind _=some x from h);revert h2;refine xB fun a h3 h4=>?_;revert h4;refine xB fun xs h5 h6=>?_;revert h6;refine xS fun h7 wj=>?_;subst wj;rw[DM h1];exact⟨G8 (ih _ _ h3).1 (wA ih h5) h7.2 h7.1,JK (ih _ _ h3).1 (wA ih h5) h7.2 h7.1⟩
  |Subscript l i p=>exact qx ih h
  |Attribute o m p=>
   revert h;refine xO fun h1 h2=>?_;revert h2;refine xM fun a h3 wj=>?_;subst wj;exact fc (Ko TO.nt h1 (ih _ _ h3).1) rfl
  |Call f es kw p=>
   revert h;refine xO fun h3 h2=>?_;obtain rfl:kw=[]:=h3;exact lN O TO hnm ih h2
  |ListComp elt gs scope p=>
   refine xB (fun g h1 h2=>?_) (show(iw gs).bind _=some x from h);revert h2;refine xB fun q h3 h4=>?_;revert h3;refine xO fun h5 h6=>?_;revert h4;refine xB fun xs h7 h8=>?_;revert h8;refine xB fun y h9 h10=>?_;revert h10;refine xM fun ys h11 wj=>?_;subst wj;obtain rfl:=E0 h1;have sub:∀wv:Env,wv.scope=eP scope wz->∀e x,eE T n (i3 nm scope.names) q.1 q.2.2 e=some x->bU c wv q.1 e x:=fun wv hcs e x h=>ip O TO n h (by rw[hcs];exact D1 hnm hef) (by rw[hcs];exact h5.1.2);exact fc (Jr (GA (c:=c) hnm h5.1.1 h5.1.2 h6) (Bf h5.2) (ih _ _ h7).1 (fun wv hcs=>(sub wv hcs _ _ h9).1) fun wv hcs=>yi (sub wv hcs) h11) rfl
  |_=>injection h
end
variable {f:Stmt->Option St}{g:List Nat}{gs:List (List Nat)}{l r:Nat}{o:Option Gk}{x:St}
section
open PySem PyProof.Rows
noncomputable def iV(nm:List (Str×aU))(wu:Res)(y:Str):Option Nat:=
 (wu.lookup y).bind fun i=>if(nm.lookup y=some .local\/nm.lookup y=some .cell)/\y≠cD/\wu.fr=true then some i else none
noncomputable def nQ(wu:Res):Bool:=decide ((wu.t.map (·.2)).Nodup)&&wu.t.all fun p=>decide (p.2<wu.n)
noncomputable def AW(nm:List (Str×aU))(wu:Res)(e:Expr):Option Nat:=(fT e).bind (iV nm wu)
noncomputable def AR(nm:List (Str×aU))(wu:Res)(e:Expr):Option Tg:=match ev e with
 |.name x _ _=>(iV nm wu x).map .one
 |.tup es _ _ _=>(aH (AW nm wu) es).bind fun l=>match l with
  |[i,j]=>some (.two i j)
  |_=>none
 |_=>none
noncomputable def nH:Expr->Bool
 |.Tuple ..=>true
 |_=>false
noncomputable def C2:Expr->Bool
 |.ListComp .. |.SetComp .. |.DictComp ..=>true
 |_=>false
noncomputable def pU{α β:Type}(l:List α)(f:α->Option β):Option β:=match l with
 |[]=>none
 |x::r=>match r with
  |[]=>f x
  |_::_=>none
theorem D5{l:List α}{f:α->Option β}{r:β}(h:pU l f=some r):∃x,l=[x]/\f x=some r:=by
 cases l with
 |nil=>injection h
 |cons x l=>cases l with
  |nil=>exact⟨x,rfl,h⟩
  |cons=>injection h
noncomputable def pN(e:Expr):Option (Str×Expr):=match ev e with
 |.call f es kw _ _=>(fT f).bind fun x=>pU es fun e=>if kw=[] then some (x,e) else none
 |_=>none
theorem EO{i:Expr}{f:Str}(h:pN i=some (f,e)):∃p p',i=.Call (.Name f p) [e] [] p':=by
 unfold pN at h;generalize ev i=v at h;cases v with
 |call g es kw p' q=>
  revert h;refine xB fun x h1 k=>?_;obtain⟨e',rfl,k2⟩:=D5 k;revert k2;refine xS fun h2 k3=>?_;obtain⟨p,rfl⟩:=gJ h1;(injection k3 with Ja Jb;subst Jb;subst Ja);obtain rfl:kw=[]:=h2;exact⟨p,p',q⟩
 |_=>injection h
noncomputable def Kf(r:Expr->Option Ex)(tg:Expr)(e:Expr)(dflt:Option Sr)(g:Gk):Option Sr:=match g with
 |.enum=>if nH tg=true then(r e).map .enum else none
 |.rev=>(r e).map .rev
 |_=>dflt
noncomputable def CT(T:Tab)(n:Nat)(nm:List (Str×aU))(wu:Res)(nx:Nat)(tg:Expr)(iter:Expr):Option Sr:=
 match(pN iter).bind fun q=>if nJ nm q.1=true/\dM q.2=true then(T.g.lookup q.1).map fun g=>(q,g) else none with
 |some q=>Kf (eE T n nm wu nx) tg q.1.2 ((eE T n nm wu nx iter).map .val) q.2
 |none=>(eE T n nm wu nx iter).map .val
noncomputable def wt(T:Tab)(n:Nat)(nm:List (Str×aU))(wu:Res)(nx:Nat)(e:Expr)(t:Expr):Option St:=match ev t with
 |.name y _ _=>(iV nm wu y).bind fun i=>(eE T n nm wu nx e).map fun x=>.set i x
 |.tup es _ _ _=>(aH (AW nm wu) es).bind fun is=>(eE T n nm wu nx e).bind fun x=>if nH e=false then some (.unp is x) else none
 |.sub o i _ _=>(eE T n nm wu nx o).bind fun a=>(eE T n nm wu nx i).bind fun j=>(eE T n nm wu nx e).map fun x=>.put a j x
 |_=>none
noncomputable def yo(T:Tab)(n:Nat)(nm:List (Str×aU))(wu:Res)(nx:Nat)(cn:Str)(es:List Expr)(kw:List Keyword):Option St:=
 if nJ nm cn=true/\cn=ar "BadNet"/\kw=[]/\es.all dM=true/\es.length=1 then(aH (eE T n nm wu nx) es).map (.rais cn) else some .stuck
noncomputable def tm(T:Tab)(n:Nat)(nm:List (Str×aU))(wu:Res)(nx:Nat)(e:Expr):Option St:=match ev e with
 |.call f es kw _ _=>match fT f with
  |some cn=>if nJ nm cn=true/\cn∈kids/\cn≠ar "BadNet"/\kw=[]/\es.all dM=true/\es≠[]/\es.length<=9 then(aH (eE T n nm wu nx) es).map (.rais cn) else yo T n nm wu nx cn es kw
  |none=>some .stuck
 |_=>some .stuck
structure Hand where
 t:Expr
 n:Str
 h:Stmt
 hs:List Stmt
 p:Pos
noncomputable def JU:List Stmt->Option (Stmt×List Stmt)
 |[]=>none
 |h::hs=>some (h,hs)
noncomputable def w5:ExceptHandler->Option Hand
 |.ExceptHandler t n b p=>t.bind fun t=>n.bind fun n=>(JU b).map fun q=>⟨t,n,q.1,q.2,p⟩
noncomputable def A0(l:List ExceptHandler):Option Hand:=match l with
 |[]=>none
 |a::r=>match r with
  |[]=>w5 a
  |_::_=>none
theorem Jv {l:List ExceptHandler} {k:Hand} (h:A0 l=some k):l=[.ExceptHandler (some k.t) (some k.n) (k.h::k.hs) k.p]:=by
 cases l with
 |nil=>injection h
 |cons a r=>cases r with
  |cons=>cases h
  |nil=>
   obtain⟨t,n,b,p⟩:=a;refine xB (fun t wj h=>?_) (show t.bind _=_ from h);subst wj;revert h;refine xB fun n wj h=>?_;subst wj;revert h;refine xM fun q hb wj=>?_;subst wj;cases b with
   |nil=>cases hb
   |cons s hs=>obtain rfl:=ai hb;rfl
noncomputable def tj (f:Stmt->Option St) (nm:List (Str×aU)) (wu:Res) (b:List Stmt) (hs:List ExceptHandler) (els fin:List Stmt):Option St:=match A0 hs with
 |some k=>if els=[]/\fin=[]/\fT k.t=some (ar "NetError")/\nJ nm (ar "NetError")=true/\nm.lookup k.n=some .local then
   (iV nm wu k.n).bind fun i=>(aH f b).bind fun xb=>(aH f (k.h::k.hs)).map fun xh=>.tri xb i xh else some .stuck
 |none=>some .stuck
noncomputable def eS(T:Tab):Nat->List (Str×aU)->Res->Nat->Stmt->Option St
 |0,_,_,_,_=>none
 |n+1,nm,wu,nx,st=>match st with
  |.Assign ts e _=>pU ts (wt T n nm wu nx e)
  |.Expr e _=>if C2 e=false then(eE T n nm wu nx e).map .expr else none
  |.Return o _=>o.bind fun e=>(eE T n nm wu nx e).map .ret
  |.If t a b _=>(eE T n nm wu nx t).bind fun x=>(aH (eS T n nm wu nx) a).bind fun xa=>(aH (eS T n nm wu nx) b).map fun xb=>.ite x xa xb
  |.While t b els _=>if els=[] then(eE T n nm wu nx t).bind fun x=>(aH (eS T n nm wu nx) b).map fun xb=>.whil x xb else none
  |.For tg iter b els _=>if rP iter=true/\els=[] then(AR nm wu tg).bind fun t=>(CT T n nm wu nx tg iter).bind fun sr=>(aH (eS T n nm wu nx) b).map fun xb=>.loop t sr xb else none
  |.Raise o q _=>(match o,q with |some e,none=>tm T n nm wu nx e |_,_=>some .stuck)
  |.Try b hs els fin _=>tj (eS T n nm wu nx) nm wu b hs els fin
  |_=>none
section
variable {nm:List (Str×aU)}
theorem Fy:∀{l:List (Str×Nat)},(l.map (·.2)).Nodup->∀{x y:Str} {i:Nat},l.lookup x=some i->l.lookup y=some i->x=y
 |[],_,_,_,_,h,_=>by simp at h
 |(k,v)::l,hn,x,y,i,hx,hy=>by
  rw[fK,lX] at hn;rw[dr] at hx hy;have notin:∀{z:Str},l.lookup z=some i->v≠i:=fun{z} hz q=>hn.1 (by
   rw[fg];exact⟨(z,i),fW hz,q.symm⟩)
  refine xD (x==k) (fun h1=>?_) fun h1=>?_
  ·rw[h1] at hx;simp at hx;refine xD (y==k) (fun h2=>?_) fun h2=>?_
   ·rw[beq_iff_eq.mp h1,beq_iff_eq.mp h2]
   ·rw[h2] at hy;exact absurd hx (notin hy)
  ·rw[h1] at hx;refine xD (y==k) (fun h2=>?_) fun h2=>?_
   ·rw[h2] at hy;simp at hy;exact absurd hy (notin hx)
   ·rw[h2] at hy;exact Fy hn.2 hx hy
def xy (hr:nQ wu=true) (hnm:wz.scope.names=nm) (h:iV nm wu y=some i):a8 aO wz wu wu y i:=by
 revert h;refine xB fun j hj h=>?_;revert h;refine xS fun hc wj=>?_;subst wj;revert hr;refine xA fun r1 r2=>?_;have hk:wz.kindOf y=nm.lookup y:=by rw[<- hnm];rfl
 refine⟨⟨rfl,rfl,fun z k hz=>?_,of_decide_eq_true (dg.mp r2 _ (fW hj)),hc.2.1,.inr hc.2.2⟩,?_⟩
 ·by_cases q:z=y
  ·subst q;exact .inl ⟨rfl,ai (hz.symm.trans hj)⟩
  ·exact .inr ⟨q,hz,fun e=>q (Fy (of_decide_eq_true r1) hz (e▸hj))⟩
 ·rw[hk];exact hc.1.imp id fun h=>⟨rfl,h⟩
theorem C0(hr:nQ wu=true)(hnm:wz.scope.names=nm):∀{es:List Expr}{is:List Nat},aH (AW nm wu) es=some is->tE aO wz wu wu es is
 |[],is,h=>by obtain rfl:=ai h;exact⟨rfl,rfl⟩
 |e::es,is,h=>by
  refine(iW h) _ fun i is h1 h2 wk=>?_;subst wk;revert h1;refine xB fun x h3 h4=>?_;obtain⟨p,rfl⟩:=gJ h3;exact⟨x,p,wu,rfl,xy hr hnm h4,C0 hr hnm h2⟩
theorem r7(hr:nQ wu=true)(hnm:wz.scope.names=nm)(h:AR nm wu tg=some t):kU aO wz wu wu tg t:=by
 unfold AR at h;generalize ev tg=v at h;cases v with
 |name x p e=>
  revert h;refine xM fun i h1 wj=>?_;subst wj;exact⟨x,p,e,xy hr hnm h1⟩
 |tup es k p e=>
  revert h;refine xB fun l h1 k2=>?_;match l,k2,h1 with
  |[i,j],k2,h1=>
   obtain rfl:=ai k2;exact⟨es,k,p,e,C0 hr hnm h1⟩
 |_=>injection h
def ur:eZ c wz wu X st .stuck:=fun A q d k loc φ H s Q E hA hh hF hS hw=>False.elim hw
def Gx{t:Option Expr}(h:C2 e=false):swapsWith e t l wz=pure false:=by
 cases e<;>first |rfl |injection h
def G4:swapsWithSole [.Tuple es k p] e l wz=pure false:=by cases e<;>rfl
def Hr(h:nH e=false):swappedStores [.Tuple es k p] e wz=pure none:=by cases e<;>first |rfl |injection h
def JV{o i:Expr}:swapsWith e (some (.Subscript o i p)) l wz=pure false:=by cases e<;>rfl
theorem II(O:c.Ok)(TO:aX c T)(h:CT T n nm wu nx tg iter=some sr)(hnm:wz.scope.names=nm)(hef:wz.scope.kind=.function):vk c wz wu tg iter sr:=by
 have val:(eE T n nm wu nx iter).map .val=some sr->vk c wz wu tg iter sr:=fun h=>by
  revert h;refine xM fun x h1 wj=>?_;subst wj;exact tI (ip O TO n h1 hnm hef).1
 unfold CT at h;refine xC (((pN iter).bind fun q=>if nJ nm q.1=true/\dM q.2=true then(T.g.lookup q.1).map fun g=>(q,g) else none)) (fun hs=>?_) fun q hs=>?_
 ·rw[hs] at h;exact val h
 ·rw[hs] at h;obtain⟨⟨f,e⟩,h1,h2⟩:=vV.mp hs;revert h2;refine xO fun h3 h4=>?_;revert h4;refine xM fun g h5 wj=>?_;subst wj;obtain⟨k1,k2⟩:=rp hnm h3.1;cases g with
  |enum=>
   obtain⟨p,p',rfl⟩:=EO h1;obtain⟨g1,g2⟩:=TO.enum _ h5;revert h;refine xO fun ht h=>?_;revert h;refine xM fun x h6 wj=>?_;subst wj;cases tg with
   |Tuple=>exact qa O k1 g1 g2 k2 h3.2 (ip O TO n h6 hnm hef).1
   |_=>injection ht
  |rev=>
   obtain⟨p,p',rfl⟩:=EO h1;obtain⟨g1,g2⟩:=TO.rev _ h5;revert h;refine xM fun x h6 wj=>?_;subst wj;exact sX O k1 g1 g2 k2 h3.2 (ip O TO n h6 hnm hef).1
  |_=>exact val h
theorem Jo(O:c.Ok)(TO:aX c T){x:Ex}(hX:aP aO wz X)(hy:a8 aO wz wu wu y i)(h:eE T n nm wu nx e=some x)(hnm:wz.scope.names=nm)(hef:wz.scope.kind=.function) :
  eZ c wz wu X (.Assign [.Name y py] e pos) (.set i x):=by
 refine xD (C2 e) (fun hc=>?_) fun hc=>?_
 ·cases n with
  |zero=>injection h
  |succ n=>
   cases e with
   |ListComp elt gs scope cpos=>
    refine xD ((wz.blockKind==.function&&wz.kindOf y==some .local&&py.line==cpos.line&&!(scope.names.any fun(n,k)=>n==y&&(k==.local||k==.cell)))) (fun hb=>?_) fun hb=>?_
    ·refine xB (fun g h1 h2=>?_) (show(iw gs).bind _=some x from h);revert h2;refine xB fun q h3 h4=>?_;revert h3;refine xO fun h5 h6=>?_;revert h4;refine xB fun xs h7 h8=>?_;revert h8;refine xB fun z h9 h10=>?_;revert h10;refine xM fun ys h11 wj=>?_;subst wj;obtain rfl:=E0 h1;have sub:∀wv:Env,wv.scope=eP scope wz->∀e x,eE T n (i3 nm scope.names) q.1 q.2.2 e=some x->bU c wv q.1 e x:=fun wv hcs e x h=>ip O TO n h (by rw[hcs];exact D1 hnm hef) (by rw[hcs];exact h5.1.2);refine KX hX (GA (c:=c) hnm h5.1.1 h5.1.2 h6) (Bf h5.2) (ip O TO n h7 hnm hef).1 (fun wv hcs=>(sub wv hcs _ _ h9).1) (fun wv hcs=>yi (sub wv hcs) h11) ?_ hy;show(pure _:Sem Bool)=pure true;rw[<- hb];rfl
    ·refine Er hX (ip O TO (n+1) h hnm hef).1 ?_ hy;show(pure _:Sem Bool)=pure false;rw[<- hb];rfl
   |_=>first |(cases hc;done) |(injection h;done)
 ·exact Er hX (ip O TO n h hnm hef).1 (Gx hc) hy
def yK{p:Prop} [Decidable p]{o:Option α}{z b:α}{P:Prop}(h:(if p then o else some z)=some b)(h1:p->o=some b->P)(h2:z=b->P):P:=by
 by_cases q:p
 ·rw[if_pos q] at h;exact h1 q h
 ·rw[if_neg q] at h;exact h2 (ai h)
def AF{p:Prop} [Decidable p]{o o':Option α}{b:α}{P:Prop}(h:(if p then o else o')=some b)(h1:p->o=some b->P)(h2:o'=some b->P):P:=by
 by_cases q:p
 ·rw[if_pos q] at h;exact h1 q h
 ·rw[if_neg q] at h;exact h2 h
theorem Ik(O:c.Ok)(TO:aX c T)(hX:aP aO wz X)(hnm:wz.scope.names=nm)(hef:wz.scope.kind=.function){kw:List Keyword}(h:yo T n nm wu nx cn es kw=some x) :
  eZ c wz wu X (.Raise (some (.Call (.Name cn np) es kw cpos)) none pos) x:=by
 refine yK h (fun hc g=>?_) fun g=>?_
 ·clear h;obtain⟨h1,rfl,rfl,h5,h6⟩:=hc;revert g;refine xM fun xs h8 wj=>?_;subst wj;obtain⟨k1,k2⟩:=rp hnm h1;have hs:=pQ (fun e x h=>ip O TO n h hnm hef) h8 h5;have hl:=Dn h8;rw[h6] at hl;cases LV.of es with
  |one e1=>
   cases LV.of xs with
   |one x1=>exact JG O TO.nt hX k1 hs
   |_=>cases hl
  |_=>cases h6
 ·subst g;exact ur
theorem Jy(O:c.Ok)(TO:aX c T)(hX:aP aO wz X)(hnm:wz.scope.names=nm)(hef:wz.scope.kind=.function)(h:tm T n nm wu nx e=some x):eZ c wz wu X (.Raise (some e) none pos) x:=by
 unfold tm at h;generalize ev e=v at h;cases v with
 |call f es kw p q=>
  replace h:(match fT f with |some cn=>_ |none=>some St.stuck)=some x:=h;refine xC (fT f) (fun hf=>?_) fun cn hf=>?_
  ·rw[hf] at h;obtain rfl:=ai h;exact ur
  ·rw[hf] at h;refine AF h (fun hc g=>?_) fun g=>?_
   ·clear h;obtain⟨h1,h2,h3,rfl,h5,h6,h7⟩:=hc;revert g;refine xM fun xs h8 wj=>?_;subst wj;obtain⟨p',rfl⟩:=gJ hf;obtain⟨k1,k2⟩:=rp hnm h1;rw[q];exact Jk O TO.ex hX h2 h3 k1 k2 (pQ (fun e x h=>ip O TO n h hnm hef) h8 h5) h6 (Dn h8▸h7)
   ·obtain⟨p',rfl⟩:=gJ hf;rw[q];exact Ik O TO hX hnm hef g
 |_=>obtain rfl:=ai h;exact ur
def IH(O:c.Ok)(TO:aX c T)(hX:aP aO wz X)(hr:nQ wu=true)(hnm:wz.scope.names=nm)(hf:∀{ss:List Stmt}{xs:List St},aH f ss=some xs->gD c wz wu X ss xs){els fin:List Stmt}{hs:List ExceptHandler} (h:tj f nm wu b hs els fin=some x):eZ c wz wu X (.Try b hs els fin pos) x:=by
 unfold tj at h;refine xC (A0 hs) (fun hh=>?_) fun k hh=>?_
 ·rw[hh] at h;obtain rfl:=ai h;exact ur
 ·rw[hh] at h;refine yK h (fun hc g=>?_) fun g=>?_
  ·clear h;obtain⟨rfl,rfl,h3,h4,h5⟩:=hc;refine xB (fun i h6 g2=>?_) g;refine xB (fun xb h7 g3=>?_) g2;refine xM (fun xh h8 wj=>?_) g3;subst wj;obtain rfl:=Jv hh;obtain⟨p',ht⟩:=gJ h3;rw[ht];refine xB (fun j hj h9=>?_) h6;refine xS (fun J wj=>?_) h9;subst wj;exact Ip O TO.ex hX (hf h7) (hf h8) (rp hnm h4).1 (xy hr hnm h6) (by rw[<- hnm] at h5;exact h5) hj
  ·subst g;exact ur
theorem z8(O:c.Ok)(TO:aX c T)(hX:aP aO wz X)(hr:nQ wu=true)(hnm:wz.scope.names=nm)(hef:wz.scope.kind=.function):∀n {nx:Nat}{st:Stmt}{x:St},eS T n nm wu nx st=some x->eZ c wz wu X st x
 |0,_,_,_,h=>nomatch h
 |n+1,nx,st,x,h=>by
  have ih:=@z8 O TO hX hr hnm hef n;have list:∀{ss:List Stmt} {xs:List St},aH (eS T n nm wu nx) ss=some xs->gD c wz wu X ss xs:=fun{ss}=>by
   induction ss with
   |nil=>intro xs h;obtain rfl:=ai h;exact BR
   |cons s ss ihs=>
    intro xs h;refine(iW h) _ fun y ys h1 h2 wk=>?_;subst wk;exact zR (ih h1) (ihs h2)
  have es:∀{e:Expr} {x:Ex},eE T n nm wu nx e=some x->bU c wz wu e x:=fun h=>ip O TO n h hnm hef;cases st with
  |Assign ts e p=>
   obtain⟨t,rfl,k⟩:=D5 (show pU ts _=some x from h);clear h;unfold wt at k;generalize ev t=v at k;cases v with
   |name y p q=>
    revert k;refine xB fun i h1 k=>?_;revert k;refine xM fun z h2 wj=>?_;subst wj;rw[q];exact Jo O TO hX (xy hr hnm h1) h2 hnm hef
   |tup es' y p q=>
    revert k;refine xB fun is h1 k=>?_;revert k;refine xB fun z h2 k=>?_;revert k;refine xS fun h3 wj=>?_;subst wj;rw[q];exact IF hX (es h2).1 G4 (Hr h3) (C0 hr hnm h1)
   |sub o i p q=>
    revert k;refine xB fun a h1 k=>?_;revert k;refine xB fun j h2 k=>?_;revert k;refine xM fun z h3 wj=>?_;subst wj;rw[q];exact HD hX (es h1).1 (es h2).1 (es h3).1 JV
   |_=>injection k
  |Expr e p=>
   revert h;refine xO fun h1 k=>?_;revert k;refine xM fun y h2 wj=>?_;subst wj;exact KS hX (es h2).1 (Gx h1)
  |Return o p=>
   refine xB (fun e wj k=>?_) (show o.bind _=some x from h);subst wj;revert k;refine xM fun y h2 wj=>?_;subst wj;exact FF hX (es h2).1
  |If t a b p=>
   refine xB (fun y h1 k=>?_) (show(eE T n nm wu nx t).bind _=some x from h);revert k;refine xB fun xa h2 k=>?_;revert k;refine xM fun xb h3 wj=>?_;subst wj;exact JW hX (es h1).2 (list h2) (list h3)
  |While t b els p=>
   revert h;refine xO fun h0 k=>?_;obtain rfl:els=[]:=h0;revert k;refine xB fun y h1 k=>?_;revert k;refine xM fun xb h2 wj=>?_;subst wj;exact GQ hX (es h1).2 (list h2)
  |For tg iter b els p=>
   revert h;refine xO fun h0 k=>?_;obtain rfl:els=[]:=h0.2;revert k;refine xB fun t h2 k=>?_;revert k;refine xB fun sr h3 k=>?_;revert k;refine xM fun xb h4 wj=>?_;subst wj;exact Kn hX (Bf h0.1) (II O TO h3 hnm hef) (r7 hr hnm h2) (list h4)
  |Raise o q p=>
   cases o with
   |none=>obtain rfl:=ai h;exact ur
   |some e=>cases q with
    |none=>exact Jy O TO hX hnm hef h
    |some _=>obtain rfl:=ai h;exact ur
  |Try b hs els fin p=>exact IH O TO hX hr hnm list h
  |_=>injection h
end
end
variable {b:Expr}{es:List Ex}{np t x:Nat}{p:qbi}{y:List St×Nat×Nat}
section
open PySem PyProof.Rows
theorem FC:∀{ps:List Str}{vals:List Value},vals.length=ps.length->∀n∈ps,((ps.zip vals).lookup n).isSome=true
 |[],_,_,n,hn=>by cases hn
 |p::ps,v::vals,hl,n,hn=>by
  rw[List.zip_cons_cons,dr];refine xD (n==p) (fun hb=>?_) fun hb=>?_
  ·rfl
  ·rcases bj.mp hn with rfl |hn
   ·simp at hb
   ·exact FC (by simpa using hl) n hn
 |_::_,[],hl,_,_=>by simp at hl
theorem FJ{f g:α->Option β}:∀{l:List α},(∀a∈l,f a=g a)->l.filterMap f=l.filterMap g
 |[],_=>rfl
 |a::l,h=>by
  rw[List.filterMap_cons,List.filterMap_cons,h a aI,FJ fun b hb=>h b (a0 _ hb)]
theorem Gl:∀{ps:List Str}{vals:List Value},ps.Nodup->vals.length=ps.length->ps.filterMap (fun n=>((ps.zip vals).lookup n).map (n,·))=ps.zip vals
 |[],_,_,_=>by simp
 |p::ps,v::vals,hn,hl=>by
  rw[lX] at hn;rw[List.zip_cons_cons,List.filterMap_cons];simp only[List.lookup_cons_self,Option.map_some];congr 1;have ih:=Gl hn.2 (show vals.length=ps.length by simpa using hl);rw[<- ih];refine FJ fun n hm=>?_;have hne:(n==p)=false:=by
   rw[beq_eq_false_iff_ne];rintro rfl;exact hn.1 hm
  rw[dr,hne,ih]
 |_::_,[],_,hl=>by simp at hl
def yd(hdv:fd.defaults=.none)(hkv:fd.kwdefaults=.none)(h1:fd.params.posonlyargs=[])(h2:fd.params.kwonlyargs=[])(h3:fd.params.vararg=none)(h4:fd.params.kwarg=none) (hn:(fd.params.args.map (·.arg)).Nodup) (vals:List Value) (hl:vals.length=(fd.params.args.map (·.arg)).length):bindArgs fd ⟨vals,[]⟩=pure ((fd.params.args.map (·.arg)).zip vals):=by
 obtain⟨_,_,⟨pos,args,va,ko,kd,ka,df⟩,_,_,_,_,dv,kv,_,_,_,_,_,_⟩:=fd;dsimp only at hdv hkv h1 h2 h3 h4 hn hl ⊢;subst hdv hkv h1 h2 h3 h4;generalize hg:args.map (·.arg)=l at hn hl ⊢;have hmiss:¬((!((l.take (l.length-(List.drop (0-l.length) ([]:List Value)).length)).filter (fun n=>((l.zip vals).lookup n).isNone)).isEmpty)=true):=by
  rw[List.drop_nil,List.length_nil,Nat.sub_zero,List.take_length,List.filter_eq_nil_iff.mpr]
  ·exact fun h=>nomatch h
  ·intro n hm h;have:=FC hl n hm;rw[jI.mp h] at this;injection this
 subst hg;refine(if_neg (c:=(decide (vals.length>(args.map (·.arg)).length)&&true)=true) ?_).trans ((if_neg hmiss).trans ?_)
 ·rw[hl,decide_eq_false (d4 _)];exact fun h=>nomatch h
 ·have e:∀{α:Type} (k:Nat) (m:List (Str×Value)->Sem α) (f:Str×Value->List (Str×Value)->Sem (ForInStep (List (Str×Value)))) (s:List (Str×Value)),(forIn (((args.map (·.arg)).drop k).zip (List.drop (0-(args.map (·.arg)).length) ([]:List Value))) s f >>=m)=m s:=fun k m f s=>by
   rw[List.drop_nil,List.zip_nil_right,List.forIn_nil,pure_bind]
  refine(e _ _ _ _).trans ?_;show(pure ((args.map (fun x=>Arg.arg x)++[]).filterMap _):Sem (List (Str×Value)))=_;rw[d5];exact congrArg pure (Gl hn hl)
noncomputable def slots(names:List (Str×aU)):List Str:=(names.filter fun p=>(p.2==.local||p.2==.cell)&&p.1!=cD).map (·.1)
noncomputable def gb(names:List (Str×aU))(r:Nat):Res:=⟨true,(slots names).length+r,(slots names).zip (List.range (slots names).length)⟩
noncomputable def Ap(names:List (Str×aU))(x:Str):Bool:=names.lookup x==some .local||names.lookup x==some .cell
noncomputable def vH(nm:List (Str×aU))(wu:Res):List Str->Nat->Bool
 |[],i=>decide (i<=wu.n)
 |x::r,i=>iV nm wu x==some i&&vH nm wu r (i+1)
structure Br(e:eO)(r:Nat):Prop where
 p1:e.params.posonlyargs=[]
 p2:e.params.kwonlyargs=[]
 p3:e.params.vararg=none
 p4:e.params.kwarg=none
 p5:(e.params.args.map (·.arg)).Nodup
 p6:e.scope.kind=.function
 p7:e.scope.isCoroutine=false
 p8:e.scope.isGenerator=false
 p10:nQ (gb e.scope.names r)=true
 p11:(slots e.scope.names).all (Ap e.scope.names)=true
 p12:vH e.scope.names (gb e.scope.names r) (e.params.args.map (·.arg)) 0=true
noncomputable def nG(e:eO)(r:Nat):Bool:=
 e.params.posonlyargs.isEmpty&&(e.params.kwonlyargs.isEmpty&&(e.params.vararg.isNone&&(e.params.kwarg.isNone&&(decide ((e.params.args.map (·.arg)).Nodup) &&
 (e.scope.kind==.function&&(!e.scope.isCoroutine&&(!e.scope.isGenerator&&(nQ (gb e.scope.names r)&&((slots e.scope.names).all (Ap e.scope.names)&&vH e.scope.names (gb e.scope.names r) (e.params.args.map (·.arg)) 0)))))))))
def DF{e:eO}(h:nG e r=true):Br e r:=by
 revert h;refine xA fun p1 h=>?_;revert h;refine xA fun p2 h=>?_;revert h;refine xA fun p3 h=>?_;revert h;refine xA fun p4 h=>?_;revert h;refine xA fun p5 h=>?_;revert h;refine xA fun p6 h=>?_;revert h;refine xA fun p7 h=>?_;revert h;refine xA fun p8 h=>?_;revert h;refine xA fun p10 h=>?_;revert h;refine xA fun p11 p12=>?_;exact⟨gq.mp p1,gq.mp p2,jI.mp p3,jI.mp p4,of_decide_eq_true p5,beq_iff_eq.mp p6,(gX _).mp p7,(gX _).mp p8,p10,p11,p12⟩
noncomputable def sF(T:Tab)(fuel r:Nat)(e:eO):Option (List St):=
 if nG e r=true then aH (eS T fuel e.scope.names (gb e.scope.names r) (slots e.scope.names).length) e.body else none
theorem uz{nm:List (Str×aU)}(hr:nQ wu=true)(hnm:wz.scope.names=nm):∀{ps:List Str}{i:Nat},vH nm wu ps i=true->vK wz wu ps i/\i+ps.length<=wu.n
 |[],_,h=>⟨trivial,of_decide_eq_true h⟩
 |x::ps,i,h=>by
  revert h;refine xA fun h1 h2=>?_;obtain⟨h3,h4⟩:=uz hr hnm h2;refine⟨⟨xy hr hnm (beq_iff_eq.mp h1),h3⟩,?_⟩;rw[fO,Nat.add_comm ps.length 1,<-Nat.add_assoc];exact h4
theorem BE(hf:∀st x,f st=some x->eZ c wz wu X st x):∀{ss:List Stmt}{xs:List St},aH f ss=some xs->gD c wz wu X ss xs
 |[],_,h=>by obtain rfl:=ai h;exact BR
 |s::ss,_,h=>by
  refine(iW h) _ fun y ys h1 h2 wk=>?_;subst wk;exact zR (hf _ _ h1) (BE hf h2)
inductive cI(c:Cx)(e:eO):Prop
 |mk (a cc:Addr)(o:Obj)(pm doc:Value)(g1:c.g e.name=some (.ref a))(g2:c.h0.get? a=some o)(g3:o.data=.func (Calls.docDef e.name e.params e.body e.scope pm (.ref cc) doc))(g4:c.h0.CodeRec (.ref cc) e.name):cI c e
def Iw(O:c.Ok)(TO:aX c T){e:eO}(hat:cI c e)(he:sF T fuel r e=some xs)(wq:vs.length=e.params.args.length) (hw:az (Calls c) q d none xs (de Q) (dZ E) (vs.map some++List.replicate ((slots e.scope.names).length+r-vs.length) none) H):Calls c q (d+1) e.name vs none Q E H:=by
 revert he;refine xO fun hok he=>?_;have P:=DF hok;obtain⟨a,cc,o,pm,doc,g1,g2,g3,g4⟩:=hat;have K:fq c e.name a o (Calls.docDef e.name e.params e.body e.scope pm (.ref cc) doc) e.body (e.params.args.map (·.arg)) (e.params.args.map (·.arg)) (gb e.scope.names r):=by
  refine⟨g1,g2,g3,g4,rfl,rfl,rfl,rfl,P.p6,P.p7,P.p8,fun vals hl=>yd rfl rfl P.p1 P.p2 P.p3 P.p4 P.p5 vals hl,rfl,fun x i hx=>?_,fun L=>(uz P.p10 rfl P.p12).1,?_⟩
  ·exact(nN.mp (dg.mp P.p11 x (List.of_mem_zip (fW (show List.lookup x _=some i from hx))).1)).imp beq_iff_eq.mp beq_iff_eq.mp
  ·have:=(uz (wz:=cq (Calls.docDef e.name e.params e.body e.scope pm (.ref cc) doc) 0 a) P.p10 rfl P.p12).2;rw[Nat.zero_add] at this;exact this
 exact EL O K (xs:=xs) (fun L hX=>BE (fun J J h=>z8 O TO hX P.p10 rfl P.p6 fuel h) he) (by rw[wq,ao]) hw
end
variable {f:Addr}
section
open PySem PyProof.Rows
structure AV(e:eO)(r:Nat)(ps:List Str):Prop where
 p1:e.params.posonlyargs=[]
 p2:e.params.kwonlyargs=[]
 p3:e.params.vararg=none
 p4:e.params.kwarg=none
 p5:(e.params.args.map (·.arg)).Nodup
 p6:e.scope.kind=.function
 p7:e.scope.isCoroutine=false
 p8:e.scope.isGenerator=false
 p10:nQ (gb e.scope.names r)=true
 p11:(slots e.scope.names).all (Ap e.scope.names)=true
 p12:vH e.scope.names (gb e.scope.names r) ps 0=true
 p13:e.params.args.map (·.arg)=ps++[cD]
 p14:e.scope.names.lookup cD=some .local
noncomputable def j3(e:eO)(r:Nat)(ps:List Str):Bool:=
 e.params.posonlyargs.isEmpty&&(e.params.kwonlyargs.isEmpty&&(e.params.vararg.isNone&&(e.params.kwarg.isNone&&(decide ((e.params.args.map (·.arg)).Nodup) &&
 (e.scope.kind==.function&&(!e.scope.isCoroutine&&(!e.scope.isGenerator&&(nQ (gb e.scope.names r)&&((slots e.scope.names).all (Ap e.scope.names)&&(vH e.scope.names (gb e.scope.names r) ps 0 &&
 (decide (e.params.args.map (·.arg)=ps++[cD])&&e.scope.names.lookup cD==some .local)))))))))))
def K1{e:eO}(h:j3 e r ps=true):AV e r ps:=by
 revert h;refine xA fun p1 h=>?_;revert h;refine xA fun p2 h=>?_;revert h;refine xA fun p3 h=>?_;revert h;refine xA fun p4 h=>?_;revert h;refine xA fun p5 h=>?_;revert h;refine xA fun p6 h=>?_;revert h;refine xA fun p7 h=>?_;revert h;refine xA fun p8 h=>?_;revert h;refine xA fun p10 h=>?_;revert h;refine xA fun p11 h=>?_;revert h;refine xA fun p12 h=>?_;revert h;refine xA fun p13 p14=>?_;exact⟨gq.mp p1,gq.mp p2,jI.mp p3,jI.mp p4,of_decide_eq_true p5,beq_iff_eq.mp p6,(gX _).mp p7,(gX _).mp p8,p10,p11,p12,of_decide_eq_true p13,beq_iff_eq.mp p14⟩
noncomputable def q6(T:Tab)(fuel r:Nat)(ps:List Str)(e:eO):Option (List St):=
 if j3 e r ps=true then aH (eS T fuel e.scope.names (gb e.scope.names r) (slots e.scope.names).length) e.body else none
def GG:(gb names r).lookup cD=none:=by
 refine xC ((gb names r).lookup cD) (fun h=>?_) fun i h=>?_
 ·rfl
 ·have hm:=(List.of_mem_zip (fW (show List.lookup cD _=some i from h))).1;revert hm;refine xL fun p hp e=>?_;have:=(gd.mp (List.mem_filter.mp hp).2).2;rw[e] at this;exact absurd rfl (bne_iff_ne.mp this)
def GW(O:c.Ok)(TO:aX c T){e:eO}(hat:cI c e)(he:q6 T fuel r ps e=some xs)(wq:vs.length=ps.length) (hw:az (Calls c) q d (some (kk,z)) xs (de Q) (dZ E) (vs.map some++List.replicate ((slots e.scope.names).length+r-vs.length) none) H):Calls c q (d+1) e.name vs (some (kk,z)) Q E H:=by
 revert he;refine xO fun hok he=>?_;have P:=K1 hok;obtain⟨a,cc,o,pm,doc,g1,g2,g3,g4⟩:=hat;have K:fq c e.name a o (Calls.docDef e.name e.params e.body e.scope pm (.ref cc) doc) e.body ps (ps++[cD]) (gb e.scope.names r):=by
  refine⟨g1,g2,g3,g4,rfl,rfl,rfl,rfl,P.p6,P.p7,P.p8,fun vals hl=>?_,rfl,fun x i hx=>?_,fun L=>(uz P.p10 rfl P.p12).1,?_⟩
  ·rw[<- P.p13];exact yd rfl rfl P.p1 P.p2 P.p3 P.p4 P.p5 vals (by show _=(e.params.args.map (·.arg)).length;rw[P.p13];exact hl)
  ·exact(nN.mp (dg.mp P.p11 x (List.of_mem_zip (fW (show List.lookup x _=some i from hx))).1)).imp beq_iff_eq.mp beq_iff_eq.mp
  ·have:=(uz (wz:=cq (Calls.docDef e.name e.params e.body e.scope pm (.ref cc) doc) 0 a) P.p10 rfl P.p12).2;rw[Nat.zero_add] at this;exact this
 exact Hf O K (xs:=xs) P.p14 GG (fun L hX=>BE (fun J J h=>z8 O TO hX P.p10 rfl P.p6 fuel h) he) wq hw
noncomputable def km(e:Expr):Option (Arguments×Expr×Scope×Pos):=match ev e with
 |.lam a b s p _=>some (a,b,s,p)
 |_=>none
theorem HO{q:Arguments×Expr×Scope×Pos}(h:km e=some q):e=.Lambda q.1 q.2.1 q.2.2.1 q.2.2.2:=by
 unfold km at h;generalize ev e=v at h;cases v with
 |lam a b s p e=>obtain rfl:=ai h;exact e
 |_=>injection h
noncomputable def w7(e:Expr):Option (Expr×List Expr×List Keyword×Pos):=match ev e with
 |.call f es kw p _=>some (f,es,kw,p)
 |_=>none
theorem D7{q:Expr×List Expr×List Keyword×Pos}(h:w7 e=some q):e=.Call q.1 q.2.1 q.2.2.1 q.2.2.2:=by
 unfold w7 at h;generalize ev e=v at h;cases v with
 |call a b s p e=>obtain rfl:=ai h;exact e
 |_=>injection h
noncomputable def xj(st:Stmt):Option { q:Expr×Pos // st=.Return (some q.1) q.2 }:=match st with
 |.Return (some e) p=>some ⟨(e,p),rfl⟩
 |_=>none
noncomputable def dX:Str:=ar "one"
noncomputable def jd:Str:=ar "other"
noncomputable def zgw:Str:=ar "kind"
noncomputable def jH:List (Str×aU):=[(dX,.local),(jd,.local),(zgw,.free),(hZ,.globalImplicit)]
noncomputable def pJ (kk:Nat) (b:Expr):Bool:=match w7 b with
 |some q=>decide (fT q.1=some hZ)&&q.2.2.1.isEmpty&&decide (q.2.1.map fT=[some (aZ dX jd zgw (kk/9)),some (aZ dX jd zgw (kk/3%3)),some (aZ dX jd zgw (kk%3))])
 |none=>false
def xG(kk:Nat)(b:Expr):Prop:=∀GJ:Prop,(∀(pf q0 q1 q2 pos:Pos),(b=.Call (.Name hZ pf) [.Name (aZ dX jd zgw (kk/9)) q0,.Name (aZ dX jd zgw (kk/3%3)) q1,.Name (aZ dX jd zgw (kk%3)) q2] [] pos)->GJ)->GJ
theorem mW(h:pJ kk b=true):xG kk b:=by
 unfold pJ at h;refine xC (w7 b) (fun hq=>?_) fun q hq=>?_
 ·rw[hq] at h;injection h
 ·rw[hq] at h;revert h;refine xA fun h h3=>?_;revert h;refine xA fun h1 h2=>?_;obtain⟨pf,hf⟩:=gJ (of_decide_eq_true h1);have k:=of_decide_eq_true h3;clear h3;have e:=D7 hq;clear hq;obtain⟨f,es,kw,pos⟩:=q;dsimp only at e h2 k hf;obtain rfl:=gq.mp h2;subst hf;cases es with
  |nil=>exact nomatch k
  |cons a es=>
   obtain⟨k1,k⟩:=List.cons.inj k;cases es with
   |nil=>exact nomatch k
   |cons b es=>
    obtain⟨k2,k⟩:=List.cons.inj k;cases es with
    |nil=>exact nomatch k
    |cons c es=>
     obtain⟨k3,k⟩:=List.cons.inj k;cases es with
     |cons _ _=>exact nomatch k
     |nil=>
      obtain⟨q0,rfl⟩:=gJ k1;obtain⟨q1,rfl⟩:=gJ k2;obtain⟨q2,rfl⟩:=gJ k3;exact(fun J kJ=>kJ pf q0 q1 q2 pos e)
noncomputable def yT(a:Arguments):Bool:=a.posonlyargs.isEmpty&&(a.kwonlyargs.isEmpty&&(a.vararg.isNone&&(a.kwarg.isNone&&(a.defaults.isEmpty&&(a.kw_defaults.isEmpty&&decide (a.args.map (·.arg)=[dX,jd]))))))
noncomputable def wX(s:Scope):Bool:=decide (s.names=jH)&&(s.kind==.function&&(!s.isCoroutine&&!s.isGenerator))
def px{a:Arguments}{s:Scope}{pm ct:Value}(h1:yT a=true)(h2:wX s=true)(h3:pJ kk b=true):eB kk (eL qual a b s [(zgw,ca)] pm cv ct) zgw:=by
 revert h1;refine xA fun a1 h1=>?_;revert h1;refine xA fun a2 h1=>?_;revert h1;refine xA fun a3 h1=>?_;revert h1;refine xA fun a4 h1=>?_;revert h1;refine xA fun a5 h1=>?_;revert h1;refine xA fun a6 a7=>?_;have a7:=of_decide_eq_true a7;revert h2;refine xA fun s1 h2=>?_;have s1:=of_decide_eq_true s1;revert h2;refine xA fun s2 h2=>?_;revert h2;refine xA fun s3 s4=>?_;refine(mW h3) _ fun pf q0 q1 q2 pos wk=>?_;subst wk;refine⟨dX,jd,q0,q1,q2,pf,pos,fun x y=>?_,rfl,?_,?_,?_,?_,?_,by decide +kernel,by decide +kernel,rfl,rfl,beq_iff_eq.mp s2,(gX _).mp s3,(gX _).mp s4⟩
 ·have:=yd (fd:=eL qual a (.Call (.Name hZ pf) [.Name (aZ dX jd zgw (kk/9)) q0,.Name (aZ dX jd zgw (kk/3%3)) q1,.Name (aZ dX jd zgw (kk%3)) q2] [] pos) s [(zgw,ca)] pm cv ct) rfl rfl (gq.mp a1) (gq.mp a2) (jI.mp a3) (jI.mp a4) (by show(a.args.map (·.arg)).Nodup;rw[a7];decide +kernel) [x,y] (by show 2=(a.args.map (·.arg)).length;rw[a7];rfl);refine this.trans ?_;show(pure ((a.args.map (·.arg)).zip [x,y]):Sem _)=_;rw[a7];rfl
 ·show s.names.lookup _=_;rw[s1];decide +kernel
 ·show s.names.lookup _=_;rw[s1];decide +kernel
 ·show s.names.lookup _=_;rw[s1];decide +kernel
 ·show s.names.lookup _=_;rw[s1];decide +kernel
 ·show s.names.all _=_;rw[s1];decide +kernel
noncomputable def w9:Option Gk->Bool
 |some .fn=>true
 |_=>false
theorem mY(h:w9 o=true):o=some .fn:=by
 cases o with
 |none=>injection h
 |some g=>cases g<;>first |rfl |injection h
noncomputable def Dc(T:Tab)(nm:List (Str×aU))(kk:Nat)(q:Expr×List Expr×List Keyword×Pos)(f:Str)(e1 e2:Expr)(m:Arguments×Expr×Scope×Pos):Bool:=
 q.2.2.1.isEmpty&&(nJ nm f&&(w9 (T.g.lookup f)&&(dM e1&&(dM e2&&(nm.lookup zgw==some .cell&&(yT m.1&&(wX m.2.2.1&&pJ kk m.2.1)))))))
noncomputable def xg(T:Tab)(n:Nat)(nm:List (Str×aU))(wu:Res)(nx kk:Nat)(e:Expr):Option (Ex×Nat×Nat):=
 (w7 e).bind fun q=>(fT q.1).bind fun f=>match q.2.1 with
  |[e1,e2,l]=>(km l).bind fun m=>(eE T n nm wu nx e1).bind fun x1=>(eE T n nm wu nx e2).bind fun x2=>(wu.lookup zgw).bind fun i=>
   if Dc T nm kk q f e1 e2 m=true then some (.callL f [x1,x2] kk i,m.2.2.2.line,m.2.2.2.col) else none
  |_=>none
noncomputable def y8(T:Tab)(n:Nat)(nm:List (Str×aU))(wu:Res)(nx kk:Nat)(st:Stmt):Option (St×Nat×Nat):=
 (xj st).bind fun r=>(xg T n nm wu nx kk r.1.1).map fun y=>(.ret y.1,y.2)
def ke(c:Cx)(wz:Env)(lc:Nat×Nat):Prop:=∀GJ:Prop,(∀(x:Addr×(Nat×Nat)×Str),∀(cc:Addr),x∈c.tabs->(∀y∈c.tabs,y.1=x.1->y=x)->(c.h0.get? x.1=none)->dj c.h0 cc x.1->(wz.code=.ref cc)->(x.2.1=lc)->(x.2.2=wz.qual++"<lambda>")->GJ)->GJ
theorem HE{nm:List (Str×aU)}{y:Ex×Nat×Nat}(O:c.Ok)(TO:aX c T)(BM:dw c)(LO:∀kk fd nm,eB kk fd nm->c.lam kk fd nm)(hnm:wz.scope.names=nm)(hef:wz.scope.kind=.function) (TE:ke c wz y.2) (h':xg T n nm wu nx kk e=some y):aT c wz wu e y.1:=by
 obtain⟨⟨f,es,kw,pos⟩,hc,h''⟩:=vV.mp h';clear h';revert h'';refine xB fun fn hf h=>?_;skip;obtain rfl:=D7 hc;obtain⟨pf,rfl⟩:=gJ hf;dsimp only at h;cases LV.of es with
 |three e1 e2 l=>
  revert h;refine xB fun m hm h=>?_;revert h;refine xB fun x1 h1 h=>?_;revert h;refine xB fun x2 h2 h=>?_;revert h;refine xB fun i hi h=>?_;revert h;refine xS fun hk wj=>?_;subst wj;obtain rfl:=HO hm;revert hk;refine xA fun k1 hk=>?_;revert hk;refine xA fun k2 hk=>?_;revert hk;refine xA fun k3 hk=>?_;revert hk;refine xA fun k4 hk=>?_;revert hk;refine xA fun k5 hk=>?_;revert hk;refine xA fun k6 hk=>?_;revert hk;refine xA fun k7 hk=>?_;revert hk;refine xA fun k8 k9=>?_;obtain rfl:kw=[]:=gq.mp k1;obtain⟨g1,g2⟩:=rp hnm k2;refine(TO.fn _ (mY k3)) _ fun a o fd f1 f2 f3=>?_;refine TE _ fun x cc t1 t2 t3 t4 t5 t6 t7=>?_;clear TE;obtain⟨a5,a6⟩:m.1.defaults=[]/\m.1.kw_defaults=[]:=by
   revert k7;refine xA fun J h=>?_;revert h;refine xA fun J h=>?_;revert h;refine xA fun J h=>?_;revert h;refine xA fun J h=>?_;revert h;refine xA fun a5 h=>?_;exact⟨gq.mp a5,gq.mp (gd.mp h).1⟩
  exact G5 O BM g1 f1 f2 f3 g2 k4 k5 (ip O TO n h1 hnm hef).1 (ip O TO n h2 hnm hef).1 t1 t2 t3 t4 t5 t6 t7 a5 a6 (of_decide_eq_true (gd.mp k8).1) (by show wz.scope.names.lookup zgw=_;rw[hnm];exact beq_iff_eq.mp k6) hi fun ca pm cv ct=>LO _ _ _ (px k7 k8 k9)
 |_=>cases h
def Jx{nm:List (Str×aU)}{y:St×Nat×Nat}(O:c.Ok)(TO:aX c T)(BM:dw c)(LO:∀kk fd nm,eB kk fd nm->c.lam kk fd nm)(hX:aP aO wz X)(hnm:wz.scope.names=nm)(hef:wz.scope.kind=.function) (TE:ke c wz y.2) (h:y8 T n nm wu nx kk st=some y):eZ c wz wu X st y.1:=by
 obtain⟨⟨⟨e,pr⟩,hr⟩,_,h'⟩:=vV.mp h;revert h';refine xM fun z hz wj=>?_;subst wj;subst hr;exact FF hX (HE O TO BM LO hnm hef TE hz)
noncomputable def kZ(T:Tab)(n r kk:Nat)(e:eO):Option (List St×Nat×Nat):=
 if nG e r=true then match e.body with
  |[s1,st]=>(eS T n e.scope.names (gb e.scope.names r) (slots e.scope.names).length s1).bind fun y1=>(y8 T n e.scope.names (gb e.scope.names r) (slots e.scope.names).length kk st).map fun y=>([y1,y.1],y.2)
  |_=>none
 else none
inductive dG(c:Cx)(e:eO)(lc:Nat×Nat):Prop
 |mk (a cc:Addr)(o:Obj)(pm doc:Value)(x:Addr×(Nat×Nat)×Str)(g1:c.g e.name=some (.ref a))(g2:c.h0.get? a=some o)(g3:o.data=.func (Calls.docDef e.name e.params e.body e.scope pm (.ref cc) doc))(g4:c.h0.CodeRec (.ref cc) e.name)
   (hm:x∈c.tabs) (hone:∀y∈c.tabs,y.1=x.1->y=x) (h0:c.h0.get? x.1=none) (CH:dj c.h0 cc x.1) (hl:x.2.1=lc) (hq:x.2.2=e.name++".<locals>."++"<lambda>"):dG c e lc
theorem Ij(O:c.Ok)(TO:aX c T)(BM:dw c)(LO:∀kk fd nm,eB kk fd nm->c.lam kk fd nm){e:eO}(hat:dG c e y.2)(he:kZ T fuel r kk e=some y)(wq:vs.length=e.params.args.length) (hw:az (Calls c) q d none y.1 (de Q) (dZ E) (vs.map some++List.replicate ((slots e.scope.names).length+r-vs.length) none) H):Calls c q (d+1) e.name vs none Q E H:=by
 revert he;refine xO fun hok he=>?_;have P:=DF hok;obtain⟨a,cc,o,pm,doc,x,g1,g2,g3,g4,t1,t2,t3,t4,t5,t6⟩:=hat;have K:fq c e.name a o (Calls.docDef e.name e.params e.body e.scope pm (.ref cc) doc) e.body (e.params.args.map (·.arg)) (e.params.args.map (·.arg)) (gb e.scope.names r):=by
  refine⟨g1,g2,g3,g4,rfl,rfl,rfl,rfl,P.p6,P.p7,P.p8,fun vals hl=>yd rfl rfl P.p1 P.p2 P.p3 P.p4 P.p5 vals hl,rfl,fun x i hx=>?_,fun L=>(uz P.p10 rfl P.p12).1,?_⟩
  ·exact(nN.mp (dg.mp P.p11 x (List.of_mem_zip (fW (show List.lookup x _=some i from hx))).1)).imp beq_iff_eq.mp beq_iff_eq.mp
  ·have:=(uz (wz:=cq (Calls.docDef e.name e.params e.body e.scope pm (.ref cc) doc) 0 a) P.p10 rfl P.p12).2;rw[Nat.zero_add] at this;exact this
 refine EL O K (xs:=y.1) (fun L hX=>?_) (by rw[wq,ao]) hw;generalize hb:e.body=bd at he;cases LV.of bd with
 |two s1 st=>
  revert he;refine xB fun y1 h1 he=>?_;revert he;refine xM fun y2 h2 wj=>?_;subst wj;exact zR (z8 O TO hX P.p10 rfl P.p6 fuel h1) (zR (Jx O TO BM LO hX rfl P.p6 (fun J kJ=>kJ x cc t1 t2 t3 t4 rfl t5 t6) h2) BR)
 |_=>injection he
end
variable {E:SX}{Q:SPost}{X:List Nat}{b:Nat}{e:Ex}{o:Obj}{ps:Array Value}{q:Str}{r:List (List (Nat×Nat))}{y:List (Nat×Nat)}
section
open PySem PyProof.Rows
set_option maxRecDepth 100000
def BL(h:Heap)(name:Str)(bm:List Value)(ini:Bool):Prop:=∀GJ:Prop,(∀(C:Addr),∀(i:Option Value),(h.nsMap dH name=some (.ref C))->aR h C bm i->(ini=true->i=none)->GJ)->GJ
theorem vi{l:List α}(h:l.length=n+1):∃a r,l=a::r/\r.length=n:=by
 cases l with
 |nil=>exact nomatch h
 |cons a r=>exact⟨a,r,rfl,Nat.succ.inj h⟩
def Jq(s:Array (Option Value))(v:Option Value):Prop:=∀GJ:Prop,(∀(a b c d f:Option Value),(s = #[a,b,c,d,v,f])->GJ)->GJ
def ID(hz:s.size=6)(h4:s[4]?=some v):Jq s v:=by
 obtain⟨l⟩:=s;obtain⟨a,l1,rfl,h1⟩:=vi (show l.length=5+1 from hz);obtain⟨b,l2,rfl,h2⟩:=vi h1;obtain⟨c,l3,rfl,h3⟩:=vi h2;obtain⟨d,l5,rfl,h5⟩:=vi h3;obtain⟨e,l6,rfl,h6⟩:=vi h5;obtain⟨f,l7,rfl,h7⟩:=vi h6;obtain rfl:=gj.mp h7;obtain rfl:=ai (show some e=some v from h4);exact(fun J kJ=>kJ a b c d f rfl)
def AI(o:Obj)(C N:Addr)(bm:List Value):Prop:=∀GJ:Prop,(∀(nm q:Str),∀(bs:List Value),∀(sn:List Str),∀(sub:List Value),∀(ab:Bool),∀(col:Option Bool),∀(dd:Option Addr),∀(k0 k1 k2 k3 k5:Option Value),(o=qZ nm q C N bs bm true sn sub ab col dd k0 k1 k2 k3 k5 "ValueError.__new__")->GJ)->GJ
def C9{cd:ClassData}(h1:o.cls=.type "type")(h2:cd.mro=.ref C::bm)(h3:cd.hasDel=false)(h5:cd.hasDict=true)(hd:o.data=.cls cd)(hz:o.slots.size=6)(h4:o.slots[4]?=some (some (.builtin "ValueError.__new__"))):AI o C cd.ns bm:=by
 refine(ID hz h4) _ fun a b c d f hs=>?_;obtain⟨oc,odict,odata,slots⟩:=o;obtain⟨nm,bs,mro,ns,q,hdct,sn,sub,ab,col,hdel⟩:=cd;obtain rfl:oc=_:=h1;obtain rfl:mro=_:=h2;obtain rfl:hdel=_:=h3;obtain rfl:hdct=_:=h5;obtain rfl:odata=_:=hd;obtain rfl:slots=_:=hs;exact(fun J kJ=>kJ nm q bs sn sub ab col odict a b c d f rfl)
def mD{ini:Bool}(x:oK h name bm ini=true):BL h name bm ini:=by
 unfold oK at x;refine xC (h.clsAt dH name) (fun hf=>?_) fun y hf=>?_
 ·rw[hf] at x;injection x
 ·obtain⟨C,o,cd⟩:=y;rw[hf] at x;obtain⟨hn,ho,hd⟩:=Heap.clsAt_spec hf;revert x;refine xA fun x1 x=>?_;revert x;refine xA fun x2 x=>?_;revert x;refine xA fun x3 x=>?_;revert x;refine xA fun xd x=>?_;revert x;refine xA fun x4 x=>?_;revert x;refine xA fun x5 x=>?_;revert x;refine xA fun x6 x=>?_;revert x;refine xA fun x7 x8=>?_;refine(C9 (of_decide_eq_true x1) (of_decide_eq_true x2) ((gX _).mp x3) xd hd (of_decide_eq_true x4) (of_decide_eq_true x5)) _ fun nm q bs sn sub ab col dd k0 k1 k2 k3 k5 e=>?_;rw[e] at ho;exact(fun J kJ=>kJ C (h.nsMap cd.ns "__init__") hn ⟨nm,q,cd.ns,bs,sn,sub,ab,col,dd,k0,k1,k2,k3,k5,h.nsMap cd.ns,ho,Heap.Ns.of_isNs x6,fun n hn=>jI.mp (dg.mp x7 n hn),rfl⟩ (fun hi=>by
   rw[hi] at x8;exact jI.mp x8))
inductive ff(h:Heap):Prop
 |mk (m:Str->Option Value)(hm:h.Ns dH m)(NE:Addr)(hn:m (ar "NetError")=some (.ref NE))(net:aR h NE cF none)(kid:∀cn∈kids,∃C ini,m cn=some (.ref C)/\C≠NE/\aR h C (.ref NE::cF) ini/\(cn≠ar "BadNet"->ini=none))
   (inj:∀cn∈kids,∀dn∈kids,m cn=m dn->cn=dn):ff h
def ff.keeps(X:ff h)(hk:∀b o,h.get? b=some o->h'.get? b=some o):ff h':=by
 obtain⟨m,hm,NE,hn,net,kid,inj⟩:=X;refine⟨m,hm.keeps hk,NE,hn,net.keeps hk,fun cn hc=>?_,inj⟩;obtain⟨C,ini,h1,h2,h3,h4⟩:=kid cn hc;exact⟨C,ini,h1,h2,h3.keeps hk,h4⟩
theorem D6[DecidableEq β]{f:α->β}:∀{l:List α},z4 (l.map f)=true->∀a∈l,∀b∈l,f a=f b->a=b
 |[],_,_,ha,_,_,_=>nomatch ha
 |x::r,h,a,ha,b,hb,e=>by
  revert h;refine xA fun h1 h2=>?_;have h1:=of_decide_eq_true h1;rcases bj.mp ha with ea |ha'
  ·rcases bj.mp hb with eb |hb'
   ·rw[ea,eb]
   ·exact absurd (fg.mpr ⟨b,hb',e.symm.trans (by rw[ea])⟩) h1
  ·rcases bj.mp hb with eb |hb'
   ·exact absurd (fg.mpr ⟨a,ha',e.trans (by rw[eb])⟩) h1
   ·exact D6 h2 a ha' b hb' e
def ui(x:tC h=true):ff h:=by
 revert x;refine xA fun x0 x=>?_;refine xC (gS (h.nsMap dH (ar "NetError"))) (fun hr=>?_) fun NE hr=>?_
 ·rw[hr] at x;injection x
 ·rw[hr] at x;revert x;refine xA fun x1 x=>?_;revert x;refine xA fun x2 x3=>?_;refine xA (fun x4 x5=>?_) (show(decide _&&z4 _)=true from x3);refine(mD x1) _ fun C i h1 h2 h3=>?_;rw[h1] at hr;obtain rfl:=ai hr;obtain rfl:=h3 rfl;have k:∀cn∈kids,∃D ini,h.nsMap dH cn=some (.ref D)/\D≠C/\aR h D (.ref C::cF) ini/\(cn≠ar "BadNet"->ini=none):=fun cn hc=>by
   refine(mD (dg.mp x2 cn hc)) _ fun D i g1 g2 g3=>?_;refine⟨D,i,g1,fun q=>of_decide_eq_true x4 (fg.mpr ⟨cn,hc,?_⟩),g2,fun q=>g3 (decide_eq_true q)⟩;rw[g1,q];rfl
  exact⟨_,Heap.Ns.of_isNs x0,C,h1,h2,k,fun cn hc dn hd q=>D6 x5 cn hc dn hd (by show(h.nsMap dH cn).getD .none=_;rw[q])⟩
def mF(x:h.Ns a m)(y:h.Ns a m'):m=m':=by
 obtain⟨o,es,ep,h1,h2,_,h3⟩:=x;obtain⟨o',es',ep',g1,g2,_,g3⟩:=y;obtain rfl:=ai (h1.symm.trans g1);rw[h2] at g2;(injection g2 with Ja Jb;subst Jb;subst Ja);funext n;rw[<- h3,<-g3]
def sq(X:ff c.h0)(hg:c.h0.Ns dH c.g)(ve:c.g (ar "ValueError")=none/\c.b (ar "ValueError")=some (.type "ValueError")):cH c:=by
 obtain⟨m,hm,NE,hn,net,kid,inj⟩:=X;obtain rfl:=mF hm hg;exact⟨NE,hn,net,kid,inj,ve⟩
end
variable {C:CallT}{m m' s:Nat}
section
open PySem PySem.W PySem.Calls PyProof.Rows
set_option maxRecDepth 100000
theorem He(x:rX q v=true):∃t,v=some (.str q t):=by
 cases v with
 |none=>injection x
 |some v=>
  cases v with
  |str y t=>obtain rfl:y=q:=of_decide_eq_true x;exact⟨t,rfl⟩
  |_=>injection x
theorem qB(x:rn h cd q=true):h.CodeRec cd q:=by
 cases cd with
 |ref c=>
  replace x:((h.get? c).map (pS q)).getD false=true:=x;refine xC (h.get? c) (fun ho=>?_) fun o ho=>?_
  ·rw[ho] at x;injection x
  ·rw[ho] at x;replace x:pS q o=true:=x;unfold pS at x;cases hd:o.data with
   |fields vs=>
    rw[hd] at x;obtain⟨t,ht⟩:=He x;exact⟨c,o,vs,t,rfl,ho,hd,ht⟩
   |_=>rw[hd] at x;injection x
 |_=>injection x
theorem FN{v:Value}(x:kF v=true):v=.none:=by
 cases v with
 |none=>rfl
 |_=>injection x
theorem JI{b:FuncBody}(ho:h.get? f=some o)(x:uI h o=some b)(hb:some b=sU p)(hl:vr p=true):∃fd,fC h f o fd:=by
 unfold uI at x;cases hd:o.data with
 |func fd=>
  rw[hd] at x;refine xS (fun z wj=>?_) (show(if DY h o fd=true then some fd.body else none)=some b from x);subst wj;clear x;revert z;refine xA fun x1 x=>?_;skip;revert x;refine xA fun x2 x=>?_;revert x;refine xA fun x3 x=>?_;revert x;refine xA fun x4 x=>?_;revert x;refine xA fun x5 x=>?_;revert x;refine xA fun x6 x=>?_;revert x;refine xA fun x7 x=>?_;revert x;refine xA fun x8 x=>?_;revert x;refine xA fun x9 x=>?_;revert x;refine xA fun x10 x11=>?_;obtain⟨y1,y2,y3,y4,y5,y6⟩:=of_decide_eq_true x4;have ha:=of_decide_eq_true x11;refine⟨fd,ho,of_decide_eq_true x1,hd,qB x2,?_,of_decide_eq_true x3,y1,y2,y3,y4,y5,y6,fun a b=>?_⟩
  ·unfold sU at hb;unfold vr at hl;refine xC (Ak (Ac p)) (fun hq=>?_) fun q hq=>?_
   ·rw[hq] at hb;injection hb
   ·rw[hq] at hb hl;exact⟨_,_,_,_,_,_,_,_,_,_,_,ai hb,hl⟩
  ·have:=yd (fd:=fd) (FN x5) (FN x6) (gq.mp x7) (gq.mp x8) (jI.mp x9) (jI.mp x10) (by rw[ha];decide) [a,b] (by rw[ha];rfl);rw[ha] at this;exact this
 |_=>rw[hd] at x;injection x
inductive fz(h:Heap):Prop
 |mk (m:Str->Option Value)(hm:h.Ns dH m)(NE C fI:Addr)(oI:Obj)(fd:qbe)(hn:m (ar "NetError")=some (.ref NE))(hg:m (ar "BadNet")=some (.ref C))(own:aR h C (.ref NE::cF) (some (.ref fI)))(net:aR h NE cF none)
   (I:fC h fI oI fd) (hst:∃mc,h.Ns cStatics mc/\mc "thirdparty.any"=none):fz h
def fz.keeps(X:fz h)(hk:∀b o,h.get? b=some o->h'.get? b=some o):fz h':=by
 obtain⟨m,hm,NE,C,fI,oI,fd,hn,hg,own,net,I,mc,h1,h2⟩:=X;exact⟨m,hm.keeps hk,NE,C,fI,oI,fd,hn,hg,own.keeps hk,net.keeps hk,{ I with ho:=hk _ _ I.ho,code:=I.code.keeps hk },mc,h1.keeps hk,h2⟩
def sj(X:fz c.h0)(hg:c.h0.Ns dH c.g):eD c:=by
 obtain⟨m,hm,NE,C,fI,oI,fd,hn,hg',own,net,I,hst⟩:=X;obtain rfl:=mF hm hg;exact⟨NE,C,fI,oI,fd,hn,hg',own,net,I,hst⟩
theorem Iz(h:gS v=some a):v=some (.ref a):=by
 cases v with
 |none=>injection h
 |some v=>
  cases v with
  |ref b=>obtain rfl:=ai h;rfl
  |_=>injection h
def uD(X:ff h)(hb:pR h=sU p)(hl:vr p=true):fz h:=by
 have hs:∃b,sU p=some b:=by
  unfold vr at hl;unfold sU;refine xC (Ak (Ac p)) (fun hq=>?_) fun q hq=>?_
  ·rw[hq] at hl;injection hl
  ·exact⟨_,rfl⟩
 obtain⟨b,hb'⟩:=hs;rw[hb'] at hb;unfold pR at hb;refine xC (h.clsAt dH (ar "BadNet")) (fun hc=>?_) fun y hc=>?_
 ·rw[hc] at hb;injection hb
 ·obtain⟨C,o,cd⟩:=y;rw[hc] at hb;obtain⟨hn,ho,hd⟩:=Heap.clsAt_spec hc;revert hb;refine xB fun f h1 hb=>?_;revert hb;refine xB fun oI h2 hb=>?_;revert hb;refine xO fun h3 h4=>?_;obtain⟨fd,I⟩:=JI h2 h4 hb'.symm hl;obtain⟨m,hm,NE,hN,net,kid,inj⟩:=X;obtain⟨C',ini,g1,g2,g3,g4⟩:=kid (ar "BadNet") (by decide);obtain rfl:C'=C:=by
   have e:=hm.eq_nsMap;rw[e,hn] at g1;(injection g1 with Ja;injection Ja with w4;subst w4);rfl
  obtain⟨nm,q,N,bs,sn,sub,ab,col,dd,k0,k1,k2,k3,k5,mN,hC,hNs,hq,hi⟩:=g3;obtain rfl:=ai (ho.symm.trans hC);obtain rfl:N=cd.ns:=by
   have e:=Data.cls.inj hd;rw[<- e]
  have hi':mN "__init__"=some (.ref f):=by rw[hNs.eq_nsMap];exact Iz h1
  exact⟨m,hm,NE,C',f,oI,fd,hN,g1,⟨nm,q,_,bs,sn,sub,ab,col,dd,k0,k1,k2,k3,k5,mN,hC,hNs,hq,hi'⟩,net,I,_,Heap.Ns.of_isNs h3.1,h3.2⟩
noncomputable def wI(p:qbi)(hl:vr p=true):W.Hook:=⟨Bool×Option FuncBody,fun s=>(tC s.heap,pR s.heap),fun J=>(true,sU p),fun J h=>ff h/\fz h,fun J J h=>
 have X:=ui (pY h).1
 ⟨X,uD X (pY h).2 hl⟩,fun J J J h hk=>⟨h.1.keeps hk,h.2.keeps hk⟩⟩
end
variable {a h v:Nat}{c:List Nat}{f:Nat->List (Nat×Nat)}{o:Option (Nat->Nat)}{p:Nat×Nat}{q:Bool}
abbrev Net:=List (List (Nat×Nat))
def eM(n:Nat):Nat->List (Nat×Nat)->Prop
 |_,[]=>True
 |lo,(l,h)::r=>l<h/\h<n/\lo<=h/\eM n (h+1) r
def cm(n:Nat)(layer:List (Nat×Nat)):Prop:=layer≠[]/\eM n 0 layer
def gk(n:Nat)(net:Net):Prop:=net.length<=80/\∀layer∈net,cm n layer
theorem z7:∀{layer:List (Nat×Nat)} {lo:Nat},eM n lo layer->layer≠[]->layer.length+lo<=n/\(0<lo\/layer.length<n)
 |[],_,_,hn=>absurd rfl hn
 |(l,h)::r,lo,hr,_=>by
  obtain⟨h1,h2,h3,h4⟩:=hr;by_cases hn:r=[]
  ·subst hn;simp only[fO,List.length_nil];exact bo [_,_,_,_] [] 0x310a528003080801840500c2008000294a000c20180610100308000 (Y6 (Y0 (Y0 J1 V0) V1) (Y7 (Y1 J0 V0) (Y1 J1 V1))) (Y1 V2 V3) (Y1 V3 V1) (Y0 V0 V3) h1 h2 h3
  ·have:=z7 h4 hn;simp only[fO];exact bo [_,_,_,_,_] [] 0x310a528003080801840600c2008000294a000c20180610100308000 (Y6 (Y0 (Y0 (Y0 V0 J1) V1) V2) (Y7 (Y1 J0 V1) (Y1 (Y0 V0 J1) V2))) (Y1 V3 V4) (Y0 V1 V4) (Y0 (Y0 V0 (Y0 V4 J1)) V2) h1 h3 this.1
noncomputable def oH (n:Nat) (lays:Net):Net:=lays++List.replicate (n-lays.length) []
noncomputable def vA(lays:Net)(i:Nat)(p:Nat×Nat):Net:=(oH (i+1) lays).set i ((oH (i+1) lays).getD i []++[p])
noncomputable def g0(xs:List Nat)(i:Nat):Nat:=xs.getD i 0
noncomputable def gn(done read:List Nat)(l h:Nat):Nat:=max (max (g0 done l) (g0 done h)) (g0 read h)
variable {lays:Net}
noncomputable def bE{α:Type}(f:α->α->α)(layer:List (Nat×Nat))(σ:Nat->α):Nat->α:=fun x=>match layer.find? (fun p=>p.2==x) with
 |some p=>f (σ p.1) (σ x)
 |none=>σ x
noncomputable def aY{α:Type}(f:α->α->α):List (List (Nat×Nat))->(Nat->α)->Nat->α
 |[],σ=>σ
 |layer::r,σ=>aY f r (bE f layer σ)
noncomputable def y9{α:Type}(f:α->α->α)(l h:Nat)(σ:Nat->α):Nat->α:=fun x=>if x=h then f (σ l) (σ h) else σ x
noncomputable def gc{α:Type}(f:α->α->α):List (Nat×Nat)->(Nat->α)->Nat->α
 |[],σ=>σ
 |p::r,σ=>gc f r (y9 f p.1 p.2 σ)
section
variable {f:α->α->α}
theorem zJ{σ:Nat->α}:aY f [] σ=σ:=rfl
theorem nM{σ:Nat->α}:aY f (y::r) σ=aY f r (bE f y σ):=rfl
theorem Hw{r:List (Nat×Nat)}{σ:Nat->α}:gc f (p::r) σ=gc f r (y9 f p.1 p.2 σ):=rfl
theorem xu:∀(a b:List (List (Nat×Nat)))(σ:Nat->α),aY f (a++b) σ=aY f b (aY f a σ)
 |[],_,_=>rfl
 |_::a,b,_=>xu a b _
theorem Gv:∀(a b:List (Nat×Nat))(σ:Nat->α),gc f (a++b) σ=gc f b (gc f a σ)
 |[],_,_=>rfl
 |_::a,b,_=>Gv a b _
theorem Bh{σ:Nat->α}(h:∀p∈layer,p.2≠x):bE f layer σ x=σ x:=by
 unfold bE;have:layer.find? (fun p=>p.2==x)=none:=by
  rw[List.find?_eq_none];intro p hp;simpa using h p hp
 rw[this]
theorem Ai:∀{net:List (List (Nat×Nat))} {σ:Nat->α} {x:Nat},(∀layer∈net,∀p∈layer,p.2≠x)->aY f net σ x=σ x
 |[],_,_,_=>rfl
 |layer::r,σ,x,h=>by
  simp only[zJ,nM];rw[Ai fun l hl=>h l (a0 _ hl),Bh (h layer aI)]
theorem Kg {σ τ:Nat->α} (ha:∀x,x≠h->σ x=τ x) (hr:∀p∈layer,p.1≠h/\p.2≠h):∀x,x≠h->bE f layer σ x=bE f layer τ x:=by
 intro x hx;unfold bE;cases hf:layer.find? (fun p=>p.2==x) with
 |none=>exact ha x hx
 |some p=>
  have hp:=rY hf;simp only;rw[ha p.1 (hr p hp).1,ha x hx]
theorem El:∀{net:List (List (Nat×Nat))} {σ τ:Nat->α} {h:Nat},(∀x,x≠h->σ x=τ x)->(∀layer∈net,∀p∈layer,p.1≠h/\p.2≠h)->∀x,x≠h->aY f net σ x=aY f net τ x
 |[],_,_,_,ha,_=>ha
 |layer::r,σ,τ,h,ha,hr=>by
  simp only[zJ,nM];exact El (net:=r) (Kg ha (hr layer aI)) fun l hl=>hr l (a0 _ hl)
theorem K3 {pre post:List (List (Nat×Nat))} {layer':List (Nat×Nat)} (hperm:∀p,p∈layer'↔p=(l,h)\/p∈layer) (hnd:∀p∈layer,∀q∈layer,p.2=q.2->p=q) (h1:∀p∈layer,p.2≠h/\p.2≠l) (h2:∀lay∈post,∀p∈lay,p.1≠h/\p.2≠h/\p.2≠l) (hlh:l≠h) (σ:Nat->α) :
  aY f (pre++layer'::post) σ=y9 f l h (aY f (pre++layer::post) σ):=by
 rw[xu,xu];generalize aY f pre σ=τ;simp only[zJ,nM];have find_eq:∀x,x≠h->(layer'.find? (fun p=>p.2==x))=layer.find? (fun p=>p.2==x):=by
  intro x hx;cases hf:layer.find? (fun p=>p.2==x) with
  |none=>
   rw[List.find?_eq_none] at hf ⊢;intro p hp;rcases(hperm p).mp hp with rfl |hp
   ·simpa using c5 hx
   ·exact hf p hp
  |some p=>
   have hp:=rY hf;have hpx:p.2=x:=by have:=List.find?_some hf;simpa using this
   cases hf':layer'.find? (fun p=>p.2==x) with
   |none=>
    rw[List.find?_eq_none] at hf';exact absurd (by simpa using hpx) (hf' p ((hperm p).mpr (.inr hp)))
   |some p'=>
    have hp':=rY hf';have hpx':p'.2=x:=by have:=List.find?_some hf';simpa using this
    rcases(hperm p').mp hp' with rfl |hp'
    ·exact absurd hpx' (c5 hx)
    ·rw[hnd p hp p' hp' (hpx.trans hpx'.symm)]
 have agree:∀x,x≠h->bE f layer' τ x=bE f layer τ x:=by
  intro x hx;unfold bE;rw[find_eq x hx]
 have athigh:bE f layer' τ h=f (τ l) (τ h):=by
  unfold bE;cases hf:layer'.find? (fun p=>p.2==h) with
  |none=>
   rw[List.find?_eq_none] at hf;exact absurd (by simp) (hf (l,h) ((hperm _).mpr (.inl rfl)))
  |some p=>
   have hp:=rY hf;have hpx:p.2=h:=by have:=List.find?_some hf;simpa using this
   rcases(hperm p).mp hp with rfl |hp
   ·rfl
   ·exact absurd hpx (h1 p hp).1
 funext x;unfold y9;by_cases hx:x=h
 ·subst hx;rw[if_pos rfl,Ai (fun lay hl p hp=>(h2 lay hl p hp).2.1),athigh];rw[Ai (fun lay hl p hp=>(h2 lay hl p hp).2.2),Ai (fun lay hl p hp=>(h2 lay hl p hp).2.1)];rw[Bh (fun p hp=>(h1 p hp).2),Bh (fun p hp=>(h1 p hp).1)]
 ·rw[if_neg hx];exact El agree (fun lay hl p hp=>⟨(h2 lay hl p hp).1,(h2 lay hl p hp).2.1⟩) x hx
end
variable {r:List Nat}
def qW(h:a<=s+k)(hs:s<=800)(hk:k<=64):a<900:=eJ (aD h (Nat.add_le_add hs hk)) (by decide)
def Co(ha:a<=80)(hb:b<=80):a+b<10000:=eJ (Nat.add_le_add ha hb) (by decide)
def xP(ha:a<=80)(hb:b<=80):a+1+b<10000:=eJ (Nat.add_le_add (Nat.succ_le_succ ha) hb) (by decide)
def o6(h:i+1<n):n-1=min i n+(n-(i+2)+1):=by
 obtain⟨k,rfl⟩:=Nat.exists_eq_add_of_le' (show i+2<=n from h);rw[Nat.min_eq_left (aD (gM i 2) (Nat.le_add_left ..)),Nat.add_sub_cancel];exact Nat.add_left_comm k i 1
def wV{x y:Int}(h:0<y):∃n:Nat,x%y=(n:Int):=⟨_,(Int.toNat_of_nonneg (Int.emod_nonneg _ (Int.ne_of_gt h))).symm⟩
def yZ:(0:Int)<1+(k:Int):=Int.add_pos_of_pos_of_nonneg (by decide) (iS k)
structure PS where
 lays:Net
 done:List Nat
 read:List Nat
noncomputable def PS.put(s:PS)(p:Nat×Nat):PS:=
 ⟨vA s.lays (gn s.done s.read p.1 p.2) p,s.done.set p.2 (gn s.done s.read p.1 p.2+1),s.read.set p.1 (max (g0 s.read p.1) (gn s.done s.read p.1 p.2))⟩
noncomputable def PS.puts(s:PS)(js:List (Nat×Nat)):PS:=js.foldl PS.put s
noncomputable def PS.init(n:Nat):PS:=⟨[],List.replicate n 0,List.replicate n 0⟩
def PS.puts_append(s:PS)(a b:List (Nat×Nat)):s.puts (a++b)=(s.puts a).puts b:=List.foldl_append
theorem F8(h:i<=lays.length):vA lays i p=lays.take i++(lays.getD i []++[p])::lays.drop (i+1):=by
 unfold vA;by_cases hi:i<lays.length
 ·have e:oH (i+1) lays=lays:=by unfold oH;rw[Nat.sub_eq_zero_of_le hi,List.replicate_zero,d5]
  rw[e,zW,if_pos hi]
 ·obtain rfl:=Nat.le_antisymm h (fE hi);have e:oH (lays.length+1) lays=lays++[[]]:=by unfold oH;rw[Nat.add_sub_cancel_left];rfl
  rw[e,List.set_append_right _ _ (aJ _)];simp[b7]
theorem GT{f:α->α->α}{σ:Nat->α}:bE f [] σ=σ:=rfl
theorem Ia{f:α->α->α}{σ:Nat->α}(h:i<=lays.length):aY f lays σ=aY f (lays.take i++lays.getD i []::lays.drop (i+1)) σ:=by
 by_cases hi:i<lays.length
 ·have:lays.take i++lays.getD i []::lays.drop (i+1)=lays:=by
   rw[b7,bt hi];simp
  rw[this]
 ·obtain rfl:=Nat.le_antisymm h (fE hi);rw[xu,List.drop_eq_nil_of_le (Nat.le_succ _)];simp[zJ,nM,GT,b7]
theorem zS{xs:List Nat}(hi:i<xs.length):g0 (xs.set i v) x=if x=i then v else g0 xs x:=by
 unfold g0;rw[b7,List.getElem?_set,b7];by_cases h:x=i
 ·subst h;simp[hi]
 ·rw[if_neg (c5 h),if_neg h]
structure bh(n:Nat)(s:PS)(js:List (Nat×Nat)):Prop where
 dl:s.done.length=n
 rl:s.read.length=n
 hi:∀i y,s.lays[i]?=some y->∀p∈y,i<g0 s.done p.2/\i<=g0 s.read p.1/\p.1<p.2/\p.2<n
 ne:∀y∈s.lays,y≠[]
 nd:∀y∈s.lays,(y.map (·.2)).Nodup
 dm:∀x,g0 s.done x<=s.lays.length/\g0 s.read x<=s.lays.length
 run:∀{α:Type} (f:α->α->α) (σ:Nat->α),aY f s.lays σ=gc f js σ
def o4(n x:Nat):g0 (List.replicate n 0) x=0:=by
 unfold g0;rw[b7,List.getElem?_replicate];split<;>rfl
theorem bh.init(n:Nat):bh n (PS.init n) [] where
 dl:=by simp[PS.init]
 rl:=by simp[PS.init]
 hi:=by simp[PS.init]
 ne:=by simp[PS.init]
 nd:=by simp[PS.init]
 dm:=by intro x;simp[PS.init,o4]
 run:=by intros;rfl
theorem D2(h:(y.map (·.2)).Nodup):∀p∈y,∀q∈y,p.2=q.2->p=q:=by
 induction y with
 |nil=>intro p hp;cases hp
 |cons a r ih=>
  simp only[fK,lX,fg,not_exists,not_and] at h;intro p hp q hq e;rcases bj.mp hp with hp1 |hp1<;>rcases bj.mp hq with hq1 |hq1
  ·rw[hp1,hq1]
  ·exact absurd (e.symm.trans (by rw[hp1])) (h.1 q hq1)
  ·exact absurd (e.trans (by rw[hq1])) (h.1 p hp1)
  ·exact ih h.2 p hp1 q hq1 e
def bh.at_le{s:PS}(L:bh n s js)(l h:Nat):gn s.done s.read l h<=s.lays.length:=Nat.max_le.mpr ⟨Nat.max_le.mpr ⟨(L.dm l).1,(L.dm h).1⟩,(L.dm h).2⟩
def EM(h:k<=n):k+(n-(k+1)+1)=max n (k+1):=by
 rcases Nat.lt_or_ge k n with h' |h'
 ·exact((Nat.succ_add k _).symm.trans (Nat.add_sub_cancel' h')).trans (Nat.max_eq_left h').symm
 ·obtain rfl:=Nat.le_antisymm h h';rw[Nat.sub_eq_zero_of_le (Nat.le_succ k)];exact(Nat.max_eq_right (Nat.le_succ k)).symm
set_option tactic.hygienic true in
theorem bh.put{s:PS}(L:bh n s js)(hlh:l<h)(hn:h<n):bh n (s.put (l,h)) (js++[(l,h)]):=by
 have hat:=L.at_le l h
 have e1:g0 s.done l<=gn s.done s.read l h:=aD (Nat.le_max_left ..) (Nat.le_max_left ..)
 have e2:g0 s.done h<=gn s.done s.read l h:=aD (Nat.le_max_right ..) (Nat.le_max_left ..)
 have e3:g0 s.read h<=gn s.done s.read l h:=Nat.le_max_right ..
 generalize hk:gn s.done s.read l h=k at hat e1 e2 e3
 have hput:s.put (l,h)=⟨s.lays.take k++(s.lays.getD k []++[(l,h)])::s.lays.drop (k+1),s.done.set h (k+1),s.read.set l (max (g0 s.read l) k)⟩:=by
  simp only[PS.put,hk,F8 hat]
 rw[hput]
 have dl:=L.dl;have rl:=L.rl
 have hgd:∀x,g0 (s.done.set h (k+1)) x=if x=h then k+1 else g0 s.done x:=fun x=>zS (dl▸hn)
 have hgr:∀x,g0 (s.read.set l (max (g0 s.read l) k)) x=if x=l then max (g0 s.read l) k else g0 s.read x:=fun x=>zS (rl▸cN hlh hn)
 have wq:(s.lays.take k++(s.lays.getD k []++[(l,h)])::s.lays.drop (k+1)).length=max s.lays.length (k+1):=by rw[bw,gg,fO,gF,Nat.min_eq_left hat,EM hat]
 have hlt:(s.lays.take k).length=k:=by rw[gg,Nat.min_eq_left hat]
 have old:∀i y,s.lays[i]?=some y->∀p∈y,i<g0 (s.done.set h (k+1)) p.2/\i<=g0 (s.read.set l (max (g0 s.read l) k)) p.1/\p.1<p.2/\p.2<n:=by
  intro i y hy p hp
  obtain⟨a1,a2,a3,a4⟩:=L.hi i y hy p hp
  rw[hgd,hgr]
  refine⟨?_,?_,a3,a4⟩
  ·split
   ·rename_i e;rw[e] at a1;exact Nat.lt_succ_of_le (aD (bO a1) e2)
   ·exact a1
  ·split
   ·rename_i e;rw[e] at a2;exact aD a2 (Nat.le_max_left ..)
   ·exact a2
 have hgetk:∀p,p∈s.lays.getD k []->∃y,s.lays[k]?=some y/\p∈y:=by
  intro p hp
  rw[b7] at hp
  refine xC (s.lays[k]?) (fun hy=>?_) fun y hy=>?_
  ·rw[hy] at hp;cases hp
  ·rw[hy] at hp;exact⟨y,rfl,hp⟩
 have hidx:∀i,(s.lays.take k++(s.lays.getD k []++[(l,h)])::s.lays.drop (k+1))[i]?=if i=k then some (s.lays.getD k []++[(l,h)]) else s.lays[i]?:=by
  intro i
  rcases Nat.lt_trichotomy i k with hi |hi |hi
  ·rw[jc (Nat.lt_of_lt_of_eq hi hlt.symm),List.getElem?_take,if_pos hi,if_neg (ck hi)]
  ·subst hi;rw[iH (eR hlt),hlt,Nat.sub_self,if_pos rfl];rfl
  ·rw[iH (aD (eR hlt) (bO hi)),if_neg (Nat.ne_of_gt hi),hlt]
   obtain⟨j,rfl⟩:=Nat.exists_eq_add_of_le (show k+1<=i from hi)
   rw[show k+1+j-k=j+1 by rw[Nat.add_assoc,Nat.add_sub_cancel_left,Nat.add_comm],List.getElem?_cons_succ,List.getElem?_drop]
 have hmem:∀y,y∈(s.lays.take k++(s.lays.getD k []++[(l,h)])::s.lays.drop (k+1))->y=s.lays.getD k []++[(l,h)]\/y∈s.lays:=by
  intro y hy
  rcases bJ.mp hy with hy |hy
  ·exact .inr (List.mem_of_mem_take hy)
  ·rcases bj.mp hy with hy |hy
   ·exact .inl hy
   ·exact .inr (List.mem_of_mem_drop hy)
 have hkh:∀p∈s.lays.getD k [],p.2≠h/\p.2≠l:=by
  intro p hp
  obtain⟨y,hy,hp⟩:=hgetk p hp
  obtain⟨a1,_⟩:=L.hi k y hy p hp
  constructor
  ·intro e;rw[e] at a1;exact d4 _ (cS a1 e2)
  ·intro e;rw[e] at a1;exact d4 _ (cS a1 e1)
 have hknd:((s.lays.getD k []).map (·.2)).Nodup:=by
  rw[b7]
  refine xC (s.lays[k]?) (fun hy=>?_) fun y hy=>?_
  ·exact nB
  ·exact L.nd y (bG hy)
 exact{
  dl:=(gv ..).trans dl
  rl:=(gv ..).trans rl
  hi:=by
   intro i y hy p hp
   rw[hidx] at hy
   split at hy
   ·rename_i e;subst e
    (injection hy with Ja;subst Ja)
    rcases bJ.mp hp with hp |hp
    ·obtain⟨y,hy,hp⟩:=hgetk p hp
     exact old _ y hy p hp
    ·rw[aN.mp hp,hgd,hgr,if_pos rfl,if_pos rfl]
     exact⟨Nat.lt_succ_self _,Nat.le_max_right ..,hlh,hn⟩
   ·exact old _ y hy p hp
  ne:=by
   intro y hy
   rcases hmem y hy with rfl |hy
   ·exact List.append_ne_nil_of_right_ne_nil _ (List.cons_ne_nil _ _)
   ·exact L.ne y hy
  nd:=by
   intro y hy
   rcases hmem y hy with rfl |hy
   ·rw[bT,og]
    refine⟨hknd,List.pairwise_singleton ..,?_⟩
    intro a ha b hb
    revert ha;refine xL fun p hp wj=>?_;subst wj
    rw[show b=h from aN.mp hb]
    exact(hkh p hp).1
   ·exact L.nd y hy
  dm:=by
   intro x
   rw[wq,hgd,hgr]
   have d1:=L.dm x;have d2:=L.dm l
   constructor<;>split
   ·exact Nat.le_max_right ..
   ·exact aD d1.1 (Nat.le_max_left ..)
   ·exact Nat.max_le.mpr ⟨aD d2.2 (Nat.le_max_left ..),aD (Nat.le_succ k) (Nat.le_max_right ..)⟩
   ·exact aD d1.2 (Nat.le_max_left ..)
  run:=by
   intro α f σ
   rw[Gv,<-L.run f σ,Ia hat]
   refine K3 (l:=l) (h:=h) ?_ (D2 hknd) hkh ?_ (ck hlh) σ
   ·intro p;exact bJ.trans (Or.comm.trans (or_congr_left aN))
   ·intro lay hlay p hp
    obtain⟨i,hi,e⟩:=q9.mp hlay
    have hy:s.lays[k+1+i]?=some lay:=by
     rw[<- List.getElem?_drop,bt hi,e]
    obtain⟨a1,a2,a3,a4⟩:=L.hi _ lay hy p hp
    refine⟨?_,?_,?_⟩<;>intro e
    ·rw[e] at a2;exact Nat.not_succ_le_self k (aD (gM ..) (aD a2 e3))
    ·rw[e] at a1;exact Nat.not_succ_le_self k (aD (gM ..) (aD (bO a1) e2))
    ·rw[e] at a1;exact Nat.not_succ_le_self k (aD (gM ..) (aD (bO a1) e1)) }
theorem bh.puts:∀{ks:List (Nat×Nat)} {s:PS} {js:List (Nat×Nat)},bh n s js->(∀p∈ks,p.1<p.2/\p.2<n)->bh n (s.puts ks) (js++ks)
 |[],s,js,L,_=>by simpa[PS.puts] using L
 |(l,h)::r,s,js,L,hk=>by
  have hp:=hk (l,h) aI;have:=bh.puts (ks:=r) (L.put hp.1 hp.2) fun p hp=>hk p (a0 _ hp);rw[fQ] at this;exact this
def batch:List Nat->List Nat->List (Nat×Nat)->Prop
 |_,_,[]=>True
 |wr,rd,(l,h)::r=>l∉wr/\h∉wr/\h∉rd/\batch (h::wr) (l::rd) r
theorem Es {s:PS} (L:bh n s js) (l h:Nat):(s.put (l,h)).lays.length=max s.lays.length (gn s.done s.read l h+1):=by
 simp only[PS.put,F8 (L.at_le l h)];rw[bw,gg,fO,gF,Nat.min_eq_left (L.at_le l h),EM (L.at_le l h)]
theorem DH:∀{ks:List (Nat×Nat)} {s:PS} {js:List (Nat×Nat)} {wr rd:List Nat},bh n s js->(∀p∈ks,p.1<p.2/\p.2<n)->batch wr rd ks -> (∀x,(x∉wr->g0 s.done x<=M)/\(x∉wr->x∉rd->g0 s.read x<=M))->s.lays.length<=M+1->(s.puts ks).lays.length<=M+1
 |[],s,js,wr,rd,L,_,_,_,hs=>hs
 |(l,h)::r,s,js,wr,rd,L,hk,hb,hx,hs=>by
  have hp:=hk (l,h) aI;obtain⟨b1,b2,b3,b4⟩:=hb;have x1:=(hx l).1 b1;have x2:=(hx h).1 b2;have x3:=(hx h).2 b2 b3;have hat:gn s.done s.read l h<=M:=Nat.max_le.mpr ⟨Nat.max_le.mpr ⟨x1,x2⟩,x3⟩;refine DH (ks:=r) (L.put hp.1 hp.2) (fun p hp=>hk p (a0 _ hp)) b4 ?_ ?_
  ·intro x;show(_->g0 (s.done.set _ _) x<=M)/\(_->_->g0 (s.read.set _ _) x<=M);rw[zS (L.dl▸hp.2),zS (L.rl▸cN hp.1 hp.2)];constructor
   ·intro hw;have:x≠h:=fun e=>hw (e▸aI);rw[if_neg this];exact(hx x).1 fun hw'=>hw (a0 _ hw')
   ·intro hw hr;have:x≠l:=fun e=>hr (e▸aI);rw[if_neg this];exact(hx x).2 (fun hw'=>hw (a0 _ hw')) (fun hr'=>hr (a0 _ hr'))
  ·rw[Es L];exact Nat.max_le.mpr ⟨hs,Nat.succ_le_succ hat⟩
def bh.batch {s:PS} (L:bh n s js) (hk:∀p∈ks,p.1<p.2/\p.2<n) (hb:Bn.batch [] [] ks):(s.puts ks).lays.length<=s.lays.length+1:=
 DH L hk hb (fun x=>⟨fun J=>(L.dm x).1,fun J J=>(L.dm x).2⟩) (Nat.le_succ _)
variable {a b:List (Nat×Nat)}{s':PS}
noncomputable def upd(B:Nat->Nat)(h v:Nat):Nat->Nat:=fun x=>if x=h then v else B x
def pB(e:x≠h):upd B h v x=B x:=if_neg e
def zO:upd B h v h=v:=if_pos rfl
def gp(B:Nat->Nat):List (Nat×Nat)->(Nat->Nat)->Prop
 |[],B'=>B=B'
 |(l,h)::r,B'=>l+1=B h/\gp (upd B h (B l)) r B'
theorem gp.append:∀{a b:List (Nat×Nat)}{B B1 B2:Nat->Nat},gp B a B1->gp B1 b B2->gp B (a++b) B2
 |[],b,B,B1,B2,h1,h2=>by subst h1;exact h2
 |(l,h)::r,b,B,B1,B2,h1,h2=>⟨h1.1,h1.2.append h2⟩
noncomputable def dC(b x:Nat):List Nat:=List.range' b (x+1-b)
def FZ{b:Nat}(h1:b<=l)(h2:l<h):dC b l++dC (l+1) h=dC b h:=by
 unfold dC;have e:l+1=b+1*(l+1-b):=by exact aj [_,_] [] 0x6194a000c2018061004050846100023410a5000610200308000000a50006101003080002842308001 (Y2 (Y0 V0 J1) (Y0 V1 (Y1 J1 (Y2 (Y0 V0 J1) V1)))) (Y0 V1 V0) h1
 rw[show List.range' (l+1) (h+1-(l+1))=List.range' (b+1*(l+1-b)) (h+1-(l+1)) by rw[<- e],List.range'_append];congr 1;exact bo [_,_,_] [] 0x61a08528003081201840000003294a50008102c03080e01840300c20080a108c20104a3080011840208d04294a000c2040061024030800000065294a000c205806101c0308060184010146100023080412842308041 (Y2 (Y0 (Y2 (Y0 V0 J1) V1) (Y2 (Y0 V2 J1) (Y0 V0 J1))) (Y2 (Y0 V2 J1) V1)) (Y0 V1 V0) (Y1 V0 V2) (Y2 (Y0 V0 J1) (Y0 V1 (Y1 J1 (Y2 (Y0 V0 J1) V1)))) h1 h2 e
theorem yx:∀{js:List (Nat×Nat)} {B B':Nat->Nat},gp B js B'->(∀x,B x<=x)->(∀x,B' x<=x)/\gc (·++·) js (fun x=>dC (B x) x)=fun x=>dC (B' x) x
 |[],B,B',h,hb=>by subst h;exact⟨hb,rfl⟩
 |(l,h)::r,B,B',hp,hb=>by
  obtain⟨h1,h2⟩:=hp;have hlh:l<h:=by have:=hb h;exact ay [_,_,_] [] kab (Y1 V0 V1) (Y2 (Y0 V0 J1) V2) (Y0 V2 V1) h1 this
  have hb':∀x,upd B h (B l) x<=x:=by
   intro x;unfold upd;split
   ·have:=hb l;exact bo [_,_,_,_] [] 0xa5294001840000c200808100c0308040 (Y0 V0 V1) (Y1 V2 V3) (Y0 V0 V2) (Y2 V1 V3) hlh this (by assumption)
   ·exact hb x
  obtain⟨i1,i2⟩:=yx h2 hb';refine⟨i1,?_⟩;rw[<- i2];simp only[Hw];congr 1;funext x;unfold y9;by_cases e:x=h
  ·subst e;rw[if_pos rfl,zO];show dC (B l) l++dC (B x) x=_;rw[<- h1,FZ (hb l) hlh]
  ·rw[if_neg e,pB e]
theorem zT:∀{js:List (Nat×Nat)} {B B':Nat->Nat},gp B js B'->(∀x,B x<=x)->∀p∈js,p.1<p.2
 |[],_,_,_,_,p,hp=>by cases hp
 |(l,h)::r,B,B',hp,hb,p,hm=>by
  obtain⟨h1,h2⟩:=hp;have hlh:l<h:=by have:=hb h;exact ay [_,_,_] [] kab (Y1 V0 V1) (Y2 (Y0 V0 J1) V2) (Y0 V2 V1) h1 this
  rcases bj.mp hm with rfl |hm
  ·exact hlh
  ·refine zT h2 ?_ p hm;intro x;unfold upd;split
   ·have:=hb l;exact bo [_,_,_,_] [] 0xa5294001840000c200808100c0308040 (Y0 V0 V1) (Y1 V2 V3) (Y0 V0 V2) (Y2 V1 V3) hlh this (by assumption)
   ·exact hb x
def j2 (B:Nat->Nat):Nat->List Nat->Prop
 |_,[]=>True
 |s,x::r=>B x=s/\s<=x/\j2 B (x+1) r
theorem j2.ge:∀{xs:List Nat}{s:Nat},j2 B s xs->∀x∈xs,s<=x
 |[],_,_,x,hx=>by cases hx
 |y::r,s,h,x,hx=>by
  rcases bj.mp hx with rfl |hx
  ·exact h.2.1
  ·have:=h.2.2.ge x hx;have:=h.2.1;exact ay [_,_,_] [] kae (Y0 V0 V1) (Y0 V0 V2) (Y0 (Y0 V2 J1) V1) this (by assumption)
theorem j2.congr:∀{xs:List Nat}{s:Nat},j2 B s xs->(∀x∈xs,B' x=B x)->j2 B' s xs
 |[],_,_,_=>trivial
 |y::r,s,h,hx=>⟨(hx y aI).trans h.1,h.2.1,h.2.2.congr fun x hm=>hx x (a0 _ hm)⟩
noncomputable def thin(cond:Nat->Bool):Nat->Nat->List Nat->List (Nat×Nat)×List (Nat×Nat)×List Nat
 |_,_,[]=>([],[],[])
 |_,_,[x]=>([],[],[x])
 |k,s,x::y::r=>if cond k then((x,y)::(thin cond (k+2) (y+1) r).1,(if s=0 then[] else[(s-1,x)])++(thin cond (k+2) (y+1) r).2.1,y::(thin cond (k+2) (y+1) r).2.2)
  else((thin cond (k+1) (x+1) (y::r)).1,(thin cond (k+1) (x+1) (y::r)).2.1,x::(thin cond (k+1) (x+1) (y::r)).2.2)
theorem jW:thin cond k s []=([],[],[]):=rfl
theorem C8{y:Nat}:thin cond k s (x::y::r)=if cond k then((x,y)::(thin cond (k+2) (y+1) r).1,(if s=0 then[] else[(s-1,x)])++(thin cond (k+2) (y+1) r).2.1,y::(thin cond (k+2) (y+1) r).2.2)
  else((thin cond (k+1) (x+1) (y::r)).1,(thin cond (k+1) (x+1) (y::r)).2.1,x::(thin cond (k+1) (x+1) (y::r)).2.2):=rfl
structure cP(B:Nat->Nat)(s:Nat)(rest:List Nat)(t:List (Nat×Nat)×List (Nat×Nat)×List Nat)(B1:Nat->Nat):Prop where
 plays:gp B t.1 B1
 same:∀x,x∉rest->B1 x=B x
 chain:j2 B1 s t.2.2
 sub:∀x∈t.2.2,x∈rest
 mem:∀p∈t.1,p.1∈rest/\p.2∈rest
 lmem:∀p∈t.2.1,(p.1∈rest\/p.1+1=s)/\p.2∈rest
 batch:∀wr rd:List Nat,(∀z∈wr,z<s)->(∀z∈rd,z<s)->batch wr rd t.1
 len:t.2.2.length+t.1.length=rest.length/\t.2.1.length<=t.1.length
 fill:∀B2,(∀x∈t.2.2,B2 x=0)->(∀x∈rest,x∉t.2.2->B2 x=B1 x)->(s=0\/B2 (s-1)=0)->∃B3,gp B2 t.2.1.reverse B3/\(∀x∈rest,B3 x=0)/\∀x,x∉rest->B3 x=B2 x
def wo{y z:Nat}(h:z∈x::y::r){P:Nat->Prop}(hx:P x)(hy:P y)(hr:∀z∈r,P z):P z:=eh.mpr ⟨hx,eh.mpr ⟨hy,hr⟩⟩ z h
def cP.two{y:Nat}(c1:B x=s)(c2:s<=x)(c3:x+1=B y)(c4:x<y)(hr:∀z∈r,y<z)(T:cP (upd B y (B x)) (y+1) r (a,b,c) B1) :
  cP B s (x::y::r) ((x,y)::a,(if s=0 then[] else[(s-1,x)])++b,y::c) B1:=by
 have hyr:y∉r:=fun h=>d4 _ (hr y h)
 have hxr:x∉r:=fun h=>Nat.lt_asymm c4 (hr x h)
 have hx1:B1 x=s:=(T.same x hxr).trans ((pB (ck c4)).trans c1)
 exact{
  plays:=⟨c3,T.plays⟩
  same:=fun z hz=>(T.same z fun h=>hz (.tail _ (.tail _ h))).trans (pB fun e=>hz (e▸.tail _ (.head _)))
  chain:=⟨(T.same y hyr).trans (zO.trans c1),aD c2 (bO c4),T.chain⟩
  sub:=eh.mpr ⟨.tail _ (.head _),fun z hz=>.tail _ (.tail _ (T.sub z hz))⟩
  mem:=eh.mpr ⟨⟨.head _,.tail _ (.head _)⟩,fun p hp=>⟨.tail _ (.tail _ (T.mem p hp).1),.tail _ (.tail _ (T.mem p hp).2)⟩⟩
  lmem:=List.forall_mem_append.mpr ⟨fun p hp=>by
   by_cases hs:s=0
   ·rw[if_pos hs] at hp;cases hp
   ·rw[if_neg hs] at hp
    rw[aN.mp hp]
    exact⟨.inr (Nat.sub_add_cancel (Nat.pos_of_ne_zero hs)),.head _⟩,fun p hp=>⟨.inl ((T.lmem p hp).1.elim (fun h=>.tail _ (.tail _ h)) fun h=>Nat.succ.inj h▸.tail _ (.head _)),.tail _ (.tail _ (T.lmem p hp).2)⟩⟩
  batch:=fun wr rd hw hrd=>⟨fun h=>fN.mpr c2 (hw _ h),fun h=>fN.mpr (aD c2 (bO c4)) (hw _ h),fun h=>fN.mpr (aD c2 (bO c4)) (hrd _ h),
   T.batch _ _ (eh.mpr ⟨Nat.lt_succ_self y,fun z hz=>cS (hw z hz) (aD c2 (iC (bO c4)))⟩) (eh.mpr ⟨Nat.lt_succ_of_lt c4,fun z hz=>cS (hrd z hz) (aD c2 (iC (bO c4)))⟩)⟩
  len:=by
   refine⟨?_,?_⟩
   ·have:=T.len.1;show c.length+1+(a.length+1)=r.length+1+1;have:c.length+a.length=r.length:=this;exact aj [_,_,_] [] kad (Y2 (Y0 (Y0 V0 J1) (Y0 V1 J1)) (Y0 (Y0 V2 J1) J1)) (Y2 (Y0 V0 V1) V2) (by assumption)
   ·have:b.length<=a.length:=T.len.2
    show((if s=0 then[] else[(s-1,x)])++b).length<=a.length+1
    by_cases hs:s=0
    ·rw[if_pos hs];exact iC this
    ·rw[if_neg hs];exact Nat.succ_le_succ this
  fill:=fun B2 h0 h1 hs=>by
   have hB2x:B2 x=s:=(h1 x (.head _) fun h=>(bj.mp h).elim (ck c4) fun h=>hxr (T.sub x h)).trans hx1
   obtain⟨B3,P3,Z3,S3⟩:=T.fill B2 (fun z hz=>h0 z (.tail _ hz)) (fun z hzr hz=>h1 z (.tail _ (.tail _ hzr)) fun h=>(bj.mp h).elim (fun e=>hyr (e▸hzr)) hz) (.inr (h0 y (.head _)))
   have h3y:B3 y=0:=(S3 y hyr).trans (h0 y (.head _))
   have h3x:B3 x=s:=(S3 x hxr).trans hB2x
   by_cases e0:s=0
   ·rw[if_pos e0]
    exact⟨B3,P3,fun z hz=>wo (P:=fun z=>B3 z=0) hz (h3x.trans e0) h3y Z3,fun z hz=>S3 z fun h=>hz (.tail _ (.tail _ h))⟩
   ·have h30:B3 (s-1)=0:=(S3 _ fun h=>Nat.lt_asymm (hr _ h) (cS (Nat.sub_lt (Nat.pos_of_ne_zero e0) Nat.one_pos) (aD c2 (bO c4)))).trans (hs.resolve_left e0)
    rw[if_neg e0]
    refine⟨upd B3 x (B3 (s-1)),?_,fun z hz=>?_,fun z hz=>(pB fun e:z=x=>hz (e▸.head _)).trans (S3 z fun h=>hz (.tail _ (.tail _ h)))⟩
    ·show gp B2 ((s-1,x)::b).reverse _
     rw[List.reverse_cons]
     exact P3.append ⟨(Nat.sub_add_cancel (Nat.pos_of_ne_zero e0)).trans h3x.symm,rfl⟩
    ·by_cases e:z=x
     ·rw[e,zO,h30]
     ·rw[pB e];exact wo (P:=fun z=>z≠x->B3 z=0) hz (fun h=>absurd rfl h) (fun J=>h3y) (fun z h J=>Z3 z h) e }
def cP.one (c1:B x=s) (c2:s<=x) (hr:∀z∈r,x<z) (T:cP B (x+1) r (a,b,c) B1):cP B s (x::r) (a,b,x::c) B1:=by
 have hxr:x∉r:=fun h=>d4 _ (hr x h)
 exact{
  plays:=T.plays
  same:=fun z hz=>T.same z fun h=>hz (.tail _ h)
  chain:=⟨(T.same x hxr).trans c1,c2,T.chain⟩
  sub:=eh.mpr ⟨.head _,fun z hz=>.tail _ (T.sub z hz)⟩
  mem:=fun p hp=>⟨.tail _ (T.mem p hp).1,.tail _ (T.mem p hp).2⟩
  lmem:=fun p hp=>⟨.inl ((T.lmem p hp).1.elim (fun h=>.tail _ h) fun h=>Nat.succ.inj h▸.head _),.tail _ (T.lmem p hp).2⟩
  batch:=fun wr rd hw hrd=>T.batch _ _ (fun z hz=>cS (hw z hz) (iC c2)) (fun z hz=>cS (hrd z hz) (iC c2))
  len:=⟨by have:c.length+a.length=r.length:=T.len.1;show c.length+1+a.length=r.length+1;exact aj [_,_,_] [] kad (Y2 (Y0 (Y0 V0 J1) V1) (Y0 V2 J1)) (Y2 (Y0 V0 V1) V2) this,T.len.2⟩
  fill:=fun B2 h0 h1 hs=>by
   obtain⟨B3,P3,Z3,S3⟩:=T.fill B2 (fun z hz=>h0 z (.tail _ hz)) (fun z hzr hz=>h1 z (.tail _ hzr) fun h=>(bj.mp h).elim (fun e=>hxr (e▸hzr)) hz) (.inr (h0 x (.head _)))
   exact⟨B3,P3,eh.mpr ⟨(S3 x hxr).trans (h0 x (.head _)),Z3⟩,fun z hz=>S3 z fun h=>hz (.tail _ h)⟩ }
theorem CD (cond:Nat->Bool):∀(k s:Nat) (rest:List Nat) (B:Nat->Nat),j2 B s rest->∃B1,cP B s rest (thin cond k s rest) B1
 |k,s,[],B,_=>⟨B,{ plays:=rfl,same:=fun J J=>rfl,chain:=trivial,sub:=fun J h=>(nomatch h),mem:=fun J h=>(nomatch h),lmem:=fun J h=>(nomatch h),batch:=fun J J J J=>trivial,len:=⟨rfl,aJ _⟩,fill:=fun B2 J J J=>⟨B2,rfl,fun J h=>(nomatch h),fun J J=>rfl⟩ }⟩
 |k,s,[x],B,hc=>⟨B,{ plays:=rfl,same:=fun J J=>rfl,chain:=hc,sub:=fun x hx=>hx,mem:=fun J h=>(nomatch h),lmem:=fun J h=>(nomatch h),batch:=fun J J J J=>trivial,len:=⟨rfl,aJ _⟩,fill:=fun B2 h J J=>⟨B2,rfl,h,fun J J=>rfl⟩ }⟩
 |k,s,x::y::r,B,hc=>by
  rw[C8]
  have hr:∀z∈r,y<z:=fun z hz=>hc.2.2.2.2.ge z hz
  by_cases hk:cond k=true
  ·rw[if_pos hk]
   obtain⟨B1,T⟩:=CD cond (k+2) (y+1) r (upd B y (B x)) (hc.2.2.2.2.congr fun z hz=>pB (Nat.ne_of_gt (hr z hz)))
   exact⟨B1,.two hc.1 hc.2.1 hc.2.2.1.symm hc.2.2.2.1 hr T⟩
  ·rw[if_neg hk]
   obtain⟨B1,T⟩:=CD cond (k+1) (x+1) (y::r) B hc.2.2
   exact⟨B1,.one hc.1 hc.2.1 (eh.mpr ⟨hc.2.2.2.1,fun z hz=>cN hc.2.2.2.1 (hr z hz)⟩) T⟩
def iq(B:Nat->Nat):Nat->List (List Nat)->Prop
 |_,[]=>True
 |s,g::r=>(∀x∈g,B x=s/\s<=x)/\g.Pairwise (· < ·)/\∃m,g.getLast?=some m/\iq B (m+1) r
theorem vS:∀{g:List Nat}{m:Nat},g.Pairwise (· < ·)->g.getLast?=some m->∀x∈g,x<=m
 |[],_,_,h,_,_=>by injection h
 |[a],m,_,h,x,hx=>by simp at h hx;exact ay [_,_,_] [] kab (Y0 V0 V1) (Y2 V2 V1) (Y2 V0 V2) h hx
 |a::b::r,m,hp,h,x,hx=>by
  rw[List.pairwise_cons] at hp;have hm:(b::r).getLast?=some m:=by rw[<- h];simp[List.getLast?_cons]
  rcases bj.mp hx with rfl |hx
  ·have:=hp.1 b aI;have:=vS hp.2 hm b aI;exact ay [_,_,_] [] kae (Y0 V0 V1) (Y0 V2 V1) (Y1 V0 V2) this (by assumption)
  ·exact vS hp.2 hm x hx
theorem iq.ge:∀{gs:List (List Nat)} {s:Nat},iq B s gs->∀g∈gs,∀x∈g,s<=x
 |[],_,_,g,hg,_,_=>by cases hg
 |g::r,s,h,g',hg,x,hx=>by
  obtain⟨h1,h2,m,h3,h4⟩:=h;rcases bj.mp hg with rfl |hg
  ·exact(h1 x hx).2
  ·have:=h4.ge g' hg x hx;have hm:m∈g:=List.mem_of_getLast? h3;have:=(h1 m hm).2;exact ay [_,_,_] [] kae (Y0 V0 V1) (Y0 V0 V2) (Y0 (Y0 V2 J1) V1) this (by assumption)
theorem iq.congr:∀{gs:List (List Nat)} {s:Nat},iq B s gs->(∀g∈gs,∀x∈g,B' x=B x)->iq B' s gs
 |[],_,_,_=>trivial
 |g::r,s,hG,hx=>⟨fun x hm=>by rw[hx g aI x hm];exact hG.1 x hm,hG.2.1,hG.2.2.elim fun m h=>⟨m,h.1,h.2.congr fun g' hg=>hx g' (a0 _ hg)⟩⟩
theorem iq.of:∀{xs:List Nat} {s:Nat},j2 B s xs->iq B s (xs.map fun x=>[x])
 |[],_,_=>trivial
 |x::r,s,h=>⟨fun y hy=>by rw[aN.mp hy];exact⟨h.1,h.2.1⟩,List.pairwise_singleton _ _,x,rfl,iq.of h.2.2⟩
theorem FW:∀{h:List Nat}{B:Nat->Nat},(∀x∈h,B x=m+1)->m∉h->h.Nodup->∃B',gp B (h.map fun y=>(m,y)) B'/\(∀x∈h,B' x=B m)/\∀x,x∉h->B' x=B x
 |[],B,_,_,_=>⟨B,rfl,fun x hx=>(by cases hx),fun J J=>rfl⟩
 |y::r,B,hB,hm,hnd=>by
  rw[lX] at hnd;simp only[bj,not_or] at hm;obtain⟨B',h1,h2,h3⟩:=FW (h:=r) (B:=upd B y (B m)) (fun x hx=>by
   have hxy:x≠y:=fun e=>hnd.1 (e▸hx);rw[pB hxy];exact hB x (a0 _ hx)) hm.2 hnd.2
  have hmm:upd B y (B m) m=B m:=pB hm.1;refine⟨B',⟨(hB y aI).symm,h1⟩,?_,?_⟩
  ·intro x hx;rcases bj.mp hx with rfl |hx
   ·rw[h3 x hnd.1,zO]
   ·rw[h2 x hx,hmm]
  ·intro x hx;simp only[bj,not_or] at hx;rw[h3 x hx.2,pB hx.1]
theorem FK:∀{h:List Nat}{wr rd:List Nat},h.Nodup->m∉h->m∉wr->(∀x∈h,x∉wr/\x∉rd)->batch wr rd (h.map fun y=>(m,y))
 |[],_,_,_,_,_,_=>trivial
 |y::r,wr,rd,hnd,hm,hw,hx=>by
  rw[lX] at hnd;simp only[bj,not_or] at hm;have h1:=hx y aI;refine⟨hw,h1.1,h1.2,FK hnd.2 hm.2 ?_ ?_⟩
  ·simp only[bj,not_or];exact⟨hm.1,hw⟩
  ·intro x hxr;have h2:=hx x (a0 _ hxr);simp only[bj,not_or];exact⟨⟨fun e=>hnd.1 (e▸hxr),h2.1⟩,fun e=>hm.2 (e▸hxr),h2.2⟩
def BC(h:g.Pairwise (· < ·)):g.Nodup:=h.imp (fun h=>by exact aj [_,_] [] kap (Y8 (Y2 V0 V1) J0) (Y1 V0 V1) h)
theorem D4{a b:List Nat}:∀{pre post:List (List Nat)}{s:Nat}{B:Nat->Nat},iq B s (pre++a::b::post)->∃m,a.getLast?=some m/\m∉b/\b.Nodup/\∃B',gp B (b.map fun y=>(m,y)) B' /\
  iq B' s (pre++(a++b)::post)/\∀x,x∉b->B' x=B x
 |[],post,s,B,hG=>by
  obtain⟨h1,h2,m,h3,h4,h5,m',h6,h7⟩:=hG;have hm:=(h1 m (List.mem_of_getLast? h3));have hmb:m∉b:=fun h=>by have:=(h4 m h).2;exact aj [_] [] 171801870368 J0 (Y0 (Y0 V0 J1) V0) this
  obtain⟨B',p1,p2,p3⟩:=FW (B:=B) (m:=m) (fun x hx=>(h4 x hx).1) hmb (BC h5);refine⟨m,h3,hmb,BC h5,B',p1,⟨?_,?_,m',?_,h7.congr fun g hg x hx=>p3 x fun hb=>?_⟩,p3⟩
  ·intro x hx;rcases bJ.mp hx with hx |hx
   ·rw[p3 x fun hb=>?_] at ⊢
    ·exact h1 x hx
    ·have:=vS h2 h3 x hx;have:=(h4 x hb).2;exact ay [_,_] [] 0xa5000610080308020 J0 (Y0 (Y0 V0 J1) V1) (Y0 V1 V0) this (by assumption)
   ·rw[p2 x hx] at ⊢;have:=(h4 x hx).2;exact⟨hm.1,by exact ay [_,_,_] [] kab (Y0 V0 V1) (Y0 V0 V2) (Y0 (Y0 V2 J1) V1) hm.2 this⟩
  ·rw[List.pairwise_append] at ⊢;refine⟨h2,h5,fun x hx y hy=>?_⟩;have:=vS h2 h3 x hx;have:=(h4 y hy).2;exact ay [_,_,_] [] kae (Y1 V0 V1) (Y0 (Y0 V2 J1) V1) (Y0 V0 V2) this (by assumption)
  ·rw[List.getLast?_append,h6] at ⊢;rfl
  ·have:=h7.ge g hg x hx;have:=vS h5 h6 x hb;exact ay [_,_] [] 0xa5000610080308020 J0 (Y0 V0 V1) (Y0 (Y0 V1 J1) V0) this (by assumption)
 |g::pre,post,s,B,hG=>by
  obtain⟨h1,h2,m,h3,h4⟩:=hG;obtain⟨m',a1,a2,a3,B',a4,a5,a6⟩:=D4 h4;refine⟨m',a1,a2,a3,B',a4,⟨?_,h2,m,h3,a5⟩,a6⟩;intro x hx;rw[a6 x fun hb=>?_] at ⊢
  ·exact h1 x hx
  ·have:=h4.ge b (by simp) x hb;have:=vS h2 h3 x hx;exact ay [_,_] [] 0xa5000610080308020 J0 (Y0 V0 V1) (Y0 (Y0 V1 J1) V0) this (by assumption)
variable {a b g:Nat}{c:Cx}{r:Net}{s:List (Nat×Nat)->List (Nat×Nat)}{v:V}
noncomputable def fk(B:Nat->Nat)(y:List (Nat×Nat)):Bool:=y.all fun p=>p.1+1==B p.2
noncomputable def bc:Net->(Nat->Nat)->Option (Nat->Nat)
 |[],B=>some B
 |y::r,B=>if fk B y then bc r (bE (fun l J=>l) y B) else none
theorem yU:bc (y::r) B=if fk B y then bc r (bE (fun l J=>l) y B) else none:=rfl
def qu (h:bc (y::r) B=some B'):fk B y=true/\bc r (bE (fun l J=>l) y B)=some B':=by
 by_cases c:fk B y=true
 ·exact⟨c,((if_pos c).symm.trans h:bc r _=_)⟩
 ·exact absurd (((if_neg c).symm.trans h:none=some B')) (fun e=>nomatch e)
def zI(h:fk B y=true)(h2:bc r (bE (fun l J=>l) y B)=o):bc (y::r) B=o:=(if_pos h).trans h2
noncomputable def c8(n:Nat)(net:Net):Bool:=match bc net id with
 |none=>false
 |some B=>(List.range n).all fun x=>B x==0
noncomputable def rZ(net:Net):Nat->List Nat:=aY (·++·) net fun x=>[x]
def bC(n:Nat)(net:Net):Prop:=∀y∈net,(∀p∈y,p.1<p.2/\p.2<n)/\(y.map (·.2)).Nodup
theorem gQ(f:α->α->α)(y:List (Nat×Nat))(σ:Nat->α)(x:Nat):(∃p∈y,p.2=x/\bE f y σ x=f (σ p.1) (σ x))\/bE f y σ x=σ x:=by
 unfold bE;cases h:y.find? (fun p=>p.2==x) with
 |none=>exact .inr rfl
 |some p=>
  have:=List.find?_some h;exact .inl ⟨p,rY h,by simpa using this,rfl⟩
theorem nV(f:α->α->α)(σ:Nat->α)(hn:(y.map (·.2)).Nodup)(hp:p∈y):bE f y σ p.2=f (σ p.1) (σ p.2):=by
 unfold bE;cases h:y.find? (fun q=>q.2==p.2) with
 |none=>
  rw[List.find?_eq_none] at h;exact absurd (by simp) (h p hp)
 |some q=>
  have:=List.find?_some h;have:=D2 hn q (rY h) p hp (by simpa using this);rw[this]
theorem Fw:∀(net:Net)(σ:Nat->List Nat)(x:Nat),∃pre,aY (·++·) net σ x=pre++σ x
 |[],σ,x=>⟨[],rfl⟩
 |y::r,σ,x=>by
  obtain⟨pre,h⟩:=Fw r (bE (·++·) y σ) x;rw[nM,h];rcases gQ (·++·) y σ x with⟨p,_,_,e⟩|e
  ·rw[e];exact⟨pre++σ p.1,by simp⟩
  ·rw[e];exact⟨pre,rfl⟩
theorem Gf(hb:∀x,B x<=x)(hy:∀p∈y,p.1<p.2/\p.2<n)(ht:fk B y=true) : (∀x,bE (fun l J=>l) y B x<=x)/\bE (·++·) y (fun x=>dC (B x) x)=fun x=>dC (bE (fun l J=>l) y B x) x:=by
 constructor
 ·intro x;rcases gQ (fun l J=>l) y B x with⟨p,hp,hx,e⟩|e
  ·rw[e];have:=hy p hp;have:=hb p.1;exact bo [_,_,_,_,_] [] 0x4294a50006100803080601840400c2000060 (Y0 V0 V1) (Y2 V2 V1) (Y0 V0 V3) (Y6 (Y1 V3 V2) (Y1 V2 V4)) hx this (by assumption)
  ·rw[e];exact hb x
 ·funext x;unfold bE;cases h:y.find? (fun p=>p.2==x) with
  |none=>rfl
  |some p=>
   have hp:=rY h;have hx:p.2=x:=by simpa using List.find?_some h
   have h1:p.1+1=B p.2:=by
    have:=dg.mp ht p hp;simpa using this
   subst hx;show dC (B p.1) p.1++dC (B p.2) p.2=dC (B p.1) p.2;rw[<- h1,FZ (hb p.1) (hy p hp).1]
theorem Fm:∀{net:Net}{B B':Nat->Nat},bC n net->(∀x,B x<=x)->bc net B=some B'->(∀x,B' x<=x)/\aY (·++·) net (fun x=>dC (B x) x)=fun x=>dC (B' x) x
 |[],B,B',_,hb,h=>by(injection h with Ja;subst Ja);exact⟨hb,rfl⟩
 |y::r,B,B',hf,hb,h=>by
  obtain⟨ht,h⟩:=qu h;obtain⟨s1,s2⟩:=Gf hb (hf y aI).1 ht;have:=Fm (fun z hz=>hf z (a0 _ hz)) s1 h;refine⟨this.1,?_⟩;rw[nM,s2];exact this.2
theorem Ha{P S:List Nat}(h:P++a::b::S=List.range m):b=a+1:=by
 have h1:(P++a::b::S)[P.length]?=some a:=by simp
 have h2:(P++a::b::S)[P.length+1]?=some b:=by simp
 rw[h,iM] at h1 h2
 ·(injection h1 with Ja;subst Ja);(injection h2 with Ja;subst Ja);rfl
 all_goals
  have:=congrArg List.length h;simp at this;(first |exact aj [_,_,_] [] kaa (Y1 (Y0 V0 J1) V1) (Y2 (Y0 V0 (Y0 (Y0 V2 J1) J1)) V1) this |exact aj [_,_,_] [] kaa (Y1 V0 V1) (Y2 (Y0 V0 (Y0 (Y0 V2 J1) J1)) V1) this)
set_option tactic.hygienic true in
theorem Fc:∀{net:Net}{B:Nat->Nat},bC n net->(∀x,B x<=x)->bc net B=none->∃x,x<n/\aY (·++·) net (fun x=>dC (B x) x) x≠List.range (x+1)
 |[],B,_,hb,h=>by injection h
 |y::r,B,hf,hb,h=>by
  rw[yU] at h
  split at h
  ·rename_i ht
   obtain⟨s1,s2⟩:=Gf hb (hf y aI).1 ht
   have:=Fc (fun z hz=>hf z (a0 _ hz)) s1 h
   rw[nM,s2];exact this
  ·rename_i ht
   have hfy:=hf y aI
   have:∃p∈y,p.1+1≠B p.2:=by
    refine Bj fun hno=>ht ?_
    simp only[fk,dg,beq_iff_eq]
    exact fun p hp=>Bj fun hne=>hno ⟨p,hp,hne⟩
   obtain⟨p,hp,hne⟩:=this
   refine⟨p.2,(hfy.1 p hp).2,fun hr=>hne ?_⟩
   obtain⟨pre,hs⟩:=Fw r (bE (·++·) y fun x=>dC (B x) x) p.2
   rw[nM,hs,nV _ _ hfy.2 hp] at hr
   have e1:dC (B p.1) p.1=List.range' (B p.1) (p.1-B p.1)++[p.1]:=by
    unfold dC
    have:=hb p.1
    rw[show p.1+1-B p.1=(p.1-B p.1)+1 by exact aj [_,_] [] kbi (Y2 (Y2 (Y0 V0 J1) V1) (Y0 (Y2 V0 V1) J1)) (Y0 V1 V0) this,List.range'_concat]
    congr 2;exact aj [_,_] [] kav (Y2 (Y0 V0 (Y1 J1 (Y2 V1 V0))) V1) (Y0 V0 V1) this
   have e2:dC (B p.2) p.2=B p.2::List.range' (B p.2+1) (p.2-B p.2):=by
    unfold dC
    have:=hb p.2
    rw[show p.2+1-B p.2=(p.2-B p.2)+1 by exact aj [_,_] [] kbi (Y2 (Y2 (Y0 V0 J1) V1) (Y0 (Y2 V0 V1) J1)) (Y0 V1 V0) this,List.range'_succ]
   simp only[e1,e2] at hr
   have hr':(pre++List.range' (B p.1) (p.1-B p.1))++p.1::B p.2::List.range' (B p.2+1) (p.2-B p.2)=List.range (p.2+1):=by
    rw[<- hr];simp
   exact(Ha hr').symm
theorem Bg(hb:b<=x):dC b x=List.range (x+1)↔b=0:=by
 constructor
 ·intro h;have:=congrArg List.length h;simp[dC] at this;exact ay [_,_] [] 0x30d04294001840800c2000000294a00102038061010030800028023080212800308000 (Y2 V0 J0) (Y0 V0 V1) (Y2 (Y2 (Y0 V1 J1) V0) (Y0 V1 J1)) hb this
 ·rintro rfl;simp[dC,List.range_eq_range']
theorem zq{net:Net}(hf:bC n net):c8 n net=true↔∀x,x<n->rZ net x=List.range (x+1):=by
 have e0:(fun x:Nat=>[x])=fun x=>dC (id x) x:=by funext x;simp[dC]
 have hb:∀x:Nat,id x<=x:=fun x=>aJ _;unfold c8 rZ;rw[e0];refine xC (bc net id) (fun h=>?_) fun B h=>?_
 ·obtain⟨x,hx,hne⟩:=Fc hf hb h;simp only[gO,false_iff];exact fun hall=>hne (hall x hx)
 ·obtain⟨s1,s2⟩:=Fm hf hb h;rw[s2];simp only[dg,gY,beq_iff_eq];exact⟨fun h x hx=>(Bg (s1 x)).mpr (h x hx),fun h x hx=>(Bg (s1 x)).mp (h x hx)⟩
theorem vB:∀{y:List (Nat×Nat)} {lo:Nat},eM n lo y->(∀p∈y,p.1<p.2/\p.2<n/\lo<=p.2)/\(y.map (·.2)).Nodup
 |[],_,_=>⟨fun p hp=>(by cases hp),nB⟩
 |(l,h)::r,lo,⟨h1,h2,h3,h4⟩=>by
  obtain⟨i1,i2⟩:=vB h4;refine⟨fun p hp=>?_,?_⟩
  ·rcases bj.mp hp with rfl |hp
   ·exact⟨h1,h2,h3⟩
   ·have:=i1 p hp;exact gy [_,_,_,_,_] [] 0xc6294a000c20180610180308000294001840500c20000a50006100c0308000 (Y6 (Y1 V0 V1) (Y6 (Y1 V1 V2) (Y0 V3 V1))) (Y0 V3 V4) (Y1 V0 V1) (Y1 V1 V2) (Y0 (Y0 V4 J1) V1) h3 this.1 this.2.1 this.2.2
  ·rw[fK,lX];refine⟨fun hm=>?_,i2⟩;revert hm;refine xL fun p hp e=>?_;have:=i1 p hp;simp only at e;exact ay [_,_] [] kah J0 (Y2 V0 V1) (Y0 (Y0 V1 J1) V0) e this.2.2
def gk.fair {net:Net} (h:gk n net):bC n net:=fun y hy=>by
 have:=vB (h.2 y hy).2;exact⟨fun p hp=>⟨(this.1 p hp).1,(this.1 p hp).2.1⟩,this.2⟩
def GO(f:α->α->α){z:List (Nat×Nat)}(σ:Nat->α)(hn:(y.map (·.2)).Nodup)(hp:y.Perm z):bE f z σ=bE f y σ:=by
 have hz:(z.map (·.2)).Nodup:=(hp.map _).nodup_iff.mp hn;funext x;rcases gQ f y σ x with⟨p,h1,h2,e⟩|e
 ·subst h2;rw[e,nV f σ hz (hp.mem_iff.mp h1)]
 ·rcases gQ f z σ x with⟨p,h1,h2,e'⟩|e'
  ·subst h2;rw[e',nV f σ hn (hp.mem_iff.mpr h1)]
  ·rw[e,e']
theorem Gn(f:α->α->α):∀{a:Net}(σ:Nat->α),(∀y∈a,(y.map (·.2)).Nodup)->(∀y∈a,y.Perm (s y))->aY f (a.map s) σ=aY f a σ
 |[],σ,_,_=>rfl
 |y::r,σ,hn,hp=>by
  rw[fK,nM,nM,GO f σ (hn y aI) (hp y aI)];exact Gn f _ (fun y hy=>hn y (a0 _ hy)) (fun y hy=>hp y (a0 _ hy))
theorem iR:∀(a b:Net)(B:Nat->Nat),bc (a++b) B=(bc a B).bind (bc b)
 |[],b,B=>rfl
 |y::r,b,B=>by
  simp only[List.cons_append,yU];split
  ·exact iR r b _
  ·rfl
theorem nz:fk B y=true↔∀p∈y,p.1+1=B p.2:=by
 simp only[fk,dg,beq_iff_eq]
variable {o:Ex}{p:Prop}{s:PS}{x:List (Nat×Nat)}
noncomputable def fu(a b:Nat×Nat):Bool:=decide (a.2<b.2)||(decide (a.2=b.2)&&decide (a.1<=b.1))
noncomputable def i5(y:List (Nat×Nat)):List (Nat×Nat):=y.mergeSort fu
def wF(y:List (Nat×Nat)):y.Perm (i5 y):=(List.mergeSort_perm y fu).symm
theorem b8{a b:Nat×Nat}:fu a b=true↔a.2<b.2\/(a.2=b.2/\a.1<=b.1):=by simp only[fu,Bool.or_eq_true,Bool.and_eq_true,decide_eq_true_eq]
def HN{c e f:Nat}(h1:b<d\/(b=d/\a<=c))(h2:d<f\/(d=f/\c<=e)):b<f\/(b=f/\a<=e):=by exact ay [_,_,_,_,_,_] [] kbe (Y7 (Y1 V0 V1) (Y6 (Y2 V0 V1) (Y0 V2 V3))) (Y7 (Y1 V0 V4) (Y6 (Y2 V0 V4) (Y0 V2 V5))) (Y7 (Y1 V4 V1) (Y6 (Y2 V4 V1) (Y0 V5 V3))) h1 h2
def G0(a b c d:Nat):(b<d\/(b=d/\a<=c))\/(d<b\/(d=b/\c<=a)):=by exact bp [_,_,_,_] [] kbf (Y7 (Y7 (Y1 V0 V1) (Y6 (Y2 V0 V1) (Y0 V2 V3))) (Y7 (Y1 V1 V0) (Y6 (Y2 V1 V0) (Y0 V3 V2))))
def JP(y:List (Nat×Nat)):(i5 y).Pairwise fun a b=>fu a b=true:=by
 refine List.pairwise_mergeSort ?_ ?_ y
 ·exact fun a b c h1 h2=>b8.mpr (HN (b8.mp h1) (b8.mp h2))
 ·exact fun a b=>nN.mpr ((G0 a.1 a.2 b.1 b.2).imp b8.mpr b8.mpr)
theorem Ey:∀{y:List (Nat×Nat)} {lo:Nat},(y.Pairwise fun a b=>fu a b=true)->(y.map (·.2)).Nodup->(∀p∈y,p.1<p.2/\p.2<n/\lo<=p.2)->eM n lo y
 |[],_,_,_,_=>trivial
 |(l,h)::r,lo,hp,hn,hy=>by
  have h1:=hy (l,h) aI;rw[List.pairwise_cons] at hp;rw[fK,lX] at hn;refine⟨h1.1,h1.2.1,h1.2.2,Ey hp.2 hn.2 fun p hm=>?_⟩;have h2:=hy p (a0 _ hm);have h3:=hp.1 p hm;have h4:p.2≠h:=fun e=>hn.1 (fg.mpr ⟨p,hm,e⟩);simp only[fu,Bool.or_eq_true,Bool.and_eq_true,decide_eq_true_eq] at h3;exact⟨h2.1,h2.2.1,by exact ay [_,_,_,_] [] 0x1ca5000610040308000490a50006100c0308000000a5000610040308000 (Y0 (Y0 V0 J1) V1) (Y8 (Y2 V1 V0) J0) (Y7 (Y1 V0 V1) (Y6 (Y2 V0 V1) (Y0 V2 V3))) h4 h3⟩
def IY (hn:(y.map (·.2)).Nodup) (hy:∀p∈y,p.1<p.2/\p.2<n):eM n 0 (i5 y):=by
 refine Ey (JP y) (((wF y).map _).nodup_iff.mp hn) fun p hp=>?_;have:=hy p ((wF y).mem_iff.mpr hp);exact⟨this.1,this.2,eA _⟩
def jE(h:y≠[]):i5 y≠[]:=by
 intro e;have:=(wF y).length_eq;rw[e] at this;exact h (gj.mp this)
theorem xQ:∀{n:Nat}{xs:List Nat},xs.Nodup->(∀x∈xs,x<n)->xs.length<=n
 |0,[],_,_=>aJ _
 |0,x::_,_,h=>absurd (h x aI) (by exact bp [_] [] 4679524742594560 (Y8 (Y1 V0 J0) J0))
 |n+1,xs,hn,h=>by
  by_cases hm:n∈xs
  ·have:=xQ (n:=n) (xs:=xs.erase n) (hn.erase n) fun x hx=>by
    rw[hn.mem_erase_iff] at hx;have:=h x hx.2;exact ay [_,_] [] kau (Y1 V0 V1) (Y8 (Y2 V0 V1) J0) (Y1 V0 (Y0 V1 J1)) hx.1 this
   rw[List.length_erase_of_mem hm] at this;exact aj [_,_] [] 0x65294001840300c20200610040508001 (Y0 V0 (Y0 V1 J1)) (Y0 (Y2 V0 J1) V1) this
  ·have:=xQ (n:=n) hn fun x hx=>by
    have:=h x hx;have:x≠n:=fun e=>hm (e▸hx);exact ay [_,_] [] kau (Y1 V0 V1) (Y8 (Y2 V0 V1) J0) (Y1 V0 (Y0 V1 J1)) this (by assumption)
   exact aj [_,_] [] kaa (Y0 V0 (Y0 V1 J1)) (Y0 V0 V1) this
theorem bh.wide(L:bh n s js):∀y∈s.lays,y.length<=n:=by
 intro y hy;obtain⟨i,hi,e⟩:=q9.mp hy;have hiy:s.lays[i]?=some y:=by rw[bt hi,e]
 have:=xQ (L.nd y hy) fun x hx=>by
  revert hx;refine xL fun p hp wj=>?_;subst wj;exact(L.hi i y hiy p hp).2.2.2
 simpa using this
theorem vI:∀{ks:List (Nat×Nat)} {s:PS} {js:List (Nat×Nat)},bh n s js->(∀p∈ks,p.1<p.2/\p.2<n)->(s.puts ks).lays.length<=s.lays.length+ks.length
 |[],s,js,_,_=>aJ _
 |(l,h)::r,s,js,L,hk=>by
  have hp:=hk (l,h) aI;have:=vI (ks:=r) (L.put hp.1 hp.2) fun p hp=>hk p (a0 _ hp);rw[Es L] at this;have:=L.at_le l h;simp only[PS.puts,List.foldl_cons,fO] at *;exact bo [_,_,_,_,_] [] 0x9214a528003080601840500c202006100000010a528003080601840500c2000000 (Y0 V0 (Y0 V1 (Y0 V2 J1))) (Y0 V3 V1) (Y0 V0 (Y0 V4 V2)) (Y7 (Y6 (Y2 V4 V1) (Y0 (Y0 V3 J1) V1)) (Y6 (Y2 V4 (Y0 V3 J1)) (Y0 V1 (Y0 V3 J1)))) this (by assumption) (by exact Ar.mx _ _)
structure eT (n:Nat) (net:Net):Prop where
 ok:∀y∈net,cm n y
 len:net.length<=n+3
 whole:∀x,x<n->rZ net x=List.range (x+1)
theorem qL(L:bh n s js)(P:gp id js B)(h0:∀x,x<n->B x=0)(hl:s.lays.length<=n+3):eT n (s.lays.map i5) where
 ok:=by
  intro y hy
  revert hy;refine xL fun z hz wj=>?_;subst wj
  obtain⟨i,hi,e⟩:=q9.mp hz
  have hiz:s.lays[i]?=some z:=by rw[bt hi,e]
  exact⟨jE (L.ne z hz),IY (L.nd z hz) fun p hp=>(L.hi i z hiz p hp).2.2⟩
 len:=by simpa using hl
 whole:=by
  intro x hx
  unfold rZ
  rw[Gn _ _ L.nd fun y J=>wF y,L.run]
  have e0:(fun x:Nat=>[x])=fun x=>dC (id x) x:=by funext x;simp[dC]
  have:=(yx P fun x=>aJ _)
  rw[e0,this.2]
  exact(Bg (this.1 x)).mpr (h0 x hx)
def kP(n:Nat)(B:Nat->Nat)(A:List Nat)(left:List (Nat×Nat)):Prop:=
 ∀B2,(∀x∈A,B2 x=0)->(∀x,x∉A->B2 x=B x)->∃B3,gp B2 left.reverse B3/\∀x,x<n->B3 x=0
structure aV(n t:Nat)(s:PS)(left:List (Nat×Nat))(active:List Nat):Prop where
 ex:∃js B,bh n s js/\gp id js B/\j2 B 0 active/\kP n B active left
 lt:∀x∈active,x<n
 llt:∀p∈left,p.1<n/\p.2<n
 len:active.length+left.length<=n
 lay:s.lays.length<=t
theorem FQ:∀(k s:Nat),j2 id s (List.range' s k)
 |0,_=>trivial
 |k+1,s=>⟨rfl,aJ _,FQ k (s+1)⟩
theorem aV.init(n:Nat):aV n 0 (PS.init n) [] (List.range n) where
 ex:=⟨[],id,bh.init n,rfl,by rw[List.range_eq_range'];exact FQ n 0,fun B2 h J=>⟨B2,rfl,fun x hx=>h x (by simpa using hx)⟩⟩
 lt:=by simp
 llt:=by simp
 len:=by simp
 lay:=by simp[PS.init]
theorem aV.thin(I:aV n t s left active)(cond:Nat->Bool) :
  aV n (t+1) (s.puts (thin cond 0 0 active).1) (left++(Bn.thin cond 0 0 active).2.1) (Bn.thin cond 0 0 active).2.2/\∀p∈(Bn.thin cond 0 0 active).1,p.1<p.2/\p.2<n:=by
 obtain⟨js,B,L,P,C,F⟩:=I.ex;obtain⟨B1,T⟩:=CD cond 0 0 active B C;generalize Bn.thin cond 0 0 active=th at T;have hb:=(yx P fun x=>aJ _).1;have hlt:∀p∈th.1,p.1<p.2/\p.2<n:=fun p hp=>⟨zT T.plays hb p hp,I.lt _ (T.mem p hp).2⟩;refine⟨⟨⟨js++th.1,B1,L.puts hlt,P.append T.plays,T.chain,?_⟩,fun x hx=>I.lt x (T.sub x hx),?_,?_,?_⟩,hlt⟩
 ·intro B2 h0 h1;obtain⟨B3,P3,Z3,S3⟩:=T.fill B2 h0 (fun x J hx=>h1 x hx) (.inl rfl);obtain⟨B4,P4,Z4⟩:=F B3 Z3 fun x hx=>by rw[S3 x hx,h1 x fun h=>hx (T.sub x h),T.same x hx]
  exact⟨B4,by rw[List.reverse_append];exact P3.append P4,Z4⟩
 ·intro p hp;rcases bJ.mp hp with hp |hp
  ·exact I.llt p hp
  ·have:=T.lmem p hp;exact⟨I.lt _ (this.1.resolve_right (by exact bp [_] [] 4679524742594560 (Y8 (Y2 (Y0 V0 J1) J0) J0))),I.lt _ this.2⟩
 ·have:=I.len;have:=T.len;simp;exact bo [_,_,_,_,_,_] [] 0xa5294001840000c20180610040308040 (Y0 (Y0 V0 (Y0 V1 V2)) V3) (Y2 (Y0 V0 V4) V5) (Y0 V2 V4) (Y0 (Y0 V5 V1) V3) this.1 this.2 (by assumption)
 ·have:=L.batch hlt (T.batch [] [] (by simp) (by simp));have:=I.lay;exact ay [_,_,_] [] kae (Y0 V0 (Y0 V1 J1)) (Y0 V2 V1) (Y0 V0 (Y0 V2 J1)) this (by assumption)
structure dD(n M:Nat)(s:PS)(left:List (Nat×Nat))(gs:List (List Nat)):Prop where
 ex:∃js B,bh n s js/\gp id js B/\iq B 0 gs/\kP n B gs.flatten left
 lt:∀g∈gs,∀x∈g,x<n
 llt:∀p∈left,p.1<n/\p.2<n
 lay:s.lays.length+gs.length+left.length<=M
theorem dD.of(I:aV n t s left active):dD n (n+t) s left (active.map fun x=>[x]):=by
 obtain⟨js,B,L,P,C,F⟩:=I.ex;refine⟨⟨js,B,L,P,iq.of C,?_⟩,?_,I.llt,?_⟩
 ·have:∀l:List Nat,(l.map fun x=>[x]).flatten=l:=by intro l;induction l<;>simp_all
  rw[this];exact F
 ·intro g hg x hx;revert hg;refine xL fun y hy wj=>?_;subst wj;rw[aN.mp hx];exact I.lt y hy
 ·have:=I.len;have:=I.lay;simp;exact ay [_,_,_,_,_] [] kae (Y0 (Y0 (Y0 V0 V1) V2) (Y0 V3 V4)) (Y0 V0 V4) (Y0 (Y0 V1 V2) V3) this (by assumption)
theorem dD.merge{pre post:List (List Nat)}{a b:List Nat}(I:dD n M s left (pre++a::b::post)) :
  ∃m,a.getLast?=some m/\dD n M (s.puts (b.map fun y=>(m,y))) left (pre++(a++b)::post)/\(∀p∈b.map (fun y=>(m,y)),p.1<p.2/\p.2<n):=by
 obtain⟨js,B,L,P,C,F⟩:=I.ex;obtain⟨m,h1,h2,h3,B',h4,h5,h6⟩:=D4 C;have hb:=(yx P fun x=>aJ _).1;have hlt:∀p∈b.map (fun y=>(m,y)),p.1<p.2/\p.2<n:=fun p hp=>⟨zT h4 hb p hp,by
  revert hp;refine xL fun y hy wj=>?_;subst wj;exact I.lt b (by simp) y hy⟩
 refine⟨m,h1,⟨⟨js++_,B',L.puts hlt,P.append h4,h5,?_⟩,?_,I.llt,?_⟩,hlt⟩
 ·have e:(pre++(a++b)::post).flatten=(pre++a::b::post).flatten:=by simp
  rw[e] at ⊢;intro B2 z0 z1;refine F B2 z0 fun x hx=>?_;rw[z1 x hx,h6 x fun hb=>hx ?_] at ⊢;simp[hb]
 ·intro g hg x hx;simp only[bJ,bj] at hg;rcases hg with hg |rfl |hg
  ·exact I.lt g (by simp[hg]) x hx
  ·rcases bJ.mp hx with hx |hx
   ·exact I.lt a (by simp) x hx
   ·exact I.lt b (by simp) x hx
  ·exact I.lt g (by simp[hg]) x hx
 ·have:=L.batch hlt (FK h3 h2 (by simp) (by simp));have:=I.lay;simp only[bw,fO] at *;exact ay [_,_,_,_,_,_] [] kae (Y0 (Y0 (Y0 V0 (Y0 V1 (Y0 V2 J1))) V3) V4) (Y0 (Y0 (Y0 V5 (Y0 V1 (Y0 (Y0 V2 J1) J1))) V3) V4) (Y0 V0 (Y0 V5 J1)) this (by assumption)
theorem dD.fin(I:dD n M s left gs)(h1:gs.length<=1)(hM:M<=n+3) :
  eT n ((s.puts left.reverse).lays.map i5)/\(∃js,bh n s js)/\(∀p∈left.reverse,p.1<p.2/\p.2<n):=by
 obtain⟨js,B,L,P,C,F⟩:=I.ex;have hz:∀x∈gs.flatten,B x=0:=by
  cases gs with
  |nil=>exact fun x hx=>nomatch hx
  |cons g r=>
   obtain rfl:r=[]:=gj.mp (Nat.le_zero.mp (Nat.le_of_succ_le_succ h1));exact fun x hx=>(C.1 x (by simpa using hx)).1
 obtain⟨B3,P3,Z3⟩:=F B hz fun J J=>rfl;have hb:=(yx P fun x=>aJ _).1;have hlt:∀p∈left.reverse,p.1<p.2/\p.2<n:=fun p hp=>⟨zT P3 hb p hp,(I.llt p (by simpa using hp)).2⟩;refine⟨qL (L.puts hlt) (P.append P3) Z3 ?_,⟨js,L⟩,hlt⟩;have:=vI L hlt;have:=I.lay;simp at *;exact bo [_,_,_,_,_,_] [] 0xa5294001840000c200806100c0308040 (Y0 V0 (Y0 V1 (.l 3))) (Y0 V2 (Y0 V1 (.l 3))) (Y0 V0 (Y0 V3 V4)) (Y0 (Y0 (Y0 V3 V5) V4) V2) hM this (by assumption)
variable {a b:Net}{s:Nat}{t:Ex}
theorem vQ{lo:Nat}(h:lo<=lo')(hr:eM n lo' y):eM n lo y:=by
 cases y with
 |nil=>trivial
 |cons p r=>obtain⟨a,b,c,d⟩:=hr;exact⟨a,b,by exact ay [_,_,_] [] kab (Y0 V0 V1) (Y0 V0 V2) (Y0 V2 V1) h c,d⟩
noncomputable def tri:Nat->Nat
 |0=>0
 |n+1=>(n+1)+tri n
theorem lx:tri (n+1)=(n+1)+tri n:=rfl
def Dx:∀n,n<=11->tri n<=66:=by decide
theorem jt(h1:l<h)(h2:h<n):cm n [(l,h)]:=⟨by simp,h1,h2,eA _,trivial⟩
variable {l:Loc}
def iY(n:Nat)(net:Net):Prop:=∃B,bc net id=some B/\∀x,x<n->B x=0
theorem iY.whole{net:Net}(hf:bC n net)(h:iY n net):∀x,x<n->rZ net x=List.range (x+1):=by
 refine(zq hf).mp ?_;obtain⟨B,h1,h2⟩:=h;unfold c8;rw[h1];simpa using h2
theorem iY.of{net:Net}(hf:bC n net)(h:∀x,x<n->rZ net x=List.range (x+1)):iY n net:=by
 have:=(zq hf).mpr h;unfold c8 at this;refine xC (bc net id) (fun e=>?_) fun B e=>?_
 ·rw[e] at this;injection this
 ·rw[e] at this;exact⟨B,e,by simpa using this⟩
def eT.tells{net:Net}(T:eT n net):iY n net:=iY.of (fun y hy=>by
 have:=vB (T.ok y hy).2;exact⟨fun p hp=>⟨(this.1 p hp).1,(this.1 p hp).2.1⟩,this.2⟩) T.whole
theorem wy(hn:(y.map (·.2)).Nodup)(ht:∀p∈y,p.1+1=B p.2)(h1:∀p∈y,B' p.2=B p.1)(h2:∀x,(∀p∈y,p.2≠x)->B' x=B x):bc [y] B=some B':=by
 have:fk B y=true:=by
  simp only[fk,dg,beq_iff_eq];exact ht
 rw[yU,if_pos this];refine congrArg some ?_;funext x;rcases gQ (fun l J=>l) y B x with⟨p,hp,rfl,e⟩|e
 ·rw[e,h1 p hp]
 ·by_cases hx:∀p∈y,p.2≠x
  ·rw[e,h2 x hx]
  ·have:∃p∈y,p.2=x:=Bj fun hno=>hx fun p hp e=>hno ⟨p,hp,e⟩;obtain⟨p,hp,rfl⟩:=this;rw[nV _ _ hn hp,h1 p hp]
noncomputable def rC(n:Nat):Net:=(List.range (n-1)).map fun i=>[(i,i+1)]
theorem KW(k:Nat)(step:∀i,i<k->bc [f i] (S i)=some (S (i+1))):bc ((List.range k).map f) (S 0)=some (S k):=by
 induction k with
 |zero=>rfl
 |succ k ih=>
  rw[List.range_succ,bT,iR,ih fun i hi=>step i (by exact aj [_,_] [] kaa (Y1 V0 (Y0 V1 J1)) (Y1 V0 V1) hi)];exact step k (by exact bp [_] [] 171801870336 (Y1 V0 (Y0 V0 J1)))
theorem KA(n:Nat):iY n (rC n):=by
 have:=KW (f:=fun i=>[(i,i+1)]) (S:=fun k x=>if x<=k then 0 else x) (n-1) fun i hi=>by
  refine wy (by simp) ?_ ?_ ?_
  ·intro p hp;rw[aN.mp hp];show i+1=if i+1<=i then 0 else i+1;rw[if_neg (by exact bp [_] [] 4679524742594560 (Y8 (Y0 (Y0 V0 J1) V0) J0))]
  ·intro p hp;rw[aN.mp hp];simp
  ·intro x hx;have:=hx _ aI;simp only at this;show(if x<=i+1 then 0 else x)=if x<=i then 0 else x;repeat' split
   all_goals(first |exact bp [] [] kac (Y2 J0 J0) |exact bo [_,_] [] 0x7294001840400c20000a50006100c0308000 (Y2 J0 V0) (Y8 (Y2 (Y0 V1 J1) V0) J0) (Y0 V0 (Y0 V1 J1)) (Y8 (Y0 V0 V1) J0) this (by assumption) (by assumption) |exact ay [_,_] [] kah (Y2 V0 J0) (Y8 (Y0 V0 (Y0 V1 J1)) J0) (Y0 V0 V1) (by assumption) (by assumption) |exact bp [_] [] kac (Y2 V0 V0))
 have e0:(fun x:Nat=>if x<=0 then 0 else x)=id:=by funext x;show(if x<=0 then 0 else x)=x;split<;>(first |exact aj [_] [] 0x18a000c20000a5000610080308000 (Y2 J0 V0) (Y0 V0 J0) (by assumption) |exact bp [_] [] kac (Y2 V0 V0))
 rw[e0] at this;exact⟨_,this,fun x hx=>by simp;lia⟩
def GS(n:Nat):∀y∈rC n,cm n y:=by
 intro y hy;revert hy;refine xL fun i hi wj=>?_;subst wj;rw[gY] at hi;exact jt (by exact bp [_] [] 171801870336 (Y1 V0 (Y0 V0 J1))) (by exact aj [_,_] [] 0x1a08528003080e01840100005294001840400c20280610000508021 (Y1 (Y0 V0 J1) V1) (Y1 V0 (Y2 V1 J1)) hi)
noncomputable def p0(n s:Nat):List (Nat×Nat):=(List.range (n-s)).map fun i=>(i,i+s)
def lF(hs:1<=s):bc [p0 n s] (fun x=>if x<n then x+1-s else x)=some (fun x=>if x<n then x+1-2*s else x):=by
 have hmem:∀p∈p0 n s,p.2=p.1+s/\p.2<n:=by
  intro p hp;revert hp;refine xL fun i hi wj=>?_;subst wj;rw[gY] at hi;exact⟨rfl,by show i+s<n;exact aj [_,_,_] [] 0x1a08528003080e01840100005294001840400c20280610000508441 (Y1 (Y0 V0 V1) V2) (Y1 V0 (Y2 V2 V1)) hi⟩
 refine wy ?_ ?_ ?_ ?_
 ·unfold p0;rw[d8];have:((fun p:Nat×Nat=>p.2)∘fun i=>(i,i+s))=fun i=>i+s:=rfl;rw[this];exact List.Pairwise.map _ (fun a b (h:a≠b)=>by exact aj [_,_,_] [] kaw (Y8 (Y2 (Y0 V0 V1) (Y0 V2 V1)) J0) (Y8 (Y2 V0 V2) J0) h) List.nodup_range
 ·intro p hp;obtain⟨h1,h2⟩:=hmem p hp;rw[if_pos h2,h1,Nat.add_right_comm,Nat.add_sub_cancel]
 ·intro p hp;obtain⟨h1,h2⟩:=hmem p hp;rw[if_pos h2,if_pos (eJ (h1▸gM ..) h2),h1,Nat.two_mul,Nat.add_right_comm,Nat.add_sub_add_right]
 ·intro x hx;by_cases hxn:x<n
  ·rw[if_pos hxn,if_pos hxn];by_cases hxs:s<=x
   ·exact absurd (Nat.sub_add_cancel hxs) (hx (x-s,x-s+s) (fg.mpr ⟨x-s,gY.mpr (Nat.sub_lt_sub_right hxs hxn),rfl⟩))
   ·have hxs:=Nat.lt_of_not_le hxs;rw[Nat.sub_eq_zero_of_le hxs,Nat.sub_eq_zero_of_le (aD hxs (Nat.le_mul_of_pos_left s (by decide)))]
  ·rw[if_neg hxn,if_neg hxn]
theorem uw(hs:1<=s)(hsn:s<n):cm n (p0 n s):=by
 refine⟨?_,?_⟩
 ·unfold p0;intro h;have:=congrArg List.length h;simp at this;exact ay [_,_] [] 0x65294001840400c20280610040500421 J0 (Y1 V0 V1) (Y2 (Y2 V1 V0) J0) hsn this
 ·unfold p0;have:∀(k a:Nat),a+k+s<=n->eM n (a+s) ((List.range' a k).map fun i=>(i,i+s)):=by
   intro k;induction k with
   |zero=>intro a _;trivial
   |succ k ih=>
    intro a h;refine⟨by exact aj [_,_] [] kaa (Y1 V0 (Y0 V0 V1)) (Y0 J1 V1) hs,by exact aj [_,_,_,_] [] kaa (Y1 (Y0 V0 V1) V2) (Y0 (Y0 (Y0 V0 (Y0 V3 J1)) V1) V2) h,aJ _,?_⟩;have:=ih (a+1) (by exact aj [_,_,_,_] [] kaa (Y0 (Y0 (Y0 (Y0 V0 J1) V1) V2) V3) (Y0 (Y0 (Y0 V0 (Y0 V1 J1)) V2) V3) h);rw[show a+1+s=a+s+1 by exact bp [_,_] [] kac (Y2 (Y0 (Y0 V0 J1) V1) (Y0 (Y0 V0 V1) J1))] at this;exact this
  have:=this (n-s) 0 (by exact aj [_,_] [] 0x68214a000c203806100000014a000c20200610000508401 (Y0 (Y0 (Y0 J0 (Y2 V0 V1)) V1) V0) (Y1 V1 V0) hsn);rw[<- List.range_eq_range'] at this;exact vQ (by exact bp [_] [] 171801870336 (Y0 J0 (Y0 J0 V0))) this
noncomputable def fY(m:Nat)(y:List (Nat×Nat)):List (Nat×Nat):=y.map fun p=>(p.1+m,p.2+m)
noncomputable def jj:Net->Net->Net
 |[],b=>b
 |a,[]=>a
 |x::a,y::b=>(x++y)::jj a b
theorem Jt:jj [] b=b:=rfl
theorem EA:jj (x::a) (y::b)=(x++y)::jj a b:=rfl
def yq (m:Nat) (Ba Bb B:Nat->Nat):Prop:=(∀x,x<m->B x=Ba x)/\∀y,B (m+y)=m+Bb y
theorem CM{Bb:Nat->Nat}(h:yq m Ba Bb B)(hx:∀p∈x,p.1<p.2/\p.2<m)(hy:∀p∈y,p.1<p.2/\p.2<n)(nx:(x.map (·.2)).Nodup)(ny:(y.map (·.2)).Nodup)(tx:fk Ba x=true)(ty:fk Bb y=true) :
  fk B (x++fY m y)=true/\yq m (bE (fun l J=>l) x Ba) (bE (fun l J=>l) y Bb) (bE (fun l J=>l) (x++fY m y) B):=by
 rw[nz] at tx ty;have hmem:∀p∈x++fY m y,p∈x\/∃q∈y,p=(q.1+m,q.2+m):=by
  intro p hp;rcases bJ.mp hp with hp |hp
  ·exact .inl hp
  ·revert hp;refine xL fun q hq wj=>?_;subst wj;exact .inr ⟨q,hq,rfl⟩
 have nd:((x++fY m y).map (·.2)).Nodup:=by
  rw[bT,og];refine⟨nx,?_,?_⟩
  ·unfold fY;rw[d8];have:((fun p:Nat×Nat=>p.2)∘fun p:Nat×Nat=>(p.1+m,p.2+m))=(fun k=>k+m)∘fun p:Nat×Nat=>p.2:=rfl;rw[this,<-d8];exact List.Pairwise.map _ (fun a b (h:a≠b)=>by exact aj [_,_,_] [] kaw (Y8 (Y2 (Y0 V0 V1) (Y0 V2 V1)) J0) (Y8 (Y2 V0 V2) J0) h) ny
  ·intro a ha b hb;revert ha;refine xL fun p hp wj=>?_;subst wj;revert hb;refine xL fun q hq wj=>?_;subst wj;revert hq;refine xL fun r hr wj=>?_;subst wj;have:=(hx p hp).2;show p.2≠r.2+m;exact aj [_,_,_] [] kap (Y8 (Y2 V0 (Y0 V1 V2)) J0) (Y1 V0 V2) this
 refine⟨?_,?_,?_⟩
 ·rw[nz];intro p hp;rcases hmem p hp with hp |⟨q,hq,rfl⟩
  ·rw[h.1 _ (hx p hp).2];exact tx p hp
  ·show q.1+m+1=B (q.2+m);rw[Nat.add_comm q.2 m,h.2];have:=ty q hq;exact aj [_,_,_] [] kad (Y2 (Y0 (Y0 V0 V1) J1) (Y0 V1 V2)) (Y2 (Y0 V0 J1) V2) this
 ·intro z hz;rcases gQ (fun l J=>l) x Ba z with⟨p,hp,rfl,e⟩|e
  ·rw[e,nV _ _ nd (List.mem_append_left _ hp)];exact h.1 _ (by have:=hx p hp;exact ay [_,_,_] [] kab (Y1 V0 V1) (Y1 V2 V1) (Y1 V0 V2) hz this.1)
  ·rw[e];rcases gQ (fun l J=>l) (x++fY m y) B z with⟨p,hp,rfl,e'⟩|e'
   ·rcases hmem p hp with hp |⟨q,hq,rfl⟩
    ·rw[nV _ _ nx hp] at e;rw[e',h.1 _ (by have:=hx p hp;exact ay [_,_,_] [] kab (Y1 V0 V1) (Y1 V2 V1) (Y1 V0 V2) hz this.1),e]
    ·exact absurd hz (by show ¬q.2+m<m;exact bp [_,_] [] 4679524742594560 (Y8 (Y1 (Y0 V0 V1) V1) J0))
   ·rw[e',h.1 z hz]
 ·intro z;rcases gQ (fun l J=>l) y Bb z with⟨p,hp,rfl,e⟩|e
  ·rw[e,show m+p.2=((p.1+m,p.2+m):Nat×Nat).2 by show m+p.2=p.2+m;exact bp [_,_] [] kac (Y2 (Y0 V0 V1) (Y0 V1 V0)),nV _ _ nd (iK _ (fg.mpr ⟨p,hp,rfl⟩))];show B (p.1+m)=_;rw[Nat.add_comm p.1 m,h.2]
  ·rw[e];rcases gQ (fun l J=>l) (x++fY m y) B (m+z) with⟨p,hp,e0,e'⟩|e'
   ·rcases hmem p hp with hp |⟨q,hq,rfl⟩
    ·have:=(hx p hp).2;exact ay [_,_,_,_,_] [] 0xa5000810040308040 (Y2 V0 (Y0 V1 V2)) (Y2 V3 (Y0 V1 V4)) (Y1 V3 V1) e0 this
    ·have hqz:q.2=z:=by simp only at e0;exact aj [_,_,_] [] kad (Y2 V0 V1) (Y2 (Y0 V0 V2) (Y0 V2 V1)) e0
     subst hqz;rw[nV _ _ ny hq] at e;rw[e'];show B (q.1+m)=_;rw[Nat.add_comm q.1 m,h.2,e]
   ·rw[e',h.2]
def bC.tail(h:bC n (y::r)):bC n r:=fun z hz=>h z (a0 _ hz)
inductive lM(m:Nat)(Ba Bb B:Nat->Nat)(net:Net):Prop
 |mk (B':Nat->Nat)(h1:bc net B=some B')(h2:yq m Ba Bb B'):lM m Ba Bb B net
theorem E5:∀{b:Net}{Bb B Bb':Nat->Nat},yq m Ba Bb B->bC n b->bc b Bb=some Bb'->lM m Ba Bb' B (b.map (fY m))
 |[],Bb,B,_,h,_,hb=>by obtain rfl:=ai hb;exact⟨B,rfl,h⟩
 |y::b,Bb,B,Bb',h,fb,hb=>by
  obtain⟨ty,hb⟩:=qu hb;have hy:=fb y aI;have st:=CM (x:=[]) h (fun J h=>nomatch h) hy.1 nB hy.2 rfl ty;obtain⟨B',h1,h2⟩:=E5 st.2 fb.tail hb;exact⟨B',zI st.1 h1,h2⟩
theorem Jz:∀a:Net,jj a []=a
 |[]=>rfl
 |_::_=>rfl
theorem By:∀{a b:Net}{Ba Bb B Ba' Bb':Nat->Nat},yq m Ba Bb B->bC m a->bC n b->bc a Ba=some Ba'->bc b Bb=some Bb'->lM m Ba' Bb' B (jj a (b.map (fY m)))
 |[],_,_,_,_,_,_,h,_,fb,ha,hb=>by obtain rfl:=ai ha;exact E5 h fb hb
 |x::a,[],Ba,Bb,B,Ba',Bb',h,fa,fb,ha,hb=>by
  obtain⟨tx,ha⟩:=qu ha;have hx:=fa x aI;have st:=CM (y:=[]) (n:=n) h hx.1 (fun J h=>nomatch h) hx.2 nB tx rfl;rw[show x++fY m []=x from d5 x] at st;obtain⟨B',h1,h2⟩:=By (b:=[]) st.2 fa.tail fb ha hb;exact⟨B',zI st.1 ((congrArg (fun z=>bc z _) (Jz a)).symm.trans h1),h2⟩
 |x::a,y::b,Ba,Bb,B,Ba',Bb',h,fa,fb,ha,hb=>by
  obtain⟨tx,ha⟩:=qu ha;obtain⟨ty,hb⟩:=qu hb;have hx:=fa x aI;have hy:=fb y aI;have st:=CM h hx.1 hy.1 hx.2 hy.2 tx ty;obtain⟨B',h1,h2⟩:=By st.2 fa.tail fb.tail ha hb;exact⟨B',zI st.1 h1,h2⟩
noncomputable def ug(m n:Nat):List (Nat×Nat):=(List.range n).map fun i=>(m-1,m+i)
noncomputable def oG(m:Nat)(a:Net)(n:Nat)(b:Net):Net:=jj a (b.map (fY m))++[ug m n]
theorem Hn(hm:1<=m)(fa:bC m a)(fb:bC n b)(ta:iY m a)(tb:iY n b):iY (m+n) (oG m a n b):=by
 obtain⟨Ba,a1,a2⟩:=ta;obtain⟨Bb,b1,b2⟩:=tb;obtain⟨B,h1,h2⟩:=By (m:=m) (n:=n) (Ba:=id) (Bb:=id) (B:=id) ⟨fun J J=>rfl,fun J=>rfl⟩ fa fb a1 b1;refine⟨fun x=>if m<=x/\x<m+n then 0 else B x,?_,?_⟩
 ·unfold oG;rw[iR,h1];show bc [ug m n] B=_;have hmem:∀p∈ug m n,∃i,i<n/\p=(m-1,m+i):=by
   intro p hp;revert hp;refine xL fun i hi wj=>?_;subst wj;exact⟨i,by simpa using hi,rfl⟩
  refine wy ?_ ?_ ?_ ?_
  ·unfold ug;rw[d8];have:((fun p:Nat×Nat=>p.2)∘fun i=>(m-1,m+i))=fun i=>m+i:=rfl;rw[this];exact List.Pairwise.map _ (fun a b (h:a≠b)=>by exact aj [_,_,_] [] kaw (Y8 (Y2 (Y0 V0 V1) (Y0 V0 V2)) J0) (Y8 (Y2 V1 V2) J0) h) List.nodup_range
  ·intro p hp;obtain⟨i,hi,rfl⟩:=hmem p hp;show m-1+1=B (m+i);rw[h2.2,b2 i hi];exact aj [_] [] 0x61a085294001840800c203006100400014a000c20200610000508001194a000c20180610040508001 (Y2 (Y0 (Y2 V0 J1) J1) (Y0 V0 J0)) (Y0 J1 V0) hm
  ·intro p hp;obtain⟨i,hi,rfl⟩:=hmem p hp;show(if m<=m+i/\m+i<m+n then 0 else B (m+i))=B (m-1);rw[if_pos ⟨by exact bp [_,_] [] 171801870336 (Y0 V0 (Y0 V0 V1)),by exact aj [_,_,_] [] kaa (Y1 (Y0 V0 V1) (Y0 V0 V2)) (Y1 V1 V2) hi⟩,h2.1 _ (by exact aj [_] [] kaj (Y1 (Y2 V0 J1) V0) (Y0 J1 V0) hm),a2 _ (by exact aj [_] [] kaj (Y1 (Y2 V0 J1) V0) (Y0 J1 V0) hm)]
  ·intro x hx;rw[if_neg];intro h;exact hx (m-1,m+(x-m)) (fg.mpr ⟨x-m,by simp;exact ay [_,_,_] [] 0x1a085294a000c203006101c03081001840100005294001840400c20300610000508401 (Y1 (Y2 V0 V1) V2) (Y0 V1 V0) (Y1 V0 (Y0 V1 V2)) h.1 h.2,rfl⟩) (by show m+(x-m)=x;exact aj [_,_] [] kav (Y2 (Y0 V0 (Y2 V1 V0)) V1) (Y0 V0 V1) h.1)
 ·intro x hx;by_cases h:m<=x
  ·simp only[h,hx,and_self,if_true]
  ·simp only[h,false_and,if_false];rw[h2.1 x (by exact aj [_,_] [] kaa (Y1 V0 V1) (Y8 (Y0 V1 V0) J0) h),a2 x (by exact aj [_,_] [] kaa (Y1 V0 V1) (Y8 (Y0 V1 V0) J0) h)]
noncomputable def dW(y:List (Nat×Nat)):List (Nat×Nat):=y.map fun p=>(2*p.1+1,2*p.2+1)
def Dk(k:Nat)(Bn B:Nat->Nat):Prop:=(∀i,i<k->B (2*i+1)=2*Bn i)/\∀i,B (2*i)=2*i
theorem E7:∀{a:Net}{Bn B Bn':Nat->Nat},Dk k Bn B->bC k a->bc a Bn=some Bn'->∃B',bc (a.map dW) B=some B'/\Dk k Bn' B'
 |[],Bn,B,_,h,_,ht=>by(injection ht with Ja;subst Ja);exact⟨B,rfl,h⟩
 |y::r,Bn,B,Bn',h,hf,ht=>by
  obtain⟨hl,ht⟩:=qu ht
  ·have hy:=hf y aI;rw[nz] at hl;have nd:((dW y).map (·.2)).Nodup:=by
    unfold dW;rw[d8];have:((fun p:Nat×Nat=>p.2)∘fun p:Nat×Nat=>(2*p.1+1,2*p.2+1))=(fun k=>2*k+1)∘fun p:Nat×Nat=>p.2:=rfl;rw[this,<-d8];exact List.Pairwise.map _ (fun a b (h:a≠b)=>by exact aj [_,_] [] kax (Y8 (Y2 (Y0 (Y1 J2 V0) J1) (Y0 (Y1 J2 V1) J1)) J0) (Y8 (Y2 V0 V1) J0) h) hy.2
   have t1:fk B (dW y)=true:=by
    rw[nz];intro p hp;revert hp;refine xL fun q hq wj=>?_;subst wj;show 2*q.1+1+1=B (2*q.2+1);rw[h.1 _ (hy.1 q hq).2];have:=hl q hq;exact aj [_,_] [] 0x6294001880200c20000a5000820080308000 (Y2 (Y0 (Y0 (Y1 J2 V0) J1) J1) (Y1 J2 V1)) (Y2 (Y0 V0 J1) V1) this
   have st:Dk k (bE (fun l J=>l) y Bn) (bE (fun l J=>l) (dW y) B):=by
    constructor
    ·intro i hi;rcases gQ (fun l J=>l) y Bn i with⟨p,hp,rfl,e⟩|e
     ·rw[e,show 2*p.2+1=((2*p.1+1,2*p.2+1):Nat×Nat).2 from rfl,nV _ _ nd (fg.mpr ⟨p,hp,rfl⟩)];exact h.1 _ (by have:=hy.1 p hp;exact ay [_,_,_] [] kab (Y1 V0 V1) (Y1 V2 V1) (Y1 V0 V2) hi this.1)
     ·rw[e];rcases gQ (fun l J=>l) (dW y) B (2*i+1) with⟨p,hp,e0,e'⟩|e'
      ·revert hp;refine xL fun q hq wj=>?_;subst wj;have hqi:q.2=i:=by simp only at e0;exact aj [_,_] [] 0x6294001840200c40000a5000810080310000 (Y2 V0 V1) (Y2 (Y0 (Y1 J2 V0) J1) (Y0 (Y1 J2 V1) J1)) e0
       subst hqi;rw[nV _ _ hy.2 hq] at e;rw[e'];show B (2*q.1+1)=_;rw[h.1 _ (by have:=hy.1 q hq;exact ay [_,_,_] [] kab (Y1 V0 V1) (Y1 V2 V1) (Y1 V0 V2) hi this.1),e]
      ·rw[e',h.1 i hi]
    ·intro i;rcases gQ (fun l J=>l) (dW y) B (2*i) with⟨p,hp,e0,e'⟩|e'
     ·revert hp;refine xL fun q hq wj=>?_;subst wj;simp only at e0;exact ay [_,_,_] [] 0x8294001840200c40000a5000810080310000 (Y2 V0 (Y1 J2 V1)) (Y2 (Y0 (Y1 J2 V2) J1) (Y1 J2 V1)) (Y7 (Y1 V2 V1) (Y0 V1 V2)) e0 (Nat.lt_or_ge _ _)
     ·rw[e',h.2]
   obtain⟨B',h1,h2⟩:=E7 st (fun z hz=>hf z (a0 _ hz)) ht;exact⟨B',zI t1 h1,h2⟩
noncomputable def vv(n:Nat):List (Nat×Nat):=(List.range (n/2)).map fun i=>(2*i,2*i+1)
noncomputable def gL(n:Nat):List (Nat×Nat):=(List.range ((n-1)/2)).map fun i=>(2*i+1,2*i+2)
noncomputable def iT(n:Nat)(a:Net):Net:=[vv n]++a.map dW++(if 2<n then[gL n] else[])
theorem Hy(fa:bC (n/2) a)(ta:iY (n/2) a):iY n (iT n a):=by
 obtain⟨Ba,a1,a2⟩:=ta;have h0:bc [vv n] id=some (fun x=>if x%2=1/\x<2*(n/2) then x-1 else x):=by
  have hmem:∀p∈vv n,∃i,i<n/2/\p=(2*i,2*i+1):=by
   intro p hp;revert hp;refine xL fun i hi wj=>?_;subst wj;exact⟨i,by simpa using hi,rfl⟩
  refine wy ?_ ?_ ?_ ?_
  ·unfold vv;rw[d8];have:((fun p:Nat×Nat=>p.2)∘fun i=>(2*i,2*i+1))=fun i=>2*i+1:=rfl;rw[this];exact List.Pairwise.map _ (fun a b (h:a≠b)=>by exact aj [_,_] [] kax (Y8 (Y2 (Y0 (Y1 J2 V0) J1) (Y0 (Y1 J2 V1) J1)) J0) (Y8 (Y2 V0 V1) J0) h) List.nodup_range
  ·intro p hp;obtain⟨i,hi,rfl⟩:=hmem p hp;rfl
  ·intro p hp;obtain⟨i,hi,rfl⟩:=hmem p hp;show(if(2*i+1)%2=1/\2*i+1<2*(n/2) then 2*i+1-1 else 2*i+1)=2*i;rw[if_pos ⟨by exact aj [_] [] kay (Y2 (Y4 (Y0 (Y1 J2 V0) J1) J2) J1) (Y7 (Y1 V0 (Y3 (Y0 (Y1 J2 V0) J1) J2)) (Y0 (Y3 (Y0 (Y1 J2 V0) J1) J2) V0)) (Nat.lt_or_ge _ _),by exact aj [_,_] [] kaf (Y1 (Y0 (Y1 J2 V0) J1) (Y1 J2 (Y3 V1 J2))) (Y1 V0 (Y3 V1 J2)) hi⟩];exact bp [_] [] kbj (Y2 (Y2 (Y0 (Y1 J2 V0) J1) J1) (Y1 J2 V0))
  ·intro x hx;rw[if_neg];rfl;intro h;exact hx (2*(x/2),2*(x/2)+1) (fg.mpr ⟨x/2,by simp;exact aj [_,_] [] 0x65294001880200c20180610000710001 (Y1 (Y3 V0 J2) (Y3 V1 J2)) (Y1 V0 (Y1 J2 (Y3 V1 J2))) h.2,rfl⟩) (by show 2*(x/2)+1=x;exact aj [_] [] kbk (Y2 (Y0 (Y1 J2 (Y3 V0 J2)) J1) V0) (Y2 (Y4 V0 J2) J1) h.1)
 obtain⟨B,h1,h2⟩:=E7 (k:=n/2) (Bn:=id) (B:=fun x=>if x%2=1/\x<2*(n/2) then x-1 else x) ⟨fun i hi=>by
  show(if(2*i+1)%2=1/\2*i+1<2*(n/2) then 2*i+1-1 else 2*i+1)=2*i;rw[if_pos ⟨by exact aj [_] [] kay (Y2 (Y4 (Y0 (Y1 J2 V0) J1) J2) J1) (Y7 (Y1 V0 (Y3 (Y0 (Y1 J2 V0) J1) J2)) (Y0 (Y3 (Y0 (Y1 J2 V0) J1) J2) V0)) (Nat.lt_or_ge _ _),by exact aj [_,_] [] kaf (Y1 (Y0 (Y1 J2 V0) J1) (Y1 J2 (Y3 V1 J2))) (Y1 V0 (Y3 V1 J2)) hi⟩];exact bp [_] [] kbj (Y2 (Y2 (Y0 (Y1 J2 V0) J1) J1) (Y1 J2 V0)),fun i=>by
  show(if(2*i)%2=1/\2*i<2*(n/2) then 2*i-1 else 2*i)=2*i;rw[if_neg (by exact aj [_,_] [] 0x719085294001880500c20180810000000c071008008803294a000c401008100003080203880400440 (Y8 (Y6 (Y2 (Y4 (Y1 J2 V0) J2) J1) (Y1 (Y1 J2 V0) (Y1 J2 (Y3 V1 J2)))) J0) (Y7 (Y1 (Y3 (Y1 J2 V0) J2) V0) (Y0 V0 (Y3 (Y1 J2 V0) J2))) (Nat.lt_or_ge _ _))]⟩ fa a1
 have hodd:∀x,x%2=1->x<n->B x=0:=by
  intro x h3 h4;have:=h2.1 (x/2) (by exact ay [_,_] [] kbl (Y1 (Y3 V0 J2) (Y3 V1 J2)) (Y2 (Y4 V0 J2) J1) (Y1 V0 V1) h3 h4);rw[show 2*(x/2)+1=x by exact aj [_] [] kbk (Y2 (Y0 (Y1 J2 (Y3 V0 J2)) J1) V0) (Y2 (Y4 V0 J2) J1) h3,a2 _ (by exact ay [_,_] [] kbl (Y1 (Y3 V0 J2) (Y3 V1 J2)) (Y2 (Y4 V0 J2) J1) (Y1 V0 V1) h3 h4)] at this;exact this
 have heven:∀x,x%2=0->B x=x:=by
  intro x h3;have:=h2.2 (x/2);rw[show 2*(x/2)=x by exact aj [_] [] 0x186528003080401840001c4000465294001840400c20100810000710001 (Y2 (Y1 J2 (Y3 V0 J2)) V0) (Y2 (Y4 V0 J2) J0) h3] at this;exact this
 by_cases hn:2<n
 ·refine⟨fun x=>if x<n then 0 else B x,?_,fun x hx=>by simp only[hx,if_true]⟩;unfold iT;rw[if_pos hn,iR,iR,h0];show(bc (a.map dW) _).bind (bc [gL n])=_;rw[h1];show bc [gL n] B=_;have hmem:∀p∈gL n,∃i,i<(n-1)/2/\p=(2*i+1,2*i+2):=by
   intro p hp;revert hp;refine xL fun i hi wj=>?_;subst wj;exact⟨i,by simpa using hi,rfl⟩
  refine wy ?_ ?_ ?_ ?_
  ·unfold gL;rw[d8];have:((fun p:Nat×Nat=>p.2)∘fun i=>(2*i+1,2*i+2))=fun i=>2*i+2:=rfl;rw[this];exact List.Pairwise.map _ (fun a b (h:a≠b)=>by exact aj [_,_] [] kax (Y8 (Y2 (Y0 (Y1 J2 V0) J2) (Y0 (Y1 J2 V1) J2)) J0) (Y8 (Y2 V0 V1) J0) h) List.nodup_range
  ·intro p hp;obtain⟨i,hi,rfl⟩:=hmem p hp;show 2*i+1+1=B (2*i+2);rw[heven _ (by exact aj [_] [] 0xc8194a50006100c03100401840001c401880400440194a50006200804080001840101c4018804004402800308000 (Y2 (Y4 (Y0 (Y1 J2 V0) J2) J2) J0) (Y7 (Y1 (Y3 (Y0 (Y1 J2 V0) J2) J2) (Y0 V0 J1)) (Y0 (Y0 V0 J1) (Y3 (Y0 (Y1 J2 V0) J2) J2))) (Nat.lt_or_ge _ _))]
  ·intro p hp;obtain⟨i,hi,rfl⟩:=hmem p hp;show(if 2*i+2<n then 0 else B (2*i+2))=B (2*i+1);rw[if_pos (by exact ay [_,_] [] kbm (Y1 (Y0 (Y1 J2 V0) J2) V1) (Y1 J2 V1) (Y1 V0 (Y3 (Y2 V1 J1) J2)) hn hi),hodd _ (by exact aj [_] [] kay (Y2 (Y4 (Y0 (Y1 J2 V0) J1) J2) J1) (Y7 (Y1 V0 (Y3 (Y0 (Y1 J2 V0) J1) J2)) (Y0 (Y3 (Y0 (Y1 J2 V0) J1) J2) V0)) (Nat.lt_or_ge _ _)) (by exact aj [_,_] [] 0x3194a528003080a01880600c201806100005080213080508021 (Y1 (Y0 (Y1 J2 V0) J1) V1) (Y1 V0 (Y3 (Y2 V1 J1) J2)) hi)]
  ·intro x hx;by_cases hxn:x<n
   ·rw[if_pos hxn];by_cases h3:x%2=1
    ·rw[hodd x h3 hxn]
    ·by_cases h4:x=0
     ·rw[h4,heven 0 rfl]
     ·exact absurd (show 2*(x/2-1)+2=x by exact bo [_] [] 0x940ca5000610080308020388000a865294a000c402006100c03080402040001c40004a000c20000e340c85294a000c40480610200308040188010080610001194a50006101803100401840001840004a10184000523294001840200c20080e200023194a528003080c018405010201806200405080c20002710001 (Y2 (Y0 (Y1 J2 (Y2 (Y3 V0 J2) J1)) J2) V0) (Y8 (Y2 (Y4 V0 J2) J1) J0) (Y8 (Y2 V0 J0) J0) (Y7 (Y1 J0 (Y3 V0 J2)) (Y0 (Y3 V0 J2) J0)) h3 h4 (Nat.lt_or_ge _ _)) (hx (2*(x/2-1)+1,2*(x/2-1)+2) (fg.mpr ⟨x/2-1,by simp;exact ay [_,_] [] 0xd03190a5294a000c405806103003080c01840300c40080a028401098402840108c63294a5294001880b00c206806201c03080a01840400c20080a100426100a100426100012840610001 (Y1 (Y2 (Y3 V0 J2) J1) (Y3 (Y2 V1 J1) J2)) (Y1 J2 V1) (Y1 V0 V1) hn hxn,rfl⟩))
   ·rw[if_neg hxn]
 ·refine⟨B,?_,?_⟩
  ·unfold iT;rw[if_neg hn,d5,iR,h0];exact h1
  ·intro x hx;by_cases h3:x%2=1
   ·exact hodd x h3 hx
   ·rw[heven x (by exact aj [_] [] 0x3206528003080401840101c40004a50006100403080002800308000 (Y2 (Y4 V0 J2) J0) (Y8 (Y2 (Y4 V0 J2) J1) J0) h3)];exact gy [_,_] [] 0x1943294001840200c20080e20002c194a528003080801840300c40100810000710001194a528003080c01840700c401006100007100012800308000 (Y2 V0 J0) (Y8 (Y1 J2 V1) J0) (Y1 V0 V1) (Y8 (Y2 (Y4 V0 J2) J1) J0) (Y7 (Y1 J0 (Y3 V0 J2)) (Y0 (Y3 V0 J2) J0)) hn hx h3 (Nat.lt_or_ge _ _)
variable {B:Prop}{S:List Nat}{f:String}{r:Loc}{x:Option V}
theorem AJ(hN:m<=N):∀{x z:List (Nat×Nat)}{lo:Nat},lo<=m->eM m lo x->eM N m z->eM N lo (x++z)
 |[],z,lo,h,_,hz=>vQ h hz
 |(l,k)::r,z,lo,h,q,hz=>⟨q.1,cS q.2.1 hN,q.2.2.1,AJ hN q.2.1 q.2.2.2 hz⟩
theorem Cg{m n:Nat}:∀{y:List (Nat×Nat)}{lo:Nat},eM n lo y->eM (m+n) (m+lo) (fY m y)
 |[],_,_=>trivial
 |(l,k)::r,lo,⟨a,b,c,d⟩=>⟨by exact aj [_,_,_] [] kaa (Y1 (Y0 V0 V1) (Y0 V2 V1)) (Y1 V0 V2) a,by exact aj [_,_,_] [] kaa (Y1 (Y0 V0 V1) (Y0 V1 V2)) (Y1 V0 V2) b,by exact aj [_,_,_] [] kaa (Y0 (Y0 V0 V1) (Y0 V2 V0)) (Y0 V1 V2) c,by
  have:=Cg (m:=m) d;rw[show m+(k+1)=k+m+1 by exact bp [_,_] [] kac (Y2 (Y0 V0 (Y0 V1 J1)) (Y0 (Y0 V1 V0) J1))] at this;exact this⟩
theorem zV:∀(a b:Net),(jj a b).length=max a.length b.length
 |[],b=>(Nat.zero_max b.length).symm
 |x::a,[]=>(Nat.max_zero (x::a).length).symm
 |x::a,y::b=>by simp only[EA,fO,zV a b];exact ay [_,_,_,_] [] 0x190a210a528003080c018402010200004008084294a50006101803080402040000c200804008144214a528003080c01840201020000610040200404214a5000610180308040204000080102144214a5000610180408040184000080101085294a000c20300810080308060184000080102884294a50006101804080401840300c200004008084294a000c2030081008030800010020 (Y2 (Y0 V0 J1) V1) (Y7 (Y6 (Y2 V0 V2) (Y0 V3 V2)) (Y6 (Y2 V0 V3) (Y0 V2 V3))) (Y7 (Y6 (Y2 V1 (Y0 V2 J1)) (Y0 (Y0 V3 J1) (Y0 V2 J1))) (Y6 (Y2 V1 (Y0 V3 J1)) (Y0 (Y0 V2 J1) (Y0 V3 J1)))) (Ar.mx _ _) (Ar.mx _ _)
theorem FY:∀{a b:Net},(∀y∈a,cm m y)->(∀y∈b,cm n y)->∀y∈jj a (b.map (fY m)),cm (m+n) y
 |[],b,_,hb,y,hy=>by
  simp only[Jt,fg] at hy;obtain⟨z,hz,rfl⟩:=hy;obtain⟨h1,h2⟩:=hb z hz;refine⟨by simp[fY,h1],vQ (eA _) (Cg h2)⟩
 |x::a,[],ha,_,y,hy=>by
  have:y∈x::a:=hy;obtain⟨h1,h2⟩:=ha y this;refine⟨h1,?_⟩;have:=AJ (m:=m) (N:=m+n) (z:=[]) (by exact bp [_,_] [] 171801870336 (Y0 V0 (Y0 V0 V1))) (eA _) h2 trivial;simpa using this
 |x::a,z::b,ha,hb,y,hy=>by
  simp only[fK,EA] at hy;rcases bj.mp hy with rfl |hy
  ·obtain⟨h1,h2⟩:=ha x aI;obtain⟨h3,h4⟩:=hb z aI;refine⟨by simp[h1],AJ (by exact bp [_,_] [] 171801870336 (Y0 V0 (Y0 V0 V1))) (eA _) h2 (Cg h4)⟩
  ·exact FY (fun y h=>ha y (a0 _ h)) (fun y h=>hb y (a0 _ h)) y hy
theorem E1(f g:Nat->Nat)(hfg:∀i,f i<g i)(hg:∀i,g i<g (i+1)):∀(k a:Nat),(∀i,i<a+k->g i<N)->eM N (g a) ((List.range' a k).map fun i=>(f i,g i))
 |0,_,_=>trivial
 |k+1,a,h=>⟨hfg a,h a (by exact bp [_,_] [] 171801870336 (Y1 V0 (Y0 V0 (Y0 V1 J1)))),aJ _,vQ (hg a) (E1 f g hfg hg k (a+1) fun i hi=>h i (by exact aj [_,_,_] [] kaa (Y1 V0 (Y0 V1 (Y0 V2 J1))) (Y1 V0 (Y0 (Y0 V1 J1) V2)) hi))⟩
theorem Cv(f g:Nat->Nat)(hfg:∀i,f i<g i)(hg:∀i,g i<g (i+1))(hk:0<k)(h:∀i,i<k->g i<N):cm N ((List.range k).map fun i=>(f i,g i)):=by
 refine⟨fun e=>?_,?_⟩
 ·have:=congrArg List.length e;simp at this;exact ay [_] [] kah J0 (Y1 J0 V0) (Y2 V0 J0) hk this
 ·have:=E1 f g hfg hg k 0 (N:=N) (fun i hi=>h i (by exact aj [_,_] [] kaa (Y1 V0 V1) (Y1 V0 (Y0 J0 V1)) hi));rw[<- List.range_eq_range'] at this;exact vQ (eA _) this
def pE(hm:1<=m)(hn:1<=n):cm (m+n) (ug m n):=
 Cv (fun J=>m-1) (fun i=>m+i) (fun i=>by exact aj [_,_] [] kaj (Y1 (Y2 V0 J1) (Y0 V0 V1)) (Y0 J1 V0) hm) (fun i=>by exact bp [_,_] [] 171801870336 (Y1 (Y0 V0 V1) (Y0 V0 (Y0 V1 J1)))) hn (fun i hi=>by exact aj [_,_,_] [] kaa (Y1 (Y0 V0 V1) (Y0 V0 V2)) (Y1 V1 V2) hi)
def KJ(hm:1<=m)(hn:1<=n)(ha:∀y∈a,cm m y)(hb:∀y∈b,cm n y):∀y∈oG m a n b,cm (m+n) y:=by
 intro y hy;rcases bJ.mp hy with hy |hy
 ·exact FY ha hb y hy
 ·rw[aN.mp hy];exact pE hm hn
theorem K4(m n:Nat)(a b:Net):(oG m a n b).length=max a.length b.length+1:=by
 simp[oG,zV]
theorem DX:∀{y:List (Nat×Nat)} {lo:Nat},eM k lo y->eM (2*k) (2*lo) (dW y)
 |[],_,_=>trivial
 |(l,h)::r,lo,⟨a,b,c,d⟩=>⟨by exact aj [_,_] [] kaf (Y1 (Y0 (Y1 J2 V0) J1) (Y0 (Y1 J2 V1) J1)) (Y1 V0 V1) a,by exact aj [_,_] [] kaf (Y1 (Y0 (Y1 J2 V0) J1) (Y1 J2 V1)) (Y1 V0 V1) b,by exact aj [_,_] [] kaf (Y0 (Y1 J2 V0) (Y0 (Y1 J2 V1) J1)) (Y0 V0 V1) c,vQ (by exact bp [_] [] 171801870336 (Y0 (Y0 (Y0 (Y1 J2 V0) J1) J1) (Y1 J2 (Y0 V0 J1)))) (DX d)⟩
theorem F5 (h:m<=N):∀{y:List (Nat×Nat)} {lo:Nat},eM m lo y->eM N lo y
 |[],_,_=>trivial
 |(l,k)::r,lo,⟨a,b,c,d⟩=>⟨a,by exact ay [_,_,_] [] kab (Y1 V0 V1) (Y0 V2 V1) (Y1 V0 V2) h b,c,F5 h d⟩
theorem JS(hn:2<=n)(ha:∀y∈a,cm (n/2) y):∀y∈iT n a,cm n y:=by
 intro y hy;unfold iT at hy;rcases bJ.mp hy with hy |hy
 ·rcases bJ.mp hy with hy |hy
  ·rw[aN.mp hy];exact Cv (fun i=>2*i) (fun i=>2*i+1) (fun i=>by exact bp [_] [] 171801870336 (Y1 (Y1 J2 V0) (Y0 (Y1 J2 V0) J1))) (fun i=>by exact bp [_] [] 171801870336 (Y1 (Y0 (Y1 J2 V0) J1) (Y0 (Y1 J2 (Y0 V0 J1)) J1))) (by exact aj [_] [] 0x65294001880200c20180610040610001 (Y1 J0 (Y3 V0 J2)) (Y0 J2 V0) hn) (fun i hi=>by exact aj [_,_] [] 0x65294001840200c40180610000610021 (Y1 (Y0 (Y1 J2 V0) J1) V1) (Y1 V0 (Y3 V1 J2)) hi)
  ·revert hy;refine xL fun z hz wj=>?_;subst wj;obtain⟨h1,h2⟩:=ha z hz;exact⟨by simp[dW,h1],F5 (by exact bp [_] [] 0x194a000c20100610000610001 (Y0 (Y1 J2 (Y3 V0 J2)) V0)) (DX h2)⟩
 ·split at hy
  ·rw[aN.mp hy];exact Cv (fun i=>2*i+1) (fun i=>2*i+2) (fun i=>by exact bp [_] [] 171801870336 (Y1 (Y0 (Y1 J2 V0) J1) (Y0 (Y1 J2 V0) J2))) (fun i=>by exact bp [_] [] 171801870336 (Y1 (Y0 (Y1 J2 V0) J2) (Y0 (Y1 J2 (Y0 V0 J1)) J2))) (by exact aj [_] [] 0x3194a528003100a01840600c202006100405080013080508001 (Y1 J0 (Y3 (Y2 V0 J1) J2)) (Y1 J2 V0) (by assumption)) (fun i hi=>by exact ay [_,_] [] kbm (Y1 (Y0 (Y1 J2 V0) J2) V1) (Y0 J2 V1) (Y1 V0 (Y3 (Y2 V1 J1) J2)) hn hi)
  ·cases hy
theorem HQ(n:Nat)(a:Net):(iT n a).length=1+a.length+(if 2<n then 1 else 0):=by
 unfold iT;split<;>simp<;>exact bp [_] [] kac (Y2 (Y0 V0 J1) (Y0 J1 V0))
def we{net:Net}(h:∀y∈net,cm n y):bC n net:=fun y hy=>by
 have:=vB (h y hy).2;exact⟨fun p hp=>⟨(this.1 p hp).1,(this.1 p hp).2.1⟩,this.2⟩
structure bK(n:Nat)(net:Net):Prop where
 ok:∀y∈net,cm n y
 tells:iY n net
def bK.whole{net:Net}(F:bK n net):∀x,x<n->rZ net x=List.range (x+1):=F.tells.whole (we F.ok)
def eT.fine{net:Net}(T:eT n net):bK n net:=⟨T.ok,T.tells⟩
def Kh(hm:1<=m)(hn:1<=n)(ha:bK m a)(hb:bK n b):bK (m+n) (oG m a n b):=
 ⟨KJ hm hn ha.ok hb.ok,Hn hm (we ha.ok) (we hb.ok) ha.tells hb.tells⟩
def I9(hn:2<=n)(ha:bK (n/2) a):bK n (iT n a):=⟨JS hn ha.ok,Hy (we ha.ok) ha.tells⟩
def j6(n:Nat):bK n (rC n):=⟨GS n,KA n⟩
def FR:bK 1 []:=⟨fun y hy=>(by cases hy),⟨id,rfl,fun x hx=>(by show x=0;exact aj [_] [] kag (Y2 V0 J0) (Y1 V0 J1) hx)⟩⟩
theorem kK(ha:∀y∈a,cm n y)(hs:bc a id=some (fun x=>if x<n then x+1-s else x))(h1:1<=s)(h:n<=s):bK n a:=
 ⟨ha,_,hs,fun x hx=>by simp only[hx,if_true];exact ay [_,_,_] [] 0xc3410a5000610180308020000a5294001840600c2038061010030800028423080012800308000 (Y2 (Y2 (Y0 V0 J1) V1) J0) (Y0 V2 V1) (Y1 V0 V2) h hx⟩
def nr(hs:bc a id=some (fun x=>if x<n then x+1-s else x))(h1:1<=s):bc (a++[p0 n s]) id=some (fun x=>if x<n then x+1-2*s else x):=by
 rw[iR,hs];exact lF h1
theorem lD(n:Nat):bc [] id=some (fun x=>if x<n then x+1-1 else x):=by
 show some id=_;congr 1;funext x;simp
variable {a:Ex}{b:Int}{s:Loc}
noncomputable def xY:Nat->Nat->Net
 |0,_=>[]
 |f+1,n=>if n<=1 then[] else oG ((n+1)/2) (xY f ((n+1)/2)) (n-(n+1)/2) (xY f (n-(n+1)/2))
noncomputable def zt:Nat->Nat->Net
 |0,_=>[]
 |f+1,n=>if n<=1 then[] else iT n (zt f (n/2))
noncomputable def qE(n:Nat):Net:=xY n n
noncomputable def rO(n:Nat):Net:=zt n n
inductive yz(n N:Nat):Prop
 |mk (m k:Nat)(hn:n=m+k)(hm:(n+1)/2=m)(h1:1<=m)(h2:1<=k)(h3:m<=N)(h4:k<=N)(h5:n/2=k)(h6:n-m=k)(h7:k<=m):yz n N
def rq(h0:1<=n)(h1:n≠1)(h:n<=N+1):yz n N:=⟨(n+1)/2,n/2,by exact bp [_] [] 0x1863294a000c402006100c030802030800098401840008c65294001880400c201006100006100013080308001 (Y2 V0 (Y0 (Y3 (Y0 V0 J1) J2) (Y3 V0 J2))),rfl,by exact aj [_] [] 0x3294a000c401006100c03080203080308001 (Y0 J1 (Y3 (Y0 V0 J1) J2)) (Y0 J1 V0) h0,by exact ay [_] [] 0x8194a50006200c03080401840101840004a5000610080308000 (Y0 J1 (Y3 V0 J2)) (Y0 J1 V0) (Y8 (Y2 V0 J1) J0) h0 h1,by exact bo [_,_] [] 0x103294a50006200c03100c01840200c20000c200c20004a5000610080308000 (Y0 (Y3 (Y0 V0 J1) J2) V1) (Y0 J1 V0) (Y8 (Y2 V0 J1) J0) (Y0 V0 (Y0 V1 J1)) h0 h1 h,by exact aj [_,_] [] 0x65294001880200c20180610000610001 (Y0 (Y3 V0 J2) V1) (Y0 V0 (Y0 V1 J1)) h,rfl,by exact bp [_] [] 0x61a08528003080c01840100003194a528003101001880400c20180610040610001308030800129840184000802318ca5294001880700c40280610080308000308000984018400094c200c2000401 (Y2 (Y2 V0 (Y3 (Y0 V0 J1) J2)) (Y3 V0 J2)),by exact bp [_] [] 0xc65294001880400c201006100406100610002610001 (Y0 (Y3 V0 J2) (Y3 (Y0 V0 J1) J2))⟩
theorem Ab:∀(f g n:Nat),1<=n->n<=f->n<=g->xY f n=xY g n
 |0,_,_,h1,h,_=>absurd (aD h1 h) (by decide)
 |_+1,0,_,h1,_,h=>absurd (aD h1 h) (by decide)
 |f+1,g+1,n,h1,hf,hg=>by
  show(if n<=1 then[] else _)=(if n<=1 then[] else _);by_cases h:n<=1
  ·rw[if_pos h,if_pos h]
  ·obtain⟨m,k,_,e,a1,a2,a3,a4,_,e2,_⟩:=rq h1 (fun e=>h (eR e)) hf;obtain⟨m',k',_,e',_,_,b3,b4,_,e2',_⟩:=rq h1 (fun e=>h (eR e)) hg;obtain rfl:=e.symm.trans e';obtain rfl:=e2.symm.trans e2';rw[if_neg h,if_neg h,e,e2,Ab f g m a1 a3 b3,Ab f g k a2 a4 b4]
theorem EF:∀(f g n:Nat),1<=n->n<=f->n<=g->zt f n=zt g n
 |0,_,_,h1,h,_=>absurd (aD h1 h) (by decide)
 |_+1,0,_,h1,_,h=>absurd (aD h1 h) (by decide)
 |f+1,g+1,n,h1,hf,hg=>by
  show(if n<=1 then[] else _)=(if n<=1 then[] else _);by_cases h:n<=1
  ·rw[if_pos h,if_pos h]
  ·obtain⟨m,k,_,e,a1,a2,a3,a4,e2,_,_⟩:=rq h1 (fun e=>h (eR e)) hf;obtain⟨m',k',_,e',_,_,b3,b4,e2',_,_⟩:=rq h1 (fun e=>h (eR e)) hg;obtain rfl:=e2.symm.trans e2';rw[if_neg h,if_neg h,e2,EF f g k a2 a4 b4]
def Fi(h1:1<=m)(h2:1<=k)(e:n=m+k)(em:(n+1)/2=m):qE n=oG m (qE m) k (qE k):=by
 obtain⟨j,rfl⟩:=Nat.exists_eq_add_of_le' h1;subst e;have hk:j+1+k-(j+1)=k:=Nat.add_sub_cancel_left ..;have e2:j+1+k=(j+k)+1:=Nat.add_right_comm ..;unfold qE;rw[e2] at em hk ⊢;show(if j+k+1<=1 then[] else _)=_;rw[if_neg (Nat.not_le.mpr (Nat.succ_lt_succ (cS h2 (Nat.le_add_left ..)))),em,hk,Ab (j+k) (j+1) (j+1) h1 (Nat.add_le_add_left h2 j) (aJ _),Ab (j+k) k k h2 (Nat.le_add_left ..) (aJ _)]
def DW(h1:1<=m)(h2:1<=k)(e:n=m+k)(em:n/2=k):rO n=iT n (rO k):=by
 obtain⟨j,rfl⟩:=Nat.exists_eq_add_of_le' h1;subst e;have e2:j+1+k=(j+k)+1:=Nat.add_right_comm ..;unfold rO;rw[e2] at em ⊢;show(if j+k+1<=1 then[] else _)=_;rw[if_neg (Nat.not_le.mpr (Nat.succ_lt_succ (cS h2 (Nat.le_add_left ..)))),em,EF (j+k) k k h2 (Nat.le_add_left ..) (aJ _)]
def mi{a b:Nat}(ha:a<=m-1)(hb:b<=k-1)(hm:1<=m)(hk:1<=k):max a b+1<=m+k-1:=by exact An [_,_,_,_,_] [] 0xb1a064214a5294a50006103003081c01840f00c208006101403080401840101407014201882108c85294a528003081401840c00c206806101403080601840001c050806208425080411a064214a5294a50006103003081a01840f00c208006101403080401840101407014201882108c85294a528003081401840b00c207006101403080601840001c05080620842508021 (Y0 (Y0 V0 J1) (Y2 (Y0 V1 V2) J1)) (Y0 V3 (Y2 V1 J1)) (Y0 V4 (Y2 V2 J1)) (Y0 J1 V1) (Y0 J1 V2) (Y7 (Y6 (Y2 V0 V3) (Y0 V4 V3)) (Y6 (Y2 V0 V4) (Y0 V3 V4))) ha hb hm hk (Ar.mx _ _)
def jN{x:Nat}(hx:x<=k-1)(hm:k<=m)(hk:1<=k):1+x+(if 2<m+k then 1 else 0)<=m+k-1:=by split<;>(first |exact bo [_,_,_] [] 0x68190a5294a000c204806102803081801840300c20080602840310421194a5294a000c403806202003081201840a00c401806200405080620842508041 (Y0 (Y0 (Y0 J1 V0) J1) (Y2 (Y0 V1 V2) J1)) (Y0 V0 (Y2 V2 J1)) (Y0 V2 V1) (Y1 J2 (Y0 V1 V2)) hx hm (by assumption) |exact bo [_,_,_] [] 0x68190a5294a50006102403081401840b00c406006100c0308020180a100c4108465294a50006101c03101001840900c401806100405080620842508041 (Y0 (Y0 (Y0 J1 V0) J0) (Y2 (Y0 V1 V2) J1)) (Y0 V0 (Y2 V2 J1)) (Y0 V2 V1) (Y0 J1 V2) hx hm hk)
theorem BP:∀(N:Nat){n:Nat},1<=n->n<=N->bK n (qE n)/\(qE n).length<=n-1
 |0,_,h1,h=>absurd (aD h1 h) (by decide)
 |N+1,n,h,hN=>by
  by_cases h1:n=1
  ·subst h1;exact⟨FR,aJ _⟩
  ·obtain⟨m,k,e,em,a1,a2,a3,a4,_,_,_⟩:=rq h h1 hN;rw[Fi a1 a2 e em,e];have A:=BP N a1 a3;have B:=BP N a2 a4;exact⟨Kh a1 a2 A.1 B.1,by rw[K4];exact mi A.2 B.2 a1 a2⟩
theorem FI:∀(N:Nat){n:Nat},1<=n->n<=N->bK n (rO n)/\(rO n).length<=n-1
 |0,_,h1,h=>absurd (aD h1 h) (by decide)
 |N+1,n,h,hN=>by
  by_cases h1:n=1
  ·subst h1;exact⟨FR,aJ _⟩
  ·obtain⟨m,k,e,_,a1,a2,_,a4,em,_,a7⟩:=rq h h1 hN;rw[DW a1 a2 e em];have B:=FI N a2 a4;refine⟨I9 (e▸Nat.add_le_add a1 a2) (em.symm▸B.1),?_⟩;rw[HQ,e];exact jN B.2 a7 a2
def Ch(n:Nat)(h:1<=n):bK n (qE n)/\(qE n).length<=n-1:=BP n h (aJ n)
def F9(n:Nat)(h:1<=n):bK n (rO n)/\(rO n).length<=n-1:=FI n h (aJ n)
variable {N:Loc->Hp->Prop}{k:dB}{m:Me}
def DN{net:Net}(h:net[i]?=some y):net=net.take i++[y]++net.drop (i+1):=by
 obtain⟨h1,h2⟩:=gW.mp h;rw[fQ];show net=net.take i++y::net.drop (i+1);rw[<- h2,<-nX h1,List.take_append_drop]
noncomputable def gN(p:Nat×List Nat):Net:=p.2.map fun l=>[(l,p.1)]
variable {y:V}
theorem uE{ok:Hp->Prop}{body:V->Loc->SPost->Hp->Prop}(I:Nat->Loc->Hp->Prop) (step:∀i x l H (K:SPost),items[i]?=some x->I i l H->(∀l' H',ok H'->I (i+1) l' H'->K .next l' H')->(∀v l' H',Q (.ret v) l' H'->K (.ret v) l' H')->body x l K H) (hend:∀l H,I items.length l H->Q .next l H) (h0:I 0 l H):jG ok body items Q l H:=by
 have key:∀(n i:Nat),n+i=items.length->∀l H,I i l H->jG ok body (items.drop i) Q l H:=by
  intro n;induction n with
  |zero=>
   intro i hi l H hI;have:i=items.length:=by exact aj [_,_] [] kad (Y2 V0 V1) (Y2 (Y0 J0 V0) V1) hi
   subst this;rw[List.drop_length];exact hend l H hI
  |succ n ih=>
   intro i hi l H hI;have hlt:i<items.length:=by exact aj [_,_,_] [] kaa (Y1 V0 V1) (Y2 (Y0 (Y0 V2 J1) V0) V1) hi
   rw[nX hlt];refine step i _ l H _ (bt hlt) hI (fun l' H' hok hI'=>⟨hok,ih (i+1) (by exact aj [_,_,_] [] kad (Y2 (Y0 V0 (Y0 V1 J1)) V2) (Y2 (Y0 (Y0 V0 J1) V1) V2) hi) l' H' hI'⟩) fun v l' H' hq=>hq
 exact key items.length 0 rfl l H h0
theorem vn{ok:Hp->Prop}{f:V->σ->(σ->Hp->Prop)->Hp->Prop}{Q:σ->Hp->Prop}(I:Nat->σ->Hp->Prop) (step:∀i x a H (K:σ->Hp->Prop),items[i]?=some x->I i a H->(∀a' H',ok H'->I (i+1) a' H'->K a' H')->f x a K H) (hend:∀a H,I items.length a H->Q a H) {a:σ} (h0:I 0 a H):gH ok f items a Q H:=by
 have key:∀(n i:Nat),n+i=items.length->∀a H,I i a H->gH ok f (items.drop i) a Q H:=by
  intro n;induction n with
  |zero=>
   intro i hi a H hI;have:i=items.length:=by exact aj [_,_] [] kad (Y2 V0 V1) (Y2 (Y0 J0 V0) V1) hi
   subst this;rw[List.drop_length];exact hend a H hI
  |succ n ih=>
   intro i hi a H hI;have hlt:i<items.length:=by exact aj [_,_,_] [] kaa (Y1 V0 V1) (Y2 (Y0 (Y0 V2 J1) V0) V1) hi
   rw[nX hlt];exact step i _ a H _ (bt hlt) hI fun a' H' hok hI'=>⟨hok,ih (i+1) (by exact aj [_,_,_] [] kad (Y2 (Y0 V0 (Y0 V1 J1)) V2) (Y2 (Y0 (Y0 V0 J1) V1) V2) hi) a' H' hI'⟩
 exact key items.length 0 rfl a H h0
theorem sD{g:α->V}{ok:Hp->Prop}{body:V->Loc->SPost->Hp->Prop}(I:List α->Loc->Hp->Prop) (step:∀x r l H (K:SPost),I (x::r) l H->(∀l' H',ok H'->I r l' H'->K .next l' H')->(∀v l' H',Q (.ret v) l' H'->K (.ret v) l' H')->body (g x) l K H) (hend:∀l H,I [] l H->Q .next l H):∀{xs:List α} {l:Loc} {H:Hp},I xs l H->jG ok body (xs.map g) Q l H
 |[],l,H,h=>hend l H h
 |x::r,l,H,h=>step x r l H _ h (fun J J hok hI=>⟨hok,sD I step hend hI⟩) fun J J J hq=>hq
def aM(c:Cx)(f:String)(np n:Nat)(xs:List St):Prop:=
 ∀q d vs Q E H,vs.length=np->az (Calls c) q d none xs (de Q) (dZ E) (vs.map some++List.replicate (n-np) none) H->Calls c q (d+1) (ar f) vs none Q E H
def uP(O:c.Ok)(TO:aX c T){e:PyProof.Rows.DefItem}(hat:cI c e){r:Nat}(he:sF T fuel r e=some xs)(hf:e.name=ar f)(hnp:e.params.args.length=np)(hn:(slots e.scope.names).length+r=n):aM c f np n xs:=by
 intro q d vs Q E H hl hw;rw[<- hf];refine Iw O TO hat he (by rw[hl,hnp]) ?_;rw[hn,hl];exact hw
theorem E_lit{Q E}:aF C q d k (.lit v) l Q E H=Q v H:=rfl
theorem E_var{Q E}:aF C q d k (.var i) l Q E H=ae (l.getD i none) fun v=>Q v H:=rfl
theorem E_tup{Q E}:aF C q d k (.tup es) l Q E H=dI C q d k es l (fun vs H=>Q (.tup vs) H) E H:=rfl
theorem E_list{Q E}:aF C q d k (.list es) l Q E H=dI C q d k es l (fun vs H=>Q (.lst H.length) (H++[vs])) E H:=rfl
theorem E_bin{b:Ex} {Q E}:aF C q d k (.bin op a b) l Q E H=aF C q d k a l (fun x H=>aF C q d k b l (fun y H=>ae (bL H op x y) fun p=>Q p.1 p.2) E H) E H:=rfl
theorem E_neg{Q E}:aF C q d k (.neg a) l Q E H=aF C q d k a l (fun x H=>ae (jh x) fun i=>Q (.int (-i)) H) E H:=rfl
theorem E_not{Q E}:aF C q d k (.not a) l Q E H=aF C q d k a l (fp fun b H=>Q (.bool !b) H) E H:=rfl
theorem E_cmp{Q E}:aF C q d k (.cmp a os bs) l Q E H=aF C q d k a l (fun x H=>vL C q d k x os bs l (fun b H=>Q (.bool b) H) E H) E H:=rfl
theorem E_and{Q E}:aF C q d k (.and es) l Q E H=vY C q d k es l (fun b H=>Q (.bool b) H) E H:=rfl
theorem E_or{Q E}:aF C q d k (.or es) l Q E H=iN C q d k es l (fun b H=>Q (.bool b) H) E H:=rfl
theorem E_idx{b:Ex} {Q E}:aF C q d k (.idx a b) l Q E H=aF C q d k a l (fun x H=>aF C q d k b l (fun y H=>ae (cA H x y) fun v=>Q v H) E H) E H:=rfl
theorem E_slice{b c:Ex} {Q E}:aF C q d k (.slice a b c) l Q E H=aF C q d k a l (fun x H=>aF C q d k b l (fun y H=>aF C q d k c l (fun z H=>ae (vg H x y z) fun p=>Q p.1 p.2) E H) E H) E H:=rfl
theorem E_rev{Q E}:aF C q d k (.rev a) l Q E H=aF C q d k a l (fun x H=>ae (qe H x) fun p=>Q p.1 p.2) E H:=rfl
theorem E_call{f:Str} {Q E}:aF C q d k (.call f es) l Q E H=dI C q d k es l (fun vs H=>C q d f vs none Q E H) E H:=rfl
theorem E_blt{b:Bl} {Q E}:aF C q d k (.blt b es) l Q E H=dI C q d k es l (fun vs H=>ae (dp q (ba H b vs)) fun p=>Q p.1 p.2) E H:=rfl
theorem E_meth{Q E}:aF C q d k (.meth m o es) l Q E H=aF C q d k o l (fun x H=>BH m x=true/\dI C q d k es l (fun vs H=>ae (sT H m x vs) fun p=>Q p.1 p.2) E H) E H:=rfl
theorem E_isi{t:Tc} {Q E}:aF C q d k (.isi a t) l Q E H=aF C q d k a l (fun x H=>ae (bZ x t) fun b=>Q (.bool b) H) E H:=rfl
theorem E_attr{x:Str}{Q:V->Hp->Prop}{E:XPost}:aF C q d k (.attr a x) l Q E H=aF C q d k a l (fun v H=>ae (gU v x) fun w=>Q w H) E H:=rfl
theorem E_comp{t:Tg} {Q E}:aF C q d k (.comp elt t src ifs) l Q E H=aF C q d k src l (fun sv H=>ae (dp q (d0 H sv)) fun items=>items.length<=qag /\
   gH (gx sv items) (kG (fun l' Q H=>rr C q d none ifs l' Q H) (fun l' Q H=>aF C q d none elt l' Q fo H) t l) items [] (fun acc H'=>Q (.lst H'.length) (H'++[acc])) H) E H:=rfl
theorem L_nil{Q E}:dI C q d k [] l Q E H=Q [] H:=rfl
theorem L_cons{Q E}:dI C q d k (e::es) l Q E H=aF C q d k e l (fun v H=>dI C q d k es l (fun vs H=>Q (v::vs) H) E H) E H:=rfl
theorem A_cons{Q:Bool->Hp->Prop} {E}:vY C q d k (e::es) l Q E H=aF C q d k e l (fp fun b H=>qb es (Q b H) (d6 b (vY C q d k es l Q E H) (Q false H))) E H:=rfl
theorem O_cons{Q:Bool->Hp->Prop} {E}:iN C q d k (e::es) l Q E H=aF C q d k e l (fp fun b H=>qb es (Q b H) (d6 b (Q true H) (iN C q d k es l Q E H))) E H:=rfl
theorem C_cons {x:V} {o:Cm} {Q:Bool->Hp->Prop} {E}:vL C q d k x (o::os) (e::es) l Q E H=aF C q d k e l (fun y H=>ae (dh H o x y) fun b=>qb es (Q b H) (d6 b (vL C q d k y os es l Q E H) (Q false H))) E H:=rfl
theorem I_nil {Q:Bool->Hp->Prop}:rr C q d k [] l Q H=Q true H:=rfl
theorem I_cons{Q:Bool->Hp->Prop}:rr C q d k (e::es) l Q H=aF C q d k e l (fp fun b H=>d6 b (rr C q d k es l Q H) (Q false H)) fo H:=rfl
theorem Opt_some{a:α}{K:α->Prop}:ae (some a) K=K a:=rfl
theorem truthP_bool{b:Bool}{Q:Bool->Hp->Prop}:fp Q (.bool b) H=Q b H:=rfl
theorem CondP_true:d6 true A B=A:=rfl
theorem CondP_false:d6 false A B=B:=rfl
theorem lastOr_nil:qb [] A B=A:=rfl
theorem lastOr_cons:qb (e::es) A B=B:=rfl
theorem asInt_int {i:Int}:jh (.int i)=some i:=rfl
theorem onQ_true{o:Option α}:dp true o=o:=rfl
theorem bin_addi{a:Int}:bL H .add (.int a) (.int b)=some (.int (a+b),H):=rfl
theorem bin_subi{a:Int}:bL H .sub (.int a) (.int b)=some (.int (a-b),H):=rfl
theorem cmp_lt{a:Int}:dh H .lt (.int a) (.int b)=some (decide (a<b)):=rfl
theorem cmp_le{a:Int}:dh H .le (.int a) (.int b)=some (decide (a<=b)):=rfl
theorem cmp_gt{a:Int}:dh H .gt (.int a) (.int b)=some (decide (a>b)):=rfl
theorem cmp_ge{a:Int}:dh H .ge (.int a) (.int b)=some (decide (a>=b)):=rfl
theorem cmp_eqi{a:Int}:dh H .eq (.int a) (.int b)=some (decide (a=b)):=rfl
theorem cmp_nei{a:Int}:dh H .ne (.int a) (.int b)=some (!decide (a=b)):=rfl
theorem isi_ii{i:Int}:bZ (.int i) .int=some true:=rfl
theorem isi_ib{i:Int}:bZ (.int i) .bool=some false:=rfl
theorem isi_bb{b:Bool}:bZ (.bool b) .bool=some true:=rfl
theorem isi_tt{l:List V}:bZ (.tup l) .tuple=some true:=rfl
theorem isi_ll{a:Nat}:bZ (.lst a) .list=some true:=rfl
theorem not_t:(!true)=false:=rfl
theorem not_f:(!false)=true:=rfl
theorem dec_22:decide ((2:Int)=2)=true:=rfl
theorem len_tup {x:V}:ba H .len [.tup [x,y]]=some (.int 2,H):=rfl
theorem len_scr{l:List Int}:ba H .len [.scr l]=some (.int l.length,H):=rfl
theorem idx_t0{x:V}:cA H (.tup [x,y]) (.int 0)=some x:=rfl
theorem idx_t1{x:V}:cA H (.tup [x,y]) (.int 1)=some y:=rfl
def bV[Decidable p](h1:p->A)(h2:¬p->B):d6 (decide p) A B:=by
 by_cases h:p
 ·rw[decide_eq_true h];exact h1 h
 ·rw[decide_eq_false h];exact h2 h
def pO[Decidable p](h1:¬p->A)(h2:p->B):d6 (!decide p) A B:=by
 by_cases h:p
 ·rw[decide_eq_true h];exact h2 h
 ·rw[decide_eq_false h];exact h1 h
def vJ[Decidable p](h:p)(h1:A):d6 (decide p) A B:=by rw[decide_eq_true h];exact h1
def nh[Decidable p](h:¬p)(h1:B):d6 (decide p) A B:=by rw[decide_eq_false h];exact h1
theorem S_set:iz C q d k (.set i e) Q E l H=aF C q d k e l (fun v H=>Q .next (l.set i (some v)) H) (fun x H=>E x l H) H:=rfl
theorem S_unp:iz C q d k (.unp is e) Q E l H=(q=true/\aF C q d k e l (fun v H=>ae (yu is v l) fun l'=>Q .next l' H) (fun x H=>E x l H) H):=rfl
theorem S_put{i:Ex}:iz C q d k (.put o i e) Q E l H=aF C q d k e l (fun v H=>aF C q d k o l (fun a H=>aF C q d k i l (fun j H=>ae (kD H a j v) fun H'=>Q .next l H') (fun x H=>E x l H) H) (fun x H=>E x l H) H) (fun x H=>E x l H) H:=rfl
theorem S_expr:iz C q d k (.expr e) Q E l H=aF C q d k e l (fun J H=>Q .next l H) (fun x H=>E x l H) H:=rfl
theorem S_ret:iz C q d k (.ret e) Q E l H=aF C q d k e l (fun v H=>Q (.ret v) l H) (fun x H=>E x l H) H:=rfl
theorem S_ite{a b:List St}:iz C q d k (.ite t a b) Q E l H=aF C q d k t l (fp fun c H=>d6 c (az C q d k a Q E l H) (az C q d k b Q E l H)) (fun x H=>E x l H) H:=rfl
theorem S_whil{b:List St}:iz C q d k (.whil t b) Q E l H=(q=true/\fF (fun l Q H=>A9 C q d k t l Q fo H) (fun l Q H=>az C q d k b Q (fun J J J=>False) l H) l Q H):=rfl
theorem S_rais:iz C q d k (.rais cn es) Q E l H=(q=true/\dI C q d k es l (fun vs H=>E (.exc cn (bQ cn vs)) l H) fo H):=rfl
theorem S_tri{b:List St}{h:List St}:iz C q d k (.tri b i h) Q E l H=(q=true/\az C q d k b Q (fun x l' H=>lJ x=true/\az C false d k h (fun f l'' H=>Q f (l''.set i none) H) (fun J J J=>False) (l'.set i (some x)) H) l H):=rfl
theorem S_loop{t:Tg}{s:Sr}{b:List St}:iz C q d k (.loop t s b) Q E l H=(q=true/\iF C q d k s l (fun items ok H=>jG ok (fun x l Q H=>ae (gA t x l) fun l'=>az C q d k b Q E l' H) items Q l H) (fun x H=>E x l H) H):=rfl
theorem T_eq{Q:Bool->Hp->Prop} {E}:A9 C q d k t l Q E H=aF C q d k t l (fp Q) E H:=rfl
theorem End_ret{Q:V->Hp->Prop}:de Q (.ret v) l H=Q v H:=rfl
theorem End_next{Q:V->Hp->Prop}:de Q .next l H=Q .none H:=rfl
theorem Then_ret:cu N Q (.ret v) l H=Q (.ret v) l H:=rfl
theorem bind_one{x:V}:gA (.one i) x l=some (l.set i (some x)):=rfl
theorem bind_two{a b:V}:gA (.two i j) (.tup [a,b]) l=some ((l.set i (some a)).set j (some b)):=rfl
theorem CompS_eq{W:Loc->(V->Hp->Prop)->Hp->Prop}{t:Tg}{x:V}:kG I W t l x acc K H=ae (gA t x l) fun l'=>I l' (fun b H=>d6 b (W l' (fun v H=>K (acc++[v]) H) H) (K acc H)) H:=rfl
theorem getD_0:(x::r).getD 0 none=x:=rfl
theorem getD_s:(x::r).getD (i+1) none=r.getD i none:=rfl
theorem set_0 {y:Option V}:List.set (x::r) 0 y=y::r:=rfl
theorem set_s{y:Option V}:List.set (x::r) (i+1) y=x::List.set r i y:=rfl
theorem map_c{x:V}{r:List V}:List.map some (x::r)=some x::List.map some r:=rfl
theorem map_n:List.map some ([]:List V)=[]:=rfl
theorem app_c:(x::r)++s=x::(r++s):=rfl
theorem app_n:[]++s=s:=rfl
theorem rep_s:List.replicate (n+1) (none:Option V)=none::List.replicate n none:=rfl
theorem rep_n:List.replicate 0 (none:Option V)=[]:=rfl
def Then_go(h:N l H):cu N Q .next l H:=h
def Ss_go{s:St}(h:iz C q d k s (cu (az C q d k ss Q E) Q) E l H):az C q d k (s::ss) Q E l H:=h
def Ss_end(h:Q .next l H):az C q d k [] Q E l H:=h
def iB{Q:List V->(Hp->Prop)->Hp->Prop} {E}(hv:∀(K:V->Hp->Prop) E',K v H->aF C q d k e l K E' H)(h:d0 H v=some items)(hq:Q items (gx v items) H):iF C q d k (.val e) l Q E H:=hv _ _ (ae.mk h hq)
local macro_rules | `(tactic| walk_at $s:str)=>do
 match s.getString with
 |"d"=>
  let a:=("Bn.E_lit Bn.E_var Bn.E_tup Bn.E_list Bn.E_bin Bn.E_neg Bn.E_not Bn.E_cmp Bn.E_and Bn.E_or Bn.E_idx Bn.E_slice Bn.E_rev Bn.E_call Bn.E_blt Bn.E_meth Bn.E_isi Bn.E_attr Bn.E_comp Bn.L_nil Bn.L_cons Bn.A_cons Bn.O_cons Bn.C_cons Bn.I_nil Bn.I_cons Bn.Opt_some Bn.truthP_bool Bn.CondP_true Bn.CondP_false Bn.lastOr_nil Bn.lastOr_cons Bn.asInt_int Bn.onQ_true Bn.bin_addi Bn.bin_subi Bn.isi_ii Bn.isi_ib Bn.isi_bb Bn.isi_tt Bn.isi_ll Bn.len_tup Bn.len_scr Bn.idx_t0 Bn.idx_t1 Bn.cmp_lt Bn.cmp_le Bn.cmp_gt Bn.cmp_ge Bn.cmp_eqi Bn.cmp_nei Bn.S_set Bn.S_unp Bn.S_put Bn.S_expr Bn.S_ret Bn.S_ite Bn.S_whil Bn.S_loop Bn.S_rais Bn.S_tri Bn.T_eq Bn.End_ret Bn.End_next Bn.Then_ret Bn.bind_one Bn.bind_two Bn.CompS_eq Bn.getD_0 Bn.getD_s Bn.set_0 Bn.set_s Bn.map_c Bn.map_n Bn.app_c Bn.app_n Bn.rep_s Bn.rep_n Nat.reduceSub Nat.sub_self Bn.not_t Bn.not_f Bn.dec_22".splitOn " ").toArray.map fun s=>Lean.mkIdent s.toName
  `(tactic| dsimp only[$[$a:ident],*])
 |"g"=>`(tactic| first |with_reducible refine Bn.Then_go ?_ |with_reducible refine Bn.Ss_go ?_ |with_reducible refine Bn.Ss_end ?_)
 |""=>`(tactic| ((try walk_at "d");(repeat(walk_at "g";(try walk_at "d")))))
 |_=>Lean.Macro.throwUnsupported
variable {A:Around}{B σ:Nat->Nat}{E:XPost}{K:V×Hp->Prop}{Q:V->Hp->Prop}{a b:Nat}{bs:List Nat}{m:Str->Option Value}{o:Option (V×Hp)}{p:qbi}{r:Net}{s:Shared}{t:Tc}{x:Str}{y:List St×Nat×Nat}
noncomputable def vO:List St:=[.ret (.and [.isi (.wx 0) .int,.not (.isi (.wx 0) .bool),.cmp (.wx 1) [.le,.le] [.wx 0,.wx 2]])]
noncomputable def Bq:List St:=[.ite (.or [.not (.isi (.wx 0) .tuple),.cmp (.blt .len [.wx 0]) [.ne] [.ww 2]]) [.ret (.lit (.bool false))] [],.ite (.or [.not (.call "is_among" [.idx (.wx 0) (.ww 0),.ww 0,.bin .sub (.wx 1) (.ww 1)]),.not (.call "is_among" [.idx (.wx 0) (.ww 1),.ww 0,.bin .sub (.wx 1) (.ww 1)])]) [.ret (.lit (.bool false))] [],.ret (.cmp (.idx (.wx 0) (.ww 0)) [.lt] [.idx (.wx 0) (.ww 1)])]
noncomputable def FT:List St:=[.ite (.or [.not (.isi (.wx 0) .list),.not (.cmp (.ww 1) [.le,.le] [.blt .len [.wx 0],.ww 63])]) [.ret (.lit (.bool false))] [],.set 2 (.neg (.ww 1)),.loop (.one 3) (.val (.wx 0)) [.ite (.or [.not (.call "is_joint" [.wx 3,.wx 1]),.cmp (.idx (.wx 3) (.ww 1)) [.le] [.wx 2]]) [.ret (.lit (.bool false))] [],.set 2 (.idx (.wx 3) (.ww 1))],.ret (.lit (.bool true))]
noncomputable def BQ:List St:=[.set 2 (.blt .list [.blt .range [.wx 0]]),.loop (.one 3) (.val (.wx 1)) [.set 4 (.blt .list [.wx 2]),.loop (.two 5 6) (.val (.wx 3)) [.ite (.cmp (.bin .add (.wx 5) (.ww 1)) [.ne] [.idx (.wx 2) (.wx 6)]) [.ret (.lit (.bool false))] [],.put (.wx 4) (.wx 6) (.idx (.wx 2) (.wx 5))],.set 2 (.wx 4)],.ret (.blt .all [.comp (.cmp (.wx 7) [.eq] [.ww 0]) (.one 7) (.wx 2) []])]
noncomputable def Ee:List St:=[.ite (.cmp (.wx 1) [.lt] [.blt .len [.wx 0]]) [.ret (.idx (.wx 0) (.wx 1))] [],.ret (.ww 0)]
noncomputable def Gm:List St:=[.ret (.and [.isi (.wx 0) .int,.not (.isi (.wx 0) .bool)])]
noncomputable def pv:List St:=[.set 5 (.blt .max [.idx (.wx 3) (.wx 1),.idx (.wx 3) (.wx 2),.idx (.wx 4) (.wx 2)]),.whil (.cmp (.blt .len [.wx 0]) [.le] [.wx 5]) [.expr (.meth .append (.wx 0) [.list []])],.expr (.meth .append (.idx (.wx 0) (.wx 5)) [.tup [.wx 2,.wx 1]]),.put (.wx 4) (.wx 1) (.blt .max [.idx (.wx 4) (.wx 1),.wx 5]),.put (.wx 3) (.wx 2) (.bin .add (.wx 5) (.ww 1))]
noncomputable def zN:List St:=[.set 6 (.list []),.set 7 (.ww 0),.whil (.cmp (.wx 7) [.lt] [.blt .len [.wx 1]]) [.ite (.and [.cmp (.bin .add (.wx 7) (.ww 1)) [.lt] [.blt .len [.wx 1]],.cmp (.bin .mod (.bin .div (.wx 2) (.bin .add (.ww 1) (.wx 7))) (.ww 4)) [.gt] [.ww 0]]) [.expr (.call "_law_place" [.wx 0,.idx (.wx 1) (.wx 7),.idx (.wx 1) (.bin .add (.wx 7) (.ww 1)),.wx 3,.wx 4]),.ite (.cmp (.wx 6) [.ne] [.list []]) [.expr (.meth .append (.wx 5) [.tup [.idx (.wx 6) (.neg (.ww 1)),.idx (.wx 1) (.wx 7)]])] [],.set 7 (.bin .add (.wx 7) (.ww 1))] [],.expr (.meth .append (.wx 6) [.idx (.wx 1) (.wx 7)]),.set 7 (.bin .add (.wx 7) (.ww 1))],.ret (.wx 6)]
noncomputable def BG:List St:=[.set 0 (.bin .mod (.bin .mul (.wx 0) (.ww 48271)) (.ww 2147483647)),.set 2 (.list []),.set 3 (.list []),.set 4 (.bin .mul (.list [.ww 0]) (.wx 1)),.set 5 (.bin .mul (.list [.ww 0]) (.wx 1)),.set 6 (.blt .list [.blt .range [.wx 1]]),.loop (.one 7) (.val (.blt .range [.bin .mod (.wx 0) (.ww 4)])) [.set 6 (.call "_law_thinner" [.wx 2,.wx 6,.bin .div (.bin .div (.wx 0) (.ww 4)) (.bin .add (.ww 1) (.wx 7)),.wx 4,.wx 5,.wx 3])],.set 8 (.comp (.list [.wx 13]) (.one 13) (.wx 6) []),.whil (.cmp (.blt .len [.wx 8]) [.gt] [.ww 1]) [.set 0 (.bin .mod (.bin .mul (.wx 0) (.ww 16807)) (.ww 2147483647)),.set 9 (.idx (.list [.bin .mod (.bin .div (.wx 0) (.ww 3)) (.bin .sub (.blt .len [.wx 8]) (.ww 1)),.ww 0,.bin .sub (.blt .len [.wx 8]) (.ww 2)]) (.bin .mod (.wx 0) (.ww 3))),.loop (.one 10) (.val (.idx (.wx 8) (.bin .add (.wx 9) (.ww 1)))) [.expr (.call "_law_place" [.wx 2,.idx (.idx (.wx 8) (.wx 9)) (.neg (.ww 1)),.wx 10,.wx 4,.wx 5])],.set 11 (.bin .add (.idx (.wx 8) (.wx 9)) (.idx (.wx 8) (.bin .add (.wx 9) (.ww 1)))),.set 8 (.bin .add (.bin .add (.slice (.wx 8) (.lit .none) (.wx 9)) (.list [.wx 11])) (.slice (.wx 8) (.bin .add (.wx 9) (.ww 2)) (.lit .none)))],.loop (.two 12 10) (.rev (.wx 3)) [.expr (.call "_law_place" [.wx 2,.wx 12,.wx 10,.wx 4,.wx 5])],.ret (.comp (.comp (.tup [.wx 15,.wx 14]) (.two 14 15) (.blt .sorted [.wx 13]) []) (.one 13) (.wx 2) [])]
noncomputable def Fs:List St:=[.set 1 (.bin .add (.ww 1) (.bin .mod (.wx 0) (.ww 12))),.ite (.cmp (.bin .mod (.bin .div (.wx 0) (.ww 12)) (.ww 9)) [.eq] [.ww 1]) [.set 1 (.bin .add (.ww 13) (.bin .mod (.bin .div (.wx 0) (.ww 108)) (.ww 20)))] [],.ret (.wx 1)]
def BK(P:aM c "is_among" 3 3 vO){v:Int}(h1:lo<=v)(h2:v<=hi)(hq:Q (.bool true) H):Calls c q (d+1) "is_among" [.int v,.int lo,.int hi] none Q E H:=by
 refine P q d _ Q E H rfl (Ss_go ?_);walk_at "";refine vJ h1 ?_;walk_at "";rw[decide_eq_true h2];exact hq
def GH(P1:aM c "is_among" 3 3 vO)(P:aM c "is_joint" 2 2 Bq){l:Nat}{n:Int}(h1:l<h)(h2:h<n)(hc:q=true)(hq:Q (.bool true) H):Calls c q (d+2) "is_joint" [.tup [.int l,.int h],.int n] none Q E H:=by
 subst hc;have h3:(l:Int)<h:=bP.mpr h1;refine P true (d+1) _ Q E H rfl (Ss_go ?_);walk_at "";refine BK P1 (iS l) (Int.le_sub_one_of_lt (Int.lt_trans h3 h2)) ?_;walk_at "";refine BK P1 (iS h) (Int.le_sub_one_of_lt h2) ?_;walk_at "";rw[decide_eq_true h3];exact hq
noncomputable def pr(p:Nat×Nat):V:=.tup [.int p.1,.int p.2]
def mf(a n:Nat)(H:Hp)(r:List (Nat×Nat))(x1:Loc)(x2:Hp):Prop:=∀GJ:Prop,(∀(last:Int),∀(lo:Nat),∀(z:Option V),eM n lo r->(∀h:Nat,lo<=h->last<h)->[some (.lst a),some (.int n),some (.int last),z]=x1->H=x2->GJ)->GJ
def c6{xs:List V}(h:H[a]?=some xs):dp true (ba H .len [.lst a])=some (.int xs.length,H):=by
 show(H[a]?).map _=_;rw[h];rfl
def Kz(P1:aM c "is_among" 3 3 vO)(P2:aM c "is_joint" 2 2 Bq)(P:aM c "is_layer" 2 4 FT)(ha:H[a]?=some (layer.map pr))(hn:n<=64)(hok:cm n layer)(hc:q=true)(hq:Q (.bool true) H):Calls c q (d+3) "is_layer" [.lst a,.int n] none Q E H:=by
 subst hc;refine P true (d+2) _ Q E H rfl (Ss_go ?_);walk_at "";refine ae.mk (c6 ha) ?_;rw[ao];walk_at "";have hl:=z7 hok.2 hok.1;refine vJ (c7.mpr (Nat.pos_of_ne_zero fun h=>hok.1 (List.eq_nil_of_length_eq_zero h))) ?_;walk_at "";rw[decide_eq_true (show(layer.length:Int)<=63 by exact ay [_,_] [] 0x8294a000c200806100803080002800308000 (Y3 (Y4 V0 J0) (.l 63)) (Y0 V1 (.l 64)) (Y7 (Y1 J0 J0) (Y1 V0 V1)) hn hl.2)];walk_at "";refine⟨rfl,iB (v:=.lst a) (fun K E' h=>h) ha ?_⟩;refine sD (mf a n H) ?_ ?_ (fun J kJ=>kJ _ 0 _ hok.2 (fun h J=>Int.lt_of_lt_of_le (by decide) (iS h)) rfl rfl)
 ·rintro x r l H' K hI hnext hret;refine hI _ fun last lo z hr hl wg eI2=>?_;clear hI;subst wg;subst eI2;obtain⟨h1,h2,h3,h4⟩:=hr;refine ae.mk rfl (Ss_go ?_);walk_at "";refine GH P1 P2 h1 (bP.mpr h2) rfl ?_;walk_at "";refine nh (fun q=>Int.not_lt.mpr q (hl _ h3)) ?_;walk_at "";exact hnext _ _ ha (fun J kJ=>kJ _ _ _ h4 (fun h hh=>bP.mpr hh) rfl rfl)
 ·intro l H' hI;refine hI _ fun J J J J J wg eI2=>?_;clear hI;subst wg;subst eI2;walk_at "";exact hq
variable {Q:List V->(Hp->Prop)->Hp->Prop}{h:Heap}
structure ag(H:Hp)(a:Nat)(bs:List Nat)(net:Net):Prop where
 top:H[a]?=some (bs.map .lst)
 len:bs.length=net.length
 lay:∀(i b:Nat) (layer:List (Nat×Nat)),bs[i]?=some b->net[i]?=some layer->H[b]?=some (layer.map pr)
def ag.each{net:Net}(h:ag H a bs net)(hb:b∈bs):∃layer∈net,H[b]?=some (layer.map pr):=by
 obtain⟨i,hi,e⟩:=q9.mp hb;have hi':i<net.length:=h.len▸hi;exact⟨_,List.getElem_mem hi',h.lay i b _ (e▸bt hi) (bt hi')⟩
section
variable {Q:V->Hp->Prop}
def EG(h:H[a]?=some items):iX H (.lst a)=some items:=h
def oN{Q:List V->(Hp->Prop)->Hp->Prop} {E}(hv:∀(K:V->Hp->Prop) E',K (.lst a) H->aF C q d k e l K E' H)(h:H[a]?=some items)(hq:Q (tP 0 items) (gx (.lst a) items) H):iF C q d k (.enum e) l Q E H:=hv _ _ (ae.mk (EG h) hq)
def um{Q:List V->(Hp->Prop)->Hp->Prop} {E}(hv:∀(K:V->Hp->Prop) E',K (.lst a) H->aF C q d k e l K E' H)(h:H[a]?=some items)(hq:Q items.reverse (gx (.lst a) items) H):iF C q d k (.rev e) l Q E H:=hv _ _ (ae.mk (EG h) hq)
end
variable {Q:V->Hp->Prop}{a:Addr}{b:Bl}{e:Str}{l:List Int}
section
open PySem PyProof.Rows
noncomputable def zhj:List (Str×Gk):=[("len",.blt .len),("max",.blt .max),("range",.blt .range),("list",.blt .list),("all",.blt .all),
 ("tuple",.blt .tuple),
 ("sorted",.blt .sorted),
 ("int",.blt .int),
 ("enumerate",.enum),
 ("reversed",.rev),
 ("isinstance",.isi)]
noncomputable def BI:List (Str×Tc):=[("int",.int),("bool",.bool),("list",.list),
 ("str",.str),
 ("tuple",.tuple)]
noncomputable def ye:List (Str×Tc):=(kids.map fun k=>(k,Tc.own k))++[(ar "ValueError",Tc.own (ar "ValueError"))]
noncomputable def xk (fs:List Str) (vals:List (Str×V)):Tab:=⟨fs.map (fun f=>(f,Gk.fn))++vals.map (fun p=>(p.1,Gk.val p.2))++zhj,BI++ye⟩
def r8(h:(x,t)∈ye):ot c x t:=by
 rcases bJ.mp h with h |h
 ·revert h;refine xL fun k hk e=>?_;obtain⟨e1,e2⟩:=pY e;subst e1 e2;exact .own rfl (.inl hk)
 ·obtain⟨e1,e2⟩:=pY (aN.mp h);subst e1 e2;exact .own rfl (.inr rfl)
noncomputable def jD(p:qbi)(loose:List Str)(x:Str):Bool:=!(startupNames.contains x)&&!(loose.contains x)&&!(((recsOf p).map (·.name)).contains x)&&!(((litsOf p).map (·.1)).contains x)&&!(((clssOf p loose).map (·.name)).contains x)
noncomputable def wi:PyData->Option Int
 |.int i=>some i
 |_=>none
noncomputable def wM(p:qbi)(x:Str)(v:V):Option Unit:=(jh v).bind fun j=>(valOf p x).bind fun w=>(wi w).bind fun i=>if i=j then some () else none
noncomputable def yF:PyData->Option Str
 |.str i=>some i
 |_=>none
noncomputable def wW(p:qbi)(x:Str)(v:V):Option Unit:=(ik v).bind fun j=>(valOf p x).bind fun w=>(yF w).bind fun i=>if i=j then some () else none
noncomputable def yt(p:qbi)(x:Str)(v:V):Option Unit:=(uL v).bind fun l=>(yG l).bind fun ss=>(tupStrsOf p x).bind fun ts=>if ts=ss then some () else none
noncomputable def yS(p:qbi)(x:Str)(v:V):Bool:=(wM p x v).isSome||((wW p x v).isSome||(yt p x v).isSome)
noncomputable def rF:Gk->Option Value
 |.blt b=>some b.real
 |.isi=>some (.builtin "isinstance")
 |.enum=>some (.type "enumerate")
 |.rev=>some (.type "reversed")
 |_=>none
inductive ue(p:Str×Gk):Prop
 |mk (h1:p.1≠"__name__")(h2:bootBuiltins p.1=rF p.2)(h3:p.2=.isi->p.1=ar "isinstance")(h4:∀v,p.2≠.val v)(h5:p.2≠.fn):ue p
inductive q8(p:Str×Tc):Prop
 |mk (S:String)(h1:p.1≠"__name__")(h2:p.2.real=some S)(h3:p.1=ar S)(h4:bootBuiltins p.1=some (.type S)):q8 p
def Gz{P:α->Prop}:∀p∈([]:List α),P p:=fun J h=>nomatch h
def all_cons{P:α->Prop}{x:α}{l:List α}(h:P x)(t:∀p∈l,P p):∀p∈x::l,P p:=eh.mpr ⟨h,t⟩
def lg(h1:x≠"__name__")(h2:bootBuiltins x=some b.real):ue (x,.blt b):=⟨h1,h2,(fun h=>nomatch h),(fun J h=>nomatch h),(fun h=>nomatch h)⟩
def wL:∀p∈zhj,ue p:=by
 repeat(refine all_cons ?_ ?_;first |refine lg (by decide +kernel) (by kernel_rfl) |refine⟨by decide +kernel,by kernel_rfl,by(intro h;first |rfl |injection h),by(intro v h;injection h),by(intro h;injection h)⟩)
 exact Gz
def sJ:∀p∈BI,q8 p:=by
 repeat(refine all_cons ?_ ?_;exact⟨_,by decide +kernel,rfl,rfl,by kernel_rfl⟩)
 exact Gz
def iu(h:Heap)(c:Cx):Prop:=∀b o,h.get? b=some o->(∀ps,o≠bF ps)->c.h0.get? b=some o
def cI.of{e:eO}(hh:iu h c)(hat:e.At c.g h):cI c e:=by
 obtain⟨a,cc,P,o,pm,doc,g1,g2,g3,g4,B⟩:=hat;obtain⟨⟨o1,vs1,t1,t2,t3,t4⟩,_⟩:=B.tab;obtain⟨c2,o2,vs2,t,q1,q2,q3,q4⟩:=g4;obtain rfl:=tl q1;obtain rfl:=ai (t1.symm.trans q2);exact⟨a,cc,o,pm,doc,g1,hh a o g2 (fun ps q=>by rw[q] at g3;injection g3),g3,cc,o1,vs2,t,rfl,hh cc o1 q2 (fun ps q=>by rw[q] at t2;injection t2),q3,q4⟩
theorem CS(T:Top p loose mean mg mb h)(hx:jD p loose x=true):mg x=none:=by
 simp only[jD,Bool.and_eq_true,gX,List.contains_eq_mem,decide_eq_false_iff_not] at hx;exact T.free x hx.1.1.1.1 hx.1.1.1.2 hx.1.1.2 hx.1.2 hx.2
inductive AG(fs:List Str)(vals:List (Str×V))(x:Str)(k:Gk):Prop
 |fn (h:k=.fn)(hm:x∈fs)
 |val (v:V)(h:k=.val v)(hm:(x,v)∈vals)
 |blt (h:(x,k)∈zhj)
def sM{k:Gk}(hx:(xk fs vals).g.lookup x=some k):AG fs vals x k:=by
 rcases bJ.mp (fW hx) with h |h
 ·rcases bJ.mp h with h |h
  ·revert h;refine xL fun f hf e=>?_;obtain⟨e1,e2⟩:=pY e;exact .fn e2.symm (e1▸hf)
  ·revert h;refine xL fun q hq e=>?_;obtain⟨e1,e2⟩:=pY e;exact .val q.2 e2.symm (e1▸hq)
 ·exact .blt h
theorem ml(T:Top p loose mean mg mb h)(hv:(wM p x v).isSome=true):∃r,mg x=some r/\ax c [] c.h0 v r:=by
 obtain⟨u,hu⟩:=uS.mp hv;revert hu;refine xB fun j hj hu=>?_;revert hu;refine xB fun w hw hu=>?_;revert hu;refine xB fun i hi hu=>?_;obtain rfl:=(iD hu).1;obtain rfl:=qG hj;obtain⟨r,hr,hR⟩:=T.const _ _ hw;cases w with
 |int k=>
  obtain rfl:=ai hi;cases hR c.h0;exact⟨_,hr,rI⟩
 |_=>cases hi
theorem jJ(T:Top p loose mean mg mb h)(hv:(wW p x v).isSome=true):∃r,mg x=some r/\ax c [] c.h0 v r:=by
 obtain⟨u,hu⟩:=uS.mp hv;revert hu;refine xB fun j hj hu=>?_;revert hu;refine xB fun w hw hu=>?_;revert hu;refine xB fun i hi hu=>?_;obtain rfl:=(iD hu).1;obtain rfl:=zv hj;obtain⟨r,hr,hR⟩:=T.const _ _ hw;cases w with
 |str k=>
  obtain rfl:=ai hi;obtain⟨t,rfl,_⟩:=reads_str_inv (hR c.h0);exact⟨_,hr,rS⟩
 |_=>injection hi
theorem Fu:∀{l:List V}{vs:List Value}{ss:List Str},yG l=some ss->StrsAre vs ss->ah c [] h l vs
 |[],_,_,e,S=>by
  obtain rfl:=ai e;cases S;exact rL
 |v::l,_,_,e,S=>by
  revert e;refine xB fun i h1 f=>?_;revert f;refine xM fun l' h2 wj=>?_;subst wj;obtain rfl:=zv h1;cases S with
  |cons y t S=>exact⟨rS,Fu h2 S⟩
def ki(hh:iu h c)(B:Tables p w mg h)(hv:(yt p x v).isSome=true)(hz:∀l,v=.tup l->l.length<=qag):∃r,mg x=some r/\ax c [] c.h0 v r:=by
 obtain⟨u,hu⟩:=uS.mp hv;revert hu;refine xB fun l hl hu=>?_;revert hu;refine xB fun ss hs hu=>?_;revert hu;refine xB fun ts ht hu=>?_;obtain rfl:=(iD hu).1;obtain rfl:=vy hl;obtain⟨a,vs,h1,⟨o,h2,h3,n,h4⟩,h5⟩:=B.tupS x ts ht;exact⟨_,h1,cL.mk a o vs.toArray n rfl fX (hh a o h2 fun ps q=>by rw[q] at h3;injection h3) h3 h4 (hz l rfl) (Fu hs h5)⟩
noncomputable def lq(v:V):Bool:=match v with
 |.tup l=>decide (l.length<=100)
 |_=>true
def pb(T:Top p loose mean mg mb h)(hh:iu h c)(B:Tables p w mg h)(hv:(yS p x v&&lq v)=true):∃r,mg x=some r/\ax c [] c.h0 v r:=by
 revert hv;refine xA fun hv hs=>?_;rcases nN.mp hv with hv |hv
 ·exact ml T hv
 ·rcases nN.mp hv with hv |hv
  ·exact jJ T hv
  ·exact ki hh B hv fun l e=>by subst e;exact aD (of_decide_eq_true hs) (by decide)
def tu(T:Top p loose mean mg mb h)(B:Tables p w mg h)(hg:c.g=mg)(hb:c.b=mb)(hh:iu h c)(h1:fs.all (fun f=>((recsOf p).map (·.name)).contains f)=true)(h2:vals.all (fun q=>yS p q.1 q.2&&lq q.2)=true)
  (h3:(zhj.map (·.1)++BI.map (·.1)).all (jD p loose)=true)
  (XO:cH c)
  (NO:eD c)
  (LO:∀kk fd nm,c.lam kk fd nm->eB kk fd nm)
  :aX c (xk fs vals):=by
 subst hg hb
 have h1:=dg.mp h1
 have h2:=dg.mp h2
 have h3:=dg.mp h3
 have bl:∀{x:Str} {k:Gk},(x,k)∈zhj->c.g x=none/\c.b x=rF k:=fun{x k} hx=>
  ⟨CS T (h3 x (List.mem_append_left _ (fg.mpr ⟨_,hx,rfl⟩))),(T.builtins x (wL _ hx).1).trans (wL _ hx).2⟩
 have bk:∀{x:Str} {k:Gk},k≠.fn->(∀v,k≠.val v)->(xk fs vals).g.lookup x=some k->(x,k)∈zhj:=fun n1 n2 hx=>by
  rcases sM hx with⟨hk,_⟩|⟨v,hk,_⟩|hm
  ·exact absurd hk n1
  ·exact absurd hk (n2 v)
  ·exact hm
 refine⟨fun x hx=>?_,fun x v hx=>?_,fun x b hx=>bl (bk (k:=.blt b) (fun h=>nomatch h) (fun J h=>nomatch h) hx),fun x hx=>?_,fun x hx=>bl (bk (k:=.enum) (fun h=>nomatch h) (fun J h=>nomatch h) hx),fun x hx=>bl (bk (k:=.rev) (fun h=>nomatch h) (fun J h=>nomatch h) hx),fun x t hx=>?_,XO
  ,NO
  ,LO
  ⟩
 ·rcases sM hx with⟨_,hm⟩|⟨v,hk,_⟩|hm
  ·refine xL (fun dd hd wj=>?_) (List.contains_iff_mem.mp (h1 x hm));subst wj
   obtain⟨a,o,pm,code,doc,g1,g2,g3,_⟩:=T.fn dd hd
   exact(fun J kJ=>kJ a o _ g1 (hh a o g2 (fun ps q=>by rw[q] at g3;injection g3)) g3)
  ·injection hk
  ·exact absurd rfl (wL _ hm).5
 ·rcases sM hx with⟨hk,_⟩|⟨v',hk,hm⟩|hm
  ·injection hk
  ·(injection hk with Ja;subst Ja)
   exact pb T hh B (h2 _ hm)
  ·exact absurd rfl ((wL _ hm).4 v)
 ·have hm:=bk (k:=.isi) (fun h=>nomatch h) (fun J h=>nomatch h) hx
  exact⟨(wL _ hm).3 rfl,bl hm⟩
 ·have hm:=fW hx
  rcases bJ.mp hm with hm |hm;rotate_left;exact r8 hm
  obtain⟨S,b1,b2,b3,b4⟩:=sJ _ hm
  exact .mk S b2 b3 (CS T (h3 x (iK _ (fg.mpr ⟨_,hm,rfl⟩)))) ((T.builtins x b1).trans b4)
theorem pC:∀{vs:List Value}{l:List Int},IntsAre vs l->uC l vs:=by
 intro vs l h
 induction h with
 |nil=>trivial
 |cons _ _ _ ih=>exact⟨⟨_,rfl⟩,ih⟩
def bR(TA:∀e∈(recsOf p).map W.itemOf,e.params.defaults=[]->cI c e)(O:c.Ok)(TO:aX c Tb)(j fuel r:Nat) (hj:(((recsOf p).map W.itemOf)[j]?.bind fun e=>if e.params.defaults.isEmpty=true/\e.name=ar f/\e.params.args.length=np/\(slots e.scope.names).length+r=n then sF Tb fuel r e else none)=some xs):aM c f np n xs:=by
 revert hj;refine xB fun e he hx=>?_;obtain⟨⟨h0,h1,h2,h3⟩,hx⟩:=iD hx;exact uP O TO (TA e (bG he) (gq.mp h0)) hx h1 h2 h3
end
variable {b x:Int}{t:Nat}{w:V}
section
open PySem PyProof.Rows
def Be{P:Addr}(hc:c.h0=h.hide P)(hP:h.get? P=some (bF ps)):iu h c:=fun b o hb hn=>by
 rw[hc,Heap.hide_ne h fun q=>by rw[q,hP] at hb;exact hn ps (ai hb).symm];exact hb
def iU(hh:iu h c)(n:h.Ns a m):c.h0.Ns a m:=
 let⟨o,es,ep,e,hd,r⟩:=n;⟨o,es,ep,hh a o e (fun ps q=>by rw[q] at hd;injection hd),hd,r⟩
def sI (T : Top p loose mean mg mb h) (hh : iu h c) (hg : c.g = mg) (hb : c.b = mb) (hs : h.NoSeer) (ht : c.prog.given.tree = none) : c.Ok := by
 subst hg hb
 exact { lim := let ⟨mc, a, r⟩ := T.nolimit; ⟨mc, iU hh a, r⟩
         gl := iU hh T.g
         bl := iU hh T.b
         tree := ht
         seer := { statics := let ⟨mc, a, r⟩ := hs.statics; ⟨mc, iU hh a, r⟩
                   mods := let ⟨mc, a, r⟩ := hs.mods; ⟨mc, iU hh a, r⟩
                   imp := let ⟨mc, a, r⟩ := hs.imp; ⟨mc, iU hh a, r⟩
                   main := let ⟨mg, bm, ob, a, b, c, d, e⟩ := hs.main; ⟨mg, bm, ob, iU hh a, b, hh bm ob c (fun ps q => by rw [q] at d; injection d), d, e⟩ } }
def sV (T : Top p loose mean mg mb h) (hh : iu h c) (hg : c.g = mg) : dw c := by
 subst hg
 obtain ⟨bm, ob, b1, b2, b3, b4, b5, b6⟩ := T.bmain
 exact ⟨bm, ob, b1, b2, hh bm ob b3 (fun ps q => by rw [q] at b4; injection b4), b4, b5, b6⟩
def qc{c P:Addr}(hc:h.IsCode c P #[])(ht:h.TableAt c P #[]):dj h c P:=by
 obtain⟨⟨o,vs,e1,e2,e3,e4⟩,_⟩:=ht;obtain⟨o',vs',file,tf,flags,tg,inF,text,tt,op,f1,f2,f3,f4,f5,f6,f7,_,_,_,f11⟩:=hc;obtain rfl:=ai (e1.symm.trans f1);obtain rfl:=Data.fields.inj (e3.symm.trans f2);exact⟨o,vs,file,tf,flags,tg,inF,text,tt,e1,e2,e3,e4,f3,f4,f5,f6,f7,f11⟩
inductive tY(e:eO)(mg:Str->Option Value)(h:Heap)(P:Addr):Prop
 |mk (a cc:Addr)(o:Obj)(pm doc:Value)(g1:mg e.name=some (.ref a))(g2:h.get? a=some o)(g3:o.data=.func (Calls.docDef e.name e.params e.body e.scope pm (.ref cc) doc))(g4:h.CodeRec (.ref cc) e.name)(g5:dj h cc P)(g6:h.get? P=some (bF #[])):tY e mg h P
def GM{e:eO}(hat:e.At mg h):∃P,tY e mg h P:=by
 obtain⟨a,cc,P,o,pm,doc,g1,g2,g3,g4,B⟩:=hat;exact⟨P,a,cc,o,pm,doc,g1,g2,g3,g4,qc B.code B.tab,B.tab.2⟩
def dG.of{e:eO}{P:Addr}(hh:iu h c)(q:tY e c.g h P)(h0:c.h0.get? P=none)(ht:c.tabs=[(P,lc,e.name++".<locals>."++"<lambda>")]):dG c e lc:=by
 obtain⟨a,cc,o,pm,doc,g1,g2,g3,g4,g5,g6⟩:=q;obtain⟨o1,vs,file,tf,flags,tg,inF,text,tt,e1,e2,e3,e4,f3,f4,f5,f6,f7,f11⟩:=g5;obtain⟨c2,o2,vs2,t,q1,q2,q3,q4⟩:=g4;obtain rfl:=tl q1;obtain rfl:=ai (e1.symm.trans q2);have k:=hh cc o1 e1 (fun ps q=>by rw[q] at e2;injection e2);exact⟨a,cc,o,pm,doc,(P,lc,e.name++".<locals>."++"<lambda>"),g1,hh a o g2 (fun ps q=>by rw[q] at g3;injection g3),g3,⟨cc,o1,vs2,t,rfl,k,q3,q4⟩,by rw[ht];exact aI,fun y hy J=>by rw[ht] at hy;exact aN.mp hy,h0,⟨o1,vs,file,tf,flags,tg,inF,text,tt,k,e2,e3,e4,f3,f4,f5,f6,f7,f11⟩,rfl,rfl⟩
def yg(c:Cx)(f:String)(np n:Nat)(xs:List St):Prop:=
 ∀q d kk z vs Q E H,vs.length=np->az (Calls c) q d (some (kk,z)) xs (de Q) (dZ E) (vs.map some++List.replicate (n-np) none) H->Calls c q (d+1) (ar f) vs (some (kk,z)) Q E H
def qR(TA:∀e∈(recsOf p).map W.itemOf,e.params.defaults=[]->cI c e)(O:c.Ok)(TO:aX c Tb)(j fuel r:Nat)(ps:List Str) (hj:(((recsOf p).map W.itemOf)[j]?.bind fun e=>if e.params.defaults.isEmpty=true/\e.name=ar f/\ps.length=np/\(slots e.scope.names).length+r=n then q6 Tb fuel r ps e else none)=some xs):yg c f np n xs:=by
 revert hj;refine xB fun e he hx=>?_;obtain⟨⟨h0,h1,h2,h3⟩,hx⟩:=iD hx;intro q d kk z vs Q E H hl hw;rw[<- h1];refine GW O TO (TA e (bG he) (gq.mp h0)) hx (by rw[hl,h2]) ?_;rw[h3,hl];exact hw
inductive AU(p:qbi)(Tb:Tab)(f:String)(np n kk:Nat)(y:List St×Nat×Nat)(e:eO):Prop
 |mk (fuel r:Nat)(hm:e∈(recsOf p).map W.itemOf)(h0:e.params.defaults=[])(h1:e.name=ar f)(h2:e.params.args.length=np)(h3:(slots e.scope.names).length+r=n)(he:kZ Tb fuel r kk e=some y):AU p Tb f np n kk y e
def ux(TA:∀e∈(recsOf p).map W.itemOf,e.params.defaults=[]->e.At mg h)(j fuel r kk:Nat) (hj:(((recsOf p).map W.itemOf)[j]?.bind fun e=>if e.params.defaults.isEmpty=true/\e.name=ar f/\e.params.args.length=np/\(slots e.scope.names).length+r=n then kZ Tb fuel r kk e else none)=some y):∃e P,AU p Tb f np n kk y e/\tY e mg h P:=by
 revert hj;refine xB fun e he hx=>?_;obtain⟨⟨h0,h1,h2,h3⟩,hx⟩:=iD hx;obtain⟨P,hP⟩:=GM (TA e (bG he) (gq.mp h0));exact⟨e,P,⟨fuel,r,bG he,gq.mp h0,h1,h2,h3,hx⟩,hP⟩
def tY.tab{e:eO}{P:Addr}(q:tY e mg h P):h.get? P=some (bF #[]):=let⟨_,_,_,_,_,_,_,_,_,_,g⟩:=q;g
def pq{e:eO}{P:Addr}(q:tY e mg h P)(k:∀b o,b≠P->h.get? b=some o->h'.get? b=some o)(hg:∃ps,h'.get? P=some (bF ps)):OldK h h':=by
 have hP:=q.tab;obtain⟨_,cc,_,_,_,_,_,_,_,g5,_⟩:=q;obtain⟨o1,vs,_,_,_,_,_,_,_,e1,e2,e3,e4,_,_,_,_,_,_⟩:=g5;obtain⟨ps,hg⟩:=hg;refine⟨fun b o e=>?_,fun b o e=>?_⟩
 ·by_cases hb:b=P
  ·subst hb;obtain rfl:=ai (hP.symm.trans e);exact .inr (.inl ⟨⟨cc,o1,vs,e1,e2,e3,e4⟩,rfl,#[],ps,rfl,by rw[Array.empty_append];exact hg⟩)
  ·exact .inl (k b o hb e)
 ·by_cases hb:b=P
  ·subst hb;exact⟨_,hg⟩
  ·exact⟨o,k b o hb e⟩
def pG{e:eO}(O:c.Ok)(TO:aX c Tb)(BM:dw c)(LO:∀kk fd nm,eB kk fd nm->c.lam kk fd nm)(hl:AU p Tb f np n kk y e)(hat:dG c e y.2):aM c f np n y.1:=by
 obtain⟨fuel,r,hm,h0,h1,h2,h3,he⟩:=hl;intro q d vs Q E H hl hw;rw[<- h1];refine Ij O TO BM LO hat he (by rw[hl,h2]) ?_;rw[h3,hl];exact hw
theorem lI{fa P:Addr}{nm:Str}(hA:OkA c A true d [] s.heap)(h0:c.h0=s.heap.hide P)(hP:s.heap.get? P=some (bF #[]))(ht:c.tabs=[(P,lc,nm)])(hgens:s.gens = #[])(hg:c.g (ar "law")=some (.ref fa)){vs:List Value}(hL:s.heap.IsList a vs.toArray)(hI:IntsAre vs l)(hl:l.length<=qag) (hc:Calls c true d (ar "law") [.scr l] none (fun v J=>v=.bool true) fo []) (hR:∀s',(∀b o,b≠P->s.heap.get? b=some o->s'.heap.get? b=some o)->(∃ps,s'.heap.get? P=some (bF ps))->s'.os=s.os->s'.gens = #[]->R (.ok (.ret (.bool true))) s'):codeAny (model c.prog c.w) A (.call (.ref fa) ⟨[.ref a],[]⟩) R s:=by
 refine hc _ fun a' o' fd' g1 g2 g3 g4=>?_;clear hc;rw[hg] at g1;injection g1 with Ja;injection Ja with w4;subst w4;have hh:iu s.heap c:=Be h0 hP;have S:aq c [] [] s:=⟨fun b o h=>Heap.of_hide (h0▸h),(fun J h=>nomatch h),nB,rfl,(fun J J h=>nomatch h),hgens,fun x hx=>by
  rw[ht] at hx;rw[aN.mp hx];exact .no hP⟩
 obtain⟨ol,ho,hcl,n,hd⟩:=hL;have R1:ah c [] s.heap [.scr l] [.ref a]:=⟨⟨a,ol,vs.toArray,n,rfl,fX,hh a ol ho (fun ps q=>by rw[q] at hcl;injection hcl),ho,hcl,hd,hl,pC hI⟩,rfl⟩;have:=g4 A [] s [.ref a] [] hA S R1 rfl;refine codeAny_mono this ?_;intro r s' hr;cases r with
 |error e=>
  obtain⟨_,_,_,_,_,_,hq⟩:=hr;exact hq.elim
 |ok f=>cases f with
  |ret v=>
   obtain⟨φ',H',v,e,S',Rv,hv⟩:=hr;subst hv;cases(show _=_ from Rv);refine hR s' (fun b o hb ho=>S'.stays b o (by rw[h0,Heap.hide_ne _ hb];exact ho)) ?_ e.os S'.gens;rcases S'.tab _ (ht▸aI) with h1 |⟨cc,h1,_⟩
   ·exact⟨_,h1⟩
   ·exact⟨_,h1⟩
  |_=>exact hr.elim
end
variable {R:SPost}{a:Int}{f m:Nat}{l:Loc}{p:Nat×Nat}{s:PS}{xs y:List V}
section
open PySem PyProof.Rows
def zy(hh:iu h c){C:Addr}(K:aR h C bm ini):aR c.h0 C bm ini:=by
 obtain⟨nm,q,N,bs,sn,sub,ab,col,dd,k0,k1,k2,k3,k5,mN,hC,hN,hq,hi⟩:=K;exact⟨nm,q,N,bs,sn,sub,ab,col,dd,k0,k1,k2,k3,k5,mN,hh C _ hC (fun ps e=>nomatch congrArg Obj.cls e),iU hh hN,hq,hi⟩
def oO(hh:iu h c)(X:ff h):ff c.h0:=by
 obtain⟨m,hm,NE,hn,net,kid,inj⟩:=X;refine⟨m,iU hh hm,NE,hn,zy hh net,fun cn hc=>?_,inj⟩;obtain⟨C,ini,h1,h2,h3,h4⟩:=kid cn hc;exact⟨C,ini,h1,h2,zy hh h3,h4⟩
def qS{P:Addr}(hc:c.h0=h.hide P)(hP:h.get? P=some (bF #[]))(X:fz h):fz c.h0:=by
 have hh:iu h c:=Be hc hP;obtain⟨m,hm,NE,C,fI,oI,fd,hn,hg,own,net,I,mc,h1,h2⟩:=X;refine⟨m,iU hh hm,NE,C,fI,oI,fd,hn,hg,zy hh own,zy hh net,{ I with ho:=hh _ _ I.ho (fun ps e=>?_),code:=?_ },mc,iU hh h1,h2⟩
 ·have:=I.cls;rw[e] at this;injection this
 ·obtain⟨c2,o2,vs2,t,q1,q2,q3,q4⟩:=I.code;refine⟨c2,o2,vs2,t,q1,?_,q3,q4⟩;have hne:c2≠P:=fun e=>by
   rw[e,hP] at q2;obtain rfl:=ai q2;(injection q3 with Ja;subst Ja);injection q4
  rw[hc,Heap.hide_ne _ hne];exact q2
end
variable {h:Nat}
def C5(h:i<n):ix (i:Int) n=some i:=by
 refine(if_pos (iS i)).trans ((if_pos (bP.mpr h)).trans ?_);rw[jV]
def dE{xs:List α}{x:α}(h:xs[i]?=some x):i<xs.length:=(gW.mp h).1
def ql{xs:List Int}(h:xs[i]?=some x):cA H (.scr xs) (.int i)=some (.int x):=by
 show(ix i xs.length).bind _=_;rw[C5 (dE h)];show(xs[i]?).map _=_;rw[h];rfl
def cZ{a:Nat}{x:V}(ha:H[a]?=some xs)(h:xs[i]?=some x):cA H (.lst a) (.int i)=some x:=by
 show(H[a]?).bind _=_;rw[ha];show(ix i xs.length).bind _=_;rw[C5 (dE h)];exact h
def F7{a:Nat}{x:V}(ha:H[a]?=some xs)(h:xs.getLast?=some x):cA H (.lst a) (.int (-1))=some x:=by
 show(H[a]?).bind _=_;rw[ha];show(ix (-1) xs.length).bind _=_;rw[List.getLast?_eq_getElem?] at h;have wq:=Nat.pos_of_lt_add_left (n:=0) (k:=xs.length) (by have:=dE h;exact aj [_] [] kaa (Y1 J0 (Y0 V0 J0)) (Y1 (Y2 V0 J1) V0) this);have e:ix (-1) xs.length=some (xs.length-1):=by
  refine(if_neg (by decide)).trans ((if_pos (by exact aj [_] [] kaa (Y3 (Y3 (Y4 V0 J0) J0) (Y3 J1 J0)) (Y1 J0 V0) wq)).trans ?_);rw[show((-1:Int)+xs.length).toNat=xs.length-1 by exact aj [_,_] [] 0x6410a50006100c030802000065294001840400c2018061004050802140d04294001840700c2008000214a50006101c03080401840001005080211a08528003080e01840100005294001840501020200610000508021 (Y2 V0 (Y2 V1 J1)) (Y7 (Y5 (Y4 V0 J0) (Y0 (Y3 J1 J0) (Y4 V1 J0))) (Y6 (Y3 (Y0 (Y3 J1 J0) (Y4 V1 J0)) J0) (Y2 V0 J0))) (Ar.tn _)]
 rw[e];exact h
def t8(P:aM c "_law_cell_at" 2 2 Ee){xs:List Int}(hc:q=true)(hq:Q (.int (xs.getD i 0)) H):Calls c q (d+1) "_law_cell_at" [.scr xs,.int i] none Q E H:=by
 subst hc;refine P true d _ Q E H rfl (Ss_go ?_);walk_at "";refine bV (fun h=>?_) (fun h=>?_)
 ·walk_at "";have hg:=bt (bP.mp h);refine ae.mk (ql hg) ?_;rw[b7,hg] at hq;exact hq
 ·walk_at "";rw[b7,nO (fE fun q=>h (bP.mpr q))] at hq;exact hq
def qO(hb:0<b):bL H .mod (.int a) (.int b)=some (.int (a%b),H):=by
 refine(if_neg (Int.ne_of_gt hb)).trans ?_;rw[Int.fmod_eq_emod_of_nonneg _ (Int.le_of_lt hb)]
def pZ(hb:0<b):bL H .div (.int a) (.int b)=some (.int (a/b),H):=by
 refine(if_neg (Int.ne_of_gt hb)).trans ?_;rw[Int.fdiv_eq_ediv_of_nonneg _ (Int.le_of_lt hb)]
def fP(hb:0<b)(h:K (.int (a%b),H)):ae (bL H .mod (.int a) (.int b)) K:=ae.mk (qO hb) h
def rT(hb:0<b)(h:K (.int (a/b),H)):ae (bL H .div (.int a) (.int b)) K:=ae.mk (pZ hb) h
noncomputable def vc(x:Int):Int:=if x/12%9=1 then 13+x/108%20 else 1+x%12
def JD(x:Int):1<=vc x/\vc x<=32:=by unfold vc;split<;>(first |exact aj [] [_,_,_] kbn (Y6 (Y3 J1 (Y0 (.l 13) V0)) (Y3 (Y0 (.l 13) V0) (.l 32))) (Y6 (Y5 (Y0 (Y1 (.l 20) V1) V0) V2) (Y6 (Y3 J0 V0) (Y4 V0 (.l 20)))) (Ar.zd _ (k:=20) (by decide)) |exact aj [] [_,_,_] kbn (Y6 (Y3 J1 (Y0 J1 V0)) (Y3 (Y0 J1 V0) (.l 32))) (Y6 (Y5 (Y0 (Y1 (.l 12) V1) V0) V2) (Y6 (Y3 J0 V0) (Y4 V0 (.l 12)))) (Ar.zd _ (k:=12) (by decide)))
def HT(P:aM c "_law_lines_by" 1 2 Fs)(hq:Q (.int (vc x)) H):Calls c q (d+1) "_law_lines_by" [.int x] none Q E H:=by
 refine P q d _ Q E H rfl (Ss_go ?_);walk_at "";refine fP (by decide) ?_;walk_at "";refine rT (by decide) ?_;walk_at "";refine fP (by decide) ?_;walk_at "";refine bV (fun h=>?_) (fun h=>?_)
 ·walk_at "";refine rT (by decide) ?_;walk_at "";refine fP (by decide) ?_;walk_at "";rw[vc,if_pos h] at hq;exact hq
 ·walk_at "";rw[vc,if_neg h] at hq;exact hq
def oW(P:aM c "_law_whole" 1 1 Gm){i:Int}(hq:Q (.bool true) H):Calls c q (d+1) "_law_whole" [.int i] none Q E H:=by
 refine P q d _ Q E H rfl (Ss_go ?_);walk_at "";exact hq
variable {a b k x:Nat}
noncomputable def nat(n:Nat):V:=.int n
noncomputable def fl(p:Nat×Nat):V:=.tup [.int p.2,.int p.1]
structure xr(f dn rd:Nat)(bs:List Nat):Prop where
 n1:f≠dn
 n2:f≠rd
 n3:f∉bs
 n4:dn≠rd
 n5:dn∉bs
 n6:rd∉bs
 n7:bs.Nodup
structure aK(H:Hp)(f dn rd:Nat)(bs:List Nat)(lays:Net)(done read:List Nat):Prop where
 F:H[f]?=some (bs.map .lst)
 len:bs.length=lays.length
 L:∀(i b:Nat) (y:List (Nat×Nat)),bs[i]?=some b->lays[i]?=some y->H[b]?=some (y.map fl)
 D:H[dn]?=some (done.map nat)
 R:H[rd]?=some (read.map nat)
 ap:xr f dn rd bs
structure aa(S:List Nat)(H H':Hp):Prop where
 len:H.length<=H'.length
 same:∀x,x<H.length->x∉S->H'[x]?=H[x]?
def aa.refl:aa S H H:=⟨aJ _,fun J J J=>rfl⟩
def dA(h:H[x]?=some y):x<H.length:=dE h
def iE(h:H[x]?=some y):(H++[xs])[x]?=some y:=(jc (dA h)).trans h
def aQ:(H++[xs])[H.length]?=some xs:=List.getElem?_concat_length
def eo(h:H[x]?=some y)(hn:x≠a):(H.set a xs)[x]?=some y:=(nT (c5 hn)).trans h
def jg(h:H[a]?=some y):(H.set a xs)[a]?=some xs:=nu (dA h)
def aK.lt(B:aK H f dn rd bs lays done read)(hb:bs[i]?=some b):b<H.length/\i<lays.length:=
 have hi:i<lays.length:=B.len▸dE hb
 ⟨dA (B.L i b _ hb (bt hi)),hi⟩
def aK.ltm(B:aK H f dn rd bs lays done read)(hb:b∈bs):b<H.length:=by
 obtain⟨i,hi⟩:=List.mem_iff_getElem?.mp hb;exact(B.lt hi).1
def nP{l:List α}{x y:α}(h:(l++[x])[i]?=some y):l[i]?=some y\/(i=l.length/\x=y):=by
 by_cases hi:i<l.length
 ·exact .inl ((jc hi).symm.trans h)
 ·have hlt:=dE h;rw[bw] at hlt;have e:i=l.length:=Nat.le_antisymm (Nat.le_of_lt_succ hlt) (fE hi);rw[e,List.getElem?_concat_length] at h;exact .inr ⟨e,ai h⟩
def aK.grow(B:aK H f dn rd bs lays done read):aK ((H++[[]]).set f (bs.map V.lst++[V.lst H.length])) f dn rd (bs++[H.length]) (lays++[[]]) done read:=by
 have hf:=dA B.F;have A:=B.ap;have keep:∀{x:Nat} {y:List V},x≠f->H[x]?=some y->((H++[[]]).set f (bs.map V.lst++[V.lst H.length]))[x]?=some y:=fun hx h=>eo (iE h) hx;have out:∀{x:Nat},x<H.length->x∉bs->x∉bs++[H.length]:=fun hx hn hm=>(bJ.mp hm).elim hn fun e=>ck hx (aN.mp e);refine⟨?_,?_,fun i b y hb hy=>?_,keep (c5 A.n1) B.D,keep (c5 A.n2) B.R,⟨A.n1,A.n2,out hf A.n3,A.n4,out (dA B.D) A.n5,out (dA B.R) A.n6,?_⟩⟩
 ·rw[bT];exact jg (iE B.F)
 ·rw[bw,bw,B.len];rfl
 ·rcases nP hb with hb |⟨e,rfl⟩
  ·rcases nP hy with hy |⟨e,rfl⟩
   ·exact keep (fun q=>A.n3 (q▸bG hb)) (B.L i b y hb hy)
   ·exact absurd (dE hb) (by rw[e,B.len];exact d4 _)
  ·rcases nP hy with hy |⟨_,rfl⟩
   ·exact absurd (dE hy) (by rw[e,B.len];exact d4 _)
   ·exact eo aQ (Nat.ne_of_gt hf)
 ·refine og.mpr ⟨A.n7,lX.mpr ⟨fX,nB⟩,fun x hx y hy=>?_⟩;rw[aN.mp hy];exact ck (B.ltm hx)
def aK.putL(B:aK H f dn rd bs lays done read){y:List (Nat×Nat)}(hb:bs[i]?=some b):aK (H.set b (y.map fl)) f dn rd bs (lays.set i y) done read:=by
 have A:=B.ap;have hm:=bG hb;obtain⟨hlt,hi⟩:=B.lt hb;refine⟨eo B.F (fun q=>A.n3 (q▸hm)),B.len.trans gv.symm,fun j b' y' hb' hy'=>?_,eo B.D (fun q=>A.n5 (q▸hm)),eo B.R (fun q=>A.n6 (q▸hm)),A⟩;by_cases hij:j=i
 ·subst hij;obtain rfl:=ai (hb.symm.trans hb');obtain rfl:=ai ((nu hi).symm.trans hy');exact nu hlt
 ·rw[nT (c5 hij)] at hy';exact eo (B.L j b' y' hb' hy') (fun q=>hij (DU A.n7 (q▸hb') hb))
def aK.putD(B:aK H f dn rd bs lays done read):aK (H.set dn (done'.map nat)) f dn rd bs lays done' read:=
 have A:=B.ap
 ⟨eo B.F A.n1,B.len,fun j b y hb hy=>eo (B.L j b y hb hy) (fun q=>A.n5 (q▸bG hb)),jg B.D,eo B.R (c5 A.n4),A⟩
def aK.putR(B:aK H f dn rd bs lays done read):aK (H.set rd (read'.map nat)) f dn rd bs lays done read':=
 have A:=B.ap
 ⟨eo B.F A.n2,B.len,fun j b y hb hy=>eo (B.L j b y hb hy) (fun q=>A.n6 (q▸bG hb)),eo B.D A.n4,jg B.R,A⟩
def aa.set(h:aa S H H')(ha:a∈S\/H.length<=a):aa S H (H'.set a xs):=
 ⟨by rw[gv];exact h.len,fun x hx hn=>(nT (fun q:a=x=>ha.elim (fun m=>hn (q▸m)) fun m=>fN.mpr m (q▸hx))).trans (h.same x hx hn)⟩
def aa.app(h:aa S H H'):aa S H (H'++[xs]):=
 ⟨by rw[bw];exact Nat.le_add_right_of_le h.len,fun x hx hn=>(jc (cS hx h.len)).trans (h.same x hx hn)⟩
variable {xs:List Nat}
def BB(a b:Nat):(if(a:Int)<b then(b:Int) else a)=((max a b:Nat):Int):=by
 by_cases h:a<b
 ·rw[if_pos (bP.mpr h),Nat.max_eq_right (bO h)]
 ·rw[if_neg (fun q=>h (bP.mp q)),Nat.max_eq_left (fE h)]
def ED:dp true (ba H .max [.int a,.int b])=some (.int (max a b:Nat),H):=by
 rw[<- BB];rfl
def j7{e:Nat}:dp true (ba H .max [.int a,.int b,.int e])=some (.int (max (max a b) e:Nat),H):=by
 rw[<- BB,<-BB];rfl
def xJ{g:α->V}{xs:List α}{x:α}(h:xs[i]?=some x):(xs.map g)[i]?=some (g x):=by rw[br,h];rfl
def ji(ha:H[a]?=some (xs.map nat))(h:xs[i]?=some x):cA H (.lst a) (.int i)=some (.int x):=cZ ha (xJ h)
def mZ{xs:List V}(ha:H[a]?=some xs)(h:i<xs.length):kD H (.lst a) (.int i) v=some (H.set a (xs.set i v)):=by
 show(H[a]?).bind _=_;rw[ha];refine(if_pos ⟨iS i,bP.mpr h⟩).trans ?_;rw[jV]
def Cs(ha:H[a]?=some (xs.map nat))(h:i<xs.length):kD H (.lst a) (.int i) (.int x)=some (H.set a ((xs.set i x).map nat)):=by
 rw[List.map_set];exact mZ ha (by rw[ao];exact h)
def kY{xs:List V}(ha:H[a]?=some xs)(hz:xs.length<10000):sT H .append (.lst a) [v]=some (.none,H.set a (xs++[v])):=by
 show(H[a]?).bind _=_;rw[ha];exact if_pos (cN hz (by decide))
structure u6(H:Hp)(f dn rd:Nat)(bs:List Nat)(lays:Net)(done read:List Nat)(l h:Nat)(bs':List Nat)(H':Hp):Prop where
 build:aK H' f dn rd bs' (vA lays (gn done read l h) (l,h)) (done.set h (gn done read l h+1)) (read.set l (max (g0 read l) (gn done read l h)))
 stay:aa (f::dn::rd::bs) H H'
 new:∀b∈bs',b∈bs\/H.length<=b
def HR(hnm:n+m=k+1-L)(wq:b=L+m)(hle:b<=k):n-1<n/\n-1+(m+1)=k+1-L:=by exact bo [_,_,_,_,_] [] 0xc61a064294a528004081a01840e00c204806100c0308020180a308c20104a528003080e01840400c20000a100023294a0010203006100c03080202840008d04294a00102048061028030800000068214a5294a0010206008103403081c01840a010203006100400014a000c2040061000050800128c2308041 (Y6 (Y1 (Y2 V0 J1) V0) (Y2 (Y0 (Y2 V0 J1) (Y0 V1 J1)) (Y2 (Y0 V2 J1) V3))) (Y2 (Y0 V0 V1) (Y2 (Y0 V2 J1) V3)) (Y2 V4 (Y0 V3 V1)) (Y0 V4 V2) hnm wq hle
def HP(hnm:n+m=k+1-L)(wq:b=L+m)(hle:¬b<=k):m=k+1-L:=by exact bo [_,_,_,_,_] [] 0x314a000c201006100003410a5000610180308020000a5294001840700c204006101003080002882308021 (Y2 V0 (Y2 (Y0 V1 J1) V2)) (Y2 (Y0 V3 V0) (Y2 (Y0 V1 J1) V2)) (Y2 V4 (Y0 V2 V0)) (Y8 (Y0 V4 V1) J0) hnm wq hle
def qK(H:Hp)(f dn rd:Nat)(bs:List Nat)(lays:Net)(done read:List Nat)(l h k n:Nat)(x0:Loc)(H':Hp):Prop:=∀GJ:Prop,(∀(bs':List Nat),∀(m:Nat),(n+m=k+1-lays.length)->aK H' f dn rd bs' (lays++List.replicate m []) done read->aa (f::dn::rd::bs) H H'->(∀b∈bs',b∈bs\/H.length<=b)->[some (.lst f),some (.int l),some (.int h),some (.lst dn),some (.lst rd),some (.int k)]=x0->GJ)->GJ
def Cj(h:i<xs.length):xs[i]?=some (g0 xs i):=by
 rw[g0,b7,bt h];rfl
def qj(P:aM c "_law_place" 5 6 pv){l:Nat}(B:aK H f dn rd bs lays done read)(hl:l<done.length)(hh:h<done.length)(hrl:read.length=done.length)(hc:q=true) (hsz:gn done read l h<1000) (hlz:lays.length<1000) (hyz:∀y∈lays,y.length<1000) (hq:∀bs' H',u6 H f dn rd bs lays done read l h bs' H'->Q .none H') :
  Calls c q (d+1) "_law_place" [.lst f,.int l,.int h,.lst dn,.lst rd] none Q E H:=by
 subst hc;refine P true d _ Q E H rfl (Ss_go ?_);have gR:∀{x:Nat},x<done.length->read[x]?=some (g0 read x):=fun hx=>Cj (hrl▸hx);walk_at "";refine ae.mk (ji B.D (Cj hl)) ?_;walk_at "";refine ae.mk (ji B.D (Cj hh)) ?_;walk_at "";refine ae.mk (ji B.R (gR hh)) ?_;walk_at "";refine ae.mk j7 ?_;walk_at "";rw[show max (max (g0 done l) (g0 done h)) (g0 read h)=gn done read l h from rfl];generalize hat:gn done read l h=k at hsz;refine⟨rfl,.mk (qK H f dn rd bs lays done read l h k) (k+1-lays.length) (fun J kJ=>kJ bs 0 rfl (by rw[List.replicate_zero,d5];exact B) aa.refl (fun b hb=>.inl hb) rfl) ?_⟩;rintro n l' H' hI;refine hI _ fun bs' m hnm B' st hnew wg=>?_;clear hI;subst wg;have wq:=B'.len;rw[bw,List.length_replicate] at wq;walk_at "";refine ae.mk (c6 B'.F) ?_;walk_at "";rw[ao];refine bV (fun hle=>?_) (fun hle=>?_)
 ·have hle:=c7.mp hle;walk_at "";refine⟨rfl,?_⟩;walk_at "";refine ae.mk (kY (iE B'.F) (by rw[ao];exact eJ hle (cN hsz (by decide)))) ?_;walk_at "";have hst:=HR hnm wq hle;refine⟨n-1,hst.1,(fun J kJ=>kJ (bs'++[H'.length]) (m+1) hst.2 ?_ ((st.app).set (.inl aI)) (fun b hb=>?_) rfl)⟩
  ·have:=B'.grow;rw[fQ,<-List.replicate_succ'] at this;exact this
  ·rcases bJ.mp hb with hb |hb
   ·exact hnew b hb
   ·rw[aN.mp hb];exact .inr st.len
 ·have hle:¬bs'.length<=k:=fun q=>hle (c7.mpr q);walk_at "";have hm:m=k+1-lays.length:=HP hnm wq hle;rw[hm] at B';rw[show lays++List.replicate (k+1-lays.length) []=oH (k+1) lays from rfl] at B';have hb:=bt (Nat.lt_of_not_le hle);generalize bs'[k]=b at hb;obtain⟨hblt,hkl⟩:=B'.lt hb;have hy:=bt hkl;generalize hyy:(oH (k+1) lays)[k]=y at hy;have hyl:y.length<1000:=by
   rcases bJ.mp (bG hy) with h1 |h1
   ·exact hyz y h1
   ·rw[(List.mem_replicate.mp h1).2];decide
  refine ae.mk (cZ B'.F (xJ hb)) ⟨rfl,?_⟩;walk_at "";refine ae.mk (kY (B'.L k b y hb hy) (by rw[ao];exact cN hyl (by decide))) ?_;rw[show y.map fl++[.tup [.int h,.int l]]=(y++[(l,h)]).map fl by rw[bT];rfl];have B2:=B'.putL (y:=y++[(l,h)]) hb;walk_at "";refine ae.mk (ji B2.R (gR hl)) ?_;walk_at "";refine ae.mk ED ?_;walk_at "";refine ae.mk (Cs B2.R (hrl▸hl)) ?_;have B3:=B2.putR (read':=read.set l (max (g0 read l) k));walk_at "";refine ae.mk (Cs (x:=k+1) B3.D hh) ?_;have B4:=B3.putD (done':=done.set h (k+1));refine hq bs' _ ⟨?_,((st.set ?_).set (.inl (a0 _ (a0 _ aI)))).set (.inl (a0 _ aI)),hnew⟩
  ·rw[hat];have e2:(oH (k+1) lays).set k (y++[(l,h)])=vA lays k (l,h):=by
    rw[vA,b7,hy];rfl
   rw[<- e2];exact B4
  ·exact(hnew b (bG hb)).imp (fun h1=>a0 _ (a0 _ (a0 _ h1))) id
def aa.trans{S':List Nat}(h:aa S H H')(h':aa S' H' H'')(hs:∀x∈S',x∈S\/H.length<=x):aa S H H'':=
 ⟨aD h.len h'.len,fun x hx hn=>(h'.same x (cS hx h.len) fun hm=>(hs x hm).elim hn fun hl=>fN.mpr hl hx).trans (h.same x hx hn)⟩
structure cM(H:Hp)(f dn rd:Nat)(bs:List Nat)(X:List Nat)(s:PS)(bs':List Nat)(H':Hp):Prop where
 build:aK H' f dn rd bs' s.lays s.done s.read
 stay:aa (X++f::dn::rd::bs) H H'
 new:∀b∈bs',b∈bs\/H.length<=b
def pg{P:Nat->Prop}(h1:P f)(h2:P dn)(h3:P rd)(h4:∀b∈bs,P b):∀x∈f::dn::rd::bs,P x:=
 eh.mpr ⟨h1,eh.mpr ⟨h2,eh.mpr ⟨h3,h4⟩⟩⟩
def m1:f∈f::dn::rd::bs:=aI
def m2:dn∈f::dn::rd::bs:=a0 _ aI
def m3:rd∈f::dn::rd::bs:=a0 _ (a0 _ aI)
def m4(h:x∈bs):x∈f::dn::rd::bs:=a0 _ (a0 _ (a0 _ h))
def sP(h1:x≠f)(h2:x≠dn)(h3:x≠rd)(h4:x∉bs):x∉f::dn::rd::bs:=fun hm=>by
 rcases bj.mp hm with h |hm
 ·exact h1 h
 rcases bj.mp hm with h |hm
 ·exact h2 h
 rcases bj.mp hm with h |hm
 ·exact h3 h
 exact h4 hm
def lb(P:aM c "_law_place" 5 6 pv){l:Nat}(K:cM H0 f dn rd bs0 X s bs H)(L:bh n s js)(hn:n<=64)(hz:s.lays.length<900)(hlh:l<h)(hhn:h<n)(hc:q=true) (hq:∀bs' H',cM H0 f dn rd bs0 X (s.put (l,h)) bs' H'->aa (f::dn::rd::bs) H H'->(∀b∈bs',b∈bs\/H.length<=b)->Q .none H') :
  Calls c q (d+1) "_law_place" [.lst f,.int l,.int h,.lst dn,.lst rd] none Q E H:=by
 have dl:=L.dl;have rl:=L.rl;refine qj P K.build (dl▸cN hlh hhn) (dl▸hhn) (rl.trans dl.symm) hc ?_ (cN hz (by decide)) (fun y hy=>eJ (aD (L.wide y hy) hn) (by decide)) ?_
 ·exact eJ (L.at_le l h) (cN hz (by decide))
 ·intro bs' H' Pl;exact hq bs' H' ⟨Pl.build,K.stay.trans Pl.stay (pg (.inl (iK _ m1)) (.inl (iK _ m2)) (.inl (iK _ m3)) fun b hb=>(K.new b hb).imp (fun h=>iK _ (m4 h)) id),
   fun b hb=>(Pl.new b hb).elim (K.new b) fun h=>.inr (aD K.stay.len h)⟩ Pl.stay Pl.new
noncomputable def fy(cell:Int)(k:Nat):Bool:=decide (cell/(1+k)%4>0)
def aa.at(h:aa S H H')(hx:H[x]?=some y)(hn:x∉S):H'[x]?=some y:=(h.same x (dE hx) hn).trans hx
variable {y:List (Nat×Nat)}
structure i6{α:Type} [DecidableEq α](f:α->PyData):Prop where
 eq:∀a b,PyData.eqv (f a) (f b)=decide (a=b)
 lay:∀a,PyData.canLay0 (f a)=true
def qo[DecidableEq α]{x y:α}{xs ys:List α}:(decide (x=y)&&decide (xs=ys))=decide (x::xs=y::ys):=by
 rw[<- Bool.decide_and];exact decide_eq_decide.mpr (List.cons.injEq ..).symm.to_iff
theorem i6.all[DecidableEq α]{f:α->PyData}(h:i6 f):∀xs ys:List α,PyData.eqvAll (xs.map f) (ys.map f)=decide (xs=ys)
 |[],[]=>rfl
 |[],_::_=>rfl
 |_::_,[]=>rfl
 |x::xs,y::ys=>by
  refine(show _=(PyData.eqv (f x) (f y)&&PyData.eqvAll (xs.map f) (ys.map f)) from rfl).trans ?_;rw[h.eq,h.all xs ys,qo]
theorem i6.layAll[DecidableEq α]{f:α->PyData}(h:i6 f):∀xs:List α,PyData.canLayAll0 (xs.map f)=true
 |[]=>rfl
 |x::xs=>gd.mpr ⟨h.lay x,h.layAll xs⟩
noncomputable def gh{α:Type}(f:α->PyData)(xs:List α):PyData:=.list (xs.map f)
def i6.list[DecidableEq α]{f:α->PyData}(h:i6 f):i6 (gh f):=⟨h.all,h.layAll⟩
noncomputable def oq{α:Type}(f:α->PyData)(xs:List α):PyData:=.tuple (xs.map f)
def i6.tup[DecidableEq α]{f:α->PyData}(h:i6 f):i6 (oq f):=⟨h.all,h.layAll⟩
noncomputable def natP(n:Nat):PyData:=.int n
def wG:decide ((a:Int)=b)=decide (a=b):=decide_eq_decide.mpr Int.ofNat_inj
def d7:i6 natP:=⟨fun J J=>wG,fun J=>rfl⟩
noncomputable def zlw(p:Nat×Nat):PyData:=.tuple [.int p.1,.int p.2]
def fj:i6 zlw:=⟨fun a b=>by
 refine(show _=(decide ((a.1:Int)=b.1)&&(decide ((a.2:Int)=b.2)&&true)) from rfl).trans ?_;rw[wG,wG,Bool.and_true,<-Bool.decide_and];exact decide_eq_decide.mpr Prod.ext_iff.symm,fun J=>rfl⟩
theorem Ds{g:α->V}{f:α->PyData}{F:V->Option PyData}:∀{xs:List α},(∀x∈xs,F (g x)=some (f x))->aH F (xs.map g)=some (xs.map f)
 |[],_=>rfl
 |x::r,h=>by
  show(F (g x)).bind _=_;rw[h x aI];show(aH F (r.map g)).map _=_;rw[Ds fun y hy=>h y (a0 _ hy)];rfl
theorem jU{f:β->PyData}{F:V->Option PyData}:∀{bs:List V}{ys:List β},bs.length=ys.length->(∀(i:Nat) b y,bs[i]?=some b->ys[i]?=some y->F b=some (f y))->aH F bs=some (ys.map f)
 :=by
 intro bs;induction bs with
 |nil=>exact fun h J=>by rw[gj.mp h.symm];rfl
 |cons b bs ih=>
  intro ys h hh;cases ys with
  |nil=>exact nomatch h
  |cons y ys=>
  show(F b).bind _=_;rw[hh 0 b y rfl rfl];show(aH F bs).map _=_;rw[ih (Nat.succ.inj h) fun i b y h1 h2=>hh (i+1) b y h1 h2];rfl
def tL{xs:List V}(ha:H[a]?=some xs)(h:aH (bM n H) xs=some ys):bM (n+1) H (.lst a)=some (.list ys):=by
 show((H[a]?).bind _).map _=_;rw[ha];show(aH (bM n H) xs).map _=_;rw[h];rfl
def BV{g:α->V}{f:α->PyData}{xs:List α}(ha:H[a]?=some (xs.map g))(h:∀x∈xs,bM n H (g x)=some (f x)):bM (n+1) H (.lst a)=some (gh f xs):=tL ha (Ds h)
def Kc{f:β->PyData}{bs:List V}{ys:List β}(ha:H[a]?=some bs)(hl:bs.length=ys.length)(h:∀(i:Nat) b y,bs[i]?=some b->ys[i]?=some y->bM n H b=some (f y)):bM (n+1) H (.lst a)=some (gh f ys):=tL ha (jU hl h)
def zD(x:Nat):bM n H (nat x)=some (natP x):=by cases n<;>rfl
def ua(p:Nat×Nat):bM (n+1) H (pr p)=some (zlw p):=by cases n<;>rfl
def BZ(ha:H[a]?=some (xs.map nat)):bM (n+1) H (.lst a)=some (gh natP xs):=BV ha fun x J=>zD x
def G6(ha:H[a]?=some (y.map pr)):bM (n+2) H (.lst a)=some (gh zlw y):=BV ha fun x J=>ua x
def CB{net:Net}(N:ag H a bs net):bM (n+3) H (.lst a)=some (gh (gh zlw) net):=by
 refine Kc N.top (ao .. |>.trans N.len) fun i b y h1 h2=>?_;rw[br] at h1;revert h1;refine xM fun b' hb wj=>?_;subst wj;exact G6 (N.lay i b' y hb h2)
def DB[DecidableEq α]{f:α->PyData}(h:i6 f){x y:α}(h1:bM 9 H v=some (f x))(h2:bM 9 H w=some (f y)):gP H v w=some (decide (x=y)):=by
 show(bM 9 H v).bind _=_;rw[h1];show(bM 9 H w).bind _=_;rw[h2,<-h.eq];exact if_pos (gd.mpr ⟨h.lay x,h.lay y⟩)
def kM{ys:List Nat}(ha:H[a]?=some (xs.map nat))(hb:H[b]?=some (ys.map nat)):gP H (.lst a) (.lst b)=some (decide (xs=ys)):=DB d7.list (BZ ha) (BZ hb)
def uh{xs ys:Net}(ha:ag H a bs xs)(hb:ag H b cs ys):gP H (.lst a) (.lst b)=some (decide (xs=ys)):=DB fj.list.list (CB ha) (CB hb)
def xq{b:Bool}(h:gP H v w=some b):dh H .eq v w=some b:=h
def jS{b:Bool}(h:gP H v w=some b):dh H .ne v w=some (!b):=by
 show(gP H v w).map _=_;rw[h];rfl
variable {w:Str}{xs:List V}{ys:List (List V)}
def aK.below(B:aK H f dn rd bs lays done read):∀b∈f::dn::rd::bs,b<H.length:=pg (dA B.F) (dA B.D) (dA B.R) fun J h=>B.ltm h
def aK.keep(B:aK H f dn rd bs lays done read)(h:∀x∈f::dn::rd::bs,H'[x]?=H[x]?):aK H' f dn rd bs lays done read:=
 ⟨(h f m1).trans B.F,B.len,fun i b y hb hy=>(h b (m4 (bG hb))).trans (B.L i b y hb hy),(h dn m2).trans B.D,(h rd m3).trans B.R,B.ap⟩
def cM.set(K:cM H0 f dn rd bs0 X s bs H)(hn:a∉f::dn::rd::bs)(hx:a∈X\/H0.length<=a):cM H0 f dn rd bs0 X s bs (H.set a xs):=
 ⟨K.build.keep fun x hx=>nT fun e:a=x=>hn (e▸hx),K.stay.set (hx.imp (List.mem_append_left _) id),K.new⟩
def cM.app(K:cM H0 f dn rd bs0 X s bs H):cM H0 f dn rd bs0 X s bs (H++[xs]):=
 ⟨K.build.keep fun x hx=>jc (K.build.below x hx),K.stay.app,K.new⟩
structure aS(H:Hp)(f dn rd lf la fw:Nat)(bs:List Nat)(s:PS)(left:List (Nat×Nat))(act:List Nat)(fwx:List Nat)(H0:Hp)(bs0:List Nat):Prop where
 kept:cM H0 f dn rd bs0 [lf] s bs H
 hact:H[la]?=some (act.map nat)
 hleft:H[lf]?=some (left.map pr)
 hfw:H[fw]?=some (fwx.map nat)
 nla:la∉f::dn::rd::bs
 nlf:lf∉f::dn::rd::bs
 nfw:fw∉f::dn::rd::bs
 d1:la≠lf
 d2:la≠fw
 d3:lf≠fw
 new:H0.length<=fw
def aS.push(T:aS H f dn rd lf la fw bs s left act fwx H0 bs0):aS (H.set fw (fwx.map nat++[.int x])) f dn rd lf la fw bs s left act (fwx++[x]) H0 bs0:=
 ⟨T.kept.set T.nfw (.inr T.new),eo T.hact T.d2,eo T.hleft T.d3,(by rw[bT];exact jg T.hfw),T.nla,T.nlf,T.nfw,T.d1,T.d2,T.d3,T.new⟩
def aS.leave(T:aS H f dn rd lf la fw bs s left act fwx H0 bs0):aS (H.set lf (left.map pr++[pr p])) f dn rd lf la fw bs s (left++[p]) act fwx H0 bs0:=
 ⟨T.kept.set T.nlf (.inl aI),eo T.hact T.d1,(by rw[bT];exact jg T.hleft),eo T.hfw (c5 T.d3),T.nla,T.nlf,T.nfw,T.d1,T.d2,T.d3,T.new⟩
def aS.more(T:aS H f dn rd lf la fw bs s left act fwx H0 bs0):aS (H++[xs]) f dn rd lf la fw bs s left act fwx H0 bs0:=
 ⟨T.kept.app,iE T.hact,iE T.hleft,iE T.hfw,T.nla,T.nlf,T.nfw,T.d1,T.d2,T.d3,T.new⟩
def nA(hx:x<H.length)(hn:x∉f::dn::rd::bs)(hnew:∀b∈bs',b∈bs\/H.length<=b):x∉f::dn::rd::bs':=
 sP (fun e=>hn (e▸m1)) (fun e=>hn (e▸m2)) (fun e=>hn (e▸m3)) fun h=>(hnew x h).elim (fun h=>hn (m4 h)) fun h=>fN.mpr h hx
def aS.place(T:aS H f dn rd lf la fw bs s left act fwx H0 bs0)(K:cM H0 f dn rd bs0 [lf] s' bs' H')(st:aa (f::dn::rd::bs) H H')(hnew:∀b∈bs',b∈bs\/H.length<=b):aS H' f dn rd lf la fw bs' s' left act fwx H0 bs0:=
 ⟨K,st.at T.hact T.nla,st.at T.hleft T.nlf,st.at T.hfw T.nfw,nA (dA T.hact) T.nla hnew,nA (dA T.hleft) T.nlf hnew,nA (dA T.hfw) T.nfw hnew,T.d1,T.d2,T.d3,T.new⟩
def Aj(H:Hp)(f dn rd la lf:Nat)(bs:List Nat)(s:PS)(left:List (Nat×Nat))(act:List Nat)(cell:Int)(m:Nat)(x0:Loc)(H':Hp):Prop:=∀GJ:Prop,(∀(k sp:Nat),∀(pl lfx:List (Nat×Nat)),∀(fwx bs':List Nat),(m+k=act.length)->(thin (fy cell) 0 0 act=(pl++(thin (fy cell) k sp (act.drop k)).1,lfx++(thin (fy cell) k sp (act.drop k)).2.1,fwx++(thin (fy cell) k sp (act.drop k)).2.2))->(fwx=[]->sp=0)->(fwx≠[]->fwx.getLast?=some (sp-1)/\sp≠0)->lfx.length<=k->pl.length<=k->fwx.length<=k->aS H' f dn rd lf la H.length bs' (s.puts pl) (left++lfx) act fwx H bs->[some (.lst f),some (.lst la),some (.int cell),some (.lst dn),some (.lst rd),some (.lst lf),some (.lst H.length),some (.int (k:Nat))]=x0->GJ)->GJ
def Aj.mk{cell:Int}(k sp:Nat)(pl lfx:List (Nat×Nat))(fwx bs':List Nat)(H':Hp)(hmk:m+k=act.length)(hth:thin (fy cell) 0 0 act=(pl++(thin (fy cell) k sp (act.drop k)).1,lfx++(thin (fy cell) k sp (act.drop k)).2.1,fwx++(thin (fy cell) k sp (act.drop k)).2.2))(hf0:fwx=[]->sp=0)(hf1:fwx≠[]->fwx.getLast?=some (sp-1)/\sp≠0)(hll:lfx.length<=k)(hpl:pl.length<=k)(hfl:fwx.length<=k)(T:aS H' f dn rd lf la H.length bs' (s.puts pl) (left++lfx) act fwx H bs):Aj H f dn rd la lf bs s left act cell m [some (.lst f),some (.lst la),some (.int cell),some (.lst dn),some (.lst rd),some (.lst lf),some (.lst H.length),some (.int (k:Nat))] H':=fun J kJ=>kJ k sp pl lfx fwx bs' hmk hth hf0 hf1 hll hpl hfl T rfl
def IB(hm:m=n-k)(hlt:k<n)(h:m<=m'):m-1<m'/\m-1+(k+1)=n:=by exact bo [_,_,_,_] [] 0x31868214a000c20500610000000d04294a000c20700610280308020000a5294001840b00c20400610100308000284000944118463294a50008102403080c01840400c20080a100025104611a08528003081201840000003410a5294a50008103003081a01840e00c20500810180308020000a528003081801840800c20000a10002510461 (Y6 (Y1 (Y2 V0 J1) V1) (Y2 (Y0 (Y2 V0 J1) (Y0 V2 J1)) V3)) (Y2 V0 (Y2 V3 V2)) (Y1 V2 V3) (Y0 V0 V1) hm hlt h
def zu{cell:Int}{pl lfx:List (Nat×Nat)}{Ex:SX}(hm:m=act.length-kk)(hx:act[kk]?=some x) (hth:thin (fy cell) 0 0 act=(pl++(thin (fy cell) (kk+1) (x+1) (act.drop (kk+1))).1,lfx++(thin (fy cell) (kk+1) (x+1) (act.drop (kk+1))).2.1,fwx++x::(thin (fy cell) (kk+1) (x+1) (act.drop (kk+1))).2.2)) (hll:lfx.length<=kk+1) (hpl:pl.length<=kk+1) (hfl:fwx.length<=kk) (hz:act.length<=64) (T:aS H3 f dn rd lf la H.length bs' (s.puts pl) (left++lfx) act fwx H bs) (hm':m<=m') :
  az (Calls c) true d none [.expr (.meth .append (.var 6) [(.idx (.var 1) (.var 7))]),.set 7 (.bin .add (.var 7) (.lit (.int 1)))] (cu (fun l' H''=>∃m,m<m'/\Aj H f dn rd la lf bs s left act cell m l' H'') Qx) Ex
   [some (.lst f),some (.lst la),some (.int cell),some (.lst dn),some (.lst rd),some (.lst lf),some (.lst H.length),some (.int (kk:Nat))] H3:=by
 have hlt:=dE hx;refine Ss_go ?_;walk_at "";refine⟨rfl,?_⟩;walk_at "";refine ae.mk (ji T.hact hx) ?_;walk_at "";refine ae.mk (kY T.hfw (by rw[ao];exact eJ hfl (cS hlt (aD hz (by decide))))) ?_;walk_at "";have hts:=IB hm hlt hm';refine⟨m-1,hts.1,.mk (kk+1) (x+1) pl lfx (fwx++[x]) bs' _ hts.2 (hth.trans (by rw[fQ];rfl)) (fun h=>absurd h (List.append_ne_nil_of_right_ne_nil _ (List.cons_ne_nil _ _)))
  (fun J=>⟨List.getLast?_concat,Nat.succ_ne_zero _⟩) hll hpl (by rw[bw];exact Nat.succ_le_succ hfl) T.push⟩
def HK(P:aM c "_law_thinner" 6 8 zN)(PP:aM c "_law_place" 5 6 pv){cell:Int} (B:aK H f dn rd bs s.lays s.done s.read) (L:bh n s js) (hn:n<=64) (ha:H[la]?=some (act.map nat)) (hlf:H[lf]?=some (left.map pr)) (nla:la∉f::dn::rd::bs) (nlf:lf∉f::dn::rd::bs) (hal:la≠lf) (hlt:∀p∈(thin (fy cell) 0 0 act).1,p.1<p.2/\p.2<n) (hz:act.length<=64) (hlz:left.length+act.length<=200) (hsz:s.lays.length<=800) (hc:q=true) (hq:∀bs' H' fw,aS H' f dn rd lf la fw bs' (s.puts (thin (fy cell) 0 0 act).1) (left++(thin (fy cell) 0 0 act).2.1) act (thin (fy cell) 0 0 act).2.2 H bs->Q (.lst fw) H') :
  Calls c q (d+2) "_law_thinner" [.lst f,.lst la,.int cell,.lst dn,.lst rd,.lst lf] none Q E H:=by
 subst hc;refine P true (d+1) _ Q E H rfl (Ss_go ?_);walk_at "";have hbs:=B.below;have n0:H.length∉f::dn::rd::bs:=fun h=>d4 _ (hbs _ h);refine⟨rfl,.mk (Aj H f dn rd la lf bs s left act cell) act.length (.mk 0 0 [] [] [] bs _ (Nat.add_zero _) rfl (fun J=>rfl) (fun h=>absurd rfl h) (aJ _) (aJ _) (aJ _)
  ⟨⟨B.keep fun x hx=>jc (hbs x hx),aa.refl.app,fun b hb=>.inl hb⟩,iE ha,(by rw[d5];exact iE hlf),aQ,nla,nlf,n0,hal,ck (dA ha),ck (dA hlf),aJ _⟩) ?_⟩
 intro m l' H' hI;refine hI _ fun k sp pl lfx fwx bs' hmk hth hf0 hf1 hll hpl hfl T wg=>?_;clear hI;subst wg;walk_at "";refine ae.mk (c6 T.hact) ?_;walk_at "";rw[ao];refine bV (fun hk=>?_) (fun hk=>?_)
 ·have hk:=bP.mp hk;have hx:=bt hk;have hm0:act.length-k<=m:=Nat.sub_le_of_le_add (eR hmk.symm);have hm1:act.length-(k+1)<=m:=aD (Nat.sub_le_sub_left (Nat.le_succ k) _) hm0;have hdr:=nX hk;generalize act[k]=x at hx hdr;refine Ss_go ?_;walk_at "";refine ae.mk (c6 T.hact) ?_;walk_at "";rw[ao];refine bV (fun hk1=>?_) (fun hk1=>?_)
  ·have hk1:k+1<act.length:=bP.mp hk1;have hy:=bt hk1;have hdr2:=nX hk1;generalize act[k+1]=y at hy hdr2;walk_at "";refine rT yZ ?_;walk_at "";refine fP (by decide) ?_;walk_at "";refine bV (fun hcn=>?_) (fun hcn=>?_)
   ·have hct:fy cell k=true:=decide_eq_true hcn;refine Ss_go ?_;walk_at "";refine ae.mk (ji T.hact hx) ?_;walk_at "";refine ae.mk (ji (i:=k+1) T.hact hy) ?_;walk_at "";rw[hdr,hdr2,C8,if_pos hct] at hth;have hplt:∀p∈pl,p.1<p.2/\p.2<n:=fun p hp=>hlt p (by rw[hth];exact List.mem_append_left _ hp);have hxy:=hlt (x,y) (by rw[hth];exact iK _ aI);have hpz:=vI L hplt;refine lb PP T.kept (L.puts hplt) hn (qW hpz hsz (aD hpl (aD (bO hk) hz))) hxy.1 hxy.2 rfl fun bs'' H'' K'' st'' new''=>?_;have T1:=T.place K'' st'' new'';rw[show(s.puts pl).put (x,y)=s.puts (pl++[(x,y)]) by rw[PS.puts_append];rfl] at T1;have T2:=T1.more (xs:=[]);refine Then_go (Ss_go ?_);walk_at "";refine ae.mk (jS (kM T2.hfw (ys:=[]) aQ)) ?_;have hpl':(pl++[(x,y)]).length<=k+1+1:=by rw[bw];exact iC (Nat.succ_le_succ hpl)
    refine pO (fun hfw=>?_) (fun hfw=>?_)
    ·obtain⟨hlast,hs0⟩:=hf1 hfw;refine Ss_go ?_;walk_at "";refine⟨rfl,?_⟩;walk_at "";refine ae.mk (F7 T2.hfw (by rw[List.getLast?_map,hlast];rfl)) ?_;walk_at "";refine ae.mk (ji T2.hact hx) ?_;walk_at "";refine ae.mk (kY T2.hleft (by rw[ao,bw];exact eJ (Nat.add_le_add_left (aD hll (bO hk)) _) (eJ hlz (by decide)))) ?_;have T3:=T2.leave (p:=(sp-1,x));rw[fQ] at T3;walk_at "";refine zu (kk:=k+1) rfl hy ?_ (by rw[bw];exact iC (Nat.succ_le_succ hll)) hpl' (iC hfl) hz T3 hm1;rw[hth,if_neg hs0,fQ,fQ];rfl
    ·have hs0:=hf0 hfw;walk_at "";refine zu (kk:=k+1) rfl hy ?_ (aD hll (gM _ 2)) hpl' (iC hfl) hz T2 hm1;rw[hth,hs0,fQ];rfl
   ·have hct:¬fy cell k=true:=fun h=>hcn (of_decide_eq_true h);walk_at "";refine zu rfl hx ?_ (iC hll) (iC hpl) hfl hz T hm0;rw[hth,hdr,hdr2,C8,if_neg hct]
  ·have hk1:¬k+1<act.length:=fun h=>hk1 (bP.mpr h);walk_at "";refine zu rfl hx ?_ (iC hll) (iC hpl) hfl hz T hm0;rw[hth,hdr,List.drop_eq_nil_of_le (fE hk1)];rfl
 ·have hk:=fE fun h=>hk (bP.mpr h);walk_at "";rw[List.drop_eq_nil_of_le hk] at hth;have hth:_=(pl,lfx,fwx):=hth.trans (by rw[jW,d5,d5,d5]);rw[hth] at hq;exact hq bs' _ _ T
variable {Q:List V->Hp->Prop}{f:V->List V->(List V->Hp->Prop)->Hp->Prop}{p:Nat×List Nat}
section
variable {Q:V->Hp->Prop}
def vf{a b:Int}(hb:small b=true)(h:K (.int (a*b),H)):ae (bL H .mul (.int a) (.int b)) K:=
 ae.mk (if_pos (by rw[hb,Bool.or_true])) h
def qT(n:Nat):eQ 0 (n:Int) 1=(List.range n).map nat:=by
 have:(if 0<(1:Int)/\0<(n:Int) then(((n:Int)-0-1)/1+1).toNat else 0)=n:=by
  split<;>(first |exact ay [_,_] [_,_] 0x1904294001840300c2008000210a5294001840500c202006100803080000808041084294a50006101c04080801840200c200806010080210a529400184050102020081008030802008080 (Y2 V0 V1) (Y7 (Y5 (Y4 V0 J0) (Y0 V0 J1)) (Y6 (Y3 (Y0 V0 J1) J0) (Y2 V0 J0))) (Y6 (Y5 (Y0 (Y1 J1 V0) V1) (Y2 (Y2 (Y4 V1 J0) J0) J1)) (Y6 (Y3 J0 V1) (Y4 V1 J1))) (Ar.tn _) (Ar.zd _ (k:=1) (by decide)) |exact aj [_] [] 0x3140018400020a50006100403080002800308000 (Y2 J0 V0) (Y8 (Y6 (Y4 J0 J1) (Y4 J0 (Y4 V0 J0))) J0) (by assumption))
 rw[eQ,this];refine List.map_congr_left fun i J=>?_;rw[Int.mul_one,Int.zero_add];rfl
def nw(h:n<100000):dp true (ba H .range [.int n])=some (.rng 0 n 1,H):=if_pos (show(n:Int).natAbs<2^31 by exact aj [_] [] kaa (Y1 V0 (.l 2147483648)) (Y1 V0 (.l 100000)) h)
def B6(h:n<100000):dp true (ba H .list [.rng 0 n 1])=some (.lst H.length,H++[(List.range n).map nat]):=by
 rw[<- qT];exact if_pos (by rw[qT,ao,di];exact bO (cN h (by decide)))
def u3(h:H[a]?=some xs):dp true (ba H .list [.lst a])=some (.lst H.length,H++[xs]):=by
 show(H[a]?).map _=_;rw[h];rfl
theorem zZ(x:α):∀n,rep [x] n=List.replicate n x
 |0=>rfl
 |n+1=>congrArg (x::·) (zZ x n)
def mul_zero(h:H[a]?=some [V.int 0])(hn:n<100000):bL H .mul (.lst a) (.int n)=some (.lst H.length,H++[(List.replicate n 0).map nat]):=by
 show(H[a]?).bind _=_;rw[h];have h2:(n:Int).toNat*[V.int 0].length<=qag:=by
  rw[jV];exact aD (eR (Nat.mul_one n)) (bO (cN hn (by decide)))
 refine(if_pos ⟨iS n,c7.mpr (aD (bO hn) (by decide)),h2⟩).trans ?_
 ·rw[jV,zZ,List.map_replicate];rfl
def ma{ys:List V}(ha:H[a]?=some xs)(hb:H[b]?=some ys)(hz:xs.length+ys.length<100000):bL H .add (.lst a) (.lst b)=some (.lst H.length,H++[xs++ys]):=by
 show(H[a]?).bind _=_;rw[ha];show(H[b]?).bind _=_;rw[hb];exact if_pos (bO (cN hz (by decide)))
def DG:qd (i:Int) n=min i n:=by
 rw[qd,if_neg (Int.not_lt.mpr (iS i)),jV]
def zU (ha:H[a]?=some xs):vg H (.lst a) .none (.int i)=some (.lst H.length,H++[xs.take i]):=by
 show(H[a]?).bind _=_;rw[ha,List.take_eq_take_min,<-DG];rfl
def xf(ha:H[a]?=some xs):vg H (.lst a) (.int i) .none=some (.lst H.length,H++[xs.drop i]):=by
 show(H[a]?).bind _=_;rw[ha];show some (V.lst H.length,H++[(xs.drop (qd i xs.length)).take (xs.length-qd i xs.length)])=_;rw[DG,List.take_of_length_le (by rw[gF];exact aJ _)];by_cases h:i<=xs.length
 ·rw[Nat.min_eq_left h]
 ·have h:=Nat.le_of_not_le h;rw[Nat.min_eq_right h,List.drop_of_length_le (aJ _),List.drop_of_length_le h]
end
structure Rows(H H':Hp)(cs:List Nat)(ys:List (List V)):Prop where
 st:aa [] H H'
 len:cs.length=ys.length
 hold:∀(i b:Nat) (y:List V),cs[i]?=some b->ys[i]?=some y->H'[b]?=some y
 fr:∀b∈cs,H.length<=b/\b<H'.length
 nd:cs.Nodup
def Rows.nil:Rows H H [] []:=⟨aa.refl,rfl,(fun J J J h=>nomatch h),(fun J h=>nomatch h),nB⟩
def aC(st:aa [] H H')(h:H[a]?=some xs):H'[a]?=some xs:=st.at h fX
def aa.trans0(h:aa [] H H')(h':aa [] H' H''):aa [] H H'':=h.trans h' fun J m=>nomatch m
def Rows.snoc{y:List V}(R:Rows H H' cs ys)(st:aa [] H' H'')(hb:H''[b]?=some y)(hn:H'.length<=b):Rows H H'' (cs++[b]) (ys++[y]):=by
 refine⟨R.st.trans0 st,?_,fun i b' y' h1 h2=>?_,fun b' hb'=>?_,?_⟩
 ·rw[bw,bw,R.len];rfl
 ·rcases nP h1 with h1 |⟨e,rfl⟩
  ·rcases nP h2 with h2 |⟨e,rfl⟩
   ·exact aC st (R.hold i b' y' h1 h2)
   ·exact absurd (dE h1) (by rw[e,R.len];exact d4 _)
  ·rcases nP h2 with h2 |⟨_,rfl⟩
   ·exact absurd (dE h2) (by rw[e,R.len];exact d4 _)
   ·exact hb
 ·rcases bJ.mp hb' with h |h
  ·exact⟨(R.fr b' h).1,cS (R.fr b' h).2 st.len⟩
  ·rw[aN.mp h];exact⟨aD R.st.len hn,dA hb⟩
 ·refine og.mpr ⟨R.nd,lX.mpr ⟨fX,nB⟩,fun x hx z hz=>?_⟩;rw[aN.mp hz];exact ck (cS (R.fr x hx).2 hn)
def uN{ok:Hp->Prop}(ys:List (List V))(wq:items.length=ys.length) (step:∀(i:Nat) x y acc H' (K:List V->Hp->Prop),items[i]?=some x->ys[i]?=some y->aa [] H H'->(∀b H'',aa [] H' H''->H''[b]?=some y->H'.length<=b->K (acc++[.lst b]) H'')->f x acc K H') (hok:∀H',aa [] H H'->ok H') (hend:∀cs H',Rows H H' cs ys->Q (cs.map .lst) H'):gH ok f items [] Q H:=by
 refine vn (I:=fun i acc H'=>∃cs,acc=cs.map V.lst/\Rows H H' cs (ys.take i)) (fun i x acc H' K hx hI hK=>?_) (fun acc H' hI=>?_) ⟨[],rfl,Rows.nil⟩
 ·obtain⟨cs,rfl,R⟩:=hI;have hi:i<ys.length:=wq▸dE hx;have hy:=bt hi;refine step i x _ _ H' K hx hy R.st fun b H'' st hb hn=>?_;have R':=R.snoc st hb hn;refine hK _ _ (hok _ R'.st) ⟨cs++[b],by rw[bT];rfl,?_⟩;rw[List.take_add_one,hy];exact R'
 ·obtain⟨cs,rfl,R⟩:=hI;rw[wq,List.take_length] at R;exact hend cs H' R
theorem Rows.net{net:Net}(R:Rows H H' cs (net.map fun y=>y.map pr)):ag (H'++[cs.map .lst]) H'.length cs net:=
 ⟨aQ,R.len.trans (ao ..),fun i b y h1 h2=>iE (R.hold i b _ h1 (by rw[br,h2];rfl))⟩
variable {E:SX}{f:Nat}
structure aW(H0 H:Hp)(f dn rd lf:Nat)(bs:List Nat)(s:PS)(left:List (Nat×Nat)):Prop where
 build:aK H f dn rd bs s.lays s.done s.read
 hleft:H[lf]?=some (left.map pr)
 nlf:lf∉f::dn::rd::bs
 stay:aa [] H0 H
 fresh:∀b∈f::dn::rd::bs,H0.length<=b
 freshL:H0.length<=lf
structure cX(H:Hp)(g:Nat)(rs:List Nat)(gs:List (List Nat)):Prop where
 top:H[g]?=some (rs.map .lst)
 len:rs.length=gs.length
 gr:∀(i r:Nat) (y:List Nat),rs[i]?=some r->gs[i]?=some y->H[r]?=some (y.map nat)
section
variable {left':List (Nat×Nat)}
def aW.freshB(T:aW H0 H f dn rd lf bs s left)(hnew:∀b∈bs',b∈bs\/H.length<=b):∀b∈f::dn::rd::bs',H0.length<=b:=
 pg (T.fresh _ m1) (T.fresh _ m2) (T.fresh _ m3) fun b hb=>(hnew b hb).elim (fun h=>T.fresh _ (m4 h)) fun h=>aD T.stay.len h
def aW.place(T:aW H0 H f dn rd lf bs s left)(B:aK H' f dn rd bs' s'.lays s'.done s'.read)(st:aa (f::dn::rd::bs) H H')(hnew:∀b∈bs',b∈bs\/H.length<=b):aW H0 H' f dn rd lf bs' s' left:=
 ⟨B,st.at T.hleft T.nlf,nA (dA T.hleft) T.nlf hnew,T.stay.trans st fun x hx=>.inr (T.fresh x hx),T.freshB hnew,T.freshL⟩
def aW.thin(T:aW H0 H f dn rd lf bs s left)(K:aS H' f dn rd lf la fw bs' s' left' act fwx H bs):aW H0 H' f dn rd lf bs' s' left':=
 ⟨K.kept.build,K.hleft,K.nlf,T.stay.trans K.kept.stay fun x hx=>.inr ((bj.mp hx).elim (fun e=>e▸T.freshL) (T.fresh x)),T.freshB K.kept.new,T.freshL⟩
def zf(f dn rd:Nat)(bs rs:List Nat):Prop:=∀r∈rs,r∉f::dn::rd::bs
def cX.lt(G:cX H g rs gs):∀r∈rs,r<H.length:=by
 intro r hr;obtain⟨i,hi,rfl⟩:=q9.mp hr;exact dA (G.gr i _ _ (bt hi) (bt (G.len▸hi)))
def cX.stay(G:cX H g rs gs)(st:aa (f::dn::rd::bs) H H')(ap:zf f dn rd bs (g::rs)):cX H' g rs gs:=
 ⟨st.at G.top (ap g aI),G.len,fun i r y h1 h2=>st.at (G.gr i r y h1 h2) (ap r (a0 _ (bG h1)))⟩
end
noncomputable def yk:List St:=[.ret (.comp (.comp (.tup [.wx 15,.wx 14]) (.two 14 15) (.blt .sorted [.wx 13]) []) (.one 13) (.wx 2) [])]
noncomputable def zc:List St:=.loop (.two 12 10) (.rev (.wx 3)) [.expr (.call "_law_place" [.wx 2,.wx 12,.wx 10,.wx 4,.wx 5])]::yk
noncomputable def Dh:List St:=[.set 0 (.bin .mod (.bin .mul (.wx 0) (.ww 16807)) (.ww 2147483647)),.set 9 (.idx (.list [.bin .mod (.bin .div (.wx 0) (.ww 3)) (.bin .sub (.blt .len [.wx 8]) (.ww 1)),.ww 0,.bin .sub (.blt .len [.wx 8]) (.ww 2)]) (.bin .mod (.wx 0) (.ww 3))),.loop (.one 10) (.val (.idx (.wx 8) (.bin .add (.wx 9) (.ww 1)))) [.expr (.call "_law_place" [.wx 2,.idx (.idx (.wx 8) (.wx 9)) (.neg (.ww 1)),.wx 10,.wx 4,.wx 5])],.set 11 (.bin .add (.idx (.wx 8) (.wx 9)) (.idx (.wx 8) (.bin .add (.wx 9) (.ww 1)))),.set 8 (.bin .add (.bin .add (.slice (.wx 8) (.lit .none) (.wx 9)) (.list [.wx 11])) (.slice (.wx 8) (.bin .add (.wx 9) (.ww 2)) (.lit .none)))]
noncomputable def zh:List St:=.whil (.cmp (.blt .len [.wx 8]) [.gt] [.ww 1]) Dh::zc
noncomputable def yw:List St:=.set 8 (.comp (.list [.wx 13]) (.one 13) (.wx 6) [])::zh
noncomputable def telT:List St:=.loop (.one 7) (.val (.blt .range [.bin .mod (.wx 0) (.ww 4)])) [.set 6 (.call "_law_thinner" [.wx 2,.wx 6,.bin .div (.bin .div (.wx 0) (.ww 4)) (.bin .add (.ww 1) (.wx 7)),.wx 4,.wx 5,.wx 3])]::yw
theorem uO:BG=.set 0 (.bin .mod (.bin .mul (.var 0) (.lit (.int 48271))) (.lit (.int 2147483647)))::.set 2 (.list [])::.set 3 (.list [])::.set 4 (.bin .mul (.list [(.lit (.int 0))]) (.var 1))::.set 5 (.bin .mul (.list [(.lit (.int 0))]) (.var 1))::.set 6 (.blt .list [(.blt .range [(.var 1)])])::telT:=rfl
noncomputable def sw(p:Nat×Nat):Int×Int:=(p.2,p.1)
theorem DE:∀z:List (Nat×Nat),vX (z.map fl)=some (z.map sw)
 |[]=>rfl
 |p::r=>by
  show(vX (r.map fl)).map _=_;rw[DE r];rfl
def IW:decide ((a:Int)<b)=decide (a<b):=decide_eq_decide.mpr bP
def Jw:decide ((a:Int)<=b)=decide (a<=b):=decide_eq_decide.mpr c7
def w8 (a b:Nat×Nat):fu a b=i7 (sw a) (sw b):=by
 refine Eq.symm ((show _=(decide ((a.2:Int)<b.2)||(decide ((a.2:Int)=b.2)&&decide ((a.1:Int)<=b.1))) from rfl).trans ?_);rw[IW,wG,Jw];rfl
theorem Ki(hb:H[b]?=some (y.map fl))(hy:∀p∈y,p.1<p.2/\p.2<n)(hn:n<=64)(hnd:(y.map (·.2)).Nodup):dp true (ba H .sorted [.lst b])=some (.lst H.length,H++[(i5 y).map fl]):=by
 have hlt:y.length<64:=by
  have:=xQ (n:=n-1) (xs:=y.map fun p=>p.2-1) ?_ ?_
  ·rw[ao] at this;cases y with
   |nil=>decide
   |cons p r=>have:=hy p aI;exact ay [_,_] [] 0x68214a528003080c01840800c201806100000014a528003080801840500c20300610000508021 (Y1 V0 (.l 64)) (Y0 V1 (.l 64)) (Y0 V0 (Y2 V1 J1)) hn (by assumption)
  ·refine List.pairwise_map.mpr ((List.pairwise_map.mp hnd).imp_of_mem ?_);intro a b ha hb hne;have:=hy a ha;have:=hy b hb;exact bo [_,_,_,_,_] [] 0x38d03210a5294a000c206806102803080801840200c2008080400a100023214a528003081001840400c20100610000801420004a10042340c84214a5294001840c00c20300810100308040184010180c0200508021190a5294001840800c20200610080408000400a10042508001 (Y8 (Y2 (Y2 V0 J1) (Y2 V1 J1)) J0) (Y8 (Y2 V0 V1) J0) (Y1 V2 V1) (Y6 (Y1 V3 V0) (Y1 V0 V4)) hne this.1 (by assumption)
  ·intro x hx;revert hx;refine xL fun p hp wj=>?_;subst wj;have:=hy p hp;exact ay [_,_,_] [] 0x1a064294a528003081201840a00c205806100c0308020180a100423294a50006101c03081201840300c20080a10042508001 (Y1 (Y2 V0 J1) (Y2 V1 J1)) (Y1 V2 V0) (Y1 V0 V1) this.1 this.2
 have e2:xc (y.map sw)=true:=by
  refine gd.mpr ⟨gd.mpr ⟨decide_eq_true (by rw[ao];exact hlt),decide_eq_true ?_⟩,dg.mpr ?_⟩
  ·exact List.pairwise_map.mpr ((List.pairwise_map.mp hnd).imp fun hne e=>hne (Int.ofNat_inj.mp (congrArg Prod.fst e)))
  ·intro x hx;revert hx;refine xL fun p hp wj=>?_;subst wj;have h2:=cS (hy p hp).2 hn;exact gd.mpr ⟨decide_eq_true (cN h2 (by decide)),decide_eq_true (cN (cN (hy p hp).1 h2) (by decide))⟩
 have e3:((y.map sw).mergeSort i7).map ju=(i5 y).map fl:=by
  rw[<- List.map_mergeSort (r:=fu) (s:=i7) (f:=sw) (l:=y) (fun a J b J=>w8 a b),d8];rfl
 show(H[b]?).bind _=_;rw[hb];show(vX (y.map fl)).bind _=_;rw[DE,<-e3];exact if_pos e2
def gu(h:H[a]?=some xs):dp true (d0 H (.lst a))=some xs:=h
def dU(h:n<100000):n<=qag:=bO (cN h (by decide))
def qy{l3 l4 l5:Option V}(B:aK H f dn rd bs s.lays s.done s.read)(L:bh n s js)(hn:n<=64)(hz:s.lays.length<=900) (hq:∀a bs' H' l',ag H' a bs' (s.lays.map i5)->aa [] H H'->(∀b∈a::bs',H.length<=b)->(a::bs').Nodup->R (.ret (.lst a)) l' H') :
  az (Calls c) true d none yk R E [l0,l1,some (.lst f),l3,l4,l5,l6,l7,l8,l9,l10,l11,l12,l13,l14,l15] H:=by
 refine Ss_go ?_;walk_at "";refine ae.mk (gu B.F) ⟨dU (by rw[ao,B.len];exact aj [_] [] kaa (Y1 V0 (.l 100000)) (Y0 V0 (.l 900)) hz),?_⟩;refine uN ((s.lays.map i5).map fun y=>y.map pr) ?_ ?_ (fun H' st=>aC st B.F) ?_
 ·rw[ao,ao,ao,B.len]
 ·intro i x y' acc H' K hx hy' st hK;rw[d8,br] at hy';revert hy';refine xM fun y hy wj=>?_;subst wj;rw[br] at hx;revert hx;refine xM fun b hb wj=>?_;subst wj;have hm:=bG hy;have hyz:=L.wide y hm;walk_at "";refine ae.mk (Ki (aC st (B.L i b y hb hy)) (fun p hp=>(L.hi i y hy p hp).2.2) hn (L.nd y hm)) ?_;walk_at "";refine ae.mk (gu aQ) ⟨dU (by rw[ao,<-(wF y).length_eq];exact ay [_,_] [] kab (Y1 V0 (.l 100000)) (Y0 V1 (.l 64)) (Y0 V0 V1) hn hyz),?_⟩;refine vn (I:=fun j acc2 H2=>H2=H'++[(i5 y).map fl]/\acc2=((i5 y).take j).map pr) ?_ ?_ ⟨rfl,rfl⟩
  ·rintro j x2 acc2 H2 K2 hx2 ⟨rfl,rfl⟩ hK2;rw[br] at hx2;revert hx2;refine xM fun p hp wj=>?_;subst wj;unfold fl;walk_at "";refine hK2 _ _ aQ ⟨rfl,?_⟩;rw[List.take_add_one,hp,bT];rfl
  ·rintro acc2 H2 ⟨rfl,rfl⟩;rw[ao,List.take_length];exact hK _ _ aa.refl.app.app aQ (aa.refl (S:=[])).app.len
 ·intro cs H' RR;exact hq _ cs _ _ RR.net RR.st.app (eh.mpr ⟨RR.st.len,fun b hb=>(RR.fr b hb).1⟩) (lX.mpr ⟨fun h=>d4 _ (RR.fr _ h).2,RR.nd⟩)
variable {b y:List Nat}
structure gT(H:Hp)(a:Nat)(xs:List V)(H':Hp):Prop where
 st:aa [] H H'
 hold:H'[a]?=some xs
 lo:H.length<=a
def gT.mk0:gT H H.length xs (H++[xs]):=⟨aa.refl.app,aQ,aJ _⟩
def cj(h:o=some (.lst H.length,H++[xs]))(k:∀a H',gT H a xs H'->K (.lst a,H')):ae o K:=ae.mk h (k _ _ .mk0)
def aW.grow(T:aW H0 H f dn rd lf bs s left)(st:aa [] H H'):aW H0 H' f dn rd lf bs s left:=
 ⟨T.build.keep fun x hx=>st.same x (T.build.below x hx) fX,aC st T.hleft,T.nlf,T.stay.trans0 st,T.fresh,T.freshL⟩
def pT(H0:Hp)(f dn rd lf:Nat)(s:PS)(left:List (Nat×Nat))(l0 l1 l6 l7 l8 l9 l11 l13 l14 l15:Option V)(r:List (Nat×Nat))(x1:Loc)(H:Hp):Prop:=∀GJ:Prop,(∀(ks:List (Nat×Nat)),∀(v10 v12:Option V),∀(bs:List Nat),(ks++r=left.reverse)->aW H0 H f dn rd lf bs (s.puts ks) left->[l0,l1,some (.lst f),some (.lst lf),some (.lst dn),some (.lst rd),l6,l7,l8,l9,v10,l11,v12,l13,l14,l15]=x1->GJ)->GJ
def qz(PP:aM c "_law_place" 5 6 pv)(T:aW H0 H f dn rd lf bs s left)(L:bh n s js)(hn:n<=64)(hz:s.lays.length+left.length<=800) (hlt:∀p∈left.reverse,p.1<p.2/\p.2<n) (hq:∀a bs' H' l',ag H' a bs' ((s.puts left.reverse).lays.map i5)->aa [] H0 H'->(∀b∈a::bs',H0.length<=b)->(a::bs').Nodup->R (.ret (.lst a)) l' H') :
  az (Calls c) true (d+1) none zc R E [l0,l1,some (.lst f),some (.lst lf),some (.lst dn),some (.lst rd),l6,l7,l8,l9,l10,l11,l12,l13,l14,l15] H:=by
 refine Ss_go ?_;walk_at "";refine⟨rfl,um (a:=lf) (items:=left.map pr) (fun K E' h=>h) T.hleft ?_⟩;rw[<- List.map_reverse];refine sD (pT H0 f dn rd lf s left l0 l1 l6 l7 l8 l9 l11 l13 l14 l15) ?_ ?_ (fun J kJ=>kJ [] _ _ bs rfl T rfl)
 ·intro p r l' H' K hI hnext hret;refine hI _ fun ks v10 v12 bs he T wg=>?_;clear hI;subst wg;have hpm:=hlt p (by rw[<- he];exact iK _ aI);have htk:∀p∈ks,p.1<p.2/\p.2<n:=fun p hp=>hlt p (by rw[<- he];exact List.mem_append_left _ hp);have wq:=vI L htk;have hl:=congrArg List.length he;rw[bw,List.length_reverse] at hl;refine ae.mk rfl (Ss_go ?_);walk_at "";refine lb PP (H0:=H') (bs0:=bs) (X:=[]) ⟨T.build,aa.refl,fun b hb=>.inl hb⟩ (L.puts htk) hn (by exact bo [_,_,_,_,_] [] kai (Y1 V0 (.l 900)) (Y0 (Y0 V1 V2) (.l 800)) (Y0 V0 (Y0 V1 V3)) (Y2 (Y0 V3 V4) V2) hz wq hl) hpm.1 hpm.2 rfl fun bs'' H'' K'' st'' new''=>?_;have T2:=T.place K''.build st'' new'';rw[show(s.puts ks).put (p.1,p.2)=s.puts (ks++[p]) by rw[PS.puts_append];rfl] at T2;exact hnext _ _ T2.hleft (fun J kJ=>kJ (ks++[p]) _ _ bs'' (by rw[fQ];exact he) T2 rfl)
 ·intro l' H' hI;refine hI _ fun ks v10 v12 bs he T wg=>?_;clear hI;subst wg;rw[d5] at he;subst he;have wq:=vI L hlt;rw[List.length_reverse] at wq;exact qy T.build (L.puts hlt) hn (by exact ay [_,_,_] [] kab (Y0 V0 (.l 900)) (Y0 (Y0 V1 V2) (.l 800)) (Y0 V0 (Y0 V1 V2)) hz wq) fun a cs H'' l'' N st fr nd=>hq a cs H'' l'' N (T.stay.trans0 st) (fun b hb=>aD T.stay.len (fr b hb)) nd
structure d9(H:Hp)(f dn rd g:Nat)(bs rs:List Nat)(gs:List (List Nat)):Prop where
 gr:cX H g rs gs
 apart:zf f dn rd bs (g::rs)
def cX.grow(G:cX H g rs gs)(st:aa [] H H'):cX H' g rs gs:=⟨aC st G.top,G.len,fun i r y h1 h2=>aC st (G.gr i r y h1 h2)⟩
def d9.grow(G:d9 H f dn rd g bs rs gs)(st:aa [] H H'):d9 H' f dn rd g bs rs gs:=⟨G.gr.grow st,G.apart⟩
def d9.place(G:d9 H f dn rd g bs rs gs)(st:aa (f::dn::rd::bs) H H')(hnew:∀b∈bs',b∈bs\/H.length<=b):d9 H' f dn rd g bs' rs gs:=
 ⟨G.gr.stay st G.apart,fun r hr=>nA ((bj.mp hr).elim (fun e=>e▸dA G.gr.top) (G.gr.lt r)) (G.apart r hr) hnew⟩
inductive wU(H:Hp)(g i:Nat)(rs:List Nat)(y:List Nat):Prop
 |mk (r:Nat)(hr:rs[i]?=some r)(hold:H[r]?=some (y.map nat))(ix:cA H (.lst g) (.int i)=some (.lst r)):wU H g i rs y
def cX.at(G:cX H g rs gs)(h:gs[i]?=some y):wU H g i rs y:=
 have hr:=bt (show i<rs.length from G.len▸dE h)
 ⟨_,hr,G.gr i _ y hr h,cZ G.top (xJ hr)⟩
def cX.merge{g':Nat}(G:cX H g rs gs)(hi:i+1<gs.length)(hM:H[M]?=some (y.map nat))(top:H[g']?=some ((rs.take i++M::rs.drop (i+2)).map V.lst)) :
  cX H g' (rs.take i++M::rs.drop (i+2)) (gs.take i++y::gs.drop (i+2)):=by
 have hl:=G.len;have hle:=bO (Nat.lt_of_succ_lt hi);have l1:(rs.take i).length=i:=List.length_take_of_le (aD hle (eR hl.symm));have l2:(gs.take i).length=i:=List.length_take_of_le hle;refine⟨top,?_,fun j r z h1 h2=>?_⟩
 ·rw[bw,bw,l1,l2,fO,fO,gF,gF,hl]
 rcases Nat.lt_trichotomy j i with h |h |h
 ·rw[jc (by rw[l1];exact h),List.getElem?_take,if_pos h] at h1;rw[jc (by rw[l2];exact h),List.getElem?_take,if_pos h] at h2;exact G.gr j r z h1 h2
 ·subst h;rw[iH (by rw[l1];exact aJ _),l1,Nat.sub_self] at h1;rw[iH (by rw[l2];exact aJ _),l2,Nat.sub_self] at h2;(injection h1 with Ja;subst Ja);(injection h2 with Ja;subst Ja);exact hM
 ·rw[iH (by rw[l1];exact bO h),l1,show j-i=(j-i-1)+1 from(Nat.sub_add_cancel (Nat.sub_pos_of_lt h)).symm,List.getElem?_cons_succ,List.getElem?_drop] at h1;rw[iH (by rw[l2];exact bO h),l2,show j-i=(j-i-1)+1 from(Nat.sub_add_cancel (Nat.sub_pos_of_lt h)).symm,List.getElem?_cons_succ,List.getElem?_drop] at h2;exact G.gr _ r z h1 h2
def Ca(h:t<3):t=0\/t=1\/t=2:=(Nat.lt_succ_iff_lt_or_eq.mp h).elim (fun h=>(Nat.lt_succ_iff_lt_or_eq.mp h).elim (fun h=>.inl (Nat.lt_one_iff.mp h)) fun h=>.inr (.inl h)) fun h=>.inr (.inr h)
def yM(hcl:0<=cl)(hm:2<=m):∃i:Nat,i+1<m/\cA (H++[[V.int (cl/3%((m:Int)-1)),V.int 0,V.int ((m:Int)-2)]]) (.lst H.length) (.int (cl%3))=some (.int i):=by
 obtain⟨t,h⟩:=wV (x:=cl) (y:=3) (by decide);have ht:t<3:=bP.mp (h▸Int.emod_lt_of_pos cl (by decide));have hp:(0:Int)<(m:Int)-1:=Int.sub_pos_of_lt (bP.mpr hm);rw[h];rcases Ca ht with rfl |rfl |rfl
 ·skip;have a1:0<=cl/3%((m:Int)-1):=Int.emod_nonneg _ (Int.ne_of_gt hp);have a2:cl/3%((m:Int)-1)<(m:Int)-1:=Int.emod_lt_of_pos _ hp;refine⟨(cl/3%((m:Int)-1)).toNat,by exact bo [_,_] [_] 0x490a528003080601840400c2008000294a000c200806100c0308000 (Y1 (Y0 V0 J1) V1) (Y0 J2 V1) (Y4 V0 (Y2 (Y4 V1 J0) J1)) (Y7 (Y5 (Y4 V0 J0) V0) (Y6 (Y3 V0 J0) (Y2 V0 J0))) hm a2 (Ar.tn _),?_⟩;rw[Int.toNat_of_nonneg a1];exact cZ aQ rfl
 ·exact⟨0,hm,cZ aQ rfl⟩
 ·refine⟨m-2,Nat.lt_of_lt_of_eq (Nat.lt_succ_self _) (Nat.sub_add_cancel hm),?_⟩;rw[show((m-2:Nat):Int)=(m:Int)-2 from Int.ofNat_sub hm];exact cZ aQ rfl
theorem Fn:∀{gs:List (List Nat)} {s:Nat},iq B s gs->∀g∈gs,g.Nodup
 |[],_,_,_,hg=>nomatch hg
 |_::_,_,h,g',hg'=>(bj.mp hg').elim (fun e=>e▸BC h.2.1) (h.2.2.elim fun J q=>Fn q.2 g')
def dD.short (I:dD n M s left gs) (hg:y∈gs):y.length<=n:=by
 obtain⟨_,B1,_,_,C1,_⟩:=I.ex;exact xQ (Fn C1 y hg) (I.lt y hg)
def CK(H0:Hp)(f dn rd lf n:Nat)(left:List (Nat×Nat))(l1 l6 l7 l12 l13 l14 l15:Option V)(m:Nat)(x0:Loc)(H:Hp):Prop:=∀GJ:Prop,(∀(cl:Int),∀(g:Nat),∀(bs rs:List Nat),∀(s:PS),∀(gs:List (List Nat)),∀(v9 v10 v11:Option V),(m=gs.length)->0<=cl->aW H0 H f dn rd lf bs s left->d9 H f dn rd g bs rs gs->dD n (n+3) s left gs->[some (.int cl),l1,some (.lst f),some (.lst lf),some (.lst dn),some (.lst rd),l6,l7,some (.lst g),v9,v10,v11,l12,l13,l14,l15]=x0->GJ)->GJ
def CK.mk(cl:Int)(g:Nat)(bs rs:List Nat)(s:PS)(gs:List (List Nat))(v9 v10 v11:Option V)(H:Hp)(hm:m=gs.length)(hcl:0<=cl)(T:aW H0 H f dn rd lf bs s left)(G:d9 H f dn rd g bs rs gs)(I:dD n (n+3) s left gs):CK H0 f dn rd lf n left l1 l6 l7 l12 l13 l14 l15 m [some (.int cl),l1,some (.lst f),some (.lst lf),some (.lst dn),some (.lst rd),l6,l7,some (.lst g),v9,v10,v11,l12,l13,l14,l15] H:=fun J kJ=>kJ cl g bs rs s gs v9 v10 v11 hm hcl T G I rfl
def AC(H0:Hp)(f dn rd lf g:Nat)(rs:List Nat)(s:PS)(left:List (Nat×Nat))(gs:List (List Nat))(mm:Nat)(b:List Nat)(l0 l1 l6 l7 l9 l11 l12 l13 l14 l15:Option V)(r:List Nat)(x1:Loc)(H:Hp):Prop:=∀GJ:Prop,(∀(ks:List Nat),∀(v10:Option V),∀(bs:List Nat),(ks++r=b)->(aW H0 H f dn rd lf bs (s.puts (ks.map fun y=>(mm,y))) left)->d9 H f dn rd g bs rs gs->[l0,l1,some (.lst f),some (.lst lf),some (.lst dn),some (.lst rd),l6,l7,some (.lst g),l9,v10,l11,l12,l13,l14,l15]=x1->GJ)->GJ
def AC.mk(r ks:List Nat)(v10:Option V)(bs:List Nat)(H:Hp)(he:ks++r=b)(T:aW H0 H f dn rd lf bs (s.puts (ks.map fun y=>(mm,y))) left)(G:d9 H f dn rd g bs rs gs):AC H0 f dn rd lf g rs s left gs mm b l0 l1 l6 l7 l9 l11 l12 l13 l14 l15 r [l0,l1,some (.lst f),some (.lst lf),some (.lst dn),some (.lst rd),l6,l7,some (.lst g),l9,v10,l11,l12,l13,l14,l15] H:=fun J kJ=>kJ ks v10 bs he T G rfl
variable {b:Nat}{xs:List Nat}{y:List (Nat×Nat)}
def sG{gs:List α}{a b:α}(ha:gs[i]?=some a)(hb:gs[i+1]?=some b):gs=gs.take i++a::b::gs.drop (i+2):=by
 obtain⟨h1,rfl⟩:=gW.mp ha;obtain⟨h2,rfl⟩:=gW.mp hb;rw[<- nX h2,<-nX h1,List.take_append_drop]
def oE(PP:aM c "_law_place" 5 6 pv)(hn:n<=64)(hcl:0<=cl)(T:aW H0 H f dn rd lf bs s left)(G:d9 H f dn rd g bs rs gs)(I:dD n (n+3) s left gs) (hq:∀a bs' H' l' net,eT n net->ag H' a bs' net->aa [] H0 H'->(∀b∈a::bs',H0.length<=b)->(a::bs').Nodup->R (.ret (.lst a)) l' H') :
  az (Calls c) true (d+1) none zh R E [some (.int cl),l1,some (.lst f),some (.lst lf),some (.lst dn),some (.lst rd),l6,l7,some (.lst g),l9,l10,l11,l12,l13,l14,l15] H:=by
 refine Ss_go ?_;walk_at "";refine⟨rfl,.mk (CK H0 f dn rd lf n left l1 l6 l7 l12 l13 l14 l15) gs.length (.mk cl g bs rs s gs _ _ _ _ rfl hcl T G I) ?_⟩;clear T G I hcl;intro m l' H' hI;refine hI _ fun cl g bs rs s gs v9 v10 v11 wk hcl T G I wg=>?_;clear hI;subst wg;subst wk;walk_at "";refine ae.mk (c6 G.gr.top) ?_;walk_at "";rw[ao,G.gr.len];refine bV (fun h1=>?_) (fun h1=>?_)
 ·have h1:2<=gs.length:=bP.mp h1;refine Ss_go ?_;walk_at "";refine vf (by decide) ?_;walk_at "";refine fP (by decide) ?_;walk_at "";generalize hcell:cl*16807%2147483647=cl';have hcl':0<=cl':=hcell▸Int.emod_nonneg _ (by decide);refine rT (by decide) ?_;walk_at "";refine ae.mk (c6 G.gr.top) ?_;walk_at "";rw[ao,G.gr.len];refine fP (Int.sub_pos_of_lt (bP.mpr h1)) ?_;walk_at "";refine ae.mk (c6 G.gr.top) ?_;walk_at "";rw[ao,G.gr.len];refine fP (by decide) ?_;walk_at "";obtain⟨i,hi,hidx⟩:=yM (H:=H') (m:=gs.length) hcl' h1;refine ae.mk hidx ?_;clear hidx hcell;walk_at "";generalize hH1:H'++[[V.int (cl'/3%((gs.length:Int)-1)),V.int 0,V.int ((gs.length:Int)-2)]]=H1;have st1:aa [] H' H1:=hH1▸aa.refl.app;clear hH1;have T1:=T.grow st1;have G1:=G.grow st1;have ha:=bt (Nat.lt_of_succ_lt hi);have hb:=bt hi;generalize gs[i]=a at ha;generalize gs[i+1]=b at hb;have I2:=I;rw[sG ha hb] at I2;obtain⟨mm,hmm,I3,hlt⟩:=I2.merge;clear I2;obtain⟨js,B0,L,_⟩:=I.ex;obtain⟨rb,hrb,hrbH,hrbI⟩:=G1.gr.at hb;have hbz:=I.short (bG hb);have hlayz:=aD I.lay (aD (Nat.add_le_add_right hn 3) (show 64+3<=80 by decide));have hgz:gs.length<=80:=aD (aD (Nat.le_add_left ..) (gM ..)) hlayz;have hsz:s.lays.length<=800:=aD (aD (gM ..) (gM ..)) (aD hlayz (by decide));have hn80:=aD hn (show 64<=80 by decide);refine⟨rfl,iB (v:=.lst rb) (fun K E' h=>ae.mk hrbI h) hrbH ?_⟩;refine sD (AC H0 f dn rd lf g rs s left gs mm b (some (.int cl')) l1 l6 l7 (some (.int i)) v11 l12 l13 l14 l15) ?_ ?_ (.mk _ [] _ bs _ rfl T1 G1)
  ·clear T1 G1 st1 hrbH hrbI T G;intro y r l' H2 K hI hnext hret;refine hI _ fun ks v10 bs he T G wg=>?_;clear hI;subst wg;obtain⟨ra,hra,hraH,hraI⟩:=G.gr.at ha;walk_at "";refine ae.mk hraI ?_;walk_at "";refine ae.mk (F7 hraH (by rw[List.getLast?_map,hmm];rfl)) ?_;walk_at "";have htk:∀p∈ks.map fun y=>(mm,y),p.1<p.2/\p.2<n:=fun p hp=>hlt p (by rw[<- he,bT];exact List.mem_append_left _ hp);have hpm:=hlt (mm,y) (by rw[<- he,bT];exact iK _ aI);have hl2:=vI L htk;have hkz:=congrArg List.length he;rw[bw] at hkz;rw[ao] at hl2;refine lb PP (H0:=H2) (bs0:=bs) (X:=[]) ⟨T.build,aa.refl,fun b hb=>.inl hb⟩ (L.puts htk) hn (qW hl2 hsz (aD (hkz▸gM ..) (aD hbz hn))) hpm.1 hpm.2 rfl fun bs'' H'' K'' st'' new''=>?_;have T3:=T.place K''.build st'' new'';have G3:=G.place st'' new'';rw[show(s.puts (ks.map fun y=>(mm,y))).put (mm,y)=s.puts ((ks++[y]).map fun y=>(mm,y)) by rw[bT,PS.puts_append];rfl] at T3;obtain⟨rb',hrb',hrbH',_⟩:=G3.gr.at hb;obtain rfl:=ai (hrb.symm.trans hrb');exact hnext _ _ hrbH' (.mk _ (ks++[y]) _ bs'' _ (by rw[fQ];exact he) T3 G3)
  ·clear T1 G1 st1 hrbH hrbI T G;intro l' H2 hI;refine hI _ fun ks v10 bs he T G wg=>?_;clear hI;subst wg;rw[d5] at he;subst he;obtain⟨ra,hra,hraH,hraI⟩:=G.gr.at ha;obtain⟨rb',hrb',hrbH,hrbI⟩:=G.gr.at hb;have haz:=I.short (bG ha);have hrl:=G.gr.len;refine Then_go (Ss_go ?_);walk_at "";refine ae.mk hraI ?_;walk_at "";refine ae.mk hrbI ?_;walk_at "";refine cj (ma hraH hrbH (by rw[ao,ao];exact cN (Co (aD haz hn80) (aD hbz hn80)) (by decide))) fun M h1 N1=>?_;walk_at "";have G1:=G.grow N1.st;refine cj (zU G1.gr.top) fun A h2 N2=>?_;walk_at "";refine cj (ma (iE N2.hold) aQ (by rw[gg,ao];exact cN (xP (b:=0) (aD (Nat.min_le_right ..) (hrl▸hgz)) (by decide)) (by decide))) fun A3 h3 N3=>?_;walk_at "";have st3:=(N2.st.app).trans0 N3.st;have G3:=G1.grow st3;refine cj (xf (i:=i+2) G3.gr.top) fun A4 h4 N4=>?_;walk_at "";refine cj (ma (aC N4.st N3.hold) N4.hold (by rw[bw,gg,gF,ao];exact cN (xP (aD (Nat.min_le_right ..) (hrl▸hgz)) (aD (Nat.sub_le ..) (hrl▸hgz))) (by decide))) fun A5 h5 N5=>?_;have st5:=N4.st.trans0 N5.st;have T5:=T.grow (N1.st.trans0 (st3.trans0 st5));refine⟨gs.length-1,Nat.sub_lt (Nat.zero_lt_of_lt hi) (by decide),.mk cl' _ bs (rs.take i++M::rs.drop (i+2)) _ (gs.take i++(a++ks)::gs.drop (i+2)) _ _ _ _ ?_ hcl' T5 ⟨?_,?_⟩ I3⟩
   ·rw[bw,gg,fO,gF];exact o6 hi
   ·refine(G3.gr.grow st5).merge hi ?_ ?_
    ·rw[bT];exact aC (st3.trans0 st5) N1.hold
    ·rw[N5.hold,bT,fK,List.map_take,List.map_drop,fQ];rfl
   ·have big:∀{x:Nat},H2.length<=x->x∉f::dn::rd::bs:=fun hx hm=>fN.mpr hx (T.build.below _ hm);intro r hr;rcases bj.mp hr with rfl |hr
    ·exact big (aD N1.st.len (aD st3.len (aD N4.st.len N5.lo)))
    ·rcases bJ.mp hr with hr |hr
     ·exact G.apart r (a0 _ (List.mem_of_mem_take hr))
     ·rcases bj.mp hr with rfl |hr
      ·exact big N1.lo
      ·exact G.apart r (a0 _ (List.mem_of_mem_drop hr))
 ·have h1:gs.length<=1:=fE fun h=>h1 (bP.mpr h);obtain⟨F1,⟨js,L⟩,F3⟩:=I.fin h1 (aJ _);exact qz PP T L hn (aD (Nat.add_le_add_right (gM ..) _) (aD I.lay (aD (Nat.add_le_add_right hn 3) (by decide)))) F3 fun a bs' H' l' N st fr nd=>hq a bs' H' l' _ F1 N st fr nd
variable {E:XPost}
section
variable {ok:Hp->Prop}
def AQ(hi:i<l.length):(l.set i (some v)).getD i none=some v:=by
 rw[b7,nu hi];rfl
def GP(hi:i<l.length)(hok:∀H',aa [] H H'->ok H')(hq:∀cs H',Rows H H' cs (xs.map fun x=>[nat x])->Q (cs.map .lst) H') :
  gH ok (kG (fun l' Q H=>Q true H) (fun l' Q H=>ae (l'.getD i none) fun v=>Q (.lst H.length) (H++[[v]])) (.one i) l) (xs.map nat) [] Q H:=by
 refine uN (xs.map fun x=>[nat x]) (by rw[ao,ao]) ?_ hok hq;intro j x y acc H' K hx hy st hK;rw[br] at hx hy;revert hx;refine xM fun z hz wj=>?_;subst wj;rw[hz] at hy;obtain rfl:=ai hy;walk_at "";exact ae.mk (AQ hi) (hK _ _ aa.refl.app aQ (aJ _))
def Hx(hi:i<l.length)(wq:rs.length=ys.length)(hr:∀(i b:Nat)(y:List V),rs[i]?=some b->ys[i]?=some y->H[b]?=some y)(hok:∀H',aa [] H H'->ok H')(hq:∀cs H',Rows H H' cs ys->Q (cs.map .lst) H') :
  gH ok (kG (fun l' Q H=>Q true H) (fun l' Q H=>ae (l'.getD i none) fun v=>ae (ba H .list [v]) fun p=>Q p.1 p.2) (.one i) l) (rs.map .lst) [] Q H:=by
 refine uN ys (by rw[ao];exact wq) ?_ hok hq;intro j x y acc H' K hx hy st hK;rw[br] at hx;revert hx;refine xM fun b hb wj=>?_;subst wj;walk_at "";exact ae.mk (AQ hi) (ae.mk (u3 (aC st (hr j b y hb hy))) (hK _ _ aa.refl.app aQ (aJ _)))
def Rows.grat(R:Rows H H' cs (gs.map fun y=>y.map nat)):cX (H'++[cs.map .lst]) H'.length cs gs:=
 ⟨aQ,R.len.trans (ao ..),fun i b y h1 h2=>iE (R.hold i b _ h1 (by rw[br,h2];rfl))⟩
def qk:(xs.map fun x=>[nat x])=(xs.map fun x=>[x]).map fun y=>y.map nat:=by rw[d8];rfl
def Rows.top(R:Rows H H' cs ys):∀b∈H'.length::cs,H.length<=b:=eh.mpr ⟨R.st.len,fun b hb=>(R.fr b hb).1⟩
end
section
variable {E:SX}
def qw(PP:aM c "_law_place" 5 6 pv)(hn:n<=64)(hcl:0<=cl)(T:aW H0 H f dn rd lf bs s left)(ha:H[la]?=some (act.map nat))(I:aV n 3 s left act) (hq:∀a bs' H' l' net,eT n net->ag H' a bs' net->aa [] H0 H'->(∀b∈a::bs',H0.length<=b)->(a::bs').Nodup->R (.ret (.lst a)) l' H') :
  az (Calls c) true (d+1) none yw R E [some (.int cl),l1,some (.lst f),some (.lst lf),some (.lst dn),some (.lst rd),some (.lst la),l7,l8,l9,l10,l11,l12,l13,l14,l15] H:=by
 have hal:=I.len;refine Ss_go ?_;walk_at "";refine ae.mk (gu ha) ⟨dU (by rw[ao];exact eJ (aD (gM ..) (aD hal hn)) (by decide)),?_⟩;refine GP (Nat.le_of_ble_eq_true rfl) (fun H' st=>aC st ha) fun rs H' RR=>?_;rw[qk] at RR;refine oE PP hn hcl (T.grow RR.st.app) ⟨RR.grat,fun r hr hm=>?_⟩ (dD.of I) hq;exact fN.mpr (RR.top r hr) (T.build.below r hm)
def aV.mono(I:aV n t s left act)(h:t<=t'):aV n t' s left act:={ I with lay:=aD I.lay h }
def o9(H0:Hp)(f dn rd lf n:Nat)(cl:Int)(l1 l8 l9 l10 l11 l12 l13 l14 l15:Option V)(i:Nat)(x0:Loc)(H:Hp):Prop:=∀GJ:Prop,(∀(v7:Option V),∀(la:Nat),∀(bs:List Nat),∀(s:PS),∀(left:List (Nat×Nat)),∀(act:List Nat),aW H0 H f dn rd lf bs s left->(H[la]?=some (act.map nat))->la∉f::dn::rd::bs->la≠lf->aV n i s left act->[some (.int cl),l1,some (.lst f),some (.lst lf),some (.lst dn),some (.lst rd),some (.lst la),v7,l8,l9,l10,l11,l12,l13,l14,l15]=x0->GJ)->GJ
def oJ(PT:aM c "_law_thinner" 6 8 zN)(PP:aM c "_law_place" 5 6 pv)(hn:n<=64)(hcl:0<=cl)(T:aW H0 H f dn rd lf bs s left)(ha:H[la]?=some (act.map nat))(nla:la∉f::dn::rd::bs)(hal:la≠lf)(I:aV n 0 s left act) (hq:∀a bs' H' l' net,eT n net->ag H' a bs' net->aa [] H0 H'->(∀b∈a::bs',H0.length<=b)->(a::bs').Nodup->R (.ret (.lst a)) l' H') :
  az (Calls c) true (d+2) none telT R E [some (.int cl),l1,some (.lst f),some (.lst lf),some (.lst dn),some (.lst rd),some (.lst la),l7,l8,l9,l10,l11,l12,l13,l14,l15] H:=by
 refine Ss_go ?_;walk_at "";obtain⟨t,ht,ht3⟩:∃t:Nat,cl%4=t/\t<=3:=⟨(cl%4).toNat,(Int.toNat_of_nonneg (Int.emod_nonneg _ (by decide))).symm,Int.toNat_le.mpr (Int.le_of_lt_add_one (Int.emod_lt_of_pos _ (by decide)))⟩;refine⟨rfl,iB (v:=.rng 0 t 1) (items:=(List.range t).map nat) (fun K E' h=>by walk_at "";refine fP (by decide) ?_;walk_at "";rw[ht];exact ae.mk (nw (eJ ht3 (by decide))) h) (congrArg some (qT t)) ?_⟩;refine uE (o9 H0 f dn rd lf n cl l1 l8 l9 l10 l11 l12 l13 l14 l15) ?_ ?_ (fun J kJ=>kJ _ la bs s left act T ha nla hal I rfl)
 ·clear T ha nla hal I;intro i x l' H' K hx hI hnext hret;refine hI _ fun v7 la bs s left act T ha nla hal I wg=>?_;clear hI;subst wg;have hit:=dE hx;rw[ao,di] at hit;rw[br,iM hit] at hx;obtain rfl:=ai hx;unfold nat;walk_at "";refine rT (by decide) ?_;walk_at "";refine rT yZ ?_;walk_at "";obtain⟨js,B,L,_⟩:=I.ex;have hln:=I.len;have hly:=I.lay;have st:=I.thin (fy (cl/4/(1+(i:Int))));refine HK PT PP T.build L hn ha T.hleft nla T.nlf hal st.2 (aD (gM ..) (aD hln hn)) (aD (eR (Nat.add_comm ..)) (aD hln (aD hn (by decide)))) (aD hly (aD (bO hit) (aD ht3 (by decide)))) rfl fun bs' H'' fw K'=>?_;exact hnext _ _ trivial (fun J kJ=>kJ _ fw bs' _ _ _ (T.thin K') K'.hfw K'.nfw (c5 K'.d3) st.1 rfl)
 ·clear T ha nla hal I;intro l' H' hI;refine hI _ fun v7 la bs s left act T ha nla hal I wg=>?_;clear hI;subst wg;rw[ao,di] at I;exact qw (d:=d+1) PP hn hcl T ha (I.mono ht3) hq
end
section
variable {Q:V->Hp->Prop}
def JH(P:aM c "_law_telling" 2 16 BG)(PT:aM c "_law_thinner" 6 8 zN)(PP:aM c "_law_place" 5 6 pv){cell:Int}(hn1:1<=n)(hn:n<=64)(hc:q=true) (hq:∀a bs net H',eT n net->ag H' a bs net->aa [] H H'->(∀b∈a::bs,H.length<=b)->(a::bs).Nodup->Q (.lst a) H') :
  Calls c q (d+3) "_law_telling" [.int cell,.int n] none Q E H:=by
 subst hc;refine P true (d+2) _ Q E H rfl ?_;rw[uO];refine Ss_go ?_;walk_at "";refine vf (by decide) ?_;walk_at "";refine fP (by decide) ?_;have hcl:0<=cell*48271%2147483647:=Int.emod_nonneg _ (by decide);walk_at "";generalize cell*48271%2147483647=cl at hcl;refine cj (mul_zero aQ (eJ hn (by decide))) fun dn H1 N1=>?_;walk_at "";refine cj (mul_zero aQ (eJ hn (by decide))) fun rd H2 N2=>?_;walk_at "";refine ae.mk (nw (eJ hn (by decide))) ?_;walk_at "";refine cj (B6 (eJ hn (by decide))) fun la H3 N3=>?_;have a1:aa [] (H++[[]]) H1:=aa.refl.app.app.trans0 N1.st;have a2:aa [] H1 H3:=aa.refl.app.trans0 (N2.st.trans0 N3.st);have b1:=(aa.refl (S:=[]) (H:=H)).app (xs:=[]);have g1:H.length<(H++[[]]).length:=dA aQ;have g2:(H++[[]]).length<(H++[[]]++[[]]).length:=dA aQ;have g3:(H++[[]]).length<dn:=cS g2 (aD (aa.refl (S:=[])).app.len N1.lo);have g4:dn<rd:=cS (dA N1.hold) (aD (aa.refl (S:=[])).app.len N2.lo);have g5:rd<la:=cS (dA N2.hold) N3.lo;have T:aW H H3 H.length dn rd (H++[[]]).length [] (PS.init n) []:=
  ⟨⟨aC (a1.trans0 a2) aQ,rfl,(fun J J J h=>nomatch h),aC a2 N1.hold,aC N3.st N2.hold,
   ⟨by exact ay [_,_,_] [] kat (Y8 (Y2 V0 V1) J0) (Y1 V0 V2) (Y1 V2 V1) g1 g3,by exact bo [_,_,_,_] [] 0x4294a5000610080308060184040102000000 (Y8 (Y2 V0 V1) J0) (Y1 V0 V2) (Y1 V2 V3) (Y1 V3 V1) g1 g3 g4,fX,by exact aj [_,_] [] kap (Y8 (Y2 V0 V1) J0) (Y1 V0 V1) g4,fX,fX,nB⟩⟩,
   aC a2 (aC (aa.refl.app.trans0 N1.st) aQ),sP (by exact aj [_,_] [] kal (Y8 (Y2 V0 V1) J0) (Y1 V1 V0) g1) (by exact aj [_,_] [] kap (Y8 (Y2 V0 V1) J0) (Y1 V0 V1) g3) (by exact ay [_,_,_] [] kat (Y8 (Y2 V0 V1) J0) (Y1 V0 V2) (Y1 V2 V1) g3 g4) fX,b1.trans0 (a1.trans0 a2),pg (aJ _) (by exact ay [_,_,_] [] kab (Y0 V0 V1) (Y1 V0 V2) (Y1 V2 V1) g1 g3) (by exact bo [_,_,_,_] [] kai (Y0 V0 V1) (Y1 V0 V2) (Y1 V2 V3) (Y1 V3 V1) g1 g3 g4) (fun J h=>nomatch h),by exact aj [_,_] [] kaa (Y0 V0 V1) (Y1 V0 V1) g1⟩
 exact oJ (d:=d) PT PP hn hcl T N3.hold (sP (by exact gy [_,_,_,_,_] [] 0x10a5294a000c201006100c03080801840500c2000000 (Y8 (Y2 V0 V1) J0) (Y1 V1 V2) (Y1 V2 V3) (Y1 V3 V4) (Y1 V4 V0) g1 g3 g4 g5) (by exact ay [_,_,_] [] 0x10a528003080401840300c2000000 (Y8 (Y2 V0 V1) J0) (Y1 V1 V2) (Y1 V2 V0) g4 g5) (by exact aj [_,_] [] kal (Y8 (Y2 V0 V1) J0) (Y1 V1 V0) g5) fX) (by exact bo [_,_,_,_] [] 0x4294a50006100803080601840400c2000000 (Y8 (Y2 V0 V1) J0) (Y1 V1 V2) (Y1 V2 V3) (Y1 V3 V0) g3 g4 g5) (aV.init n) fun a bs' H' l' net Tn N s2 fr nd=>hq a bs' net H' Tn N s2 fr nd
end
variable {Q:V->Hp->Prop}{cl:Nat}{f s:Str}{gs:Net}{xs ys:List V}
def Gr(f:α->α->α){l:Nat}(hn:((y++[(l,h)]).map (·.2)).Nodup)(σ:Nat->α):bE f (y++[(l,h)]) σ=fun x=>if x=h then f (σ l) (σ h) else bE f y σ x:=by
 funext x;rw[bT,og] at hn;have hnh:∀p∈y,p.2≠h:=fun p hp e=>hn.2.2 p.2 (fg.mpr ⟨p,hp,rfl⟩) h aI e;unfold bE;rw[List.find?_append];by_cases e:x=h
 ·subst e;rw[List.find?_eq_none.mpr fun p hp q=>hnh p hp (beq_iff_eq.mp q),if_pos rfl,List.find?_cons_of_pos (p:=fun p:Nat×Nat=>p.2==x) (a:=(l,x)) (beq_iff_eq.mpr rfl)];rfl
 ·rw[if_neg e,List.find?_cons_of_neg (p:=fun p:Nat×Nat=>p.2==x) (a:=(l,h)) (fun q=>e (beq_iff_eq.mp q).symm)];cases y.find? (fun p=>p.2==x)<;>rfl
def ag.stay{net:Net}(N:ag H a bs net)(st:aa S H H')(h:∀b∈a::bs,b∉S):ag H' a bs net:=
 ⟨st.at N.top (h a aI),N.len,fun i b y h1 h2=>st.at (N.lay i b y h1 h2) (h b (a0 _ (bG h1)))⟩
def ag.grow{net:Net}(N:ag H a bs net)(st:aa [] H H'):ag H' a bs net:=N.stay st fun J J=>fX
inductive rj(H:Hp)(a i:Nat)(bs:List Nat)(y:List (Nat×Nat)):Prop
 |mk (b:Nat)(hb:bs[i]?=some b)(hold:H[b]?=some (y.map pr))(ix:cA H (.lst a) (.int i)=some (.lst b)):rj H a i bs y
def ag.at{net:Net}(N:ag H a bs net)(h:net[i]?=some y):rj H a i bs y:=
 have hr:=bt (show i<bs.length from N.len▸dE h)
 ⟨_,hr,N.lay i _ y hr h,cZ N.top (xJ hr)⟩
def ag.get{net:Net}(N:ag H a bs net)(h:bs[i]?=some b):∃y,net[i]?=some y/\H[b]?=some (y.map pr):=
 have hr:=bt (show i<net.length from N.len▸dE h)
 ⟨_,hr,N.lay i _ _ h hr⟩
def ag.lt{net:Net}(N:ag H a bs net):∀b∈a::bs,b<H.length:=by
 refine eh.mpr ⟨dA N.top,fun b hb=>?_⟩;obtain⟨_,_,h⟩:=N.each hb;exact dA h
def Dj:dp true (d0 H (.rng 0 n 1))=some ((List.range n).map nat):=congrArg some (qT n)
noncomputable def du(n:Nat)(σ:Nat->Nat):List Nat:=(List.range n).map σ
def yV:(du n σ).length=n:=by rw[du,ao,di]
def Av(h:x<n):(du n σ)[x]?=some (σ x):=by
 rw[du,br,iM h];rfl
def lE{v:Nat}:(du n σ).set h v=du n (fun x=>if x=h then v else σ x):=by
 apply List.ext_getElem?;intro i;by_cases hi:i<n
 ·rw[Av hi];by_cases e:i=h
  ·subst e;rw[nu (by rw[yV];exact hi),if_pos rfl]
  ·rw[nT (c5 e),Av hi,if_neg e]
 ·have hi:=fE hi;rw[nO (by rw[gv,yV];exact hi),nO (by rw[yV];exact hi)]
theorem Fx:bc (y::r) B=if fk B y then bc r (bE (fun l J=>l) y B) else none:=rfl
def KV {net:Net} (h:bc (net.take i) id=some B) (hy:net[i]?=some y) (hn:fk B y=false):bc net id=none:=by
 rw[DN hy,fQ,iR,h];refine(Fx (y:=y)).trans ?_;rw[hn];rfl
def HS{net:Net}(h:bc (net.take i) id=some B)(hy:net[i]?=some y)(hn:fk B y=true):bc (net.take (i+1)) id=some (bE (fun l J=>l) y B):=by
 rw[List.take_add_one,hy,iR,h];refine(Fx (y:=y)).trans ?_;rw[hn];rfl
def sE(H:Hp)(n a:Nat)(net:Net)(i:Nat)(x1:Loc)(H':Hp):Prop:=∀GJ:Prop,(∀(v3 v4 v5 v6:Option V)(g:Nat)(B:Nat->Nat),H'[g]?=some ((du n B).map nat)->bc (net.take i) id=some B->aa [] H H'->[some (.int n),some (.lst a),some (.lst g),v3,v4,v5,v6,none]=x1->GJ)->GJ
def uj(H:Hp)(n a b g g':Nat)(B:Nat->Nat)(y r:List (Nat×Nat))(x1:Loc)(H':Hp):Prop:=∀GJ:Prop,(∀(ks:List (Nat×Nat))(v5 v6:Option V),ks++r=y->H'[g]?=some ((du n B).map nat)->H'[g']?=some ((du n (bE (fun l J=>l) ks B)).map nat)->fk B ks=true->aa [] H H'->[some (.int n),some (.lst a),some (.lst g),some (.lst b),some (.lst g'),v5,v6,none]=x1->GJ)->GJ
theorem E8{f:α->Bool}:∀zs:List α,gw (zs.map fun x=>V.bool (f x))=some (zs.map f)
 |[]=>rfl
 |z::r=>by
  show(gw (r.map fun x=>V.bool (f x))).map _=_;rw[E8 r];rfl
def vq{f:α->Bool}{zs:List α}(h:H[a]?=some (zs.map fun x=>V.bool (f x))):dp true (ba H .all [.lst a])=some (.bool (zs.all f),H):=by
 show(H[a]?).bind _=_;rw[h];show(gw (zs.map fun x=>V.bool (f x))).map _=_;rw[E8];show some (V.bool ((zs.map f).all id),H)=_;rw[List.all_map];rfl
def Ky(P:aM c "does_tell" 2 8 BQ){net:Net}(A:ag H a bs net)(hn:n<=64)(hf:bC n net)(hc:q=true) (hq:∀H',aa [] H H'->Q (.bool (c8 n net)) H'):Calls c q (d+1) "does_tell" [.int n,.lst a] none Q E H:=by
 subst hc;refine P true d _ Q E H rfl (Ss_go ?_);walk_at "";refine ae.mk (nw (eJ hn (by decide))) ?_;walk_at "";refine cj (B6 (eJ hn (by decide))) fun g H1 N1=>?_;walk_at "";refine⟨rfl,iB (v:=.lst a) (fun K E' h=>h) (aC N1.st A.top) ?_⟩;refine uE (sE H n a net) ?_ ?_ (fun J kJ=>kJ _ _ _ _ g id (by rw[du,List.map_id];exact N1.hold) rfl N1.st rfl)
 ·clear N1;intro i x l' H' K hx hI hnext hret;refine hI _ fun v3 v4 v5 v6 g B hg ht st wg=>?_;clear hI;subst wg;rw[br] at hx;revert hx;refine xM fun b hb wj=>?_;subst wj;obtain⟨y,hy,hby⟩:=(A.grow st).get hb;have hfy:=hf y (bG hy);walk_at "";refine cj (u3 hg) fun g' H'' N=>?_;walk_at "";have hgg:g≠g':=ck (cS (dA hg) N.lo);have hgl:H.length<=g':=aD st.len N.lo;refine⟨rfl,iB (v:=.lst b) (fun K E' h=>h) (aC N.st hby) ?_⟩;refine sD (uj H n a b g g' B y) ?_ ?_ (fun J kJ=>kJ [] _ _ rfl (aC N.st hg) N.hold rfl (st.trans0 N.st) rfl)
  ·clear N hg st hby;intro p r l' H2 K2 hI hnext2 hret2;refine hI _ fun ks v5 v6 he g1 g2 hl st wg=>?_;clear hI;subst wg;obtain⟨pl,ph⟩:=p;have hpy:(pl,ph)∈y:=by rw[<- he];exact iK _ aI
   have hpm:=hfy.1 _ hpy;have he':(ks++[(pl,ph)])++r=y:=by rw[fQ];exact he
   have hnd:=hfy.2;rw[<- he',bT] at hnd;have hnd:=(og.mp hnd).1;refine ae.mk rfl (Ss_go ?_);walk_at "";refine ae.mk (ji g1 (Av hpm.2)) ?_;walk_at "";refine pO (fun hne=>?_) (fun heq=>?_)
   ·have hne:¬pl+1=B ph:=fun e=>hne (Int.ofNat_inj.mpr e);refine Ss_go ?_;walk_at "";refine hret2 _ _ _ (hret _ _ _ ?_);have hly:fk B y=false:=Bool.eq_false_iff.mpr fun e=>hne (nz.mp e _ hpy);have:=hq H2 st;unfold c8 at this;rw[KV ht hy hly] at this;exact this
   ·have heq:pl+1=B ph:=Int.ofNat_inj.mp heq;walk_at "";refine ae.mk (ji g1 (Av (cN hpm.1 hpm.2))) ?_;walk_at "";refine ae.mk (Cs g2 (by rw[yV];exact hpm.2)) ?_;have st3:=st.set (a:=g') (xs:=((du n (bE (fun l J=>l) ks B)).set ph (B pl)).map nat) (.inr hgl);refine hnext2 _ _ ((A.grow st3).lay i b y hb hy) (fun J kJ=>kJ (ks++[(pl,ph)]) _ _ he' (eo g1 hgg) ?_ ?_ st3 rfl)
    ·rw[jg g2,Gr _ hnd,lE]
    ·refine nz.mpr fun p hp=>(bJ.mp hp).elim (nz.mp hl p) fun h=>?_;rw[aN.mp h];exact heq
  ·clear N hg st hby;intro l' H2 hI;refine hI _ fun ks v5 v6 he g1 g2 hl st wg=>?_;clear hI;subst wg;rw[d5] at he;subst he;refine Then_go (Ss_go ?_);walk_at "";exact hnext _ _ (A.grow st).top (fun J kJ=>kJ _ _ _ _ _ _ g2 (HS ht hy hl) st rfl)
 ·clear N1;intro l' H' hI;refine hI _ fun v3 v4 v5 v6 g B hg ht st wg=>?_;clear hI;subst wg;rw[ao,A.len,List.take_length] at ht;refine Then_go (Ss_go ?_);walk_at "";refine ae.mk (gu hg) ⟨dU (by rw[ao,yV];exact eJ hn (by decide)),?_⟩;refine vn (I:=fun j acc H2=>H2=H'/\acc=((du n B).take j).map fun x=>V.bool (decide (x=0))) ?_ ?_ ⟨rfl,rfl⟩
  ·rintro j x acc H2 K hx ⟨rfl,rfl⟩ hK;rw[br] at hx;revert hx;refine xM fun z hz wj=>?_;subst wj;unfold nat;walk_at "";refine hK _ _ hg ⟨rfl,?_⟩;rw[List.take_add_one,hz,bT];exact congrArg (fun b=>List.map _ _++[V.bool b]) (wG (a:=z) (b:=0))
  ·rintro acc H2 ⟨rfl,rfl⟩;rw[ao,List.take_length];refine ae.mk (vq aQ) ?_;have e:c8 n net=(du n B).all fun x=>decide (x=0):=by
    unfold c8 du;rw[ht,List.all_map];rfl
   rw[<- e];exact hq _ st.app
variable {r:Nat}{x:Net}{σ:Nat->List Nat}
section
variable {ok:Hp->Prop}{Q:List V->Hp->Prop}
def HB(G:ag H g rs gs)(hi:i<l.length)(hok:∀H',aa [] H H'->ok H')(hq:∀cs H',Rows H H' cs (gs.map fun y=>y.map pr)->Q (cs.map .lst) H') :
  gH ok (kG (fun l' Q H=>Q true H) (fun l' Q H=>ae (l'.getD i none) fun v=>ae (ba H .list [v]) fun p=>Q p.1 p.2) (.one i) l) (rs.map .lst) [] Q H:=by
 refine Hx hi (by rw[ao];exact G.len) (fun j b y h1 h2=>?_) hok hq;rw[br] at h2;revert h2;refine xM fun z hz wj=>?_;subst wj;exact G.lay j b z h1 hz
def iA{W:Loc->(V->Hp->Prop)->Hp->Prop}{t:Tg}{f g:α->V}{xs:List α}(hok:ok H)(he:∀x∈xs,∀K:V->Hp->Prop,K (g x) H->ae (gA t (f x) l) fun l'=>W l' K H)(hq:Q (xs.map g) H) :
  gH ok (kG (fun l' Q H=>Q true H) W t l) (xs.map f) [] Q H:=by
 refine vn (I:=fun j acc H2=>H2=H/\acc=(xs.take j).map g) ?_ ?_ ⟨rfl,rfl⟩
 ·rintro j x acc H2 K hx ⟨rfl,rfl⟩ hK;rw[br] at hx;revert hx;refine xM fun z hz wj=>?_;subst wj;refine he z (bG hz) _ (hK _ _ hok ⟨rfl,?_⟩);rw[List.take_add_one,hz,bT];rfl
 ·rintro acc H2 ⟨rfl,rfl⟩;rw[ao,List.take_length];exact hq
end
def eF(hb:0<b)(h:K (.int (a%b:Nat),H)):ae (bL H .mod (.int a) (.int b)) K:=fP (bP.mpr hb) (Int.natCast_emod a b▸h)
def fh(hb:0<b)(h:K (.int (a/b:Nat),H)):ae (bL H .div (.int a) (.int b)) K:=rT (bP.mpr hb) (Int.natCast_ediv a b▸h)
def ag.ofz{zs:List (Nat×List (Nat×Nat))}(top:H[a]?=some ((zs.map (·.1)).map V.lst))(h:∀p∈zs,H[p.1]?=some (p.2.map pr)):ag H a (zs.map (·.1)) (zs.map (·.2)):=by
 refine⟨top,by rw[ao,ao],fun i b y h1 h2=>?_⟩;rw[br] at h1 h2;revert h1;refine xM fun p hp wj=>?_;subst wj;rw[hp] at h2;obtain rfl:=ai h2;exact h p (bG hp)
theorem ag.zs{net:Net}(N:ag H a bs net):∃zs:List (Nat×List (Nat×Nat)),zs.map (·.1)=bs/\zs.map (·.2)=net/\∀p∈zs,H[p.1]?=some (p.2.map pr):=by
 refine⟨bs.zip net,List.map_fst_zip (eR N.len),List.map_snd_zip (eR N.len.symm),fun p hp=>?_⟩;obtain⟨i,hi⟩:=List.mem_iff_getElem?.mp hp;have h1:=List.getElem?_zip_eq_some.mp hi;exact N.lay i p.1 p.2 h1.1 h1.2
def ag.append{a':Nat}{y:Net}(N:ag H a bs x)(M:ag H b cs y)(top:H[a']?=some (bs.map V.lst++cs.map .lst)):ag H a' (bs++cs) (x++y):=by
 obtain⟨zs,z1,z2,z3⟩:=N.zs;obtain⟨ws,w1,w2,w3⟩:=M.zs;have:ag H a' ((zs++ws).map (·.1)) ((zs++ws).map (·.2)):=by
  refine ag.ofz ?_ fun p hp=>(bJ.mp hp).elim (z3 p) (w3 p);rw[top,<-z1,<-w1,bT,bT]
 rw[bT,bT,z1,z2,w1,w2] at this;exact this
def jB:((gN (h,ls)).map fun y=>y.map pr)=ls.map fun x=>[pr (x,h)]:=by rw[gN,d8];rfl
def Ks {ok:Hp->Prop} {Q:List V->Hp->Prop} (hi:i<l.length) (hij:j≠i) (hj:l.getD j none=some (.int h)) (hok:∀H',aa [] H H'->ok H') (hq:∀cs H',Rows H H' cs ((gN (h,ls)).map fun y=>y.map pr)->Q (cs.map .lst) H') :
  gH ok (kG (fun l' Q H=>Q true H) (fun l' Q H=>ae (l'.getD i none) fun v=>ae (l'.getD j none) fun w=>Q (.lst H.length) (H++[[.tup [v,w]]])) (.one i) l) (ls.map nat) [] Q H:=by
 rw[jB] at hq;refine uN (ls.map fun x=>[pr (x,h)]) (by rw[ao,ao]) ?_ hok hq;intro k x y acc H' K hx hy st hK;rw[br] at hx hy;revert hx;refine xM fun z hz wj=>?_;subst wj;rw[hz] at hy;obtain rfl:=ai hy;walk_at "";refine ae.mk (AQ hi) (ae.mk (a:=.int h) ?_ (hK _ _ aa.refl.app aQ (aJ _)));rw[b7,nT (c5 hij),<-b7];exact hj
def p9(h:H[a]?=some xs):qe H (.lst a)=some (.lst H.length,H++[xs.reverse]):=by
 show(H[a]?).map _=_;rw[h];rfl
structure cV(n k:Nat)(bl:List (Nat×List Nat)):Prop where
 len:bl.length=k
 at':∀(i:Nat) (p:Nat×List Nat),bl[i]?=some p->p.1+i+1=n/\p.2.length=p.1/\∀l∈p.2,l<p.1
 tot:(bl.flatMap gN).length+tri (n-1-k)=tri (n-1)
def cV.ok(B:cV n k bl)(hn:n<=12):gk n (bl.flatMap gN):=by
 refine⟨by have:=B.tot;have:=Dx (n-1) (by exact aj [_] [] kbo (Y0 (Y2 V0 J1) (.l 11)) (Y0 V0 (.l 12)) hn);exact ay [_,_,_] [] kae (Y0 V0 (.l 80)) (Y0 V1 (.l 66)) (Y2 (Y0 V0 V2) V1) this (by assumption),fun y hy=>?_⟩;obtain⟨p,hp,hy⟩:=List.mem_flatMap.mp hy;revert hy;refine xL fun l hl wj=>?_;subst wj;obtain⟨i,hi⟩:=List.mem_iff_getElem?.mp hp;obtain⟨h1,h2,h3⟩:=B.at' i p hi;exact jt (h3 l hl) (by exact aj [_,_,_] [] kaa (Y1 V0 V1) (Y2 (Y0 (Y0 V0 V2) J1) V1) h1)
def Dp:[p].flatMap gN=gN p:=by rw[List.flatMap_cons,List.flatMap_nil,d5]
def cV.snoc(B:cV n k bl)(hk:k<n-1)(hh:n-1-k=h)(hl:ls.length=h)(hls:∀x∈ls,x<h):cV n (k+1) (bl++[(h,ls)]):=by
 refine⟨by rw[bw,B.len];rfl,fun i p hp=>?_,?_⟩
 ·rcases nP hp with hp |⟨e,rfl⟩
  ·exact B.at' i p hp
  ·have:=B.len;exact⟨by show h+i+1=n;exact gy [_,_,_,_,_] [] 0x1868214a000c20400610040000d04294001840c00c2000000294a5294002040b00c206006103403081001840400c20000a309420104a100823194a5294a000c204808102804081601840600c202006100405184a10082508041 (Y2 (Y0 (Y0 V0 V1) J1) V2) (Y1 V3 (Y2 V2 J1)) (Y2 (Y2 (Y2 V2 J1) V3) V0) (Y2 V1 V4) (Y2 V4 V3) hk hh e this,hl,hls⟩
 ·have:=B.tot;rw[List.flatMap_append,bw,Dp,gN,ao,hl];rw[show n-1-k=(n-1-(k+1))+1 by exact aj [_,_] [] 0x30d04294001840800c2000000194a50006101c03080601840101461004250800128425080011a064294a50006102c03081201840300c20080602842508001194a50006101c0308060184010142128400094610042508001 (Y2 (Y2 (Y2 V0 J1) V1) (Y0 (Y2 (Y2 V0 J1) (Y0 V1 J1)) J1)) (Y1 V1 (Y2 V0 J1)) hk,lx] at this;exact bo [_,_,_,_,_,_] [] 0x30d04294001840800c2000000194a5294002040a00c205806101c0308060184010146101025080a129025080a11a064294a5294001840b00c206008103403081201840300c200806029025080a1194a5294001840a010205806101c03080601840101481284050946101025080a1 (Y2 (Y0 (Y0 V0 V1) V2) V3) (Y1 V4 (Y2 V5 J1)) (Y2 (Y2 (Y2 V5 J1) V4) V1) (Y2 (Y0 V0 (Y0 (Y0 (Y2 (Y2 V5 J1) (Y0 V4 J1)) J1) V2)) V3) hk hh this
variable {k:dB}{p:Str}{x:V}
section
variable {E:SX}
end
variable {R:Hp->V->Prop}
noncomputable def AB:List St:=[.ret (.comp (.comp (.tup [.bin .add (.wx 3) (.wx 1),.bin .add (.wx 4) (.wx 1)]) (.two 3 4) (.wx 2) []) (.one 2) (.wx 0) [])]
noncomputable def Cr:List St:=[.set 2 (.list []),.loop (.one 3) (.val (.blt .range [.blt .max [.blt .len [.wx 0],.blt .len [.wx 1]]])) [.set 4 (.list []),.loop (.one 5) (.val (.tup [.wx 0,.wx 1])) [.ite (.cmp (.wx 3) [.lt] [.blt .len [.wx 5]]) [.expr (.meth .extend (.wx 4) [.idx (.wx 5) (.wx 3)])] []],.expr (.meth .append (.wx 2) [.wx 4])],.ret (.wx 2)]
noncomputable def Gy:List St:=[.set 4 (.call "side_by_side" [.wx 1,.call "moved" [.wx 3,.wx 0]]),.expr (.meth .append (.wx 4) [.comp (.tup [.bin .sub (.wx 0) (.ww 1),.wx 5]) (.one 5) (.blt .range [.wx 0,.bin .add (.wx 0) (.wx 2)]) []]),.ret (.wx 4)]
noncomputable def DS:List St:=[.set 2 (.list [.comp (.tup [.wx 3,.bin .add (.wx 3) (.ww 1)]) (.one 3) (.blt .range [.ww 0,.bin .sub (.wx 0) (.ww 1),.ww 2]) []]),.expr (.meth .extend (.wx 2) [.comp (.comp (.tup [.bin .add (.bin .mul (.ww 2) (.wx 4)) (.ww 1),.bin .add (.bin .mul (.ww 2) (.wx 5)) (.ww 1)]) (.two 4 5) (.wx 3) []) (.one 3) (.wx 1) []]),.ite (.cmp (.wx 0) [.gt] [.ww 2]) [.expr (.meth .append (.wx 2) [.comp (.tup [.wx 3,.bin .add (.wx 3) (.ww 1)]) (.one 3) (.blt .range [.ww 1,.bin .sub (.wx 0) (.ww 1),.ww 2]) []])] [],.ret (.wx 2)]
noncomputable def Fz:List St:=[.expr (.call "need_lines" [.wx 0]),.ret (.comp (.list [.tup [.wx 1,.bin .add (.wx 1) (.ww 1)]]) (.one 1) (.blt .range [.bin .sub (.wx 0) (.ww 1)]) [])]
noncomputable def FE:List St:=[.expr (.call "need_lines" [.wx 0]),.set 1 (.list []),.set 2 (.ww 1),.whil (.cmp (.wx 2) [.lt] [.wx 0]) [.expr (.meth .append (.wx 1) [.comp (.tup [.bin .sub (.wx 3) (.wx 2),.wx 3]) (.one 3) (.blt .range [.wx 2,.wx 0]) []]),.set 2 (.bin .mul (.ww 2) (.wx 2))],.ret (.wx 1)]
noncomputable def HH:List St:=[.expr (.call "need_lines" [.wx 0]),.ite (.cmp (.wx 0) [.eq] [.ww 1]) [.ret (.list [])] [],.set 1 (.bin .div (.bin .add (.wx 0) (.ww 1)) (.ww 2)),.ret (.call "parted" [.wx 1,.call "by_halves" [.wx 1],.bin .sub (.wx 0) (.wx 1),.call "by_halves" [.bin .sub (.wx 0) (.wx 1)]])]
noncomputable def Hb:List St:=[.expr (.call "need_lines" [.wx 0]),.ite (.cmp (.wx 0) [.eq] [.ww 1]) [.ret (.list [])] [],.ret (.call "paired" [.wx 0,.call "by_pairs" [.bin .div (.wx 0) (.ww 2)]])]
def bK.short{net:Net}(F:∀y∈net,cm n y)(hn:n<=64):∀y∈net,y.length<1000:=fun y hy=>by
 have:=z7 (F y hy).2 (F y hy).1;exact ay [_,_] [] kab (Y1 V0 (.l 1000)) (Y0 V1 (.l 64)) (Y0 (Y0 V0 J0) V1) hn this.1
noncomputable def EN:List St:=[.ite (.or [.not (.isi (.wx 0) .tuple),.not (.cmp (.ww 1) [.le,.le] [.blt .len [.wx 0],.ww 8])]) [.ret (.lit (.bool false))] [],.ret (.blt .all [.comp (.call "is_among" [.wx 1,.ww 0,.bin .sub (.blt .len [.wx 0]) (.ww 1)]) (.one 1) (.wx 0) []])]
noncomputable def Ew:List St:=[.ite (.or [.not (.isi (.wx 0) .str),.cmp (.wx 0) [.notIn] [.lit (.tup [.str "sum",.str "most",.str "text",.str "map",.str "step"])]]) [.rais "BadKind" [.lit (.str "no kind")]] []]
noncomputable def KR:List St:=[.ite (.cmp (.wx 0) [.eq] [.lit (.str "text")]) [.ret (.call "is_text" [.wx 1])] [],.ite (.cmp (.wx 0) [.eq] [.lit (.str "map")]) [.ret (.call "is_map" [.wx 1])] [],.ite (.cmp (.wx 0) [.eq] [.lit (.str "step")]) [.ret (.call "is_step" [.wx 1])] [],.ret (.call "is_among" [.wx 1,.bin .sub (.ww 0) (.ww 1000000000000),.ww 1000000000000])]
noncomputable def GL:List St:=[.expr (.call "need_kind" [.wx 0]),.ite (.not (.call "is_thing" [.wx 0,.wx 1])) [.rais "BadThing" [.lit (.str "no thing of that kind")]] []]
noncomputable def Hl:List St:=[.ite (.and [.cmp (.wx 0) [.eq] [.lit (.str "map")],.not (.blt .all [.comp (.cmp (.blt .len [.wx 2]) [.eq] [.blt .len [.idx (.wx 1) (.ww 0)]]) (.one 2) (.wx 1) []])]) [.rais "BadThing" [.lit (.str "maps of unlike lengths")]] []]
noncomputable def K8:List St:=[.ite (.cmp (.wx 0) [.eq] [.lit (.str "most")]) [.ret (.blt .max [.wx 1,.wx 2])] [],.ite (.cmp (.wx 0) [.eq] [.lit (.str "map")]) [.ret (.blt .tuple [.comp (.idx (.wx 2) (.wx 3)) (.one 3) (.wx 1) []])] [],.ite (.cmp (.wx 0) [.eq] [.lit (.str "step")]) [.ret (.tup [.bin .mod (.bin .mul (.idx (.wx 1) (.ww 0)) (.idx (.wx 2) (.ww 0))) (.ww 1000003),.bin .mod (.bin .add (.bin .mul (.idx (.wx 1) (.ww 1)) (.idx (.wx 2) (.ww 0))) (.idx (.wx 2) (.ww 1))) (.ww 1000003)])] [],.ret (.bin .add (.wx 1) (.wx 2))]
inductive Kd |sum |most |text |map |step
 deriving DecidableEq
noncomputable def kS:Kd->Str
 |.sum=>"sum" |.most=>"most" |.text=>"text" |.map=>"map" |.step=>"step"
def tW{a b:Str}(ha:fR a=true)(hb:fR b=true):gP H (.str a) (.str b)=some (decide (a=b)):=by
 refine(if_pos (show(fR a&&fR b)=true by rw[ha,hb];rfl)).trans ?_;show some (a==b)=_;congr 1
def rG(k:Kd):fR (kS k)=true:=by cases k<;>decide +kernel
def xX{k k':Kd}:dh H .eq (.str (kS k)) (.str (kS k'))=some (decide (k=k')):=by
 refine xq ((tW (rG k) (rG k')).trans ?_);congr 1;refine decide_eq_decide.mpr ⟨fun h=>?_,fun h=>by rw[h]⟩;revert h;cases k<;>cases k'<;>decide +kernel
noncomputable def cG(lo hi:Int)(v:V):Bool:=match v with
 |.int i=>decide (lo<=i/\i<=hi)
 |_=>false
theorem wO(P:aM c "is_among" 3 3 vO)(hk:(kd v).isSome=true)(hq:Q (.bool (cG lo hi v)) H):Calls c q (d+1) "is_among" [v,.int lo,.int hi] none Q E H:=by
 refine P q d _ Q E H rfl (Ss_go ?_);walk_at "";cases v with
 |int i=>
  walk_at "";refine bV (fun h=>?_) (fun h=>?_)
  ·walk_at "";refine cast ?_ hq;show Q (.bool (decide (lo<=i/\i<=hi))) H=_;congr 2;exact decide_eq_decide.mpr ⟨fun h=>h.2,fun h2=>⟨h,h2⟩⟩
  ·walk_at "";refine cast ?_ hq;show Q (.bool (decide (lo<=i/\i<=hi))) H=_;rw[decide_eq_false (fun h2=>h h2.1)]
 |bool b=>walk_at "";exact hq
 |none=>walk_at "";exact hq
 |str s=>walk_at "";exact hq
 |tup l=>walk_at "";exact hq
 |lst a=>walk_at "";exact hq
 |_=>injection hk
variable {hi lo:Nat}
noncomputable def eH:V->Bool
 |.tup l=>decide (1<=l.length/\l.length<=8)&&l.all (cG 0 (l.length-1))
 |_=>false
def ng:V->Prop
 |.str s=>s.length<=10000
 |.tup l=>l.length<=20/\∀x∈l,(kd x).isSome=true
 |.none=>True |.bool _=>True |.int _=>True |.lst _=>True
 |_=>False
def n8{l:List V}:d0 H (.tup l)=some (l.map id):=congrArg some (List.map_id l).symm
theorem En(P:aM c "is_map" 1 2 EN)(PA:aM c "is_among" 3 3 vO)(hp:ng v)(hc:q=true)(hq:∀H',aa [] H H'->Q (.bool (eH v)) H'):Calls c q (d+2) "is_map" [v] none Q E H:=by
 subst hc;refine P true (d+1) _ Q E H rfl (Ss_go ?_);walk_at "";cases v with
 |tup l=>
  walk_at "";have no:¬(1<=l.length/\l.length<=8)->eH (.tup l)=false:=fun h=>by show(decide _&&_)=_;rw[decide_eq_false h,Bool.false_and]
  refine bV (fun h1=>?_) (fun h1=>?_)
  ·have h1:1<=l.length:=c7.mp h1;walk_at "";refine pO (fun h2=>?_) (fun h2=>?_)
   ·refine Ss_go ?_;walk_at "";have:=hq _ aa.refl;rw[no (fun q=>h2 (c7.mpr q.2))] at this;exact this
   ·have h2:l.length<=8:=c7.mp h2;walk_at "";refine ae.mk (n8 (H:=H)) ⟨dU (by rw[ao];exact eJ h2 (by decide)),?_⟩;refine iA (g:=fun x=>V.bool (cG 0 (l.length-1) x)) trivial (fun x hx K hK=>?_) ?_
    ·walk_at "";exact wO PA (hp.2 x hx) hK
    walk_at "";refine ae.mk (vq aQ) ?_;walk_at "";have:=hq _ (aa.refl.app (xs:=l.map fun x=>V.bool (cG 0 (l.length-1) x)));rw[show eH (.tup l)=l.all (cG 0 (l.length-1)) by show(decide _&&_)=_;rw[decide_eq_true ⟨h1,h2⟩,Bool.true_and]] at this;exact this
  ·walk_at "";have:=hq _ aa.refl;rw[no (fun q=>h1 (c7.mpr q.1))] at this;exact this
 |bool b=>walk_at "";refine Ss_go ?_;walk_at "";exact hq _ aa.refl
 |none=>walk_at "";refine Ss_go ?_;walk_at "";exact hq _ aa.refl
 |int s=>walk_at "";refine Ss_go ?_;walk_at "";exact hq _ aa.refl
 |str l=>walk_at "";refine Ss_go ?_;walk_at "";exact hq _ aa.refl
 |lst a=>walk_at "";refine Ss_go ?_;walk_at "";exact hq _ aa.refl
 |_=>exact hp.elim
noncomputable def kindsL:List Str:=["sum","most","text","map","step"]
def tr(k:Kd):kS k∈kindsL:=by cases k<;>decide +kernel
theorem KU:dh H .notIn (.str s) (.tup [.str "sum",.str "most",.str "text",.str "map",.str "step"])=some (!decide (s∈kindsL)):=rfl
def zG:bQ (ar "BadThing") vs=.none:=if_neg (by decide +kernel)
def ES (P:aM c "need_kind" 1 1 Ew) {kk:Kd} (hc:q=true) (hq:Q .none H):Calls c q (d+1) "need_kind" [.str (kS kk)] none Q E H:=by
 subst hc;refine P true d _ Q E H rfl (Ss_go ?_);walk_at "";refine ae.mk (a:=true) rfl ?_;walk_at "";refine ae.mk KU ?_;walk_at "";rw[decide_eq_true (tr kk)];walk_at "";exact hq
noncomputable def eW:V->Nat
 |.tup l=>l.length
 |_=>0
variable {s:Nat}
def Aa(h:H[a]?=some xs):dp true (ba H .tuple [.lst a])=some (.tup xs,H):=by
 show(H[a]?).map _=_;rw[h];rfl
def qM(h:xs[i]?=some x):cA H (.tup xs) (.int i)=some x:=by
 show(ix i xs.length).bind _=_;rw[C5 (dE h)];exact h
def CJ(h:n<ms.length):(ms.map nat)[n]?=some (nat (ms.getD n 0)):=by
 rw[br,b7,bt h];rfl
variable {ms:List (List Nat)}
variable {l:List Bool}
section
variable {l:Loc}
def td{y:V}(he:e∈kids)(hp:p∈kids\/p=ar "ValueError"){b:Bool}(hb:decide (e=p\/p=ar "ValueError")=b):bZ (.exc e y) (.own p)=some b:=by
 subst hb;exact if_pos ⟨he,hp⟩
def IT{l:List Bool}(h:H[a]?=some xs)(hl:gw xs=some l):sT H .count (.lst a) [.bool true]=some (.int (l.count true),H):=by
 show(H[a]?).bind _=_;rw[h];show(gw xs).map _=_;rw[hl];rfl
def Jh{l:List Bool}(h:H[a]?=some xs)(hl:gw xs=some l)(ht:true∈l):sT H .index (.lst a) [.bool true]=some (.int (l.idxOf true),H):=by
 show(H[a]?).bind _=_;rw[h];show(gw xs).bind _=_;rw[hl];exact if_pos ht
end
variable {l:Loc}{p:Nat}
def ky(ha:H[a]?=some [.str w])(hb:H[b]?=some [.str w'])(h1:fR w=true)(h2:fR w'=true):gP H (.lst a) (.lst b)=some (decide (w=w')):=by
 have t1:bM 9 H (.lst a)=some (.list [.str w]):=tL ha rfl;have t2:bM 9 H (.lst b)=some (.list [.str w']):=tL hb rfl;show(bM 9 H (.lst a)).bind _=_;rw[t1];show(bM 9 H (.lst b)).bind _=_;rw[t2];refine(if_pos (show((fR w&&true)&&(fR w'&&true))=true by rw[h1,h2];rfl)).trans ?_;show some ((w==w')&&true)=_;rw[Bool.and_true];congr 1
variable {k:Nat}
def nk(g:Nat×Nat->Nat×Nat)(y:List (Nat×Nat)):(y.map fun p=>pr (g p))=(y.map g).map pr:=by rw[d8];rfl
def pW(P:aM c "moved" 2 5 AB){net:Net}(A:ag H a bs net)(hz:net.length<1000)(hyz:∀y∈net,y.length<1000)(hc:q=true) (hq:∀a' bs' H',ag H' a' bs' (net.map (fY m))->aa [] H H'->Q (.lst a') H'):Calls c q (d+1) "moved" [.lst a,.int m] none Q E H:=by
 subst hc;refine P true d _ Q E H rfl (Ss_go ?_);walk_at "";refine ae.mk (gu A.top) ⟨dU (by rw[ao,A.len];exact aj [_] [] kaa (Y1 V0 (.l 100000)) (Y1 V0 (.l 1000)) hz),?_⟩;refine uN ((net.map (fY m)).map fun y=>y.map pr) (by rw[ao,ao,ao,A.len]) ?_ (fun H' st=>aC st A.top) ?_
 ·intro i x y' acc H' K hx hy' st hK;rw[br] at hx;revert hx;refine xM fun b hb wj=>?_;subst wj;obtain⟨y,hy,hby⟩:=(A.grow st).get hb;rw[br,br,hy] at hy';obtain rfl:=ai hy';have hl:=hyz y (bG hy);walk_at "";refine ae.mk (gu hby) ⟨dU (by rw[ao];exact aj [_] [] kaa (Y1 V0 (.l 100000)) (Y1 V0 (.l 1000)) hl),?_⟩;refine iA (g:=fun p:Nat×Nat=>pr (p.1+m,p.2+m)) hby (fun p hp K hK=>hK) ?_;exact hK _ _ aa.refl.app (aQ.trans (congrArg some (nk (fun p=>(p.1+m,p.2+m)) y))) (aJ _)
 ·intro cs H' RR;exact hq _ cs _ RR.net RR.st.app
theorem DO:∀{a b:Net} {k:Nat},k<max a.length b.length->(jj a b)[k]?=some (a.getD k []++b.getD k [])
 |[],b,k,h=>by
  have h:k<b.length:=by rw[List.length_nil,Nat.zero_max] at h;exact h
  show b[k]?=some ([]++b.getD k []);rw[List.nil_append,b7,bt h];rfl
 |x::a,[],k,h=>by
  have h:k<(x::a).length:=by rw[List.length_nil,Nat.max_zero] at h;exact h
  show(x::a)[k]?=some ((x::a).getD k []++[]);rw[d5,b7,bt h];rfl
 |x::a,y::b,0,_=>rfl
 |x::a,y::b,k+1,h=>DO (a:=a) (b:=b) (k:=k) (by rw[fO,fO] at h;exact bo [_,_,_,_,_] [] 0x2144214a528003080c01840701020100610000200404214a5294001840600c20380810080308060184000080102884294a528003080c018407010201006100c030800010020210a5294001840600c2038081008030800010020 (Y1 V0 V1) (Y1 (Y0 V0 J1) V2) (Y7 (Y6 (Y2 V1 V3) (Y0 V4 V3)) (Y6 (Y2 V1 V4) (Y0 V3 V4))) (Y7 (Y6 (Y2 V2 (Y0 V3 J1)) (Y0 (Y0 V4 J1) (Y0 V3 J1))) (Y6 (Y2 V2 (Y0 V4 J1)) (Y0 (Y0 V3 J1) (Y0 V4 J1)))) h (Ar.mx _ _) (Ar.mx _ _))
def m7 {ok:Hp->Prop} {body:V->Loc->SPost->Hp->Prop} {Q:SPost} (h:body x l (cu (fun l' H'=>ok H'/\jG ok body xs Q l' H') Q) H):jG ok body (x::xs) Q l H:=h
def yW{ok:Hp->Prop}{body:V->Loc->SPost->Hp->Prop}{Q:SPost}(h:Q .next l H):jG ok body [] Q l H:=h
def Ec(ha:H[a]?=some xs)(hb:H[b]?=some ys)(hz:xs.length+ys.length<10000):sT H .extend (.lst a) [.lst b]=some (.none,H.set a (xs++ys)):=by
 show(H[a]?).bind _=_;rw[ha];show(H[b]?).bind _=_;rw[hb];exact if_pos (bO (cN hz (by decide)))
def ag.push{e:Nat}{net:Net}(N:ag H a bs net)(hab:a∉bs)(he:H[e]?=some (y.map pr))(hne:e≠a):ag (H.set a (bs.map .lst++[.lst e])) a (bs++[e]) (net++[y]):=by
 refine⟨by rw[bT];exact jg N.top,by rw[bw,bw,N.len];rfl,fun i b z h1 h2=>?_⟩;rcases nP h1 with h1 |⟨e,rfl⟩
 ·rcases nP h2 with h2 |⟨e,rfl⟩
  ·exact eo (N.lay i b z h1 h2) fun e=>hab (e▸bG h1)
  ·exact absurd (dE h1) (by rw[e,N.len];exact d4 _)
 ·rcases nP h2 with h2 |⟨_,rfl⟩
  ·exact absurd (dE h2) (by rw[e,N.len];exact d4 _)
  ·exact eo he hne
def DV{ly:Nat}{net:Net}{xs:List (Nat×Nat)}{l2:Option V}{K:SPost}(A:ag H a bs net)(hl:H[ly]?=some (xs.map pr))(hx:xs.length<2000)(hyz:∀y∈net,y.length<1000) (hK:∀H',H'[ly]?=some ((xs++net.getD k []).map pr)->aa [ly] H H'->K .next [l0,l1,l2,some (.int k),some (.lst ly),some (.lst a)] H') :
  az (Calls c) true d none [.ite (.cmp (.var 3) [.lt] [(.blt .len [(.var 5)])]) [.expr (.meth .extend (.var 4) [(.idx (.var 5) (.var 3))])] []] K EE [l0,l1,l2,some (.int k),some (.lst ly),some (.lst a)] H:=by
 refine Ss_go ?_;walk_at "";refine ae.mk (c6 A.top) ?_;walk_at "";rw[ao,A.len];refine bV (fun h=>?_) (fun h=>?_)
 ·have hy:=bt (bP.mp h);obtain⟨b,hb,hbH,hbI⟩:=A.at hy;have hyl:=hyz _ (bG hy);have hd:net.getD k []=net[k]'(bP.mp h):=by rw[b7,hy];rfl
  refine Ss_go ?_;walk_at "";refine⟨rfl,?_⟩;walk_at "";refine ae.mk hbI ?_;walk_at "";refine ae.mk (Ec hl hbH (by rw[ao,ao];exact ay [_,_] [] kab (Y1 (Y0 V0 V1) (.l 10000)) (Y1 V0 (.l 2000)) (Y1 V1 (.l 1000)) hx hyl)) ?_;walk_at "";exact hK _ (by rw[hd,bT];exact jg hl) (aa.refl.set (.inl aI))
 ·walk_at "";have hd:net.getD k []=[]:=by rw[b7,nO (fE fun q=>h (bP.mpr q))];rfl
  exact hK _ (by rw[hd,d5];exact hl) aa.refl
variable {x y:Net}
def oj(H:Hp)(a b ls:Nat)(M:Net)(k:Nat)(x0:Loc)(H':Hp):Prop:=∀GJ:Prop,(∀(v3 v4 v5:Option V),∀(ds:List Nat),ag H' ls ds (M.take k)->aa [] H H'->ls∉ds->[some (.lst a),some (.lst b),some (.lst ls),v3,v4,v5]=x0->GJ)->GJ
def sb(P:aM c "side_by_side" 2 6 Cr)(A:ag H a bs x)(B:ag H b cs y)(hx:x.length<1000)(hy:y.length<1000)(hxz:∀z∈x,z.length<1000)(hyz:∀z∈y,z.length<1000)(hc:q=true) (hq:∀a' bs' H',ag H' a' bs' (jj x y)->aa [] H H'->H.length<=a'->a'∉bs'->Q (.lst a') H'):Calls c q (d+1) "side_by_side" [.lst a,.lst b] none Q E H:=by
 subst hc;refine P true d _ Q E H rfl (Ss_go ?_);walk_at "";have st1:=(aa.refl (S:=[]) (H:=H)).app (xs:=[]);have hmx:max x.length y.length<1000:=Nat.max_lt.mpr ⟨hx,hy⟩;refine⟨rfl,iB (v:=.rng 0 (max x.length y.length:Nat) 1) (items:=(List.range (max x.length y.length)).map nat) (fun K E' h=>?_) (congrArg some (qT _)) ?_⟩
 ·walk_at "";refine ae.mk (c6 (aC st1 A.top)) ?_;walk_at "";refine ae.mk (c6 (aC st1 B.top)) ?_;walk_at "";rw[ao,ao,A.len,B.len];refine ae.mk ED ?_;walk_at "";exact ae.mk (nw (by exact aj [_] [] kaa (Y1 V0 (.l 100000)) (Y1 V0 (.l 1000)) hmx)) h
 refine uE (oj H a b H.length (jj x y)) ?_ ?_ (fun J kJ=>kJ _ _ _ [] ⟨aQ,rfl,fun J J J h=>nomatch h⟩ st1 fX rfl)
 ·intro k v l' H' K hv hI hnext hret;refine hI _ fun v3 v4 v5 ds N st ap wg=>?_;clear hI;subst wg;have hk:=dE hv;rw[ao,di] at hk;rw[br,iM hk] at hv;obtain rfl:=ai hv;unfold nat;walk_at "";have st2:=st.app (xs:=[]);refine⟨rfl,iB (v:=.tup [.lst a,.lst b]) (fun K E' h=>h) rfl (m7 ?_)⟩;walk_at "";refine DV (xs:=[]) (A.grow st2) aQ (by decide) hxz fun H3 h3 st3=>?_;refine Then_go ⟨trivial,m7 ?_⟩;walk_at "";have lo:∀{S:List Nat},(∀z∈S,z<H.length)->∀z∈S,z∉[H'.length]:=fun hS z hz hm=>fN.mpr st.len ((aN.mp hm)▸hS z hz);have B3:=(B.grow st2).stay st3 (lo fun z hz=>B.lt z hz);refine DV (xs:=[]++x.getD k []) B3 h3 ?_ hyz fun H4 h4 st4=>?_
  ·rw[List.nil_append,b7];refine xC (x[k]?) (fun e=>?_) fun z e=>?_
   ·decide
   ·exact cN (hxz z (bG e)) (by decide)
  refine Then_go ⟨trivial,yW ?_⟩;have lo2:∀z∈H.length::ds,z∉[H'.length]:=fun z hz hm=>d4 _ ((aN.mp hm)▸N.lt z hz);have N4:=((N.grow (aa.refl.app (xs:=[]))).stay st3 lo2).stay st4 lo2;have hne:H'.length≠H.length:=Nat.ne_of_gt (N.lt _ aI);have hds:(ds.map V.lst).length<10000:=by rw[ao,N.len,gg];exact ay [_,_,_] [] kaz (Y1 (Y5 V0 V1) (.l 10000)) (Y1 V2 (.l 1000)) (Y1 V0 V2) hmx hk
  refine Then_go (Ss_go ?_);walk_at "";refine⟨rfl,?_⟩;walk_at "";refine ae.mk (kY N4.top hds) ?_;walk_at "";have N5:=N4.push ap h4 hne;rw[List.nil_append] at N5;have stZ:aa [] H H4:=(st2.trans st3 fun z hz=>.inr (by rw[aN.mp hz];exact st.len)).trans st4 fun z hz=>.inr (by rw[aN.mp hz];exact st.len);refine hnext _ _ trivial (fun J kJ=>kJ _ _ _ _ ?_ (stZ.set (.inr (aJ _))) (fun hm=>(bJ.mp hm).elim ap fun e=>hne (aN.mp e).symm) rfl);rw[List.take_add_one,DO hk];exact N5
 ·intro l' H' hI;refine hI _ fun v3 v4 v5 ds N st ap wg=>?_;clear hI;subst wg;rw[ao,di,<-zV,List.take_length] at N;refine Then_go (Ss_go ?_);walk_at "";exact hq _ ds _ N st (aJ _) ap
def nC(hm:m<1000)(hn:n<1000):dp true (ba H .range [.int m,.int n])=some (.rng m n 1,H):=if_pos (show(m:Int).natAbs<2^31/\(n:Int).natAbs<2^31 by exact ay [_,_] [] kan (Y6 (Y1 V0 (.l 2147483648)) (Y1 V1 (.l 2147483648))) (Y1 V0 (.l 1000)) (Y1 V1 (.l 1000)) hm hn)
def J6 (m n:Nat):eQ (m:Int) (n:Int) 1=(List.range (n-m)).map fun i=>nat (m+i):=by
 have:(if 0<(1:Int)/\(m:Int)<(n:Int) then(((n:Int)-m-1)/1+1).toNat else 0)=n-m:=by
  split<;>(first |exact ay [_,_,_] [_,_] 0x1904294001840300c200800019085294a50006102003080e01840500c20100610000101c051042140d04294001840700c200800021085294a50006102c03080c02040400c201006100403018080144108468214a000c20380610040001085294a5000610240408100184040102010061004010200510421 (Y2 V0 (Y2 V1 V2)) (Y7 (Y5 (Y4 V0 J0) (Y0 V0 J1)) (Y6 (Y3 (Y0 V0 J1) J0) (Y2 V0 J0))) (Y6 (Y5 (Y0 (Y1 J1 V0) V1) (Y2 (Y2 (Y4 V1 J0) (Y4 V2 J0)) J1)) (Y6 (Y3 J0 V1) (Y4 V1 J1))) (Ar.tn _) (Ar.zd _ (k:=1) (by decide)) |exact aj [_,_] [] 0xc500061000081a08528003080e01840100005294001840500c202006100005084012800308000 (Y2 J0 (Y2 V0 V1)) (Y8 (Y6 (Y4 J0 J1) (Y4 (Y4 V1 J0) (Y4 V0 J0))) J0) (by assumption))
 rw[eQ,this];refine List.map_congr_left fun i J=>?_;rw[Int.mul_one];rfl
def FL:dp true (d0 H (.rng m n 1))=some ((List.range (n-m)).map fun i=>nat (m+i)):=congrArg some (J6 m n)
def mz(P:aM c "parted" 4 6 Gy)(PS:aM c "side_by_side" 2 6 Cr)(PM:aM c "moved" 2 5 AB)(A:ag H a bs x)(B:ag H b cs y)(hm:1<=m)(hmz:m<=64)(hnz:n<=64)(hx:x.length<1000)(hy:y.length<1000)(hxz:∀z∈x,z.length<1000)(hyz:∀z∈y,z.length<1000)(hc:q=true) (hq:∀a' bs' H',ag H' a' bs' (oG m x n y)->aa [] H H'->Q (.lst a') H'):Calls c q (d+2) "parted" [.int m,.lst a,.int n,.lst b] none Q E H:=by
 subst hc;refine P true (d+1) _ Q E H rfl (Ss_go ?_);walk_at "";refine pW PM B hy hyz rfl fun b1 cs1 H1 B1 st1=>?_;walk_at "";refine sb PS (A.grow st1) B1 hx (by rw[ao];exact hy) hxz (fun z hz=>?_) rfl fun a2 ds H2 N2 st2 hlo ap=>?_
 ·revert hz;refine xL fun w hw wj=>?_;subst wj;rw[fY,ao];exact hyz w hw
 have st3:=st1.trans0 st2;walk_at "";refine⟨rfl,?_⟩;walk_at "";refine ae.mk (nC (n:=m+n) (by exact aj [_] [] kaa (Y1 V0 (.l 1000)) (Y0 V0 (.l 64)) hmz) (by exact ay [_,_] [] kab (Y1 (Y0 V0 V1) (.l 1000)) (Y0 V0 (.l 64)) (Y0 V1 (.l 64)) hmz hnz)) ?_;walk_at "";refine ae.mk (FL (H:=H2) (m:=m) (n:=m+n)) ⟨dU (by rw[ao,di];exact ay [_,_] [] 0xca5294001840300c202006101403080002802308401 (Y1 (Y2 (Y0 V0 V1) V0) (.l 100000)) (Y0 V0 (.l 64)) (Y0 V1 (.l 64)) hmz hnz),?_⟩;refine iA (g:=fun i=>pr (m-1,m+i)) trivial (fun i hi K hK=>?_) ?_
 ·walk_at "";unfold nat;rw[show(m:Int)-1=((m-1:Nat):Int) by exact aj [_] [] kbp (Y5 (Y2 (Y4 V0 J0) J1) (Y4 (Y2 V0 J1) J0)) (Y0 J1 V0) hm];exact hK
 have hy2:(H2++[(List.range (m+n-m)).map fun i=>pr (m-1,m+i)])[H2.length]?=some ((ug m n).map pr):=by
  rw[aQ,ug,d8,Nat.add_sub_cancel_left];rfl
 have st4:=(aa.refl (S:=[]) (H:=H2)).app (xs:=(List.range (m+n-m)).map fun i=>pr (m-1,m+i));have N3:=N2.grow st4;walk_at "";refine ae.mk (kY N3.top (by rw[ao,N2.len,zV,ao];exact bo [_,_,_] [] 0x2485294001840300c202806100000010a528003080601840400c2000000 (Y1 V0 (.l 10000)) (Y1 V1 (.l 1000)) (Y1 V2 (.l 1000)) (Y7 (Y6 (Y2 V0 V1) (Y0 V2 V1)) (Y6 (Y2 V0 V2) (Y0 V1 V2))) hx hy (Ar.mx _ _))) ?_;walk_at "";exact hq _ _ _ (N3.push ap hy2 (Nat.ne_of_gt (N2.lt _ aI))) ((st3.trans0 st4).set (.inr (aD st1.len hlo)))
def lO{a b:Int}(ha:a.natAbs<1000)(hb:b.natAbs<1000):dp true (ba H .range [.int a,.int b,.int 2])=some (.rng a b 2,H):=if_pos (show a.natAbs<2^31/\b.natAbs<2^31/\(0:Int)<2/\(2:Int)<2^31 by exact bo [_,_] [_] 0x6318a50008101803080002800308000294001840400c20000a5000610080308000 (Y6 (Y1 V0 (.l 2147483648)) (Y6 (Y1 V1 (.l 2147483648)) (Y6 (Y4 J0 J2) (Y4 J2 V0)))) (Y1 V0 (.l 1000)) (Y1 V1 (.l 1000)) (Y5 V0 (.l 2147483648)) ha hb (Ar.p31))
def E4(m n k:Nat)(h:(if(m:Int)<(n:Int)-1 then(((n:Int)-1-m-1)/2+1).toNat else 0)=k):eQ (m:Int) ((n:Int)-1) 2=(List.range k).map fun i=>nat (m+i*2):=by
 have:(if 0<(2:Int)/\(m:Int)<(n:Int)-1 then(((n:Int)-1-m-1)/2+1).toNat else 0)=k:=by
  rw[<- h];split<;>split<;>(first |exact bp [_] [] kac (Y2 V0 V0) |exact ay [_,_,_] [] 0x4294001840400c2008020 (Y2 V0 J0) (Y6 (Y4 J0 J2) (Y4 (Y4 V1 J0) (Y2 (Y4 V2 J0) J1))) (Y8 (Y4 (Y4 V1 J0) (Y2 (Y4 V2 J0) J1)) J0) (by assumption) (by assumption) |exact ay [_,_,_] [] 0x1ca50006100c03080002800308000 (Y2 J0 V0) (Y8 (Y6 (Y4 J0 J2) (Y4 (Y4 V1 J0) (Y2 (Y4 V2 J0) J1))) J0) (Y4 (Y4 V1 J0) (Y2 (Y4 V2 J0) J1)) (by assumption) (by assumption) |exact bp [] [] kac (Y2 J0 J0))
 rw[eQ,this];refine List.map_congr_left fun i J=>?_;rfl
def kE(hk:k=n/2):dp true (d0 H (.rng 0 ((n:Int)-1) 2))=some ((List.range k).map fun i=>nat (0+i*2)):=congrArg some (E4 0 n k (by split<;>(first |exact bo [_,_,_] [_,_] 0x6490a50006100c030802000064214a5294a0010404806201c03100c01840500c20100610000101c061004148c84214a5294a000c405806202403080c02040400c401006100403010070184010464214a5294a000c404806201c04100c01840401020100610040101c0610041 (Y2 V0 V1) (Y2 V1 (Y3 V2 J2)) (Y7 (Y5 (Y4 V0 J0) (Y0 V0 J1)) (Y6 (Y3 (Y0 V0 J1) J0) (Y2 V0 J0))) (Y6 (Y5 (Y0 (Y1 J2 V0) V1) (Y2 (Y2 (Y2 (Y4 V2 J0) J1) (Y4 J0 J0)) J1)) (Y6 (Y3 J0 V1) (Y4 V1 J2))) hk (Ar.tn _) (Ar.zd _ (k:=2) (by decide)) |exact ay [_,_] [] 0x62800308000194a528003100801840500c40100610000610021 (Y2 J0 V0) (Y2 V0 (Y3 V1 J2)) (Y8 (Y4 (Y4 J0 J0) (Y2 (Y4 V1 J0) J1)) J0) hk (by assumption))))
def o7(hk:k=(n-1)/2):dp true (d0 H (.rng 1 ((n:Int)-1) 2))=some ((List.range k).map fun i=>nat (1+i*2)):=congrArg some (E4 1 n k (by split<;>(first |exact bo [_,_,_] [_,_] 0xc9214a000c20180610040000c64214a5294a50008203003101401880900c20400610140308040184000040a01420104c2014201052340c85294a50006202c03101201840200c202806100002018402840208c84214a5294a50006203c03101a01840800c203008101003100401840100c0802c06100a100825080411a064294a50006202c03101201840200c2008040308050804119085294a5294001880d00c405808202803080c01840401020100610040102c06100a10082508041 (Y2 V0 V1) (Y2 V1 (Y3 (Y2 V2 J1) J2)) (Y7 (Y5 (Y4 V0 J0) (Y0 V0 J1)) (Y6 (Y3 (Y0 V0 J1) J0) (Y2 V0 J0))) (Y6 (Y5 (Y0 (Y1 J2 V0) V1) (Y2 (Y2 (Y2 (Y4 V2 J0) J1) (Y4 J1 J0)) J1)) (Y6 (Y3 J0 V1) (Y4 V1 J2))) hk (Ar.tn _) (Ar.zd _ (k:=2) (by decide)) |exact ay [_,_] [] 0x628003080001a064294a528003101401880800c20100610140308000100c20142008465294a50006202003081201880600c201006100006100a10042508021 (Y2 J0 V0) (Y2 V0 (Y3 (Y2 V1 J1) J2)) (Y8 (Y4 (Y4 J1 J0) (Y2 (Y4 V1 J0) J1)) J0) hk (by assumption))))
def xx{a b:Int}(ha:small a=true)(h:K (.int (a*b),H)):ae (bL H .mul (.int a) (.int b)) K:=ae.mk (if_pos (by rw[ha,Bool.true_or])) h
def ag.extend(N:ag H a bs x)(M:ag H b cs y)(h1:a∉bs)(h2:a∉cs):ag (H.set a (bs.map .lst++cs.map .lst)) a (bs++cs) (x++y):=by
 obtain⟨zs,z1,z2,z3⟩:=N.zs;obtain⟨ws,w1,w2,w3⟩:=M.zs;have:ag (H.set a (bs.map .lst++cs.map .lst)) a ((zs++ws).map (·.1)) ((zs++ws).map (·.2)):=by
  refine ag.ofz ?_ fun p hp=>(bJ.mp hp).elim (fun hp=>eo (z3 p hp) fun e=>h1 (z1▸e▸fg.mpr ⟨p,hp,rfl⟩)) fun hp=>eo (w3 p hp) fun e=>h2 (w1▸e▸fg.mpr ⟨p,hp,rfl⟩);rw[jg N.top,<-z1,<-w1,bT,bT]
 rw[bT,bT,z1,z2,w1,w2] at this;exact this
theorem lP(P:aM c "paired" 2 6 DS){net:Net}(A:ag H a bs net)(hn1:1<=n)(hn:n<=64)(hz:net.length<1000)(hyz:∀z∈net,z.length<1000)(hc:q=true) (hq:∀a' bs' H',ag H' a' bs' (iT n net)->aa [] H H'->Q (.lst a') H'):Calls c q (d+1) "paired" [.int n,.lst a] none Q E H:=by
 subst hc;refine P true d _ Q E H rfl (Ss_go ?_);walk_at "";refine ae.mk (lO (by decide) (by exact ay [_,_] [] kbq (Y1 V0 (.l 1000)) (Y0 V1 (.l 64)) (Y7 (Y6 (Y5 (Y4 V0 J0) (Y2 (Y4 V1 J0) J1)) (Y3 J0 (Y2 (Y4 V1 J0) J1))) (Y6 (Y5 (Y4 V0 J0) (Y3 (Y2 (Y4 V1 J0) J1) J0)) (Y3 (Y2 (Y4 V1 J0) J1) J0))) hn (Ar.na _))) ?_;walk_at "";refine ae.mk (kE (H:=H) (n:=n) rfl) ⟨dU (by rw[ao,di];exact aj [_] [] 0x65294001880200c20180610000610001 (Y1 (Y3 V0 J2) (.l 100000)) (Y0 V0 (.l 64)) hn),?_⟩;refine iA (g:=fun i=>pr (2*i,2*i+1)) trivial (fun i hi K hK=>?_) ?_
 ·walk_at "";rw[Nat.zero_add,Nat.mul_comm];exact hK
 walk_at "";have N2:ag (H++[(List.range (n/2)).map fun i=>pr (2*i,2*i+1)]++[[.lst H.length]]) (H++[(List.range (n/2)).map fun i=>pr (2*i,2*i+1)]).length [H.length] [vv n]:=by
  refine⟨aQ,rfl,fun i b y h1 h2=>?_⟩;cases i with
  |zero=>
   obtain rfl:=ai h1;obtain rfl:=ai h2;rw[iE aQ,vv,d8];rfl
  |succ i=>injection h1
 have st2:aa [] H (H++[(List.range (n/2)).map fun i=>pr (2*i,2*i+1)]++[[.lst H.length]]):=aa.refl.app.app;have lo2:H.length<(H++[(List.range (n/2)).map fun i=>pr (2*i,2*i+1)]).length:=dA aQ;generalize H++[(List.range (n/2)).map fun i=>pr (2*i,2*i+1)]++[[.lst H.length]]=H2 at N2 st2;generalize(H++[(List.range (n/2)).map fun i=>pr (2*i,2*i+1)]).length=ls at N2 lo2;refine⟨rfl,?_⟩;walk_at "";have A2:=A.grow st2;refine ae.mk (gu A2.top) ⟨dU (by rw[ao,A2.len];exact aj [_] [] kaa (Y1 V0 (.l 100000)) (Y1 V0 (.l 1000)) hz),?_⟩;refine uN ((net.map dW).map fun y=>y.map pr) (by rw[ao,ao,ao,A2.len]) ?_ (fun H' st=>aC st A2.top) ?_
 ·intro i x y' acc H' K hx hy' st hK;rw[br] at hx;revert hx;refine xM fun b hb wj=>?_;subst wj;obtain⟨y,hy,hby⟩:=(A2.grow st).get hb;rw[br,br,hy] at hy';obtain rfl:=ai hy';have hl:=hyz y (bG hy);walk_at "";refine ae.mk (gu hby) ⟨dU (by rw[ao];exact aj [_] [] kaa (Y1 V0 (.l 100000)) (Y1 V0 (.l 1000)) hl),?_⟩;refine iA (g:=fun p:Nat×Nat=>pr (2*p.1+1,2*p.2+1)) hby (fun p hp K hK=>?_) ?_
  ·unfold pr;walk_at "";refine xx (by decide) ?_;walk_at "";refine xx (by decide) ?_;exact hK
  exact hK _ _ aa.refl.app (aQ.trans (congrArg some (nk (fun p=>(2*p.1+1,2*p.2+1)) y))) (aJ _)
 intro cs H3 RR;have N3:=RR.net;have st3:=RR.st.app (xs:=cs.map .lst);have hlc:ls∉cs:=fun h=>fN.mpr (RR.fr ls h).1 (N2.lt ls aI);generalize H3++[cs.map .lst]=H3' at N3 st3;generalize H3.length=a3 at N3;clear RR;have N2':=N2.grow st3;have hce:cs.length=net.length:=by rw[N3.len,ao]
 walk_at "";refine ae.mk (Ec N2'.top N3.top (by rw[ao,ao,hce];show 1+_<_;exact aj [_] [] kaa (Y1 (Y0 J1 V0) (.l 10000)) (Y1 V0 (.l 1000)) hz)) ?_;have N4:=N2'.extend N3 (fun h=>Nat.ne_of_gt lo2 (aN.mp h)) hlc;have st4:=(st2.trans0 st3).set (a:=ls) (xs:=[H.length].map .lst++cs.map .lst) (.inr (bO lo2));generalize H3'.set ls ([H.length].map .lst++cs.map .lst)=H4 at N4 st4;have ap4:ls∉[H.length]++cs:=fun h=>(bJ.mp h).elim (fun h=>Nat.ne_of_gt lo2 (aN.mp h)) hlc;walk_at "";refine bV (fun h=>?_) (fun h=>?_)
 ·have h2:2<n:=bP.mp h;refine Ss_go ?_;walk_at "";refine⟨rfl,?_⟩;walk_at "";refine ae.mk (lO (by decide) (by exact ay [_,_] [] kbq (Y1 V0 (.l 1000)) (Y0 V1 (.l 64)) (Y7 (Y6 (Y5 (Y4 V0 J0) (Y2 (Y4 V1 J0) J1)) (Y3 J0 (Y2 (Y4 V1 J0) J1))) (Y6 (Y5 (Y4 V0 J0) (Y3 (Y2 (Y4 V1 J0) J1) J0)) (Y3 (Y2 (Y4 V1 J0) J1) J0))) hn (Ar.na _))) ?_;walk_at "";refine ae.mk (o7 (H:=H4) (n:=n) rfl) ⟨dU (by rw[ao,di];exact aj [_] [] 0x3194a528003100a01840600c201806100005080013080508001 (Y1 (Y3 (Y2 V0 J1) J2) (.l 100000)) (Y0 V0 (.l 64)) hn),?_⟩;refine iA (g:=fun i=>pr (2*i+1,2*i+2)) trivial (fun i hi K hK=>?_) ?_
  ·walk_at "";rw[Nat.add_comm,Nat.mul_comm];exact hK
  have st5:=(aa.refl (S:=[]) (H:=H4)).app (xs:=(List.range ((n-1)/2)).map fun i=>pr (2*i+1,2*i+2));have N5:=N4.grow st5;walk_at "";refine ae.mk (kY N5.top (by rw[ao,bw,hce];show 1+_<_;exact aj [_] [] kaa (Y1 (Y0 J1 V0) (.l 10000)) (Y1 V0 (.l 1000)) hz)) ?_;walk_at "";have N6:=N5.push (y:=gL n) ap4 (by rw[aQ,gL,d8];rfl) (Nat.ne_of_gt (N4.lt _ aI));refine hq _ ([H.length]++cs++[H4.length]) _ ?_ ((st4.trans0 st5).set (.inr (bO lo2)));unfold iT;rw[if_pos h2];exact N6
 ·walk_at "";refine hq _ ([H.length]++cs) _ ?_ st4;unfold iT;rw[if_neg (fun q=>h (bP.mpr q)),d5];exact N4
variable {K:SPost}{x:Nat}{y:V}
def BD{net:Net}(F:∀y∈net,cm n y)(hn:n<=64):∀z∈net,z.length<1000:=bK.short F hn
def CU(h:x<=n-1)(hn:n<=64):x<1000:=eJ (aD h (aD (Nat.sub_le ..) hn)) (by decide)
def sL(h:n=m+k):(n:Int)-(m:Int)=(k:Int):=by exact aj [_,_,_] [] kad (Y5 (Y2 (Y4 V0 J0) (Y4 V1 J0)) (Y4 V2 J0)) (Y2 V0 (Y0 V1 V2)) h
variable {x:V}
def gE(H:Hp)(n ls m:Nat)(x0:Loc)(H':Hp):Prop:=∀GJ:Prop,(∀(s:Nat),∀(net:Net),∀(bs:List Nat),∀(v3:Option V),1<=s->(m+s=2*n)->(∀y∈net,cm n y)->(bc net id=some (fun x=>if x<n then x+1-s else x))->2*net.length<=s+1->net.length<s->ag H' ls bs net->ls∉bs->aa [] H H'->[some (.int n),some (.lst ls),some (.int s),v3]=x0->GJ)->GJ
def gE.mk{ls:Nat}(s:Nat)(net:Net)(bs:List Nat)(v3:Option V)(H':Hp)(h1:1<=s)(hm:m+s=2*n)(hok:∀y∈net,cm n y)(ht:bc net id=some (fun x=>if x<n then x+1-s else x))(hl:2*net.length<=s+1)(hl2:net.length<s)(N:ag H' ls bs net)(ap:ls∉bs)(st:aa [] H H'):gE H n ls m [some (.int n),some (.lst ls),some (.int s),v3] H':=fun J kJ=>kJ s net bs v3 h1 hm hok ht hl hl2 N ap st rfl
variable {m:List Nat}
noncomputable def HW:List St:=[.ite (.not (.call "is_among" [.wx 0,.ww 1,.ww 64])) [.rais "BadLines" [.lit (.str "there are 1 to 64 lines")]] []]
def Du:bQ (ar "BadLines") vs=.none:=if_neg (by decide +kernel)
def lV:bQ (ar "NoNet") vs=.none:=if_neg (by decide +kernel)
def lS (h1:lo<=n) (h2:n<=hi):cG lo hi (.int n)=true:=decide_eq_true ⟨c7.mpr h1,c7.mpr h2⟩
inductive uZ(e:Str)(w:Str)(b1 b2 b3 b4 b5:Bool):Prop
 |mk (hk:e∈kids)(h1:decide (e=ar "BadKind"\/ar "BadKind"=ar "ValueError")=b1)(h2:decide (e=ar "BadThing"\/ar "BadThing"=ar "ValueError")=b2)
   (h3:decide (e=ar "BadLines"\/ar "BadLines"=ar "ValueError")=b3) (h4:decide (e=ar "BadNet"\/ar "BadNet"=ar "ValueError")=b4) (h5:decide (e=ar "NoNet"\/ar "NoNet"=ar "ValueError")=b5)
   (hc:[b1,b2,b3,b4,b5].count true=1) (hi:[V.str "kind",.str "thing",.str "lines",.str "net",.str "none"][[b1,b2,b3,b4,b5].idxOf true]?=some (.str w)) (hm:true∈[b1,b2,b3,b4,b5]):uZ e w b1 b2 b3 b4 b5
def kQ:uZ (ar "BadLines") "lines" false false true false false:=⟨by decide +kernel,by decide +kernel,by decide +kernel,by decide +kernel,by decide +kernel,by decide +kernel,by decide,rfl,by decide⟩
def oM:uZ (ar "NoNet") "none" false false false false true:=⟨by decide +kernel,by decide +kernel,by decide +kernel,by decide +kernel,by decide +kernel,by decide +kernel,by decide,rfl,by decide⟩
noncomputable def KO:List St:=[.expr (.call "need_lines" [.wx 0]),.ite (.or [.not (.isi (.wx 1) .list),.cmp (.blt .len [.wx 1]) [.gt] [.ww 80]]) [.rais "BadNet" [.lit .none]] [],.loop (.two 2 3) (.enum (.wx 1)) [.ite (.not (.call "is_layer" [.wx 3,.wx 0])) [.rais "BadNet" [.wx 2]] []]]
theorem DR{g:α->V}{ok:Hp->Prop}{body:V->Loc->SPost->Hp->Prop}{Q:SPost}(I:Nat->List α->Loc->Hp->Prop) (step:∀(k:Nat) x r l H (K:SPost),I k (x::r) l H->(∀l' H',ok H'->I (k+1) r l' H'->K .next l' H')->(∀v l' H',Q (.ret v) l' H'->K (.ret v) l' H')->body (.tup [.int k,g x]) l K H) (hend:∀k l H,I k [] l H->Q .next l H):∀{xs:List α} {k:Nat} {l:Loc} {H:Hp},I k xs l H->jG ok body (tP (k:Int) (xs.map g)) Q l H
 |[],k,l,H,h=>hend k l H h
 |x::r,k,l,H,h=>step k x r l H _ h (fun J J hok hI=>⟨hok,DR I step hend (k:=k+1) hI⟩) fun J J J hq=>hq
structure dR(c:Cx):Prop where
 among:aM c "is_among" 3 3 vO
 lines:aM c "need_lines" 1 1 HW
 joint:aM c "is_joint" 2 2 Bq
 layer:aM c "is_layer" 2 4 FT
 net:aM c "need_net" 2 4 KO
def kn:bQ (ar "BadNet") [v]=v:=if_pos rfl
def Fq (F:dR c) (hk:(kd v).isSome=true) (hc:q=true) (hy:cG 1 64 v=true->Q .none H) (hn:cG 1 64 v=false->E (.exc "BadLines" .none) H):Calls c q (d+2) "need_lines" [v] none Q E H:=by
 subst hc;refine F.lines true (d+1) _ Q E H rfl (Ss_go ?_);walk_at "";refine wO F.among hk ?_;walk_at "";refine xD (cG 1 64 v) (fun hg=>?_) fun hg=>?_
 ·walk_at "";exact hy hg
 ·walk_at "";refine⟨rfl,?_⟩;show E (.exc "BadLines" (bQ _ _)) H;rw[Du];exact hn hg
def HL(F:dR c)(hn:1<=n)(hc:q=true)(hq:Q (.bool false) H):Calls c q (d+2) "is_joint" [.tup [.int 0,.int n],.int n] none Q E H:=by
 subst hc;refine F.joint true (d+1) _ Q E H rfl (Ss_go ?_);walk_at "";refine BK F.among (Int.le_refl 0) (Int.le_sub_one_of_lt (bP.mpr hn)) ?_;walk_at "";refine wO F.among rfl ?_;rw[show cG 0 ((n:Int)-1) (.int n)=false from decide_eq_false fun h=>absurd h.2 (by exact aj [_] [] 171801870368 (Y8 (Y3 (Y4 V0 J0) (Y2 (Y4 V0 J0) J1)) J0) (Y3 (Y4 V0 J0) (Y2 (Y4 V0 J0) J1)) h.2)];walk_at "";exact hq
def IJ(F:dR c)(ha:H[a]?=some [pr (0,n)])(hn:1<=n)(hc:q=true)(hq:Q (.bool false) H):Calls c q (d+3) "is_layer" [.lst a,.int n] none Q E H:=by
 subst hc;refine F.layer true (d+2) _ Q E H rfl (Ss_go ?_);walk_at "";refine ae.mk (c6 ha) ?_;walk_at "";refine vJ (Int.le_refl 1) ?_;walk_at "";refine⟨rfl,iB (v:=.lst a) (fun K E' h=>h) ha ?_⟩;refine ae.mk rfl (Ss_go ?_);walk_at "";refine HL F hn rfl ?_;walk_at "";exact hq
def oy(a n:Nat)(bs:List Nat)(net:Net)(H:Hp)(k:Nat)(r:List Nat)(x2:Loc)(x3:Hp):Prop:=∀GJ:Prop,(∀(x y:Option V),(bs.drop k=r)->(∀j y,j<k->net[j]?=some y->cm n y)->[some (.int n),some (.lst a),x,y]=x2->H=x3->GJ)->GJ
def lL(F:dR c){net:Net}(hn:1<=n/\n<=64)(hN:ag H a bs net)(hc:q=true)(good:∀y∈net,cm n y\/y=[(0,n)])(hl:80<net.length->E (.exc "BadNet" .none) H) (hq:net.length<=80->(∀y∈net,cm n y)->Q .none H) (hb:∀i:Nat,net[i]?=some [(0,n)]->(∀j y,j<i->net[j]?=some y->cm n y)->net.length<=80->E (.exc "BadNet" (.int i)) H):Calls c q (d+4) "need_net" [.int n,.lst a] none Q E H:=by
 subst hc;refine F.net true (d+3) _ Q E H rfl (Ss_go ?_);walk_at "";refine Fq (d:=d+1) F rfl rfl (fun J=>?_) (fun h=>absurd (lS (lo:=1) (hi:=64) hn.1 hn.2) (by rw[show cG ((1:Nat):Int) ((64:Nat):Int) (.int n)=false from h];decide));walk_at "";refine ae.mk (c6 hN.top) ?_;rw[ao,hN.len];walk_at "";refine bV (fun h=>?_) (fun h=>?_)
 ·walk_at "";refine⟨rfl,?_⟩;show E (.exc "BadNet" (bQ _ _)) H;rw[kn];exact hl (bP.mp h)
 ·have hz:net.length<=80:=fE fun q=>h (bP.mpr q);walk_at "";refine⟨rfl,oN (a:=a) (fun K E' h=>h) hN.top ?_⟩;refine DR (k:=0) (oy a n bs net H) ?_ ?_ (fun J kJ=>kJ _ _ rfl (fun j J hj=>absurd hj (Nat.not_lt_zero _)) rfl rfl)
  ·intro k b r l H' K hI hnext hret;refine hI _ fun x y hr hp wg eI2=>?_;clear hI;subst wg;subst eI2;have hk:bs[k]?=some b:=by rw[<- List.head?_drop,hr];rfl
   obtain⟨layer,hy,hb'⟩:=hN.get hk;refine ae.mk rfl (Ss_go ?_);walk_at "";rcases good layer (bG hy) with ho |rfl
   ·refine Kz F.among F.joint F.layer hb' hn.2 ho rfl ?_;walk_at "";refine hnext _ _ hN.top (fun J kJ=>kJ _ _ (by rw[<- List.drop_drop,hr];rfl) (fun j y hj hy'=>?_) rfl rfl);rcases Nat.lt_succ_iff_lt_or_eq.mp hj with hj |rfl
    ·exact hp j y hj hy'
    ·rw[hy] at hy';obtain rfl:=ai hy';exact ho
   ·refine IJ F hb' hn.1 rfl ?_;walk_at "";refine⟨rfl,?_⟩;show E (.exc "BadNet" (bQ _ _)) _;rw[kn];exact hb k hy hp hz
  ·intro k l H' hI;refine hI _ fun x y hr hp wg eI2=>?_;clear hI;subst wg;subst eI2;walk_at "";refine hq hz fun y hy=>?_;obtain⟨j,hj,e⟩:=List.getElem_of_mem hy;refine hp j y (cS hj ?_) (by rw[bt hj,e]);rw[<- hN.len];exact List.drop_eq_nil_iff.mp hr
def t9:uZ (ar "BadNet") "net" false false false true false:=⟨by decide +kernel,by decide +kernel,by decide +kernel,by decide +kernel,by decide +kernel,by decide +kernel,by decide,rfl,by decide⟩
inductive ez (Q:V->Hp->Prop) (x:V) (H:Hp):Prop
 |word (e w:Str) (b1 b2 b3 b5:Bool) (h1:x=.exc e .none) (W:uZ e w b1 b2 b3 false b5) (hq:∀a H',gT H a [.str w] H'->Q (.lst a) H'):ez Q x H
 |net (y:V) (h1:x=.exc "BadNet" y) (hy:vo y=some y) (hq:∀a H',gT H a [.str "net",y] H'->Q (.lst a) H'):ez Q x H
def J3(hq:∀a H',gT H a [.str "lines"] H'->Q (.lst a) H'):ez Q (.exc "BadLines" .none) H:=.word _ _ _ _ _ _ rfl kQ hq
def GX(hq:∀a H',gT H a [.str "none"] H'->Q (.lst a) H'):ez Q (.exc "NoNet" .none) H:=.word _ _ _ _ _ _ rfl oM hq
noncomputable def Ih:List St:=[.ite (.or [.not (.isi (.wx 2) .list),.not (.cmp (.ww 1) [.le,.le] [.blt .len [.wx 2],.ww 64])]) [.rais "BadLines" [.lit (.str "a list of 1 to 64 things is wanted")]] [],.expr (.call "need_net" [.blt .len [.wx 2],.wx 0]),.expr (.call "need_kind" [.wx 1]),.loop (.one 3) (.val (.wx 2)) [.expr (.call "need_thing" [.wx 1,.wx 3])],.expr (.call "need_alike" [.wx 1,.wx 2])]
noncomputable def Dr:List St:=[.set 1 (.list [.isi (.wx 0) (.own "BadKind"),.isi (.wx 0) (.own "BadThing"),.isi (.wx 0) (.own "BadLines"),.isi (.wx 0) (.own "BadNet")]),.expr (.meth .append (.wx 1) [.isi (.wx 0) (.own "NoNet")]),.ite (.or [.cmp (.meth .count (.wx 1) [.lit (.bool true)]) [.ne] [.ww 1],.not (.isi (.wx 0) (.own "ValueError"))]) [.ret (.list [.lit (.str "other")])] [],.ite (.and [.isi (.wx 0) (.own "BadNet"),.not (.isi (.attr (.wx 0) "at") .bool)]) [.ret (.list [.lit (.str "net"),.attr (.wx 0) "at"])] [],.ret (.list [.idx (.list [.lit (.str "kind"),.lit (.str "thing"),.lit (.str "lines"),.lit (.str "net"),.lit (.str "none")]) (.meth .index (.wx 1) [.lit (.bool true)])])]
theorem Fk{l:List V}:dp true (ba H .len [.tup l])=some (.int l.length,H):=rfl
def mC(F:dR c){net:Net}(hn:1<=n/\n<=64)(A:ag H a bs net)(ok:gk n net)(hc:q=true)(hq:Q .none H):Calls c q (d+4) "need_net" [.int n,.lst a] none Q E H:=
 lL F hn A hc (fun y hy=>.inl (ok.2 y hy)) (fun h=>absurd h (fN.mpr ok.1)) (fun J J=>hq) fun i hi hj J=>by
  have:=ok.2 _ (bG hi);exact absurd this.2.2.1 (d4 _)
theorem Ep(P:aM c "_law_word" 1 2 Dr){b1 b2 b3 b4 b5:Bool}(W:uZ e w b1 b2 b3 b4 b5)(hy:b4=true->gU (.exc e y) "at"=some y/\bZ y .bool=some false)(hq:b4=false->∀a H',gT H a [.str w] H'->Q (.lst a) H')(hn:b4=true->∀a H',gT H a [.str "net",y] H'->Q (.lst a) H'):Calls c q (d+1) "_law_word" [.exc e y] none Q E H:=by
 obtain⟨hk,h1,h2,h3,h4,h5,hc,hi,hm⟩:=W;refine P q d _ Q E H rfl (Ss_go ?_);walk_at "";refine ae.mk (td hk (.inl (by decide +kernel)) h1) ?_;walk_at "";refine ae.mk (td hk (.inl (by decide +kernel)) h2) ?_;walk_at "";refine ae.mk (td hk (.inl (by decide +kernel)) h3) ?_;walk_at "";refine ae.mk (td hk (.inl (by decide +kernel)) h4) ?_;walk_at "";have hn1:(H++[[V.bool b1,.bool b2,.bool b3,.bool b4]])[H.length]?=some [V.bool b1,.bool b2,.bool b3,.bool b4]:=aQ;have st1:=aa.refl (S:=[]) (H:=H) |>.app (xs:=[V.bool b1,.bool b2,.bool b3,.bool b4]);generalize H++[[V.bool b1,.bool b2,.bool b3,.bool b4]]=H1 at hn1 st1;refine⟨rfl,?_⟩;walk_at "";refine ae.mk (td hk (.inl (by decide +kernel)) h5) ?_;walk_at "";refine ae.mk (kY hn1 (show 4<10000 by decide)) ?_;walk_at "";have hn2:(H1.set H.length ([V.bool b1,.bool b2,.bool b3,.bool b4]++[.bool b5]))[H.length]?=some [V.bool b1,.bool b2,.bool b3,.bool b4,.bool b5]:=jg hn1;have st2:=st1.set (a:=H.length) (xs:=[V.bool b1,.bool b2,.bool b3,.bool b4]++[.bool b5]) (.inr (aJ _));generalize H1.set H.length ([V.bool b1,.bool b2,.bool b3,.bool b4]++[.bool b5])=H2 at hn2 st2;refine⟨rfl,?_⟩;walk_at "";refine ae.mk (IT (l:=[b1,b2,b3,b4,b5]) hn2 rfl) ?_;rw[hc];walk_at "";refine ae.mk (td hk (.inr rfl) (b:=true) (decide_eq_true (.inr rfl))) ?_;walk_at "";refine ae.mk (td hk (.inl (by decide +kernel)) h4) ?_;walk_at "";cases b4 with
 |true=>
  obtain⟨y1,y2⟩:=hy rfl;walk_at "";refine ae.mk y1 ?_;refine ae.mk y2 ?_;walk_at "";refine ae.mk y1 ?_;walk_at "";exact hn rfl _ _ ⟨st2.app,aQ,st2.len⟩
 |false=>
  walk_at "";refine⟨rfl,?_⟩;walk_at "";have hn3:(H2++[[V.str "kind",.str "thing",.str "lines",.str "net",.str "none"]])[H.length]?=some [V.bool b1,.bool b2,.bool b3,.bool false,.bool b5]:=iE hn2;refine ae.mk (Jh (l:=[b1,b2,b3,false,b5]) hn3 rfl hm) ?_;walk_at "";refine ae.mk (cZ aQ hi) ?_;walk_at "";refine hq rfl _ _ ⟨(st2.app).app,aQ,?_⟩;exact aD st2.len (aa.refl (S:=[])).app.len
def m9(hy:vo y=some y):bZ y .bool=some false:=by
 cases y<;>first |rfl |injection hy
theorem mQ(PW:aM c "_law_word" 1 2 Dr)(h:ez Q x H):lJ x=true/\Calls c q (d+1) "_law_word" [x] none Q E H:=by
 cases h with
 |word e w b1 b2 b3 b5 h1 W hq=>
  subst h1;have hk:e∈kids:=by obtain⟨hk,_⟩:=W;exact hk
  exact⟨decide_eq_true hk,Ep PW W (fun h=>nomatch h) (fun J=>hq) fun h=>nomatch h⟩
 |net y h1 hy hq=>
  subst h1;exact⟨decide_eq_true (show ar "BadNet"∈kids by decide +kernel),Ep PW t9 (fun J=>⟨by show(if ar "at"=ar "at"/\ar "BadNet"=ar "BadNet" then vo y else none)=_;rw[if_pos ⟨rfl,rfl⟩];exact hy,m9 hy⟩) (fun h=>nomatch h) fun J=>hq⟩
def kz(h:H[a]?=some [x])(hn:n<100000):bL H .mul (.lst a) (.int n)=some (.lst H.length,H++[List.replicate n x]):=by
 show(H[a]?).bind _=_;rw[h];have h2:(n:Int).toNat*[x].length<=qag:=by
  rw[jV];exact aD (eR (Nat.mul_one n)) (bO (cN hn (by decide)))
 refine(if_pos ⟨iS n,c7.mpr (aD (bO hn) (by decide)),h2⟩).trans ?_;rw[jV,zZ]
variable {e:Ex}{x:Nat}{y:List (Nat×Nat)}
theorem IL:∀{y:List (Nat×Nat)} {lo i l l' h:Nat},eM n lo y->y[i]?=some (l,h)->l'<h->eM n lo (y.set i (l',h))
 :=by
 intro y;induction y with
 |nil=>exact fun J e=>nomatch e
 |cons p r ih=>
  intro lo i l l' h q e hl;cases i with
  |zero=>obtain rfl:=ai e;exact⟨hl,q.2⟩
  |succ i=>exact⟨q.1,q.2.1,q.2.2.1,ih q.2.2.2 e hl⟩
def HU {l:Nat} (ho:cm n y) (e:y[i]?=some (l,h)) (hl:l'<h):cm n (y.set i (l',h)):=
 ⟨fun q=>ho.1 (by cases y with |nil=>rfl |cons a r=>cases i<;>exact nomatch q),IL ho.2 e hl⟩
def Hv{net:Net}(ho:gk n net)(h:cm n y):gk n (net.set k y):=
 ⟨by rw[gv];exact ho.1,fun z hz=>(List.mem_or_eq_of_mem_set hz).elim (ho.2 z) fun e=>e▸h⟩
variable {k:dB}
def j9(h1:fR w=true)(ha:H[a]?=some [.str w])(hb:H[b]?=some [.str w]):gP H (.lst a) (.lst b)=some true:=(ky ha hb h1 h1).trans (by rw[decide_eq_true rfl])
def kO:fR (ar "lines")=true:=by decide +kernel
def qv:fR (ar "none")=true:=by decide +kernel
theorem wZ {y:V} (hy:vo y=some y) (ha:H[a]?=some [.str "net",y]) (hb:H[b]?=some [.str "net",y]):gP H (.lst a) (.lst b)=some true:=by
 have hn:fR (ar "net")=true:=by decide +kernel
 have he:(ar "net"==ar "net")=true:=beq_self_eq_true _;cases y with
 |none=>
  have t:∀{a:Nat},H[a]?=some [.str "net",.none]->bM 9 H (.lst a)=some (.list [.str "net",.none]):=fun h=>tL h rfl;show(bM 9 H (.lst a)).bind _=_;rw[t ha];show(bM 9 H (.lst b)).bind _=_;rw[t hb];refine(if_pos (show((fR "net"&&true)&&(fR "net"&&true))=true by rw[hn];rfl)).trans ?_;show some ((ar "net"==ar "net")&&true)=_;rw[he];rfl
 |int i=>
  have t:∀{a:Nat},H[a]?=some [.str "net",.int i]->bM 9 H (.lst a)=some (.list [.str "net",.int i]):=fun h=>tL h rfl;show(bM 9 H (.lst a)).bind _=_;rw[t ha];show(bM 9 H (.lst b)).bind _=_;rw[t hb];refine(if_pos (show((fR "net"&&true)&&(fR "net"&&true))=true by rw[hn];rfl)).trans ?_;show some ((ar "net"==ar "net")&&(decide (i=i)&&true))=_;rw[he,decide_eq_true rfl];rfl
 |_=>injection hy
variable {b:List Nat}{w:V}
def qJ{P:PyData}(l:P.canLay0=true)(h1:bM 9 H v=some P)(h2:bM 9 H w=some P):gP H v w=some true:=by
 show(bM 9 H v).bind _=_;rw[h1];show(bM 9 H w).bind _=_;rw[h2];refine(if_pos (gd.mpr ⟨l,l⟩)).trans ?_;rw[PySem.SeqAt.eqv_refl P l]
def tZ{a b i:Int}(h:¬(a<=i/\i<=b)):cG a b (.int i)=false:=decide_eq_false h
variable {w:Nat}
def dT(w:Nat)(m:List Nat):Prop:=m.length=w/\∀i∈m,i<w
noncomputable def mv(m:List Nat):V:=.tup (m.map nat)
noncomputable def jM(a b:List Nat):List Nat:=a.map fun i=>b.getD i 0
noncomputable def mL(n:Nat)(σ:Nat->List Nat):List V:=(List.range n).map fun x=>mv (σ x)
def dT.get(h:dT w m)(hi:i<w):m.getD i 0<w:=by
 have hi':i<m.length:=h.1.symm▸hi;rw[b7,bt hi'];exact h.2 _ (List.getElem_mem hi')
def dT.join{a:List Nat}(ha:dT w a)(hb:dT w b):dT w (jM a b):=⟨by rw[jM,ao];exact ha.1,fun i hi=>by
 revert hi;refine xL fun j hj wj=>?_;subst wj;exact hb.get (ha.2 j hj)⟩
def sa{a:List Nat}(ha:dT w a)(hi:i<w):(jM a b).getD i 0=b.getD (a.getD i 0) 0:=by
 have hi':i<a.length:=ha.1.symm▸hi;rw[jM,b7,br,b7 (l:=a),bt hi'];rfl
def rA:(mL n σ).length=n:=by rw[mL,ao,di]
def wc(h:x<n):(mL n σ)[x]?=some (mv (σ x)):=by
 rw[mL,br,iM h];rfl
def sY{t:List Nat}:(mL n σ).set h (mv t)=mL n fun x=>if x=h then t else σ x:=by
 refine List.ext_getElem? fun i=>?_;by_cases hi:i<n
 ·rw[wc hi];by_cases e:i=h
  ·subst e;rw[nu (by rw[rA];exact hi),if_pos rfl]
  ·rw[nT (c5 e),wc hi,if_neg e]
 ·rw[nO (by rw[gv,rA];exact fE hi),nO (by rw[rA];exact fE hi)]
def gC(w n:Nat)(σ:Nat->List Nat):Prop:=∀x,x<n->dT w (σ x)
def gC.step(h:gC w n σ)(hy:∀p∈y,p.1<p.2/\p.2<n):gC w n (bE jM y σ):=fun x hx=>by
 rcases gQ jM y σ x with⟨p,hp,e,e'⟩|e
 ·rw[e'];exact(h p.1 (cN (hy p hp).1 (hy p hp).2)).join (h x hx)
 ·rw[e];exact h x hx
noncomputable def je(net:Net)(σ:Nat->List Nat)(i:Nat):Nat->List Nat:=aY jM (net.take i) σ
def jo{net:Net}(h:net[i]?=some y):je net σ (i+1)=bE jM y (je net σ i):=by
 unfold je;rw[List.take_add_one,h,xu];rfl
def pL{net:Net}:je net σ net.length=aY jM net σ:=by unfold je;rw[List.take_length]
theorem Am:∀{net:Net}{σ:Nat->List Nat},bC n net->gC w n σ->gC w n (aY jM net σ)
 |[],_,_,h=>h
 |y::net,σ,hf,h=>Am (net:=net) (fun z hz=>hf z (a0 _ hz)) (h.step (hf y aI).1)
def sW{net:Net}(hf:bC n net)(h:gC w n σ)(i:Nat):gC w n (je net σ i):=Am (fun y hy=>hf y (List.mem_of_mem_take hy)) h
noncomputable def ij(σ:Nat->List Nat)(p:Nat)(r:List Nat):Nat:=r.foldl (fun p x=>(σ x).getD p 0) p
theorem Bs(h:gC w n σ):∀{r:List Nat}{p:Nat},(∀x∈r,x<n)->p<w->ij σ p r<w
 |[],_,_,hp=>hp
 |x::r,p,hr,hp=>Bs h (r:=r) (fun y hy=>hr y (a0 _ hy)) ((h x (hr x aI)).get hp)
inductive oh(w n:Nat)(σ:Nat->List Nat)(m:List Nat)(r:List Nat):Prop
 |mk (ok:dT w m)(e:∀p,p<w->m.getD p 0=ij σ p r)(lt:∀x∈r,x<n):oh w n σ m r
theorem FG(hσ:gC w n σ):∀{net:Net}{τ:Nat->List Nat}{ρ:Nat->List Nat},bC n net->(∀x,x<n->oh w n σ (τ x) (ρ x))->∀x,x<n->oh w n σ (aY jM net τ x) (aY (·++·) net ρ x)
 |[],_,_,_,h=>h
 |y::net,τ,ρ,hf,h=>FG hσ (net:=net) (fun z hz=>hf z (a0 _ hz)) fun x hx=>by
  have hy:=hf y aI;unfold bE;cases e:y.find? (fun p=>p.2==x) with
  |none=>exact h x hx
  |some p=>
   have hp:=hy.1 p (rY e);obtain⟨a1,a2,a3⟩:=h p.1 (cN hp.1 hp.2);obtain⟨b1,b2,b3⟩:=h x hx;refine⟨a1.join b1,fun q hq=>?_,fun z hz=>(bJ.mp hz).elim (a3 z) (b3 z)⟩;rw[sa a1 hq,a2 q hq,b2 _ (Bs hσ a3 hq),ij,ij,ij,List.foldl_append]
def JX{net:Net}(hσ:gC w n σ)(hf:bC n net)(ht:c8 n net=true)(hx:x<n):oh w n σ (aY jM net σ x) (List.range (x+1)):=by
 have:=FG hσ hf (τ:=σ) (ρ:=fun x=>[x]) (fun x hx=>⟨hσ x hx,fun p J=>rfl,fun y hy=>by rw[aN.mp hy];exact hx⟩) x hx;rw[show aY (·++·) net (fun x=>[x]) x=rZ net x from rfl,(zq hf).mp ht x hx] at this;exact this
def zC(h:dT w m)(h1:1<=w)(h8:w<=8):eH (mv m)=true:=by
 show(decide (1<=(m.map nat).length/\(m.map nat).length<=8)&&_)=true;rw[ao,h.1,decide_eq_true ⟨h1,h8⟩,Bool.true_and];refine dg.mpr fun x hx=>?_;revert hx;refine xL fun i hi wj=>?_;subst wj;have:=h.2 i hi;exact decide_eq_true (by exact aj [_,_] [] kag (Y6 (Y3 J0 (Y4 V0 J0)) (Y3 (Y4 V0 J0) (Y2 (Y4 V1 J0) J1))) (Y1 V0 V1) this)
def xm(h:dT w m)(h8:w<=8):ng (mv m):=⟨by rw[ao,h.1];exact aj [_] [] kaa (Y0 V0 (.l 20)) (Y0 V0 (.l 8)) h8,fun x hx=>by revert hx;refine xL fun i J wj=>?_;subst wj;rfl⟩
noncomputable def Ji:List St:=[.set 2 (.blt .list [.wx 1]),.loop (.one 3) (.val (.wx 0)) [.set 4 (.blt .list [.wx 2]),.loop (.two 5 6) (.val (.wx 3)) [.put (.wx 4) (.wx 6) (.callv [.idx (.wx 2) (.wx 5),.idx (.wx 2) (.wx 6)])],.set 2 (.wx 4)],.ret (.wx 2)]
noncomputable def Gu:List St:=[.expr (.call "need_things" [.wx 0,.wx 1,.wx 2]),.ret (.callL "carried" [.wx 0,.wx 2] 19 1)]
structure gB(c:Cx):Prop where
 chk:dR c
 ismap:aM c "is_map" 1 2 EN
 thing:aM c "is_thing" 2 2 KR
 put:aM c "put_together" 3 4 K8
 nkind:aM c "need_kind" 1 1 Ew
 nthing:aM c "need_thing" 2 2 GL
 alike:aM c "need_alike" 2 3 Hl
 things:aM c "need_things" 3 4 Ih
 led:aM c "led" 3 3 Gu
 car:yg c "carried" 2 7 Ji
def sm(F:gB c){a:List Nat}(ha:dT w a)(hb:dT w b)(hw:w<=8)(hc:q=true)(hq:∀H',aa [] H H'->Q (mv (jM a b)) H'):Calls c q (d+1) "put_together" [.str "map",mv a,mv b] none Q E H:=by
 subst hc;refine F.put true d _ Q E H rfl (Ss_go ?_);walk_at "";refine ae.mk (xX (k:=.map) (k':=.most)) ?_;walk_at "";refine ae.mk (xX (k:=.map) (k':=.map)) ?_;refine Ss_go ?_;walk_at "";refine ae.mk (show dp true (d0 H (mv a))=some (a.map nat) from rfl) ?_;refine⟨dU (by rw[ao,ha.1];exact aj [_] [] kaa (Y1 V0 (.l 100000)) (Y0 V0 (.l 8)) hw),?_⟩;refine iA (g:=fun n=>nat (b.getD n 0)) trivial (fun n hn K hK=>?_) ?_
 ·unfold nat mv;walk_at "";exact ae.mk (qM (CJ (hb.1.symm▸ha.2 n hn))) hK
 walk_at "";refine ae.mk (Aa aQ) ?_;walk_at "";have:=hq _ (aa.refl.app (xs:=a.map fun n=>nat (b.getD n 0)));rw[show mv (jM a b)=.tup (a.map fun n=>nat (b.getD n 0)) by show V.tup ((a.map _).map nat)=_;rw[d8];rfl] at this;exact this
def Jl(F:gB c)(h:dT w m)(h1:1<=w)(h8:w<=8)(hc:q=true)(hq:∀H',aa [] H H'->Q .none H'):Calls c q (d+4) "need_thing" [.str "map",mv m] none Q E H:=by
 subst hc;refine F.nthing true (d+3) _ Q E H rfl (Ss_go ?_);walk_at "";refine ES (kk:=.map) F.nkind rfl ?_;walk_at "";refine F.thing true (d+2) _ _ _ _ rfl (Ss_go ?_);walk_at "";refine ae.mk (xX (k:=.map) (k':=.text)) ?_;walk_at "";refine ae.mk (xX (k:=.map) (k':=.map)) ?_;walk_at "";refine En F.ismap F.chk.among (xm h h8) rfl fun H1 st1=>?_;rw[zC h h1 h8];walk_at "";exact hq H1 st1
def jq(F:gB c)(ht:H[t]?=some (mL n σ))(hn1:1<=n)(hn:n<=64)(h:gC w n σ)(hc:q=true)(hq:∀H',aa [] H H'->Q .none H'):Calls c q (d+1) "need_alike" [.str "map",.lst t] none Q E H:=by
 subst hc;refine F.alike true d _ Q E H rfl (Ss_go ?_);walk_at "";refine ae.mk (xX (k:=.map) (k':=.map)) ?_;walk_at "";refine ae.mk (gu ht) ⟨dU (by rw[rA];exact aj [_] [] kaa (Y1 V0 (.l 100000)) (Y0 V0 (.l 64)) hn),?_⟩;have len:∀{x:Nat},x<n->dp true (ba H .len [mv (σ x)])=some (.int w,H):=fun{x} hx=>by
  show some (V.int ((σ x).map nat).length,H)=_;rw[ao,(h x hx).1]
 refine iA (f:=fun x=>mv (σ x)) (xs:=List.range n) (g:=fun J=>V.bool true) ht (fun x hx K hK=>?_) ?_
 ·walk_at "";refine ae.mk (len (gY.mp hx)) ?_;walk_at "";refine ae.mk (cZ (i:=0) ht (wc hn1)) ?_;refine ae.mk (len hn1) ?_;walk_at "";rw[decide_eq_true rfl];exact hK
 walk_at "";refine ae.mk (vq (f:=fun _:Nat=>true) (zs:=List.range n) aQ) ?_;walk_at "";rw[show((List.range n).all fun J=>true)=true from dg.mpr fun J J=>rfl];walk_at "";exact hq _ aa.refl.app
def yv(H:Hp)(a t n:Nat)(r:List Nat)(x1:Loc)(H':Hp):Prop:=∀GJ:Prop,(∀(v:Option V),aa [] H H'->(∀x∈r,x<n)->[some (.lst a),some (.str "map"),some (.lst t),v]=x1->GJ)->GJ
def JF(F:gB c){net:Net}(A:ag H a bs net)(ht:H[t]?=some (mL n σ))(hn:1<=n/\n<=64)(ho:gk n net)(h:gC w n σ)(h1:1<=w)(h8:w<=8)(hc:q=true) (hq:∀H',aa [] H H'->Q .none H'):Calls c q (d+5) "need_things" [.lst a,.str "map",.lst t] none Q E H:=by
 subst hc;refine F.things true (d+4) _ Q E H rfl (Ss_go ?_);walk_at "";refine ae.mk (c6 ht) ?_;walk_at "";rw[rA];refine vJ (c7.mpr hn.1) ?_;refine pO (fun h=>absurd (c7.mpr hn.2) h) (fun J=>?_);walk_at "";refine ae.mk (c6 ht) ?_;rw[rA];walk_at "";refine mC F.chk hn A ho rfl ?_;walk_at "";refine ES (kk:=.map) (d:=d+3) F.nkind rfl ?_;walk_at "";refine⟨rfl,iB (v:=.lst t) (fun K E' h=>h) ht ?_⟩;refine sD (g:=fun x=>mv (σ x)) (yv H a t n) ?_ ?_ (xs:=List.range n) (fun J kJ=>kJ _ aa.refl (fun x hx=>gY.mp hx) rfl)
 ·intro x r l' H' K hI hnext hret;refine hI _ fun v st hr wg=>?_;clear hI;subst wg;refine ae.mk rfl (Ss_go ?_);walk_at "";refine Jl F (h x (hr x aI)) h1 h8 rfl fun H2 st2=>?_;walk_at "";exact hnext _ _ (aC (st.trans0 st2) ht) (fun J kJ=>kJ _ (st.trans0 st2) (fun y hy=>hr y (a0 _ hy)) rfl)
 ·intro l' H' hI;refine hI _ fun v st hr wg=>?_;clear hI;subst wg;walk_at "";refine jq (d:=d+3) F (aC st ht) hn.1 hn.2 h rfl fun H2 st2=>?_;walk_at "";exact hq H2 (st.trans0 st2)
theorem sz{x y:V}:vz 19 x y z=[z,x,y]:=by simp[vz]
def J9{z:Nat×V}(hk:k=some z)(h:dI C q d k es l (fun vs H=>ae (tR k d vs) fun p=>C q p.1 hZ p.2 none Q fo H) E H):aF C q d k (.callv es) l Q E H:=ae.mk hk h
def BA(H:Hp)(n tg sr:Nat)(σ:Nat->List Nat)(y:List (Nat×Nat))(L:Option V->Option V->Loc)(r:List (Nat×Nat))(x1:Loc)(H2:Hp):Prop:=∀GJ:Prop,(∀(ks:List (Nat×Nat))(u v:Option V),ks++r=y->H2[tg]?=some (mL n (bE jM ks σ))->H2[sr]?=some (mL n σ)->aa [] H H2->L u v=x1->GJ)->GJ
def B5(H:Hp)(n a t:Nat)(net:Net)(σ:Nat->List Nat)(i:Nat)(x1:Loc)(H':Hp):Prop:=∀GJ:Prop,(∀(g:Nat)(v3 v4 v5 v6:Option V),H'[g]?=some (mL n (je net σ i))->aa [] H H'->H.length<=g->[some (.lst a),some (.lst t),some (.lst g),v3,v4,v5,v6]=x1->GJ)->GJ
def uG(F:gB c){net:Net}(A:ag H a bs net)(ht:H[t]?=some (mL n σ))(hf:bC n net)(h:gC w n σ)(h8:w<=8)(hc:q=true) (hq:∀g H',gT H g (mL n (aY jM net σ)) H'->Q (.lst g) H'):Calls c q (d+3) "carried" [.lst a,.lst t] (some (19,.str "map")) Q E H:=by
 subst hc;refine F.car true (d+2) 19 _ _ Q E H rfl (Ss_go ?_);walk_at "";refine cj (u3 ht) fun g H1 N=>?_;walk_at "";refine⟨rfl,iB (v:=.lst a) (fun K E' h=>h) (aC N.st A.top) ?_⟩;refine uE (B5 H n a t net σ) ?_ ?_ (fun J kJ=>kJ g _ _ _ _ N.hold N.st N.lo rfl)
 ·clear N;intro i x l' H' K hx hI hnext hret;refine hI _ fun g v3 v4 v5 v6 hg st lo wg=>?_;clear hI;subst wg;rw[br] at hx;revert hx;refine xM fun b hb wj=>?_;subst wj;obtain⟨y,hy,hby⟩:=(A.grow st).get hb;have hfy:=hf y (bG hy);have ok:=sW hf h i;walk_at "";refine cj (u3 hg) fun g' H'' N=>?_;walk_at "";have st2:=st.trans0 N.st;refine⟨rfl,iB (v:=.lst b) (fun K E' h=>h) (aC N.st hby) ?_⟩;have hng:g'≠g:=Nat.ne_of_gt (cS (dA hg) N.lo);have lg':H.length<=g':=aD st.len N.lo;refine sD (BA H n g' g (je net σ i) y fun u v=>[some (.lst a),some (.lst t),some (.lst g),some (.lst b),some (.lst g'),u,v]) ?_ ?_ (fun J kJ=>kJ [] _ _ rfl N.hold (aC N.st hg) st2 rfl)
  ·clear N st2;intro p r l' H2 K2 hI hnext2 hret2;refine hI _ fun ks u v hk ht2 hs st2 wg=>?_;clear hI;subst wg;obtain⟨pl,ph⟩:=p;have hpm:=hfy.1 (pl,ph) (by rw[<- hk];exact iK _ aI);have hk':(ks++[(pl,ph)])++r=y:=by rw[fQ];exact hk
   have hnd:((ks++[(pl,ph)]).map (·.2)).Nodup:=by have:=hfy.2;rw[<- hk',bT] at this;exact(og.mp this).1
   have hpl:pl<n:=cN hpm.1 hpm.2;refine ae.mk rfl (Ss_go ?_);walk_at "";refine J9 rfl ?_;walk_at "";refine ae.mk (cZ hs (wc hpl)) ?_;walk_at "";refine ae.mk (cZ hs (wc hpm.2)) ?_;refine ae.mk rfl ?_;show Calls c true (d+1) hZ (vz 19 (mv (je net σ i pl)) (mv (je net σ i ph)) (.str "map")) none _ fo H2;rw[sz];refine sm F (ok pl hpl) (ok ph hpm.2) h8 rfl fun H3 st3=>?_;walk_at "";have ht3:=aC st3 ht2;refine ae.mk (mZ ht3 (by rw[rA];exact hpm.2)) ?_;rw[sY,<-Gr jM hnd (je net σ i)];have st4:=(st2.trans0 st3).set (a:=g') (xs:=mL n (bE jM (ks++[(pl,ph)]) (je net σ i))) (.inr lg');exact hnext2 _ _ ((A.grow st4).lay i b y hb hy) (fun J kJ=>kJ (ks++[(pl,ph)]) _ _ hk' (jg ht3) (eo (aC st3 hs) (c5 hng)) st4 rfl)
  ·clear N st2;intro l' H2 hI;refine hI _ fun ks u v hk ht2 hs st2 wg=>?_;clear hI;subst wg;rw[d5] at hk;subst hk;walk_at "";exact hnext _ _ (A.grow st2).top (fun J kJ=>kJ g' _ _ _ _ (by rw[jo hy];exact ht2) st2 lg' rfl)
 ·clear N;intro l' H' hI;refine hI _ fun g v3 v4 v5 v6 hg st lo wg=>?_;clear hI;subst wg;rw[ao,A.len,pL] at hg;walk_at "";exact hq g H' ⟨st,hg,lo⟩
def IU(hz:l.getD i none=some z)(h:dI C q d k es l (fun vs H=>C q d f vs (some (kk,z)) Q E H) E H):aF C q d k (.callL f es kk i) l Q E H:=by
 have e:aF C q d k (.callL f es kk i) l Q E H=dI C q d k es l (fun vs H=>ae (l.getD i none) fun v=>C q d f vs (some (kk,v)) Q E H) E H:=rfl;rw[e,hz];exact h
def uR(F:gB c){net:Net}(A:ag H a bs net)(ht:H[t]?=some (mL n σ))(hn:1<=n/\n<=64)(ho:gk n net)(h:gC w n σ)(h1:1<=w)(h8:w<=8)(hc:q=true) (hq:∀g H',gT H g (mL n (aY jM net σ)) H'->Q (.lst g) H'):Calls c q (d+6) "led" [.lst a,.str "map",.lst t] none Q E H:=by
 subst hc;refine F.led true (d+5) _ Q E H rfl (Ss_go ?_);walk_at "";refine JF F A ht hn ho h h1 h8 rfl fun H1 st1=>?_;walk_at "";refine IU rfl ?_;walk_at "";exact uG (d:=d+2) F (A.grow st1) (aC st1 ht) ho.fair h h8 rfl fun g H2 N=>hq g H2 ⟨st1.trans0 N.st,N.hold,aD st1.len N.lo⟩
variable {b:Net}{kk:dB}
theorem F6:∀{net:Net}{B B':Nat->Nat},bc net B=some B'->(∀y∈net,∀p∈y,p.2≠x)->B' x=B x
 |[],B,B',h,_=>by obtain rfl:=ai h;rfl
 |y::net,B,B',h,hx=>by
  obtain⟨_,h2⟩:=qu h;rw[F6 h2 fun z hz=>hx z (a0 _ hz)];rcases gQ (fun l J=>l) y B x with⟨p,hp,e,_⟩|e
  ·exact absurd e (hx y aI p hp)
  ·exact e
def EK{net:Net}(h:bc net id=none):c8 n net=false:=by
 unfold c8;rw[h]
def mJ{a:Net}(h:bc a id=none):bc (a++b) id=none:=by
 rw[iR,h];rfl
def IK{net:Net}(hh:2<=h)(hb:∀y∈net,∀p∈y,p.2≠h):bc (net++gN (h,(h-2)::ls)) id=none:=by
 rw[iR];refine xC (bc net id) (fun e=>?_) fun B e=>?_
 ·rfl
 ·have hB:B h=h:=F6 e hb;show bc ([(h-2,h)]::gN (h,ls)) B=none;rw[yU,if_neg];intro q;have:=nz.mp q (h-2,h) aI;dsimp only at this;rw[hB] at this;exact ay [_] [] 0x1a0852940018407010204006100400014a001020300610000510001 J0 (Y0 J2 V0) (Y2 (Y0 (Y2 V0 J2) J1) V0) hh this
def DT{a:Net}(h:c8 n (a++b)=true):∃B B',bc a id=some B/\bc b B=some B':=by
 unfold c8 at h;rw[iR] at h;refine xC (bc a id) (fun e=>?_) fun B e=>?_
 ·rw[e] at h;injection h
 ·rw[e] at h;refine xC (bc b B) (fun e2=>?_) fun B' e2=>?_
  ·rw[show(some B).bind (bc b)=none from e2] at h;injection h
  ·exact⟨B,B',rfl,e2⟩
def lH{k:Nat}{net:Net}(h:c8 n net=true)(hy:net[i]?=some y)(hp:y[k]?=some (lo,hi))(hl:l'≠lo):c8 n (net.set i (y.set k (l',hi)))=false:=by
 have hi':=dE hy;have hk':=dE hp;rw[show net=net.take i++(y::net.drop (i+1)) by rw[List.append_cons];exact DN hy] at h;obtain⟨B,B',h1,h2⟩:=DT h;refine EK ?_;rw[zW,if_pos hi',iR,h1];show bc (_::_) B=none;rw[yU,if_neg];intro q;have q1:=nz.mp q (l',hi) (List.mem_iff_getElem?.mpr ⟨k,by rw[nu hk']⟩);have q2:=nz.mp (qu h2).1 (lo,hi) (bG hp);dsimp only at q1 q2;exact bo [_,_,_] [] 0x7294a000c20180810100308000294a001020180610100308000 J0 (Y8 (Y2 V0 V1) J0) (Y2 (Y0 V0 J1) V2) (Y2 (Y0 V1 J1) V2) hl q1 q2
theorem GI{net:Net}(ok:∀y∈net,cm n y)(hne:net≠[])(h:c8 n net=true):c8 n net.dropLast=false:=by
 have e:=List.dropLast_concat_getLast hne;have hm:=ok _ (List.getLast_mem hne);rw[<- e] at h;obtain⟨B,B',h1,h2⟩:=DT h;have h3:=nz.mp (qu h2).1;unfold c8;rw[h1];generalize net.getLast hne=y at h3 hm;cases y with
 |nil=>exact absurd rfl hm.1
 |cons p r=>
  have hp:=h3 p aI;have hf:=(vB hm.2).1 p aI;refine List.all_eq_false.mpr ⟨p.2,gY.mpr hf.2.1,fun q=>?_⟩;have:B p.2=0:=eq_of_beq q;exact ay [_,_] [] kah J0 (Y2 (Y0 V0 J1) V1) (Y2 V1 J0) hp this
noncomputable def E3:List St:=[.expr (.call "need_net" [.wx 0,.wx 1]),.ite (.not (.call "does_tell" [.wx 0,.wx 1])) [.rais "NoNet" [.lit (.str "the net doesn't tell beginnings")]] []]
noncomputable def AX:List St:=[.set 2 (.list []),.loop (.one 3) (.val (.blt .range [.bin .sub (.wx 0) (.ww 1)])) [.set 4 (.bin .sub (.bin .sub (.wx 0) (.ww 1)) (.wx 3)),.set 5 (.rev (.blt .list [.blt .range [.wx 4]])),.ite (.cmp (.wx 3) [.eq] [.bin .mod (.wx 1) (.bin .sub (.wx 0) (.ww 2))]) [.set 5 (.bin .add (.list [.idx (.wx 5) (.ww 1),.idx (.wx 5) (.ww 0)]) (.slice (.wx 5) (.ww 2) (.lit .none)))] [],.set 2 (.bin .add (.wx 2) (.comp (.list [.tup [.wx 6,.wx 4]]) (.one 6) (.wx 5) []))],.ret (.wx 2)]
noncomputable def A8:List St:=[.ite (.and [.cmp (.bin .mod (.wx 2) (.ww 3)) [.eq] [.ww 1],.cmp (.ww 3) [.le,.le] [.wx 1,.ww 12]]) [.ret (.call "_law_crossed" [.wx 1,.bin .div (.wx 2) (.ww 3)])] [],.set 3 (.bin .mod (.wx 2) (.blt .len [.wx 0])),.set 4 (.bin .mod (.bin .div (.wx 2) (.ww 64)) (.blt .len [.idx (.wx 0) (.wx 3)])),.unp [5,6] (.idx (.idx (.wx 0) (.wx 3)) (.wx 4)),.set 7 (.bin .mod (.bin .div (.wx 2) (.ww 4096)) (.wx 6)),.ite (.cmp (.wx 7) [.eq] [.wx 5]) [.ret (.slice (.wx 0) (.lit .none) (.neg (.ww 1)))] [],.set 8 (.bin .add (.bin .add (.slice (.idx (.wx 0) (.wx 3)) (.lit .none) (.wx 4)) (.list [.tup [.wx 7,.wx 6]])) (.slice (.idx (.wx 0) (.wx 3)) (.bin .add (.wx 4) (.ww 1)) (.lit .none))),.ret (.bin .add (.bin .add (.slice (.wx 0) (.lit .none) (.wx 3)) (.list [.wx 8])) (.slice (.wx 0) (.bin .add (.wx 3) (.ww 1)) (.lit .none)))]
def qP(P:aM c "need_telling" 2 2 E3)(PD:aM c "does_tell" 2 8 BQ)(C:dR c){net:Net}(A:ag H a bs net)(hn:1<=n/\n<=64)(ok:gk n net)(hc:q=true) (hy:c8 n net=true->∀H',aa [] H H'->Q .none H') (hx:c8 n net=false->∀H',aa [] H H'->E (.exc "NoNet" .none) H'):Calls c q (d+5) "need_telling" [.int n,.lst a] none Q E H:=by
 subst hc;refine P true (d+4) _ Q E H rfl (Ss_go ?_);walk_at "";refine mC C hn A ok rfl ?_;walk_at "";refine Ky PD A hn.2 ok.fair rfl fun H1 st=>?_;walk_at "";refine xD (c8 n net) (fun e=>?_) fun e=>?_
 ·walk_at "";exact hy e H1 st
 ·walk_at "";refine⟨rfl,?_⟩;show E (.exc "NoNet" (bQ _ _)) _;rw[lV];exact hx e H1 st
def jy(n j k:Nat)(net:Net):Prop:=(k<=j->∀y∈net,∀p∈y,n-1-k<p.2)/\(j<k->bc net id=none)
def EH(H:Hp)(n cell j k:Nat)(x0:Loc)(H':Hp):Prop:=∀GJ:Prop,(∀(v3 v4 v5:Option V),∀(nt:Nat),∀(bs:List Nat),∀(bl:List (Nat×List Nat)),ag H' nt bs (bl.flatMap gN)->cV n k bl->jy n j k (bl.flatMap gN)->aa [] H H'->[some (.int n),some (.int cell),some (.lst nt),v3,v4,v5,none]=x0->GJ)->GJ
def Gq{cell k v5:Nat}(hn:n<=12)(hk:k<n-1)(hh:n-1-k=h)(hv:H2[v5]?=some (ls.map nat))(hl:ls.length=h)(hls:∀x∈ls,x<h)(N:ag H2 nt bs (bl.flatMap gN))(B:cV n k bl)(C:jy n j k (bl.flatMap gN))(hj:k=j->2<=h/\∃r,ls=(h-2)::r)(st:aa [] H H2) (hK:∀l' H',EH H n cell j (k+1) l' H'->K .next l' H') :
  az (Calls c) true d none [.set 2 (.bin .add (.var 2) (.comp (.list [(.tup [(.var 6),(.var 4)])]) (.one 6) (.var 5) []))] K EE [some (.int n),some (.int cell),some (.lst nt),v3,some (.int h),some (.lst v5),none] H2:=by
 refine Ss_go ?_;walk_at "";refine ae.mk (gu hv) ⟨dU (by rw[ao];exact bo [_,_,_,_] [] 0x3194a5294a000c203006101c04081001840900c201806100005104a10042508021 (Y1 V0 (.l 100000)) (Y0 V1 (.l 12)) (Y2 (Y2 (Y2 V1 J1) V2) V3) (Y2 V0 V3) hn hh hl),?_⟩;refine Ks (Nat.le_of_ble_eq_true rfl) (by decide) rfl (fun H' st=>aC st hv) fun cs H3 RR=>?_;have N3:=RR.net;have st3:=RR.st.app (xs:=cs.map .lst);generalize H3++[cs.map .lst]=H3' at N3 st3;generalize H3.length=a3 at N3;clear RR;have N2:=N.grow st3;have htot:=B.tot;have ht:=Dx (n-1) (by exact aj [_] [] kbo (Y0 (Y2 V0 J1) (.l 11)) (Y0 V0 (.l 12)) hn);have hz2:=N.len;have hz3:cs.length=h:=by rw[N3.len,gN,ao,hl]
 walk_at "";refine cj (ma N2.top N3.top (by rw[ao,ao];exact Cy [_,_,_,_,_,_,_,_] [] 0xc65294a5294a50006101803080e02040800c204806102803081601840c00c201806100005184a10082508041 (Y1 (Y0 V0 V1) (.l 100000)) (Y0 V2 (.l 12)) (Y2 (Y2 (Y2 V2 J1) V3) V4) (Y2 (Y0 V5 V6) (.v 7)) (Y0 (.v 7) (.l 66)) (Y2 V0 V5) (Y2 V1 V4) hn hh htot ht hz2 hz3)) fun a4 H4 N4=>?_;walk_at "";refine hK _ _ (fun J kJ=>kJ _ _ _ a4 (bs++cs) (bl++[(h,ls)]) ?_ (B.snoc hk hh hl hls) ?_ (st.trans0 (st3.trans0 N4.st)) rfl)
 ·rw[List.flatMap_append,Dp];exact(N2.grow N4.st).append (N3.grow N4.st) N4.hold
 ·rw[List.flatMap_append,Dp];refine⟨fun hkj y hy p hp=>?_,fun hjk=>?_⟩
  ·rcases bJ.mp hy with hy |hy
   ·have:=C.1 (Nat.le_of_succ_le hkj) y hy p hp;exact aj [_,_,_] [] 0xd04294a000c203006101c030802000065294a000c20380610200308060184010142128400094610042508001 (Y1 (Y2 (Y2 V0 J1) (Y0 V1 J1)) V2) (Y1 (Y2 (Y2 V0 J1) V1) V2) this
   ·revert hy;refine xL fun l hl' wj=>?_;subst wj;rw[aN.mp hp];show n-1-(k+1)<h;exact ay [_,_,_] [] 0x1a064294a528003081201840a00c205806100c0308020180a10942000465294a000c20380610240308060184010142128400094610042508001 (Y1 (Y2 (Y2 V0 J1) (Y0 V1 J1)) V2) (Y1 V1 (Y2 V0 J1)) (Y2 (Y2 (Y2 V0 J1) V1) V2) hk hh
  ·rcases Nat.lt_succ_iff_lt_or_eq.mp hjk with hjk |rfl
   ·exact mJ (C.2 hjk)
   ·obtain⟨h2,r,rfl⟩:=hj rfl;refine IK h2 fun y hy p hp e=>?_;have:=C.1 (aJ _) y hy p hp;exact bo [_,_,_,_] [] 0x294a001020080610080308060 J0 (Y2 (Y2 (Y2 V0 J1) V1) V2) (Y2 V3 V2) (Y1 (Y2 (Y2 V0 J1) V1) V3) hh e this
def EW(hi:i<h):(List.range h).reverse[i]?=some (h-1-i):=by
 rw[List.getElem?_reverse (by rw[di];exact hi),di,iM (by exact aj [_,_] [] kbg (Y1 (Y2 (Y2 V0 J1) V1) V0) (Y1 V1 V0) hi)]
def HV(P:aM c "_law_crossed" 2 7 AX){cell:Nat}(hn1:3<=n)(hn:n<=12)(hc:q=true) (hq:∀a bs H' net,ag H' a bs net->gk n net->net.length<=70->c8 n net=false->aa [] H H'->Q (.lst a) H'):Calls c q (d+1) "_law_crossed" [.int n,.int cell] none Q E H:=by
 subst hc;refine P true d _ Q E H rfl (Ss_go ?_);have en:((n:Int)-1)=((n-1:Nat):Int):=by exact aj [_] [] 0x18652800308060184010142000468214a000c204006100000014a000c20200610000508001 (Y5 (Y2 (Y4 V0 J0) J1) (Y4 (Y2 V0 J1) J0)) (Y0 (.l 3) V0) hn1
 have hjn:cell%(n-2)<n-2:=Nat.mod_lt _ (by exact aj [_] [] 0x65294001840300c20200610040510001 (Y1 J0 (Y2 V0 J2)) (Y0 (.l 3) V0) hn1);walk_at "";refine⟨rfl,iB (v:=.rng 0 ((n-1:Nat):Int) 1) (items:=(List.range (n-1)).map nat) (fun K E' h=>by walk_at "";rw[en];exact ae.mk (nw (by exact ay [_] [] kas (Y1 (Y2 V0 J1) (.l 100000)) (Y0 V0 (.l 12)) (Y5 (Y2 (Y4 V0 J0) J1) (Y4 (Y2 V0 J1) J0)) hn en)) h) (congrArg some (qT _)) ?_⟩;refine uE (EH H n cell (cell%(n-2))) ?_ ?_ (fun J kJ=>kJ _ _ _ H.length [] [] ⟨aQ,rfl,fun J J J h=>nomatch h⟩ ⟨rfl,(fun J J h=>nomatch h),Nat.zero_add _⟩ ⟨(fun J J h=>nomatch h),fun h=>absurd h (Nat.not_lt_zero _)⟩ aa.refl.app rfl)
 ·intro k x l' H' K hx hI hnext hret;refine hI _ fun v3 v4 v5 nt bs bl N B C st wg=>?_;clear hI;subst wg;have hk:=dE hx;rw[ao,di] at hk;rw[br,iM hk] at hx;obtain rfl:=ai hx;have hnext:=fun l' H' h=>hnext l' H' trivial h;unfold nat;walk_at "";rw[show((n:Int)-1-(k:Int))=((n-1-k:Nat):Int) by exact ay [_,_] [] 0x6194a500061014030806018401014212840008d04294001840900c2000000294a0010203006101003080002842508001 (Y5 (Y2 (Y2 (Y4 V0 J0) J1) (Y4 V1 J0)) (Y4 (Y2 (Y2 V0 J1) V1) J0)) (Y5 (Y2 (Y4 V0 J0) J1) (Y4 (Y2 V0 J1) J0)) (Y1 V1 (Y2 V0 J1)) en hk];generalize hh:n-1-k=h;refine ae.mk (nw (by exact bo [_,_,_] [] kbr (Y1 V0 (.l 100000)) (Y0 V1 (.l 12)) (Y5 (Y2 (Y4 V1 J0) J1) (Y4 (Y2 V1 J1) J0)) (Y2 (Y2 (Y2 V1 J1) V2) V0) hn en hh)) ?_;walk_at "";refine cj (B6 (by exact bo [_,_,_] [] kbr (Y1 V0 (.l 100000)) (Y0 V1 (.l 12)) (Y5 (Y2 (Y4 V1 J0) J1) (Y4 (Y2 V1 J1) J0)) (Y2 (Y2 (Y2 V1 J1) V2) V0) hn en hh)) fun a1 H1 N1=>?_;walk_at "";refine cj (p9 N1.hold) fun a2 H2 N2=>?_;have hv:H2[a2]?=some (((List.range h).reverse).map nat):=by rw[List.map_reverse];exact N2.hold
  have hLl:(List.range h).reverse.length=h:=by rw[List.length_reverse,di]
  have hLm:∀x∈(List.range h).reverse,x<h:=fun x hx=>gY.mp (List.mem_reverse.mp hx);have st2:=N1.st.trans0 N2.st;have NN:=N.grow st2;have st3:=st.trans0 st2;clear N1 N2 st2;walk_at "";rw[show(n:Int)-2=((n-2:Nat):Int) by exact aj [_] [] 0x18652800308060184010144000468214a000c204006100000014a000c20200610000510001 (Y5 (Y2 (Y4 V0 J0) J2) (Y4 (Y2 V0 J2) J0)) (Y0 (.l 3) V0) hn1];refine eF (by exact aj [_] [] 0x65294001840300c20200610040510001 (Y1 J0 (Y2 V0 J2)) (Y0 (.l 3) V0) hn1) ?_;walk_at "";generalize cell%(n-2)=j at hjn C hnext;refine bV (fun hkj=>?_) (fun hkj=>?_)
  ·obtain rfl:k=j:=Int.ofNat.inj hkj;have h2:2<=h:=by exact gy [_,_,_] [] 0xd04294001840700c2000000194a5294a000c203806102403081401840b00c201806100405104a10042510021 (Y0 J2 V0) (Y0 (.l 3) V1) (Y5 (Y2 (Y4 V1 J0) J1) (Y4 (Y2 V1 J1) J0)) (Y2 (Y2 (Y2 V1 J1) V2) V0) (Y1 V2 (Y2 V1 J2)) hn1 en hh hjn
   refine Ss_go ?_;walk_at "";refine ae.mk (ji (i:=1) hv (EW (by exact aj [_] [] kaa (Y1 J1 V0) (Y0 J2 V0) h2))) ?_;walk_at "";refine ae.mk (ji (i:=0) hv (EW (by exact aj [_] [] kaa (Y1 J0 V0) (Y0 J2 V0) h2))) ?_;walk_at "";have s4:=(aa.refl (S:=[]) (H:=H2)).app (xs:=[V.int (h-1-1:Nat),V.int (h-1-0:Nat)]);refine cj (xf (i:=2) (aC s4 hv)) fun a5 H5 N5=>?_;walk_at "";refine cj (ma (aC N5.st aQ) N5.hold (by rw[gF,ao];show 2+_<_;exact gy [_,_,_,_] [] 0xc65294a5294001840600c203808102004081201840a00c201806100005100012882508021 (Y1 (Y0 J2 (Y2 V0 J2)) (.l 100000)) (Y0 V1 (.l 12)) (Y5 (Y2 (Y4 V1 J0) J1) (Y4 (Y2 V1 J1) J0)) (Y2 (Y2 (Y2 V1 J1) V2) V3) (Y2 V0 V3) hn en hh hLl)) fun a6 H6 N6=>?_;have st6:=s4.trans0 (N5.st.trans0 N6.st);refine Gq (ls:=(h-2)::(h-1)::(List.range h).reverse.drop 2) hn hk hh ?_ ?_ ?_ (NN.grow st6) B C (fun J=>⟨h2,_,rfl⟩) (st3.trans0 st6) hnext
   ·rw[N6.hold,fK,fK,List.map_drop,Nat.sub_sub];rfl
   ·rw[fO,fO,gF,hLl];exact aj [_] [] 0x61a085294001840800c203006100400014a000c20200610000510001194a000c20180610040510001 (Y2 (Y0 (Y0 (Y2 V0 J2) J1) J1) V0) (Y0 J2 V0) h2
   ·intro x hx;rcases bj.mp hx with rfl |hx
    ·exact ay [_,_,_] [] 0x340c85294a50006102403081401840b00c2018061004030142128402094a000c20200610000510001 (Y1 (Y2 V0 J2) V0) (Y1 V1 (Y2 V2 J1)) (Y2 (Y2 (Y2 V2 J1) V1) V0) hk hh
    ·rcases bj.mp hx with rfl |hx
     ·exact aj [_] [] kar (Y1 (Y2 V0 J1) V0) (Y0 J2 V0) h2
     ·exact hLm x (List.mem_of_mem_drop hx)
  ·exact Gq hn hk hh hv hLl hLm NN B C (fun e=>absurd (congrArg Int.ofNat e) hkj) st3 hnext
 ·intro l' H' hI;refine hI _ fun v3 v4 v5 nt bs bl N B C st wg=>?_;clear hI;subst wg;rw[ao,di] at B C;refine Then_go (Ss_go ?_);walk_at "";have hz:=B.tot;have:=Dx (n-1) (by exact ay [_] [] kas (Y0 (Y2 V0 J1) (.l 11)) (Y0 V0 (.l 12)) (Y5 (Y2 (Y4 V0 J0) J1) (Y4 (Y2 V0 J1) J0)) hn en);exact hq _ _ _ _ N (B.ok hn) (by exact ay [_,_,_] [] kab (Y0 V0 (.l 70)) (Y2 (Y0 V0 V1) V2) (Y0 V2 (.l 66)) hz this) (EK (C.2 (by exact bo [_,_] [] 0x68214a000c203806100000014a528003080801840600c20380610000510021 (Y1 V0 (Y2 V1 J1)) (Y0 (.l 3) V1) (Y5 (Y2 (Y4 V1 J0) J1) (Y4 (Y2 V1 J1) J0)) (Y1 V0 (Y2 V1 J2)) hn1 en hjn))) st
def KG(ha:H[a]?=some xs)(hne:xs≠[]):vg H (.lst a) .none (.int (-1))=some (.lst H.length,H++[xs.dropLast]):=by
 show(H[a]?).bind _=_;rw[ha];show some (V.lst H.length,H++[(xs.drop 0).take (qd (-1) xs.length-0)])=_;have hl:=List.length_pos_iff.mpr hne;rw[List.drop_zero,List.dropLast_eq_take,show qd (-1) xs.length-0=xs.length-1 by show((-1:Int)+(xs.length:Int)).toNat-0=_;exact aj [_,_] [] 0x640c85294001840600c2010061004030140000463294a50006101c03080c01840300c20080a1004250000140d04294001840700c2008000214a50006101c03080401840001005080211a08528003080e01840100003294a50006102004080e01840300c20080a00002508021 (Y2 (Y2 V0 J0) (Y2 V1 J1)) (Y7 (Y5 (Y4 V0 J0) (Y0 (Y3 J1 J0) (Y4 V1 J0))) (Y6 (Y3 (Y0 (Y3 J1 J0) (Y4 V1 J0)) J0) (Y2 V0 J0))) (Ar.tn _)]
def zb(P:aM c "_law_untelling" 3 9 A8)(PC:aM c "_law_crossed" 2 7 AX){cell:Nat}{net:Net}(A:ag H a bs net)(hn:1<=n/\n<=64)(ok:gk n net)(hz:net.length<=70)(ht:c8 n net=true)(hne:net≠[])(hc:q=true) (hq:∀a' bs' H' net',ag H' a' bs' net'->gk n net'->net'.length<=70->c8 n net'=false->aa [] H H'->Q (.lst a') H'):Calls c q (d+2) "_law_untelling" [.lst a,.int n,.int cell] none Q E H:=by
 subst hc;refine P true (d+1) _ Q E H rfl (Ss_go ?_);walk_at "";have hnl:0<net.length:=List.length_pos_iff.mpr hne;refine eF (b:=3) (by decide) ?_;walk_at "";have go:az (Calls c) true (d+1) none (A8.drop 1) (de Q) (dZ E) [some (.lst a),some (.int n),some (.int cell),none,none,none,none,none,none] H:=by
  refine Ss_go ?_;walk_at "";refine ae.mk (c6 A.top) ?_;walk_at "";rw[ao,A.len];refine eF hnl ?_;walk_at "";have hat:cell%net.length<net.length:=Nat.mod_lt _ hnl;generalize cell%net.length=i at hat;have hy:=bt hat;generalize net[i]=y at hy;obtain⟨b,hb,hbH,hbI⟩:=A.at hy;refine fh (b:=64) (by decide) ?_;walk_at "";refine ae.mk hbI ?_;walk_at "";refine ae.mk (c6 hbH) ?_;walk_at "";have hyo:=ok.2 y (bG hy);have hyl:0<y.length:=List.length_pos_iff.mpr hyo.1;rw[ao];refine eF hyl ?_;walk_at "";have hsp:cell/64%y.length<y.length:=Nat.mod_lt _ hyl;generalize cell/64%y.length=k at hsp;have hp:=bt hsp;generalize y[k]=p at hp;obtain⟨lo,hi⟩:=p;have hpm:lo<hi/\hi<n/\0<=hi:=(vB hyo.2).1 _ (bG hp);have hi0:0<hi:=eJ (eA _) hpm.1;refine⟨rfl,?_⟩;refine ae.mk hbI ?_;walk_at "";refine ae.mk (cZ hbH (xJ hp)) ?_;refine ae.mk (a:=[some (.lst a),some (.int n),some (.int cell),some (.int i),some (.int k),some (.int lo),some (.int hi),none,none]) rfl ?_;walk_at "";refine fh (b:=4096) (by decide) ?_;walk_at "";refine eF hi0 ?_;walk_at "";have hlt:cell/4096%hi<hi:=Nat.mod_lt _ hi0;generalize cell/4096%hi=l' at hlt;refine bV (fun e=>?_) (fun e=>?_)
  ·walk_at "";refine cj (KG A.top (fun q=>hne (gj.mp (by rw[<- A.len,<-ao (f:=V.lst),q];rfl)))) fun a2 H2 N2=>?_;walk_at "";refine hq a2 bs.dropLast H2 net.dropLast ⟨by rw[N2.hold,List.map_dropLast],by rw[List.length_dropLast,List.length_dropLast,A.len],fun j r z h1 h2=>?_⟩ ⟨?_,fun z hz=>ok.2 z (List.dropLast_subset _ hz)⟩ ?_ (GI ok.2 hne ht) N2.st
   ·rw[List.getElem?_dropLast] at h1 h2;revert h1;refine xO fun J h1=>?_;revert h2;refine xO fun J h2=>?_;exact aC N2.st (A.lay j r z h1 h2)
   ·rw[List.length_dropLast];exact aD (Nat.sub_le _ _) ok.1
   ·rw[List.length_dropLast];exact aD (Nat.sub_le _ _) hz
  ·have hlo:l'≠lo:=fun q=>e (by rw[q]);have ny:y.length<50000:=by have:=(z7 hyo.2 hyo.1).1;exact ay [_,_] [] kab (Y1 V0 (.l 50000)) (Y0 V1 (.l 64)) (Y0 (Y0 V0 J0) V1) hn.2 this
   walk_at "";refine ae.mk hbI ?_;walk_at "";refine cj (zU hbH) fun e1 H3 N3=>?_;walk_at "";have s4:=(aa.refl (S:=[]) (H:=H3)).app (xs:=[pr (l',hi)]);refine cj (ma (aC s4 N3.hold) aQ (by rw[gg,ao];show _+1<_;exact ay [_,_] [] kaz (Y1 (Y0 (Y5 V0 V1) J1) (.l 100000)) (Y1 V0 V1) (Y1 V1 (.l 50000)) hsp ny)) fun e3 H5 N5=>?_;walk_at "";have s5:=N3.st.trans0 (s4.trans0 N5.st);refine ae.mk (show cA H5 (.lst a) (.int i)=some (.lst b) from cZ (aC s5 A.top) (by rw[br,hb];rfl)) ?_;refine cj (xf (i:=k+1) (aC s5 hbH)) fun e4 H6 N6=>?_;walk_at "";refine cj (ma (aC N6.st N5.hold) N6.hold (by rw[bw,gg,gF,ao];show _+1+_<_;exact ay [_,_] [] 0xc65294a50006101803080e01880800c201806100005184000842808401 (Y1 (Y0 (Y0 (Y5 V0 V1) J1) (Y2 V1 (Y0 V0 J1))) (.l 100000)) (Y1 V0 V1) (Y1 V1 (.l 50000)) hsp ny)) fun e5 H7 N7=>?_;have hl5:H7[e5]?=some ((y.set k (l',hi)).map pr):=by
    rw[N7.hold,List.map_set,zW,if_pos (by rw[ao];exact hsp),fQ];rfl
   have s7:=s5.trans0 (N6.st.trans0 N7.st);clear N3 N5 N6 N7 s4 s5;walk_at "";refine cj (zU (aC s7 A.top)) fun a2 H8 N8=>?_;walk_at "";have s8:=(aa.refl (S:=[]) (H:=H8)).app (xs:=[V.lst e5]);refine cj (ma (aC s8 N8.hold) aQ (by rw[gg,ao,A.len];show _+1<_;exact ay [_,_] [] kaz (Y1 (Y0 (Y5 V0 V1) J1) (.l 100000)) (Y0 V1 (.l 70)) (Y1 V0 V1) hz hat)) fun e6 H9 N9=>?_;walk_at "";have s9:=N8.st.trans0 (s8.trans0 N9.st);refine cj (xf (i:=i+1) (aC (s7.trans0 s9) A.top)) fun e7 H10 N10=>?_;walk_at "";refine cj (ma (aC N10.st N9.hold) N10.hold (by rw[bw,gg,gF,ao,A.len];show _+1+_<_;exact ay [_,_] [] 0xc65294a50006101803100e01840800c201806100005184000842808401 (Y1 (Y0 (Y0 (Y5 V0 V1) J1) (Y2 V1 (Y0 V0 J1))) (.l 100000)) (Y0 V1 (.l 70)) (Y1 V0 V1) hz hat)) fun e8 H11 N11=>?_;have top:H11[e8]?=some ((bs.set i e5).map .lst):=by
    rw[N11.hold,List.map_set,zW,if_pos (by rw[ao,A.len];exact hat),fQ];rfl
   have s11:=s9.trans0 (N10.st.trans0 N11.st);walk_at "";refine hq e8 (bs.set i e5) H11 (net.set i (y.set k (l',hi))) ⟨top,by rw[gv,gv];exact A.len,fun j r z h1 h2=>?_⟩ (Hv ok (HU hyo hp hlt)) (by rw[gv];exact hz) (lH ht hy hp hlo) (s7.trans0 s11);by_cases e:j=i
   ·subst e;rw[nu (by rw[A.len];exact hat)] at h1;rw[nu hat] at h2;obtain rfl:=ai h1;obtain rfl:=ai h2;exact aC s11 hl5
   ·rw[nT (c5 e)] at h1 h2;exact aC (s7.trans0 s11) (A.lay j r z h1 h2)
 refine bV (fun J=>?_) (fun J=>?_)
 ·refine bV (fun h3=>?_) (fun J=>?_)
  ·refine bV (fun h12=>?_) (fun J=>?_)
   ·refine Ss_go ?_;walk_at "";refine fh (b:=3) (by decide) ?_;exact HV PC (c7.mp h3) (c7.mp h12) rfl hq
   ·exact go
  ·exact go
 ·exact go
variable {b:Nat}{v3 x:V}
noncomputable def Jf:List St:=[.ite (.cmp (.wx 0) [.eq] [.ww 0]) [.ret (.call "one_by_one" [.wx 2])] [],.ite (.cmp (.wx 0) [.eq] [.ww 1]) [.ret (.call "doubled" [.wx 2])] [],.ite (.cmp (.wx 0) [.eq] [.ww 2]) [.ret (.call "by_halves" [.wx 2])] [],.ite (.cmp (.wx 0) [.eq] [.ww 3]) [.ret (.call "by_pairs" [.wx 2])] [],.ret (.call "_law_telling" [.wx 1,.wx 2])]
structure lz(c:Cx):Prop where
 chk:dR c
 moved:aM c "moved" 2 5 AB
 side:aM c "side_by_side" 2 6 Cr
 parted:aM c "parted" 4 6 Gy
 paired:aM c "paired" 2 6 DS
 halves:aM c "by_halves" 1 2 HH
 pairs:aM c "by_pairs" 1 1 Hb
structure yJ(c:Cx):Prop where
 m:lz c
 one:aM c "one_by_one" 1 2 Fz
 dbl:aM c "doubled" 1 4 FE
 place:aM c "_law_place" 5 6 pv
 thinner:aM c "_law_thinner" 6 8 zN
 telling:aM c "_law_telling" 2 16 BG
 made:aM c "_law_made" 3 3 Jf
def Ae(C:dR c)(h1:1<=n)(h2:n<=64)(hq:Q .none H):Calls c true (d+2) "need_lines" [.int n] none Q E H:=
 Fq C rfl rfl (fun J=>hq) (fun h=>absurd (lS (lo:=1) (hi:=64) h1 h2) (by rw[show cG ((1:Nat):Int) ((64:Nat):Int) (.int n)=false from h];decide))
def tS(P:aM c "one_by_one" 1 2 Fz)(C:dR c)(hn1:1<=n)(hn:n<=64)(hc:q=true) (hq:∀a' bs' H',ag H' a' bs' (rC n)->aa [] H H'->Q (.lst a') H'):Calls c q (d+3) "one_by_one" [.int n] none Q E H:=by
 subst hc;refine P true (d+2) _ Q E H rfl (Ss_go ?_);walk_at "";refine Ae (d:=d) C hn1 hn ?_;walk_at "";rw[show(n:Int)-1=((n-1:Nat):Int) by exact aj [_] [] kbp (Y5 (Y2 (Y4 V0 J0) J1) (Y4 (Y2 V0 J1) J0)) (Y0 J1 V0) hn1];refine ae.mk (nw (by exact aj [_] [] kak (Y1 (Y2 V0 J1) (.l 100000)) (Y0 V0 (.l 64)) hn)) ?_;walk_at "";refine ae.mk (Dj (H:=H)) ⟨dU (by rw[ao,di];exact aj [_] [] kak (Y1 (Y2 V0 J1) (.l 100000)) (Y0 V0 (.l 64)) hn),?_⟩;refine uN ((rC n).map fun y=>y.map pr) (by rw[rC,ao,ao,ao]) ?_ (fun J J=>trivial) ?_
 ·intro i x y acc H' K hx hy st hK;rw[rC,d8,br] at hy;rw[br] at hx;revert hx;refine xM fun z hz wj=>?_;subst wj;rw[hz] at hy;obtain rfl:=ai hy;exact hK _ _ aa.refl.app aQ (aJ _)
 ·intro cs H' RR;exact hq _ cs _ RR.net RR.st.app
theorem EJ(M:lz c):∀(N:Nat){n:Nat}{H:Hp}{d:Nat}{Q:V->Hp->Prop}{E:XPost},1<=n->n<=N->N<=64->(∀a' bs' H',ag H' a' bs' (rO n)->aa [] H H'->Q (.lst a') H')->Calls c true (d+N+2) "by_pairs" [.int n] none Q E H
 |0,_,_,_,_,_,h1,h2,_,_=>absurd (aD h1 h2) (by decide)
 |N+1,n,H,d,Q,E,hn1,hn,hN,hq=>by
  have hN':=Nat.le_of_succ_le hN;refine M.pairs true (d+N+2) _ Q E H rfl (Ss_go ?_);walk_at "";refine Ae (d:=d+N) M.chk hn1 (aD hn hN) ?_;walk_at "";refine bV (fun h=>?_) (fun h=>?_)
  ·have h:n=1:=Int.ofNat_inj.mp h;subst h;refine Ss_go ?_;walk_at "";exact hq _ [] _ ⟨aQ,rfl,fun J J J h=>nomatch h⟩ aa.refl.app
  ·have h:n≠1:=fun e=>h (Int.ofNat_inj.mpr e);walk_at "";refine fh (b:=2) (by decide) ?_;walk_at "";obtain⟨m,k,e1,_,h1,h2,_,h4,e2,_,_⟩:=rq hn1 h hn;have hp:=DW h1 h2 e1 e2;rw[e2];have F:=F9 k h2;have hk:=aD h4 hN';refine EJ M N h2 h4 hN' fun a1 bs1 H1 N1 st1=>?_;walk_at "";refine lP M.paired N1 hn1 (aD hn hN) (CU F.2 hk) (BD F.1.ok hk) rfl fun a2 bs2 H2 N2 st2=>?_;refine hq _ bs2 _ ?_ (st1.trans0 st2);rw[hp];exact N2
theorem B9(M:lz c):∀(N:Nat){n:Nat}{H:Hp}{d:Nat}{Q:V->Hp->Prop}{E:XPost},1<=n->n<=N->N<=64->(∀a' bs' H',ag H' a' bs' (qE n)->aa [] H H'->Q (.lst a') H')->Calls c true (d+N+2) "by_halves" [.int n] none Q E H
 |0,_,_,_,_,_,h1,h2,_,_=>absurd (aD h1 h2) (by decide)
 |N+1,n,H,d,Q,E,hn1,hn,hN,hq=>by
  have hN':=Nat.le_of_succ_le hN;refine M.halves true (d+N+2) _ Q E H rfl (Ss_go ?_);walk_at "";refine Ae (d:=d+N) M.chk hn1 (aD hn hN) ?_;walk_at "";refine bV (fun h=>?_) (fun h=>?_)
  ·have h:n=1:=Int.ofNat_inj.mp h;subst h;refine Ss_go ?_;walk_at "";exact hq _ [] _ ⟨aQ,rfl,fun J J J h=>nomatch h⟩ aa.refl.app
  ·have h:n≠1:=fun e=>h (Int.ofNat_inj.mpr e);walk_at "";refine fh (a:=n+1) (b:=2) (by decide) ?_;walk_at "";obtain⟨m,k,e1,e2,h1,h2,h3,h4,_,_,_⟩:=rq hn1 h hn;have hp:=Fi h1 h2 e1 e2;rw[e2,sL e1];have F1:=Ch m h1;have F2:=Ch k h2;have hm:=aD h3 hN';have hk:=aD h4 hN';refine B9 M N h1 h3 hN' fun a1 bs1 H1 N1 st1=>?_;walk_at "";refine B9 M N h2 h4 hN' fun a2 bs2 H2 N2 st2=>?_;walk_at "";refine mz M.parted M.side M.moved (N1.grow st2) N2 h1 hm hk (CU F1.2 hm) (CU F2.2 hk) (BD F1.1.ok hm) (BD F2.1.ok hk) rfl fun a3 bs3 H3 N3 st3=>?_;refine hq _ bs3 _ ?_ (st1.trans0 (st2.trans0 st3));rw[hp];exact N3
def tD(P:aM c "doubled" 1 4 FE)(C:dR c)(hn1:1<=n)(hn:n<=64)(hc:q=true) (hq:∀a' bs' H' net,bK n net->net.length<=70->ag H' a' bs' net->aa [] H H'->Q (.lst a') H'):Calls c q (d+3) "doubled" [.int n] none Q E H:=by
 subst hc;refine P true (d+2) _ Q E H rfl (Ss_go ?_);walk_at "";refine Ae (d:=d) C hn1 hn ?_;walk_at "";refine⟨rfl,.mk (gE H n H.length) (2*n-1) (.mk 1 [] [] _ _ (aJ _) (by exact aj [_] [] 0x61a08528003101001840000005280030808018400014202002200ca50006100c03080202840400440 (Y2 (Y0 (Y2 (Y1 J2 V0) J1) J1) (Y1 J2 V0)) (Y0 J1 V0) hn1) (fun J h=>nomatch h) (lD n) (by decide) (by decide) ⟨aQ,rfl,fun J J J h=>nomatch h⟩ fX aa.refl.app) ?_⟩;intro m l' H' hI;refine hI _ fun s net bs v3 h1 hm hok ht hl hl2 N ap st wg=>?_;clear hI;subst wg;walk_at "";refine bV (fun h=>?_) (fun h=>?_)
 ·have h:s<n:=bP.mp h;refine Ss_go ?_;walk_at "";refine⟨rfl,?_⟩;walk_at "";refine ae.mk (nC (by exact ay [_,_] [] kab (Y1 V0 (.l 1000)) (Y0 V1 (.l 64)) (Y1 V0 V1) hn h) (by exact aj [_] [] kaa (Y1 V0 (.l 1000)) (Y0 V0 (.l 64)) hn)) ?_;walk_at "";refine ae.mk (FL (H:=H') (m:=s) (n:=n)) ⟨dU (by rw[ao,di];exact aj [_,_] [] 0x65294001840300c20200610000508401 (Y1 (Y2 V0 V1) (.l 100000)) (Y0 V0 (.l 64)) hn),?_⟩;refine iA (g:=fun i=>pr (i,i+s)) trivial (fun i hi K hK=>?_) ?_
  ·unfold nat;walk_at "";rw[show((s+i:Nat):Int)-(s:Int)=((i:Nat):Int) by exact bp [_,_] [] kac (Y5 (Y2 (Y4 (Y0 V0 V1) J0) (Y4 V0 J0)) (Y4 V1 J0)),Nat.add_comm s i];exact hK
  have st5:=(aa.refl (S:=[]) (H:=H')).app (xs:=(List.range (n-s)).map fun i=>pr (i,i+s));have N5:=N.grow st5;walk_at "";refine ae.mk (kY N5.top (by rw[ao,N.len];exact bo [_,_,_] [] 0xa5294001880000c20080610080308060 (Y1 V0 (.l 10000)) (Y0 V1 (.l 64)) (Y0 (Y1 J2 V0) (Y0 V2 J1)) (Y1 V2 V1) hn hl h)) ?_;walk_at "";refine xx (by decide) ?_;walk_at "";refine⟨2*n-2*s,by exact bo [_,_,_] [] 0x1a08528003101201840000005294a000c202006101404080c018400014810880400440 (Y1 (Y2 (Y1 J2 V0) (Y1 J2 V1)) V2) (Y0 J1 V1) (Y2 (Y0 V2 V1) (Y1 J2 V0)) (Y1 V1 V0) h1 hm h,.mk (2*s) (net++[p0 n s]) (bs++[H'.length]) _ _ (by exact aj [_] [] kaf (Y0 J1 (Y1 J2 V0)) (Y0 J1 V0) h1) (by exact aj [_,_] [] 0x1868214a000c404006100000014a000c202006100005204220100110065280030806018401014810880400440 (Y2 (Y0 (Y2 (Y1 J2 V0) (Y1 J2 V1)) (Y1 J2 V1)) (Y1 J2 V0)) (Y1 V1 V0) h) (fun y hy=>(bJ.mp hy).elim (hok y) fun hy=>?_) (nr ht h1) (by rw[bw];show 2*(net.length+1)<=_;exact aj [_,_] [] kaf (Y0 (Y1 J2 (Y0 V0 J1)) (Y0 (Y1 J2 V1) J1)) (Y1 V0 V1) hl2) (by rw[bw];show net.length+1<_;exact aj [_,_] [] kaf (Y1 (Y0 V0 J1) (Y1 J2 V1)) (Y1 V0 V1) hl2)
   (N5.push ap (by rw[aQ,p0,d8];rfl) (Nat.ne_of_gt (N.lt _ aI))) (fun hm=>(bJ.mp hm).elim ap fun e=>ck (N.lt _ aI) (aN.mp e)) ((st.trans0 st5).set (.inr (aJ _)))⟩
  rw[aN.mp hy];exact uw h1 h
 ·have h:n<=s:=fE fun q=>h (bP.mpr q);walk_at "";exact hq _ bs _ net (kK hok ht h1 h) (by exact bo [_,_,_,_] [] 0xa5294001880000c40080610080308060 (Y0 V0 (.l 70)) (Y0 V1 (.l 64)) (Y2 (Y0 V2 V3) (Y1 J2 V1)) (Y0 (Y1 J2 V0) (Y0 V3 J1)) hn hm hl) N st
structure b9(n:Nat)(net:Net):Prop where
 ok:gk n net
 len:net.length<=70
 tells:c8 n net=true
def bK.does{net:Net}(F:bK n net):c8 n net=true:=(zq (we F.ok)).mpr F.whole
def b9.of{net:Net}(F:bK n net)(h:net.length<=70):b9 n net:=⟨⟨aD h (by decide),F.ok⟩,h,F.does⟩
def m5(F:yJ c){cell:Int}(hn:1<=n/\n<=64)(hw:4<=w->n<=32)(hc:q=true) (hq:∀a bs H' net,b9 n net->ag H' a bs net->aa [] H H'->Q (.lst a) H'):Calls c q (d+70) "_law_made" [.int w,.int cell,.int n] none Q E H:=by
 subst hc;refine F.made true (d+69) _ Q E H rfl (Ss_go ?_);walk_at "";refine bV (fun J=>?_) (fun h0=>?_)
 ·refine Ss_go ?_;walk_at "";refine tS (d:=d+66) F.one F.m.chk hn.1 hn.2 rfl fun a' bs' H' N st=>?_;exact hq _ _ _ _ (b9.of (j6 n) (by rw[rC,ao,di];exact aj [_] [] kak (Y0 (Y2 V0 J1) (.l 70)) (Y0 V0 (.l 64)) hn.2)) N st
 walk_at "";refine bV (fun J=>?_) (fun h1=>?_)
 ·refine Ss_go ?_;walk_at "";refine tD (d:=d+66) F.dbl F.m.chk hn.1 hn.2 rfl fun a' bs' H' net fi hl N st=>?_;exact hq _ _ _ _ (b9.of fi hl) N st
 walk_at "";refine bV (fun J=>?_) (fun h2=>?_)
 ·refine Ss_go ?_;walk_at "";have hf:=Ch n hn.1;refine B9 (d:=d+3) F.m 64 hn.1 hn.2 (aJ _) fun a' bs' H' N st=>?_;exact hq _ _ _ _ (b9.of hf.1 (by exact ay [_,_] [] 0x194a528003080601840400c20280610000508021 (Y0 V0 (.l 70)) (Y0 V1 (.l 64)) (Y0 V0 (Y2 V1 J1)) hn.2 hf.2)) N st
 walk_at "";refine bV (fun J=>?_) (fun h3=>?_)
 ·refine Ss_go ?_;walk_at "";have hf:=F9 n hn.1;refine EJ (d:=d+3) F.m 64 hn.1 hn.2 (aJ _) fun a' bs' H' N st=>?_;exact hq _ _ _ _ (b9.of hf.1 (by exact ay [_,_] [] 0x194a528003080601840400c20280610000508021 (Y0 V0 (.l 70)) (Y0 V1 (.l 64)) (Y0 V0 (Y2 V1 J1)) hn.2 hf.2)) N st
 walk_at "";have h32:=hw (by exact gy [_] [] 0x3a985280030806018400014a000c20080610000a294001840100c20000a50006100803080002800308000 (Y0 (.l 4) V0) (Y8 (Y5 (Y4 V0 J0) J0) J0) (Y8 (Y5 (Y4 V0 J0) J1) J0) (Y8 (Y5 (Y4 V0 J0) J2) J0) (Y8 (Y5 (Y4 V0 J0) (.l 3)) J0) h0 h1 h2 h3);refine JH (d:=d+66) F.telling F.thinner F.place hn.1 hn.2 rfl fun a bs net H1 T N st J J=>?_;exact hq _ _ _ _ (b9.of T.fine (aD T.len (by exact aj [_] [] kaa (Y0 (Y0 V0 (.l 3)) (.l 70)) (Y0 V0 (.l 64)) hn.2))) N st
def Kt(xs:List Nat):(List.range xs.length).map (fun k=>xs.getD k 0)=xs:=by
 refine List.ext_getElem? fun i=>?_;rw[br];by_cases h:i<xs.length
 ·rw[iM h,bt h];show some (xs.getD i 0)=_;rw[b7,bt h];rfl
 ·rw[nO (by rw[di];exact fE h),nO (fE h)];rfl
def zo{Q:SPost}{w:Str}(h:EE (.exc cn (bQ cn [.str w])) l H):az C true d k [.rais cn [(.lit (.str w))]] Q EE l H:=by
 refine Ss_go ?_;walk_at "";exact⟨rfl,h⟩
variable {k:Nat}
def Kv:uZ (ar "BadThing") "thing" false true false false false:=⟨by decide +kernel,by decide +kernel,by decide +kernel,by decide +kernel,by decide +kernel,by decide +kernel,by decide,rfl,by decide⟩
inductive cw:V->List V->Prop
 |lines:cw (.exc "BadLines" .none) [.str "lines"]
 |thing:cw (.exc "BadThing" .none) [.str "thing"]
 |none:cw (.exc "NoNet" .none) [.str "none"]
 |net (i:Nat):cw (.exc "BadNet" (.int i)) [.str "net",.int i]
theorem cw.word{W:List V}(h:cw z W)(hq:∀a H',gT H a W H'->Q (.lst a) H'):ez Q z H:=by
 cases h with
 |lines=>exact J3 hq
 |thing=>exact .word _ _ _ _ _ _ rfl Kv hq
 |none=>exact GX hq
 |net i=>exact .net _ rfl rfl hq
def mU:fR (ar "thing")=true:=by decide +kernel
theorem cw.eq {W:List V} (h:cw z W) (ha:H[a]?=some W) (hb:H[b]?=some W):gP H (.lst a) (.lst b)=some true:=by
 cases h with
 |lines=>exact j9 kO ha hb
 |thing=>exact j9 mU ha hb
 |none=>exact j9 qv ha hb
 |net i=>exact wZ rfl ha hb
def ec(C:CallT)(d:Nat)(l:Loc)(H:Hp)(P:Nat->Hp->V->Prop):Nat->List Ex->Prop
 |_,[]=>True
 |k,e::es=>(∀H' (K:V->Hp->Prop)(E:XPost),aa [] H H'->(∀v H2,aa [] H' H2->P k H2 v->K v H2)->aF C true d none e l K E H')/\ec C d l H P (k+1) es
section
variable {P:Nat->Hp->V->Prop}
def ec.nil:ec C d l H P k []:=trivial
def ec.cons(h:∀H' (K:V->Hp->Prop)(E:XPost),aa [] H H'->(∀v H2,aa [] H' H2->P k H2 v->K v H2)->aF C true d none e l K E H')(t:ec C d l H P (k+1) es):ec C d l H P k (e::es):=⟨h,t⟩
def ec.lit(h:∀H',P k H' v)(t:ec C d l H P (k+1) es):ec C d l H P k (.lit v::es):=⟨fun H' K E st hK=>hK v H' .refl (h H'),t⟩
theorem rk(mono:∀k H H' v,aa [] H H'->P k H v->P k H' v):∀{es:List Ex}{k:Nat},ec C d l H P k es->∀{H':Hp}{Q:List V->Hp->Prop}{E:XPost},aa [] H H'->(∀vs H2,aa [] H' H2->(∀i v,vs[i]?=some v->P (k+i) H2 v)->vs.length=es.length->Q vs H2)->dI C true d none es l Q E H'
 |[],_,_,_,_,_,_,hq=>hq [] _ .refl (fun J J h=>nomatch h) rfl
 |e::es,k,g,H',Q,E,st,hq=>by
  rw[L_cons];refine g.1 _ _ _ st fun v H1 s1 hv=>?_;refine rk mono g.2 (st.trans0 s1) fun vs H2 s2 hvs hl=>hq _ _ (s1.trans0 s2) (fun i x hx=>?_) (congrArg (· + 1) hl);cases i with
  |zero=>obtain rfl:=ai hx;exact mono _ _ _ _ s2 hv
  |succ i=>rw[Nat.add_succ,<-Nat.succ_add];exact hvs i x hx
def sH(mono:∀k H H' v,aa [] H H'->P k H v->P k H' v){ix:Ex}(g:ec C d l H P 0 es)(hj:j<es.length)(hi:∀H' (K:V->Hp->Prop),aa [] H H'->K (.int j) H'->aF C true d none ix l K E H')(hq:∀v H2,aa [] H H2->P j H2 v->Q v H2):aF C true d none (.idx (.list es) ix) l Q E H:=by
 rw[E_idx,E_list];refine rk mono g .refl fun vs H2 st hvs hl=>?_;have t2:=st.app (xs:=vs);refine hi _ _ t2 ?_;have hj':j<vs.length:=hl.symm▸hj;refine ae.mk (cZ aQ (bt hj')) (hq _ _ t2 ?_);have:=hvs j _ (bt hj');rw[Nat.zero_add] at this;exact mono _ _ _ _ aa.refl.app this
def Au{ix:Ex}{m:Nat}(h1:l.getD a none=some (.lst t))(h2:l.getD i none=some (.int n))(hx:H[t]?=some xs)(hz:xs.length<1000)(he:∀H' (K:V->Hp->Prop),aa [] H H'->(∀v H2,aa [] H' H2->R H2 v->K v H2)->aF C true d none e l K E H')(hi:∀H' (K:V->Hp->Prop),K (.int m) H'->aF C true d none ix l K E H') (hq:∀v r H2 H5,R H2 v->aa [] H2 H5->aa [] H H5->H5[r]?=some (xs.take n++[v]++xs.drop m)->Q (.lst r) H5):aF C true d none (.bin .add (.bin .add (.slice (.var a) (.lit .none) (.var i)) (.list [e])) (.slice (.var a) ix (.lit .none))) l Q E H:=by
 rw[E_bin,E_bin,E_slice,E_var,h1];refine ae.mk rfl ?_;rw[E_lit,E_var,h2];refine ae.mk rfl ?_;refine cj (zU hx) fun t1 H1 N1=>?_;rw[E_list,L_cons];refine he _ _ N1.st fun v H2 s2 hv=>?_;rw[L_nil];have s3:=(aa.refl (S:=[]) (H:=H2)).app (xs:=[v]);refine cj (ma (aC (s2.trans0 s3) N1.hold) aQ (by rw[gg];show _+1<_;exact aj [_,_] [] 0x65294001840300c20200610040808401 (Y1 (Y0 (Y5 V0 V1) J1) (.l 100000)) (Y1 V1 (.l 1000)) hz)) fun t2 H3 N2=>?_;rw[E_slice,E_var,h1];refine ae.mk rfl ?_;refine hi _ _ ?_;rw[E_lit];have s4:=N1.st.trans0 (s2.trans0 (s3.trans0 N2.st));refine cj (xf (aC s4 hx)) fun t3 H4 N3=>?_;refine cj (ma (aC N3.st N2.hold) N3.hold (by rw[bw,gg,gF];show _+1+_<_;exact aj [_,_,_] [] 0x63294a50006101803100e01840400c20000a20842808401 (Y1 (Y0 (Y0 (Y5 V0 V1) J1) (Y2 V1 V2)) (.l 100000)) (Y1 V1 (.l 1000)) hz)) fun t4 H5 N4=>?_;exact hq v _ _ _ hv (s3.trans0 (N2.st.trans0 (N3.st.trans0 N4.st))) (s4.trans0 (N3.st.trans0 N4.st)) N4.hold
def Cd{xs:List α}{v x:α}(h:x∈xs.take i++[v]++xs.drop j):x∈xs\/x=v:=by
 rcases bJ.mp h with h |h
 ·rcases bJ.mp h with h |h
  ·exact .inl (List.mem_of_mem_take h)
  ·exact .inr (aN.mp h)
 ·exact .inl (List.mem_of_mem_drop h)
def AZ{xs:List α}{v:α}:v∈xs.take i++[v]++xs.drop j:=List.mem_append_left _ (iK _ aI)
def Bi{xs:List α}{v:α}(h:i<=xs.length):(xs.take i++[v]++xs.drop j).length=i+1+(xs.length-j):=by
 rw[bw,bw,gg,gF,Nat.min_eq_left h];rfl
def Do{k m:Int}{A B:List St}{Q:SPost}{E:SX}(h5:l.getD i none=some (.int k))(h6:l.getD j none=some (.int m))(ha:k=t\/m=t->az C q d kk A Q E l H)(hb:k≠t->az C q d kk B Q E l H):iz C q d kk (.ite (.or [(.cmp (.var i) [.eq] [(.lit (.int t))]),(.cmp (.var j) [.eq] [(.lit (.int t))])]) A B) Q E l H:=by
 walk_at "d";rw[h5];walk_at "d";refine bV (fun e=>ha (.inl e)) (fun e=>?_);rw[h6];walk_at "d";exact bV (fun e=>ha (.inr e)) (fun J=>hb e)
def It{m:Nat}{net:Net}(N:ag H a bs net)(hL:H[L]?=some [pr (0,m)])(top:H[A7]?=some ((bs.map V.lst).take i++[V.lst L]++(bs.map V.lst).drop i)):∃cs,ag H A7 cs (net.take i++[(0,m)]::net.drop i):=by
 obtain⟨zs,z1,z2,z3⟩:=N.zs;have key:=ag.ofz (H:=H) (a:=A7) (zs:=zs.take i++(L,[(0,m)])::zs.drop i) ?_ fun p hp=>?_
 ·have e:net.take i++[(0,m)]::net.drop i=(zs.take i++(L,[(0,m)])::zs.drop i).map (·.2):=by rw[bT,fK,List.map_take,List.map_drop,z2]
  rw[e];exact⟨_,key⟩
 ·rw[top,bT,bT,fK,fK,List.map_take,List.map_drop,List.map_take,List.map_drop,z1,fQ];rfl
 ·rcases bJ.mp hp with hp |hp
  ·exact z3 p (List.mem_of_mem_take hp)
  ·rcases bj.mp hp with rfl |hp
   ·exact hL
   ·exact z3 p (List.mem_of_mem_drop hp)
def mV{net:Net}(ok:∀y∈net,cm n y)(hi:i<=net.length):(net.take i++[(0,n)]::net.drop i)[i]?=some [(0,n)]/\(∀j y,(net.take i++[(0,n)]::net.drop i)[j]?=some y->j=i\/cm n y)/\(net.take i++[(0,n)]::net.drop i).length=net.length+1:=by
 have hl:(net.take i).length=i:=by rw[gg];exact Nat.min_eq_left hi
 refine⟨?_,fun j y hj=>?_,?_⟩
 ·rw[iH (eR hl),hl,Nat.sub_self];rfl
 ·rcases Nat.lt_trichotomy j i with h |h |h
  ·rw[jc (by rw[hl];exact h)] at hj;exact .inr (ok y (List.mem_of_mem_take (bG hj)))
  ·exact .inl h
  ·rw[iH (by rw[hl];exact bO h),hl,show j-i=(j-i-1)+1 by exact aj [_,_] [] 0x1865280030806018401014202842008d03214a528003081601840900c20180610040301421004a50006101003080002840508401 (Y2 (Y2 V0 V1) (Y0 (Y2 (Y2 V0 V1) J1) J1)) (Y1 V1 V0) h,List.getElem?_cons_succ] at hj;exact .inr (ok y (List.mem_of_mem_drop (bG hj)))
 ·rw[bw,fO,gF,hl];exact aj [_,_] [] kav (Y2 (Y0 V0 (Y0 (Y2 V1 V0) J1)) (Y0 V1 J1)) (Y0 V0 V1) hi
end
variable {t:Tg}
noncomputable def fL:List St:=[.ite (.or [.not (.isi (.wx 1) .list),.not (.cmp (.ww 1) [.le,.le] [.blt .len [.wx 1],.ww 20]),.not (.blt .all [.comp (.call "is_map" [.wx 4]) (.one 4) (.wx 1) []])]) [.rais "BadThing" [.lit (.str "a list of 1 to 20 maps is wanted")]] [],.ite (.not (.blt .all [.comp (.cmp (.blt .len [.wx 4]) [.eq] [.blt .len [.idx (.wx 1) (.ww 0)]]) (.one 4) (.wx 1) []])) [.rais "BadThing" [.lit (.str "maps of unlike lengths")]] [],.ite (.or [.not (.isi (.wx 2) .list),.not (.cmp (.ww 1) [.le,.le] [.blt .len [.wx 2],.ww 64])]) [.rais "BadLines" [.lit (.str "a list of 1 to 64 signs is wanted")]] [],.ite (.not (.blt .all [.comp (.call "is_among" [.wx 4,.ww 0,.bin .sub (.blt .len [.wx 1]) (.ww 1)]) (.one 4) (.wx 2) []])) [.rais "BadLines" [.lit (.str "a sign of the table is wanted")]] [],.ite (.not (.call "is_among" [.wx 3,.ww 0,.bin .sub (.blt .len [.idx (.wx 1) (.ww 0)]) (.ww 1)])) [.rais "BadThing" [.lit (.str "no such room")]] [],.expr (.call "need_telling" [.blt .len [.wx 2],.wx 0]),.ret (.comp (.idx (.wx 4) (.wx 3)) (.one 4) (.call "led" [.wx 0,.lit (.str "map"),.comp (.idx (.wx 1) (.wx 4)) (.one 4) (.wx 2) []]) [])]
noncomputable def I7:List St:=[.tri [.ret (.tup [.call "walked" [.wx 0,.wx 1,.wx 2,.wx 3]])] 4 [.ret (.call "_law_word" [.wx 4])]]
noncomputable def Gp:List St:=[.set 2 (.list []),.loop (.one 3) (.val (.blt .range [.wx 1])) [.set 0 (.bin .mod (.bin .mul (.wx 0) (.ww 16807)) (.ww 2147483647)),.expr (.meth .append (.wx 2) [.bin .mod (.bin .div (.wx 0) (.ww 64)) (.wx 1)])],.ret (.blt .tuple [.wx 2])]
noncomputable def BU:List St:=[.set 2 (.blt .len [.idx (.wx 0) (.ww 0)]),.set 3 (.bin .mod (.bin .div (.wx 1) (.ww 16)) (.blt .len [.wx 0])),.set 4 (.idx (.list [.blt .list [.idx (.wx 0) (.wx 3)],.bin .add (.idx (.wx 0) (.wx 3)) (.tup [.ww 0]),.bin .mul (.tup [.wx 2]) (.wx 2),.bin .mul (.tup [.lit (.bool true)]) (.wx 2),.bin .mul (.tup [.neg (.ww 1)]) (.wx 2),.lit .none,.tup [],.lit (.str "0")]) (.bin .mod (.wx 1) (.ww 8))),.ite (.or [.cmp (.wx 2) [.eq] [.ww 8],.cmp (.bin .mod (.wx 1) (.ww 8)) [.ne] [.ww 1]]) [.ret (.idx (.list [.blt .tuple [.wx 0],.list [],.lit .none,.bin .mul (.wx 0) (.ww 21),.bin .add (.bin .add (.slice (.wx 0) (.lit .none) (.wx 3)) (.list [.wx 4])) (.slice (.wx 0) (.bin .add (.wx 3) (.ww 1)) (.lit .none))]) (.bin .mod (.bin .div (.wx 1) (.ww 8)) (.ww 5)))] [],.ret (.bin .add (.bin .add (.slice (.wx 0) (.lit .none) (.wx 3)) (.list [.wx 4])) (.slice (.wx 0) (.wx 3) (.lit .none)))]
noncomputable def fG:List St:=[.set 1 (.call "_law_lines_by" [.call "_law_cell_at" [.wx 0,.ww 0]]),.set 2 (.bin .mod (.bin .mul (.call "_law_cell_at" [.wx 0,.ww 1]) (.ww 48271)) (.ww 2147483647)),.set 3 (.bin .mod (.wx 2) (.ww 7)),.ite (.and [.cmp (.bin .mod (.bin .div (.wx 2) (.ww 7)) (.ww 3)) [.eq] [.ww 1],.cmp (.wx 3) [.lt] [.ww 4]]) [.set 1 (.bin .add (.ww 33) (.bin .mod (.bin .div (.wx 2) (.ww 21)) (.ww 32)))] [],.set 4 (.call "_law_made" [.wx 3,.call "_law_cell_at" [.wx 0,.ww 2],.wx 1]),.set 5 (.bin .add (.ww 1) (.bin .mod (.bin .div (.wx 2) (.ww 63)) (.ww 8))),.set 6 (.bin .add (.ww 1) (.bin .mod (.bin .div (.wx 2) (.ww 504)) (.ww 20))),.set 8 (.comp (.call "_law_map" [.bin .add (.ww 1) (.bin .mod (.bin .add (.call "_law_cell_at" [.wx 0,.ww 3]) (.bin .mul (.ww 104729) (.wx 15))) (.ww 2147483646)),.wx 5]) (.one 15) (.blt .range [.wx 6]) []),.set 9 (.comp (.bin .mod (.bin .mod (.bin .mul (.bin .add (.call "_law_cell_at" [.wx 0,.bin .add (.ww 4) (.bin .mod (.wx 15) (.ww 30))]) (.bin .mul (.ww 7919) (.wx 15))) (.ww 48271)) (.ww 2147483647)) (.wx 6)) (.one 15) (.blt .range [.wx 1]) []),.set 10 (.bin .mod (.call "_law_cell_at" [.wx 0,.ww 34]) (.wx 5)),.ite (.cmp (.bin .mod (.bin .div (.wx 2) (.ww 13)) (.ww 4)) [.eq] [.ww 1]) [.ret (.call "_law_refused" [.wx 4,.wx 8,.wx 9,.wx 10,.bin .mod (.bin .mul (.call "_law_cell_at" [.wx 0,.ww 35]) (.ww 48271)) (.ww 2147483647)])] [],.set 11 (.list [.comp (.blt .list [.wx 15]) (.one 15) (.wx 4) [],.blt .list [.wx 8],.blt .list [.wx 9]]),.set 12 (.call "_law_tried" [.idx (.wx 11) (.ww 0),.idx (.wx 11) (.ww 1),.idx (.wx 11) (.ww 2),.wx 10]),.ite (.or [.not (.isi (.wx 12) .tuple),.not (.isi (.idx (.wx 12) (.ww 0)) .list),.cmp (.blt .len [.idx (.wx 12) (.ww 0)]) [.ne] [.wx 1]]) [.ret (.lit (.bool false))] [],.set 13 (.wx 10),.loop (.one 7) (.val (.blt .range [.wx 1])) [.set 13 (.idx (.idx (.wx 8) (.idx (.wx 9) (.wx 7))) (.wx 13)),.ite (.or [.not (.call "_law_whole" [.idx (.idx (.wx 12) (.ww 0)) (.wx 7)]),.cmp (.idx (.idx (.wx 12) (.ww 0)) (.wx 7)) [.ne] [.wx 13]]) [.ret (.lit (.bool false))] []],.set 14 (.blt .list [.idx (.wx 12) (.ww 0)]),.expr (.meth .append (.idx (.wx 12) (.ww 0)) [.ww 0]),.ret (.and [.cmp (.wx 11) [.eq] [.list [.wx 4,.wx 8,.wx 9]],.cmp (.call "walked" [.idx (.wx 11) (.ww 0),.idx (.wx 11) (.ww 1),.idx (.wx 11) (.ww 2),.wx 10]) [.eq] [.wx 14]])]
structure bH(c:Cx):Prop where
 p:gB c
 does:aM c "does_tell" 2 8 BQ
 ntell:aM c "need_telling" 2 2 E3
 walked:aM c "walked" 4 5 fL
 word:aM c "_law_word" 1 2 Dr
 tried:aM c "_law_tried" 4 5 I7
def I5{ok:Hp->Prop}{W:Loc->(V->Hp->Prop)->Hp->Prop}{f g:α->V}{xs:List α}{Q:List V->Hp->Prop}(hok:∀H',aa [] H H'->ok H')(he:∀x∈xs,∀H' (K:V->Hp->Prop),aa [] H H'->(∀H'',aa [] H' H''->K (g x) H'')->ae (gA t (f x) l) fun l'=>W l' K H')(hq:∀H',aa [] H H'->Q (xs.map g) H') :
  gH ok (kG (fun l' Q H=>Q true H) W t l) (xs.map f) [] Q H:=by
 refine vn (I:=fun j acc H2=>aa [] H H2/\acc=(xs.take j).map g) ?_ ?_ ⟨.refl,rfl⟩
 ·rintro j x acc H2 K hx ⟨st,rfl⟩ hK;rw[br] at hx;revert hx;refine xM fun y hy wj=>?_;subst wj;refine xI (fun l' h1 h2=>?_) (he y (bG hy) H2 (fun v H=>K ((xs.take j).map g++[v]) H) st fun H'' st2=>hK _ _ (hok _ (st.trans0 st2)) ⟨st.trans0 st2,by rw[List.take_add_one,hy,bT];rfl⟩);exact ae.mk h1 h2
 ·rintro acc H2 ⟨st,rfl⟩;rw[ao,List.take_length];exact hq _ st
def Fv(F:bH c){w:V}(hv:bZ v .list=some false\/∃a xs,v=.lst a/\H[a]?=some xs/\¬(1<=xs.length/\xs.length<=20))(hc:q=true)(hq:E (.exc "BadThing" .none) H):Calls c q (d+1) "walked" [z,v,w,u] none Q E H:=by
 subst hc;have hq':dZ E (.exc "BadThing" (bQ (ar "BadThing") [V.str "a list of 1 to 20 maps is wanted"])) [some z,some v,some w,some u,none] H:=by
  rw[zG];exact hq
 refine F.walked true d _ Q E H rfl (Ss_go ?_);walk_at "";rcases hv with hv |⟨a,xs,rfl,ha,hb⟩
 ·refine ae.mk hv ?_;walk_at "";exact⟨rfl,hq'⟩
 ·walk_at "";refine ae.mk (c6 ha) ?_;walk_at "";refine bV (fun h1=>?_) (fun h1=>?_)
  ·refine pO (fun h2=>?_) (fun h2=>absurd ⟨c7.mp h1,c7.mp h2⟩ hb);exact zo hq'
  ·exact zo hq'
def Bm(F:bH c){w:V}(ha:H[a]?=some xs)(h1:1<=xs.length)(h2:xs.length<=20)(hp:∀x∈xs,ng x) (hy:xs.all eH=true->∀H',aa [] H H'->az (Calls c) true (d+2) none (fL.drop 1) QQ EE [some z,some (.lst a),some w,some u,none] H') (hn:xs.all eH=false->∀H',aa [] H H'->EE (.exc "BadThing" .none) [some z,some (.lst a),some w,some u,none] H') :
  az (Calls c) true (d+2) none fL QQ EE [some z,some (.lst a),some w,some u,none] H:=by
 refine Ss_go ?_;walk_at "";refine ae.mk (c6 ha) ?_;walk_at "";refine vJ (c7.mpr h1) ?_;refine pO (fun h=>absurd (c7.mpr h2) h) (fun J=>?_);walk_at "";refine ae.mk (gu ha) ⟨dU (by exact aj [_] [] kaa (Y1 V0 (.l 100000)) (Y0 V0 (.l 20)) h2),?_⟩;have key:=I5 (H:=H) (l:=[some z,some (.lst a),some w,some u,none]) (ok:=gx (.lst a) xs) (t:=.one 4) (f:=id) (g:=fun x=>V.bool (eH x)) (xs:=xs) (W:=fun l' Q H=>ae (l'.getD 4 none) fun v=>Calls c true (d+2) "is_map" [v] none Q fo H) (Q:=fun acc H'=>ae (ba (H'++[acc]) .all [.lst H'.length]) fun p=>fp (fun b H=>d6 (!b) (az (Calls c) true (d+2) none [.rais "BadThing" [(.lit (.str "a list of 1 to 20 maps is wanted"))]] (cu (az (Calls c) true (d+2) none (fL.drop 1) QQ EE) QQ) EE [some z,some (.lst a),some w,some u,none] H) (az (Calls c) true (d+2) none [] (cu (az (Calls c) true (d+2) none (fL.drop 1) QQ EE) QQ) EE [some z,some (.lst a),some w,some u,none] H)) p.1 p.2) (fun H' st=>aC st ha) (fun x hx H' K st hK=>?_) fun H1 st1=>?_
 ·rw[List.map_id] at key;exact key
 ·walk_at "";exact En F.p.ismap F.p.chk.among (hp x hx) rfl hK
 ·refine ae.mk (vq (f:=eH) (zs:=xs) aQ) ?_;have s2:=st1.app (xs:=xs.map fun x=>V.bool (eH x));generalize H1++[xs.map fun x=>V.bool (eH x)]=H2 at s2;refine xD (xs.all eH) (fun e=>?_) fun e=>?_
  ·exact hy e H2 s2
  ·refine Ss_go ?_;walk_at "";refine⟨rfl,?_⟩;show EE (.exc "BadThing" (bQ _ _)) _ _;rw[zG];exact hn e H2 s2
theorem Ed(h:eH x=true):∃l,x=.tup l:=by
 cases x with
 |tup l=>exact⟨l,rfl⟩
 |_=>injection h
def Fh{x0 w:V}(ha:H[a]?=some xs)(h0:xs[0]?=some x0)(h2:xs.length<=20)(hm:∀x∈xs,eH x=true) (hy:(xs.all fun x=>decide ((eW x:Int)=eW x0))=true->∀H',aa [] H H'->az (Calls c) true d none (fL.drop 2) QQ EE [some z,some (.lst a),some w,some u,none] H') (hn:(xs.all fun x=>decide ((eW x:Int)=eW x0))=false->∀H',aa [] H H'->EE (.exc "BadThing" .none) [some z,some (.lst a),some w,some u,none] H') :
  az (Calls c) true d none (fL.drop 1) QQ EE [some z,some (.lst a),some w,some u,none] H:=by
 refine Ss_go ?_;walk_at "";refine ae.mk (gu ha) ⟨dU (by exact aj [_] [] kaa (Y1 V0 (.l 100000)) (Y0 V0 (.l 20)) h2),?_⟩;obtain⟨l0,rfl⟩:=Ed (hm x0 (bG h0));have key:=iA (ok:=gx (.lst a) xs) (l:=[some z,some (.lst a),some w,some u,none]) (t:=.one 4) (f:=id) (g:=fun x=>V.bool (decide ((eW x:Int)=eW (.tup l0)))) (xs:=xs) (W:=fun l' Q H=>ae (l'.getD 4 none) fun v=>ae (ba H .len [v]) fun p=>ae (l'.getD 1 none) fun v=>ae (cA p.2 v (.int 0)) fun v=>ae (ba p.2 .len [v]) fun p_1=>ae (dh p_1.2 .eq p.1 p_1.1) fun b=>Q (.bool b) p_1.2) (H:=H) (Q:=fun acc H'=>ae (ba (H'++[acc]) .all [.lst H'.length]) fun p=>fp (fun b H=>d6 (!b) (az (Calls c) true d none [.rais "BadThing" [(.lit (.str "maps of unlike lengths"))]] (cu (az (Calls c) true d none (fL.drop 2) QQ EE) QQ) EE [some z,some (.lst a),some w,some u,none] H) (az (Calls c) true d none [] (cu (az (Calls c) true d none (fL.drop 2) QQ EE) QQ) EE [some z,some (.lst a),some w,some u,none] H)) p.1 p.2) ha (fun x hx K hK=>?_) ?_
 ·rw[List.map_id] at key;exact key
 ·obtain⟨l,rfl⟩:=Ed (hm x hx);refine ae.mk rfl ?_;walk_at "";refine ae.mk Fk ?_;walk_at "";refine ae.mk (cZ (i:=0) ha h0) ?_;refine ae.mk Fk ?_;walk_at "";exact hK
 ·refine ae.mk (vq (f:=fun x=>decide ((eW x:Int)=eW (.tup l0))) (zs:=xs) aQ) ?_;have s2:=(aa.refl (S:=[]) (H:=H)).app (xs:=xs.map fun x=>V.bool (decide ((eW x:Int)=eW (.tup l0))));generalize H++[xs.map fun x=>V.bool (decide ((eW x:Int)=eW (.tup l0)))]=H2 at s2;refine xD (xs.all fun x=>decide ((eW x:Int)=eW (.tup l0))) (fun e=>?_) fun e=>?_
  ·exact hy e H2 s2
  ·refine Ss_go ?_;walk_at "";refine⟨rfl,?_⟩;show EE (.exc "BadThing" (bQ _ _)) _ _;rw[zG];exact hn e H2 s2
structure cC(w:Nat)(ms:List (List Nat)):Prop where
 len:1<=ms.length/\ms.length<=20
 wid:1<=w/\w<=8
 ok:∀m∈ms,dT w m
def vM(h:dT w m):eW (mv m)=w:=by show(m.map nat).length=w;rw[ao];exact h.1
def cC.first(T:cC w ms):∃m,ms[0]?=some m/\dT w m:=by
 have h:=T.len.1;exact⟨ms[0],bt h,T.ok _ (List.getElem_mem h)⟩
def zA(F:bH c){w:V}(T:cC wd ms)(ha:H[a]?=some (ms.map mv)) (h:∀H',aa [] H H'->az (Calls c) true (d+2) none (fL.drop 2) QQ EE [some z,some (.lst a),some w,some u,none] H') :
  az (Calls c) true (d+2) none fL QQ EE [some z,some (.lst a),some w,some u,none] H:=by
 have hm:∀x∈ms.map mv,eH x=true:=fun x hx=>by revert hx;refine xL fun m hm wj=>?_;subst wj;exact zC (T.ok m hm) T.wid.1 T.wid.2
 have hall:(ms.map mv).all eH=true:=dg.mpr hm;obtain⟨m0,h0,jn⟩:=T.first;refine Bm F ha (by rw[ao];exact T.len.1) (by rw[ao];exact T.len.2) (fun x hx=>by revert hx;refine xL fun m hm wj=>?_;subst wj;exact xm (T.ok m hm) T.wid.2) (fun J H1 s1=>?_) (fun e=>by rw[hall] at e;injection e);refine Fh (aC s1 ha) (x0:=mv m0) (by rw[br,h0];rfl) (by rw[ao];exact T.len.2) hm (fun J H2 s2=>h H2 (s1.trans0 s2)) (fun e=>?_);have:((ms.map mv).all fun x=>decide ((eW x:Int)=eW (mv m0)))=true:=dg.mpr fun x hx=>by revert hx;refine xL fun m hm wj=>?_;subst wj;rw[vM (T.ok m hm),vM jn];exact decide_eq_true rfl
 rw[this] at e;injection e
def Fo{w:V}(hw:bZ w .list=some false\/∃b ys,w=.lst b/\H[b]?=some ys/\¬(1<=ys.length/\ys.length<=64))(hq:EE (.exc "BadLines" .none) [some z,some (.lst a),some w,some u,none] H) :
  az (Calls c) true d none (fL.drop 2) QQ EE [some z,some (.lst a),some w,some u,none] H:=by
 have hq':EE (.exc "BadLines" (bQ (ar "BadLines") [V.str "a list of 1 to 64 signs is wanted"])) [some z,some (.lst a),some w,some u,none] H:=by
  rw[Du];exact hq
 refine Ss_go ?_;walk_at "";rcases hw with hv |⟨a,xs,rfl,ha,hb⟩
 ·refine ae.mk hv ?_;walk_at "";exact⟨rfl,hq'⟩
 ·walk_at "";refine ae.mk (c6 ha) ?_;walk_at "";refine bV (fun h1=>?_) (fun h1=>?_)
  ·refine pO (fun h2=>?_) (fun h2=>absurd ⟨c7.mp h1,c7.mp h2⟩ hb);exact zo hq'
  ·exact zo hq'
def Ay(F:bH c)(ha:H[a]?=some xs)(hb:H[b]?=some ys)(h1:1<=ys.length)(h2:ys.length<=64)(hk:∀y∈ys,(kd y).isSome=true) (hy:(ys.all (cG 0 ((xs.length:Int)-1)))=true->∀H',aa [] H H'->az (Calls c) true (d+1) none (fL.drop 4) QQ EE [some z,some (.lst a),some (.lst b),some u,none] H') (hn:(ys.all (cG 0 ((xs.length:Int)-1)))=false->∀H',aa [] H H'->EE (.exc "BadLines" .none) [some z,some (.lst a),some (.lst b),some u,none] H') :
  az (Calls c) true (d+1) none (fL.drop 2) QQ EE [some z,some (.lst a),some (.lst b),some u,none] H:=by
 refine Ss_go ?_;walk_at "";refine ae.mk (c6 hb) ?_;walk_at "";refine vJ (c7.mpr h1) ?_;refine pO (fun h=>absurd (c7.mpr h2) h) (fun J=>?_);walk_at "";refine ae.mk (gu hb) ⟨dU (by exact aj [_] [] kaa (Y1 V0 (.l 100000)) (Y0 V0 (.l 64)) h2),?_⟩;have key:=iA (ok:=gx (.lst b) ys) (l:=[some z,some (.lst a),some (.lst b),some u,none]) (t:=.one 4) (f:=id) (g:=fun x=>V.bool (cG 0 ((xs.length:Int)-1) x)) (xs:=ys) (W:=fun l' Q H=>ae (l'.getD 4 none) fun v=>ae (l'.getD 1 none) fun v_1=>ae (ba H .len [v_1]) fun p=>ae (bL p.2 .sub p.1 (.int 1)) fun p=>Calls c true (d+1) "is_among" [v,.int 0,p.1] none Q fo p.2) (H:=H) (Q:=fun acc H'=>ae (ba (H'++[acc]) .all [.lst H'.length]) fun p=>fp (fun b' H=>d6 (!b') (az (Calls c) true (d+1) none [.rais "BadLines" [(.lit (.str "a sign of the table is wanted"))]] (cu (az (Calls c) true (d+1) none (fL.drop 4) QQ EE) QQ) EE [some z,some (.lst a),some (.lst b),some u,none] H) (az (Calls c) true (d+1) none [] (cu (az (Calls c) true (d+1) none (fL.drop 4) QQ EE) QQ) EE [some z,some (.lst a),some (.lst b),some u,none] H)) p.1 p.2) hb (fun x hx K hK=>?_) ?_
 ·rw[List.map_id] at key;exact key
 ·refine ae.mk rfl ?_;walk_at "";refine ae.mk (c6 ha) ?_;walk_at "";exact wO F.p.chk.among (hk x hx) hK
 ·refine ae.mk (vq (f:=cG 0 ((xs.length:Int)-1)) (zs:=ys) aQ) ?_;have s2:=(aa.refl (S:=[]) (H:=H)).app (xs:=ys.map fun x=>V.bool (cG 0 ((xs.length:Int)-1) x));generalize H++[ys.map fun x=>V.bool (cG 0 ((xs.length:Int)-1) x)]=H2 at s2;refine xD (ys.all (cG 0 ((xs.length:Int)-1))) (fun e=>?_) fun e=>?_
  ·exact hy e H2 s2
  ·refine Ss_go ?_;walk_at "";refine⟨rfl,?_⟩;show EE (.exc "BadLines" (bQ _ _)) _ _;rw[Du];exact hn e H2 s2
def DA(F:bH c)(T:cC wd ms)(ha:H[a]?=some (ms.map mv))(hk:(kd u).isSome=true) (hy:cG 0 ((wd:Int)-1) u=true->az (Calls c) true (d+1) none (fL.drop 5) QQ EE [some z,some (.lst a),some (.lst b),some u,none] H) (hn:cG 0 ((wd:Int)-1) u=false->EE (.exc "BadThing" .none) [some z,some (.lst a),some (.lst b),some u,none] H) :
  az (Calls c) true (d+1) none (fL.drop 4) QQ EE [some z,some (.lst a),some (.lst b),some u,none] H:=by
 obtain⟨m0,h0,jn⟩:=T.first;refine Ss_go ?_;walk_at "";refine ae.mk (cZ (i:=0) ha (x:=mv m0) (by rw[br,h0];rfl)) ?_;refine ae.mk (show dp true (ba H .len [mv m0])=some (.int wd,H) by show some (V.int (m0.map nat).length,H)=_;rw[ao,jn.1]) ?_;walk_at "";refine wO F.p.chk.among hk ?_;refine xD (cG 0 ((wd:Int)-1) u) (fun e=>?_) fun e=>?_
 ·exact hy e
 ·refine Ss_go ?_;walk_at "";refine⟨rfl,?_⟩;show EE (.exc "BadThing" (bQ _ _)) _ _;rw[zG];exact hn e
noncomputable def iy(ms:List (List Nat))(ws:List Nat)(k:Nat):List Nat:=ms.getD (ws.getD k 0) []
noncomputable def md(ms:List (List Nat))(ws:List Nat)(r n:Nat):List Nat:=(List.range n).map fun x=>ij (iy ms ws) r (List.range (x+1))
structure cg(n s:Nat)(ws:List Nat):Prop where
 len:ws.length=n
 lt:∀x∈ws,x<s
def cg.get(W:cg n s ws)(hk:k<n):ws[k]?=some (ws.getD k 0)/\ws.getD k 0<s:=by
 have h:k<ws.length:=W.len.symm▸hk;have e:ws[k]?=some (ws.getD k 0):=by rw[b7,bt h];rfl
 exact⟨e,W.lt _ (bG e)⟩
def zE(h:k<ms.length):ms[k]?=some (ms.getD k []):=by rw[b7,bt h];rfl
def zP(T:cC w ms)(W:cg n ms.length ws):gC w n (iy ms ws):=fun k hk=>T.ok _ (bG (zE (W.get hk).2))
def B7(W:cg n s ws):((ws.map nat).all (cG 0 ((s:Int)-1)))=true:=dg.mpr fun x hx=>by
 revert hx;refine xL fun y hy wj=>?_;subst wj;have:=W.lt y hy;exact decide_eq_true (by exact aj [_,_] [] kag (Y6 (Y3 J0 (Y4 V0 J0)) (Y3 (Y4 V0 J0) (Y2 (Y4 V1 J0) J1))) (Y1 V0 V1) this)
def Al{xs:List Nat}:∀x∈xs.map nat,(kd x).isSome=true:=fun x hx=>by revert hx;refine xL fun y J wj=>?_;subst wj;rfl
def EB(h:r<w):cG 0 ((w:Int)-1) (.int r)=true:=decide_eq_true (by exact aj [_,_] [] kag (Y6 (Y3 J0 (Y4 V0 J0)) (Y3 (Y4 V0 J0) (Y2 (Y4 V1 J0) J1))) (Y1 V0 V1) h)
def Cn(F:bH c){m:Nat}{net:Net}(A:ag H m bs net)(ok:gk n net)(T:cC w ms)(W:cg n ms.length ws)(ha:H[a]?=some (ms.map mv))(hb:H[b]?=some (ws.map nat))(hr:r<w)(hn:1<=n/\n<=64)(hc:q=true) (hq:c8 n net=true->∀t H',gT H t ((md ms ws r n).map nat) H'->Q (.lst t) H') (hE:c8 n net=false->∀H',aa [] H H'->E (.exc "NoNet" .none) H'):Calls c q (d+7) "walked" [.lst m,.lst a,.lst b,.int r] none Q E H:=by
 subst hc;refine F.walked true (d+6) _ Q E H rfl (zA (d:=d+4) F T ha fun H1 s1=>Ay (d:=d+5) F (aC s1 ha) (aC s1 hb) (by rw[ao,W.len];exact hn.1) (by rw[ao,W.len];exact hn.2) Al (fun J H2 s2=>?_) (fun e=>by rw[ao,B7 W] at e;injection e));have s12:=s1.trans0 s2;refine DA (d:=d+5) F T (aC s12 ha) rfl (fun J=>?_) (fun e=>by rw[EB hr] at e;injection e);refine Ss_go ?_;walk_at "";refine ae.mk (c6 (aC s12 hb)) ?_;rw[ao,W.len];walk_at "";refine qP (d:=d+1) F.ntell F.does F.p.chk (A.grow s12) hn ok rfl (fun ht H3 s3=>?_) (fun ht H3 s3=>hE ht _ (s12.trans0 s3));have s13:=s12.trans0 s3;walk_at "";refine ae.mk (gu (aC s13 hb)) ⟨dU (by rw[ao,W.len];exact aj [_] [] kaa (Y1 V0 (.l 100000)) (Y0 V0 (.l 64)) hn.2),?_⟩;have e1:ws.map nat=(List.range n).map fun k=>nat (ws.getD k 0):=by
  have:=congrArg (List.map nat) (Kt ws);rw[d8,W.len] at this;exact this.symm
 have kb:=aC s13 hb;rw[e1] at kb ⊢;refine iA (f:=fun k=>nat (ws.getD k 0)) (g:=fun k=>mv (iy ms ws k)) kb (fun k hk K hK=>?_) ?_
 ·have hk:=gY.mp hk;unfold nat;walk_at "";exact ae.mk (cZ (aC s13 ha) (by rw[br,zE (W.get hk).2];rfl)) hK
 have t4:=(aa.refl (S:=[]) (H:=H3)).app (xs:=(List.range n).map fun k=>mv (iy ms ws k));have k4:(H3++[(List.range n).map fun k=>mv (iy ms ws k)])[H3.length]?=some (mL n (iy ms ws)):=aQ;generalize H3++[(List.range n).map fun k=>mv (iy ms ws k)]=H4 at t4 k4;generalize H3.length=t at k4;walk_at "";refine uR F.p (A.grow (s13.trans0 t4)) k4 hn ok (zP T W) T.wid.1 T.wid.2 rfl fun g H5 N5=>?_;refine ae.mk (gu N5.hold) ⟨dU (by rw[rA];exact aj [_] [] kaa (Y1 V0 (.l 100000)) (Y0 V0 (.l 64)) hn.2),?_⟩;refine iA (f:=fun x=>mv (aY jM net (iy ms ws) x)) (g:=fun x=>nat (ij (iy ms ws) r (List.range (x+1)))) N5.hold (fun x hx' K hK=>?_) ?_
 ·obtain⟨o,e,_⟩:=JX (zP T W) ok.fair ht (gY.mp hx');rw[<- e r hr] at hK;walk_at "";exact ae.mk (qM (CJ (o.1.symm▸hr))) hK
 walk_at "";have s5:=(s13.trans0 t4).trans0 N5.st;refine hq ht _ _ ⟨s5.app,?_,s5.len⟩;rw[aQ,md,d8];rfl
def Ge(F:bH c){w r:V}(h:∀{K:V->Hp->Prop}{X:XPost},(∀r H',Q (.tup [r]) H'->K r H')->(∀z H',ez Q z H'->X z H')->Calls c true (d+1) "walked" [v,w,u,r] none K X H)(hc:q=true):Calls c q (d+2) "_law_tried" [v,w,u,r] none Q E H:=by
 subst hc;refine F.tried true (d+1) _ Q E H rfl (Ss_go ?_);walk_at "";refine⟨rfl,?_⟩;refine Ss_go ?_;walk_at "";refine h (fun r H' h=>?_) (fun z H' h=>?_)
 ·exact h
 ·obtain⟨h1,h2⟩:=mQ (q:=false) (d:=d) (E:=fun J J=>False) F.word h;refine⟨h1,?_⟩;refine Ss_go ?_;walk_at "";exact h2
def nR(c:Cx)(v w u r:V)(W:List V)(H:Hp):Prop:=∀{d:Nat}{Q:V->Hp->Prop}{E:XPost}{H':Hp},aa [] H H'->(∀a H1 H2,aa [] H' H1->gT H1 a W H2->Q (.lst a) H2)->Calls c true (d+9) "_law_tried" [v,w,u,r] none Q E H'
def w6(F:bH c){w r:V}{W:List V}(D:cw z W)(h:∀{d:Nat}{K:V->Hp->Prop}{X:XPost}{H':Hp},aa [] H H'->(∀H1,aa [] H' H1->X z H1)->Calls c true (d+8) "walked" [v,w,u,r] none K X H'):nR c v w u r W H:=by
 intro d Q E H' st hq;exact Ge (d:=d+7) F (fun hK hX=>h st fun H1 st1=>hX _ _ (D.word fun a H2 N=>hq a H1 H2 st1 N)) rfl
inductive bu(H:Hp):V->Prop
 |no {v:V}(h:bZ v .list=some false):bu H v
 |len {a:Nat}{xs:List V}(h:H[a]?=some xs)(hb:¬(1<=xs.length/\xs.length<=20)):bu H (.lst a)
 |item {a:Nat}{xs:List V}(h:H[a]?=some xs)(hb:1<=xs.length/\xs.length<=20)(hp:∀x∈xs,ng x)(hm:∃x∈xs,eH x=false):bu H (.lst a)
 |wide {a:Nat}{xs:List V}{x0:V}(h:H[a]?=some xs)(hb:1<=xs.length/\xs.length<=20)(hp:∀x∈xs,ng x/\eH x=true)(h0:xs[0]?=some x0)(hm:∃x∈xs,eW x≠eW x0):bu H (.lst a)
theorem bu.grow(h:bu H v)(st:aa [] H H'):bu H' v:=by
 cases h with
 |no h=>exact .no h
 |len h hb=>exact .len (aC st h) hb
 |item h hb hp hm=>exact .item (aC st h) hb hp hm
 |wide h hb hp h0 hm=>exact .wide (aC st h) hb hp h0 hm
theorem qF(F:bH c){w r:V}(h:bu H v):nR c w v u r [.str "thing"] H:=
 w6 F .thing fun{d} {K} {X} {H'} st hX=>by
  have hb:=h.grow st;clear h;cases hb with
  |no h=>exact Fv F (.inl h) rfl (hX _ .refl)
  |len h hb=>exact Fv F (.inr ⟨_,_,rfl,h,hb⟩) rfl (hX _ .refl)
  |item h hb hp hm=>
   refine F.walked true (d+7) _ _ _ _ rfl (Bm (d:=d+5) F h hb.1 hb.2 hp (fun e=>?_) (fun J H1 s1=>hX H1 s1));obtain⟨x,hx,hxm⟩:=hm;exact absurd (dg.mp e x hx) (by rw[hxm];exact Bool.false_ne_true)
  |wide h hb hp h0 hm=>
   refine F.walked true (d+7) _ _ _ _ rfl (Bm (d:=d+5) F h hb.1 hb.2 (fun x hx=>(hp x hx).1) (fun J H1 s1=>?_) (fun J H1 s1=>hX H1 s1));refine Fh (aC s1 h) h0 hb.2 (fun x hx=>(hp x hx).2) (fun e=>?_) (fun J H2 s2=>hX H2 (s1.trans0 s2));obtain⟨x,hx,hxm⟩:=hm;exact absurd (Int.ofNat.inj (of_decide_eq_true (dg.mp e x hx))) hxm
inductive cK(s:Nat)(H:Hp):V->Prop
 |no {v:V}(h:bZ v .list=some false):cK s H v
 |len {a:Nat}{xs:List V}(h:H[a]?=some xs)(hb:¬(1<=xs.length/\xs.length<=64)):cK s H (.lst a)
 |item {a:Nat}{xs:List V}(h:H[a]?=some xs)(hb:1<=xs.length/\xs.length<=64)(hp:∀x∈xs,(kd x).isSome=true)(hm:∃x∈xs,cG 0 ((s:Int)-1) x=false):cK s H (.lst a)
theorem cK.grow(h:cK s H v)(st:aa [] H H'):cK s H' v:=by
 cases h with
 |no h=>exact .no h
 |len h hb=>exact .len (aC st h) hb
 |item h hb hp hm=>exact .item (aC st h) hb hp hm
theorem j8(F:bH c){w r:V}(T:cC wd ms)(ha:H[a]?=some (ms.map mv))(h:cK ms.length H u):nR c w (.lst a) u r [.str "lines"] H:=
 w6 F .lines fun{d} {K} {X} {H'} st hX=>by
  refine F.walked true (d+7) _ _ _ _ rfl (zA (d:=d+5) F T (aC st ha) fun H1 s1=>?_);have hb:=(h.grow st).grow s1;clear h;cases hb with
  |no h=>exact Fo (.inl h) (hX _ s1)
  |len h hb=>exact Fo (.inr ⟨_,_,rfl,h,hb⟩) (hX _ s1)
  |item h hb hp hm=>
   refine Ay (d:=d+6) F (aC (st.trans0 s1) ha) h hb.1 hb.2 hp (fun e=>?_) (fun J H2 s2=>hX H2 (s1.trans0 s2));obtain⟨x,hx,hxm⟩:=hm;rw[ao] at e;exact absurd (dg.mp e x hx) (by rw[hxm];exact Bool.false_ne_true)
def jZ(F:bH c){w r:V}(T:cC wd ms)(ha:H[a]?=some (ms.map mv))(W:cg n ms.length ws)(hn:1<=n/\n<=64)(hb:H[b]?=some (ws.map nat))(hk:(kd r).isSome=true)(hr:cG 0 ((wd:Int)-1) r=false):nR c w (.lst a) (.lst b) r [.str "thing"] H:=
 w6 F .thing fun{d} {K} {X} {H'} st hX=>by
  refine F.walked true (d+7) _ _ _ _ rfl (zA (d:=d+5) F T (aC st ha) fun H1 s1=>Ay (d:=d+6) F (aC (st.trans0 s1) ha) (aC (st.trans0 s1) hb) (by rw[ao,W.len];exact hn.1) (by rw[ao,W.len];exact hn.2) Al (fun J H2 s2=>?_) (fun e=>by rw[ao,B7 W] at e;injection e));exact DA (d:=d+6) F T (aC (st.trans0 (s1.trans0 s2)) ha) hk (fun e=>by rw[hr] at e;injection e) (fun J=>hX H2 (s1.trans0 s2))
def jv(F:bH c){m:Nat}{net:Net}(A:ag H m bs net)(ok:gk n net)(ht:c8 n net=false)(T:cC w ms)(W:cg n ms.length ws)(ha:H[a]?=some (ms.map mv))(hb:H[b]?=some (ws.map nat))(hr:r<w)(hn:1<=n/\n<=64):nR c (.lst m) (.lst a) (.lst b) (.int r) [.str "none"] H:=
 w6 F .none fun{d} {K} {X} {H'} st hX=>Cn (d:=d+1) F (A.grow st) ok T W (aC st ha) (aC st hb) hr hn rfl (fun h=>by rw[ht] at h;injection h) fun J H1 st1=>hX H1 st1
def pX(F:bH c){m:Nat}{net:Net}(A:ag H m bs net)(hz:net.length<=80)(hi:net[i]?=some [(0,n)])(ok:∀j y,net[j]?=some y->j=i\/cm n y)(T:cC w ms)(W:cg n ms.length ws)(ha:H[a]?=some (ms.map mv))(hb:H[b]?=some (ws.map nat))(hr:r<w)(hn:1<=n/\n<=64):nR c (.lst m) (.lst a) (.lst b) (.int r) [.str "net",.int i] H:=
 w6 F (.net i) fun{d} {K} {X} {H'} st hX=>by
  refine F.walked true (d+7) _ _ _ _ rfl (zA (d:=d+5) F T (aC st ha) fun H1 s1=>Ay (d:=d+6) F (aC (st.trans0 s1) ha) (aC (st.trans0 s1) hb) (by rw[ao,W.len];exact hn.1) (by rw[ao,W.len];exact hn.2) Al (fun J H2 s2=>?_) (fun e=>by rw[ao,B7 W] at e;injection e));have s12:=s1.trans0 s2;refine DA (d:=d+6) F T (aC (st.trans0 s12) ha) rfl (fun J=>?_) (fun e=>by rw[EB hr] at e;injection e);refine Ss_go ?_;walk_at "";refine ae.mk (c6 (aC (st.trans0 s12) hb)) ?_;rw[ao,W.len];walk_at "";refine F.ntell true (d+6) _ _ _ _ rfl (Ss_go ?_);walk_at "";refine lL (d:=d+2) F.p.chk hn (A.grow (st.trans0 s12)) rfl (fun y hy=>?_) (fun h=>absurd h (fN.mpr hz)) (fun J h=>?_) (fun j hj hl J=>?_)
  ·obtain⟨j,hj⟩:=List.mem_iff_getElem?.mp hy;rcases ok j y hj with rfl |h
   ·rw[hi] at hj;exact .inr (ai hj).symm
   ·exact .inl h
  ·exact absurd (h _ (bG hi)).2.2.1 (d4 _)
  ·rcases ok j _ hj with rfl |h
   ·exact hX H2 s12
   ·exact absurd h.2.2.1 (d4 _)
def wB(H:Hp)(n i:Nat)(x0:Loc)(H':Hp):Prop:=∀GJ:Prop,(∀(cl:Int),∀(v3:Option V),∀(xs:List Nat),(H'[H.length]?=some (xs.map nat))->(xs.length=i)->(∀x∈xs,x<n)->aa [] H H'->[some (.int cl),some (.int n),some (.lst H.length),v3]=x0->GJ)->GJ
def pH(P:aM c "_law_map" 2 4 Gp){cell:Int}(hn:1<=n/\n<=8)(hc:q=true)(hq:∀m H',aa [] H H'->dT n m->Q (mv m) H'):Calls c q (d+1) "_law_map" [.int cell,.int n] none Q E H:=by
 subst hc;refine P true d _ Q E H rfl (Ss_go ?_);walk_at "";refine⟨rfl,iB (v:=.rng 0 (n:Int) 1) (items:=(List.range n).map nat) (fun K E' h=>by walk_at "";exact ae.mk (nw (by exact aj [_] [] kaa (Y1 V0 (.l 100000)) (Y0 V0 (.l 8)) hn.2)) h) (congrArg some (qT _)) ?_⟩;have hn0:(0:Int)<n:=bP.mpr hn.1;refine uE (wB H n) ?_ ?_ (fun J kJ=>kJ _ _ [] aQ rfl (fun J h=>nomatch h) aa.refl.app rfl)
 ·intro i x l' H' K hx hI hnext hret;refine hI _ fun cl v3 xs hf hl fx st wg=>?_;clear hI;subst wg;have hi:=dE hx;rw[ao,di] at hi;walk_at "";refine vf rfl ?_;walk_at "";refine fP (by decide) ?_;walk_at "";refine⟨rfl,?_⟩;refine rT (by decide) ?_;walk_at "";refine fP hn0 ?_;obtain⟨j,hj⟩:=wV (x:=cl*16807%2147483647/64) hn0;have hj2:j<n:=bP.mp (hj▸Int.emod_lt_of_pos _ hn0);rw[hj];refine ae.mk (kY hf (by rw[ao];exact bo [_,_,_] [] kai (Y1 V0 (.l 10000)) (Y0 V1 (.l 8)) (Y2 V0 V2) (Y1 V2 V1) hn.2 hl hi)) ?_;walk_at "";refine hnext _ _ trivial (fun J kJ=>kJ _ _ (xs++[j]) (by rw[bT];exact jg hf) (by rw[bw,hl];rfl) (fun y hy=>(bJ.mp hy).elim (fx y) fun e=>by rw[aN.mp e];exact hj2) (st.set (.inr (aJ _))) rfl)
 ·intro l' H' hI;refine hI _ fun cl v3 xs hf hl fx st wg=>?_;clear hI;subst wg;rw[ao,di] at hl;walk_at "";refine ae.mk (Aa hf) ?_;walk_at "";exact hq xs _ st ⟨hl,fx⟩
def Bw(hn:n<100000):bL H .mul (.tup [x]) (.int n)=some (.tup (List.replicate n x),H):=by
 have h2:(n:Int).toNat*[x].length<=qag:=by
  rw[jV];exact aD (eR (Nat.mul_one n)) (bO (cN hn (by decide)))
 refine(if_pos ⟨⟨iS n,c7.mpr (aD (bO hn) (by decide)),h2⟩,fun h=>nomatch h⟩).trans ?_;rw[jV,zZ]
theorem sf(h:H[a]?=some xs)(hn:xs.length<1000):∃ys,bL H .mul (.lst a) (.int 21)=some (.lst H.length,H++[ys])/\ys.length=21*xs.length:=by
 refine⟨rep xs 21,?_,?_⟩
 ·show(H[a]?).bind _=_;rw[h];exact if_pos ⟨by decide,by decide,aD (Nat.mul_le_mul (aJ 21) (bO hn)) (by decide)⟩
 ·show(xs++(xs++(xs++(xs++(xs++(xs++(xs++(xs++(xs++(xs++(xs++(xs++(xs++(xs++(xs++(xs++(xs++(xs++(xs++(xs++(xs++[]))))))))))))))))))))).length=_;simp only[bw,List.length_nil];exact bp [_] [] kac (Y2 (Y0 V0 (Y0 V0 (Y0 V0 (Y0 V0 (Y0 V0 (Y0 V0 (Y0 V0 (Y0 V0 (Y0 V0 (Y0 V0 (Y0 V0 (Y0 V0 (Y0 V0 (Y0 V0 (Y0 V0 (Y0 V0 (Y0 V0 (Y0 V0 (Y0 V0 (Y0 V0 (Y0 V0 J0))))))))))))))))))))) (Y1 (.l 21) V0))
def jz{l:List V}(h:l.length<=qag):dp true (ba H .list [.tup l])=some (.lst H.length,H++[l]):=if_pos h
def kR (h : m.length < 1000) : bL H .add (mv m) (.tup [.int 0]) = some (mv (m ++ [0]), H) := by
 refine (if_pos (show (m.map nat).length + 1 <= qag from ?_)).trans ?_
 ·rw [ao]; exact aD h (by decide)
 ·unfold mv; rw [bT]; rfl
def C3 (w : Nat) (m : List Nat) (j : Nat) (_ : Hp) (v : V) : Prop := j = 1 /\ v = mv (m ++ [0]) \/ j ≠ 1 /\ ng v /\ eH v = false
def Dz(hw:1<=w/\w<=8)(hk:(kd x).isSome=true)(hx:cG 0 ((w:Int)-1) x=false):ng (.tup (List.replicate w x))/\eH (.tup (List.replicate w x))=false:=by
 refine⟨⟨by rw[List.length_replicate];exact aD hw.2 (by decide),fun y hy=>by rw[List.eq_of_mem_replicate hy];exact hk⟩,?_⟩;show(_&&_)=false;rw[List.length_replicate,List.all_replicate,hx,if_neg (Nat.ne_of_gt hw.1),Bool.and_false]
def dT.more(h:dT w m):dT (w+1) (m++[0]):=⟨by rw[bw,h.1];rfl,fun i hi=>(bJ.mp hi).elim (fun h'=>Nat.lt_succ_of_lt (h.2 i h')) fun h'=>by rw[aN.mp h'];exact Nat.succ_pos _⟩
def Bv(h:dT 9 m):ng (mv m)/\eH (mv m)=false:=by
 refine⟨⟨by rw[ao,h.1];decide,fun x hx=>by revert hx;refine xL fun i J wj=>?_;subst wj;rfl⟩,?_⟩;show(decide (1<=(m.map nat).length/\(m.map nat).length<=8)&&_)=false;rw[ao,h.1];rfl
def lY(T:cC w ms)(hi:i<ms.length)(h:H[a]?=some ((ms.map mv).take i++[v]++(ms.map mv).drop (i+1)))(hv:ng v/\eH v=false):bu H (.lst a):=by
 have hl:=T.len;refine .item h (by rw[Bi (by rw[ao];exact bO hi),ao];exact ay [_,_] [] 0x30d04294a50006102003081201840600c2008000294a000c2038061010030800028c20004212800308000 (Y6 (Y0 J1 (Y0 (Y0 V0 J1) (Y2 V1 (Y0 V0 J1)))) (Y0 (Y0 (Y0 V0 J1) (Y2 V1 (Y0 V0 J1))) (.l 20))) (Y1 V0 V1) (Y0 V1 (.l 20)) hi hl.2) (fun x hx=>?_) ⟨v,AZ,hv.2⟩;rcases Cd hx with hx |rfl
 ·revert hx;refine xL fun m hm wj=>?_;subst wj;exact xm (T.ok m hm) T.wid.2
 ·exact hv.1
theorem lQ(T:cC w ms)(hw:w<8)(hi:ms[i]?=some m)(h:H[a]?=some ((ms.map mv).take i++[mv (m++[0])]++(ms.map mv).drop i)):bu H (.lst a):=by
 have hl:=T.len;have hil:=dE hi;have hm:=T.ok m (bG hi);have e:((ms.map mv).take i++[mv (m++[0])]++(ms.map mv).drop i).length=ms.length+1:=by
  rw[Bi (by rw[ao];exact bO hil),ao];exact aj [_,_] [] 0x1868214a000c204006100000014a000c20200610000500421194a000c20180610040500421 (Y2 (Y0 (Y0 V0 J1) (Y2 V1 V0)) (Y0 V1 J1)) (Y1 V0 V1) hil
 by_cases h20:ms.length=20
 ·exact .len h (by rw[e];exact aj [_] [] 0x210a500081010030802000000 (Y8 (Y6 (Y0 J1 (Y0 V0 J1)) (Y0 (Y0 V0 J1) (.l 20))) J0) (Y2 V0 (.l 20)) h20)
 ·have hp:∀x∈(ms.map mv).take i++[mv (m++[0])]++(ms.map mv).drop i,ng x/\eH x=true:=fun x hx=>by
   rcases Cd hx with hx |rfl
   ·revert hx;refine xL fun m' hm' wj=>?_;subst wj;exact⟨xm (T.ok m' hm') T.wid.2,zC (T.ok m' hm') T.wid.1 T.wid.2⟩
   ·exact⟨xm hm.more hw,zC hm.more (Nat.succ_pos _) hw⟩
  have ne:eW (mv m)≠eW (mv (m++[0])):=by rw[vM hm,vM hm.more];exact ck (Nat.lt_succ_self w)
  cases i with
  |zero=>exact .wide h (by rw[e];exact ay [_] [] kbs (Y6 (Y0 J1 (Y0 V0 J1)) (Y0 (Y0 V0 J1) (.l 20))) (Y0 V0 (.l 20)) (Y8 (Y2 V0 (.l 20)) J0) hl.2 h20) hp rfl ⟨mv m,iK _ (fg.mpr ⟨m,bG hi,rfl⟩),ne⟩
  |succ i=>
   obtain⟨m0,h0,jn⟩:=T.first;refine .wide (x0:=mv m0) h (by rw[e];exact ay [_] [] kbs (Y6 (Y0 J1 (Y0 V0 J1)) (Y0 (Y0 V0 J1) (.l 20))) (Y0 V0 (.l 20)) (Y8 (Y2 V0 (.l 20)) J0) hl.2 h20) hp ?_ ⟨_,AZ,by rw[vM jn,<-vM hm];exact ne.symm⟩;cases ms with
   |nil=>injection h0
   |cons m1 ms=>obtain rfl:=ai h0;rfl
def lh(F:aM c "_law_bad_table" 2 5 BU)(T:cC w ms)(ha:H[a]?=some (ms.map mv))(hc:q=true)(hq:∀v H',aa [] H H'->bu H' v->Q v H'):Calls c q (d+1) "_law_bad_table" [.lst a,.int cl] none Q E H:=by
 subst hc;refine F true d _ Q E H rfl (Ss_go ?_);walk_at "d";obtain⟨m0,h0,jn⟩:=T.first;have hl:=T.len;have hw:=T.wid;refine ae.mk (cZ (i:=0) ha (x:=mv m0) (by rw[br,h0];rfl)) ?_;refine ae.mk (show dp true (ba H .len [mv m0])=some (.int w,H) by show some (V.int (m0.map nat).length,H)=_;rw[ao,jn.1]) ?_;walk_at "g";walk_at "g";walk_at "d";refine fh (b:=16) (by decide) ?_;walk_at "d";refine ae.mk (c6 ha) ?_;rw[ao];refine eF (b:=ms.length) hl.1 ?_;have hi:cl/16%ms.length<ms.length:=Nat.mod_lt _ hl.1;generalize cl/16%ms.length=i at hi;have hm:=zE hi;generalize ms.getD i []=m at hm;have hm':(ms.map mv)[i]?=some (mv m):=by rw[br,hm];rfl
 have om:=T.ok m (bG hm);walk_at "g";walk_at "g";rw[S_set];have ti:∀{H'},aa [] H H'->cA H' (.lst a) (.int i)=some (mv m):=fun st=>cZ (aC st ha) hm';refine sH (P:=C3 w m) (j:=cl%8) (fun J J J J J h=>h) (.cons (fun H' K E st hK=>?_) (.cons (fun H' K E st hK=>?_) (.cons (fun H' K E st hK=>?_) (.cons (fun H' K E st hK=>?_) (.cons (fun H' K E st hK=>?_) (.lit (fun J=>.inr ⟨by decide,trivial,rfl⟩) (.cons (fun H' K E st hK=>?_) (.lit (fun J=>.inr ⟨by decide,show(ar "0").length<=10000 by decide,rfl⟩) .nil)))))))) (Nat.mod_lt _ (by decide)) (fun H' K st hK=>?_) fun v H1 s1 hv=>?_
 ·walk_at "d";refine ae.mk (ti st) ?_;exact ae.mk (jz (by rw[ao,om.1];exact aD hw.2 (by decide))) (hK _ _ aa.refl.app (.inr ⟨by decide,trivial,rfl⟩))
 ·walk_at "d";refine ae.mk (ti st) ?_;exact ae.mk (kR (by rw[om.1];exact aj [_] [] kaa (Y1 V0 (.l 1000)) (Y0 V0 (.l 8)) hw.2)) (hK _ _ .refl (.inl ⟨rfl,rfl⟩))
 ·walk_at "d";exact ae.mk (Bw (by exact aj [_] [] kaa (Y1 V0 (.l 100000)) (Y0 V0 (.l 8)) hw.2)) (hK _ _ .refl (.inr ⟨by decide,Dz hw rfl (tZ (by exact bp [_] [] 0x84280030802000000 (Y8 (Y6 (Y3 J0 (Y4 V0 J0)) (Y3 (Y4 V0 J0) (Y2 (Y4 V0 J0) J1))) J0)))⟩))
 ·walk_at "d";exact ae.mk (Bw (by exact aj [_] [] kaa (Y1 V0 (.l 100000)) (Y0 V0 (.l 8)) hw.2)) (hK _ _ .refl (.inr ⟨by decide,Dz hw rfl rfl⟩))
 ·walk_at "d";exact ae.mk (Bw (by exact aj [_] [] kaa (Y1 V0 (.l 100000)) (Y0 V0 (.l 8)) hw.2)) (hK _ _ .refl (.inr ⟨by decide,Dz hw rfl (tZ (by exact bp [_] [] 0x84280030800000000 (Y8 (Y6 (Y3 J0 (Y3 J1 J0)) (Y3 (Y3 J1 J0) (Y2 (Y4 V0 J0) J1))) J0)))⟩))
 ·exact hK _ _ .refl (.inr ⟨by decide,⟨by decide,fun J h=>nomatch h⟩,rfl⟩)
 ·walk_at "d";exact eF (b:=8) (by decide) hK
 have bad:ng v/\eH v=false->az (Calls c) true d none [.ret (.idx (.list [(.blt .tuple [(.var 0)]),(.list []),(.lit .none),(.bin .mul (.var 0) (.lit (.int 21))),(.bin .add (.bin .add (.slice (.var 0) (.lit .none) (.var 3)) (.list [(.var 4)])) (.slice (.var 0) (.bin .add (.var 3) (.lit (.int 1))) (.lit .none)))]) (.bin .mod (.bin .div (.var 1) (.lit (.int 8))) (.lit (.int 5))))] (cu (az (Calls c) true d none (BU.drop 4) (de Q) (dZ E)) (de Q)) (dZ E) [some (.lst a),some (.int cl),some (.int w),some (.int i),some v] H1:=fun hb=>by
  walk_at "g";rw[S_ret];refine sH (P:=fun J H v=>bu H v) (j:=cl/8%5) (fun J J J J st h=>h.grow st) (.cons (fun H' K E st hK=>?_) (.cons (fun H' K E st hK=>?_) (.lit (fun J=>.no rfl) (.cons (fun H' K E st hK=>?_) (.cons (fun H' K E st hK=>?_) .nil))))) (Nat.mod_lt _ (by decide)) (fun H' K st hK=>?_) fun v H2 s2 hv=>?_
  ·walk_at "d";exact ae.mk (Aa (aC (s1.trans0 st) ha)) (hK _ _ .refl (.no rfl))
  ·exact hK _ _ aa.refl.app (.len aQ fun h=>absurd h.1 (by decide))
  ·walk_at "d";obtain⟨ys,e,hy⟩:=sf (aC (s1.trans0 st) ha) (by rw[ao];exact aj [_] [] kaa (Y1 V0 (.l 1000)) (Y0 V0 (.l 20)) hl.2);rw[ao] at hy;exact ae.mk e (hK _ _ aa.refl.app (.len aQ fun h=>by exact bo [_,_] [] 0x294a000ea0080810080308060 J0 (Y0 J1 V0) (Y2 V1 (Y1 (.l 21) V0)) (Y0 V1 (.l 20)) hl.1 hy h.2))
  ·refine Au (R:=fun J u=>u=v) rfl rfl (aC (s1.trans0 st) ha) (by rw[ao];exact aj [_] [] kaa (Y1 V0 (.l 1000)) (Y0 V0 (.l 20)) hl.2) (fun H' K st hK=>hK _ _ .refl rfl) (fun H' K h=>h) fun u r H2 H5 e s2 s5 hr=>?_;subst e;exact hK _ _ s5 (lY T hi hr hb)
  ·walk_at "d";refine fh (b:=8) (by decide) ?_;exact eF (b:=5) (by decide) hK
  ·exact hq v H2 (s1.trans0 s2) hv
 walk_at "g";walk_at "g";walk_at "d";refine bV (fun e=>?_) (fun e=>?_)
 ·refine bad ?_;obtain rfl:w=8:=Int.ofNat.inj e;rcases hv with⟨_,rfl⟩|⟨_,h⟩
  ·exact Bv om.more
  ·exact h
 ·refine eF (b:=8) (by decide) ?_;walk_at "d";refine pO (fun e2=>?_) (fun e2=>?_)
  ·refine bad ?_;rcases hv with⟨h,_⟩|⟨_,h⟩
   ·exact absurd (by rw[h];rfl) e2
   ·exact h
  ·rcases hv with⟨_,rfl⟩|⟨h,_⟩
   ·walk_at "g";walk_at "g";walk_at "g";rw[S_ret];refine Au (R:=fun J u=>u=mv (m++[0])) rfl rfl (aC s1 ha) (by rw[ao];exact aj [_] [] kaa (Y1 V0 (.l 1000)) (Y0 V0 (.l 20)) hl.2) (fun H' K st hK=>hK _ _ .refl rfl) (fun H' K h=>h) fun u r H2 H5 e s2 s5 hr=>?_;subst e;exact hq _ _ (s1.trans0 s5) (lQ T (by exact ay [_] [] kaq (Y1 V0 (.l 8)) (Y0 V0 (.l 8)) (Y8 (Y5 (Y4 V0 J0) (.l 8)) J0) hw.2 e) hm hr)
   ·exact absurd (Int.ofNat.inj e2) h
variable {m:Nat}{xs:List Int}
noncomputable def CC:List St:=[.ret (.cmp (.call "_law_tried" [.wx 0,.wx 1,.wx 2,.wx 3]) [.eq] [.wx 8])]
noncomputable def CL:List St:=.ite (.cmp (.wx 5) [.eq] [.ww 0]) [.set 1 (.call "_law_bad_table" [.wx 1,.bin .div (.wx 4) (.ww 960)])] []::CC
noncomputable def yN:List St:=[.set 10 (.bin .add (.bin .add (.slice (.wx 2) (.lit .none) (.wx 7)) (.list [.idx (.list [.blt .len [.wx 1],.neg (.ww 1),.lit (.bool true),.lit .none,.lit (.str "0")]) (.bin .mod (.bin .div (.wx 4) (.ww 960)) (.ww 5))])) (.slice (.wx 2) (.bin .add (.wx 7) (.ww 1)) (.lit .none))),.set 2 (.idx (.list [.wx 10,.wx 10,.wx 10,.list [],.blt .tuple [.wx 2],.bin .mul (.list [.ww 0]) (.ww 65),.lit .none]) (.bin .mod (.bin .div (.wx 4) (.ww 4800)) (.ww 7)))]
noncomputable def AO:List St:=.ite (.or [.cmp (.wx 5) [.eq] [.ww 1],.cmp (.wx 6) [.eq] [.ww 1]]) yN []::CL
noncomputable def za:List St:=[.set 3 (.idx (.list [.neg (.ww 1),.blt .len [.idx (.wx 1) (.ww 0)],.lit (.bool true),.lit .none,.lit (.str "0"),.lit (.bool false),.list [.ww 0],.bin .pow (.ww 10) (.ww 20)]) (.bin .mod (.bin .div (.wx 4) (.ww 960)) (.ww 8)))]
noncomputable def CI:List St:=.ite (.or [.cmp (.wx 5) [.eq] [.ww 2],.cmp (.wx 6) [.eq] [.ww 2]]) za []::AO
noncomputable def xw:List St:=[.set 9 (.bin .mod (.bin .div (.wx 4) (.ww 33)) (.bin .add (.blt .len [.wx 0]) (.ww 1))),.set 0 (.bin .add (.bin .add (.slice (.wx 0) (.lit .none) (.wx 9)) (.list [.list [.tup [.ww 0,.blt .len [.wx 2]]]])) (.slice (.wx 0) (.wx 9) (.lit .none))),.set 8 (.idx (.list [.wx 8,.list [.lit (.str "net"),.wx 9]]) (.blt .int [.cmp (.wx 5) [.eq] [.ww 3]]))]
noncomputable def zp:List St:=.ite (.or [.cmp (.wx 5) [.eq] [.ww 3],.cmp (.wx 6) [.eq] [.ww 3]]) xw []::CI
noncomputable def sZ:List St:=[.ite (.cmp (.wx 0) [.eq] [.list []]) [.ret (.lit (.bool true))] [],.set 0 (.call "_law_untelling" [.wx 0,.blt .len [.wx 2],.bin .div (.wx 4) (.ww 15)])]
noncomputable def De:List St:=.ite (.or [.cmp (.wx 5) [.eq] [.ww 4],.cmp (.wx 6) [.ge] [.ww 4]]) sZ []::zp
noncomputable def Da:List St:=.set 5 (.bin .mod (.wx 4) (.ww 5))::.set 6 (.bin .add (.wx 5) (.bin .mod (.bin .div (.wx 4) (.ww 5)) (.ww 3)))::.set 7 (.bin .mod (.bin .div (.wx 4) (.ww 15)) (.blt .len [.wx 2]))::.set 8 (.idx (.list [.list [.lit (.str "thing")],.list [.lit (.str "lines")],.list [.lit (.str "thing")],.list [.lit (.str "net"),.ww 0],.list [.lit (.str "none")]]) (.wx 5))::De
structure cU(c:Cx):Prop where
 f:bH c
 bad:aM c "_law_bad_table" 2 5 BU
 unt:aM c "_law_untelling" 3 9 A8
 cross:aM c "_law_crossed" 2 7 AX
structure Tw(H:Hp)(a b w n:Nat)(ms:List (List Nat))(ws:List Nat):Prop where
 T:cC w ms
 W:cg n ms.length ws
 ha:H[a]?=some (ms.map mv)
 hb:H[b]?=some (ws.map nat)
 hn:1<=n/\n<=64
def Tw.grow(t:Tw H a b w n ms ws)(st:aa [] H H'):Tw H' a b w n ms ws:=⟨t.T,t.W,aC st t.ha,aC st t.hb,t.hn⟩
abbrev cO (v0 v1 v2 v3 v4 v5 v6 v7 v8 v9 v10:Option V):Loc:=[v0,v1,v2,v3,v4,v5,v6,v7,v8,v9,v10]
noncomputable def tF(k:Nat):List V:=if k=1 then[.str "lines"] else if k=3 then[.str "net",.int 0] else if k=4 then[.str "none"] else[.str "thing"]
section
variable {v4 v7 v9 v10:Option V}
def mX{v1:V}{W:List V}(D:cw z W)(hd:H[due]?=some W)(G:nR c v0 v1 v2 v3 W H)(hQ:∀l H,QQ (.ret (.bool true)) l H) :
  az (Calls c) true (d+9) none CC QQ EE (cO (some v0) (some v1) (some v2) (some v3) v4 v5 v6 v7 (some (.lst due)) v9 v10) H:=by
 unfold CC cO;walk_at "";refine G .refl fun a H1 H2 st N=>?_;walk_at "";refine ae.mk (xq (D.eq N.hold (aC (st.trans0 N.st) hd))) ?_;walk_at "";exact hQ _ _
def jC{W:List V}{cell:Nat}(F:cU c)(T:cC w ms)(ha:H[a]?=some (ms.map mv))(D:cw z W)(hd:H[due]?=some W)(h0:k=0->W=[.str "thing"])(G:k≠0->nR c v0 (.lst a) v2 v3 W H)(hQ:∀l H,QQ (.ret (.bool true)) l H) :
  az (Calls c) true (d+9) none CL QQ EE (cO (some v0) (some (.lst a)) (some v2) (some v3) (some (.int cell)) (some (.int k)) v6 v7 (some (.lst due)) v9 v10) H:=by
 unfold CL cO;walk_at "g";walk_at "d";refine bV (fun e=>?_) (fun e=>?_)
 ·obtain rfl:=h0 (Int.ofNat.inj e);walk_at "g";walk_at "d";refine fh (b:=960) (by decide) ?_;refine lh F.bad T ha rfl fun v H1 s1 hv=>?_;walk_at "g";walk_at "g";walk_at "g";exact mX D (aC s1 hd) (qF F.f hv) hQ
 ·walk_at "g";walk_at "g";exact mX D hd (G fun e'=>e (by rw[e'];rfl)) hQ
def ni(W:cg n s ws)(hn:1<=n/\n<=64)(hi:i<n)(h:H[b]?=some ((ws.map nat).take i++[v]++(ws.map nat).drop (i+1)))(hk:(kd v).isSome=true)(hv:cG 0 ((s:Int)-1) v=false):cK s H (.lst b):=by
 refine .item h ?_ (fun x hx=>?_) ⟨v,AZ,hv⟩
 ·rw[Bi (by rw[ao,W.len];exact bO hi),ao,W.len];exact ay [_,_] [] 0x30d04294a50006102003081201840600c2008000294a000c2030061010030800028c20004212800308000 (Y6 (Y0 J1 (Y0 (Y0 V0 J1) (Y2 V1 (Y0 V0 J1)))) (Y0 (Y0 (Y0 V0 J1) (Y2 V1 (Y0 V0 J1))) (.l 64))) (Y0 V1 (.l 64)) (Y1 V0 V1) hn.2 hi
 ·rcases Cd hx with hx |rfl
  ·exact Al x hx
  ·exact hk
def mj{W:List V}{cell:Nat}(F:cU c)(t:Tw H a b w n ms ws)(hi:i<n)(D:cw z W)(hd:H[due]?=some W)(h0:k=0->W=[.str "thing"])(h1:k=1->W=[.str "lines"])(G:2<=k->nR c v0 (.lst a) (.lst b) v3 W H)(hQ:∀l H,QQ (.ret (.bool true)) l H) :
  az (Calls c) true (d+9) none AO QQ EE (cO (some v0) (some (.lst a)) (some (.lst b)) (some v3) (some (.int cell)) (some (.int k)) (some (.int (k+j:Nat))) (some (.int i)) (some (.lst due)) v9 v10) H:=by
 unfold AO;have hn:=t.hn;walk_at "g";refine Do (i:=5) (j:=6) (t:=1) rfl rfl (fun e=>?_) (fun e=>?_)
 ·have hk1:k<=1:=by exact aj [_,_] [] kba (Y0 V0 J1) (Y7 (Y5 (Y4 V0 J0) (Y4 J1 J0)) (Y5 (Y4 (Y0 V0 V1) J0) (Y4 J1 J0))) e
  unfold yN cO;walk_at "g";rw[S_set];refine Au (R:=fun J v=>(kd v).isSome=true/\cG 0 ((ms.length:Int)-1) v=false) rfl rfl t.hb (by rw[ao,t.W.len];exact aj [_] [] kaa (Y1 V0 (.l 1000)) (Y0 V0 (.l 64)) hn.2) (fun H' K st hK=>?_) (fun H' K h=>h) fun v r H2 H5 hv s2 s5 hr=>?_
  ·refine sH (P:=fun J J v=>(kd v).isSome=true/\cG 0 ((ms.length:Int)-1) v=false) (j:=cell/960%5) (fun J J J J J h=>h) (.cons (fun H2 K E s2 hK=>?_) (.cons (fun H2 K E s2 hK=>hK _ _ .refl ⟨rfl,tZ (by exact bp [_] [] 0x84280030800000000 (Y8 (Y6 (Y3 J0 (Y3 J1 J0)) (Y3 (Y3 J1 J0) (Y2 (Y4 V0 J0) J1))) J0))⟩) (.lit (fun J=>⟨rfl,rfl⟩) (.lit (fun J=>⟨rfl,rfl⟩) (.lit (fun J=>⟨rfl,rfl⟩) .nil))))) (Nat.mod_lt _ (by decide)) (fun H' K st hK=>?_) hK
   ·walk_at "d";refine ae.mk (c6 (aC (st.trans0 s2) t.ha)) (hK _ _ .refl ?_);rw[ao];exact⟨rfl,tZ (by exact bp [_] [] 0x84280030802000000 (Y8 (Y6 (Y3 J0 (Y4 V0 J0)) (Y3 (Y4 V0 J0) (Y2 (Y4 V0 J0) J1))) J0))⟩
   ·walk_at "d";refine fh (b:=960) (by decide) ?_;exact eF (b:=5) (by decide) hK
  have hb5:=ni t.W t.hn hi hr hv.1 hv.2;walk_at "g";walk_at "g";rw[S_set];have ov:∀{H'} {K:V->Hp->Prop} {E:XPost},aa [] H5 H'->(∀v H2,aa [] H' H2->cK ms.length H2 v->K v H2)->aF (Calls c) true (d+9) none (.var 10) (cO (some v0) (some (.lst a)) (some (.lst b)) (some v3) (some (.int cell)) (some (.int k)) (some (.int (k+j:Nat))) (some (.int i)) (some (.lst due)) v9 (some (.lst r))) K E H':=fun st hK=>hK _ _ .refl (hb5.grow st);refine sH (P:=fun J H v=>cK ms.length H v) (j:=cell/4800%7) (fun J J J J st h=>h.grow st) (.cons (fun J J J st hK=>ov st hK) (.cons (fun J J J st hK=>ov st hK) (.cons (fun J J J st hK=>ov st hK) (.cons (fun H' K E st hK=>hK _ _ aa.refl.app (.len aQ fun h=>absurd h.1 (by decide))) (.cons (fun H' K E st hK=>?_) (.cons (fun H' K E st hK=>?_) (.lit (fun J=>.no rfl) .nil))))))) (Nat.mod_lt _ (by decide)) (fun H' K st hK=>?_) fun v H6 s6 hv=>?_
  ·walk_at "d";exact ae.mk (Aa (aC (s5.trans0 st) t.hb)) (hK _ _ .refl (.no rfl))
  ·walk_at "d";refine cj (kz (n:=65) aQ (by decide)) fun x H6 N=>?_;exact hK _ _ (aa.refl.app.trans0 N.st) (.len N.hold fun h=>absurd h.2 (by rw[List.length_replicate];decide))
  ·walk_at "d";refine fh (b:=4800) (by decide) ?_;exact eF (b:=7) (by decide) hK
  walk_at "g";walk_at "g";walk_at "g";have s6:=s5.trans0 s6;exact jC F t.T (aC s6 t.ha) D (aC s6 hd) h0 (fun hk=>by obtain rfl:=h1 (by exact ay [_] [] 0xc5280030804018400024a50006100403080002800308000 (Y2 V0 J1) (Y0 V0 J1) (Y8 (Y2 V0 J0) J0) hk1 hk);exact j8 F.f t.T (aC s6 t.ha) hv) hQ
 ·walk_at "g";walk_at "g";exact jC F t.T t.ha D hd h0 (fun hk=>G (by exact ay [_] [] 0xe5280030802018400024a50006100403080002800308000 (Y0 J2 V0) (Y8 (Y5 (Y4 V0 J0) (Y4 J1 J0)) J0) (Y8 (Y2 V0 J0) J0) e hk)) hQ
theorem tJ:bL H .pow (.int 10) (.int 20)=some (.int 100000000000000000000,H):=rfl
def Cp{W:List V}{cell:Nat}(F:cU c)(t:Tw H a b w n ms ws)(hi:i<n)(D:cw z W)(hd:H[due]?=some W)(h0:k=0\/k=2->W=[.str "thing"])(h1:k=1->W=[.str "lines"])(G:3<=k->nR c v0 (.lst a) (.lst b) (.int r) W H)(hQ:∀l H,QQ (.ret (.bool true)) l H) :
  az (Calls c) true (d+9) none CI QQ EE (cO (some v0) (some (.lst a)) (some (.lst b)) (some (.int r)) (some (.int cell)) (some (.int k)) (some (.int (k+j:Nat))) (some (.int i)) (some (.lst due)) v9 v10) H:=by
 unfold CI;walk_at "g";refine Do (i:=5) (j:=6) (t:=2) rfl rfl (fun e=>?_) (fun e=>?_)
 ·have hk2:k<=2:=by exact aj [_,_] [] kba (Y0 V0 J2) (Y7 (Y5 (Y4 V0 J0) (Y4 J2 J0)) (Y5 (Y4 (Y0 V0 V1) J0) (Y4 J2 J0))) e
  have hw:=t.T.wid;unfold za cO;walk_at "g";rw[S_set];obtain⟨m0,g0,jn⟩:=t.T.first;refine sH (P:=fun J J v=>(kd v).isSome=true/\cG 0 ((w:Int)-1) v=false) (j:=cell/960%8) (fun J J J J J h=>h) (.cons (fun H2 K E s2 hK=>hK _ _ .refl ⟨rfl,tZ (by exact bp [_] [] 0x84280030800000000 (Y8 (Y6 (Y3 J0 (Y3 J1 J0)) (Y3 (Y3 J1 J0) (Y2 (Y4 V0 J0) J1))) J0))⟩) (.cons (fun H2 K E s2 hK=>?_) (.lit (fun J=>⟨rfl,rfl⟩) (.lit (fun J=>⟨rfl,rfl⟩) (.lit (fun J=>⟨rfl,rfl⟩) (.lit (fun J=>⟨rfl,rfl⟩) (.cons (fun H2 K E s2 hK=>hK _ _ aa.refl.app ⟨rfl,rfl⟩) (.cons (fun H2 K E s2 hK=>?_) .nil)))))))) (Nat.mod_lt _ (by decide)) (fun H' K st hK=>?_) fun v H1 s1 hv=>?_
  ·walk_at "d";refine ae.mk (cZ (i:=0) (aC s2 t.ha) (x:=mv m0) (by rw[br,g0];rfl)) ?_;refine ae.mk (show dp true (ba H2 .len [mv m0])=some (.int w,H2) by show some (V.int (m0.map nat).length,H2)=_;rw[ao,jn.1]) ?_;exact hK _ _ .refl ⟨rfl,tZ (by exact bp [_] [] 0x84280030802000000 (Y8 (Y6 (Y3 J0 (Y4 V0 J0)) (Y3 (Y4 V0 J0) (Y2 (Y4 V0 J0) J1))) J0))⟩
  ·walk_at "d";exact ae.mk tJ (hK _ _ .refl ⟨rfl,tZ (by exact aj [_] [] 0x210a500061010030802000000 (Y8 (Y6 (Y3 J0 (.l 100000000000000000000)) (Y3 (.l 100000000000000000000) (Y2 (Y4 V0 J0) J1))) J0) (Y0 V0 (.l 8)) hw.2)⟩)
  ·walk_at "d";refine fh (b:=960) (by decide) ?_;exact eF (b:=8) (by decide) hK
  walk_at "g";walk_at "g";walk_at "g";exact mj F (t.grow s1) hi D (aC s1 hd) (fun h=>h0 (.inl h)) h1 (fun h=>by obtain rfl:=h0 (.inr (by exact ay [_] [] kao (Y2 V0 J2) (Y0 V0 J2) (Y0 J2 V0) hk2 h));exact jZ F.f t.T (aC s1 t.ha) t.W t.hn (aC s1 t.hb) hv.1 hv.2) hQ
 ·walk_at "g";walk_at "g";exact mj F t hi D hd (fun h=>h0 (.inl h)) h1 (fun h=>G (by exact ay [_] [] 0x7294001840100c20000a50006100c0308000 (Y0 (.l 3) V0) (Y8 (Y5 (Y4 V0 J0) (Y4 J2 J0)) J0) (Y0 J2 V0) e h)) hQ
def kx{W:List V}{net:Net}{cell:Nat}(F:cU c)(t:Tw H a b w n ms ws)(hi:i<n)(hr:r<w)(D:k≠3->∃z,cw z W)(hd:H[due]?=some W)(A:ag H m bs net)(ok:gk n net)(hz:net.length<=70)(ht:k=4->c8 n net=false)(hk:k<5)(h0:k=0\/k=2->W=[.str "thing"])(h1:k=1->W=[.str "lines"])(h4:k=4->W=[.str "none"])(hQ:∀l H,QQ (.ret (.bool true)) l H) :
  az (Calls c) true (d+9) none zp QQ EE (cO (some (.lst m)) (some (.lst a)) (some (.lst b)) (some (.int r)) (some (.int cell)) (some (.int k)) (some (.int (k+j:Nat))) (some (.int i)) (some (.lst due)) v9 v10) H:=by
 unfold zp;walk_at "g";refine Do (i:=5) (j:=6) (t:=3) rfl rfl (fun e=>?_) (fun e=>?_)
 ·have hk3:k<=3:=by exact aj [_,_] [] kba (Y0 V0 (.l 3)) (Y7 (Y5 (Y4 V0 J0) (Y4 (.l 3) J0)) (Y5 (Y4 (Y0 V0 V1) J0) (Y4 (.l 3) J0))) e
  unfold xw cO;walk_at "g";walk_at "d";refine fh (b:=33) (by decide) ?_;walk_at "d";refine ae.mk (c6 A.top) ?_;rw[ao,A.len];walk_at "d";refine eF (b:=net.length+1) (Nat.succ_pos _) ?_;have hs:cell/33%(net.length+1)<=net.length:=Nat.le_of_lt_succ (Nat.mod_lt _ (Nat.succ_pos _));generalize cell/33%(net.length+1)=sp at hs;walk_at "g";walk_at "g";rw[S_set];refine Au (R:=fun H v=>∃L,v=.lst L/\H[L]?=some [pr (0,n)]) rfl rfl A.top (by rw[ao,A.len];exact aj [_] [] kaa (Y1 V0 (.l 1000)) (Y0 V0 (.l 70)) hz) (fun H' K st hK=>?_) (fun H' K h=>h) fun v x H2 H4 hv s2 s4 hx=>?_
  ·walk_at "d";refine ae.mk (c6 (aC st t.hb)) ?_;rw[ao,t.W.len];exact hK _ _ aa.refl.app ⟨_,rfl,aQ⟩
  obtain⟨L,rfl,hL⟩:=hv;obtain⟨cs,A4⟩:=It (A.grow s4) (aC s2 hL) hx;walk_at "g";walk_at "g";rw[S_set];refine sH (P:=fun j H v=>(j=0->v=.lst due)/\(j=1->∃y,v=.lst y/\H[y]?=some [.str "net",.int sp])) (j:=if k=3 then 1 else 0) (fun J J J J st h=>⟨h.1,fun e=>let⟨y,e,hy⟩:=h.2 e;⟨y,e,aC st hy⟩⟩) (.cons (fun H' K E st hK=>hK _ _ .refl ⟨fun J=>rfl,(fun h=>nomatch h)⟩) (.cons (fun H' K E st hK=>hK _ _ aa.refl.app ⟨(fun h=>nomatch h),fun J=>⟨_,rfl,aQ⟩⟩) .nil)) (by split<;>decide) (fun H' K st hK=>?_) fun v H5 s5 hv=>?_
  ·walk_at "d";by_cases h3:k=3
   ·subst h3;exact hK
   ·rw[if_neg h3] at hK;rw[decide_eq_false (show ¬((k:Int)=3) by exact ay [_] [] 0x414a000c20100610000429400184010102000020 (Y8 (Y5 (Y4 V0 J0) (.l 3)) J0) (Y0 V0 (.l 3)) (Y8 (Y2 V0 (.l 3)) J0) hk3 h3)];exact hK
  have s6:=s4.trans0 s5;walk_at "g";walk_at "g";walk_at "g";by_cases h3:k=3
  ·subst h3;obtain⟨y,rfl,hy⟩:=hv.2 rfl;obtain⟨b1,b2,b3⟩:=mV ok.2 hs;exact Cp F (t.grow s6) hi (.net sp) hy (fun h=>absurd h (by decide)) (fun h=>absurd h (by decide)) (fun J=>pX F.f (A4.grow s5) (by rw[b3];exact aj [_] [] kaa (Y0 (Y0 V0 J1) (.l 80)) (Y0 V0 (.l 70)) hz) b1 b2 t.T t.W (aC s6 t.ha) (aC s6 t.hb) hr t.hn) hQ
  ·obtain rfl:=hv.1 (if_neg h3);obtain⟨z,D⟩:=D h3;exact Cp F (t.grow s6) hi D (aC s6 hd) h0 h1 (fun h=>absurd h (by exact bo [_] [] 0x8294001840200c20000a5000610100308000 (Y8 (Y0 (.l 3) V0) J0) (Y0 V0 (.l 3)) (Y8 (Y2 V0 (.l 3)) J0) (Y0 (.l 3) V0) hk3 h3 h)) hQ
 ·walk_at "g";walk_at "g";obtain⟨z,D⟩:=D fun h=>e (congrArg _ h);refine Cp F t hi D hd h0 h1 (fun h=>?_) hQ;obtain rfl:k=4:=by exact bo [_] [] 0x314a000c201006100009294001840100c20000a5000610140308000 (Y2 V0 (.l 4)) (Y1 V0 (.l 5)) (Y8 (Y5 (Y4 V0 J0) (Y4 (.l 3) J0)) J0) (Y0 (.l 3) V0) hk e h
  obtain rfl:=h4 rfl;exact jv F.f A ok (ht rfl) t.T t.W t.ha t.hb hr t.hn
def sN{W:List V}{net:Net}{cell:Nat}(F:cU c)(t:Tw H a b w n ms ws)(hi:i<n)(hr:r<w)(D:k≠3->∃z,cw z W)(hd:H[due]?=some W)(A:ag H m bs net)(M:b9 n net)(hk:k<5)(h0:k=0\/k=2->W=[.str "thing"])(h1:k=1->W=[.str "lines"])(h4:k=4->W=[.str "none"])(hQ:∀l H,QQ (.ret (.bool true)) l H) :
  az (Calls c) true (d+9) none De QQ EE (cO (some (.lst m)) (some (.lst a)) (some (.lst b)) (some (.int r)) (some (.int cell)) (some (.int k)) (some (.int (k+j:Nat))) (some (.int i)) (some (.lst due)) v9 v10) H:=by
 unfold De cO;have go:az (Calls c) true (d+9) none sZ (cu (az (Calls c) true (d+9) none zp QQ EE) QQ) EE (cO (some (.lst m)) (some (.lst a)) (some (.lst b)) (some (.int r)) (some (.int cell)) (some (.int k)) (some (.int (k+j:Nat))) (some (.int i)) (some (.lst due)) v9 v10) H:=by
  unfold sZ cO;walk_at "g";walk_at "d";have s1:=(aa.refl (S:=[]) (H:=H)).app (xs:=[]);refine ae.mk (xq (uh (A.grow s1) (cs:=[]) (ys:=[]) ⟨aQ,rfl,fun J J J h=>nomatch h⟩)) ?_;generalize H++[[]]=H1 at s1;refine bV (fun e=>?_) (fun e=>?_)
  ·walk_at "g";walk_at "d";exact hQ _ _
  ·walk_at "g";walk_at "g";walk_at "g";walk_at "d";refine ae.mk (c6 (aC s1 t.hb)) ?_;rw[ao,t.W.len];walk_at "d";refine fh (b:=15) (by decide) ?_;refine zb (d:=d+7) F.unt F.cross (A.grow s1) t.hn M.ok M.len M.tells e rfl fun a' bs' H2 net' A2 AM hz2 ht2 st2=>?_;have s2:=s1.trans0 st2;walk_at "g";walk_at "g";walk_at "g";exact kx F (t.grow s2) hi hr D (aC s2 hd) A2 AM hz2 (fun J=>ht2) hk h0 h1 h4 hQ
 walk_at "g";walk_at "d";refine bV (fun e=>?_) (fun e=>?_)
 ·exact go
 ·refine bV (fun e2=>?_) (fun e2=>?_)
  ·exact go
  ·walk_at "g";walk_at "g";exact kx F t hi hr D hd A M.ok M.len (fun e'=>absurd (show(k:Int)=4 by rw[e'];rfl) e) hk h0 h1 h4 hQ
def pI(h:k≠3):∃z,cw z (tF k):=by
 unfold tF;by_cases h1:k=1
 ·rw[if_pos h1];exact⟨_,.lines⟩
 ·rw[if_neg h1,if_neg h];by_cases h2:k=4
  ·rw[if_pos h2];exact⟨_,.none⟩
  ·rw[if_neg h2];exact⟨_,.thing⟩
def nZ(F:cU c)(P:aM c "_law_refused" 5 11 Da){cell:Nat}{net:Net}(A:ag H m bs net)(M:b9 n net)(t:Tw H a b w n ms ws)(hr:r<w)(hc:q=true)(hq:∀H',Q (.bool true) H'):Calls c q (d+10) "_law_refused" [.lst m,.lst a,.lst b,.int r,.int cell] none Q E H:=by
 subst hc;refine P true (d+9) _ Q E H rfl ?_;unfold Da;walk_at "g";walk_at "d";refine eF (b:=5) (by decide) ?_;have hk:cell%5<5:=Nat.mod_lt _ (by decide);generalize cell%5=k at hk;walk_at "g";walk_at "g";walk_at "d";refine fh (b:=5) (by decide) ?_;walk_at "d";refine eF (b:=3) (by decide) ?_;walk_at "d";generalize cell/5%3=j;rw[<- Int.natCast_add];walk_at "g";walk_at "g";walk_at "d";refine fh (b:=15) (by decide) ?_;walk_at "d";refine ae.mk (c6 t.hb) ?_;rw[ao,t.W.len];walk_at "d";refine eF (b:=n) t.hn.1 ?_;have hi:cell/15%n<n:=Nat.mod_lt _ t.hn.1;generalize cell/15%n=i at hi;walk_at "g";walk_at "g";rw[S_set];refine sH (P:=fun j H v=>∃x,v=.lst x/\H[x]?=some (tF j)) (j:=k) (fun J J J J st h=>let⟨y,e,hy⟩:=h;⟨y,e,aC st hy⟩) (.cons (fun H' K E st hK=>hK _ _ aa.refl.app ⟨_,rfl,aQ⟩) (.cons (fun H' K E st hK=>hK _ _ aa.refl.app ⟨_,rfl,aQ⟩) (.cons (fun H' K E st hK=>hK _ _ aa.refl.app ⟨_,rfl,aQ⟩) (.cons (fun H' K E st hK=>hK _ _ aa.refl.app ⟨_,rfl,aQ⟩) (.cons (fun H' K E st hK=>hK _ _ aa.refl.app ⟨_,rfl,aQ⟩) .nil))))) hk (fun H' K st hK=>hK) fun v H1 s1 hv=>?_;obtain⟨due,rfl,hd⟩:=hv;walk_at "g";exact sN F (t.grow s1) hi hr pI hd (A.grow s1) M hk (fun h=>by rcases h with h |h<;>rw[h]<;>rfl) (fun h=>by rw[h];rfl) (fun h=>by rw[h];rfl) fun J H'=>hq H'
end
structure fA(c:Cx):Prop where
 r:cU c
 dd:yJ c
 map:aM c "_law_map" 2 4 Gp
 ref:aM c "_law_refused" 5 11 Da
 whole:aM c "_law_whole" 1 1 Gm
 cell:aM c "_law_cell_at" 2 2 Ee
 lines:aM c "_law_lines_by" 1 2 Fs
 law:aM c "law" 1 16 fG
noncomputable def rU(scr:List Int)(s k:Nat):Nat:=((scr.getD (4+k%30) 0+7919*(k:Int))*48271%2147483647%(s:Int)).toNat
def HY:ij σ p (List.range (i+1))=(σ i).getD (ij σ p (List.range i)) 0:=by
 rw[ij,List.range_succ,List.foldl_append];rfl
def Ff(h:i<n):((md ms ws r n).map nat)[i]?=some (nat (ij (iy ms ws) r (List.range (i+1)))):=by
 rw[br,md,br,iM h];rfl
def Ea:(md ms ws r n).length=n:=by rw[md,ao,di]
def qq(ha:H[a]?=some (ms.map mv)):bM (n+2) H (.lst a)=some (gh (oq natP) ms):=BV ha fun m J=>by
 show(aH (bM n H) (m.map nat)).map _=_;rw[Ds fun x J=>zD x];rfl
def kL{x y z:Nat}{net:Net}(h:H[a]?=some [.lst x,.lst y,.lst z])(X:ag H x bs net)(hy:H[y]?=some (ms.map mv))(hz:H[z]?=some (ws.map nat)):bM 9 H (.lst a)=some (.list [gh (gh zlw) net,gh (oq natP) ms,gh natP ws]):=by
 refine tL h ?_;show(bM 8 H (.lst x)).bind _=_;rw[CB (n:=5) X];show((bM 8 H (.lst y)).bind _).map _=_;rw[qq (n:=6) hy];show(((bM 8 H (.lst z)).bind _).map _).map _=_;rw[BZ (n:=7) hz];rfl
def u5{net:Net}:PyData.canLay0 (.list [gh (gh zlw) net,gh (oq natP) ms,gh natP ws])=true:=by
 show(PyData.canLay0 _&&(PyData.canLay0 _&&(PyData.canLay0 _&&true)))=true;rw[fj.list.list.lay,d7.tup.list.lay,d7.list.lay];rfl
def Jp{ok:Hp->Prop}{W:Loc->(V->Hp->Prop)->Hp->Prop}{Q:List V->Hp->Prop}(hok:∀H',ok H')(he:∀(x:Nat) H' (K:V->Hp->Prop),aa [] H H'->(∀m H'',aa [] H' H''->dT w m->K (mv m) H'')->ae (gA t (nat x) l) fun l'=>W l' K H')(hq:∀ms H',aa [] H H'->List.length ms=n->(∀m∈ms,dT w m)->Q (ms.map mv) H') :
  gH ok (kG (fun l' Q H=>Q true H) W t l) ((List.range n).map nat) [] Q H:=by
 refine vn (I:=fun j acc H2=>∃ms,acc=List.map mv ms/\ms.length=j/\(∀m∈ms,dT w m)/\aa [] H H2) ?_ ?_ ⟨[],rfl,rfl,(fun J h=>nomatch h),.refl⟩
 ·rintro j x acc H2 K hx ⟨ms,rfl,hl,hm,st⟩ hK;rw[br] at hx;revert hx;refine xM fun y hy wj=>?_;subst wj;refine xI (fun l' h1 h2=>?_) (he y H2 (fun v H=>K (ms.map mv++[v]) H) st fun m H'' st2 om=>hK _ _ (hok _) ⟨ms++[m],by rw[bT];rfl,by rw[bw,hl];rfl,fun m' hm'=>(bJ.mp hm').elim (hm m') fun e=>by rw[aN.mp e];exact om,st.trans0 st2⟩);exact ae.mk h1 h2
 ·rintro acc H2 ⟨ms,rfl,hl,hm,st⟩;rw[ao,di] at hl;exact hq ms H2 st hl hm
abbrev gz (v0 v1 v2 v3 v4 v5 v6 v7 v8 v9 v10 v11 v12 v13 v14 v15:Option V):Loc:=[v0,v1,v2,v3,v4,v5,v6,v7,v8,v9,v10,v11,v12,v13,v14,v15]
def yR(L:Option V->V->Loc)(σ:Nat->List Nat)(r:Nat)(H:Hp)(i:Nat)(x1:Loc)(x2:Hp):Prop:=∀GJ:Prop,(∀(v:Option V),(L v (nat (ij σ r (List.range i))))=x1->H=x2->GJ)->GJ
def KM(F:fA c){net:Net}{v0 v2 v3:Option V}(A:ag H nt bs net)(M:b9 n net)(t:Tw H a b w n ms ws)(hr:r<w) :
  az (Calls c) true (d+10) none (fG.drop 11) (de fun v J=>v=.bool true) EE (gz v0 (some (.int n)) v2 v3 (some (.lst nt)) v5 v6 none (some (.lst a)) (some (.lst b)) (some (.int r)) none none none none none) H:=by
 unfold gz;have hn:=t.hn;have hz:=M.len;have hl:=t.T.len;refine Ss_go ?_;walk_at "";refine ae.mk (gu A.top) ⟨dU (by rw[ao,A.len];exact aj [_] [] kaa (Y1 V0 (.l 100000)) (Y0 V0 (.l 70)) hz),?_⟩;refine HB A (Nat.le_of_ble_eq_true rfl) (fun H' st=>aC st A.top) fun ts H2 RR=>?_;have A1:=RR.net;have s1:=RR.st.app (xs:=ts.map .lst);generalize H2++[ts.map .lst]=H1 at A1 s1;generalize H2.length=x0 at A1;clear RR;walk_at "";refine cj (u3 (aC s1 t.ha)) fun x1 H3 N1=>?_;walk_at "";refine cj (u3 (aC (s1.trans0 N1.st) t.hb)) fun x2 H4 N2=>?_;walk_at "";have t5:=(aa.refl (S:=[]) (H:=H4)).app (xs:=[V.lst x0,V.lst x1,V.lst x2]);have kh:=aQ (H:=H4) (xs:=[V.lst x0,V.lst x1,V.lst x2]);have k0:=A1.grow (N1.st.trans0 (N2.st.trans0 t5));have k1:=aC (N2.st.trans0 t5) N1.hold;have k2:=aC t5 N2.hold;have s5:=s1.trans0 (N1.st.trans0 (N2.st.trans0 t5));generalize H4++[[V.lst x0,V.lst x1,V.lst x2]]=H5 at t5 kh k0 k1 k2 s5;generalize H4.length=h7 at kh;clear N1 N2 t5 A1 s1;refine ae.mk (cZ (i:=0) kh rfl) ?_;refine ae.mk (cZ (i:=1) kh rfl) ?_;refine ae.mk (cZ (i:=2) kh rfl) ?_;refine Ge (d:=d+8) F.r.f (fun hK hX=>Cn (d:=d+2) F.r.f k0 M.ok t.T t.W k1 k2 hr hn rfl (fun J r' H6 N6=>hK _ _ ?_) (fun h=>by rw[M.tells] at h;injection h)) rfl;have s6:=s5.trans0 N6.st;have kr:=N6.hold;have rlo:H5.length<=r':=N6.lo;have kh6:=aC N6.st kh;have st6:=N6.st;clear N6;walk_at "";refine ae.mk (qM (i:=0) rfl) ?_;walk_at "";refine ae.mk (qM (i:=0) rfl) ?_;refine ae.mk (c6 kr) ?_;rw[ao,Ea];walk_at "";rw[decide_eq_true rfl];walk_at "";refine⟨rfl,iB (v:=.rng 0 (n:Int) 1) (items:=(List.range n).map nat) (fun K E' h=>by walk_at "";exact ae.mk (nw (by exact aj [_] [] kaa (Y1 V0 (.l 100000)) (Y0 V0 (.l 64)) hn.2)) h) (congrArg some (qT _)) ?_⟩;have ta:=aC s6 t.ha;have tb:=aC s6 t.hb;refine uE (yR (fun v u=>gz v0 (some (.int n)) v2 v3 (some (.lst nt)) v5 v6 v (some (.lst a)) (some (.lst b)) (some (.int r)) (some (.lst h7)) (some (.tup [.lst r'])) (some u) none none) (iy ms ws) r H6) ?_ ?_ (fun J kJ=>kJ _ rfl rfl)
 ·intro i x l' H' K hx hI hnext hret;refine hI _ fun v wg eI2=>?_;clear hI;subst wg;subst eI2;have hi:=dE hx;rw[ao,di] at hi;rw[br,iM hi] at hx;obtain rfl:=ai hx;have hw:=t.W.get hi;have hlt:ij (iy ms ws) r (List.range i)<w:=Bs (zP t.T t.W) (fun x hx=>cN (gY.mp hx) hi) hr;have om:=zP t.T t.W i hi;unfold nat gz;walk_at "";refine ae.mk (cZ tb (x:=nat (ws.getD i 0)) (by rw[br,hw.1];rfl)) ?_;refine ae.mk (cZ ta (x:=mv (iy ms ws i)) (by rw[br,zE hw.2];rfl)) ?_;refine ae.mk (qM (CJ (om.1.symm▸hlt))) ?_;rw[<- HY];walk_at "";refine ae.mk (qM (i:=0) rfl) ?_;refine ae.mk (cZ kr (Ff hi)) ?_;refine oW F.whole ?_;walk_at "";refine ae.mk (qM (i:=0) rfl) ?_;refine ae.mk (cZ kr (Ff hi)) ?_;refine ae.mk (jS (DB d7 (x:=ij (iy ms ws) r (List.range (i+1))) (zD _) (zD _))) ?_;rw[decide_eq_true rfl];walk_at "";exact hnext _ _ trivial (fun J kJ=>kJ _ rfl rfl)
 intro l' H' hI;refine hI _ fun v wg eI2=>?_;clear hI;subst wg;subst eI2;clear ta tb;unfold gz;walk_at "";refine ae.mk (qM (i:=0) rfl) ?_;refine cj (u3 kr) fun cp H8 N8=>?_;walk_at "";refine ae.mk (qM (i:=0) rfl) ?_;refine⟨rfl,?_⟩;have kr8:=aC N8.st kr;walk_at "";refine ae.mk (kY kr8 (by rw[ao,Ea];exact aj [_] [] kaa (Y1 V0 (.l 10000)) (Y0 V0 (.l 64)) hn.2)) ?_;have st8:=st6.trans0 N8.st;have u9:=st8.set (a:=r') (xs:=(md ms ws r n).map nat++[.int 0]) (.inr rlo);have u9':=(s5.trans0 st8).set (a:=r') (xs:=(md ms ws r n).map nat++[.int 0]) (.inr (aD s5.len rlo));have kc:(H8.set r' ((md ms ws r n).map nat++[.int 0]))[cp]?=some ((md ms ws r n).map nat):=eo N8.hold (Nat.ne_of_gt (cS (dA kr) N8.lo));generalize H8.set r' ((md ms ws r n).map nat++[.int 0])=H9 at u9 u9' kc;clear N8 kr8;walk_at "";have w1:=(aa.refl (S:=[]) (H:=H9)).app (xs:=[V.lst nt,V.lst a,V.lst b]);have v1:=u9.trans0 w1;have v2':=u9'.trans0 w1;refine ae.mk (xq (qJ u5 (kL (aC v1 kh) (k0.grow v1) (aC v1 k1) (aC v1 k2)) (kL aQ (A.grow v2') (aC v2' t.ha) (aC v2' t.hb)))) ?_;generalize H9++[[V.lst nt,V.lst a,V.lst b]]=H10 at w1 v1 v2';walk_at "";refine ae.mk (cZ (i:=0) (aC v1 kh) rfl) ?_;refine ae.mk (cZ (i:=1) (aC v1 kh) rfl) ?_;refine ae.mk (cZ (i:=2) (aC v1 kh) rfl) ?_;refine Cn (d:=d+3) F.r.f (k0.grow v1) M.ok t.T t.W (aC v1 k1) (aC v1 k2) hr hn rfl (fun J t H11 N11=>?_) (fun h=>by rw[M.tells] at h;injection h);refine ae.mk (xq (kM N11.hold (aC (w1.trans0 N11.st) kc))) ?_;rw[decide_eq_true rfl];walk_at ""
def Dl(F:fA c)(hn:1<=n/\n<=64)(hw:4<=w->n<=32) :
  az (Calls c) true (d+90) none (fG.drop 4) (de fun v J=>v=.bool true) EE (gz (some (.scr scr)) (some (.int n)) (some (.int cl)) (some (.int w)) none none none none none none none none none none none none) H:=by
 unfold gz;refine Ss_go ?_;walk_at "d";refine t8 F.cell (i:=2) rfl ?_;refine m5 (d:=d+20) F.dd hn hw rfl fun nt bs H1 net M A st1=>?_;walk_at "g";walk_at "g";walk_at "d";refine fh (b:=63) (by decide) ?_;walk_at "d";refine eF (b:=8) (by decide) ?_;have h8:cl/63%8<8:=Nat.mod_lt _ (by decide);generalize cl/63%8=rm at h8;walk_at "d";rw[show(1:Int)+(rm:Int)=((1+rm:Nat):Int) from rfl];have hrm:1<=1+rm/\1+rm<=8:=by exact aj [_] [] kag (Y6 (Y0 J1 (Y0 J1 V0)) (Y0 (Y0 J1 V0) (.l 8))) (Y1 V0 (.l 8)) h8
 generalize 1+rm=wd at hrm;walk_at "g";walk_at "g";walk_at "d";refine fh (b:=504) (by decide) ?_;walk_at "d";refine eF (b:=20) (by decide) ?_;have h20:cl/504%20<20:=Nat.mod_lt _ (by decide);generalize cl/504%20=sg at h20;walk_at "d";rw[show(1:Int)+(sg:Int)=((1+sg:Nat):Int) from rfl];have hsg:1<=1+sg/\1+sg<=20:=by exact aj [_] [] kag (Y6 (Y0 J1 (Y0 J1 V0)) (Y0 (Y0 J1 V0) (.l 20))) (Y1 V0 (.l 20)) h20
 generalize 1+sg=ns at hsg;walk_at "g";walk_at "g";walk_at "d";refine ae.mk (nw (by exact aj [_] [] kaa (Y1 V0 (.l 100000)) (Y0 V0 (.l 20)) hsg.2)) ?_;refine ae.mk (Dj (H:=H1)) ⟨dU (by rw[ao,di];exact aj [_] [] kaa (Y1 V0 (.l 100000)) (Y0 V0 (.l 20)) hsg.2),?_⟩;refine Jp (w:=wd) (fun J=>trivial) (fun x H' K st hK=>?_) fun ms H2 s2 hl hm=>?_
 ·unfold nat;walk_at "d";refine t8 F.cell (i:=3) rfl ?_;refine xx rfl ?_;walk_at "d";refine fP (by decide) ?_;walk_at "d";exact pH (d:=d+89) F.map hrm rfl hK
 have T:cC wd ms:=⟨hl.symm▸hsg,hrm,hm⟩;have ha:=aQ (H:=H2) (xs:=ms.map mv);have s3:=s2.app (xs:=ms.map mv);generalize H2++[ms.map mv]=H3 at ha s3;generalize H2.length=a at ha;walk_at "g";walk_at "g";walk_at "d";refine ae.mk (nw (by exact aj [_] [] kaa (Y1 V0 (.l 100000)) (Y0 V0 (.l 64)) hn.2)) ?_;refine ae.mk (Dj (H:=H3)) ⟨dU (by rw[ao,di];exact aj [_] [] kaa (Y1 V0 (.l 100000)) (Y0 V0 (.l 64)) hn.2),?_⟩;have hs0:(0:Int)<ns:=bP.mpr hsg.1;have wf:∀k,(scr.getD (4+k%30) 0+7919*(k:Int))*48271%2147483647%(ns:Int)=(rU scr ns k:Int):=fun k=>(Int.toNat_of_nonneg (Int.emod_nonneg _ (Int.ne_of_gt hs0))).symm;refine iA (f:=nat) (g:=fun k=>nat (rU scr ns k)) trivial (fun k J K hK=>?_) ?_
 ·unfold nat at hK ⊢;walk_at "d";refine eF (b:=30) (by decide) ?_;walk_at "d";rw[show(4:Int)+((k%30:Nat):Int)=((4+k%30:Nat):Int) from rfl];refine t8 F.cell (i:=4+k%30) rfl ?_;refine xx rfl ?_;walk_at "d";refine vf rfl ?_;walk_at "d";refine fP (by decide) ?_;walk_at "d";refine fP hs0 ?_;rw[wf];exact hK
 have W:cg n ms.length ((List.range n).map (rU scr ns)):=⟨by rw[ao,di],fun x hx=>by
  revert hx;refine xL fun k J wj=>?_;subst wj;rw[hl];exact bP.mp (wf k▸Int.emod_lt_of_pos _ hs0)⟩
 have hb:(H3++[(List.range n).map fun k=>nat (rU scr ns k)])[H3.length]?=some (((List.range n).map (rU scr ns)).map nat):=by rw[aQ,d8];rfl
 have s4:=(aa.refl (S:=[]) (H:=H3)).app (xs:=(List.range n).map fun k=>nat (rU scr ns k));generalize H3++[(List.range n).map fun k=>nat (rU scr ns k)]=H4 at hb s4;generalize H3.length=b at hb;generalize(List.range n).map (rU scr ns)=ws at hb W;have t:Tw H4 a b wd n ms ws:=⟨T,W,aC s4 ha,hb,hn⟩;have A4:=A.grow (s3.trans0 s4);clear A ha s2 s3 s4 hb wf;walk_at "g";walk_at "g";walk_at "d";refine t8 F.cell (i:=34) rfl ?_;have hw0:(0:Int)<wd:=bP.mpr hrm.1;refine fP hw0 ?_;obtain⟨r,he⟩:=wV (x:=scr.getD 34 0) hw0;have hr:r<wd:=bP.mp (he▸Int.emod_lt_of_pos _ hw0);rw[he];walk_at "g";walk_at "g";walk_at "d";refine fh (b:=13) (by decide) ?_;walk_at "d";refine eF (b:=4) (by decide) ?_;walk_at "d";refine bV (fun J=>?_) (fun J=>?_)
 ·walk_at "g";walk_at "d";refine t8 F.cell (i:=35) rfl ?_;refine vf rfl ?_;walk_at "d";refine fP (by decide) ?_;obtain⟨e,he⟩:=wV (x:=scr.getD 35 0*48271) (y:=2147483647) (by decide);rw[he];exact nZ (d:=d+80) F.r F.ref A4 M t hr rfl fun J=>rfl
 ·walk_at "g";walk_at "g";exact KM (d:=d+80) F A4 M t hr
def lu(F:fA c):Calls c true (d+91) "law" [.scr xs] none (fun v J=>v=.bool true) E H:=by
 obtain⟨n,e,hn⟩:∃n:Nat,vc (xs.getD 0 0)=(n:Int)/\1<=n/\n<=32:=by
  have hl:=JD (xs.getD 0 0);have hn:=(Int.toNat_of_nonneg (Int.le_trans (by decide) hl.1)).symm;rw[hn] at hl;exact⟨_,hn,c7.mp hl.1,c7.mp hl.2⟩
 have hn64:1<=n/\n<=64:=⟨hn.1,aD hn.2 (by decide)⟩;refine F.law true (d+90) _ _ _ _ rfl ?_;refine Ss_go ?_;walk_at "d";refine t8 F.cell (i:=0) rfl ?_;refine HT F.lines ?_;rw[e];clear e;walk_at "g";walk_at "g";walk_at "d";refine t8 F.cell (i:=1) rfl ?_;refine vf rfl ?_;walk_at "d";refine fP (by decide) ?_;obtain⟨cl,he⟩:=wV (x:=xs.getD 1 0*48271) (y:=2147483647) (by decide);rw[he];clear he;walk_at "g";walk_at "g";walk_at "d";refine eF (b:=7) (by decide) ?_;generalize cl%7=w;walk_at "g";walk_at "g";walk_at "d";refine fh (b:=7) (by decide) ?_;walk_at "d";refine eF (b:=3) (by decide) ?_;walk_at "d";refine bV (fun J=>?_) (fun J=>?_)
 ·refine bV (fun hw=>?_) (fun J=>?_)
  ·walk_at "g";walk_at "d";refine fh (b:=21) (by decide) ?_;walk_at "d";refine eF (b:=32) (by decide) ?_;have h32:cl/21%32<32:=Nat.mod_lt _ (by decide);generalize cl/21%32=e at h32;walk_at "d";rw[show(33:Int)+(e:Int)=((33+e:Nat):Int) by exact bp [_] [] kac (Y5 (Y0 (.l 33) (Y4 V0 J0)) (Y4 (Y0 (.l 33) V0) J0))];walk_at "g";walk_at "g";walk_at "g";exact Dl F ⟨by exact bp [_] [] 171801870336 (Y0 J1 (Y0 (.l 33) V0)),by exact aj [_] [] kaa (Y0 (Y0 (.l 33) V0) (.l 64)) (Y1 V0 (.l 32)) h32⟩ fun h=>absurd hw (by exact ay [_] [] kah (Y8 (Y4 (Y4 V0 J0) (.l 4)) J0) (Y4 (Y4 V0 J0) (.l 4)) (Y0 (.l 4) V0) hw h)
  ·walk_at "g";walk_at "g";exact Dl F hn64 fun J=>hn.2
 ·walk_at "g";walk_at "g";exact Dl F hn64 fun J=>hn.2
end Bn
open PySem PySem.W PyProof.Rows Bn
set_option maxRecDepth 100000
set_option maxHeartbeats 8000000
namespace Bn
noncomputable def zg:List Str:=(["is_among","is_text","is_map","is_step","need_kind","is_thing","need_thing","need_alike","put_together","need_lines","is_joint","is_layer","need_net","does_tell"]:List Str)++(["carried","need_things","led","need_telling","walked","moved","side_by_side","parted","paired","one_by_one","doubled","by_halves","by_pairs","_law_cell_at"]:List Str)++(["_law_whole","_law_place","_law_thinner","_law_telling","_law_lines_by","_law_word","_law_tried","_law_made","_law_map","_law_bad_table","_law_crossed","_law_untelling","_law_refused","law"]:List Str)
noncomputable def lU:List (Str×V):=[("KINDS",.tup [.str "sum",.str "most",.str "text",.str "map",.str "step"]),("MOST_NUMBER",.int 1000000000000),("MOST_PLACES",.int 8),("WHOLE",.int 1000003),("MOST_LINES",.int 64),("MOST_LAYERS",.int 80),("MOST_JOINTS",.int 63),("MOST_MAPS",.int 20)]
end Bn
set_option tactic.hygienic true in
theorem PySem.Challenge.cw_uf020024_12_holds : PySem.Challenge.rw_uf020024_12.Holds := by
 w_on;(refine PySem.W.holds_law sC fun said=>?_)
 (refine holds_open (q:=yE) (loose:=[]) (Xt:=fun s=>xlAt yE [] s&&recOk (RowW.records Challenge.rw_uf020024_12.row.toRowW) s) (XP:=XL yE []) (Yf:=Hook.obs (wI _ yp)) (Ya:=Hook.val (wI _ yp)) (YP:=Hook.says (wI _ yp)) (N:=8000) sA (Hook.of (wI _ yp)) (Hook.keeps (wI _ yp)) (fun s e=>xl_of s (gd.mp e).1) XL.keeps (by rfl) (by rfl) (by rfl) (fun s e=>recFacts_of (gd.mp e).2) (by rfl) (by first |assumption |decide +kernel) (by decide +kernel) ⟨rfl,rfl,rfl,rfl,rfl,by decide +kernel⟩ ?hw ?hc);(case hw=>w_witness2)
 intro w s₀ s₁ mg mb G Y fa o pm cd doc dV kV ho hd hcd hD hmg hg args vals as hpre hlay hrd hwl hlo
 refine Ground.open G ?_
 intro T B D TE TW
 have TA:=at_of_top T
 wrow_args hpre hlay hrd hwl hlo
 refine enter_call ?_
 rename_i l _ _ _ _ _ _ _ a vs _ hL _ _ _ hI _ wq _
 obtain⟨e,P,LD,AP⟩:=ux TA (Tb:=xk zg lU) 16 30 0 19 (f:="led") (np:=3) (n:=3) (y:=(Gu,117,32)) (by kernel_rfl)
 have hP:=AP.tab
 let c:Cx:=⟨Challenge.rw_uf020024_12.row.prog,w,s₁.heap.hide P,mg,mb,eB,[(P,(117,32),e.name++".<locals>."++"<lambda>")]⟩
 have hh:iu s₁.heap c:=Be rfl hP
 have O:c.Ok:=sI T hh rfl rfl (T.seer (by decide +kernel)) rfl
 have XO:cH c:=sq (c:=c) (oO hh Y.1) (iU hh T.g) ⟨CS T (by kernel_rfl),(T.builtins _ (by decide +kernel)).trans (by kernel_rfl)⟩
 have NO:eD c:=sj (c:=c) (qS rfl hP Y.2) (iU hh T.g)
 have TO:aX c (xk zg lU):=tu T B rfl rfl hh (by kernel_rfl) (by kernel_rfl) (by kernel_rfl) XO NO (fun J J J h=>h)
 have TD:∀e∈(recsOf Challenge.rw_uf020024_12.row.prog).map W.itemOf,e.params.defaults=[]->cI c e:=fun e he hd=>cI.of hh (TA e he hd)
 have K:dR c:={
  among:=bR (c:=c) TD O TO 0 30 0 (by kernel_rfl)
  lines:=bR (c:=c) TD O TO 9 30 0 (by kernel_rfl)
  joint:=bR (c:=c) TD O TO 10 30 0 (by kernel_rfl)
  layer:=bR (c:=c) TD O TO 11 30 0 (by kernel_rfl)
  net:=bR (c:=c) TD O TO 12 30 0 (by kernel_rfl) }
 have F:fA c:={
  r:={
  f:={
  p:={
  chk:=K
  ismap:=bR (c:=c) TD O TO 2 30 1 (by kernel_rfl)
  thing:=bR (c:=c) TD O TO 5 30 0 (by kernel_rfl)
  put:=bR (c:=c) TD O TO 8 30 1 (by kernel_rfl)
  nkind:=bR (c:=c) TD O TO 4 30 0 (by kernel_rfl)
  nthing:=bR (c:=c) TD O TO 6 30 0 (by kernel_rfl)
  alike:=bR (c:=c) TD O TO 7 30 1 (by kernel_rfl)
  things:=bR (c:=c) TD O TO 15 30 0 (by kernel_rfl)
  led:=pG (c:=c) O TO (sV T hh rfl) (fun J J J h=>h) LD (dG.of hh AP (Heap.hide_self _ _) rfl)
  car:=qR (c:=c) TD O TO 14 30 0 ["net","things"] (by kernel_rfl) }
  does:=bR (c:=c) TD O TO 13 30 1 (by kernel_rfl)
  ntell:=bR (c:=c) TD O TO 17 30 0 (by kernel_rfl)
  walked:=bR (c:=c) TD O TO 18 30 1 (by kernel_rfl)
  word:=bR (c:=c) TD O TO 33 30 0 (by kernel_rfl)
  tried:=bR (c:=c) TD O TO 34 30 0 (by kernel_rfl) }
  bad:=bR (c:=c) TD O TO 37 30 0 (by kernel_rfl)
  unt:=bR (c:=c) TD O TO 39 30 0 (by kernel_rfl)
  cross:=bR (c:=c) TD O TO 38 30 1 (by kernel_rfl) }
  dd:={
  m:={
  chk:=K
  moved:=bR (c:=c) TD O TO 19 30 3 (by kernel_rfl)
  side:=bR (c:=c) TD O TO 20 30 0 (by kernel_rfl)
  parted:=bR (c:=c) TD O TO 21 30 1 (by kernel_rfl)
  paired:=bR (c:=c) TD O TO 22 30 3 (by kernel_rfl)
  halves:=bR (c:=c) TD O TO 25 30 0 (by kernel_rfl)
  pairs:=bR (c:=c) TD O TO 26 30 0 (by kernel_rfl) }
  one:=bR (c:=c) TD O TO 23 30 1 (by kernel_rfl)
  dbl:=bR (c:=c) TD O TO 24 30 1 (by kernel_rfl)
  place:=bR (c:=c) TD O TO 29 30 0 (by kernel_rfl)
  thinner:=bR (c:=c) TD O TO 30 30 0 (by kernel_rfl)
  telling:=bR (c:=c) TD O TO 31 30 3 (by kernel_rfl)
  made:=bR (c:=c) TD O TO 35 30 0 (by kernel_rfl) }
  map:=bR (c:=c) TD O TO 36 30 0 (by kernel_rfl)
  ref:=bR (c:=c) TD O TO 40 30 0 (by kernel_rfl)
  whole:=bR (c:=c) TD O TO 28 30 0 (by kernel_rfl)
  cell:=bR (c:=c) TD O TO 27 30 0 (by kernel_rfl)
  lines:=bR (c:=c) TD O TO 32 30 0 (by kernel_rfl)
  law:=bR (c:=c) TD O TO 41 30 1 (by kernel_rfl) }
 refine lI (c:=c) (d:=500) (vs:=vs) (l:=l) ⟨by decide,by decide,fun J=>rfl,[],rfl,by simp⟩ rfl hP rfl hg hmg hL hI (by have:qag=2^24:=rfl;omega) ?_ ?_
 ·exact lu (d:=409) F
 ·intro s' h1 h2 h3 h4
  refine⟨.inl ⟨.bool true,.bool true,[],rfl,fun J=>?_,.bool true,?_,fun h=>?_⟩,pq AP h1 h2,h3,.of_eq h4⟩
  ·first |rfl |kernel_rfl
  ·first |rfl |kernel_rfl
  ·first |(cases h;done) |exact⟨nB,by simp⟩
