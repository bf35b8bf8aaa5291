import PyProof.Rows.All
import Wide.All
import Wide.FinOn
import Open.Line
import PyProof.TupleOfStr
import KE.KSortTup
import PyProof.ExcBaseAll.ValueError
import PyProof.ExcAttrAll.ValueError
import OpenK.KCls
import PyProof.ExcInit
import PyProof.InstStoreFacts
import PyProof.CodeObjX
import PyProof.DefMake
import PyProof.Rows.PlainStore
import PyProof.OldK
import PySem.Challenge.RW_uf020024_11
set_option Elab.async false
set_option compiler.extract_closed false
set_option compiler.reuse false
set_option linter.all false
set_option tactic.hygienic false
set_option genSizeOf false
set_option genInjectivity false
set_option bootstrap.genMatcherCode false
open Option.some renaming inj->zaa
open List renaming length_map->zab,mem_cons_self->zad,mem_singleton->zaf,mem_cons_of_mem->zag,mem_cons->zah,getElem?_eq_getElem->zai,mem_append->zaj,length_append->zak,getElem?_map->zal,mem_of_getElem?->zam,map_append->zan,getD_eq_getElem?_getD->zao,length_range->zas,lookup_cons->zav,all_eq_true->zaz,map_map->za0,forall_mem_cons->za2,append_nil->za4,map_cons->za5,mem_map->za6,length_cons->zba,append_assoc->zbb,not_mem_nil->zbd,length_take->zbe,length_drop->zbf,length_set->zbg,isEmpty_iff->zbh,getElem?_eq_some_iff->zbn,mem_range->zbo,getElem?_append_right->zbq,length_eq_zero_iff->zbr,getElem?_range->zbs,mem_append_right->zbt,getElem?_append_left->zbu,getElem?_set_self->zbv,nodup_cons->zbw,nodup_nil->zbx,prefix_rfl->zbz,getElem?_set_ne->zb0,getElem?_eq_none->zb2,nodup_append->zb3,drop_eq_getElem_cons->zb5,mem_iff_getElem->zb6,mem_of_find?_eq_some->zb7,mem_append_left->zb8,set_eq_take_append_cons_drop->zcc
open Nat renaming le_trans->zac,le_refl->zae,le_of_lt->zap,ne_of_lt->zar,lt_of_lt_of_le->zat,lt_trans->zau,zero_le->zax,lt_irrefl->zay,eq_of_beq_eq_true->za1,lt_of_le_of_lt->za3,le_of_not_lt->za7,le_of_eq->za8,not_lt->za9,le_add_right->zbi,le_succ_of_le->zbp
open Int renaming ofNat_lt->zaq,ofNat_le->zaw,natCast_nonneg->zbl,toNat_natCast->zb4
open Bool renaming and_eq_true_iff->zbc,false_eq_true->zbk,not_eq_true'->zbm,or_eq_true_iff->zb1
open Array renaming length_toList->zbj,getElem?_eq_getElem->zb9
open Option renaming isNone_iff_eq_none->zby,isSome_iff_exists->zca,bind_eq_some_iff->zcb
open PySem renaming wpAny_bind->qaa,wpAny_mono->qac,wpAny_pure->qad,NameKind->qaf,sizeLine->qag,wpAny_loadPart_at->qai,wpAny_holding->qak,mainGlobals->qan,callEnvC->qaq,cellsFrom->qas,pushCells->qat,mem_of_lookup->qav,wpAny_standAt->qa2,starEach->qa6,relabel->qa8,wpAny_newObj_type->qba,builtinLookup_eq_fast->qbb,wpAny_of_eq->qbd,FuncData->qbe,codeAny_call_builtin->qbh,Program->qbi,wpAny_truthy_bool->qbj,DictEntry->qbk,wpAny_call_entry->qbl,newFunctionEnv->qbm,builtinsNs->qbn,call_isinstance->qbo,pushCells_keeps->qbp,foldedSetIterable->qbr,wpAny_loadName_local->qbt,wpAny_field->qbu,typeLookup_type->qb1,typeLookup->qb2,wpAny_point->qb3,excClassObj->qb4,checkBuiltinCall->qb7,opaqueClassAbove->qb8,wpAny_isSubtype_exc->qb9
open PySem.Str renaming ofString->qab
open PySem.Heap renaming get?_push_of_some->qae,get?_push_size->qah,get?_none_of_le->qal,get?_update_self->qam,get?_update_other->qa0,SameBut->qa4,lt_size->qa5,size_push->qbc,get?_update_ne->qbx
open PySem.NameKind renaming cell->qaj,free->qap
open PySem.Value renaming ref->qao,none->qar,builtin->qa3,type->qbf
open PySem.Obj renaming dropNameByArray->qau,putNameByArray->qay,dropName_eq->qaz,putName_eq->qa7,mapFields->qbq,mapSeq->qbs
open PySem.PyData renaming strOk->qaw
open Ne renaming symm->qax
open PySem.Heap.SameBut renaming update->qa1
open PyProof.Rows renaming DefItem->qa9
open ForInStep renaming yield->qbg
open Prod.mk renaming inj->qbv
open PySem.F renaming isi_meta_tuple->qbw,isi_meta_bool->qbz,isi_meta_list->qb0,isi_meta_int->qb5,isi_meta_str->qb6
open PySem.Value.ref renaming inj->qby
open Classical renaming byContradiction->qca
namespace Bn
theorem xB{α β:Type _}{o:Option α}{f:α->Option β}{b:β}{G:Prop}(k:∀a,o=some a->f a=some b->G)(h:o.bind f=some b):G:=let⟨a,p,q⟩:=zcb.mp h;k a p q
theorem xM{α β:Type _}{o:Option α}{f:α->β}{b:β}{G:Prop}(k:∀a,o=some a->f a=b->G)(h:o.map f=some b):G:=let⟨a,p,q⟩:=Option.map_eq_some_iff.mp h;k a p q
theorem xA{a b:Bool}{G:Prop}(k:a=true->b=true->G)(h:(a&&b)=true):G:=let⟨p,q⟩:=zbc.mp h;k p q
theorem xL{α β:Type _}{f:α->β}{l:List α}{b:β}{G:Prop}(k:∀a,a∈l->f a=b->G)(h:b∈l.map f):G:=let⟨a,p,q⟩:=za6.mp h;k a p q
theorem xS{α:Type}{p:Prop} [Decidable p]{a b:α}{G:Prop}(k:p->a=b->G)(h:(if p then some a else none)=some b):G:=if hp:p then k hp (zaa ((if_pos hp).symm.trans h)) else nomatch (if_neg hp).symm.trans h
theorem xO{α:Type}{p:Prop} [Decidable p]{o:Option α}{b:α}{G:Prop}(k:p->o=some b->G)(h:(if p then o else none)=some b):G:=if hp:p then k hp ((if_pos hp).symm.trans h) else nomatch (if_neg hp).symm.trans h
end Bn
namespace Bn
@[elab_as_elim] theorem xC {α:Type _} {motive:Option α->Prop} (o:Option α) (k:o=none->motive none) (l:∀a,o=some a->motive (some a)):motive o:=match o with
 |none=>k rfl
 |some a=>l a rfl
@[elab_as_elim] theorem xD {motive:Bool->Prop} (o:Bool) (k:o=true->motive true) (l:o=false->motive false):motive o:=match o with
 |true=>k rfl
 |false=>l rfl
theorem no1{α:Type _}{a:α}{P:Prop}(h:none=some a):P:=nomatch h
theorem no2{α:Type _}{a:α}{P:Prop}(h:some a=none):P:=nomatch h
end Bn
namespace Bn
@[elab_as_elim] theorem rw1 {α:Sort u} {b:α} {motive:α->Prop} {a:α} (h:a=b) (x:motive b):motive a:=h▸x
@[elab_as_elim] theorem rw2 {α:Sort u} {a:α} {motive:α->Prop} {b:α} (h:a=b) (x:motive a):motive b:=h▸x
end Bn
local macro_rules | `(tactic| rw[$rs,*])=>do
 let ts<-rs.getElems.mapM fun r=>do
  let h:Lean.Term:=⟨r.raw[1]⟩
  let n:=Lean.mkIdent (if r.raw[0].isNone then `Bn.rw1 else `Bn.rw2)
  `(tactic| first |refine $n ($h ..) ?_ |rewrite [$r])
 `(tactic| ($[$ts]*;try with_reducible rfl))
section
open PySem PySem.W PySem.Calls PyProof.Rows
set_option maxRecDepth 100000
set_option maxHeartbeats 8000000
namespace Bn
noncomputable def kids:List Str:=["BadNet","BadLines","BadThing","BadKind","NoNet"]
noncomputable def vbm:List Value:=[.type "ValueError",.type "Exception",.type "BaseException",.type "object"]
noncomputable def zd8:List Str:=["__getattribute__","__getattr__","__class__","at","__setattr__"]
noncomputable def ownB(h:Heap)(name:Str)(bm:List Value)(ini:Bool):Bool:=match h.clsAt qan name with
 |some (C,o,cd)=>decide (o.cls=.type "type")&&(decide (cd.mro=.ref C::bm)&&(!cd.hasDel&&(cd.hasDict&&(decide (o.slots.size=6)&&(decide (o.slots[4]?=some (some (.builtin "ValueError.__new__")))&&(h.isNs cd.ns&&(zd8.all (fun n=>(h.nsMap cd.ns n).isNone)&&(!ini||(h.nsMap cd.ns "__init__").isNone))))))))
 |none=>false
noncomputable def refOf:Option Value->Option Addr
 |some (.ref a)=>some a
 |_=>none
noncomputable def ziy{α:Type} [DecidableEq α]:List α->Bool
 |[]=>true
 |x::r=>decide (x∉r)&&ziy r
noncomputable def excB(h:Heap):Bool:=h.isNs qan&&(match refOf (h.nsMap qan (qab "NetError")) with
 |some NE=>ownB h (qab "NetError") vbm true&&(kids.all (fun cn=>ownB h cn (.ref NE::vbm) (decide (cn≠qab "BadNet")))&&ziy (.ref NE::kids.map fun cn=>(h.nsMap qan cn).getD .none))
 |none=>false)
noncomputable def zlu(p1 apos p2 p3 pos p4 p5 p6 p7 p8:Pos)(k:Nat):List Stmt:=
 [.Expr (.Call (.Attribute (.Name "NetError" p1) "__init__" apos) [.Name "self" p2,.Constant (.str "no net") k p3] [] pos) p4,.Assign [.Attribute (.Name "self" p5) "at" p6] (.Name "at" p7) p8]
noncomputable def zjh:List (Str×qaf):=[(qab "self",.local),(qab "at",.local),(qab "NetError",.globalImplicit)]
noncomputable def zmu (p:qbi):List Stmt:=(p.main.body.findSome? fun st=>match st with
 |.ClassDef nm _ _ body _ _ _ _ _ _ _=>if nm=qab "BadNet" then(match body with |.FunctionDef _ _ b _ _ _ _ _ _ _::_=>some b |_=>none) else none
 |_=>none).getD []
structure InitPos where
 p1:Pos
 apos:Pos
 p2:Pos
 p3:Pos
 pos:Pos
 p4:Pos
 p5:Pos
 p6:Pos
 p7:Pos
 p8:Pos
 k:Nat
noncomputable def zlz:List Stmt->Option InitPos
 |[.Expr (.Call (.Attribute (.Name _ p1) _ apos) [.Name _ p2,.Constant _ k p3] _ pos) p4,.Assign [.Attribute (.Name _ p5) _ p6] (.Name _ p7) p8]=>some ⟨p1,apos,p2,p3,pos,p4,p5,p6,p7,p8,k⟩
 |_=>none
noncomputable def InitPos.body(q:InitPos):List Stmt:=zlu q.p1 q.apos q.p2 q.p3 q.pos q.p4 q.p5 q.p6 q.p7 q.p8 q.k
noncomputable def zg9(p:qbi):Option FuncBody:=(zlz (zmu p)).map fun q=>.stmts q.body
noncomputable def zs2(p:qbi):Bool:=((zlz (zmu p)).map fun q=>q.apos.endLine==q.pos.line).getD false
noncomputable def strIs(q:Str)(v:Option Value):Bool:=match v with
 |some (Value.str y _)=>decide (y=q)
 |_=>false
noncomputable def fldB(q:Str)(o:Obj):Bool:=match o.data with
 |.fields vs=>strIs q vs[1]?
 |_=>false
noncomputable def codeB(h:Heap)(cd:Value)(q:Str):Bool:=match cd with
 |.ref c=>((h.get? c).map (fldB q)).getD false
 |_=>false
noncomputable def isNoV:Value->Bool
 |.none=>true
 |_=>false
noncomputable def fdB(h:Heap)(o:Obj)(fd:qbe):Bool:=
 decide (o.cls=.type "function")&&(codeB h fd.code fd.qualname&&(decide (fd.closure=[])&&(decide (fd.globals=qan/\fd.builtins=qbn/\fd.scope.kind=.function/\fd.scope.isCoroutine=false/\fd.scope.isGenerator=false/\fd.scope.names=zjh) &&
  (isNoV fd.defaults&&(isNoV fd.kwdefaults&&(fd.params.posonlyargs.isEmpty&&(fd.params.kwonlyargs.isEmpty&&(fd.params.vararg.isNone&&(fd.params.kwarg.isNone&&decide (fd.params.args.map (·.arg)=[qab "self",qab "at"]))))))))))
noncomputable def fnOf(h:Heap)(o:Obj):Option FuncBody:=match o.data with
 |.func fd=>if fdB h o fd=true then some fd.body else none
 |_=>none
noncomputable def netB(h:Heap):Option FuncBody:=match h.clsAt qan (qab "BadNet") with
 |some (_,_,cd)=>(refOf (h.nsMap cd.ns "__init__")).bind fun f=>(h.get? f).bind fun o=>if h.isNs cStatics=true/\h.nsMap cStatics "thirdparty.any"=none then fnOf h o else none
 |none=>none
noncomputable def zna:qbi:={ Challenge.rw_uf020024_11.row.prog with main:={ Challenge.rw_uf020024_11.row.prog.main with body:=([1,2,3,4,5,6,8,9,10,11,12,13,14,15,16,17,18,19,20,21,22,24,25,26,27,28,29,30,31,32,33,34,36,37,39,40,41,42,44,45,46,47,49,50,51,52,53,54,55,56,57,58,59,60,61,62,63]:List Nat).filterMap fun i=>Challenge.rw_uf020024_11.row.prog.main.body[i]? } }
theorem zoc:zs2 Challenge.rw_uf020024_11.row.prog=true:=by kernel_rfl
theorem said11:Challenge.rw_uf020024_11.wellSaid=true:=by kernel_rfl
theorem left11:LeftO Challenge.rw_uf020024_11.row.prog zna [] (fun s=>xlAt zna [] s&&recOk (RowW.records Challenge.rw_uf020024_11.row.toRowW) s) (fun s=>(excB s.heap,netB s.heap)) (fun J=>(true,zg9 Challenge.rw_uf020024_11.row.prog)) 8000:=by intro w;kernel_rfl
end Bn
end
namespace Ar
inductive Nd where
 |l (k:Nat) |v (i:Nat) |b (t:Nat)(x y:Nd)
noncomputable def nthA{α:Type}(z:α)(l:List α):Nat->α:=List.rec (fun J=>z) (fun x J ih i=>Nat.rec x (fun j J=>ih j) i) l
noncomputable def vN(c:List Nat)(e:Nd):Nat:=
 (fun _:Nat=>Nd.rec (fun k=>k) (fun i=>List.rec (fun J=>0) (fun x J ih i=>Nat.rec x (fun j J=>ih j) i) c i) (fun t J J X Y=>cond (t.beq 0) (X+Y) (cond (t.beq 1) (X*Y) (cond (t.beq 2) (X-Y) (cond (t.beq 3) (X/Y) (cond (t.beq 4) (X%Y) (min X Y)))))) e) PySem.sizeLine
noncomputable def vZ(c:List Nat)(z:List Int)(e:Nd):Int:=
 Nd.rec (fun k=>(k:Int)) (fun i=>nthA 0 z i) (fun t x J X Y=>cond (t.beq 0) (X+Y) (cond (t.beq 1) (X*Y) (cond (t.beq 2) (X-Y) (cond (t.beq 3) (-X) ((vN c x:Nat):Int))))) e
def vP(c:List Nat)(z:List Int)(e:Nd):Prop:=
 Nd.rec (fun J=>False) (fun J=>False) (fun t x y X Y=>cond (t.beq 0) (vN c x<=vN c y) (cond (t.beq 1) (vN c x<vN c y) (cond (t.beq 2) (vN c x=vN c y)
  (cond (t.beq 3) (vZ c z x<=vZ c z y) (cond (t.beq 4) (vZ c z x<vZ c z y) (cond (t.beq 5) (vZ c z x=vZ c z y)
  (cond (t.beq 6) (X/\Y) (cond (t.beq 7) (X\/Y) (¬X))))))))) e
noncomputable def same(e:Nd):Nd->Bool:=
 Nd.rec (fun k f=>Nd.rec (fun j=>k.beq j) (fun J=>false) (fun J J J J J=>false) f) (fun k f=>Nd.rec (fun J=>false) (fun j=>k.beq j) (fun J J J J J=>false) f)
  (fun t J J X Y f=>Nd.rec (fun J=>false) (fun J=>false) (fun u x y J J=>cond (t.beq u) (cond (X x) (Y y) false) false) f) e
theorem zu0(e:Nd):∀f,same e f=true->e=f:=by
 induction e with
 |l k=>intro f h;cases f with
  |l j=>rw[za1 h]
  |v j=>exact nomatch h
  |b t x y=>exact nomatch h
 |v k=>intro f h;cases f with
  |l j=>exact nomatch h
  |v j=>rw[za1 h]
  |b t x y=>exact nomatch h
 |b t x y ihx ihy=>intro f h;cases f with
  |l j=>exact nomatch h
  |v j=>exact nomatch h
  |b u x' y'=>
   replace h:cond (t.beq u) (cond (same x x') (same y y') false) false=true:=h
   refine Bn.xD (t.beq u) (fun h1=>?_) fun h1=>?_
   ·rw[h1] at h;replace h:cond (same x x') (same y y') false=true:=h
    refine Bn.xD (same x x') (fun h2=>?_) fun h2=>?_
    ·rw[h2] at h;rw[za1 h1,ihx _ h2,ihy _ h]
    ·rw[h2] at h;exact nomatch h
   ·rw[h1] at h;exact nomatch h
abbrev Lin:=List (Int×Bool×Nd)
section
variable (c:List Nat)(z:List Int)
noncomputable def atV(s:Bool)(a:Nd):Int:=cond s (vN c a:Int) (vZ c z a)
noncomputable def val(l:Lin):Int:=List.rec 0 (fun p J ih=>p.1*atV c z p.2.1 p.2.2+ih) l
noncomputable def put (k:Int) (s:Bool) (a:Nd) (l:Lin):Lin:=List.rec [(k,s,a)] (fun p r ih=>cond (cond (s==p.2.1) (same a p.2.2) false) ((k+p.1,s,a)::r) (p::ih)) l
theorem zfm (k:Int) (s:Bool) (a:Nd) (l:Lin):val c z (put k s a l)=k*atV c z s a+val c z l:=by
 induction l with
 |nil=>rfl
 |cons p r ih=>
  show val c z (cond (cond (s==p.2.1) (same a p.2.2) false) ((k+p.1,s,a)::r) (p::put k s a r))=k*atV c z s a+(p.1*atV c z p.2.1 p.2.2+val c z r)
  refine Bn.xD (cond (s==p.2.1) (same a p.2.2) false) (fun h=>?_) fun h=>?_
  ·refine Bn.xD (s==p.2.1) (fun h1=>?_) fun h1=>?_
   ·rw[h1] at h
    show(k+p.1)*atV c z s a+val c z r=_
    rw[<- eq_of_beq h1,<-zu0 _ _ h,Int.add_mul,Int.add_assoc]
   ·rw[h1] at h;exact nomatch h
  ·show p.1*atV c z p.2.1 p.2.2+val c z (put k s a r)=_
   rw[ih];exact Int.add_left_comm ..
noncomputable def litN(e:Nd):Option Nat:=Nd.rec some (fun J=>none) (fun J J J J J=>none) e
theorem zpi{e:Nd}{n:Nat}(h:litN e=some n):e=.l n:=by
 cases e with
 |l k=>rw[zaa h]
 |v _=>exact nomatch h
 |b _ _ _=>exact nomatch h
noncomputable def linN(e:Nd):Int->Lin->Lin:=
 Nd.rec (fun n k L=>put (k*n) true (.l 1) L) (fun i k L=>put k true (.v i) L)
  (fun t x y X Y k L=>cond (t.beq 0) (X k (Y k L)) (cond (t.beq 1) (Option.rec (Option.rec (put k true (.b t x y) L) (fun n=>X (k*n) L) (litN y)) (fun n=>Y (k*n) L) (litN x)) (put k true (.b t x y) L))) e
theorem zmb(e:Nd):∀k L,val c z (linN e k L)=k*(vN c e:Int)+val c z L:=by
 induction e with
 |l n=>intro k L;exact(zfm c z _ _ _ _).trans (by show k*n*((1:Nat):Int)+_=_;rw[Int.natCast_one,Int.mul_one];rfl)
 |v i=>intro k L;exact zfm c z _ _ _ _
 |b t x y X Y=>
  intro k L
  show val c z (cond (t.beq 0) (linN x k (linN y k L)) (cond (t.beq 1) (Option.rec (Option.rec (put k true (.b t x y) L) (fun n=>linN x (k*n) L) (litN y)) (fun n=>linN y (k*n) L) (litN x)) (put k true (.b t x y) L)))=_
  refine Bn.xD (t.beq 0) (fun h0=>?_) fun h0=>?_
  ·obtain rfl:=za1 h0
   show val c z (linN x k (linN y k L))=k*((vN c x+vN c y:Nat):Int)+_
   rw[X,Y,Int.natCast_add,Int.mul_add,Int.add_assoc]
  ·refine Bn.xD (t.beq 1) (fun h1=>?_) fun h1=>?_
   ·obtain rfl:=za1 h1
    show val c z (Option.rec (Option.rec (put k true (.b 1 x y) L) (fun n=>linN x (k*n) L) (litN y)) (fun n=>linN y (k*n) L) (litN x))=k*((vN c x*vN c y:Nat):Int)+_
    refine Bn.xC (litN x) (fun hx=>?_) fun n hx=>?_
    ·refine Bn.xC (litN y) (fun hy=>?_) fun n hy=>?_
     ·exact zfm c z _ _ _ _
     ·rw[zpi hy]
      show val c z (linN x (k*n) L)=k*((vN c x*n:Nat):Int)+_
      rw[X,Int.natCast_mul,Int.mul_assoc,Int.mul_comm (n:Int)]
    ·rw[zpi hx]
     show val c z (linN y (k*n) L)=k*((n*vN c y:Nat):Int)+_
     rw[Y,Int.natCast_mul,Int.mul_assoc]
   ·exact zfm c z _ _ _ _
noncomputable def linZ(e:Nd):Int->Lin->Lin:=
 Nd.rec (fun n k L=>put (k*n) true (.l 1) L) (fun i k L=>put k false (.v i) L)
  (fun t x y X Y k L=>cond (t.beq 0) (X k (Y k L)) (cond (t.beq 2) (X k (Y (-k) L)) (cond (t.beq 3) (X (-k) L) (cond (t.beq 4) (linN x k L)
   (cond (t.beq 1) (Option.rec (put k false (.b t x y) L) (fun n=>Y (k*n) L) (litN x)) (put k false (.b t x y) L)))))) e
theorem zq1(e:Nd):∀k L,val c z (linZ e k L)=k*vZ c z e+val c z L:=by
 induction e with
 |l n=>intro k L;exact(zfm c z _ _ _ _).trans (by show k*n*((1:Nat):Int)+_=_;rw[Int.natCast_one,Int.mul_one];rfl)
 |v i=>intro k L;exact zfm c z _ _ _ _
 |b t x y X Y=>
  intro k L
  show val c z (cond (t.beq 0) (linZ x k (linZ y k L)) (cond (t.beq 2) (linZ x k (linZ y (-k) L)) (cond (t.beq 3) (linZ x (-k) L) (cond (t.beq 4) (linN x k L)
   (cond (t.beq 1) (Option.rec (put k false (.b t x y) L) (fun n=>linZ y (k*n) L) (litN x)) (put k false (.b t x y) L))))))=_
  cases h0:t.beq 0 with
  |true=>
   obtain rfl:=za1 h0
   show val c z (linZ x k (linZ y k L))=k*(vZ c z x+vZ c z y)+_
   rw[X,Y,Int.mul_add,Int.add_assoc]
  |false=>
  cases h2:t.beq 2 with
  |true=>
   obtain rfl:=za1 h2
   show val c z (linZ x k (linZ y (-k) L))=k*(vZ c z x-vZ c z y)+_
   rw[X,Y,Int.mul_sub,Int.sub_eq_add_neg,Int.neg_mul,Int.add_assoc]
  |false=>
  cases h3:t.beq 3 with
  |true=>
   obtain rfl:=za1 h3
   show val c z (linZ x (-k) L)=k*(- vZ c z x)+_
   rw[X,Int.neg_mul,Int.mul_neg]
  |false=>
  cases h4:t.beq 4 with
  |true=>
   obtain rfl:=za1 h4
   exact zmb c z x k L
  |false=>
  refine Bn.xD (t.beq 1) (fun h1=>?_) fun h1=>?_
  ·obtain rfl:=za1 h1
   show val c z (Option.rec (put k false (.b 1 x y) L) (fun n=>linZ y (k*n) L) (litN x))=k*(vZ c z x*vZ c z y)+_
   refine Bn.xC (litN x) (fun hx=>?_) fun n hx=>?_
   ·exact zfm c z _ _ _ _
   ·rw[zpi hx]
    show val c z (linZ y (k*n) L)=k*((n:Int)*vZ c z y)+_
    rw[Y,Int.mul_assoc]
  ·exact zfm c z _ _ _ _
noncomputable def addF(k:Int)(s:Bool)(d:Int)(x y:Nd)(L:Lin):Lin:=put (k*d) true (.l 1) (cond s (linN y k (linN x (-k) L)) (linZ y k (linZ x (-k) L)))
theorem zq7(k:Int)(s:Bool)(d:Int)(x y:Nd)(L:Lin):val c z (addF k s d x y L)=k*(d+(atV c z s y-atV c z s x))+val c z L:=by
 refine(zfm c z _ _ _ _).trans ?_
 have e:val c z (cond s (linN y k (linN x (-k) L)) (linZ y k (linZ x (-k) L)))=k*(atV c z s y-atV c z s x)+val c z L:=by
  rw[Int.mul_sub,Int.sub_eq_add_neg,<-Int.neg_mul,Int.add_assoc] at ⊢
  cases s
  ·exact(zq1 c z _ _ _).trans (congrArg _ (zq1 c z _ _ _))
  ·exact(zmb c z _ _ _).trans (congrArg _ (zmb c z _ _ _))
 rw[e,show atV c z true (.l 1)=1 from rfl,Int.mul_one,Int.mul_add,Int.add_assoc] at ⊢
noncomputable def shape(f:Nd):Option (Bool×Bool×Int×Nd×Nd):=
 Nd.rec (fun J=>none) (fun J=>none) (fun t x y J J=>cond (t.beq 0) (some (false,true,0,x,y)) (cond (t.beq 1) (some (false,true,-1,x,y)) (cond (t.beq 2) (some (true,true,0,x,y))
  (cond (t.beq 3) (some (false,false,0,x,y)) (cond (t.beq 4) (some (false,false,-1,x,y)) (cond (t.beq 5) (some (true,false,0,x,y)) (cond (t.beq 8)
   (Nd.rec (fun J=>none) (fun J=>none) (fun t x y J J=>cond (t.beq 0) (some (false,true,-1,y,x)) (cond (t.beq 1) (some (false,true,0,y,x)) (cond (t.beq 3) (some (false,false,-1,y,x)) (cond (t.beq 4) (some (false,false,0,y,x)) none)))) x)
   none))))))) f
variable {c z} in
theorem zcr{α:Type}{b:Bool}{x y:α}{P:Prop}{a:α}(h1:b=true->x=a->P)(h2:b=false->y=a->P)(h:cond b x y=a):P:=by
 cases b
 ·exact h2 rfl h
 ·exact h1 rfl h
def Sh(q s:Bool)(d:Int)(x y:Nd):Prop:=(q=true->d+(atV c z s y-atV c z s x)=0)/\0<=d+(atV c z s y-atV c z s x)
theorem sh_le{s:Bool}{x y:Nd}(h:atV c z s x<=atV c z s y):Sh c z false s 0 x y:=⟨nofun,by rw[Int.zero_add];exact Int.sub_nonneg_of_le h⟩
theorem sh_lt{s:Bool}{x y:Nd}(h:atV c z s x<atV c z s y):Sh c z false s (-1) x y:=⟨nofun,by rw[Int.add_comm];exact Int.sub_nonneg_of_le (Int.sub_pos_of_lt h)⟩
theorem sh_eq{s:Bool}{x y:Nd}(h:atV c z s x=atV c z s y):Sh c z true s 0 x y:=⟨fun J=>by rw[h,Int.sub_self];rfl,by rw[h,Int.sub_self];decide⟩
theorem shape_ok{f:Nd}{p:Bool×Bool×Int×Nd×Nd}(h:shape f=some p)(hf:vP c z f):Sh c z p.1 p.2.1 p.2.2.1 p.2.2.2.1 p.2.2.2.2:=by
 cases f with
 |l _=>exact nomatch h
 |v _=>exact nomatch h
 |b t a b=>
  revert h
  refine zcr (fun e h=>?_) fun J=>zcr (fun e h=>?_) fun J=>zcr (fun e h=>?_) fun J=>zcr (fun e h=>?_) fun J=>zcr (fun e h=>?_) fun J=>zcr (fun e h=>?_) fun J=>zcr (fun e h=>?_) fun J h=>nomatch h
  all_goals obtain rfl:=za1 e
  ·rw[<- zaa h];exact sh_le c z (s:=true) (zaw.mpr hf)
  ·rw[<- zaa h];exact sh_lt c z (s:=true) (zaq.mpr hf)
  ·rw[<- zaa h];exact sh_eq c z (s:=true) (congrArg Int.ofNat hf)
  ·rw[<- zaa h];exact sh_le c z (s:=false) hf
  ·rw[<- zaa h];exact sh_lt c z (s:=false) hf
  ·rw[<- zaa h];exact sh_eq c z (s:=false) hf
  ·cases a with
   |l _=>exact nomatch h
   |v _=>exact nomatch h
   |b t a b=>
    revert h
    refine zcr (fun e h=>?_) fun J=>zcr (fun e h=>?_) fun J=>zcr (fun e h=>?_) fun J=>zcr (fun e h=>?_) fun J h=>nomatch h
    all_goals obtain rfl:=za1 e
    ·rw[<- zaa h];exact sh_lt c z (s:=true) (zaq.mpr (Nat.lt_of_not_le hf))
    ·rw[<- zaa h];exact sh_le c z (s:=true) (zaw.mpr (za7 hf))
    ·rw[<- zaa h];exact sh_lt c z (s:=false) (Int.lt_of_not_ge hf)
    ·rw[<- zaa h];exact sh_le c z (s:=false) (Int.le_of_not_gt hf)
end
end Ar
noncomputable def Ar.kaa:=0xa5000610000308020
noncomputable def Ar.kab:=0x294a000c20000610040308040
noncomputable def Ar.kac:=0x628003080002800308000
noncomputable def Ar.kad:=0x6294001840200c20000a5000810080308000
noncomputable def Ar.kae:=0xa5000610000310020
noncomputable def Ar.kaf:=0x294a000c20000610080308020
noncomputable def Ar.kag:=0xa5000610040308040
noncomputable def Ar.kah:=0x1a085294001840600c203806100400014a000c20200610000508001
noncomputable def Ar.kai:=0x65294001840300c20200610000508001
noncomputable def Ar.kaj:=0x6294001840200c20000a50006100c0308000
noncomputable def Ar.kak:=0xa5294001840000c20080610080308060
noncomputable def Ar.kal:=0x294a528003080001840100c201006100c0408080
noncomputable def Ar.kam:=0x6294001840300c20000a5000610080308000
noncomputable def Ar.kan:=0x429400184020102000000
noncomputable def Ar.kao:=0x68214a000c203806100000014a000c20200610000508001
noncomputable def Ar.kap:=0x294a000c20000610040408040
noncomputable def Ar.kaq:=0x10a52800308040184030102000000
noncomputable def Ar.kar:=0x7294001840300c20000a5000610040308000
noncomputable def Ar.kas:=0x18a50006100803080002800308000
noncomputable def Ar.kat:=0x61a085294001840800c203006100400014a000c20200610000500421194a000c20180610040500421
noncomputable def Ar.kau:=0x1c852800308020184000040429400184010102000020
noncomputable def Ar.kav:=0x1c852800310020184000040429400188010102000020
noncomputable def Ar.kaw:=0xc3294001840200c20080e200c202002202065294001840300c40100810000710061010011006528003100401840001c401840400440
noncomputable def Ar.kax:=0x65294001880200c20180610000610001
noncomputable def Ar.kay:=0x194a528003080601840400c20280610000808401
noncomputable def Ar.kaz:=0x7294001840100c20000a5000610040308000
noncomputable def Ar.kba:=0x8194a50006101403080601840101420084a5000610040308000
noncomputable def Ar.kbb:=0x68210a528003081001840200c2008020200852800308020184000100508001
noncomputable def Ar.kbc:=0x1a085294a000c203006101c03081001840100005294001840400c20300610000508001
noncomputable def Ar.kbd:=0x7490e4214a5000610100308060184010140401884294a000c20200610080308000300a0294001840000c2010040210a528003080801840200c200006010124214a50006101403080401840000802010a528003080601840200c2000040
noncomputable def Ar.kbe:=0x84390e5280030806018400018a50006100003080a0294001840000c2010080310a5000610080308000280a500061000030804000000
noncomputable def Ar.kbf:=0x68190a5294001840900c20500610080308020180a10942000465294001840700c201806100005084a10002508001
noncomputable def Ar.kbg:=0xd03214a528003081201840a00c2018061004030142100465294001840700c2018061004050840128c2008401
noncomputable def Ar.kbh:=0x30d04294001840800c2000000194a50006101c03080601840101421004a108c2000468190a5294001840b00c204806100c0308020180a108c2000465294001840700c201806100405084610002508401
noncomputable def Ar.kbi:=0x1868214a000c203006100400014a000c202006100005080610100110065280030806018401014201840400440
noncomputable def Ar.kbj:=0x6194a50008101003080401840001c4000465294001840400c20100810000710001
noncomputable def Ar.kbk:=0x18ca5294a000c402008101403080c01840200c20080c20042710001
noncomputable def Ar.kbl:=0xd04294001840700c2000000194a528003080c01880800c201006100006100a10042508021
noncomputable def Ar.kbm:=0x6210a500061010030802008040210a500061010030800008040
noncomputable def Ar.kbn:=0x68214a50006101803080601840000005294001840400c20280610000508001
noncomputable def Ar.kbo:=0x6194a000c201806100405080011a085294001840800c203006100400014a000c20200610000508001
noncomputable def Ar.kbp:=0x8214a000c201806100000010a528003080601840400c2000000
noncomputable def Ar.kbq:=0x3294a5280030806018404010202808101803080002882508021
open Ar
namespace Ar
section
variable (c:List Nat)(z:List Int)
noncomputable def useF(g:Bool)(m:Nat)(f:Nd)(L:Lin):Lin:=
 Option.rec L (fun p=>cond g (cond p.1 (addF (-(m:Int)) p.2.1 p.2.2.1 p.2.2.2.1 p.2.2.2.2 L) L) (addF m p.2.1 p.2.2.1 p.2.2.2.1 p.2.2.2.2 L)) (shape f)
theorem useF_ok{g:Bool}{m:Nat}{f:Nd}{L:Lin}(hf:vP c z f)(h:0<=val c z L):0<=val c z (useF g m f L):=by
 show 0<=val c z (Option.rec L _ (shape f))
 refine Bn.xC (shape f) (fun e=>?_) fun p e=>?_
 ·exact h
 ·obtain⟨h1,h2⟩:=shape_ok c z e hf
  cases g with
  |false=>
   show 0<=val c z (addF m p.2.1 p.2.2.1 p.2.2.2.1 p.2.2.2.2 L)
   rw[zq7];exact Int.add_nonneg (Int.mul_nonneg (zbl m) h2) h
  |true=>
   show 0<=val c z (cond p.1 (addF (-(m:Int)) p.2.1 p.2.2.1 p.2.2.2.1 p.2.2.2.2 L) L)
   refine Bn.xD p.1 (fun e=>?_) fun e=>?_
   ·show 0<=val c z (addF (-(m:Int)) p.2.1 p.2.2.1 p.2.2.2.1 p.2.2.2.2 L)
    rw[zq7,h1 e,Int.mul_zero,Int.zero_add];exact h
   ·exact h
noncomputable def ub(L:Lin):Option Int:=
 List.rec (some 0) (fun p J ih=>Option.rec none (fun u=>cond (cond p.2.1 (same p.2.2 (.l 1)) false) (some (p.1+u)) (cond (p.1==0) (some u) (cond p.2.1 (cond (decide (p.1<=0)) (some u) none) none))) ih) L
theorem ub_ok(L:Lin):∀u,ub L=some u->val c z L<=u:=by
 induction L with
 |nil=>intro u h;rw[<- zaa h];exact Int.le_refl 0
 |cons p r ih=>
  intro u h
  obtain⟨k,s,a⟩:=p
  replace h:Option.rec none (fun u=>cond (cond s (same a (.l 1)) false) (some (k+u)) (cond (k==0) (some u) (cond s (cond (decide (k<=0)) (some u) none) none))) (ub r)=some u:=h
  show k*atV c z s a+val c z r<=u
  refine Bn.xC (ub r) (fun e=>?_) fun w e=>?_
  ·rw[e] at h;exact nomatch h
  ·have hr:=ih w e
   rw[e] at h
   revert h
   refine zcr (fun e1 h=>?_) fun J=>zcr (fun e1 h=>?_) fun J h=>?_
   ·rw[<- zaa h]
    cases s with
    |false=>exact nomatch e1
    |true=>
     rw[zu0 _ _ e1]
     exact Int.add_le_add (Int.le_of_eq (Int.mul_one k)) hr
   ·rw[<- zaa h,eq_of_beq e1,Int.zero_mul,Int.zero_add];exact hr
   ·cases s with
    |false=>exact nomatch h
    |true=>
     replace h:cond (decide (k<=0)) (some w) none=some u:=h
     revert h
     refine zcr (fun e1 h=>?_) fun J h=>nomatch h
     rw[<- zaa h]
     have:=Int.mul_nonneg (Int.neg_nonneg_of_nonpos (of_decide_eq_true e1)) (zbl (vN c a))
     rw[Int.neg_mul] at this
     have h2:k*atV c z true a<=0:=Int.nonpos_of_neg_nonneg this
     exact Int.le_trans (Int.add_le_add h2 hr) (Int.le_of_eq (Int.zero_add w))
noncomputable def fin(L:Lin):Bool:=Option.rec false (fun u=>decide (u<0)) (ub L)
theorem fin_ok{L:Lin}(h:fin L=true)(h0:0<=val c z L):False:=by
 replace h:Option.rec false (fun u=>decide (u<0)) (ub L)=true:=h
 refine Bn.xC (ub L) (fun e=>?_) fun u e=>?_
 ·rw[e] at h;exact nomatch h
 ·rw[e] at h;exact Int.not_lt.mpr (Int.le_trans h0 (ub_ok c z L u e)) (of_decide_eq_true h)
abbrev AllP (F:List Nd):Prop:=∀f∈F,vP c z f
noncomputable def nf(F:List Nd)(i:Nat):Nd:=nthA (.b 8 (.l 0) (.l 0)) F i
theorem nf_ok{F:List Nd}(h:AllP c z F):∀i,vP c z (nf F i):=by
 induction F with
 |nil=>exact fun _ (x:False)=>x
 |cons f r ih=>
  intro i
  cases i with
  |zero=>exact h f zad
  |succ i=>exact ih (fun g hg=>h g (zag _ hg)) i
noncomputable def kid(e:Nd):Nat:=Nd.rec (fun k=>k) (fun k=>k) (fun J J J J J=>0) e
noncomputable def comb(e:Nd):List Nd->Lin->Lin:=
 Nd.rec (fun J J L=>L) (fun J J L=>L) (fun J x J J Y F L=>Y F (Nd.rec (fun J=>L) (fun J=>L) (fun s i m J J=>useF (s.beq 1) (kid m) (nf F (kid i)) L) x)) e
theorem comb_ok(e:Nd):∀F L,AllP c z F->0<=val c z L->0<=val c z (comb e F L):=by
 induction e with
 |l _=>exact fun J J J h=>h
 |v _=>exact fun J J J h=>h
 |b t x y _ Y=>
  intro F L hF h
  refine Y F _ hF ?_
  cases x with
  |l _=>exact h
  |v _=>exact h
  |b s i m=>exact useF_ok c z (nf_ok c z hF _) h
noncomputable def lem(e:Nd):List Nd:=
 Nd.rec (fun J=>[]) (fun J=>[]) (fun t x y J J=>cond (t.beq 2) [.b 0 (.b 2 x y) x,.b 0 x (.b 0 (.b 2 x y) y),.b 7 (.b 2 (.b 0 (.b 2 x y) y) x) (.b 6 (.b 0 x y) (.b 2 (.b 2 x y) (.l 0)))]
  (cond (t.beq 5) [.b 0 (.b 5 x y) x,.b 0 (.b 5 x y) y,.b 7 (.b 2 (.b 5 x y) x) (.b 2 (.b 5 x y) y)]
  (Option.rec [] (fun k=>cond (k.beq 0) [] (cond (t.beq 3) [.b 0 (.b 1 (.l k) (.b 3 x (.l k))) x,.b 1 x (.b 0 (.b 1 (.l k) (.b 3 x (.l k))) (.l k))]
   (cond (t.beq 4) [.b 2 (.b 0 (.b 1 (.l k) (.b 3 x (.l k))) (.b 4 x (.l k))) x,.b 1 (.b 4 x (.l k)) (.l k)] []))) (litN y)))) e
theorem all2{p:Nd->Prop}{a b:Nd}(h1:p a)(h2:p b):∀f∈[a,b],p f:=za2.mpr ⟨h1,za2.mpr ⟨h2,fun J h=>nomatch h⟩⟩
theorem all1{p:Nd->Prop}{a:Nd}(h1:p a):∀f∈[a],p f:=za2.mpr ⟨h1,fun J h=>nomatch h⟩
theorem lem_ok(e:Nd):AllP c z (lem e):=by
 cases e with
 |l _=>exact fun J h=>nomatch h
 |v _=>exact fun J h=>nomatch h
 |b t x y=>
  refine Bn.xD (t.beq 2) (fun h2=>?_) fun h2=>?_
  ·obtain rfl:=za1 h2
   refine za2.mpr ⟨Nat.sub_le (vN c x) (vN c y),all2 (p:=vP c z) (Nat.le_add_of_sub_le (zae (vN c x-vN c y))) ?_⟩
   show vN c x-vN c y+vN c y=vN c x\/(vN c x<=vN c y/\vN c x-vN c y=0)
   exact(Nat.le_total (vN c y) (vN c x)).elim (fun h=>.inl (Nat.sub_add_cancel h)) fun h=>.inr ⟨h,Nat.sub_eq_zero_of_le h⟩
  ·show ∀f∈cond (t.beq 2) _ _,vP c z f
   rw[h2]
   show ∀f∈cond (t.beq 5) _ _,vP c z f
   refine Bn.xD (t.beq 5) (fun h5=>?_) fun h5=>?_
   ·obtain rfl:=za1 h5
    refine za2.mpr ⟨Nat.min_le_left (vN c x) (vN c y),all2 (p:=vP c z) (Nat.min_le_right (vN c x) (vN c y)) ?_⟩
    show min (vN c x) (vN c y)=vN c x\/min (vN c x) (vN c y)=vN c y
    exact(Nat.le_total (vN c x) (vN c y)).elim (fun h=>.inl (Nat.min_eq_left h)) fun h=>.inr (Nat.min_eq_right h)
   ·refine Bn.xC (litN y) (fun hy=>?_) fun k hy=>?_
    ·exact fun J h=>nomatch h
    ·show ∀f∈cond (k.beq 0) _ _,vP c z f
     refine Bn.xD (k.beq 0) (fun h0=>?_) fun h0=>?_
     ·exact fun J h=>nomatch h
     ·have k0:0<k:=Nat.pos_of_ne_zero fun e=>Nat.ne_of_beq_eq_false h0 e
      show ∀f∈cond (t.beq 3) _ _,vP c z f
      refine Bn.xD (t.beq 3) (fun h3=>?_) fun h3=>?_
      ·exact all2 (p:=vP c z) (Nat.mul_div_le (vN c x) k) (Nat.lt_mul_div_succ (vN c x) k0)
      ·show ∀f∈cond (t.beq 4) _ _,vP c z f
       cases t.beq 4 with
       |false=>exact fun J h=>nomatch h
       |true=>exact all2 (p:=vP c z) (Nat.div_add_mod (vN c x) k) (Nat.mod_lt (vN c x) k0)
noncomputable def neg(f:Nd):Nd:=.b 8 f (.l 0)
noncomputable def opn(f:Nd):List Nd:=
 Nd.rec (fun J=>[]) (fun J=>[]) (fun t x y J J=>cond (t.beq 6) [x,y] (cond (t.beq 8) (Nd.rec (fun J=>[]) (fun J=>[]) (fun t x y J J=>cond (t.beq 7) [neg x,neg y] (cond (t.beq 8) [x] [])) x) [])) f
theorem opn_ok{f:Nd}(h:vP c z f):AllP c z (opn f):=by
 cases f with
 |l _=>exact fun J h=>nomatch h
 |v _=>exact fun J h=>nomatch h
 |b t x y=>
  show ∀f∈cond (t.beq 6) _ _,vP c z f
  refine Bn.xD (t.beq 6) (fun h6=>?_) fun h6=>?_
  ·obtain rfl:=za1 h6;exact all2 (p:=vP c z) h.1 h.2
  ·show ∀f∈cond (t.beq 8) _ _,vP c z f
   refine Bn.xD (t.beq 8) (fun h8=>?_) fun h8=>?_
   ·obtain rfl:=za1 h8
    cases x with
    |l _=>exact fun J h=>nomatch h
    |v _=>exact fun J h=>nomatch h
    |b t x y=>
     show ∀f∈cond (t.beq 7) _ _,vP c z f
     refine Bn.xD (t.beq 7) (fun h7=>?_) fun h7=>?_
     ·obtain rfl:=za1 h7;exact all2 (p:=vP c z) (fun q:vP c z x=>h (Or.inl q)) (fun q:vP c z y=>h (Or.inr q))
     ·show ∀f∈cond (t.beq 8) _ _,vP c z f
      refine Bn.xD (t.beq 8) (fun h8=>?_) fun h8=>?_
      ·obtain rfl:=za1 h8;exact all1 (p:=vP c z) (Classical.not_not.mp h)
      ·exact fun J h=>nomatch h
   ·exact fun J h=>nomatch h
noncomputable def spl(g:Bool)(f:Nd):List Nd:=
 Nd.rec (fun J=>[]) (fun J=>[]) (fun t x y J J=>cond (t.beq 7) [cond g x y] (cond (t.beq 8) (Nd.rec (fun J=>[]) (fun J=>[]) (fun t x y J J=>cond (t.beq 6) [neg (cond g x y)] (cond (t.beq 2) [.b 1 (cond g x y) (cond g y x)] (cond (t.beq 5) [.b 4 (cond g x y) (cond g y x)] []))) x) [])) f
theorem spl_ok{f:Nd}(h:vP c z f):AllP c z (spl true f)\/AllP c z (spl false f):=by
 cases f with
 |l _=>exact .inl fun J h=>nomatch h
 |v _=>exact .inl fun J h=>nomatch h
 |b t x y=>
  show(∀f∈cond (t.beq 7) _ _,vP c z f)\/∀f∈cond (t.beq 7) _ _,vP c z f
  refine Bn.xD (t.beq 7) (fun h6=>?_) fun h6=>?_
  ·obtain rfl:=za1 h6;exact Or.imp (fun q=>all1 q) (fun q=>all1 q) h
  ·show(∀f∈cond (t.beq 8) _ _,vP c z f)\/∀f∈cond (t.beq 8) _ _,vP c z f
   refine Bn.xD (t.beq 8) (fun h8=>?_) fun h8=>?_
   ·obtain rfl:=za1 h8
    cases x with
    |l _=>exact .inl fun J h=>nomatch h
    |v _=>exact .inl fun J h=>nomatch h
    |b t x y=>
     show(∀f∈cond (t.beq 6) _ _,vP c z f)\/∀f∈cond (t.beq 6) _ _,vP c z f
     refine Bn.xD (t.beq 6) (fun h7=>?_) fun h7=>?_
     ·obtain rfl:=za1 h7;exact(Classical.not_and_iff_not_or_not.mp h).imp (fun q=>all1 (p:=vP c z) (a:=neg x) q) (fun q=>all1 (p:=vP c z) (a:=neg y) q)
     ·show(∀f∈cond (t.beq 2) _ _,vP c z f)\/∀f∈cond (t.beq 2) _ _,vP c z f
      refine Bn.xD (t.beq 2) (fun h8=>?_) fun h8=>?_
      ·obtain rfl:=za1 h8;exact(Nat.lt_or_gt_of_ne h).imp (fun q=>all1 (p:=vP c z) (a:=.b 1 x y) q) (fun q=>all1 (p:=vP c z) (a:=.b 1 y x) q)
      ·show(∀f∈cond (t.beq 5) _ _,vP c z f)\/∀f∈cond (t.beq 5) _ _,vP c z f
       refine Bn.xD (t.beq 5) (fun h8=>?_) fun h8=>?_
       ·obtain rfl:=za1 h8;exact(Int.lt_or_gt_of_ne h).imp (fun q=>all1 (p:=vP c z) (a:=.b 4 x y) q) (fun q=>all1 (p:=vP c z) (a:=.b 4 y x) q)
       ·exact .inl fun J h=>nomatch h
   ·exact .inl fun J h=>nomatch h
noncomputable def run(e:Nd):List Nd->Bool:=
 Nd.rec (fun J J=>false) (fun J J=>false) (fun t x y X Y F=>cond (t.beq 0) (Y (lem x++F)) (cond (t.beq 1) (Y (opn (nf F (kid x))++F)) (cond (t.beq 2) (fin (comb (.b t x y) F []))
  (cond (X (spl true (nf F (t-3))++F)) (Y (spl false (nf F (t-3))++F)) false)))) e
theorem zlr{F G:List Nd}(h:AllP c z F)(k:AllP c z G):AllP c z (F++G):=List.forall_mem_append.mpr ⟨h,k⟩
theorem zqu(e:Nd):∀F,run e F=true->AllP c z F->False:=by
 induction e with
 |l _=>exact fun J h=>nomatch h
 |v _=>exact fun J h=>nomatch h
 |b t x y X Y=>
  intro F
  refine zcr (fun J h hF=>Y _ h (zlr c z (lem_ok c z x) hF)) fun J=>zcr (fun J h hF=>Y _ h (zlr c z (opn_ok c z (nf_ok c z hF _)) hF)) fun J=>
   zcr (fun J h hF=>fin_ok c z h (comb_ok c z _ F [] hF (Int.le_refl 0))) fun J=>zcr (fun e h hF=>?_) fun J h=>nomatch h
  exact(spl_ok c z (nf_ok c z hF (t-3))).elim (fun q=>X _ e (zlr c z q hF)) fun q=>Y _ h (zlr c z q hF)
end
noncomputable def dec(f:Nat):Nat->List Nd->List Nd:=
 Nat.rec (fun J S=>S) (fun J ih n S=>Nat.rec S (fun m J=>
  cond (Nat.beq ((m+1)%32) 0) (ih ((m+1)/1024) (.l ((m+1)/32%32)::S))
  (cond (Nat.beq ((m+1)%32) 1) (ih ((m+1)/1024) (.v ((m+1)/32%32)::S))
  (cond (Nat.beq ((m+1)%32) 2) (ih ((m+1)/37778931862957161709568) (.l ((m+1)/32%1180591620717411303424)::S))
  (List.rec S (fun y R J=>List.rec S (fun x R' J=>cond (Nat.beq ((m+1)%32) 31) (ih ((m+1)/1024) (.b ((m+1)/32%32) x y::R')) (ih ((m+1)/32) (.b ((m+1)%32-3) x y::R'))) R) S)))) n) f
noncomputable def crt(n:Nat):Nd:=nf (dec 2000 n []) 0
theorem mx(a b:Nat):(max a b=a/\b<=a)\/(max a b=b/\a<=b):=(Nat.le_total b a).imp (fun h=>⟨Nat.max_eq_left h,h⟩) fun h=>⟨Nat.max_eq_right h,h⟩
theorem tn(a:Int):((a.toNat:Nat):Int)=a\/(a<=0/\a.toNat=0):=(Int.le_total 0 a).imp Int.toNat_of_nonneg fun h=>⟨h,Int.toNat_of_nonpos h⟩
theorem zx(a b:Int):(max a b=a/\b<=a)\/(max a b=b/\a<=b):=(Int.le_total b a).imp (fun h=>⟨Int.max_eq_left h,h⟩) fun h=>⟨Int.max_eq_right h,h⟩
theorem zn(a b:Int):(min a b=a/\a<=b)\/(min a b=b/\b<=a):=(Int.le_total a b).imp (fun h=>⟨Int.min_eq_left h,h⟩) fun h=>⟨Int.min_eq_right h,h⟩
theorem na(a:Int):(((a.natAbs:Nat):Int)=a/\0<=a)\/(((a.natAbs:Nat):Int) = -a/\a<=0):=(Int.le_total 0 a).imp (fun h=>⟨Int.natAbs_of_nonneg h,h⟩) fun h=>⟨Int.ofNat_natAbs_of_nonpos h,h⟩
theorem p63:(2:Int)^63=9223372036854775808:=by decide
theorem p31:(2:Int)^31=2147483648:=by decide
theorem zd(a:Int){k:Int}(h:0<k):k*(a/k)+a%k=a/\0<=a%k/\a%k<k:=⟨Int.mul_ediv_add_emod a k,Int.emod_nonneg a (Int.ne_of_gt h),Int.emod_lt_of_pos a h⟩
theorem al0(c:List Nat)(z:List Int):AllP c z []:=fun J h=>nomatch h
theorem al1(c:List Nat)(z:List Int){f:Nd}{F:List Nd}(h:vP c z f)(k:AllP c z F):AllP c z (f::F):=za2.mpr ⟨h,k⟩
theorem zju{c:List Nat}{z:List Int}{e g:Nd}{F:List Nd}(h:run e (neg g::F)=true)(k:AllP c z F):vP c z g:=Classical.not_not.mp fun q=>zqu c z _ _ h (al1 c z (f:=neg g) q k)
noncomputable def ok0(n:Nat)(g:Nd):Bool:=run (crt n) [neg g]
theorem ar0(c:List Nat)(z:List Int)(n:Nat)(g:Nd)(e:ok0 n g=true:=by kernel_rfl):vP c z g:=zju e (al0 c z)
noncomputable def ok1(n:Nat)(g f1:Nd):Bool:=run (crt n) [neg g,f1]
theorem ar1(c:List Nat)(z:List Int)(n:Nat)(g f1:Nd)(h1:vP c z f1)(e:ok1 n g f1=true:=by kernel_rfl):vP c z g:=zju e (al1 c z h1 (al0 c z))
noncomputable def ok2(n:Nat)(g f1 f2:Nd):Bool:=run (crt n) [neg g,f1,f2]
theorem ar2(c:List Nat)(z:List Int)(n:Nat)(g f1 f2:Nd)(h1:vP c z f1)(h2:vP c z f2)(e:ok2 n g f1 f2=true:=by kernel_rfl):vP c z g:=zju e (al1 c z h1 (al1 c z h2 (al0 c z)))
noncomputable def ok3(n:Nat)(g f1 f2 f3:Nd):Bool:=run (crt n) [neg g,f1,f2,f3]
theorem ar3(c:List Nat)(z:List Int)(n:Nat)(g f1 f2 f3:Nd)(h1:vP c z f1)(h2:vP c z f2)(h3:vP c z f3)(e:ok3 n g f1 f2 f3=true:=by kernel_rfl):vP c z g:=zju e (al1 c z h1 (al1 c z h2 (al1 c z h3 (al0 c z))))
noncomputable def ok4(n:Nat)(g f1 f2 f3 f4:Nd):Bool:=run (crt n) [neg g,f1,f2,f3,f4]
theorem ar4(c:List Nat)(z:List Int)(n:Nat)(g f1 f2 f3 f4:Nd)(h1:vP c z f1)(h2:vP c z f2)(h3:vP c z f3)(h4:vP c z f4)(e:ok4 n g f1 f2 f3 f4=true:=by kernel_rfl):vP c z g:=zju e (al1 c z h1 (al1 c z h2 (al1 c z h3 (al1 c z h4 (al0 c z)))))
noncomputable def ok5(n:Nat)(g f1 f2 f3 f4 f5:Nd):Bool:=run (crt n) [neg g,f1,f2,f3,f4,f5]
theorem ar5(c:List Nat)(z:List Int)(n:Nat)(g f1 f2 f3 f4 f5:Nd)(h1:vP c z f1)(h2:vP c z f2)(h3:vP c z f3)(h4:vP c z f4)(h5:vP c z f5)(e:ok5 n g f1 f2 f3 f4 f5=true:=by kernel_rfl):vP c z g:=zju e (al1 c z h1 (al1 c z h2 (al1 c z h3 (al1 c z h4 (al1 c z h5 (al0 c z))))))
noncomputable def ok6(n:Nat)(g f1 f2 f3 f4 f5 f6:Nd):Bool:=run (crt n) [neg g,f1,f2,f3,f4,f5,f6]
theorem ar6(c:List Nat)(z:List Int)(n:Nat)(g f1 f2 f3 f4 f5 f6:Nd)(h1:vP c z f1)(h2:vP c z f2)(h3:vP c z f3)(h4:vP c z f4)(h5:vP c z f5)(h6:vP c z f6)(e:ok6 n g f1 f2 f3 f4 f5 f6=true:=by kernel_rfl):vP c z g:=zju e (al1 c z h1 (al1 c z h2 (al1 c z h3 (al1 c z h4 (al1 c z h5 (al1 c z h6 (al0 c z)))))))
noncomputable def V0:Nd:=.v 0
noncomputable def V1:Nd:=.v 1
noncomputable def V2:Nd:=.v 2
noncomputable def V3:Nd:=.v 3
noncomputable def V4:Nd:=.v 4
noncomputable def V5:Nd:=.v 5
noncomputable def V6:Nd:=.v 6
noncomputable def J0:Nd:=.l 0
noncomputable def J1:Nd:=.l 1
noncomputable def J2:Nd:=.l 2
noncomputable def Y0(x y:Nd):Nd:=.b 0 x y
noncomputable def Y1(x y:Nd):Nd:=.b 1 x y
noncomputable def Y2(x y:Nd):Nd:=.b 2 x y
noncomputable def Y3(x y:Nd):Nd:=.b 3 x y
noncomputable def Y4(x y:Nd):Nd:=.b 4 x y
noncomputable def Y5(x y:Nd):Nd:=.b 5 x y
noncomputable def Y6(x y:Nd):Nd:=.b 6 x y
noncomputable def Y7(x y:Nd):Nd:=.b 7 x y
noncomputable def Y8(x y:Nd):Nd:=.b 8 x y
end Ar
open Ar (V0 V1 V2 V3 V4 V5 V6 J0 J1 J2 Y0 Y1 Y2 Y3 Y4 Y5 Y6 Y7 Y8)
namespace Bn
open PySem PySem.W PyProof.Rows
noncomputable def ltK(key:Nat->Int)(i j:Nat):Bool:=decide (key i<key j)
noncomputable def ge0(p:Array Nat)(i:Nat):Nat:=p.getD i 0
theorem zef(p:Array Nat)(i:Nat):ge0 p i=(p[i]?).getD 0:=by
 unfold ge0;rw[Array.getD_eq_getD_getElem?]
section
variable {key:Nat->Int}{N:Nat}
def zdz(N:Nat)(p:Array Nat):Prop:=p.toList.Perm (List.range N)
theorem zdz.size{p:Array Nat}(h:zdz N p):p.size=N:=by
 have:=List.Perm.length_eq h
 simpa using this
theorem zdz.lt{p:Array Nat}(h:zdz N p){x:Nat}(hx:x<N):ge0 p x<N:=by
 have hs:=h.size
 have:ge0 p x∈p.toList:=by rw[zef,zb9 (by lia)];simp
 simpa using h.mem_iff.mp this
theorem zdz.ne{p:Array Nat}(h:zdz N p)(hk:∀i j,i<N->j<N->key i=key j->i=j){i j:Nat}(hi:i<N)(hj:j<N)(hij:i≠j):key (ge0 p i)≠key (ge0 p j):=by
 have hs:=h.size
 have hn:p.toList.Nodup:=h.nodup_iff.mpr List.nodup_range
 intro hc
 have:=hk _ _ (h.lt hi) (h.lt hj) hc
 rw[zef,zef,zb9 (by lia),zb9 (by lia)] at this
 simp only[Option.getD_some] at this
 have h2:p.toList[i]'(by simp;lia)=p.toList[j]'(by simp;lia):=by simpa using this
 exact hij ((List.getElem_inj hn).mp h2)
def Up(key:Nat->Int)(p:Array Nat)(m:Nat):Prop:=∀i j,i<j->j<m->key (ge0 p i)<key (ge0 p j)
def Down(key:Nat->Int)(p:Array Nat)(m:Nat):Prop:=∀i j,i<j->j<m->key (ge0 p j)<key (ge0 p i)
theorem Up.succ{p:Array Nat}{m:Nat}(h:Up key p m)(h1:1<=m)(hl:key (ge0 p (m-1))<key (ge0 p m)):Up key p (m+1):=by
 intro i j hij hj
 by_cases e:j=m
 ·subst e
  by_cases e':i=j-1
  ·rw[e'];exact hl
  ·exact Int.lt_trans (h i (j-1) (by exact ar2 [_,_] [] kba (Y1 V0 (Y2 V1 J1)) (Y1 V0 V1) (Y8 (Y2 V0 (Y2 V1 J1)) J0) hij e') (by exact ar1 [_] [] kah (Y1 (Y2 V0 J1) V0) (Y0 J1 V0) h1)) hl
 ·exact h i j hij (by exact ar2 [_,_] [] 0x8294001840200c20000a5000610040308000 (Y1 V0 V1) (Y1 V0 (Y0 V1 J1)) (Y8 (Y2 V0 V1) J0) hj e)
theorem Down.succ{p:Array Nat}{m:Nat}(h:Down key p m)(h1:1<=m)(hl:key (ge0 p m)<key (ge0 p (m-1))):Down key p (m+1):=by
 intro i j hij hj
 by_cases e:j=m
 ·subst e
  by_cases e':i=j-1
  ·rw[e'];exact hl
  ·exact Int.lt_trans hl (h i (j-1) (by exact ar2 [_,_] [] kba (Y1 V0 (Y2 V1 J1)) (Y1 V0 V1) (Y8 (Y2 V0 (Y2 V1 J1)) J0) hij e') (by exact ar1 [_] [] kah (Y1 (Y2 V0 J1) V0) (Y0 J1 V0) h1))
 ·exact h i j hij (by exact ar2 [_,_] [] 0x8294001840200c20000a5000610040308000 (Y1 V0 V1) (Y1 V0 (Y0 V1 J1)) (Y8 (Y2 V0 V1) J0) hj e)
theorem zdz.rev{p:Array Nat}(hp:zdz N p)(i j:Nat):zdz N (kas_rev p i j):=(Array.perm_iff_toList_perm.mp (mirror_perm p i j _)).trans hp
theorem zdz.bub{p:Array Nat}(hp:zdz N p)(i j:Nat):zdz N (bubble p i j):=(Array.perm_iff_toList_perm.mp (bubble_perm p i j)).trans hp
theorem rev_at{p:Array Nat}{n:Nat}(h:n<=p.size)(k:Nat):ge0 (kas_rev p 0 n) k=if k<n then ge0 p (n-1-k) else ge0 p k:=by
 rw[zef,zef,zef]
 unfold kas_rev
 rw[getElem?_mirror_all h]
 simp only[zax,true_and]
 split
 ·congr 2;exact ar0 [_,_] [] 0x61a08528003080c01840100003410a528003081401840700c200800018ca5294a000c207006102803080c01840400c20080a100025084a1000250806008005084a100c0100068214a000c20300610040000d04294a000c2050061018030802000063294a528003081c01840a00c203006101003080202840300400284250806008005080012842508001 (Y2 (Y2 (Y2 (Y0 J0 V0) J1) V1) (Y2 (Y2 V0 J1) V1))
 ·rfl
theorem Down.rev{p:Array Nat}{n:Nat}(h:Down key p n)(hn:n<=p.size):Up key (kas_rev p 0 n) n:=by
 intro i j hij hj
 rw[rev_at hn,rev_at hn,if_pos (by exact ar2 [_,_,_] [] kab (Y1 V0 V1) (Y1 V0 V2) (Y1 V2 V1) hij hj),if_pos hj]
 exact h _ _ (by exact ar2 [_,_,_] [] 0x340c64294a5294001840c00c206806103803080c01840300c20080c028825080012840008ca5294001840700c204006100c030802028825080012842508001 (Y1 (Y2 (Y2 V0 J1) V1) (Y2 (Y2 V0 J1) V2)) (Y1 V2 V1) (Y1 V1 V0) hij hj) (by exact ar2 [_,_,_] [] 0xd04294a000c2038061020030800000065294001840700c201806100005084a10002508001 (Y1 (Y2 (Y2 V0 J1) V1) V0) (Y1 V1 V2) (Y1 V2 V0) hij hj)
def KGo(key:Nat->Int)(N:Nat){α:Type}(R:α->Prop):KasT α->Prop
 |.ret a=>R a
 |.ask i j k=>i<N/\j<N/\KGo key N R (k (ltK key i j))
theorem KGo.bind{α β:Type}{R:α->Prop}{R':β->Prop}{f:α->KasT β}(hf:∀a,R a->KGo key N R' (f a)):∀{t:KasT α},KGo key N R t->KGo key N R' (t.bind f)
 |.ret _,h=>hf _ h
 |.ask _ _ _,h=>⟨h.1,h.2.1,KGo.bind hf h.2.2⟩
theorem KGo.wp{cmp:Nat->Nat->(Bool->Shared->Prop)->Shared->Prop}{s:Shared}(hc:∀i j C,i<N->j<N->C (ltK key i j) s->cmp i j C s){α:Type}{R:α->Prop}{Q:α->Shared->Prop}(hq:∀a,R a->Q a s):∀t:KasT α,KGo key N R t->t.kasWp cmp Q s
 |.ret a,h=>hq a h
 |.ask i j k,h=>hc i j _ h.1 h.2.1 (KGo.wp hc hq (k (ltK key i j)) h.2.2)
section
variable {p:Array Nat}(hp:zdz N p)(hk:∀i j,i<N->j<N->key i=key j->i=j)
include hp in
theorem KGo.ask{α:Type}{R:α->Prop}{i j:Nat}{k:Bool->KasT α}(hi:i<N)(hj:j<N)(h1:key (ge0 p i)<key (ge0 p j)->KGo key N R (k true))(h2:¬key (ge0 p i)<key (ge0 p j)->KGo key N R (k false)):KGo key N R (.ask (ge0 p i) (ge0 p j) k):=by
 refine⟨hp.lt hi,hp.lt hj,?_⟩
 unfold ltK
 by_cases h:key (ge0 p i)<key (ge0 p j)
 ·rw[decide_eq_true h];exact h1 h
 ·rw[decide_eq_false h];exact h2 h
include hp hk
theorem zdz.gt{i j:Nat}(hi:i<N)(hj:j<N)(hij:i≠j)(h:¬key (ge0 p i)<key (ge0 p j)):key (ge0 p j)<key (ge0 p i):=Int.lt_iff_le_and_ne.mpr ⟨Int.not_lt.mp h,fun e=>hp.ne hk hi hj hij e.symm⟩
theorem asc_go{R:Nat->Prop}(f:Nat):∀n,1<=n->n+f<=N->Up key p n->(∀m,n<=m->m<=n+f->Up key p m->(m=n+f\/key (ge0 p m)<key (ge0 p (m-1)))->R m)->KGo key N R (kas_asc p f n):=by
 induction f with
 |zero=>exact fun n J J hu h=>h n (zae _) (zae _) hu (.inl rfl)
 |succ f ih=>
  intro n h1 hn hu h
  have n1:n<N:=by exact ar1 [_,_,_] [] kaa (Y1 V0 V1) (Y0 (Y0 V0 (Y0 V2 J1)) V1) hn
  have n2:n-1<N:=by exact ar1 [_,_] [] kai (Y1 (Y2 V0 J1) V1) (Y1 V0 V1) n1
  refine KGo.ask hp n1 n2 (fun hl=>h n (zae _) (zbi _ _) hu (.inr hl)) fun hl=>?_
  refine ih (n+1) (Nat.le_add_left _ _) (by exact ar1 [_,_,_] [] kaa (Y0 (Y0 (Y0 V0 J1) V1) V2) (Y0 (Y0 V0 (Y0 V1 J1)) V2) hn) (hu.succ h1 (hp.gt hk n1 n2 (by exact ar1 [_] [] kbb (Y8 (Y2 V0 (Y2 V0 J1)) J0) (Y0 J1 V0) h1) hl)) fun m a b u o=>h m (by exact ar1 [_,_] [] kaa (Y0 V0 V1) (Y0 (Y0 V0 J1) V1) a) (by exact ar1 [_,_,_] [] kaa (Y0 V0 (Y0 V1 (Y0 V2 J1))) (Y0 V0 (Y0 (Y0 V1 J1) V2)) b) u (o.imp (fun e=>?_) id)
  exact ar2 [_,_,_] [] 0x6294001840200c20000a50008100c0308000 (Y2 V0 (Y0 V1 (Y0 V2 J1))) (Y0 V0 (Y0 (Y0 V1 J1) V2)) (Y2 V0 (Y0 (Y0 V1 J1) V2)) b e
theorem desc_go{R:Array Nat×Nat×Nat->Prop}(f:Nat):∀n,1<=n->n+f<=N->Down key p n->(∀m,n<=m->m<=n+f->Down key p m->R (p,m,0))->KGo key N R (kas_desc f p n 0):=by
 induction f with
 |zero=>exact fun n J J hu h=>h n (zae _) (zae _) hu
 |succ f ih=>
  intro n h1 hn hu h
  have n1:n<N:=by exact ar1 [_,_,_] [] kaa (Y1 V0 V1) (Y0 (Y0 V0 (Y0 V2 J1)) V1) hn
  have n2:n-1<N:=by exact ar1 [_,_] [] kai (Y1 (Y2 V0 J1) V1) (Y1 V0 V1) n1
  refine KGo.ask hp n1 n2 (fun hl=>?_) fun hl=>KGo.ask hp n2 n1 (fun J=>h n (zae _) (zbi _ _) hu) fun h'=>absurd (hp.gt hk n1 n2 (by exact ar1 [_] [] kbb (Y8 (Y2 V0 (Y2 V0 J1)) J0) (Y0 J1 V0) h1) hl) h'
  exact ih (n+1) (Nat.le_add_left _ _) (by exact ar1 [_,_,_] [] kaa (Y0 (Y0 (Y0 V0 J1) V1) V2) (Y0 (Y0 V0 (Y0 V1 J1)) V2) hn) (hu.succ h1 hl) fun m a b u=>h m (by exact ar1 [_,_] [] kaa (Y0 V0 V1) (Y0 (Y0 V0 J1) V1) a) (by exact ar1 [_,_,_] [] kaa (Y0 V0 (Y0 V1 (Y0 V2 J1))) (Y0 V0 (Y0 (Y0 V1 J1) V2)) b) u
theorem count_go{R:Nat×Array Nat->Prop}(hN:2<=N)(h:∀m p',1<=m->m<=N->zdz N p'->Up key p' m->R (m,p')):KGo key N R (kas_count N p):=by
 refine KGo.bind (R:=fun n=>1<=n/\n<=N/\Up key p n/\(n=N\/key (ge0 p n)<key (ge0 p (n-1)))) (fun n a=>?_) (asc_go hp hk (N-1) 1 (zae _) (by exact ar1 [_] [] kao (Y0 (Y0 J1 (Y2 V0 J1)) V0) (Y0 J2 V0) hN) (fun i j h1 h2=>absurd h2 (by exact ar2 [_,_] [] kag (Y8 (Y1 V0 J1) J0) (Y1 V1 V0) (Y1 V0 J1) h1 h2)) fun m a b u o=>⟨a,by exact ar2 [_,_] [] 0x1a08528003080e01840000005294001840400c20300610000508021 (Y0 V0 V1) (Y0 J2 V1) (Y0 V0 (Y0 J1 (Y2 V1 J1))) hN b,u,o.imp (fun e=>by exact ar3 [_,_] [] 0x1868214a000c204006100000014a50006101c0308080184000142008465294002040700c20180610040508021 (Y2 V0 V1) (Y0 J2 V1) (Y0 V0 (Y0 J1 (Y2 V1 J1))) (Y2 V0 (Y0 J1 (Y2 V1 J1))) hN b e) id⟩)
 obtain⟨a1,a2,a3,a4⟩:=a
 by_cases e:n=N
 ·rw[if_pos (beq_iff_eq.mpr e)];exact h n p a1 a2 hp a3
 ·rw[if_neg fun q=>e (beq_iff_eq.mp q)]
  by_cases h1:n>1
  ·rw[if_pos h1]
   exact KGo.ask hp (by exact ar1 [_] [] kaa (Y1 J0 V0) (Y0 J2 V0) hN) (by exact ar2 [_,_] [] 0x8294001840200c2000065294001840400c20180610000508001 (Y1 (Y2 V0 J1) V1) (Y0 V0 V1) (Y8 (Y2 V0 V1) J0) a2 e) (fun J=>h n p a1 a2 hp a3) fun q=>absurd (a3 0 (n-1) (by exact ar1 [_] [] 0x65294001840300c20200610040508001 (Y1 J0 (Y2 V0 J1)) (Y1 J1 V0) h1) (by exact ar1 [_] [] kao (Y1 (Y2 V0 J1) V0) (Y1 J1 V0) h1)) q
  ·rw[if_neg h1]
   obtain rfl:n=1:=by exact ar2 [_] [] kam (Y2 V0 J1) (Y0 J1 V0) (Y8 (Y1 J1 V0) J0) a1 h1
   have h10:=a4.resolve_left e
   have hs:=hp.size
   refine KGo.bind (R:=fun r=>∃m,r=(p,m,0)/\2<=m/\m<=N/\Down key p m) (fun r b=>?_) (desc_go hp hk (N-2) 2 (by decide) (by exact ar1 [_] [] 0x1a085294001840600c203806100400014a000c20200610000510001 (Y0 (Y0 J2 (Y2 V0 J2)) V0) (Y0 J2 V0) hN) (fun i j h1 h2=>?_) fun m a b u=>⟨m,rfl,a,by exact ar2 [_,_] [] 0x1a085294a000c203006101c03081001840100005294001840400c20300610000510021 (Y0 V0 V1) (Y0 J2 V1) (Y0 V0 (Y0 J2 (Y2 V1 J2))) hN b,u⟩)
   ·obtain⟨m,rfl,b2,b3,b4⟩:=b
    refine KGo.bind (R:=fun k=>m<=k/\k<=N/\Up key (kas_rev p 0 m) k) (fun k c=>?_) (asc_go (hp.rev 0 m) hk (N-m) m (by exact ar1 [_] [] kaa (Y0 J1 V0) (Y0 J2 V0) b2) (by exact ar1 [_,_] [] 0x1a085294001840600c203806100400014a000c20200610000500421 (Y0 (Y0 V0 (Y2 V1 V0)) V1) (Y0 V0 V1) b3) (b4.rev (by exact ar2 [_,_,_] [] 0x294a000c20000810040308040 (Y0 V0 V1) (Y2 V1 V2) (Y0 V0 V2) hs b3)) fun k a b u J=>⟨a,by exact ar2 [_,_,_] [] 0x1a085294a000c203006101c03081001840100005294001840400c20300610000510421 (Y0 V0 V1) (Y0 V2 V1) (Y0 V0 (Y0 V2 (Y2 V1 V2))) b3 b,u⟩)
    exact h k _ (by exact ar2 [_,_] [] kab (Y0 J1 V0) (Y0 J2 V1) (Y0 V1 V0) b2 c.1) c.2.1 (hp.rev 0 m) c.2.2
   ·obtain rfl:i=0:=by exact ar2 [_,_] [] 0x6294a000c201006100c03080002800308000 (Y2 V0 J0) (Y1 V0 V1) (Y1 V1 J2) h1 h2
    obtain rfl:j=1:=by exact ar2 [_] [] kaj (Y2 V0 J1) (Y1 V0 J2) (Y1 J0 V0) h2 h1
    exact h10
theorem place_go{R:Nat->Prop}{k:Nat}(hkN:k<N)(hu:Up key p k)(h:∀m,m<=k->(∀i,i<m->key (ge0 p i)<key (ge0 p k))->(∀i,m<=i->i<k->key (ge0 p k)<key (ge0 p i))->R m)(f:Nat) :
  ∀l r,r<=k->l<=r->r-l<=f->(∀i,i<l->key (ge0 p i)<key (ge0 p k))->(∀i,r<=i->i<k->key (ge0 p k)<key (ge0 p i))->KGo key N R (kas_place p k f l r):=by
 induction f with
 |zero=>
  intro l r h1 h2 h3 h4 h5
  obtain rfl:l=r:=by exact ar2 [_,_] [] 0x6294001840200c2000065294001840600c20180610040500421 (Y2 V0 V1) (Y0 V0 V1) (Y0 (Y2 V1 V0) J0) h2 h3
  exact h l h1 h4 h5
 |succ f ih=>
  intro l r h1 h2 h3 h4 h5
  show KGo key N R (if l>=r then .ret l else .ask (ge0 p k) (ge0 p ((l+r)/2)) fun c=>if c=true then kas_place p k f l ((l+r)/2) else kas_place p k f ((l+r)/2+1) r)
  by_cases e:l>=r
  ·rw[if_pos e]
   obtain rfl:l=r:=by exact ar2 [_,_] [] kaj (Y2 V0 V1) (Y0 V0 V1) (Y0 V1 V0) h2 e
   exact h l h1 h4 h5
  ·rw[if_neg e]
   have hm:(l+r)/2<r/\l<=(l+r)/2:=by exact ar1 [_,_] [] 0x1865294001840400c4010061004061006108023294a000c202006200803080003080308401 (Y6 (Y1 (Y3 (Y0 V0 V1) J2) V1) (Y0 V0 (Y3 (Y0 V0 V1) J2))) (Y8 (Y0 V1 V0) J0) e
   generalize(l+r)/2=mid at hm
   have up:∀i j,i<=j->j<k->key (ge0 p i)<=key (ge0 p j):=fun i j hij hj=>(Nat.eq_or_lt_of_le hij).elim (fun e=>e▸Int.le_refl _) fun e=>Int.le_of_lt (hu i j e hj)
   have mN:mid<N:=by exact ar3 [_,_,_,_] [] kak (Y1 V0 V1) (Y1 V2 V1) (Y0 V3 V2) (Y1 V0 V3) hkN h1 hm.1
   refine KGo.ask hp hkN mN (fun hl=>ih l mid (by exact ar2 [_,_,_] [] kab (Y0 V0 V1) (Y0 V2 V1) (Y1 V0 V2) h1 hm.1) hm.2 (by exact ar2 [_,_,_,_] [] 0x68214a000c20300610040000ca5294a000c203806102003081201840300c20080a108c2508401 (Y0 (Y2 V0 V1) V2) (Y0 (Y2 V3 V1) (Y0 V2 J1)) (Y1 V0 V3) h3 hm.1) h4 fun i hi hik=>Int.lt_of_lt_of_le hl (up mid i hi hik)) fun hl=>ih (mid+1) r h1 (by exact ar1 [_,_] [] kaa (Y0 (Y0 V0 J1) V1) (Y1 V0 V1) hm.1) (by exact ar2 [_,_,_,_] [] 0x3410a500061018030802000065294a50006101c03081001840900c2018061004051840128c2008401 (Y0 (Y2 V0 (Y0 V1 J1)) V2) (Y0 (Y2 V0 V3) (Y0 V2 J1)) (Y0 V3 V1) h3 hm.2) (fun i hi=>Int.lt_of_le_of_lt (up i mid (Nat.le_of_lt_succ hi) (by exact ar2 [_,_,_] [] kab (Y1 V0 V1) (Y0 V2 V1) (Y1 V0 V2) h1 hm.1)) (hp.gt hk hkN mN (by exact ar2 [_,_,_] [] 0x10a528003080401840300c2000000 (Y8 (Y2 V0 V1) J0) (Y0 V2 V0) (Y1 V1 V2) h1 hm.1) hl)) h5
omit hp
theorem bin_go(f:Nat):∀(k:Nat)(p:Array Nat),zdz N p->k+f=N->Up key p k->KGo key N (fun p=>zdz N p/\Up key p N) (kas_bin f p k):=by
 induction f with
 |zero=>
  intro k p hp hf hu
  obtain rfl:k=N:=hf
  exact⟨hp,hu⟩
 |succ f ih=>
  intro k p hp hf hu
  have kN:k<N:=by exact ar1 [_,_,_] [] kaa (Y1 V0 V1) (Y2 (Y0 V0 (Y0 V2 J1)) V1) hf
  refine KGo.bind (R:=fun m=>m<=k/\(∀i,i<m->key (ge0 p i)<key (ge0 p k))/\∀i,m<=i->i<k->key (ge0 p k)<key (ge0 p i)) (fun m a=>ih (k+1) _ (hp.bub _ _) (by exact ar1 [_,_,_] [] kad (Y2 (Y0 (Y0 V0 J1) V1) V2) (Y2 (Y0 V0 (Y0 V1 J1)) V2) hf) ?_) (place_go hp hk kN hu (fun m a b c=>⟨a,b,c⟩) k 0 k (zae _) (zax _) (Nat.sub_le _ _) (fun i hi=>absurd hi (Nat.not_lt_zero _)) fun i h1 h2=>absurd h2 (za9.mpr h1))
  obtain⟨a2,a3,a4⟩:=a
  have hs:=hp.size
  have at':∀x,ge0 (bubble p k (k-m)) x=if x=m then ge0 p k else if m<x/\x<=k then ge0 p (x-1) else ge0 p x:=by
   intro x
   rw[zef,zef,zef,zef,getElem?_bubble (by exact ar2 [_,_,_] [] kap (Y1 V0 V1) (Y1 V0 V2) (Y2 V1 V2) kN hs) _ (by exact ar0 [_,_] [] 0x194a000c20180610000508401 (Y0 (Y2 V0 V1) V0)),show k-(k-m)=m by exact ar1 [_,_] [] 0x30d04294001840600c2008000194a50006101c03080601840101421004a50840100468190a5294001840b00c204806100c0308020180a50840100465294001840700c201806100405284200802508401 (Y2 (Y2 V0 (Y2 V0 V1)) V1) (Y0 V1 V0) a2]
   repeat' split
   all_goals rfl
  intro i j hij hj
  rw[at',at']
  by_cases e1:j=m
  ·rw[if_pos e1,if_neg (by exact ar2 [_,_,_] [] kaq (Y8 (Y2 V0 V1) J0) (Y1 V0 V2) (Y2 V2 V1) hij e1),if_neg (by exact ar2 [_,_,_,_] [] 0x84294a000c2020061014030800000000 (Y8 (Y6 (Y1 V0 V1) (Y0 V1 V2)) J0) (Y1 V1 V3) (Y2 V3 V0) hij e1)]
   exact a3 i (by exact ar2 [_,_,_] [] kab (Y1 V0 V1) (Y1 V0 V2) (Y2 V2 V1) hij e1)
  ·rw[if_neg e1]
   by_cases e2:i=m
   ·rw[if_pos e2,if_pos (by exact ar3 [_,_,_,_] [] 0x18a50006100c0308000294a000c20100810100308000 (Y6 (Y1 V0 V1) (Y0 V1 V2)) (Y1 V3 V1) (Y1 V1 (Y0 V2 J1)) (Y2 V3 V0) hij hj e2)]
    exact a4 (j-1) (by exact ar2 [_,_,_] [] 0x194a528003080601840401020280610040508021 (Y0 V0 (Y2 V1 J1)) (Y1 V2 V1) (Y2 V2 V0) hij e2) (by exact ar2 [_,_,_] [] kbc (Y1 (Y2 V0 J1) V1) (Y1 V2 V0) (Y1 V0 (Y0 V1 J1)) hij hj)
   ·rw[if_neg e2]
    by_cases e3:m<i
    ·rw[if_pos ⟨e3,by exact ar2 [_,_,_] [] kab (Y0 V0 V1) (Y1 V0 V2) (Y1 V2 (Y0 V1 J1)) hij hj⟩,if_pos ⟨by exact ar2 [_,_,_] [] kab (Y1 V0 V1) (Y1 V2 V1) (Y1 V0 V2) hij e3,by exact ar1 [_,_] [] kaa (Y0 V0 V1) (Y1 V0 (Y0 V1 J1)) hj⟩]
     exact hu _ _ (by exact ar2 [_,_,_] [] 0x1a064294a528003081201840a00c205806100c0308020180a100423294a50006101c03081001840300c20080a10042508001 (Y1 (Y2 V0 J1) (Y2 V1 J1)) (Y1 V0 V1) (Y1 V2 V0) hij e3) (by exact ar2 [_,_,_] [] kbc (Y1 (Y2 V0 J1) V1) (Y1 V2 V0) (Y1 V0 (Y0 V1 J1)) hij hj)
    ·rw[if_neg (by exact ar1 [_,_,_] [] 0x210a500061010030800000000 (Y8 (Y6 (Y1 V0 V1) (Y0 V1 V2)) J0) (Y8 (Y1 V0 V1) J0) e3)]
     by_cases e4:m<j
     ·rw[if_pos ⟨e4,by exact ar1 [_,_] [] kaa (Y0 V0 V1) (Y1 V0 (Y0 V1 J1)) hj⟩]
      exact Int.lt_trans (a3 i (by exact ar2 [_,_] [] kar (Y1 V0 V1) (Y8 (Y2 V0 V1) J0) (Y8 (Y1 V1 V0) J0) e2 e3)) (a4 (j-1) (by exact ar1 [_,_] [] 0x65294001840300c20200610040508021 (Y0 V0 (Y2 V1 J1)) (Y1 V0 V1) e4) (by exact ar2 [_,_,_] [] 0x1a085294a000c203006101c03081001840100005294001840400c20280610000508001 (Y1 (Y2 V0 J1) V1) (Y1 V0 (Y0 V1 J1)) (Y1 V2 V0) hj e4))
     ·rw[if_neg (by exact ar1 [_,_,_] [] 0x210a500061010030800000000 (Y8 (Y6 (Y1 V0 V1) (Y0 V1 V2)) J0) (Y8 (Y1 V0 V1) J0) e4)]
      exact hu _ _ hij (by exact ar3 [_,_,_] [] 0x20a5000610100308000294a000c20080610080308000 (Y1 V0 V1) (Y0 V2 V1) (Y8 (Y2 V0 V2) J0) (Y8 (Y1 V2 V0) J0) a2 e1 e4)
theorem sort_go(hN:2<=N):KGo key N (fun p=>zdz N p/\Up key p N) (kas_sort N):=by
 have hp:zdz N (List.toArray (List.range N)):=List.Perm.refl _
 refine KGo.bind (R:=fun r=>1<=r.1/\r.1<=N/\zdz N r.2/\Up key r.2 r.1) (fun r a=>?_) (count_go hp hk hN fun m p' a b c d=>⟨a,b,c,d⟩)
 obtain⟨a1,a2,a3,a4⟩:=a
 by_cases h:r.1<N
 ·rw[if_pos h,Nat.max_eq_left a1]
  exact bin_go hk (N-r.1) r.1 r.2 a3 (Nat.add_sub_cancel' a2) a4
 ·rw[if_neg h]
  have e:r.1=N:=Nat.le_antisymm a2 (za9.mp h)
  rw[e] at a4
  exact⟨a3,a4⟩
end
end
section
variable {prog:qbi}{w:World}{A:Around}{E:Value->Shared->Prop}{s:Shared}{κ:SortKind}{vs:List Value}{key:Nat->Int}
def zuj(prog:qbi)(w:World)(A:Around)(s:Shared)(κ:SortKind)(vs:List Value)(key:Nat->Int)(N:Nat):Prop:=
 ∀i j,i<N->j<N->∀(Q:Bool->Shared->Prop) (E:Value->Shared->Prop),Q (ltK key i j) s->wpAny (model prog w) A (keyLt' κ (vs.getD i qar) (vs.getD j qar)) Q E s
inductive Sorts(s:Shared)(vs:List Value)(key:Nat->Int)(st:SortSt)(s':Shared):Prop
 |mk (e:s'=s)(p:Array Nat)(hp:zdz vs.length p)(hu:Up key p vs.length)(ha:(arrOf st).map (·.2)=(p.toList.map fun i=>vs.getD i qar).toArray)(hf:failedOf st=none):Sorts s vs key st s'
theorem runs_ok(hc:zuj prog w A s κ vs key vs.length)(hk:∀i j,i<vs.length->j<vs.length->key i=key j->i=j)(h2:2<=vs.length)(h64:vs.length<64) :
  wpAny (model prog w) A (sortRuns'.run (SortSt.mk' κ (vs.toArray.zip vs.toArray) #[] 7 none)) (fun r s'=>Sorts s vs key r.2 s') E s:=
 kat_run (ks:=vs) (G:=fun p s'=>s'=s/\zdz vs.length p/\Up key p vs.length) rfl h2 h64 (fun p J J J ha hf g=>⟨g.1,p,g.2.1,g.2.2,kat_snds rfl ha,hf⟩)
  (KGo.wp (fun i j C hi hj h=>hc i j hi hj C _ h) (fun p a=>⟨rfl,a.1,a.2⟩) _ (sort_go hk h2))
end
end Bn
namespace Bn
open PySem
variable {A:Around}{A7 B d dn due ep fuel fw i j kk la lf lo' mm n nt nx nx' rd sc t' tk:Nat}{B' B1 Ba:Nat->Nat}{D I L N NE a af b ca cc fI globals t0:Addr}{E Q':Value->Shared->Prop}{G p:Prop}{M:Model}{R:Result->Shared->Prop}{S:Nat->Nat->Nat}{T initId newId:String}{X wr φ φ' φ₀ φ₁ φ₂:List Addr}{a' b' dep hi lo nn st:Int}{ab expr fill fr hdct:Bool}{acc items ps' vs:Array Value}{act active bs' bs0 cs done done' fwx is ls ms read read':List Nat}{al:Str->Bool}{apos cpos np p' p'' pf pos pos' py tp:Pos}{args:List (Bool×Sem Value)}{base cd cv fv head it nameV r ra rv v:Value}{bl:List (Nat×List Nat)}{bm bmB bs first rest rs:List Value}{cellsOf:List (Str×qaf)->List Value}{wv wz env' outer:Env}{cl closure:List (Str×Addr)}{cn n' name p1 p2 q qual w':Str}{col:Option Bool}{cond:Nat->Bool}{dd func:Option Addr}{e e1 elt iter slice tg tgt value:Expr}{es:Array qbk}{fd fdf:qbe}{fs loose sn:List Str}{g:Nat->Value}{gs:List Comprehension}{h h' h0:Heap}{h₀:Stmt}{ifs:List Expr}{ini k0 k1 k2 k3 k5:Option Value}{js ks layer left:List (Nat×Nat)}{key:Nat->Int}{lc:Nat×Nat}{ll ps:List (Int×Int)}{m m' mN mb mg:Str->Option Value}{mean:ExcName->Option Value}{names:List (Str×qaf)}{o o' oI oa oc od o₁ o₂:Obj}{prog:qbi}{s s' s₀ s₁ s₂ s₃:Shared}{scr:List Int}{sts:List Stmt}{t u:Tok}{x:Addr×(Nat×Nat)×Str}{ys:List PyData}{α β σ:Type}
inductive V where
 |none
 |bool (b:Bool)
 |int (i:Int)
 |str (s:Str)
 |tup (l:List V)
 |lst (a:Nat)
 |scr (l:List Int)
 |dict0 (a:Nat)
 |rng (lo hi st:Int)
 |exc (c:Str)(x:V)
 deriving Inhabited
abbrev Hp:=List (List V)
abbrev Loc:=List (Option V)
inductive LV{α:Type}:List α->Prop
 |zero:LV []
 |one (a:α):LV [a]
 |two (a b:α):LV [a,b]
 |three (a b c:α):LV [a,b,c]
 |more (a b c d:α)(l:List α):LV (a::b::c::d::l)
theorem LV.of(l:List α):LV l:=by
 cases l with
 |nil=>exact .zero
 |cons a l=>cases l with
  |nil=>exact .one a
  |cons b l=>cases l with
   |nil=>exact .two a b
   |cons c l=>cases l with
    |nil=>exact .three a b c
    |cons d l=>exact .more a b c d l
def zvg:List Int->List Value->Prop
 |[],[]=>True
 |i::is,r::rs=>(∃t,r=.int i t)/\zvg is rs
 |_,_=>False
structure Cx where
 prog:qbi
 w:World
 h0:Heap
 g:Str->Option Value
 b:Str->Option Value
 lam:Nat->qbe->Str->Prop
 tabs:List (Addr×(Nat×Nat)×Str)
abbrev tabO (ps:Array Value):Obj:={ cls:=.none,data:=.fields ps }
inductive CodeO(h:Heap)(cc:Addr)(q:Str):Prop
 |mk (o:Obj)(vs:Array Value)(t:Tok)(h1:h.get? cc=some o)(h2:o.cls=.type "code")(h3:o.data=.fields vs)(h4:vs[1]?=some (.str q t)):CodeO h cc q
inductive TabSt(h:Heap)(x:Addr×(Nat×Nat)×Str):Prop
 |no (h1:h.get? x.1=some (tabO #[])):TabSt h x
 |yes (cc:Addr)(h1:h.get? x.1=some (tabO #[rawInt x.2.1.1,rawInt x.2.1.2,.ref cc]))(h2:CodeO h cc x.2.2):TabSt h x
theorem CodeO.mono(hk:∀b o,h.get? b=some o->o.cls=.type "code"->h'.get? b=some o):CodeO h cc q->CodeO h' cc q
 |.mk o vs t h1 h2 h3 h4=>.mk o vs t (hk _ _ h1 h2) h2 h3 h4
theorem TabSt.mono(hn:∀b ps,h.get? b=some (tabO ps)->h'.get? b=some (tabO ps))(hk:∀b o,h.get? b=some o->o.cls=.type "code"->h'.get? b=some o):TabSt h x->TabSt h' x
 |.no h1=>.no (hn _ _ h1)
 |.yes cc h1 h2=>.yes cc (hn _ _ h1) (h2.mono hk)
inductive TupAt(φ:List Addr)(h:Heap)(r:Value)(k:Nat)(P:List Value->Prop):Prop
 |mk (a:Addr)(o:Obj)(vs:Array Value)(n:Nat)(hr:r=.ref a)(ha:a∉φ)(ho:h.get? a=some o)(hc:o.cls=.type "tuple")(hd:o.data=.seq vs n)(hz:k<=qag)(hl:P vs.toList):TupAt φ h r k P
inductive LstAt(φ:List Addr)(i:Nat)(r:Value):Prop
 |mk (a:Addr)(hr:r=.ref a)(ha:φ[i]?=some a):LstAt φ i r
inductive ScrAt(c:Cx)(φ:List Addr)(h:Heap)(l:List Int)(r:Value):Prop
 |mk (a:Addr)(o:Obj)(vs:Array Value)(n:Nat)(hr:r=.ref a)(ha:a∉φ)(h0:c.h0.get? a=some o)(ho:h.get? a=some o)(hc:o.cls=.type "list")(hd:o.data=.seq vs n)(hz:l.length<=qag)(hl:zvg l vs.toList):ScrAt c φ h l r
noncomputable def keyS:Value->Str
 |.str n _=>n
 |_=>⟨#[]⟩
def GoodD(es:Array qbk):Prop:=StrKeys es/\(es.toList.map fun e=>keyS e.key).Nodup
inductive DKo(o o':Obj):Prop
 |mk (h:o'.cls=o.cls)(g:∀es n es' n',o.data=.dict es n->o'.data=.dict es' n'->GoodD es->GoodD es'):DKo o o'
theorem DKo.same(h:o'.cls=o.cls)(hd:o'.data=o.data):DKo o o':=.mk h fun es n es' n' h1 h2 g=>by rw[hd,h1] at h2;(injection h2 with Ja Jb;subst Jb;subst Ja);exact g
theorem DKo.rfl:DKo o o:=.same (Eq.refl _) (Eq.refl _)
theorem DKo.cls(h:DKo o o'):o'.cls=o.cls:=let⟨h,_⟩:=h;h
theorem DKo.trans(f:DKo o₁ o₂)(e:DKo o o₁)(d:o₁.data=.dict es n):DKo o o₂:=let⟨h,g⟩:=f;let⟨h',g'⟩:=e;.mk (h.trans h') fun J J J J h1 h2 q=>g _ _ _ _ d h2 (g' _ _ _ _ h1 d q)
inductive DictAt(φ:List Addr)(h:Heap)(a:Addr)(r:Value):Prop
 |mk (o:Obj)(es:Array qbk)(n:Nat)(hr:r=.ref a)(ha:a∉φ)(ho:h.get? a=some o)(hc:o.cls=.type "dict")(hd:o.data=.dict es n)(hg:GoodD es/\sysModules<a):DictAt φ h a r
inductive RngAt(φ:List Addr)(h:Heap)(lo hi st:Int)(r:Value):Prop
 |mk (a:Addr)(t u v:Tok)(hr:r=.ref a)(ha:a∉φ)(ho:IsRange h a lo hi st t u v)(hb:lo.natAbs<2^31/\hi.natAbs<2^31/\0<st/\st<2^31):RngAt φ h lo hi st r
inductive AtAt(φ:List Addr)(h:Heap)(o:Obj)(P:Value->Prop):Prop
 |mk (d:Addr)(od:Obj)(es:Array qbk)(n:Nat)(ra:Value)(h1:o.dict=some d)(h2:d∉φ)(h3:h.get? d=some od)(h4:od.cls=.type "dict")(h5:od.data=.dict es n)(h6:nsFind es (qab "at")=some ra)(h7:P ra):AtAt φ h o P
inductive ExcAt(c:Cx)(φ:List Addr)(h:Heap)(cn:Str)(r:Value)(P:Value->Prop):Prop
 |mk (a:Addr)(o:Obj)(vs:Array Value)(hr:r=.ref a)(ha:a∉φ)(h0:c.h0.get? a=none)(ho:h.get? a=some o)(hC:∃C,o.cls=.ref C)(hg:c.g cn=some o.cls)(hd:o.data=.fields vs)(hn:cn=qab "BadNet"->AtAt φ h o P):ExcAt c φ h cn r P
mutual
def Rep(c:Cx)(φ:List Addr)(h:Heap):V->Value->Prop
 |.none,r=>r=.none
 |.bool b,r=>r=.bool b
 |.int i,r=>∃t,r=.int i t
 |.str s,r=>∃t,r=.str s t
 |.tup l,r=>TupAt φ h r l.length (fun vs=>RepL c φ h l vs)
 |.lst i,r=>LstAt φ i r
 |.scr l,r=>ScrAt c φ h l r
 |.dict0 a,r=>DictAt φ h a r
 |.rng lo hi st,r=>RngAt φ h lo hi st r
 |.exc cn x,r=>ExcAt c φ h cn r (fun ra=>Rep c φ h x ra)
def RepL(c:Cx)(φ:List Addr)(h:Heap):List V->List Value->Prop
 |[],rs=>rs=[]
 |x::xs,rs=>match rs with
  |[]=>False
  |r::rs=>Rep c φ h x r/\RepL c φ h xs rs
end
def ListAt(c:Cx)(φ:List Addr)(h:Heap)(i:Nat)(xs:List V):Prop:=∀GJ:Prop,(∀(a:Addr),∀(o:Obj),∀(vs:Array Value),∀(n:Nat),(φ[i]?=some a)->(h.get? a=some o)->(o.cls=.type "list")->(o.data=.seq vs n)->RepL c φ h xs vs.toList->(xs.length<=qag/\o.dict=none/\o.slots = #[])->GJ)->GJ
structure Sim(c:Cx)(φ:List Addr)(H:Hp)(s:Shared):Prop where
 stays:∀b o,c.h0.get? b=some o->s.heap.get? b=some o
 fresh:∀a∈φ,c.h0.get? a=none
 nodup:φ.Nodup
 len:φ.length=H.length
 lists:∀(i:Nat) xs,H[i]?=some xs->ListAt c φ s.heap i xs
 gens:s.gens = #[]
 tab:∀x∈c.tabs,TabSt s.heap x
theorem rI{c:Cx}{i:Int}:Rep c φ h (.int i) (.int i t):=⟨t,rfl⟩
theorem rS{c:Cx}{i:Str}:Rep c φ h (.str i) (.str i t):=⟨t,rfl⟩
theorem rB{c:Cx}{b:Bool}:Rep c φ h (.bool b) (.bool b):=rfl
theorem rN{c:Cx}:Rep c φ h .none .none:=rfl
theorem rL{c:Cx}:RepL c φ h [] []:=rfl
noncomputable def fix : Value -> Bool
 | .type t => t != "frame"
 | .none => false
 | _ => true
theorem fix_ne(h1:v≠.type "frame")(h2:v≠.none):fix v=true:=by
 cases v with
 |type t=>exact bne_iff_ne.mpr fun e=>h1 (by rw[e])
 |none=>exact absurd rfl h2
 |_=>rfl
theorem fix_no(h:fix v=true):v≠.type "frame":=fun e=>by rw[e] at h;exact nomatch h
structure Kp(X φ:List Addr)(h:Heap)(φ':List Addr)(h':Heap):Prop where
 pre:φ <+:φ'
 keep:∀b o,h.get? b=some o->b∉φ->b∉X->fix o.cls=true->h'.get? b=some o
 new:∀a∈φ',a∈φ\/h.get? a=none
 dict:∀b o es n,h.get? b=some o->b∉φ->o.data=.dict es n->∃o' es' n',h'.get? b=some o'/\o'.data=.dict es' n'/\DKo o o'
 exc:∀b o vs C,h.get? b=some o->b∉φ->o.cls=.ref C->o.data=.fields vs->∃vs',h'.get? b=some { o with data:=.fields vs' }
structure Ext(X φ:List Addr)(s:Shared)(φ':List Addr)(s':Shared):Prop extends Kp X φ s.heap φ' s'.heap where
 frame:∀b o,s.heap.get? b=some o->b∉φ->b∉X->o.cls≠.none->∃sl,s'.heap.get? b=some { o with slots:=sl }
 alive:∀b o,s.heap.get? b=some o->b∈X->∃o',s'.heap.get? b=some o'
 tabs:∀b o,s.heap.get? b=some o->b∉φ->b∉X->o.cls=.none->∃o',s'.heap.get? b=some o'/\o'.cls=.none
 os:s'.os=s.os
theorem Kp.notin(e:Kp X φ h φ' h')(hb:h.get? b=some o)(hn:b∉φ):b∉φ':=fun hm=>
 (e.new b hm).elim hn fun hle=>by exact no1 (hle.symm.trans hb)
theorem Ext.refl{X φ}:Ext X φ s φ s where
 pre:=zbz
 keep:=fun J J h J J J=>h
 new:=fun J h=>.inl h
 frame:=fun J o h J J J=>⟨o.slots,h⟩
 dict:=fun J o es n h J hd=>⟨o,es,n,h,hd,.rfl⟩
 exc:=fun J o vs J h J J hd=>⟨vs,by rw[<- hd];exact h⟩
 alive:=fun J o h J=>⟨o,h⟩
 tabs:=fun J o h J J hc=>⟨o,h,hc⟩
 os:=rfl
theorem Ext.live(e:Ext X φ s φ' s')(b:Addr)(o:Obj)(h:s.heap.get? b=some o)(hφ:b∉φ)(hX:b∉X):∃o',s'.heap.get? b=some o':=
 (Classical.em (o.cls=.none)).elim (fun hc=>let⟨o',h',_⟩:=e.tabs b o h hφ hX hc;⟨o',h'⟩) fun hc=>let⟨_,h'⟩:=e.frame b o h hφ hX hc;⟨_,h'⟩
theorem Ext.trans(e:Ext X φ s φ₁ s₁)(f:Ext X φ₁ s₁ φ₂ s₂):Ext X φ s φ₂ s₂ where
 pre:=e.pre.trans f.pre
 keep b o h hφ hX hc:=f.keep b o (e.keep b o h hφ hX hc) (e.notin h hφ) hX hc
 frame b o h hφ hX hc:=by
  obtain⟨sl,h₁⟩:=e.frame b o h hφ hX hc
  obtain⟨sl',h₂⟩:=f.frame b _ h₁ (e.notin h hφ) hX hc
  exact⟨sl',h₂⟩
 tabs b o h hφ hX hc:=by
  obtain⟨o₁,h₁,c₁⟩:=e.tabs b o h hφ hX hc
  exact f.tabs b o₁ h₁ (e.notin h hφ) hX c₁
 dict b o es n h hφ hd:=by
  obtain⟨o₁,es₁,n₁,h₁,d₁,c₁⟩:=e.dict b o es n h hφ hd
  obtain⟨o₂,es₂,n₂,h₂,d₂,c₂⟩:=f.dict b o₁ es₁ n₁ h₁ (e.notin h hφ) d₁
  exact⟨o₂,es₂,n₂,h₂,d₂,c₂.trans c₁ d₁⟩
 exc b o vs C h hφ hc hd:=by
  obtain⟨vs₁,h₁⟩:=e.exc b o vs C h hφ hc hd
  obtain⟨vs₂,h₂⟩:=f.exc b _ vs₁ C h₁ (e.notin h hφ) hc rfl
  exact⟨vs₂,h₂⟩
 new a ha:=(f.new a ha).elim (fun h=>e.new a h) fun h=>by
  refine xC (s.heap.get? a) (fun ho=>?_) fun o ho=>?_
  ·exact .inr rfl
  ·by_cases hφ:a∈φ
   ·exact .inl hφ
   ·by_cases hX:a∈X
    ·obtain⟨o',h'⟩:=e.alive a o ho hX
     exact no1 (h.symm.trans h')
    ·obtain⟨o',h'⟩:=e.live a o ho hφ hX
     exact no1 (h.symm.trans h')
 alive b o h hX:=by
  obtain⟨o',h'⟩:=e.alive b o h hX
  exact f.alive b o' h' hX
 os:=f.os.trans e.os
theorem Ext.weaken{Y:List Addr}(e:Ext X φ s φ' s')(h:∀b∈X,b∈Y)(hY:∀b∈Y,b∉φ):Ext Y φ s φ' s' where
 pre:=e.pre
 keep b o hb hφ hY hc:=e.keep b o hb hφ (fun hx=>hY (h b hx)) hc
 new:=e.new
 frame b o hb hφ hY hc:=e.frame b o hb hφ (fun hx=>hY (h b hx)) hc
 tabs b o hb hφ hY hc:=e.tabs b o hb hφ (fun hx=>hY (h b hx)) hc
 dict:=e.dict
 exc:=e.exc
 alive b o hb hm:=by
  by_cases hX:b∈X
  ·exact e.alive b o hb hX
  ·exact e.live b o hb (hY b hm) hX
 os:=e.os
theorem Ext.drop(e:Ext X φ s φ' s')(h:∀b∈X,s.heap.get? b=none):Ext [] φ s φ' s' where
 pre:=e.pre
 keep b o hb hφ _ hc:=e.keep b o hb hφ (fun hx=>by exact no1 ((h b hx).symm.trans hb)) hc
 new:=e.new
 frame b o hb hφ _ hc:=e.frame b o hb hφ (fun hx=>by exact no1 ((h b hx).symm.trans hb)) hc
 tabs b o hb hφ _ hc:=e.tabs b o hb hφ (fun hx=>by exact no1 ((h b hx).symm.trans hb)) hc
 dict:=e.dict
 exc:=e.exc
 alive _ _ _ hx:=nomatch hx
 os:=e.os
theorem Ext.of_heap(hh:s'.heap=s.heap)(ho:s'.os=s.os):Ext X φ s φ s' where
 pre:=zbz
 keep _ _ h _ _ _:=by rw[hh];exact h
 new _ h:=.inl h
 frame _ o h _ _ _:=⟨o.slots,by rw[hh];exact h⟩
 tabs _ o h _ _ hc:=⟨o,by rw[hh];exact h,hc⟩
 dict _ o es n h _ hd:=⟨o,es,n,by rw[hh];exact h,hd,.rfl⟩
 exc _ o vs _ h _ _ hd:=⟨vs,by rw[hh,<-hd];exact h⟩
 alive _ o h _:=⟨o,by rw[hh];exact h⟩
 os:=ho
theorem Ext.of_sameBut(hs:qa4 a s.heap s'.heap)(ha:a∈φ)(hX:a∉X)(ho:s'.os=s.os):Ext X φ s φ s' where
 pre:=zbz
 keep b o h hφ _ _:=(hs.2 b fun e=>hφ (e▸ha)).trans h
 new _ h:=.inl h
 frame b o h hφ _ _:=⟨o.slots,(hs.2 b fun e=>hφ (e▸ha)).trans h⟩
 tabs b o h hφ _ hc:=⟨o,(hs.2 b fun e=>hφ (e▸ha)).trans h,hc⟩
 dict b o es n h hφ hd:=⟨o,es,n,(hs.2 b fun e=>hφ (e▸ha)).trans h,hd,.rfl⟩
 exc b o vs _ h hφ _ hd:=⟨vs,by rw[<- hd];exact(hs.2 b fun e=>hφ (e▸ha)).trans h⟩
 alive b o h hb:=⟨o,(hs.2 b fun e=>hX (e▸hb)).trans h⟩
 os:=ho
theorem Ext.of_keeps(hk:∀b o,s.heap.get? b=some o->s'.heap.get? b=some o)(ho:s'.os=s.os):Ext X φ s φ s' where
 pre:=zbz
 keep b o h _ _ _:=hk b o h
 new _ h:=.inl h
 frame b o h _ _ _:=⟨o.slots,hk b o h⟩
 tabs b o h _ _ hc:=⟨o,hk b o h,hc⟩
 dict b o es n h _ hd:=⟨o,es,n,hk b o h,hd,.rfl⟩
 exc b o vs _ h _ _ hd:=⟨vs,by rw[<- hd];exact hk b o h⟩
 alive b o h _:=⟨o,hk b o h⟩
 os:=ho
theorem Ext.of_own(hs:qa4 a s.heap s'.heap)(ha:a∈X)(hd:∀o es n,s.heap.get? a=some o->o.data=.dict es n->∃o' es' n',s'.heap.get? a=some o'/\o'.data=.dict es' n'/\DKo o o')
  (hal:∃o',s'.heap.get? a=some o') (ho:s'.os=s.os) (hf:∀o vs,s.heap.get? a=some o->o.data≠.fields vs):Ext X φ s φ s' where
 pre:=zbz
 keep b o h _ hX _:=(hs.2 b fun e=>hX (e▸ha)).trans h
 new _ h:=.inl h
 frame b o h _ hX _:=⟨o.slots,(hs.2 b fun e=>hX (e▸ha)).trans h⟩
 tabs b o h _ hX hc:=⟨o,(hs.2 b fun e=>hX (e▸ha)).trans h,hc⟩
 dict b o es n h _ hdd:=by
  by_cases e:b=a
  ·subst e;exact hd o es n h hdd
  ·exact⟨o,es,n,(hs.2 b e).trans h,hdd,.rfl⟩
 exc b o vs _ h _ _ hdd:=by
  by_cases e:b=a
  ·subst e;exact absurd hdd (hf o vs h)
  ·exact⟨vs,by rw[<- hdd];exact(hs.2 b e).trans h⟩
 alive b o h _:=by
  by_cases e:b=a
  ·subst e;exact hal
  ·exact⟨o,(hs.2 b e).trans h⟩
 os:=ho
noncomputable def hid:Value->Bool
 |.type t=>["frame","cell","traceback","list_iterator","tuple_iterator","range_iterator","longrange_iterator","str_iterator","str_ascii_iterator","enumerate","zip","list_reverseiterator"].contains t
 |.none=>true
 |_=>false
theorem fix_of(h:hid v=false):fix v=true:=by
 cases v with
 |type t=>exact bne_iff_ne.mpr fun e=>by rw[e] at h;exact nomatch h
 |none=>exact nomatch h
 |_=>rfl
def own(c:Cx)(b:Addr)(o:Obj):Prop:=
 hid o.cls=true\/(o.cls=.type "list"/\c.h0.get? b=none)\/(o.cls=.type "dict"/\∃es n,o.data=.dict es n/\nsFind es (qab "at")=none)\/(∃C,o.cls=.ref C)
noncomputable def plainT (T : String) : Bool := !hid (.type T) && T != "list" && T != "dict"
theorem zkt{c:Cx}(h0:o.cls=.type T)(h1:plainT T=true):¬own c b o:=fun h=>by
 simp only[plainT,Bool.and_eq_true,zbm,bne_iff_ne] at h1
 rcases h with h |h |h |⟨C,h⟩
 ·rw[h0,h1.1.1] at h;injection h
 ·rw[h0] at h;injection h.1 with h;exact h1.1.2 h
 ·rw[h0] at h;injection h.1 with h;exact h1.2 h
 ·rw[h0] at h;injection h
def OwnX(c:Cx)(X:List Addr)(h:Heap):Prop:=∀b∈X,∀o,h.get? b=some o->own c b o
theorem OwnX.nil{c:Cx}:OwnX c [] h:=fun J hb=>nomatch hb
theorem zff{l l':List α}(h:l <+:l'){a:α}(e:l[i]?=some a):l'[i]?=some a:=by
 obtain⟨t,rfl⟩:=h
 rw[zbu (zbn.mp e).1];exact e
section
variable {c:Cx}
theorem zpz(e:Kp X φ h φ' h')(hX:OwnX c X h)(ho:h.get? a=some o)(ha:a∉φ)(hc:¬own c a o):h'.get? a=some o:=
 e.keep a o ho ha (fun hx=>hc (hX a hx o ho)) (fix_of (Bool.eq_false_iff.mpr fun q=>hc (.inl q)))
theorem own_ref{c:Cx}(h0:c.h0.get? b=some o')(hc:o.cls=.type "list"):¬own c b o:=fun q=>by
 rcases q with q |q |q |⟨C,q⟩
 ·rw[hc] at q;revert q;decide
 ·rw[h0] at q;cases q.2
 ·rw[hc] at q;exact absurd q.1 (by decide)
 ·rw[hc] at q;injection q
theorem own_at{c:Cx}(h4:od.cls=.type "dict")(h5:od.data=.dict es n)(h6:nsFind es (qab "at")=some ra):¬own c b od:=fun q=>by
 rcases q with q |q |⟨_,es',n',q,q''⟩|⟨C',q⟩
 ·rw[h4] at q;revert q;decide
 ·rw[h4] at q;exact absurd q.1 (by decide)
 ·rw[h5] at q;injection q with Ja Jb;subst Jb;subst Ja;exact no2 (h6.symm.trans q'')
 ·rw[h4] at q;injection q
mutual
theorem Rep.mono(e:Kp X φ h φ' h')(hX:OwnX c X h):∀{v:V}{r:Value},Rep c φ h v r->Rep c φ' h' v r
 |.none,_,h=>h
 |.bool _,_,h=>h
 |.int _,_,h=>h
 |.str _,_,h=>h
 |.tup l,r,.mk a o vs n hr ha ho hc hd hz hl=>TupAt.mk a o vs n hr (e.notin ho ha) (zpz e hX ho ha (zkt hc rfl)) hc hd hz (RepL.mono e hX hl)
 |.lst i,r,.mk a hr ha=>LstAt.mk a hr (zff e.pre ha)
 |.scr l,r,.mk a o vs n hr ha h0 ho hc hd hz hl=>ScrAt.mk a o vs n hr (e.notin ho ha) h0 (zpz e hX ho ha (own_ref h0 hc)) hc hd hz hl
 |.dict0 a,r,.mk o es n hr ha ho hc hd hg=>
  let⟨o',es',n',h1,h2,h3,h4⟩:=e.dict a o es n ho ha hd
  DictAt.mk o' es' n' hr (e.notin ho ha) h1 (h3.trans hc) h2 ⟨h4 _ _ _ _ hd h2 hg.1,hg.2⟩
 |.rng lo hi st,r,.mk a t u v hr ha ho hb=>RngAt.mk a t u v hr (e.notin ho ha) (zpz e hX ho ha (zkt (T:="range") rfl rfl)) hb
 |.exc cn x,r,.mk a o vs hr ha h0 ho ⟨C,hC⟩ hg hd hn=>
  let⟨vs',ho'⟩:=e.exc a o vs C ho ha hC hd
  ExcAt.mk a _ vs' hr (e.notin ho ha) h0 ho' ⟨C,hC⟩ hg rfl fun q=>
   let⟨d,od,es,n,ra,h1,h2,h3,h4,h5,h6,h7⟩:=hn q
   ⟨d,od,es,n,ra,h1,e.notin h3 h2,zpz e hX h3 h2 (own_at h4 h5 h6),h4,h5,h6,Rep.mono e hX h7⟩
theorem RepL.mono(e:Kp X φ h φ' h')(hX:OwnX c X h):∀{l:List V}{rs:List Value},RepL c φ h l rs->RepL c φ' h' l rs
 |[],_,h=>h
 |_::_,[],h=>False.elim h
 |_::_,_::_,h=>⟨Rep.mono e hX h.1,RepL.mono e hX h.2⟩
end
theorem zer(ha:h.get? a=some oa)(hla:oa.cls=.type "list")(hb:h.get? b=some o)(hc:o.cls≠.type "list")(hn:b∉φ):b∉φ++[a]:=fun hm=>
 (zaj.mp hm).elim hn fun e=>by
  rw[zaf.mp e,ha] at hb;(injection hb with Ja;subst Ja);exact hc hla
mutual
theorem Rep.adopt(ha:h.get? a=some oa)(hla:oa.cls=.type "list")(h0:c.h0.get? a=none):∀{v:V}{r:Value},Rep c φ h v r->Rep c (φ++[a]) h v r
 |.none,_,q=>q
 |.bool _,_,q=>q
 |.int _,_,q=>q
 |.str _,_,q=>q
 |.tup l,r,.mk b o vs n hr hb ho hc hd hz hl=>TupAt.mk b o vs n hr (zer ha hla ho (by rw[hc];decide) hb) ho hc hd hz (RepL.adopt ha hla h0 hl)
 |.lst i,r,.mk b hr hb=>LstAt.mk b hr (zff (List.prefix_append _ _) hb)
 |.scr l,r,.mk b o vs n hr hb hb0 ho hc hd hz hl=>ScrAt.mk b o vs n hr (fun hm=>(zaj.mp hm).elim hb fun e=>by rw[zaf.mp e,h0] at hb0;injection hb0) hb0 ho hc hd hz hl
 |.dict0 b,r,.mk o es n hr hb ho hc hd hg=>DictAt.mk o es n hr (zer ha hla ho (by rw[hc];decide) hb) ho hc hd hg
 |.rng lo hi st,r,.mk b t u v hr hb ho hs=>RngAt.mk b t u v hr (zer ha hla ho (show qbf "range"≠_ by decide) hb) ho hs
 |.exc cn x,r,.mk b o vs hr hb hb0 ho ⟨C,hC⟩ hg hd hn=>
  ExcAt.mk b o vs hr (zer ha hla ho (by rw[hC];intro q;injection q) hb) hb0 ho ⟨C,hC⟩ hg hd fun q=>
   let⟨d,od,es,n,ra,h1,h2,h3,h4,h5,h6,h7⟩:=hn q
   ⟨d,od,es,n,ra,h1,zer ha hla h3 (by rw[h4];decide) h2,h3,h4,h5,h6,Rep.adopt ha hla h0 h7⟩
theorem RepL.adopt(ha:h.get? a=some oa)(hla:oa.cls=.type "list")(h0:c.h0.get? a=none):∀{l:List V}{rs:List Value},RepL c φ h l rs->RepL c (φ++[a]) h l rs
 |[],_,q=>q
 |_::_,[],q=>False.elim q
 |_::_,_::_,q=>⟨Rep.adopt ha hla h0 q.1,RepL.adopt ha hla h0 q.2⟩
end
def RepC(c:Cx)(φ:List Addr)(h:Heap)(v:V)(l:List V)(rs:List Value):Prop:=∀GJ:Prop,(∀(r:Value),∀(rs':List Value),(rs=r::rs')->Rep c φ h v r->RepL c φ h l rs'->GJ)->GJ
theorem RepL.uncons{v:V}{vs:List V}(R:RepL c φ h (v::vs) rs):RepC c φ h v vs rs:=by
 cases rs with
 |nil=>exact R.elim
 |cons r rs=>exact(fun J kJ=>kJ r rs rfl R.1 R.2)
theorem RepL.nil_inv(R:RepL c φ h [] rs):rs=[]:=R
theorem RepL.length:∀{l:List V}{rs:List Value},RepL c φ h l rs->rs.length=l.length
 |[],_,q=>by rw[q.nil_inv];rfl
 |_::_,_,q=>by
  refine q.uncons _ fun r rs' wk J q2=>?_;subst wk
  exact congrArg (· + 1) (RepL.length q2)
def RepG(c:Cx)(φ:List Addr)(h:Heap)(rs:List Value)(i:Nat)(v:V):Prop:=∀GJ:Prop,(∀(r:Value),(rs[i]?=some r)->Rep c φ h v r->GJ)->GJ
theorem RepL.get:∀{l:List V}{rs:List Value},RepL c φ h l rs->∀{i:Nat}{v:V},l[i]?=some v->RepG c φ h rs i v
 |[],_,_,_,_,e=>nomatch e
 |x::xs,_,q,i,v,e=>by
  refine q.uncons _ fun r rs' wk hv q2=>?_;subst wk
  cases i with
  |zero=>(injection e with Ja;subst Ja);exact(fun J kJ=>kJ r rfl hv)
  |succ i=>
   refine(RepL.get q2 (i:=i) (v:=v) e) _ fun r' e' h'=>?_
   exact(fun J kJ=>kJ r' e' h')
theorem RepL.append:∀{l l':List V}{rs rs':List Value},RepL c φ h l rs->RepL c φ h l' rs'->RepL c φ h (l++l') (rs++rs')
 |[],_,_,_,q,q'=>by rw[q.nil_inv];exact q'
 |_::_,_,_,_,q,q'=>by
  refine q.uncons _ fun r rs' wk hv q2=>?_;subst wk
  exact⟨hv,RepL.append q2 q'⟩
theorem RepL.set:∀{l:List V}{rs:List Value},RepL c φ h l rs->∀(i:Nat){v:V}{r:Value},Rep c φ h v r->RepL c φ h (l.set i v) (rs.set i r)
 |[],_,q,_,_,_,_=>by rw[q.nil_inv];rfl
 |_::_,_,q,i,_,_,hv'=>by
  refine q.uncons _ fun r rs' wk hv q2=>?_;subst wk
  cases i with
  |zero=>exact⟨hv',q2⟩
  |succ i=>exact⟨hv,RepL.set q2 i hv'⟩
theorem Sim.lt{H:Hp}(S:Sim c φ H s)(ha:a∈φ):a<s.heap.objs.size:=by
 obtain⟨i,hi,rfl⟩:=zb6.mp ha
 have hi':i<H.length:=S.len▸hi
 refine(S.lists i H[i] (zai hi')) _ fun a o J J h1 h2 J J J J=>?_
 replace h1:=zaa ((zai hi).symm.trans h1);subst h1
 exact qa5 h2
theorem Sim.isList{H:Hp}(S:Sim c φ H s)(ha:a∈φ):∃o,s.heap.get? a=some o/\o.cls=.type "list":=by
 obtain⟨i,hi,rfl⟩:=zb6.mp ha
 have hi':i<H.length:=S.len▸hi
 refine(S.lists i H[i] (zai hi')) _ fun a o J J h1 h2 h3 J J J=>?_
 replace h1:=zaa ((zai hi).symm.trans h1);subst h1
 exact⟨o,h2,h3⟩
theorem Sim.new{H:Hp}(S:Sim c φ H s):s.heap.objs.size∉φ:=fun h=>zay _ (S.lt h)
theorem Sim.h0_new{H:Hp}(S:Sim c φ H s)(ha:s.heap.objs.size<=a):c.h0.get? a=none:=by
 refine xC (c.h0.get? a) (fun e=>?_) fun o e=>?_
 ·rfl
 ·exact absurd (qa5 (S.stays a o e)) (za9.mpr ha)
theorem Sim.mono{H:Hp}(S:Sim c φ H s)(e:Kp X φ s.heap φ s'.heap)(hX:OwnX c X s.heap)(hXb:∀b∈X,c.h0.get? b=none)
  (hl:∀a∈φ,∀o,s.heap.get? a=some o->s'.heap.get? a=some o) (hst:∀b o,c.h0.get? b=some o->fix o.cls=false->s'.heap.get? b=some o) (hg:s'.gens = #[])
  (hn:∀b ps,s.heap.get? b=some (tabO ps)->s'.heap.get? b=some (tabO ps)):Sim c φ H s' where
 stays b o h:=by
  refine xD (fix o.cls) (fun hf=>?_) fun hf=>?_
  ·exact e.keep b o (S.stays b o h) (fun hm=>by exact no1 ((S.fresh b hm).symm.trans h)) (fun hm=>by exact no1 ((hXb b hm).symm.trans h)) hf
  ·exact hst b o h hf
 fresh:=S.fresh
 nodup:=S.nodup
 len:=S.len
 lists i xs h:=by
  refine(S.lists i xs h) _ fun a o vs n h1 h2 h3 h4 h5 h6=>?_
  exact(fun J kJ=>kJ a o vs n h1 (hl a (zam h1) o h2) h3 h4 (RepL.mono e hX h5) h6)
 gens:=hg
 tab x hx:=(S.tab x hx).mono hn fun b o hb hc=>e.keep b o hb (fun hm=>by
  obtain⟨o',h1,h2⟩:=S.isList hm
  replace h1:=zaa (hb.symm.trans h1);subst h1;rw[hc] at h2;exact absurd h2 (by decide)) (fun hm=>zkt hc rfl (hX b hm o hb)) (by rw[hc];rfl)
theorem Sim.keeps{H:Hp}(S:Sim c φ H s)(hk:∀b o,s.heap.get? b=some o->s'.heap.get? b=some o)(hg:s'.gens=s.gens):Sim c φ H s':=
 S.mono (X:=[]) ⟨zbz,fun b o h J J J=>hk b o h,fun J h=>.inl h,fun b o es n h J hd=>⟨o,es,n,hk b o h,hd,.rfl⟩,fun b o vs J h J J hd=>⟨vs,by rw[<- hd];exact hk b o h⟩⟩ OwnX.nil (by simp) (fun a J o h=>hk a o h) (fun b o h J=>hk b o (S.stays b o h)) (hg.trans S.gens) fun b J h=>hk b _ h
theorem Sim.tok{H:Hp}(S:Sim c φ H s)(t:Nat):Sim c φ H { s with toks:=t }:=⟨S.stays,S.fresh,S.nodup,S.len,S.lists,S.gens,S.tab⟩
theorem Sim.push{H:Hp}(S:Sim c φ H s)(o:Obj):Sim c φ H { s with heap:=s.heap.push o }:=
 S.keeps (fun J J h=>qae _ h) rfl
theorem Ext.push:Ext X φ s φ { s with heap:=s.heap.push o }:=
 Ext.of_keeps (fun J J h=>qae _ h) rfl
theorem Sim.adopt{H:Hp}(S:Sim c φ H s){xs:List V}(ha:a∉φ)(h0:c.h0.get? a=none)(ho:s.heap.get? a=some o)(hc:o.cls=.type "list")
  (hd:o.data=.seq vs n) (hp:o.dict=none/\o.slots = #[]) (hr:RepL c φ s.heap xs vs.toList) (hz:xs.length<=qag):Sim c (φ++[a]) (H++[xs]) s where
 stays:=S.stays
 fresh b hb:=by
  rcases zaj.mp hb with h |h
  ·exact S.fresh b h
  ·rw[zaf.mp h];exact h0
 nodup:=by
  rw[zb3]
  refine⟨S.nodup,by simp,fun x hx y hy=>?_⟩
  rw[zaf.mp hy];rintro rfl;exact ha hx
 len:=by simp[S.len]
 lists i ys h:=by
  by_cases hi:i<H.length
  ·rw[zbu hi] at h
   refine(S.lists i ys h) _ fun b o' vs' n' h1 h2 h3 h4 h5 h6=>?_
   exact(fun J kJ=>kJ b o' vs' n' (by rw[zbu (S.len▸hi)];exact h1) h2 h3 h4 (RepL.adopt ho hc h0 h5) h6)
  ·have hlt:i<(H++[xs]).length:=(zbn.mp h).1
   have:i=H.length:=by simp at hlt;exact ar2 [_,_] [] kam (Y2 V0 V1) (Y8 (Y1 V0 V1) J0) (Y1 V0 (Y0 V1 J1)) hi hlt
   subst this
   rw[zbq (zae _)] at h
   simp at h;subst h
   exact(fun J kJ=>kJ a o vs n (by rw[zbq (za8 S.len)];simp[S.len]) ho hc hd (RepL.adopt ho hc h0 hr) ⟨hz,hp⟩)
 gens:=S.gens
 tab:=S.tab
theorem Sim.newList{H:Hp}(S:Sim c φ H s){xs:List V}{vs:List Value}(hr:RepL c φ s.heap xs vs)(hz:xs.length<=qag)(ho:o={ cls:=.type "list",data:=.seq vs.toArray }) :
  Ext [] φ s (φ++[s.heap.objs.size]) { s with heap:=s.heap.push o }/\Sim c (φ++[s.heap.objs.size]) (H++[xs]) { s with heap:=s.heap.push o }:=by
 subst ho
 have e:Ext [] φ s (φ++[s.heap.objs.size]) { s with heap:=s.heap.push { cls:=.type "list",data:=.seq vs.toArray } }:=
  { (Ext.push (X:=[]) (φ:=φ) (s:=s) (o:={ cls:=.type "list",data:=.seq vs.toArray })) with
   pre:=List.prefix_append _ _
   new:=fun a ha=>(zaj.mp ha).elim .inl fun h=>.inr (by rw[zaf.mp h];exact qal (zae _)) }
 refine⟨e,?_⟩
 have S':=S.push { cls:=.type "list",data:=.seq vs.toArray }
 refine S'.adopt (o:={ cls:=.type "list",data:=.seq vs.toArray }) (vs:=vs.toArray) (n:=0) S.new (S.h0_new (zae _)) (qah _ rfl) rfl rfl ⟨rfl,rfl⟩ ?_ hz
 have:=RepL.mono (Ext.push (X:=[]) (φ:=φ) (s:=s) (o:={ cls:=.type "list",data:=.seq vs.toArray })).toKp OwnX.nil hr
 simpa using this
end
variable {H H' H'' H0 H2 H3:Hp}{K QQ:List V->Hp->Prop}{Q:V->Hp->Prop}{av l xs:List V}{b q:Bool}{bad v v0 v2 w x y z:V}{c:Cx}{es:List Expr}{f:V->Option PyData}{l' loc loc':Loc}{l0 l1 l10 l11 l12 l13 l14 l15 l6 l7 l8 l9 ov v3:Option V}{t:Nat}{vals:List (Str×V)}
inductive Op |add |sub |mul |div |mod
inductive Cm |lt |le |gt |ge |eq |ne
 |notIn
inductive Bl |len |max |min |range |list |all
 |tuple
 |sorted
 |int
inductive Me |append
 |extend
 |count
 |index
inductive Tc |int |bool |list |tuple
 |str
 |own (cn:Str)
inductive Tg |one (i:Nat) |two (i j:Nat)
inductive Ex where
 |lit (v:V)
 |var (i:Nat)
 |tup (es:List Ex)
 |list (es:List Ex)
 |dict0
 |bin (op:Op)(a b:Ex)
 |neg (a:Ex)
 |not (a:Ex)
 |cmp (a:Ex)(os:List Cm)(bs:List Ex)
 |and (es:List Ex)
 |or (es:List Ex)
 |idx (a i:Ex)
 |slice (a lo hi:Ex)
 |rev (a:Ex)
 |call (f:Str)(es:List Ex)
 |callL (f:Str)(es:List Ex)(k:Nat)(i:Nat)
 |callv (es:List Ex)
 |blt (b:Bl)(es:List Ex)
 |meth (m:Me)(o:Ex)(es:List Ex)
 |isi (a:Ex)(t:Tc)
 |comp (elt:Ex)(t:Tg)(src:Ex)(ifs:List Ex)
 |attr (a:Ex)(x:Str)
 deriving Inhabited
noncomputable abbrev Ex.ww (n:Int):Ex:=.lit (.int n)
noncomputable abbrev Ex.wx (n:Nat):Ex:=.var n
inductive Sr where
 |val (e:Ex)
 |enum (e:Ex)
 |rev (e:Ex)
 |zip (a b:Ex)
 deriving Inhabited
inductive St where
 |set (i:Nat)(e:Ex)
 |unp (is:List Nat)(e:Ex)
 |put (o i e:Ex)
 |expr (e:Ex)
 |ret (e:Ex)
 |ite (t:Ex)(a b:List St)
 |whil (t:Ex)(b:List St)
 |loop (t:Tg)(s:Sr)(b:List St)
 |rais (cn:Str)(es:List Ex)
 |tri (b:List St)(i:Nat)(h:List St)
 |stuck
 deriving Inhabited
inductive Fl where
 |next
 |ret (v:V)
noncomputable def zjt:V->Option Bool
 |.bool b=>some b
 |_=>none
noncomputable def mapO{α β:Type}(f:α->Option β):List α->Option (List β)
 |[]=>some []
 |x::xs=>(f x).bind fun y=>(mapO f xs).map (y::·)
def MapO{α β:Type}(f:α->Option β)(x:α)(xs:List α)(r:List β):Prop:=∀GJ:Prop,(∀(y:β),∀(ys:List β),(f x=some y)->(mapO f xs=some ys)->(r=y::ys)->GJ)->GJ
theorem zc8{f:α->Option β}{x:α}{xs:List α}{r:List β}(h:mapO f (x::xs)=some r):MapO f x xs r:=by
 revert h;refine xB fun y h1 h=>?_
 revert h;refine xM fun ys h2 h=>?_
 exact(fun J kJ=>kJ y ys h1 h2 h.symm)
noncomputable def atomP:V->Option PyData
 |.none=>some PyData.none
 |.bool b=>some (PyData.bool b)
 |.int i=>some (PyData.int i)
 |.str s=>some (PyData.str s)
 |_=>none
noncomputable def toP:Nat->Hp->V->Option PyData
 |0,_,v=>atomP v
 |n+1,H,v=>match v with
  |.tup l=>(mapO (toP n H) l).map PyData.tuple
  |.lst a=>(H[a]?.bind fun xs=>mapO (toP n H) xs).map PyData.list
  |v=>atomP v
noncomputable def eqV(H:Hp)(v w:V):Option Bool:=(toP 9 H v).bind fun a=>(toP 9 H w).bind fun b=>if a.canLay0&&b.canLay0 then some (PyData.eqv a b) else none
noncomputable def ix(i:Int)(n:Nat):Option Nat:=
 if 0<=i then(if i<n then some i.toNat else none) else(if -(n:Int)<=i then some (i+n).toNat else none)
noncomputable def zir:V->Option Int
 |.int i=>some i
 |_=>none
noncomputable def zl9:V->Option Nat
 |.lst a=>some a
 |_=>none
noncomputable def zsz:V->Option (List V)
 |.tup l=>some l
 |_=>none
theorem zdy {i:Int} (h:zir v=some i):v=.int i:=by cases v<;>cases h;rfl
theorem zf4(h:zl9 v=some i):v=.lst i:=by cases v<;>cases h;rfl
noncomputable def asStr:V->Option Str
 |.str s=>some s
 |_=>none
theorem zhg{l:Str}(h:asStr v=some l):v=.str l:=by cases v<;>cases h;rfl
theorem iteS[Decidable p]{a b:α}(h:(if p then some a else none)=some b):p/\a=b:=by
 by_cases hp:p
 ·rw[if_pos hp] at h;exact⟨hp,zaa h⟩
 ·exact no1 ((if_neg hp).symm.trans h)
theorem iteO[Decidable p]{o:Option α}{b:α}(h:(if p then o else none)=some b):p/\o=some b:=by
 by_cases hp:p
 ·rw[if_pos hp] at h;exact⟨hp,h⟩
 ·exact no1 ((if_neg hp).symm.trans h)
theorem iteN[Decidable p]{a b:α}(h:(if p then none else some a)=some b):¬p/\a=b:=by
 by_cases hp:p
 ·exact no1 ((if_pos hp).symm.trans h)
 ·rw[if_neg hp] at h;exact⟨hp,zaa h⟩
theorem zf7(h:zsz v=some l):v=.tup l:=by cases v<;>cases h;rfl
theorem zdx(h:zjt v=some b):v=.bool b:=by cases v<;>cases h;rfl
noncomputable def zt4:List V->Option (List Int)
 |[]=>some []
 |x::r=>(zir x).bind fun i=>(zt4 r).map (i::·)
noncomputable def zeq:List V->Option (List Bool)
 |[]=>some []
 |x::r=>(zjt x).bind fun i=>(zeq r).map (i::·)
noncomputable def zuq:List V->Option (List Str)
 |[]=>some []
 |x::r=>(asStr x).bind fun i=>(zuq r).map (i::·)
noncomputable def idxV(H:Hp)(v w:V):Option V:=(zir w).bind fun i=>match v with
 |.lst a=>H[a]?.bind fun xs=>(ix i xs.length).bind fun j=>xs[j]?
 |.tup xs=>(ix i xs.length).bind fun j=>xs[j]?
 |.scr xs=>(ix i xs.length).bind fun j=>xs[j]?.map .int
 |_=>none
noncomputable def int2{β:Type}(x y:V)(f:Int->Int->Option β):Option β:=(zir x).bind fun a=>(zir y).bind fun b=>f a b
theorem zey{f:Int->Int->Option β}{r:β}(h:int2 x y f=some r):∃a b,x=.int a/\y=.int b/\f a b=some r:=by
 revert h;refine xB fun a h1 h=>?_
 revert h;refine xB fun b h2 h=>?_
 exact⟨a,b,zdy h1,zdy h2,h⟩
noncomputable def lst1{β:Type}(H:Hp)(x:V)(f:List V->Option β):Option β:=(zl9 x).bind fun a=>(H[a]?).bind f
theorem zgr{f:List V->Option β}{r:β}(h:lst1 H x f=some r):∃a xs,x=.lst a/\H[a]?=some xs/\f xs=some r:=by
 revert h;refine xB fun a h1 h=>?_
 revert h;refine xB fun xs h2 h=>?_
 exact⟨a,xs,zf4 h1,h2,h⟩
noncomputable def ninV(x y:V):Option Bool:=(asStr x).bind fun s=>(zsz y).bind fun l=>(zuq l).map fun l=>!decide (s∈l)
noncomputable def isNone:V->Option Bool
 |.none=>some true
 |.int _=>some false
 |_=>none
noncomputable def cmpV(H:Hp)(o:Cm)(x y:V):Option Bool:=match o with
 |.lt=>int2 x y fun a b=>some (decide (a<b))
 |.le=>int2 x y fun a b=>some (decide (a<=b))
 |.gt=>int2 x y fun a b=>some (decide (a>b))
 |.ge=>int2 x y fun a b=>some (decide (a>=b))
 |.eq=>eqV H x y
 |.ne=>(eqV H x y).map (!·)
 |.notIn=>ninV x y
noncomputable def small(i:Int):Bool:=decide (i.natAbs<2^63)
noncomputable def rep{α:Type}(l:List α):Nat->List α
 |0=>[]
 |n+1=>l++rep l n
theorem zq9{l:List α}:rep l (n+1)=l++rep l n:=rfl
noncomputable def addV(H:Hp)(x y:V):Option (V×Hp):=match x with
 |.int a=>(zir y).map fun b=>(.int (a+b),H)
 |.lst a=>(H[a]?).bind fun x=>lst1 H y fun y=>if x.length+y.length<=qag then some (.lst H.length,H++[x++y]) else none
 |_=>none
noncomputable def mulV(H:Hp)(x y:V):Option (V×Hp):=(zir y).bind fun n=>match x with
 |.int a=>if small a||small n then some (.int (a*n),H) else none
 |.lst a=>(H[a]?).bind fun x=>if 0<=n/\n<=1000000/\n.toNat*x.length<=qag then some (.lst H.length,H++[rep x n.toNat]) else none
 |_=>none
noncomputable def binV(H:Hp)(op:Op)(x y:V):Option (V×Hp):=match op with
 |.add=>addV H x y
 |.sub=>int2 x y fun a b=>some (.int (a-b),H)
 |.mul=>mulV H x y
 |.div=>int2 x y fun a b=>if b=0 then none else some (.int (a.fdiv b),H)
 |.mod=>int2 x y fun a b=>if b=0 then none else some (.int (a.fmod b),H)
noncomputable def zhj(i:Int)(n:Nat):Nat:=if i<0 then(i+n).toNat else min i.toNat n
noncomputable def bound?(n:Nat)(d:Nat):V->Option Nat
 |.none=>some d
 |.int i=>some (zhj i n)
 |_=>none
noncomputable def zky(H:Hp)(a lo hi:V):Option (V×Hp):=(zl9 a).bind fun a=>(H[a]?).bind fun xs=>(bound? xs.length 0 lo).bind fun i=>(bound? xs.length xs.length hi).map fun j=>(.lst H.length,H++[(xs.drop i).take (j-i)])
noncomputable def revV(H:Hp)(a:V):Option (V×Hp):=(zl9 a).bind fun a=>(H[a]?).map fun xs=>(.lst H.length,H++[xs.reverse])
noncomputable def zdo(lo hi st:Int):List V:=(List.range (if 0<st/\lo<hi then((hi-lo-1)/st+1).toNat else 0)).map fun(i:Nat)=>V.int (lo+(i:Int)*st)
noncomputable def srcV(H:Hp):V->Option (List V)
 |.lst a=>H[a]?
 |.tup l=>some l
 |.rng lo hi st=>some (zdo lo hi st)
 |_=>none
def okV(v:V)(items:List V)(H:Hp):Prop:=match v with
 |.lst a=>H[a]?=some items
 |_=>True
noncomputable def pair1(v:V):Option (Int×Int):=(zsz v).bind fun l=>match l with
 |[x,y]=>int2 x y fun a b=>some (a,b)
 |_=>none
noncomputable def zlc(xs:List V):Option (List (Int×Int)):=mapO pair1 xs
noncomputable def zfa(a b:Int×Int):Bool:=decide (a.1<b.1)||(decide (a.1=b.1)&&decide (a.2<=b.2))
noncomputable def zm8(l:List (Int×Int)):Bool:=decide (l.length<64)&&decide l.Nodup&&l.all fun p=>decide (p.1.natAbs<2^31)&&decide (p.2.natAbs<2^31)
noncomputable def zjl(p:Int×Int):V:=.tup [.int p.1,.int p.2]
noncomputable def arg1{β:Type}(vs:List V)(f:V->Option β):Option β:=match vs with
 |[]=>none
 |x::r=>match r with
  |[]=>f x
  |_::_=>none
theorem zd6{vs:List V}{f:V->Option β}{r:β}(h:arg1 vs f=some r):∃x,vs=[x]/\f x=some r:=by
 cases vs with
 |nil=>injection h
 |cons x l=>cases l with
  |nil=>exact⟨x,rfl,h⟩
  |cons=>injection h
noncomputable def lenV(H:Hp)(x:V):Option (V×Hp):=match x with
 |.lst a=>(H[a]?).map fun xs=>(.int xs.length,H)
 |.tup l=>some (.int l.length,H)
 |.scr l=>some (.int l.length,H)
 |_=>none
noncomputable def maxV(H:Hp)(vs:List V):Option (V×Hp):=(zt4 vs).bind fun l=>match l with
 |[a,b]=>some (.int (if a<b then b else a),H)
 |[a,b,c]=>some (.int (if(if a<b then b else a)<c then c else(if a<b then b else a)),H)
 |_=>none
noncomputable def minV(H:Hp)(vs:List V):Option (V×Hp):=(zt4 vs).bind fun l=>match l with
 |[a,b]=>some (.int (if b<a then b else a),H)
 |_=>none
noncomputable def rngV(H:Hp)(vs:List V):Option (V×Hp):=(zt4 vs).bind fun l=>match l with
 |[n]=>if n.natAbs<2^31 then some (.rng 0 n 1,H) else none
 |[a,b]=>if a.natAbs<2^31/\b.natAbs<2^31 then some (.rng a b 1,H) else none
 |[a,b,c]=>if a.natAbs<2^31/\b.natAbs<2^31/\0<c/\c<2^31 then some (.rng a b c,H) else none
 |_=>none
noncomputable def listV(H:Hp)(x:V):Option (V×Hp):=match x with
 |.lst a=>(H[a]?).map fun xs=>(.lst H.length,H++[xs])
 |.rng lo hi st=>if(zdo lo hi st).length<=qag then some (.lst H.length,H++[zdo lo hi st]) else none
 |_=>none
noncomputable def tupleV(H:Hp)(x:V):Option (V×Hp):=match x with
 |.lst a=>(H[a]?).map fun xs=>(.tup xs,H)
 |_=>none
noncomputable def intV(H:Hp)(x:V):Option (V×Hp):=(zjt x).map fun b=>(.int (if b then 1 else 0),H)
noncomputable def bltV(H:Hp)(b:Bl)(vs:List V):Option (V×Hp):=match b with
 |.len=>arg1 vs (lenV H)
 |.max=>maxV H vs
 |.min=>minV H vs
 |.range=>rngV H vs
 |.list=>arg1 vs (listV H)
 |.tuple=>arg1 vs (tupleV H)
 |.all=>arg1 vs fun x=>lst1 H x fun xs=>(zeq xs).map fun l=>(.bool (l.all id),H)
 |.sorted=>arg1 vs fun x=>lst1 H x fun xs=>(zlc xs).bind fun l=>if zm8 l=true then some (.lst H.length,H++[(l.mergeSort zfa).map zjl]) else none
 |.int=>arg1 vs (intV H)
noncomputable def zo1(v:V):Option Unit:=(zjt v).bind fun b=>if b then some () else none
noncomputable def zpx(H:Hp)(m:Me)(x:V)(vs:List V):Option (V×Hp):=match m with
 |.append=>(zl9 x).bind fun a=>(H[a]?).bind fun xs=>arg1 vs fun v=>if xs.length<qag then some (.none,H.set a (xs++[v])) else none
 |.extend=>(zl9 x).bind fun a=>(H[a]?).bind fun xs=>arg1 vs fun v=>lst1 H v fun ys=>if xs.length+ys.length<=qag then some (.none,H.set a (xs++ys)) else none
 |.count=>lst1 H x fun xs=>arg1 vs fun v=>(zo1 v).bind fun J=>(zeq xs).map fun l=>(.int (l.count true),H)
 |.index=>lst1 H x fun xs=>arg1 vs fun v=>(zo1 v).bind fun J=>(zeq xs).bind fun l=>if true∈l then some (.int (l.idxOf true),H) else none
noncomputable def zue:V->Bool
 |.lst _=>true
 |_=>false
noncomputable def isStr:V->Bool
 |.str _=>true
 |_=>false
noncomputable def zvj(m:Me)(v:V):Bool:=match m with
 |.append=>zue v
 |.extend=>zue v
 |.count=>zue v
 |.index=>zue v
noncomputable def kidX:V->Bool
 |.exc c _=>decide (c∈kids)
 |_=>false
noncomputable def kd:V->Option Nat
 |.none=>some 0
 |.bool _=>some 1
 |.int _=>some 2
 |.tup _=>some 4
 |.lst _=>some 5
 |.str _=>some 3
 |_=>none
noncomputable def excOf:V->Option Str
 |.exc c _=>some c
 |_=>none
noncomputable def isiV(v:V)(t:Tc):Option Bool:=match t with
 |.own p=>(excOf v).bind fun e=>if e∈kids/\(p∈kids\/p=qab "ValueError") then some (decide (e=p\/p=qab "ValueError")) else none
 |.int=>(kd v).map fun n=>n==1||n==2
 |.bool=>(kd v).map (·==1)
 |.tuple=>(kd v).map (·==4)
 |.list=>(kd v).map (·==5)
 |.str=>(kd v).map (·==3)
noncomputable def putV(H:Hp)(a i v:V):Option Hp:=(zl9 a).bind fun a=>(zir i).bind fun i=>(H[a]?).bind fun xs=>if 0<=i/\i<xs.length then some (H.set a (xs.set i.toNat v)) else none
noncomputable def zg8(t:Tg)(x:V)(l:Loc):Option Loc:=match t with
 |.one i=>some (l.set i (some x))
 |.two i j=>(zsz x).bind fun vs=>match vs with
  |[a,b]=>some ((l.set i (some a)).set j (some b))
  |_=>none
noncomputable def ztb:List Nat->List V->Loc->Option Loc
 |[],[],l=>some l
 |i::is,v::vs,l=>ztb is vs (l.set i (some v))
 |_,_,_=>none
abbrev Clo:=Option (Nat×V)
abbrev XPost:=V->Hp->Prop
abbrev CallT:=Bool->Nat->Str->List V->Clo->(V->Hp->Prop)->XPost->Hp->Prop
def Opt{α:Type}(o:Option α)(K:α->Prop):Prop:=match o with
 |some a=>K a
 |none=>False
inductive OptI{α:Type}(o:Option α)(K:α->Prop):Prop
 |mk (a:α)(h:o=some a)(k:K a):OptI o K
theorem Opt.inv{o:Option α}{K:α->Prop}(h:Opt o K):OptI o K:=by
 cases o with
 |none=>exact h.elim
 |some a=>exact⟨a,rfl,h⟩
theorem xI{o:Option α}{K:α->Prop}(k:∀a,o=some a->K a->G)(h:Opt o K):G:=let⟨a,p,q⟩:=Opt.inv h;k a p q
theorem Opt.mk{o:Option α}{K:α->Prop}{a:α}(h:o=some a)(k:K a):Opt o K:=by subst h;exact k
def zha(es:List Ex)(A B:Prop):Prop:=match es with
 |[]=>A
 |_::_=>B
def ze5(b:Bool)(A B:Prop):Prop:=match b with
 |true=>A
 |false=>B
noncomputable def onQ{α:Type}(q:Bool)(o:Option α):Option α:=match q with
 |true=>o
 |false=>none
theorem zuz{o:Option α}{a:α}(h:onQ q o=some a):q=true/\o=some a:=by
 cases q with
 |true=>exact⟨rfl,h⟩
 |false=>injection h
def zfe{σ:Type}(ok:Hp->Prop)(step:V->σ->(σ->Hp->Prop)->Hp->Prop):List V->σ->(σ->Hp->Prop)->Hp->Prop
 |[],a,Q,H=>Q a H
 |x::xs,a,Q,H=>step x a (fun a' H'=>ok H'/\zfe ok step xs a' Q H') H
noncomputable def noX:XPost:=fun J J=>False
noncomputable def zib(k:Nat)(x y z:V):List V:=
 let p:=fun(i:Nat)=>if i=0 then x else if i=1 then y else z
 [p (k/9),p (k/3%3),p (k%3)]
noncomputable def cloV(k:Clo)(d:Nat)(vs:List V):Option (Nat×List V):=k.bind fun z=>match d with
 |0=>none
 |d+1=>match vs with
  |[x,y]=>some (d,zib z.1 x y z.2)
  |_=>none
noncomputable def lstV(H:Hp)(v:V):Option (List V):=(zl9 v).bind fun a=>H[a]?
noncomputable def zss:V->Option V
 |.none=>some .none
 |.int i=>some (.int i)
 |_=>none
noncomputable def attrV(v:V)(x:Str):Option V:=match v with
 |.exc cn w=>if x=qab "at"/\cn=qab "BadNet" then zss w else none
 |_=>none
noncomputable def unpV(is:List Nat)(v:V)(l:Loc):Option Loc:=(zsz v).bind fun vs=>ztb is vs l
def zed(Q:Bool->Hp->Prop)(v:V)(H:Hp):Prop:=Opt (zjt v) fun b=>Q b H
def zlx(I:Loc->(Bool->Hp->Prop)->Hp->Prop)(W:Loc->(V->Hp->Prop)->Hp->Prop)(t:Tg)(l:Loc)(x:V)(acc:List V)(K:List V->Hp->Prop)(H:Hp):Prop:=
 Opt (zg8 t x l) fun l'=>I l' (fun b H=>ze5 b (W l' (fun v H=>K (acc++[v]) H) H) (K acc H)) H
mutual
def wpE(C:CallT)(q:Bool)(d:Nat)(k:Clo):Ex->Loc->(V->Hp->Prop)->XPost->Hp->Prop
 |.lit v,_,Q,_,H=>Q v H
 |.var i,l,Q,_,H=>Opt (l.getD i none) fun v=>Q v H
 |.tup es,l,Q,E,H=>wpL C q d k es l (fun vs H=>Q (.tup vs) H) E H
 |.list es,l,Q,E,H=>wpL C q d k es l (fun vs H=>Q (.lst H.length) (H++[vs])) E H
 |.dict0,_,Q,_,H=>∀a,Q (.dict0 a) H
 |.bin op a b,l,Q,E,H=>wpE C q d k a l (fun x H=>wpE C q d k b l (fun y H=>Opt (binV H op x y) fun p=>Q p.1 p.2) E H) E H
 |.neg a,l,Q,E,H=>wpE C q d k a l (fun x H=>Opt (zir x) fun i=>Q (.int (-i)) H) E H
 |.not a,l,Q,E,H=>wpE C q d k a l (zed fun b H=>Q (.bool !b) H) E H
 |.cmp a os bs,l,Q,E,H=>wpE C q d k a l (fun x H=>wpC C q d k x os bs l (fun b H=>Q (.bool b) H) E H) E H
 |.and es,l,Q,E,H=>zrs C q d k es l (fun b H=>Q (.bool b) H) E H
 |.or es,l,Q,E,H=>wpOr C q d k es l (fun b H=>Q (.bool b) H) E H
 |.idx a i,l,Q,E,H=>wpE C q d k a l (fun x H=>wpE C q d k i l (fun y H=>Opt (idxV H x y) fun v=>Q v H) E H) E H
 |.slice a lo hi,l,Q,E,H=>wpE C q d k a l (fun x H=>wpE C q d k lo l (fun y H=>wpE C q d k hi l (fun z H=>Opt (zky H x y z) fun p=>Q p.1 p.2) E H) E H) E H
 |.rev a,l,Q,E,H=>wpE C q d k a l (fun x H=>Opt (revV H x) fun p=>Q p.1 p.2) E H
 |.call f es,l,Q,E,H=>wpL C q d k es l (fun vs H=>C q d f vs none Q E H) E H
 |.callL f es kk i,l,Q,E,H=>wpL C q d k es l (fun vs H=>Opt (l.getD i none) fun v=>C q d f vs (some (kk,v)) Q E H) E H
 |.callv es,l,Q,E,H=>Opt k fun J=>wpL C q d k es l (fun vs H=>Opt (cloV k d vs) fun p=>C q p.1 (qab "put_together") p.2 none Q noX H) E H
 |.blt b es,l,Q,E,H=>wpL C q d k es l (fun vs H=>Opt (onQ q (bltV H b vs)) fun p=>Q p.1 p.2) E H
 |.meth m o es,l,Q,E,H=>wpE C q d k o l (fun x H=>zvj m x=true/\wpL C q d k es l (fun vs H=>Opt (zpx H m x vs) fun p=>Q p.1 p.2) E H) E H
 |.isi a t,l,Q,E,H=>wpE C q d k a l (fun x H=>Opt (isiV x t) fun b=>Q (.bool b) H) E H
 |.comp elt t src ifs,l,Q,E,H=>wpE C q d k src l (fun sv H=>Opt (onQ q (srcV H sv)) fun items=>items.length<=qag /\
   zfe (okV sv items) (zlx (fun l' Q H=>wpI C q d none ifs l' Q H) (fun l' Q H=>wpE C q d none elt l' Q noX H) t l) items [] (fun acc H'=>Q (.lst H'.length) (H'++[acc])) H) E H
 |.attr a x,l,Q,E,H=>wpE C q d k a l (fun v H=>Opt (attrV v x) fun w=>Q w H) E H
def wpL(C:CallT)(q:Bool)(d:Nat)(k:Clo):List Ex->Loc->(List V->Hp->Prop)->XPost->Hp->Prop
 |[],_,Q,_,H=>Q [] H
 |e::es,l,Q,E,H=>wpE C q d k e l (fun v H=>wpL C q d k es l (fun vs H=>Q (v::vs) H) E H) E H
def zrs(C:CallT)(q:Bool)(d:Nat)(k:Clo):List Ex->Loc->(Bool->Hp->Prop)->XPost->Hp->Prop
 |[],_,_,_,_=>False
 |e::es,l,Q,E,H=>wpE C q d k e l (zed fun b H=>zha es (Q b H) (ze5 b (zrs C q d k es l Q E H) (Q false H))) E H
def wpOr(C:CallT)(q:Bool)(d:Nat)(k:Clo):List Ex->Loc->(Bool->Hp->Prop)->XPost->Hp->Prop
 |[],_,_,_,_=>False
 |e::es,l,Q,E,H=>wpE C q d k e l (zed fun b H=>zha es (Q b H) (ze5 b (Q true H) (wpOr C q d k es l Q E H))) E H
def wpC(C:CallT)(q:Bool)(d:Nat)(k:Clo):V->List Cm->List Ex->Loc->(Bool->Hp->Prop)->XPost->Hp->Prop
 |x,os,e::es,l,Q,E,H=>Opt os.head? fun o=>wpE C q d k e l (fun y H=>Opt (cmpV H o x y) fun b=>zha es (Q b H) (ze5 b (wpC C q d k y os.tail es l Q E H) (Q false H))) E H
 |_,_,[],_,_,_,_=>False
def wpI(C:CallT)(q:Bool)(d:Nat)(k:Clo):List Ex->Loc->(Bool->Hp->Prop)->Hp->Prop
 |[],_,Q,H=>Q true H
 |e::es,l,Q,H=>wpE C q d k e l (zed fun b H=>ze5 b (wpI C q d k es l Q H) (Q false H)) noX H
end
def wpT(C:CallT)(q:Bool)(d:Nat)(k:Clo)(e:Ex)(l:Loc)(Q:Bool->Hp->Prop)(E:XPost)(H:Hp):Prop:=wpE C q d k e l (zed Q) E H
abbrev SPost:=Fl->Loc->Hp->Prop
abbrev SX:=V->Loc->Hp->Prop
noncomputable def Then(N:Loc->Hp->Prop)(Q:SPost):SPost:=fun f l H=>match f with
 |.next=>N l H
 |.ret v=>Q (.ret v) l H
def zhx(ok:Hp->Prop)(body:V->Loc->SPost->Hp->Prop):List V->SPost->Loc->Hp->Prop
 |[],Q,l,H=>Q .next l H
 |x::xs,Q,l,H=>body x l (Then (fun l' H'=>ok H'/\zhx ok body xs Q l' H') Q) H
inductive wpWhile(test:Loc->(Bool->Hp->Prop)->Hp->Prop)(body:Loc->SPost->Hp->Prop)(l:Loc)(Q:SPost)(H:Hp):Prop
 |mk (I:Nat->Loc->Hp->Prop)(n:Nat)(h0:I n l H)(step:∀n l H,I n l H->test l (fun b H'=>ze5 b (body l (Then (fun l' H''=>∃m,m<n/\I m l' H'') Q) H') (Q .next l H')) H):wpWhile test body l Q H
noncomputable def zfk(n:Int):List V->List V
 |[]=>[]
 |x::xs=>.tup [.int n,x]::zfk (n+1) xs
noncomputable def zipV:List V->List V->List V
 |x::xs,y::ys=>.tup [x,y]::zipV xs ys
 |_,_=>[]
def wpSr(C:CallT)(q:Bool)(d:Nat)(k:Clo):Sr->Loc->(List V->(Hp->Prop)->Hp->Prop)->XPost->Hp->Prop
 |.val e,l,Q,E,H=>wpE C q d k e l (fun v H=>Opt (srcV H v) fun items=>Q items (okV v items) H) E H
 |.enum e,l,Q,E,H=>wpE C q d k e l (fun v H=>Opt (lstV H v) fun items=>Q (zfk 0 items) (okV v items) H) E H
 |.rev e,l,Q,E,H=>wpE C q d k e l (fun v H=>Opt (lstV H v) fun items=>Q items.reverse (okV v items) H) E H
 |.zip a b,l,Q,E,H=>wpE C q d k a l (fun v H=>wpE C q d k b l (fun w H=>Opt (lstV H v) fun x=>Opt (lstV H w) fun y=>Q (zipV x y) (fun H=>okV v x H/\okV w y H) H) E H) E H
noncomputable def atOf(cn:Str)(vs:List V):V:=if cn=qab "BadNet" then vs.headD .none else .none
mutual
def wpS(C:CallT)(q:Bool)(d:Nat)(k:Clo):St->SPost->SX->Loc->Hp->Prop
 |.set i e,Q,E,l,H=>wpE C q d k e l (fun v H=>Q .next (l.set i (some v)) H) (fun x H=>E x l H) H
 |.unp is e,Q,E,l,H=>q=true/\wpE C q d k e l (fun v H=>Opt (unpV is v l) fun l'=>Q .next l' H) (fun x H=>E x l H) H
 |.put o i e,Q,E,l,H=>wpE C q d k e l (fun v H=>wpE C q d k o l (fun a H=>wpE C q d k i l (fun j H=>Opt (putV H a j v) fun H'=>Q .next l H') (fun x H=>E x l H) H) (fun x H=>E x l H) H) (fun x H=>E x l H) H
 |.expr e,Q,E,l,H=>wpE C q d k e l (fun J H=>Q .next l H) (fun x H=>E x l H) H
 |.ret e,Q,E,l,H=>wpE C q d k e l (fun v H=>Q (.ret v) l H) (fun x H=>E x l H) H
 |.ite t a b,Q,E,l,H=>wpE C q d k t l (zed fun c H=>ze5 c (wpSs C q d k a Q E l H) (wpSs C q d k b Q E l H)) (fun x H=>E x l H) H
 |.whil t b,Q,_,l,H=>q=true/\wpWhile (fun l Q H=>wpT C q d k t l Q noX H) (fun l Q H=>wpSs C q d k b Q (fun J J J=>False) l H) l Q H
 |.loop t s b,Q,E,l,H=>q=true/\wpSr C q d k s l (fun items ok H=>zhx ok (fun x l Q H=>Opt (zg8 t x l) fun l'=>wpSs C q d k b Q E l' H) items Q l H) (fun x H=>E x l H) H
 |.rais cn es,_,E,l,H=>q=true/\wpL C q d k es l (fun vs H=>E (.exc cn (atOf cn vs)) l H) noX H
 |.tri b i h,Q,_,l,H=>q=true/\wpSs C q d k b Q (fun x l' H=>kidX x=true/\wpSs C false d k h (fun f l'' H=>Q f (l''.set i none) H) (fun J J J=>False) (l'.set i (some x)) H) l H
 |.stuck,_,_,_,_=>False
def wpSs(C:CallT)(q:Bool)(d:Nat)(k:Clo):List St->SPost->SX->Loc->Hp->Prop
 |[],Q,_,l,H=>Q .next l H
 |s::ss,Q,E,l,H=>wpS C q d k s (Then (wpSs C q d k ss Q E) Q) E l H
end
variable {C:CallT}{EE:SX}{Qx:SPost}{k:Clo}{op:Op}{os:List Cm}{p:V×Hp}{sr:Sr}{src x1 xelt xsrc xt y1 y2:Ex}{ss xb:List St}{x:Str}{xifs:List Ex}{y:Value}
structure Res where
 fr:Bool
 n:Nat
 t:List (Str×Nat)
noncomputable def Res.lookup(r:Res)(x:Str):Option Nat:=r.t.lookup x
structure PlainEnv(wz:Env):Prop where
 g0:wz.scope.kind≠.module
 g1:wz.scope.isGenerator=false
 g2:wz.scope.isCoroutine=false
 g3:wz.builtins=qbn
 g4:wz.globals=qan
inductive EnvOk(c:Cx)(φ:List Addr)(h:Heap)(wz:Env):Prop
 |mk (pl:PlainEnv wz)(L:Addr)(o:Obj)(es:Array qbk)(n:Nat)(h4:wz.frame=some L)(h5:c.h0.get? L=none)(h6:L∉φ)(h7:h.get? L=some o)(h8:o.data=.dict es n)(h9:o.cls=.type "frame"):EnvOk c φ h wz
structure OkA(c:Cx)(A:Around)(q:Bool)(d:Nat)(φ:List Addr)(h:Heap):Prop where
 dep:A.depth+d<=890
 un:A.units+10*d<=9000
 hd:q=true->A.handled=none
 fr:∃l,A.frames=some l/\∀wz∈l,EnvOk c φ h wz
structure OkF(c:Cx)(A:Around)(q:Bool)(d:Nat)(φ:List Addr)(h:Heap):Prop extends OkA c A q d φ h where
 ne:A.frames≠some []
theorem OkA.mono(h:OkA c A q d φ s.heap)(e:Ext X φ s φ' s'):OkA c A q d φ' s'.heap where
 dep:=h.dep
 un:=h.un
 hd:=h.hd
 fr:=by
  obtain⟨l,h1,h2⟩:=h.fr
  refine⟨l,h1,fun wz he=>?_⟩
  obtain⟨h3,L,o,es,n,h4,h5,h6,h7,h8,h9⟩:=h2 wz he
  obtain⟨o',es',n',g1,g2,g3⟩:=e.dict L o es n h7 h6 h8
  exact⟨h3,L,o',es',n',h4,h5,e.notin h7 h6,g1,g2,g3.cls.trans h9⟩
theorem OkF.mono(h:OkF c A q d φ s.heap)(e:Ext X φ s φ' s'):OkF c A q d φ' s'.heap:=⟨h.toOkA.mono e,h.ne⟩
inductive SlotC(c:Cx)(φ:List Addr)(h:Heap)(wz:Env)(x:Str):Option V->Prop
 |yes (v:V)(ca:Addr)(r:Value)(h1:wz.cells.lookup x=some ca)(h2:h.IsCell ca (some r))(h3:Rep c φ h v r):SlotC c φ h wz x (some v)
 |no (ca:Addr)(h1:wz.cells.lookup x=some ca)(h2:h.IsCell ca none):SlotC c φ h wz x none
inductive SlotL(c:Cx)(φ:List Addr)(h:Heap)(m:Option Value):Option V->Prop
 |yes (v:V)(r:Value)(h1:m=some r)(h2:Rep c φ h v r):SlotL c φ h m (some v)
 |no:SlotL c φ h m none
def zsf(k:Option qaf)(L C:Prop):Prop:=match k with
 |some .local=>L
 |some .cell=>C
 |some .free=>C
 |_=>False
def zfw(c:Cx)(φ:List Addr)(h:Heap)(wz:Env)(m:Str->Option Value)(x:Str)(ov:Option V):Prop:=zsf (wz.kindOf x) (SlotL c φ h (m x) ov) (SlotC c φ h wz x ov)
theorem zsf.imp{k:Option qaf}{L C L' C':Prop}(h:zsf k L C)(hL:k=some .local->L->L')(hC:C->C'):zsf k L' C':=by
 cases k with
 |none=>exact h.elim
 |some k=>cases k<;>first |exact hL rfl h |exact hC h |exact h.elim
inductive CloRep(c:Cx)(φ:List Addr)(h:Heap)(B:Nat)(kk:Nat)(z:V)(fv:Value):Prop
 |mk (a:Addr)(o:Obj)(fd:qbe)(nm:Str)(ca:Addr)(oc:Obj)(rv:Value)(hr:fv=.ref a)(ha:a∉φ)(ho:h.get? a=some o)(hc:o.cls=.type "function")(hd:o.data=.func fd)(hk:c.lam kk fd nm)
   (hcl:fd.closure=[(nm,ca)]) (hca:ca∉φ) (hlt:ca<B) (hoc:h.get? ca=some oc) (hcc:oc.cls=.type "cell") (hdc:oc.data=.cell (some rv)) (hx:Rep c φ h z rv)
   (h0:c.h0.get? ca=none) (cc:Addr) (hcd:fd.code=.ref cc) (hco:CodeO h cc fd.qualname) (hcφ:cc∉φ):CloRep c φ h B kk z fv
noncomputable def zcg:Str:=qab "join"
def JoinAt(c:Cx)(wz:Env)(m:Str->Option Value)(kk:Nat)(z:V)(φ:List Addr)(h:Heap):Prop:=∀GJ:Prop,((wz.kindOf zcg=some .local)->∀(fv:Value),(m zcg=some fv)->CloRep c φ h wz.locals kk z fv->GJ)->GJ
inductive RoomAt(wz:Env)(fr:Bool)(h:Heap)(m:Str->Option Value):Prop
 |mk (ns:h.Ns wz.locals m)(o:Obj)(ho:h.get? wz.locals=some o)(hc:(o.cls=.type "frame"/\fr=true)\/(o.cls=.type "dict"/\m (qab "at")=none/\fr=false)):RoomAt wz fr h m
theorem RoomAt.ns(q:RoomAt wz fr h m):h.Ns wz.locals m:=let⟨n,_,_,_⟩:=q;n
inductive NsAt(c:Cx)(wz:Env)(wu:Res)(k:Clo)(loc:Loc)(φ:List Addr)(h:Heap):Prop
 |mk (m:Str->Option Value)(room:RoomAt wz wu.fr h m)(slot:∀x i,wu.lookup x=some i->zfw c φ h wz m x (loc.getD i none))(clo:∀kk z,k=some (kk,z)->JoinAt c wz m kk z φ h):NsAt c wz wu k loc φ h
inductive CellAt(c:Cx)(φ:List Addr)(h:Heap)(ca:Addr):Prop
 |mk (h1:ca∉φ)(h2:c.h0.get? ca=none)(o:Obj)(h3:h.get? ca=some o)(h4:o.cls=.type "cell")(h5:∃r,o.data=.cell r):CellAt c φ h ca
theorem CellAt.out(q:CellAt c φ h ca):ca∉φ/\c.h0.get? ca=none:=let⟨h1,h2,_,_,_,_⟩:=q;⟨h1,h2⟩
structure FSim(c:Cx)(wz:Env)(wu:Res)(k:Clo)(loc:Loc)(φ:List Addr)(h:Heap):Prop where
 fn:wz.scope.kind=.function
 gl:wz.globals=qan
 bl:wz.builtins=qbn
 ns:NsAt c wz wu k loc φ h
 len:wu.n<=loc.length
 Lφ:wz.locals∉φ
 L0:c.h0.get? wz.locals=none
 cells:∀x ca,wz.cells.lookup x=some ca->CellAt c φ h ca
theorem Ns_slots(hn:h.Ns L m)(hk:∀o,h.get? L=some o->∃sl,h'.get? L=some { o with slots:=sl }):h'.Ns L m:=by
 obtain⟨o,es,ep,ho,hd,r⟩:=hn
 obtain⟨sl,h1⟩:=hk o ho
 exact⟨_,es,ep,h1,hd,r⟩
structure Off(wz:Env)(X:List Addr)(s:Shared):Prop where
 loc:wz.locals∉X
 cells:∀x ca,wz.cells.lookup x=some ca->ca∉X
 clo:∀ca o,s.heap.get? ca=some o->o.cls=.type "cell"->ca<wz.locals->ca∉X
theorem Off.nil:Off wz [] s:=⟨by simp,by simp,by simp⟩
theorem zs3{q:Str}(e:Kp X φ h φ' h')(hX:OwnX c X h)(k:CodeO h cc q)(hn:cc∉φ):CodeO h' cc q:=by
 obtain⟨o,vs,t,h1,h2,h3,h4⟩:=k
 exact⟨o,vs,t,zpz e hX h1 hn (zkt h2 rfl),h2,h3,h4⟩
theorem CloRep.mono{kk z fv}(e:Kp X φ s.heap φ' s'.heap)(hX:OwnX c X s.heap)(hB:∀ca o,s.heap.get? ca=some o->o.cls=.type "cell"->ca<B->ca∉X)(h:CloRep c φ s.heap B kk z fv):CloRep c φ' s'.heap B kk z fv:=by
 obtain⟨a,o,fd,nm,ca,oc,rv,hr,ha,ho,hc,hd,hk,hcl,hca,hlt,hoc,hcc,hdc,hx,h0,cc,hcd,hco,hcφ⟩:=h
 exact⟨a,o,fd,nm,ca,oc,rv,hr,e.notin ho ha,zpz e hX ho ha (zkt hc rfl),hc,hd,hk,hcl,e.notin hoc hca,hlt,
  e.keep ca oc hoc hca (hB ca oc hoc hcc hlt) (by rw[hcc];decide),hcc,hdc,Rep.mono e hX hx,h0,cc,hcd,zs3 e hX hco hcφ,let⟨_,_,_,g1,_,_,_⟩:=hco;e.notin g1 hcφ⟩
theorem SlotL.mono{m:Option Value}(e:Kp X φ s.heap φ' s'.heap)(hX:OwnX c X s.heap):SlotL c φ s.heap m ov->SlotL c φ' s'.heap m ov
 |.yes v r h1 h2=>.yes v r h1 (Rep.mono e hX h2)
 |.no=>.no
theorem zt2{r:Option Value}(e:Kp X φ s.heap φ' s'.heap)(k0:ca∉X)(k1:CellAt c φ s.heap ca)(h:s.heap.IsCell ca r):s'.heap.IsCell ca r:=by
 obtain⟨k1,k2,o',k3,k4⟩:=k1
 obtain⟨o,h2,h2'⟩:=h
 cases zaa (h2.symm.trans k3)
 exact⟨_,e.keep ca _ h2 k1 k0 (by rw[k4];decide),h2'⟩
theorem SlotC.imp(hc:∀ca r,wz.cells.lookup x=some ca->h.IsCell ca r->h'.IsCell ca r)(hr:∀v r,Rep c φ h v r->Rep c φ' h' v r):SlotC c φ h wz x ov->SlotC c φ' h' wz x ov
 |.yes v ca r h1 h2 h3=>.yes v ca r h1 (hc ca _ h1 h2) (hr v r h3)
 |.no ca h1 h2=>.no ca h1 (hc ca _ h1 h2)
theorem SlotC.mono(e:Kp X φ s.heap φ' s'.heap)(hX:OwnX c X s.heap)(hc:∀x ca,wz.cells.lookup x=some ca->ca∉X/\CellAt c φ s.heap ca)(h:SlotC c φ s.heap wz x ov):SlotC c φ' s'.heap wz x ov:=
 h.imp (fun ca J h1 h2=>zt2 e (hc x ca h1).1 (hc x ca h1).2 h2) fun J J h=>Rep.mono e hX h
theorem zfw.mono(e:Kp X φ s.heap φ' s'.heap)(hX:OwnX c X s.heap)(hc:∀x ca,wz.cells.lookup x=some ca->ca∉X/\CellAt c φ s.heap ca)
  (h:zfw c φ s.heap wz m x ov):zfw c φ' s'.heap wz m x ov:=zsf.imp h (fun J h=>SlotL.mono e hX h) (SlotC.mono e hX hc)
theorem FSim.lcls{wu:Res}(F:FSim c wz wu k loc φ h)(ho:h.get? wz.locals=some o):o.cls≠.none:=fun q=>by
 obtain⟨m,⟨_,o',h3,h4⟩,_,_⟩:=F.ns
 obtain rfl:=zaa (ho.symm.trans h3)
 rcases h4 with h4 |h4
 ·rw[h4.1] at q;injection q
 ·rw[h4.1] at q;injection q
theorem FSim.off{wu:Res}(F:FSim c wz wu k loc φ s.heap)(e:Kp X φ s.heap φ' s'.heap)(hX:OwnX c X s.heap)(hO:Off wz X s)
  (hL:∀o,s.heap.get? wz.locals=some o->∃sl,s'.heap.get? wz.locals=some { o with slots:=sl }):FSim c wz wu k loc φ' s'.heap where
 fn:=F.fn
 gl:=F.gl
 bl:=F.bl
 len:=F.len
 ns:=by
  obtain⟨m,⟨hn,o,ho,hc⟩,h1,h2⟩:=F.ns
  obtain⟨sl,h'⟩:=hL o ho
  refine⟨m,⟨Ns_slots hn hL,_,h',hc⟩,fun x i hx=>(h1 x i hx).mono e hX fun x ca h=>⟨hO.cells x ca h,F.cells x ca h⟩,fun kk z hk=>?_⟩
  refine(h2 kk z hk) _ fun h3 fv h4 h5=>?_
  exact(fun J kJ=>kJ h3 fv h4 (h5.mono e hX hO.clo))
 Lφ:=by
  obtain⟨m,⟨_,o,ho,_⟩,_⟩:=F.ns
  exact e.notin ho F.Lφ
 L0:=F.L0
 cells x ca h:=by
  obtain⟨h1,h2,o,h3,h4,h5⟩:=F.cells x ca h
  exact⟨e.notin h3 h1,h2,o,e.keep ca o h3 h1 (hO.cells x ca h) (by rw[h4];decide),h4,h5⟩
theorem FSim.mono{wu:Res}(F:FSim c wz wu k loc φ s.heap)(e:Ext [] φ s φ' s'):FSim c wz wu k loc φ' s'.heap:=
 F.off e.toKp OwnX.nil Off.nil fun o ho=>e.frame _ o ho F.Lφ (by simp) (F.lcls ho)
inductive Out(c:Cx)(φ:List Addr)(s:Shared)(Q:V->Hp->Prop)(r:Value)(s':Shared):Prop
 |mk (φ':List Addr)(H':Hp)(v:V)(e:Ext [] φ s φ' s')(S:Sim c φ' H' s')(R:Rep c φ' s'.heap v r)(q:Q v H'):Out c φ s Q r s'
inductive TbAt(c:Cx)(φ:List Addr)(s:Shared)(h:Heap)(vs:Array Value):Prop
 |mk (T:Addr)(oT:Obj)(ts:Array Value)(h1:vs[1]?=some (.ref T))(h2:s.heap.get? T=none)(h3:T∉φ)(h4:c.h0.get? T=none)(h5:h.get? T=some oT)(h6:oT.cls=.type "traceback")(h7:oT.data=.fields ts)(h8:3<ts.size):TbAt c φ s h vs
inductive XRep(c:Cx)(φ:List Addr)(s:Shared)(h:Heap)(x:V)(e:Value):Prop
 |mk (R:Rep c φ h x e)(hx:∃cn y,x=.exc cn y)(a:Addr)(o:Obj)(vs:Array Value)(h3:e=.ref a)(h4:s.heap.get? a=none)(h5:h.get? a=some o)(h6:o.data=.fields vs)(h7:vs[1]?=some .none\/TbAt c φ s h vs):XRep c φ s h x e
inductive OutX(c:Cx)(φ:List Addr)(s:Shared)(E:XPost)(e:Value)(s':Shared):Prop
 |mk (φ':List Addr)(H':Hp)(x:V)(ex:Ext [] φ s φ' s')(S:Sim c φ' H' s')(R:XRep c φ' s s'.heap x e)(q:E x H'):OutX c φ s E e s'
theorem Ext.fresh(e:Ext X φ s φ₁ s₁)(S:Sim c φ₁ H s₁){b:Addr}(hb:s₁.heap.get? b=none):s.heap.get? b=none:=by
 refine xC (s.heap.get? b) (fun q=>?_) fun o q=>?_
 ·rfl
 ·by_cases hφ:b∈φ
  ·obtain⟨o',h1,_⟩:=S.isList (e.pre.subset hφ)
   exact no1 (hb.symm.trans h1)
  ·by_cases hX:b∈X
   ·obtain⟨o',h1⟩:=e.alive b o q hX
    exact no1 (hb.symm.trans h1)
   ·obtain⟨o',h1⟩:=e.live b o q hφ hX
    exact no1 (hb.symm.trans h1)
theorem XRep.lift{x:V}(e:Ext X φ s φ₁ s₁)(S:Sim c φ₁ H s₁)(q:XRep c φ₂ s₁ h x r):XRep c φ₂ s h x r:=by
 obtain⟨h1,h2,a,o,vs,h3,h4,h5,h6,h7⟩:=q
 exact⟨h1,h2,a,o,vs,h3,e.fresh S h4,h5,h6,h7.imp id fun⟨T,oT,ts,g1,g2,g3,g4,g5,g6,g7,g8⟩=>⟨T,oT,ts,g1,e.fresh S g2,g3,g4,g5,g6,g7,g8⟩⟩
theorem Out.lift(e:Ext [] φ s φ₁ s₁)(h:Out c φ₁ s₁ Q r s₂):Out c φ s Q r s₂:=
 let⟨φ',H',v,e',S,R,hq⟩:=h;⟨φ',H',v,e.trans e',S,R,hq⟩
theorem OutX.lift{E:XPost}(e:Ext [] φ s φ₁ s₁)(S₁:Sim c φ₁ H s₁)(h:OutX c φ₁ s₁ E r s₂):OutX c φ s E r s₂:=
 let⟨φ',H',v,e',S,R,hq⟩:=h;⟨φ',H',v,e.trans e',S,R.lift e S₁,hq⟩
theorem Out.mono{Q':V->Hp->Prop}(hq:∀v H,Q v H->Q' v H)(h:Out c φ s Q r s₂):Out c φ s Q' r s₂:=
 let⟨φ',H',v,e',S,R,h⟩:=h;⟨φ',H',v,e',S,R,hq _ _ h⟩
theorem OutX.mono{Q Q':XPost}(hq:∀v H,Q v H->Q' v H)(h:OutX c φ s Q r s₂):OutX c φ s Q' r s₂:=
 let⟨φ',H',v,e',S,R,h⟩:=h;⟨φ',H',v,e',S,R,hq _ _ h⟩
theorem OutX.no{P:Prop}(h:OutX c φ s noX r s₂):P:=
 let⟨_,_,_,_,_,_,h⟩:=h;h.elim
def CloArg(c:Cx)(φ:List Addr)(h:Heap):Clo->List Value->Prop
 |none,l=>l=[]
 |some (kk,z),l=>∃fv,l=[fv]/\CloRep c φ h h.objs.size kk z fv
def Ends(c:Cx)(φ:List Addr)(s:Shared)(Q:V->Hp->Prop)(E:XPost)(r:Result)(s':Shared):Prop:=
 match r with
 |.ok (.ret v)=>Out c φ s Q v s'
 |.ok _=>False
 |.error e=>OutX c φ s E e s'
def CallsI(c:Cx)(q:Bool)(d:Nat)(f:Str)(vs:List V)(k:Clo)(Q:V->Hp->Prop)(E:XPost)(H:Hp):Prop:=∀GJ:Prop,(∀(a:Addr),∀(o:Obj),∀(fd:qbe),(c.g f=some (.ref a))->(c.h0.get? a=some o)->(o.data=.func fd)->(∀A φ s args extra,OkA c A q d φ s.heap->Sim c φ H s->RepL c φ s.heap vs args->CloArg c φ s.heap k extra->codeAny (model c.prog c.w) A (.call (.ref a) ⟨args++extra,[]⟩) (Ends c φ s Q E) s)->GJ)->GJ
noncomputable def Calls(c:Cx):CallT:=fun q d f vs k Q E H=>CallsI c q d f vs k Q E H
noncomputable def EndQ(Q:V->Hp->Prop):SPost:=fun f J H=>match f with
 |.ret v=>Q v H
 |.next=>Q .none H
noncomputable def EndX(E:XPost):SX:=fun x J H=>E x H
def zce(c:Cx)(wz:Env)(wu:Res)(e:Expr)(x:Ex):Prop:=
 ∀A q d k loc φ H s Q E,OkF c A q d φ s.heap->FSim c wz wu k loc φ s.heap->Sim c φ H s->wpE (Calls c) q d k x loc Q E H->
  wpAny (model c.prog c.w) A (eval e wz) (Out c φ s Q) (OutX c φ s E) s
def Does(c:Cx)(A:Around)(φ:List Addr)(s:Shared)(m:Sem Value)(v:V)(H':Hp):Prop:=
 ∀E:Value->Shared->Prop,wpAny (model c.prog c.w) A m (Out c φ s fun x H=>x=v/\H=H') E s
theorem Does.use{m:Sem Value}(h:Does c A φ s m v H')(e:Ext [] φ₀ s₀ φ s)(hq:Q v H') :
  wpAny (model c.prog c.w) A m (Out c φ₀ s₀ Q) E s:=
 qac (h E) (fun J J h=>Out.lift e (Out.mono (fun _ _ ⟨h1,h2⟩=>by rw[h1,h2];exact hq) h)) fun J J h=>h
theorem Out.at(S:Sim c φ H s)(R:Rep c φ s.heap v r)(hq:Q v H):Out c φ s Q r { s with toks:=t }:=
 ⟨φ,H,v,Ext.of_heap rfl rfl,S.tok t,R,hq⟩
theorem Out.at'(S:Sim c φ H s)(R:Rep c φ s.heap v r)(hq:Q v H):Out c φ s Q r s:=
 ⟨φ,H,v,Ext.refl,S,R,hq⟩
theorem Out.eq(h:Out c φ s (fun x H=>x=v/\H=H') r s')(hq:Q v H'):Out c φ s Q r s':=
 Out.mono (fun J J h=>by rw[h.1,h.2];exact hq) h
theorem Out.same(S:Sim c φ H s)(R:Rep c φ s.heap v r):Out c φ s (fun x H'=>x=v/\H'=H) r { s with toks:=t }:=
 ⟨φ,H,v,Ext.of_heap rfl rfl,S.tok t,R,rfl,rfl⟩
theorem Out.same'(S:Sim c φ H s)(R:Rep c φ s.heap v r):Out c φ s (fun x H'=>x=v/\H'=H) r s:=
 ⟨φ,H,v,Ext.refl,S,R,rfl,rfl⟩
variable {Q:Value->Shared->Prop}{k:Str}{m:Sem Value}{r0 wu res' res0:Res}{x:Value}
section
open PySem PyProof.Rows
structure Cx.Ok(c:Cx):Prop where
 lim:c.h0.NoLimit
 gl:c.h0.Ns qan c.g
 bl:c.h0.Ns qbn c.b
 seer:c.h0.NoSeer
 tree:c.prog.given.tree=none
noncomputable def Op.real:Op->Operator
 |.add=>.Add |.sub=>.Sub |.mul=>.Mult |.div=>.FloorDiv |.mod=>.Mod
theorem Sim.lim(S:Sim c φ H s)(O:c.Ok):s.heap.NoLimit:=O.lim.keeps S.stays
theorem OkF.seer(O:c.Ok)(hA:OkF c A q d φ s.heap)(S:Sim c φ H s):SeerAt (model c.prog c.w) A s.heap:=by
 obtain⟨l,h1,h2⟩:=hA.fr
 cases l with
 |nil=>exact absurd h1 hA.ne
 |cons wz l=>
  obtain⟨⟨_,g1,g2,g3,g4⟩,_⟩:=h2 wz zad
  exact SeerAt.of (O.seer.keeps S.stays) O.tree h1 g1 g2 g3 g4
abbrev lobj (vs:Array Value) (n:Nat):Obj:={ cls:=.type "list",data:=.seq vs n }
def Got(c:Cx)(φ:List Addr)(h:Heap)(i:Nat)(xs:List V)(r:Value):Prop:=∀GJ:Prop,(∀(a:Addr),∀(vs:Array Value),∀(n:Nat),(r=.ref a)->(φ[i]?=some a)->(h.get? a=some (lobj vs n))->RepL c φ h xs vs.toList->xs.length<=qag->(vs.size=xs.length)->GJ)->GJ
theorem Sim.getP(S:Sim c φ H s)(R:Rep c φ s.heap (.lst i) r)(h:H[i]?=some xs):Got c φ s.heap i xs r:=by
 obtain⟨a,hr,ha⟩:=R
 refine(S.lists i xs h) _ fun a' eN1 vs n h1 h2 h3 h4 h5 eN2=>?_;obtain⟨cls,dd,data,sl⟩:=eN1;obtain⟨h6,h7,h8⟩:=eN2
 obtain rfl:=zaa (ha.symm.trans h1)
 dsimp only at h3 h4 h7 h8
 subst h3 h4 h7 h8
 exact(fun J kJ=>kJ a vs n hr ha h2 h5 h6 (zbj.symm.trans h5.length))
theorem zdi(ho:h.get? a=some (lobj vs n)):h.IsList a vs:=⟨_,ho,rfl,n,rfl⟩
theorem znw{l:List Addr}(h:l.Nodup)(hi:l[i]?=some a)(hj:l[j]?=some a):i=j:=by
 obtain⟨h1,e1⟩:=zbn.mp hi
 obtain⟨h2,e2⟩:=zbn.mp hj
 rcases Nat.lt_trichotomy i j with hlt |hlt |hlt
 ·exact absurd (e1.trans e2.symm) (List.pairwise_iff_getElem.mp h i j h1 h2 hlt)
 ·exact hlt
 ·exact absurd (e2.trans e1.symm) (List.pairwise_iff_getElem.mp h j i h2 h1 hlt)
theorem Sim.put(S:Sim c φ H s)(ha:φ[i]?=some a)(hs:qa4 a s.heap h')(hn:h'.get? a=some (lobj vs n))(hr:RepL c φ s.heap xs vs.toList)(hz:xs.length<=qag) :
  Ext [] φ s φ { s with heap:=h' }/\Sim c φ (H.set i xs) { s with heap:=h' }:=by
 have ham:a∈φ:=zam ha
 have e:Ext [] φ s φ { s with heap:=h' }:=Ext.of_sameBut (s':={ s with heap:=h' }) hs ham (by simp) rfl
 refine⟨e,⟨fun b o h=>?_,S.fresh,S.nodup,by simp[S.len],fun j ys h=>?_,S.gens,fun x hx=>(S.tab x hx).mono (fun b ps hb=>(hs.2 b fun q=>by obtain⟨o,h1,h2⟩:=S.isList ham;rw[q,h1] at hb;(injection hb with Ja;subst Ja);injection h2).trans hb) fun b o hb hc=>(hs.2 b fun q=>by obtain⟨o,h1,h2⟩:=S.isList ham;rw[q,h1] at hb;(injection hb with Ja;subst Ja);rw[hc] at h2;exact absurd h2 (by decide)).trans hb⟩⟩
 ·exact(hs.2 b fun q=>by rw[q,S.fresh a ham] at h;injection h).trans (S.stays b o h)
 ·by_cases hji:j=i
  ·subst hji
   have hlt:j<H.length:=by rw[<- S.len];exact(zbn.mp ha).1
   rw[zbv hlt] at h
   (injection h with Ja;subst Ja)
   exact(fun J kJ=>kJ a _ vs n ha hn rfl rfl (RepL.mono e.toKp OwnX.nil hr) ⟨hz,rfl,rfl⟩)
  ·rw[zb0 (qax hji)] at h
   refine(S.lists j ys h) _ fun b o us k h1 h2 h3 h4 h5 h6=>?_
   refine(fun J kJ=>kJ b o us k h1 ((hs.2 b fun q=>hji (znw S.nodup (q▸h1) ha)).trans h2) h3 h4 (RepL.mono e.toKp OwnX.nil h5) h6)
theorem zj2(S:Sim c φ H s){vs:List Value}(hr:RepL c φ s.heap xs vs)(hz:xs.length<=qag) :
  Out c φ s (fun x H'=>x=.lst H.length/\H'=H++[xs]) (.ref s.heap.objs.size) { s with heap:=s.heap.push { cls:=.type "list",data:=.seq vs.toArray } }:=by
 obtain⟨e,S'⟩:=S.newList hr hz rfl
 refine⟨_,_,.lst H.length,e,S',?_,rfl,rfl⟩
 exact LstAt.mk _ rfl (by rw[zbq (za8 S.len)];simp[S.len])
theorem zez(S:Sim c φ H s)(hr:RepL c φ s.heap xs vs.toList)(hz:xs.length<=qag) :
  Out c φ s (fun x H'=>x=.lst H.length/\H'=H++[xs]) (.ref s.heap.objs.size) { s with heap:=s.heap.push { cls:=.type "list",data:=.seq vs } }:=by
 have:=zj2 S hr hz
 simpa using this
theorem zii(S:Sim c φ H s)(hr:RepL c φ s.heap xs vs.toList)(hz:xs.length<=qag) :
  Out c φ s (fun x H'=>x=.tup xs/\H'=H) (.ref s.heap.objs.size) { s with heap:=s.heap.push { cls:=.type "tuple",data:=.seq vs n } }:=by
 refine⟨φ,H,.tup xs,Ext.push,S.push _,?_,rfl,rfl⟩
 exact TupAt.mk _ _ vs n rfl S.new (qah _ rfl) rfl rfl hz (RepL.mono (Ext.push (X:=[])).toKp OwnX.nil hr)
set_option tactic.hygienic true in
theorem zk9{a:Int}(h:small a=true):Builtin.Int.intBits a<=64:=by
 simp only[small,decide_eq_true_eq] at h
 unfold Builtin.Int.intBits
 split
 ·exact zax _
 ·rename_i h0
  have h1:a≠0:=by simpa using h0
  have:a.natAbs.log2<63:=(Nat.log2_lt (by exact ar2 [_] [_] 0x7490a50006100c030800000084294a000c202006100804080000804049085294001840400c20100810000100804294001840300c2000000 (Y8 (Y2 V0 J0) J0) (Y8 (Y5 V0 J0) J0) (Y7 (Y6 (Y5 (Y4 V0 J0) V0) (Y3 J0 V0)) (Y6 (Y5 (Y4 V0 J0) (Y3 V0 J0)) (Y3 V0 J0))) h1 (Ar.na _))).mpr h
  exact ar1 [_] [] kaa (Y0 (Y0 V0 J1) (.l 64)) (Y1 V0 (.l 63)) this
theorem zk1(l:List α)(n:Nat):(rep l n).length=n*l.length:=by
 induction n with
 |zero=>exact(Nat.zero_mul _).symm
 |succ n ih=>rw[zq9,zak,ih,Nat.succ_mul,Nat.add_comm]
theorem RepL.rep(hr:RepL c φ h l rs):∀n,RepL c φ h (rep l n) (rep rs n)
 |0=>rfl
 |n+1=>hr.append (RepL.rep hr n)
theorem zvy(vs:Array Value)(n:Nat):∀acc:Array Value,(List.foldl (fun x1 x2=>x1++x2) acc (List.replicate n vs)).toList=acc.toList++rep vs.toList n:=by
 induction n with
 |zero=>exact fun acc=>(za4 _).symm
 |succ n ih=>intro acc;rw[List.replicate_succ,List.foldl_cons,ih,zq9];simp
theorem add_lst(S:Sim c φ H s){l1 l2:List V} {E}(R1:Rep c φ s.heap (.lst i) x)(R2:Rep c φ s.heap (.lst j) y)(e1:H[i]?=some l1)(e2:H[j]?=some l2)(hz:l1.length+l2.length<=qag) :
  wpAny (model c.prog c.w) A (binaryOp .Add x y) (Out c φ s fun v H'=>v=.lst H.length/\H'=H++[l1++l2]) E s:=by
 have hsl:qag=2^24:=rfl
 refine(S.getP R1 e1) _ fun a1 vs n wk J ho hr J z1=>?_;subst wk
 refine(S.getP R2 e2) _ fun a2 ws n2 wk J ho2 hr2 J z2=>?_;subst wk
 refine concat_meets ⟨_,ho,rfl⟩ ⟨_,ho2,rfl⟩ noFill_list_add seq_list_add PySem.F.slot_list_add PySem.F.entry_list_add (PySem.F.args_list_add_2 _ _) (list_addW a1 a2 vs ws n n2 none none #[] #[] (by exact ar3 [_,_,_,_,_] [] kak (Y0 (Y0 V0 V1) V2) (Y0 (Y0 V3 V4) V2) (Y2 V0 V3) (Y2 V1 V4) hz z1 z2)) ⟨ho,ho2,?_⟩
 exact zez S (by rw[Array.toList_append];exact hr.append hr2) (by rw[zak];exact hz)
abbrev DoesP (c:Cx) (A:Around) (φ:List Addr) (s:Shared) (m:Sem Value) (p:V×Hp):Prop:=Does c A φ s m p.1 p.2
theorem do_add(S:Sim c φ H s)(R1:Rep c φ s.heap v x)(R2:Rep c φ s.heap w y)(e:addV H v w=some p):DoesP c A φ s (binaryOp .Add x y) p:=by
 intro E
 cases v with
 |int a=>
  revert e;refine xM fun b hb wj=>?_;subst wj
  obtain rfl:=zdy hb
  obtain⟨t1,rfl⟩:=R1;obtain⟨t2,rfl⟩:=R2
  exact add_int (Out.same S rI)
 |lst a=>
  revert e;refine xB fun x1 e1 f=>?_
  obtain⟨_,x2,rfl,e2,g⟩:=zgr f
  revert g;refine xS fun hz wj=>?_;subst wj
  exact add_lst S R1 R2 e1 e2 hz
 |_=>injection e
set_option tactic.hygienic true in
theorem mul_lst(S:Sim c φ H s) {E}(R1:Rep c φ s.heap (.lst i) x)(R2:Rep c φ s.heap (.int nn) y)(e1:H[i]?=some l)(hz:0<=nn/\nn<=1000000/\nn.toNat*l.length<=qag) :
  wpAny (model c.prog c.w) A (binaryOp .Mult x y) (Out c φ s fun v H'=>v=.lst H.length/\H'=H++[rep l nn.toNat]) E s:=by
 obtain⟨t2,rfl⟩:=R2
 refine(S.getP R1 e1) _ fun a1 vs n wk J ho hr J z1=>?_;subst wk
 have hsz':vs.size*nn.toNat<=2^24:=by rw[z1,Nat.mul_comm];exact hz.2.2
 refine wpAny_binaryOp_repeat_ref (T:="list") (U:="int") (by decide) ⟨_,ho,rfl⟩ (fun s'=>typeIs_int s' nn t2) noFill_list_mul F.fills_int_mul F.slot_int_rmul repeat_list F.slot_int_index.lookup
  (call_meets F.slot_int_rmul (typeIs_int s nn t2) F.entry_int_rmul (F.args_int_rmul_2 _ _) (lm_int_rmul_list_any nn t2 a1 vs n none #[])
   ⟨ho,rfl,⟨_,ho,rfl⟩,call_meets F.slot_list_mul ⟨_,ho,rfl⟩ F.entry_list_mul (F.args_list_mul_2 _ _)
    (lm_list_mul_any a1 vs n none #[] nn t2 (by simp[Builtin.List.listFitsIndex];lia) (by lia) (by simp[Builtin.List.listTooLong,qag];lia))
    ⟨ho,?_⟩⟩)
 refine zez S ?_ (by rw[zk1];exact hz.2.2)
 rw[zvy]
 split
 ·rename_i hem
  obtain rfl:l=[]:=zbr.mp (z1▸by simpa using hem)
  have:∀k,rep ([]:List V) k=[]:=fun k=>zbr.mp (by rw[zk1];simp)
  rw[this];rfl
 ·simpa using hr.rep nn.toNat
theorem do_mul(S:Sim c φ H s)(R1:Rep c φ s.heap v x)(R2:Rep c φ s.heap w y)(e:mulV H v w=some p):DoesP c A φ s (binaryOp .Mult x y) p:=by
 intro E
 revert e;refine xB fun nn hb f=>?_
 skip
 obtain rfl:=zdy hb
 cases v with
 |int a=>
  revert f;refine xS fun hs wj=>?_;subst wj
  obtain⟨t1,rfl⟩:=R1;obtain⟨t2,rfl⟩:=R2
  exact PyProof.Rows.mul_int (Out.same S rI) ((zb1.mp hs).elim (fun h=>IntMulOk.of_left (zk9 h)) fun h=>IntMulOk.of_right (zk9 h))
 |lst a=>
  revert f;refine xB fun x1 e1 g=>?_
  revert g;refine xS fun hz wj=>?_;subst wj
  exact mul_lst S R1 R2 e1 hz
 |_=>injection f
theorem do_bin(O:c.Ok)(hA:OkF c A q d φ s.heap)(S:Sim c φ H s)(R1:Rep c φ s.heap v x)(R2:Rep c φ s.heap w y)
  (e:binV H op v w=some p):DoesP c A φ s (binaryOp op.real x y) p:=by
 cases op with
 |add=>exact do_add S R1 R2 e
 |mul=>exact do_mul S R1 R2 e
 |sub=>
  obtain⟨a,b,rfl,rfl,f⟩:=zey e
  obtain rfl:=zaa f
  obtain⟨t1,rfl⟩:=R1;obtain⟨t2,rfl⟩:=R2
  exact fun E=>PyProof.Rows.sub_int (Out.same S rI)
 |div=>
  obtain⟨a,b,rfl,rfl,f⟩:=zey e
  obtain⟨hb,rfl⟩:=iteN f
  obtain⟨t1,rfl⟩:=R1;obtain⟨t2,rfl⟩:=R2
  exact fun E=>floordiv_int hb (Out.same S rI) (Or.inr (PySem.PylongRoom.of (S.lim O) (by have:=hA.dep;show _+100<1000;exact ar1 [_,_] [] kaa (Y1 (Y0 V0 (.l 100)) (.l 1000)) (Y0 (Y0 V0 V1) (.l 890)) this) (hA.seer O S)))
 |mod=>
  obtain⟨a,b,rfl,rfl,f⟩:=zey e
  obtain⟨hb,rfl⟩:=iteN f
  obtain⟨t1,rfl⟩:=R1;obtain⟨t2,rfl⟩:=R2
  exact fun E=>mod_int' hb (Out.same S rI)
end
variable {a:Int}{l:List Str}{p:PyData}
section
open PySem PyProof.Rows
end
section
open PySem PyProof.Rows
noncomputable def Cm.real:Cm->CmpOp
 |.lt=>.Lt |.le=>.LtE |.gt=>.Gt |.ge=>.GtE |.eq=>.Eq |.ne=>.NotEq
 |.notIn=>.NotIn
def zww(h:Heap)(r:Value)(p:PyData)(n:Nat):Prop:=∀GJ:Prop,(∀(as:List Addr),Reads h r p as->p.depth<=n->GJ)->GJ
def ReadsL(h:Heap)(rs:List Value)(ps:List PyData)(n:Nat):Prop:=∀GJ:Prop,(∀(as:List Addr),ReadsAll h rs ps as->PyData.depthAll ps<=n->GJ)->GJ
theorem zgx(hf:∀v p r,f v=some p->Rep c φ h v r->zww h r p n) :
  ∀{xs:List V} {rs:List Value} {ps:List PyData},mapO f xs=some ps->RepL c φ h xs rs->ReadsL h rs ps n
 |[],_,_,e,R=>by
  obtain rfl:=R.nil_inv
  obtain rfl:=zaa e
  exact(fun J kJ=>kJ _ .nil (zax _))
 |x::xs,_,_,e,R=>by
  refine(zc8 e) _ fun y ys h1 h2 wk=>?_;subst wk
  refine R.uncons _ fun r rs wk R1 R2=>?_;subst wk
  refine(hf x y r h1 R1) _ fun as ra da=>?_
  refine(zgx hf h2 R2) _ fun bs rb db=>?_
  exact(fun J kJ=>kJ _ (.cons ra rb) (Nat.max_le.mpr ⟨da,db⟩))
theorem zkr(n:Nat)(R:Rep c φ h v r)(e:atomP v=some p):zww h r p n:=by
 cases v with
 |none=>obtain rfl:=zaa e;obtain rfl:=R;exact(fun J kJ=>kJ _ (by constructor) (zax _))
 |bool=>obtain rfl:=zaa e;obtain rfl:=R;exact(fun J kJ=>kJ _ (by constructor) (zax _))
 |int=>obtain rfl:=zaa e;obtain⟨t,rfl⟩:=R;exact(fun J kJ=>kJ _ (by constructor) (zax _))
 |str=>obtain rfl:=zaa e;obtain⟨t,rfl⟩:=R;exact(fun J kJ=>kJ _ (by constructor) (zax _))
 |_=>injection e
theorem zi5(S:Sim c φ H s):∀(n:Nat)(v:V)(p:PyData)(r:Value),toP n H v=some p->Rep c φ s.heap v r->zww s.heap r p n
 |0,v,p,r,e,R=>zkr 0 R e
 |n+1,v,p,r,e,R=>by
  cases v with
  |tup l=>
   revert e;refine xM fun ps e1 wj=>?_;subst wj
   obtain⟨a,o,vs,m,rfl,_,ho,hc,hd,_,hl⟩:=R
   refine(zgx (zi5 S n) e1 hl) _ fun as ra da=>?_
   exact(fun J kJ=>kJ _ (.tuple ho hc hd ra) (Nat.succ_le_succ da))
  |lst i=>
   revert e;refine xM fun ps e1 wj=>?_;subst wj
   revert e1;refine xB fun xs e2 e3=>?_
   refine(S.getP R e2) _ fun a vs m wk J ho hl J J=>?_;subst wk
   refine(zgx (zi5 S n) e3 hl) _ fun as ra da=>?_
   exact(fun J kJ=>kJ _ (.list ho rfl rfl ra) (Nat.succ_le_succ da))
  |_=>exact zkr _ R e
def EqI(h:Heap)(x y:Value)(b:Bool):Prop:=∀GJ:Prop,(∀(p p':PyData),∀(as bs:List Addr),Reads h x p as->Reads h y p' bs->(p.canLay0=true)->(p'.canLay0=true)->p.depth<=9->p'.depth<=9->(PyData.eqv p p'=b)->GJ)->GJ
theorem zqv(S:Sim c φ H s)(R1:Rep c φ s.heap v x)(R2:Rep c φ s.heap w y)(e:eqV H v w=some b):EqI s.heap x y b:=by
 revert e;refine xB fun p e1 f=>?_
 revert f;refine xB fun p' e2 g=>?_
 revert g;refine xS fun h wj=>?_;subst wj
 refine(zi5 S 9 v p x e1 R1) _ fun as ra da=>?_
 refine(zi5 S 9 w p' y e2 R2) _ fun bs rb db=>?_
 exact(fun J kJ=>kJ p p' as bs ra rb ((zbc.mp h).1) ((zbc.mp h).2) da db rfl)
theorem zhe:∀{xs:List V}{rs:List Value}{l:List Int},RepL c φ h xs rs->zt4 xs=some l->IntsAre rs l
 |[],_,_,R,e=>by
  obtain rfl:=R.nil_inv
  obtain rfl:=zaa e
  exact .nil
 |x::xs,_,_,R,e=>by
  refine R.uncons _ fun r rs wk R1 R2=>?_;subst wk
  revert e;refine xB fun i h1 f=>?_
  revert f;refine xM fun l' h2 wj=>?_;subst wj
  obtain rfl:=zdy h1
  obtain⟨t,rfl⟩:=R1
  exact .cons _ _ (zhe R2 h2)
theorem zon:∀{xs:List V}{rs:List Value}{l:List Str},RepL c φ h xs rs->zuq xs=some l->StrsAre rs l
 |[],_,_,R,e=>by
  obtain rfl:=R.nil_inv
  obtain rfl:=zaa e
  exact .nil
 |x::xs,_,_,R,e=>by
  refine R.uncons _ fun r rs wk R1 R2=>?_;subst wk
  revert e;refine xB fun i h1 f=>?_
  revert f;refine xM fun l' h2 wj=>?_;subst wj
  obtain rfl:=zhg h1
  obtain⟨t,rfl⟩:=R1
  exact .cons _ _ (zon R2 h2)
theorem zgq:∀{xs:List V}{rs:List Value}{l:List Bool},RepL c φ h xs rs->zeq xs=some l->rs=l.map Value.bool
 |[],_,_,R,e=>by
  obtain rfl:=R.nil_inv
  obtain rfl:=zaa e
  rfl
 |x::xs,_,_,R,e=>by
  refine R.uncons _ fun r rs wk R1 R2=>?_;subst wk
  revert e;refine xB fun i h1 f=>?_
  revert f;refine xM fun l' h2 wj=>?_;subst wj
  obtain rfl:=zdx h1
  obtain rfl:=R1
  rw[zgq R2 h2];rfl
noncomputable def isS(k:Str):Value->Bool
 |.str i _=>i==k
 |_=>false
theorem isS_any(h:StrsAre rs l):rs.any (isS k)=decide (k∈l):=by
 induction h with
 |nil=>rfl
 |cons n t h ih=>
  rw[List.any_cons,ih]
  rw[Bool.eq_iff_iff,show isS k (.str n t)=(n==k) from rfl];simp only[Bool.or_eq_true,beq_iff_eq,decide_eq_true_eq,zah]
  exact⟨fun h=>h.imp Eq.symm id,fun h=>h.imp Eq.symm id⟩
theorem strs_mem(h:StrsAre rs l):∀r∈rs,∃i t,r=.str i t:=by
 induction h with
 |nil=>intro r hr;cases hr
 |cons n t h ih=>
  intro r hr
  rcases zah.mp hr with rfl |hr
  ·exact⟨n,t,rfl⟩
  ·exact ih r hr
def Cmps(c:Cx)(A:Around)(s:Shared)(o:Cm)(x y:Value)(b:Bool):Prop:=∀{Q:Value->Shared->Prop}{E:Value->Shared->Prop},Q (.bool b) s->wpAny (model c.prog c.w) A (compareOp o.real x y) Q E s
theorem do_notIn(R1:Rep c φ s.heap v x)(R2:Rep c φ s.heap w y)(e:ninV v w=some b):Cmps c A s .notIn x y b:=by
 intro Q E hq
 revert e;refine xB fun k h1 f=>?_
 revert f;refine xB fun l0 h2 g=>?_
 obtain rfl:=zhg h1
 obtain rfl:=zf7 h2
 revert g;refine xM fun l e' wj=>?_;subst wj
 obtain⟨t1,rfl⟩:=R1
 obtain⟨a,o,vs,n,rfl,_,ho,hc,hd,_,hr⟩:=R2
 have hi:=zon hr e'
 refine SeqAt.notIn_tupleAt (isS k) ⟨o,ho,hc,n,hd⟩ (fun r hr'=>?_) ?_
 ·obtain⟨i,t,rfl⟩:=strs_mem hi r (Array.mem_toList_iff.mpr hr')
  exact SeqAt.EqAt.str_str _ _ _ _
 ·rw[<- Array.any_toList,isS_any hi];exact hq
theorem do_cmp(hu:A.units+100<cLine)(S:Sim c φ H s){o:Cm}(R1:Rep c φ s.heap v x)(R2:Rep c φ s.heap w y)
  (e:cmpV H o v w=some b):Cmps c A s o x y b:=by
 cases o with
 |lt=>
  obtain⟨a,b,rfl,rfl,f⟩:=zey e
  obtain rfl:=zaa f
  obtain⟨t1,rfl⟩:=R1;obtain⟨t2,rfl⟩:=R2
  exact PyProof.Rows.lt_int
 |le=>
  obtain⟨a,b,rfl,rfl,f⟩:=zey e
  obtain rfl:=zaa f
  obtain⟨t1,rfl⟩:=R1;obtain⟨t2,rfl⟩:=R2
  exact PyProof.Rows.le_int
 |gt=>
  obtain⟨a,b,rfl,rfl,f⟩:=zey e
  obtain rfl:=zaa f
  obtain⟨t1,rfl⟩:=R1;obtain⟨t2,rfl⟩:=R2
  exact PyProof.Rows.gt_int
 |ge=>
  obtain⟨a,b,rfl,rfl,f⟩:=zey e
  obtain rfl:=zaa f
  obtain⟨t1,rfl⟩:=R1;obtain⟨t2,rfl⟩:=R2
  exact PyProof.Rows.ge_int
 |eq=>
  refine(zqv S R1 R2 e) _ fun p p' as bs ra rb l l' da db wk=>?_;subst wk
  exact SeqAt.compareEq_reads ra rb l l' (by exact ar2 [_,_,_,_] [] 0x194a528003080601840400c20280610000810421 (Y1 (Y0 V0 (Y5 V1 V2)) V3) (Y1 (Y0 V0 (.l 100)) V3) (Y0 V1 (.l 9)) hu da)
 |ne=>
  revert e;refine xM fun b' e' wj=>?_;subst wj
  refine(zqv S R1 R2 e') _ fun p p' as bs ra rb l l' da db wk=>?_;subst wk
  exact SeqAt.compareNe_reads ra rb l l' (by exact ar2 [_,_,_,_] [] 0x194a528003080601840400c20280610000810421 (Y1 (Y0 V0 (Y5 V1 V2)) V3) (Y1 (Y0 V0 (.l 100)) V3) (Y0 V1 (.l 9)) hu da)
 |notIn=>exact do_notIn R1 R2 e
end
variable {b k:Int}{f:Nat->V}{l:List Int}{p:Int×Int}
section
open PySem PyProof.Rows
def SubOps(slice:Expr)(o i:Value):Prop:=∀GJ:Prop,(∀(ops:List Value),(subscripted slice false o i=operate ops (getItem o i))->GJ)->GJ
theorem zl5(slice:Expr)(o i:Value):SubOps slice o i:=by
 cases slice with
 |Slice l u st p=>cases st<;>exact(fun J kJ=>kJ _ rfl)
 |_=>exact(fun J kJ=>kJ _ rfl)
theorem zvg.get:∀{rs:List Value},zvg l rs->∀{i:Nat}{v:Int},l[i]?=some v->∃t,rs[i]?=some (.int v t):=by
 induction l with
 |nil=>exact fun J J J e=>nomatch e
 |cons x l ih=>
  intro rs h i v e
  cases rs with
  |nil=>exact h.elim
  |cons r rs=>
   cases i with
   |zero=>obtain rfl:=zaa e;exact h.1.elim fun t e=>⟨t,congrArg some e⟩
   |succ i=>exact ih h.2 e
theorem zvg.length:∀{rs:List Value},zvg l rs->rs.length=l.length:=by
 induction l with
 |nil=>
  intro rs h
  cases rs with
  |nil=>rfl
  |cons _ _=>exact h.elim
 |cons x l ih=>
  intro rs h
  cases rs with
  |nil=>exact h.elim
  |cons r rs=>exact congrArg (· + 1) (ih h.2)
def IxI(i:Int)(n j:Nat):Prop:=∀GJ:Prop,(j<n->((0<=i/\i.toNat=j)\/(i<0/\-(n:Int)<=i/\(i+n).toNat=j))->(seqIndex? i n=some j)->GJ)->GJ
theorem zug{i:Int}(h:ix i n=some j):IxI i n j:=by
 unfold ix at h
 by_cases h0:0<=i
 ·rw[if_pos h0] at h
  revert h;refine xS fun h1 wj=>?_;subst wj
  refine(fun J kJ=>kJ (by exact ar3 [_,_] [_] 0x124294a50006100c03080801840500c2008000294a000c200806100c0308000 (Y1 V0 V1) (Y3 J0 V0) (Y4 V0 (Y4 V1 J0)) (Y7 (Y5 (Y4 V0 J0) V0) (Y6 (Y3 V0 J0) (Y2 V0 J0))) h0 h1 (Ar.tn _)) (.inl ⟨h0,rfl⟩) ?_)
  unfold seqIndex?
  simp only[Int.not_lt.mpr h0,if_false]
  rw[if_pos (by simp;exact ar2 [_] [_] kam (Y6 (Y3 J0 V0) (Y4 V0 (Y4 V0 J0))) (Y3 J0 V0) (Y4 V0 (Y4 V0 J0)) h0 h1)]
 ·rw[if_neg h0] at h
  revert h;refine xS fun h1 wj=>?_;subst wj
  refine(fun J kJ=>kJ (by exact ar3 [_,_] [_] 0x124294a50006100c03080801840500c2008000294a000c20080610080308000 (Y1 V0 V1) (Y8 (Y3 J0 V0) J0) (Y3 (Y3 (Y4 V1 J0) J0) V0) (Y7 (Y5 (Y4 V0 J0) (Y0 V0 (Y4 V1 J0))) (Y6 (Y3 (Y0 V0 (Y4 V1 J0)) J0) (Y2 V0 J0))) h0 h1 (Ar.tn _)) (.inr ⟨Int.not_le.mp h0,h1,rfl⟩) ?_)
  unfold seqIndex?
  simp only[Int.not_le.mp h0,if_true]
  rw[if_pos (by simp;exact ar2 [_] [_] kaj (Y6 (Y3 J0 (Y0 V0 (Y4 V0 J0))) (Y4 (Y0 V0 (Y4 V0 J0)) (Y4 V0 J0))) (Y8 (Y3 J0 V0) J0) (Y3 (Y3 (Y4 V0 J0) J0) V0) h0 h1)]
theorem zhb{l:Addr}{t:Tok}(hl:s.heap.IsList l items)(hj:ix k items.size=some j)
  (hz:items.size<=qag) (hx:items[j]?=some x) (h:Q x s):wpAny (model c.prog c.w) A (subscriptTail value slice (.ref l) (.int k t)) Q E s:=by
 have hsl:qag=2^24:=rfl
 refine(zug hj) _ fun h1 h2 J=>?_
 refine(zl5 slice (.ref l) (.int k t)) _ fun ops hops=>?_
 refine tail_any hl.typeIs slot_list_getitem.lookup ?_ hops
 rcases h2 with⟨h3,rfl⟩|⟨h3,h4,rfl⟩
 ·exact wpAny_getItem_list hl h3 (by exact ar5 [_,_,_] [_,_] 0x164294a000c201808101c0308000000a5294a50006100403080401840300c20200810140408000 (Y4 V0 V1) (Y0 V0 V1) (Y2 V1 (.l 16777216)) (Y1 V2 V0) (Y5 V1 (.l 9223372036854775808)) (Y7 (Y5 (Y4 V2 J0) V0) (Y6 (Y3 V0 J0) (Y2 V2 J0))) hz hsl h1 (Ar.p63) (Ar.tn _)) hx h
 ·exact wpAny_getItem_list_neg hl h3 h4 (by exact ar4 [_,_] [_,_] kal (Y3 (Y3 V0 J0) V1) (Y0 V0 V1) (Y2 V1 (.l 16777216)) (Y3 (Y3 (Y4 V0 J0) J0) V1) (Y5 V0 (.l 9223372036854775808)) hz hsl h4 (Ar.p63)) hx h
theorem zig(h:vs.toList[j]?=some r):vs[j]?=some r:=by rw[<- Array.getElem?_toList];exact h
theorem do_idx(S:Sim c φ H s){u:V}(R1:Rep c φ s.heap v x)(R2:Rep c φ s.heap w y)
  (e:idxV H v w=some u):Does c A φ s (subscriptTail value slice x y) u H:=by
 have hsl:qag=2^24:=rfl
 intro E
 revert e;refine xB fun i hi f=>?_
 skip
 obtain rfl:=zdy hi
 obtain⟨t2,rfl⟩:=R2
 cases v with
 |lst a=>
  revert f;refine xB fun xs e1 g=>?_
  revert g;refine xB fun j e3 e4=>?_
  refine(S.getP R1 e1) _ fun a vs n wk J ho hr hz z=>?_;subst wk
  refine(hr.get e4) _ fun r hr1 hr2=>?_
  exact zhb (zdi ho) (by rw[z];exact e3) (by rw[z];exact hz) (zig hr1) (Out.same' S hr2)
 |tup xs=>
  revert f;refine xB fun j e3 e4=>?_
  obtain⟨a,o,vs,n,rfl,_,ho,hc,hd,hz,hr⟩:=R1
  have z:vs.size=xs.length:=zbj.symm.trans hr.length
  refine(hr.get e4) _ fun r hr1 hr2=>?_
  refine(zug e3) _ fun h1 h2 h3=>?_
  refine(zl5 slice (.ref a) (.int i t2)) _ fun ops hops=>?_
  have hT:IsTup s.heap a vs:=⟨o,ho,hc,n,hd⟩
  exact tail_any hT.typeIs slot_tuple_getitem.lookup (getItem_tuple hT (by exact ar4 [_,_,_,_,_] [_,_] 0x124214a5294001840500c203006101c04081201840000400010a528003080602040700c2000000 (Y3 (Y3 V0 J0) V1) (Y2 V0 (.l 16777216)) (Y0 V1 V0) (Y7 (Y6 (Y3 J0 V1) (Y2 V2 V3)) (Y6 (Y4 V1 J0) (Y6 (Y3 (Y3 (Y4 V1 J0) J0) V1) (Y2 V4 V3)))) (Y5 V0 (.l 9223372036854775808)) hsl hz h2 (Ar.p63)) (by exact ar6 [_,_,_,_,_] [_,_] 0x28852940018403010204006100000034852940018404010204806100000010a5294a528003080801840500c203006101c04081202040200c2008020 (Y4 V0 V1) (Y2 V0 (.l 16777216)) (Y0 V1 V0) (Y1 V2 V1) (Y7 (Y6 (Y3 J0 V0) (Y2 V3 V2)) (Y6 (Y4 V0 J0) (Y6 (Y3 (Y3 (Y4 V1 J0) J0) V0) (Y2 V4 V2)))) (Y5 V1 (.l 9223372036854775808)) (Y7 (Y5 (Y4 V3 J0) V0) (Y6 (Y3 V0 J0) (Y2 V3 J0))) hsl hz h1 h2 (Ar.p63) (Ar.tn _)) (by rw[z];exact h3) (zig hr1) (Out.same' S hr2)) hops
 |scr l=>
  revert f;refine xB fun j e3 g=>?_
  revert g;refine xM fun k e5 wj=>?_;subst wj
  obtain⟨a,o,vs,n,rfl,_,_,ho,hc,hd,hz,hr⟩:=R1
  have z:=zbj.symm.trans hr.length
  obtain⟨t,hr1⟩:=hr.get e5
  exact zhb ⟨o,ho,hc,n,hd⟩ (by rw[z];exact e3) (by rw[z];exact hz) (zig hr1) (Out.same' S rI)
 |_=>injection f
end
variable {d:Int}{items:List V}{k:Clo}{l:List (Int×Int)}{vs:List Value}{x y:Int×Int}
section
open PySem PySem.W PySem.Calls PyProof.Rows
section
variable {w:World}
inductive PairAt(h:Heap)(v:Value)(a b:Int):Prop
 |mk (x:Addr)(o:Obj)(t u:Tok)(n:Nat)(hr:v=.ref x)(ho:h.get? x=some o)(hc:o.cls=.type "tuple")(hd:o.data=.seq #[.int a t,.int b u] n):PairAt h v a b
theorem lex1(ha:a=a')(hb:b=b'):(decide (a<a')||(decide (a=a')&&decide (b<b')))=false:=by rw[ha,hb,decide_eq_false (Int.lt_irrefl _),decide_eq_false (Int.lt_irrefl _),Bool.and_false];rfl
theorem lex2(ha:a=a'):(decide (a<a')||(decide (a=a')&&decide (b<b')))=decide (b<b'):=by rw[decide_eq_true ha,ha,decide_eq_false (Int.lt_irrefl _)];rfl
theorem lex3(ha:a≠a'):(decide (a<a')||(decide (a=a')&&decide (b<b')))=decide (a<a'):=by rw[decide_eq_false ha];exact Bool.or_false _
theorem lt_pair{v v':Value}{Q:Bool->Shared->Prop}(hp:PairAt s.heap v a b)(hp':PairAt s.heap v' a' b')(h:Q (decide (a<a')||(decide (a=a')&&decide (b<b'))) s):wpAny (model prog w) A (keyLt' (tuples' true) v v') Q E s:=by
 obtain⟨x,o,t,u,n,rfl,ho,hc,hd⟩:=hp
 obtain⟨x',o',t',u',n',rfl,ho',hc',hd'⟩:=hp'
 refine kat_lt ho hd ho' hd' (kat_cons (wpAny_eqBool_int (kat_go (fun e=>kat_yes (kat_cons (wpAny_eqBool_int (kat_go (fun e2=>kat_yes (kat_nil ?_)) fun e2=>kat_no ?_)))) fun e=>kat_no ?_)))
 ·rw[lex1 (beq_iff_eq.mp e) (beq_iff_eq.mp e2)] at h;exact h
 ·rw[lex2 (beq_iff_eq.mp e)] at h
  show wpAny (model prog w) A (oneLt' false _ _) Q _ s
  rw[oneLt'_eq,if_neg Bool.false_ne_true]
  exact qaa (wpAny_lt_int (qbj h))
 ·rw[lex3 (beq_eq_false_iff_ne.mp e)] at h;exact oneLt_int h
def Pairs(h:Heap):List Value->List (Int×Int)->Prop
 |[],[]=>True
 |v::vs,p::ps=>PairAt h v p.1 p.2/\Pairs h vs ps
 |_,_=>False
def Tups(h:Heap)(vs:List Value)(n:Nat):Prop:=∀GJ:Prop,(∀(fs:List Value),∀(t:KatTups h vs fs),(fs.length=n)->(∀v∈fs,∃i t,v=.int i t)->GJ)->GJ
theorem tups_ok:∀{ps:List (Int×Int)},Pairs h vs ps->Tups h vs ps.length:=by
 induction vs with
 |nil=>
  intro ps t
  cases ps with
  |nil=>exact(fun J kJ=>kJ [] trivial rfl (fun J h=>nomatch h))
  |cons _ _=>exact t.elim
 |cons v vs ih=>
  intro ps t
  cases ps with
  |nil=>exact t.elim
  |cons p ps=>
   obtain⟨⟨x,o,tk,u,n,rfl,ho,hc,hd⟩,t⟩:=t
   refine(ih t) _ fun fs k l a=>?_
   exact(fun J kJ=>kJ _ (.cons ho hc hd rfl k) (congrArg (· + 1) l) (za2.mpr ⟨⟨_,_,rfl⟩,a⟩))
theorem kind_ok {Q:SortKind->Shared->Prop} (t:Pairs s.heap vs ps) (hne:0<ps.length) (h:Q (tuples' true) s):wpAny (model prog w) A (keyKind' vs.toArray) Q E s:=by
 refine(tups_ok t) _ fun fs k l a=>?_
 refine kat_kind (T:=.type "int") k (l.symm▸hne) (fun v hv=>?_) (by decide +kernel) h
 obtain⟨i,t,rfl⟩:=a v hv
 exact Looks.of_pure rfl
theorem zip_one(h:vs.length<2):(vs.toArray.zip vs.toArray).map (·.2)=((List.toArray (List.range vs.length)).toList.map fun i=>vs.getD i qar).toArray:=by
 refine Array.toList_inj.mp ?_
 rw[Array.toList_map,Array.toList_zip]
 cases vs with
 |nil=>rfl
 |cons x r=>
  cases r with
  |nil=>rfl
  |cons y r=>exact absurd h (za9.mpr (Nat.le_add_left 2 _))
theorem zkf{l:Addr}{κ:SortKind}(hl:s.heap.IsList l vs.toArray)(h64:vs.length<64)
  (inj:∀i j,i<vs.length->j<vs.length->key i=key j->i=j)
  (hκ:2<=vs.length->∀h',(∀b o,s.heap.get? b=some o->h'.get? b=some o)->(∀(Q:SortKind->Shared->Prop) E,Q κ { s with heap:=h' }->wpAny (model prog w) A.in1.in1 (keyKind' vs.toArray) Q E { s with heap:=h' })/\zuj prog w A.in1.in1 { s with heap:=h' } κ vs key vs.length)
  (h:∀h' c' (p:Array Nat),(∀b o,s.heap.get? b=some o->h'.get? b=some o)->h'.get? (s.heap.objs.size+1)=some (seqObj "list" (p.toList.map fun i=>vs.getD i qar).toArray c')->zdz vs.length p->Up key p vs.length->Q (.ref (s.heap.objs.size+1)) { s with heap:=h' }) :
  wpAny (model prog w) A (call (.builtin "sorted") [.ref l]) Q E s:=by
 refine Calls.call_function_entry kind_sorted plain_sorted entry_sorted (args_sorted1 _) ?_
 unfold Builtin.«sorted»
 refine qaa (m:=checkCount "sorted" 1 1 _) (qad ?_)
 refine qaa (collect_list hl ?_ (by rw[sizeLine_eq];exact ar1 [_] [] kaa (Y0 V0 (.l 16777216)) (Y1 V0 (.l 64)) h64))
 refine qaa (wpAny_newList ?_ (by rw[sizeLine_eq];exact ar1 [_] [] kaa (Y0 V0 (.l 16777216)) (Y1 V0 (.l 64)) h64))
 generalize hg1:(s.heap.push (seqObj "list" #[] 0)).update s.heap.objs.size (qbs (·++vs.toArray))=g1
 have hsz:g1.objs.size=s.heap.objs.size+1:=by rw[<- hg1,Heap.size_update,size_push']
 have k1:∀b o,s.heap.get? b=some o->g1.get? b=some o:=fun b o q=>by
  have hlt:=qa5 q
  rw[<- hg1,qbx _ _ _ _ (zar hlt),Heap.get?_push_ne _ _ _ (zar hlt)]
  exact q
 have hoL:(g1.push (seqObj "list" vs.toArray 0)).get? (s.heap.objs.size+1)=some (seqObj "list" vs.toArray 0):=by
  rw[<- hsz];exact qah _ rfl
 show wpAny _ _ _ _ _ { s with heap:=g1.push (seqObj "list" vs.toArray 0) }
 rw[hsz]
 refine qaa (qak (qbl slot_list_sort ⟨_,hoL,rfl⟩ entry_list_sort ?body (args_list_sort _)))
 case body=>
 generalize ha:s.heap.objs.size+1=a at *
 generalize hg2:g1.push (seqObj "list" vs.toArray 0)=g2 at *
 have hz2:g2.objs.size=a+1:=by rw[<- hg2,size_push',hsz]
 have k2:∀b o,s.heap.get? b=some o->b≠a/\g2.get? b=some o:=fun b o q=>by
  refine⟨?_,?_⟩
  ·rw[<- ha];exact zar (Nat.lt_succ_of_lt (qa5 q))
  ·rw[<- hg2,qae _ (k1 b o q)]
 rw[list_sort_plain]
 refine qaa (listItems_at hoL rfl ?_)
 refine qaa (listUpdate_at hoL rfl ?_ (by rw[List.size_toArray,sizeLine_eq];exact ar1 [_] [] kaa (Y0 V0 (.l 16777216)) (Y1 V0 (.l 64)) h64) (zax _))
 obtain⟨e1,ho1⟩:∃e1,(g2.update a (qbs fun J=>(#[]:Array Value))).get? a=some (seqObj "list" #[] e1):=⟨_,get?_update_seq hoL fun J=>#[]⟩
 refine qaa (seqEpoch_at ho1 rfl ?_)
 refine qaa (wpAny_newTuple ?_ (by show vs.length<=_;rw[sizeLine_eq];exact ar1 [_] [] kaa (Y0 V0 (.l 16777216)) (Y1 V0 (.l 64)) h64))
 refine qaa (wpAny_newList ?_ (zax _))
 refine qak ?_
 generalize hg3:((g2.update a (qbs fun J=>(#[]:Array Value))).push (seqObj "tuple" vs.toArray 0)).push (seqObj "list" #[] 0)=g3
 have ho3:g3.get? a=some (seqObj "list" #[] e1):=by
  rw[<- hg3];exact qae _ (qae _ ho1)
 have k3:∀b o,s.heap.get? b=some o->b≠a/\g3.get? b=some o:=fun b o q=>by
  obtain⟨hne,q2⟩:=k2 b o q
  refine⟨hne,?_⟩
  rw[<- hg3]
  refine qae _ (qae _ ?_)
  rw[qbx _ _ _ _ hne]
  exact q2
 show wpAny (model prog w) A.in1.in1 _ _ _ { s with heap:=g3 }
 dsimp only
 have fin:∀(o2:Array Value) (p:Array Nat),o2=(p.toList.map fun i=>vs.getD i qar).toArray->zdz vs.length p->Up key p vs.length->o2.size<=2^24/\Q (.ref a) { s with heap:=g3.update a (qbs fun J=>o2) }:=by
  rintro _ p rfl hp hu
  obtain⟨c2,hc2⟩:∃c2,(g3.update a (qbs fun J=>(p.toList.map fun i=>vs.getD i qar).toArray)).get? a=some (seqObj "list" (p.toList.map fun i=>vs.getD i qar).toArray c2):=⟨_,get?_update_seq ho3 fun J=>(p.toList.map fun i=>vs.getD i qar).toArray⟩
  refine⟨?_,h _ c2 p (fun b o q=>?_) hc2 hp hu⟩
  ·rw[List.size_toArray,zab,zbj,hp.size];exact ar1 [_] [] kaa (Y0 V0 (.l 16777216)) (Y1 V0 (.l 64)) h64
  ·obtain⟨hne,q3⟩:=k3 b o q
   rw[qbx _ _ _ _ hne]
   exact q3
 have hr:zdz vs.length (List.toArray (List.range vs.length)):=List.Perm.refl _
 by_cases h22:vs.toArray.size<2
 ·rw[if_pos h22,if_pos h22]
  refine qaa (qad ?_)
  rw[StateT.run_pure]
  refine qaa (qad ?_)
  dsimp only
  have hlt:vs.length<2:=by simpa using h22
  obtain⟨hz,hQ⟩:=fin _ _ (zip_one hlt) hr (fun i j h1 h2=>by exact ar3 [_,_,_] [_,_] 0x294a000c20080610080308060 (Y4 V0 V1) (Y1 V0 J2) (Y1 V1 V2) (Y1 V2 V0) hlt h1 h2)
  refine qaa (seqEpoch_at ho3 rfl ?_)
  refine qaa (listUpdate_at ho3 rfl ?_ (zax _) (zac hz (by rw[sizeLine_eq];decide)))
  simp only[bne_self_eq_false,zbk,if_false]
  exact qad ⟨_,rfl,qad ⟨_,rfl,hQ⟩⟩
 ·rw[if_neg h22,if_neg h22]
  have hge:2<=vs.length:=by simpa using h22
  obtain⟨hk1,hk2⟩:=hκ hge g3 fun b o q=>(k3 b o q).2
  refine qaa (hk1 _ _ ?_)
  refine qaa (qac (runs_ok hk2 inj hge h64) ?_ fun J J e=>e)
  rintro⟨⟨⟩,st'⟩ s' ⟨rfl,p,hp,hu,har,hf⟩
  dsimp only
  obtain⟨hz,hQ⟩:=fin ((arrOf st').map (·.2)) p har hp hu
  refine qaa (seqEpoch_at ho3 rfl ?_)
  refine qaa (listUpdate_at ho3 rfl ?_ (zax _) (zac hz (by rw[sizeLine_eq];decide)))
  rw[hf]
  simp only[bne_self_eq_false,zbk,if_false]
  exact qad ⟨_,rfl,qad ⟨_,rfl,hQ⟩⟩
end
def Rep1(c:Cx)(φ:List Addr)(h:Heap)(v:V)(rs:List Value):Prop:=∀GJ:Prop,(∀(r:Value),(rs=[r])->Rep c φ h v r->GJ)->GJ
theorem RepL.one(R:RepL c φ h [v] rs):Rep1 c φ h v rs:=by
 refine R.uncons _ fun r rs' wk h1 R2=>?_;subst wk
 obtain rfl:=R2.nil_inv
 exact(fun J kJ=>kJ r rfl h1)
def Rep2(c:Cx)(φ:List Addr)(h:Heap)(v w:V)(rs:List Value):Prop:=∀GJ:Prop,(∀(r r':Value),(rs=[r,r'])->Rep c φ h v r->Rep c φ h w r'->GJ)->GJ
theorem RepL.two(R:RepL c φ h [v,w] rs):Rep2 c φ h v w rs:=by
 refine R.uncons _ fun r rs' wk h1 R2=>?_;subst wk
 refine R2.one _ fun r' wk h2=>?_;subst wk
 exact(fun J kJ=>kJ r r' rfl h1 h2)
theorem RepL.of_get:∀{l:List V}{rs:List Value},rs.length=l.length->(∀(i:Nat) v r,l[i]?=some v->rs[i]?=some r->Rep c φ h v r)->RepL c φ h l rs:=by
 intro l
 induction l with
 |nil=>intro rs h _;exact zbr.mp h
 |cons x xs ih=>
  intro rs h hh
  cases rs with
  |nil=>exact nomatch h
  |cons r rs=>exact⟨hh 0 x r rfl rfl,ih (Nat.succ.inj h) fun i v r h1 h2=>hh (i+1) v r h1 h2⟩
theorem znx{R:α->α->Prop}(anti:∀x y,R x y->R y x->x=y):∀{a b:List α},a.Perm b->a.Pairwise R->b.Pairwise R->a=b
 |[],b,h,_,_=>(List.nil_perm.mp h).symm
 |x::a,[],h,_,_=>absurd h.length_eq (by simp)
 |x::a,y::b,h,ha,hb=>by
  rw[List.pairwise_cons] at ha hb
  have e:x=y:=by
   rcases zah.mp (h.mem_iff.mp zad) with e |hx
   ·exact e
   ·rcases zah.mp (h.mem_iff.mpr zad) with e |hy
    ·exact e.symm
    ·exact anti x y (ha.1 y hy) (hb.1 x hx)
  subst e
  rw[znx anti h.cons_inv ha.2 hb.2]
theorem zxf(h:pair1 v=some p):v=zjl p:=by
 revert h;refine xB fun l h1 f=>?_
 obtain rfl:=zf7 h1
 cases LV.of l with
 |two x y=>
  obtain⟨a,b,rfl,rfl,g⟩:=zey f
  obtain rfl:=zaa g
  rfl
 |_=>injection f
theorem zld:∀{xs:List V}{l:List (Int×Int)},zlc xs=some l->xs=l.map zjl
 |[],l,h=>by obtain rfl:=zaa h;rfl
 |x::r,l,h=>by
  refine(zc8 h) _ fun p l' h1 h2 wk=>?_;subst wk
  rw[zld h2,zxf h1];rfl
theorem lexK{c:Int}(hb : -2147483648<b/\b<2147483648)(hd : -2147483648<d/\d<2147483648):4294967296*a+b<4294967296*c+d↔a<c\/(a=c/\b<d):=⟨fun h=>by exact ar3 [] [_,_,_,_] 0x10e5294001840600c200006000000000800000000820314a528003080a01840600c203806000000000800000000800294001840000c2010000 (Y7 (Y4 V0 V1) (Y6 (Y5 V0 V1) (Y4 V2 V3))) (Y4 (Y3 (.l 2147483648) J0) V2) (Y4 V3 (.l 2147483648)) (Y4 (Y0 (Y1 (.l 4294967296) V0) V2) (Y0 (Y1 (.l 4294967296) V1) V3)) hb.1 hd.2 h,fun h=>by exact ar3 [] [_,_,_,_] 0x490a52800308060180000000020000000020006100400014a528003080201840200c201806000000000800000000800 (Y4 (Y0 (Y1 (.l 4294967296) V0) V1) (Y0 (Y1 (.l 4294967296) V2) V3)) (Y4 V1 (.l 2147483648)) (Y4 (Y3 (.l 2147483648) J0) V3) (Y7 (Y4 V0 V2) (Y6 (Y5 V0 V2) (Y4 V1 V3))) hb.2 hd.1 h⟩
theorem injK{c:Int}(hb : -2147483648<b/\b<2147483648)(hd : -2147483648<d/\d<2147483648)(h:4294967296*a+b=4294967296*c+d):a=c/\b=d:=by
 have e:a=c:=by exact ar5 [] [_,_,_,_] 0x18a5294001840200c20280610180300000000040000000040014a5280030806018404010203006000000000800000000800 (Y5 V0 V1) (Y4 (Y3 (.l 2147483648) J0) V2) (Y4 V2 (.l 2147483648)) (Y4 (Y3 (.l 2147483648) J0) V3) (Y4 V3 (.l 2147483648)) (Y5 (Y0 (Y1 (.l 4294967296) V0) V2) (Y0 (Y1 (.l 4294967296) V1) V3)) hb.1 hb.2 hd.1 hd.2 h
 exact⟨e,by exact ar2 [] [_,_,_,_] 0x18a52800308040200000000020000000021806100005294002040200c0000000010000000010c0308000 (Y5 V0 V1) (Y5 (Y0 (Y1 (.l 4294967296) V2) V0) (Y0 (Y1 (.l 4294967296) V3) V1)) (Y5 V2 V3) h e⟩
theorem bndK(h:b.natAbs<2147483648) : -2147483648<b/\b<2147483648:=by exact ar2 [_] [_] 0x1924294001840300c2008000214a50006101403080602040000009214a50006101403080602040000004294001840300c2008000 (Y6 (Y4 (Y3 (.l 2147483648) J0) V0) (Y4 V0 (.l 2147483648))) (Y1 V0 (.l 2147483648)) (Y7 (Y6 (Y5 (Y4 V0 J0) V0) (Y3 J0 V0)) (Y6 (Y5 (Y4 V0 J0) (Y3 V0 J0)) (Y3 V0 J0))) h (Ar.na _)
theorem lt3{c e f:Int}(h1:a<c\/(a=c/\b<=d))(h2:c<e\/(c=e/\d<=f)):a<e\/(a=e/\b<=f):=by exact ar2 [] [_,_,_,_,_,_] kbd (Y7 (Y4 V0 V1) (Y6 (Y5 V0 V1) (Y3 V2 V3))) (Y7 (Y4 V0 V4) (Y6 (Y5 V0 V4) (Y3 V2 V5))) (Y7 (Y4 V4 V1) (Y6 (Y5 V4 V1) (Y3 V5 V3))) h1 h2
theorem lt2{c:Int}(h1:a<c\/(a=c/\b<=d))(h2:c<a\/(c=a/\d<=b)):a=c/\b=d:=by
 have e:a=c:=by exact ar2 [] [_,_,_,_] 0x6410a50006100c0308000000a5000610040308000490a50006100c0308000000a5000610040308000 (Y5 V0 V1) (Y7 (Y4 V0 V1) (Y6 (Y5 V0 V1) (Y3 V2 V3))) (Y7 (Y4 V1 V0) (Y6 (Y5 V1 V0) (Y3 V3 V2))) h1 h2
 exact⟨e,by exact ar3 [] [_,_,_,_] 0x6410a50006100c0308020000a5000810140308000490a50006100c0308020000a5000610140308000 (Y5 V0 V1) (Y7 (Y4 V2 V3) (Y6 (Y5 V2 V3) (Y3 V0 V1))) (Y7 (Y4 V3 V2) (Y6 (Y5 V3 V2) (Y3 V1 V0))) (Y5 V2 V3) h1 h2 e⟩
theorem lt1(a b c d:Int):(a<c\/(a=c/\b<=d))\/(c<a\/(c=a/\d<=b)):=by exact ar0 [] [_,_,_,_] kbe (Y7 (Y7 (Y4 V0 V1) (Y6 (Y5 V0 V1) (Y3 V2 V3))) (Y7 (Y4 V1 V0) (Y6 (Y5 V1 V0) (Y3 V3 V2))))
theorem leP:zfa x y=true↔x.1<y.1\/(x.1=y.1/\x.2<=y.2):=by simp[zfa]
theorem leP_anti(h1:x.1<y.1\/(x.1=y.1/\x.2<=y.2))(h2:y.1<x.1\/(y.1=x.1/\y.2<=x.2)):x=y:=Prod.ext (lt2 h1 h2).1 (lt2 h1 h2).2
theorem zxj{z:Int×Int}(h1:x.1<y.1\/(x.1=y.1/\x.2<=y.2))(h2:y.1<z.1\/(y.1=z.1/\y.2<=z.2)):x.1<z.1\/(x.1=z.1/\x.2<=z.2):=lt3 h1 h2
theorem zvw(x y:Int×Int):(zfa x y||zfa y x)=true:=zb1.mpr ((lt1 x.1 x.2 y.1 y.2).imp leP.mpr leP.mpr)
noncomputable def pkey(l:List (Int×Int))(i:Nat):Int:=4294967296*(l.getD i (0,0)).1+(l.getD i (0,0)).2
theorem RepL.maps:∀{is:List Nat},(∀i∈is,Rep c φ h (f i) (g i))->RepL c φ h (is.map f) (is.map g)
 |[],_=>rfl
 |i::r,hh=>⟨hh i zad,RepL.maps fun j hj=>hh j (zag _ hj)⟩
theorem zwu{v:Value}(R:Rep c φ h (zjl p) v):PairAt h v p.1 p.2:=by
 obtain⟨x,o,ws,n,hr,_,ho,hc,hd,_,hR⟩:=R
 refine hR.two _ fun r r' e eN1 eN2=>?_;obtain⟨t,rfl⟩:=eN1;obtain⟨u,rfl⟩:=eN2
 refine⟨x,o,t,u,n,hr,ho,hc,?_⟩
 rw[hd]
 congr 1
 exact Array.toList_inj.mp e
theorem PairAt.mono{v:Value}(hk:∀b o,h.get? b=some o->h'.get? b=some o)(p:PairAt h v a b):PairAt h' v a b:=
 let⟨x,o,t,u,n,h1,h2,h3,h4⟩:=p;⟨x,o,t,u,n,h1,hk _ _ h2,h3,h4⟩
theorem zqg(hk:∀b o,h.get? b=some o->h'.get? b=some o):∀{l:List (Int×Int)}{vs:List Value},RepL c φ h (l.map zjl) vs->Pairs h' vs l
 |[],vs,R=>by rw[R.nil_inv];trivial
 |p::l,vs,R=>by
  rw[za5] at R
  refine R.uncons _ fun r rs wk h1 h2=>?_;subst wk
  exact⟨(zwu h1).mono hk,zqg hk h2⟩
theorem zh1{a:Addr}(R:RepL c φ s.heap (l.map zjl) vs)(hl:s.heap.IsList a vs.toArray)(hok:zm8 l=true)
  (h:∀h' c' out,(∀b o,s.heap.get? b=some o->h'.get? b=some o)->h'.get? (s.heap.objs.size+1)=some (seqObj "list" (List.toArray out) c')->RepL c φ s.heap ((l.mergeSort zfa).map zjl) out->Q (.ref (s.heap.objs.size+1)) { s with heap:=h' }) :
  wpAny (model c.prog c.w) A (call (.builtin "sorted") [.ref a]) Q E s:=by
 have wq:vs.length=l.length:=by rw[R.length,zab]
 simp only[zm8,Bool.and_eq_true,decide_eq_true_eq,zaz] at hok
 obtain⟨⟨h64,hnd⟩,hsm⟩:=hok
 have gl:∀{i:Nat},i<l.length->l[i]?=some (l.getD i (0,0)):=fun{i} hi=>by simp[zao,hi]
 have gm:∀{i:Nat},i<l.length->l.getD i (0,0)∈l:=fun{i} hi=>zam (gl hi)
 have at':∀{i:Nat},i<l.length->Rep c φ s.heap (zjl (l.getD i (0,0))) (vs.getD i qar):=by
  intro i hi
  refine(R.get (i:=i) (v:=zjl (l.getD i (0,0))) (by rw[zal,gl hi];rfl)) _ fun r h1 h2=>?_
  have e:vs.getD i qar=r:=by rw[zao,h1];rfl
  rw[e];exact h2
 have ob:∀{i:Nat},i<l.length->PairAt s.heap (vs.getD i qar) (l.getD i (0,0)).1 (l.getD i (0,0)).2:=fun{i} hi=>zwu (at' hi)
 have key:∀i j,i<l.length->j<l.length->pkey l i=pkey l j->i=j:=by
  intro i j hi hj e
  have e0:=injK (bndK (hsm _ (gm hi)).2) (bndK (hsm _ (gm hj)).2) e
  have e3:l.getD i (0,0)=l.getD j (0,0):=Prod.ext e0.1 e0.2
  have e4:l[i]=l[j]:=by simpa[zao,hi,hj] using e3
  exact(List.getElem_inj hnd).mp e4
 have lex:∀i j,i<l.length->j<l.length->(decide ((l.getD i (0,0)).1<(l.getD j (0,0)).1)||(decide ((l.getD i (0,0)).1=(l.getD j (0,0)).1)&&decide ((l.getD i (0,0)).2<(l.getD j (0,0)).2)))=ltK (pkey l) i j:=by
  intro i j hi hj
  rw[Bool.eq_iff_iff,ltK,decide_eq_true_eq]
  simp only[Bool.or_eq_true,Bool.and_eq_true,decide_eq_true_eq]
  exact(lexK (bndK (hsm _ (gm hi)).2) (bndK (hsm _ (gm hj)).2)).symm
 refine zkf (κ:=tuples' true) (key:=pkey l) hl (by exact ar2 [_,_] [] kab (Y1 V0 (.l 64)) (Y2 V0 V1) (Y1 V1 (.l 64)) wq h64) (by rw[wq];exact key) (fun h2 h' hk=>⟨fun Q E hq=>kind_ok (ps:=l) ?_ (by exact ar2 [_,_] [] kab (Y1 J0 V0) (Y2 V1 V0) (Y0 J2 V1) wq h2) hq,fun i j hi hj Q E hq=>?_⟩) fun h' c' p hk hg s1 s2=>?_
 ·exact zqg hk R
 ·rw[wq] at hi hj
  exact lt_pair (PairAt.mono hk (ob hi)) (PairAt.mono hk (ob hj)) (by rw[lex i j hi hj];exact hq)
 ·rw[wq] at s1 s2
  have hlt:∀i∈p.toList,i<l.length:=fun i hi=>by simpa using s1.mem_iff.mp hi
  have hsort:l.mergeSort zfa=p.toList.map fun i=>l.getD i (0,0):=by
   refine znx (R:=fun a b=>zfa a b=true) ?_ ?_ ?_ ?_
   ·intro x y h1 h2
    exact leP_anti (leP.mp h1) (leP.mp h2)
   ·have e0:(List.range l.length).map (fun i=>l.getD i (0,0))=l:=by
     apply List.ext_getElem?
     intro i
     rw[zal]
     by_cases hi:i<l.length
     ·rw[zbs hi,gl hi];rfl
     ·rw[zb2 (by simpa using hi),zb2 (by simpa using hi)];rfl
    have:=(List.Perm.map (fun i=>l.getD i (0,0)) s1).symm
    rw[e0] at this
    exact(List.mergeSort_perm l zfa).trans this
   ·refine List.pairwise_mergeSort ?_ ?_ l
    ·exact fun a b c h1 h2=>leP.mpr (zxj (leP.mp h1) (leP.mp h2))
    ·exact zvw
   ·rw[List.pairwise_map,List.pairwise_iff_getElem]
    intro i j hi hj hij
    have hsz:=s1.size
    have:=s2 i j hij (by simpa[hsz] using hj)
    have ei:ge0 p i=p.toList[i]:=by rw[zef,<-Array.getElem?_toList,zai hi];rfl
    have ej:ge0 p j=p.toList[j]:=by rw[zef,<-Array.getElem?_toList,zai hj];rfl
    rw[ei,ej] at this
    exact leP.mpr (((lexK (bndK (hsm _ (gm (hlt _ (List.getElem_mem hi)))).2) (bndK (hsm _ (gm (hlt _ (List.getElem_mem hj)))).2)).mp this).imp id fun h=>⟨h.1,Int.le_of_lt h.2⟩)
  refine h h' c' _ hk hg ?_
  rw[hsort,za0]
  exact RepL.maps fun i hi=>at' (hlt i hi)
end
variable {b':Bool}{d:Nat}{f:Value}{g:Comprehension}{l:Expr}{p:V×Hp}{ps:Array Value}{vs:List V}{x:V}{y:Str}
section
open PySem PyProof.Rows
theorem Out.kept(S:Sim c φ H s)(hk:∀b o,s.heap.get? b=some o->h'.get? b=some o)(R:Rep c φ s.heap v r):Out c φ s (fun x H'=>x=v/\H'=H) r { s with heap:=h',toks:=t }:=by
 have e:Ext [] φ s φ { s with heap:=h',toks:=t }:=Ext.of_keeps (s':={ s with heap:=h',toks:=t }) hk rfl
 exact⟨φ,H,v,e,S.keeps (s':={ s with heap:=h',toks:=t }) hk rfl,Rep.mono e.toKp OwnX.nil R,rfl,rfl⟩
theorem zl3(S:Sim c φ H s){a:Addr}{vs:Array Value}(hk:∀b o,s.heap.get? b=some o->h'.get? b=some o)(ha:s.heap.get? a=none)(hn:h'.get? a=some (lobj vs n))(hr:RepL c φ s.heap xs vs.toList)(hz:xs.length<=qag) :
  Out c φ s (fun x H'=>x=.lst H.length/\H'=H++[xs]) (.ref a) { s with heap:=h',toks:=t }:=by
 have e:Ext [] φ s φ { s with heap:=h',toks:=t }:=Ext.of_keeps (s':={ s with heap:=h',toks:=t }) hk rfl
 have S':Sim c φ H { s with heap:=h',toks:=t }:=S.keeps (s':={ s with heap:=h',toks:=t }) hk rfl
 have haφ:a∉φ:=fun hm=>by obtain⟨o,ho,_⟩:=S.isList hm;exact no1 (ha.symm.trans ho)
 have h0:c.h0.get? a=none:=by
  refine xC (c.h0.get? a) (fun hq=>?_) fun o hq=>?_
  ·rfl
  ·have:=S.stays a o hq;exact no1 (ha.symm.trans this)
 refine⟨φ++[a],H++[xs],.lst H.length,?_,S'.adopt (o:=lobj vs n) haφ h0 hn rfl rfl ⟨rfl,rfl⟩ (RepL.mono e.toKp OwnX.nil hr) hz,?_,rfl,rfl⟩
 ·exact{ e with
   pre:=List.prefix_append _ _
   new:=fun b hb=>(zaj.mp hb).elim .inl fun h=>.inr (by rw[zaf.mp h];exact ha) }
 ·exact LstAt.mk a rfl (by rw[zbq (za8 S.len)];simp[S.len])
noncomputable def Bl.real:Bl->Value
 |.len=>.builtin "len" |.max=>.builtin "max" |.min=>.builtin "min" |.range=>.type "range" |.list=>.type "list" |.all=>.builtin "all"
 |.tuple=>.type "tuple"
 |.sorted=>.builtin "sorted"
 |.int=>.type "int"
theorem zfo(lo hi st:Int):(zdo lo hi st).length=if 0<st/\lo<hi then((hi-lo-1)/st+1).toNat else 0:=by simp[zdo]
theorem zs9(lo hi st:Int)(h:i<(zdo lo hi st).length):(zdo lo hi st)[i]?=some (.int (lo+i*st)):=by
 simp only[zdo,zal] at h ⊢
 rw[zbs (by simpa using h)];rfl
theorem zpp(hi':ItemsOf (fun i v=>∃t,v=.int (lo+i*st) t) acc (zdo lo hi st).length):RepL c φ h (zdo lo hi st) acc.toList:=by
 refine RepL.of_get (by rw[zbj,hi'.1]) fun i v r h1 h2=>?_
 have hlt:=(zbn.mp h1).1
 rw[zs9 _ _ _ hlt] at h1
 (injection h1 with Ja;subst Ja)
 obtain⟨t,rfl⟩:=hi'.2 i r (zig h2)
 exact rI
theorem zf6(lo hi st:Int)(h:0<st):Builtin.Range.rangeSize lo hi st=((zdo lo hi st).length:Nat):=by
 rw[zfo]
 unfold Builtin.Range.rangeSize
 rw[if_pos h]
 by_cases hl:lo<hi
 ·rw[if_pos hl,if_pos ⟨h,hl⟩]
  have:0<=(hi-lo-1)/st:=Int.ediv_nonneg (by exact ar1 [] [_,_] kaa (Y3 J0 (Y2 (Y2 V0 V1) J1)) (Y4 V1 V0) hl) (by exact ar1 [] [_] kaa (Y3 J0 V0) (Y4 J0 V0) h)
  exact ar2 [_] [_] 0x6490a5000610140308000000a5000610040408000490a5000610140308000000a5000610040308000 (Y5 (Y0 V0 J1) (Y4 V0 J0)) (Y3 J0 V0) (Y7 (Y5 (Y4 V0 J0) (Y0 V0 J1)) (Y6 (Y3 (Y0 V0 J1) J0) (Y2 V0 J0))) this (Ar.tn _)
 ·rw[if_neg hl,if_neg (fun q=>hl q.2)];rfl
set_option tactic.hygienic true in
theorem zj8(h:lo.natAbs<2^31/\hi.natAbs<2^31/\0<st/\st<2^31):Builtin.Range.small lo hi st=true:=by
 have hsz:=zf6 lo hi st h.2.2.1
 have hle:(zdo lo hi st).length<=2^33:=by
  rw[zfo]
  split
  ·rename_i hl
   have:(hi-lo-1)/st<=hi-lo-1:=Int.ediv_le_self _ (by exact ar1 [] [_,_] kaa (Y3 J0 (Y2 (Y2 V0 V1) J1)) (Y4 V1 V0) hl.2)
   exact ar6 [_,_,_] [_,_,_] 0xa214a000c201806100400031c4214a5294a000c203806102003081401840601020100610040200404214a5294a50006101c03081001840900c20500610180408040204000080103884294a528003080e01840a00c203006100c030802010020210a5294a50006101c03081201840a00c203006100c040800010020 (Y0 V0 (.l 8589934592)) (Y1 V1 (.l 2147483648)) (Y1 V2 (.l 2147483648)) (Y3 V0 (Y2 (Y2 V1 V2) J1)) (Y7 (Y5 (Y4 V0 J0) (Y0 V0 J1)) (Y6 (Y3 (Y0 V0 J1) J0) (Y2 V0 J0))) (Y7 (Y6 (Y5 (Y4 V1 J0) V2) (Y3 J0 V2)) (Y6 (Y5 (Y4 V1 J0) (Y3 V2 J0)) (Y3 V2 J0))) (Y7 (Y6 (Y5 (Y4 V2 J0) V1) (Y3 J0 V1)) (Y6 (Y5 (Y4 V2 J0) (Y3 V1 J0)) (Y3 V1 J0))) h.1 h.2.1 this (Ar.tn _) (Ar.na _) (Ar.na _)
  ·exact ar0 [] [] 171801870336 (Y0 J0 (.l 8589934592))
 unfold Builtin.Range.small Builtin.Range.rangeFitsLong
 rw[hsz]
 simp only[Bool.and_eq_true,Bool.or_eq_true,decide_eq_true_eq,gt_iff_lt,h.2.2.1,if_true]
 refine⟨⟨⟨⟨?_,?_⟩,?_⟩,?_⟩,.inr ?_⟩<;>first |omega |(constructor<;>omega)
theorem zwy(ll:List Bool):(List.range ll.length).all (fun i=>(ll[i]?).getD true)=ll.all id:=by
 rw[Bool.eq_iff_iff]
 simp only[zaz,zbo]
 constructor
 ·intro h x hx
  obtain⟨i,hi,rfl⟩:=zb6.mp hx
  have:=h i hi
  rw[zai hi] at this
  simpa using this
 ·intro h i hi
  rw[zai hi]
  exact h _ (List.getElem_mem hi)
def HasB(c:Cx)(A:Around)(φ:List Addr)(s:Shared)(b:Bl)(rs:List Value)(p:V×Hp):Prop:=Does c A φ s (call b.real rs) p.1 p.2
theorem do_len(S:Sim c φ H s)(R:Rep c φ s.heap x r)(e:lenV H x=some p):HasB c A φ s .len [r] p:=by
 intro E
 have hsl:qag=2^24:=rfl
 cases x with
 |lst i=>
  revert e;refine xM fun xs e1 wj=>?_;subst wj
  refine(S.getP R e1) _ fun a ws n wk J ho hr hz z=>?_;subst wk
  rw[<- z]
  exact len_list (zdi ho) (by exact ar4 [_,_,_] [_] kal (Y4 (Y4 V0 J0) V0) (Y2 V1 (.l 16777216)) (Y0 V2 V1) (Y2 V0 V2) (Y5 V0 (.l 9223372036854775808)) hsl hz z (Ar.p63)) (Out.same S rI)
 |tup l=>
  obtain rfl:=zaa e
  obtain⟨a,o,ws,n,rfl,_,ho,hc,hd,hz,hr⟩:=R
  have z:=hr.length;rw[zbj] at z
  rw[<- z]
  exact PyProof.Rows.len_tuple ⟨o,ho,hc,n,hd⟩ (by exact ar4 [_,_,_] [_] kal (Y4 (Y4 V0 J0) V0) (Y2 V1 (.l 16777216)) (Y0 V2 V1) (Y2 V0 V2) (Y5 V0 (.l 9223372036854775808)) hsl hz z (Ar.p63)) (Out.same S rI)
 |scr l=>
  obtain rfl:=zaa e
  obtain⟨a,o,ws,n,rfl,_,_,ho,hc,hd,hz,hr⟩:=R
  have z:=hr.length;rw[zbj] at z
  rw[<- z]
  exact len_list ⟨o,ho,hc,n,hd⟩ (by exact ar4 [_,_,_] [_] kal (Y4 (Y4 V0 J0) V0) (Y2 V1 (.l 16777216)) (Y0 V2 V1) (Y2 V0 V2) (Y5 V0 (.l 9223372036854775808)) hsl hz z (Ar.p63)) (Out.same S rI)
 |_=>injection e
theorem ints1(h:IntsAre rs [a]):∃t,rs=[.int a t]:=by
 cases h with |cons _ t h=>cases h;exact⟨t,rfl⟩
theorem ints2(h:IntsAre rs [a,b]):∃t u,rs=[.int a t,.int b u]:=by
 cases h with |cons _ t h=>obtain⟨u,rfl⟩:=ints1 h;exact⟨t,u,rfl⟩
theorem ints3{d:Int}(h:IntsAre rs [a,b,d]):∃t u v,rs=[.int a t,.int b u,.int d v]:=by
 cases h with |cons _ t h=>obtain⟨u,v,rfl⟩:=ints2 h;exact⟨t,u,v,rfl⟩
theorem zmr{p:Prop} [Decidable p]{t:Tok}:Rep c φ h (.int (if p then a else b)) (if p then .int a t else .int b u):=by
 by_cases q:p
 ·rw[if_pos q,if_pos q];exact rI
 ·rw[if_neg q,if_neg q];exact rI
theorem do_max(hh:A.handled=none)(S:Sim c φ H s)(R:RepL c φ s.heap vs rs)(e:maxV H vs=some p):HasB c A φ s .max rs p:=by
 intro E
 revert e;refine xB fun l h1 f=>?_
 have hi:=zhe R h1
 cases LV.of l with
 |two a b=>
  obtain rfl:=zaa f
  obtain⟨t,u,rfl⟩:=ints2 hi
  exact max_two_ints hh fun h' tk hk=>Out.kept S hk zmr
 |three a b d=>
  obtain rfl:=zaa f
  obtain⟨t,u,v,rfl⟩:=ints3 hi
  refine max_three_ints hh fun h' tk hk=>Out.kept S hk ?_
  by_cases h:a<b
  ·rw[if_pos h,if_pos (show b>a from h)];exact zmr
  ·rw[if_neg h,if_neg (show ¬b>a from h)];exact zmr
 |_=>injection f
theorem do_min(hh:A.handled=none)(S:Sim c φ H s)(R:RepL c φ s.heap vs rs)(e:minV H vs=some p):HasB c A φ s .min rs p:=by
 intro E
 revert e;refine xB fun l h1 f=>?_
 have hi:=zhe R h1
 cases LV.of l with
 |two a b=>
  obtain rfl:=zaa f
  obtain⟨t,u,rfl⟩:=ints2 hi
  exact min_two_ints hh fun h' tk hk=>Out.kept S hk zmr
 |_=>injection f
theorem do_range(hpl:PySem.PylongRoom (model c.prog c.w) A s)(S:Sim c φ H s)(R:RepL c φ s.heap vs rs)(e:rngV H vs=some p):HasB c A φ s .range rs p:=by
 intro E
 revert e;refine xB fun l h1 f=>?_
 have hi:=zhe R h1
 cases LV.of l with
 |one n=>
  revert f;refine xS fun hz wj=>?_;subst wj
  obtain⟨t,rfl⟩:=ints1 hi
  exact call_range_1 ⟨φ,H,.rng 0 n 1,(Ext.push (o:={ cls:=.type "range",data:=.fields #[.int 0 s.toks,.int _ t,.int 1 (s.toks+1)] })).trans (Ext.of_heap rfl rfl),(S.push _).tok _,RngAt.mk _ _ _ _ rfl S.new (qah _ rfl) ⟨by decide,hz,by decide,by decide⟩,rfl,rfl⟩
 |two a b=>
  revert f;refine xS fun hz wj=>?_;subst wj
  obtain⟨t,u,rfl⟩:=ints2 hi
  exact call_range_2 ⟨φ,H,.rng a b 1,(Ext.push (o:={ cls:=.type "range",data:=.fields #[.int _ t,.int _ u,.int 1 s.toks] })).trans (Ext.of_heap rfl rfl),(S.push _).tok _,RngAt.mk _ _ _ _ rfl S.new (qah _ rfl) ⟨hz.1,hz.2,by decide,by decide⟩,rfl,rfl⟩
 |three a b d=>
  revert f;refine xS fun hz wj=>?_;subst wj
  obtain⟨t,u,v,rfl⟩:=ints3 hi
  exact call_range_3 (by exact ar1 [] [_] 0x4294001840200c2000000 (Y8 (Y5 V0 J0) J0) (Y4 J0 V0) hz.2.2.1) ⟨φ,H,.rng a b d,(Ext.push (o:={ cls:=.type "range",data:=.fields #[.int _ t,.int _ u,.int _ v] })).trans (Ext.of_heap rfl rfl),(S.push _).tok _,RngAt.mk _ _ _ _ rfl S.new (qah _ rfl) hz,rfl,rfl⟩ (Or.inr hpl)
 |_=>injection f
theorem do_list(hh:A.handled=none)(S:Sim c φ H s)(RR:Rep c φ s.heap x r)(e:listV H x=some p):HasB c A φ s .list [r] p:=by
 intro E
 have hsl:qag=2^24:=rfl
 cases x with
 |lst i=>
  revert e;refine xM fun xs e1 wj=>?_;subst wj
  refine(S.getP RR e1) _ fun a ws n wk J ho hr hz z=>?_;subst wk
  refine call_list_seq a (.inl rfl) ho rfl rfl (fun h' c' hk hn=>?_) (by exact ar2 [_,_,_] [] kab (Y0 V0 V1) (Y0 V2 V1) (Y2 V0 V2) hz z)
  exact zl3 (t:=s.toks) S hk (qal (zae _)) hn hr hz
 |rng lo hi st=>
  revert e;refine xS fun hz wj=>?_;subst wj
  obtain⟨a,t,u,v,rfl,_,hr,hb⟩:=RR
  exact call_list_range hh hr (zj8 hb) (zf6 lo hi st hb.2.2.1) hz fun h' tk acc' c' hk hn hi'=>zl3 S hk (qal (zae _)) hn (zpp hi') hz
 |_=>injection e
theorem do_tuple(hh:A.handled=none)(S:Sim c φ H s)(RR:Rep c φ s.heap x r)(e:tupleV H x=some p):HasB c A φ s .tuple [r] p:=by
 intro E
 have hsl:qag=2^24:=rfl
 cases x with
 |lst i=>
  revert e;refine xM fun xs e1 wj=>?_;subst wj
  refine(S.getP RR e1) _ fun a ws n wk J ho hr hz z=>?_;subst wk
  refine call_tuple_list (zdi ho) (fun h' hk=>?_) (by exact ar2 [_,_,_] [] kab (Y0 V0 V1) (Y0 V2 V1) (Y2 V0 V2) hz z)
  have e1:Ext [] φ s φ { s with heap:=h' }:=Ext.of_keeps (s':={ s with heap:=h' }) hk rfl
  exact Out.lift e1 (zii (S.keeps (s':={ s with heap:=h' }) hk rfl) (RepL.mono e1.toKp OwnX.nil hr) hz)
 |_=>injection e
theorem do_all(hh:A.handled=none)(S:Sim c φ H s){ll:List Bool}(RR:Rep c φ s.heap (.lst i) r)(e2:H[i]?=some xs)(e3:zeq xs=some ll):HasB c A φ s .all [r] (.bool (ll.all id),H):=by
 intro E
 refine(S.getP RR e2) _ fun a ws n wk J ho hr hz z=>?_;subst wk
 have hL:=zdi ho
 have hi:=zgq hr e3
 have hlt:a<s.heap.objs.size:=qa5 ho
 refine call_all_walk (wpAny_pyIter_list hL ?_)
 refine⟨s.heap.objs.size,[s.heap.objs.size,a],[s.heap.objs.size],ws.size,_,_,fun i=>(ll[i]?).getD true,rfl,Walks.list (A:=A.in1) hh _ a (zar hlt) ws,
  ⟨⟨_,qah _ rfl,rfl,rfl⟩,hL.push _⟩,?_,?_⟩
 ·intro i v s' Q E' hv hQ
  have h1:ws.toList[i]?=some v:=by rw[Array.getElem?_toList];exact hv
  rw[hi,zal] at h1
  revert h1;refine xM fun bb h2 wj=>?_;subst wj
  dsimp only at hQ
  rw[h2] at hQ
  exact qbj hQ
 ·intro h' tk hk
  have wq:ws.size=ll.length:=by rw[<- zbj,hi];simp
  have:(List.range ws.size).all (fun i=>(ll[i]?).getD true)=ll.all id:=by rw[wq,zwy]
  rw[this]
  refine Out.kept S (fun b o hb=>hk b o ?_ (qae _ hb)) rB
  simp only[zaf]
  exact zar (qa5 hb)
theorem zuc(S:Sim c φ H s)(RR:Rep c φ s.heap (.lst i) r)(e2:H[i]?=some xs)(e3:zlc xs=some ll)(hok:zm8 ll=true):HasB c A φ s .sorted [r] (.lst H.length,H++[(ll.mergeSort zfa).map zjl]):=by
 intro E
 refine(S.getP RR e2) _ fun a ws n wk J ho hr hz z=>?_;subst wk
 obtain rfl:=zld e3
 refine zh1 (vs:=ws.toList) hr (by rw[Array.toArray_toList];exact zdi ho) hok fun h' c' out hk hn hR=>?_
 exact zl3 (t:=s.toks) S hk (qal (Nat.le_succ _)) hn hR (by rw[zab,List.length_mergeSort];rw[zab] at hz;exact hz)
theorem do_blt (O:c.Ok) (hA:OkF c A true d φ s.heap) (S:Sim c φ H s) {b:Bl} (R:RepL c φ s.heap vs rs)
  (e:bltV H b vs=some p):DoesP c A φ s (call b.real rs) p:=by
 have hh:=hA.hd rfl
 cases b with
 |len=>
  obtain⟨x,rfl,f⟩:=zd6 e
  refine R.one _ fun r wk RR=>?_;subst wk
  exact do_len S RR f
 |max=>exact do_max hh S R e
 |min=>exact do_min hh S R e
 |range=>exact do_range (PySem.PylongRoom.of (S.lim O) (by have:=hA.dep;show _+100<1000;exact ar1 [_,_] [] kaa (Y1 (Y0 V0 (.l 100)) (.l 1000)) (Y0 (Y0 V0 V1) (.l 890)) this) (hA.seer O S)) S R e
 |list=>
  obtain⟨x,rfl,f⟩:=zd6 e
  refine R.one _ fun r wk RR=>?_;subst wk
  exact do_list hh S RR f
 |tuple=>
  obtain⟨x,rfl,f⟩:=zd6 e
  refine R.one _ fun r wk RR=>?_;subst wk
  exact do_tuple hh S RR f
 |all=>
  obtain⟨x,rfl,f⟩:=zd6 e
  refine R.one _ fun r wk RR=>?_;subst wk
  obtain⟨a,xs,rfl,e2,g⟩:=zgr f
  revert g;refine xM fun l e3 wj=>?_;subst wj
  exact do_all hh S RR e2 e3
 |sorted=>
  obtain⟨x,rfl,f⟩:=zd6 e
  refine R.one _ fun r wk RR=>?_;subst wk
  obtain⟨a,xs,rfl,e2,g⟩:=zgr f
  revert g;refine xB fun l e3 k=>?_
  revert k;refine xS fun hs wj=>?_;subst wj
  exact zuc S RR e2 e3 hs
 |int=>
  obtain⟨x,rfl,f⟩:=zd6 e
  refine R.one _ fun r wk RR=>?_;subst wk
  revert f;refine xM fun b hb wj=>?_;subst wj
  obtain rfl:=zdx hb
  obtain rfl:=RR
  exact fun E=>call_int_bool (Out.same S rI)
end
variable {a b x:Ex}{acc:List (Str×Addr)}{hi lo:Option Expr}{p:Pos}{t:Bool}{u:V×Hp}{vs:List Value}{xs:List Ex}
section
open PySem PyProof.Rows
noncomputable def zct:Expr->Bool
 |.Starred ..=>false
 |_=>true
theorem zc3(h:zct e=true):qa6 (e::es) wz=(false,eval e wz)::qa6 es wz:=by
 cases e<;>first |rfl |injection h
def OutL(c:Cx)(φ:List Addr)(s:Shared)(Q:List V->Hp->Prop)(rs:List Value)(s':Shared):Prop:=∀GJ:Prop,(∀(φ':List Addr),∀(H':Hp),∀(vs:List V),Ext [] φ s φ' s'->Sim c φ' H' s'->RepL c φ' s'.heap vs rs->Q vs H'->GJ)->GJ
def zeu(c:Cx)(wz:Env)(wu:Res)(es:List Expr)(xs:List Ex):Prop:=
 (es.all zct=true/\es.length=xs.length)/\∀A q d k loc φ H s Q E pos,OkF c A q d φ s.heap->FSim c wz wu k loc φ s.heap->Sim c φ H s->wpL (Calls c) q d k xs loc Q E H->
  wpAny (model c.prog c.w) A (spliced (backTo pos (qa6 es wz))) (OutL c φ s fun vs H=>vs.length=xs.length/\Q vs H) (OutX c φ s E) s
theorem zhy:zeu c wz wu [] []:=⟨⟨rfl,rfl⟩,fun A q d k loc φ H s Q E pos hA hF hS hw=>by
 exact qad (fun J kJ=>kJ φ H [] Ext.refl hS rL ⟨rfl,hw⟩)⟩
theorem zep (hn:zct e=true) (h:zce c wz wu e x) (hs:zeu c wz wu es xs):zeu c wz wu (e::es) (x::xs):=
 ⟨⟨by simp[hn,hs.1.1],by simp[hs.1.2]⟩,fun A q d k loc φ H s Q E pos hA hF hS hw=>by
 rw[zc3 hn]
 show wpAny _ _ (spliced ((false,eval e wz)::backTo pos (qa6 es wz))) _ _ _
 refine Calls.spliced_cons (qac (h A q d k loc φ H s _ E hA hF hS hw) ?_ fun J J h=>h)
 rintro r s₁ ⟨φ₁,H₁,v₁,e₁,S₁,R₁,w₁⟩
 refine qac (hs.2 A q d k loc φ₁ H₁ s₁ _ E pos (hA.mono e₁) (hF.mono e₁) S₁ w₁) ?_ fun J J h=>OutX.lift e₁ S₁ h
 rintro rs s₂ w0;refine w0 _ fun φ₂ H₂ vs e₂ S₂ R₂ eN1=>?_;clear w0;obtain⟨l₂,w₂⟩:=eN1
 exact(fun J kJ=>kJ φ₂ H₂ (v₁::vs) (e₁.trans e₂) S₂ ⟨Rep.mono e₂.toKp OwnX.nil R₁,R₂⟩ ⟨congrArg (· + 1) l₂,w₂⟩)⟩
theorem zw8 {i:Int}:zce c wz wu (.Constant (.int i) n pos) (.lit (.int i)):=fun A q d k loc φ H s Q E hA hF hS hw=>by
 exact wpAny_Constant_int (Out.at hS rI hw)
theorem zv4{i:Str}:zce c wz wu (.Constant (.str i) n pos) (.lit (.str i)):=fun A q d k loc φ H s Q E hA hF hS hw=>by
 exact Calls.Constant_str (Out.at hS rS hw)
theorem zs4{i:Bool}:zce c wz wu (.Constant (.bool i) n pos) (.lit (.bool i)):=fun A q d k loc φ H s Q E hA hF hS hw=>by
 exact qad (Out.at' hS rB hw)
theorem zry:zce c wz wu (.Constant .none n pos) (.lit .none):=fun A q d k loc φ H s Q E hA hF hS hw=>by
 exact qad (Out.at' hS rN hw)
theorem zop{x:Str}(hx:wu.lookup x=some i)(hd:(x==("__debug__":Str))=false)(hcd:(x==("__classdict__":Str))=false):zce c wz wu (.Name x pos) (.var i):=fun A q d k loc φ H s Q E hA hF hS hw=>by
 revert hw;refine xI fun v hv hw=>?_
 obtain⟨m,hn,h1,h2⟩:=hF.ns
 have h3:=h1 x i hx
 refine wpAny_Name ?_ hd
 rw[hv] at h3
 unfold zfw at h3
 refine xC (wz.kindOf x) (fun hk=>?_) fun kd hk=>?_
 ·rw[hk] at h3;exact h3.elim
 ·rw[hk] at h3
  cases kd with
  | «local»=>
   obtain⟨_,r,h4,h5⟩:=h3
   exact qbt hF.fn hk hn.ns h4 (Out.at' hS h5 hw)
  |cell=>
   obtain⟨_,ca,r,h4,h5,h6⟩:=h3
   exact wpAny_loadName_cell hF.fn hk h4 h5 (Out.at' hS h6 hw)
  |free=>
   obtain⟨_,ca,r,h4,h5,h6⟩:=h3
   exact wpAny_loadName_free hF.fn hk h4 h5 (Out.at' hS h6 hw) hcd
  |_=>exact h3.elim
theorem zr0{x:Str}(O:c.Ok)(hx:wz.kindOf x=some .globalImplicit)(hg:c.g x=some r)(hr:Rep c [] c.h0 v r)(hd:(x==("__debug__":Str))=false):zce c wz wu (.Name x pos) (.lit v):=fun A q d k loc φ H s Q E hA hF hS hw=>by
 refine Calls.Name_function_global hF.fn hx (Calls.loadGlobal_global (by rw[hF.gl];exact O.gl.keeps hS.stays) hg ?_) hd
 refine Out.at' hS ?_ hw
 exact Rep.mono (X:=[]) ⟨List.nil_prefix,fun b o h J J J=>hS.stays b o h,fun a ha=>.inr (hS.fresh a ha),fun b o es n h J hd=>⟨o,es,n,hS.stays b o h,hd,.rfl⟩,fun b o vs J h J J hd=>⟨vs,by rw[<- hd];exact hS.stays b o h⟩⟩ OwnX.nil hr
theorem zu7(h:zeu c wz wu es xs)(hz:xs.length<=1000):zce c wz wu (.Tuple es n pos) (.tup xs):=fun A q d k loc φ H s Q E hA hF hS hw=>by
 refine Tuple_ (qac (h.2 A q d k loc φ H s _ E pos hA hF hS hw) ?_ fun J J h=>h)
 rintro rs s₁ w0;refine w0 _ fun φ₁ H₁ vs e₁ S₁ R₁ eN1=>?_;clear w0;obtain⟨l₁,w₁⟩:=eN1
 have hz':vs.length<=qag:=by rw[l₁];exact zac hz (by decide)
 exact qba (Out.lift e₁ ((zii S₁ R₁ hz').eq w₁)) (by show rs.toArray.size<=qag;rw[List.size_toArray,R₁.length];exact hz')
theorem zs0(h:zeu c wz wu es xs)(hz:xs.length<=1000):zce c wz wu (.List es pos) (.list xs):=fun A q d k loc φ H s Q E hA hF hS hw=>by
 refine List_ (qac (h.2 A q d k loc φ H s _ E pos hA hF hS hw) ?_ fun J J h=>h)
 rintro rs s₁ w0;refine w0 _ fun φ₁ H₁ vs e₁ S₁ R₁ eN1=>?_;clear w0;obtain⟨l₁,w₁⟩:=eN1
 have hz':vs.length<=qag:=by rw[l₁];exact zac hz (by decide)
 exact qba (Out.lift e₁ ((zj2 S₁ R₁ hz').eq w₁)) (by show rs.toArray.size<=qag;rw[List.size_toArray,R₁.length];exact hz')
theorem zu4(h1:zce c wz wu l a):zce c wz wu (.UnaryOp .USub l pos) (.neg a):=fun A q d k loc φ H s Q E hA hF hS hw=>by
 refine wpAny_UnaryOp (qac (h1 A q d k loc φ H s _ E hA hF hS hw) ?_ fun J J h=>h)
 rintro x s₁ ⟨φ₁,H₁,v₁,e₁,S₁,R₁,w₁⟩
 revert w₁;refine xI fun i hi w₁=>?_
 obtain rfl:=zdy hi
 obtain⟨t,rfl⟩:=R₁
 exact PyProof.Rows.neg_int (Out.lift e₁ (Out.at S₁ rI w₁))
theorem zu6(h1:zce c wz wu l a):zce c wz wu (.UnaryOp .Not l pos) (.not a):=fun A q d k loc φ H s Q E hA hF hS hw=>by
 refine wpAny_UnaryOp (qac (h1 A q d k loc φ H s _ E hA hF hS hw) ?_ fun J J h=>h)
 rintro x s₁ ⟨φ₁,H₁,v₁,e₁,S₁,R₁,w₁⟩
 revert w₁;refine xI fun b hb w₁=>?_
 obtain rfl:=zdx hb
 obtain rfl:=R₁
 exact not_of (qbj (Out.lift e₁ (Out.at' S₁ rB w₁)))
def ze3(c:Cx)(wz:Env)(wu:Res):List Expr->List Ex->Prop
 |[],xs=>xs=[]
 |e::es,xs=>match xs with
  |[]=>False
  |x::xs=>zce c wz wu e x/\ze3 c wz wu es xs
inductive SoundsC(c:Cx)(wz:Env)(wu:Res)(e:Expr)(es:List Expr)(xs:List Ex):Prop
 |mk (x:Ex)(xs':List Ex)(h:xs=x::xs')(h1:zce c wz wu e x)(h2:ze3 c wz wu es xs'):SoundsC c wz wu e es xs
theorem ze3.uncons(h:ze3 c wz wu (e::es) xs):SoundsC c wz wu e es xs:=by
 cases xs with
 |nil=>exact h.elim
 |cons x xs=>exact⟨x,xs,rfl,h.1,h.2⟩
def wpBo(C:CallT)(q:Bool)(d:Nat)(k:Clo)(t:Bool)(xs:List Ex)(l:Loc)(Q:Bool->Hp->Prop)(E:XPost)(H:Hp):Prop:=match t with
 |true=>zrs C q d k xs l Q E H
 |false=>wpOr C q d k xs l Q E H
noncomputable def boR(t:Bool):BoolOp:=match t with
 |true=>.And
 |false=>.Or
theorem zp4{l:Loc}{Q:Bool->Hp->Prop}{E:XPost}(h:wpBo C q d k t (x::xs) l Q E H) :
  wpE C q d k x l (zed fun b H=>zha xs (Q b H) (ze5 (b==t) (wpBo C q d k t xs l Q E H) (Q b H))) E H:=by
 have e:∀{P P':V->Hp->Prop} {E:XPost},(∀v H,P v H=P' v H)->wpE C q d k x l P E H->wpE C q d k x l P' E H:=fun h w=>by
  have:_=_:=funext fun v=>funext fun H=>h v H
  exact this▸w
 cases t with
 |true=>
  refine e (fun v H=>?_) h
  unfold zed
  cases zjt v with
  |none=>rfl
  |some b=>cases b<;>rfl
 |false=>
  refine e (fun v H=>?_) h
  unfold zed
  cases zjt v with
  |none=>rfl
  |some b=>cases b<;>rfl
theorem zl7{pos:Pos}{t:Bool}:∀{es:List Expr}{xs:List Ex},ze3 c wz wu es xs->∀A q d k loc φ H s (Q:Bool->Hp->Prop) E,OkF c A q d φ s.heap->FSim c wz wu k loc φ s.heap->Sim c φ H s->wpBo (Calls c) q d k t xs loc Q E H->
  wpAny (model c.prog c.w) A (boolOp pos (boR t) (evalEach es wz)) (Out c φ s fun v H=>OptI (zjt v) fun b=>Q b H) (OutX c φ s E) s
 |[],xs,h=>fun A q d k loc φ H s Q E hA hF hS hw=>by
  obtain rfl:xs=[]:=h
  cases t<;>exact hw.elim
 |[e],xs,h=>fun A q d k loc φ H s Q E hA hF hS hw=>by
  obtain⟨x,xs',rfl,h1,h2⟩:=h.uncons
  obtain rfl:xs'=[]:=h2
  show wpAny _ _ (eval e wz) _ _ _
  exact qac (h1 A q d k loc φ H s _ E hA hF hS (zp4 hw)) (fun J J h=>Out.mono (fun J J h=>Opt.inv h) h) fun J J h=>h
 |e::e'::es,xs,h=>fun A q d k loc φ H s Q E hA hF hS hw=>by
  obtain⟨x,xs',rfl,h1,h2⟩:=h.uncons
  have ih:=zl7 (pos:=pos) (t:=t) h2
  obtain⟨x',xs'',rfl,_,_⟩:=h2.uncons
  show wpAny _ _ (eval e wz >>=fun v=>standAt pos >>=fun J=>holding [v] (truthy v) >>=fun tv=>match boR t,tv with
   |.And,false |.Or,true=>pure v
   |_,_=>boolOp pos (boR t) (evalEach (e'::es) wz)) _ _ _
  refine qaa (qac (h1 A q d k loc φ H s _ E hA hF hS (zp4 hw)) ?_ fun J J h=>h)
  rintro r s₁ ⟨φ₁,H₁,v₁,e₁,S₁,R₁,w₁⟩
  revert w₁;refine xI fun b hb w₁=>?_
  obtain rfl:=zdx hb
  obtain rfl:=R₁
  refine qaa (qa2 (qaa (qak (qbj ?_))))
  have go:wpBo (Calls c) q d k t (x'::xs'') loc Q E H₁->wpAny (model c.prog c.w) A (boolOp pos (boR t) (evalEach (e'::es) wz)) (Out c φ s fun v H=>OptI (zjt v) fun b=>Q b H) (OutX c φ s E) s₁:=fun w=>
   qac (ih A q d k loc φ₁ H₁ s₁ Q E (hA.mono e₁) (hF.mono e₁) S₁ w) (fun J J h=>Out.lift e₁ h) fun J J h=>OutX.lift e₁ S₁ h
  have st:Q b H₁->wpAny (model c.prog c.w) A (pure (.bool b)) (Out c φ s fun v H=>OptI (zjt v) fun b=>Q b H) (OutX c φ s E) s₁:=fun w=>qad (Out.lift e₁ (Out.at' S₁ rB ⟨b,rfl,w⟩))
  cases t<;>cases b<;>first |exact st w₁ |exact go w₁
theorem ztp(h:ze3 c wz wu es xs):zce c wz wu (.BoolOp .And es pos) (.and xs):=fun A q d k loc φ H s Q E hA hF hS hw=>
 qac (zl7 (t:=true) h A q d k loc φ H s _ E hA hF hS hw) (fun J J h=>Out.mono (fun _ _ ⟨_,hb,h⟩=>by rw[zdx hb];exact h) h) fun J J h=>h
theorem sound_or(h:ze3 c wz wu es xs):zce c wz wu (.BoolOp .Or es pos) (.or xs):=fun A q d k loc φ H s Q E hA hF hS hw=>
 qac (zl7 (t:=false) h A q d k loc φ H s _ E hA hF hS hw) (fun J J h=>Out.mono (fun _ _ ⟨_,hb,h⟩=>by rw[zdx hb];exact h) h) fun J J h=>h
theorem zui{r:Expr}(O:c.Ok)(h1:zce c wz wu l a)(h2:zce c wz wu r b):zce c wz wu (.BinOp l op.real r pos) (.bin op a b):=fun A q d k loc φ H s Q E hA hF hS hw=>by
 refine wpAny_BinOp (qac (h1 A q d k loc φ H s _ E hA hF hS hw) ?_ fun J J h=>h)
 rintro x s₁ ⟨φ₁,H₁,v₁,e₁,S₁,R₁,w₁⟩
 refine qac (h2 A q d k loc φ₁ H₁ s₁ _ E (hA.mono e₁) (hF.mono e₁) S₁ w₁) ?_ fun J J h=>OutX.lift e₁ S₁ h
 rintro y s₂ ⟨φ₂,H₂,v₂,e₂,S₂,R₂,w₂⟩
 revert w₂;refine xI fun p e w₂=>?_
 exact(do_bin O (hA.mono (e₁.trans e₂)) S₂ (Rep.mono e₂.toKp OwnX.nil R₁) R₂ e).use (e₁.trans e₂) w₂
theorem zwr{r:Expr}(h1:zce c wz wu l a)(h2:zce c wz wu r b):zce c wz wu (.Subscript l r pos) (.idx a b):=fun A q d k loc φ H s Q E hA hF hS hw=>by
 refine Subscript_ (qac (h1 A q d k loc φ H s _ E hA hF hS hw) ?_ fun J J h=>h)
 rintro x s₁ ⟨φ₁,H₁,v₁,e₁,S₁,R₁,w₁⟩
 refine qac (h2 A q d k loc φ₁ H₁ s₁ _ E (hA.mono e₁) (hF.mono e₁) S₁ w₁) ?_ fun J J h=>OutX.lift e₁ S₁ h
 rintro y s₂ ⟨φ₂,H₂,v₂,e₂,S₂,R₂,w₂⟩
 revert w₂;refine xI fun v e w₂=>?_
 exact(do_idx S₂ (Rep.mono e₂.toKp OwnX.nil R₁) R₂ e).use (e₁.trans e₂) w₂
end
variable {C:Addr}{b:Bool}{t:Tc}
section
open PySem PyProof.Rows
noncomputable def zic:Expr->Bool
 |.Set ..=>false
 |_=>true
theorem marks_of{op:CmpOp}(h:zic e=true)(t:Sem Value):markedBehindIn op e t=t:=by
 refine markedBehindIn_of_false ?_
 cases e<;>first |rfl |injection h
theorem zek:∀{ops:List CmpOp}{es:List Expr},es.all zic=true->markedEach ops es (evalEach es wz)=evalEach es wz
 |[],es,_=>by cases es<;>rfl
 |[op],[],_=>rfl
 |[op],e::es,h=>by
  revert h;refine xA fun h1 h2=>?_
  cases es with
  |nil=>exact congrArg (fun x=>[x]) (marks_of h1 _)
  |cons e' es=>exact congrArg (eval e wz::·) (zek (ops:=[]) h2)
 |op::op'::ops,[],_=>rfl
 |op::op'::ops,e::es,h=>congrArg (eval e wz::·) (zek (ops:=op'::ops) (zbc.mp h).2)
theorem opr(h:wpAny M A m Q E s):wpAny M A (operate vs m) Q E s:=fun Γ p hΓ=>by rw[Sem.wp_operate];exact h Γ p hΓ
theorem OkF.hu(hA:OkF c A q d φ h):A.units+100<cLine:=by have:=hA.un;show _<9900;exact ar1 [_,_] [] kaa (Y1 (Y0 V0 (.l 100)) (.l 9900)) (Y0 (Y0 V0 (Y1 (.l 10) V1)) (.l 9000)) this
inductive OutB(c:Cx)(φ:List Addr)(s:Shared)(Q:Bool->Hp->Prop)(b:Bool)(s':Shared):Prop
 |mk (φ':List Addr)(H':Hp)(e:Ext [] φ s φ' s')(S:Sim c φ' H' s')(q:Q b H'):OutB c φ s Q b s'
theorem OutB.lift{Q:Bool->Hp->Prop}{r:Bool}(e:Ext [] φ s φ₁ s₁)(h:OutB c φ₁ s₁ Q r s₂):OutB c φ s Q r s₂:=
 let⟨φ',H',e',S,hq⟩:=h;⟨φ',H',e.trans e',S,hq⟩
theorem zlt{go:Value->List CmpOp->List (Sem Value)->Sem α}{fin:Value->Value->CmpOp->Sem α}{no:Value->Sem α}{R:(Bool->Hp->Prop)->List Addr->Shared->α->Shared->Prop}
  (g1:∀x o m,go x [o] [m]=(holding [x] m >>=fun rv=>standAt pos >>=fun J=>fin x rv o))
  (g2:∀x o o' os m m' ms,go x (o::o'::os) (m::m'::ms)=(holding [x] m >>=fun rv=>standAt pos >>=fun J=>holding [x,rv] (compareOp o x rv) >>=fun cc=>release [x,rv] [cc] >>=fun J=>holding [cc,rv] (truthy cc) >>=fun t=>
   if t then go rv (o'::os) (m'::ms) else no cc))
  (hfin:∀{A E s x rv o b} {P:α->Shared->Prop},(∀{Q E},Q (.bool b) s->wpAny (model c.prog c.w) A (compareOp o x rv) Q E s)->(∀a,(∀φ H Q,Sim c φ H s->Q b H->R Q φ s a s)->P a s)->wpAny (model c.prog c.w) A (fin x rv o) P E s)
  (hno:∀{A E s} {P:α->Shared->Prop},(∀a,(∀φ H Q,Sim c φ H s->Q false H->R Q φ s a s)->P a s)->wpAny (model c.prog c.w) A (no (.bool false)) P E s)
  (hlift:∀{Q φ s φ₁ s₁ a s₂},Ext [] φ s φ₁ s₁->R Q φ₁ s₁ a s₂->R Q φ s a s₂) :
  ∀{es:List Expr} {xs:List Ex} {os:List Cm},ze3 c wz wu es xs->os.length=es.length->∀A q d k loc φ H s (Q:Bool->Hp->Prop) E v x,OkF c A q d φ s.heap->FSim c wz wu k loc φ s.heap->Sim c φ H s->Rep c φ s.heap v x->
  wpC (Calls c) q d k v os xs loc Q E H->wpAny (model c.prog c.w) A (go x (os.map Cm.real) (evalEach es wz)) (R Q φ s) (OutX c φ s E) s
 |[],xs,os,h,hl=>fun A q d k loc φ H s Q E v x hA hF hS hR hw=>by
  obtain rfl:xs=[]:=h
  exact hw.elim
 |_::_,_,[],h,hl=>nomatch hl
 |[e],xs,o::os,h,hl=>fun A q d k loc φ H s Q E v x hA hF hS hR hw=>by
  obtain⟨y,ys,rfl,h1,h2⟩:=h.uncons
  obtain rfl:ys=[]:=h2
  obtain rfl:os=[]:=zbr.mp (Nat.succ.inj hl)
  show wpAny _ _ (go x [o.real] [eval e wz]) _ _ _
  rw[g1]
  refine qaa (qak (qac (h1 A q d k loc φ H s _ E hA hF hS hw) ?_ fun J J h=>h))
  rintro r s₁ ⟨φ₁,H₁,w,e₁,S₁,R₁,w₁⟩
  revert w₁;refine xI fun b hb w₁=>?_
  exact qaa (qa2 (hfin (do_cmp hA.hu S₁ (Rep.mono e₁.toKp OwnX.nil hR) R₁ hb) fun a ha=>hlift e₁ (ha φ₁ H₁ Q S₁ w₁)))
 |_::_::_,_,[_],h,hl=>nomatch (Nat.succ.inj hl)
 |e::e'::es,xs,o::o'::os,h,hl=>fun A q d k loc φ H s Q E v x hA hF hS hR hw=>by
  obtain⟨y,ys,rfl,h1,h2⟩:=h.uncons
  have ih:=zlt g1 g2 hfin hno hlift h2 (os:=o'::os) (Nat.succ.inj hl)
  obtain⟨y',ys',rfl,_,_⟩:=h2.uncons
  show wpAny _ _ (go x (o.real::o'.real::os.map Cm.real) (eval e wz::eval e' wz::evalEach es wz)) _ _ _
  rw[g2]
  refine qaa (qak (qac (h1 A q d k loc φ H s _ E hA hF hS hw) ?_ fun J J h=>h))
  rintro r s₁ ⟨φ₁,H₁,w,e₁,S₁,R₁,w₁⟩
  revert w₁;refine xI fun b hb w₁=>?_
  refine qaa (qa2 (qaa (qak (do_cmp hA.hu S₁ (Rep.mono e₁.toKp OwnX.nil hR) R₁ hb (qaa (wpAny_release (qaa (qak (qbj ?_)))))))))
  cases b with
  |true=>exact qac (ih A q d k loc φ₁ H₁ s₁ Q E w r (hA.mono e₁) (hF.mono e₁) S₁ R₁ w₁) (fun J J h=>hlift e₁ h) fun J J h=>OutX.lift e₁ S₁ h
  |false=>exact hno fun a ha=>hlift e₁ (ha φ₁ H₁ Q S₁ w₁)
theorem zv1(h1:zce c wz wu l a)(h2:ze3 c wz wu es xs)(hl:os.length=es.length)(hn:es.all zic=true) :
  zce c wz wu (.Compare l (os.map Cm.real) es pos) (.cmp a os xs):=fun A q d k loc φ H s Q E hA hF hS hw=>by
 show wpAny _ _ (eval l wz >>=fun v=>compareChain pos v (os.map Cm.real) (markedEach (os.map Cm.real) es (evalEach es wz))) _ _ _
 rw[zek hn]
 refine qaa (qac (h1 A q d k loc φ H s _ E hA hF hS hw) ?_ fun J J h=>h)
 rintro x s₁ ⟨φ₁,H₁,v₁,e₁,S₁,R₁,w₁⟩
 exact qac (zlt (go:=compareChain pos) (fin:=fun x rv o=>operate [x,rv] (compareOp o x rv)) (no:=fun cc=>pure cc) (R:=fun Q φ s=>Out c φ s fun v H=>OptI (zjt v) fun b=>Q b H) (fun J J J=>rfl) (fun J J J J J J J=>rfl)
  (fun h hp=>opr (h (hp _ fun φ H Q S hq=>Out.at' S rB ⟨_,rfl,hq⟩))) (fun hp=>qad (hp _ fun φ H Q S hq=>Out.at' S rB ⟨_,rfl,hq⟩)) (fun e h=>Out.lift e h) h2 hl A q d k loc φ₁ H₁ s₁ _ E v₁ x (hA.mono e₁) (hF.mono e₁) S₁ R₁ w₁)
  (fun J J h=>Out.lift e₁ (Out.mono (fun _ _ ⟨_,hb,h⟩=>by rw[zdx hb];exact h) h)) fun J J h=>OutX.lift e₁ S₁ h
def zgd(c:Cx)(wz:Env)(wu:Res)(e:Expr)(x:Ex):Prop:=
 ∀A q d k loc φ H s Q E,OkF c A q d φ s.heap->FSim c wz wu k loc φ s.heap->Sim c φ H s->wpE (Calls c) q d k x loc (zed Q) E H->
  wpAny (model c.prog c.w) A (isTrue e wz (eval e wz)) (OutB c φ s Q) (OutX c φ s E) s
noncomputable def zjx:Expr->Bool
 |.UnaryOp .Not _ _=>false
 |.BoolOp ..=>false
 |.IfExp ..=>false
 |.Compare ..=>false
 |_=>true
set_option tactic.hygienic true in
theorem zis(h:zjx e=true)(whole:Sem Value):isTrue e wz whole=(do
  let v<-whole
  standAt e.pos
  holding [v] (truthy v)):=by
 cases e<;>first |rfl |(injection h;done) |skip
 rename_i op _ _
 cases op<;>first |rfl |injection h
theorem zm5(h:zce c wz wu e x)(hp:zjx e=true):zgd c wz wu e x:=fun A q d k loc φ H s Q E hA hF hS hw=>by
 rw[zis hp]
 refine qaa (qac (h A q d k loc φ H s _ E hA hF hS hw) ?_ fun J J h=>h)
 rintro r s₁ ⟨φ₁,H₁,v₁,e₁,S₁,R₁,w₁⟩
 revert w₁;refine xI fun b hb w₁=>?_
 obtain rfl:=zdx hb
 obtain rfl:=R₁
 exact qaa (qa2 (qak (qbj ⟨φ₁,H₁,e₁,S₁,w₁⟩)))
theorem zr7(h:zgd c wz wu l a):zgd c wz wu (.UnaryOp .Not l pos) (.not a):=fun A q d k loc φ H s Q E hA hF hS hw=>
 wpAny_isTrue_Not (qac (h A q d k loc φ H s (fun b H=>Q (!b) H) E hA hF hS hw) (fun _ _ ⟨φ',H',e,S,h⟩=>⟨φ',H',e,S,h⟩) fun J J h=>h)
def zeh(c:Cx)(wz:Env)(wu:Res):List Expr->List Ex->Prop
 |[],xs=>xs=[]
 |e::es,xs=>match xs with
  |[]=>False
  |x::xs=>zgd c wz wu e x/\zeh c wz wu es xs
inductive SoundTC(c:Cx)(wz:Env)(wu:Res)(e:Expr)(es:List Expr)(xs:List Ex):Prop
 |mk (x:Ex)(xs':List Ex)(h:xs=x::xs')(h1:zgd c wz wu e x)(h2:zeh c wz wu es xs'):SoundTC c wz wu e es xs
theorem zeh.uncons(h:zeh c wz wu (e::es) xs):SoundTC c wz wu e es xs:=by
 cases xs with
 |nil=>exact h.elim
 |cons x xs=>exact⟨x,xs,rfl,h.1,h.2⟩
theorem zjc{t:Bool}:∀{es:List Expr}{xs:List Ex},zeh c wz wu es xs->∀A q d k loc φ H s (Q:Bool->Hp->Prop) E,OkF c A q d φ s.heap->FSim c wz wu k loc φ s.heap->Sim c φ H s->wpBo (Calls c) q d k t xs loc Q E H->
  wpAny (model c.prog c.w) A (allTrue (boR t) es wz) (OutB c φ s Q) (OutX c φ s E) s
 |[],xs,h=>fun A q d k loc φ H s Q E hA hF hS hw=>by
  obtain rfl:xs=[]:=h
  cases t<;>exact hw.elim
 |e::es,xs,h=>fun A q d k loc φ H s Q E hA hF hS hw=>by
  obtain⟨x,xs',rfl,h1,h2⟩:=h.uncons
  have key:wpAny (model c.prog c.w) A (isTrue e wz (eval e wz)) (fun b s₁=>ze5 (b==t) (wpAny (model c.prog c.w) A (allTrue (boR t) es wz) (OutB c φ s Q) (OutX c φ s E) s₁) (OutB c φ s Q b s₁)) (OutX c φ s E) s:=by
   refine qac (h1 A q d k loc φ H s _ E hA hF hS (zp4 hw)) ?_ fun J J h=>h
   rintro b s₁ ⟨φ₁,H₁,e₁,S₁,w₁⟩
   cases es with
   |nil=>
    obtain rfl:xs'=[]:=h2
    cases t<;>cases b<;>first |exact⟨φ₁,H₁,e₁,S₁,w₁⟩|exact wpAny_allTrue_And_nil ⟨φ₁,H₁,e₁,S₁,w₁⟩|exact wpAny_allTrue_Or_nil ⟨φ₁,H₁,e₁,S₁,w₁⟩
   |cons e' es=>
    have ih:=zjc (t:=t) h2
    obtain⟨x',xs'',rfl,_,_⟩:=h2.uncons
    have go:wpBo (Calls c) q d k t (x'::xs'') loc Q E H₁->wpAny (model c.prog c.w) A (allTrue (boR t) (e'::es) wz) (OutB c φ s Q) (OutX c φ s E) s₁:=fun w=>
     qac (ih A q d k loc φ₁ H₁ s₁ Q E (hA.mono e₁) (hF.mono e₁) S₁ w) (fun J J h=>OutB.lift e₁ h) fun J J h=>OutX.lift e₁ S₁ h
    cases t<;>cases b<;>first |exact go w₁ |exact⟨φ₁,H₁,e₁,S₁,w₁⟩
  cases t with
  |true=>exact wpAny_allTrue_And_cons (qac key (fun b J h=>by cases b<;>exact h) fun J J h=>h)
  |false=>exact wpAny_allTrue_Or_cons (qac key (fun b J h=>by cases b<;>exact h) fun J J h=>h)
theorem zrp(h:zeh c wz wu es xs):zgd c wz wu (.BoolOp .And es pos) (.and xs):=fun A q d k loc φ H s Q E hA hF hS hw=>
 wpAny_isTrue_BoolOp (zjc (t:=true) h A q d k loc φ H s Q E hA hF hS hw)
theorem zwc(h:zeh c wz wu es xs):zgd c wz wu (.BoolOp .Or es pos) (.or xs):=fun A q d k loc φ H s Q E hA hF hS hw=>
 wpAny_isTrue_BoolOp (zjc (t:=false) h A q d k loc φ H s Q E hA hF hS hw)
theorem zs6(h1:zce c wz wu l a)(h2:ze3 c wz wu es xs)(hl:os.length=es.length)(hn:es.all zic=true) :
  zgd c wz wu (.Compare l (os.map Cm.real) es pos) (.cmp a os xs):=fun A q d k loc φ H s Q E hA hF hS hw=>by
 show wpAny _ _ (eval l wz >>=fun v=>testChain pos v (os.map Cm.real) (markedEach (os.map Cm.real) es (evalEach es wz))) _ _ _
 rw[zek hn]
 refine qaa (qac (h1 A q d k loc φ H s _ E hA hF hS hw) ?_ fun J J h=>h)
 rintro x s₁ ⟨φ₁,H₁,v₁,e₁,S₁,R₁,w₁⟩
 exact qac (zlt (go:=testChain pos) (fin:=fun x rv o=>operate [x,rv] (compareOp o x rv) >>=fun cc=>holding [cc] (truthy cc)) (no:=fun J=>pure false) (R:=fun Q φ s=>OutB c φ s Q) (fun J J J=>rfl) (fun J J J J J J J=>rfl)
  (fun h hp=>qaa (opr (h (qak (qbj (hp _ fun φ H Q S hq=>⟨φ,H,Ext.refl,S,hq⟩)))))) (fun hp=>qad (hp _ fun φ H Q S hq=>⟨φ,H,Ext.refl,S,hq⟩)) (fun e h=>OutB.lift e h) h2 hl A q d k loc φ₁ H₁ s₁ Q E v₁ x (hA.mono e₁) (hF.mono e₁) S₁ R₁ w₁)
  (fun J J h=>OutB.lift e₁ h) fun J J h=>OutX.lift e₁ S₁ h
end
variable {a:Addr}{l:List Bool}{m:Me}{os:OsState}{vs:Array Value}
section
open PySem PyProof.Rows
noncomputable def Tc.real:Tc->Option String
 |.int=>some "int" |.bool=>some "bool" |.list=>some "list" |.tuple=>some "tuple"
 |.str=>some "str"
 |.own _=>none
def ListRef(h:Heap)(x:Value):Prop:=∀GJ:Prop,(∀(a:Addr),∀(o:Obj),(x=.ref a)->(h.get? a=some o)->(o.cls=.type "list")->GJ)->GJ
def SubT(Tx:Option String)(T:String)(b:Bool):Prop:=∀GJ:Prop,(∀(X:String),(Tx=some X)->(typeOf (.type T)=pure (.type "type"))->(isSubtype (.type X) (.type T)=pure b)->(b=false->(qbf X==qbf T)=false)->GJ)->GJ
theorem zc1{X:String}(e:some b'=some b)(h1:typeOf (.type T)=pure (.type "type"))(h2:isSubtype (.type X) (.type T)=pure b')(h3:(b'||!(qbf X==qbf T))=true):SubT (some X) T b:=by
 obtain rfl:=zaa e
 exact(fun J kJ=>kJ X rfl h1 h2 (fun h=>by rw[h] at h3;exact Bool.not_eq_eq_eq_not.mp h3))
noncomputable def tyN:V->Option String
 |.none=>some "NoneType" |.bool _=>some "bool" |.int _=>some "int" |.tup _=>some "tuple" |.lst _=>some "list"
 |.str _=>some "str"
 |_=>none
theorem isi_sub(hT:t.real=some T)(e:isiV v t=some b):SubT (tyN v) T b:=by
 cases t with
 |int=>
  obtain rfl:=zaa hT
  cases v with
  |none=>exact zc1 e qb5 F.sub_NoneType_int (by decide +kernel)
  |bool=>exact zc1 e qb5 F.sub_bool_int (by decide +kernel)
  |int=>exact zc1 e qb5 F.sub_int_int (by decide +kernel)
  |tup=>exact zc1 e qb5 F.sub_tuple_int (by decide +kernel)
  |lst=>exact zc1 e qb5 F.sub_list_int (by decide +kernel)
  |str=>exact zc1 e qb5 F.sub_str_int (by decide +kernel)
  |_=>injection e
 |bool=>
  obtain rfl:=zaa hT
  cases v with
  |none=>exact zc1 e qbz F.sub_NoneType_bool (by decide +kernel)
  |bool=>exact zc1 e qbz F.sub_bool_bool (by decide +kernel)
  |int=>exact zc1 e qbz F.sub_int_bool (by decide +kernel)
  |tup=>exact zc1 e qbz F.sub_tuple_bool (by decide +kernel)
  |lst=>exact zc1 e qbz F.sub_list_bool (by decide +kernel)
  |str=>exact zc1 e qbz F.sub_str_bool (by decide +kernel)
  |_=>injection e
 |list=>
  obtain rfl:=zaa hT
  cases v with
  |none=>exact zc1 e qb0 F.sub_NoneType_list (by decide +kernel)
  |bool=>exact zc1 e qb0 F.sub_bool_list (by decide +kernel)
  |int=>exact zc1 e qb0 F.sub_int_list (by decide +kernel)
  |tup=>exact zc1 e qb0 F.sub_tuple_list (by decide +kernel)
  |lst=>exact zc1 e qb0 F.sub_list_list (by decide +kernel)
  |str=>exact zc1 e qb0 F.sub_str_list (by decide +kernel)
  |_=>injection e
 |tuple=>
  obtain rfl:=zaa hT
  cases v with
  |none=>exact zc1 e qbw F.sub_NoneType_tuple (by decide +kernel)
  |bool=>exact zc1 e qbw F.sub_bool_tuple (by decide +kernel)
  |int=>exact zc1 e qbw F.sub_int_tuple (by decide +kernel)
  |tup=>exact zc1 e qbw F.sub_tuple_tuple (by decide +kernel)
  |lst=>exact zc1 e qbw F.sub_list_tuple (by decide +kernel)
  |str=>exact zc1 e qbw F.sub_str_tuple (by decide +kernel)
  |_=>injection e
 |str=>
  obtain rfl:=zaa hT
  cases v with
  |none=>exact zc1 e qb6 F.sub_NoneType_str (by decide +kernel)
  |bool=>exact zc1 e qb6 F.sub_bool_str (by decide +kernel)
  |int=>exact zc1 e qb6 F.sub_int_str (by decide +kernel)
  |tup=>exact zc1 e qb6 F.sub_tuple_str (by decide +kernel)
  |lst=>exact zc1 e qb6 F.sub_list_str (by decide +kernel)
  |str=>exact zc1 e qb6 F.sub_str_str (by decide +kernel)
  |_=>injection e
 |own=>injection hT
theorem do_isi(S:Sim c φ H s){v:V}{x:Value}{t:Tc}{T:String}{b:Bool}(R:Rep c φ s.heap v x)(hT:t.real=some T)(e:isiV v t=some b):Does c A φ s (call (.builtin "isinstance") [x,.type T]) (.bool b) H:=by
 intro E
 have hlst:∀{i:Nat} {x:Value},Rep c φ s.heap (.lst i) x->ListRef s.heap x:=fun R=>by
  obtain⟨a,rfl,ha⟩:=R
  obtain⟨o,h1,h2⟩:=S.isList (zam ha)
  exact(fun J kJ=>kJ a o rfl h1 h2)
 refine(isi_sub hT e) _ fun X eX h1 h2 h3=>?_
 clear e hT t
 cases b with
 |true=>
  refine qbo (isinstance_true (Tx:=X) h1 h2) ⟨?_,Out.same' S rB⟩
  cases v with
  |none=>obtain rfl:=zaa eX;obtain rfl:=R;exact rfl
  |bool=>obtain rfl:=zaa eX;obtain rfl:=R;exact rfl
  |int=>obtain rfl:=zaa eX;obtain⟨t1,rfl⟩:=R;exact rfl
  |tup=>obtain rfl:=zaa eX;obtain⟨a,o,vs,n,rfl,_,ho,hc,_⟩:=R;exact⟨o,ho,hc⟩
  |lst=>obtain rfl:=zaa eX;refine(hlst R) _ fun a o wk ho hc=>?_;subst wk;exact⟨o,ho,hc⟩
  |str=>obtain rfl:=zaa eX;obtain⟨t1,rfl⟩:=R;exact rfl
  |_=>injection eX
 |false=>
  have yes:∀{t:Nat},Out c φ s (fun x H'=>x=.bool false/\H'=H) (.bool false) { s with toks:=t }:=Out.same S rB
  have h3:=h3 rfl
  cases v with
  |none=>obtain rfl:=zaa eX;obtain rfl:=R;exact qbo (isinstance_false_none h3 h1 h2) yes
  |bool=>obtain rfl:=zaa eX;obtain rfl:=R;exact qbo (isinstance_false_bool h3 h1 h2) yes
  |int=>obtain rfl:=zaa eX;obtain⟨t1,rfl⟩:=R;exact qbo (isinstance_false_int h3 h1 h2) yes
  |tup=>obtain rfl:=zaa eX;obtain⟨a,o,vs,n,rfl,_,ho,hc,_⟩:=R;exact qbo (isinstance_false_tuple h3 h1 h2) ⟨⟨o,ho,hc⟩,yes⟩
  |lst=>obtain rfl:=zaa eX;refine(hlst R) _ fun a o wk ho hc=>?_;subst wk;exact qbo (isinstance_false_list h3 h1 h2) ⟨⟨o,ho,hc⟩,yes⟩
  |str=>obtain rfl:=zaa eX;obtain⟨t1,rfl⟩:=R;exact qbo (isinstance_false_str h3 h1 h2) yes
  |_=>injection eX
theorem zgl:es.all zct=true->(backTo pos (qa6 es wz)).any (·.1)=false:=by
 induction es with
 |nil=>intro _;rfl
 |cons e es ih=>
  intro h
  simp only[List.all_cons,Bool.and_eq_true] at h
  rw[zc3 h.1]
  show(false||(backTo pos (qa6 es wz)).any (·.1))=false
  rw[ih h.2];rfl
def OutA(c:Cx)(φ:List Addr)(s:Shared)(Q:List V->Hp->Prop)(a:Args)(s':Shared):Prop:=∀GJ:Prop,(∀(rs:List Value),(a=⟨rs,[]⟩)->∀(φ':List Addr),∀(H':Hp),∀(vs:List V),Ext [] φ s φ' s'->Sim c φ' H' s'->RepL c φ' s'.heap vs rs->Q vs H'->GJ)->GJ
theorem zg3(h:zeu c wz wu es xs)(hne:es≠[]) {A q d k loc φ H s Q E}(hA:OkF c A q d φ s.heap)(hF:FSim c wz wu k loc φ s.heap)(hS:Sim c φ H s)(hw:wpL (Calls c) q d k xs loc Q E H) :
  wpAny (model c.prog c.w) A (evalArgs f true (backTo pos (qa6 es wz)) []) (fun a s'=>OutA c φ s (fun vs H=>vs.length=xs.length/\Q vs H) a s') (OutX c φ s E) s:=by
 cases es with
 |nil=>exact absurd rfl hne
 |cons e es=>
  have h2:=h.2 A q d k loc φ H s Q E pos hA hF hS hw
  have hn:=h.1.1
  simp only[List.all_cons,Bool.and_eq_true] at hn
  rw[zc3 hn.1] at h2 ⊢
  exact Calls.evalArgs_plain (qac h2 (fun rs s' hJq=>hJq _ fun φ' H' vs e S R q=>fun J kJ=>kJ rs rfl φ' H' vs e S R q) fun J J h=>h)
theorem zk8{f:Str}(O:c.Ok)(hk:wz.kindOf f=some .globalImplicit)(hg:c.g f=some (.ref a))(ho:c.h0.get? a=some o)(hd:o.data=.func fd)
  (hx:(f==("__debug__":Str))=false) (h:zeu c wz wu es xs) (hne:es≠[]):zce c wz wu (.Call (.Name f p) es [] pos) (.call f xs):=fun A q d k loc φ H s Q E hA hF hS hw=>by
 show wpAny _ _ (eval (.Name f p) wz >>=fun fv=>callWith pos fv [] (backTo pos (qa6 es wz)) []) _ _ _
 refine qaa (Calls.Name_function_global hF.fn hk (Calls.loadGlobal_global (by rw[hF.gl];exact O.gl.keeps hS.stays) hg ?_) hx)
 refine Calls.callWith_function (o:=o) (fd:=fd) (qac (zg3 h hne hA hF hS hw) ?_ fun J J h=>h)
 rintro _ s₁ w0;refine w0 _ fun rs wk φ₁ H₁ vs e₁ S₁ R₁ eN2=>?_;clear w0;subst wk;obtain⟨l₁,w₁⟩:=eN2
 refine⟨⟨S₁.stays a o ho,hd⟩,wpAny_call ?_⟩
 refine w₁ _ fun a' o' fd' g1 g2 g3 g4=>?_;clear w₁
 rw[hg] at g1;injection g1 with Ja;injection Ja with w4;subst w4
 have:=g4 A φ₁ s₁ rs [] (hA.mono e₁).toOkA S₁ R₁ rfl
 rw[za4] at this
 refine codeAny_mono this ?_
 intro r s' hr
 cases r with
 |error e=>exact OutX.lift e₁ S₁ hr
 |ok f=>cases f with
  |ret v=>exact Out.lift e₁ hr
  |_=>exact hr.elim
theorem zdb(hf:∀a,f≠.ref a)(hplain:args.any (·.1)=false)
  (h:wpAny M A (evalArgs f true args []) (fun a s₁=>wpAny M A (call f (first++a.pos) a.kw) Q E s₁) E s):wpAny M A (callWith pos f first args []) Q E s:=by
 unfold callWith
 refine qaa (qak (qac h (fun a s₁ h₁=>qaa (qa2 ?_)) fun J J x=>x))
 rw[hplain]
 have hk:keeperOf f=pure .machine:=by cases f<;>first |rfl |exact absurd rfl (hf _)
 rw[hk]
 refine qaa (qad ?_)
 exact qaa (qac h₁ (fun r s₂ hr=>qaa (qak (qb3 (qad hr)))) fun J J x=>x)
theorem Bl.noref(b:Bl):∀a,b.real≠.ref a:=by intro a;cases b<;>(intro h;injection h)
theorem zvk{f:Str}{b:Bl}(O:c.Ok)(hk:wz.kindOf f=some .globalImplicit)(hg:c.g f=none)(hb:c.b f=some b.real)
  (hx:(f==("__debug__":Str))=false) (h:zeu c wz wu es xs) (hne:es≠[]):zce c wz wu (.Call (.Name f p) es [] pos) (.blt b xs):=fun A q d k loc φ H s Q E hA hF hS hw=>by
 show wpAny _ _ (eval (.Name f p) wz >>=fun fv=>callWith pos fv [] (backTo pos (qa6 es wz)) []) _ _ _
 refine qaa (Calls.Name_function_global hF.fn hk (Calls.loadGlobal_builtin (by rw[hF.gl];exact O.gl.keeps hS.stays) hg (by rw[hF.bl];exact O.bl.keeps hS.stays) hb ?_) hx)
 refine zdb b.noref (zgl h.1.1) (qac (zg3 h hne hA hF hS hw) ?_ fun J J h=>h)
 rintro _ s₁ w0;refine w0 _ fun rs wk φ₁ H₁ vs e₁ S₁ R₁ eN2=>?_;clear w0;subst wk;obtain⟨l₁,w₁⟩:=eN2
 revert w₁;refine xI fun p e w₂=>?_
 obtain⟨rfl,e'⟩:=zuz e
 exact(do_blt O (hA.mono e₁) S₁ R₁ e').use e₁ w₂
theorem zve(O:c.Ok)(hT:t.real=some T)(hk:wz.kindOf (qab "isinstance")=some .globalImplicit)(hk':wz.kindOf (qab T)=some .globalImplicit)
  (hg:c.g (qab "isinstance")=none) (hb:c.b (qab "isinstance")=some (.builtin "isinstance")) (hg':c.g (qab T)=none) (hb':c.b (qab T)=some (.type T))
  (hx:(qab T==("__debug__":Str))=false) (hn:zct e=true) (h:zce c wz wu e x):zce c wz wu (.Call (.Name (qab "isinstance") p) [e,.Name (qab T) p'] [] pos) (.isi x t):=fun A q d k loc φ H s Q E hA hF hS hw=>by
 show wpAny _ _ (eval (.Name (qab "isinstance") p) wz >>=fun fv=>callWith pos fv [] (backTo pos (qa6 [e,.Name (qab T) p'] wz)) []) _ _ _
 refine qaa (Calls.Name_function_global hF.fn hk (Calls.loadGlobal_builtin (by rw[hF.gl];exact O.gl.keeps hS.stays) hg (by rw[hF.bl];exact O.bl.keeps hS.stays) hb ?_))
 rw[zc3 hn]
 refine zdb (by intro a h;injection h) rfl (Calls.evalArgs_plain (Calls.spliced_cons (qac (h A q d k loc φ H s _ E hA hF hS hw) ?_ fun J J h=>h)))
 rintro r s₁ ⟨φ₁,H₁,v₁,e₁,S₁,R₁,w₁⟩
 refine Calls.spliced_cons (Calls.Name_function_global hF.fn hk' (Calls.loadGlobal_builtin (by rw[hF.gl];exact O.gl.keeps S₁.stays) hg' (by rw[hF.bl];exact O.bl.keeps S₁.stays) hb' (Calls.spliced_nil ?_)) hx)
 revert w₁;refine xI fun b hb w₁=>?_
 exact(do_isi S₁ R₁ hT hb).use e₁ w₁
end
variable {T x:Value}{args:List Value}{b:Addr}{e:Option Expr}{f:Array Value->Array Value}{o:Expr}{t:Nat}{xs:List V}
section
open PySem PyProof.Rows
noncomputable def Me.on:Me->String
 |_=>"list"
noncomputable def Me.nm:Me->Str
 |.append=>"append"
 |.extend=>"extend"
 |.count=>"count"
 |.index=>"index"
noncomputable def Me.id:Me->String
 |.append=>"list.append"
 |.extend=>"list.extend"
 |.count=>"list.count"
 |.index=>"list.index"
theorem Me.slot(m:Me):Slot m.on m.nm m.id:=by
 cases m with
 |append=>exact PySem.F.slot_list_append
 |extend=>exact PySem.F.slot_list_extend
 |count=>exact PySem.F.slot_list_count
 |index=>exact PySem.F.slot_list_index
theorem Me.ty(m:Me):typeOf (.builtin m.id)=pure (.type "method_descriptor"):=by
 cases m with
 |append=>exact PySem.F.type_list_append
 |extend=>exact PySem.F.type_list_extend
 |count=>exact PySem.F.type_list_count
 |index=>exact PySem.F.type_list_index
theorem Me.attrs(m:Me):PlainAttrs m.on:=by
 cases m with
 |_=>exact PySem.F.plainAttrs_list
theorem zxh(S:Sim c φ H s)(ha:φ[i]?=some a)(ho:s.heap.get? a=some (lobj vs n))
  (hr:RepL c φ s.heap xs (f vs).toList) (hz:xs.length<=qag) (hv:Rep c φ s.heap v r):Out c φ s (fun x H'=>x=v/\H'=H.set i xs) r { s with heap:=s.heap.update a (qbs f),toks:=t }:=by
 obtain⟨e,S'⟩:=S.put (h':=s.heap.update a (qbs f)) ha (qa1 ..) (IsL.update (n:=n) ho f) hr hz
 exact⟨φ,_,v,e.trans (Ext.of_heap rfl rfl),S'.tok t,Rep.mono e.toKp OwnX.nil hv,rfl,rfl⟩
noncomputable def isT(v:Value):Bool:=v==.bool true
theorem isT_at(h:vs.toList=l.map Value.bool):∀y,y∈vs->SeqAt.EqAt A s y (.bool true) (isT y):=fun y hy=>by
 have:y∈vs.toList:=Array.mem_toList_iff.mpr hy
 rw[h] at this
 revert this;refine xL fun b J wj=>?_;subst wj
 have:=SeqAt.EqAt.bool_bool (A:=A) (s:=s) b true
 have e:isT (Value.bool b)=(b==true):=by cases b<;>rfl
 rw[e];exact this
theorem zm3:∀l:List Bool,(l.map Value.bool).countP isT=l.count true
 |[]=>rfl
 |b::l=>by
  rw[za5,List.countP_cons,zm3 l,List.count_cons]
  cases b<;>rfl
def HasM (c:Cx) (A:Around) (φ:List Addr) (s:Shared) (m:Me) (x:Value) (rs:List Value) (p:V×Hp):Prop:=Does c A φ s (call (.builtin m.id) (x::rs)) p.1 p.2
theorem zv5 (S:Sim c φ H s) (R1:Rep c φ s.heap (.lst i) x) (Rw:Rep c φ s.heap w r) (e1:H[i]?=some xs) (hz:xs.length<qag):HasM c A φ s .append x [r] (.none,H.set i (xs++[w])):=by
 intro E
 have hsl:qag=2^24:=rfl
 refine(S.getP R1 e1) _ fun a us n wk ha ho hr hz1 z=>?_;subst wk
 refine qbl slot_list_append ⟨_,ho,rfl⟩ entry_list_append ?_ (args_list_append _ _)
 show wpAny _ _ (updateSeq a (·.push r) >>=fun J=>ret .none) _ _ s
 refine qaa (wpAny_updateSeq ho rfl (qad ⟨.none,rfl,?_⟩) (by exact ar2 [_,_,_] [] kab (Y0 V0 V1) (Y1 V2 V1) (Y2 V0 V2) hz z) (by simp;exact ar2 [_,_,_] [] kab (Y0 V0 V1) (Y1 V2 V1) (Y2 V0 V2) hz z))
 exact zxh (t:=s.toks) S ha ho (by rw[Array.toList_push];exact hr.append (show RepL c φ s.heap [w] [r] from⟨Rw,rfl⟩)) (by rw[zak];exact hz) rN
theorem zwd(S:Sim c φ H s){ys:List V}(R1:Rep c φ s.heap (.lst i) x)(Rw:Rep c φ s.heap (.lst j) r)(e1:H[i]?=some xs)(e2:H[j]?=some ys)(hz:xs.length+ys.length<=qag):HasM c A φ s .extend x [r] (.none,H.set i (xs++ys)):=by
 intro E
 have hsl:qag=2^24:=rfl
 refine(S.getP R1 e1) _ fun a us n wk ha ho hr hz1 z=>?_;subst wk
 refine(S.getP Rw e2) _ fun a2 us2 n2 wk ha2 ho2 hr2 hz2 z2=>?_;subst wk
 refine call_meets PySem.F.slot_list_extend ⟨_,ho,rfl⟩ PySem.F.entry_list_extend (PySem.F.args_list_extend_2 _ _) (PySem.AutoSeq1.list_extend_list_list_0 a us n a2 us2 n2 ?_ (by exact ar2 [_,_,_] [] kab (Y0 V0 V1) (Y0 V2 V1) (Y2 V0 V2) hz1 z) (by exact ar4 [_,_,_,_,_] [] 0x294a528003080001840100c201006100c0308080 (Y0 (Y0 V0 V1) (.l 16777217)) (Y0 (Y0 V2 V3) V4) (Y2 V4 (.l 16777216)) (Y2 V0 V2) (Y2 V1 V3) hz hsl z z2)) ⟨ho,ho2,?_⟩
 ·simp[Builtin.List.listTooLong];lia
 ·exact zxh (f:=fun x=>x++us2) S ha ho (by rw[Array.toList_append];exact hr.append hr2) (by rw[zak];exact hz) rN
theorem do_count(S:Sim c φ H s)(R1:Rep c φ s.heap (.lst i) x)(e3:H[i]?=some xs)(e4:zeq xs=some l):HasM c A φ s .count x [.bool true] (.int (l.count true),H):=by
 intro E
 refine(S.getP R1 e3) _ fun a us n wk ha ho hr hz1 z=>?_;subst wk
 have hb:=zgq hr e4
 refine call_meets PySem.F.slot_list_count ⟨_,ho,rfl⟩ PySem.F.entry_list_count (PySem.F.args_list_count_2 _ _) (SeqAt.list_countAt a us n none #[] (.bool true) isT) ⟨ho,isT_at hb,?_⟩
 rw[hb,zm3]
 exact Out.same S rI
theorem do_index(S:Sim c φ H s)(R1:Rep c φ s.heap (.lst i) x)(e3:H[i]?=some xs)(e4:zeq xs=some l)(hm:true∈l):HasM c A φ s .index x [.bool true] (.int (l.idxOf true),H):=by
 intro E
 have hsl:qag=2^24:=rfl
 refine(S.getP R1 e3) _ fun a us n wk ha ho hr hz1 z=>?_;subst wk
 have hb:=zgq hr e4
 have hlt:l.idxOf true<l.length:=List.idxOf_lt_length_iff.mpr hm
 have hsz:us.size=l.length:=by rw[<- zbj,hb,zab]
 have hat:∀m (h:m<us.size),us[m]=.bool (l[m]'(by lia)):=fun m h=>by
  have:us.toList[m]?=some (.bool (l[m]'(by lia))):=by rw[hb,zal,zai (by lia)];rfl
  rw[Array.getElem?_toList,zb9 h] at this
  exact zaa this
 refine call_meets PySem.F.slot_list_index ⟨_,ho,rfl⟩ PySem.F.entry_list_index (PySem.F.args_list_index_2 _ _) (SeqAt.list_indexAt a us n none #[] (.bool true) isT (l.idxOf true) (by lia) (by lia) ?_ ?_) ⟨ho,isT_at hb,?_⟩
 ·rw[hat _ (by lia),List.getElem_idxOf hlt];rfl
 ·intro m h1 h2
  rw[hat _ h1]
  have:=List.not_of_lt_findIdx (p:=(·==true)) (xs:=l) (i:=m) h2
  refine xD (l[m]'(by lia)) (fun hl=>?_) fun hl=>?_
  ·simp[hl] at this
  ·rfl
 ·exact Out.same S rI
def LstI(H:Hp){β:Type}(v:V)(f:Nat->List V->Option β)(r:β):Prop:=∀GJ:Prop,(∀(i:Nat),∀(xs:List V),(v=.lst i)->(H[i]?=some xs)->(f i xs=some r)->GJ)->GJ
theorem lstI{f:Nat->List V->Option β}{r:β}(h:((zl9 v).bind fun a=>(H[a]?).bind fun xs=>f a xs)=some r):LstI H v f r:=by
 revert h;refine xB fun i hi g=>?_
 revert g;refine xB fun xs e g=>?_
 exact(fun J kJ=>kJ i xs (zf4 hi) e g)
theorem zjo{u:Unit}(h:zo1 v=some u):v=.bool true:=by
 revert h;refine xB fun b hb g=>?_
 obtain rfl:=zdx hb
 revert g;refine xS fun hb J=>?_
 rw[hb]
theorem do_meth(S:Sim c φ H s){vs:List V}{p:V×Hp}(R1:Rep c φ s.heap v x)(R2:RepL c φ s.heap vs rs)(e:zpx H m v vs=some p) :
  DoesP c A φ s (call (.builtin m.id) (x::rs)) p:=by
 cases m with
 |append=>
  refine(lstI e) _ fun i xs wk e1 g=>?_;subst wk
  obtain⟨w,rfl,k⟩:=zd6 g
  refine R2.one _ fun r wk Rw=>?_;subst wk
  revert k;refine xS fun hz wj=>?_;subst wj
  exact zv5 S R1 Rw e1 hz
 |extend=>
  refine(lstI e) _ fun i xs wk e1 g=>?_;subst wk
  obtain⟨w,rfl,k⟩:=zd6 g
  obtain⟨j,ys,rfl,e2,k2⟩:=zgr k
  refine R2.one _ fun r wk Rw=>?_;subst wk
  revert k2;refine xS fun hz wj=>?_;subst wj
  exact zwd S R1 Rw e1 e2 hz
 |count=>
  obtain⟨i,xs,rfl,e3,f⟩:=zgr e
  obtain⟨w,rfl,k⟩:=zd6 f
  refine R2.one _ fun r wk Rw=>?_;subst wk
  revert k;refine xB fun J hw k1=>?_
  obtain rfl:=zjo hw
  revert k1;refine xM fun l e4 wj=>?_;subst wj
  obtain rfl:=Rw
  exact do_count S R1 e3 e4
 |index=>
  obtain⟨i,xs,rfl,e3,f⟩:=zgr e
  obtain⟨w,rfl,k⟩:=zd6 f
  refine R2.one _ fun r wk Rw=>?_;subst wk
  revert k;refine xB fun J hw k1=>?_
  obtain rfl:=zjo hw
  revert k1;refine xB fun l e4 k2=>?_
  revert k2;refine xS fun hm wj=>?_;subst wj
  obtain rfl:=Rw
  exact do_index S R1 e3 e4 hm
end
variable {f:Value}{l:List V}{t:Tok}{w:World}{x:Ex}{xs:List Ex}
section
open PySem PyProof.Rows
noncomputable def zn1:Expr->Bool
 |.Name ..=>true
 |.Constant ..=>true
 |.Subscript ..=>true
 |_=>false
theorem zpg(h:zn1 o=true):attributeBase o name wz (eval o wz)=eval o wz:=by
 cases o<;>first |rfl |injection h
theorem zn8{Q:Args->Shared->Prop}(h:Q ⟨[],[]⟩ s):wpAny M A (evalArgs f true [] []) Q E s:=by
 unfold evalArgs
 show wpAny M A (spliced [] >>=_) Q E s
 refine qaa (qad (qaa (qad ?_)))
 refine qak ?_
 exact qaa (qad (qaa (qad (qad h))))
theorem pick_rev(items:Array Value):slicePick items none none (some (-1))=items.toList.reverse.toArray:=by
 have hr:sliceRange ((items.size:Int)-1) (-1) (-1)=(List.range items.size).map fun k=>items.size-1-k:=by
  unfold sliceRange
  by_cases h:(items.size:Int)-1 > -1
  ·have e:((items.size:Int)-1 - -1 - -1-1)/(- -1)=(items.size:Int):=by
    rw[show(- -1:Int)=1 from rfl,Int.ediv_one];exact ar0 [_] [] kac (Y5 (Y2 (Y2 (Y2 (Y2 (Y4 V0 J0) J1) (Y3 J1 J0)) (Y3 J1 J0)) J1) (Y4 V0 J0))
   simp only[show ¬((-1:Int)>0) by decide,if_false,h,if_true,e,zb4]
   exact List.map_congr_left fun k hk=>by have:=zbo.mp hk;lia
  ·simp[show items.size=0 by exact ar1 [_] [] kas (Y2 V0 J0) (Y8 (Y4 (Y3 J1 J0) (Y2 (Y4 V0 J0) J1)) J0) h]
 have hb:sliceBounds none none (some (-1)) items.size=((items.size:Int)-1,-1,-1):=by simp[sliceBounds]
 unfold slicePick
 rw[hb]
 congr 1
 show(sliceRange ((items.size:Int)-1) (-1) (-1)).filterMap (items[·]?)=_
 rw[hr,List.filterMap_map]
 have:∀k∈List.range items.size,((items[·]?)∘fun k=>items.size-1-k) k=some (items.toList.reverse.getD k qar):=by
  intro k hk
  have hk:=zbo.mp hk
  show items[items.size-1-k]?=_
  rw[zao,List.getElem?_reverse (by simpa using hk),zbj,Array.getElem?_toList,zb9 (by exact ar1 [_,_] [] kbf (Y1 (Y2 (Y2 V0 J1) V1) V0) (Y1 V1 V0) hk)];rfl
 have fm:∀(f:Nat->Option Value) (g:Nat->Value) (l:List Nat),(∀k∈l,f k=some (g k))->l.filterMap f=l.map g:=by
  intro f g l
  induction l with
  |nil=>intro _;rfl
  |cons x r ih=>intro h;rw[List.filterMap_cons_some (h x zad),ih fun k hk=>h k (zag _ hk),za5]
 rw[fm _ _ _ this]
 apply List.ext_getElem
 ·simp
 ·intro i h1 h2
  have:i<items.size:=by simpa using h2
  simp[this]
theorem args_any(h:zeu c wz wu es xs) {A q d k loc φ H s Q E}(hA:OkF c A q d φ s.heap)(hF:FSim c wz wu k loc φ s.heap)(hS:Sim c φ H s)(hw:wpL (Calls c) q d k xs loc Q E H) :
  wpAny (model c.prog c.w) A (evalArgs f true (backTo pos (qa6 es wz)) []) (fun a s'=>OutA c φ s (fun vs H=>vs.length=xs.length/\Q vs H) a s') (OutX c φ s E) s:=by
 cases es with
 |cons e es=>exact zg3 h (by simp) hA hF hS hw
 |nil=>
  have hx:xs=[]:=zbr.mp h.1.2.symm
  subst hx
  exact zn8 (fun J kJ=>kJ [] rfl φ H [] Ext.refl hS rL ⟨rfl,hw⟩)
theorem few_args(h:es.all zct=true)(hes:es.length<20):((backTo pos (qa6 es wz)).all (fun x=>!x.1)&&(backToKw pos (keywordEach [] wz)).all (fun x=>x.1.isSome)
   && decide (es.length+([]:List Keyword).length+(if([]:List Keyword).isEmpty then 0 else 1)<30))=true:=by
 have h3:(backTo pos (qa6 es wz)).all (fun x=>!x.1)=true:=by
  rw[zaz]
  intro x hx
  have:=List.any_eq_false.mp (zgl (wz:=wz) (pos:=pos) h) x hx
  rw[Bool.not_eq_true] at this
  rw[this];rfl
 exact zbc.mpr ⟨zbc.mpr ⟨h3,rfl⟩,decide_eq_true (zau hes (by decide))⟩
theorem meth_on{A:Around}(S:Sim c φ H s)(R:Rep c φ s.heap v r)(h:zvj m v=true):s.TypeIs r m.on/\(∀a,r=.ref a->∃ob,s.heap.get? a=some ob/\ob.dict=none):=by
 have lst:∀{v},zue v=true->Rep c φ s.heap v r->s.TypeIs r "list"/\(∀a,r=.ref a->∃ob,s.heap.get? a=some ob/\ob.dict=none):=fun{v} h R=>by
  cases v with
  |lst i=>
   have R0:=R
   obtain⟨a,_,ha⟩:=R0
   refine(S.getP R (zai (S.len▸(zbn.mp ha).1))) _ fun a us n wk J ho J J J=>?_;subst wk
   exact⟨⟨_,ho,rfl⟩,fun a h=>by(injection h with Ja;subst Ja);exact⟨_,ho,rfl⟩⟩
  |_=>injection h
 cases m with
 |_=>exact lst h R
theorem zro(hb:zn1 o=true)(hl:(apos.endLine==pos.line)=true)(hes:es.length<20)(h1:zce c wz wu o x)(h2:zeu c wz wu es xs) :
  zce c wz wu (.Call (.Attribute o m.nm apos) es [] pos) (.meth m x xs):=fun A q d k loc φ H s Q E hA hF hS hw=>by
 refine wpAny_Call_method (zpg hb) (few_args h2.1.1 hes) hl m.attrs m.slot m.ty (qac (h1 A q d k loc φ H s _ E hA hF hS hw) ?_ fun J J h=>h)
 rintro r s₁ ⟨φ₁,H₁,v₁,e₁,S₁,R₁,hok,w₁⟩
 obtain⟨t1,t2⟩:=meth_on (A:=A) S₁ R₁ hok
 refine⟨t1,t2,zdb (by intro a h;injection h) (zgl h2.1.1) (qac (args_any h2 (hA.mono e₁) (hF.mono e₁) S₁ w₁) ?_ fun J J h=>OutX.lift e₁ S₁ h)⟩
 rintro _ s₂ w0;refine w0 _ fun rs wk φ₂ H₂ vs e₂ S₂ R₂ eN2=>?_;clear w0;subst wk;obtain⟨l₂,w₂⟩:=eN2
 revert w₂;refine xI fun p e w₂=>?_
 exact(do_meth S₂ (Rep.mono e₂.toKp OwnX.nil R₁) R₂ e).use (e₁.trans e₂) w₂
set_option tactic.hygienic true in
theorem clip_eq(n:Nat)(i:Int):clipAt n i=zhj i n:=by
 have h:=clipAt_cast n i
 unfold zhj
 split at h<;>rename_i hi
 ·rw[if_pos hi];exact ar5 [_,_,_] [_,_,_] 0x3298e214a000c20380610040001084294a528003081801840900c202006100803080002006010085294001840700c202006100000031c4294001840700c2008000210a5294a000c205006101c04080c01840200c200004008085294001840700c202006100000028852800308060184010000c71085294a528003081202040a00c20380610180408040204000080101085294a50008102803080e0184060102010081000020040e210a5294001840900c203006100c040800010020210a5294001840700c203006100c040800010020 (Y2 V0 V1) (Y4 V0 J0) (Y5 (Y4 V0 J0) V1) (Y7 (Y5 (Y4 V1 J0) (Y0 V0 (Y4 V2 J0))) (Y6 (Y3 (Y0 V0 (Y4 V2 J0)) J0) (Y2 V1 J0))) (Y7 (Y6 (Y5 V1 J0) (Y3 V2 J0)) (Y6 (Y5 V1 V2) (Y3 J0 V2))) (Y7 (Y6 (Y5 V2 (Y0 V0 (Y4 V2 J0))) (Y3 (Y0 V0 (Y4 V2 J0)) (Y4 V2 J0))) (Y6 (Y5 V2 (Y4 V2 J0)) (Y3 (Y4 V2 J0) (Y0 V0 (Y4 V2 J0))))) hi h (Ar.tn _) (Ar.zx _ _) (Ar.zn _ _)
 ·rw[if_neg hi];exact ar4 [_,_,_] [_,_,_] 0x192b69084294a5294001840b00c204806101003080401840000c20080801804021085294a50006102c03081201840400c20100610000400c02010a528003080c01840400c20000005b468210a5294a000c206806102c04080801840200c20000c028084294a5294a000c206806102c04081402040400c20100610000308020300a04082108d04214a5294a000c206806102c04080801840200c20000610040601404214a5294a000c206806102c04081402040400c2010061000060140810421214a50006101803080801840000009190a528003080c01840200c2008060408210ada3210a5294a0010206006102803080a02040201020000a02010208423210a5294a50008103003081401840900c2020081008040800028080408210b464214a528003081401840500c201808100005010081042119085294a50006102803081201840400c2018081000050100810421 (Y2 V0 (Y5 V1 V2)) (Y5 (Y4 V0 J0) V0) (Y7 (Y5 (Y4 V1 J0) V1) (Y6 (Y3 V1 J0) (Y2 V1 J0))) (Y7 (Y6 (Y5 V0 J0) (Y3 V2 J0)) (Y6 (Y5 V0 V2) (Y3 J0 V2))) (Y7 (Y6 (Y5 V2 V1) (Y3 V1 (Y4 V2 J0))) (Y6 (Y5 V2 (Y4 V2 J0)) (Y3 (Y4 V2 J0) V1))) h (Ar.tn _) (Ar.zx _ _) (Ar.zn _ _)
theorem RepL.drop:∀{l:List V}{rs:List Value},RepL c φ h l rs->∀i:Nat,RepL c φ h (l.drop i) (rs.drop i)
 |_,_,h,0=>h
 |[],_,h,_+1=>by rw[h.nil_inv];rfl
 |x::xs,_,h,i+1=>by
  refine h.uncons _ fun r rs wk J h2=>?_;subst wk
  exact RepL.drop h2 i
theorem RepL.take:∀{l:List V}{rs:List Value},RepL c φ h l rs->∀i:Nat,RepL c φ h (l.take i) (rs.take i)
 |_,_,_,0=>rfl
 |[],_,h,_+1=>by rw[h.nil_inv];rfl
 |x::xs,_,h,i+1=>by
  refine h.uncons _ fun r rs wk h1 h2=>?_;subst wk
  exact⟨h1,RepL.take h2 i⟩
theorem RepL.reverse(hr:RepL c φ h l rs):RepL c φ h l.reverse rs.reverse:=by
 have wq:=hr.length
 refine RepL.of_get (by simp[wq]) fun i v r h1 h2=>?_
 have hi:i<l.length:=by have:=(zbn.mp h1).1;simpa using this
 rw[List.getElem?_reverse hi] at h1
 rw[List.getElem?_reverse (by exact ar2 [_,_,_] [] 0x294a000c20000810040308040 (Y1 V0 V1) (Y2 V1 V2) (Y1 V0 V2) wq hi),wq] at h2
 refine(hr.get h1) _ fun r' h3 h4=>?_
 replace h3:=zaa (h2.symm.trans h3);subst h3;exact h4
def zrf(c:Cx)(wz:Env)(wu:Res)(e:Option Expr)(x:Ex):Prop:=
 match e with
 |none=>x=.lit .none
 |some e=>zce c wz wu e x
theorem ztv(h:zrf c wz wu e x) {A q d k loc φ H s Q E}(hA:OkF c A q d φ s.heap)(hF:FSim c wz wu k loc φ s.heap)(hS:Sim c φ H s)(hw:wpE (Calls c) q d k x loc Q E H) :
  wpAny (model c.prog c.w) A (evalPart e wz) (Out c φ s Q) (OutX c φ s E) s:=by
 cases e with
 |none=>
  obtain rfl:x=.lit .none:=h
  rw[evalPart_none]
  exact qad (Out.at' hS rN hw)
 |some e=>
  rw[evalPart_some]
  exact h A q d k loc φ H s Q E hA hF hS hw
def PartI(r:Value)(n dflt k:Nat):Prop:=∀GJ:Prop,(∀(o:Option Int),IsPart r o->(o.elim dflt (clipAt n)=k)->GJ)->GJ
theorem zos{dflt k:Nat}(R:Rep c φ h v r)(hb:bound? n dflt v=some k):PartI r n dflt k:=by
 cases v with
 |none=>obtain rfl:=R;obtain rfl:=zaa hb;exact(fun J kJ=>kJ none .none rfl)
 |int i=>obtain⟨t,rfl⟩:=R;obtain rfl:=zaa hb;exact(fun J kJ=>kJ (some _) (.int _ _) (clip_eq _ _))
 |_=>injection hb
theorem do_slice(S:Sim c φ H s){vl vu:V}{rl ru:Value}(R:Rep c φ s.heap v r)(Rl:Rep c φ s.heap vl rl)(Ru:Rep c φ s.heap vu ru)(e:zky H v vl vu=some u) {E} :
  wpAny (model c.prog c.w) A (subscriptTail o (.Slice lo hi none p) r (.ref s.heap.objs.size)) (Out c φ s fun x H'=>x=u.1/\H'=u.2) E { s with heap:=s.heap.push { cls:=.type "slice",data:=.fields #[rl,ru,.none] } }:=by
 have hsl:qag=2^24:=rfl
 refine(lstI e) _ fun i xs wk ex g=>?_;subst wk
 revert g;refine xB fun i ei g=>?_
 revert g;refine xM fun j ej wj=>?_;subst wj
 refine(S.getP R ex) _ fun b us n wk hb hob hr hz zz=>?_;subst wk
 refine(zos Rl ei) _ fun ol pl el=>?_
 refine(zos Ru ej) _ fun ou pu eu=>?_
 refine(zl5 (.Slice lo hi none p) (.ref b) (.ref s.heap.objs.size)) _ fun ops hops=>?_
 have hL:=zdi hob
 refine tail_any (hL.push _).typeIs slot_list_getitem.lookup (wpAny_getItem_list_slice (hL.push _) (Heap.IsSliceOf.new ..) pl pu .none (by simp) ?_ (by exact ar2 [_,_,_] [] kab (Y0 V0 V1) (Y0 V2 V1) (Y2 V0 V2) hz zz)) hops
 have S₄:=S.push { cls:=.type "slice",data:=.fields #[rl,ru,.none] }
 have e₄:Ext [] φ s φ { s with heap:=s.heap.push { cls:=.type "slice",data:=.fields #[rl,ru,.none] } }:=Ext.push
 refine Out.lift e₄ (zez S₄ ?_ ?_)
 ·rw[slicePick_plain,zz,el,eu]
  exact RepL.mono e₄.toKp OwnX.nil ((hr.drop i).take (j-i))
 ·rw[zbe,zbf];exact zac (Nat.min_le_right _ _) (zac (Nat.sub_le _ _) hz)
theorem do_rev(S:Sim c φ H s)(R:Rep c φ s.heap v r)(e:revV H v=some u) {E} :
  wpAny (model c.prog c.w) A (subscriptTail o (.Slice none none (some (.UnaryOp .USub (.Constant (.int 1) n p) p')) p'') r (.ref s.heap.objs.size)) (Out c φ s fun x H'=>x=u.1/\H'=u.2) E { s with heap:=s.heap.push { cls:=.type "slice",data:=.fields #[.none,.none,.int (-1) t] } }:=by
 have hsl:qag=2^24:=rfl
 revert e;refine xB fun i hi g=>?_
 obtain rfl:=zf4 hi
 revert g;refine xM fun xs ex wj=>?_;subst wj
 refine(S.getP R ex) _ fun b us m wk hb hob hr hz zz=>?_;subst wk
 refine(zl5 (.Slice none none (some (.UnaryOp .USub (.Constant (.int 1) n p) p')) p'') (.ref b) (.ref s.heap.objs.size)) _ fun ops hops=>?_
 have hL:=zdi hob
 refine tail_any (hL.push _).typeIs slot_list_getitem.lookup (wpAny_getItem_list_slice (hL.push _) (Heap.IsSliceOf.new ..) .none .none (.int (-1) _) (by simp) ?_ (by exact ar2 [_,_,_] [] kab (Y0 V0 V1) (Y0 V2 V1) (Y2 V0 V2) hz zz)) hops
 have S₄:=S.push { cls:=.type "slice",data:=.fields #[.none,.none,.int (-1) t] }
 have e₄:Ext [] φ s φ { s with heap:=s.heap.push { cls:=.type "slice",data:=.fields #[.none,.none,.int (-1) t] } }:=Ext.push
 refine Out.lift e₄ (zez S₄ ?_ (by rw[List.length_reverse];exact hz))
 rw[pick_rev]
 exact RepL.mono e₄.toKp OwnX.nil hr.reverse
theorem zp1{y z:Ex}(h1:zce c wz wu o x)(h2:zrf c wz wu lo y)(h3:zrf c wz wu hi z):zce c wz wu (.Subscript o (.Slice lo hi none p) pos) (.slice x y z):=fun A q d k loc φ H s Q E hA hF hS hw=>by
 refine Subscript_ (qac (h1 A q d k loc φ H s _ E hA hF hS hw) ?_ fun J J h=>h)
 rintro r s₁ ⟨φ₁,H₁,v₁,e₁,S₁,R₁,w₁⟩
 refine wpAny_Slice (qac (ztv h2 (hA.mono e₁) (hF.mono e₁) S₁ w₁) ?_ fun J J h=>OutX.lift e₁ S₁ h)
 rintro rl s₂ ⟨φ₂,H₂,v₂,e₂,S₂,R₂,w₂⟩
 have e12:=e₁.trans e₂
 refine qac (ztv h3 (hA.mono e12) (hF.mono e12) S₂ w₂) ?_ fun J J h=>OutX.lift e12 S₂ h
 rintro ru s₃ ⟨φ₃,H₃,v₃,e₃,S₃,R₃,w₃⟩
 revert w₃;refine xI fun u e w₃=>?_
 rw[evalPart_none]
 exact qad (qac (do_slice S₃ (Rep.mono (e₂.trans e₃).toKp OwnX.nil R₁) (Rep.mono e₃.toKp OwnX.nil R₂) R₃ e) (fun J J h=>Out.lift (e12.trans e₃) (h.eq w₃)) fun J J h=>h)
theorem ztq(h1:zce c wz wu o x):zce c wz wu (.Subscript o (.Slice none none (some (.UnaryOp .USub (.Constant (.int 1) n p) p')) p'') pos) (.rev x):=fun A q d k loc φ H s Q E hA hF hS hw=>by
 refine Subscript_ (qac (h1 A q d k loc φ H s _ E hA hF hS hw) ?_ fun J J h=>h)
 rintro r s₁ ⟨φ₁,H₁,v₁,e₁,S₁,R₁,w₁⟩
 revert w₁;refine xI fun u e w₁=>?_
 refine wpAny_Slice ?_
 rw[evalPart_none]
 refine qad (qad ?_)
 rw[evalPart_some]
 refine wpAny_UnaryOp (wpAny_Constant_int (PyProof.Rows.neg_int ?_))
 have et:Ext [] φ₁ s₁ φ₁ { s₁ with toks:=s₁.toks+1+1 }:=Ext.of_heap rfl rfl
 exact qac (do_rev (S₁.tok (s₁.toks+1+1)) R₁ e) (fun J J h=>Out.lift (e₁.trans et) (h.eq w₁)) fun J J h=>h
end
set_option maxRecDepth 100000
variable {e l:Addr}{f:qbk->qbk}{hi lo:Int}{m:Str->Option Value}{o:Obj}{rs:List Nat}{t:String}{u:V}{v x:Value}{xs:Array Value}
section
open PySem PyProof.Rows
noncomputable def rvT:String:="list_reverseiterator"
noncomputable def rvO(l:Addr)(i:Int):Obj:={ cls:=.type rvT,data:=.fields #[.ref l,rawInt i] }
inductive RvAt(h:Heap)(I l:Addr)(i:Int):Prop
 |mk (o:Obj)(ho:h.get? I=some o)(hc:o.cls=.type rvT)(hd:o.data=.fields #[.ref l,rawInt i])
theorem rv_sig:Manifest.owners.lookup (String.ofList ['r','o','t','a','r','e','t','i','e','s','r','e','v','e','r','_','t','s','i','l'].reverse)=some Manifest.sig_list_reverseiterator:=by kernel_rfl
theorem zmv:Slot rvT "__next__" "list_reverseiterator.__next__":=
 .of (owner:=rvT) (n:="__next__") (by rw[qb1,qbb];kernel_rfl) (by decide +kernel) (by decide +kernel) (by decide +kernel) (.inl (by decide +kernel)) (by rw[isSubtype_type];kernel_rfl)
theorem ztx:Slot rvT "__iter__" "list_reverseiterator.__iter__":=
 .of (owner:=rvT) (n:="__iter__") (by rw[qb1,qbb];kernel_rfl) (by decide +kernel) (by decide +kernel) (by decide +kernel) (.inl (by decide +kernel)) (by rw[isSubtype_type];kernel_rfl)
theorem zim(a:Value):argsOk "list_reverseiterator.__next__" ⟨[a],[]⟩:=by
 unfold argsOk
 rw[signature?_of (id:="list_reverseiterator.__next__") (n:=['_','_','t','x','e','n','_','_']) (o:=['r','o','t','a','r','e','t','i','e','s','r','e','v','e','r','_','t','s','i','l']) (by kernel_rfl) rv_sig]
 kernel_rfl
theorem znp(a:Value):argsOk "list_reverseiterator.__iter__" ⟨[a],[]⟩:=by
 unfold argsOk
 rw[signature?_of (id:="list_reverseiterator.__iter__") (n:=['_','_','r','e','t','i','_','_']) (o:=['r','o','t','a','r','e','t','i','e','s','r','e','v','e','r','_','t','s','i','l']) (by kernel_rfl) rv_sig]
 kernel_rfl
theorem zht:entryFor table "list_reverseiterator.__next__"=some Builtin.«list_reverseiterator.__next__»:=entryFor_of_tree (by kernel_rfl)
theorem zl2:entryFor table "list_reverseiterator.__iter__"=some Builtin.«dict_keyiterator.__iter__»:=
 entryFor_alias (id':="dict_keyiterator.__iter__") (by kernel_rfl) (by first |rfl |decide +kernel |(unfold String.splitOn;simp +decide [String.splitOnAux])) (by decide +kernel) (by kernel_rfl)
theorem rd_mro:mroOf (.type "reversed")=pure [.type "reversed",.type "object"]:=by rw[mroOf_type];kernel_rfl
theorem rd_made:Bind.madeBy (.type "reversed")=pure (some "reversed.__new__"):=
 madeBy_type rd_mro (by rw[qb1,qbb];kernel_rfl) (by decide +kernel)
theorem rd_entry:entryFor table "reversed.__new__"=some Builtin.«reversed.__new__»:=entryFor_of_tree (by kernel_rfl)
theorem zp8:plainId "reversed.__new__"=true:=by decide +kernel
theorem RvAt.ty{i:Int}(h:RvAt s.heap I l i):s.TypeIs (.ref I) rvT:=let⟨o,ho,hc,_⟩:=h;⟨o,ho,hc⟩
theorem rv_start (hl : s.heap.IsList l xs)
  (h : Q (.ref s.heap.objs.size) { s with heap := s.heap.push (rvO l ((xs.size : Int) - 1)) }) : wpAny (model prog w) A (call (.type "reversed") [.ref l]) Q E s := by
 obtain ⟨o, ho, hc, n, hd⟩ := id hl
 refine wpAny_call (codeAny_of_tree ?_)
 show wpAny _ _ (callAny (.type "reversed") _) _ _ _
 refine qad ⟨Code.quiet_builtin _ (by decide +kernel), codeAny_builtin F.entry_type_call ?_⟩
 rw [Around.under_plain (weight_type_call_type "reversed" [.ref l] []) rfl]
 have h1 : (qbf "reversed" == qbf "type") = false := by decide +kernel
 have h2 : ((Manifest.find? "reversed").bind (·.mro.findSome? fun t => (Manifest.find? t).bind fun b => if b.noNew then some true else if b.attrs.any (·.1 == "__new__") then some false else none)).getD false = false := by decide +kernel
 have h3 := rd_made
 have h4 : isSubtype (.type rvT) (.type "reversed") = pure false := by rw [isSubtype_type]; kernel_rfl
 have h5 : checkTypeCall "reversed" ⟨[qao l], []⟩ = pure () := by kernel_rfl
 have h6 := rd_mro
 repeat (any_goals (first | assumption | wp_step))
 refine codeAny_mono (R := fun r s' => r = .ok (.ret (.ref s.heap.objs.size)) /\ s' = { s with heap := s.heap.push (rvO l ((xs.size : Int) - 1)) }) ?_ ?_
 ·refine codeAny_of_tree ?_
  show wpAny _ A.in1.in1 (do qb7 "reversed.__new__" ⟨[.type "reversed", .ref l], []⟩; again (.builtin "reversed.__new__" ⟨[.type "reversed", .ref l], []⟩)) _ _ s
  refine qaa (qbd (a := ()) (by kernel_rfl) (qad ⟨plainId_quiet zp8 _, codeAny_builtin rd_entry ?_⟩))
  rw [Around.under_plainId zp8 _]
  unfold Builtin.«reversed.__new__»
  have hself : isSubtype (.type "reversed") (.type "reversed") = pure true := by rw [isSubtype_type]; kernel_rfl
  refine qaa (qbd (a := (qbf "reversed", [qao l])) ?_ ?_)
  ·unfold Builtin.SmallTypes.newClass
   simp only [isType, hself, pure_bind, Bool.not_true, zbk, if_false]
  refine qaa (qbd (a := ()) (by first | rfl | kernel_rfl) ?_)
  refine qaa (qbd (a := ()) (by first | rfl | kernel_rfl) ?_)
  dsimp only
  refine qaa (wpAny_specialOf hl.typeIs F.slot_list_reversed.lookup ?_)
  dsimp only
  refine qaa (qbd (F.slot_list_reversed.bind _) ?_)
  show wpAny _ _ (if (qa3 "list.__reversed__" == qar) = true then _ else _) _ _ _
  rw [if_neg (show ¬ ((qa3 "list.__reversed__" == qar) = true) from Bool.false_ne_true)]
  refine qaa (wpAny_rule ?_)
  refine qaa (m := runValue (.call (.builtin "list.__reversed__") ⟨[.ref l], []⟩)) (show wpAny _ _ (call (.builtin "list.__reversed__") [.ref l]) _ _ _ from ?_)
  refine qbl F.slot_list_reversed hl.typeIs F.entry_list_reversed ?_ (F.args_list_reversed_1 _)
  unfold Builtin.«list.__reversed__»
  refine qaa (qbd (a := qao l) rfl ?_)
  refine qaa (wpAny_listItems ho hd ?_)
  refine qaa (qba (qad ⟨_, rfl, ?_⟩))
  exact qad ⟨rfl, rfl⟩
 ·rintro r s' ⟨rfl, rfl⟩
  have hT : ({ s with heap := s.heap.push (rvO l ((xs.size : Int) - 1)) } : Shared).TypeIs (.ref s.heap.objs.size) rvT := ⟨_, qah _ rfl, rfl⟩
  repeat (any_goals (first | assumption | wp_step))
theorem rv_item {Q : Option Value -> Shared -> Prop} (hI : RvAt s.heap I l (i : Int)) (hl : s.heap.IsList l xs) (hx : xs[i]? = some x)
  (hQ : ∀ h', RvAt h' I l ((i : Int) - 1) -> qa4 I s.heap h' -> Q (some x) { s with heap := h' }) : wpAny (model prog w) A (pyNext (.ref I)) Q E s := by
 obtain ⟨ol, hol, _, nl, hdl⟩ := hl
 have hT := hI.ty
 obtain ⟨o, ho, hc, hd⟩ := hI
 unfold pyNext
 refine qaa (wpAny_attempt (wpAny_callSpecial?_slot (name := qab "__next__") hT zmv (qbl zmv hT zht ?_ (zim _))))
 unfold Builtin.«list_reverseiterator.__next__»
 refine qaa (qbd (a := (qao I, [])) rfl ?_)
 refine qaa (qbu ho hd (x := rawInt (i : Int)) rfl ?_)
 show wpAny _ _ (if (i : Int) < 0 then _ else _) _ _ s
 rw [if_neg (Int.not_lt.mpr (zbl i))]
 show wpAny _ _ (field (.ref I) 0 >>= _) _ _ s
 refine qaa (qbu ho hd (x := .ref l) rfl ?_)
 show wpAny _ _ (seqItems? (.ref l) >>= _) _ _ s
 refine qaa (wpAny_seqItems hol hdl ?_)
 simp only [zb4, hx]
 refine qaa (wpAny_setField ho hd (by simp) ?_)
 first
  | refine qad ⟨x, rfl, qad (hQ _ ?_ (qa1 ..))⟩
  | refine qaa (qad (qad ⟨x, rfl, qad (hQ _ ?_ (qa1 ..))⟩))
 exact ⟨_, qam _ ho (Obj.isFreed_of_fields (Obj.data_mapFields hd _)), (Obj.cls_mapFields ..).trans hc, by rw [Obj.data_mapFields hd]; simp⟩
theorem rv_done{Q:Option Value->Shared->Prop}(hh:A.handled=none)(hI:RvAt s.heap I l (-1))
  (hQ:∀h',Heap.ExtBut I s.heap h'->Q none { s with heap:=h' }):wpAny (model prog w) A (pyNext (.ref I)) Q E s:=by
 have hT:=hI.ty
 obtain⟨o,ho,hc,hd⟩:=hI
 unfold pyNext
 refine qaa (wpAny_attempt (wpAny_callSpecial?_slot (name:=qab "__next__") hT zmv (qbl zmv hT zht ?_ (zim _))))
 unfold Builtin.«list_reverseiterator.__next__»
 refine qaa (qbd (a:=(qao I,[])) rfl ?_)
 refine qaa (qbu ho hd (x:=rawInt (-1)) rfl ?_)
 show wpAny _ _ (if(-1:Int)<0 then _ else _) _ _ s
 rw[if_pos (by decide)]
 refine qaa (wpAny_rule ?_)
 refine qaa ?_
 show wpAny _ _ (newExc (.type "StopIteration") [] >>=_) _ _ _
 refine qaa ?_
 simp only[newExc,newTuple]
 refine qaa (qba ?_ (by size_fits))
 refine qaa (m:=firstArgMember _ _) (qbd (a:=qar) (by first |rfl |(simp only[firstArgMember];rfl)) ?_)
 refine qba ?_ (by size_fits)
 unfold raiseNew
 refine qaa (wpAny_handled ?_)
 first |rw[show A.in1.handled=none from hh] |rw[hh]
 refine qaa (qad (wpAny_throw ?_))
 refine qaa (wpAny_isInstance (T:="StopIteration") (b:=true) ⟨_,qah _ rfl,rfl⟩ isSubtype_stop ?_)
 exact qad (hQ _ (((Heap.ExtBut.refl _ _).push _).push _))
theorem zvo{i:Int}(hI:RvAt s.heap I l i)(h:Q (.ref I) s):wpAny (model prog w) A (pyIter (.ref I)) Q E s:=by
 refine wpAny_pyIter_slot hI.ty ztx (qbl ztx hI.ty zl2 ?_ (znp _))
 show wpAny _ _ (ret (.ref I)) _ _ s
 exact qad ⟨_,rfl,rvT,_,hI.ty,zmv.lookup,h⟩
end
variable {Q:Env->Shared->Prop}{l:List Env}{x:V}{xs:List Addr}
section
open PySem PyProof.Rows
def Kept(wr:List Addr)(s s':Shared):Prop:=(∀b o,b∉wr->s.heap.get? b=some o->s'.heap.get? b=some o)/\s'.gens=s.gens/\s'.os=s.os
noncomputable def itc:Value->Bool
 |.type t=>["list_iterator","tuple_iterator","range_iterator","longrange_iterator","str_iterator","str_ascii_iterator","enumerate","zip","list_reverseiterator"].contains t
 |_=>false
theorem itc_hid(h:itc v=true):hid v=true:=by
 cases v with
 |type t=>exact List.contains_iff_mem.mpr (.tail _ (.tail _ (.tail _ (List.contains_iff_mem.mp h))))
 |_=>injection h
theorem zja{w:Value}(h:itc v=true)(hw:itc w=false):v≠w:=fun q=>by rw[q,hw] at h;injection h
theorem itN(h:itc (tabO ps).cls=true):False:=nomatch h
inductive ItAt(c:Cx)(φ:List Addr)(h:Heap)(b:Addr):Prop
 |mk (h1:b∉φ)(h2:c.h0.get? b=none)(o:Obj)(h3:h.get? b=some o)(h4:itc o.cls=true)(h5:∀es n,o.data≠.dict es n):ItAt c φ h b
theorem ItAt.out(q:ItAt c φ h b):b∉φ/\c.h0.get? b=none:=let⟨h1,h2,_,_,_,_⟩:=q;⟨h1,h2⟩
def Its(c:Cx)(wr φ:List Addr)(h:Heap):Prop:=∀b∈wr,ItAt c φ h b
theorem Kept.kp(h:Kept wr s s')(x:Its c wr φ s.heap):Kp wr φ s.heap φ s'.heap:=
 ⟨zbz,fun b o hb J hX J=>h.1 b o hX hb,fun J h=>.inl h,fun b o es n hb J hd=>⟨o,es,n,h.1 b o (fun hw=>by
  obtain⟨_,_,o',h1,_,h2⟩:=x b hw
  replace h1:=zaa (hb.symm.trans h1);subst h1;exact h2 _ _ hd) hb,hd,.rfl⟩,fun b o vs C hb J hc hd=>⟨vs,by
  rw[<- hd]
  refine h.1 b o (fun hw=>?_) hb
  obtain⟨_,_,o',h1,h2,_⟩:=x b hw
  replace h1:=zaa (hb.symm.trans h1);subst h1;rw[hc] at h2;injection h2⟩⟩
theorem Its.own(x:Its c wr φ h):OwnX c wr h:=fun b hb o ho=>by
 obtain⟨_,_,o',h1,h2,_⟩:=x b hb
 replace h1:=zaa (ho.symm.trans h1);subst h1;exact .inl (itc_hid h2)
theorem Its.kp(x:Its c wr φ h)(e:Kp X φ h φ' h')(hX:∀b∈wr,b∉X):Its c wr φ' h':=fun b hb=>by
 obtain⟨h1,h2,o,h3,h4,h5⟩:=x b hb
 exact⟨e.notin h3 h1,h2,o,e.keep b o h3 h1 (hX b hb) (fix_ne (zja h4 rfl) (zja h4 rfl)),h4,h5⟩
theorem Sim.kept(S:Sim c φ H s)(h:Kept wr s s')(x:Its c wr φ s.heap):Sim c φ H s':=
 S.mono (h.kp x) x.own (fun b hb=>(x b hb).out.2) (fun a ha o ho=>h.1 a o (fun hw=>(x a hw).out.1 ha) ho) (fun b o hb J=>h.1 b o (fun hw=>by exact no1 (((x b hw).out.2).symm.trans hb)) (S.stays b o hb)) (h.2.1.trans S.gens) fun b J hb=>h.1 b _ (fun hw=>by obtain⟨_,_,o1,h1,h2,_⟩:=x b hw;replace h1:=zaa (hb.symm.trans h1);subst h1;exact itN h2) hb
theorem Ext.kept(e:Ext X φ s φ₁ s₁)(h:Kept wr s₁ s₂)(hn:∀b∈wr,s.heap.get? b=none):Ext X φ s φ₁ s₂:=
 have out:∀{b o},s.heap.get? b=some o->b∉wr:=fun hb q=>by exact no1 ((hn _ q).symm.trans hb)
 { pre:=e.pre
   keep:=fun b o hb hφ hX hc=>h.1 b o (out hb) (e.keep b o hb hφ hX hc)
   new:=e.new
   frame:=fun b o hb hφ hX hc=>let⟨sl,h₁⟩:=e.frame b o hb hφ hX hc;⟨sl,h.1 b _ (out hb) h₁⟩
   tabs:=fun b o hb hφ hX hc=>let⟨o',h₁,c₁⟩:=e.tabs b o hb hφ hX hc;⟨o',h.1 b _ (out hb) h₁,c₁⟩
   dict:=fun b o es n hb hφ hd=>let⟨o₁,es₁,n₁,h₁,d₁⟩:=e.dict b o es n hb hφ hd;⟨o₁,es₁,n₁,h.1 b _ (out hb) h₁,d₁⟩
   exc:=fun b o vs C hb hφ hc hd=>let⟨vs₁,h₁⟩:=e.exc b o vs C hb hφ hc hd;⟨vs₁,h.1 b _ (out hb) h₁⟩
   alive:=fun b o hb hX=>let⟨o',h'⟩:=e.alive b o hb hX;⟨o',h.1 b o' (out hb) h'⟩
   os:=h.2.2.trans e.os }
def Nexts(c:Cx)(A:Around)(it:Value)(tg:Expr)(wr:List Addr)(s:Shared)(P:Heap->Value->Prop)(E:Value->Shared->Prop)(r:Option Value)(s₁:Shared):Prop:=∀GJ:Prop,(∀(v:Value),(r=some v)->(wpAny (model c.prog c.w) A (letOwnedTupleGo tg it v) (fun J s₂=>Kept wr s s₂/\P s₂.heap v) E s₁)->GJ)->GJ
structure Itr(c:Cx)(A:Around)(it:Value)(tg:Expr)(wr:List Addr)(items:List V)(ok:Hp->Prop)(St:Nat->List Addr->Heap->Prop):Prop where
 seen:∀i φ h,St i φ h->Its c wr φ h
 frame:∀i X φ φ' h h',St i φ h->Kp X φ h φ' h'->OwnX c X h->(∀b∈wr,b∉X)->St i φ' h'
 item:∀i x φ H s E,items[i]?=some x->St i φ s.heap->Sim c φ H s->ok H->
  wpAny (model c.prog c.w) A (pyNext it) (Nexts c A it tg wr s (fun h v=>St (i+1) φ h/\Rep c φ h x v) E) E s
 done:∀φ H s E,St items.length φ s.heap->Sim c φ H s->ok H->wpAny (model c.prog c.w) A (pyNext it) (fun r s₁=>r=none/\Kept wr s s₁) E s
 self:∀i φ s Q E,St i φ s.heap->Q it s->wpAny (model c.prog c.w) A (pyIter it) Q E s
theorem zm7{t:Nat}(hs:qa4 I s.heap h'):Kept [I] s { s with heap:=h',toks:=t }:=
 ⟨fun b o hb ho=>(hs.2 b (by simpa using hb)).trans ho,rfl,rfl⟩
theorem zix{t:Nat}(hs:Heap.ExtBut I s.heap h'):Kept [I] s { s with heap:=h',toks:=t }:=
 ⟨fun b o hb ho=>hs b o (by simpa using hb) ho,rfl,rfl⟩
theorem zkm{Q:Unit->Shared->Prop}(ho:s.heap.get? I=some o)(hc:o.cls=.type t)(ht:["enumerate","zip","dict_itemiterator","dict_reverseitemiterator","odict_iterator","itertools.zip_longest","itertools.pairwise"].contains t=false)
  (h:Q () s):wpAny M A (letOwnedTupleGo tg (.ref I) v) Q E s:=by
 have key:wpAny M A (do
  let(.ref r,.ref a):=(qao I,v) |return
  let o<-load r
  match o.cls,o.data with
  |.type n,.fields vs=>
   if["enumerate","zip","dict_itemiterator","dict_reverseitemiterator","odict_iterator","itertools.zip_longest","itertools.pairwise"].contains n&&vs[0]?==some (rawInt a) then
    rule "for.unpacks-the-owned-tuple"
    updateField r 0 .none
  |_,_=>pure ()) Q E s:=by
  cases v<;>first |exact qad h |skip
  refine qaa (wpAny_load ho ?_)
  rw[hc]
  cases o.data<;>first |exact qad h |skip
  dsimp only
  rw[ht]
  exact qad h
 cases tg<;>first |exact qad h |exact key
inductive OneIt(h:Heap)(I:Addr)(t:String):Prop
 |mk (o:Obj)(h1:h.get? I=some o)(h2:o.cls=.type t)(vs:Array Value)(h3:o.data=.fields vs):OneIt h I t
theorem Its.one(hφ:I∉φ)(h0:c.h0.get? I=none)(ho:OneIt h I t)(ht:itc (.type t)=true):Its c [I] φ h:=fun b hb=>by
 rw[zaf.mp hb]
 obtain⟨o,h1,h2,vs,h3⟩:=ho
 exact⟨hφ,h0,o,h1,by rw[h2];exact ht,fun es n q=>by rw[h3] at q;injection q⟩
theorem Its.keepOne(x:Its c [I] φ h)(e:Kp X φ h φ' h')(hX:∀b∈[I],b∉X)(ho:h.get? I=some o):h'.get? I=some o:=by
 obtain⟨h1,_,o',h3,h4,_⟩:=x I zad
 obtain rfl:=zaa (ho.symm.trans h3)
 exact e.keep I o ho h1 (hX I zad) (fix_ne (zja h4 rfl) (zja h4 rfl))
theorem zi4{P:Heap->Prop}(its:Its c [I] φ s.heap)(hs:qa4 I s.heap h')(ho:OneIt h' I t)(ht:["enumerate","zip","dict_itemiterator","dict_reverseitemiterator","odict_iterator","itertools.zip_longest","itertools.pairwise"].contains t=false)
  (hP:P h') (R:Rep c φ s.heap x v):Nexts c A (.ref I) tg [I] s (fun h v=>P h/\Rep c φ h x v) E (some v) { s with heap:=h',toks:=tk }:=by
 obtain⟨o,h1,h2,_,_⟩:=ho
 have k:=zm7 (t:=tk) hs
 exact(fun J kJ=>kJ v rfl (zkm h1 h2 ht ⟨k,hP,Rep.mono (k.kp its) its.own R⟩))
inductive LIt(φ:List Addr)(h:Heap)(I a:Addr)(j i:Nat):Prop
 |mk (it:h.IsListIter I a i)(ha:φ[j]?=some a)(hI:I∉φ):LIt φ h I a j i
theorem LIt.one(q:LIt φ h I a j i):OneIt h I "list_iterator":=let⟨⟨o,h1,h2,h3⟩,_,_⟩:=q;⟨o,h1,h2,_,h3⟩
theorem LIt.its(h0:c.h0.get? I=none)(q:LIt φ h I a j i):Its c [I] φ h:=Its.one (let⟨_,_,h⟩:=q;h) h0 q.one rfl
theorem itr_list(hh:A.handled=none)(h0:c.h0.get? I=none) :
  Itr c A (.ref I) tg [I] items (fun H=>H[j]?=some items) (fun i φ h=>LIt φ h I a j i) where
 seen i φ h st:=st.its h0
 frame i X φ φ' h h' st e hX hw:=by
  have it:=st.its h0
  obtain⟨⟨o,ho,r⟩,h2,h3⟩:=st
  exact⟨⟨o,it.keepOne e hw ho,r⟩,zff e.pre h2,e.notin ho h3⟩
 item i x φ H s E hx st S hok:=by
  have it:=st.its h0
  obtain⟨st1,ha,hI⟩:=st
  refine(S.lists j items hok) _ fun b o vs n h1 h2 h3 h4 h5 J=>?_
  obtain rfl:=zaa (ha.symm.trans h1)
  refine(RepL.get h5 hx) _ fun v hv hr=>?_
  exact wpAny_pyNext_list_item st1 ⟨o,h2,h3,n,h4⟩ (x:=v) (zig hv) fun h' hit hs=>zi4 (tk:=s.toks) it hs (LIt.one ⟨hit,ha,hI⟩) (by decide) ⟨hit,ha,hI⟩ hr
 done φ H s E st S hok:=by
  obtain⟨st1,ha,hI⟩:=st
  refine(S.lists j items hok) _ fun b o vs n h1 h2 h3 h4 h5 J=>?_
  obtain rfl:=zaa (ha.symm.trans h1)
  refine wpAny_pyNext_list_end hh st1 ⟨o,h2,h3,n,h4⟩ ?_ fun h' hs=>⟨rfl,zix hs⟩
  rw[<- RepL.length h5,zbj];exact Array.getElem?_eq_none (zae _)
 self i φ s Q E st hq:=let⟨h,_,_⟩:=st;wpAny_pyIter_listiter h hq
inductive TIt(c:Cx)(φ:List Addr)(h:Heap)(I:Addr)(r:Value)(items:List V)(i:Nat):Prop
 |mk (a:Addr)(hr:r=.ref a)(it:h.IsTupleIter I a i)(R:Rep c φ h (.tup items) r)(hI:I∉φ):TIt c φ h I r items i
theorem TIt.its(h0:c.h0.get? I=none)(q:TIt c φ h I r items i):Its c [I] φ h:=let⟨_,_,⟨o,h1,h2,h3⟩,_,h4⟩:=q;Its.one h4 h0 ⟨o,h1,h2,_,h3⟩ rfl
theorem ztj(hh:A.handled=none)(h0:c.h0.get? I=none) :
  Itr c A (.ref I) tg [I] items (fun J=>True) (fun i φ h=>TIt c φ h I r items i) where
 seen i φ h st:=st.its h0
 frame i X φ φ' h h' st e hX hw:=by
  have it:=st.its h0
  obtain⟨a,hr,⟨o,h1,h2,h3⟩,h4,h5⟩:=st
  exact⟨a,hr,⟨o,it.keepOne e hw h1,h2,h3⟩,Rep.mono e hX h4,e.notin h1 h5⟩
 item i x φ H s E hx st S hok:=by
  have its:=st.its h0
  obtain⟨a,hr,hit,hR,hI⟩:=st
  have hR':=hR
  obtain⟨a',o,vs,n,rfl,ha,ho,hc,hd,hz,hl⟩:=hR
  (injection hr with Ja;subst Ja)
  refine(RepL.get hl hx) _ fun v hv hrv=>?_
  exact wpAny_pyNext_tuple_item hit ⟨o,ho,hc,n,hd⟩ (x:=v) (zig hv) fun h' hit' hs=>zi4 (tk:=s.toks) its hs (let⟨o,h1,h2,h3⟩:=hit';⟨o,h1,h2,_,h3⟩) (by decide) ⟨_,rfl,hit',Rep.mono ((zm7 (t:=s.toks) hs).kp its) its.own hR',hI⟩ hrv
 done φ H s E st S hok:=by
  obtain⟨a,hr,hit,hR,hI⟩:=st
  obtain⟨a',o,vs,n,rfl,ha,ho,hc,hd,hz,hl⟩:=hR
  (injection hr with Ja;subst Ja)
  refine wpAny_pyNext_tuple_end hh hit ⟨o,ho,hc,n,hd⟩ ?_ fun h' hs=>⟨rfl,zix hs⟩
  rw[<- RepL.length hl,zbj];exact Array.getElem?_eq_none (zae _)
 self i φ s Q E st hq:=let⟨_,_,h,_,_⟩:=st;wpAny_pyIter_tupleiter h hq
inductive RIt(φ:List Addr)(h:Heap)(I:Addr)(lo st:Int)(n i:Nat):Prop
 |mk (hi:i<=n)(it:IsRangeIter h I (lo+(i:Int)*st) ((n:Int)-i) st)(hI:I∉φ):RIt φ h I lo st n i
theorem RIt.its(h0:c.h0.get? I=none)(q:RIt φ h I lo st n i):Its c [I] φ h:=let⟨_,h1,h2⟩:=q;Its.one (t:="range_iterator") h2 h0 ⟨_,h1,rfl,_,rfl⟩ rfl
theorem zur(hh:A.handled=none)(h0:c.h0.get? I=none) :
  Itr c A (.ref I) tg [I] ((List.range n).map fun(i:Nat)=>V.int (lo+(i:Int)*st)) (fun J=>True) (fun i φ h=>RIt φ h I lo st n i) where
 seen i φ h q:=q.its h0
 frame i X φ φ' h h' q e hX hw:=by
  have it:=q.its h0
  obtain⟨q1,q2,q3⟩:=q
  exact⟨q1,it.keepOne e hw q2,e.notin q2 q3⟩
 item i x φ H s E hx q S hok:=by
  have its:=q.its h0
  obtain⟨_,q2,q3⟩:=q
  have hi:i<n:=by
   have:=(zbn.mp hx).1
   rw[zab,zas] at this;exact this
  rw[zal,zbs hi] at hx
  obtain rfl:=zaa hx
  refine wpAny_pyNext_range_item q2 (by exact ar1 [_,_] [] kaa (Y4 J0 (Y2 (Y4 V0 J0) (Y4 V1 J0))) (Y1 V1 V0) hi) fun h' hit hs=>zi4 its hs ⟨_,hit,rfl,_,rfl⟩ (by decide) ⟨hi,?_,q3⟩ rI
  have e1:lo+((i+1:Nat):Int)*st=lo+(i:Int)*st+st:=by rw[Int.natCast_succ,Int.add_mul,Int.one_mul,Int.add_assoc]
  have e2:(n:Int)-((i+1:Nat):Int)=(n:Int)-i-1:=by exact ar0 [_,_] [] kac (Y5 (Y2 (Y4 V0 J0) (Y4 (Y0 V1 J1) J0)) (Y2 (Y2 (Y4 V0 J0) (Y4 V1 J0)) J1))
  rw[e1,e2];exact hit
 done φ H s E q S hok:=by
  rw[zab,zas] at q
  obtain⟨_,q2,_⟩:=q
  exact wpAny_pyNext_range_end hh q2 (by exact ar0 [_] [] 171801870336 (Y3 (Y2 (Y4 V0 J0) (Y4 V0 J0)) J0)) fun h' hs=>⟨rfl,zix hs⟩
 self i φ s Q E q hq:=let⟨_,h,_⟩:=q;wpAny_pyIter_rangeiter h hq
inductive VIt(φ:List Addr)(h:Heap)(I a:Addr)(j n i:Nat):Prop
 |mk (it:RvAt h I a ((n:Int)-1-i))(ha:φ[j]?=some a)(hI:I∉φ):VIt φ h I a j n i
theorem VIt.its(h0:c.h0.get? I=none)(q:VIt φ h I a j n i):Its c [I] φ h:=let⟨⟨o,h1,h2,h3⟩,_,h4⟩:=q;Its.one h4 h0 ⟨o,h1,h2,_,h3⟩ rfl
theorem itr_rev(hh:A.handled=none)(h0:c.h0.get? I=none) :
  Itr c A (.ref I) tg [I] items.reverse (fun H=>H[j]?=some items) (fun i φ h=>VIt φ h I a j items.length i) where
 seen i φ h st:=st.its h0
 frame i X φ φ' h h' st e hX hw:=by
  have it:=st.its h0
  obtain⟨⟨o,ho,r1,r2⟩,h2,h3⟩:=st
  exact⟨⟨o,it.keepOne e hw ho,r1,r2⟩,zff e.pre h2,e.notin ho h3⟩
 item i x φ H s E hx st S hok:=by
  have its:=st.its h0
  obtain⟨st1,ha,hI⟩:=st
  refine(S.lists j items hok) _ fun b o vs n h1 h2 h3 h4 h5 J=>?_
  obtain rfl:=zaa (ha.symm.trans h1)
  have hi:i<items.length:=by have:=(zbn.mp hx).1;rw[List.length_reverse] at this;exact this
  rw[List.getElem?_reverse hi] at hx
  refine(RepL.get h5 hx) _ fun v hv hr=>?_
  have e0:(items.length:Int)-1-i=((items.length-1-i:Nat):Int):=by exact ar1 [_,_] [] 0x618ca528003080c01840400c20080a100025084a100023410a528003081001840600c20080001a085294a000c206006102803080e01840100005294001840800c202006100005080012842508001 (Y5 (Y2 (Y2 (Y4 V0 J0) J1) (Y4 V1 J0)) (Y4 (Y2 (Y2 V0 J1) V1) J0)) (Y1 V1 V0) hi
  rw[e0] at st1
  refine rv_item st1 ⟨o,h2,h3,n,h4⟩ (zig hv) fun h' hit hs=>zi4 (t:=rvT) (tk:=s.toks) its hs (let⟨o,h1,h2,h3⟩:=hit;⟨o,h1,h2,_,h3⟩) (by decide) ⟨?_,ha,hI⟩ hr
  have:(items.length:Int)-1-((i+1:Nat):Int)=((items.length-1-i:Nat):Int)-1:=by exact ar1 [_,_] [] kad (Y5 (Y2 (Y2 (Y4 V0 J0) J1) (Y4 (Y0 V1 J1) J0)) (Y2 (Y4 (Y2 (Y2 V0 J1) V1) J0) J1)) (Y5 (Y2 (Y2 (Y4 V0 J0) J1) (Y4 V1 J0)) (Y4 (Y2 (Y2 V0 J1) V1) J0)) e0
  rw[this];exact hit
 done φ H s E st S hok:=by
  rw[List.length_reverse] at st
  obtain⟨st1,_,_⟩:=st
  have:(items.length:Int)-1-(items.length:Int) = -1:=by exact ar0 [_] [] kac (Y5 (Y2 (Y2 (Y4 V0 J0) J1) (Y4 V0 J0)) (Y3 J1 J0))
  rw[this] at st1
  exact rv_done hh st1 fun h' hs=>⟨rfl,zix hs⟩
 self i φ s Q E st hq:=let⟨h,_,_⟩:=st;zvo h hq
theorem zod:∀{i:Nat}{n:Int}{x:V},(zfk n items)[i]?=some x->∃v,items[i]?=some v/\x=.tup [.int (n+i),v]:=by
 induction items with
 |nil=>exact fun h=>nomatch h
 |cons y ys ih=>
  intro i n x h
  cases i with
  |zero=>obtain rfl:=zaa h;exact⟨y,rfl,by rw[show n+((0:Nat):Int)=n from Int.add_zero n]⟩
  |succ i=>
   obtain⟨v,h1,h2⟩:=ih (n:=n+1) (i:=i) h
   exact⟨v,h1,by rw[h2,Int.add_assoc,Int.add_comm 1];rfl⟩
theorem zj3:∀{n:Int},(zfk n items).length=items.length:=by
 induction items with
 |nil=>intro n;rfl
 |cons y ys ih=>exact fun{n}=>congrArg (· + 1) (ih (n:=n+1))
inductive EIt(φ:List Addr)(h:Heap)(e I a:Addr)(j i:Nat):Prop
 |mk (old:Value)(he:IsEnum h e I (i:Int) old)(it:h.IsListIter I a i)(ha:φ[j]?=some a)(hI:I∉φ)(hE:e∉φ):EIt φ h e I a j i
theorem EIt.its(h0:c.h0.get? I=none)(h0':c.h0.get? e=none)(q:EIt φ h e I a j i):Its c [e,I] φ h:=fun b hb=>by
 obtain⟨old,he,⟨o,h1,h2,hd⟩,h3,h4,h5⟩:=q
 rcases zah.mp hb with rfl |hb
 ·exact⟨h5,h0',_,he,rfl,fun es n q=>by injection q⟩
 ·rw[zaf.mp hb]
  exact⟨h4,h0,o,h1,by rw[h2];rfl,fun es n q=>by rw[hd] at q;injection q⟩
theorem itr_enum(hh:A.handled=none) {x1}(h0:c.h0.get? I=none)(h0':c.h0.get? e=none)(hne:e≠I) :
  Itr c A (.ref e) (.Tuple es x1 pos) [e,I] (zfk 0 items) (fun H=>H[j]?=some items) (fun i φ h=>EIt φ h e I a j i) where
 seen i φ h st:=st.its h0 h0'
 frame i X φ φ' h h' st k hX hw:=by
  obtain⟨old,he,⟨o,h1,h2,hd⟩,h3,h4,h5⟩:=st
  exact⟨old,k.keep e _ he h5 (hw e zad) rfl,⟨o,k.keep I o h1 h4 (hw I (zag _ zad)) (by rw[h2];decide),h2,hd⟩,zff k.pre h3,k.notin h1 h4,k.notin he h5⟩
 item i x φ H s E hx st S hok:=by
  have its:=st.its h0 h0'
  obtain⟨old,he,hit,h3,h4,h5⟩:=st
  refine(S.lists j items hok) _ fun b o vs n h1 h2 h3' h4' h5' J=>?_
  obtain rfl:=zaa (h3.symm.trans h1)
  obtain⟨v0,hv0,rfl⟩:=zod hx
  refine(RepL.get h5' hv0) _ fun v hv hr=>?_
  refine wpAny_pyNext_enum_item he hit ⟨o,h2,h3',n,h4'⟩ (x:=v) (zig hv) hne fun h' heo hit' ht hz hk=>(fun J kJ=>kJ _ rfl ?_)
  refine wpAny_letOwnedTupleGo_enum heo fun h'' he'' hs''=>?_
  have heT:e≠s.heap.objs.size:=zar (qa5 he)
  have kept:Kept [e,I] s { s with heap:=h'',toks:=s.toks+1 }:=
   ⟨fun b o hb ho=>(hs''.2 b (fun q=>hb (by rw[q];exact zad))).trans (hk b o (fun q=>hb (by rw[q];exact zad)) (fun q=>hb (by rw[q];exact zag _ zad)) ho),rfl,rfl⟩
  refine⟨kept,⟨_,he'',hit'.extBut hs''.extBut (qax hne),h3,h4,h5⟩,?_⟩
  exact TupAt.mk s.heap.objs.size _ _ _ rfl S.new ((hs''.2 _ (qax heT)).trans ht) rfl rfl (by show 2<=qag;decide) ⟨⟨s.toks,by rw[Int.zero_add]⟩,Rep.mono (kept.kp its) its.own hr,rfl⟩
 done φ H s E st S hok:=by
  obtain⟨old,he,hit,h3,h4,h5⟩:=st
  refine(S.lists j items hok) _ fun b o vs n h1 h2 h3' h4' h5' J=>?_
  obtain rfl:=zaa (h3.symm.trans h1)
  rw[zj3] at he hit
  refine wpAny_pyNext_enum_end hh he hit ⟨o,h2,h3',n,h4'⟩ ?_ fun h' hs=>⟨rfl,fun b o hb ho=>hs b o (fun q=>hb (by rw[q];exact zag _ zad)) ho,rfl,rfl⟩
  rw[<- RepL.length h5',zbj];exact Array.getElem?_eq_none (zae _)
 self i φ s Q E st hq:=let⟨_,he,_,_,_,_⟩:=st;wpAny_pyIter_enum he hq
end
variable {e:Expr}{n x:Str}{ps:List Str}{st:Stmt}{t:Nat}{tk:Tok}
section
open PySem PyProof.Rows
theorem zw5{es:List qbk}(hk:∀e∈es,∃n t,e.key=.str n t)(hi:es.findIdx? (fun e=>e.key.isStr n)=none):n∉es.map fun e=>keyS e.key:=fun hm=>by
 revert hm;refine xL fun e he wj=>?_;subst wj
 have h:=List.findIdx?_eq_none_iff.mp hi e he
 obtain⟨x,t,q⟩:=hk e he
 rw[q] at h
 exact absurd (show(x==x)=true from beq_self_eq_true _) (by rw[show(x==x)=false from h];exact Bool.false_ne_true)
theorem zj0(hf:∀e,(f e).key=e.key):∀(es:List qbk)(i:Nat),(es.modify i f).map (fun e=>keyS e.key)=es.map fun e=>keyS e.key
 |[],_=>by rw[List.modify_nil]
 |e::es,0=>by rw[List.modify_zero_cons,za5,za5,hf]
 |e::es,i+1=>by rw[List.modify_succ_cons,za5,za5,zj0 hf es i]
theorem zwp(M:Model)(Γ:Ctx)(E:Value->Pos->Shared->Prop)(p:Pos)(s:Shared) {m}(hn:s.heap.Ns a m)(hoo:s.heap.get? a=some o)(name:Str)(v:Value)(Q:Unit->Pos->Shared->Prop)
  (hQ:∀h',h'.Ns a (fun x=>if x=name then some v else m x)->qa4 a s.heap h'->(∃o',h'.get? a=some o'/\DKo o o')->
   Q () p { s with heap:=h',toks:=s.toks+1 }):Sem.wp M Γ (nsSet a name v) Q E p s:=by
 obtain⟨o1,es,ep,ho,hd,hk,hm⟩:=hn
 replace ho:=zaa (hoo.symm.trans ho);subst ho
 have ho:=hoo
 simp only[nsSet,strHash,Sem.wp_bind',Sem.wp_cmd_ask,Sem.wp_pure',Sem.wp_cmd_mkText]
 rw[Sem.wp_loadPart_of M Γ E p { s with toks:=s.toks+1 } (o:=o) _ ho]
 have hany:es.any (·.refKey)=false:=by
  rw[Array.any_eq_false'];intro e he;obtain⟨n,t,h⟩:=hk e he;simp[DictEntry.refKey,h]
 simp only[hd,aRefKeyMayBeTheName_eq,aRefKeyMayBeTheNameByArray,hany,Bool.and_false,zbk,if_false,Sem.wp_cmd_updatePart]
 refine⟨by rw[ho];rfl,hQ _ ?_ (qa1 ..) ?_⟩
 ·obtain⟨c,d,dt,sl⟩:=o
  subst hd
  refine xC (es.findIdx? (·.key.isStr name)) (fun hi=>?_) fun i hi=>?_
  ·refine⟨_,_,ep+1,qam _ ho (by simp only[qa7,qay,hi];rfl),by simp only[qa7,qay,hi];rfl,hk.push _ _ _ _,fun x=>?_⟩
   show _=if x=name then some v else m x
   rw[<- hm]
   exact findBy_push (fun n v=>v.isStr n) es name x _ _ v (fun y=>by
    show(name==y)=decide (y=name)
    by_cases h:y=name
    ·subst h;simp
    ·have:¬name=y:=fun e=>h e.symm
     simp[h,this]) hi
  ·refine⟨_,_,ep,qam _ ho (by simp only[qa7,qay,hi];rfl),by simp only[qa7,qay,hi];rfl,hk.modify _ _,fun x=>?_⟩
   show _=if x=name then some v else m x
   rw[<- hm];exact findBy_modify (fun n v=>v.isStr n) Value.isStr_inj es name x v i hi
 ·obtain⟨c,d,dt,sl⟩:=o
  subst hd
  refine xC (es.findIdx? (·.key.isStr name)) (fun hi=>?_) fun i hi=>?_
  ·refine⟨_,qam _ ho (by simp only[qa7,qay,hi];rfl),?_⟩
   simp only[qa7,qay,hi]
   refine .mk rfl fun es1 n es' n' q1 q2 g=>?_
   (injection q1 with Ja Jb;subst Jb;subst Ja);(injection q2 with Ja Jb;subst Jb;subst Ja)
   obtain⟨l⟩:=es
   refine⟨g.1.push _ _ _ _,?_⟩
   rw[Array.toList_push,zan]
   exact zb3.mpr ⟨g.2,zbw.mpr ⟨zbd,zbx⟩,fun x hx y hy e=>zw5 (n:=name) (fun e he=>hk e (List.mem_toArray.mpr he)) (by rw[List.findIdx?_toArray] at hi;exact hi) (by rw[zaf.mp hy] at e;rw[show x=name from e] at hx;exact hx)⟩
  ·refine⟨_,qam _ ho (by simp only[qa7,qay,hi];rfl),?_⟩
   simp only[qa7,qay,hi]
   refine .mk rfl fun es1 n es' n' q1 q2 g=>?_
   (injection q1 with Ja Jb;subst Jb;subst Ja);(injection q2 with Ja Jb;subst Jb;subst Ja)
   exact⟨g.1.modify _ _,by rw[Array.toList_modify,zj0 (f:=fun e=>{ e with val:=v }) fun J=>rfl];exact g.2⟩
theorem zgp{m}{Q:Unit->Shared->Prop}(hl:wz.kindOf name=some .local)(hf:wz.scope.kind=.function)
  (hn:s.heap.Ns wz.locals m) (ho:s.heap.get? wz.locals=some o)
  (h:∀h',h'.Ns wz.locals (fun x=>if x=name then some v else m x)->qa4 wz.locals s.heap h'->(∃o',h'.get? wz.locals=some o'/\DKo o o')->Q () { s with heap:=h',toks:=s.toks+1 }):wpAny M A (storeName wz name v) Q E s:=by
 rw[storeName_local hl (by rw[hf];rfl)]
 exact fun Γ p J=>zwp M Γ _ p s hn ho name v _ h
theorem zup{r:Option Value}{Q:Unit->Shared->Prop}(hf:wz.scope.kind=.function)(hl:wz.kindOf name=some .cell)
  (hc:wz.cells.lookup name=some ca) (ho:s.heap.get? ca=some o) (hd:o.data=.cell r)
  (h:∀h',h'.get? ca=some { o with data:=.cell (some v) }->qa4 ca s.heap h'->Q () { s with heap:=h' }):wpAny M A (storeName wz name v) Q E s:=by
 unfold storeName
 rw[hl,hf]
 change wpAny M A (cellOf wz name >>=_) Q E s
 refine qaa (wpAny_cellOf hc ?_)
 unfold cellSet
 refine qaa (wpAny_load ho ?_)
 rw[hd]
 exact wpAny_update ho (h _ (qam _ ho rfl) (qa1 ..))
theorem zjr(F:FSim c wz wu k loc φ s.heap)(ho:s.heap.get? wz.locals=some o):own c wz.locals o:=by
 obtain⟨m,⟨⟨o1,es,ep,h1,h2,_,h3⟩,o2,h4,h5⟩,_,_⟩:=F.ns
 obtain rfl:=zaa (ho.symm.trans h1)
 obtain rfl:=zaa (ho.symm.trans h4)
 rcases h5 with h5 |h5
 ·exact .inl (by rw[h5.1];decide)
 ·exact .inr (.inr (.inl ⟨h5.1,es,ep,h2,(h3 _).trans h5.2.1⟩))
theorem zlj(F:FSim c wz wu k loc φ s.heap)(hx:wz.cells.lookup x=some ca)(ho:s.heap.get? ca=some o):own c ca o:=by
 obtain⟨_,_,o',h1,h2⟩:=F.cells x ca hx
 obtain rfl:=zaa (ho.symm.trans h1)
 exact .inl (by rw[h2];decide)
theorem zoi{o:Option V}(h:i<loc.length):(loc.set i o).getD i none=o:=by rw[zao,zbv h];rfl
theorem zms{o:Option V}(h:j≠i):(loc.set i o).getD j none=loc.getD j none:=by rw[zao,zb0 (qax h),zao]
theorem zkw(keep:∀b o,b≠a->s.heap.get? b=some o->h'.get? b=some o)
  (hd:∀o es n,s.heap.get? a=some o->o.data=.dict es n->∃o' es' n',h'.get? a=some o'/\o'.data=.dict es' n'/\DKo o o') (hx:∀o vs,s.heap.get? a=some o->o.data≠.fields vs):Kp [a] φ s.heap φ h' where
 pre:=zbz
 keep b o hb _ hX _:=keep b o (fun e=>hX (by rw[e];exact zad)) hb
 new _ h:=.inl h
 dict b o es n hb _ hdd:=by
  by_cases e:b=a
  ·subst e;exact hd o es n hb hdd
  ·exact⟨o,es,n,keep b o e hb,hdd,.rfl⟩
 exc b o vs _ hb _ _ hdd:=by
  by_cases e:b=a
  ·subst e;exact absurd hdd (hx o vs hb)
  ·exact⟨vs,by rw[<- hdd];exact keep b o e hb⟩
inductive Stored(c:Cx)(wz:Env)(wu:Res)(k:Clo)(loc:Loc)(φ:List Addr)(H:Hp)(X:List Addr)(s:Shared)(s':Shared):Prop
 |mk (F:FSim c wz wu k loc φ s'.heap)(S:Sim c φ H s')(e:Ext X φ s φ s')(kp:Kept X s s'):Stored c wz wu k loc φ H X s s'
structure SlotPut(wu res':Res)(x:Str)(i:Nat):Prop where
 n:res'.n=wu.n
 fr:res'.fr=wu.fr
 sub:∀y j,res'.lookup y=some j->(y=x/\j=i)\/(y≠x/\wu.lookup y=some j/\j≠i)
 lt:i<wu.n
 nj:x≠zcg
 na:x≠qab "at"\/wu.fr=true
theorem zox(F:FSim c wz wu k loc φ s.heap)(S:Sim c φ H s)(P:SlotPut wu res' x i)(hs':qa4 a s.heap h')
  (hd:∀o es n,s.heap.get? a=some o->o.data=.dict es n->∃o' es' n',h'.get? a=some o'/\o'.data=.dict es' n'/\DKo o o') (hx:∀o vs,s.heap.get? a=some o->o.data≠.fields vs) (hal:∃o,h'.get? a=some o)
  (ow:∀o,s.heap.get? a=some o->own c a o) (ha0:c.h0.get? a=none) (haφ:a∉φ) (haX:a∈X) (room:RoomAt wz res'.fr h' m)
  (sx:zfw c φ h' wz m x ov) (sy:∀y j,y≠x->wu.lookup y=some j->Kp [a] φ s.heap φ h'->OwnX c [a] s.heap->zfw c φ h' wz m y (loc.getD j none))
  (clo:∀kk z,k=some (kk,z)->Kp [a] φ s.heap φ h'->OwnX c [a] s.heap->JoinAt c wz m kk z φ h') (cells:∀y ca,wz.cells.lookup y=some ca->CellAt c φ h' ca) :
  Stored c wz res' k (loc.set i ov) φ H X s { s with heap:=h',toks:=t }:=by
 have keep:∀b o,b≠a->s.heap.get? b=some o->h'.get? b=some o:=fun b o hb ho=>(hs'.2 b hb).trans ho
 have kp:=zkw (φ:=φ) keep hd hx
 have owx:OwnX c [a] s.heap:=fun b hb o ho=>by rw[zaf.mp hb] at ho ⊢;exact ow o ho
 refine⟨⟨F.fn,F.gl,F.bl,⟨m,room,fun y j hy=>?_,fun kk z hz=>clo kk z hz kp owx⟩,by rw[P.n,zbg];exact F.len,F.Lφ,F.L0,cells⟩,?_,?_,fun b o hb ho=>keep b o (fun q=>hb (q▸haX)) ho,rfl,rfl⟩
 ·rcases P.sub y j hy with⟨rfl,rfl⟩|⟨e,hy,hji⟩
  ·rw[zoi (zat P.lt F.len)];exact sx
  ·rw[zms hji];exact sy y j e hy kp owx
 ·exact S.mono (s':={ s with heap:=h',toks:=t }) kp owx (fun b hb=>by rw[zaf.mp hb];exact ha0) (fun b hb o ho=>keep b o (fun q=>haφ (q▸hb)) ho) (fun b o hb J=>keep b o (fun q=>by rw[q,ha0] at hb;injection hb) (S.stays b o hb)) S.gens fun b ps hb=>keep b _ (fun q=>hx _ ps (q▸hb) rfl) hb
 ·exact Ext.of_own (s':={ s with heap:=h',toks:=t }) hs' haX hd hal rfl hx
theorem zo9{v:V}(F:FSim c wz wu k loc φ s.heap)(S:Sim c φ H s)(P:SlotPut wu res' x i)(hXL:wz.locals∈X)(hk:wz.kindOf x=some .local)(R:Rep c φ s.heap v r) :
  wpAny (model c.prog c.w) A (storeName wz x r) (fun J s'=>Stored c wz res' k (loc.set i (some v)) φ H X s s') E s:=by
 obtain⟨m,⟨hn,oL,hoL,hcL⟩,hsl,hjo⟩:=F.ns
 refine zgp hk F.fn hn hoL fun h' hn' hs' hc'=>?_
 obtain⟨o',ho',hcls'⟩:=hc'
 have hnf:∀o vs,s.heap.get? wz.locals=some o->o.data≠.fields vs:=fun o vs ho hd=>by
  obtain⟨o1,es1,n1,h1,h2,_⟩:=hn
  obtain rfl:=zaa (ho.symm.trans h1)
  rw[h2] at hd;injection hd
 have hdd:∀o es n,s.heap.get? wz.locals=some o->o.data=.dict es n->∃o' es' n',h'.get? wz.locals=some o'/\o'.data=.dict es' n'/\DKo o o':=fun o es n ho J=>by
  obtain⟨o1,es1,n1,h1,h2,_⟩:=hn'
  obtain rfl:=zaa (ho'.symm.trans h1)
  obtain rfl:=zaa (hoL.symm.trans ho)
  exact⟨o',es1,n1,ho',h2,hcls'⟩
 have hcL':∀y ca,wz.cells.lookup y=some ca->ca≠wz.locals:=fun y ca hy q=>by
  obtain⟨_,_,o1,h1,h2⟩:=F.cells y ca hy
  rw[q] at h1
  obtain rfl:=zaa (hoL.symm.trans h1)
  rcases hcL with h |h
  ·rw[h2] at h;exact absurd h.1 (by decide)
  ·rw[h2] at h;exact absurd h.1 (by decide)
 have cs:∀z ca,wz.cells.lookup z=some ca->ca∉[wz.locals]/\CellAt c φ s.heap ca:=fun z ca hz=>⟨fun q=>hcL' z ca hz (zaf.mp q),F.cells z ca hz⟩
 have kp:=zkw (φ:=φ) (fun b o hb ho=>(hs'.2 b hb).trans ho) hdd hnf
 have ow:OwnX c [wz.locals] s.heap:=fun b hb o ho=>by rw[zaf.mp hb] at ho ⊢;exact zjr F ho
 refine zox (m:=fun y=>if y=x then some r else m y) F S P hs' hdd hnf ⟨o',ho'⟩ (fun o ho=>zjr F ho) F.L0 F.Lφ hXL ⟨hn',o',ho',?_⟩ ?_ (fun y j hy hj kp ow=>?_) (fun kk z hz kp ow=>?_) fun y ca hy=>?_
 ·rcases hcL with h |h
  ·exact .inl ⟨hcls'.cls.trans h.1,P.fr.trans h.2⟩
  ·refine .inr ⟨hcls'.cls.trans h.1,?_,P.fr.trans h.2.2⟩
   rcases P.na with hat |h2
   ·rw[if_neg (qax hat)];exact h.2.1
   ·rw[h.2.2] at h2;injection h2
 ·unfold zfw
  rw[hk]
  exact .yes v r (if_pos rfl) (Rep.mono kp ow R)
 ·have hsy:=(hsl y j hj).mono (s:=s) (s':={ s with heap:=h' }) kp ow cs
  exact zsf.imp hsy (fun J h=>by show SlotL _ _ _ (if y=x then _ else _) _;rw[if_neg hy];exact h) id
 ·refine(hjo kk z hz) _ fun h3 fv h4 h5=>?_
  exact(fun J kJ=>kJ h3 fv ((if_neg (qax P.nj)).trans h4) (h5.mono (s:=s) (s':={ s with heap:=h' }) kp ow fun ca o ho J hlt q=>absurd (zaf.mp q) (zar hlt)))
 ·obtain⟨h1,h2,o1,h3,h4,h5⟩:=F.cells y ca hy
  exact⟨h1,h2,o1,(hs'.2 ca (hcL' y ca hy)).trans h3,h4,h5⟩
def OwnCell(wz:Env)(X:List Addr)(h:Heap)(x:Str):Prop:=∀GJ:Prop,(∀(ca:Addr),∀(r:Option Value),(wz.cells.lookup x=some ca)->h.IsCell ca r->wz.locals<ca->ca∈X->(∀y,wz.cells.lookup y=some ca->y=x)->GJ)->GJ
theorem zs8{v:V}(F:FSim c wz wu k loc φ s.heap)(S:Sim c φ H s)(P:SlotPut wu res' x i)(hk:wz.kindOf x=some .cell)(hc:OwnCell wz X s.heap x)(R:Rep c φ s.heap v r) :
  wpAny (model c.prog c.w) A (storeName wz x r) (fun J s'=>Stored c wz res' k (loc.set i (some v)) φ H X s s') E s:=by
 obtain⟨m,⟨hn,oL,hoL,hcL⟩,hsl,hjo⟩:=F.ns
 refine hc _ fun ca r0 hca eN1 hlt0 hcX hap=>?_;clear hc;obtain⟨oc,hoc,hdc⟩:=eN1
 obtain⟨hcφ,hc0,oc',hoc',hcc⟩:=F.cells x ca hca
 obtain rfl:=zaa (hoc.symm.trans hoc')
 refine zup F.fn hk hca hoc hdc fun h' ho' hs'=>?_
 have hLc:wz.locals≠ca:=zar hlt0
 have no:∀{P:Prop} o,s.heap.get? ca=some o->(∀r,o.data≠.cell r)->P:=fun o ho h=>by
  obtain rfl:=zaa (hoc.symm.trans ho)
  exact absurd hdc (h _)
 have hdd:∀o es n,s.heap.get? ca=some o->o.data=.dict es n->∃o' es' n',h'.get? ca=some o'/\o'.data=.dict es' n'/\DKo o o':=fun o es n ho hd=>no o ho fun r q=>by rw[hd] at q;injection q
 have hnf:∀o vs,s.heap.get? ca=some o->o.data≠.fields vs:=fun o vs ho hd=>no o ho fun r q=>by rw[hd] at q;injection q
 have kp:=zkw (φ:=φ) (fun b o hb ho=>(hs'.2 b hb).trans ho) hdd hnf
 have ow:OwnX c [ca] s.heap:=fun b hb o ho=>by rw[zaf.mp hb] at ho ⊢;exact zlj F hca ho
 have cell:∀{y cy r},y≠x->wz.cells.lookup y=some cy->s.heap.IsCell cy r->h'.IsCell cy r:=fun{y cy r} e h1 ⟨o1,h2,h2'⟩=>⟨o1,(hs'.2 cy fun q=>e (hap y (q▸h1))).trans h2,h2'⟩
 refine zox (m:=m) (t:=s.toks) F S P hs' hdd hnf ⟨_,ho'⟩ (fun o ho=>zlj F hca ho) hc0 hcφ hcX ⟨hn.sameBut hs' hLc,oL,(hs'.2 _ hLc).trans hoL,P.fr▸hcL⟩ ?_ (fun y j hy hj kp ow=>?_) (fun kk z hz kp ow=>?_) fun y cy hy=>?_
 ·unfold zfw
  rw[hk]
  exact .yes v ca r hca ⟨_,ho',rfl⟩ (Rep.mono kp ow R)
 ·exact zsf.imp (hsl y j hj) (fun J h=>SlotL.mono (s:=s) (s':={ s with heap:=h' }) kp ow h) (SlotC.imp (fun cy ry h1 h2=>cell hy h1 h2) fun v r h=>Rep.mono kp ow h)
 ·refine(hjo kk z hz) _ fun h3 fv h4 h5=>?_
  exact(fun J kJ=>kJ h3 fv h4 (h5.mono (s:=s) (s':={ s with heap:=h' }) kp ow fun cb o ho J hlt q=>absurd (zaf.mp q) (zar (zau hlt hlt0))))
 ·obtain⟨h1,h2,o1,h3,h4,h5⟩:=F.cells y cy hy
  by_cases q:cy=ca
  ·subst q
   obtain rfl:=zaa (hoc.symm.trans h3)
   exact⟨h1,h2,_,ho',h4,_,rfl⟩
  ·exact⟨h1,h2,o1,(hs'.2 cy q).trans h3,h4,h5⟩
end
variable {f:Flow}{t:Tg}{v:V}
section
open PySem PyProof.Rows
def Went(c:Cx)(A:Around)(φ:List Addr)(s:Shared)(tg:Expr)(items:List V)(ok:Hp->Prop)(H:Hp)(it:Value)(s':Shared):Prop:=∀GJ:Prop,(∀(wr:List Addr),∀(St:Nat->List Addr->Heap->Prop),Ext [] φ s φ s'->Sim c φ H s'->Itr c A it tg wr items ok St->St 0 φ s'.heap->(∀b∈wr,s.heap.get? b=none)->GJ)->GJ
theorem zjd{ok:Hp->Prop}{St:Nat->List Addr->Heap->Prop}(S:Sim c φ H s)(hI:I=s.heap.objs.size)(h:Itr c A (.ref I) tg [I] items ok St)(hst:St 0 φ (s.heap.push o)):Went c A φ s tg items ok H (.ref I) { s with heap:=s.heap.push o }:=by
 subst hI
 exact(fun J kJ=>kJ _ _ Ext.push (S.push o) h hst (fun b hb=>by rw[zaf.mp hb];exact qal (zae _)))
theorem zqc(hh:A.handled=none)(S:Sim c φ H s)(R:Rep c φ s.heap v r)(hs:srcV H v=some items) :
  wpAny (model c.prog c.w) A (pyIter r) (Went c A φ s tg items (okV v items) H) E s:=by
 have h0:=S.h0_new (zae s.heap.objs.size)
 cases v with
 |tup l=>
  obtain rfl:=zaa hs
  have R':=R
  obtain⟨a,o,vs,n,rfl,ha,ho,hc,hd,hz,hl⟩:=R
  exact wpAny_pyIter_tuple ⟨o,ho,hc,n,hd⟩ (zjd S rfl (ztj hh (r:=.ref a) h0) ⟨a,rfl,⟨_,qah _ rfl,rfl,rfl⟩,Rep.mono (Ext.push (X:=[]) (s:=s)).toKp OwnX.nil R',S.new⟩)
 |lst j=>
  refine(S.getP R hs) _ fun a vs n wk ha ho J J J=>?_;subst wk
  exact wpAny_pyIter_list (zdi ho) (zjd S rfl (itr_list hh (a:=a) (j:=j) h0) ⟨⟨_,qah _ rfl,rfl,rfl⟩,ha,S.new⟩)
 |rng lo hi st=>
  obtain rfl:=zaa hs
  obtain⟨a,t,u,v,rfl,ha,hr,hb⟩:=R
  refine wpAny_pyIter_range hr (zj8 hb) ?_
  rw[zf6 lo hi st hb.2.2.1]
  have e:zdo lo hi st=(List.range (zdo lo hi st).length).map fun(i:Nat)=>V.int (lo+(i:Int)*st):=by
   rw[zfo];rfl
  generalize(zdo lo hi st).length=n at e ⊢
  rw[e]
  refine zjd S rfl (zur hh (lo:=lo) (st:=st) (n:=n) h0) ⟨zax _,?_,S.new⟩
  have:=qah (h:=s.heap) (o:={ cls:=.type "range_iterator",data:=.fields #[rawInt lo,rawInt (n:Int),rawInt st] }) rfl
  simpa using this
 |_=>injection hs
end
variable {I:Loc->(Bool->Hp->Prop)->Hp->Prop}{r:List (Str×qaf)}
section
open PySem PyProof.Rows
theorem zn7{target:Expr}{scope:Scope}{acc:Value}(I:Nat->Shared->Prop)
  (turn:∀n s,I n s->wpAny (model prog w) A (pyNext it) (fun r s₁=>match r with
   |none=>R (.ok .next) s₁
   |some v=>wpAny (model prog w) A (letOwnedTupleGo target it v) (fun J s₁'=>wpAny (model prog w) A (assign target wz v) (fun J s₂=>
     wpAny (model prog w) A (forIn ifs true fun c r=>if r=true then do let ok<-isTrue c wz (eval c wz);pure (qbg ok) else pure (qbg r)) (fun ok s₃=>
      if ok=true then wpAny (model prog w) A (eval elt wz) (fun x s₄=>
       wpAny (model prog w) A (call (.builtin "list.append") [acc,x]) (fun J s₅=>∃m,m<n/\I m s₅) (fun J J=>False) s₄) (fun J J=>False) s₃
      else ∃m,m<n/\I m s₃) (fun J J=>False) s₂) (fun J J=>False) s₁') (fun J J=>False) s₁) (fun J J=>False) s)
  (n:Nat) (h:I n s) :
  codeAny (model prog w) A (.compLoop (.ListComp elt [⟨target,iter,ifs,0⟩] scope pos) 0 it acc wz) R s:=by
 refine codeAny_loop rfl I (fun n s hI=>?_) n h
 show wpAny _ A ((compTurn (.ListComp elt [⟨target,iter,ifs,0⟩] scope pos) 0 it acc wz).onRaise (fun x=>do noteFrame x wz;theTreesLotGoes x)) _ _ s
 refine wpAny_noted ?_
 rw[compTurn_list]
 refine qaa (qa2 (qaa (qac (turn n s hI) (fun r s₁ h₁=>?_) fun J J h'=>h'.elim)))
 cases r with
 |none=>exact qad h₁
 |some v=>
  refine qaa (qac h₁ (fun J s₁' h₁'=>?_) fun J J h'=>h'.elim)
  refine qaa (qac h₁' (fun J s₂ h₂=>qaa (qac h₂ (fun ok s₃ h₃=>?_) fun J J h'=>h'.elim)) fun J J h'=>h'.elim)
  cases ok with
  |false=>exact qad ⟨rfl,h₃⟩
  |true=>
   exact qaa (qaa (qac h₃ (fun x s₄ h₄=>qaa (qac h₄ (fun J s₅ h₅=>qad (qad ⟨rfl,h₅⟩)) fun J J h'=>h'.elim)) fun J J h'=>h'.elim))
noncomputable def ze2(wz:Env):List (Str×qaf)->List (Str×Addr)->List (Str×Addr)
 |[],acc=>acc
 |(n,k)::r,acc=>if k==.free then ze2 wz r ((n,(wz.cells.lookup n).getD 0)::acc) else ze2 wz r acc
theorem zh3{k:qaf}:ze2 wz ((n,k)::r) acc=if k==.free then ze2 wz r ((n,(wz.cells.lookup n).getD 0)::acc) else ze2 wz r acc:=rfl
theorem zqf(f:Str×qaf->List (Str×Addr)->Sem (ForInStep (List (Str×Addr))))
  (hf:∀n k cs,f (n,k) cs=if k==.free then(do let a<-cellOf wz n;pure (.yield ((n,a)::cs))) else pure (.yield cs)) :
  ∀(names:List (Str×qaf)) (acc:List (Str×Addr)),(∀n,(n,qap)∈names->∃ca,wz.cells.lookup n=some ca)->forIn names acc f=pure (ze2 wz names acc)
 |[],acc,_=>List.forIn_nil
 |(n,k)::r,acc,h=>by
  have ih:=fun acc=>zqf f hf r acc fun n hn=>h n (zag _ hn)
  rw[List.forIn_cons,hf]
  rw[zh3]
  by_cases hk:(k==qap)=true
  ·rw[if_pos hk,if_pos hk]
   have hk':k=.free:=by simpa using hk
   subst hk'
   obtain⟨ca,hca⟩:=h n zad
   simp only[cellOf,hca,Option.getD_some]
   simp only[pure_bind]
   exact ih _
  ·rw[if_neg hk,if_neg hk]
   simp only[pure_bind]
   exact ih _
theorem zlo{scope:Scope}(h:∀n,(n,qap)∈scope.names->∃ca,wz.cells.lookup n=some ca):closureFor scope wz=pure (ze2 wz scope.names []):=by
 unfold closureFor
 have:=zqf (wz:=wz) (fun x r=>match x with
  |(name,kind)=>if(kind==qap)=true then(do let a<-cellOf wz name;pure (.yield ((name,a)::r))) else pure (.yield r)) (fun n k cs=>rfl) scope.names [] h
 simp only[bind_pure] at this ⊢
 exact this
set_option tactic.hygienic true in
theorem zdu:∀{names:List (Str×qaf)} {acc:List (Str×Addr)} {x:Str} {ca:Addr},(ze2 wz names acc).lookup x=some ca ->
  acc.lookup x=some ca\/((x,qap)∈names/\ca=(wz.cells.lookup x).getD 0)
 |[],acc,x,ca,h=>.inl h
 |(n,k)::r,acc,x,ca,h=>by
  rw[zh3] at h
  split at h
  ·rename_i hk
   have hk':k=.free:=by simpa using hk
   subst hk'
   rcases zdu h with h |h
   ·rw[zav] at h
    refine xD (x==n) (fun hb=>?_) fun hb=>?_
    ·rw[hb] at h
     have:=beq_iff_eq.mp hb;subst this
     (injection h with Ja;subst Ja)
     exact .inr ⟨zad,rfl⟩
    ·rw[hb] at h;exact .inl h
   ·exact .inr ⟨zag _ h.1,h.2⟩
  ·rcases zdu h with h |h
   ·exact .inl h
   ·exact .inr ⟨zag _ h.1,h.2⟩
set_option tactic.hygienic true in
theorem zh4:∀{names:List (Str×qaf)} {acc:List (Str×Addr)} {x:Str},((x,qap)∈names\/(acc.lookup x).isSome)->((ze2 wz names acc).lookup x).isSome
 |[],acc,x,h=>by
  rcases h with h |h
  ·cases h
  ·exact h
 |(n,k)::r,acc,x,h=>by
  rw[zh3]
  split
  ·rename_i hk
   refine zh4 ?_
   rcases h with h |h
   ·rcases zah.mp h with e |h
    ·cases e
     right;simp[zav]
    ·exact .inl h
   ·right
    rw[zav]
    cases x==n<;>simp[h]
  ·rename_i hk
   refine zh4 ?_
   rcases h with h |h
   ·rcases zah.mp h with e |h
    ·cases e;exact absurd rfl hk
    ·exact .inl h
   ·exact .inr h
theorem zr2 {scope:Scope} {code:Value}
  (hQ:Q { scope,locals:=s.heap.objs.size,globals,cells:=qas (s.heap.objs.size+1) scope.names closure,qual,func,code:=outer.code,frame:=outer.frame,builtins:=outer.builtins } { s with heap:=qat (s.heap.push { cls:=.type "dict",data:=.dict #[] }) scope.names }) :
  wpAny M A (qbm scope globals closure [] qual func code (some outer)) Q E s:=by
 simp only[qbm,Option.isSome_some,if_true]
 refine qaa (wpAny_alloc ?_)
 refine qaa (wpAny_layCells _ (fun name kind cells=>by cases hkc:kind==qaj<;>simp[hkc]) _ _ _ _ ?_)
 rw[show({ s with heap:=s.heap.push { cls:=.type "dict",data:=.dict #[] } }:Shared).heap.objs.size=s.heap.objs.size+1 from qbc ..]
 rw[List.forIn_nil]
 exact qaa (qad (qad hQ))
theorem zq3:∀{es:List Expr}{xs:List Ex},zeh c wz wu es xs->∀A q d k loc φ H s Q (E:Value->Shared->Prop),OkF c A q d φ s.heap->FSim c wz wu k loc φ s.heap->Sim c φ H s->wpI (Calls c) q d k xs loc Q H->
  wpAny (model c.prog c.w) A (forIn es true fun c r=>if r=true then do let ok<-isTrue c wz (eval c wz);pure (qbg ok) else pure (qbg r)) (OutB c φ s Q) E s
 |[],xs,h=>fun A q d k loc φ H s Q E hA hF hS hw=>by
  obtain rfl:xs=[]:=h
  rw[List.forIn_nil]
  exact qad ⟨φ,H,Ext.refl,hS,hw⟩
 |e::es,xs,h=>fun A q d k loc φ H s Q E hA hF hS hw=>by
  obtain⟨x,xs',rfl,h1,h2⟩:=h.uncons
  rw[List.forIn_cons]
  refine qaa (qaa (qac (h1 A q d k loc φ H s _ noX hA hF hS hw) ?_ fun J J h=>OutX.no h))
  rintro b s₁ ⟨φ₁,H₁,e₁,S₁,w₁⟩
  refine qad ?_
  cases b with
  |true=>exact qac (zq3 h2 A q d k loc φ₁ H₁ s₁ Q E (hA.mono e₁) (hF.mono e₁) S₁ w₁) (fun J J h=>OutB.lift e₁ h) fun J J h=>h
  |false=>
   have:∀es:List Expr,(forIn es false fun c r=>if r=true then do let ok<-isTrue c wz (eval c wz);pure (qbg ok) else pure (qbg r):Sem Bool)=pure false:=by
    intro es
    induction es with
    |nil=>rfl
    |cons e es ih=>rw[List.forIn_cons];exact ih
   show wpAny _ _ (forIn es false _) _ _ _
   rw[this]
   exact qad ⟨φ₁,H₁,e₁,S₁,w₁⟩
theorem FSim.sub(F:FSim c wz wu k loc φ h)(hn:res'.n<=loc'.length)(hff:res'.fr=wu.fr)(hs:∀x i,res'.lookup x=some i->wu.lookup x=some i/\loc'.getD i none=loc.getD i none):FSim c wz res' none loc' φ h where
 fn:=F.fn
 gl:=F.gl
 bl:=F.bl
 ns:=by
  obtain⟨m,h1,h2,h3⟩:=F.ns
  exact⟨m,by rw[hff];exact h1,fun x i hx=>by rw[(hs x i hx).2];exact h2 x i (hs x i hx).1,fun kk z hz=>nomatch hz⟩
 len:=hn
 Lφ:=F.Lφ
 L0:=F.L0
 cells:=F.cells
end
variable {Q:Bool->Shared->Prop}{acc:List V}{outer:List Env}{r:Value}
section
open PySem PyProof.Rows
structure StoreOk(al:Str->Bool)(wz:Env)(wu res':Res)(x:Str)(i:Nat):Prop extends SlotPut wu res' x i where
 kind:wz.kindOf x=some .local\/(al x=true/\wz.kindOf x=some .cell)
inductive StoresC(al:Str->Bool)(wz:Env)(wu:Res)(e:Expr)(i:Nat)(P:Res->Prop):Prop
 |mk (x:Str)(p:Pos)(res1:Res)(h:e=.Name x p)(h1:StoreOk al wz wu res1 x i)(h2:P res1):StoresC al wz wu e i P
def zfn(al:Str->Bool)(wz:Env):Res->Res->List Expr->List Nat->Prop
 |wu,res',[],is=>res'=wu/\is=[]
 |wu,res',e::es,is=>match is with
  |[]=>False
  |i::is=>StoresC al wz wu e i fun res1=>zfn al wz res1 res' es is
def TgOk(al:Str->Bool)(wz:Env)(wu res':Res)(e:Expr)(t:Tg):Prop:=match t with
 |.one i=>∃x p,e=.Name x p/\StoreOk al wz wu res' x i
 |.two i j=>∃es x p,e=.Tuple es x p/\zfn al wz wu res' es [i,j]
def MyCell(wz:Env)(X:List Addr)(x:Str):Prop:=∀GJ:Prop,(∀(ca:Addr),(wz.cells.lookup x=some ca)->wz.locals<ca->ca∈X->(∀y,wz.cells.lookup y=some ca->y=x)->GJ)->GJ
noncomputable def allY:Str->Bool:=fun J=>true
structure EnvX(al:Str->Bool)(wz:Env)(X:List Addr):Prop where
 loc:wz.locals∈X
 cell:∀x,al x=true->wz.kindOf x=some .cell->MyCell wz X x
 only:∀b∈X,b=wz.locals\/∃x,wz.cells.lookup x=some b
theorem FSim.ownX(F:FSim c wz wu k loc φ s.heap)(hX:EnvX al wz X):OwnX c X s.heap:=fun b hb o ho=>by
 rcases hX.only b hb with rfl |⟨x,hx⟩
 ·exact zjr F ho
 ·exact zlj F hx ho
theorem FSim.outX(F:FSim c wz wu k loc φ s.heap)(hX:EnvX al wz X):∀b∈X,b∉φ/\c.h0.get? b=none:=fun b hb=>by
 rcases hX.only b hb with rfl |⟨x,hx⟩
 ·exact⟨F.Lφ,F.L0⟩
 ·exact(F.cells x b hx).out
theorem Kept.trans(a:Kept X s s₁)(b:Kept X s₁ s₂):Kept X s s₂:=
 ⟨fun y o hy ho=>b.1 y o hy (a.1 y o hy ho),b.2.1.trans a.2.1,b.2.2.trans a.2.2⟩
theorem ze0(F:FSim c wz wu k loc φ s.heap)(S:Sim c φ H s)(h:StoreOk al wz wu res' x i)(hX:EnvX al wz X)(R:Rep c φ s.heap v r) :
  wpAny (model c.prog c.w) A (storeName wz x r) (fun J s'=>Stored c wz res' k (loc.set i (some v)) φ H X s s') E s:=by
 rcases h.kind with h5 |⟨ha,hk⟩
 ·exact zo9 F S h.toSlotPut hX.loc h5 R
 ·refine zs8 F S h.toSlotPut hk ?_ R
  refine(hX.cell x ha hk) _ fun ca g1 g2 g3 g4=>?_
  obtain⟨_,_,o,h3,_,r,h5⟩:=F.cells x ca g1
  exact(fun J kJ=>kJ ca r g1 ⟨o,h3,h5⟩ g2 g3 g4)
theorem znz(hX:EnvX al wz X):∀{es:List Expr}{is:List Nat}{vs:List V}{rs:List Value}{wu res':Res}{loc loc':Loc}{s:Shared},
  zfn al wz wu res' es is->ztb is vs loc=some loc'->FSim c wz wu k loc φ s.heap->Sim c φ H s->RepL c φ s.heap vs rs->
  wpAny (model c.prog c.w) A (assignInOrder ((assignEach es wz).map (·.2)) rs) (fun J s'=>Stored c wz res' k loc' φ H X s s') E s
 |[],is,vs,rs,wu,res',loc,loc',s,h,hb,F,S,R=>by
  obtain⟨rfl,rfl⟩:=h
  cases vs with
  |nil=>
   obtain rfl:=zaa hb
   obtain rfl:=R.nil_inv
   exact qad ⟨F,S,Ext.refl,fun J J J h=>h,rfl,rfl⟩
  |cons=>injection hb
 |e::es,[],vs,rs,wu,res',loc,loc',s,h,hb,F,S,R=>h.elim
 |e::es,i::is,[],rs,wu,res',loc,loc',s,h,hb,F,S,R=>nomatch hb
 |e::es,i::is,v::vs,rs,wu,res',loc,loc',s,h,hb,F,S,R=>by
  obtain⟨x,p,res1,rfl,h1,h2⟩:=h
  refine R.uncons _ fun r rs wk R1 R2=>?_;subst wk
  show wpAny _ _ (do holding rs (assign (.Name x p) wz r);assignInOrder ((assignEach es wz).map (·.2)) rs) _ _ s
  refine qaa (qak (wpAny_assign_Name (qac (ze0 F S h1 hX R1) ?_ fun J J h=>h)))
  rintro _ s₁ ⟨F₁,S₁,e₁,k₁⟩
  refine qac (znz hX h2 hb F₁ S₁ (RepL.mono e₁.toKp (F.ownX hX) R2)) ?_ fun J J h=>h
  rintro _ s₂ ⟨F₂,S₂,e₂,k₂⟩
  exact⟨F₂,S₂,e₁.trans e₂,k₁.trans k₂⟩
theorem zgc:∀{es:List Expr}{is:List Nat}{wu res':Res},zfn al wz wu res' es is->(assignEach es wz).length=is.length/\(assignEach es wz).findIdx? (·.1)=none
 |[],is,_,_,h=>by obtain⟨rfl,rfl⟩:=h;exact⟨rfl,rfl⟩
 |e::es,[],_,_,h=>h.elim
 |e::es,i::is,_,_,h=>by
  obtain⟨x,p,res1,rfl,_,h2⟩:=h
  obtain⟨h3,h4⟩:=zgc h2
  refine⟨congrArg (· + 1) h3,?_⟩
  show(((false,assign (.Name x p) wz)::assignEach es wz).findIdx? (·.1))=none
  rw[List.findIdx?_cons,h4];rfl
theorem zoe:∀{is:List Nat}{vs:List V}{loc loc':Loc},ztb is vs loc=some loc'->vs.length=is.length
 |[],[],_,_,_=>rfl
 |_::_,_::_,_,_,h=>congrArg (· + 1) (zoe (by exact h))
 |[],_::_,_,_,h=>nomatch h
 |_::_,[],_,_,h=>nomatch h
theorem zn0(hh:A.handled=none)(hX:EnvX al wz X) {x1}{vs:List V}
  (h:zfn al wz wu res' es is) (hb:ztb is vs loc=some loc') (F:FSim c wz wu k loc φ s.heap) (S:Sim c φ H s) (R:Rep c φ s.heap (.tup vs) r) :
  wpAny (model c.prog c.w) A (assign (.Tuple es x1 pos) wz r) (fun J s'=>Stored c wz res' k loc' φ H X s s') E s:=by
 obtain⟨a,o,us,n,rfl,ha,ho,hc,hd,hz,hl⟩:=R
 have wq:us.size=is.length:=by rw[<- zoe hb,<-RepL.length hl,zbj]
 refine wpAny_assign_Tuple hh ⟨o,ho,hc,n,hd⟩ ((zgc h).1.trans wq.symm) (zgc h).2 fun h' hx=>?_
 have keep:∀b o,s.heap.get? b=some o->h'.get? b=some o:=fun b o hb=>hx b o (zar (qa5 hb)) hb
 have e:Ext [] φ s φ { s with heap:=h' }:=Ext.of_keeps keep rfl
 refine qac (znz hX h hb (F.mono e) (S.keeps (s':={ s with heap:=h' }) keep rfl) (RepL.mono e.toKp OwnX.nil hl)) ?_ fun J J h=>h
 rintro _ s₂ ⟨F₂,S₂,e₂,k₂⟩
 exact⟨F₂,S₂,(e.weaken (fun J h=>nomatch h) fun b hb=>(F.outX hX b hb).1).trans e₂,fun b o hb ho=>k₂.1 b o hb (keep b o ho),k₂.2⟩
theorem zql(hh:A.handled=none)(hX:EnvX al wz X)
  (h:TgOk al wz wu res' tg t) (hb:zg8 t v loc=some loc') (F:FSim c wz wu k loc φ s.heap) (S:Sim c φ H s) (R:Rep c φ s.heap v r) :
  wpAny (model c.prog c.w) A (assign tg wz r) (fun J s'=>Stored c wz res' k loc' φ H X s s') E s:=by
 cases t with
 |one i=>
  obtain⟨x,p,rfl,h⟩:=h
  obtain rfl:=zaa hb
  exact wpAny_assign_Name (ze0 F S h hX R)
 |two i j=>
  obtain⟨es,x,p,rfl,h⟩:=h
  revert hb;refine xB fun vs h1 g=>?_
  obtain rfl:=zf7 h1
  cases LV.of vs with
  |two a b=>exact zn0 hh hX h (show ztb [i,j] [a,b] loc=some loc' from g) F S R
  |_=>injection g
end
variable {es:Array qbk}
section
open PySem PyProof.Rows
inductive NsK(T:Value)(h:Heap)(C:Addr)(m:Str->Option Value):Prop
 |mk (ns:h.Ns C m)(o:Obj)(ho:h.get? C=some o)(hc:o.cls=T):NsK T h C m
abbrev NsD (h:Heap) (C:Addr) (m:Str->Option Value):Prop:=NsK (.type "dict") h C m
theorem NsD.ns(q:NsD h C m):h.Ns C m:=let⟨n,_,_,_⟩:=q;n
def HasK(T:Value)(h:Heap)(C:Addr)(m₀:Str->Option Value)(n:Str):Prop:=∀GJ:Prop,(∀(m:Str->Option Value),NsK T h C m->(∀y,y≠n->m y=m₀ y)->GJ)->GJ
theorem zhu{p q:α->Bool}(hpq:∀e,p e=true->q e=false):∀(l:List α)(i:Nat),l.findIdx? p=some i->(l.eraseIdx i).find? q=l.find? q
 |[],_,h=>nomatch h
 |e::l,i,h=>by
  rw[List.findIdx?_cons] at h
  refine xD (p e) (fun hp=>?_) fun hp=>?_
  ·rw[hp] at h
   obtain rfl:=zaa h
   rw[List.eraseIdx_cons_zero,List.find?_cons,hpq e hp]
  ·rw[hp] at h
   revert h;refine xM fun j hj wj=>?_;subst wj
   rw[List.eraseIdx_cons_succ,List.find?_cons,List.find?_cons,zhu hpq l j hj]
theorem zt3(hi:es.findIdx? (fun e=>e.key.isStr n)=some i)(hy:y≠n):nsFind (es.eraseIdxIfInBounds i) y=nsFind es y:=by
 obtain⟨l⟩:=es
 simp only[nsFind,findBy,List.eraseIdxIfInBounds_toArray,List.find?_toArray,List.findIdx?_toArray] at hi ⊢
 rw[zhu (fun e he=>?_) l i hi] at ⊢
 refine xD (e.key.isStr y) (fun hq=>?_) fun hq=>?_
 ·exact absurd (Value.isStr_inj _ _ _ he hq).symm hy
 ·rfl
theorem drop_dk(ho:h.get? a=some o)(hd:o.data=.dict es ep)(h2:(h.update a (Obj.dropName name)).get? a=some o'):DKo o o':=by
 obtain⟨cl,d,dt,sl⟩:=o
 subst hd
 refine xC (es.findIdx? (·.key.isStr name)) (fun hi=>?_) fun i hi=>?_
 ·have e:=qam (Obj.dropName name) ho (by simp only[qaz,qau,hi]<;>rfl)
  rw[e] at h2
  obtain rfl:=zaa h2
  simp only[qaz,qau,hi]
  exact .rfl
 ·have e:=qam (Obj.dropName name) ho (by simp only[qaz,qau,hi]<;>rfl)
  rw[e] at h2
  obtain rfl:=zaa h2
  simp only[qaz,qau,hi]
  refine .mk rfl fun es1 n es' n' q1 q2 g=>?_
  (injection q1 with Ja Jb;subst Jb;subst Ja);(injection q2 with Ja Jb;subst Jb;subst Ja)
  obtain⟨l⟩:=es
  refine⟨g.1.erase i,?_⟩
  rw[List.eraseIdxIfInBounds_toArray]
  exact(((List.eraseIdx_sublist l i).map fun e=>keyS e.key)).nodup g.2
theorem nsDelK{m}(hD:NsK T s.heap a m)
  (hQ:∀h' m',NsK T h' a m'->(∀y,y≠name->m' y=m y)->qa4 a s.heap h'->(∀o o',s.heap.get? a=some o->h'.get? a=some o'->DKo o o')->Q (m name).isSome { s with heap:=h' }):wpAny M A (nsDel a name) Q E s:=by
 obtain⟨hn,o2,ho2,hc2⟩:=id hD
 obtain⟨o,es,ep,ho,hd,hk,hm⟩:=id hn
 replace hc2:o.cls=T:=by replace ho2:=zaa (ho.symm.trans ho2);subst ho2;exact hc2
 have hany:es.any (·.refKey)=false:=by
  rw[Array.any_eq_false'];intro e he;obtain⟨n,t,h⟩:=hk e he;simp[DictEntry.refKey,h]
 have hsome:(m name).isSome=es.any (·.key.isStr name):=by
  rw[<- hm name];simp only[nsFind,findBy,Option.isSome_map]
  rw[Bool.eq_iff_iff];simp only[Array.find?_isSome,Array.any_eq_true]
  constructor
  ·rintro⟨x,hx,hp⟩;obtain⟨i,hi,rfl⟩:=Array.mem_iff_getElem.mp hx;exact⟨i,hi,hp⟩
  ·rintro⟨i,hi,hp⟩;exact⟨_,Array.getElem_mem hi,hp⟩
 have hhas:nsHas name o=pure (es.any (·.key.isStr name)):=by
  rw[nsHas_eq];unfold nsHasByArray;rw[hd]
  show(if(es.any fun x=>x.key.isStr name)=true then _ else _)=_
  generalize(es.any fun x=>x.key.isStr name)=b
  cases b<;>simp[hany]
 unfold nsDel
 refine qaa (wpAny_loadPart ho ?_)
 rw[hhas]
 refine qaa (qad ?_)
 rw[<- hsome]
 cases hmn:(m name).isSome
 ·have:=hQ s.heap m hD (fun J J=>rfl) (.refl ..) fun o o' h1 h2=>by replace h2:=zaa (h1.symm.trans h2);subst h2;exact .rfl
  rw[hmn] at this
  exact qad this
 ·refine qaa (wpAny_updatePart ho (qad ?_))
  have key:HasK T (s.heap.update a (Obj.dropName name)) a m name:=by
   obtain⟨cl,d,dt,sl⟩:=o
   subst hd
   refine xC (es.findIdx? (·.key.isStr name)) (fun hi=>?_) fun i hi=>?_
   ·exact(fun J kJ=>kJ _ ⟨⟨_,_,ep,qam _ ho (by simp only[qaz,qau,hi]<;>rfl),(by simp only[qaz,qau,hi]<;>rfl),hk,fun J=>rfl⟩,_,qam _ ho (by simp only[qaz,qau,hi]<;>rfl),(by simp only[qaz,qau,hi];exact hc2)⟩ (fun y J=>hm y))
   ·exact(fun J kJ=>kJ _ ⟨⟨_,_,ep+1,qam _ ho (by simp only[qaz,qau,hi]<;>rfl),(by simp only[qaz,qau,hi]<;>rfl),hk.erase i,fun J=>rfl⟩,_,qam _ ho (by simp only[qaz,qau,hi]<;>rfl),(by simp only[qaz,qau,hi];exact hc2)⟩ (fun y hy=>(zt3 hi hy).trans (hm y)))
  refine key _ fun m' hm' hsm=>?_;clear key
  have:=hQ _ m' hm' hsm (qa1 ..) fun o₁ o' h1 h2=>by
   obtain rfl:=zaa (ho.symm.trans h1)
   exact drop_dk ho hd h2
  rw[hmn] at this
  exact this
structure SameD(a:Addr)(h h':Heap):Prop where
 same:qa4 a h h'
 dk:∀o o',h.get? a=some o->h'.get? a=some o'->DKo o o'
theorem SameD.refl:SameD a h h:=⟨.refl ..,fun o o' h1 h2=>by replace h2:=zaa (h1.symm.trans h2);subst h2;exact .rfl⟩
theorem SameD.trans{h'':Heap} {m}(x:SameD a h h')(hn:NsD h' a m)(y:SameD a h' h''):SameD a h h'':=⟨x.same.trans y.same,fun o o' h1 h2=>by
 obtain⟨⟨o1,es,n,ho,hd,_⟩,_⟩:=hn
 exact(y.dk o1 o' ho h2).trans (x.dk o o1 h1 ho) hd⟩
theorem nsDelD{m}(hD:NsD s.heap a m)
  (hQ:∀h' m',NsD h' a m'->SameD a s.heap h'->Q (m name).isSome { s with heap:=h' }):wpAny M A (nsDel a name) Q E s:=nsDelK hD fun h' m' h1 J h2 h3=>hQ h' m' h1 ⟨h2,h3⟩
theorem letGoD(hkind:wv.scope.kind=.function){Q:Unit->Shared->Prop} :
  ∀(vs:List (Str×qaf)) (s:Shared) (m:Str->Option Value),(∀x∈vs,x.2=.local->wv.kindOf x.1=some .local)->NsD s.heap wv.locals m->
   (∀h' m',NsD h' wv.locals m'->SameD wv.locals s.heap h'->Q () { s with heap:=h' })->wpAny M A (comprehension.letGo wv cellsOf vs) Q E s:=by
 intro vs
 induction vs with
 |nil=>intro s m _ hn hQ;exact qad (hQ s.heap m hn .refl)
 |cons x r ih=>
  intro s m hv hn hQ
  obtain⟨n,k⟩:=x
  rw[comprehension.letGo]
  have hr:∀y∈r,y.2=.local->wv.kindOf y.1=some .local:=fun y hy=>hv y (zag _ hy)
  refine qaa (qak ?_)
  by_cases hk:k=.local
  ·subst hk
   have hkn:wv.kindOf n=some .local:=hv (n,.local) zad rfl
   simp only[beq_self_eq_true,if_true]
   refine qaa (wpAny_nsGet hn.ns ?_)
   cases hmn:(m n).isSome
   ·simp only[zbk,if_false]
    exact qad (ih s m hr hn hQ)
   ·simp only[if_true]
    unfold unbindName deleteName
    refine qaa (qb3 (qaa ?_))
    simp only[hkn,hkind]
    refine qaa (m:=nsDel wv.locals n) (nsDelD hn fun h' m' hn' hs'=>?_)
    rw[hmn]
    refine qad (qb3 ?_)
    exact ih { s with heap:=h' } m' hr hn' fun h'' m'' hn'' hs''=>hQ h'' m'' hn'' (hs'.trans hn' hs'')
  ·have hb:(k==NameKind.local)=false:=by simpa using hk
   simp only[hb,zbk,if_false]
   exact qb3 (ih s m hr hn hQ)
inductive EndD(P:Heap->Prop)(C:Addr)(h:Heap):Prop
 |mk (m:Str->Option Value)(hn:NsD h C m)(g:∀h' m',NsD h' C m'->SameD C h h'->P h'):EndD P C h
def endD(M:Model)(A:Around)(E:Value->Shared->Prop)(use:Option (Value->Sem Unit))(Q:Value->Shared->Prop)(acc:Value)(C:Addr)(r:Result)(s':Shared):Prop:=
 match r with
 |.ok _=>(match use with
  |none=>EndD (fun h'=>Q acc { s' with heap:=h' }) C s'.heap
  |some u=>wpAny M A (u acc) (fun J s''=>EndD (fun h'=>Q .none { s'' with heap:=h' }) C s''.heap) E s')
 |.error _=>False
theorem zkq {scope : Scope} {newAcc first : Sem Value} {use : Option (Value -> Sem Unit)}
  {Q : Value -> Shared -> Prop}
  (hcl : clausesOf e = g :: gs) (hs : ∀ x, qbr g.iter wz x = pure x) (hclos : closureFor scope wz = pure cl)
  (hkind : scope.kind = .function) (hnames : ∀ x ∈ scope.names, x.2 = .local -> scope.names.lookup x.1 = some .local)
  (h : wpAny M A first (fun x s₁ => wpAny M A (pyIter x) (fun it s₂ => wpAny M A newAcc (fun acc s₃ =>
   wpAny M A (qbm scope wz.globals cl [] wz.qual none .none (some wz)) (fun wv s₄ =>
    codeAny M A (.compStart e 0 it acc { wv with scope := qa8 scope wz }) (endD M A E use Q acc wv.locals) s₄) E s₃) E s₂) E s₁) E s) :
  wpAny M A (comprehension e scope wz pos newAcc false first use) Q E s := by
 unfold comprehension
 rw [hclos, hcl]
 refine qaa (qac h (fun x s₁ h₁ => qaa (qa2 (qaa (qbd (hs x) (qaa (qak (qac h₁ (fun it s₂ h₂ =>
  wpAny_standIf (qaa (qac h₂ (fun acc s₃ h₃ => qaa (qad (qaa (qac h₃ (fun wv s₄ h₄ => ?_) fun J J h' => h')))) fun J J h' => h')))
   fun J J h' => h'))))))) fun J J h' => h')
 dsimp only
 have hv : ∀ x ∈ (scope.names.filter fun x => (x.2 == .local || x.2 == .cell) && x.1 != (".0" : Str)).reverse, x.2 = .local ->
   Env.kindOf { wv with scope := qa8 scope wz } x.1 = some .local := fun x hx hl => lookup_relabel_local (hnames x (List.mem_filter.mp (List.mem_reverse.mp hx)).1 hl)
 have hv' : ∀ x ∈ (scope.names.filter fun x => (x.2 == .local || x.2 == .cell) && x.1 != (".0" : Str)).reverse.drop 1 ++ (scope.names.filter fun x => (x.2 == .local || x.2 == .cell) && x.1 != (".0" : Str)).reverse.take 1,
   x.2 = .local -> Env.kindOf { wv with scope := qa8 scope wz } x.1 = some .local := fun x hx hl => by
  rcases zaj.mp hx with h1 | h1
  ·exact hv x (List.mem_of_mem_drop h1) hl
  ·exact hv x (List.mem_of_mem_take h1) hl
 refine qak (qaa (wpAny_attempt (qak (wpAny_run (codeAny_mono h₄ fun r s' hr => ?_)))))
 cases r with
 | ok f =>
  cases use with
  | none =>
   obtain ⟨m, hn, hr⟩ := hr
   exact qaa (qak (letGoD (wv := { wv with scope := qa8 scope wz }) hkind _ s' m hv hn fun h' m' hn' hs' => qad (hr h' m' hn' hs')))
  | some u =>
   refine qaa (wpAny_rule (qaa (qak (qac hr (fun J s'' hr' => ?_) fun J J h' => h'))))
   obtain ⟨m, hn, hr'⟩ := hr'
   exact qaa (letGoD (wv := { wv with scope := qa8 scope wz }) hkind _ s'' m hv' hn fun h' m' hn' hs' => qad (hr' h' m' hn' hs'))
 | error x => exact hr.elim
def Tg.out : Tg -> Nat -> Prop
 | .one k, i => i ≠ k
 | .two k l, i => i ≠ k /\ i ≠ l
theorem zn6{x:V}(h:zg8 t x loc=some loc'):loc'.length=loc.length/\∀{i:Nat},t.out i->loc'.getD i none=loc.getD i none:=by
 cases t with
 |one k=>
  obtain rfl:=zaa h
  exact⟨zbg,fun hi=>zms hi⟩
 |two k l=>
  revert h;refine xB fun vs h1 g=>?_
  cases LV.of vs with
  |two a b=>
   obtain rfl:=zaa g
   exact⟨by rw[zbg,zbg],fun hi=>(zms hi.2).trans (zms hi.1)⟩
  |_=>injection g
structure Sub0(wu res':Res)(scope:Scope)(t:Tg)(x:Str)(i:Nat):Prop where
 up:wu.lookup x=some i
 mem:(x,qap)∈scope.names
 free:scope.names.lookup x=some .free
 dn:res'.lookup x=some i
 out:t.out i
noncomputable def ownY(scope:Scope):Str->Bool:=fun x=>scope.names.lookup x==some .cell
structure CompOk(c:Cx)(wz:Env)(wu res0 res':Res)(scope:Scope)(tgt:Expr)(t:Tg):Prop where
 kind:scope.kind=.function
 cell:∀n n',(n,qaj)∈scope.names->(n',qaj)∈scope.names->n'=n
 nocell:∀n,(n,qap)∈scope.names->(n,qaj)∉scope.names
 names:∀y∈scope.names,y.2=.local->scope.names.lookup y.1=some .local
 free:∀n,(n,qap)∈scope.names->(wz.kindOf n=some .cell\/wz.kindOf n=some .free)/\∃i,wu.lookup n=some i
 n0:res0.n=wu.n
 fr0:res0.fr=false
 sub0:∀x i,res0.lookup x=some i->Sub0 wu res' scope t x i
 n':res'.n=wu.n/\res'.fr=false
 tgt:∀wv:Env,wv.scope=qa8 scope wz->TgOk (ownY scope) wv res0 res' tgt t
theorem ze6{wz:Env}{x:Str}{k:qaf}:∀{names:List (Str×qaf)},names.lookup x=some k->
  (names.map fun(n,k)=>if(k==qap&&wz.scope.kind==.function&&wz.kindOf n==some .cell) then(n,qaj) else(n,k)).lookup x =
   some (if(k==qap&&wz.scope.kind==.function&&wz.kindOf x==some .cell) then .cell else k)
 |[],h=>by simp at h
 |(n,k')::r,h=>by
  have ih:=@ze6 wz x k r
  show List.lookup x ((if(k'==qap&&wz.scope.kind==.function&&wz.kindOf n==some .cell)=true then(n,qaj) else(n,k'))::_)=_
  refine xD (x==n) (fun hx=>?_) fun hx=>?_
  ·simp only[zav,hx] at h
   (injection h with Ja;subst Ja)
   have:=beq_iff_eq.mp hx;subst this
   split<;>simp[zav]
  ·simp only[zav,hx] at h
   split
   ·simp only[zav,hx];exact ih h
   ·simp only[zav,hx];exact ih h
theorem zi1(F:FSim c wz wu k loc φ h)(hk:wz.kindOf x=some .cell\/wz.kindOf x=some .free)(hi:wu.lookup x=some i):SlotC c φ h wz x (loc.getD i none):=by
 obtain⟨m,_,hs,_⟩:=F.ns
 have h5:=hs x i hi
 unfold zfw at h5
 rcases hk with hk |hk<;>rw[hk] at h5<;>exact h5
theorem SlotC.addr:SlotC c φ h wz x ov->∃ca,wz.cells.lookup x=some ca
 |.yes _ ca _ h1 _ _=>⟨ca,h1⟩
 |.no ca h1 _=>⟨ca,h1⟩
theorem closL_at(h:(x,qap)∈names)(hc:wz.cells.lookup x=some ca):(ze2 wz names []).lookup x=some ca:=by
 obtain⟨ca',hca'⟩:=zca.mp (zh4 (wz:=wz) (acc:=[]) (x:=x) (.inl h))
 rcases zdu hca' with q |⟨_,q⟩
 ·injection q
 ·rw[hc] at q;obtain rfl:ca'=ca:=q;exact hca'
theorem SlotC.recell(he:∀ca,wz.cells.lookup x=some ca->env'.cells.lookup x=some ca):SlotC c φ h wz x ov->SlotC c φ h env' x ov
 |.yes v ca r h1 h2 h3=>.yes v ca r (he ca h1) h2 h3
 |.no ca h1 h2=>.no ca (he ca h1) h2
theorem zsf.cell{k:Option qaf}{L C:Prop}(hk:k=some .cell\/k=some .free)(h:C):zsf k L C:=by
 rcases hk with rfl |rfl<;>exact h
noncomputable def zf5:Obj:={ cls:=.type "cell",data:=.cell none }
theorem zhm:∀{names:List (Str×qaf)} {h:Heap} {acc:List (Str×Addr)} {x:Str} {ca:Addr},(qas h.objs.size names acc).lookup x=some ca ->
  acc.lookup x=some ca\/(h.objs.size<=ca/\(qat h names).get? ca=some zf5/\(x,qaj)∈names)
 |[],h,acc,x,ca,e=>.inl e
 |(n,kd)::r,h,acc,x,ca,e=>by
  unfold qas at e
  unfold qat
  refine xD ((kd==qaj)) (fun hk=>?_) fun hk=>?_
  ·rw[hk,if_pos rfl] at e
   obtain rfl:=beq_iff_eq.mp hk
   rw[if_pos rfl]
   have:=zhm (names:=r) (h:=h.push zf5) (acc:=(n,h.objs.size)::acc) (x:=x) (ca:=ca) (by rw[qbc];exact e)
   rcases this with q |⟨q1,q2,q3⟩
   ·rw[zav] at q
    refine xD (x==n) (fun hx=>?_) fun hx=>?_
    ·rw[hx] at q
     obtain rfl:=beq_iff_eq.mp hx
     obtain rfl:=zaa q
     exact .inr ⟨zae _,qbp _ _ _ _ (qah _ rfl),zad⟩
    ·rw[hx] at q;exact .inl q
   ·rw[qbc] at q1
    exact .inr ⟨Nat.le_of_succ_le q1,q2,zag _ q3⟩
  ·rw[hk,if_neg (by decide)] at e
   rw[if_neg (by decide)]
   rcases zhm (names:=r) e with q |⟨q1,q2,q3⟩
   ·exact .inl q
   ·exact .inr ⟨q1,q2,zag _ q3⟩
theorem zh2:∀{names:List (Str×qaf)} {k:Nat} {acc:List (Str×Addr)} {x:Str},(x,qaj)∉names->(qas k names acc).lookup x=acc.lookup x
 |[],_,_,_,_=>rfl
 |(n,kd)::r,k,acc,x,hn=>by
  unfold qas
  refine xD ((kd==qaj)) (fun hk=>?_) fun hk=>?_
  ·obtain rfl:=beq_iff_eq.mp hk
   rw[if_pos rfl,zh2 fun q=>hn (zag _ q),zav,beq_eq_false_iff_ne.mpr fun(q:x=n)=>hn (q▸zad)]
  ·rw[if_neg (by decide)];exact zh2 fun q=>hn (zag _ q)
set_option tactic.hygienic true in
theorem zjz:∀{names:List (Str×qaf)} {k:Nat} {acc:List (Str×Addr)} {x:Str},((x,qaj)∈names\/(acc.lookup x).isSome)->((qas k names acc).lookup x).isSome
 |[],_,acc,x,h=>by
  rcases h with h |h
  ·cases h
  ·exact h
 |(n,kd)::r,k,acc,x,h=>by
  unfold qas
  split
  ·rename_i hk
   refine zjz ?_
   rcases h with h |h
   ·rcases zah.mp h with e |h
    ·cases e
     right;simp
    ·exact .inl h
   ·right
    rw[zav]
    cases x==n<;>simp[h]
  ·rename_i hk
   refine zjz ?_
   rcases h with h |h
   ·rcases zah.mp h with e |h
    ·cases e;exact absurd rfl hk
    ·exact .inl h
   ·exact .inr h
noncomputable def XC (wz:Env):List Addr:=wz.locals::wz.cells.filterMap fun p=>(wz.cells.lookup p.1).filter fun a=>decide (wz.locals<a)
theorem zuw(h:b∈XC wz):b=wz.locals\/((∃x,wz.cells.lookup x=some b)/\wz.locals<b):=by
 rcases zah.mp h with h |h
 ·exact .inl h
 ·obtain⟨p,_,hp⟩:=List.mem_filterMap.mp h
  obtain⟨h1,h2⟩:=Option.filter_eq_some_iff.mp hp
  exact .inr ⟨⟨p.1,h1⟩,of_decide_eq_true h2⟩
theorem XC_mem(h:wz.cells.lookup x=some b)(hb:wz.locals<b):b∈XC wz:=
 zag _ (List.mem_filterMap.mpr ⟨(x,b),qav h,Option.filter_eq_some_iff.mpr ⟨h,decide_eq_true hb⟩⟩)
theorem zsd{scope:Scope}(K:CompOk c wz wu res0 res' scope tgt t)(hz:h.objs.size=C+1)(F:FSim c wz wu k loc φ (qat h scope.names))(hC:h.get? C=some { cls:=.type "dict",data:=.dict #[] })(hnew:∀b,C<=b->b∉φ/\c.h0.get? b=none) :
  FSim c (compEnvC scope (qas (C+1) scope.names (ze2 wz scope.names [])) C wz) res0 none loc φ (qat h scope.names) where
 fn:=K.kind
 gl:=F.gl
 bl:=F.bl
 ns:=by
  have hC':=qbp scope.names h C _ hC
  refine⟨fun J=>none,⟨⟨_,_,_,hC',rfl,by intro e he;simp at he,fun J=>by simp[nsFind,findBy]⟩,_,hC',.inr ⟨rfl,rfl,K.fr0⟩⟩,fun x i hx=>?_,fun kk z hz=>nomatch hz⟩
  have q:=K.sub0 x i hx
  have hkind:(compEnvC scope (qas (C+1) scope.names (ze2 wz scope.names [])) C wz).kindOf x=some .cell\/(compEnvC scope (qas (C+1) scope.names (ze2 wz scope.names [])) C wz).kindOf x=some .free:=by
   show List.lookup x (qa8 scope wz).names=_\/List.lookup x (qa8 scope wz).names=_
   rw[show List.lookup x (qa8 scope wz).names=_ from ze6 q.free]
   split
   ·exact .inl rfl
   ·exact .inr rfl
  exact zsf.cell hkind ((zi1 F (K.free x q.mem).1 q.up).recell fun ca h=>(zh2 (K.nocell x q.mem)).trans (closL_at q.mem h))
 len:=by rw[K.n0];exact F.len
 Lφ:=(hnew C (zae _)).1
 L0:=(hnew C (zae _)).2
 cells x ca hx:=by
  rcases zhm (h:=h) (by rw[hz];exact hx) with q |⟨q1,q2,_⟩
  ·rcases zdu q with q |⟨h1,q⟩
   ·injection q
   ·obtain⟨hk,i,hi⟩:=K.free x h1
    obtain⟨ca',h6⟩:=(zi1 F hk hi).addr
    rw[h6] at q;obtain rfl:ca=ca':=q
    exact F.cells x ca h6
  ·rw[hz] at q1
   exact⟨(hnew ca (Nat.le_of_succ_le q1)).1,(hnew ca (Nat.le_of_succ_le q1)).2,_,q2,rfl,_,rfl⟩
theorem comp_env{scope:Scope}(K:CompOk c wz wu res0 res' scope tgt t)(hz:h.objs.size=C+1)(F:FSim c wz wu k loc φ h')(hlt:∀b o,h'.get? b=some o->b<C) :
  EnvX (ownY scope) (compEnvC scope (qas (C+1) scope.names (ze2 wz scope.names [])) C wz) (XC (compEnvC scope (qas (C+1) scope.names (ze2 wz scope.names [])) C wz)) where
 loc:=zad
 cell x ha _:=by
  have hm:=qav (beq_iff_eq.mp ha)
  obtain⟨ca,hca⟩:=zca.mp (zjz (k:=C+1) (acc:=ze2 wz scope.names []) (x:=x) (.inl hm))
  have old:∀{y cb},(ze2 wz scope.names []).lookup y=some cb->cb<C:=fun{y cb} q=>by
   rcases zdu q with q |⟨h1,q⟩
   ·injection q
   ·obtain⟨hk,i,hi⟩:=K.free y h1
    obtain⟨ca',h6⟩:=(zi1 F hk hi).addr
    rw[h6] at q;obtain rfl:cb=ca':=q
    obtain⟨_,_,o,ho,_⟩:=F.cells y cb h6
    exact hlt cb o ho
  have hnf:(x,qap)∉scope.names:=fun q=>K.nocell x q hm
  have hgt:C<ca:=by
   rcases zhm (h:=h) (by rw[hz];exact hca) with q |⟨q1,_,_⟩
   ·rcases zdu q with q |⟨h1,_⟩
    ·injection q
    ·exact absurd h1 hnf
   ·rw[hz] at q1;exact q1
  refine(fun J kJ=>kJ ca hca hgt (XC_mem (wz:=compEnvC scope (qas (C+1) scope.names (ze2 wz scope.names [])) C wz) hca hgt) (fun y hy=>?_))
  rcases zhm (h:=h) (by rw[hz];exact hy) with q |⟨_,_,q3⟩
  ·exact absurd (old q) (za9.mpr (zap hgt))
  ·exact K.cell x y hm q3
 only b hb:=(zuw hb).imp id fun h=>h.1
end
variable {Q:Shared->Prop}{cl:Str×Addr}{e:Value}{es:List Expr}{g:Array GenState}{n:Nat}{x:V}
section
open PySem PyProof.Rows
inductive AccAt(c:Cx)(φ:List Addr)(h:Heap)(D:Addr)(av:List V):Prop
 |mk (vs:Array Value)(n:Nat)(ho:h.get? D=some (lobj vs n))(hr:RepL c φ h av vs.toList)(hD:D∉φ):AccAt c φ h D av
structure Turn(c:Cx)(wv:Env)(res0:Res)(loc:Loc)(φ₀:List Addr)(s₀:Shared)(D:Addr)(wr:List Addr)(St:Nat->List Addr->Heap->Prop)(i:Nat)(av:List V)(φ:List Addr)(H:Hp)(s:Shared):Prop where
 ext:Ext [] φ₀ s₀ φ s
 sim:Sim c φ H s
 fr:FSim c wv res0 none loc φ s.heap
 st:St i φ s.heap
 acc:AccAt c φ s.heap D av
theorem AccAt.keep(T:AccAt c φ h D av)(e:Kp X φ h φ' h')(hX:OwnX c X h)(hD:D∉X):AccAt c φ' h' D av:=by
 obtain⟨vs,n,h1,h2,h3⟩:=T
 exact⟨vs,n,e.keep D _ h1 h3 hD rfl,RepL.mono e hX h2,e.notin h1 h3⟩
theorem AccAt.out(T:AccAt c φ h D av)(its:Its c wr φ h):D∉wr:=fun hm=>by
 obtain⟨_,_,o,h1,h2,_⟩:=its D hm
 obtain⟨vs,n,h3,_,_⟩:=T
 obtain rfl:=zaa (h3.symm.trans h1)
 exact absurd h2 (by show itc (qbf "list")≠true;decide)
theorem Off.of(F:FSim c wz wu k loc φ s.heap)(h:∀b∈X,∀o,s.heap.get? b=some o->o.cls≠.type "frame"/\o.cls≠.type "dict"/\o.cls≠.type "cell"):Off wz X s where
 loc hm:=by
  obtain⟨m,⟨_,o,h3,h4⟩,_,_⟩:=F.ns
  obtain⟨g1,g2,g3⟩:=h _ hm o h3
  rcases h4 with h4 |h4
  ·exact g1 h4.1
  ·exact g2 h4.1
 cells x ca hx hm:=by
  obtain⟨_,_,o,h3,h4⟩:=F.cells x ca hx
  exact(h _ hm o h3).2.2 h4
 clo ca o ho hc _ hm:=(h _ hm o ho).2.2 hc
theorem Off.its(F:FSim c wz wu k loc φ s.heap)(h:Its c wr φ s.heap):Off wz wr s:=Off.of F fun b hb o ho=>by
 obtain⟨_,_,o',h1,h2,_⟩:=h b hb
 obtain rfl:=zaa (ho.symm.trans h1)
 exact⟨zja h2 rfl,zja h2 rfl,zja h2 rfl⟩
theorem FSim.kept(F:FSim c wz wu k loc φ s.heap)(h:Its c wr φ s.heap)(hk:Kept wr s s'):FSim c wz wu k loc φ s'.heap:=
 F.off (hk.kp h) h.own (Off.its F h) fun o ho=>⟨o.slots,hk.1 _ o (Off.its F h).loc ho⟩
theorem grow(S:Sim c φ H s)(ho:s.heap.get? D=some (lobj vs n))(hD:D∉φ)(h0:c.h0.get? D=none)(hs:qa4 D s.heap h') :
  Kp [D] φ s.heap φ h'/\OwnX c [D] s.heap/\Sim c φ H { s with heap:=h' }:=by
 have keep:∀b o,b≠D->s.heap.get? b=some o->h'.get? b=some o:=fun b o hb ho=>(hs.2 b hb).trans ho
 have kp:=zkw (φ:=φ) keep (fun o es n h hd=>by obtain rfl:=zaa (ho.symm.trans h);injection hd) (fun o vs h hd=>by obtain rfl:=zaa (ho.symm.trans h);injection hd)
 have ow:OwnX c [D] s.heap:=fun b hb o ho'=>by
  rw[zaf.mp hb] at ho' ⊢
  obtain rfl:=zaa (ho.symm.trans ho')
  exact .inr (.inl ⟨rfl,h0⟩)
 exact⟨kp,ow,S.mono (s':={ s with heap:=h' }) kp ow (fun b hb=>by rw[zaf.mp hb];exact h0) (fun a ha o ho=>keep a o (fun q=>hD (q▸ha)) ho) (fun b o hb J=>keep b o (fun q=>by rw[q,h0] at hb;injection hb) (S.stays b o hb)) S.gens fun b ps hb=>keep b _ (fun q=>by rw[q,ho] at hb;(injection hb with Ja;injection Ja with w4 Jb1;clear Jb1;injection w4)) hb⟩
theorem Off.list(F:FSim c wz wu k loc φ s.heap)(ho:s.heap.get? D=some (lobj vs n)):Off wz [D] s:=Off.of F fun b hb o ho'=>by
 rw[zaf.mp hb] at ho'
 obtain rfl:=zaa (ho.symm.trans ho')
 exact⟨show qbf "list"≠_ by decide,show qbf "list"≠_ by decide,show qbf "list"≠_ by decide⟩
abbrev compStep (c:Cx) (d:Nat) (t:Tg) (xifs:List Ex) (xelt:Ex) (loc:Loc):V->List V->(List V->Hp->Prop)->Hp->Prop:=
 zlx (fun l' Q H=>wpI (Calls c) true d none xifs l' Q H) (fun l' Q H=>wpE (Calls c) true d none xelt l' Q noX H) t loc
structure CompL(c:Cx)(A:Around)(d:Nat)(φ₀:List Addr)(s₀:Shared)(wz:Env)(wu res0 res':Res)(scope:Scope)(tgt:Expr)(t:Tg)(wv:Env)(D:Addr)(it:Value)(wr:List Addr)(items:List V)(ok:Hp->Prop)(St:Nat->List Addr->Heap->Prop):Prop where
 hA:OkF c A true d φ₀ s₀.heap
 K:CompOk c wz wu res0 res' scope tgt t
 hcs:wv.scope=qa8 scope wz
 I:Itr c A it tgt wr items ok St
 EX:EnvX (ownY scope) wv (XC wv)
 hX0:∀b∈XC wv,s₀.heap.get? b=none
 hD0:s₀.heap.get? D=none
 hw0:∀b∈wr,s₀.heap.get? b=none
 hDX:D∉XC wv
 hDh:c.h0.get? D=none
def CompI(c:Cx)(wv:Env)(res0:Res)(loc:Loc)(φ₀:List Addr)(s₀:Shared)(D:Addr)(wr:List Addr)(St:Nat->List Addr->Heap->Prop)(items:List V)(ok:Hp->Prop)(f:V->List V->(List V->Hp->Prop)->Hp->Prop)(QQ:List V->Hp->Prop)(k:Nat)(s:Shared):Prop:=∀GJ:Prop,(∀(i:Nat),∀(av:List V),∀(φ:List Addr),∀(H:Hp),(k=items.length-i+1)->i<=items.length->av.length<=i->Turn c wv res0 loc φ₀ s₀ D wr St i av φ H s->ok H->zfe ok f (items.drop i) av QQ H->GJ)->GJ
section
variable {scope:Scope}{ok:Hp->Prop}{St:Nat->List Addr->Heap->Prop}
theorem zu2(L:CompL c A d φ₀ s₀ wz wu res0 res' scope tgt t wv D it wr items ok St)(T:Turn c wv res0 loc φ₀ s₀ D wr St i av φ H s)(hx:items[i]?=some x)(hok:ok H)(hb:zg8 t x loc=some l')
  (h:∀s₃,FSim c wv res' none l' φ s₃.heap->Turn c wv res0 loc φ₀ s₀ D wr St (i+1) av φ H s₃->Q s₃) :
  wpAny (model c.prog c.w) A (pyNext it) (fun r s₁=>match r with
   |none=>False
   |some v=>wpAny (model c.prog c.w) A (letOwnedTupleGo tgt it v) (fun J s₁'=>wpAny (model c.prog c.w) A (assign tgt wv v) (fun J s₂=>Q s₂) (fun J J=>False) s₁') (fun J J=>False) s₁) (fun J J=>False) s:=by
 have its:=L.I.seen i φ s.heap T.st
 have hEX:=L.EX
 refine qac (L.I.item i x φ H s _ hx T.st T.sim hok) ?_ fun J J h=>h
 rintro r s₁ w0;refine w0 _ fun v wk h₁=>?_;clear w0;subst wk
 refine qac h₁ ?_ fun J J h=>h
 rintro _ s₂ ⟨k₂,st₂,R₂⟩
 have F₂:=T.fr.kept its k₂
 refine qac (zql (L.hA.hd rfl) hEX (L.K.tgt wv L.hcs) hb F₂ (T.sim.kept k₂ its) R₂) ?_ fun J J h=>h
 rintro _ s₃ ⟨F₃,S₃,e₃,k₃⟩
 have ow₃:=F₂.ownX hEX
 have hwC:∀b∈wr,b∉XC wv:=fun b hb hm=>by
  have off:=Off.its F₂ (L.I.seen _ _ _ st₂)
  rcases hEX.only b hm with rfl |⟨y,hy⟩
  ·exact off.loc hb
  ·exact off.cells y b hy hb
 exact h s₃ F₃ ⟨(T.ext.kept k₂ L.hw0).kept k₃ L.hX0,S₃,F₃.sub (by rw[L.K.n0,<-L.K.n'.1,<-(zn6 hb).1];exact F₃.len) (L.K.fr0.trans L.K.n'.2.symm) fun y j hy=>⟨(L.K.sub0 y j hy).dn,((zn6 hb).2 (L.K.sub0 y j hy).out).symm⟩,
  L.I.frame _ _ _ _ _ _ st₂ e₃.toKp ow₃ hwC,(T.acc.keep (k₂.kp its) its.own (T.acc.out its)).keep e₃.toKp ow₃ L.hDX⟩
theorem Turn.mono(L:CompL c A d φ₀ s₀ wz wu res0 res' scope tgt t wv D it wr items ok St)(T:Turn c wv res0 loc φ₀ s₀ D wr St i av φ H s)(e:Ext [] φ s φ' s')(S:Sim c φ' H' s'):Turn c wv res0 loc φ₀ s₀ D wr St i av φ' H' s':=
 ⟨T.ext.trans e,S,T.fr.mono e,L.I.frame _ _ _ _ _ _ T.st e.toKp OwnX.nil (fun J J h=>nomatch h),T.acc.keep e.toKp OwnX.nil (fun h=>nomatch h)⟩
theorem zw1(L:CompL c A d φ₀ s₀ wz wu res0 res' scope tgt t wv D it wr items ok St)(T:Turn c wv res0 loc φ₀ s₀ D wr St i av φ H s)(R:Rep c φ s.heap v r)(hsz:av.length<qag)
  (h:∀s',Turn c wv res0 loc φ₀ s₀ D wr St i (av++[v]) φ H s'->Q s'):wpAny (model c.prog c.w) A (call (.builtin "list.append") [.ref D,r]) (fun J s'=>Q s') E s:=by
 have hDw:=T.acc.out (L.I.seen _ _ _ T.st)
 obtain⟨vs,n,ho,hr,hD⟩:=T.acc
 refine wpAny_list_append_plain (l:=D) (items:=vs) ⟨n,ho⟩ (fun h' hp hs=>?_) (by rw[<- zbj,hr.length];exact zap hsz)
 obtain⟨kp,ow,S'⟩:=grow T.sim ho hD L.hDh hs
 obtain⟨n',ho'⟩:=hp
 refine h _ ⟨?_,S',T.fr.off (s':={ s with heap:=h' }) kp ow (Off.list T.fr ho) fun o ho1=>⟨o.slots,(hs.2 _ (fun q=>(Off.list T.fr ho).loc (by rw[q];exact zad))).trans ho1⟩,
  L.I.frame _ _ _ _ _ _ T.st kp ow fun b hb hm=>hDw (zaf.mp hm▸hb),⟨_,n',ho',?_,hD⟩⟩
 ·exact T.ext.kept (wr:=[D]) ⟨fun b o hb ho=>(hs.2 b fun q=>hb (by rw[q];exact zad)).trans ho,rfl,rfl⟩ fun b hb=>by rw[zaf.mp hb];exact L.hD0
 ·rw[Array.toList_push]
  exact RepL.append (RepL.mono kp ow hr) (show RepL c φ h' [v] [r] from⟨Rep.mono kp ow R,rfl⟩)
theorem zt9(L:CompL c A d φ₀ s₀ wz wu res0 res' scope tgt t wv D it wr items ok St)(helt:zce c wv res' elt xelt)(hifs:zeh c wv res' ifs xifs)(wq:items.length<=qag)
  (T:Turn c wv res0 loc φ₀ s₀ D wr St 0 [] φ H s) (hok:ok H) (hw:zfe ok (compStep c d t xifs xelt loc) items [] QQ H)
  (hR:∀av φ' H' s',Ext [] φ₀ s₀ φ' s'->Sim c φ' H' s'->FSim c wv res0 none loc φ' s'.heap->AccAt c φ' s'.heap D av->av.length<=qag->QQ av H'->R (.ok .next) s') :
  codeAny (model c.prog c.w) A (.compLoop (.ListComp elt [⟨tgt,iter,ifs,0⟩] scope pos) 0 it (.ref D) wv) R s:=by
 refine zn7 (CompI c wv res0 loc φ₀ s₀ D wr St items ok (compStep c d t xifs xelt loc) QQ) ?_ (items.length+1) (fun J kJ=>kJ 0 [] φ H rfl (zax _) (zae _) T hok hw)
 rintro k s w0;refine w0 _ fun i av φ H wk hi hav T hok hw=>?_;clear w0;subst wk
 by_cases hlt:i<items.length
 ·have hx:items[i]?=some items[i]:=zai hlt
  rw[zb5 hlt] at hw
  generalize items[i]=x at hx hw
  refine xI (fun l' hb hw=>?_) (show Opt (zg8 t x loc) _ from hw)
  have hm:items.length-(i+1)+1<items.length-i+1:=by exact ar1 [_,_] [] kbg (Y1 (Y0 (Y2 V0 (Y0 V1 J1)) J1) (Y0 (Y2 V0 V1) J1)) (Y1 V1 V0) hlt
  refine qac (zu2 L T hx hok hb (Q:=fun s₂=>wpAny (model c.prog c.w) A (forIn ifs true fun c r=>if r=true then do let ok<-isTrue c wv (eval c wv);pure (qbg ok) else pure (qbg r)) (fun ok' s₃=>
      if ok'=true then wpAny (model c.prog c.w) A (eval elt wv) (fun x s₄=>
       wpAny (model c.prog c.w) A (call (.builtin "list.append") [.ref D,x]) (fun J s₅=>∃m,m<items.length-i+1/\CompI c wv res0 loc φ₀ s₀ D wr St items ok (compStep c d t xifs xelt loc) QQ m s₅) (fun J J=>False) s₄) (fun J J=>False) s₃
      else ∃m,m<items.length-i+1/\CompI c wv res0 loc φ₀ s₀ D wr St items ok (compStep c d t xifs xelt loc) QQ m s₃) (fun J J=>False) s₂) fun s₃ F₃ T₃=>?_) (fun r J h=>by cases r with |none=>exact h.elim |some v=>exact h) fun J J h=>h
  refine qac (zq3 hifs A true d none l' φ H s₃ _ _ (L.hA.mono T₃.ext) F₃ T₃.sim hw) ?_ fun J J h=>h
  rintro b s₄ ⟨φ₄,H₄,e₄,S₄,w₄⟩
  have T₄:=T₃.mono L e₄ S₄
  cases b with
  |false=>exact⟨_,hm,(fun J kJ=>kJ (i+1) av φ₄ H₄ rfl hlt (zbp hav) T₄ w₄.1 w₄.2)⟩
  |true=>
   refine qac (helt A true d none l' φ₄ H₄ s₄ _ _ (L.hA.mono T₄.ext) (F₃.mono e₄) S₄ w₄) ?_ fun J J h=>OutX.no h
   rintro r s₅ ⟨φ₅,H₅,v₅,e₅,S₅,R₅,w₅⟩
   exact zw1 L (T₄.mono L e₅ S₅) R₅ (za3 hav (zat hlt wq)) fun s' T'=>⟨_,hm,(fun J kJ=>kJ (i+1) (av++[v₅]) φ₅ H₅ rfl hlt (by rw[zak];exact Nat.succ_le_succ hav) T' w₅.1 w₅.2)⟩
 ·obtain rfl:i=items.length:=Nat.le_antisymm hi (za7 hlt)
  rw[List.drop_length] at hw
  have its:=L.I.seen _ φ s.heap T.st
  refine qac (L.I.done φ H s _ T.st T.sim hok) ?_ fun J J h=>h
  rintro r s₁ ⟨rfl,k₁⟩
  exact hR av φ H s₁ (T.ext.kept k₁ L.hw0) (T.sim.kept k₁ its) (T.fr.kept its k₁) (T.acc.keep (k₁.kp its) its.own (T.acc.out its)) (zac hav wq) hw
end
end
variable {Q QQ:SPost}{l':Nat}{n:Str}
section
open PySem PyProof.Rows
structure Gone(c:Cx)(φ:List Addr)(H:Hp)(s:Shared)(C:Addr)(h':Heap):Prop where
 kp:Kp [C] φ s.heap φ h'
 ow:OwnX c [C] s.heap
 sim:Sim c φ H { s with heap:=h' }
 kept:Kept [C] s { s with heap:=h' }
theorem gone(S:Sim c φ H s)(hn:NsD s.heap C m)(hat:m (qab "at")=none)(hφ:C∉φ)(h0:c.h0.get? C=none)(hn':NsD h' C m')(hs:SameD C s.heap h'):Gone c φ H s C h':=by
 obtain⟨⟨o,es,n,ho,hd,_,hm⟩,o1,ho1,hc1⟩:=hn
 obtain rfl:=zaa (ho.symm.trans ho1)
 obtain⟨⟨o',es',n',ho',hd',_⟩,o1',ho1',hc1'⟩:=hn'
 obtain rfl:=zaa (ho'.symm.trans ho1')
 have keep:∀b o,b≠C->s.heap.get? b=some o->h'.get? b=some o:=fun b o hb ho=>(hs.same.2 b hb).trans ho
 have kp:=zkw (φ:=φ) keep (fun ob es1 k hb J=>by obtain rfl:=zaa (ho.symm.trans hb);exact⟨o',es',n',ho',hd',hs.dk _ _ ho ho'⟩) (fun ob vs hb hd1=>by obtain rfl:=zaa (ho.symm.trans hb);rw[hd] at hd1;injection hd1)
 have ow:OwnX c [C] s.heap:=fun b hb ob hob=>by
  rw[zaf.mp hb] at hob ⊢
  obtain rfl:=zaa (ho.symm.trans hob)
  exact .inr (.inr (.inl ⟨hc1,es,n,hd,(hm _).trans hat⟩))
 exact⟨kp,ow,S.mono (s':={ s with heap:=h' }) kp ow (fun b hb=>by rw[zaf.mp hb];exact h0) (fun a ha o ho=>keep a o (fun q=>hφ (q▸ha)) ho) (fun b o hb J=>keep b o (fun q=>by rw[q,h0] at hb;injection hb) (S.stays b o hb)) S.gens fun b ps hb=>keep b _ (fun q=>by rw[q,ho] at hb;(injection hb with Ja;subst Ja);injection hd) hb,
  fun b o hb ho=>keep b o (fun q=>hb (by rw[q];exact zad)) ho,rfl,rfl⟩
def Made(c:Cx)(φ:List Addr)(s:Shared)(Q:V->Hp->Prop)(D C:Addr)(s':Shared):Prop:=∀GJ:Prop,(∀(φ':List Addr),∀(H':Hp),∀(a:Nat),Ext [] φ s φ' s'->Sim c φ' H' s'->Rep c φ' s'.heap (.lst a) (.ref D)->Q (.lst a) H'->C∉φ'->∀(m:Str->Option Value),NsD s'.heap C m->(m (qab "at")=none)->(s.heap.get? C=none)->(c.h0.get? C=none)->GJ)->GJ
theorem zqn{scope:Scope}(K:CompOk c wz wu res0 res' scope tgt t)(hfold:∀x,qbr iter wz x=pure x)(hsrc:zce c wz wu iter xsrc)
  (helt:∀wv:Env,wv.scope=qa8 scope wz->zce c wv res' elt xelt) (hifs:∀wv:Env,wv.scope=qa8 scope wz->zeh c wv res' ifs xifs)
  {A q d k loc φ H s Q} {E:XPost} {use:Option (Value->Sem Unit)} (hA:OkF c A q d φ s.heap) (hF:FSim c wz wu k loc φ s.heap) (hS:Sim c φ H s) (hw:wpE (Calls c) q d k (.comp xelt t xsrc xifs) loc Q E H)
  (hend:∀D C s',Made c φ s Q D C s'->endD (model c.prog c.w) A (OutX c φ s E) use Q' (.ref D) C (.ok .next) s') :
  wpAny (model c.prog c.w) A (comprehension (.ListComp elt [⟨tgt,iter,ifs,0⟩] scope pos) scope wz pos' (newList []) false (eval iter wz) use) Q' (OutX c φ s E) s:=by
 have hcells:∀n,(n,qap)∈scope.names->∃ca,wz.cells.lookup n=some ca:=fun n hn=>by
  obtain⟨hk,i,hi⟩:=K.free n hn
  exact(zi1 hF hk hi).addr
 refine zkq rfl hfold (zlo hcells) K.kind K.names (qac (hsrc A q d k loc φ H s _ E hA hF hS hw) ?_ fun J J h=>h)
 rintro sv s₁ ⟨φ₁,H₁,v₁,e₁,S₁,R₁,w₁⟩
 obtain⟨items,hit,wq,w₂⟩:=Opt.inv w₁
 clear w₁
 obtain⟨rfl,hitems⟩:=zuz hit
 have hh:A.handled=none:=hA.hd rfl
 refine qac (zqc hh S₁ R₁ hitems (tg:=tgt)) ?_ fun J J h=>h
 rintro it s₂ w0;refine w0 _ fun wr St e₂ S₂ I st₂ hw₂=>?_;clear w0
 have e₁₂:=e₁.trans e₂
 refine qba ?_ (by size_fits)
 refine zr2 ?_
 dsimp only
 generalize hs₃:({ s₂ with heap:=s₂.heap.push { cls:=.type "list",dict:=none,data:=.seq ([]:List Value).toArray } }:Shared)=s₃
 have hh₃:s₃.heap=s₂.heap.push { cls:=.type "list",dict:=none,data:=.seq ([]:List Value).toArray }:=by rw[<- hs₃]
 have keep₄:∀b o,s₃.heap.get? b=some o->(qat (s₃.heap.push { cls:=.type "dict",data:=.dict #[] }) scope.names).get? b=some o:=fun b o hb=>qbp _ _ _ _ (qae _ hb)
 have hz₅:(s₃.heap.push { cls:=.type "dict",data:=.dict #[] }).objs.size=s₃.heap.objs.size+1:=qbc ..
 generalize hs₄:({ s₃ with heap:=qat (s₃.heap.push { cls:=.type "dict",data:=.dict #[] }) scope.names }:Shared)=s₄
 have hz₃:s₃.heap.objs.size=s₂.heap.objs.size+1:=by rw[hh₃,qbc]
 have e₃:Ext [] φ₁ s₂ φ₁ s₃:=by rw[<- hs₃];exact Ext.push
 have S₃:Sim c φ₁ H₁ s₃:=by rw[<- hs₃];exact S₂.push _
 have e₄:Ext [] φ₁ s₃ φ₁ s₄:=by rw[<- hs₄];exact Ext.of_keeps keep₄ rfl
 have S₄:Sim c φ₁ H₁ s₄:=by rw[<- hs₄];exact S₃.keeps (s':={ s₃ with heap:=_ }) keep₄ rfl
 have hD₃:s₃.heap.get? s₂.heap.objs.size=some (lobj #[] 0):=by rw[hh₃];exact qah _ rfl
 have hD₄:s₄.heap.get? s₂.heap.objs.size=some (lobj #[] 0):=by rw[<- hs₄];exact keep₄ _ _ hD₃
 have hC₅:(s₃.heap.push { cls:=.type "dict",data:=.dict #[] }).get? s₃.heap.objs.size=some { cls:=.type "dict",data:=.dict #[] }:=qah _ rfl
 have e₀₄:Ext [] φ s φ₁ s₄:=(e₁₂.trans e₃).trans e₄
 have hD0:s.heap.get? s₂.heap.objs.size=none:=e₁₂.fresh S₂ (qal (zae _))
 have hC0:s.heap.get? s₃.heap.objs.size=none:=(e₁₂.trans e₃).fresh S₃ (qal (zae _))
 have hw0:∀b∈wr,s.heap.get? b=none:=fun b hb=>e₁.fresh S₁ (hw₂ b hb)
 have hDC:s₂.heap.objs.size≠s₃.heap.objs.size:=by rw[hz₃];exact zar (Nat.lt_succ_self _)
 have hDh:=S₂.h0_new (zae s₂.heap.objs.size)
 have hCh:=S₃.h0_new (zae s₃.heap.objs.size)
 have hDφ:s₂.heap.objs.size∉φ₁:=S₂.new
 have hCφ:s₃.heap.objs.size∉φ₁:=S₃.new
 have hnew:∀b,s₃.heap.objs.size<=b->b∉φ₁/\c.h0.get? b=none:=fun b hb=>⟨fun hm=>za9.mpr hb (S₃.lt hm),S₃.h0_new hb⟩
 have F₃:=hF.mono e₀₄
 rw[<- hs₄] at F₃
 have F₄:=zsd K hz₅ F₃ hC₅ hnew
 have EX:=comp_env K hz₅ (hF.mono (e₁₂.trans e₃)) (fun b o hb=>qa5 hb)
 have hX0:∀b∈XC (compEnvC scope (qas (s₃.heap.objs.size+1) scope.names (ze2 wz scope.names [])) s₃.heap.objs.size wz),s.heap.get? b=none:=fun b hb=>
  (e₁₂.trans e₃).fresh S₃ (qal ((zuw hb).elim (fun h=>za8 h.symm) fun h=>zap h.2))
 have hDX:s₂.heap.objs.size∉XC (compEnvC scope (qas (s₃.heap.objs.size+1) scope.names (ze2 wz scope.names [])) s₃.heap.objs.size wz):=fun h=>by
  have hlt:s₂.heap.objs.size<s₃.heap.objs.size:=by rw[hz₃];exact Nat.lt_succ_self _
  exact(zuw h).elim (fun h=>zar hlt h) fun h=>Nat.lt_asymm hlt h.2
 have st₄:=I.frame _ _ _ _ _ _ (I.frame _ _ _ _ _ _ st₂ e₃.toKp OwnX.nil fun J J h=>nomatch h) e₄.toKp OwnX.nil fun J J h=>nomatch h
 have hok:okV v₁ items H₁:=by
  cases v₁ with
  |lst a=>exact hitems
  |_=>trivial
 have loop:codeAny (model c.prog c.w) A (.compLoop (.ListComp elt [⟨tgt,iter,ifs,0⟩] scope pos) 0 it (.ref s₂.heap.objs.size) (compEnvC scope (qas (s₃.heap.objs.size+1) scope.names (ze2 wz scope.names [])) s₃.heap.objs.size wz))
   (endD (model c.prog c.w) A (OutX c φ s E) use Q' (.ref s₂.heap.objs.size) s₃.heap.objs.size) s₄:=by
  refine zt9 (c:=c) (wz:=wz) (wu:=wu) (loc:=loc) (QQ:=fun acc H'=>Q (.lst H'.length) (H'++[acc])) ⟨hA,K,rfl,I,EX,hX0,hD0,hw0,hDX,hDh⟩ (helt _ rfl) (hifs _ rfl) wq
   ⟨e₀₄,S₄,hs₄▸F₄,st₄,⟨#[],0,hD₄,rL,hDφ⟩⟩ hok w₂ ?_
  intro av φ' H' s' e' S' F' hacc hav hq
  obtain⟨vs,n,ho,hr,hD'⟩:=hacc
  obtain⟨m,⟨hn,o,h1,h2⟩,_,_⟩:=F'.ns
  have h2':o.cls=.type "dict"/\m (qab "at")=none:=by
   rcases h2 with h2 |h2
   ·rw[K.fr0] at h2;cases h2.2
   ·exact⟨h2.1,h2.2.1⟩
  refine hend _ _ s' (fun J kJ=>kJ (φ'++[s₂.heap.objs.size]) (H'++[av]) H'.length ?_ (S'.adopt hD' hDh ho rfl rfl ⟨rfl,rfl⟩ hr hav) (LstAt.mk _ rfl (by rw[zbq (za8 S'.len)];simp[S'.len])) hq (fun hm=>?_) m ⟨hn,o,h1,h2'.1⟩ h2'.2 hC0 hCh)
  ·exact{ e' with
    pre:=e'.pre.trans (List.prefix_append _ _)
    new:=fun a ha=>(zaj.mp ha).elim (e'.new a) fun h=>.inr (by rw[zaf.mp h];exact hD0) }
  ·rcases zaj.mp hm with h |h
   ·exact F'.Lφ h
   ·exact hDC (zaf.mp h).symm
 subst hs₄
 subst hs₃
 exact codeAny_compStart_list loop (I.self 0 φ₁ _ _ _ st₄ loop)
theorem ztf{scope:Scope}(K:CompOk c wz wu res0 res' scope tgt t)(hfold:∀x,qbr iter wz x=pure x)(hsrc:zce c wz wu iter xsrc)
  (helt:∀wv:Env,wv.scope=qa8 scope wz->zce c wv res' elt xelt) (hifs:∀wv:Env,wv.scope=qa8 scope wz->zeh c wv res' ifs xifs) :
  zce c wz wu (.ListComp elt [⟨tgt,iter,ifs,0⟩] scope pos) (.comp xelt t xsrc xifs):=fun A q d k loc φ H s Q E hA hF hS hw=>by
 rw[eval_ListComp]
 refine zqn K hfold hsrc helt hifs hA hF hS hw ?_
 rintro D C s' w0;refine w0 _ fun φ' H' a e S R hq hC m hm hat hC0 hCh=>?_;clear w0
 refine⟨m,hm,fun h' m' hn' hs'=>?_⟩
 have g:=gone S hm hat hC hCh hn' hs'
 exact⟨φ',H',.lst a,e.kept g.kept fun b hb=>by rw[zaf.mp hb];exact hC0,g.sim,Rep.mono g.kp g.ow R,hq⟩
end
section
open PySem PyProof.Rows
structure NStep(c:Cx)(xs:List Addr)(s s':Shared):Prop where
 keep:∀b o,b∉xs->s.heap.get? b=some o->o.cls≠.type "frame"->s'.heap.get? b=some o
 slot:∀b o,b∉xs->s.heap.get? b=some o->∃sl,s'.heap.get? b=some { o with slots:=sl }
 base:∀b o,c.h0.get? b=some o->s.heap.get? b=some o->s'.heap.get? b=some o
 exc:∀b o,b∈xs->s.heap.get? b=some o->∃vs,s'.heap.get? b=some { o with data:=.fields vs }
 gens:s'.gens=s.gens
 os:s'.os=s.os
def Excs(c:Cx)(xs φ:List Addr)(h:Heap):Prop:=∀b∈xs,b∉φ/\c.h0.get? b=none/\∃o vs,h.get? b=some o/\o.data=.fields vs/\((∃C,o.cls=.ref C)\/o.cls=.type "traceback")
theorem NStep.trans(a:NStep c xs s s₁)(b:NStep c xs s₁ s'):NStep c xs s s' where
 keep x o hx ho hc:=b.keep x o hx (a.keep x o hx ho hc) hc
 slot x o hx ho:=by
  obtain⟨sl,h1⟩:=a.slot x o hx ho
  obtain⟨sl',h2⟩:=b.slot x _ hx h1
  exact⟨sl',h2⟩
 base x o h0 ho:=b.base x o h0 (a.base x o h0 ho)
 exc x o hx ho:=by
  obtain⟨vs,h1⟩:=a.exc x o hx ho
  obtain⟨vs',h2⟩:=b.exc x _ hx h1
  exact⟨vs',h2⟩
 gens:=b.gens.trans a.gens
 os:=b.os.trans a.os
theorem NStep.refl(hx:Excs c xs φ s.heap):NStep c xs s s where
 keep _ _ _ h _:=h
 slot _ o _ h:=⟨o.slots,h⟩
 base _ _ _ h:=h
 exc b o hb ho:=by
  obtain⟨_,_,o',vs,h1,h2,_⟩:=hx b hb
  replace h1:=zaa (ho.symm.trans h1);subst h1
  exact⟨vs,by rw[<- h2];exact ho⟩
 gens:=rfl
 os:=rfl
theorem NStep.kp(n:NStep c xs s s')(hx:Excs c xs φ s.heap):Kp xs φ s.heap φ s'.heap where
 pre:=zbz
 keep b o hb _ hX hc:=n.keep b o hX hb (fix_no hc)
 new _ h:=.inl h
 dict b o es k hb _ hd:=by
  have hn:b∉xs:=fun hm=>by
   obtain⟨_,_,o',vs,h1,h2,_⟩:=hx b hm
   replace h1:=zaa (hb.symm.trans h1);subst h1;rw[hd] at h2;injection h2
  obtain⟨sl,h1⟩:=n.slot b o hn hb
  exact⟨_,es,k,h1,hd,.same rfl rfl⟩
 exc b o vs C hb _ hc hd:=by
  by_cases hm:b∈xs
  ·exact n.exc b o hm hb
  ·exact⟨vs,by rw[<- hd];exact n.keep b o hm hb (by rw[hc];intro q;injection q)⟩
theorem Excs.own(hx:Excs c xs φ s.heap):OwnX c xs s.heap:=fun b hb o ho=>by
 obtain⟨_,_,o',vs,h1,_,h3⟩:=hx b hb
 replace h1:=zaa (ho.symm.trans h1);subst h1
 rcases h3 with h3 |h3
 ·exact .inr (.inr (.inr h3))
 ·exact .inl (by rw[h3];decide)
theorem Sim.noted(S:Sim c φ H s)(n:NStep c xs s s')(hx:Excs c xs φ s.heap):Sim c φ H s':=
 S.mono (n.kp hx) hx.own (fun b hb=>(hx b hb).2.1) (fun a ha o ho=>by
  obtain⟨o',h1,h2⟩:=S.isList ha
  replace h1:=zaa (ho.symm.trans h1);subst h1
  exact n.keep a o (fun hm=>(hx a hm).1 ha) ho (by rw[h2];decide)) (fun b o hb J=>n.base b o hb (S.stays b o hb)) (n.gens.trans S.gens) fun b ps hb=>n.keep b _ (fun hm=>by obtain⟨_,_,o1,vs,h1,_,h3⟩:=hx b hm;replace h1:=zaa (hb.symm.trans h1);subst h1;exact h3.elim (fun⟨_,q⟩=>nomatch q) fun q=>nomatch q) hb (fun q=>nomatch q)
theorem Off.excs(F:FSim c wz wu k loc φ s.heap)(h:Excs c xs φ s.heap):Off wz xs s where
 loc hm:=by
  obtain⟨_,_,o,vs,h1,h2,_⟩:=h _ hm
  obtain⟨m,⟨⟨o',es,n,h3,h4,_⟩,_⟩,_⟩:=F.ns
  replace h3:=zaa (h1.symm.trans h3);subst h3
  rw[h2] at h4;injection h4
 cells x ca hx hm:=by
  obtain⟨_,_,o,vs,h1,h2,h5⟩:=h _ hm
  obtain⟨_,_,o',h3,h4⟩:=F.cells x ca hx
  replace h3:=zaa (h1.symm.trans h3);subst h3
  rcases h5 with⟨C,h5⟩|h5
  ·rw[h4] at h5;injection h5
  ·rw[h4] at h5;exact absurd h5 (by decide)
 clo ca o ho hc _ hm:=by
  obtain⟨_,_,o',vs,h1,h2,h5⟩:=h _ hm
  replace h1:=zaa (ho.symm.trans h1);subst h1
  rcases h5 with⟨C,h5⟩|h5
  ·rw[hc] at h5;injection h5
  ·rw[hc] at h5;exact absurd h5 (by decide)
theorem FSim.noted(F:FSim c wz wu k loc φ s.heap)(n:NStep c xs s s')(hx:Excs c xs φ s.heap):FSim c wz wu k loc φ s'.heap:=
 F.off (n.kp hx) hx.own (Off.excs F hx) fun o ho=>n.slot _ o (Off.excs F hx).loc ho
theorem Ext.noted(e:Ext X φ₀ s₀ φ s)(n:NStep c xs s s')(hn:∀b∈xs,s₀.heap.get? b=none):Ext X φ₀ s₀ φ s' where
 pre:=e.pre
 keep b o hb hφ hX hc:=n.keep b o (fun q=>by exact no1 ((hn b q).symm.trans hb)) (e.keep b o hb hφ hX hc) (fix_no hc)
 new:=e.new
 tabs b o hb hφ hX hc:=
  let⟨o',h',c'⟩:=e.tabs b o hb hφ hX hc
  ⟨o',n.keep b o' (fun q=>by exact no1 ((hn b q).symm.trans hb)) h' (by rw[c'];decide),c'⟩
 frame b o hb hφ hX hc:=by
  obtain⟨sl,h₁⟩:=e.frame b o hb hφ hX hc
  obtain⟨sl',h₂⟩:=n.slot b _ (fun q=>by exact no1 ((hn b q).symm.trans hb)) h₁
  exact⟨sl',h₂⟩
 dict b o es k hb hφ hd:=by
  obtain⟨o₁,es₁,n₁,h₁,d₁,c₁⟩:=e.dict b o es k hb hφ hd
  obtain⟨sl',h₂⟩:=n.slot b _ (fun q=>by exact no1 ((hn b q).symm.trans hb)) h₁
  exact⟨_,es₁,n₁,h₂,d₁,DKo.trans (o₁:=o₁) (DKo.same rfl rfl) c₁ d₁⟩
 exc b o vs C hb hφ hc hd:=by
  obtain⟨vs₁,h₁⟩:=e.exc b o vs C hb hφ hc hd
  exact⟨vs₁,n.keep b _ (fun q=>by exact no1 ((hn b q).symm.trans hb)) h₁ (by show o.cls≠_;rw[hc];intro q;injection q)⟩
 alive b o hb hX:=by
  obtain⟨o',h'⟩:=e.alive b o hb hX
  obtain⟨sl',h₂⟩:=n.slot b _ (fun q=>by exact no1 ((hn b q).symm.trans hb)) h'
  exact⟨_,h₂⟩
 os:=n.os.trans e.os
def HasT(h:Heap)(e:Value):Prop:=∃a o vs T,e=.ref a/\h.get? a=some o/\o.data=.fields vs/\vs[1]?=some (.ref T)
theorem XRep.excs(q:XRep c φ s₀ h x e):∃a o vs,e=.ref a/\h.get? a=some o/\o.data=.fields vs/\1<vs.size/\(∃C,o.cls=.ref C) /\
  ((vs[1]?=some .none/\Excs c [a] φ h/\∀b∈[a],s₀.heap.get? b=none) \/
   ∃T oT ts,vs[1]?=some (.ref T)/\T≠a/\h.get? T=some oT/\oT.data=.fields ts/\3<ts.size/\oT.cls=.type "traceback"/\Excs c [a,T] φ h/\∀b∈[a,T],s₀.heap.get? b=none):=by
 obtain⟨h1,⟨cn,y,rfl⟩,a,o,vs,rfl,h4,h5,h6,h7⟩:=q
 simp only[Rep] at h1
 obtain⟨a',o',vs',h8,h9,h10,h11,h12,h13,h14,_⟩:=h1
 (injection h8 with Ja;subst Ja)
 replace h11:=zaa (h5.symm.trans h11);subst h11
 rw[h6] at h14;injection h14 with Ja;subst Ja
 refine⟨a,o,vs,rfl,h5,h6,?_,h12,?_⟩
 ·rcases h7 with h7 |⟨T,_,_,h7,_⟩<;>exact(Array.getElem?_eq_some_iff.mp h7).1
 ·rcases h7 with h7 |⟨T,oT,ts,g1,g2,g3,g4,g5,g6,g7,g8⟩
  ·refine .inl ⟨h7,fun b hb=>?_,by simpa using h4⟩
   rw[zaf.mp hb]
   exact⟨h9,h10,o,vs,h5,h6,.inl h12⟩
  ·have hne:T≠a:=fun q=>by
    rw[q,h5] at g5;(injection g5 with Ja;subst Ja)
    obtain⟨C,h12⟩:=h12
    rw[h12] at g6;injection g6
   refine .inr ⟨T,oT,ts,g1,hne,g5,g7,g8,g6,fun b hb=>?_,fun b hb=>?_⟩
   ·simp only[zah,zbd,or_false] at hb
    rcases hb with rfl |rfl
    ·exact⟨h9,h10,o,vs,h5,h6,.inl h12⟩
    ·exact⟨g3,g4,oT,ts,g5,g7,.inr g6⟩
   ·simp only[zah,zbd,or_false] at hb
    rcases hb with rfl |rfl
    ·exact h4
    ·exact g2
end
section
open PySem PyProof.Rows
theorem zoh(h:o.data=.fields vs)(f:Array Value->Array Value):qbq f o={ o with data:=.fields (f vs) }:=by
 obtain⟨a,b,d,e⟩:=o
 subst h
 rfl
theorem NStep.upd(hx:Excs c xs φ s.heap)(hb:b∈xs)(ho:s.heap.get? b=some o)(hd:o.data=.fields vs)(f:Array Value->Array Value) :
  NStep c xs s { s with heap:=s.heap.update b (qbq f) }/\(s.heap.update b (qbq f)).get? b=some { o with data:=.fields (f vs) }:=by
 have self:(s.heap.update b (qbq f)).get? b=some { o with data:=.fields (f vs) }:=by
  rw[qam _ ho (Obj.isFreed_of_fields (Obj.data_mapFields hd f)),zoh hd]
 refine⟨⟨fun a oa ha hoa J=>?_,fun a oa ha hoa=>⟨oa.slots,?_⟩,fun a oa h0 hoa=>?_,fun a oa ha hoa=>?_,rfl,rfl⟩,self⟩
 ·exact(qa0 _ _ (fun(q:b=a)=>ha (q▸hb))).trans hoa
 ·exact(qa0 _ _ (fun(q:b=a)=>ha (q▸hb))).trans hoa
 ·exact(qa0 _ _ (fun q=>by rw[<- q,(hx b hb).2.1] at h0;injection h0)).trans hoa
 ·by_cases q:a=b
  ·subst q
   replace hoa:=zaa (ho.symm.trans hoa);subst hoa
   exact⟨_,self⟩
  ·obtain⟨_,_,o',vs',h1,h2,_⟩:=hx a ha
   replace h1:=zaa (hoa.symm.trans h1);subst h1
   exact⟨vs',by rw[<- h2];exact(qa0 _ _ (qax q)).trans hoa⟩
theorem NStep.push(hx:Excs c xs φ s.heap)(o:Obj):NStep c xs s { s with heap:=s.heap.push o } where
 keep _ _ _ h _:=qae _ h
 slot _ o' _ h:=⟨o'.slots,qae _ h⟩
 base _ _ _ h:=qae _ h
 exc b o' hb ho:=by
  obtain⟨_,_,o1,vs,h1,h2,_⟩:=hx b hb
  replace h1:=zaa (ho.symm.trans h1);subst h1
  exact⟨vs,by rw[<- h2];exact qae _ ho⟩
 gens:=rfl
 os:=rfl
theorem zsh(hE:∀wz∈l,EnvOk c φ h wz):h.FunFrames c.h0 l:=by
 induction l with
 |nil=>trivial
 |cons wz l ih=>
  obtain⟨h1,L,o,es,n,h2,h3,h4,h5,h6,h7⟩:=hE wz zad
  exact⟨h1.1,⟨L,o,h2,h3,h5,fun vs q=>by rw[h6] at q;injection q⟩,ih fun wz he=>hE wz (zag _ he)⟩
theorem zgo(hE:∀wz∈l,EnvOk c φ h wz)(hb:b∈l.filterMap (·.frame)):c.h0.get? b=none/\∃o es n,h.get? b=some o/\o.cls=.type "frame"/\o.data=.dict es n:=by
 obtain⟨wz,he,hf⟩:=List.mem_filterMap.mp hb
 obtain⟨h1,L,o,es,n,h2,h3,h4,h5,h6,h7⟩:=hE wz he
 replace h2:=zaa (hf.symm.trans h2);subst h2
 exact⟨h3,o,es,n,h5,h7,h6⟩
theorem NStep.slots(hx:Excs c xs φ s.heap)(hE:∀wz∈l,EnvOk c φ s.heap wz)(hs:Heap.SlotsOnly (l.filterMap (·.frame)) s.heap h'):NStep c xs s { s with heap:=h' } where
 keep b o _ ho hc:=by
  refine(hs.2.1 b fun hm=>?_).trans ho
  obtain⟨_,o',_,_,h1,h2,_⟩:=zgo hE hm
  replace h1:=zaa (ho.symm.trans h1);subst h1;exact hc h2
 slot b o _ ho:=hs.2.2 b o ho
 base b o h0 ho:=(hs.2.1 b fun hm=>by exact no1 (((zgo hE hm).1).symm.trans h0)).trans ho
 exc b o hb ho:=by
  obtain⟨_,_,o1,vs,h1,h2,_⟩:=hx b hb
  replace h1:=zaa (ho.symm.trans h1);subst h1
  refine⟨vs,?_⟩
  rw[<- h2]
  refine(hs.2.1 b fun hm=>?_).trans ho
  obtain⟨_,o',es,n,h3,_,h5⟩:=zgo hE hm
  replace h3:=zaa (ho.symm.trans h3);subst h3;rw[h2] at h5;injection h5
 gens:=rfl
 os:=rfl
theorem Excs.noted(hx:Excs c xs φ s.heap)(n:NStep c xs s s'):Excs c xs φ s'.heap:=fun b hb=>by
 obtain⟨h1,h2,o,vs,h3,h4,h5⟩:=hx b hb
 obtain⟨vs',h6⟩:=n.exc b o hb h3
 exact⟨h1,h2,_,vs',h6,rfl,h5⟩
theorem EnvOk.noted(h:EnvOk c φ s.heap wz)(n:NStep c xs s s')(hx:Excs c xs φ s.heap):EnvOk c φ s'.heap wz:=by
 obtain⟨h1,L,o,es,k,h2,h3,h4,h5,h6,h7⟩:=h
 obtain⟨sl,h8⟩:=n.slot L o (fun hm=>by
  obtain⟨_,_,o',vs,h1,h2,_⟩:=hx L hm
  replace h1:=zaa (h5.symm.trans h1);subst h1;rw[h6] at h2;injection h2) h5
 exact⟨h1,L,_,es,k,h2,h3,h4,h8,h6,h7⟩
theorem zni{b:Bool}(hfr:A.frames=some (wz::outer))(hE:∀e∈wz::outer,EnvOk c φ s.heap e)(hf:wz.frame=some L)
  (hx:Excs c xs φ s.heap) (ha:a∈xs) (ho:s.heap.get? a=some o) (hd:o.data=.fields vs) (hz:1<vs.size) :
  wpAny (model c.prog c.w) A (do let fr<-frameOf wz;let pl<-entryPlaceOf L b;let t<-EntryCells.newEntry head fr .none (rawInt L) .none pl;setField (.ref a) 1 t)
   (fun J s'=>NStep c xs s s'/\∃T oT ts vs',s'.heap.get? a=some { o with data:=.fields vs' }/\vs'[1]?=some (.ref T)/\s.heap.objs.size<=T/\s'.heap.get? T=some oT/\oT.cls=.type "traceback"/\oT.data=.fields ts/\3<ts.size) E s:=by
 refine qaa (wpAny_frameOf_fun hfr (zsh hE) hf fun h₁ hs₁=>?_)
 refine qaa (wpAny_entryPlaceOf fun pl hpl=>?_)
 have n₁:=NStep.slots hx hE hs₁
 obtain⟨vs₁,ho₁⟩:=n₁.exc a o ha ho
 have hv:vs₁=vs:=by
  have:h₁.get? a=some o:=by
   refine(hs₁.2.1 a fun hm=>?_).trans ho
   obtain⟨_,o',es,n,h3,_,h5⟩:=zgo hE hm
   replace h3:=zaa (ho.symm.trans h3);subst h3;rw[hd] at h5;injection h5
  have h2:=zaa (this.symm.trans ho₁)
  rw[h2] at hd
  simpa using hd
 subst hv
 unfold EntryCells.newEntry newFields
 refine qaa (qba ?_ (hpl.sizeOk5 _ _ _ _ _))
 generalize hent:({ cls:=.type "traceback",dict:=none,data:=.fields ([head,.ref L,.none,rawInt L,.none]++(if pl.isEmpty then List.replicate 6 qar else pl)).toArray }:Obj)=ent
 have n₂:=NStep.push (s:={ s with heap:=h₁ }) (hx.noted n₁) ent
 have ho₂:(h₁.push ent).get? a=some { o with data:=.fields vs₁ }:=qae _ ho₁
 have hx₂:Excs c xs φ (h₁.push ent):=(hx.noted n₁).noted n₂
 obtain⟨n₃,ho₃⟩:=NStep.upd (s:={ s with heap:=h₁.push ent }) hx₂ ha ho₂ rfl (·.setIfInBounds 1 (qao h₁.objs.size))
 refine wpAny_setField ho₂ rfl hz ?_
 refine⟨(n₁.trans n₂).trans n₃,h₁.objs.size,ent,_,_,ho₃,by simp[hz],?_,?_,by rw[<- hent],by rw[<- hent],?_⟩
 ·rw[hs₁.1];exact zae _
 ·refine(qa0 _ _ (zar (qa5 ho₁))).trans (qah _ ?_)
  rw[<- hent];rfl
 ·simp only[List.size_toArray,zak,zba,List.length_nil]<;>exact ar0 [_] [] 171801870336 (Y1 (.l 3) (Y0 (.l 5) V0))
theorem zh6 (hfr : A.frames = some (wz :: outer)) (hE : ∀ e ∈ wz :: outer, EnvOk c φ s.heap e) (S : Sim c φ H s) (e₀ : Ext X φ₀ s₀ φ s) (q : XRep c φ s₀ s.heap x e) :
  wpAny (model c.prog c.w) A (noteFrame e wz) (fun J s' => ∃ xs, Excs c xs φ s.heap /\ (∀ b ∈ xs, s₀.heap.get? b = none) /\ NStep c xs s s' /\ XRep c φ s₀ s'.heap x e /\ HasT s'.heap e) E s := by
 obtain ⟨_, L, oL, esL, nL, hf, hL0, hLφ, hoL, hdL, hcL⟩ := hE wz zad
 obtain ⟨a, o, vs, rfl, ho, hd, hz, hC, h7⟩ := q.excs
 obtain ⟨q1, q2, _⟩ := q
 have fresh : ∀ T, s.heap.objs.size <= T -> s₀.heap.get? T = none /\ T ∉ φ /\ c.h0.get? T = none := fun T hT =>
  ⟨e₀.fresh S (qal hT), fun hm => zay _ (zat (S.lt hm) hT), S.h0_new hT⟩
 unfold noteFrame
 simp only [hf]
 rcases h7 with ⟨h1, hx, hn⟩ | ⟨T, oT, ts, h1, hTa, hoT, hdT, hzT, hcT, hx, hn⟩
 ·refine qaa (qbu ho hd h1 ?_)
  rw [if_neg (by decide)]
  refine qac (zni hfr hE hf hx (by simp) ho hd hz) ?_ fun J J h => h
  rintro _ s' ⟨n, T, oT, ts, vs', g1, g2, g3, g4, g5, g6, g7⟩
  obtain ⟨f1, f2, f3⟩ := fresh T g3
  exact ⟨[a], hx, hn, n, ⟨Rep.mono (n.kp hx) hx.own q1, q2, a, _, vs', rfl, hn a (by simp), g1, rfl, .inr ⟨T, oT, ts, g2, f1, f2, f3, g4, g5, g6, g7⟩⟩, a, _, vs', T, rfl, g1, rfl, g2⟩
 ·refine qaa (qbu ho hd h1 ?_)
  rw [if_pos (show (qao T != qar) = true from by simp)]
  have h3 : ts[3]? = some ts[3] := zb9 hzT
  refine qaa (qbu hoT hdT h3 ?_)
  by_cases hsame : (ts[3] == rawInt L) = true
  ·rw [if_pos hsame]
   exact qad ⟨[a, T], hx, hn, NStep.refl hx, ⟨q1, q2, a, o, vs, rfl, hn a (by simp), ho, hd, .inr ⟨T, oT, ts, h1, hn T (by simp), (hx T (by simp)).1, (hx T (by simp)).2.1, hoT, hcT, hdT, hzT⟩⟩, a, o, vs, T, rfl, ho, hd, h1⟩
  ·rw [if_neg hsame]
   obtain ⟨n₁, hoT₁⟩ := NStep.upd hx (b := T) (by simp) hoT hdT (·.setIfInBounds 3 qar)
   refine qaa (wpAny_setField hoT hdT hzT ?_)
   have ho₁ : (s.heap.update T (qbq (·.setIfInBounds 3 qar))).get? a = some o := (qa0 _ _ hTa).trans ho
   refine qac (zni (s := { s with heap := s.heap.update T (qbq (·.setIfInBounds 3 qar)) }) hfr (fun e he => (hE e he).noted n₁ hx) hf (hx.noted n₁) (by simp) ho₁ hd hz) ?_ fun J J h => h
   rintro _ s' ⟨n, T', oT', ts', vs', g1, g2, g3, g4, g5, g6, g7⟩
   have hsz : s.heap.objs.size <= T' := by
    have : (s.heap.update T (qbq (·.setIfInBounds 3 qar))).objs.size = s.heap.objs.size := (qa1 s.heap T _).1
    exact this ▸ g3
   obtain ⟨f1, f2, f3⟩ := fresh T' hsz
   have nn := n₁.trans n
   exact ⟨[a, T], hx, hn, nn, ⟨Rep.mono (nn.kp hx) hx.own q1, q2, a, _, vs', rfl, hn a (by simp), g1, rfl, .inr ⟨T', oT', ts', g2, f1, f2, f3, g4, g5, g6, g7⟩⟩, a, _, vs', T', rfl, g1, rfl, g2⟩
theorem zgj {fl : Option Addr} (q : XRep c φ s₀ s.heap x e) (ht : HasT s.heap e) :
  wpAny (model c.prog c.w) A (setFlight e fl) (fun J s' => ∃ xs, Excs c xs φ s.heap /\ (∀ b ∈ xs, s₀.heap.get? b = none) /\ NStep c xs s s' /\ XRep c φ s₀ s'.heap x e /\ HasT s'.heap e) E s := by
 obtain ⟨a, o, vs, rfl, ho, hd, hz, hC, h7⟩ := q.excs
 obtain ⟨q1, q2, _⟩ := q
 obtain ⟨a', o', vs', T', h8, h9, h10, h11⟩ := ht
 (injection h8 with Ja; subst Ja)
 replace h9 := zaa (ho.symm.trans h9); subst h9
 rw [hd] at h10; injection h10 with Ja; subst Ja
 rcases h7 with ⟨h1, _⟩ | ⟨T, oT, ts, h1, hTa, hoT, hdT, hzT, hcT, hx, hn⟩
 ·rw [h1] at h11; injection h11 with Ja; injection Ja
 ·unfold setFlight
  refine qaa (qbu ho hd h1 ?_)
  rw [if_pos (show (qao T != qar) = true from by simp)]
  refine wpAny_setField hoT hdT hzT ?_
  obtain ⟨n₁, hoT₁⟩ := NStep.upd hx (b := T) (by simp) hoT hdT (·.setIfInBounds 3 (fl.elim qar fun f => rawInt f))
  have ho₁ : (s.heap.update T (qbq (·.setIfInBounds 3 (fl.elim qar fun f => rawInt f)))).get? a = some o := (qa0 _ _ hTa).trans ho
  exact ⟨[a, T], hx, hn, n₁, ⟨Rep.mono (n₁.kp hx) hx.own q1, q2, a, o, vs, rfl, hn a (by simp), ho₁, hd, .inr ⟨T, _, _, h1, hn T (by simp), (hx T (by simp)).1, (hx T (by simp)).2.1, hoT₁, hcT, rfl, by simpa using hzT⟩⟩, a, o, vs, T, rfl, ho₁, hd, h1⟩
end
variable {b:List Stmt}{e:Expr}{l:Loc}{vs:List V}{x:Value}{xs:List St}
section
open PySem PyProof.Rows
def RetI(c:Cx)(φ:List Addr)(h:Heap)(r:Value)(P:V->Prop):Prop:=∀GJ:Prop,(∀(v:V),Rep c φ h v r->P v->GJ)->GJ
def FlowQ(c:Cx)(φ:List Addr)(h:Heap)(f:Flow)(P:Fl->Prop):Prop:=match f with
 |.next=>P .next
 |.ret r=>RetI c φ h r fun v=>P (.ret v)
 |_=>False
inductive OutS(c:Cx)(wz:Env)(wu:Res)(k:Clo)(φ:List Addr)(s:Shared)(X:List Addr)(Q:SPost)(f:Flow)(s':Shared):Prop
 |mk (φ':List Addr)(H':Hp)(loc':Loc)(e:Ext X φ s φ' s')(S:Sim c φ' H' s')(F:FSim c wz wu k loc' φ' s'.heap)(q:FlowQ c φ' s'.heap f fun f=>Q f loc' H'):OutS c wz wu k φ s X Q f s'
inductive OutSX(c:Cx)(wz:Env)(wu:Res)(k:Clo)(φ:List Addr)(s:Shared)(X:List Addr)(E:SX)(e:Value)(s':Shared):Prop
 |mk (φ':List Addr)(H':Hp)(loc':Loc)(x:V)(ex:Ext X φ s φ' s')(S:Sim c φ' H' s')(F:FSim c wz wu k loc' φ' s'.heap)(R:XRep c φ' s s'.heap x e)(q:E x loc' H'):OutSX c wz wu k φ s X E e s'
def HeadF(A:Around)(wz:Env):Prop:=∃outer,A.frames=some (wz::outer)
def zdm(c:Cx)(wz:Env)(wu:Res)(X:List Addr)(st:Stmt)(x:St):Prop:=
 ∀A q d k loc φ H s Q E,OkF c A q d φ s.heap->HeadF A wz->FSim c wz wu k loc φ s.heap->Sim c φ H s->wpS (Calls c) q d k x Q E loc H->
  wpAny (model c.prog c.w) A (exec st wz) (OutS c wz wu k φ s X Q) (OutSX c wz wu k φ s X E) s
def zdw(c:Cx)(wz:Env)(wu:Res)(X:List Addr)(sts:List Stmt)(xs:List St):Prop:=
 ∀A q d k loc φ H s Q E,OkF c A q d φ s.heap->HeadF A wz->FSim c wz wu k loc φ s.heap->Sim c φ H s->wpSs (Calls c) q d k xs Q E loc H->
  wpAny (model c.prog c.w) A (execs sts wz) (OutS c wz wu k φ s X Q) (OutSX c wz wu k φ s X E) s
section
variable {E:SX}
theorem OutS.lift(e:Ext X φ s φ₁ s₁)(h:OutS c wz wu k φ₁ s₁ X Q f s₂):OutS c wz wu k φ s X Q f s₂:=
 let⟨φ',H',l,e',S,F,q⟩:=h;⟨φ',H',l,e.trans e',S,F,q⟩
theorem OutSX.lift(e:Ext X φ s φ₁ s₁)(S₁:Sim c φ₁ H s₁)(h:OutSX c wz wu k φ₁ s₁ X E x s₂):OutSX c wz wu k φ s X E x s₂:=
 let⟨φ',H',l,v,e',S,F,R,hq⟩:=h;⟨φ',H',l,v,e.trans e',S,F,R.lift e S₁,hq⟩
theorem FSim.weak(F:FSim c wz wu k loc φ s.heap)(hX:EnvX al wz X)(e:Ext [] φ s φ' s'):Ext X φ s φ' s':=
 e.weaken (fun J h=>nomatch h) fun b hb=>(F.outX hX b hb).1
theorem OutX.toS(F:FSim c wz wu k loc φ s.heap)(hX:EnvX al wz X)(h:OutX c φ s (fun x H=>E x loc H) x s₁):OutSX c wz wu k φ s X E x s₁:=
 let⟨φ',H',v,e',S,R,hq⟩:=h;⟨φ',H',loc,v,F.weak hX e',S,F.mono e',R,hq⟩
theorem OutSX.no{P:Prop}(h:OutSX c wz wu k φ s X (fun J J J=>False) x s₁):P:=let⟨_,_,_,_,_,_,_,_,h⟩:=h;h.elim
theorem OkF.monoX(h:OkF c A q d φ s.heap)(e:Ext X φ s φ' s'):OkF c A q d φ' s'.heap:=h.mono e
theorem zwm(hA:OkF c A q d φ s.heap)(hh:HeadF A wz)(h:OutSX c wz wu k φ s X E x s₁) :
  notedBy (model c.prog c.w) A wz (fun e s'=>cameBackBy (model c.prog c.w) A wz (OutSX c wz wu k φ s X E) e s') x s₁:=by
 obtain⟨φ',H',l,v,e',S,F,R,hq⟩:=h
 obtain⟨outer,hfr⟩:=hh
 have hE:∀e∈wz::outer,EnvOk c φ' s₁.heap e:=by
  obtain⟨l',h1,h2⟩:=(hA.monoX e').fr
  replace h1:=zaa (hfr.symm.trans h1);subst h1;exact h2
 unfold notedBy
 refine qac (zh6 hfr hE S e' R) ?_ fun J J h=>h
 rintro _ s₂ ⟨xs,hx,hn,n,R₂,ht⟩
 have e₂:=e'.noted n hn
 have S₂:=S.noted n hx
 have F₂:=F.noted n hx
 unfold cameBackBy
 obtain⟨a,o,vs,T,rfl,g1,g2,g3⟩:=id ht
 refine qaa (qbu g1 g2 g3 ?_)
 rw[if_neg (by intro q;injection q)]
 refine qac (zgj R₂ ht) ?_ fun J J h=>h
 rintro _ s₃ ⟨xs,hx,hn,n,R₃,ht⟩
 exact⟨φ',H',l,v,e₂.noted n hn,S₂.noted n hx,F₂.noted n hx,R₃,hq⟩
theorem zj5:zdw c wz wu X [] []:=fun A q d k loc φ H s Q E hA hh hF hS hw=>by
 exact wpAny_execs_nil ⟨φ,H,loc,Ext.refl,hS,hF,hw⟩
theorem zgn {x:St} (h1:zdm c wz wu X st x) (h2:zdw c wz wu X sts xs):zdw c wz wu X (st::sts) (x::xs):=fun A q d k loc φ H s Q E hA hh hF hS hw=>by
 refine wpAny_execs_cons (qac (h1 A q d k loc φ H s _ E hA hh hF hS hw) ?_ fun J J h=>h)
 rintro f s₁ ⟨φ₁,H₁,l₁,e₁,S₁,F₁,w₁⟩
 cases f with
 |next=>exact qac (h2 A q d k l₁ φ₁ H₁ s₁ Q E (hA.monoX e₁) hh F₁ S₁ w₁) (fun J J h=>h.lift e₁) fun J J h=>h.lift e₁ S₁
 |ret r=>exact⟨φ₁,H₁,l₁,e₁,S₁,F₁,w₁⟩
 |_=>exact w₁.elim
theorem znd {x:Ex} (hX:EnvX allY wz X) (h:zce c wz wu e x):zdm c wz wu X (.Return (some e) pos) (.ret x):=fun A q d k loc φ H s Q E hA hh hF hS hw=>by
 refine wpAny_Return_some (qac (h A q d k loc φ H s _ _ hA hF hS hw) ?_ fun J J h=>OutX.toS hF hX h)
 rintro r s₁ ⟨φ₁,H₁,v,e₁,S₁,R₁,w₁⟩
 exact⟨φ₁,H₁,loc,hF.weak hX e₁,S₁,hF.mono e₁,(fun J kJ=>kJ v R₁ w₁)⟩
theorem zse{x:Ex}(hX:EnvX allY wz X)(h:zce c wz wu e x)(hs:swapsWith e none pos.line wz=pure false):zdm c wz wu X (.Expr e pos) (.expr x):=fun A q d k loc φ H s Q E hA hh hF hS hw=>by
 refine wpAny_Expr_any (qac (h A q d k loc φ H s _ _ hA hF hS hw) ?_ fun J J h=>OutX.toS hF hX h) (by simp[interactive,hF.fn]) hs
 rintro r s₁ ⟨φ₁,H₁,v,e₁,S₁,R₁,w₁⟩
 exact⟨φ₁,H₁,loc,hF.weak hX e₁,S₁,hF.mono e₁,w₁⟩
theorem zne{x:Ex}(hX:EnvX allY wz X)(h:zce c wz wu e x)(hs:swapsWith e (some (.Name y py)) pos.line wz=pure false)(hy:StoreOk allY wz wu wu y i) :
  zdm c wz wu X (.Assign [.Name y py] e pos) (.set i x):=fun A q d k loc φ H s Q E hA hh hF hS hw=>by
 refine wpAny_Assign_Name (qac (h A q d k loc φ H s _ _ hA hF hS hw) ?_ fun J J h=>OutX.toS hF hX h) hs
 rintro r s₁ ⟨φ₁,H₁,v,e₁,S₁,R₁,w₁⟩
 refine qac (ze0 (hF.mono e₁) S₁ hy hX R₁) ?_ fun J J h=>h
 rintro _ s₂ ⟨F₂,S₂,e₂,_⟩
 exact⟨φ₁,H₁,_,(hF.weak hX e₁).trans e₂,S₂,F₂,w₁⟩
theorem zv7{x:Ex} {x1}(hX:EnvX allY wz X)(h:zce c wz wu e x)(hs:swapsWithSole [.Tuple es x1 py] e pos.line wz=pure false)(hw':swappedStores [.Tuple es x1 py] e wz=pure none)(hy:zfn allY wz wu wu es is) :
  zdm c wz wu X (.Assign [.Tuple es x1 py] e pos) (.unp is x):=fun A q d k loc φ H s Q E hA hh hF hS hw=>by
 obtain⟨rfl,hw⟩:=hw
 refine PyProof.Rows.Assign_Tuple (qac (h A true d k loc φ H s _ _ hA hF hS hw) ?_ fun J J h=>OutX.toS hF hX h) hs hw'
 rintro r s₁ ⟨φ₁,H₁,v,e₁,S₁,R₁,w₁⟩
 revert w₁;refine xI fun l' hu w₂=>?_
 revert hu;refine xB fun vs hv hb=>?_
 obtain rfl:=zf7 hv
 refine qac (zn0 (hA.hd rfl) hX hy hb (hF.mono e₁) S₁ R₁) ?_ fun J J h=>h
 rintro _ s₂ ⟨F₂,S₂,e₂,_⟩
 exact⟨φ₁,H₁,_,(hF.weak hX e₁).trans e₂,S₂,F₂,w₂⟩
theorem do_put{E:Value->Shared->Prop}(S:Sim c φ H s){w:V}{y:Value}(R1:Rep c φ s.heap v x)(R2:Rep c φ s.heap w y)(R3:Rep c φ s.heap u r)(e:putV H v w u=some H') :
  wpAny (model c.prog c.w) A (setItem x y r) (fun J s'=>Ext [] φ s φ s'/\Sim c φ H' s') E s:=by
 revert e;refine xB fun i hi f=>?_
 skip
 obtain rfl:=zf4 hi
 revert f;refine xB fun k hk' f2=>?_
 obtain rfl:=zdy hk'
 revert f2;refine xB fun xs e1 f3=>?_
 revert f3;refine xS fun hk wj=>?_;subst wj
 refine(S.getP R1 e1) _ fun l us n wk ha ho hr hz z=>?_;subst wk
 obtain⟨t,rfl⟩:=R2
 have hl:=zdi ho
 have hsl:qag=2^24:=rfl
 unfold setItem
 try with_reducible refine qak ?_
 first |refine qaa (qad ?_) |skip
 refine qaa (wpAny_sequenceKey hl.typeIs (by decide) ?_)
 refine qaa (wpAny_callSpecial?_slot (name:=qab "__setitem__") hl.typeIs slot_list_setitem
  (qbl slot_list_setitem hl.typeIs entry_list_setitem ?_ (args_list_setitem _ _ _)))
 show wpAny _ _ (Builtin.List.listSubscript? (.int k t) >>=_) _ _ s
 refine qaa (wpAny_listSubscript_int (fitsIndex_of hk.1 (by exact ar4 [_,_] [_,_] kal (Y4 V0 V1) (Y4 V0 (Y4 V0 J0)) (Y0 V0 V1) (Y2 V1 (.l 16777216)) (Y5 V1 (.l 9223372036854775808)) hk.2 hz hsl (Ar.p63))) ?_)
 obtain⟨h0,hlt⟩:=hk
 obtain⟨j,rfl⟩:=Int.eq_ofNat_of_zero_le h0
 have hj:j<us.size:=by rw[z];exact zaq.mp hlt
 have hx':us[j]?=some us[j]:=zb9 hj
 show wpAny _ _ ((seqItemAt l j >>=fun r=>pure (r.map (j,·))) >>=_) _ _ s
 refine qaa (qaa (wpAny_seqItemAt ho rfl (qad ?_)))
 rw[hx']
 show wpAny _ _ (setSeqItemAt l j r >>=_) _ _ s
 have hfin:Ext [] φ s φ { s with heap:=s.heap.update l (qbs (·.setIfInBounds j r)) }/\Sim c φ (H.set i (xs.set j u)) { s with heap:=s.heap.update l (qbs (·.setIfInBounds j r)) }:=
  S.put (h':=s.heap.update l (qbs (·.setIfInBounds j r))) ha (qa1 ..) (IsL.update (n:=n) ho _) (by rw[Array.toList_setIfInBounds];exact hr.set j R3) (by rw[zbg];exact hz)
 refine qaa (wpAny_setSeqItemAt ho rfl ?_)
 first
  |exact qaa (qad (qad ⟨.none,rfl,qad hfin⟩))
  |exact qad ⟨.none,rfl,qad hfin⟩
theorem zvr{o i:Expr}{xo xi xe:Ex}(hX:EnvX allY wz X)(h1:zce c wz wu o xo)(h2:zce c wz wu i xi)(h3:zce c wz wu e xe)(hs:swapsWith e (some (.Subscript o i py)) pos.line wz=pure false) :
  zdm c wz wu X (.Assign [.Subscript o i py] e pos) (.put xo xi xe):=fun A q d k loc φ H s Q E hA hh hF hS hw=>by
 refine wpAny_Assign_Subscript (qac (h3 A q d k loc φ H s _ _ hA hF hS hw) ?_ fun J J h=>OutX.toS hF hX h) hs
 rintro r s₁ ⟨φ₁,H₁,v₁,e₁,S₁,R₁,w₁⟩
 refine qac (h1 A q d k loc φ₁ H₁ s₁ _ _ (hA.mono e₁) (hF.mono e₁) S₁ w₁) ?_ fun J J h=>OutX.toS hF hX (h.lift e₁ S₁)
 rintro ro s₂ ⟨φ₂,H₂,v₂,e₂,S₂,R₂,w₂⟩
 have e12:=e₁.trans e₂
 refine qac (h2 A q d k loc φ₂ H₂ s₂ _ _ (hA.mono e12) (hF.mono e12) S₂ w₂) ?_ fun J J h=>OutX.toS hF hX (h.lift e12 S₂)
 rintro ri s₃ ⟨φ₃,H₃,v₃,e₃,S₃,R₃,w₃⟩
 revert w₃;refine xI fun H' hp w₃=>?_
 refine qac (do_put S₃ (Rep.mono e₃.toKp OwnX.nil R₂) R₃ (Rep.mono (e₂.trans e₃).toKp OwnX.nil R₁) hp) ?_ fun J J h=>h
 rintro _ s₄ ⟨e₄,S₄⟩
 have e14:=(e12.trans e₃).trans e₄
 exact⟨φ₃,_,loc,hF.weak hX e14,S₄,hF.mono e14,w₃⟩
theorem zlm{scope:Scope}(hX:EnvX allY wz X)(K:CompOk c wz wu res0 res' scope tgt t)(hfold:∀x,qbr iter wz x=pure x)(hsrc:zce c wz wu iter xsrc)
  (helt:∀wv:Env,wv.scope=qa8 scope wz->zce c wv res' elt xelt) (hifs:∀wv:Env,wv.scope=qa8 scope wz->zeh c wv res' ifs xifs)
  (hs:swapsWith (.ListComp elt [⟨tgt,iter,ifs,0⟩] scope cpos) (some (.Name y py)) pos.line wz=pure true) (hy:StoreOk allY wz wu wu y i) :
  zdm c wz wu X (.Assign [.Name y py] (.ListComp elt [⟨tgt,iter,ifs,0⟩] scope cpos) pos) (.set i (.comp xelt t xsrc xifs)):=fun A q d k loc φ H s Q E hA hh hF hS hw=>by
 replace hw:wpE (Calls c) q d k (.comp xelt t xsrc xifs) loc (fun v H=>Q .next (loc.set i (some v)) H) (fun x H=>E x loc H) H:=hw
 rw[exec_Assign_Name_used _ _ _ _ hs]
 refine qaa (qa2 (qaa ?_))
 show wpAny _ A (do let _<-comprehension (.ListComp elt [⟨tgt,iter,ifs,0⟩] scope cpos) scope wz _ (newList []) false (eval iter wz) (some (assign (.Name y py) wz))) _ _ s
 refine qaa (qac (zqn (use:=some (assign (.Name y py) wz)) (Q':=fun J s'=>OutS c wz wu k φ s X Q .next s') K hfold hsrc helt hifs hA hF hS hw ?_) (fun J s' hq=>qad (qad hq)) fun J J h=>OutX.toS hF hX h)
 rintro D C s' w0;refine w0 _ fun φ' H' a e S R hq hC m hm hat hC0 hCh=>?_;clear w0
 show wpAny _ A (assign (.Name y py) wz (.ref D)) _ _ _
 have F:=hF.mono e
 have hCX:C∉X:=fun hm=>by
  rcases hX.only C hm with q |⟨x,hx⟩
  ·obtain⟨_,⟨_,o,ho,_⟩,_,_⟩:=hF.ns
   rw[<- q,hC0] at ho;injection ho
  ·obtain⟨_,_,o,ho,_⟩:=hF.cells x C hx
   exact no1 (hC0.symm.trans ho)
 refine wpAny_assign_Name (qac (ze0 F S hy hX R) ?_ fun J J h=>h)
 rintro _ s₂ ⟨F₂,S₂,e₂,k₂⟩
 obtain⟨hn,o,ho,hc⟩:=hm
 have hm₂:NsD s₂.heap C m:=⟨hn.at' fun o' ho'=>k₂.1 C o' hCX ho',o,k₂.1 C o hCX ho,hc⟩
 refine⟨m,hm₂,fun h' m' hn' hs'=>?_⟩
 have g:=gone S₂ hm₂ hat hC hCh hn' hs'
 have off:Off wz [C] s₂:=⟨fun q=>hCX (by rw[<- zaf.mp q];exact hX.loc),(fun x ca hx q=>by
   obtain⟨_,_,o,ho,_⟩:=hF.cells x ca hx
   rw[zaf.mp q,hC0] at ho;injection ho),fun ca oc hoc hcc J q=>by
   rw[zaf.mp q] at hoc
   obtain rfl:=zaa ((k₂.1 C o hCX ho).symm.trans hoc)
   rw[hcc] at hc;exact absurd hc (by decide)⟩
 exact⟨φ',H',_,((hF.weak hX e).trans e₂).kept g.kept fun b hb=>by rw[zaf.mp hb];exact hC0,g.sim,F₂.off (s':={ s₂ with heap:=h' }) g.kp g.ow off fun o ho=>⟨o.slots,g.kept.1 _ o off.loc ho⟩,hq⟩
theorem zt1{t:Expr}{a:List Stmt}{xa:List St}(hX:EnvX allY wz X)(ht:zgd c wz wu t xt)(ha:zdw c wz wu X a xa)(hb:zdw c wz wu X b xb):zdm c wz wu X (.If t a b pos) (.ite xt xa xb):=fun A q d k loc φ H s Q E hA hh hF hS hw=>by
 refine wpAny_If (qac (ht A q d k loc φ H s _ _ hA hF hS hw) ?_ fun J J h=>OutX.toS hF hX h)
 rintro t s₁ ⟨φ₁,H₁,e₁,S₁,w₁⟩
 have e₁':=hF.weak hX e₁
 cases t with
 |true=>exact qac (ha A q d k loc φ₁ H₁ s₁ Q E (hA.mono e₁) hh (hF.mono e₁) S₁ w₁) (fun J J h=>h.lift e₁') fun J J h=>h.lift e₁' S₁
 |false=>exact qac (hb A q d k loc φ₁ H₁ s₁ Q E (hA.mono e₁) hh (hF.mono e₁) S₁ w₁) (fun J J h=>h.lift e₁') fun J J h=>h.lift e₁' S₁
def WhilI(c:Cx)(wz:Env)(wu:Res)(k:Clo)(φ:List Addr)(s:Shared)(X:List Addr)(I:Nat->Loc->Hp->Prop)(n:Nat)(s':Shared):Prop:=∀GJ:Prop,(∀(φ':List Addr),∀(H':Hp),∀(l':Loc),Ext X φ s φ' s'->Sim c φ' H' s'->FSim c wz wu k l' φ' s'.heap->I n l' H'->GJ)->GJ
theorem zps{t:Expr}(hX:EnvX allY wz X)(ht:zgd c wz wu t xt)(hb:zdw c wz wu X b xb):zdm c wz wu X (.While t b [] pos) (.whil xt xb):=fun A q d k loc φ H s Q E hA hh hF hS hw=>by
 obtain⟨rfl,I,n₀,h₀,step⟩:=hw
 refine wpAny_While (codeAny_whileLoop (WhilI c wz wu k φ s X I) ?_ n₀ (fun J kJ=>kJ φ H loc Ext.refl hS hF h₀))
 rintro n s₁ w0;refine w0 _ fun φ₁ H₁ l₁ e₁ S₁ F₁ hI=>?_;clear w0
 refine qac (ht A true d k l₁ φ₁ H₁ s₁ _ _ (hA.monoX e₁) F₁ S₁ (step n l₁ H₁ hI)) ?_ fun J J h=>OutX.no h
 rintro t s₂ ⟨φ₂,H₂,e₂,S₂,w₂⟩
 have e₁₂:=e₁.trans (F₁.weak hX e₂)
 cases t with
 |true=>
  refine qac (hb A true d k l₁ φ₂ H₂ s₂ _ _ (hA.monoX e₁₂) hh (F₁.mono e₂) S₂ w₂) ?_ fun J J h=>OutSX.no h
  rintro f s₃ ⟨φ₃,H₃,l₃,e₃,S₃,F₃,w₃⟩
  cases f with
  |next=>
   obtain⟨m,hm,hI'⟩:=w₃
   exact⟨m,hm,fun J kJ=>kJ φ₃ H₃ l₃ (e₁₂.trans e₃) S₃ F₃ hI'⟩
  |ret r=>exact⟨φ₃,H₃,l₃,e₁₂.trans e₃,S₃,F₃,w₃⟩
  |_=>exact w₃.elim
 |false=>exact wpAny_execs_nil ⟨φ₂,H₂,l₁,e₁₂,S₂,F₁.mono e₂,w₂⟩
def Goes(c:Cx)(A:Around)(tg:Expr)(φ:List Addr)(s:Shared)(Q:List V->(Hp->Prop)->Hp->Prop)(it:Value)(s₂:Shared):Prop:=∀GJ:Prop,(∀(φ₁:List Addr),∀(H₁:Hp),∀(items:List V),∀(ok:Hp->Prop),∀(wr:List Addr),∀(St:Nat->List Addr->Heap->Prop),Ext [] φ s φ₁ s₂->Sim c φ₁ H₁ s₂->Itr c A it tg wr items ok St->St 0 φ₁ s₂.heap->(∀b∈wr,s.heap.get? b=none)->ok H₁->Q items ok H₁->GJ)->GJ
def zh5(c:Cx)(wz:Env)(wu:Res)(tg:Expr)(iter:Expr)(x:Sr):Prop:=
 ∀A d k loc φ H s (Q:List V->(Hp->Prop)->Hp->Prop) E,OkF c A true d φ s.heap->FSim c wz wu k loc φ s.heap->Sim c φ H s->wpSr (Calls c) true d k x loc Q E H->
  wpAny (model c.prog c.w) A (eval iter wz) (fun x s₁=>wpAny (model c.prog c.w) A (pyIter x) (Goes c A tg φ s Q) (OutX c φ s E) s₁) (OutX c φ s E) s
theorem sr_val{x:Ex}(h:zce c wz wu iter x):zh5 c wz wu tg iter (.val x):=fun A d k loc φ H s Q E hA hF hS hw=>by
 refine qac (h A true d k loc φ H s _ E hA hF hS hw) ?_ fun J J h=>h
 rintro r s₁ ⟨φ₁,H₁,v₁,e₁,S₁,R₁,w₁⟩
 revert w₁;refine xI fun items hi w₁=>?_
 refine qac (zqc (hA.hd rfl) S₁ R₁ hi (tg:=tg)) ?_ fun J J h=>h
 rintro it s₂ w0;refine w0 _ fun wr St e₂ S₂ I st hn=>?_;clear w0
 refine(fun J kJ=>kJ φ₁ H₁ items _ wr St (e₁.trans e₂) S₂ I st (fun b hb=>e₁.fresh S₁ (hn b hb)) ?_ w₁)
 cases v₁ with
 |lst a=>exact hi
 |_=>trivial
def ForI(c:Cx)(wz:Env)(wu:Res)(k:Clo)(φ:List Addr)(s:Shared)(X:List Addr)(items:List V)(St:Nat->List Addr->Heap->Prop)(ok:Hp->Prop)(P:List V->Loc->Hp->Prop)(n:Nat)(s':Shared):Prop:=∀GJ:Prop,(∀(i:Nat),∀(φ':List Addr),∀(H':Hp),∀(l':Loc),(n=items.length-i+1)->i<=items.length->Ext X φ s φ' s'->Sim c φ' H' s'->FSim c wz wu k l' φ' s'.heap->St i φ' s'.heap->ok H'->P (items.drop i) l' H'->GJ)->GJ
theorem zxb(hX:EnvX allY wz X)(hs:∀x,qbr iter wz x=pure x)(hsr:zh5 c wz wu tg iter sr)(htg:TgOk allY wz wu wu tg t)(hb:zdw c wz wu X b xb) :
  zdm c wz wu X (.For tg iter b [] pos) (.loop t sr xb):=fun A q d k loc φ H s Q E hA hh hF hS hw=>by
 obtain⟨rfl,hw⟩:=hw
 refine wpAny_For (qac (hsr A d k loc φ H s _ _ hA hF hS hw) (fun x s₁ h₁=>qac h₁ ?_ fun J J h=>OutX.toS hF hX h) fun J J h=>OutX.toS hF hX h) hs
 rintro it s₂ w0;refine w0 _ fun φ₁ H₁ items ok wr St e₁ S₁ I st₁ hn hok w₁=>?_;clear w0
 refine codeAny_forLoop_any (ForI c wz wu k φ s X items St ok fun xs l H=>zhx ok (fun x l Q H=>Opt (zg8 t x l) fun l'=>wpSs (Calls c) true d k xb Q E l' H) xs Q l H) ?_ (items.length+1) (fun J kJ=>kJ 0 φ₁ H₁ loc rfl (zax _) (hF.weak hX e₁) S₁ (hF.mono e₁) st₁ hok w₁)
 rintro n s₃ w0;refine w0 _ fun i φ₃ H₃ l₃ wk hi e₃ S₃ F₃ st₃ hok₃ w₃=>?_;clear w0;subst wk
 have its:=I.seen _ _ _ st₃
 by_cases hlt:i<items.length
 ·have hx:items[i]?=some items[i]:=zai hlt
  rw[zb5 hlt] at w₃
  generalize items[i]=x at hx w₃
  refine xI (fun l' hbt w₃=>?_) (show Opt (zg8 t x l₃) _ from w₃)
  refine qac (I.item i x φ₃ H₃ s₃ _ hx st₃ S₃ hok₃) ?_ fun J J h=>h
  rintro r s₄ w0;refine w0 _ fun v wk h₄=>?_;clear w0;subst wk
  refine qac h₄ ?_ fun J J h=>h
  rintro _ s₅ ⟨k₅,st₅,R₅⟩
  have F₅:=F₃.kept its k₅
  refine qac (zql (hA.hd rfl) hX htg hbt F₅ (S₃.kept k₅ its) R₅) ?_ fun J J h=>h
  rintro _ s₆ ⟨F₆,S₆,e₆,k₆⟩
  have hwX:∀b∈wr,b∉X:=fun b hb hm=>by
   have off:=Off.its F₅ (I.seen _ _ _ st₅)
   rcases hX.only b hm with rfl |⟨y,hy⟩
   ·exact off.loc hb
   ·exact off.cells y b hy hb
  have st₆:=I.frame _ _ _ _ _ _ st₅ e₆.toKp (F₅.ownX hX) hwX
  have e₀₆:=(e₃.kept k₅ hn).trans e₆
  refine qac (hb A true d k l' φ₃ H₃ s₆ _ _ (hA.monoX e₀₆) hh F₆ S₆ w₃) ?_ fun J J h=>zwm hA hh (h.lift e₀₆ S₆)
  rintro f s₇ ⟨φ₇,H₇,l₇,e₇,S₇,F₇,w₇⟩
  cases f with
  |next=>exact⟨items.length-(i+1)+1,by exact ar1 [_,_] [] kbg (Y1 (Y0 (Y2 V0 (Y0 V1 J1)) J1) (Y0 (Y2 V0 V1) J1)) (Y1 V1 V0) hlt,fun J kJ=>kJ (i+1) φ₇ H₇ l₇ rfl hlt (e₀₆.trans e₇) S₇ F₇ (I.frame _ _ _ _ _ _ st₆ e₇.toKp (F₆.ownX hX) hwX) w₇.1 w₇.2⟩
  |ret r=>exact⟨φ₇,H₇,l₇,e₀₆.trans e₇,S₇,F₇,w₇⟩
  |_=>exact w₇.elim
 ·obtain rfl:i=items.length:=Nat.le_antisymm hi (za7 hlt)
  rw[List.drop_length] at w₃
  refine qac (I.done φ₃ H₃ s₃ _ st₃ S₃ hok₃) ?_ fun J J h=>h
  rintro r s₄ ⟨rfl,k₄⟩
  exact wpAny_execs_nil ⟨φ₃,H₃,l₃,e₃.kept k₄ hn,S₃.kept k₄ its,F₃.kept its k₄,w₃⟩
end
end
variable {Q:V->Hp->Prop}{elt:Ex}{f:Str}{ifs:List Ex}{r:List (Str×Value)}{t:Nat}{y:V}
section
open PySem PyProof.Rows
set_option tactic.hygienic true in
theorem zhd:∀(names:List (Str×qaf)) (h:Heap) (acc:List (Str×Addr)),(∀n ca,(n,ca)∈acc->h.get? ca=some zf5) ->
  ∀n ca,(n,ca)∈qas h.objs.size names acc->(qat h names).get? ca=some zf5
 |[],_,_,x,n,ca,hm=>x n ca hm
 |(name,kind)::r,h,acc,x,n,ca,hm=>by
  unfold qas at hm
  unfold qat
  split
  ·rename_i hk
   rw[if_pos hk] at hm
   have:=zhd r (h.push zf5) ((name,h.objs.size)::acc) (fun n' c' hm'=>by
    rcases zah.mp hm' with e |hm'
    ·(injection e with Ja Jb;subst Jb;subst Ja);exact qah _ rfl
    ·exact qae _ (x n' c' hm')) n ca (by rw[qbc];exact hm)
   exact this
  ·rename_i hk
   rw[if_neg hk] at hm
   exact zhd r h acc x n ca hm
set_option tactic.hygienic true in
theorem zgi:∀{names:List (Str×qaf)} {k:Nat} {acc:List (Str×Addr)} {x:Str},((x,qaj)∈names\/(acc.lookup x).isSome)->((qas k names acc).lookup x).isSome
 |[],_,acc,x,h=>by
  rcases h with h |h
  ·cases h
  ·exact h
 |(n,kd)::r,k,acc,x,h=>by
  unfold qas
  split
  ·rename_i hk
   refine zgi ?_
   rcases h with h |h
   ·rcases zah.mp h with e |h
    ·cases e
     right;simp
    ·exact .inl h
   ·right
    rw[zav]
    cases x==n<;>simp[h]
  ·rename_i hk
   refine zgi ?_
   rcases h with h |h
   ·rcases zah.mp h with e |h
    ·cases e;exact absurd rfl hk
    ·exact .inl h
   ·exact .inr h
noncomputable def XS (wz:Env):List Addr:=wz.locals::wz.cells.filterMap fun p=>wz.cells.lookup p.1
def zh9(wz:Env)(wu:Res):List Str->Nat->Prop
 |[],_=>True
 |x::r,i=>StoreOk allY wz wu wu x i/\zh9 wz wu r (i+1)
noncomputable def zmz:Nat->List V->Loc->Loc
 |_,[],l=>l
 |i,v::vs,l=>zmz (i+1) vs (l.set i (some v))
theorem zsy:zmz i (v::vs) l=zmz (i+1) vs (l.set i (some v)):=rfl
theorem zmh:∀(vs:List V)(p:Loc)(k:Nat),zmz p.length vs (p++List.replicate (vs.length+k) none)=p++vs.map some++List.replicate k none
 |[],p,k=>by rw[List.map_nil,za4,List.length_nil,Nat.zero_add];rfl
 |v::vs,p,k=>by
  have ih:=zmh vs (p++[some v]) k
  rw[zsy,show(v::vs).length+k=(vs.length+k)+1 by simp;exact ar0 [_,_] [] kac (Y2 (Y0 (Y0 V0 J1) V1) (Y0 (Y0 V0 V1) J1)),List.replicate_succ]
  rw[List.set_append_right _ _ (zae _)]
  simp only[Nat.sub_self,List.set_cons_zero]
  simp only[zak,zba,List.length_nil] at ih
  rw[show p++some v::List.replicate (vs.length+k) none=p++[some v]++List.replicate (vs.length+k) none by simp]
  rw[ih];simp
theorem ziq(hX:EnvX allY wz X)(f:Str×Value->PUnit->Sem (ForInStep PUnit))(hf:∀n v u,f (n,v) u=(do storeName wz n v;pure (.yield ⟨⟩))) :
  ∀{ps:List Str} {i:Nat} {vs:List V} {rs:List Value} {loc:Loc} {s:Shared} {Q:PUnit->Shared->Prop},zh9 wz wu ps i->vs.length=ps.length->FSim c wz wu none loc φ s.heap->Sim c φ H s->RepL c φ s.heap vs rs->
   (∀s',FSim c wz wu none (zmz i vs loc) φ s'.heap->Sim c φ H s'->Ext X φ s φ s'->Q ⟨⟩ s')->wpAny (model c.prog c.w) A (forIn (ps.zip rs) ⟨⟩ f) Q E s
 :=by
 intro ps
 induction ps with
 |nil=>
  intro _ vs _ _ s Q _ hl F S _ hQ
  obtain rfl:=zbr.mp hl
  rw[List.zip_nil_left,List.forIn_nil];exact qad (hQ s F S Ext.refl)
 |cons x ps ih=>
  intro i vs rs loc s Q hp hl F S R hQ
  cases vs with
  |nil=>exact nomatch hl
  |cons v vs=>
  refine R.uncons _ fun r rs wk R1 R2=>?_;subst wk
  rw[List.zip_cons_cons,List.forIn_cons,hf]
  refine qaa (qaa (qac (ze0 F S hp.1 hX R1) ?_ fun J J h=>h))
  rintro _ s₁ ⟨F₁,S₁,e₁,_⟩
  exact qad (ih hp.2 (Nat.succ.inj hl) F₁ S₁ (RepL.mono e₁.toKp (F.ownX hX) R2) fun s₂ F₂ S₂ e₂=>hQ s₂ F₂ S₂ (e₁.trans e₂))
structure FunOk(c:Cx)(f:Str)(a:Addr)(o:Obj)(fd:qbe)(body:List Stmt)(ps pa:List Str)(wu:Res):Prop where
 g:c.g f=some (.ref a)
 ho:c.h0.get? a=some o
 hd:o.data=.func fd
 code:c.h0.CodeRec fd.code fd.qualname
 hbody:fd.body=.stmts body
 clo:fd.closure=[]
 gl:fd.globals=qan
 bl:fd.builtins=qbn
 kind:fd.scope.kind=.function
 co:fd.scope.isCoroutine=false
 gen:fd.scope.isGenerator=false
 bind:∀vals:List Value,vals.length=pa.length->bindArgs fd ⟨vals,[]⟩=pure (pa.zip vals)
 fr:wu.fr=true
 hres:∀x i,wu.lookup x=some i->fd.scope.names.lookup x=some .local\/fd.scope.names.lookup x=some .cell
 par:∀L,zh9 (qaq fd L a) wu ps 0
 np:ps.length<=wu.n
theorem zm4(fd:qbe)(L a:Addr)(h:Heap)(hL:h.objs.size=L+1):EnvX allY (qaq fd L a) (XS (qaq fd L a)) where
 loc:=by simp[XS]
 cell x _ hk:=by
  have ok:=cellsFrom_ok fd.scope.names h (L+1) [] ⟨fun J J hm=>(nomatch hm),List.Pairwise.nil⟩ (by rw[hL];exact zae _)
  rw[hL] at ok
  obtain⟨ca,hx⟩:=zca.mp (zgi (k:=L+1) (acc:=[]) (x:=x) (.inl (qav hk)))
  have hm:=qav hx
  refine(fun J kJ=>kJ ca hx ((ok.empty x ca hm).2) ?_ (fun y hy=>name_of_addr ok.apart (qav hy) hm))
  simp only[XS,zah,List.mem_filterMap]
  exact .inr ⟨(x,ca),hm,hx⟩
 only b hb:=by
  simp only[XS,zah,List.mem_filterMap] at hb
  rcases hb with rfl |⟨p,_,hp⟩
  ·exact .inl rfl
  ·exact .inr ⟨p.1,hp⟩
theorem zn5{body:List Stmt}{pa:List Str}(K:FunOk c f a o fd body ps pa wu)(S:Sim c φ H s)(hL:h.get? s.heap.objs.size=some { cls:=.type "frame",data:=.dict #[] })
  (cellok:∀x ca,(qas (s.heap.objs.size+1) fd.scope.names []).lookup x=some ca->h.get? ca=some zf5/\s.heap.objs.size<ca) (newφ:∀b,s.heap.objs.size<=b->b∉φ/\c.h0.get? b=none/\s.heap.get? b=none) :
  FSim c (qaq fd s.heap.objs.size a) wu none (List.replicate wu.n none) φ h where
 fn:=K.kind
 gl:=K.gl
 bl:=K.bl
 len:=by rw[List.length_replicate];exact zae _
 Lφ:=(newφ _ (zae _)).1
 L0:=(newφ _ (zae _)).2.1
 ns:=by
  refine⟨fun J=>none,⟨⟨_,_,_,hL,rfl,by intro e he;simp at he,fun J=>by simp[nsFind,findBy]⟩,_,hL,.inl ⟨rfl,K.fr⟩⟩,fun x i hx=>?_,fun kk z hz=>nomatch hz⟩
  have hget:(List.replicate wu.n (none:Option V)).getD i none=none:=by
   rw[zao,List.getElem?_replicate]
   split<;>rfl
  rw[hget]
  show zsf (fd.scope.names.lookup x) _ _
  rcases K.hres x i hx with h |h<;>rw[h]
  ·exact .no
  ·obtain⟨ca,hca⟩:=zca.mp (zgi (k:=s.heap.objs.size+1) (acc:=[]) (x:=x) (.inl (qav h)))
   exact .no ca hca ⟨_,(cellok x ca hca).1,rfl⟩
 cells x ca hx:=by
  obtain⟨h1,h2⟩:=cellok x ca hx
  exact⟨(newφ ca (zap h2)).1,(newφ ca (zap h2)).2.1,_,h1,rfl,_,rfl⟩
theorem zut{E:XPost}(hA:OkF c A q d φ s.heap)(hH:HeadF A wz)(S:Sim c φ H s)(e₀:Ext X φ₀ s₀ φ s)(hXn:∀b∈X,s₀.heap.get? b=none)(h:OutSX c wz wu k φ s X (EndX E) x s₃){Q:Value->Shared->Prop}{P:Value->Shared->Prop}
  (hP:∀e s',OutX c φ₀ s₀ E e s'->P e s'):wpAny (model c.prog c.w) A (leaving wz x) (fun J s'=>P x s') Q s₃:=by
 obtain⟨φ₃,H₃,l₃,v,e₃,S₃,F₃,Rx,w₃⟩:=h
 obtain⟨fr',hfr',hfrs'⟩:=(hA.mono e₃).fr
 obtain⟨outer,hout⟩:=hH
 obtain rfl:=zaa (hout.symm.trans hfr')
 unfold leaving
 refine qaa (qac (zh6 hout hfrs' S₃ e₃ Rx) ?_ fun J J h=>h)
 rintro _ s₄ ⟨xs',hx',hn',n',R₄,ht⟩
 have e₄:=e₃.noted n' hn'
 have S₄:=S₃.noted n' hx'
 refine qac (zgj R₄ ht) ?_ fun J J h=>h
 rintro _ s₅ ⟨xs'',hx'',hn'',n'',R₅,ht'⟩
 exact hP _ _ ⟨φ₃,H₃,v,(e₀.trans (e₄.noted n'' hn'')).drop hXn,S₄.noted n'' hx'',R₅.lift e₀ S,w₃⟩
theorem zqx{body:List Stmt}(O:c.Ok)(K:FunOk c f a o fd body ps ps wu)
  (hbod:∀L,EnvX allY (qaq fd L a) (XS (qaq fd L a))->zdw c (qaq fd L a) wu (XS (qaq fd L a)) body xs) {E:XPost} (wq:vs.length=ps.length)
  (hw:wpSs (Calls c) q d none xs (EndQ Q) (EndX E) (vs.map some++List.replicate (wu.n-vs.length) none) H):Calls c q (d+1) f vs none Q E H:=by
 refine(fun J kJ=>kJ a o fd K.g K.ho K.hd (fun A φ s args extra hA S R hex=>?_))
 obtain rfl:extra=[]:=hex
 rw[za4]
 have hdep:=hA.dep
 have hun:=hA.un
 refine codeAny_call_function (by show _<1000;exact ar1 [_,_] [] kaa (Y1 V0 (.l 1000)) (Y0 (Y0 V0 (Y0 V1 J1)) (.l 890)) hdep) (S.stays a o K.ho) K.hd K.co K.gen K.hbody (K.code.keeps S.stays) ?_
 rw[K.bind args (by rw[RepL.length R,wq]),K.clo]
 refine qad ?_
 simp only[qbm,Option.isSome_none,zbk,if_false]
 refine qaa (wpAny_alloc ?_)
 refine qaa (wpAny_layCells _ (fun name kind cells=>by cases hkc:kind==qaj<;>simp[hkc]) _ _ _ _ ?_)
 generalize hs₁:s.heap.push { cls:=.type "frame",data:=.dict #[] }=h₁
 have hz₁:h₁.objs.size=s.heap.objs.size+1:=by rw[<- hs₁,qbc]
 rw[show({ s with heap:=h₁ }:Shared).heap.objs.size=s.heap.objs.size+1 from hz₁]
 have keep:∀b o,s.heap.get? b=some o->(qat h₁ fd.scope.names).get? b=some o:=fun b o hb=>qbp _ _ b o (by rw[<- hs₁];exact qae _ hb)
 have hX:=zm4 fd s.heap.objs.size a h₁ hz₁
 have e₁:Ext [] φ s φ { s with heap:=qat h₁ fd.scope.names }:=Ext.of_keeps keep rfl
 have cellok:∀x ca,(qas (s.heap.objs.size+1) fd.scope.names []).lookup x=some ca->(qat h₁ fd.scope.names).get? ca=some zf5/\s.heap.objs.size<ca:=fun x ca hx=>by
  have hm:=qav hx
  rw[<- hz₁] at hm
  have ok:=cellsFrom_ok fd.scope.names h₁ (s.heap.objs.size+1) [] ⟨fun J J hm=>(nomatch hm),List.Pairwise.nil⟩ (by rw[hz₁];exact zae _)
  exact⟨zhd fd.scope.names h₁ [] (fun J J hm=>nomatch hm) x ca hm,(ok.empty x ca hm).2⟩
 have newφ:∀b,s.heap.objs.size<=b->b∉φ/\c.h0.get? b=none/\s.heap.get? b=none:=fun b hb=>
  ⟨fun hm=>zay _ (zat (S.lt hm) hb),S.h0_new hb,qal hb⟩
 have F₁:=zn5 K S (qbp _ _ _ _ (by rw[<- hs₁];exact qah _ rfl)) cellok newφ
 refine qaa (ziq (c:=c) (wz:=qaq fd s.heap.objs.size a) (X:=XS (qaq fd s.heap.objs.size a)) (s:={ s with heap:=qat h₁ fd.scope.names }) hX _ (fun J J J=>rfl) (K.par _) wq F₁ (S.keeps (s':={ s with heap:=qat h₁ fd.scope.names }) keep rfl) (RepL.mono e₁.toKp OwnX.nil R) fun s₂ F₂ S₂ e₂=>?_)
 refine qad ⟨O.lim.keeps S₂.stays,codeAny_func ?_⟩
 have hXn:∀b∈XS (qaq fd s.heap.objs.size a),s.heap.get? b=none:=fun b hb=>by
  rcases hX.only b hb with rfl |⟨x,hx⟩
  ·exact(newφ _ (zae _)).2.2
  ·exact(newφ b (zap (cellok x b hx).2)).2.2
 have e₀₂:=(e₁.weaken (Y:=XS (qaq fd s.heap.objs.size a)) (fun J h=>nomatch h) fun b hb=>(FSim.outX (s:={ s with heap:=qat h₁ fd.scope.names }) F₁ hX b hb).1).trans e₂
 have hloc:zmz 0 vs (List.replicate wu.n none)=vs.map some++List.replicate (wu.n-vs.length) none:=by
  have:=zmh vs [] (wu.n-vs.length)
  rw[Nat.add_sub_cancel' (wq▸K.np)] at this
  exact this
 rw[hloc] at F₂
 obtain⟨fr,hfr,hfrs⟩:=(hA.mono e₀₂).fr
 have hEnv:EnvOk c φ s₂.heap (qaq fd s.heap.objs.size a):=by
  obtain⟨m,⟨⟨o1,es,n,ho1,hd1,_⟩,o2,ho2,hc2⟩,_,_⟩:=F₂.ns
  obtain rfl:=zaa (ho1.symm.trans ho2)
  rcases hc2 with hc2 |hc2
  ·exact⟨⟨by rw[show(qaq fd s.heap.objs.size a).scope.kind=fd.scope.kind from rfl,K.kind];decide,K.gen,K.co,K.bl,K.gl⟩,s.heap.objs.size,o1,es,n,rfl,F₂.L0,F₂.Lφ,ho1,hd1,hc2.1⟩
  ·rw[K.fr] at hc2;cases hc2.2.2
 have hfr2:(A.deeper (qaq fd s.heap.objs.size a)).frames=some (qaq fd s.heap.objs.size a::fr):=by show A.frames.map _=_;rw[hfr];rfl
 have hA₂:OkF c (A.deeper (qaq fd s.heap.objs.size a)) q d φ s₂.heap:=
  ⟨⟨by show A.depth+1+d<=890;exact ar1 [_,_] [] kaa (Y0 (Y0 (Y0 V0 J1) V1) (.l 890)) (Y0 (Y0 V0 (Y0 V1 J1)) (.l 890)) hdep,by show A.units+3+10*d<=9000;exact ar1 [_,_] [] kaa (Y0 (Y0 (Y0 V0 (.l 3)) (Y1 (.l 10) V1)) (.l 9000)) (Y0 (Y0 V0 (Y1 (.l 10) (Y0 V1 J1))) (.l 9000)) hun,hA.hd,_,hfr2,fun wz he=>by
   rcases zah.mp he with rfl |he
   ·exact hEnv
   ·exact hfrs wz he⟩,by rw[hfr2];exact fun h=>nomatch h⟩
 refine qac (hbod _ hX _ q d none _ φ H s₂ _ _ hA₂ ⟨fr,hfr2⟩ F₂ S₂ hw) ?_ ?_
 ·rintro f s₃ ⟨φ₃,H₃,l₃,e₃,S₃,F₃,w₃⟩
  have e₀₃:=(e₀₂.trans e₃).drop hXn
  cases f with
  |next=>exact⟨φ₃,H₃,.none,e₀₃,S₃,rN,w₃⟩
  |ret r=>refine w₃ _ fun v Rv w=>?_;clear w₃;exact⟨φ₃,H₃,v,e₀₃,S₃,Rv,w⟩
  |_=>exact w₃.elim
 ·intro x s₃ h
  exact zut hA₂ ⟨fr,hfr2⟩ S₂ e₀₂ hXn h fun J J h=>h
end
variable {l:List (Str×Nat)}{x:Ex}
section
open PySem PyProof.Rows
theorem zqi{F:Value}(O:c.Ok)(hF':∀a,F≠.ref a)(hk:wz.kindOf f=some .globalImplicit)(hg:c.g f=none)(hb:c.b f=some F)(hx:(f==("__debug__":Str))=false)(hn:zct e=true)(h:zce c wz wu e x)
  {A q d k loc φ H s Q} {E:XPost} {R:Value->Shared->Prop} (hA:OkF c A q d φ s.heap) (hF:FSim c wz wu k loc φ s.heap) (hS:Sim c φ H s) (hw:wpE (Calls c) q d k x loc Q E H)
  (hR:∀r s₁,Out c φ s Q r s₁->wpAny (model c.prog c.w) A (call F [r]) R (OutX c φ s E) s₁):wpAny (model c.prog c.w) A (eval (.Call (.Name f p) [e] [] pos) wz) R (OutX c φ s E) s:=by
 show wpAny _ _ (eval (.Name f p) wz >>=fun fv=>callWith pos fv [] (backTo pos (qa6 [e] wz)) []) _ _ _
 refine qaa (Calls.Name_function_global hF.fn hk (Calls.loadGlobal_builtin (by rw[hF.gl];exact O.gl.keeps hS.stays) hg (by rw[hF.bl];exact O.bl.keeps hS.stays) hb ?_) hx)
 have hl:zeu c wz wu [e] [x]:=zep hn h zhy
 have hw':wpL (Calls c) q d k [x] loc (fun vs H=>match vs with |[v]=>Q v H |_=>False) E H:=hw
 refine zdb hF' (zgl hl.1.1) (qac (zg3 hl (by simp) hA hF hS hw') ?_ fun J J h=>h)
 rintro _ s₁ w0;refine w0 _ fun rs wk φ₁ H₁ vs e₁ S₁ R₁ eN2=>?_;clear w0;subst wk;obtain⟨l₁,w₁⟩:=eN2
 match vs,l₁ with
 |[v],_=>
  refine R₁.one _ fun r wk Rr=>?_;subst wk
  exact hR r s₁ ⟨φ₁,H₁,v,e₁,S₁,Rr,w₁⟩
theorem zre(h:lstV H v=some items):∃i,v=.lst i/\H[i]?=some items:=
 let⟨i,h1,h2⟩:=zcb.mp h;⟨i,zf4 h1,h2⟩
theorem sr_rev(O:c.Ok)(hk:wz.kindOf f=some .globalImplicit)(hg:c.g f=none)(hb:c.b f=some (.type "reversed"))(hx:(f==("__debug__":Str))=false)(hn:zct e=true)(h:zce c wz wu e x) :
  zh5 c wz wu tg (.Call (.Name f p) [e] [] pos) (.rev x):=fun A d k loc φ H s Q E hA hF hS hw=>by
 refine zqi O (by intro a h;injection h) hk hg hb hx hn h hA hF hS hw ?_
 rintro r s₁ ⟨φ₁,H₁,v₁,e₁,S₁,R₁,w₁⟩
 have hh:A.handled=none:=hA.hd rfl
 revert w₁;refine xI fun items hi w₂=>?_
 obtain⟨i,rfl,hi⟩:=zre hi
 refine(S₁.getP R₁ hi) _ fun a us n wk ha ho hr hz z=>?_;subst wk
 refine rv_start (zdi ho) ?_
 have hit:RvAt (s₁.heap.push (rvO a ((us.size:Int)-1))) s₁.heap.objs.size a ((items.length:Int)-1-(0:Nat)):=⟨_,qah _ rfl,rfl,by
  rw[z,Int.natCast_zero,Int.sub_zero];rfl⟩
 refine zvo (s:={ s₁ with heap:=s₁.heap.push (rvO a ((us.size:Int)-1)) }) hit ?_
 have e₂:Ext [] φ₁ s₁ φ₁ { s₁ with heap:=s₁.heap.push (rvO a ((us.size:Int)-1)) }:=Ext.push
 exact(fun J kJ=>kJ φ₁ H₁ _ _ [s₁.heap.objs.size] _ (e₁.trans e₂) (S₁.push _) (itr_rev hh (a:=a) (j:=i) (S₁.h0_new (zae s₁.heap.objs.size))) ⟨hit,ha,S₁.new⟩ (fun b hb=>by rw[zaf.mp hb];exact e₁.fresh S₁ (qal (zae _))) hi w₂)
theorem sr_enum{x1}(O:c.Ok)(hk:wz.kindOf f=some .globalImplicit)(hg:c.g f=none)(hb:c.b f=some (.type "enumerate"))(hx:(f==("__debug__":Str))=false)(hn:zct e=true)(h:zce c wz wu e x) :
  zh5 c wz wu (.Tuple es x1 tp) (.Call (.Name f p) [e] [] pos) (.enum x):=fun A d k loc φ H s Q E hA hF hS hw=>by
 refine zqi O (by intro a h;injection h) hk hg hb hx hn h hA hF hS hw ?_
 rintro r s₁ ⟨φ₁,H₁,v₁,e₁,S₁,R₁,w₁⟩
 have hh:A.handled=none:=hA.hd rfl
 revert w₁;refine xI fun items hi w₂=>?_
 obtain⟨i,rfl,hi⟩:=zre hi
 refine(S₁.getP R₁ hi) _ fun a us n wk ha ho hr hz z=>?_;subst wk
 refine call_enumerate_list (zdi ho) fun h' he hit hsz hk'=>?_
 refine wpAny_pyIter_enum (s:={ s₁ with heap:=h' }) he ?_
 have e₂:Ext [] φ₁ s₁ φ₁ { s₁ with heap:=h' }:=Ext.of_keeps hk' rfl
 have h0:=S₁.h0_new (zae s₁.heap.objs.size)
 have h0':=S₁.h0_new (Nat.le_succ s₁.heap.objs.size)
 refine(fun J kJ=>kJ φ₁ H₁ _ _ [s₁.heap.objs.size+1,s₁.heap.objs.size] _ (e₁.trans e₂) (S₁.keeps (s':={ s₁ with heap:=h' }) hk' rfl) (itr_enum hh (a:=a) (j:=i) h0 h0' (Nat.succ_ne_self _)) ⟨.none,he,hit,ha,S₁.new,fun hm=>?_⟩ (fun b hb=>?_) hi w₂)
 ·exact zay _ (zau (Nat.lt_succ_self _) (S₁.lt hm))
 ·rcases zah.mp hb with rfl |hb
  ·exact e₁.fresh S₁ (qal (Nat.le_succ _))
  ·rw[zaf.mp hb]
   exact e₁.fresh S₁ (qal (zae _))
end
variable {x:V}
section
open PySem PyProof.Rows
noncomputable def zhi:Str:=qab "put_together"
noncomputable def pick{α:Type}(x y z:α)(i:Nat):α:=if i=0 then x else if i=1 then y else z
inductive LamF (kk : Nat) (fd : qbe) (nm : Str) : Prop
 | mk (p1 p2 : Str) (q0 q1 q2 pf pos : Pos) (bind : ∀ x y : Value, bindArgs fd ⟨[x, y], []⟩ = pure [(p1, x), (p2, y)])
   (hbody : fd.body = .expr (.Call (.Name zhi pf) [.Name (pick p1 p2 nm (kk / 9)) q0, .Name (pick p1 p2 nm (kk / 3 % 3)) q1, .Name (pick p1 p2 nm (kk % 3)) q2] [] pos))
   (k1 : fd.scope.names.lookup p1 = some .local) (k2 : fd.scope.names.lookup p2 = some .local) (k3 : fd.scope.names.lookup nm = some .free) (k4 : fd.scope.names.lookup zhi = some .globalImplicit)
   (nc : fd.scope.names.all (fun p => !(p.2 == qaj)) = true) (ok : (p1 != zcg && p2 != zcg && p1 != p2 && p1 != nm && p2 != nm) = true)
   (dbg : [p1, p2, nm].all (fun x => !(x == ("__debug__" : Str)) && !(x == ("__classdict__" : Str))) = true)
   (gl : fd.globals = qan) (bl : fd.builtins = qbn) (kind : fd.scope.kind = .function) (co : fd.scope.isCoroutine = false) (gen : fd.scope.isGenerator = false) : LamF kk fd nm
theorem zly:∀{names:List (Str×qaf)} {k:Nat} {acc:List (Str×Addr)} {h:Heap},names.all (fun p=>!(p.2==qaj))=true->qas k names acc=acc/\qat h names=h
 |[],_,_,_,_=>⟨rfl,rfl⟩
 |(n,kd)::r,k,acc,h,q=>by
  revert q;refine xA fun q1 q2=>?_
  have e:(kd==qaj)=false:=(zbm _).mp q1
  unfold qas qat
  rw[e]
  exact zly q2
theorem zub (h:wpAny (model prog w) (A.deeper wz) (eval e wz) (fun v s'=>R (.ok (.ret v)) s') (fun J J=>False) s):codeAny (model prog w) A (.expr e wz) R s:=
 codeAny_of_tree (qaa (qb3 (qaa (wpAny_onRaise (qac h (fun J J h'=>qad h') fun J J h'=>h'.elim)))))
theorem zum{args:Args}{body:Expr}(hroom:A.depth<recursionLimit)(ho:s.heap.get? a=some o)(hd:o.data=.func fd)(hco:fd.scope.isCoroutine=false)(hgen:fd.scope.isGenerator=false)
  (hbody:fd.body=.expr body) (hcd:fd.code=.ref cc) (hc:CodeO s.heap cc fd.qualname)
  (h:wpAny (model prog w) A.in1 (bindArgs fd args) (fun binds s₁=>wpAny (model prog w) A.in1 (qbm fd.scope fd.globals fd.closure binds (fd.qualname++".<locals>.") (some a) fd.code none fd.builtins)
   (fun wz s₂=>s₂.heap.NoLimit/\codeAny (model prog w) A (.expr body wz) R s₂) (fun e s'=>R (.error e) s') s₁) (fun e s'=>R (.error e) s') s) :
  codeAny (model prog w) A (.call (.ref a) args) R s:=by
 refine codeAny_of_tree ?_
 show wpAny _ A.in1 (callAny (.ref a) args) _ _ s
 unfold callAny
 refine qaa (wpAny_load ho ?_)
 obtain⟨oc,vs,t,h1,_,h3,h4⟩:=hc
 rw[hcd] at h
 simp only[hd,callFunction,hco,hgen,hbody,hcd]
 refine qaa (m:=field (.ref cc) 1) (qbu h1 h3 h4 (qaa (qad ?_)))
 exact qaa (qac h (fun J J h₁=>qaa (qac h₁ (fun J J h₂=>qaa (wpAny_enterFrame h₂.1 hroom (qad ⟨rfl,h₂.2⟩))) fun J J q=>q)) fun J J q=>q)
abbrev lamEnv (fd:qbe) (L a ca:Addr) (nm:Str):Env:=newEnv fd.scope L fd.globals [(nm,ca)] (fd.qualname++".<locals>.") (some a) fd.code none fd.builtins
abbrev lamRes (p1 p2 nm:Str):Res:=⟨true,3,[(p1,0),(p2,1),(nm,2)]⟩
theorem look3{nm x:Str}(h:(lamRes p1 p2 nm).lookup x=some i):(x=p1/\i=0)\/(x≠p1/\x=p2/\i=1)\/(x≠p1/\x≠p2/\x=nm/\i=2):=by
 replace h:List.lookup x [(p1,0),(p2,1),(nm,2)]=some i:=h
 rw[zav] at h
 refine xD (x==p1) (fun h1=>?_) fun h1=>?_
 ·rw[h1] at h;exact .inl ⟨eq_of_beq h1,(zaa h).symm⟩
 ·rw[h1] at h
  replace h:List.lookup x [(p2,1),(nm,2)]=some i:=h
  rw[zav] at h
  have n1:x≠p1:=ne_of_beq_false h1
  refine xD (x==p2) (fun h2=>?_) fun h2=>?_
  ·rw[h2] at h;exact .inr (.inl ⟨n1,eq_of_beq h2,(zaa h).symm⟩)
  ·rw[h2] at h
   replace h:List.lookup x [(nm,2)]=some i:=h
   rw[zav] at h
   have n2:x≠p2:=ne_of_beq_false h2
   refine xD (x==nm) (fun h3=>?_) fun h3=>?_
   ·rw[h3] at h;exact .inr (.inr ⟨n1,n2,eq_of_beq h3,(zaa h).symm⟩)
   ·rw[h3] at h;exact nomatch h
theorem store3 {nm : Str} (h : (p1 != zcg && p2 != zcg && p1 != p2 && p1 != nm && p2 != nm) = true) (k1 : fd.scope.names.lookup p1 = some .local) (k2 : fd.scope.names.lookup p2 = some .local) :
  zh9 (lamEnv fd L a ca nm) (lamRes p1 p2 nm) [p1, p2] 0 := by
 revert h; refine xA fun h h5 => ?_
 revert h; refine xA fun h h4 => ?_
 revert h; refine xA fun h h3 => ?_
 revert h; refine xA fun h1 h2 => ?_
 refine ⟨⟨⟨rfl, rfl, fun y j hy => ?_, by show 0 < 3; decide, bne_iff_ne.mp h1, .inr rfl⟩, .inl k1⟩, ⟨⟨rfl, rfl, fun y j hy => ?_, by show 1 < 3; decide, bne_iff_ne.mp h2, .inr rfl⟩, .inl k2⟩, trivial⟩
 ·rcases look3 hy with ⟨e, e'⟩ | ⟨n, e, e'⟩ | ⟨n, n', e, e'⟩
  ·exact .inl ⟨e, e'⟩
  ·exact .inr ⟨n, hy, by rw [e']; decide⟩
  ·exact .inr ⟨n, hy, by rw [e']; decide⟩
 ·rcases look3 hy with ⟨e, e'⟩ | ⟨n, e, e'⟩ | ⟨n, n', e, e'⟩
  ·exact .inr ⟨by rw [e]; exact bne_iff_ne.mp h3, hy, by rw [e']; decide⟩
  ·exact .inl ⟨e, e'⟩
  ·exact .inr ⟨n', hy, by rw [e']; decide⟩
theorem ztk{nm:Str}(S:Sim c φ H s)(hca:ca∉φ)(h0:c.h0.get? ca=none)(hoc:s.heap.get? ca=some oc)(hcc:oc.cls=.type "cell")(hdc:oc.data=.cell (some rv))(hx:Rep c φ s.heap z rv)
  (k1:fd.scope.names.lookup p1=some .local) (k2:fd.scope.names.lookup p2=some .local) (k3:fd.scope.names.lookup nm=some .free)
  (gl:fd.globals=qan) (bl:fd.builtins=qbn) (kind:fd.scope.kind=.function) :
  FSim c (lamEnv fd s.heap.objs.size a ca nm) (lamRes p1 p2 nm) none [none,none,some z] φ (s.heap.push { cls:=.type "frame",data:=.dict #[] }) where
 fn:=kind
 gl:=gl
 bl:=bl
 len:=zae 3
 Lφ:=S.new
 L0:=S.h0_new (zae _)
 ns:=by
  have hL:(s.heap.push { cls:=.type "frame",data:=.dict #[] }).get? s.heap.objs.size=some { cls:=.type "frame",data:=.dict #[] }:=qah _ rfl
  refine⟨fun J=>none,⟨⟨_,_,_,hL,rfl,by intro e he;simp at he,fun J=>by simp[nsFind,findBy]⟩,_,hL,.inl ⟨rfl,rfl⟩⟩,fun x i hx'=>?_,fun kk z hz=>nomatch hz⟩
  show zsf (fd.scope.names.lookup x) _ _
  rcases look3 hx' with⟨e,e'⟩|⟨n,e,e'⟩|⟨n,n',e,e'⟩
  ·rw[e,k1,e'];exact .no
  ·rw[e,k2,e'];exact .no
  ·rw[e,k3,e']
   refine .yes z ca rv ?_ ⟨oc,qae _ hoc,hdc⟩ (Rep.mono (Ext.push (X:=[]) (φ:=φ) (s:=s)).toKp OwnX.nil hx)
   show List.lookup nm [(nm,ca)]=some ca
   rw[zav,beq_self_eq_true]
 cells x ca' hx':=by
  replace hx':List.lookup x [(nm,ca)]=some ca':=hx'
  rw[zav] at hx'
  refine xD (x==nm) (fun e=>?_) fun e=>?_
  ·rw[e] at hx'
   obtain rfl:=zaa hx'
   exact⟨hca,h0,oc,qae _ hoc,hcc,_,hdc⟩
  ·rw[e] at hx';exact nomatch hx'
theorem lam_body {nm : Str} {k : Nat} {q0 q1 q2 : Pos} {of : Obj} (O : c.Ok) (k4 : fd.scope.names.lookup zhi = some .globalImplicit) (hg : c.g zhi = some (.ref af)) (ho : c.h0.get? af = some of) (hd : of.data = .func fdf)
  (ok : (p1 != zcg && p2 != zcg && p1 != p2 && p1 != nm && p2 != nm) = true) (dbg : [p1, p2, nm].all (fun x => !(x == ("__debug__" : Str)) && !(x == ("__classdict__" : Str))) = true) :
  zce c (lamEnv fd L a ca nm) (lamRes p1 p2 nm) (.Call (.Name zhi pf) [.Name (pick p1 p2 nm i) q0, .Name (pick p1 p2 nm j) q1, .Name (pick p1 p2 nm k) q2] [] pos) (.call zhi [.var (pick 0 1 2 i), .var (pick 0 1 2 j), .var (pick 0 1 2 k)]) := by
 revert ok; refine xA fun h h5 => ?_
 revert h; refine xA fun h h4 => ?_
 revert h; refine xA fun h h3 => ?_
 have n1 := bne_iff_ne.mp h3
 have n2 := bne_iff_ne.mp h4
 have n3 := bne_iff_ne.mp h5
 have v : ∀ i q, zce c (lamEnv fd L a ca nm) (lamRes p1 p2 nm) (.Name (pick p1 p2 nm i) q) (.var (pick 0 1 2 i)) := fun i q => by
  have look : (lamRes p1 p2 nm).lookup (pick p1 p2 nm i) = some (pick 0 1 2 i) := by
   show List.lookup (pick p1 p2 nm i) [(p1, 0), (p2, 1), (nm, 2)] = _
   unfold pick
   by_cases e0 : i = 0
   ·rw [if_pos e0, if_pos e0, zav, beq_self_eq_true]
   ·rw [if_neg e0, if_neg e0]
    by_cases e1 : i = 1
    ·rw [if_pos e1, if_pos e1, zav, beq_false_of_ne (qax n1), zav, beq_self_eq_true]
    ·rw [if_neg e1, if_neg e1, zav, beq_false_of_ne (qax n2), zav, beq_false_of_ne (qax n3), zav, beq_self_eq_true]
  have hm : pick p1 p2 nm i ∈ [p1, p2, nm] := by
   unfold pick
   by_cases e0 : i = 0
   ·rw [if_pos e0]; exact zad
   ·rw [if_neg e0]
    by_cases e1 : i = 1
    ·rw [if_pos e1]; exact zag _ zad
    ·rw [if_neg e1]; exact zag _ (zag _ zad)
  refine xA (fun d1 d2 => ?_) (zaz.mp dbg _ hm)
  exact zop look ((zbm _).mp d1) ((zbm _).mp d2)
 exact zk8 O k4 hg ho hd (by decide) (zep rfl (v i q0) (zep rfl (v j q1) (zep rfl (v k q2) zhy))) (fun h => nomatch h)
theorem pickV(i:Nat):([some x,some y,some z]:Loc).getD (pick 0 1 2 i) none=some (pick x y z i):=by
 unfold pick
 by_cases e0:i=0
 ·rw[if_pos e0,if_pos e0];rfl
 ·rw[if_neg e0,if_neg e0]
  by_cases e1:i=1
  ·rw[if_pos e1,if_pos e1];rfl
  ·rw[if_neg e1,if_neg e1];rfl
theorem call_lam{rx ry:Value}(O:c.Ok)(LO:∀kk fd nm,c.lam kk fd nm->LamF kk fd nm)(hA:OkA c A q (d+1) φ s.heap)(S:Sim c φ H s)(K:CloRep c φ s.heap B kk z fv)
  (R1:Rep c φ s.heap x rx) (R2:Rep c φ s.heap y ry) (hw:Calls c q d zhi (zib kk x y z) none Q noX H):codeAny (model c.prog c.w) A (.call fv ⟨[rx,ry],[]⟩) (Ends c φ s Q noX) s:=by
 obtain⟨a,o,fd,nm,ca,oc,rv,rfl,ha,ho,hc,hd,hk,hcl,hca,hlt,hoc,hcc,hdc,hx,h0,cc,hcd,hco,hcφ⟩:=K
 obtain⟨p1,p2,q0,q1,q2,pf,pos,bind,hbody,k1,k2,k3,k4,nc,ok,dbg,gl,bl,kind,co,gen⟩:=LO kk fd nm hk
 have hdep:=hA.dep
 have hun:=hA.un
 refine zum (by show _<1000;exact ar1 [_,_] [] kaa (Y1 V0 (.l 1000)) (Y0 (Y0 V0 (Y0 V1 J1)) (.l 890)) hdep) ho hd co gen hbody hcd hco ?_
 rw[bind,hcl]
 refine qad ?_
 simp only[qbm,Option.isSome_none,zbk,if_false]
 refine qaa (wpAny_alloc ?_)
 refine qaa (wpAny_layCells _ (fun name kind cells=>by cases hkc:kind==qaj<;>simp[hkc]) _ _ _ _ ?_)
 rw[(zly (h:=s.heap) nc).1,(zly (k:=0) (acc:=[]) nc).2]
 have F₁:=ztk (p1:=p1) (p2:=p2) (a:=a) S hca h0 hoc hcc hdc hx k1 k2 k3 gl bl kind
 generalize hs₁:s.heap.push { cls:=.type "frame",data:=.dict #[] }=h₁ at F₁
 have keep:∀b o,s.heap.get? b=some o->h₁.get? b=some o:=fun b o hb=>by rw[<- hs₁];exact qae _ hb
 have e₁:Ext [] φ s φ { s with heap:=h₁ }:=Ext.of_keeps keep rfl
 have hX:EnvX allY (lamEnv fd s.heap.objs.size a ca nm) [s.heap.objs.size]:=⟨zad,fun x J hx=>by
  have:=zaz.mp nc _ (qav (show fd.scope.names.lookup x=some .cell from hx))
  exact(nomatch this),fun b hb=>.inl (zaf.mp hb)⟩
 have S₁:Sim c φ H { s with heap:=h₁ }:=S.keeps (s':={ s with heap:=h₁ }) keep rfl
 refine qaa (ziq (c:=c) (wz:=lamEnv fd s.heap.objs.size a ca nm) (X:=[s.heap.objs.size]) (s:={ s with heap:=h₁ }) (vs:=[x,y]) (rs:=[rx,ry]) hX _ (fun J J J=>rfl) (store3 ok k1 k2) rfl F₁ S₁ (RepL.mono e₁.toKp OwnX.nil ⟨R1,R2,rL⟩) fun s₂ F₂ S₂ e₂=>?_)
 refine qad ⟨O.lim.keeps S₂.stays,zub ?_⟩
 have hXn:∀b∈[s.heap.objs.size],s.heap.get? b=none:=fun b hb=>by rw[zaf.mp hb];exact qal (zae _)
 have e₀₂:=(e₁.weaken (Y:=[s.heap.objs.size]) (fun J h=>nomatch h) fun b hb=>by rw[zaf.mp hb];exact S.new).trans e₂
 obtain⟨fr,hfr,hfrs⟩:=(hA.mono e₀₂).fr
 have hEnv:EnvOk c φ s₂.heap (lamEnv fd s.heap.objs.size a ca nm):=by
  obtain⟨m,⟨⟨o1,es,n,ho1,hd1,_⟩,o2,ho2,hc2⟩,_,_⟩:=F₂.ns
  obtain rfl:=zaa (ho1.symm.trans ho2)
  rcases hc2 with hc2 |hc2
  ·exact⟨⟨by rw[show(lamEnv fd s.heap.objs.size a ca nm).scope.kind=fd.scope.kind from rfl,kind];decide,gen,co,bl,gl⟩,s.heap.objs.size,o1,es,n,rfl,F₂.L0,F₂.Lφ,ho1,hd1,hc2.1⟩
  ·exact nomatch hc2.2.2
 have hfr2:(A.deeper (lamEnv fd s.heap.objs.size a ca nm)).frames=some (lamEnv fd s.heap.objs.size a ca nm::fr):=by show A.frames.map _=_;rw[hfr];rfl
 have hA₂:OkF c (A.deeper (lamEnv fd s.heap.objs.size a ca nm)) q d φ s₂.heap:=
  ⟨⟨by show A.depth+1+d<=890;exact ar1 [_,_] [] kaa (Y0 (Y0 (Y0 V0 J1) V1) (.l 890)) (Y0 (Y0 V0 (Y0 V1 J1)) (.l 890)) hdep,by show A.units+3+10*d<=9000;exact ar1 [_,_] [] kaa (Y0 (Y0 (Y0 V0 (.l 3)) (Y1 (.l 10) V1)) (.l 9000)) (Y0 (Y0 V0 (Y1 (.l 10) (Y0 V1 J1))) (.l 9000)) hun,hA.hd,_,hfr2,fun wz he=>by
   rcases zah.mp he with rfl |he
   ·exact hEnv
   ·exact hfrs wz he⟩,by rw[hfr2];exact fun h=>nomatch h⟩
 refine(id hw) _ fun af of fdf g1 g2 g3 g4=>?_
 have hw':wpE (Calls c) q d none (.call zhi [.var (pick 0 1 2 (kk/9)),.var (pick 0 1 2 (kk/3%3)),.var (pick 0 1 2 (kk%3))]) [some x,some y,some z] Q noX H:=by
  refine Opt.mk (pickV _) (Opt.mk (pickV _) (Opt.mk (pickV _) ?_))
  exact hw
 refine qac (lam_body O k4 g1 g2 g3 ok dbg _ q d none _ φ H s₂ _ _ hA₂ F₂ S₂ hw') ?_ fun J J h=>h.no
 rintro v s₃ ⟨φ₃,H₃,v',e₃,S₃,R₃,w₃⟩
 exact⟨φ₃,H₃,v',(e₀₂.trans (e₃.weaken (fun J h=>nomatch h) fun b hb=>by rw[zaf.mp hb];exact F₂.Lφ)).drop hXn,S₃,R₃,w₃⟩
theorem zsm{Q:PUnit->Shared->Prop}(F:FSim c wz wu none loc φ s.heap)(S:Sim c φ H s)(hfr:wu.fr=true)(hk:wz.kindOf zcg=some .local)
  (hr:wu.lookup zcg=none) (hXL:wz.locals∈X) (K:CloRep c φ s.heap wz.locals kk z fv) (hQ:∀s',FSim c wz wu (some (kk,z)) loc φ s'.heap->Sim c φ H s'->Ext X φ s φ s'->Q ⟨⟩ s'):wpAny (model c.prog c.w) A (storeName wz zcg fv) Q E s:=by
 obtain⟨m,⟨hn,oL,hoL,hcL⟩,hsl,hjo⟩:=F.ns
 have hcL:=hcL.elim id fun h=>by rw[hfr] at h;exact nomatch h.2.2
 refine zgp hk F.fn hn hoL fun h' hn' hs' hc'=>?_
 obtain⟨o',ho',hcls'⟩:=hc'
 have hnf:∀o vs,s.heap.get? wz.locals=some o->o.data≠.fields vs:=fun o vs ho hd=>by
  obtain⟨o1,es1,n1,h1,h2,_⟩:=hn
  obtain rfl:=zaa (ho.symm.trans h1)
  rw[h2] at hd;injection hd
 have hdd:∀o es n,s.heap.get? wz.locals=some o->o.data=.dict es n->∃o' es' n',h'.get? wz.locals=some o'/\o'.data=.dict es' n'/\DKo o o':=fun o es n ho J=>by
  obtain⟨o1,es1,n1,h1,h2,_⟩:=hn'
  obtain rfl:=zaa (ho'.symm.trans h1)
  obtain rfl:=zaa (hoL.symm.trans ho)
  exact⟨o',es1,n1,ho',h2,hcls'⟩
 have keep:∀b o,b≠wz.locals->s.heap.get? b=some o->h'.get? b=some o:=fun b o hb ho=>(hs'.2 b hb).trans ho
 have hcN:∀y ca,wz.cells.lookup y=some ca->ca≠wz.locals:=fun y ca hy q=>by
  obtain⟨_,_,o1,h1,h2⟩:=F.cells y ca hy
  rw[q] at h1
  obtain rfl:=zaa (hoL.symm.trans h1)
  rw[h2] at hcL;exact absurd hcL.1 (by decide)
 have cs:∀z ca,wz.cells.lookup z=some ca->ca∉[wz.locals]/\CellAt c φ s.heap ca:=fun z ca hz=>⟨fun q=>hcN z ca hz (zaf.mp q),F.cells z ca hz⟩
 have kp:=zkw (φ:=φ) keep hdd hnf
 have ow:OwnX c [wz.locals] s.heap:=fun b hb o ho=>by rw[zaf.mp hb] at ho ⊢;exact zjr F ho
 refine hQ _ ⟨F.fn,F.gl,F.bl,⟨_,⟨hn',o',ho',.inl ⟨hcls'.cls.trans hcL.1,hfr⟩⟩,fun y j hy=>?_,fun kk' z' hz=>?_⟩,F.len,F.Lφ,F.L0,fun y ca hy=>?_⟩ ?_ (Ext.of_own (s':={ s with heap:=h',toks:=s.toks+1 }) hs' hXL hdd ⟨o',ho'⟩ rfl hnf)
 ·have hsy:=(hsl y j hy).mono (s:=s) (s':={ s with heap:=h' }) kp ow cs
  refine zsf.imp hsy (fun J h=>?_) id
  show SlotL _ _ _ (if y=zcg then _ else _) _
  rw[if_neg fun q=>by rw[q,hr] at hy;cases hy];exact h
 ·obtain⟨rfl,rfl⟩:=qbv (zaa hz)
  exact(fun J kJ=>kJ hk fv (if_pos rfl) (K.mono (s:=s) (s':={ s with heap:=h' }) kp ow fun ca o ho J hlt q=>absurd (zaf.mp q) (zar hlt)))
 ·obtain⟨h1,h2,o1,h3,h4,h5⟩:=F.cells y ca hy
  exact⟨h1,h2,o1,(hs'.2 ca (hcN y ca hy)).trans h3,h4,h5⟩
 ·exact S.mono (s':={ s with heap:=h',toks:=s.toks+1 }) kp ow (fun b hb=>by rw[zaf.mp hb];exact F.L0) (fun b hb o ho=>keep b o (fun q=>F.Lφ (q▸hb)) ho) (fun b o hb J=>keep b o (fun q=>by rw[q,F.L0] at hb;injection hb) (S.stays b o hb)) S.gens fun b ps hb=>keep b _ (fun q=>hnf _ ps (q▸hb) rfl) hb
theorem cloV_inv{p:Nat×List V}(h:cloV k d vs=some p):∃kk z x y,k=some (kk,z)/\vs=[x,y]/\d=p.1+1/\p.2=zib kk x y z:=by
 obtain⟨⟨kk,z⟩,rfl,h⟩:=zcb.mp h
 cases d with
 |zero=>injection h
 |succ d=>
  cases vs with
  |nil=>injection h
  |cons x vs=>
   cases vs with
   |nil=>injection h
   |cons y vs=>
    cases vs with
    |nil=>obtain rfl:=zaa h;exact⟨kk,z,x,y,rfl,rfl,rfl,rfl⟩
    |cons _ _=>injection h
theorem zo2{xs:List Ex}(O:c.Ok)(LO:∀kk fd nm,c.lam kk fd nm->LamF kk fd nm)(h:zeu c wz wu es xs)(hne:es≠[]):zce c wz wu (.Call (.Name zcg p) es [] pos) (.callv xs):=fun A q d k loc φ H s Q E hA hF hS hw=>by
 obtain⟨⟨kk,z⟩,rfl,hw⟩:=Opt.inv hw
 obtain⟨m,hn,h1,h2⟩:=id hF.ns
 refine(h2 kk z rfl) _ fun g1 fv g2 g3=>?_
 show wpAny _ _ (eval (.Name zcg p) wz >>=fun fv=>callWith pos fv [] (backTo pos (qa6 es wz)) []) _ _ _
 refine qaa (wpAny_Name (qbt hF.fn g1 hn.ns g2 ?_) (by decide))
 obtain⟨a,o,fd,nm,ca,oc,rv,rfl,ha,ho,hc,hd,_⟩:=id g3
 refine Calls.callWith_function (o:=o) (fd:=fd) (qac (zg3 h hne hA hF hS hw) ?_ fun J J h=>h)
 rintro _ s₁ w0;refine w0 _ fun rs wk φ₁ H₁ vs e₁ S₁ R₁ eN2=>?_;clear w0;subst wk;obtain⟨l₁,w₁⟩:=eN2
 refine⟨⟨zpz (c:=c) e₁.toKp OwnX.nil ho ha (zkt hc rfl),hd⟩,wpAny_call ?_⟩
 obtain⟨⟨d',vs'⟩,hp,w₁⟩:=Opt.inv w₁
 obtain⟨kk',z',x,y,ek,rfl,ed,ev⟩:=cloV_inv hp
 obtain⟨rfl,rfl⟩:=qbv (zaa ek)
 dsimp only at ed ev w₁
 subst ed ev
 refine R₁.uncons _ fun rx rs' wk Rx R₂=>?_;subst wk
 refine R₂.uncons _ fun ry rs'' wk Ry R₃=>?_;subst wk
 obtain rfl:rs''=[]:=R₃
 refine codeAny_mono (call_lam O LO (hA.mono e₁).toOkA S₁ (g3.mono e₁.toKp OwnX.nil fun J J J J J q=>nomatch q) Rx Ry w₁) ?_
 intro r s' hr
 cases r with
 |error e=>exact(OutX.no hr:False).elim
 |ok f=>cases f with
  |ret v=>exact Out.lift e₁ hr
  |_=>exact hr.elim
theorem zhv(hX:EnvX allY wz X)(f:Str×Value->PUnit->Sem (ForInStep PUnit))(hf:∀n v u,f (n,v) u=(do storeName wz n v;pure (.yield ⟨⟩))) :
  ∀{ps:List Str} {i:Nat} {vs:List V} {rs:List Value} {loc:Loc} {s:Shared} {Q:PUnit->Shared->Prop},zh9 wz wu ps i->vs.length=ps.length->FSim c wz wu none loc φ s.heap->Sim c φ H s->RepL c φ s.heap vs rs->
   (∀s',FSim c wz wu none (zmz i vs loc) φ s'.heap->Sim c φ H s'->Ext X φ s φ s'->wpAny (model c.prog c.w) A (forIn r ⟨⟩ f) Q E s')->wpAny (model c.prog c.w) A (forIn (ps.zip rs++r) ⟨⟩ f) Q E s
 |[],_,vs,_,_,s,Q,_,hl,F,S,_,hQ=>by
  obtain rfl:=zbr.mp hl
  rw[List.zip_nil_left];exact hQ s F S Ext.refl
 |x::ps,i,[],rs,loc,s,Q,hp,hl,F,S,R,hQ=>nomatch hl
 |x::ps,i,v::vs,rs,loc,s,Q,hp,hl,F,S,R,hQ=>by
  refine R.uncons _ fun r rs wk R1 R2=>?_;subst wk
  rw[List.zip_cons_cons,List.cons_append,List.forIn_cons,hf]
  refine qaa (qaa (qac (ze0 F S hp.1 hX R1) ?_ fun J J h=>h))
  rintro _ s₁ ⟨F₁,S₁,e₁,_⟩
  exact qad (zhv hX f hf hp.2 (Nat.succ.inj hl) F₁ S₁ (RepL.mono e₁.toKp (F.ownX hX) R2) fun s₂ F₂ S₂ e₂=>hQ s₂ F₂ S₂ (e₁.trans e₂))
theorem zv0{body:List Stmt}(O:c.Ok)(K:FunOk c f a o fd body ps (ps++[zcg]) wu)(hj:fd.scope.names.lookup zcg=some .local)(hr:wu.lookup zcg=none)
  (hbod:∀L,EnvX allY (qaq fd L a) (XS (qaq fd L a))->zdw c (qaq fd L a) wu (XS (qaq fd L a)) body xs) {E:XPost} (wq:vs.length=ps.length)
  (hw:wpSs (Calls c) q d (some (kk,z)) xs (EndQ Q) (EndX E) (vs.map some++List.replicate (wu.n-vs.length) none) H):Calls c q (d+1) f vs (some (kk,z)) Q E H:=by
 refine(fun J kJ=>kJ a o fd K.g K.ho K.hd (fun A φ s args extra hA S R hex=>?_))
 obtain⟨fv,rfl,CR⟩:=hex
 have hal:args.length=ps.length:=by rw[RepL.length R,wq]
 have hdep:=hA.dep
 have hun:=hA.un
 refine codeAny_call_function (by show _<1000;exact ar1 [_,_] [] kaa (Y1 V0 (.l 1000)) (Y0 (Y0 V0 (Y0 V1 J1)) (.l 890)) hdep) (S.stays a o K.ho) K.hd K.co K.gen K.hbody (K.code.keeps S.stays) ?_
 rw[K.bind (args++[fv]) (by rw[zak,zak,hal];rfl),K.clo,List.zip_append hal.symm]
 refine qad ?_
 simp only[qbm,Option.isSome_none,zbk,if_false]
 refine qaa (wpAny_alloc ?_)
 refine qaa (wpAny_layCells _ (fun name kind cells=>by cases hkc:kind==qaj<;>simp[hkc]) _ _ _ _ ?_)
 generalize hs₁:s.heap.push { cls:=.type "frame",data:=.dict #[] }=h₁
 have hz₁:h₁.objs.size=s.heap.objs.size+1:=by rw[<- hs₁,qbc]
 rw[show({ s with heap:=h₁ }:Shared).heap.objs.size=s.heap.objs.size+1 from hz₁]
 have keep:∀b o,s.heap.get? b=some o->(qat h₁ fd.scope.names).get? b=some o:=fun b o hb=>qbp _ _ b o (by rw[<- hs₁];exact qae _ hb)
 have hX:=zm4 fd s.heap.objs.size a h₁ hz₁
 have e₁:Ext [] φ s φ { s with heap:=qat h₁ fd.scope.names }:=Ext.of_keeps keep rfl
 have cellok:∀x ca,(qas (s.heap.objs.size+1) fd.scope.names []).lookup x=some ca->(qat h₁ fd.scope.names).get? ca=some zf5/\s.heap.objs.size<ca:=fun x ca hx=>by
  have hm:=qav hx
  rw[<- hz₁] at hm
  have ok:=cellsFrom_ok fd.scope.names h₁ (s.heap.objs.size+1) [] ⟨fun J J hm=>(nomatch hm),List.Pairwise.nil⟩ (by rw[hz₁];exact zae _)
  exact⟨zhd fd.scope.names h₁ [] (fun J J hm=>nomatch hm) x ca hm,(ok.empty x ca hm).2⟩
 have newφ:∀b,s.heap.objs.size<=b->b∉φ/\c.h0.get? b=none/\s.heap.get? b=none:=fun b hb=>
  ⟨fun hm=>zay _ (zat (S.lt hm) hb),S.h0_new hb,qal hb⟩
 have F₁:=zn5 K S (qbp _ _ _ _ (by rw[<- hs₁];exact qah _ rfl)) cellok newφ
 have far:∀b∈XS (qaq fd s.heap.objs.size a),s.heap.objs.size<=b:=fun b hb=>by
  rcases hX.only b hb with rfl |⟨x,hx⟩
  ·exact zae _
  ·exact zap (cellok x b hx).2
 refine qaa (zhv (c:=c) (wz:=qaq fd s.heap.objs.size a) (X:=XS (qaq fd s.heap.objs.size a)) (s:={ s with heap:=qat h₁ fd.scope.names }) hX _ (fun J J J=>rfl) (K.par _) wq F₁ (S.keeps (s':={ s with heap:=qat h₁ fd.scope.names }) keep rfl) (RepL.mono e₁.toKp OwnX.nil R) fun s₁ F₁' S₁ e₁'=>?_)
 have CR₁:CloRep c φ s₁.heap s.heap.objs.size kk z fv:=(CR.mono (s':={ s with heap:=qat h₁ fd.scope.names }) e₁.toKp OwnX.nil fun J J J J J q=>nomatch q).mono (s:={ s with heap:=qat h₁ fd.scope.names }) e₁'.toKp (FSim.ownX (s:={ s with heap:=qat h₁ fd.scope.names }) F₁ hX)
  fun ca o J J hlt q=>zay _ (zat hlt (far ca q))
 rw[List.zip_cons_cons,List.zip_nil_left,List.forIn_cons]
 refine qaa (qaa (zsm F₁' S₁ K.fr hj hr hX.loc CR₁ fun s₂ F₂ S₂ e₂'=>qad ?_))
 have e₂:=e₁'.trans e₂'
 dsimp only;rw[List.forIn_nil]
 refine qad (qad ⟨O.lim.keeps S₂.stays,codeAny_func ?_⟩)
 have hXn:∀b∈XS (qaq fd s.heap.objs.size a),s.heap.get? b=none:=fun b hb=>(newφ b (far b hb)).2.2
 have e₀₂:=(e₁.weaken (Y:=XS (qaq fd s.heap.objs.size a)) (fun J h=>nomatch h) fun b hb=>(FSim.outX (s:={ s with heap:=qat h₁ fd.scope.names }) F₁ hX b hb).1).trans e₂
 have hloc:zmz 0 vs (List.replicate wu.n none)=vs.map some++List.replicate (wu.n-vs.length) none:=by
  have:=zmh vs [] (wu.n-vs.length)
  rw[Nat.add_sub_cancel' (wq▸K.np)] at this
  exact this
 rw[hloc] at F₂
 obtain⟨fr,hfr,hfrs⟩:=(hA.mono e₀₂).fr
 have hEnv:EnvOk c φ s₂.heap (qaq fd s.heap.objs.size a):=by
  obtain⟨m,⟨⟨o1,es,n,ho1,hd1,_⟩,o2,ho2,hc2⟩,_,_⟩:=F₂.ns
  obtain rfl:=zaa (ho1.symm.trans ho2)
  rcases hc2 with hc2 |hc2
  ·exact⟨⟨by rw[show(qaq fd s.heap.objs.size a).scope.kind=fd.scope.kind from rfl,K.kind];decide,K.gen,K.co,K.bl,K.gl⟩,s.heap.objs.size,o1,es,n,rfl,F₂.L0,F₂.Lφ,ho1,hd1,hc2.1⟩
  ·rw[K.fr] at hc2;cases hc2.2.2
 have hfr2:(A.deeper (qaq fd s.heap.objs.size a)).frames=some (qaq fd s.heap.objs.size a::fr):=by show A.frames.map _=_;rw[hfr];rfl
 have hA₂:OkF c (A.deeper (qaq fd s.heap.objs.size a)) q d φ s₂.heap:=
  ⟨⟨by show A.depth+1+d<=890;exact ar1 [_,_] [] kaa (Y0 (Y0 (Y0 V0 J1) V1) (.l 890)) (Y0 (Y0 V0 (Y0 V1 J1)) (.l 890)) hdep,by show A.units+3+10*d<=9000;exact ar1 [_,_] [] kaa (Y0 (Y0 (Y0 V0 (.l 3)) (Y1 (.l 10) V1)) (.l 9000)) (Y0 (Y0 V0 (Y1 (.l 10) (Y0 V1 J1))) (.l 9000)) hun,hA.hd,_,hfr2,fun wz he=>by
   rcases zah.mp he with rfl |he
   ·exact hEnv
   ·exact hfrs wz he⟩,by rw[hfr2];exact fun h=>nomatch h⟩
 refine qac (hbod _ hX _ q d _ _ φ H s₂ _ _ hA₂ ⟨fr,hfr2⟩ F₂ S₂ hw) ?_ ?_
 ·rintro f s₃ ⟨φ₃,H₃,l₃,e₃,S₃,F₃,w₃⟩
  have e₀₃:=(e₀₂.trans e₃).drop hXn
  cases f with
  |next=>exact⟨φ₃,H₃,.none,e₀₃,S₃,rN,w₃⟩
  |ret r=>refine w₃ _ fun v Rv w=>?_;clear w₃;exact⟨φ₃,H₃,v,e₀₃,S₃,Rv,w⟩
  |_=>exact w₃.elim
 ·intro x s₃ h
  exact zut hA₂ ⟨fr,hfr2⟩ S₂ e₀₂ hXn h fun J J h=>h
end
variable {B:String}{L:Nat}{Q:Value->Shared->Prop}{d:Drawn}{ps vs:Array Value}{r:Expr->Option Ex}{x:Addr×(Nat×Nat)×Str}{y:Option Value}
section
open PySem PyProof.Rows
inductive CdHd(h:Heap)(c P:Addr):Prop
 |mk (o:Obj)(vs:Array Value)(file:Str)(tf:Tok)(flags:Int)(tg:Tok)(inF:Bool)(text:Int)(tt:Tok)(h1:h.get? c=some o)(h2:o.cls=.type "code")(h3:o.data=.fields vs)(h4:vs[11]?=some (.ref P))(h5:vs.getD 11 .none=.ref P)
   (h6:vs.getD 18 .none=.str file tf) (h7:vs.getD 7 .none=.int flags tg) (h8:vs.getD 9 .none=.bool inF) (h9:vs.getD 10 .none=.int text tt) (ne:c≠P):CdHd h c P
theorem CdHd.keeps{c P:Addr}(k:∀b o,h.get? b=some o->h'.get? b=some o):CdHd h c P->CdHd h' c P
 |.mk o vs file tf flags tg inF text tt h1 h2 h3 h4 h5 h6 h7 h8 h9 ne=>.mk o vs file tf flags tg inF text tt (k _ _ h1) h2 h3 h4 h5 h6 h7 h8 h9 ne
theorem CdHd.code{c P:Addr}(hP:h.get? P=some (tabO ps))(ht:TriplesOk ps.toList):CdHd h c P->h.IsCode c P ps
 |.mk o vs file tf flags tg inF text tt h1 _ h3 _ h5 h6 h7 h8 h9 ne=>⟨o,vs,file,tf,flags,tg,inF,text,tt,_,h1,h3,h5,h6,h7,h8,h9,hP,rfl,ht,ne⟩
theorem CdHd.tab{c P:Addr}(hP:h.get? P=some (tabO ps)):CdHd h c P->h.TableAt c P ps
 |.mk o vs _ _ _ _ _ _ _ h1 h2 h3 h4 _ _ _ _ _ _=>⟨⟨o,vs,h1,h2,h3,h4⟩,hP⟩
inductive BMain(c:Cx):Prop
 |mk (bm:Addr)(ob:Obj)(b1:c.g "__builtins__"=some (.ref bm))(b2:bm≠qbn)(b3:c.h0.get? bm=some ob)(b4:ob.cls=.type "module")(b5:ob.dict=some qbn)(b6:ob.data=.plain):BMain c
abbrev lamFd (qual:Str) (params:Arguments) (body:Expr) (scope:Scope) (cl:List (Str×Addr)) (pm code ct:Value):qbe:=
 { name:="<lambda>",qualname:=qual,params,body:=.expr body,scope,globals:=qan,closure:=cl,defaults:=.none,kwdefaults:=.none,doc:=.none,pyModule:=pm,annotations:=none,code,closureTuple:=ct,builtins:=qbn }
abbrev lamO (fd:qbe):Obj:={ cls:=.type "function",data:=.func fd }
theorem lam_tail{params:Arguments}{body:Expr}{scope:Scope}{fl:Nat}(BM:BMain c)(hg:h0.Ns qan c.g)(hb:∀b o,c.h0.get? b=some o->h0.get? b=some o)
  (hcl:closureFor scope wz=pure [cl]) (hgl:wz.globals=qan)
  (h:∀its,wpAny (model c.prog c.w) A (functionCode wz pos fl "<lambda>" qual params scope (.expr body)) (fun cv s'=>(∀b o,h0.get? b=some o->s'.heap.get? b=some o)/\∀pm ct,Q (.ref s'.heap.objs.size) { s' with heap:=s'.heap.push (lamO (lamFd qual params body scope [cl] pm cv ct)) }) E
   { s with heap:=s.heap.push { cls:=.type "tuple",data:=.seq its } }) :
  wpAny (model c.prog c.w) A (makeFunction "<lambda>" qual params (.expr body) scope wz [] [] [] pos fl) Q E s:=by
 obtain⟨bm,ob,b1,b2,b3,b4,b5,b6⟩:=BM
 rw[makeFunction_eq]
 simp only[List.zip_nil_right,List.filterMap_nil,List.isEmpty_nil,if_true,pure_bind]
 unfold makeTail
 rw[hcl,hgl]
 refine qaa (qad ?_)
 simp only[List.isEmpty_cons,zbk,if_false]
 refine qaa (wpAny_newTextTuple ?_)
 refine qaa (qac (h _) ?_ fun J J q=>q)
 rintro cv s' ⟨k,q⟩
 have hg':=hg.keeps k
 refine qaa (wpAny_builtinsFor hg' b1 b2 (k _ _ (hb _ _ b3)) b4 b5 b6 ?_)
 refine qaa (wpAny_nsGet hg' ?_)
 exact qaa (qad (qba (q _ _) (by size_fits)))
theorem zou{scope:Scope}{nm:Str}(hs:scope.names=[(p1,.local),(p2,.local),(nm,.free),(f,.globalImplicit)])(hc:wz.cells.lookup nm=some ca):closureFor scope wz=pure [(nm,ca)]:=by
 unfold closureFor
 rw[hs]
 simp[cellOf,hc]
theorem Ext.table {P : Addr} (hP : s.heap.get? P = some (tabO ps)) (hP' : s'.heap.get? P = some (tabO ps')) (hk : ∀ b o, b ≠ P -> s.heap.get? b = some o -> s'.heap.get? b = some o) (ho : s'.os = s.os) : Ext [] φ s φ s' := by
 have ne : ∀ b o, s.heap.get? b = some o -> o.cls ≠ .none -> b ≠ P := fun b o hb hc q => by rw [q, hP] at hb; (injection hb with Ja; subst Ja); exact hc rfl
 exact { pre := zbz
         keep := fun b o hb J J hf => hk b o (ne b o hb fun q => by rw [q] at hf; exact nomatch hf) hb
         new := fun J h => .inl h
         frame := fun b o hb J J hc => ⟨o.slots, hk b o (ne b o hb hc) hb⟩
         dict := fun b o es n hb J hd => ⟨o, es, n, hk b o (fun q => by rw [q, hP] at hb; (injection hb with Ja; subst Ja); injection hd) hb, hd, .rfl⟩
         exc := fun b o vs C hb J hc hd => ⟨vs, by rw [<- hd]; exact hk b o (ne b o hb (by rw [hc]; exact fun q => nomatch q)) hb⟩
         alive := fun J J J h => nomatch h
         tabs := fun b o hb J J hc => (Classical.em (b = P)).elim (fun q => ⟨_, q ▸ hP', rfl⟩) fun q => ⟨o, hk b o q hb, hc⟩
         os := ho }
theorem Sim.table (S : Sim c φ H s) (hP : s.heap.get? x.1 = some (tabO ps)) (hP' : s'.heap.get? x.1 = some (tabO ps')) (hk : ∀ b o, b ≠ x.1 -> s.heap.get? b = some o -> s'.heap.get? b = some o) (ho : s'.os = s.os) (hg : s'.gens = s.gens)
  (h0 : c.h0.get? x.1 = none) (hone : ∀ y ∈ c.tabs, y.1 = x.1 -> y = x) (hy : TabSt s'.heap x) : Sim c φ H s' where
 stays b o h := hk b o (fun q => by rw [q, h0] at h; injection h) (S.stays b o h)
 fresh := S.fresh
 nodup := S.nodup
 len := S.len
 lists i xs h := by
  refine (S.lists i xs h) _ fun a o vs n h1 h2 h3 h4 h5 h6 => ?_
  exact (fun J kJ => kJ a o vs n h1 (hk a o (fun q => by rw [q, hP] at h2; (injection h2 with Ja; subst Ja); injection h3) h2) h3 h4 (RepL.mono (Ext.table hP hP' hk ho).toKp OwnX.nil h5) h6)
 gens := hg.trans S.gens
 tab y hm := (Classical.em (y.1 = x.1)).elim (fun q => by rw [hone y hm q]; exact hy) fun q => by
  have k : ∀ b o, s.heap.get? b = some o -> o.cls = .type "code" -> s'.heap.get? b = some o := fun b o hb hc => hk b o (fun q => by rw [q, hP] at hb; (injection hb with Ja; subst Ja); injection hc) hb
  rcases S.tab y hm with h1 | ⟨cc, h1, h2⟩
  ·exact .no (hk _ _ q h1)
  ·exact .yes cc (hk _ _ q h1) (h2.mono k)
theorem zrc{nm:Str}(e:Ext [] φ s φ s₂)(S₂:Sim c φ H s₂)(CA:CellAt c φ s.heap ca)(hoc:s.heap.IsCell ca (some rv))(Rz:Rep c φ s.heap z rv)(hl:c.lam kk fd nm)(hcl:fd.closure=[(nm,ca)])(hcd:fd.code=.ref cc)(hco:CodeO s₂.heap cc fd.qualname)(hn:cc∉φ)
  (hQ:∀fv s',Ext [] φ s φ s'->Sim c φ H s'->CloRep c φ s'.heap s'.heap.objs.size kk z fv->Q fv s'):Q (.ref s₂.heap.objs.size) { s₂ with heap:=s₂.heap.push (lamO fd) }:=by
 have e₃:Ext [] φ s φ { s₂ with heap:=s₂.heap.push (lamO fd) }:=e.trans Ext.push
 obtain⟨o1,g1,g2⟩:=hoc
 obtain⟨h1,h2,o,h3,h4,h5⟩:=CA
 obtain rfl:=zaa (g1.symm.trans h3)
 have hc:=e₃.keep ca o1 g1 h1 (fun q=>nomatch q) (by rw[h4];decide)
 exact hQ _ _ e₃ (S₂.push _) ⟨s₂.heap.objs.size,lamO fd,fd,nm,ca,o1,rv,rfl,S₂.new,qah _ rfl,rfl,rfl,hl,hcl,h1,qa5 hc,hc,h4,g2,Rep.mono e₃.toKp OwnX.nil Rz,h2,cc,hcd,hco.mono fun J J q J=>qae _ q,hn⟩
theorem lam_made{params:Arguments}{body:Expr}{scope:Scope}{nm:Str}(O:c.Ok)(BM:BMain c)
  (hx:x∈c.tabs) (hone:∀y∈c.tabs,y.1=x.1->y=x) (h0:c.h0.get? x.1=none) (CH:CdHd c.h0 cc x.1) (hcode:wz.code=.ref cc) (hl:x.2.1=(pos.line,pos.col)) (hq:x.2.2=wz.qual++"<lambda>") (hd1:params.defaults=[]) (hd2:params.kw_defaults=[])
  (hs:scope.names=[(p1,.local),(p2,.local),(nm,.free),(f,.globalImplicit)]) (hgl:wz.globals=qan) (S:Sim c φ H s) (hca:wz.cells.lookup nm=some ca) (CA:CellAt c φ s.heap ca) (hoc:s.heap.IsCell ca (some rv)) (Rz:Rep c φ s.heap z rv)
  (hLam:∀pm cv ct,c.lam kk (lamFd (wz.qual++"<lambda>") params body scope [(nm,ca)] pm cv ct) nm) (hQ:∀fv s',Ext [] φ s φ s'->Sim c φ H s'->CloRep c φ s'.heap s'.heap.objs.size kk z fv->Q fv s') :
  wpAny (model c.prog c.w) A (eval (.Lambda params body scope pos) wz) Q E s:=by
 have hdef:defaultsOf params wz=([],[]):=by
  obtain⟨_,_,_,_,_,_,_⟩:=params
  dsimp only at hd1 hd2
  subst hd1 hd2;rfl
 rw[arm_eval_Lambda,hdef]
 show wpAny _ _ (do let dv<-evalAll [];let kdv<-holding dv (evalAllOpt []);makeFunction "<lambda>" (wz.qual++"<lambda>") params (.expr body) scope wz dv kdv [] pos pos.line) Q E s
 refine qaa (qad (qaa (qak (qad ?_))))
 refine lam_tail (h0:=c.h0) BM O.gl (fun J J h=>h) (zou hs hca) hgl fun its=>?_
 have S₁:=S.push { cls:=.type "tuple",data:=.seq its }
 have e₁:Ext [] φ s φ { s with heap:=s.heap.push { cls:=.type "tuple",data:=.seq its } }:=Ext.push
 have C₁:=CH.keeps S₁.stays
 rcases S₁.tab x hx with hP |⟨c',hP,hC⟩
 ·refine wpAny_functionCodeX hcode (C₁.code hP trivial) (C₁.tab hP) rfl fun c' h' tk hk hge hlt J hrec htb hc2=>?_
  obtain⟨P',_,_,⟨o2,vs2,g1,g2,g3,_⟩,_⟩:=hc2
  obtain⟨c2,o3,vs3,t3,q1,q2,q3,q4⟩:=hrec
  obtain rfl:=qby q1
  obtain rfl:=zaa (g1.symm.trans q2)
  have hP':h'.get? x.1=some (tabO #[rawInt pos.line,rawInt pos.col,.ref c']):=by
   have:=htb.2
   rw[Array.empty_append] at this;exact this
  have hco:CodeO h' c' (wz.qual++"<lambda>"):=⟨o2,vs3,t3,g1,g2,q3,q4⟩
  have S₂:Sim c φ H { s with heap:=h',toks:=tk }:=S₁.table (x:=x) (s':={ s with heap:=h',toks:=tk }) hP hP' (fun b o hb ho=>hk b o hb ho) rfl rfl h0 hone (.yes c' (by rw[hl];exact hP') (by rw[hq];exact hco))
  have e₂:Ext [] φ s φ { s with heap:=h',toks:=tk }:=e₁.trans (Ext.table (s':={ s with heap:=h',toks:=tk }) hP hP' (fun b o hb ho=>hk b o hb ho) rfl)
  have hn:c'∉φ:=fun hm=>zay _ (zat (S₁.lt hm) hge)
  exact⟨fun b o hb=>S₂.stays b o hb,fun pm ct=>zrc (fd:=lamFd (wz.qual++"<lambda>") params body scope [(nm,ca)] pm (.ref c') ct) e₂ S₂ CA hoc Rz (hLam _ _ _) rfl rfl hco hn hQ⟩
 ·rw[hl] at hP
  have hn:c'∉φ:=fun hm=>by
   obtain⟨o1,g1,g2⟩:=S₁.isList hm
   obtain⟨o2,_,_,q1,q2,_,_⟩:=hC
   obtain rfl:=zaa (g1.symm.trans q1)
   rw[g2] at q2;exact absurd q2 (by decide)
  refine wpAny_functionCode_hit hcode (C₁.code hP trivial) (c':=.ref c') ?_ ⟨S₁.stays,fun pm ct=>zrc (fd:=lamFd (wz.qual++"<lambda>") params body scope [(nm,ca)] pm (.ref c') ct) e₁ S₁ CA hoc Rz (hLam _ _ _) rfl rfl (hq▸hC) hn hQ⟩
  show(if((pos.line:Int)==(pos.line:Int)&&(pos.col:Int)==(pos.col:Int))=true then some (qao c') else _)=_
  rw[beq_self_eq_true,beq_self_eq_true];rfl
theorem zpf{pl:Pos}{e2 body:Expr}{params:Arguments}{scope:Scope}{nm g:Str}(O:c.Ok)(BM:BMain c)(hk:wz.kindOf f=some .globalImplicit)(hg:c.g f=some (.ref a))(ho:c.h0.get? a=some o)(hd:o.data=.func fd)
  (hx:(f==("__debug__":Str))=false) (n1:zct e1=true) (n2:zct e2=true) (h1:zce c wz wu e1 y1) (h2:zce c wz wu e2 y2)
  (hm:x∈c.tabs) (hone:∀y∈c.tabs,y.1=x.1->y=x) (h0:c.h0.get? x.1=none) (CH:CdHd c.h0 cc x.1) (hcode:wz.code=.ref cc) (hl:x.2.1=(pl.line,pl.col)) (hq:x.2.2=wz.qual++"<lambda>") (hd1:params.defaults=[]) (hd2:params.kw_defaults=[])
  (hs:scope.names=[(p1,.local),(p2,.local),(nm,.free),(g,.globalImplicit)]) (hn:wz.kindOf nm=some .cell) (hi:wu.lookup nm=some i)
  (hLam:∀ca pm cv ct,c.lam kk (lamFd (wz.qual++"<lambda>") params body scope [(nm,ca)] pm cv ct) nm) :
  zce c wz wu (.Call (.Name f p) [e1,e2,.Lambda params body scope pl] [] pos) (.callL f [y1,y2] kk i):=fun A q d k loc φ H s Q E hA hF hS hw=>by
 show wpAny _ _ (eval (.Name f p) wz >>=fun fv=>callWith pos fv [] (backTo pos (qa6 [e1,e2,.Lambda params body scope pl] wz)) []) _ _ _
 refine qaa (Calls.Name_function_global hF.fn hk (Calls.loadGlobal_global (by rw[hF.gl];exact O.gl.keeps hS.stays) hg ?_) hx)
 rw[zc3 n1,zc3 n2,zc3 rfl]
 refine Calls.callWith_function (o:=o) (fd:=fd) (Calls.evalArgs_plain ?_)
 refine Calls.spliced_cons (qac (h1 A q d k loc φ H s _ E hA hF hS hw) ?_ fun J J h=>h)
 rintro r₁ s₁ ⟨φ₁,H₁,v₁,e₁,S₁,R₁,w₁⟩
 refine Calls.spliced_cons (qac (h2 A q d k loc φ₁ H₁ s₁ _ E (hA.mono e₁) (hF.mono e₁) S₁ w₁) ?_ fun J J h=>OutX.lift e₁ S₁ h)
 rintro r₂ s₂ ⟨φ₂,H₂,v₂,e₂,S₂,R₂,w₂⟩
 revert w₂;refine xI fun z hz w₂=>?_
 have F₂:=(hF.mono e₁).mono e₂
 obtain⟨m,hns,sl,_⟩:=id F₂.ns
 have h3:=sl nm i hi
 rw[hz] at h3
 unfold zfw at h3
 rw[hn] at h3
 obtain⟨_,ca,rv,g1,g2,g3⟩:=h3
 refine Calls.spliced_cons (lam_made O BM hm hone h0 CH hcode hl hq hd1 hd2 hs hF.gl S₂ g1 (F₂.cells nm ca g1) g2 g3 (hLam ca) fun fv s₃ e₃ S₃ CR=>Calls.spliced_nil ?_)
 refine⟨⟨S₃.stays a o ho,hd⟩,wpAny_call ?_⟩
 refine w₂ _ fun a' o' fd' q1 q2 q3 q4=>?_;clear w₂
 rw[hg] at q1;injection q1 with Ja;injection Ja with w4;subst w4
 have e₀:=(e₁.trans e₂).trans e₃
 refine codeAny_mono (q4 A φ₂ s₃ [r₁,r₂] [fv] ((hA.mono e₀)).toOkA S₃ ⟨Rep.mono (e₂.trans e₃).toKp OwnX.nil R₁,Rep.mono e₃.toKp OwnX.nil R₂,rL⟩ ⟨fv,rfl,CR⟩) ?_
 intro r s' hr
 cases r with
 |error e=>exact OutX.lift e₀ S₃ hr
 |ok f=>cases f with
  |ret v=>exact Out.lift e₀ hr
  |_=>exact hr.elim
end
variable {Q:Option Value->Shared->Prop}{cl:Int}{p1:Pos}{ps:List Str}{x:Ex}
section
open PySem PyProof.Rows
set_option maxRecDepth 100000
inductive ClsAt(h:Heap)(C:Addr)(bm:List Value)(ini:Option Value):Prop
 |mk (nm q:Str)(N:Addr)(bs:List Value)(sn:List Str)(sub:List Value)(ab:Bool)(col:Option Bool)(dd:Option Addr)(k0 k1 k2 k3 k5:Option Value)(mN:Str->Option Value)
   (hC:h.get? C=some (qb4 nm q C N bs bm true sn sub ab col dd k0 k1 k2 k3 k5 "ValueError.__new__")) (hN:h.Ns N mN) (hq:∀n∈zd8,mN n=none) (hi:mN "__init__"=ini):ClsAt h C bm ini
theorem ClsAt.keeps(K:ClsAt h C bm ini)(hk:∀b o,h.get? b=some o->h'.get? b=some o):ClsAt h' C bm ini:=by
 obtain⟨nm,q,N,bs,sn,sub,ab,col,dd,k0,k1,k2,k3,k5,mN,hC,hN,hq,hi⟩:=K
 exact⟨nm,q,N,bs,sn,sub,ab,col,dd,k0,k1,k2,k3,k5,mN,hk _ _ hC,hN.keeps hk,hq,hi⟩
structure Kid(h:Heap)(C NE:Addr):Prop where
 own:∃ini,ClsAt h C (.ref NE::vbm) ini
 net:ClsAt h NE vbm none
theorem Kid.keeps(K:Kid h C NE)(hk:∀b o,h.get? b=some o->h'.get? b=some o):Kid h' C NE:=
 ⟨let⟨i,k⟩:=K.own;⟨i,k.keeps hk⟩,K.net.keeps hk⟩
theorem Kid.lookup(K:Kid h C NE)(hn:n∈zd8)(hB:qb2 (.type "ValueError") n=pure y)(hq:Q y ⟨h,g,d,t,os⟩) :
  wpAny M A (qb2 (.ref C) n) Q E ⟨h,g,d,t,os⟩:=by
 obtain⟨⟨ini,nm,q,N,bs,sn,sub,ab,col,dd,k0,k1,k2,k3,k5,mN,hC,hN,hqn,hi⟩,⟨nm',q',N',bs',sn',sub',ab',col',dd',k0',k1',k2',k3',k5',mN',hC',hN',hqn',hi'⟩⟩:=K
 have hrest:lookupAlong vbm n=pure y:=by rw[typeLookup_eq,PySem.F.excBase_ValueError.mroIs] at hB;exact hB
 rw[typeLookup_eq]
 refine qaa (wpAny_mroOf_exc hC ?_)
 rw[lookupAlong_cons]
 refine qaa (wpAny_classOwn_exc hC hN ?_)
 rw[hqn n hn]
 show wpAny _ _ (lookupAlong (.ref NE::vbm) n) _ _ _
 rw[lookupAlong_cons]
 refine qaa (wpAny_classOwn_exc hC' hN' ?_)
 rw[hqn' n hn]
 show wpAny _ _ (lookupAlong vbm n) _ _ _
 rw[hrest]
 exact qad hq
theorem Kid.sub{Q:Bool->Shared->Prop}(K:Kid h C NE)(hq:Q ((qao C::.ref NE::vbm).contains base) ⟨h,g,d,t,os⟩):wpAny M A (isSubtype (.ref C) base) Q E ⟨h,g,d,t,os⟩:=by
 obtain⟨⟨ini,nm,q,N,bs,sn,sub,ab,col,dd,k0,k1,k2,k3,k5,mN,hC,_⟩,_⟩:=K
 exact qb9 hC hq
theorem Kid.obj(K:Kid h C NE):∃o cd,h.get? C=some o/\o.cls=.type "type"/\o.data=.cls cd:=by
 obtain⟨⟨ini,nm,q,N,bs,sn,sub,ab,col,dd,k0,k1,k2,k3,k5,mN,hC,_⟩,_⟩:=K
 exact⟨_,_,hC,rfl,rfl⟩
theorem zpq:qb2 (.type "ValueError") "__class__"=pure (some (.builtin "object.__class__")):=by rw[qb1,qbb];kernel_rfl
theorem zli (K:Kid h C NE) (hx:h.get? a=some o) (hc:o.cls=.ref C) (hq:R (.ok (.ret (.ref C))) ⟨h,g,d,t,os⟩) :
  codeAny (model prog w) A (.call (.builtin "getset_descriptor.__get__") ⟨[.builtin "object.__class__",.ref a,.ref C],[]⟩) R ⟨h,g,d,t,os⟩:=by
 have hT5:(⟨h,g,d,t,os⟩:Shared).TypeIs (.builtin "object.__class__") "getset_descriptor":=F.typeOf_object_class
 have hcB:(qao C::.ref NE::vbm).contains (.type (".".intercalate ("object.__class__".cutAt '.').dropLast))=true:=by
  rw[F.owner_object_class];rfl
 refine qbh F.slot_gs_get.plain F.entry_gs_get (F.slot_gs_get.check _ _ _ _ _ _ _ _ hT5 (F.args_gs_get _ _ _) ?_)
 repeat(any_goals(first |assumption |(with_reducible refine qai hx ?_;rw[hc]) |(with_reducible refine K.sub ?_;rw[hcB]) |wp_step))
 refine⟨Code.quiet_builtin _ (by decide +kernel),codeAny_builtin F.entry_object_class ?_⟩
 repeat(any_goals(first |assumption |(with_reducible refine qai hx ?_;rw[hc]) |wp_step))
theorem zj6{Q:Fin->Shared->Prop}(K:Kid h C NE)(hx:h.get? a=some o)(hc:o.cls=.ref C)(hq:Q (.done (.ret (.ref C))) ⟨h,g,d,t,os⟩) :
  wpAny (model prog w) A (Builtin.«object.__getattribute__» ⟨[.ref a,.str "__class__" tk],[]⟩) Q E ⟨h,g,d,t,os⟩:=by
 have hT5:(⟨h,g,d,t,os⟩:Shared).TypeIs (.builtin "object.__class__") "getset_descriptor":=F.typeOf_object_class
 have f5:=F.typeOf_object_class
 have f6:=F.slot_gs_get.lookup
 have f7:=F.slot_gs_set.lookup
 have hm:("__class__":Str)∈zd8:=.tail _ (.tail _ (.head _))
 repeat(any_goals(first |assumption |(with_reducible refine qai hx ?_;rw[hc]) |with_reducible refine K.lookup hm zpq ?_ |wp_step))
 refine zli K hx hc ?_
 repeat(any_goals(first |assumption |wp_step))
theorem zif{Q:Unit->Shared->Prop}(K:Kid h C NE)(hx:h.get? a=some o)(hc:o.cls=.ref C)(hq:Q () ⟨h,g,d,t,os⟩):wpAny M A (qb7 "BaseException.__getattribute__" ⟨[.ref a,nameV],[]⟩) Q E ⟨h,g,d,t,os⟩:=by
 have hk:builtinKind "BaseException.__getattribute__"=some .slot:=by decide +kernel
 have hsplit:splitId "BaseException.__getattribute__"=some ("BaseException","__getattribute__"):=by decide +kernel
 have hcB:(qao C::.ref NE::vbm).contains (.type "BaseException")=true:=rfl
 have ha:=F.args_bexc_ga (.ref a) nameV
 simp only[qb7,hk,hsplit]
 refine qaa ?_
 unfold isInstance
 repeat(first |(with_reducible refine qai hx ?_;rw[hc]) |(with_reducible refine K.sub ?_;rw[hcB]) |wp_step)
 exact hq
theorem znb{Q:Value->Shared->Prop}(K:Kid h C NE)(hx:h.get? a=some o)(hc:o.cls=.ref C)(hq:Q (.ref C) ⟨h,g,d,t,os⟩) :
  wpAny (model prog w) A (getAttrBy (.ref a) (.str "__class__" tk) fill expr) Q E ⟨h,g,d,t,os⟩:=by
 have FB:=PySem.F.attrBase_ValueError
 have f3:=FB.ga.bind (.ref a)
 have hx0:(expr&&onTheHeap (qa3 "BaseException.__getattribute__"))=false:=by cases expr<;>rfl
 have hx2:(qa3 "BaseException.__getattribute__"==qa3 "object.__getattribute__")=false:=by decide +kernel
 have hx1:(onTheHeap (qao C)&&qa3 "BaseException.__getattribute__"==qa3 "object.__getattribute__")=false:=by rw[hx2];rfl
 have hm1:("__getattribute__":Str)∈zd8:=.head _
 have hm2:("__getattr__":Str)∈zd8:=.tail _ (.head _)
 repeat(any_goals(first |assumption |(with_reducible refine qai hx ?_;rw[hc]) |with_reducible refine K.lookup hm1 FB.ga.lookup ?_ |with_reducible refine K.lookup hm2 FB.noGetattr ?_ |wp_step))
 refine qbh FB.ga.plain F.entry_bexc_ga (zif K hx hc (zj6 K hx hc ?_))
 repeat(any_goals(first |assumption |wp_step))
theorem zkg(K:Kid h C NE)(hx:h.get? a=some o)(hc:o.cls=.ref C)(hq:Q (some (.ref C)) ⟨h,g,d,t+1,os⟩):wpAny (model prog w) A (getAttr? (.ref a) "__class__") Q E ⟨h,g,d,t,os⟩:=by
 unfold getAttr? getAttrBy?
 repeat(any_goals(first |assumption |with_reducible apply znb K hx hc |wp_step))
end
variable {Q:Value->Shared->Prop}{y:Str}
section
open PySem PyProof.Rows
set_option maxRecDepth 100000
theorem zpb{Q:Fin->Shared->Prop}(hx:h.get? a=some o)(hc:o.cls=.ref C)(hq:Q (.done (.ret (.bool true))) ⟨h,g,d,t,os⟩) :
  wpAny (model prog w) A (Builtin.«isinstance.nested» ⟨[.ref a,.ref C,.int dep tk],[]⟩) Q E ⟨h,g,d,t,os⟩:=by
 have e:(qao C==qao C)=true:=beq_self_eq_true _
 repeat(any_goals(first |assumption |(with_reducible refine qai hx ?_;rw[hc]) |simp only[e,if_true] |wp_step))
theorem zts{Q:Fin->Shared->Prop}(K:Kid h C NE)(hx:h.get? a=some o)(hc:o.cls=.ref C)(hq:Q (.done (.ret (.bool true))) ⟨h,g,d,t,os⟩) :
  wpAny (model prog w) A (Builtin.«isinstance.nested» ⟨[.ref a,.type "ValueError",.int dep tk],[]⟩) Q E ⟨h,g,d,t,os⟩:=by
 have hty:typeOf (.type "ValueError")=pure (.type "type"):=by rfl
 have hcB:(qao C::.ref NE::vbm).contains (.type "ValueError")=true:=rfl
 repeat(any_goals(first |assumption |(with_reducible refine qai hx ?_;rw[hc]) |(with_reducible refine K.sub ?_;rw[hcB]) |wp_step))
theorem zsk{Q:Fin->Shared->Prop}(K:Kid h C NE)(KD:Kid h D NE)(hne:C≠D)(hnn:NE≠D)(hx:h.get? a=some o)(hc:o.cls=.ref C)(hq:Q (.done (.ret (.bool false))) ⟨h,g,d,t+1,os⟩) :
  wpAny (model prog w) A (Builtin.«isinstance.nested» ⟨[.ref a,.ref D,.int dep tk],[]⟩) Q E ⟨h,g,d,t,os⟩:=by
 obtain⟨oD,cdD,hD,hDc,hDd⟩:=KD.obj
 obtain⟨oC,cdC,hC,hCc,hCd⟩:=K.obj
 have e:(qao C==qao D)=false:=beq_eq_false_iff_ne.mpr fun q=>hne (qby q)
 have e2:(qao NE==qao D)=false:=beq_eq_false_iff_ne.mpr fun q=>hnn (qby q)
 have hcB:(qao C::.ref NE::vbm).contains (.ref D)=false:=by
  rw[List.contains_cons,List.contains_cons,show(qao D==qao C)=false from beq_eq_false_iff_ne.mpr fun q=>hne (qby q).symm,show(qao D==qao NE)=false from beq_eq_false_iff_ne.mpr fun q=>hnn (qby q).symm];rfl
 repeat(any_goals(first |assumption |(with_reducible refine qai hx ?_;rw[hc]) |(with_reducible refine qai hD ?_;rw[hDc]) |(with_reducible refine qai hD ?_;rw[hDd]) |(with_reducible refine qai hC ?_;rw[hCd]) |(with_reducible refine K.sub ?_;rw[hcB]) |with_reducible apply zkg K hx hc |simp only[e,zbk,if_false] |wp_step))
end
section
open PySem PyProof.Rows
set_option maxRecDepth 100000
inductive ExcOk(c:Cx):Prop
 |mk (NE:Addr)(hn:c.g (qab "NetError")=some (.ref NE))(net:ClsAt c.h0 NE vbm none)(kid:∀cn∈kids,∃C ini,c.g cn=some (.ref C)/\C≠NE/\ClsAt c.h0 C (.ref NE::vbm) ini/\(cn≠qab "BadNet"->ini=none))
   (inj:∀cn∈kids,∀dn∈kids,c.g cn=c.g dn->cn=dn) (ve:c.g (qab "ValueError")=none/\c.b (qab "ValueError")=some (.type "ValueError")):ExcOk c
theorem isi_same(hx:s.heap.get? a=some o)(hc:o.cls=.ref C)(hq:Q (.bool true) s):wpAny (model prog w) A (call (.builtin "isinstance") [.ref a,.ref C]) Q E s:=by
 obtain⟨h,g,d,t,os⟩:=s
 exact call_isinstance_of (zpb hx hc hq) (by intro e;injection e)
theorem isi_ve(K:Kid s.heap C NE)(hx:s.heap.get? a=some o)(hc:o.cls=.ref C)(hq:Q (.bool true) s):wpAny (model prog w) A (call (.builtin "isinstance") [.ref a,.type "ValueError"]) Q E s:=by
 obtain⟨h,g,d,t,os⟩:=s
 exact call_isinstance_of (zts K hx hc hq) (by intro e;injection e)
theorem isi_not(K:Kid s.heap C NE)(KD:Kid s.heap D NE)(hne:C≠D)(hnn:NE≠D)(hx:s.heap.get? a=some o)(hc:o.cls=.ref C)(hq:Q (.bool false) { s with toks:=s.toks+1 }):wpAny (model prog w) A (call (.builtin "isinstance") [.ref a,.ref D]) Q E s:=by
 obtain⟨h,g,d,t,os⟩:=s
 exact call_isinstance_of (zsk K KD hne hnn hx hc hq) (by intro e;injection e)
theorem exm_kid{Q:Bool->Shared->Prop}(K:Kid s.heap C NE)(hx:s.heap.get? a=some o)(hc:o.cls=.ref C)(hq:Q true s):wpAny M A (excMatches (.ref a) (.ref NE)) Q E s:=by
 obtain⟨h,g,d,t,os⟩:=s
 have hcN:(qao C::.ref NE::vbm).contains (.ref NE)=true:=by rw[List.contains_cons,List.contains_cons,beq_self_eq_true,Bool.true_or,Bool.or_true]
 have f:=tc_notTuple
 obtain⟨nm',q',N',bs',sn',sub',ab',col',dd',k0',k1',k2',k3',k5',mN',hC',hN',hqn',hi'⟩:=K.net
 have hcB:(qao NE::vbm).contains (.type "BaseException")=true:=rfl
 unfold excMatches
 repeat(first |(with_reducible refine qai hx ?_;rw[hc]) |with_reducible refine qai hC' ?_ |(with_reducible refine qb9 hC' ?_;rw[hcB]) |(with_reducible refine K.sub ?_;rw[hcN]) |wp_step)
 exact hq
section
variable {d:Nat}
inductive ClsV(c:Cx)(p:Str)(cv:Value):Prop
 |kid (h1:p∈kids)(h2:c.g p=some cv):ClsV c p cv
 |ve (h1:p=qab "ValueError")(h2:cv=.type "ValueError"):ClsV c p cv
theorem zwx{e:Str}(h:excOf v=some e):∃y,v=.exc e y:=by
 cases v with
 |exc cn y=>obtain rfl:=zaa h;exact⟨y,rfl⟩
 |_=>injection h
theorem zla(X:ExcOk c)(S:Sim c φ H s){x:Value}{p:Str}{b:Bool}(R:Rep c φ s.heap v x)(hcv:ClsV c p cv)(e:isiV v (.own p)=some b):Does c A φ s (call (.builtin "isinstance") [x,cv]) (.bool b) H:=by
 intro E
 obtain⟨NE,hn,net,kid,inj,_⟩:=X
 revert e;refine xB fun cn h1 h2=>?_
 obtain⟨y,rfl⟩:=zwx h1
 obtain⟨⟨hm,_⟩,rfl⟩:=iteS h2
 obtain⟨a,o,vs,rfl,ha,h0,ho,⟨C,hC⟩,hg,hd,_⟩:=R
 obtain⟨C',ini,g',hne,K',_⟩:=kid cn hm
 rw[hg,hC] at g'
 (injection g' with Ja;injection Ja with w4;subst w4)
 have K:Kid s.heap C NE:=⟨⟨ini,K'.keeps S.stays⟩,net.keeps S.stays⟩
 cases hcv with
 |ve h3 h4=>
  subst h3 h4
  rw[decide_eq_true (.inr rfl)]
  exact isi_ve K ho hC (Out.same' S rB)
 |kid h3 h4=>
  have hnv:p≠qab "ValueError":=fun q=>by rw[q] at h3;revert h3;decide
  obtain⟨D,ini',g',hne',KD,_⟩:=kid p h3
  rw[h4] at g'
  (injection g' with Ja;subst Ja)
  by_cases hp:cn=p
  ·subst hp
   rw[hg,hC] at h4
   (injection h4 with Ja;injection Ja with w4;subst w4)
   rw[decide_eq_true (.inl rfl)]
   exact isi_same ho hC (Out.same' S rB)
  ·rw[decide_eq_false (fun q=>q.elim hp hnv)]
   exact isi_not K ⟨⟨ini',KD.keeps S.stays⟩,net.keeps S.stays⟩ (fun q=>hp (inj cn hm p h3 (by rw[hg,hC,h4,q]))) (qax hne') ho hC (Out.same S rB)
end
theorem zl6{t:Str}(O:c.Ok)(XO:ExcOk c)(ht:t∈kids\/t=qab "ValueError")(hk:wz.kindOf (qab "isinstance")=some .globalImplicit)(hk':wz.kindOf t=some .globalImplicit)
  (hg:c.g (qab "isinstance")=none) (hb:c.b (qab "isinstance")=some (.builtin "isinstance"))
  (hx:(t==("__debug__":Str))=false) (hn:zct e=true) (h:zce c wz wu e x):zce c wz wu (.Call (.Name (qab "isinstance") p) [e,.Name t p'] [] pos) (.isi x (.own t)):=fun A q d k loc φ H s Q E hA hF hS hw=>by
 show wpAny _ _ (eval (.Name (qab "isinstance") p) wz >>=fun fv=>callWith pos fv [] (backTo pos (qa6 [e,.Name t p'] wz)) []) _ _ _
 refine qaa (Calls.Name_function_global hF.fn hk (Calls.loadGlobal_builtin (by rw[hF.gl];exact O.gl.keeps hS.stays) hg (by rw[hF.bl];exact O.bl.keeps hS.stays) hb ?_))
 rw[zc3 hn]
 refine zdb (by intro a h;injection h) rfl (Calls.evalArgs_plain (Calls.spliced_cons (qac (h A q d k loc φ H s _ E hA hF hS hw) ?_ fun J J h=>h)))
 rintro r s₁ ⟨φ₁,H₁,v₁,e₁,S₁,R₁,w₁⟩
 revert w₁;refine xI fun b hbb w₂=>?_
 skip
 rcases ht with ht |ht
 ·obtain⟨NE,hne,net,kid,inj,ve⟩:=id XO
  obtain⟨C,ini,g',_⟩:=kid t ht
  refine Calls.spliced_cons (Calls.Name_function_global hF.fn hk' (Calls.loadGlobal_global (by rw[hF.gl];exact O.gl.keeps S₁.stays) g' (Calls.spliced_nil ?_)) hx)
  exact(zla XO S₁ R₁ (.kid ht g') hbb).use e₁ w₂
 ·obtain⟨NE,hne,net,kid,inj,ve⟩:=id XO
  subst ht
  refine Calls.spliced_cons (Calls.Name_function_global hF.fn hk' (Calls.loadGlobal_builtin (by rw[hF.gl];exact O.gl.keeps S₁.stays) ve.1 (by rw[hF.bl];exact O.bl.keeps S₁.stays) ve.2 (Calls.spliced_nil ?_)) hx)
  exact(zla XO S₁ R₁ (.ve rfl rfl) hbb).use e₁ w₂
theorem xrep_new{e:Addr}(e₁:Ext [] φ₀ s₀ φ s)(S:Sim c φ H s)(hg:c.g cn=some (.ref C))(hb:cn≠qab "BadNet")(hm:Heap.MadeExcOf s.heap h' e (.ref C) args):XRep c φ s₀ h' (.exc cn .none) (.ref e):=by
 obtain⟨t,ht,_,_⟩:=hm.there
 have hφ:e∉φ:=fun q=>by
  obtain⟨o,ho,_⟩:=S.isList q
  exact no1 (hm.new.symm.trans ho)
 have h0:c.h0.get? e=none:=by
  refine xC (c.h0.get? e) (fun q=>?_) fun o q=>?_
  ·rfl
  ·have:=S.stays e o q;exact no1 (hm.new.symm.trans this)
 exact⟨⟨e,_,_,rfl,hφ,h0,ht,⟨C,rfl⟩,hg,rfl,fun q=>absurd q hb⟩,⟨_,_,rfl⟩,e,_,_,rfl,e₁.fresh S hm.new,ht,rfl,.inl rfl⟩
theorem zrv{xs:List Ex}(O:c.Ok)(XO:ExcOk c)(hX:EnvX allY wz X)(hm:cn∈kids)(hb:cn≠qab "BadNet")(hk:wz.kindOf cn=some .globalImplicit)(hdb:(cn==("__debug__":Str))=false)(h:zeu c wz wu es xs)(hne:es≠[])(hz:xs.length<=9) :
  zdm c wz wu X (.Raise (some (.Call (.Name cn np) es [] cpos)) none pos) (.rais cn xs):=fun A q d k loc φ H s Q E hA hh hF hS hw=>by
 obtain⟨rfl,hw⟩:=hw
 obtain⟨NE,hn,net,kid,inj,_⟩:=XO
 obtain⟨C,ini,hg,hCN,K,hini⟩:=kid cn hm
 obtain rfl:=hini hb
 obtain⟨nm,q,N,bs,sn,sub,ab,col,dd,k0,k1,k2,k3,k5,mN,hC,hN,hq,hi⟩:=K
 obtain⟨nm',q',N',bs',sn',sub',ab',col',dd',k0',k1',k2',k3',k5',mN',hC',hN',hq',hi'⟩:=net
 refine wpAny_Raise_call_subT (nm:=nm) (q:=q) (C:=C) (N:=N) (bs:=bs) (hdct:=true) (sn:=sn) (sub:=sub) (ab:=ab) (col:=col) (dd:=dd) (k0:=k0) (k1:=k1) (k2:=k2) (k3:=k3) (k5:=k5) (bm:=.ref NE::vbm) (mN:=mN) PySem.F.excBase_ValueError rfl (hA.hd rfl) (zgl h.1.1) hi (Calls.Name_function_global hF.fn hk (Calls.loadGlobal_global (by rw[hF.gl];exact O.gl.keeps hS.stays) hg ⟨rfl,?_⟩) hdb)
 refine qac (zg3 h hne hA hF hS hw) ?_ fun J J h=>OutX.no h
 rintro _ s₁ w0;refine w0 _ fun rs wk φ₁ H₁ vs e₁ S₁ R₁ eN2=>?_;clear w0;subst wk;obtain⟨l₁,w₁⟩:=eN2
 refine⟨rfl,?_,S₁.stays _ _ hC,hN.keeps S₁.stays,.own (S₁.stays _ _ hC') (hN'.keeps S₁.stays) hi' .base,fun h' e hme=>?_⟩
 ·show rs.length<=qag
  rw[RepL.length R₁,l₁];exact zac hz (by decide)
 ·have e₂:Ext [] φ₁ s₁ φ₁ { s₁ with heap:=h' }:=Ext.of_keeps hme.keeps rfl
  have w₂:E (.exc cn .none) loc H₁:=by
   have:atOf cn vs=.none:=if_neg hb
   rw[this] at w₁;exact w₁
  exact⟨φ₁,H₁,loc,_,hF.weak hX (e₁.trans e₂),S₁.keeps (s':={ s₁ with heap:=h' }) hme.keeps rfl,hF.mono (e₁.trans e₂),xrep_new e₁ S₁ hg hb hme,w₂⟩
end
variable {args:List Expr}{e:Value}{q x:Str}
section
open PySem PyProof.Rows
set_option maxRecDepth 100000
theorem zvv (F : FSim c wz wu k loc φ s.heap) (S : Sim c φ H s) (P : SlotPut wu wu x i) (hXL : wz.locals ∈ X) (hk : wz.kindOf x = some .local) (hi : loc.getD i none = some v) (hxi : wu.lookup x = some i) :
  wpAny (model c.prog c.w) A (deleteName wz x) (fun J s' => Stored c wz wu k (loc.set i none) φ H X s s') E s := by
 obtain ⟨m, ⟨hn, oL, hoL, hcL⟩, hsl, hjo⟩ := F.ns
 have hx := hsl x i hxi
 rw [hi] at hx
 unfold zfw at hx
 rw [hk] at hx
 have hsome : (m x).isSome = true := by
  cases hx with
  | yes _ r h1 _ => rw [h1]; rfl
 have hp : (wz.scope.kind == .class || (wz.scope.kind == .module && wz.locals != wz.globals)) = false := by rw [F.fn]; rfl
 unfold deleteName
 simp only [hk, hp]
 rw [if_neg (by decide)]
 refine qaa (nsDelK (T := oL.cls) ⟨hn, oL, hoL, rfl⟩ fun h' m' hn' hsm hs' hdk => ?_)
 rw [hsome]
 simp only [Bool.not_true, zbk, if_false]
 refine qad ?_
 obtain ⟨hn', o', ho', hcls'⟩ := hn'
 have hnf : ∀ o vs, s.heap.get? wz.locals = some o -> o.data ≠ .fields vs := fun o vs ho hd => by
  obtain ⟨o1, es1, n1, h1, h2, _⟩ := hn
  obtain rfl := zaa (ho.symm.trans h1)
  rw [h2] at hd; injection hd
 have hdd : ∀ o es n, s.heap.get? wz.locals = some o -> o.data = .dict es n -> ∃ o' es' n', h'.get? wz.locals = some o' /\ o'.data = .dict es' n' /\ DKo o o' := fun o es n ho J => by
  obtain ⟨o1, es1, n1, h1, h2, _⟩ := hn'
  obtain rfl := zaa (ho'.symm.trans h1)
  obtain rfl := zaa (hoL.symm.trans ho)
  exact ⟨o', es1, n1, ho', h2, hdk _ _ hoL ho'⟩
 have hcL' : ∀ y ca, wz.cells.lookup y = some ca -> ca ≠ wz.locals := fun y ca hy q => by
  obtain ⟨_, _, o1, h1, h2⟩ := F.cells y ca hy
  rw [q] at h1
  obtain rfl := zaa (hoL.symm.trans h1)
  rcases hcL with h | h
  ·rw [h2] at h; exact absurd h.1 (by decide)
  ·rw [h2] at h; exact absurd h.1 (by decide)
 have cs : ∀ z ca, wz.cells.lookup z = some ca -> ca ∉ [wz.locals] /\ CellAt c φ s.heap ca := fun z ca hz => ⟨fun q => hcL' z ca hz (zaf.mp q), F.cells z ca hz⟩
 refine zox (ov := none) (m := m') (t := s.toks) F S P hs' hdd hnf ⟨o', ho'⟩ (fun o ho => zjr F ho) F.L0 F.Lφ hXL ⟨hn', o', ho', ?_⟩ ?_ (fun y j hy hj kp ow => ?_) (fun kk z hz kp ow => ?_) fun y ca hy => ?_
 ·rcases hcL with h | h
  ·exact .inl ⟨hcls'.trans h.1, h.2⟩
  ·refine .inr ⟨hcls'.trans h.1, ?_, h.2.2⟩
   rcases P.na with hat | h2
   ·rw [hsm _ (qax hat)]; exact h.2.1
   ·rw [h.2.2] at h2; injection h2
 ·unfold zfw
  rw [hk]
  exact .no
 ·have hsy := (hsl y j hj).mono (s := s) (s' := { s with heap := h' }) kp ow cs
  exact zsf.imp hsy (fun J h => by rw [hsm y hy]; exact h) id
 ·refine (hjo kk z hz) _ fun h3 fv h4 h5 => ?_
  exact (fun J kJ => kJ h3 fv (by rw [hsm _ (qax P.nj)]; exact h4) (h5.mono (s := s) (s' := { s with heap := h' }) kp ow fun ca o ho J hlt q => absurd (zaf.mp q) (zar hlt)))
 ·obtain ⟨h1, h2, o1, h3, h4, h5⟩ := F.cells y ca hy
  exact ⟨h1, h2, o1, (hs'.2 ca (hcL' y ca hy)).trans h3, h4, h5⟩
theorem zwi(F:FSim c wz wu k loc φ s.heap)(S:Sim c φ H s)(hX:EnvX allY wz X)(P:StoreOk allY wz wu wu x i)(hk:wz.kindOf x=some .local)(hxi:wu.lookup x=some i) :
  wpAny (model c.prog c.w) A (do bindName wz x .none;unbindBehindTheSuite wz x pos) (fun J s'=>Stored c wz wu k (loc.set i none) φ H X s s') E s:=by
 refine qaa (wpAny_bindName (qac (ze0 F S P hX (rN (h:=s.heap))) ?_ fun J J h=>h))
 rintro _ s₁ ⟨F₁,S₁,e₁,k₁⟩
 unfold unbindBehindTheSuite
 refine wpAny_onRaise ?_
 unfold unbindName
 refine qaa (qb3 (qaa (qac (zvv (X:=X) F₁ S₁ P.toSlotPut hX.loc hk (v:=.none) ?_ hxi) ?_ fun J J h=>h)))
 ·exact zoi (zat P.lt F.len)
 ·rintro _ s₂ ⟨F₂,S₂,e₂,k₂⟩
  rw[List.set_set] at F₂
  exact qb3 ⟨F₂,S₂,e₁.trans e₂,k₁.trans k₂⟩
theorem XRep.obj{x:V}(R:XRep c φ s₀ h x e)(hk:kidX x=true):∃cn y a o C,x=.exc cn y/\cn∈kids/\e=.ref a/\h.get? a=some o/\o.cls=.ref C/\c.g cn=some (.ref C):=by
 obtain⟨R,⟨cn,y,rfl⟩,_⟩:=R
 obtain⟨a,o,vs,rfl,_,_,ho,⟨C,hC⟩,hg,_,_⟩:=R
 exact⟨cn,y,a,o,C,rfl,of_decide_eq_true hk,rfl,ho,hC,by rw[hg,hC]⟩
theorem ztl{hs:List Stmt}{xh:List St}{hp:Pos}(O:c.Ok)(XO:ExcOk c)(hX:EnvX allY wz X)(hb:zdw c wz wu X b xb)(hh:zdw c wz wu X (h₀::hs) xh)
  (hkN:wz.kindOf (qab "NetError")=some .globalImplicit) (P:StoreOk allY wz wu wu n i) (hk:wz.kindOf n=some .local) (hxi:wu.lookup n=some i) :
  zdm c wz wu X (.Try b [.ExceptHandler (some (.Name (qab "NetError") np)) (some n) (h₀::hs) hp] [] [] pos) (.tri xb i xh):=fun A q d k loc φ H s Q E hA hH hF hS hw=>by
 obtain⟨rfl,hw⟩:=hw
 refine wpAny_Try_except (qac (hb A true d k loc φ H s _ _ hA hH hF hS hw) ?_ ?_)
 ·rintro f s₁ ⟨φ₁,H₁,l₁,e₁,S₁,F₁,w₁⟩
  cases f with
  |next=>exact wpAny_execs_nil ⟨φ₁,H₁,l₁,e₁,S₁,F₁,w₁⟩
  |ret r=>exact⟨φ₁,H₁,l₁,e₁,S₁,F₁,w₁⟩
  |_=>exact w₁.elim
 ·rintro e s₁ ⟨φ₁,H₁,l₁,x,e₁,S₁,F₁,R₁,hkx,w₁⟩
  obtain⟨outer,hfr⟩:=id hH
  have hE:∀e∈wz::outer,EnvOk c φ₁ s₁.heap e:=by
   obtain⟨l',h1,h2⟩:=(hA.monoX e₁).fr
   replace h1:=zaa (hfr.symm.trans h1);subst h1;exact h2
  refine qac (zh6 hfr hE S₁ e₁ R₁) ?_ fun J J h=>h
  rintro _ s₂ ⟨xs,hx,hn,n₂,R₂,ht⟩
  have e₂:=e₁.noted n₂ hn
  have S₂:=S₁.noted n₂ hx
  have F₂:=F₁.noted n₂ hx
  clear hx hn n₂ S₁ F₁ R₁ e₁ hE
  refine qac (zgj R₂ ht) ?_ fun J J h=>h
  rintro _ s₃ ⟨xs,hx,hn,n₃,R₃,ht₃⟩
  have e₃:=e₂.noted n₃ hn
  have S₃:=S₂.noted n₃ hx
  have F₃:=F₂.noted n₃ hx
  clear hx hn n₃ S₂ F₂ R₂ e₂ ht
  obtain⟨cn,y,a,o,C,rfl,hm,rfl,ho,hC,hg⟩:=R₃.obj hkx
  obtain⟨NE,hNE,net,kid,inj,_⟩:=XO
  obtain⟨C',ini,g',_,K',_⟩:=kid cn hm
  rw[hg] at g'
  (injection g' with Ja;injection Ja with w4;subst w4)
  have K:Kid s₃.heap C NE:=⟨⟨ini,K'.keeps S₃.stays⟩,net.keeps S₃.stays⟩
  refine wpAny_handleBy_cons (codeAny_handlers_test (Calls.Name_function_global F₃.fn hkN (Calls.loadGlobal_global (by rw[F₃.gl];exact O.gl.keeps S₃.stays) hNE ?_))) (by intro q;injection q)
  refine exm_kid K ho hC ?_
  rw[if_pos rfl]
  refine codeAny_handlers_suite_as (qac (zgj R₃ ht₃) ?_ fun J J h=>h)
  rintro _ s₄ ⟨xs,hx,hn,n₄,R₄,_⟩
  have e₄:=e₃.noted n₄ hn
  have S₄:=S₃.noted n₄ hx
  have F₄:=F₃.noted n₄ hx
  obtain⟨R₄,_⟩:=R₄
  refine qac (ze0 F₄ S₄ P hX R₄) ?_ fun J J h=>h
  rintro _ s₅ ⟨F₅,S₅,e₅,_⟩
  have e₀₅:=e₄.trans e₅
  have hA₅:=hA.monoX e₀₅
  have hA':OkF c (A.mark (some (.ref a))) false d φ₁ s₅.heap:=⟨⟨hA₅.dep,hA₅.un,(fun h=>nomatch h),hA₅.fr⟩,hA₅.ne⟩
  refine qac (hh (A.mark (some (.ref a))) false d k _ φ₁ H₁ s₅ _ _ hA' ⟨outer,hfr⟩ F₅ S₅ w₁) ?_ fun J J h=>OutSX.no h
  rintro f s₆ ⟨φ₆,H₆,l₆,e₆,S₆,F₆,w₆⟩
  refine qac (zwi F₆ S₆ hX P hk hxi) ?_ fun J J h=>h
  rintro _ s₇ ⟨F₇,S₇,e₇,_⟩
  refine⟨φ₆,H₆,_,(e₀₅.trans e₆).trans e₇,S₇,F₇,?_⟩
  cases f with
  |next=>exact w₆
  |ret r=>refine w₆ _ fun v Rv w=>?_;clear w₆;exact(fun J kJ=>kJ v (Rep.mono e₇.toKp (F₆.ownX hX) Rv) w)
  |_=>exact w₆.elim
end
variable {e:Addr}{i:Expr}{k:Nat}{v:Value}{x:Sem Value}
section
open PySem PyProof.Rows
set_option maxRecDepth 100000
section
variable {nm:Str}{sub:List Value}
theorem zko(F:ExcBaseFacts B newId initId bmB)(T:OwnTail h bmB bm){Q:Fin->Shared->Prop}
  (hC:h.get? C=some (qb4 nm q C N bs bm hdct sn sub ab col dd k0 k1 k2 k3 k5 newId)) (hn:h.Ns N mN) (hi:mN "__init__"=some (.ref fI)) (hfI:h.get? fI=some oI) (hfc:oI.cls=.type "function")
  (hq:∀h' e,Heap.MadeExcOf h h' e (.ref C) rest->wpAny (model prog w) A (call (.ref fI) (.ref e::rest)) (fun r s'=>r=.none/\Q (.done (.ret (.ref e))) s') E ⟨h',g,d,t,os⟩) (hrest:rest.length<=qag) :
  wpAny (model prog w) A (Builtin.«type.__call__» ⟨.ref C::rest,[]⟩) Q E ⟨h,g,d,t,os⟩:=by
 repeat(first |with_reducible refine qai hC ?_ |with_reducible refine wpAny_madeBy_exc hC ?_ |wp_step)
 refine codeAny_call_builtin_code (Code.quiet_builtin _ F.quiet) (wpAny_check_new_subT F T hC ?_)
 refine codeAny_exc_new_subT F T hC ?_ hrest
 show wpAny _ _ _ _ _ _
 have hC₁:=qae { cls:=.ref C,data:=.fields #[.ref h.objs.size,.none,.none,.none,.bool false,.none] }
  (qae { cls:=.type "tuple",data:=.seq rest.toArray } hC)
 have hfI₁:=qae { cls:=.ref C,data:=.fields #[.ref h.objs.size,.none,.none,.none,.bool false,.none] }
  (qae { cls:=.type "tuple",data:=.seq rest.toArray } hfI)
 have keep:∀b o,h.get? b=some o->((h.push { cls:=.type "tuple",data:=.seq rest.toArray }).push { cls:=.ref C,data:=.fields #[.ref h.objs.size,.none,.none,.none,.bool false,.none] }).get? b=some o:=
  fun b o e=>qae _ (qae _ e)
 have hn₁:=hn.keeps keep
 have hget:((h.push { cls:=.type "tuple",data:=.seq rest.toArray }).push
   { cls:=.ref C,data:=.fields #[.ref h.objs.size,.none,.none,.none,.bool false,.none] }).get? (h.objs.size+1)=some
   { cls:=.ref C,data:=.fields #[.ref h.objs.size,.none,.none,.none,.bool false,.none] }:=by heap_get
 have hcC:(qao C::bm).contains (.ref C)=true:=by simp
 have T₁:=T.keeps keep
 unfold isInstance
 repeat(first |with_reducible refine qai hget ?_ |(with_reducible refine qb9 hC₁ ?_;rw[hcC]) |wp_step)
 show wpAny _ _ (qb2 (.ref C) _) _ _ _
 refine wpAny_typeLookup_tail hC₁ hn₁ T₁ F.mroIs F.init.lookup ?_
 rw[hi]
 refine qak (qaa ?_)
 unfold bindSpecial
 refine qaa (wpAny_typeOf (T:="function") ⟨_,hfI₁,hfc⟩ ?_)
 rw[if_pos (by decide)]
 refine qad (qaa (qac (hq _ (h.objs.size+1) ⟨keep,qal (Nat.le_succ _),h.objs.size,hget,qal (zae _),?_⟩) (fun r s' hr=>?_) fun J J x=>x))
 ·exact qae _ (Heap.get?_push_at rfl rfl)
 ·obtain⟨rfl,hQ⟩:=hr
  wp_walk
  exact hQ
theorem zw7(F:ExcBaseFacts B newId initId bmB)(T:OwnTail h bmB bm)
  (hC:h.get? C=some (qb4 nm q C N bs bm hdct sn sub ab col dd k0 k1 k2 k3 k5 newId)) (hn:h.Ns N mN) (hi:mN "__init__"=some (.ref fI)) (hfI:h.get? fI=some oI) (hfc:oI.cls=.type "function")
  (hq:∀h' e,Heap.MadeExcOf h h' e (.ref C) rest->wpAny (model prog w) (A.under (.builtin "type.__call__" ⟨.ref C::rest,[]⟩)) (call (.ref fI) (.ref e::rest)) (fun r s'=>r=.none/\Q (.ref e) s') E ⟨h',g,d,t,os⟩) (hrest:rest.length<=qag) :
  wpAny (model prog w) A (call (.ref C) rest) Q E ⟨h,g,d,t,os⟩:=by
 have f1:=tc_lookup
 have f2:=tc_bind (.ref C)
 have hT:(⟨h,g,d,t,os⟩:Shared).TypeIs (.ref C) "type":=⟨_,hC,rfl⟩
 refine wpAny_call (codeAny_of_tree ?_)
 show wpAny _ _ (callAny (.ref C) _) _ _ _
 repeat(any_goals(first |assumption |with_reducible refine qai hC ?_ |wp_step))
 refine⟨rfl,?_⟩
 refine codeAny_call_builtin_at (Code.quiet_builtin _ (by decide +kernel)) entry_typeCall (wpAny_check_type_call_sub hC (zko F T hC hn hi hfI hfc (fun h' e hm=>?_) hrest))
 exact hq h' e hm
theorem zsx{Q:Flow->Shared->Prop}(hbase:bm.contains (.type "BaseException")=true)(hh:A.handled=none)
  (h:wpAny M A x (fun v s₁=>∃e oe,v=.ref e/\s₁.heap.get? C=some (qb4 nm q C N bs bm hdct sn sub ab col dd k0 k1 k2 k3 k5 newId)/\s₁.heap.get? e=some oe/\oe.cls=.ref C/\(∃t,oe.data=.fields #[.ref t,.none,.none,.none,.bool false,.none])/\E (.ref e) s₁) E s) :
  wpAny M A (raiseStmt wz (some x) none) Q E s:=by
 have hcB:(qao C::bm).contains (.type "BaseException")=true:=by rw[List.contains_cons,hbase,Bool.or_true]
 unfold raiseStmt
 refine qaa (qac h (fun v s₁ h₁=>?_) fun J J x=>x)
 obtain⟨e,⟨oc,od,odt,osl⟩,rfl,hC,he,hc,⟨vs,hd⟩,hE⟩:=h₁
 obtain rfl:oc=_:=hc
 obtain rfl:odt=_:=hd
 obtain⟨hp,g,d,tk,os⟩:=s₁
 repeat(first |with_reducible refine qai he ?_ |with_reducible refine qai hC ?_ |(with_reducible refine qb9 hC ?_;rw[hcB]) |wp_step)
 exact wpAny_raiseNew_none hh hE
end
end
variable {x:Str}
section
open PySem PySem.W PySem.Calls PyProof.Rows Builtin Builtin.ObjectAttr Builtin.Getset_descriptor
set_option maxRecDepth 100000
theorem f_meta:findIn [] (.type "type") "__init__"=some (some (.builtin "type.__init__")):=by kernel_rfl
theorem f_get:specialIn [] (.builtin "type.__init__") "__get__"=some (some (.builtin "wrapper_descriptor.__get__")):=by kernel_rfl
theorem f_set:specialIn [] (.builtin "type.__init__") "__set__"=some none:=by kernel_rfl
theorem f_del:specialIn [] (.builtin "type.__init__") "__delete__"=some none:=by kernel_rfl
theorem f_ty:typeIn [] (.builtin "ValueError.__init__")=some (.type "wrapper_descriptor"):=by kernel_rfl
theorem f_own:heldUnderItsOwnName "__init__" (.builtin "ValueError.__init__")=false:=by decide +kernel
theorem f_hand:handedIn (.builtin "ValueError.__init__")=true:=by decide +kernel
theorem f_ga:findIn [] (.type "type") "__getattribute__"=some (some (.builtin "type.__getattribute__")):=by kernel_rfl
theorem f_sub:subIn [] (.type "type") (.type "type")=some true:=by kernel_rfl
theorem zho:Frag.In [] h:=fun J J e=>nomatch e
theorem ne_run {Q:Fin->Shared->Prop} (ho:Looks (model prog w) s.heap (qb8 (.ref NE)) none) (ht:Looks (model prog w) s.heap (typeOf (.ref NE)) (.type "type"))
  (hl:Looks (model prog w) s.heap (qb2 (.ref NE) "__init__") (some (.builtin "ValueError.__init__"))) (h:Q (.done (.ret (.builtin "ValueError.__init__"))) s):wpAny (model prog w) A (Builtin.«type.__getattribute__» ⟨[.ref NE,.str "__init__" tk],[]⟩) Q E s:=by
 obtain⟨hh,g,d,t,os⟩:=s
 dsimp only at ho ht hl
 unfold Builtin.«type.__getattribute__»
 refine qaa (qad (qaa (ho.at (qaa (ht.at (qaa ((looks_findIn zho f_meta).at ?_)))))))
 refine qaa ((looks_specialIn zho f_get).at ?_)
 refine qaa ((looks_specialIn zho f_set).at (qaa ((looks_specialIn zho f_del).at (qaa (qad ?_)))))
 refine qaa (hl.at ?_)
 dsimp only
 rw[if_neg (by rw[f_own];decide)]
 refine qaa ((looks_typeIn zho f_ty).at ?_)
 rw[if_pos (by decide +kernel)]
 exact qad h
theorem ne_init(ho:Looks (model prog w) s.heap (qb8 (.ref NE)) none)(ht:Looks (model prog w) s.heap (typeOf (.ref NE)) (.type "type"))
  (hl:Looks (model prog w) s.heap (qb2 (.ref NE) "__init__") (some (.builtin "ValueError.__init__"))) (h:Q (.builtin "ValueError.__init__") { s with toks:=s.toks+1 }):wpAny (model prog w) A (getAttr (.ref NE) "__init__" expr) Q E s:=by
 refine qaa (wpAny_mkText (qak (qaa (ht _ _ _ _ (fun J J e=>e) (qaa (looks_findIn zho f_ga _ _ _ _ (fun J J e=>e) ?_))))))
 dsimp only
 rw[if_neg (by decide +kernel)]
 refine qaa (looks_hook (K:=[]) zho (mc:=.type "type") (r:=none) (by kernel_rfl) _ _ _ _ (fun J J e=>e) (qaa (wpAny_attempt (qak ?_))))
 unfold callGetattribute
 rw[show(expr&&onTheHeap (qa3 "type.__getattribute__"))=false from Bool.and_false _,if_neg (by decide)]
 unfold boundAndCalled
 rw[KF.slot_tga.bind]
 refine qaa (qad ?_)
 show wpAny _ _ (call (.builtin "type.__getattribute__") [.ref NE,.str "__init__" s.toks]) _ _ _
 refine wpAny_call ?_
 refine qbh KF.slot_tga.plain KF.entry_tga ?_
 refine @check_slot (model prog w) _ _ { s with toks:=s.toks+1 } "type.__getattribute__" "type" "__getattribute__" (.ref NE) [.str "__init__" s.toks] [] _ (by decide +kernel) (by decide +kernel) (ht.andThen (looks_subIn zho f_sub)) (KF.args_tga (.ref NE) (.str "__init__" s.toks)) ?_
 refine ne_run (s:={ s with toks:=s.toks+1 }) ho ht hl ?_
 show wpAny _ _ (handedOut _) _ _ _
 rw[handedOut_of f_hand]
 exact qad h
end
section
open PySem PySem.W PySem.Calls PyProof.Rows Builtin Builtin.ObjectAttr Builtin.Getset_descriptor
set_option maxRecDepth 100000
section
variable {nm:Str}{sub:List Value}
theorem zv6(F:ExcBaseFacts B newId initId bmB)(T:OwnTail h bmB bm)
  (hC:h.get? C=some (qb4 nm q C N bs bm hdct sn sub ab col dd k0 k1 k2 k3 k5 newId)) (he:h.get? e=some { cls:=.ref C,data:=.fields #[.ref t0,.none,.none,.none,.bool false,.none] })
  (hq:∀h',(∀b o,b≠e->h.get? b=some o->h'.get? b=some o)->h'.get? e=some { cls:=.ref C,data:=.fields #[.ref h.objs.size,.none,.none,.none,.bool false,.none] }->h'.objs.size=h.objs.size+1->Q .none ⟨h',g,d,t,os⟩) (hrest:rest.length<=qag) :
  wpAny (model prog w) A (call (.builtin initId) (.ref e::rest)) Q E ⟨h,g,d,t,os⟩:=by
 refine wpAny_call (qbh F.init.plain F.initEntry (wpAny_check_init_subT F T hC he rfl ?_))
 wp_walk
 refine hq _ (fun b o hne hb=>?_) ?_ ?_
 ·rw[qa0 _ _ (qax hne)]
  exact qae _ hb
 ·rw[qam _ (qae _ he) rfl]
  rfl
 ·rw[Heap.size_update,qbc]
end
end
section
open PySem PySem.W PySem.Calls PyProof.Rows Builtin Builtin.ObjectAttr Builtin.Getset_descriptor
set_option maxRecDepth 100000
theorem zqw:qb2 (.type "ValueError") "at"=pure none:=by rw[qb1,qbb];kernel_rfl
section
variable {x:Addr}
theorem Kid.mro{Q:List Value->Shared->Prop}(K:Kid h C NE)(hq:Q (.ref C::.ref NE::vbm) ⟨h,g,d,t,os⟩):wpAny M A (mroOf (.ref C)) Q E ⟨h,g,d,t,os⟩:=by
 obtain⟨⟨ini,nm,q,N,bs,sn,sub,ab,col,dd,k0,k1,k2,k3,k5,mN,hC,_⟩,_⟩:=K
 exact wpAny_mroOf_exc hC hq
theorem kid_pass(C NE:Addr)(self:Value):refuseLoop self "__setattr__" (.ref C::.ref NE::vbm)=pure ():=by
 rw[refuseLoop_ref,refuseLoop_ref];exact PySem.F.store_ValueError.passes self
theorem Kid.check{Q:Unit->Shared->Prop}(K:Kid h C NE)(hx:h.get? x=some o)(hc:o.cls=.ref C)(hq:Q () ⟨h,g,d,t,os⟩) :
  wpAny M A (qb7 "object.__setattr__" ⟨[.ref x,nameV,v],[]⟩) Q E ⟨h,g,d,t,os⟩:=by
 have SF:=PySem.F.store_ValueError
 have hcB:(qao C::.ref NE::vbm).contains (.type "object")=true:=rfl
 have ha:=SF.args (.ref x) nameV v
 simp only[qb7,SF.kind,SF.split]
 refine qaa ?_
 ·unfold isInstance
  repeat(first |(with_reducible refine qai hx ?_;rw[hc]) |(with_reducible refine K.sub ?_;rw[hcB]) |wp_step)
  exact hq
theorem ztm(ho:s.heap.get? a=some o)(hd:o.data=.dict #[] 0){Q:Unit->Shared->Prop}
  (hQ:∀h' od es n,h'.get? a=some od->od.cls=o.cls->od.data=.dict es n->es.size=1->nsFind es name=some v->qa4 a s.heap h'->Q () { s with heap:=h',toks:=s.toks+1 }):wpAny M A (nsSet a name v) Q E s:=fun Γ p J=>by
 simp only[nsSet,strHash,Sem.wp_bind',Sem.wp_cmd_ask,Sem.wp_pure',Sem.wp_cmd_mkText]
 rw[Sem.wp_loadPart_of M Γ _ p { s with toks:=s.toks+1 } (o:=o) _ ho]
 have hany:(#[]:Array qbk).any (·.refKey)=false:=by simp
 simp only[hd,aRefKeyMayBeTheName_eq,aRefKeyMayBeTheNameByArray,hany,Bool.and_false,zbk,if_false,Sem.wp_cmd_updatePart]
 obtain⟨c,dc,dt,sl⟩:=o
 subst hd
 have hi:(#[]:Array qbk).findIdx? (·.key.isStr name)=none:=by simp
 refine⟨by rw[ho];rfl,hQ _ _ _ _ (qam _ ho (by simp only[qa7,qay,hi];rfl)) (by simp only[qa7,qay,hi]) (by simp only[qa7,qay,hi];rfl) ?_ ?_ (qa1 ..)⟩
 ·rfl
 ·exact(findBy_push (fun n v=>v.isStr n) #[] name name _ _ v (fun y=>by
    show(name==y)=decide (y=name)
    by_cases h:y=name
    ·subst h;simp
    ·have:¬name=y:=fun e=>h e.symm
     simp[h,this]) hi).trans (if_pos rfl)
structure AtSet(h h':Heap)(x:Addr)(o:Obj)(v:Value):Prop where
 keep:∀b ob,b≠x->h.get? b=some ob->h'.get? b=some ob
 here:h'.get? x=some { cls:=o.cls,dict:=some h.objs.size,data:=o.data,slots:=o.slots }
 dct:∃od es n,h'.get? h.objs.size=some od/\od.cls=.type "dict"/\od.data=.dict es n/\nsFind es (qab "at")=some v
theorem store_at{Q:Fin->Shared->Prop}(K:Kid h C NE)(hx:h.get? x=some o)(hc:o.cls=.ref C)(hd:o.data=.fields vs)(hdn:o.dict=none)
  (hq:∀h' tk',AtSet h h' x o v->Q (.done (.ret .none)) ⟨h',g,d,tk',os⟩) :
  wpAny (model prog w) A (Builtin.«object.__setattr__» ⟨[.ref x,.str "at" tk,v],[]⟩) Q E ⟨h,g,d,t,os⟩:=by
 have hpass:=kid_pass C NE (.ref x)
 have hm:("at":Str)∈zd8:=.tail _ (.tail _ (.tail _ (.head _)))
 unfold Builtin.«object.__setattr__»
 repeat(first |rw[refuse_eq] at⊢| rw[hpass] at⊢| (with_reducible refine qai hx ?_;rw[hc] at ⊢) |with_reducible refine K.mro ?_ |with_reducible refine K.lookup hm zqw ?_ |wp_step)
 obtain⟨⟨ini,nm,q,N,bs,sn,sub,ab,col,dd,k0,k1,k2,k3,k5,mN,hC,_⟩,_⟩:=id K
 repeat(first |with_reducible refine qai hC ?_ |wp_step)
 rw[hdn,hd] at ⊢
 dsimp only
 rw[if_neg (by simp[typeHasDict])] at ⊢
 have hx₁:(h.push { cls:=.type "dict",data:=.dict #[] }).get? x=some o:=qae _ hx
 have hxs:x≠h.objs.size:=zar (qa5 hx)
 refine qaa (wpAny_alloc' ?_)
 refine qaa (wpAny_update' hx₁ ?_)
 refine qad ?_
 generalize hg1:((h.push { cls:=.type "dict",data:=.dict #[] }).update x fun o=>{ cls:=o.cls,dict:=some h.objs.size,data:=o.data,slots:=o.slots })=h₁
 have hgd:h₁.get? h.objs.size=some { cls:=.type "dict",data:=.dict #[] }:=by rw[<- hg1] at ⊢;exact(qbx _ _ _ _ hxs.symm).trans (Heap.get?_push_at rfl rfl)
 have hgx:h₁.get? x=some { cls:=o.cls,dict:=some h.objs.size,data:=o.data,slots:=o.slots }:=by
  rw[<- hg1] at ⊢
  refine qam _ hx₁ ?_
  obtain⟨oc,od,odt,osl⟩:=o
  obtain rfl:odt=_:=hd
  rfl
 have hgb:∀b ob,b≠x->h.get? b=some ob->h₁.get? b=some ob:=fun b ob hbx hb=>by rw[<- hg1] at ⊢;exact(qbx _ _ _ _ hbx).trans (qae _ hb)
 have hnd:h₁.Ns h.objs.size (fun J=>none):=⟨_,#[],_,hgd,rfl,fun e he=>absurd he (by simp),fun J=>rfl⟩
 show wpAny _ _ (storeInDict h.objs.size (.str "at" tk) "at" v) _ _ _
 unfold storeInDict newKeyGuard
 refine qaa (qad (qaa (ztm hgd rfl fun h' od es n q1 q2 q3 q4 q5 hs=>?_)))
 refine qaa (wpAny_lookBehind q1 (by rw[q3] at ⊢;exact pastItsLine_dict (by rw[q4,sizeLine_eq] at ⊢;decide)) ?_)
 wp_walk
 exact hq h' _ ⟨fun b ob hbx hb=>(hs.2 b (zar (qa5 hb))).trans (hgb b ob hbx hb),(hs.2 x hxs).trans hgx,od,es,n,q1,q2,q3,q5⟩
theorem set_at{Q:Unit->Shared->Prop}(K:Kid h C NE)(hx:h.get? x=some o)(hc:o.cls=.ref C)(hd:o.data=.fields vs)(hdn:o.dict=none)
  (hq:∀h' tk',AtSet h h' x o v->Q () ⟨h',g,d,tk',os⟩):wpAny (model prog w) A (setAttr (.ref x) "at" v) Q E ⟨h,g,d,t,os⟩:=by
 have SF:=PySem.F.store_ValueError
 have f3:=SF.slot.bind (.ref x)
 have hm:("__setattr__":Str)∈zd8:=.tail _ (.tail _ (.tail _ (.tail _ (.head _))))
 unfold setAttr callSpecial? specialOf
 repeat(any_goals(first |assumption |(with_reducible refine qai hx ?_;rw[hc]) |with_reducible refine K.lookup hm SF.slot.lookup ?_ |wp_step))
 refine qbh SF.slot.plain SF.entry (K.check hx hc (store_at K hx hc hd hdn fun h' tk' I=>?_))
 repeat(any_goals(first |assumption |wp_step))
 exact hq h' tk' I
end
end
section
open PySem PySem.W PySem.Calls PyProof.Rows Builtin Builtin.ObjectAttr Builtin.Getset_descriptor
set_option maxRecDepth 100000
theorem ztc:qb2 (.type "ValueError") "__init__"=pure (some (.builtin "ValueError.__init__")):=by rw[qb1,qbb];kernel_rfl
theorem ClsAt.type (K:ClsAt h NE bm ini):Looks M h (typeOf (.ref NE)) (.type "type"):=by
 obtain⟨nm,q,N,bs,sn,sub,ab,col,dd,k0,k1,k2,k3,k5,mN,hC,_⟩:=K
 exact(Looks.ld hC).andThen .now
theorem ClsAt.init(K:ClsAt h NE vbm none):Looks M h (qb2 (.ref NE) "__init__") (some (.builtin "ValueError.__init__")):=by
 obtain⟨nm,q,N,bs,sn,sub,ab,col,dd,k0,k1,k2,k3,k5,mN,hC,hN,hq,hi⟩:=K
 intro A Q E s k hQ
 have hrest:lookupAlong vbm "__init__"=pure (some (.builtin "ValueError.__init__")):=by have hB:=ztc;rw[typeLookup_eq,PySem.F.excBase_ValueError.mroIs] at hB;exact hB
 obtain⟨hp,g,d,t,os⟩:=s
 rw[typeLookup_eq]
 refine qaa (wpAny_mroOf_exc (k _ _ hC) ?_)
 rw[lookupAlong_cons]
 refine qaa (wpAny_classOwn_exc (k _ _ hC) (hN.keeps k) ?_)
 rw[hi]
 show wpAny _ _ (lookupAlong vbm "__init__") _ _ _
 rw[hrest]
 exact qad hQ
theorem zmf(hb:attributeBase (.Name n p1) "__init__" wz (eval (.Name n p1) wz)=eval (.Name n p1) wz)
  (hform:methodCallForm (args.length+([]:List Keyword).length) (backTo pos (qa6 args wz)) (backToKw pos (keywordEach [] wz))=true) (hl:(apos.endLine==pos.line)=true)
  (h:wpAny (model prog w) A (eval (.Name n p1) wz) (fun ov s₁=>ov=.ref NE/\Looks (model prog w) s₁.heap (qb8 (.ref NE)) none/\ClsAt s₁.heap NE vbm none /\
   wpAny (model prog w) A (callWith pos (.builtin "ValueError.__init__") [] (backTo pos (qa6 args wz)) []) Q E { s₁ with toks:=s₁.toks+1 }) E s) :
  wpAny (model prog w) A (eval (.Call (.Attribute (.Name n p1) "__init__" apos) args [] pos) wz) Q E s:=by
 rw[arm_eval_Call,hb]
 refine qaa (qac h (fun ov s₁ h₁=>?_) fun J J e=>e)
 obtain⟨rfl,ho,K,hc⟩:=h₁
 refine qaa (qa2 ?_)
 have hpos:methodCallPos true (.Name n p1) wz apos pos=pure pos:=by unfold methodCallPos;simp[hl]
 unfold methodCall
 rw[hform]
 refine qaa (qak ?_)
 show wpAny (model prog w) A (getMethod (.ref NE) "__init__" _) _ _ _
 unfold getMethod
 refine qaa ((K.type.andThen (looks_findIn zho f_ga)).here ?_)
 dsimp only
 rw[if_pos canon_tga]
 refine qaa (ne_init ho K.type K.init (qad ?_))
 exact qaa (qbd hpos hc)
end
variable {n:Nat}
section
open PySem PySem.W PySem.Calls PyProof.Rows Builtin Builtin.ObjectAttr Builtin.Getset_descriptor
set_option maxRecDepth 100000
structure InitDone(h h':Heap)(e C:Addr)(v:Value):Prop where
 keep:∀b ob,b≠e->h.get? b=some ob->h'.get? b=some ob
 here:∃t dc,h'.get? e=some { cls:=.ref C,dict:=some dc,data:=.fields #[.ref t,.none,.none,.none,.bool false,.none] }/\h.get? dc=none/\∃od es n,h'.get? dc=some od/\od.cls=.type "dict"/\od.data=.dict es n/\nsFind es (qab "at")=some v
section
variable {p2 p3 p4 p5 p6 p7 p8:Pos}{Q:Flow->Shared->Prop}
theorem zxk(hf:wz.scope.kind=.function)(hg:h0.Ns wz.globals mg)(hNE:mg "NetError"=some (.ref NE))(kN:wz.kindOf "NetError"=some .globalImplicit)(kS:wz.kindOf "self"=some .local)(kA:wz.kindOf "at"=some .local)
  (hL:s.heap.Ns wz.locals m) (hLe:wz.locals≠e) (mS:m "self"=some (.ref e)) (mA:m "at"=some v) (K:Kid h0 C NE) (ho:Looks (model prog w) h0 (qb8 (.ref NE)) none) (h0k:∀b o,h0.get? b=some o->s.heap.get? b=some o) (he0:h0.get? e=none)
  (he:s.heap.get? e=some { cls:=.ref C,data:=.fields #[.ref t0,.none,.none,.none,.bool false,.none] }) (hl:(apos.endLine==pos.line)=true) (hi:interactive wz=false)
  (hq:∀h' tk,InitDone s.heap h' e C v->Q .next { s with heap:=h',toks:=tk }) :
  wpAny (model prog w) A (execs (zlu p1 apos p2 p3 pos p4 p5 p6 p7 p8 k) wz) Q E s:=by
 refine wpAny_execs_cons (wpAny_Expr_any ?_ hi rfl)
 obtain⟨h,g,d,t,os⟩:=s
 dsimp only at hL h0k he hq
 have K₀:=K.keeps h0k
 refine zmf (NE:=NE) (zpg rfl) rfl hl (Name_function_global hf kN (loadGlobal_global (hg.keeps h0k) hNE ⟨rfl,fun A Q E s k hQ=>ho A Q E s (fun b o q=>k b o (h0k b o q)) hQ,K₀.net,?_⟩))
 refine zdb (by intro a h;injection h) rfl (Calls.evalArgs_plain (Calls.spliced_cons (wpAny_Name (qbt hf kS hL mS (Calls.spliced_cons (wpAny_mkText (Calls.spliced_nil ?_)))) rfl)))
 obtain⟨ini,nm,q,N,bs,sn,sub,ab,col,dd,k0,k1,k2,k3,k5,mN,hC,_⟩:=K₀.own
 obtain⟨nm',q',N',bs',sn',sub',ab',col',dd',k0',k1',k2',k3',k5',mN',hC',hN',hq',hi'⟩:=K₀.net
 refine zv6 (rest:=[_]) PySem.F.excBase_ValueError (.own hC' hN' hi' .base) hC he (fun h₁ e1 e2 e3=>?_) (show 1<=qag by decide)
 have hL₁:h₁.Ns wz.locals m:=let⟨o,es,ep,q1,q2⟩:=hL;⟨o,es,ep,e1 _ _ hLe q1,q2⟩
 have h0k₁:∀b o,h0.get? b=some o->h₁.get? b=some o:=fun b o q=>e1 b o (fun q'=>by rw[q',he0] at q;injection q) (h0k b o q)
 refine wpAny_execs_cons (plainObj_wpAny_Assign_Attribute (wpAny_Name (qbt hf kA hL₁ mA (wpAny_Name (qbt hf kS hL₁ mS (set_at (K.keeps h0k₁) e2 rfl rfl rfl fun h' tk' I=>?_)) rfl)) rfl) rfl)
 refine wpAny_execs_nil (hq h' tk' ⟨fun b ob hne hb=>I.keep b ob hne (e1 b ob hne hb),_,_,I.here,?_,I.dct⟩)
 rw[e3];exact qal (Nat.le_succ _)
end
end
section
open PySem PySem.W PySem.Calls PyProof.Rows
set_option maxRecDepth 100000
structure InitFn(h:Heap)(fI:Addr)(oI:Obj)(fd:qbe):Prop where
 ho:h.get? fI=some oI
 cls:oI.cls=.type "function"
 hd:oI.data=.func fd
 code:h.CodeRec fd.code fd.qualname
 body:∃p1 apos p2 p3 pos p4 p5 p6 p7 p8 k,fd.body=.stmts (zlu p1 apos p2 p3 pos p4 p5 p6 p7 p8 k)/\(apos.endLine==pos.line)=true
 clo:fd.closure=[]
 gl:fd.globals=qan
 bl:fd.builtins=qbn
 kind:fd.scope.kind=.function
 co:fd.scope.isCoroutine=false
 gen:fd.scope.isGenerator=false
 names:fd.scope.names=zjh
 bind:∀a b:Value,bindArgs fd ⟨[a,b],[]⟩=pure [(qab "self",a),(qab "at",b)]
theorem zw3(hs:∃mc,h.Ns cStatics mc/\mc "thirdparty.any"=none):Looks M h (qb8 (.ref NE)) none:=by
 obtain⟨mc,h1,h2⟩:=hs
 have L:Looks M h (nsGet cStatics "thirdparty.any") none:=fun A Q E s k q=>wpAny_nsGet (h1.keeps k) (by rw[h2];exact q)
 exact Looks.andThen (a:=false) (L.andThen .now) (by show Looks M h (if(!false)=true then pure none else _) none;rw[if_pos (show(!false)=true from rfl)];exact .now)
theorem zwg(O:c.Ok)(I:InitFn c.h0 fI oI fd)(hst:∃mc,c.h0.Ns cStatics mc/\mc "thirdparty.any"=none)(hdep:A.depth<1000)(hNE:c.g "NetError"=some (.ref NE))(K:Kid c.h0 C NE)(h0k:∀b o,c.h0.get? b=some o->s.heap.get? b=some o)(he0:c.h0.get? e=none)
  (he:s.heap.get? e=some { cls:=.ref C,data:=.fields #[.ref t0,.none,.none,.none,.bool false,.none] })
  (hq:∀h' tk,InitDone s.heap h' e C v->Q .none { s with heap:=h',toks:=tk }) :
  wpAny (model c.prog c.w) A (call (.ref fI) [.ref e,v]) Q E s:=by
 refine wpAny_call ?_
 obtain⟨p1,apos,p2,p3,pos,p4,p5,p6,p7,p8,k,hb,hl⟩:=I.body
 refine codeAny_call_function hdep (h0k _ _ I.ho) I.hd I.co I.gen hb (I.code.keeps h0k) ?_
 rw[I.bind,I.clo]
 refine qad ?_
 simp only[qbm,Option.isSome_none,zbk,if_false]
 refine qaa (wpAny_alloc ?_)
 refine qaa (wpAny_layCells _ (fun name kind cells=>by cases hkc:kind==qaj<;>simp[hkc]) _ _ _ _ ?_)
 rw[I.names]
 generalize hE:({ scope:=fd.scope,locals:=s.heap.objs.size,globals:=fd.globals,cells:=qas ({ s with heap:=s.heap.push { cls:=.type "frame",data:=.dict #[] } }:Shared).heap.objs.size zjh [],qual:=fd.qualname++qab ".<locals>.",func:=some fI,code:=fd.code,frame:=some s.heap.objs.size,builtins:=fd.builtins }:Env)=wz
 show wpAny _ _ _ _ _ { s with heap:=s.heap.push { cls:=.type "frame",data:=.dict #[] } }
 generalize hh₁:s.heap.push { cls:=.type "frame",data:=.dict #[] }=h₁
 have hf:wz.scope.kind=.function:=by rw[<- hE];exact I.kind
 have hL:wz.locals=s.heap.objs.size:=by rw[<- hE]
 have kk:∀x,wz.kindOf x=zjh.lookup x:=fun x=>by rw[<- hE,<-I.names];rfl
 have kS:wz.kindOf "self"=some .local:=(kk _).trans (by decide +kernel)
 have kA:wz.kindOf "at"=some .local:=(kk _).trans (by decide +kernel)
 have kN:wz.kindOf "NetError"=some .globalImplicit:=(kk _).trans (by decide +kernel)
 have hfr:h₁.get? wz.locals=some { cls:=.type "frame",data:=.dict #[] }:=by rw[hL,<-hh₁];exact qah _ rfl
 have hn₁:h₁.Ns wz.locals (fun J=>none):=⟨_,#[],_,hfr,rfl,fun e he=>absurd he (by simp),fun J=>rfl⟩
 have k1:∀b o,s.heap.get? b=some o->h₁.get? b=some o:=fun b o q=>by rw[<- hh₁];exact qae _ q
 have nl:∀b o,s.heap.get? b=some o->b≠wz.locals:=fun b o q=>by rw[hL];exact zar (qa5 q)
 rw[List.forIn_cons]
 refine qaa (qaa (qaa (zgp kS hf hn₁ hfr fun h₂ n2 b2 o2=>qad ?_)))
 obtain⟨o2,g2,c2⟩:=o2
 dsimp only
 rw[List.forIn_cons]
 refine qaa (qaa (zgp kA hf n2 g2 fun h₃ n3 b3 o3=>qad ?_))
 dsimp only
 rw[List.forIn_nil]
 refine qad (qad ?_)
 have k3:∀b o,s.heap.get? b=some o->h₃.get? b=some o:=fun b o q=>(b3.2 b (nl b o q)).trans ((b2.2 b (nl b o q)).trans (k1 b o q))
 refine⟨O.lim.keeps fun b o q=>k3 b o (h0k b o q),codeAny_func ?_⟩
 refine zxk (mg:=c.g) (h0:=c.h0) hf (by rw[<- hE];show c.h0.Ns fd.globals c.g;rw[I.gl];exact O.gl) hNE kN kS kA n3 (qax (nl _ _ he)) ?_ (if_pos rfl) K (zw3 hst) (fun b o q=>k3 b o (h0k b o q)) he0 (k3 _ _ he) hl (by simp[interactive,hf]) fun h' tk D=>?_
 ·show(if qab "self"=qab "at" then some v else if qab "self"=qab "self" then some (.ref e) else none)=some (.ref e)
  rw[if_neg (by decide),if_pos rfl]
 ·refine hq h' tk ⟨fun b ob hne hb=>D.keep b ob hne (k3 b ob hb),?_⟩
  obtain⟨t,dc,g1,g2,g3⟩:=D.here
  refine⟨t,dc,g1,?_,g3⟩
  refine xC (s.heap.get? dc) (fun q=>?_) fun o q=>?_
  ·rfl
  ·exact no2 ((k3 _ _ q).symm.trans g2)
end
variable {e:Expr}
section
open PySem PySem.W PySem.Calls PyProof.Rows
set_option maxRecDepth 100000
section
variable {nm:Str}{sub:List Value}
theorem zje(F:ExcBaseFacts B newId initId bmB){Q:Flow->Shared->Prop}
  (hbase:bm.contains (.type "BaseException")=true) (hh:A.handled=none) (hplain:(backTo cpos (qa6 args wz)).any (·.1)=false) (hi:mN "__init__"=some (.ref fI)) (hfc:oI.cls=.type "function")
  (h:wpAny (model prog w) A (eval (.Name x np) wz) (fun f s₁=>f=.ref C/\wpAny (model prog w) A (evalArgs (.ref C) true (backTo cpos (qa6 args wz)) [])
   (fun a s₂=>a.kw=[]/\a.pos.length<=qag/\s₂.heap.get? C=some (qb4 nm q C N bs bm hdct sn sub ab col dd k0 k1 k2 k3 k5 newId)/\s₂.heap.Ns N mN/\s₂.heap.get? fI=some oI/\OwnTail s₂.heap bmB bm /\
    ∀h' e A',A'.depth<=A.depth+1->Heap.MadeExcOf s₂.heap h' e (.ref C) a.pos->wpAny (model prog w) A' (call (.ref fI) (.ref e::a.pos)) (fun r s'=>r=.none/\s'.heap.get? C=some (qb4 nm q C N bs bm hdct sn sub ab col dd k0 k1 k2 k3 k5 newId) /\
     (∃oe,s'.heap.get? e=some oe/\oe.cls=.ref C/\∃t,oe.data=.fields #[.ref t,.none,.none,.none,.bool false,.none])/\E (.ref e) s') E { s₂ with heap:=h' }) E s₁) E s) :
  wpAny (model prog w) A (exec (.Raise (some (.Call (.Name x np) args [] cpos)) none pos) wz) Q E s:=by
 rw[arm_exec_Raise]
 refine qaa (qa2 (zsx (C:=C) (nm:=nm) (q:=q) (N:=N) (bs:=bs) (bm:=bm) (hdct:=hdct) (sn:=sn) (sub:=sub) (ab:=ab) (col:=col) (dd:=dd) (k0:=k0) (k1:=k1) (k2:=k2) (k3:=k3) (k5:=k5) (newId:=newId) hbase hh (qaa (qac (wpAny_Call_ofName (qac h (fun f s₁ h₁=>?_) fun J J x=>x)) (fun v s₃ h₃=>qaa (qa2 (qad h₃))) fun J J x=>x))))
 obtain⟨rfl,h₁⟩:=h₁
 unfold callWith
 refine qaa (qak (qac h₁ (fun a s₂ h₂=>qaa (qa2 ?_)) fun J J x=>x))
 obtain⟨apos,akw⟩:=a
 obtain⟨hkw,wq,hC,hn,hfI,T,h₂⟩:=h₂
 obtain rfl:akw=[]:=hkw
 obtain⟨hp,g,d,tk,os⟩:=s₂
 rw[hplain]
 refine qaa (wpAny_keeperOf_exc hC ?_)
 refine qaa (zw7 F T hC hn hi hfI hfc (fun h' e hm=>qac (h₂ h' e _ ?_ hm) (fun r s' hr=>⟨hr.1,qaa (qak (qb3 (qad ?_)))⟩) fun J J x=>x) wq)
 ·exact zae _
 ·obtain⟨rfl,g1,⟨oe,g2,g3,g4⟩,g5⟩:=hr
  exact⟨e,oe,rfl,g1,g2,g3,g4,g5⟩
end
inductive NetOk(c:Cx):Prop
 |mk (NE C fI:Addr)(oI:Obj)(fd:qbe)(hn:c.g (qab "NetError")=some (.ref NE))(hg:c.g (qab "BadNet")=some (.ref C))(own:ClsAt c.h0 C (.ref NE::vbm) (some (.ref fI)))(net:ClsAt c.h0 NE vbm none)
   (I:InitFn c.h0 fI oI fd) (hst:∃mc,c.h0.Ns cStatics mc/\mc "thirdparty.any"=none):NetOk c
theorem zpe(O:c.Ok)(NO:NetOk c)(hX:EnvX allY wz X)(hk:wz.kindOf (qab "BadNet")=some .globalImplicit)(h:zeu c wz wu [e1] [x1]) :
  zdm c wz wu X (.Raise (some (.Call (.Name (qab "BadNet") np) [e1] [] cpos)) none pos) (.rais (qab "BadNet") [x1]):=fun A q d k loc φ H s Q E hA hh hF hS hw=>by
 obtain⟨rfl,hw⟩:=hw
 obtain⟨NE,C,fI,oI,fd,hn,hg,own,net,I,hst⟩:=NO
 have K:Kid c.h0 C NE:=⟨⟨_,own⟩,net⟩
 obtain⟨nm,q,N,bs,sn,sub,ab,col,dd,k0,k1,k2,k3,k5,mN,hC,hN,hq,hi⟩:=own
 obtain⟨nm',q',N',bs',sn',sub',ab',col',dd',k0',k1',k2',k3',k5',mN',hC',hN',hq',hi'⟩:=net
 have hdep:=hA.dep
 refine zje (nm:=nm) (q:=q) (C:=C) (N:=N) (bs:=bs) (hdct:=true) (sn:=sn) (sub:=sub) (ab:=ab) (col:=col) (dd:=dd) (k0:=k0) (k1:=k1) (k2:=k2) (k3:=k3) (k5:=k5) (bm:=.ref NE::vbm) (mN:=mN) PySem.F.excBase_ValueError rfl (hA.hd rfl) (zgl h.1.1) hi I.cls (Calls.Name_function_global hF.fn hk (Calls.loadGlobal_global (by rw[hF.gl];exact O.gl.keeps hS.stays) hg ⟨rfl,?_⟩) (by decide))
 refine qac (zg3 h (fun q=>nomatch q) hA hF hS hw) ?_ fun J J h=>OutX.no h
 rintro _ s₁ w0;refine w0 _ fun rs wk φ₁ H₁ vs e₁ S₁ R₁ eN2=>?_;clear w0;subst wk;obtain⟨l₁,w₁⟩:=eN2
 cases LV.of vs with
 |one v1=>
  refine R₁.one _ fun r1 wk Rv=>?_;subst wk
  refine⟨rfl,show 1<=qag by decide,S₁.stays _ _ hC,hN.keeps S₁.stays,S₁.stays _ _ I.ho,.own (S₁.stays _ _ hC') (hN'.keeps S₁.stays) hi' .base,fun h' e A' hd hme=>?_⟩
  obtain⟨t0,ht,_,_⟩:=hme.there
  have h0:c.h0.get? e=none:=by
   refine xC (c.h0.get? e) (fun q=>?_) fun o q=>?_
   ·rfl
   ·have:=S₁.stays e o q;exact no1 (hme.new.symm.trans this)
  refine zwg (s:={ s₁ with heap:=h' }) O I hst (by exact ar2 [_,_,_] [] kab (Y1 V0 (.l 1000)) (Y0 (Y0 V1 V2) (.l 890)) (Y0 V0 (Y0 V1 J1)) hdep hd) hn K (fun b o q=>hme.keeps b o (S₁.stays b o q)) h0 ht fun h'' tk D=>?_
  obtain⟨t,dc,g1,g2,od,es,n,g3,g4,g5,g6⟩:=D.here
  have kp:∀b o,s₁.heap.get? b=some o->h''.get? b=some o:=fun b o q=>D.keep b o (fun q'=>by rw[q',hme.new] at q;injection q) (hme.keeps b o q)
  have e₂:Ext [] φ₁ s₁ φ₁ { s₁ with heap:=h'',toks:=tk }:=Ext.of_keeps kp rfl
  have new:∀{b:Addr},s₁.heap.get? b=none->b∉φ₁:=fun hb q=>by
   obtain⟨o,ho,_⟩:=S₁.isList q
   exact no1 (hb.symm.trans ho)
  have dn:s₁.heap.get? dc=none:=by
   refine xC (s₁.heap.get? dc) (fun q=>?_) fun o q=>?_
   ·rfl
   ·have:=hme.keeps _ _ q;exact no1 (g2.symm.trans this)
  have w₂:E (.exc (qab "BadNet") v1) loc H₁:=by
   have:atOf (qab "BadNet") [v1]=v1:=if_pos rfl
   rw[this] at w₁;exact w₁
  refine⟨rfl,kp _ _ (S₁.stays _ _ hC),⟨_,g1,rfl,t,rfl⟩,φ₁,H₁,loc,_,hF.weak hX (e₁.trans e₂),S₁.keeps (s':={ s₁ with heap:=h'',toks:=tk }) kp rfl,hF.mono (e₁.trans e₂),?_,w₂⟩
  exact⟨⟨e,_,_,rfl,new hme.new,h0,g1,⟨C,rfl⟩,hg,rfl,fun J=>⟨dc,od,es,n,r1,rfl,new dn,g3,g4,g5,g6,Rep.mono e₂.toKp OwnX.nil Rv⟩⟩,⟨_,_,rfl⟩,e,_,_,rfl,e₁.fresh S₁ hme.new,g1,rfl,.inl rfl⟩
 |_=>cases l₁
end
variable {B:Nat->Nat}{N:Nat}{bs:List Ex}{q:Option Expr×Option Expr×Option Expr}{s:Array (Option Value)}
section
open PySem PySem.W PySem.Calls PyProof.Rows Builtin Builtin.ObjectAttr Builtin.Getset_descriptor
set_option maxRecDepth 100000
section
variable {dx:Addr}{es:Array qbk}
theorem ns_find(ho:h.get? dx=some od)(hd:od.data=.dict es n)(hv:nsFind es name=some v){Q:Option Value->Shared->Prop}(hq:Q (some v) ⟨h,g,d,t,os⟩):wpAny M A (nsGet dx name) Q E ⟨h,g,d,t,os⟩:=by
 have e:lookIn name od=some (some v):=by
  unfold lookIn
  rw[hd]
  refine xM (fun x h1 h2=>?_) (show(es.find? (·.key.isStr name)).map (·.val)=some v from hv)
  dsimp only
  rw[Array.find?_toList,h1]
  exact congrArg (fun z=>some (some z)) h2
 unfold nsGet
 refine qaa (wpAny_loadPart ho ?_)
 rw[nsLook_of e]
 exact qad hq
theorem at_entry{Q:Fin->Shared->Prop}(K:Kid h C NE)(hx:h.get? a=some o)(hc:o.cls=.ref C)(hd:o.data=.fields vs)(hdx:o.dict=some dx)(ho:h.get? dx=some od)(hod:od.data=.dict es n)(hv:nsFind es (qab "at")=some v)
  (hq:Q (.done (.ret v)) ⟨h,g,d,t,os⟩):wpAny (model prog w) A (Builtin.«object.__getattribute__» ⟨[.ref a,.str "at" tk],[]⟩) Q E ⟨h,g,d,t,os⟩:=by
 have hm:("at":Str)∈zd8:=.tail _ (.tail _ (.tail _ (.head _)))
 obtain⟨oc,odt,data,slots⟩:=o
 obtain rfl:oc=_:=hc
 obtain rfl:data=_:=hd
 obtain rfl:odt=_:=hdx
 obtain⟨ini,nm,q,N,bs,sn,sub,ab,col,dd,k0,k1,k2,k3,k5,mN,hC,_⟩:=K.own
 repeat(any_goals(first |assumption |with_reducible refine qai hx ?_ |with_reducible refine K.lookup hm zqw ?_ |with_reducible refine qai hC ?_ |with_reducible refine ns_find ho hod hv ?_ |wp_step))
theorem at_get(K:Kid h C NE)(hx:h.get? a=some o)(hc:o.cls=.ref C)(hd:o.data=.fields vs)(hdx:o.dict=some dx)(ho:h.get? dx=some od)(hod:od.data=.dict es n)(hv:nsFind es (qab "at")=some v)
  (hh:handedOut v=pure v) (hq:Q v ⟨h,g,d,t+1,os⟩):wpAny (model prog w) A (getAttr (.ref a) "at" expr) Q E ⟨h,g,d,t,os⟩:=by
 unfold getAttr
 have FB:=PySem.F.attrBase_ValueError
 have f3:=FB.ga.bind (.ref a)
 have hx0:(expr&&onTheHeap (qa3 "BaseException.__getattribute__"))=false:=by cases expr<;>rfl
 have hx2:(qa3 "BaseException.__getattribute__"==qa3 "object.__getattribute__")=false:=by decide +kernel
 have hx1:(onTheHeap (qao C)&&qa3 "BaseException.__getattribute__"==qa3 "object.__getattribute__")=false:=by rw[hx2];rfl
 have hm1:("__getattribute__":Str)∈zd8:=.head _
 have hm2:("__getattr__":Str)∈zd8:=.tail _ (.head _)
 repeat(any_goals(first |assumption |(with_reducible refine qai hx ?_;rw[hc]) |with_reducible refine K.lookup hm1 FB.ga.lookup ?_ |with_reducible refine K.lookup hm2 FB.noGetattr ?_ |wp_step))
 refine qbh FB.ga.plain F.entry_bexc_ga (zif K hx hc (at_entry K hx hc hd hdx ho hod hv ?_))
 repeat(any_goals(first |assumption |wp_step))
end
theorem attr_inv{v w:V}(h:attrV v x=some w):x=qab "at"/\v=.exc (qab "BadNet") w/\((∃i,w=.int i)\/w=.none):=by
 cases v with
 |exc cn y=>
  by_cases hc:x=qab "at"/\cn=qab "BadNet"
  ·replace h:zss y=some w:=(if_pos hc).symm.trans h
   cases y with
   |none=>obtain rfl:=zaa h;exact⟨hc.1,by rw[hc.2],.inr rfl⟩
   |int i=>obtain rfl:=zaa h;exact⟨hc.1,by rw[hc.2],.inl ⟨i,rfl⟩⟩
   |_=>injection h
  ·exact absurd ((if_neg hc).symm.trans h) (fun q=>nomatch q)
 |_=>injection h
theorem zth{o:Expr}{x:Ex}{m:Str}(NO:NetOk c)(hb:zn1 o=true)(h:zce c wz wu o x):zce c wz wu (.Attribute o m p) (.attr x m):=fun A q d k loc φ H s Q E hA hF hS hw=>by
 rw[arm_eval_Attribute,zpg hb]
 refine qaa (qac (h A q d k loc φ H s _ E hA hF hS hw) ?_ fun J J h=>h)
 rintro r s₁ ⟨φ₁,H₁,v₁,e₁,S₁,R₁,w₁⟩
 revert w₁;refine xI fun y hy w₂=>?_
 skip
 obtain⟨rfl,rfl,hw⟩:=attr_inv hy
 obtain⟨a,ob,vs,rfl,ha,h0,ho,⟨C,hC⟩,hg,hd,hn⟩:=R₁
 obtain⟨dx,od,es,n,ra,h1,h2,h3,h4,h5,h6,Rv⟩:=hn rfl
 obtain⟨NE,C',fI,oI,fd,hn,hg',own,net,I,hst⟩:=NO
 rw[hg,hC] at hg'
 (injection hg' with Ja;injection Ja with w4;subst w4)
 have K:Kid s₁.heap C NE:=⟨⟨_,own.keeps S₁.stays⟩,net.keeps S₁.stays⟩
 have hh:handedOut ra=pure ra:=by
  rcases hw with⟨i,rfl⟩|rfl
  ·obtain⟨t,rfl⟩:=Rv;rfl
  ·obtain rfl:=Rv;rfl
 refine qaa (qa2 (qaa (qak ?_)))
 obtain⟨hp,g,d,t,os⟩:=s₁
 refine at_get K ho hC hd h1 h3 h5 h6 hh ?_
 refine qaa (wpAny_letTemporaryGo (qad ?_))
 exact Out.lift (e₁.trans (Ext.of_heap (s':=⟨hp,g,d,t+1,os⟩) rfl rfl)) (Out.at' (s:=⟨hp,g,d,t+1,os⟩) (S₁.tok _) Rv w₂)
end
variable {A:Prop}{E:XPost}{M d:Nat}{Q:V->Hp->Prop}{g:Expr×Expr×List Expr}{o:Option Nat}{os:List Cm}{p:Str×qaf}{t:Tg}{v:Option Value}{vs:List V}
section
open PySem PyProof.Rows
inductive Gk |fn |val (v:V) |blt (b:Bl) |isi |enum |rev
structure Tab where
 g:List (Str×Gk)
 t:List (Str×Tc)
inductive EV(e:Expr):Type
 |name (x:Str)(p:Pos)(h:e=.Name x p)
 |tup (es:List Expr)(k:Nat)(p:Pos)(h:e=.Tuple es k p)
 |attr (o:Expr)(m:Str)(p:Pos)(h:e=.Attribute o m p)
 |slice (q:Option Expr×Option Expr×Option Expr)(p:Pos)(h:e=.Slice q.1 q.2.1 q.2.2 p)
 |sub (o i:Expr)(p:Pos)(h:e=.Subscript o i p)
 |call (f:Expr)(es:List Expr)(kw:List Keyword)(p:Pos)(h:e=.Call f es kw p)
 |un (o:UnaryOp)(l:Expr)(p:Pos)(h:e=.UnaryOp o l p)
 |const (k:Const)(n:Nat)(p:Pos)(h:e=.Constant k n p)
 |lam (a:Arguments)(b:Expr)(s:Scope)(p:Pos)(h:e=.Lambda a b s p)
 |other
noncomputable def ev(e:Expr):EV e:=match e with
 |.Name x p=>.name x p rfl
 |.Tuple es k p=>.tup es k p rfl
 |.Attribute o m p=>.attr o m p rfl
 |.Slice a b c p=>.slice (a,b,c) p rfl
 |.Subscript o i p=>.sub o i p rfl
 |.Call f es kw p=>.call f es kw p rfl
 |.UnaryOp o l p=>.un o l p rfl
 |.Constant k n p=>.const k n p rfl
 |.Lambda a b s p=>.lam a b s p rfl
 |_=>.other
noncomputable def zw6(x:Str):Bool:=!(x==("__debug__":Str))&&!(x==("__classdict__":Str))
theorem zlf(h:zw6 x=true):(x==("__debug__":Str))=false/\(x==("__classdict__":Str))=false:=by
 revert h;refine xA fun h1 h2=>?_
 exact⟨zbm _ |>.mp h1,zbm _ |>.mp h2⟩
noncomputable def opOf:Operator->Option Op
 |.Add=>some .add |.Sub=>some .sub |.Mult=>some .mul |.FloorDiv=>some .div |.Mod=>some .mod
 |_=>none
theorem zul{o:Operator}{p:Op}(h:opOf o=some p):o=p.real:=by
 cases o<;>first |(cases h;done) |(obtain rfl:=zaa h;rfl)
noncomputable def cmOf:CmpOp->Option Cm
 |.Lt=>some .lt |.LtE=>some .le |.Gt=>some .gt |.GtE=>some .ge |.Eq=>some .eq |.NotEq=>some .ne
 |.NotIn=>some .notIn
 |_=>none
theorem zvs{o:CmpOp}{p:Cm}(h:cmOf o=some p):o=p.real:=by
 cases o<;>first |(cases h;done) |(obtain rfl:=zaa h;rfl)
theorem zkv:∀{os:List CmpOp}{ps:List Cm},mapO cmOf os=some ps->os=ps.map Cm.real
 |[],ps,h=>by obtain rfl:=zaa h;rfl
 |o::os,ps,h=>by
  refine(zc8 h) _ fun p ps' h1 h2 wk=>?_;subst wk
  rw[zvs h1,zkv h2];rfl
noncomputable def meAll:List Me:=[Me.append]
 ++ [Me.extend]
 ++ [Me.count,Me.index]
noncomputable def meOf(x:Str):Option Me:=meAll.find? fun m=>m.nm==x
theorem meOf_nm{m:Me}(h:meOf x=some m):x=m.nm:=by
 have:=List.find?_some (show meAll.find? (fun m=>m.nm==x)=some m from h)
 exact(beq_iff_eq.mp this).symm
noncomputable def zoa(wu:Res)(names:List (Str×qaf)):Res:=⟨false,wu.n,names.filterMap fun p=>(if p.2=.free then wu.lookup p.1 else none).map fun i=>(p.1,i)⟩
noncomputable def below(o:Option Nat)(n:Nat):Bool:=match o with
 |some i=>decide (i<n)
 |none=>false
theorem zt6(h:below o n=true):∃i,o=some i/\i<n:=by
 cases o with
 |none=>injection h
 |some i=>exact⟨i,rfl,of_decide_eq_true h⟩
noncomputable def cOk1(nm names:List (Str×qaf))(wu:Res)(nx:Nat)(p:Str×qaf):Bool:=match p.2 with
 |.cell=>names.lookup p.1==some .cell
 |.local=>names.lookup p.1==some .local
 |.free=>names.lookup p.1==some .free&&(nm.lookup p.1==some .cell||nm.lookup p.1==some .free)&&below (wu.lookup p.1) nx
 |_=>true
noncomputable def cOk(nm names:List (Str×qaf))(wu:Res)(nx:Nat):Bool:=names.all (cOk1 nm names wu nx)&&decide ((names.filter fun p=>p.2==.cell).length<=1)
theorem cOk_free{nm:List (Str×qaf)}{n:Str}(h:cOk1 nm names wu nx (n,.free)=true):names.lookup n=some .free/\(nm.lookup n=some .cell\/nm.lookup n=some .free)/\∃i,wu.lookup n=some i/\i<nx:=by
 revert h;refine xA fun h1 h2=>?_
 revert h1;refine xA fun h0 h1=>?_
 exact⟨beq_iff_eq.mp h0,(zb1.mp h1).imp beq_iff_eq.mp beq_iff_eq.mp,zt6 h2⟩
theorem zno{nm:List (Str×qaf)}(h:cOk1 nm names wu nx p=true):(p.2=.cell->names.lookup p.1=some .cell)/\(p.2=.local->names.lookup p.1=some .local):=by
 obtain⟨n,k⟩:=p
 refine⟨fun q=>?_,fun q=>?_⟩
 ·obtain rfl:k=.cell:=q;exact beq_iff_eq.mp h
 ·obtain rfl:k=.local:=q;exact beq_iff_eq.mp h
theorem one_cell(h:(names.filter fun p=>p.2==qaj).length<=1){n:Str}(h1:(n,qaj)∈names)(h2:(n',qaj)∈names):n'=n:=by
 have m1:(n,qaj)∈names.filter fun p=>p.2==qaj:=List.mem_filter.mpr ⟨h1,beq_self_eq_true qaj⟩
 have m2:(n',qaj)∈names.filter fun p=>p.2==qaj:=List.mem_filter.mpr ⟨h2,beq_self_eq_true qaj⟩
 generalize(names.filter fun p=>p.2==qaj)=l at h m1 m2
 cases l with
 |nil=>exact nomatch m1
 |cons p r=>
  obtain rfl:r=[]:=zbr.mp (Nat.le_zero.mp (Nat.le_of_succ_le_succ h))
  exact(qbv ((zaf.mp m2).trans (zaf.mp m1).symm)).1
noncomputable def tOk (names : List (Str × qaf)) (x : Str) : Bool := (names.lookup x == some .local || names.lookup x == some .cell) && x != zcg && x != qab "at"
noncomputable def zea(e:Expr):Option Str:=match ev e with
 |.name x _ _=>some x
 |_=>none
noncomputable def tupOf(e:Expr):Option (List Expr):=match ev e with
 |.tup es _ _ _=>some es
 |_=>none
theorem zcs(h:zea i=some x):∃p,i=.Name x p:=by
 unfold zea at h
 generalize ev i=v at h
 cases v with
 |name y p e=>obtain rfl:=zaa h;exact⟨p,e⟩
 |_=>injection h
theorem zwe(h:tupOf i=some es):∃x p,i=.Tuple es x p:=by
 unfold tupOf at h
 generalize ev i=v at h
 cases v with
 |tup y k p e=>obtain rfl:=zaa h;exact⟨k,p,e⟩
 |_=>injection h
noncomputable def tgT(names:List (Str×qaf))(r0:Res)(nx:Nat)(x y:Str):Option (Res×Tg×Nat):=
 if tOk names x=true/\tOk names y=true/\nx+1<r0.n then some (⟨false,r0.n,(y,nx+1)::(x,nx)::r0.t⟩,.two nx (nx+1),nx+2) else none
noncomputable def tgOf(names:List (Str×qaf))(r0:Res)(nx:Nat)(e:Expr):Option (Res×Tg×Nat):=match zea e with
 |some x=>if tOk names x=true/\nx<r0.n then some (⟨false,r0.n,(x,nx)::r0.t⟩,.one nx,nx+1) else none
 |none=>(tupOf e).bind fun es=>(mapO zea es).bind fun xs=>match xs with
  |[x,y]=>tgT names r0 nx x y
  |_=>none
noncomputable def relN(nm names:List (Str×qaf)):List (Str×qaf):=names.map fun(n,k)=>if(k==qap&&nm.lookup n==some .cell) then(n,qaj) else(n,k)
noncomputable def zgu(nm:List (Str×qaf))(f:Str):Bool:=zw6 f&&nm.lookup f==some .globalImplicit
noncomputable def constE:Const->Option Ex
 |.int i=>some (.lit (.int i))
 |.str s=>some (.lit (.str s))
 |.bool b=>some (.lit (.bool b))
 |.none=>some (.lit .none)
 |_=>none
noncomputable def gkVal:Gk->Option V
 |.val v=>some v
 |_=>none
noncomputable def nameE(T:Tab)(nm:List (Str×qaf))(wu:Res)(x:Str):Option Ex:=
 if zw6 x=true then
  match wu.lookup x with
  |some i=>some (.var i)
  |none=>if(nm.lookup x==some .globalImplicit)=true then((T.g.lookup x).bind gkVal).map .lit else none
 else none
noncomputable def unE:UnaryOp->Option (Ex->Ex)
 |.USub=>some .neg
 |.Not=>some .not
 |_=>none
noncomputable def boE:BoolOp->List Ex->Ex
 |.And=>.and
 |.Or=>.or
noncomputable def slOf(e:Expr):Option (Option Expr×Option Expr×Option Expr):=match ev e with
 |.slice q _ _=>some q
 |_=>none
theorem slOf_inv(h:slOf i=some q):∃p,i=.Slice q.1 q.2.1 q.2.2 p:=by
 unfold slOf at h
 generalize ev i=v at h
 cases v with
 |slice y p e=>obtain rfl:=zaa h;exact⟨p,e⟩
 |_=>injection h
noncomputable def zw4(e:Expr):Bool:=match ev e with
 |.const k _ _ _=>k==.int 1
 |_=>false
noncomputable def zvz(e:Expr):Bool:=match ev e with
 |.un o e _ _=>o==.USub&&zw4 e
 |_=>false
theorem zst(h:zw4 e=true):∃k p,e=.Constant (.int 1) k p:=by
 unfold zw4 at h
 generalize ev e=v at h
 cases v with
 |const k n p e=>exact⟨n,p,by rw[e,beq_iff_eq.mp h]⟩
 |_=>injection h
theorem zsb(h:zvz e=true):∃k p p',e=.UnaryOp .USub (.Constant (.int 1) k p) p':=by
 unfold zvz at h
 generalize ev e=v at h
 cases v with
 |un o l p' e=>
  revert h;refine xA fun h1 h2=>?_
  obtain⟨k,p,rfl⟩:=zst h2
  exact⟨k,p,p',by rw[e,beq_iff_eq.mp h1]⟩
 |_=>injection h
noncomputable def optE(r:Expr->Option Ex):Option Expr->Option Ex
 |none=>some (.lit .none)
 |some e=>r e
noncomputable def cutE(r:Expr->Option Ex)(a:Ex)(lo hi st:Option Expr):Option Ex:=match st with
 |none=>(optE r lo).bind fun x=>(optE r hi).map fun y=>.slice a x y
 |some s=>if zvz s=true/\lo=none/\hi=none then some (.rev a) else none
noncomputable def subE(r:Expr->Option Ex)(l i:Expr):Option Ex:=(r l).bind fun a=>match slOf i with
 |none=>(r i).map fun x=>.idx a x
 |some q=>cutE r a q.1 q.2.1 q.2.2
noncomputable def isiE(T:Tab)(nm:List (Str×qaf))(r:Expr->Option Ex)(es:List Expr):Option Ex:=match es with
 |[e,t]=>(zea t).bind fun t=>(T.t.lookup t).bind fun tc=>(r e).bind fun x=>if zgu nm t=true/\zct e=true then some (.isi x tc) else none
 |_=>none
noncomputable def gkE(T:Tab)(nm:List (Str×qaf))(r:Expr->Option Ex)(f:Str)(es:List Expr):Gk->Option Ex
 |.fn=>(mapO r es).bind fun xs=>if es.all zct=true/\es≠[] then some (.call f xs) else none
 |.blt b=>(mapO r es).bind fun xs=>if es.all zct=true/\es≠[] then some (.blt b xs) else none
 |.isi=>isiE T nm r es
 |_=>none
noncomputable def methE(r:Expr->Option Ex)(o:Expr)(m:Str)(apos pos:Pos)(es:List Expr):Option Ex:=
 (meOf m).bind fun me=>(r o).bind fun x=>(mapO r es).bind fun xs=>if(es.all zct=true/\zn1 o=true)/\(apos.endLine==pos.line)=true/\es.length<20 then some (.meth me x xs) else none
noncomputable def zuv(e:Expr):Option (Expr×Str×Pos):=match ev e with
 |.attr o m p _=>some (o,m,p)
 |_=>none
theorem zrt{q:Expr×Str×Pos}(h:zuv i=some q):i=.Attribute q.1 q.2.1 q.2.2:=by
 unfold zuv at h
 generalize ev i=v at h
 cases v with
 |attr y k p e=>obtain rfl:=zaa h;exact e
 |_=>injection h
noncomputable def callE(T:Tab)(nm:List (Str×qaf))(r:Expr->Option Ex)(f:Expr)(es:List Expr)(pos:Pos):Option Ex:=match zea f with
 |some f=>if f=zcg then(mapO r es).bind fun xs=>if es.all zct=true/\es≠[] then some (.callv xs) else none else if zgu nm f=true then(T.g.lookup f).bind (gkE T nm r f es) else none
 |none=>(zuv f).bind fun q=>methE r q.1 q.2.1 q.2.2 pos es
noncomputable def genOf:List Comprehension->Option (Expr×Expr×List Expr)
 |[g]=>if g.is_async=0 then some (g.target,g.iter,g.ifs) else none
 |_=>none
noncomputable def eE(T:Tab):Nat->List (Str×qaf)->Res->Nat->Expr->Option Ex
 |0,_,_,_,_=>none
 |n+1,nm,wu,nx,e=>match e with
  |.Constant k _ _=>constE k
  |.Name x _=>nameE T nm wu x
  |.Tuple es _ _=>(mapO (eE T n nm wu nx) es).bind fun xs=>if es.all zct=true/\xs.length<=1000 then some (.tup xs) else none
  |.List es _=>(mapO (eE T n nm wu nx) es).bind fun xs=>if es.all zct=true/\xs.length<=1000 then some (.list xs) else none
  |.BinOp l op r _=>(opOf op).bind fun p=>(eE T n nm wu nx l).bind fun a=>(eE T n nm wu nx r).map fun b=>.bin p a b
  |.UnaryOp o l _=>(unE o).bind fun f=>(eE T n nm wu nx l).map f
  |.BoolOp o es _=>(mapO (eE T n nm wu nx) es).map (boE o)
  |.Compare l ops es _=>(mapO cmOf ops).bind fun ps=>(eE T n nm wu nx l).bind fun a=>(mapO (eE T n nm wu nx) es).bind fun xs=>if es.all zic=true/\ps.length=es.length then some (.cmp a ps xs) else none
  |.Subscript l i _=>subE (eE T n nm wu nx) l i
  |.Attribute o m _=>if zn1 o=true then(eE T n nm wu nx o).map fun a=>.attr a m else none
  |.Call f es kw pos=>if kw=[] then callE T nm (eE T n nm wu nx) f es pos else none
  |.ListComp elt gs scope _=>(genOf gs).bind fun g=>(if(cOk nm scope.names wu nx=true/\scope.kind=.function)/\zic g.2.1=true then
    tgOf scope.names (zoa wu scope.names) nx g.1 else none).bind fun q=>(eE T n nm wu nx g.2.1).bind fun xs=>
     (eE T n (relN nm scope.names) q.1 q.2.2 elt).bind fun x=>(mapO (eE T n (relN nm scope.names) q.1 q.2.2) g.2.2).map fun ys=>.comp x q.2.1 xs ys
  |_=>none
def FnAt(c:Cx)(x:Str):Prop:=∀GJ:Prop,(∀(a:Addr),∀(o:Obj),∀(fd:qbe),(c.g x=some (.ref a))->(c.h0.get? a=some o)->(o.data=.func fd)->GJ)->GJ
inductive TyAt(c:Cx)(x:Str)(t:Tc):Prop
 |mk (S:String)(h1:t.real=some S)(h2:x=qab S)(h3:c.g x=none)(h4:c.b x=some (.type S)):TyAt c x t
 |own (h1:t=.own x)(h2:x∈kids\/x=qab "ValueError"):TyAt c x t
structure TabOk(c:Cx)(T:Tab):Prop where
 fn:∀x,T.g.lookup x=some .fn->FnAt c x
 val:∀x v,T.g.lookup x=some (.val v)->∃r,c.g x=some r/\Rep c [] c.h0 v r
 blt:∀x b,T.g.lookup x=some (.blt b)->c.g x=none/\c.b x=some b.real
 isi:∀x,T.g.lookup x=some .isi->x=qab "isinstance"/\c.g x=none/\c.b x=some (.builtin "isinstance")
 enum:∀x,T.g.lookup x=some .enum->c.g x=none/\c.b x=some (.type "enumerate")
 rev:∀x,T.g.lookup x=some .rev->c.g x=none/\c.b x=some (.type "reversed")
 ty:∀x t,T.t.lookup x=some t->TyAt c x t
 ex:ExcOk c
 nt:NetOk c
 lam:∀kk fd nm,c.lam kk fd nm->LamF kk fd nm
def Both(c:Cx)(wz:Env)(wu:Res)(e:Expr)(x:Ex):Prop:=zce c wz wu e x/\zgd c wz wu e x
theorem zmg{f:α->Option β}:∀{l:List α}{r:List β},mapO f l=some r->l.length=r.length
 |[],r,h=>by obtain rfl:=zaa h;rfl
 |a::l,r,h=>by
  refine(zc8 h) _ fun b bs J h2 wk=>?_;subst wk
  exact congrArg (· + 1) (zmg h2)
theorem zeb(ih:∀e x,r e=some x->Both c wz wu e x):∀{es:List Expr}{xs:List Ex},mapO r es=some xs->ze3 c wz wu es xs
 |[],_,h=>by obtain rfl:=zaa h;rfl
 |e::es,_,h=>by
  refine(zc8 h) _ fun x xs h1 h2 wk=>?_;subst wk
  exact⟨(ih _ _ h1).1,zeb ih h2⟩
theorem zec(ih:∀e x,r e=some x->Both c wz wu e x):∀{es:List Expr}{xs:List Ex},mapO r es=some xs->zeh c wz wu es xs
 |[],_,h=>by obtain rfl:=zaa h;rfl
 |e::es,_,h=>by
  refine(zc8 h) _ fun x xs h1 h2 wk=>?_;subst wk
  exact⟨(ih _ _ h1).2,zec ih h2⟩
theorem zc9(ih:∀e x,r e=some x->Both c wz wu e x):∀{es:List Expr}{xs:List Ex},mapO r es=some xs->es.all zct=true->zeu c wz wu es xs
 |[],_,h,_=>by obtain rfl:=zaa h;exact zhy
 |e::es,_,h,hn=>by
  refine(zc8 h) _ fun x xs h1 h2 wk=>?_;subst wk
  revert hn;refine xA fun n1 n2=>?_
  exact zep n1 (ih _ _ h1).1 (zc9 ih h2 n2)
end
variable {T Tb:Tab}{i:Nat}{p:Pos}{q:Bool}{x:Ex}
section
open PySem PyProof.Rows
theorem zcm(h:zce c wz wu e x)(hp:zjx e=true):Both c wz wu e x:=⟨h,zm5 h hp⟩
theorem zhq{scope:Scope}{nm:List (Str×qaf)}(h:wz.scope.names=nm)(hk:wz.scope.kind=.function):(qa8 scope wz).names=relN nm scope.names:=by
 unfold qa8 relN
 simp only
 refine List.map_congr_left fun p J=>?_
 obtain⟨n,k⟩:=p
 have:wz.kindOf n=nm.lookup n:=by rw[<- h];rfl
 simp only[this,hk]
 cases k<;>simp
theorem zdg{f:Str×α->Option β}:∀{l:List (Str×α)}{x:Str}{i:β},(l.filterMap fun p=>(f p).map fun i=>(p.1,i)).lookup x=some i->∃p∈l,p.1=x/\f p=some i
 |p::l,x,i,h=>by
  rw[List.filterMap_cons] at h
  refine xC (f p) (fun hp=>?_) fun r hp=>?_
  ·rw[hp] at h;obtain⟨q,hq,hq'⟩:=zdg h;exact⟨q,zag _ hq,hq'⟩
  ·rw[hp] at h
   change List.lookup x ((p.1,r)::_)=_ at h
   rw[zav] at h
   refine xD (x==p.1) (fun hb=>?_) fun hb=>?_
   ·rw[hb] at h
    exact⟨p,zad,(beq_iff_eq.mp hb).symm,by rw[<- h];exact hp⟩
   ·rw[hb] at h
    obtain⟨q,hq,hq'⟩:=zdg h;exact⟨q,zag _ hq,hq'⟩
theorem zvp{x:Str}(h:(zoa wu names).lookup x=some i):(x,qap)∈names/\wu.lookup x=some i:=by
 obtain⟨⟨n,k⟩,hp,rfl,hp'⟩:=zdg (f:=fun p:Str×qaf=>if p.2=.free then wu.lookup p.1 else none) h
 revert hp';refine xO fun hk hl=>?_
 obtain rfl:k=.free:=hk
 exact⟨hp,hl⟩
theorem zjp{x:Str}(h:List.lookup y ((x,nx)::l)=some j):(y=x/\j=nx)\/(y≠x/\l.lookup y=some j):=by
 rw[zav] at h
 refine xD (y==x) (fun hb=>?_) fun hb=>?_
 ·rw[hb] at h;exact .inl ⟨beq_iff_eq.mp hb,(zaa h).symm⟩
 ·rw[hb] at h;exact .inr ⟨beq_eq_false_iff_ne.mp hb,h⟩
theorem zo0{x:Str}(h:tOk names x=true):(names.lookup x=some .local\/names.lookup x=some .cell)/\x≠zcg/\x≠qab "at":=by
 revert h;refine xA fun h1 h2=>?_
 revert h1;refine xA fun h0 h1=>?_
 exact⟨(zb1.mp h0).imp beq_iff_eq.mp beq_iff_eq.mp,bne_iff_ne.mp h1,bne_iff_ne.mp h2⟩
theorem zj7{x:Str}(hk:wv.kindOf x=some .local\/(al x=true/\wv.kindOf x=some .cell))(hj:x≠zcg/\x≠qab "at")(hlt:nx<r0.n)(hb:∀y j,r0.lookup y=some j->j<nx) :
  StoreOk al wv r0 ⟨r0.fr,r0.n,(x,nx)::r0.t⟩ x nx:=
 ⟨⟨rfl,rfl,fun y j hy=>(zjp hy).imp id fun h=>⟨h.1,h.2,zar (hb y j h.2)⟩,hlt,hj.1,.inl hj.2⟩,hk⟩
structure FreeOk(nm:List (Str×qaf))(wu:Res)(nx:Nat)(names:List (Str×qaf))(n:Str):Prop where
 free:names.lookup n=some .free
 kind:nm.lookup n=some .cell\/nm.lookup n=some .free
 slot:∃i,wu.lookup n=some i/\i<nx
structure TgtOk(r0 res':Res)(scope:Scope)(wz:Env)(tgt:Expr)(t:Tg):Prop where
 n:res'.n=r0.n/\res'.fr=false
 tg:∀wv:Env,wv.scope=qa8 scope wz->TgOk (ownY scope) wv r0 res' tgt t
 sub:∀y i,r0.lookup y=some i->(y,qap)∈scope.names->res'.lookup y=some i/\t.out i
theorem zgz{x:Str}(h:y≠x)(hl:l.lookup y=o):List.lookup y ((x,nx)::l)=o:=by
 rw[zav,beq_eq_false_iff_ne.mpr h];exact hl
theorem tgt_ok{scope:Scope}(hfr:r0.fr=false)(hfree:∀n,(n,qap)∈scope.names->scope.names.lookup n=some .free)(hb:∀y j,r0.lookup y=some j->j<nx)
  (ht:tgOf scope.names r0 nx tgt=some (res',t,nx')):TgtOk r0 res' scope wz tgt t:=by
 have hloc:∀wv:Env,wv.scope=qa8 scope wz->∀x,(scope.names.lookup x=some .local\/scope.names.lookup x=some .cell)->wv.kindOf x=some .local\/(ownY scope x=true/\wv.kindOf x=some .cell):=fun wv hcs x hx=>by
  show List.lookup x wv.scope.names=_\/_/\List.lookup x wv.scope.names=_
  rw[hcs]
  rcases hx with hx |hx
  ·exact .inl (lookup_relabel_local hx)
  ·exact .inr ⟨by rw[ownY,hx];rfl,(ze6 hx).trans rfl⟩
 have ne:∀{x y:Str},(scope.names.lookup x=some .local\/scope.names.lookup x=some .cell)->(y,qap)∈scope.names->y≠x:=fun{x y} hx hy q=>by
  subst q
  rcases hx with hx |hx<;>(rw[hfree y hy] at hx;injection hx with Ja;injection Ja)
 obtain⟨fr,n,l⟩:=r0
 obtain rfl:fr=false:=hfr
 unfold tgOf at ht
 refine xC (zea tgt) (fun hn=>?_) fun x hn=>?_
 ·rw[hn] at ht
  revert ht;refine xB fun es h1 ht1=>?_
  skip
  obtain⟨k,p,rfl⟩:=zwe h1
  revert ht1;refine xB fun xs h2 ht2=>?_
  skip
  match xs,ht2,h2 with
  |[x,y],ht3,h2=>
   obtain⟨⟨h3,h4,h5⟩,e⟩:=iteS ht3
   obtain⟨t1,t2⟩:=zo0 h3
   obtain⟨u1,u2⟩:=zo0 h4
   (injection e with Ja Jb;injection Jb with w4 Jb1;subst Jb1;subst w4;subst Ja)
   match es,h2 with
   |e1::es,h2=>
    refine(zc8 h2) _ fun J J a1 a2 a3=>?_
    clear h2
    (injection a3 with Ja Jb;subst Jb;subst Ja)
    obtain⟨p1,rfl⟩:=zcs a1
    match es,a2 with
    |e2::es,a2=>
     refine(zc8 a2) _ fun J J b1 b2 b3=>?_
     clear a2
     (injection b3 with Ja Jb;subst Jb;subst Ja)
     obtain⟨p2,rfl⟩:=zcs b1
     match es,b2 with
     |[],_=>
      refine⟨⟨rfl,rfl⟩,fun wv hcs=>⟨_,_,_,rfl,x,p1,⟨false,n,(x,nx)::l⟩,rfl,zj7 (hloc wv hcs x t1) t2 (Nat.lt_of_succ_lt h5) hb,y,p2,_,rfl,zj7 (r0:=⟨false,n,(x,nx)::l⟩) (hloc wv hcs y u1) u2 h5 fun z j hz=>?_,rfl,rfl⟩,
       fun z i hz hm=>⟨zgz (ne u1 hm) (zgz (ne t1 hm) hz),zar (hb z i hz),zar (Nat.lt_succ_of_lt (hb z i hz))⟩⟩
      rcases zjp hz with⟨_,rfl⟩|⟨_,h⟩
      ·exact Nat.lt_succ_self _
      ·exact Nat.lt_succ_of_lt (hb z j h)
     |_::_,b2=>
      refine(zc8 b2) _ fun J J J J b4=>?_
      injection b4
 ·rw[hn] at ht
  obtain⟨p,rfl⟩:=zcs hn
  obtain⟨⟨h1,h2⟩,e⟩:=iteS ht
  obtain⟨t1,t2⟩:=zo0 h1
  (injection e with Ja Jb;injection Jb with w4 Jb1;subst Jb1;subst w4;subst Ja)
  exact⟨⟨rfl,rfl⟩,fun wv hcs=>⟨x,p,rfl,zj7 (hloc wv hcs x t1) t2 h2 hb⟩,fun y i hy hm=>⟨zgz (ne t1 hm) hy,zar (hb y i hy)⟩⟩
theorem zjf{nm:List (Str×qaf)}{scope:Scope}(hnm:wz.scope.names=nm)(hc:cOk nm scope.names wu nx=true)(hkind:scope.kind=.function)
  (ht:tgOf scope.names (zoa wu scope.names) nx tgt=some (res',t,nx')):CompOk c wz wu (zoa wu scope.names) res' scope tgt t:=by
 revert hc;refine xA fun hc h1c=>?_
 have hall:=zaz.mp hc
 have hfree:∀n,(n,qap)∈scope.names->FreeOk nm wu nx scope.names n:=fun n hn=>by
  obtain⟨h1,h2,i,hi,h3⟩:=cOk_free (hall _ hn)
  exact⟨h1,h2,i,hi,h3⟩
 have hb:∀y j,(zoa wu scope.names).lookup y=some j->j<nx:=fun y j hy=>by
  obtain⟨h1,h2⟩:=zvp hy
  obtain⟨i,h3,h4⟩:=(hfree y h1).slot
  obtain rfl:=zaa (h2.symm.trans h3)
  exact h4
 have b:=tgt_ok (wz:=wz) rfl (fun n hn=>(hfree n hn).free) hb ht
 refine⟨hkind,fun n n' h1 h2=>one_cell (of_decide_eq_true h1c) h1 h2,fun n hn hm=>(nomatch ((zno (hall _ hm)).1 rfl).symm.trans (hfree n hn).free),fun y hy q=>(zno (hall y hy)).2 q,fun n hn=>?_,rfl,rfl,fun x i hx=>?_,b.n,b.tg⟩
 ·have:wz.kindOf n=nm.lookup n:=by rw[<- hnm];rfl
  rw[this]
  obtain⟨i,h3,_⟩:=(hfree n hn).slot
  exact⟨(hfree n hn).kind,i,h3⟩
 ·obtain⟨h1,h2⟩:=zvp hx
  exact⟨h2,h1,(hfree x h1).free,(b.sub x i hx h1).1,(b.sub x i hx h1).2⟩
theorem zge{nm:List (Str×qaf)}(hnm:wz.scope.names=nm)(h:zgu nm f=true):wz.kindOf f=some .globalImplicit/\(f==("__debug__":Str))=false:=by
 revert h;refine xA fun h1 h2=>?_
 refine⟨?_,(zlf h1).1⟩
 show List.lookup f wz.scope.names=_
 rw[hnm];exact beq_iff_eq.mp h2
theorem zow(h:zic iter=true):∀x,qbr iter wz x=pure x:=fun x=>by
 cases iter<;>first |rfl |injection h
theorem znj(h:genOf gs=some g):gs=[⟨g.1,g.2.1,g.2.2,0⟩]:=by
 match gs,h with
 |[⟨a,b,c,d⟩],h=>
  revert h;refine xS fun h0 wj=>?_;subst wj
  obtain rfl:d=0:=h0
  rfl
section
variable {nm:List (Str×qaf)}
theorem zua{k:Const}(h:constE k=some x):Both c wz wu (.Constant k n p) x:=by
 cases k with
 |int=>obtain rfl:=zaa h;exact zcm zw8 rfl
 |str=>obtain rfl:=zaa h;exact zcm zv4 rfl
 |bool=>obtain rfl:=zaa h;exact zcm zs4 rfl
 |none=>obtain rfl:=zaa h;exact zcm zry rfl
 |_=>injection h
theorem nameE_ok(O:c.Ok)(TO:TabOk c T)(hnm:wz.scope.names=nm)(h:nameE T nm wu y=some x):Both c wz wu (.Name y p) x:=by
 revert h;refine xO fun h1 h=>?_
 obtain⟨n1,n2⟩:=zlf h1
 refine xC (wu.lookup y) (fun h2=>?_) fun i h2=>?_
 ·rw[h2] at h
  revert h;refine xO fun h2 h=>?_
  revert h;refine xM fun v h3 wj=>?_;subst wj
  revert h3;refine xB fun g h4 h5=>?_
  cases g with
  |val w=>
   obtain rfl:=zaa h5
   obtain⟨q,hr,hR⟩:=TO.val _ _ h4
   refine zcm (zr0 O ?_ hr hR n1) rfl
   show List.lookup _ wz.scope.names=_
   rw[hnm];exact beq_iff_eq.mp h2
  |_=>injection h5
 ·rw[h2] at h
  obtain rfl:=zaa h
  exact zcm (zop h2 n1 n2) rfl
theorem ztt(ih:∀e x,r e=some x->Both c wz wu e x){o:Option Expr}{y:Ex}(q:optE r o=some y):zrf c wz wu o y:=by
 cases o with
 |none=>exact(zaa q).symm
 |some e=>exact(ih _ _ q).1
theorem subE_ok(ih:∀e x,r e=some x->Both c wz wu e x){l i:Expr}(h:subE r l i=some x):Both c wz wu (.Subscript l i p) x:=by
 revert h;refine xB fun a h1 h2=>?_
 refine xC (slOf i) (fun hs=>?_) fun q hs=>?_
 ·rw[hs] at h2
  revert h2;refine xM fun y h3 wj=>?_;subst wj
  exact zcm (zwr (ih _ _ h1).1 (ih _ _ h3).1) rfl
 ·rw[hs] at h2
  obtain⟨lo,hi,st⟩:=q
  obtain⟨p',rfl⟩:=slOf_inv hs
  cases st with
  |none=>
   refine xB (fun y h3 h4=>?_) (show(optE r lo).bind _=some x from h2)
   revert h4;refine xM fun z h5 wj=>?_;subst wj
   exact zcm (zp1 (ih _ _ h1).1 (ztt ih h3) (ztt ih h5)) rfl
  |some s=>
   obtain⟨⟨h3,h4,h5⟩,rfl⟩:=iteS h2
   obtain⟨k,q,q',rfl⟩:=zsb h3
   obtain rfl:lo=none:=h4
   obtain rfl:hi=none:=h5
   exact zcm (ztq (ih _ _ h1).1) rfl
theorem isiE_ok(O:c.Ok)(TO:TabOk c T)(hnm:wz.scope.names=nm)(ih:∀e x,r e=some x->Both c wz wu e x)(h1:zgu nm f=true)(h2:T.g.lookup f=some .isi)(h:isiE T nm r es=some x):Both c wz wu (.Call (.Name f p) es [] p') x:=by
 match es,h with
 |[e,t],h=>
  revert h;refine xB fun t ht k=>?_
  obtain⟨q,rfl⟩:=zcs ht
  revert k;refine xB fun tc h4 k=>?_
  revert k;refine xB fun y h5 k6=>?_
  obtain⟨⟨h6,h7⟩,rfl⟩:=iteS k6
  obtain⟨rfl,g1,g2⟩:=TO.isi _ h2
  obtain⟨k1,_⟩:=zge hnm h1
  obtain⟨k2,k3⟩:=zge hnm h6
  cases TO.ty _ _ h4 with
  |mk S s1 s2 s3 s4=>subst s2;exact zcm (zve O s1 k1 k2 g1 g2 s3 s4 k3 h7 (ih _ _ h5).1) rfl
  |own s1 s2=>subst s1;exact zcm (zl6 O TO.ex s2 k1 k2 g1 g2 k3 h7 (ih _ _ h5).1) rfl
theorem callE_ok(O:c.Ok)(TO:TabOk c T)(hnm:wz.scope.names=nm)(ih:∀e x,r e=some x->Both c wz wu e x){f:Expr}(h:callE T nm r f es p=some x):Both c wz wu (.Call f es [] p) x:=by
 unfold callE at h
 refine xC (zea f) (fun hf=>?_) fun f' hf=>?_
 ·rw[hf] at h
  revert h;refine xB fun q ha h'=>?_
  skip
  obtain rfl:=zrt ha
  revert h';refine xB fun me h1 k=>?_
  revert k;refine xB fun y h2 k2=>?_
  revert k2;refine xB fun xs h3 k3=>?_
  revert k3;refine xS fun h4 wj=>?_;subst wj
  rw[meOf_nm h1]
  exact zcm (zro h4.1.2 h4.2.1 h4.2.2 (ih _ _ h2).1 (zc9 ih h3 h4.1.1)) rfl
 ·rw[hf] at h
  obtain⟨p',rfl⟩:=zcs hf
  by_cases hj:f'=zcg
  ·replace h:=(if_pos hj).symm.trans h
   revert h;refine xB fun xs m3 h4=>?_
   revert h4;refine xS fun h5 wj=>?_;subst wj
   rw[hj];exact zcm (zo2 O TO.lam (zc9 ih m3 h5.1) h5.2) rfl
  replace h:=(if_neg hj).symm.trans h
  revert h;refine xO fun h1 h=>?_
  obtain⟨k1,k2⟩:=zge hnm h1
  revert h;refine xB fun g h2 h3=>?_
  cases g with
  |fn=>
   refine xB (fun xs m3 h4=>?_) (show(mapO r es).bind _=some x from h3)
   revert h4;refine xS fun h5 wj=>?_;subst wj
   refine(TO.fn _ h2) _ fun a o fd g1 g2 g3=>?_
   exact zcm (zk8 O k1 g1 g2 g3 k2 (zc9 ih m3 h5.1) h5.2) rfl
  |blt b=>
   refine xB (fun xs m3 h4=>?_) (show(mapO r es).bind _=some x from h3)
   revert h4;refine xS fun h5 wj=>?_;subst wj
   obtain⟨g1,g2⟩:=TO.blt _ _ h2
   exact zcm (zvk O k1 g1 g2 k2 (zc9 ih m3 h5.1) h5.2) rfl
  |isi=>exact isiE_ok O TO hnm ih h1 h2 h3
  |_=>injection h3
end
theorem zdd(O:c.Ok)(TO:TabOk c T):∀n {nm:List (Str×qaf)}{wu:Res}{nx:Nat}{e:Expr}{x:Ex}{wz:Env},eE T n nm wu nx e=some x->wz.scope.names=nm->wz.scope.kind=.function->Both c wz wu e x
 |0,_,_,_,_,_,_,h,_,_=>nomatch h
 |n+1,nm,wu,nx,e,x,wz,h,hnm,hef=>by
  have ih:∀e x,eE T n nm wu nx e=some x->Both c wz wu e x:=fun e x h=>zdd O TO n h hnm hef
  cases e with
  |Constant k i p=>exact zua h
  |Name y p=>exact nameE_ok O TO hnm h
  |Tuple es k p=>
   refine xB (fun xs h1 h2=>?_) (show(mapO _ es).bind _=some x from h)
   revert h2;refine xS fun h3 wj=>?_;subst wj
   exact zcm (zu7 (zc9 ih h1 h3.1) h3.2) rfl
  |List es p=>
   refine xB (fun xs h1 h2=>?_) (show(mapO _ es).bind _=some x from h)
   revert h2;refine xS fun h3 wj=>?_;subst wj
   exact zcm (zs0 (zc9 ih h1 h3.1) h3.2) rfl
  |BinOp l op r p=>
   refine xB (fun o h1 h2=>?_) (show(opOf op).bind _=some x from h)
   revert h2;refine xB fun a h3 h4=>?_
   revert h4;refine xM fun b h5 wj=>?_;subst wj
   rw[zul h1]
   exact zcm (zui O (ih _ _ h3).1 (ih _ _ h5).1) rfl
  |UnaryOp o l p=>
   refine xB (fun f h1 h2=>?_) (show(unE o).bind _=some x from h)
   revert h2;refine xM fun a h3 wj=>?_;subst wj
   cases o with
   |USub=>obtain rfl:=zaa h1;exact zcm (zu4 (ih _ _ h3).1) rfl
   |Not=>obtain rfl:=zaa h1;exact⟨zu6 (ih _ _ h3).1,zr7 (ih _ _ h3).2⟩
   |_=>injection h1
  |BoolOp o es p=>
   refine xM (fun xs h1 wj=>?_) (show(mapO _ es).map _=some x from h);subst wj
   cases o with
   |And=>exact⟨ztp (zeb ih h1),zrp (zec ih h1)⟩
   |Or=>exact⟨sound_or (zeb ih h1),zwc (zec ih h1)⟩
  |Compare l ops es p=>
   refine xB (fun ps h1 h2=>?_) (show(mapO _ ops).bind _=some x from h)
   revert h2;refine xB fun a h3 h4=>?_
   revert h4;refine xB fun xs h5 h6=>?_
   revert h6;refine xS fun h7 wj=>?_;subst wj
   rw[zkv h1]
   exact⟨zv1 (ih _ _ h3).1 (zeb ih h5) h7.2 h7.1,zs6 (ih _ _ h3).1 (zeb ih h5) h7.2 h7.1⟩
  |Subscript l i p=>exact subE_ok ih h
  |Attribute o m p=>
   revert h;refine xO fun h1 h2=>?_
   revert h2;refine xM fun a h3 wj=>?_;subst wj
   exact zcm (zth TO.nt h1 (ih _ _ h3).1) rfl
  |Call f es kw p=>
   revert h;refine xO fun h3 h2=>?_
   obtain rfl:kw=[]:=h3
   exact callE_ok O TO hnm ih h2
  |ListComp elt gs scope p=>
   refine xB (fun g h1 h2=>?_) (show(genOf gs).bind _=some x from h)
   revert h2;refine xB fun q h3 h4=>?_
   revert h3;refine xO fun h5 h6=>?_
   revert h4;refine xB fun xs h7 h8=>?_
   revert h8;refine xB fun y h9 h10=>?_
   revert h10;refine xM fun ys h11 wj=>?_;subst wj
   obtain rfl:=znj h1
   have sub:∀wv:Env,wv.scope=qa8 scope wz->∀e x,eE T n (relN nm scope.names) q.1 q.2.2 e=some x->Both c wv q.1 e x:=fun wv hcs e x h=>zdd O TO n h (by rw[hcs];exact zhq hnm hef) (by rw[hcs];exact h5.1.2)
   exact zcm (ztf (zjf (c:=c) hnm h5.1.1 h5.1.2 h6) (zow h5.2) (ih _ _ h7).1 (fun wv hcs=>(sub wv hcs _ _ h9).1) fun wv hcs=>zec (sub wv hcs) h11) rfl
  |_=>injection h
end
variable {f:Stmt->Option St}{g:List Nat}{gs:List (List Nat)}{l r:Nat}{o:Option Gk}{x:St}
section
open PySem PyProof.Rows
noncomputable def stIx(nm:List (Str×qaf))(wu:Res)(y:Str):Option Nat:=
 (wu.lookup y).bind fun i=>if(nm.lookup y=some .local\/nm.lookup y=some .cell)/\y≠zcg/\wu.fr=true then some i else none
noncomputable def zkh(wu:Res):Bool:=decide ((wu.t.map (·.2)).Nodup)&&wu.t.all fun p=>decide (p.2<wu.n)
noncomputable def stE(nm:List (Str×qaf))(wu:Res)(e:Expr):Option Nat:=(zea e).bind (stIx nm wu)
noncomputable def tg2(nm:List (Str×qaf))(wu:Res)(e:Expr):Option Tg:=match ev e with
 |.name x _ _=>(stIx nm wu x).map .one
 |.tup es _ _ _=>(mapO (stE nm wu) es).bind fun l=>match l with
  |[i,j]=>some (.two i j)
  |_=>none
 |_=>none
noncomputable def isTup:Expr->Bool
 |.Tuple ..=>true
 |_=>false
noncomputable def zto:Expr->Bool
 |.ListComp .. |.SetComp .. |.DictComp ..=>true
 |_=>false
noncomputable def one1{α β:Type}(l:List α)(f:α->Option β):Option β:=match l with
 |[]=>none
 |x::r=>match r with
  |[]=>f x
  |_::_=>none
theorem zqk{l:List α}{f:α->Option β}{r:β}(h:one1 l f=some r):∃x,l=[x]/\f x=some r:=by
 cases l with
 |nil=>injection h
 |cons x l=>cases l with
  |nil=>exact⟨x,rfl,h⟩
  |cons=>injection h
noncomputable def srOf(e:Expr):Option (Str×Expr):=match ev e with
 |.call f es kw _ _=>(zea f).bind fun x=>one1 es fun e=>if kw=[] then some (x,e) else none
 |_=>none
theorem zqa{i:Expr}{f:Str}(h:srOf i=some (f,e)):∃p p',i=.Call (.Name f p) [e] [] p':=by
 unfold srOf at h
 generalize ev i=v at h
 cases v with
 |call g es kw p' q=>
  revert h;refine xB fun x h1 k=>?_
  obtain⟨e',rfl,k2⟩:=zqk k
  revert k2;refine xS fun h2 k3=>?_
  obtain⟨p,rfl⟩:=zcs h1
  (injection k3 with Ja Jb;subst Jb;subst Ja)
  obtain rfl:kw=[]:=h2
  exact⟨p,p',q⟩
 |_=>injection h
noncomputable def srK(r:Expr->Option Ex)(tg:Expr)(e:Expr)(dflt:Option Sr)(g:Gk):Option Sr:=match g with
 |.enum=>if isTup tg=true then(r e).map .enum else none
 |.rev=>(r e).map .rev
 |_=>dflt
noncomputable def eSr(T:Tab)(n:Nat)(nm:List (Str×qaf))(wu:Res)(nx:Nat)(tg:Expr)(iter:Expr):Option Sr:=
 match(srOf iter).bind fun q=>if zgu nm q.1=true/\zct q.2=true then(T.g.lookup q.1).map fun g=>(q,g) else none with
 |some q=>srK (eE T n nm wu nx) tg q.1.2 ((eE T n nm wu nx iter).map .val) q.2
 |none=>(eE T n nm wu nx iter).map .val
noncomputable def asgE(T:Tab)(n:Nat)(nm:List (Str×qaf))(wu:Res)(nx:Nat)(e:Expr)(t:Expr):Option St:=match ev t with
 |.name y _ _=>(stIx nm wu y).bind fun i=>(eE T n nm wu nx e).map fun x=>.set i x
 |.tup es _ _ _=>(mapO (stE nm wu) es).bind fun is=>(eE T n nm wu nx e).bind fun x=>if isTup e=false then some (.unp is x) else none
 |.sub o i _ _=>(eE T n nm wu nx o).bind fun a=>(eE T n nm wu nx i).bind fun j=>(eE T n nm wu nx e).map fun x=>.put a j x
 |_=>none
noncomputable def raiN(T:Tab)(n:Nat)(nm:List (Str×qaf))(wu:Res)(nx:Nat)(cn:Str)(es:List Expr)(kw:List Keyword):Option St:=
 if zgu nm cn=true/\cn=qab "BadNet"/\kw=[]/\es.all zct=true/\es.length=1 then(mapO (eE T n nm wu nx) es).map (.rais cn) else some .stuck
noncomputable def raiE(T:Tab)(n:Nat)(nm:List (Str×qaf))(wu:Res)(nx:Nat)(e:Expr):Option St:=match ev e with
 |.call f es kw _ _=>match zea f with
  |some cn=>if zgu nm cn=true/\cn∈kids/\cn≠qab "BadNet"/\kw=[]/\es.all zct=true/\es≠[]/\es.length<=9 then(mapO (eE T n nm wu nx) es).map (.rais cn) else raiN T n nm wu nx cn es kw
  |none=>some .stuck
 |_=>some .stuck
structure Hand where
 t:Expr
 n:Str
 h:Stmt
 hs:List Stmt
 p:Pos
noncomputable def zqm:List ExceptHandler->Option Hand
 |[.ExceptHandler (some t) (some n) (h::hs) p]=>some ⟨t,n,h,hs,p⟩
 |_=>none
theorem zr6 {l:List ExceptHandler} {k:Hand} (h:zqm l=some k):l=[.ExceptHandler (some k.t) (some k.n) (k.h::k.hs) k.p]:=by
 unfold zqm at h
 split at h
 ·obtain rfl:=zaa h;rfl
 ·injection h
noncomputable def triE (f:Stmt->Option St) (nm:List (Str×qaf)) (wu:Res) (b:List Stmt) (hs:List ExceptHandler) (els fin:List Stmt):Option St:=match zqm hs with
 |some k=>if els=[]/\fin=[]/\zea k.t=some (qab "NetError")/\zgu nm (qab "NetError")=true/\nm.lookup k.n=some .local then
   (stIx nm wu k.n).bind fun i=>(mapO f b).bind fun xb=>(mapO f (k.h::k.hs)).map fun xh=>.tri xb i xh else some .stuck
 |none=>some .stuck
noncomputable def eS(T:Tab):Nat->List (Str×qaf)->Res->Nat->Stmt->Option St
 |0,_,_,_,_=>none
 |n+1,nm,wu,nx,st=>match st with
  |.Assign ts e _=>one1 ts (asgE T n nm wu nx e)
  |.Expr e _=>if zto e=false then(eE T n nm wu nx e).map .expr else none
  |.Return o _=>o.bind fun e=>(eE T n nm wu nx e).map .ret
  |.If t a b _=>(eE T n nm wu nx t).bind fun x=>(mapO (eS T n nm wu nx) a).bind fun xa=>(mapO (eS T n nm wu nx) b).map fun xb=>.ite x xa xb
  |.While t b els _=>if els=[] then(eE T n nm wu nx t).bind fun x=>(mapO (eS T n nm wu nx) b).map fun xb=>.whil x xb else none
  |.For tg iter b els _=>if zic iter=true/\els=[] then(tg2 nm wu tg).bind fun t=>(eSr T n nm wu nx tg iter).bind fun sr=>(mapO (eS T n nm wu nx) b).map fun xb=>.loop t sr xb else none
  |.Raise o q _=>(match o,q with |some e,none=>raiE T n nm wu nx e |_,_=>some .stuck)
  |.Try b hs els fin _=>triE (eS T n nm wu nx) nm wu b hs els fin
  |_=>none
section
variable {nm:List (Str×qaf)}
theorem zid:∀{l:List (Str×Nat)},(l.map (·.2)).Nodup->∀{x y:Str} {i:Nat},l.lookup x=some i->l.lookup y=some i->x=y
 |[],_,_,_,_,h,_=>by simp at h
 |(k,v)::l,hn,x,y,i,hx,hy=>by
  rw[za5,zbw] at hn
  rw[zav] at hx hy
  have notin:∀{z:Str},l.lookup z=some i->v≠i:=fun{z} hz q=>hn.1 (by
   rw[za6];exact⟨(z,i),qav hz,q.symm⟩)
  refine xD (x==k) (fun h1=>?_) fun h1=>?_
  ·rw[h1] at hx;simp at hx
   refine xD (y==k) (fun h2=>?_) fun h2=>?_
   ·rw[beq_iff_eq.mp h1,beq_iff_eq.mp h2]
   ·rw[h2] at hy;exact absurd hx (notin hy)
  ·rw[h1] at hx
   refine xD (y==k) (fun h2=>?_) fun h2=>?_
   ·rw[h2] at hy;simp at hy;exact absurd hy (notin hx)
   ·rw[h2] at hy;exact zid hn.2 hx hy
theorem zka (hr:zkh wu=true) (hnm:wz.scope.names=nm) (h:stIx nm wu y=some i):StoreOk allY wz wu wu y i:=by
 revert h;refine xB fun j hj h=>?_
 revert h;refine xS fun hc wj=>?_;subst wj
 revert hr;refine xA fun r1 r2=>?_
 have hk:wz.kindOf y=nm.lookup y:=by rw[<- hnm];rfl
 refine⟨⟨rfl,rfl,fun z k hz=>?_,of_decide_eq_true (zaz.mp r2 _ (qav hj)),hc.2.1,.inr hc.2.2⟩,?_⟩
 ·by_cases q:z=y
  ·subst q;exact .inl ⟨rfl,zaa (hz.symm.trans hj)⟩
  ·exact .inr ⟨q,hz,fun e=>q (zid (of_decide_eq_true r1) hz (e▸hj))⟩
 ·rw[hk]
  exact hc.1.imp id fun h=>⟨rfl,h⟩
theorem zji(hr:zkh wu=true)(hnm:wz.scope.names=nm):∀{es:List Expr}{is:List Nat},mapO (stE nm wu) es=some is->zfn allY wz wu wu es is
 |[],is,h=>by obtain rfl:=zaa h;exact⟨rfl,rfl⟩
 |e::es,is,h=>by
  refine(zc8 h) _ fun i is h1 h2 wk=>?_;subst wk
  revert h1;refine xB fun x h3 h4=>?_
  obtain⟨p,rfl⟩:=zcs h3
  exact⟨x,p,wu,rfl,zka hr hnm h4,zji hr hnm h2⟩
theorem tg2_ok(hr:zkh wu=true)(hnm:wz.scope.names=nm)(h:tg2 nm wu tg=some t):TgOk allY wz wu wu tg t:=by
 unfold tg2 at h
 generalize ev tg=v at h
 cases v with
 |name x p e=>
  revert h;refine xM fun i h1 wj=>?_;subst wj
  exact⟨x,p,e,zka hr hnm h1⟩
 |tup es k p e=>
  revert h;refine xB fun l h1 k2=>?_
  match l,k2,h1 with
  |[i,j],k2,h1=>
   obtain rfl:=zaa k2
   exact⟨es,k,p,e,zji hr hnm h1⟩
 |_=>injection h
theorem zdp:zdm c wz wu X st .stuck:=fun A q d k loc φ H s Q E hA hh hF hS hw=>False.elim hw
theorem zq0{t:Option Expr}(h:zto e=false):swapsWith e t l wz=pure false:=by
 cases e<;>first |rfl |injection h
theorem zlv:swapsWithSole [.Tuple es k p] e l wz=pure false:=by cases e<;>rfl
theorem zol(h:isTup e=false):swappedStores [.Tuple es k p] e wz=pure none:=by cases e<;>first |rfl |injection h
theorem zti{o i:Expr}:swapsWith e (some (.Subscript o i p)) l wz=pure false:=by cases e<;>rfl
theorem zxc(O:c.Ok)(TO:TabOk c T)(h:eSr T n nm wu nx tg iter=some sr)(hnm:wz.scope.names=nm)(hef:wz.scope.kind=.function):zh5 c wz wu tg iter sr:=by
 have val:(eE T n nm wu nx iter).map .val=some sr->zh5 c wz wu tg iter sr:=fun h=>by
  revert h;refine xM fun x h1 wj=>?_;subst wj
  exact sr_val (zdd O TO n h1 hnm hef).1
 unfold eSr at h
 refine xC (((srOf iter).bind fun q=>if zgu nm q.1=true/\zct q.2=true then(T.g.lookup q.1).map fun g=>(q,g) else none)) (fun hs=>?_) fun q hs=>?_
 ·rw[hs] at h;exact val h
 ·rw[hs] at h
  obtain⟨⟨f,e⟩,h1,h2⟩:=zcb.mp hs
  revert h2;refine xO fun h3 h4=>?_
  revert h4;refine xM fun g h5 wj=>?_;subst wj
  obtain⟨k1,k2⟩:=zge hnm h3.1
  cases g with
  |enum=>
   obtain⟨p,p',rfl⟩:=zqa h1
   obtain⟨g1,g2⟩:=TO.enum _ h5
   revert h;refine xO fun ht h=>?_
   revert h;refine xM fun x h6 wj=>?_;subst wj
   cases tg with
   |Tuple=>exact sr_enum O k1 g1 g2 k2 h3.2 (zdd O TO n h6 hnm hef).1
   |_=>injection ht
  |rev=>
   obtain⟨p,p',rfl⟩:=zqa h1
   obtain⟨g1,g2⟩:=TO.rev _ h5
   revert h;refine xM fun x h6 wj=>?_;subst wj
   exact sr_rev O k1 g1 g2 k2 h3.2 (zdd O TO n h6 hnm hef).1
  |_=>exact val h
theorem zun(O:c.Ok)(TO:TabOk c T){x:Ex}(hX:EnvX allY wz X)(hy:StoreOk allY wz wu wu y i)(h:eE T n nm wu nx e=some x)(hnm:wz.scope.names=nm)(hef:wz.scope.kind=.function) :
  zdm c wz wu X (.Assign [.Name y py] e pos) (.set i x):=by
 refine xD (zto e) (fun hc=>?_) fun hc=>?_
 ·cases n with
  |zero=>injection h
  |succ n=>
   cases e with
   |ListComp elt gs scope cpos=>
    refine xD ((wz.blockKind==.function&&wz.kindOf y==some .local&&py.line==cpos.line&&!(scope.names.any fun(n,k)=>n==y&&(k==.local||k==.cell)))) (fun hb=>?_) fun hb=>?_
    ·refine xB (fun g h1 h2=>?_) (show(genOf gs).bind _=some x from h)
     revert h2;refine xB fun q h3 h4=>?_
     revert h3;refine xO fun h5 h6=>?_
     revert h4;refine xB fun xs h7 h8=>?_
     revert h8;refine xB fun z h9 h10=>?_
     revert h10;refine xM fun ys h11 wj=>?_;subst wj
     obtain rfl:=znj h1
     have sub:∀wv:Env,wv.scope=qa8 scope wz->∀e x,eE T n (relN nm scope.names) q.1 q.2.2 e=some x->Both c wv q.1 e x:=fun wv hcs e x h=>zdd O TO n h (by rw[hcs];exact zhq hnm hef) (by rw[hcs];exact h5.1.2)
     refine zlm hX (zjf (c:=c) hnm h5.1.1 h5.1.2 h6) (zow h5.2) (zdd O TO n h7 hnm hef).1 (fun wv hcs=>(sub wv hcs _ _ h9).1) (fun wv hcs=>zec (sub wv hcs) h11) ?_ hy
     show(pure _:Sem Bool)=pure true
     rw[<- hb];rfl
    ·refine zne hX (zdd O TO (n+1) h hnm hef).1 ?_ hy
     show(pure _:Sem Bool)=pure false
     rw[<- hb];rfl
   |_=>first |(cases hc;done) |(injection h;done)
 ·exact zne hX (zdd O TO n h hnm hef).1 (zq0 hc) hy
theorem iteK{p:Prop} [Decidable p]{o:Option α}{z b:α}{P:Prop}(h:(if p then o else some z)=some b)(h1:p->o=some b->P)(h2:z=b->P):P:=by
 by_cases q:p
 ·rw[if_pos q] at h;exact h1 q h
 ·rw[if_neg q] at h;exact h2 (zaa h)
theorem iteJ{p:Prop} [Decidable p]{o o':Option α}{b:α}{P:Prop}(h:(if p then o else o')=some b)(h1:p->o=some b->P)(h2:o'=some b->P):P:=by
 by_cases q:p
 ·rw[if_pos q] at h;exact h1 q h
 ·rw[if_neg q] at h;exact h2 h
theorem zrq(O:c.Ok)(TO:TabOk c T)(hX:EnvX allY wz X)(hnm:wz.scope.names=nm)(hef:wz.scope.kind=.function){kw:List Keyword}(h:raiN T n nm wu nx cn es kw=some x) :
  zdm c wz wu X (.Raise (some (.Call (.Name cn np) es kw cpos)) none pos) x:=by
 refine iteK h (fun hc g=>?_) fun g=>?_
 ·clear h
  obtain⟨h1,rfl,rfl,h5,h6⟩:=hc
  revert g;refine xM fun xs h8 wj=>?_;subst wj
  obtain⟨k1,k2⟩:=zge hnm h1
  have hs:=zc9 (fun e x h=>zdd O TO n h hnm hef) h8 h5
  have hl:=zmg h8
  rw[h6] at hl
  cases LV.of es with
  |one e1=>
   cases LV.of xs with
   |one x1=>exact zpe O TO.nt hX k1 hs
   |_=>cases hl
  |_=>cases h6
 ·subst g;exact zdp
theorem zs5(O:c.Ok)(TO:TabOk c T)(hX:EnvX allY wz X)(hnm:wz.scope.names=nm)(hef:wz.scope.kind=.function)(h:raiE T n nm wu nx e=some x):zdm c wz wu X (.Raise (some e) none pos) x:=by
 unfold raiE at h
 generalize ev e=v at h
 cases v with
 |call f es kw p q=>
  replace h:(match zea f with |some cn=>_ |none=>some St.stuck)=some x:=h
  refine xC (zea f) (fun hf=>?_) fun cn hf=>?_
  ·rw[hf] at h;obtain rfl:=zaa h;exact zdp
  ·rw[hf] at h
   refine iteJ h (fun hc g=>?_) fun g=>?_
   ·clear h
    obtain⟨h1,h2,h3,rfl,h5,h6,h7⟩:=hc
    revert g;refine xM fun xs h8 wj=>?_;subst wj
    obtain⟨p',rfl⟩:=zcs hf
    obtain⟨k1,k2⟩:=zge hnm h1
    rw[q]
    exact zrv O TO.ex hX h2 h3 k1 k2 (zc9 (fun e x h=>zdd O TO n h hnm hef) h8 h5) h6 (zmg h8▸h7)
   ·obtain⟨p',rfl⟩:=zcs hf
    rw[q]
    exact zrq O TO hX hnm hef g
 |_=>obtain rfl:=zaa h;exact zdp
theorem zsi(O:c.Ok)(TO:TabOk c T)(hX:EnvX allY wz X)(hr:zkh wu=true)(hnm:wz.scope.names=nm)(hf:∀{ss:List Stmt}{xs:List St},mapO f ss=some xs->zdw c wz wu X ss xs){els fin:List Stmt}{hs:List ExceptHandler}
  (h:triE f nm wu b hs els fin=some x):zdm c wz wu X (.Try b hs els fin pos) x:=by
 unfold triE at h
 refine xC (zqm hs) (fun hh=>?_) fun k hh=>?_
 ·rw[hh] at h;obtain rfl:=zaa h;exact zdp
 ·rw[hh] at h
  refine iteK h (fun hc g=>?_) fun g=>?_
  ·clear h
   obtain⟨rfl,rfl,h3,h4,h5⟩:=hc
   refine xB (fun i h6 g2=>?_) g
   refine xB (fun xb h7 g3=>?_) g2
   refine xM (fun xh h8 wj=>?_) g3;subst wj
   obtain rfl:=zr6 hh
   obtain⟨p',ht⟩:=zcs h3
   rw[ht]
   refine xB (fun j hj h9=>?_) h6
   refine xS (fun J wj=>?_) h9;subst wj
   exact ztl O TO.ex hX (hf h7) (hf h8) (zge hnm h4).1 (zka hr hnm h6) (by rw[<- hnm] at h5;exact h5) hj
  ·subst g;exact zdp
theorem zi2(O:c.Ok)(TO:TabOk c T)(hX:EnvX allY wz X)(hr:zkh wu=true)(hnm:wz.scope.names=nm)(hef:wz.scope.kind=.function):∀n {nx:Nat}{st:Stmt}{x:St},eS T n nm wu nx st=some x->zdm c wz wu X st x
 |0,_,_,_,h=>nomatch h
 |n+1,nx,st,x,h=>by
  have ih:=@zi2 O TO hX hr hnm hef n
  have list:∀{ss:List Stmt} {xs:List St},mapO (eS T n nm wu nx) ss=some xs->zdw c wz wu X ss xs:=fun{ss}=>by
   induction ss with
   |nil=>intro xs h;obtain rfl:=zaa h;exact zj5
   |cons s ss ihs=>
    intro xs h
    refine(zc8 h) _ fun y ys h1 h2 wk=>?_;subst wk
    exact zgn (ih h1) (ihs h2)
  have es:∀{e:Expr} {x:Ex},eE T n nm wu nx e=some x->Both c wz wu e x:=fun h=>zdd O TO n h hnm hef
  cases st with
  |Assign ts e p=>
   obtain⟨t,rfl,k⟩:=zqk (show one1 ts _=some x from h)
   clear h
   unfold asgE at k
   generalize ev t=v at k
   cases v with
   |name y p q=>
    revert k;refine xB fun i h1 k=>?_
    revert k;refine xM fun z h2 wj=>?_;subst wj
    rw[q]
    exact zun O TO hX (zka hr hnm h1) h2 hnm hef
   |tup es' y p q=>
    revert k;refine xB fun is h1 k=>?_
    revert k;refine xB fun z h2 k=>?_
    revert k;refine xS fun h3 wj=>?_;subst wj
    rw[q]
    exact zv7 hX (es h2).1 zlv (zol h3) (zji hr hnm h1)
   |sub o i p q=>
    revert k;refine xB fun a h1 k=>?_
    revert k;refine xB fun j h2 k=>?_
    revert k;refine xM fun z h3 wj=>?_;subst wj
    rw[q]
    exact zvr hX (es h1).1 (es h2).1 (es h3).1 zti
   |_=>injection k
  |Expr e p=>
   revert h;refine xO fun h1 k=>?_
   revert k;refine xM fun y h2 wj=>?_;subst wj
   exact zse hX (es h2).1 (zq0 h1)
  |Return o p=>
   refine xB (fun e wj k=>?_) (show o.bind _=some x from h);subst wj
   revert k;refine xM fun y h2 wj=>?_;subst wj
   exact znd hX (es h2).1
  |If t a b p=>
   refine xB (fun y h1 k=>?_) (show(eE T n nm wu nx t).bind _=some x from h)
   revert k;refine xB fun xa h2 k=>?_
   revert k;refine xM fun xb h3 wj=>?_;subst wj
   exact zt1 hX (es h1).2 (list h2) (list h3)
  |While t b els p=>
   revert h;refine xO fun h0 k=>?_
   obtain rfl:els=[]:=h0
   revert k;refine xB fun y h1 k=>?_
   revert k;refine xM fun xb h2 wj=>?_;subst wj
   exact zps hX (es h1).2 (list h2)
  |For tg iter b els p=>
   revert h;refine xO fun h0 k=>?_
   obtain rfl:els=[]:=h0.2
   revert k;refine xB fun t h2 k=>?_
   revert k;refine xB fun sr h3 k=>?_
   revert k;refine xM fun xb h4 wj=>?_;subst wj
   exact zxb hX (zow h0.1) (zxc O TO h3 hnm hef) (tg2_ok hr hnm h2) (list h4)
  |Raise o q p=>
   cases o with
   |none=>obtain rfl:=zaa h;exact zdp
   |some e=>cases q with
    |none=>exact zs5 O TO hX hnm hef h
    |some _=>obtain rfl:=zaa h;exact zdp
  |Try b hs els fin p=>exact zsi O TO hX hr hnm list h
  |_=>injection h
end
end
variable {b:Expr}{es:List Ex}{np t x:Nat}{p:qbi}{y:List St×Nat×Nat}
section
open PySem PyProof.Rows
theorem zf2:∀{ps:List Str}{vals:List Value},vals.length=ps.length->∀n∈ps,((ps.zip vals).lookup n).isSome=true
 |[],_,_,n,hn=>by cases hn
 |p::ps,v::vals,hl,n,hn=>by
  rw[List.zip_cons_cons,zav]
  refine xD (n==p) (fun hb=>?_) fun hb=>?_
  ·rfl
  ·rcases zah.mp hn with rfl |hn
   ·simp at hb
   ·exact zf2 (by simpa using hl) n hn
 |_::_,[],hl,_,_=>by simp at hl
theorem zgw{f g:α->Option β}:∀{l:List α},(∀a∈l,f a=g a)->l.filterMap f=l.filterMap g
 |[],_=>rfl
 |a::l,h=>by
  rw[List.filterMap_cons,List.filterMap_cons,h a zad,zgw fun b hb=>h b (zag _ hb)]
theorem zhf:∀{ps:List Str}{vals:List Value},ps.Nodup->vals.length=ps.length->ps.filterMap (fun n=>((ps.zip vals).lookup n).map (n,·))=ps.zip vals
 |[],_,_,_=>by simp
 |p::ps,v::vals,hn,hl=>by
  rw[zbw] at hn
  rw[List.zip_cons_cons,List.filterMap_cons]
  simp only[List.lookup_cons_self,Option.map_some]
  congr 1
  have ih:=zhf hn.2 (show vals.length=ps.length by simpa using hl)
  rw[<- ih]
  refine zgw fun n hm=>?_
  have hne:(n==p)=false:=by
   rw[beq_eq_false_iff_ne];rintro rfl;exact hn.1 hm
  rw[zav,hne,ih]
 |_::_,[],_,hl=>by simp at hl
theorem zfd(hdv:fd.defaults=.none)(hkv:fd.kwdefaults=.none)(h1:fd.params.posonlyargs=[])(h2:fd.params.kwonlyargs=[])(h3:fd.params.vararg=none)(h4:fd.params.kwarg=none)
  (hn:(fd.params.args.map (·.arg)).Nodup) (vals:List Value) (hl:vals.length=(fd.params.args.map (·.arg)).length):bindArgs fd ⟨vals,[]⟩=pure ((fd.params.args.map (·.arg)).zip vals):=by
 obtain⟨_,_,⟨pos,args,va,ko,kd,ka,df⟩,_,_,_,_,dv,kv,_,_,_,_,_,_⟩:=fd
 dsimp only at hdv hkv h1 h2 h3 h4 hn hl ⊢
 subst hdv hkv h1 h2 h3 h4
 generalize hg:args.map (·.arg)=l at hn hl ⊢
 have hmiss:¬((!((l.take (l.length-(List.drop (0-l.length) ([]:List Value)).length)).filter (fun n=>((l.zip vals).lookup n).isNone)).isEmpty)=true):=by
  rw[List.drop_nil,List.length_nil,Nat.sub_zero,List.take_length,List.filter_eq_nil_iff.mpr]
  ·exact fun h=>nomatch h
  ·intro n hm h
   have:=zf2 hl n hm
   rw[zby.mp h] at this
   injection this
 subst hg
 refine(if_neg (c:=(decide (vals.length>(args.map (·.arg)).length)&&true)=true) ?_).trans ((if_neg hmiss).trans ?_)
 ·rw[hl,decide_eq_false (zay _)];exact fun h=>nomatch h
 ·have e:∀{α:Type} (k:Nat) (m:List (Str×Value)->Sem α) (f:Str×Value->List (Str×Value)->Sem (ForInStep (List (Str×Value)))) (s:List (Str×Value)),(forIn (((args.map (·.arg)).drop k).zip (List.drop (0-(args.map (·.arg)).length) ([]:List Value))) s f >>=m)=m s:=fun k m f s=>by
   rw[List.drop_nil,List.zip_nil_right,List.forIn_nil,pure_bind]
  refine(e _ _ _ _).trans ?_
  show(pure ((args.map (fun x=>Arg.arg x)++[]).filterMap _):Sem (List (Str×Value)))=_
  rw[za4]
  exact congrArg pure (zhf hn hl)
noncomputable def slots(names:List (Str×qaf)):List Str:=(names.filter fun p=>(p.2==.local||p.2==.cell)&&p.1!=zcg).map (·.1)
noncomputable def zga(names:List (Str×qaf))(r:Nat):Res:=⟨true,(slots names).length+r,(slots names).zip (List.range (slots names).length)⟩
noncomputable def ziw(names:List (Str×qaf))(x:Str):Bool:=names.lookup x==some .local||names.lookup x==some .cell
noncomputable def zrk(nm:List (Str×qaf))(wu:Res):List Str->Nat->Bool
 |[],i=>decide (i<=wu.n)
 |x::r,i=>stIx nm wu x==some i&&zrk nm wu r (i+1)
structure FunC(e:qa9)(r:Nat):Prop where
 p1:e.params.posonlyargs=[]
 p2:e.params.kwonlyargs=[]
 p3:e.params.vararg=none
 p4:e.params.kwarg=none
 p5:(e.params.args.map (·.arg)).Nodup
 p6:e.scope.kind=.function
 p7:e.scope.isCoroutine=false
 p8:e.scope.isGenerator=false
 p10:zkh (zga e.scope.names r)=true
 p11:(slots e.scope.names).all (ziw e.scope.names)=true
 p12:zrk e.scope.names (zga e.scope.names r) (e.params.args.map (·.arg)) 0=true
noncomputable def funOk(e:qa9)(r:Nat):Bool:=
 e.params.posonlyargs.isEmpty&&(e.params.kwonlyargs.isEmpty&&(e.params.vararg.isNone&&(e.params.kwarg.isNone&&(decide ((e.params.args.map (·.arg)).Nodup) &&
 (e.scope.kind==.function&&(!e.scope.isCoroutine&&(!e.scope.isGenerator&&(zkh (zga e.scope.names r)&&((slots e.scope.names).all (ziw e.scope.names)&&zrk e.scope.names (zga e.scope.names r) (e.params.args.map (·.arg)) 0)))))))))
theorem znq{e:qa9}(h:funOk e r=true):FunC e r:=by
 revert h;refine xA fun p1 h=>?_
 revert h;refine xA fun p2 h=>?_
 revert h;refine xA fun p3 h=>?_
 revert h;refine xA fun p4 h=>?_
 revert h;refine xA fun p5 h=>?_
 revert h;refine xA fun p6 h=>?_
 revert h;refine xA fun p7 h=>?_
 revert h;refine xA fun p8 h=>?_
 revert h;refine xA fun p10 h=>?_
 revert h;refine xA fun p11 p12=>?_
 exact⟨zbh.mp p1,zbh.mp p2,zby.mp p3,zby.mp p4,of_decide_eq_true p5,beq_iff_eq.mp p6,(zbm _).mp p7,(zbm _).mp p8,p10,p11,p12⟩
noncomputable def eFun(T:Tab)(fuel r:Nat)(e:qa9):Option (List St):=
 if funOk e r=true then mapO (eS T fuel e.scope.names (zga e.scope.names r) (slots e.scope.names).length) e.body else none
theorem zeo{nm:List (Str×qaf)}(hr:zkh wu=true)(hnm:wz.scope.names=nm):∀{ps:List Str}{i:Nat},zrk nm wu ps i=true->zh9 wz wu ps i/\i+ps.length<=wu.n
 |[],_,h=>⟨trivial,of_decide_eq_true h⟩
 |x::ps,i,h=>by
  revert h;refine xA fun h1 h2=>?_
  obtain⟨h3,h4⟩:=zeo hr hnm h2
  refine⟨⟨zka hr hnm (beq_iff_eq.mp h1),h3⟩,?_⟩
  rw[zba,Nat.add_comm ps.length 1,<-Nat.add_assoc];exact h4
theorem zov(hf:∀st x,f st=some x->zdm c wz wu X st x):∀{ss:List Stmt}{xs:List St},mapO f ss=some xs->zdw c wz wu X ss xs
 |[],_,h=>by obtain rfl:=zaa h;exact zj5
 |s::ss,_,h=>by
  refine(zc8 h) _ fun y ys h1 h2 wk=>?_;subst wk
  exact zgn (hf _ _ h1) (zov hf h2)
inductive DefAt(c:Cx)(e:qa9):Prop
 |mk (a cc:Addr)(o:Obj)(pm doc:Value)(g1:c.g e.name=some (.ref a))(g2:c.h0.get? a=some o)(g3:o.data=.func (Calls.docDef e.name e.params e.body e.scope pm (.ref cc) doc))(g4:c.h0.CodeRec (.ref cc) e.name):DefAt c e
theorem zuo(O:c.Ok)(TO:TabOk c T){e:qa9}(hat:DefAt c e)(he:eFun T fuel r e=some xs)(wq:vs.length=e.params.args.length)
  (hw:wpSs (Calls c) q d none xs (EndQ Q) (EndX E) (vs.map some++List.replicate ((slots e.scope.names).length+r-vs.length) none) H):Calls c q (d+1) e.name vs none Q E H:=by
 revert he;refine xO fun hok he=>?_
 have P:=znq hok
 obtain⟨a,cc,o,pm,doc,g1,g2,g3,g4⟩:=hat
 have K:FunOk c e.name a o (Calls.docDef e.name e.params e.body e.scope pm (.ref cc) doc) e.body (e.params.args.map (·.arg)) (e.params.args.map (·.arg)) (zga e.scope.names r):=by
  refine⟨g1,g2,g3,g4,rfl,rfl,rfl,rfl,P.p6,P.p7,P.p8,fun vals hl=>zfd rfl rfl P.p1 P.p2 P.p3 P.p4 P.p5 vals hl,rfl,fun x i hx=>?_,fun L=>(zeo P.p10 rfl P.p12).1,?_⟩
  ·exact(zb1.mp (zaz.mp P.p11 x (List.of_mem_zip (qav (show List.lookup x _=some i from hx))).1)).imp beq_iff_eq.mp beq_iff_eq.mp
  ·have:=(zeo (wz:=qaq (Calls.docDef e.name e.params e.body e.scope pm (.ref cc) doc) 0 a) P.p10 rfl P.p12).2
   rw[Nat.zero_add] at this;exact this
 exact zqx O K (xs:=xs) (fun L hX=>zov (fun J J h=>zi2 O TO hX P.p10 rfl P.p6 fuel h) he) (by rw[wq,zab]) hw
end
variable {f:Addr}
section
open PySem PyProof.Rows
structure FunJ(e:qa9)(r:Nat)(ps:List Str):Prop where
 p1:e.params.posonlyargs=[]
 p2:e.params.kwonlyargs=[]
 p3:e.params.vararg=none
 p4:e.params.kwarg=none
 p5:(e.params.args.map (·.arg)).Nodup
 p6:e.scope.kind=.function
 p7:e.scope.isCoroutine=false
 p8:e.scope.isGenerator=false
 p10:zkh (zga e.scope.names r)=true
 p11:(slots e.scope.names).all (ziw e.scope.names)=true
 p12:zrk e.scope.names (zga e.scope.names r) ps 0=true
 p13:e.params.args.map (·.arg)=ps++[zcg]
 p14:e.scope.names.lookup zcg=some .local
noncomputable def funOkJ(e:qa9)(r:Nat)(ps:List Str):Bool:=
 e.params.posonlyargs.isEmpty&&(e.params.kwonlyargs.isEmpty&&(e.params.vararg.isNone&&(e.params.kwarg.isNone&&(decide ((e.params.args.map (·.arg)).Nodup) &&
 (e.scope.kind==.function&&(!e.scope.isCoroutine&&(!e.scope.isGenerator&&(zkh (zga e.scope.names r)&&((slots e.scope.names).all (ziw e.scope.names)&&(zrk e.scope.names (zga e.scope.names r) ps 0 &&
 (decide (e.params.args.map (·.arg)=ps++[zcg])&&e.scope.names.lookup zcg==some .local)))))))))))
theorem ztd{e:qa9}(h:funOkJ e r ps=true):FunJ e r ps:=by
 revert h;refine xA fun p1 h=>?_
 revert h;refine xA fun p2 h=>?_
 revert h;refine xA fun p3 h=>?_
 revert h;refine xA fun p4 h=>?_
 revert h;refine xA fun p5 h=>?_
 revert h;refine xA fun p6 h=>?_
 revert h;refine xA fun p7 h=>?_
 revert h;refine xA fun p8 h=>?_
 revert h;refine xA fun p10 h=>?_
 revert h;refine xA fun p11 h=>?_
 revert h;refine xA fun p12 h=>?_
 revert h;refine xA fun p13 p14=>?_
 exact⟨zbh.mp p1,zbh.mp p2,zby.mp p3,zby.mp p4,of_decide_eq_true p5,beq_iff_eq.mp p6,(zbm _).mp p7,(zbm _).mp p8,p10,p11,p12,of_decide_eq_true p13,beq_iff_eq.mp p14⟩
noncomputable def eFunJ(T:Tab)(fuel r:Nat)(ps:List Str)(e:qa9):Option (List St):=
 if funOkJ e r ps=true then mapO (eS T fuel e.scope.names (zga e.scope.names r) (slots e.scope.names).length) e.body else none
theorem zte:(zga names r).lookup zcg=none:=by
 refine xC ((zga names r).lookup zcg) (fun h=>?_) fun i h=>?_
 ·rfl
 ·have hm:=(List.of_mem_zip (qav (show List.lookup zcg _=some i from h))).1
  revert hm;refine xL fun p hp e=>?_
  have:=(zbc.mp (List.mem_filter.mp hp).2).2
  rw[e] at this
  exact absurd rfl (bne_iff_ne.mp this)
theorem zsq(O:c.Ok)(TO:TabOk c T){e:qa9}(hat:DefAt c e)(he:eFunJ T fuel r ps e=some xs)(wq:vs.length=ps.length)
  (hw:wpSs (Calls c) q d (some (kk,z)) xs (EndQ Q) (EndX E) (vs.map some++List.replicate ((slots e.scope.names).length+r-vs.length) none) H):Calls c q (d+1) e.name vs (some (kk,z)) Q E H:=by
 revert he;refine xO fun hok he=>?_
 have P:=ztd hok
 obtain⟨a,cc,o,pm,doc,g1,g2,g3,g4⟩:=hat
 have K:FunOk c e.name a o (Calls.docDef e.name e.params e.body e.scope pm (.ref cc) doc) e.body ps (ps++[zcg]) (zga e.scope.names r):=by
  refine⟨g1,g2,g3,g4,rfl,rfl,rfl,rfl,P.p6,P.p7,P.p8,fun vals hl=>?_,rfl,fun x i hx=>?_,fun L=>(zeo P.p10 rfl P.p12).1,?_⟩
  ·rw[<- P.p13];exact zfd rfl rfl P.p1 P.p2 P.p3 P.p4 P.p5 vals (by show _=(e.params.args.map (·.arg)).length;rw[P.p13];exact hl)
  ·exact(zb1.mp (zaz.mp P.p11 x (List.of_mem_zip (qav (show List.lookup x _=some i from hx))).1)).imp beq_iff_eq.mp beq_iff_eq.mp
  ·have:=(zeo (wz:=qaq (Calls.docDef e.name e.params e.body e.scope pm (.ref cc) doc) 0 a) P.p10 rfl P.p12).2
   rw[Nat.zero_add] at this;exact this
 exact zv0 O K (xs:=xs) P.p14 zte (fun L hX=>zov (fun J J h=>zi2 O TO hX P.p10 rfl P.p6 fuel h) he) wq hw
noncomputable def lamOf(e:Expr):Option (Arguments×Expr×Scope×Pos):=match ev e with
 |.lam a b s p _=>some (a,b,s,p)
 |_=>none
theorem zwf{q:Arguments×Expr×Scope×Pos}(h:lamOf e=some q):e=.Lambda q.1 q.2.1 q.2.2.1 q.2.2.2:=by
 unfold lamOf at h
 generalize ev e=v at h
 cases v with
 |lam a b s p e=>obtain rfl:=zaa h;exact e
 |_=>injection h
noncomputable def zn4(e:Expr):Option (Expr×List Expr×List Keyword×Pos):=match ev e with
 |.call f es kw p _=>some (f,es,kw,p)
 |_=>none
theorem zk0{q:Expr×List Expr×List Keyword×Pos}(h:zn4 e=some q):e=.Call q.1 q.2.1 q.2.2.1 q.2.2.2:=by
 unfold zn4 at h
 generalize ev e=v at h
 cases v with
 |call a b s p e=>obtain rfl:=zaa h;exact e
 |_=>injection h
noncomputable def retOf(st:Stmt):Option (Expr×Pos):=match st with
 |.Return (some e) p=>some (e,p)
 |_=>none
theorem zwb{q:Expr×Pos}(h:retOf st=some q):st=.Return (some q.1) q.2:=by
 cases st with
 |Return o p=>cases o with
  |none=>injection h
  |some e=>obtain rfl:=zaa h;rfl
 |_=>injection h
noncomputable def oneN:Str:=qab "one"
noncomputable def zft:Str:=qab "other"
noncomputable def zgt:Str:=qab "kind"
noncomputable def lamNames:List (Str×qaf):=[(oneN,.local),(zft,.local),(zgt,.free),(zhi,.globalImplicit)]
noncomputable def lamB (kk:Nat) (b:Expr):Bool:=match zn4 b with
 |some q=>decide (zea q.1=some zhi)&&q.2.2.1.isEmpty&&decide (q.2.1.map zea=[some (pick oneN zft zgt (kk/9)),some (pick oneN zft zgt (kk/3%3)),some (pick oneN zft zgt (kk%3))])
 |none=>false
def LamBI(kk:Nat)(b:Expr):Prop:=∀GJ:Prop,(∀(pf q0 q1 q2 pos:Pos),(b=.Call (.Name zhi pf) [.Name (pick oneN zft zgt (kk/9)) q0,.Name (pick oneN zft zgt (kk/3%3)) q1,.Name (pick oneN zft zgt (kk%3)) q2] [] pos)->GJ)->GJ
theorem lamB_inv(h:lamB kk b=true):LamBI kk b:=by
 unfold lamB at h
 refine xC (zn4 b) (fun hq=>?_) fun q hq=>?_
 ·rw[hq] at h;injection h
 ·rw[hq] at h
  revert h;refine xA fun h h3=>?_
  revert h;refine xA fun h1 h2=>?_
  obtain⟨pf,hf⟩:=zcs (of_decide_eq_true h1)
  have k:=of_decide_eq_true h3
  clear h3
  have e:=zk0 hq
  clear hq
  obtain⟨f,es,kw,pos⟩:=q
  dsimp only at e h2 k hf
  obtain rfl:=zbh.mp h2
  subst hf
  cases es with
  |nil=>exact nomatch k
  |cons a es=>
   obtain⟨k1,k⟩:=List.cons.inj k
   cases es with
   |nil=>exact nomatch k
   |cons b es=>
    obtain⟨k2,k⟩:=List.cons.inj k
    cases es with
    |nil=>exact nomatch k
    |cons c es=>
     obtain⟨k3,k⟩:=List.cons.inj k
     cases es with
     |cons _ _=>exact nomatch k
     |nil=>
      obtain⟨q0,rfl⟩:=zcs k1
      obtain⟨q1,rfl⟩:=zcs k2
      obtain⟨q2,rfl⟩:=zcs k3
      exact(fun J kJ=>kJ pf q0 q1 q2 pos e)
noncomputable def parB(a:Arguments):Bool:=a.posonlyargs.isEmpty&&(a.kwonlyargs.isEmpty&&(a.vararg.isNone&&(a.kwarg.isNone&&(a.defaults.isEmpty&&(a.kw_defaults.isEmpty&&decide (a.args.map (·.arg)=[oneN,zft]))))))
noncomputable def scoB(s:Scope):Bool:=decide (s.names=lamNames)&&(s.kind==.function&&(!s.isCoroutine&&!s.isGenerator))
theorem lamF_of{a:Arguments}{s:Scope}{pm ct:Value}(h1:parB a=true)(h2:scoB s=true)(h3:lamB kk b=true):LamF kk (lamFd qual a b s [(zgt,ca)] pm cv ct) zgt:=by
 revert h1;refine xA fun a1 h1=>?_
 revert h1;refine xA fun a2 h1=>?_
 revert h1;refine xA fun a3 h1=>?_
 revert h1;refine xA fun a4 h1=>?_
 revert h1;refine xA fun a5 h1=>?_
 revert h1;refine xA fun a6 a7=>?_
 have a7:=of_decide_eq_true a7
 revert h2;refine xA fun s1 h2=>?_
 have s1:=of_decide_eq_true s1
 revert h2;refine xA fun s2 h2=>?_
 revert h2;refine xA fun s3 s4=>?_
 refine(lamB_inv h3) _ fun pf q0 q1 q2 pos wk=>?_;subst wk
 refine⟨oneN,zft,q0,q1,q2,pf,pos,fun x y=>?_,rfl,?_,?_,?_,?_,?_,by decide +kernel,by decide +kernel,rfl,rfl,beq_iff_eq.mp s2,(zbm _).mp s3,(zbm _).mp s4⟩
 ·have:=zfd (fd:=lamFd qual a (.Call (.Name zhi pf) [.Name (pick oneN zft zgt (kk/9)) q0,.Name (pick oneN zft zgt (kk/3%3)) q1,.Name (pick oneN zft zgt (kk%3)) q2] [] pos) s [(zgt,ca)] pm cv ct) rfl rfl (zbh.mp a1) (zbh.mp a2) (zby.mp a3) (zby.mp a4) (by show(a.args.map (·.arg)).Nodup;rw[a7];decide +kernel) [x,y] (by show 2=(a.args.map (·.arg)).length;rw[a7];rfl)
  refine this.trans ?_
  show(pure ((a.args.map (·.arg)).zip [x,y]):Sem _)=_
  rw[a7];rfl
 ·show s.names.lookup _=_;rw[s1];decide +kernel
 ·show s.names.lookup _=_;rw[s1];decide +kernel
 ·show s.names.lookup _=_;rw[s1];decide +kernel
 ·show s.names.lookup _=_;rw[s1];decide +kernel
 ·show s.names.all _=_;rw[s1];decide +kernel
noncomputable def isFn:Option Gk->Bool
 |some .fn=>true
 |_=>false
theorem isFn_inv(h:isFn o=true):o=some .fn:=by
 cases o with
 |none=>injection h
 |some g=>cases g<;>first |rfl |injection h
noncomputable def lamK(T:Tab)(nm:List (Str×qaf))(kk:Nat)(q:Expr×List Expr×List Keyword×Pos)(f:Str)(e1 e2:Expr)(m:Arguments×Expr×Scope×Pos):Bool:=
 q.2.2.1.isEmpty&&(zgu nm f&&(isFn (T.g.lookup f)&&(zct e1&&(zct e2&&(nm.lookup zgt==some .cell&&(parB m.1&&(scoB m.2.2.1&&lamB kk m.2.1)))))))
noncomputable def lamR(T:Tab)(n:Nat)(nm:List (Str×qaf))(wu:Res)(nx kk:Nat)(st:Stmt):Option (St×Nat×Nat):=
 (retOf st).bind fun r=>(zn4 r.1).bind fun q=>(zea q.1).bind fun f=>match q.2.1 with
  |[e1,e2,l]=>(lamOf l).bind fun m=>(eE T n nm wu nx e1).bind fun x1=>(eE T n nm wu nx e2).bind fun x2=>(wu.lookup zgt).bind fun i=>
   if lamK T nm kk q f e1 e2 m=true then some (.ret (.callL f [x1,x2] kk i),m.2.2.2.line,m.2.2.2.col) else none
  |_=>none
def TabEnv(c:Cx)(wz:Env)(lc:Nat×Nat):Prop:=∀GJ:Prop,(∀(x:Addr×(Nat×Nat)×Str),∀(cc:Addr),x∈c.tabs->(∀y∈c.tabs,y.1=x.1->y=x)->(c.h0.get? x.1=none)->CdHd c.h0 cc x.1->(wz.code=.ref cc)->(x.2.1=lc)->(x.2.2=wz.qual++"<lambda>")->GJ)->GJ
set_option tactic.hygienic true in
theorem zru{nm:List (Str×qaf)}{y:St×Nat×Nat}(O:c.Ok)(TO:TabOk c T)(BM:BMain c)(LO:∀kk fd nm,LamF kk fd nm->c.lam kk fd nm)(hX:EnvX allY wz X)(hnm:wz.scope.names=nm)(hef:wz.scope.kind=.function)
  (TE:TabEnv c wz y.2) (h:lamR T n nm wu nx kk st=some y):zdm c wz wu X st y.1:=by
 obtain⟨⟨e,pr⟩,hr,h'⟩:=zcb.mp h
 clear h
 obtain⟨⟨f,es,kw,pos⟩,hc,h''⟩:=zcb.mp h'
 clear h'
 revert h'';refine xB fun fn hf h=>?_
 skip
 obtain rfl:=zwb hr
 obtain rfl:=zk0 hc
 obtain⟨pf,rfl⟩:=zcs hf
 dsimp only at h
 split at h
 ·rename_i e1 e2 l
  revert h;refine xB fun m hm h=>?_
  revert h;refine xB fun x1 h1 h=>?_
  revert h;refine xB fun x2 h2 h=>?_
  revert h;refine xB fun i hi h=>?_
  revert h;refine xS fun hk wj=>?_;subst wj
  obtain rfl:=zwf hm
  revert hk;refine xA fun k1 hk=>?_
  revert hk;refine xA fun k2 hk=>?_
  revert hk;refine xA fun k3 hk=>?_
  revert hk;refine xA fun k4 hk=>?_
  revert hk;refine xA fun k5 hk=>?_
  revert hk;refine xA fun k6 hk=>?_
  revert hk;refine xA fun k7 hk=>?_
  revert hk;refine xA fun k8 k9=>?_
  obtain rfl:kw=[]:=zbh.mp k1
  obtain⟨g1,g2⟩:=zge hnm k2
  refine(TO.fn _ (isFn_inv k3)) _ fun a o fd f1 f2 f3=>?_
  refine TE _ fun x cc t1 t2 t3 t4 t5 t6 t7=>?_;clear TE
  obtain⟨a5,a6⟩:m.1.defaults=[]/\m.1.kw_defaults=[]:=by
   revert k7;refine xA fun J h=>?_
   revert h;refine xA fun J h=>?_
   revert h;refine xA fun J h=>?_
   revert h;refine xA fun J h=>?_
   revert h;refine xA fun a5 h=>?_
   exact⟨zbh.mp a5,zbh.mp (zbc.mp h).1⟩
  exact znd hX (zpf O BM g1 f1 f2 f3 g2 k4 k5 (zdd O TO n h1 hnm hef).1 (zdd O TO n h2 hnm hef).1 t1 t2 t3 t4 t5 t6 t7 a5 a6 (of_decide_eq_true (zbc.mp k8).1) (by show wz.scope.names.lookup zgt=_;rw[hnm];exact beq_iff_eq.mp k6) hi fun ca pm cv ct=>LO _ _ _ (lamF_of k7 k8 k9))
 ·injection h
noncomputable def eFunL(T:Tab)(n r kk:Nat)(e:qa9):Option (List St×Nat×Nat):=
 if funOk e r=true then match e.body with
  |[s1,st]=>(eS T n e.scope.names (zga e.scope.names r) (slots e.scope.names).length s1).bind fun y1=>(lamR T n e.scope.names (zga e.scope.names r) (slots e.scope.names).length kk st).map fun y=>([y1,y.1],y.2)
  |_=>none
 else none
inductive DefTab(c:Cx)(e:qa9)(lc:Nat×Nat):Prop
 |mk (a cc:Addr)(o:Obj)(pm doc:Value)(x:Addr×(Nat×Nat)×Str)(g1:c.g e.name=some (.ref a))(g2:c.h0.get? a=some o)(g3:o.data=.func (Calls.docDef e.name e.params e.body e.scope pm (.ref cc) doc))(g4:c.h0.CodeRec (.ref cc) e.name)
   (hm:x∈c.tabs) (hone:∀y∈c.tabs,y.1=x.1->y=x) (h0:c.h0.get? x.1=none) (CH:CdHd c.h0 cc x.1) (hl:x.2.1=lc) (hq:x.2.2=e.name++".<locals>."++"<lambda>"):DefTab c e lc
set_option tactic.hygienic true in
theorem zsg(O:c.Ok)(TO:TabOk c T)(BM:BMain c)(LO:∀kk fd nm,LamF kk fd nm->c.lam kk fd nm){e:qa9}(hat:DefTab c e y.2)(he:eFunL T fuel r kk e=some y)(wq:vs.length=e.params.args.length)
  (hw:wpSs (Calls c) q d none y.1 (EndQ Q) (EndX E) (vs.map some++List.replicate ((slots e.scope.names).length+r-vs.length) none) H):Calls c q (d+1) e.name vs none Q E H:=by
 revert he;refine xO fun hok he=>?_
 have P:=znq hok
 obtain⟨a,cc,o,pm,doc,x,g1,g2,g3,g4,t1,t2,t3,t4,t5,t6⟩:=hat
 have K:FunOk c e.name a o (Calls.docDef e.name e.params e.body e.scope pm (.ref cc) doc) e.body (e.params.args.map (·.arg)) (e.params.args.map (·.arg)) (zga e.scope.names r):=by
  refine⟨g1,g2,g3,g4,rfl,rfl,rfl,rfl,P.p6,P.p7,P.p8,fun vals hl=>zfd rfl rfl P.p1 P.p2 P.p3 P.p4 P.p5 vals hl,rfl,fun x i hx=>?_,fun L=>(zeo P.p10 rfl P.p12).1,?_⟩
  ·exact(zb1.mp (zaz.mp P.p11 x (List.of_mem_zip (qav (show List.lookup x _=some i from hx))).1)).imp beq_iff_eq.mp beq_iff_eq.mp
  ·have:=(zeo (wz:=qaq (Calls.docDef e.name e.params e.body e.scope pm (.ref cc) doc) 0 a) P.p10 rfl P.p12).2
   rw[Nat.zero_add] at this;exact this
 refine zqx O K (xs:=y.1) (fun L hX=>?_) (by rw[wq,zab]) hw
 split at he
 ·rename_i s1 st hb
  revert he;refine xB fun y1 h1 he=>?_
  revert he;refine xM fun y2 h2 wj=>?_;subst wj
  rw[hb]
  exact zgn (zi2 O TO hX P.p10 rfl P.p6 fuel h1) (zgn (zru O TO BM LO hX rfl P.p6 (fun J kJ=>kJ x cc t1 t2 t3 t4 rfl t5 t6) h2) zj5)
 ·injection he
end
variable {E:SX}{Q:SPost}{X:List Nat}{b:Nat}{e:Ex}{o:Obj}{ps:Array Value}{q:Str}{r:List (List (Nat×Nat))}{y:List (Nat×Nat)}
section
open PySem PyProof.Rows
set_option maxRecDepth 100000
def OwnI(h:Heap)(name:Str)(bm:List Value)(ini:Bool):Prop:=∀GJ:Prop,(∀(C:Addr),∀(i:Option Value),(h.nsMap qan name=some (.ref C))->ClsAt h C bm i->(ini=true->i=none)->GJ)->GJ
theorem zso{l:List α}(h:l.length=n+1):∃a r,l=a::r/\r.length=n:=by
 cases l with
 |nil=>exact nomatch h
 |cons a r=>exact⟨a,r,rfl,Nat.succ.inj h⟩
def Six(s:Array (Option Value))(v:Option Value):Prop:=∀GJ:Prop,(∀(a b c d f:Option Value),(s = #[a,b,c,d,v,f])->GJ)->GJ
theorem six(hz:s.size=6)(h4:s[4]?=some v):Six s v:=by
 obtain⟨l⟩:=s
 obtain⟨a,l1,rfl,h1⟩:=zso (show l.length=5+1 from hz)
 obtain⟨b,l2,rfl,h2⟩:=zso h1
 obtain⟨c,l3,rfl,h3⟩:=zso h2
 obtain⟨d,l5,rfl,h5⟩:=zso h3
 obtain⟨e,l6,rfl,h6⟩:=zso h5
 obtain⟨f,l7,rfl,h7⟩:=zso h6
 obtain rfl:=zbr.mp h7
 obtain rfl:=zaa (show some e=some v from h4)
 exact(fun J kJ=>kJ a b c d f rfl)
def ObjI(o:Obj)(C N:Addr)(bm:List Value):Prop:=∀GJ:Prop,(∀(nm q:Str),∀(bs:List Value),∀(sn:List Str),∀(sub:List Value),∀(ab:Bool),∀(col:Option Bool),∀(dd:Option Addr),∀(k0 k1 k2 k3 k5:Option Value),(o=qb4 nm q C N bs bm true sn sub ab col dd k0 k1 k2 k3 k5 "ValueError.__new__")->GJ)->GJ
theorem objI{cd:ClassData}(h1:o.cls=.type "type")(h2:cd.mro=.ref C::bm)(h3:cd.hasDel=false)(h5:cd.hasDict=true)(hd:o.data=.cls cd)(hz:o.slots.size=6)(h4:o.slots[4]?=some (some (.builtin "ValueError.__new__"))):ObjI o C cd.ns bm:=by
 refine(six hz h4) _ fun a b c d f hs=>?_
 obtain⟨oc,odict,odata,slots⟩:=o
 obtain⟨nm,bs,mro,ns,q,hdct,sn,sub,ab,col,hdel⟩:=cd
 obtain rfl:oc=_:=h1
 obtain rfl:mro=_:=h2
 obtain rfl:hdel=_:=h3
 obtain rfl:hdct=_:=h5
 obtain rfl:odata=_:=hd
 obtain rfl:slots=_:=hs
 exact(fun J kJ=>kJ nm q bs sn sub ab col odict a b c d f rfl)
theorem own_of{ini:Bool}(x:ownB h name bm ini=true):OwnI h name bm ini:=by
 unfold ownB at x
 refine xC (h.clsAt qan name) (fun hf=>?_) fun y hf=>?_
 ·rw[hf] at x;injection x
 ·obtain⟨C,o,cd⟩:=y
  rw[hf] at x
  obtain⟨hn,ho,hd⟩:=Heap.clsAt_spec hf
  revert x;refine xA fun x1 x=>?_
  revert x;refine xA fun x2 x=>?_
  revert x;refine xA fun x3 x=>?_
  revert x;refine xA fun xd x=>?_
  revert x;refine xA fun x4 x=>?_
  revert x;refine xA fun x5 x=>?_
  revert x;refine xA fun x6 x=>?_
  revert x;refine xA fun x7 x8=>?_
  refine(objI (of_decide_eq_true x1) (of_decide_eq_true x2) ((zbm _).mp x3) xd hd (of_decide_eq_true x4) (of_decide_eq_true x5)) _ fun nm q bs sn sub ab col dd k0 k1 k2 k3 k5 e=>?_
  rw[e] at ho
  exact(fun J kJ=>kJ C (h.nsMap cd.ns "__init__") hn ⟨nm,q,cd.ns,bs,sn,sub,ab,col,dd,k0,k1,k2,k3,k5,h.nsMap cd.ns,ho,Heap.Ns.of_isNs x6,fun n hn=>zby.mp (zaz.mp x7 n hn),rfl⟩ (fun hi=>by
   rw[hi] at x8
   exact zby.mp x8))
inductive ExcH(h:Heap):Prop
 |mk (m:Str->Option Value)(hm:h.Ns qan m)(NE:Addr)(hn:m (qab "NetError")=some (.ref NE))(net:ClsAt h NE vbm none)(kid:∀cn∈kids,∃C ini,m cn=some (.ref C)/\C≠NE/\ClsAt h C (.ref NE::vbm) ini/\(cn≠qab "BadNet"->ini=none))
   (inj:∀cn∈kids,∀dn∈kids,m cn=m dn->cn=dn):ExcH h
theorem ExcH.keeps(X:ExcH h)(hk:∀b o,h.get? b=some o->h'.get? b=some o):ExcH h':=by
 obtain⟨m,hm,NE,hn,net,kid,inj⟩:=X
 refine⟨m,hm.keeps hk,NE,hn,net.keeps hk,fun cn hc=>?_,inj⟩
 obtain⟨C,ini,h1,h2,h3,h4⟩:=kid cn hc
 exact⟨C,ini,h1,h2,h3.keeps hk,h4⟩
theorem zik[DecidableEq β]{f:α->β}:∀{l:List α},ziy (l.map f)=true->∀a∈l,∀b∈l,f a=f b->a=b
 |[],_,_,ha,_,_,_=>nomatch ha
 |x::r,h,a,ha,b,hb,e=>by
  revert h;refine xA fun h1 h2=>?_
  have h1:=of_decide_eq_true h1
  rcases zah.mp ha with ea |ha'
  ·rcases zah.mp hb with eb |hb'
   ·rw[ea,eb]
   ·exact absurd (za6.mpr ⟨b,hb',e.symm.trans (by rw[ea])⟩) h1
  ·rcases zah.mp hb with eb |hb'
   ·exact absurd (za6.mpr ⟨a,ha',e.trans (by rw[eb])⟩) h1
   ·exact zik h2 a ha' b hb' e
theorem exc_of(x:excB h=true):ExcH h:=by
 revert x;refine xA fun x0 x=>?_
 refine xC (refOf (h.nsMap qan (qab "NetError"))) (fun hr=>?_) fun NE hr=>?_
 ·rw[hr] at x;injection x
 ·rw[hr] at x
  revert x;refine xA fun x1 x=>?_
  revert x;refine xA fun x2 x3=>?_
  refine xA (fun x4 x5=>?_) (show(decide _&&ziy _)=true from x3)
  refine(own_of x1) _ fun C i h1 h2 h3=>?_
  rw[h1] at hr
  obtain rfl:=zaa hr
  obtain rfl:=h3 rfl
  have k:∀cn∈kids,∃D ini,h.nsMap qan cn=some (.ref D)/\D≠C/\ClsAt h D (.ref C::vbm) ini/\(cn≠qab "BadNet"->ini=none):=fun cn hc=>by
   refine(own_of (zaz.mp x2 cn hc)) _ fun D i g1 g2 g3=>?_
   refine⟨D,i,g1,fun q=>of_decide_eq_true x4 (za6.mpr ⟨cn,hc,?_⟩),g2,fun q=>g3 (decide_eq_true q)⟩
   rw[g1,q];rfl
  exact⟨_,Heap.Ns.of_isNs x0,C,h1,h2,k,fun cn hc dn hd q=>zik x5 cn hc dn hd (by show(h.nsMap qan cn).getD .none=_;rw[q])⟩
theorem ns_one(x:h.Ns a m)(y:h.Ns a m'):m=m':=by
 obtain⟨o,es,ep,h1,h2,_,h3⟩:=x
 obtain⟨o',es',ep',g1,g2,_,g3⟩:=y
 obtain rfl:=zaa (h1.symm.trans g1)
 rw[h2] at g2
 (injection g2 with Ja Jb;subst Jb;subst Ja)
 funext n
 rw[<- h3,<-g3]
theorem exc_ok(X:ExcH c.h0)(hg:c.h0.Ns qan c.g)(ve:c.g (qab "ValueError")=none/\c.b (qab "ValueError")=some (.type "ValueError")):ExcOk c:=by
 obtain⟨m,hm,NE,hn,net,kid,inj⟩:=X
 obtain rfl:=ns_one hm hg
 exact⟨NE,hn,net,kid,inj,ve⟩
end
variable {C:CallT}{m m' s:Nat}
section
open PySem PySem.W PySem.Calls PyProof.Rows
set_option maxRecDepth 100000
theorem zt0(x:strIs q v=true):∃t,v=some (.str q t):=by
 cases v with
 |none=>injection x
 |some v=>
  cases v with
  |str y t=>obtain rfl:y=q:=of_decide_eq_true x;exact⟨t,rfl⟩
  |_=>injection x
theorem code_of(x:codeB h cd q=true):h.CodeRec cd q:=by
 cases cd with
 |ref c=>
  replace x:((h.get? c).map (fldB q)).getD false=true:=x
  refine xC (h.get? c) (fun ho=>?_) fun o ho=>?_
  ·rw[ho] at x;injection x
  ·rw[ho] at x
   replace x:fldB q o=true:=x
   unfold fldB at x
   cases hd:o.data with
   |fields vs=>
    rw[hd] at x
    obtain⟨t,ht⟩:=zt0 x
    exact⟨c,o,vs,t,rfl,ho,hd,ht⟩
   |_=>rw[hd] at x;injection x
 |_=>injection x
theorem zvf{v:Value}(x:isNoV v=true):v=.none:=by
 cases v with
 |none=>rfl
 |_=>injection x
theorem zwv{b:FuncBody}(ho:h.get? f=some o)(x:fnOf h o=some b)(hb:some b=zg9 p)(hl:zs2 p=true):∃fd,InitFn h f o fd:=by
 unfold fnOf at x
 cases hd:o.data with
 |func fd=>
  rw[hd] at x
  refine xS (fun z wj=>?_) (show(if fdB h o fd=true then some fd.body else none)=some b from x);subst wj
  clear x
  revert z;refine xA fun x1 x=>?_
  skip
  revert x;refine xA fun x2 x=>?_
  revert x;refine xA fun x3 x=>?_
  revert x;refine xA fun x4 x=>?_
  revert x;refine xA fun x5 x=>?_
  revert x;refine xA fun x6 x=>?_
  revert x;refine xA fun x7 x=>?_
  revert x;refine xA fun x8 x=>?_
  revert x;refine xA fun x9 x=>?_
  revert x;refine xA fun x10 x11=>?_
  obtain⟨y1,y2,y3,y4,y5,y6⟩:=of_decide_eq_true x4
  have ha:=of_decide_eq_true x11
  refine⟨fd,ho,of_decide_eq_true x1,hd,code_of x2,?_,of_decide_eq_true x3,y1,y2,y3,y4,y5,y6,fun a b=>?_⟩
  ·unfold zg9 at hb
   unfold zs2 at hl
   refine xC (zlz (zmu p)) (fun hq=>?_) fun q hq=>?_
   ·rw[hq] at hb;injection hb
   ·rw[hq] at hb hl
    exact⟨_,_,_,_,_,_,_,_,_,_,_,zaa hb,hl⟩
  ·have:=zfd (fd:=fd) (zvf x5) (zvf x6) (zbh.mp x7) (zbh.mp x8) (zby.mp x9) (zby.mp x10) (by rw[ha];decide) [a,b] (by rw[ha];rfl)
   rw[ha] at this
   exact this
 |_=>rw[hd] at x;injection x
inductive NetH(h:Heap):Prop
 |mk (m:Str->Option Value)(hm:h.Ns qan m)(NE C fI:Addr)(oI:Obj)(fd:qbe)(hn:m (qab "NetError")=some (.ref NE))(hg:m (qab "BadNet")=some (.ref C))(own:ClsAt h C (.ref NE::vbm) (some (.ref fI)))(net:ClsAt h NE vbm none)
   (I:InitFn h fI oI fd) (hst:∃mc,h.Ns cStatics mc/\mc "thirdparty.any"=none):NetH h
theorem NetH.keeps(X:NetH h)(hk:∀b o,h.get? b=some o->h'.get? b=some o):NetH h':=by
 obtain⟨m,hm,NE,C,fI,oI,fd,hn,hg,own,net,I,mc,h1,h2⟩:=X
 exact⟨m,hm.keeps hk,NE,C,fI,oI,fd,hn,hg,own.keeps hk,net.keeps hk,{ I with ho:=hk _ _ I.ho,code:=I.code.keeps hk },mc,h1.keeps hk,h2⟩
theorem net_ok(X:NetH c.h0)(hg:c.h0.Ns qan c.g):NetOk c:=by
 obtain⟨m,hm,NE,C,fI,oI,fd,hn,hg',own,net,I,hst⟩:=X
 obtain rfl:=ns_one hm hg
 exact⟨NE,C,fI,oI,fd,hn,hg',own,net,I,hst⟩
theorem zuy(h:refOf v=some a):v=some (.ref a):=by
 cases v with
 |none=>injection h
 |some v=>
  cases v with
  |ref b=>obtain rfl:=zaa h;rfl
  |_=>injection h
theorem net_of(X:ExcH h)(hb:netB h=zg9 p)(hl:zs2 p=true):NetH h:=by
 have hs:∃b,zg9 p=some b:=by
  unfold zs2 at hl
  unfold zg9
  refine xC (zlz (zmu p)) (fun hq=>?_) fun q hq=>?_
  ·rw[hq] at hl;injection hl
  ·exact⟨_,rfl⟩
 obtain⟨b,hb'⟩:=hs
 rw[hb'] at hb
 unfold netB at hb
 refine xC (h.clsAt qan (qab "BadNet")) (fun hc=>?_) fun y hc=>?_
 ·rw[hc] at hb;injection hb
 ·obtain⟨C,o,cd⟩:=y
  rw[hc] at hb
  obtain⟨hn,ho,hd⟩:=Heap.clsAt_spec hc
  revert hb;refine xB fun f h1 hb=>?_
  revert hb;refine xB fun oI h2 hb=>?_
  revert hb;refine xO fun h3 h4=>?_
  obtain⟨fd,I⟩:=zwv h2 h4 hb'.symm hl
  obtain⟨m,hm,NE,hN,net,kid,inj⟩:=X
  obtain⟨C',ini,g1,g2,g3,g4⟩:=kid (qab "BadNet") (by decide)
  obtain rfl:C'=C:=by
   have e:=hm.eq_nsMap
   rw[e,hn] at g1
   (injection g1 with Ja;injection Ja with w4;subst w4);rfl
  obtain⟨nm,q,N,bs,sn,sub,ab,col,dd,k0,k1,k2,k3,k5,mN,hC,hNs,hq,hi⟩:=g3
  obtain rfl:=zaa (ho.symm.trans hC)
  obtain rfl:N=cd.ns:=by
   have e:=Data.cls.inj hd
   rw[<- e]
  have hi':mN "__init__"=some (.ref f):=by rw[hNs.eq_nsMap];exact zuy h1
  exact⟨m,hm,NE,C',f,oI,fd,hN,g1,⟨nm,q,_,bs,sn,sub,ab,col,dd,k0,k1,k2,k3,k5,mN,hC,hNs,hq,hi'⟩,net,I,_,Heap.Ns.of_isNs h3.1,h3.2⟩
noncomputable def zjw(p:qbi)(hl:zs2 p=true):W.Hook:=⟨Bool×Option FuncBody,fun s=>(excB s.heap,netB s.heap),fun J=>(true,zg9 p),fun J h=>ExcH h/\NetH h,fun J J h=>
 have X:=exc_of (qbv h).1
 ⟨X,net_of X (qbv h).2 hl⟩,fun J J J h hk=>⟨h.1.keeps hk,h.2.keeps hk⟩⟩
end
variable {a h v:Nat}{c:List Nat}{f:Nat->List (Nat×Nat)}{o:Option (Nat->Nat)}{p:Nat×Nat}{q:Bool}
abbrev Net:=List (List (Nat×Nat))
def zdj(n:Nat):Nat->List (Nat×Nat)->Prop
 |_,[]=>True
 |lo,(l,h)::r=>l<h/\h<n/\lo<=h/\zdj n (h+1) r
def zcl(n:Nat)(layer:List (Nat×Nat)):Prop:=layer≠[]/\zdj n 0 layer
def zg5(n:Nat)(net:Net):Prop:=net.length<=80/\∀layer∈net,zcl n layer
theorem zgf:∀{layer:List (Nat×Nat)} {lo:Nat},zdj n lo layer->layer≠[]->layer.length+lo<=n/\(0<lo\/layer.length<n)
 |[],_,_,hn=>absurd rfl hn
 |(l,h)::r,lo,hr,_=>by
  obtain⟨h1,h2,h3,h4⟩:=hr
  by_cases hn:r=[]
  ·subst hn;simp only[zba,List.length_nil];exact ar3 [_,_,_,_] [] 0x310a528003080801840500c2008000294a000c20180610100308000 (Y6 (Y0 (Y0 J1 V0) V1) (Y7 (Y1 J0 V0) (Y1 J1 V1))) (Y1 V2 V3) (Y1 V3 V1) (Y0 V0 V3) h1 h2 h3
  ·have:=zgf h4 hn
   simp only[zba]
   exact ar3 [_,_,_,_,_] [] 0x310a528003080801840600c2008000294a000c20180610100308000 (Y6 (Y0 (Y0 (Y0 V0 J1) V1) V2) (Y7 (Y1 J0 V1) (Y1 (Y0 V0 J1) V2))) (Y1 V3 V4) (Y0 V1 V4) (Y0 (Y0 V0 (Y0 V4 J1)) V2) h1 h3 this.1
noncomputable def zlk (n:Nat) (lays:Net):Net:=lays++List.replicate (n-lays.length) []
noncomputable def zk5(lays:Net)(i:Nat)(p:Nat×Nat):Net:=(zlk (i+1) lays).set i ((zlk (i+1) lays).getD i []++[p])
noncomputable def g0(xs:List Nat)(i:Nat):Nat:=xs.getD i 0
noncomputable def zdk(done read:List Nat)(l h:Nat):Nat:=max (max (g0 done l) (g0 done h)) (g0 read h)
variable {lays:Net}
noncomputable def zcy{α:Type}(f:α->α->α)(layer:List (Nat×Nat))(σ:Nat->α):Nat->α:=fun x=>match layer.find? (fun p=>p.2==x) with
 |some p=>f (σ p.1) (σ x)
 |none=>σ x
noncomputable def runN{α:Type}(f:α->α->α):List (List (Nat×Nat))->(Nat->α)->Nat->α
 |[],σ=>σ
 |layer::r,σ=>runN f r (zcy f layer σ)
noncomputable def zxa{α:Type}(f:α->α->α)(l h:Nat)(σ:Nat->α):Nat->α:=fun x=>if x=h then f (σ l) (σ h) else σ x
noncomputable def run1{α:Type}(f:α->α->α):List (Nat×Nat)->(Nat->α)->Nat->α
 |[],σ=>σ
 |p::r,σ=>run1 f r (zxa f p.1 p.2 σ)
section
variable {f:α->α->α}
theorem zit{σ:Nat->α}:runN f [] σ=σ:=rfl
theorem zdn{σ:Nat->α}:runN f (y::r) σ=runN f r (zcy f y σ):=rfl
theorem zty{r:List (Nat×Nat)}{σ:Nat->α}:run1 f (p::r) σ=run1 f r (zxa f p.1 p.2 σ):=rfl
theorem zes:∀(a b:List (List (Nat×Nat)))(σ:Nat->α),runN f (a++b) σ=runN f b (runN f a σ)
 |[],_,_=>rfl
 |_::a,b,_=>zes a b _
theorem zkb:∀(a b:List (Nat×Nat))(σ:Nat->α),run1 f (a++b) σ=run1 f b (run1 f a σ)
 |[],_,_=>rfl
 |_::a,b,_=>zkb a b _
theorem zi7{σ:Nat->α}(h:∀p∈layer,p.2≠x):zcy f layer σ x=σ x:=by
 unfold zcy
 have:layer.find? (fun p=>p.2==x)=none:=by
  rw[List.find?_eq_none]
  intro p hp
  simpa using h p hp
 rw[this]
theorem zi6:∀{net:List (List (Nat×Nat))} {σ:Nat->α} {x:Nat},(∀layer∈net,∀p∈layer,p.2≠x)->runN f net σ x=σ x
 |[],_,_,_=>rfl
 |layer::r,σ,x,h=>by
  simp only[zit,zdn]
  rw[zi6 fun l hl=>h l (zag _ hl),zi7 (h layer zad)]
theorem zpv {σ τ:Nat->α} (ha:∀x,x≠h->σ x=τ x) (hr:∀p∈layer,p.1≠h/\p.2≠h):∀x,x≠h->zcy f layer σ x=zcy f layer τ x:=by
 intro x hx
 unfold zcy
 cases hf:layer.find? (fun p=>p.2==x) with
 |none=>exact ha x hx
 |some p=>
  have hp:=zb7 hf
  simp only
  rw[ha p.1 (hr p hp).1,ha x hx]
theorem zk2:∀{net:List (List (Nat×Nat))} {σ τ:Nat->α} {h:Nat},(∀x,x≠h->σ x=τ x)->(∀layer∈net,∀p∈layer,p.1≠h/\p.2≠h)->∀x,x≠h->runN f net σ x=runN f net τ x
 |[],_,_,_,ha,_=>ha
 |layer::r,σ,τ,h,ha,hr=>by
  simp only[zit,zdn]
  exact zk2 (net:=r) (zpv ha (hr layer zad)) fun l hl=>hr l (zag _ hl)
theorem ztg {pre post:List (List (Nat×Nat))} {layer':List (Nat×Nat)} (hperm:∀p,p∈layer'↔p=(l,h)\/p∈layer) (hnd:∀p∈layer,∀q∈layer,p.2=q.2->p=q)
  (h1:∀p∈layer,p.2≠h/\p.2≠l) (h2:∀lay∈post,∀p∈lay,p.1≠h/\p.2≠h/\p.2≠l) (hlh:l≠h) (σ:Nat->α) :
  runN f (pre++layer'::post) σ=zxa f l h (runN f (pre++layer::post) σ):=by
 rw[zes,zes]
 generalize runN f pre σ=τ
 simp only[zit,zdn]
 have find_eq:∀x,x≠h->(layer'.find? (fun p=>p.2==x))=layer.find? (fun p=>p.2==x):=by
  intro x hx
  cases hf:layer.find? (fun p=>p.2==x) with
  |none=>
   rw[List.find?_eq_none] at hf ⊢
   intro p hp
   rcases(hperm p).mp hp with rfl |hp
   ·simpa using qax hx
   ·exact hf p hp
  |some p=>
   have hp:=zb7 hf
   have hpx:p.2=x:=by have:=List.find?_some hf;simpa using this
   cases hf':layer'.find? (fun p=>p.2==x) with
   |none=>
    rw[List.find?_eq_none] at hf'
    exact absurd (by simpa using hpx) (hf' p ((hperm p).mpr (.inr hp)))
   |some p'=>
    have hp':=zb7 hf'
    have hpx':p'.2=x:=by have:=List.find?_some hf';simpa using this
    rcases(hperm p').mp hp' with rfl |hp'
    ·exact absurd hpx' (qax hx)
    ·rw[hnd p hp p' hp' (hpx.trans hpx'.symm)]
 have agree:∀x,x≠h->zcy f layer' τ x=zcy f layer τ x:=by
  intro x hx
  unfold zcy
  rw[find_eq x hx]
 have athigh:zcy f layer' τ h=f (τ l) (τ h):=by
  unfold zcy
  cases hf:layer'.find? (fun p=>p.2==h) with
  |none=>
   rw[List.find?_eq_none] at hf
   exact absurd (by simp) (hf (l,h) ((hperm _).mpr (.inl rfl)))
  |some p=>
   have hp:=zb7 hf
   have hpx:p.2=h:=by have:=List.find?_some hf;simpa using this
   rcases(hperm p).mp hp with rfl |hp
   ·rfl
   ·exact absurd hpx (h1 p hp).1
 funext x
 unfold zxa
 by_cases hx:x=h
 ·subst hx
  rw[if_pos rfl,zi6 (fun lay hl p hp=>(h2 lay hl p hp).2.1),athigh]
  rw[zi6 (fun lay hl p hp=>(h2 lay hl p hp).2.2),zi6 (fun lay hl p hp=>(h2 lay hl p hp).2.1)]
  rw[zi7 (fun p hp=>(h1 p hp).2),zi7 (fun p hp=>(h1 p hp).1)]
 ·rw[if_neg hx]
  exact zk2 agree (fun lay hl p hp=>⟨(h2 lay hl p hp).1,(h2 lay hl p hp).2.1⟩) x hx
end
variable {r:List Nat}
theorem lt900(h:a<=s+k)(hs:s<=800)(hk:k<=64):a<900:=za3 (zac h (Nat.add_le_add hs hk)) (by decide)
theorem ltA2(ha:a<=80)(hb:b<=80):a+b<10000:=za3 (Nat.add_le_add ha hb) (by decide)
theorem ltA3(ha:a<=80)(hb:b<=80):a+1+b<10000:=za3 (Nat.add_le_add (Nat.succ_le_succ ha) hb) (by decide)
theorem mid_len(h:i+1<n):n-1=min i n+(n-(i+2)+1):=by
 obtain⟨k,rfl⟩:=Nat.exists_eq_add_of_le' (show i+2<=n from h)
 rw[Nat.min_eq_left (zac (zbi i 2) (Nat.le_add_left ..)),Nat.add_sub_cancel]
 exact Nat.add_left_comm k i 1
theorem zrb{x y:Int}(h:0<y):∃n:Nat,x%y=(n:Int):=⟨_,(Int.toNat_of_nonneg (Int.emod_nonneg _ (Int.ne_of_gt h))).symm⟩
theorem pos1:(0:Int)<1+(k:Int):=Int.add_pos_of_pos_of_nonneg (by decide) (zbl k)
structure PS where
 lays:Net
 done:List Nat
 read:List Nat
noncomputable def PS.put(s:PS)(p:Nat×Nat):PS:=
 ⟨zk5 s.lays (zdk s.done s.read p.1 p.2) p,s.done.set p.2 (zdk s.done s.read p.1 p.2+1),s.read.set p.1 (max (g0 s.read p.1) (zdk s.done s.read p.1 p.2))⟩
noncomputable def PS.puts(s:PS)(js:List (Nat×Nat)):PS:=js.foldl PS.put s
noncomputable def PS.init(n:Nat):PS:=⟨[],List.replicate n 0,List.replicate n 0⟩
theorem PS.puts_append(s:PS)(a b:List (Nat×Nat)):s.puts (a++b)=(s.puts a).puts b:=List.foldl_append
theorem znc(h:i<=lays.length):zk5 lays i p=lays.take i++(lays.getD i []++[p])::lays.drop (i+1):=by
 unfold zk5
 by_cases hi:i<lays.length
 ·have e:zlk (i+1) lays=lays:=by unfold zlk;rw[Nat.sub_eq_zero_of_le hi,List.replicate_zero,za4]
  rw[e,zcc,if_pos hi]
 ·obtain rfl:=Nat.le_antisymm h (za7 hi)
  have e:zlk (lays.length+1) lays=lays++[[]]:=by unfold zlk;rw[Nat.add_sub_cancel_left];rfl
  rw[e,List.set_append_right _ _ (zae _)]
  simp[zao]
theorem zt5{f:α->α->α}{σ:Nat->α}:zcy f [] σ=σ:=rfl
theorem zwl{f:α->α->α}{σ:Nat->α}(h:i<=lays.length):runN f lays σ=runN f (lays.take i++lays.getD i []::lays.drop (i+1)) σ:=by
 by_cases hi:i<lays.length
 ·have:lays.take i++lays.getD i []::lays.drop (i+1)=lays:=by
   rw[zao,zai hi]
   simp
  rw[this]
 ·obtain rfl:=Nat.le_antisymm h (za7 hi)
  rw[zes,List.drop_eq_nil_of_le (Nat.le_succ _)]
  simp[zit,zdn,zt5,zao]
theorem zqj{xs:List Nat}(hi:i<xs.length):g0 (xs.set i v) x=if x=i then v else g0 xs x:=by
 unfold g0
 rw[zao,List.getElem?_set,zao]
 by_cases h:x=i
 ·subst h;simp[hi]
 ·rw[if_neg (qax h),if_neg h]
structure Laid(n:Nat)(s:PS)(js:List (Nat×Nat)):Prop where
 dl:s.done.length=n
 rl:s.read.length=n
 hi:∀i y,s.lays[i]?=some y->∀p∈y,i<g0 s.done p.2/\i<=g0 s.read p.1/\p.1<p.2/\p.2<n
 ne:∀y∈s.lays,y≠[]
 nd:∀y∈s.lays,(y.map (·.2)).Nodup
 dm:∀x,g0 s.done x<=s.lays.length/\g0 s.read x<=s.lays.length
 run:∀{α:Type} (f:α->α->α) (σ:Nat->α),runN f s.lays σ=run1 f js σ
theorem g0_zero(n x:Nat):g0 (List.replicate n 0) x=0:=by
 unfold g0;rw[zao,List.getElem?_replicate];split<;>rfl
theorem Laid.init(n:Nat):Laid n (PS.init n) [] where
 dl:=by simp[PS.init]
 rl:=by simp[PS.init]
 hi:=by simp[PS.init]
 ne:=by simp[PS.init]
 nd:=by simp[PS.init]
 dm:=by intro x;simp[PS.init,g0_zero]
 run:=by intros;rfl
theorem zoo(h:(y.map (·.2)).Nodup):∀p∈y,∀q∈y,p.2=q.2->p=q:=by
 induction y with
 |nil=>intro p hp;cases hp
 |cons a r ih=>
  simp only[za5,zbw,za6,not_exists,not_and] at h
  intro p hp q hq e
  rcases zah.mp hp with hp1 |hp1<;>rcases zah.mp hq with hq1 |hq1
  ·rw[hp1,hq1]
  ·exact absurd (e.symm.trans (by rw[hp1])) (h.1 q hq1)
  ·exact absurd (e.trans (by rw[hq1])) (h.1 p hp1)
  ·exact ih h.2 p hp1 q hq1 e
theorem Laid.at_le{s:PS}(L:Laid n s js)(l h:Nat):zdk s.done s.read l h<=s.lays.length:=Nat.max_le.mpr ⟨Nat.max_le.mpr ⟨(L.dm l).1,(L.dm h).1⟩,(L.dm h).2⟩
theorem zuh(h:k<=n):k+(n-(k+1)+1)=max n (k+1):=by
 rcases Nat.lt_or_ge k n with h' |h'
 ·exact((Nat.succ_add k _).symm.trans (Nat.add_sub_cancel' h')).trans (Nat.max_eq_left h').symm
 ·obtain rfl:=Nat.le_antisymm h h'
  rw[Nat.sub_eq_zero_of_le (Nat.le_succ k)]
  exact(Nat.max_eq_right (Nat.le_succ k)).symm
set_option tactic.hygienic true in
theorem Laid.put{s:PS}(L:Laid n s js)(hlh:l<h)(hn:h<n):Laid n (s.put (l,h)) (js++[(l,h)]):=by
 have hat:=L.at_le l h
 have e1:g0 s.done l<=zdk s.done s.read l h:=zac (Nat.le_max_left ..) (Nat.le_max_left ..)
 have e2:g0 s.done h<=zdk s.done s.read l h:=zac (Nat.le_max_right ..) (Nat.le_max_left ..)
 have e3:g0 s.read h<=zdk s.done s.read l h:=Nat.le_max_right ..
 generalize hk:zdk s.done s.read l h=k at hat e1 e2 e3
 have hput:s.put (l,h)=⟨s.lays.take k++(s.lays.getD k []++[(l,h)])::s.lays.drop (k+1),s.done.set h (k+1),s.read.set l (max (g0 s.read l) k)⟩:=by
  simp only[PS.put,hk,znc hat]
 rw[hput]
 have dl:=L.dl;have rl:=L.rl
 have hgd:∀x,g0 (s.done.set h (k+1)) x=if x=h then k+1 else g0 s.done x:=fun x=>zqj (dl▸hn)
 have hgr:∀x,g0 (s.read.set l (max (g0 s.read l) k)) x=if x=l then max (g0 s.read l) k else g0 s.read x:=fun x=>zqj (rl▸zau hlh hn)
 have wq:(s.lays.take k++(s.lays.getD k []++[(l,h)])::s.lays.drop (k+1)).length=max s.lays.length (k+1):=by rw[zak,zbe,zba,zbf,Nat.min_eq_left hat,zuh hat]
 have hlt:(s.lays.take k).length=k:=by rw[zbe,Nat.min_eq_left hat]
 have old:∀i y,s.lays[i]?=some y->∀p∈y,i<g0 (s.done.set h (k+1)) p.2/\i<=g0 (s.read.set l (max (g0 s.read l) k)) p.1/\p.1<p.2/\p.2<n:=by
  intro i y hy p hp
  obtain⟨a1,a2,a3,a4⟩:=L.hi i y hy p hp
  rw[hgd,hgr]
  refine⟨?_,?_,a3,a4⟩
  ·split
   ·rename_i e;rw[e] at a1;exact Nat.lt_succ_of_le (zac (zap a1) e2)
   ·exact a1
  ·split
   ·rename_i e;rw[e] at a2;exact zac a2 (Nat.le_max_left ..)
   ·exact a2
 have hgetk:∀p,p∈s.lays.getD k []->∃y,s.lays[k]?=some y/\p∈y:=by
  intro p hp
  rw[zao] at hp
  refine xC (s.lays[k]?) (fun hy=>?_) fun y hy=>?_
  ·rw[hy] at hp;cases hp
  ·rw[hy] at hp;exact⟨y,rfl,hp⟩
 have hidx:∀i,(s.lays.take k++(s.lays.getD k []++[(l,h)])::s.lays.drop (k+1))[i]?=if i=k then some (s.lays.getD k []++[(l,h)]) else s.lays[i]?:=by
  intro i
  rcases Nat.lt_trichotomy i k with hi |hi |hi
  ·rw[zbu (Nat.lt_of_lt_of_eq hi hlt.symm),List.getElem?_take,if_pos hi,if_neg (zar hi)]
  ·subst hi;rw[zbq (za8 hlt),hlt,Nat.sub_self,if_pos rfl];rfl
  ·rw[zbq (zac (za8 hlt) (zap hi)),if_neg (Nat.ne_of_gt hi),hlt]
   obtain⟨j,rfl⟩:=Nat.exists_eq_add_of_le (show k+1<=i from hi)
   rw[show k+1+j-k=j+1 by rw[Nat.add_assoc,Nat.add_sub_cancel_left,Nat.add_comm],List.getElem?_cons_succ,List.getElem?_drop]
 have hmem:∀y,y∈(s.lays.take k++(s.lays.getD k []++[(l,h)])::s.lays.drop (k+1))->y=s.lays.getD k []++[(l,h)]\/y∈s.lays:=by
  intro y hy
  rcases zaj.mp hy with hy |hy
  ·exact .inr (List.mem_of_mem_take hy)
  ·rcases zah.mp hy with hy |hy
   ·exact .inl hy
   ·exact .inr (List.mem_of_mem_drop hy)
 have hkh:∀p∈s.lays.getD k [],p.2≠h/\p.2≠l:=by
  intro p hp
  obtain⟨y,hy,hp⟩:=hgetk p hp
  obtain⟨a1,_⟩:=L.hi k y hy p hp
  constructor
  ·intro e;rw[e] at a1;exact zay _ (zat a1 e2)
  ·intro e;rw[e] at a1;exact zay _ (zat a1 e1)
 have hknd:((s.lays.getD k []).map (·.2)).Nodup:=by
  rw[zao]
  refine xC (s.lays[k]?) (fun hy=>?_) fun y hy=>?_
  ·exact zbx
  ·exact L.nd y (zam hy)
 exact{
  dl:=(zbg ..).trans dl
  rl:=(zbg ..).trans rl
  hi:=by
   intro i y hy p hp
   rw[hidx] at hy
   split at hy
   ·rename_i e;subst e
    (injection hy with Ja;subst Ja)
    rcases zaj.mp hp with hp |hp
    ·obtain⟨y,hy,hp⟩:=hgetk p hp
     exact old _ y hy p hp
    ·rw[zaf.mp hp,hgd,hgr,if_pos rfl,if_pos rfl]
     exact⟨Nat.lt_succ_self _,Nat.le_max_right ..,hlh,hn⟩
   ·exact old _ y hy p hp
  ne:=by
   intro y hy
   rcases hmem y hy with rfl |hy
   ·exact List.append_ne_nil_of_right_ne_nil _ (List.cons_ne_nil _ _)
   ·exact L.ne y hy
  nd:=by
   intro y hy
   rcases hmem y hy with rfl |hy
   ·rw[zan,zb3]
    refine⟨hknd,List.pairwise_singleton ..,?_⟩
    intro a ha b hb
    revert ha;refine xL fun p hp wj=>?_;subst wj
    rw[show b=h from zaf.mp hb]
    exact(hkh p hp).1
   ·exact L.nd y hy
  dm:=by
   intro x
   rw[wq,hgd,hgr]
   have d1:=L.dm x;have d2:=L.dm l
   constructor<;>split
   ·exact Nat.le_max_right ..
   ·exact zac d1.1 (Nat.le_max_left ..)
   ·exact Nat.max_le.mpr ⟨zac d2.2 (Nat.le_max_left ..),zac (Nat.le_succ k) (Nat.le_max_right ..)⟩
   ·exact zac d1.2 (Nat.le_max_left ..)
  run:=by
   intro α f σ
   rw[zkb,<-L.run f σ,zwl hat]
   refine ztg (l:=l) (h:=h) ?_ (zoo hknd) hkh ?_ (zar hlh) σ
   ·intro p;exact zaj.trans (Or.comm.trans (or_congr_left zaf))
   ·intro lay hlay p hp
    obtain⟨i,hi,e⟩:=zb6.mp hlay
    have hy:s.lays[k+1+i]?=some lay:=by
     rw[<- List.getElem?_drop,zai hi,e]
    obtain⟨a1,a2,a3,a4⟩:=L.hi _ lay hy p hp
    refine⟨?_,?_,?_⟩<;>intro e
    ·rw[e] at a2;exact Nat.not_succ_le_self k (zac (zbi ..) (zac a2 e3))
    ·rw[e] at a1;exact Nat.not_succ_le_self k (zac (zbi ..) (zac (zap a1) e2))
    ·rw[e] at a1;exact Nat.not_succ_le_self k (zac (zbi ..) (zac (zap a1) e1)) }
theorem Laid.puts:∀{ks:List (Nat×Nat)} {s:PS} {js:List (Nat×Nat)},Laid n s js->(∀p∈ks,p.1<p.2/\p.2<n)->Laid n (s.puts ks) (js++ks)
 |[],s,js,L,_=>by simpa[PS.puts] using L
 |(l,h)::r,s,js,L,hk=>by
  have hp:=hk (l,h) zad
  have:=Laid.puts (ks:=r) (L.put hp.1 hp.2) fun p hp=>hk p (zag _ hp)
  rw[zbb] at this
  exact this
def batch:List Nat->List Nat->List (Nat×Nat)->Prop
 |_,_,[]=>True
 |wr,rd,(l,h)::r=>l∉wr/\h∉wr/\h∉rd/\batch (h::wr) (l::rd) r
theorem zvx {s:PS} (L:Laid n s js) (l h:Nat):(s.put (l,h)).lays.length=max s.lays.length (zdk s.done s.read l h+1):=by
 simp only[PS.put,znc (L.at_le l h)]
 rw[zak,zbe,zba,zbf,Nat.min_eq_left (L.at_le l h),zuh (L.at_le l h)]
theorem zm1:∀{ks:List (Nat×Nat)} {s:PS} {js:List (Nat×Nat)} {wr rd:List Nat},Laid n s js->(∀p∈ks,p.1<p.2/\p.2<n)->batch wr rd ks ->
  (∀x,(x∉wr->g0 s.done x<=M)/\(x∉wr->x∉rd->g0 s.read x<=M))->s.lays.length<=M+1->(s.puts ks).lays.length<=M+1
 |[],s,js,wr,rd,L,_,_,_,hs=>hs
 |(l,h)::r,s,js,wr,rd,L,hk,hb,hx,hs=>by
  have hp:=hk (l,h) zad
  obtain⟨b1,b2,b3,b4⟩:=hb
  have x1:=(hx l).1 b1
  have x2:=(hx h).1 b2
  have x3:=(hx h).2 b2 b3
  have hat:zdk s.done s.read l h<=M:=Nat.max_le.mpr ⟨Nat.max_le.mpr ⟨x1,x2⟩,x3⟩
  refine zm1 (ks:=r) (L.put hp.1 hp.2) (fun p hp=>hk p (zag _ hp)) b4 ?_ ?_
  ·intro x
   show(_->g0 (s.done.set _ _) x<=M)/\(_->_->g0 (s.read.set _ _) x<=M)
   rw[zqj (L.dl▸hp.2),zqj (L.rl▸zau hp.1 hp.2)]
   constructor
   ·intro hw
    have:x≠h:=fun e=>hw (e▸zad)
    rw[if_neg this]
    exact(hx x).1 fun hw'=>hw (zag _ hw')
   ·intro hw hr
    have:x≠l:=fun e=>hr (e▸zad)
    rw[if_neg this]
    exact(hx x).2 (fun hw'=>hw (zag _ hw')) (fun hr'=>hr (zag _ hr'))
  ·rw[zvx L];exact Nat.max_le.mpr ⟨hs,Nat.succ_le_succ hat⟩
theorem Laid.batch {s:PS} (L:Laid n s js) (hk:∀p∈ks,p.1<p.2/\p.2<n) (hb:Bn.batch [] [] ks):(s.puts ks).lays.length<=s.lays.length+1:=
 zm1 L hk hb (fun x=>⟨fun J=>(L.dm x).1,fun J J=>(L.dm x).2⟩) (Nat.le_succ _)
variable {a b:List (Nat×Nat)}{s':PS}
noncomputable def upd(B:Nat->Nat)(h v:Nat):Nat->Nat:=fun x=>if x=h then v else B x
theorem zhs(e:x≠h):upd B h v x=B x:=if_neg e
theorem zvq:upd B h v h=v:=if_pos rfl
def zg4(B:Nat->Nat):List (Nat×Nat)->(Nat->Nat)->Prop
 |[],B'=>B=B'
 |(l,h)::r,B'=>l+1=B h/\zg4 (upd B h (B l)) r B'
theorem zg4.append:∀{a b:List (Nat×Nat)}{B B1 B2:Nat->Nat},zg4 B a B1->zg4 B1 b B2->zg4 B (a++b) B2
 |[],b,B,B1,B2,h1,h2=>by subst h1;exact h2
 |(l,h)::r,b,B,B1,B2,h1,h2=>⟨h1.1,h1.2.append h2⟩
noncomputable def ran(b x:Nat):List Nat:=List.range' b (x+1-b)
theorem zqr{b:Nat}(h1:b<=l)(h2:l<h):ran b l++ran (l+1) h=ran b h:=by
 unfold ran
 have e:l+1=b+1*(l+1-b):=by exact ar1 [_,_] [] 0x6194a000c2018061004050846100023410a5000610200308000000a50006101003080002842308001 (Y2 (Y0 V0 J1) (Y0 V1 (Y1 J1 (Y2 (Y0 V0 J1) V1)))) (Y0 V1 V0) h1
 rw[show List.range' (l+1) (h+1-(l+1))=List.range' (b+1*(l+1-b)) (h+1-(l+1)) by rw[<- e],List.range'_append]
 congr 1;exact ar3 [_,_,_] [] 0x61a08528003081201840000003294a50008102c03080e01840300c20080a108c20104a3080011840208d04294a000c2040061024030800000065294a000c205806101c0308060184010146100023080412842308041 (Y2 (Y0 (Y2 (Y0 V0 J1) V1) (Y2 (Y0 V2 J1) (Y0 V0 J1))) (Y2 (Y0 V2 J1) V1)) (Y0 V1 V0) (Y1 V0 V2) (Y2 (Y0 V0 J1) (Y0 V1 (Y1 J1 (Y2 (Y0 V0 J1) V1)))) h1 h2 e
theorem zf8:∀{js:List (Nat×Nat)} {B B':Nat->Nat},zg4 B js B'->(∀x,B x<=x)->(∀x,B' x<=x)/\run1 (·++·) js (fun x=>ran (B x) x)=fun x=>ran (B' x) x
 |[],B,B',h,hb=>by subst h;exact⟨hb,rfl⟩
 |(l,h)::r,B,B',hp,hb=>by
  obtain⟨h1,h2⟩:=hp
  have hlh:l<h:=by have:=hb h;exact ar2 [_,_,_] [] kab (Y1 V0 V1) (Y2 (Y0 V0 J1) V2) (Y0 V2 V1) h1 this
  have hb':∀x,upd B h (B l) x<=x:=by
   intro x;unfold upd;split
   ·have:=hb l;exact ar3 [_,_,_,_] [] 0xa5294001840000c200808100c0308040 (Y0 V0 V1) (Y1 V2 V3) (Y0 V0 V2) (Y2 V1 V3) hlh this (by assumption)
   ·exact hb x
  obtain⟨i1,i2⟩:=zf8 h2 hb'
  refine⟨i1,?_⟩
  rw[<- i2]
  simp only[zty]
  congr 1
  funext x
  unfold zxa
  by_cases e:x=h
  ·subst e;rw[if_pos rfl,zvq];show ran (B l) l++ran (B x) x=_;rw[<- h1,zqr (hb l) hlh]
  ·rw[if_neg e,zhs e]
theorem ziv:∀{js:List (Nat×Nat)} {B B':Nat->Nat},zg4 B js B'->(∀x,B x<=x)->∀p∈js,p.1<p.2
 |[],_,_,_,_,p,hp=>by cases hp
 |(l,h)::r,B,B',hp,hb,p,hm=>by
  obtain⟨h1,h2⟩:=hp
  have hlh:l<h:=by have:=hb h;exact ar2 [_,_,_] [] kab (Y1 V0 V1) (Y2 (Y0 V0 J1) V2) (Y0 V2 V1) h1 this
  rcases zah.mp hm with rfl |hm
  ·exact hlh
  ·refine ziv h2 ?_ p hm
   intro x;unfold upd;split
   ·have:=hb l;exact ar3 [_,_,_,_] [] 0xa5294001840000c200808100c0308040 (Y0 V0 V1) (Y1 V2 V3) (Y0 V0 V2) (Y2 V1 V3) hlh this (by assumption)
   ·exact hb x
def zln (B:Nat->Nat):Nat->List Nat->Prop
 |_,[]=>True
 |s,x::r=>B x=s/\s<=x/\zln B (x+1) r
theorem zln.ge:∀{xs:List Nat}{s:Nat},zln B s xs->∀x∈xs,s<=x
 |[],_,_,x,hx=>by cases hx
 |y::r,s,h,x,hx=>by
  rcases zah.mp hx with rfl |hx
  ·exact h.2.1
  ·have:=h.2.2.ge x hx;have:=h.2.1;exact ar2 [_,_,_] [] kaf (Y0 V0 V1) (Y0 V0 V2) (Y0 (Y0 V2 J1) V1) this (by assumption)
theorem zln.congr:∀{xs:List Nat}{s:Nat},zln B s xs->(∀x∈xs,B' x=B x)->zln B' s xs
 |[],_,_,_=>trivial
 |y::r,s,h,hx=>⟨(hx y zad).trans h.1,h.2.1,h.2.2.congr fun x hm=>hx x (zag _ hm)⟩
noncomputable def thin(cond:Nat->Bool):Nat->Nat->List Nat->List (Nat×Nat)×List (Nat×Nat)×List Nat
 |_,_,[]=>([],[],[])
 |_,_,[x]=>([],[],[x])
 |k,s,x::y::r=>if cond k then((x,y)::(thin cond (k+2) (y+1) r).1,(if s=0 then[] else[(s-1,x)])++(thin cond (k+2) (y+1) r).2.1,y::(thin cond (k+2) (y+1) r).2.2)
  else((thin cond (k+1) (x+1) (y::r)).1,(thin cond (k+1) (x+1) (y::r)).2.1,x::(thin cond (k+1) (x+1) (y::r)).2.2)
theorem thin_nil:thin cond k s []=([],[],[]):=rfl
theorem zma{y:Nat}:thin cond k s (x::y::r)=if cond k then((x,y)::(thin cond (k+2) (y+1) r).1,(if s=0 then[] else[(s-1,x)])++(thin cond (k+2) (y+1) r).2.1,y::(thin cond (k+2) (y+1) r).2.2)
  else((thin cond (k+1) (x+1) (y::r)).1,(thin cond (k+1) (x+1) (y::r)).2.1,x::(thin cond (k+1) (x+1) (y::r)).2.2):=rfl
structure ThinOk(B:Nat->Nat)(s:Nat)(rest:List Nat)(t:List (Nat×Nat)×List (Nat×Nat)×List Nat)(B1:Nat->Nat):Prop where
 plays:zg4 B t.1 B1
 same:∀x,x∉rest->B1 x=B x
 chain:zln B1 s t.2.2
 sub:∀x∈t.2.2,x∈rest
 mem:∀p∈t.1,p.1∈rest/\p.2∈rest
 lmem:∀p∈t.2.1,(p.1∈rest\/p.1+1=s)/\p.2∈rest
 batch:∀wr rd:List Nat,(∀z∈wr,z<s)->(∀z∈rd,z<s)->batch wr rd t.1
 len:t.2.2.length+t.1.length=rest.length/\t.2.1.length<=t.1.length
 fill:∀B2,(∀x∈t.2.2,B2 x=0)->(∀x∈rest,x∉t.2.2->B2 x=B1 x)->(s=0\/B2 (s-1)=0)->∃B3,zg4 B2 t.2.1.reverse B3/\(∀x∈rest,B3 x=0)/\∀x,x∉rest->B3 x=B2 x
theorem mem2{y z:Nat}(h:z∈x::y::r){P:Nat->Prop}(hx:P x)(hy:P y)(hr:∀z∈r,P z):P z:=za2.mpr ⟨hx,za2.mpr ⟨hy,hr⟩⟩ z h
theorem ThinOk.two{y:Nat}(c1:B x=s)(c2:s<=x)(c3:x+1=B y)(c4:x<y)(hr:∀z∈r,y<z)(T:ThinOk (upd B y (B x)) (y+1) r (a,b,c) B1) :
  ThinOk B s (x::y::r) ((x,y)::a,(if s=0 then[] else[(s-1,x)])++b,y::c) B1:=by
 have hyr:y∉r:=fun h=>zay _ (hr y h)
 have hxr:x∉r:=fun h=>Nat.lt_asymm c4 (hr x h)
 have hx1:B1 x=s:=(T.same x hxr).trans ((zhs (zar c4)).trans c1)
 exact{
  plays:=⟨c3,T.plays⟩
  same:=fun z hz=>(T.same z fun h=>hz (.tail _ (.tail _ h))).trans (zhs fun e=>hz (e▸.tail _ (.head _)))
  chain:=⟨(T.same y hyr).trans (zvq.trans c1),zac c2 (zap c4),T.chain⟩
  sub:=za2.mpr ⟨.tail _ (.head _),fun z hz=>.tail _ (.tail _ (T.sub z hz))⟩
  mem:=za2.mpr ⟨⟨.head _,.tail _ (.head _)⟩,fun p hp=>⟨.tail _ (.tail _ (T.mem p hp).1),.tail _ (.tail _ (T.mem p hp).2)⟩⟩
  lmem:=List.forall_mem_append.mpr ⟨fun p hp=>by
   by_cases hs:s=0
   ·rw[if_pos hs] at hp;cases hp
   ·rw[if_neg hs] at hp
    rw[zaf.mp hp]
    exact⟨.inr (Nat.sub_add_cancel (Nat.pos_of_ne_zero hs)),.head _⟩,fun p hp=>⟨.inl ((T.lmem p hp).1.elim (fun h=>.tail _ (.tail _ h)) fun h=>Nat.succ.inj h▸.tail _ (.head _)),.tail _ (.tail _ (T.lmem p hp).2)⟩⟩
  batch:=fun wr rd hw hrd=>⟨fun h=>za9.mpr c2 (hw _ h),fun h=>za9.mpr (zac c2 (zap c4)) (hw _ h),fun h=>za9.mpr (zac c2 (zap c4)) (hrd _ h),
   T.batch _ _ (za2.mpr ⟨Nat.lt_succ_self y,fun z hz=>zat (hw z hz) (zac c2 (zbp (zap c4)))⟩) (za2.mpr ⟨Nat.lt_succ_of_lt c4,fun z hz=>zat (hrd z hz) (zac c2 (zbp (zap c4)))⟩)⟩
  len:=by
   refine⟨?_,?_⟩
   ·have:=T.len.1;show c.length+1+(a.length+1)=r.length+1+1;have:c.length+a.length=r.length:=this;exact ar1 [_,_,_] [] kad (Y2 (Y0 (Y0 V0 J1) (Y0 V1 J1)) (Y0 (Y0 V2 J1) J1)) (Y2 (Y0 V0 V1) V2) (by assumption)
   ·have:b.length<=a.length:=T.len.2
    show((if s=0 then[] else[(s-1,x)])++b).length<=a.length+1
    by_cases hs:s=0
    ·rw[if_pos hs];exact zbp this
    ·rw[if_neg hs];exact Nat.succ_le_succ this
  fill:=fun B2 h0 h1 hs=>by
   have hB2x:B2 x=s:=(h1 x (.head _) fun h=>(zah.mp h).elim (zar c4) fun h=>hxr (T.sub x h)).trans hx1
   obtain⟨B3,P3,Z3,S3⟩:=T.fill B2 (fun z hz=>h0 z (.tail _ hz)) (fun z hzr hz=>h1 z (.tail _ (.tail _ hzr)) fun h=>(zah.mp h).elim (fun e=>hyr (e▸hzr)) hz) (.inr (h0 y (.head _)))
   have h3y:B3 y=0:=(S3 y hyr).trans (h0 y (.head _))
   have h3x:B3 x=s:=(S3 x hxr).trans hB2x
   by_cases e0:s=0
   ·rw[if_pos e0]
    exact⟨B3,P3,fun z hz=>mem2 (P:=fun z=>B3 z=0) hz (h3x.trans e0) h3y Z3,fun z hz=>S3 z fun h=>hz (.tail _ (.tail _ h))⟩
   ·have h30:B3 (s-1)=0:=(S3 _ fun h=>Nat.lt_asymm (hr _ h) (zat (Nat.sub_lt (Nat.pos_of_ne_zero e0) Nat.one_pos) (zac c2 (zap c4)))).trans (hs.resolve_left e0)
    rw[if_neg e0]
    refine⟨upd B3 x (B3 (s-1)),?_,fun z hz=>?_,fun z hz=>(zhs fun e:z=x=>hz (e▸.head _)).trans (S3 z fun h=>hz (.tail _ (.tail _ h)))⟩
    ·show zg4 B2 ((s-1,x)::b).reverse _
     rw[List.reverse_cons]
     exact P3.append ⟨(Nat.sub_add_cancel (Nat.pos_of_ne_zero e0)).trans h3x.symm,rfl⟩
    ·by_cases e:z=x
     ·rw[e,zvq,h30]
     ·rw[zhs e];exact mem2 (P:=fun z=>z≠x->B3 z=0) hz (fun h=>absurd rfl h) (fun J=>h3y) (fun z h J=>Z3 z h) e }
theorem ThinOk.one (c1:B x=s) (c2:s<=x) (hr:∀z∈r,x<z) (T:ThinOk B (x+1) r (a,b,c) B1):ThinOk B s (x::r) (a,b,x::c) B1:=by
 have hxr:x∉r:=fun h=>zay _ (hr x h)
 exact{
  plays:=T.plays
  same:=fun z hz=>T.same z fun h=>hz (.tail _ h)
  chain:=⟨(T.same x hxr).trans c1,c2,T.chain⟩
  sub:=za2.mpr ⟨.head _,fun z hz=>.tail _ (T.sub z hz)⟩
  mem:=fun p hp=>⟨.tail _ (T.mem p hp).1,.tail _ (T.mem p hp).2⟩
  lmem:=fun p hp=>⟨.inl ((T.lmem p hp).1.elim (fun h=>.tail _ h) fun h=>Nat.succ.inj h▸.head _),.tail _ (T.lmem p hp).2⟩
  batch:=fun wr rd hw hrd=>T.batch _ _ (fun z hz=>zat (hw z hz) (zbp c2)) (fun z hz=>zat (hrd z hz) (zbp c2))
  len:=⟨by have:c.length+a.length=r.length:=T.len.1;show c.length+1+a.length=r.length+1;exact ar1 [_,_,_] [] kad (Y2 (Y0 (Y0 V0 J1) V1) (Y0 V2 J1)) (Y2 (Y0 V0 V1) V2) this,T.len.2⟩
  fill:=fun B2 h0 h1 hs=>by
   obtain⟨B3,P3,Z3,S3⟩:=T.fill B2 (fun z hz=>h0 z (.tail _ hz)) (fun z hzr hz=>h1 z (.tail _ hzr) fun h=>(zah.mp h).elim (fun e=>hxr (e▸hzr)) hz) (.inr (h0 x (.head _)))
   exact⟨B3,P3,za2.mpr ⟨(S3 x hxr).trans (h0 x (.head _)),Z3⟩,fun z hz=>S3 z fun h=>hz (.tail _ h)⟩ }
theorem zpl (cond:Nat->Bool):∀(k s:Nat) (rest:List Nat) (B:Nat->Nat),zln B s rest->∃B1,ThinOk B s rest (thin cond k s rest) B1
 |k,s,[],B,_=>⟨B,{ plays:=rfl,same:=fun J J=>rfl,chain:=trivial,sub:=fun J h=>(nomatch h),mem:=fun J h=>(nomatch h),lmem:=fun J h=>(nomatch h),batch:=fun J J J J=>trivial,len:=⟨rfl,zae _⟩,fill:=fun B2 J J J=>⟨B2,rfl,fun J h=>(nomatch h),fun J J=>rfl⟩ }⟩
 |k,s,[x],B,hc=>⟨B,{ plays:=rfl,same:=fun J J=>rfl,chain:=hc,sub:=fun x hx=>hx,mem:=fun J h=>(nomatch h),lmem:=fun J h=>(nomatch h),batch:=fun J J J J=>trivial,len:=⟨rfl,zae _⟩,fill:=fun B2 h J J=>⟨B2,rfl,h,fun J J=>rfl⟩ }⟩
 |k,s,x::y::r,B,hc=>by
  rw[zma]
  have hr:∀z∈r,y<z:=fun z hz=>hc.2.2.2.2.ge z hz
  by_cases hk:cond k=true
  ·rw[if_pos hk]
   obtain⟨B1,T⟩:=zpl cond (k+2) (y+1) r (upd B y (B x)) (hc.2.2.2.2.congr fun z hz=>zhs (Nat.ne_of_gt (hr z hz)))
   exact⟨B1,.two hc.1 hc.2.1 hc.2.2.1.symm hc.2.2.2.1 hr T⟩
  ·rw[if_neg hk]
   obtain⟨B1,T⟩:=zpl cond (k+1) (x+1) (y::r) B hc.2.2
   exact⟨B1,.one hc.1 hc.2.1 (za2.mpr ⟨hc.2.2.2.1,fun z hz=>zau hc.2.2.2.1 (hr z hz)⟩) T⟩
def zhl(B:Nat->Nat):Nat->List (List Nat)->Prop
 |_,[]=>True
 |s,g::r=>(∀x∈g,B x=s/\s<=x)/\g.Pairwise (· < ·)/\∃m,g.getLast?=some m/\zhl B (m+1) r
theorem zh0:∀{g:List Nat}{m:Nat},g.Pairwise (· < ·)->g.getLast?=some m->∀x∈g,x<=m
 |[],_,_,h,_,_=>by injection h
 |[a],m,_,h,x,hx=>by simp at h hx;exact ar2 [_,_,_] [] kab (Y0 V0 V1) (Y2 V2 V1) (Y2 V0 V2) h hx
 |a::b::r,m,hp,h,x,hx=>by
  rw[List.pairwise_cons] at hp
  have hm:(b::r).getLast?=some m:=by rw[<- h];simp[List.getLast?_cons]
  rcases zah.mp hx with rfl |hx
  ·have:=hp.1 b zad
   have:=zh0 hp.2 hm b zad
   exact ar2 [_,_,_] [] kaf (Y0 V0 V1) (Y0 V2 V1) (Y1 V0 V2) this (by assumption)
  ·exact zh0 hp.2 hm x hx
theorem zhl.ge:∀{gs:List (List Nat)} {s:Nat},zhl B s gs->∀g∈gs,∀x∈g,s<=x
 |[],_,_,g,hg,_,_=>by cases hg
 |g::r,s,h,g',hg,x,hx=>by
  obtain⟨h1,h2,m,h3,h4⟩:=h
  rcases zah.mp hg with rfl |hg
  ·exact(h1 x hx).2
  ·have:=h4.ge g' hg x hx
   have hm:m∈g:=List.mem_of_getLast? h3
   have:=(h1 m hm).2
   exact ar2 [_,_,_] [] kaf (Y0 V0 V1) (Y0 V0 V2) (Y0 (Y0 V2 J1) V1) this (by assumption)
theorem zhl.congr:∀{gs:List (List Nat)} {s:Nat},zhl B s gs->(∀g∈gs,∀x∈g,B' x=B x)->zhl B' s gs
 |[],_,_,_=>trivial
 |g::r,s,hG,hx=>⟨fun x hm=>by rw[hx g zad x hm];exact hG.1 x hm,hG.2.1,hG.2.2.elim fun m h=>⟨m,h.1,h.2.congr fun g' hg=>hx g' (zag _ hg)⟩⟩
theorem zhl.of:∀{xs:List Nat} {s:Nat},zln B s xs->zhl B s (xs.map fun x=>[x])
 |[],_,_=>trivial
 |x::r,s,h=>⟨fun y hy=>by rw[zaf.mp hy];exact⟨h.1,h.2.1⟩,List.pairwise_singleton _ _,x,rfl,zhl.of h.2.2⟩
theorem zkc:∀{h:List Nat}{B:Nat->Nat},(∀x∈h,B x=m+1)->m∉h->h.Nodup->∃B',zg4 B (h.map fun y=>(m,y)) B'/\(∀x∈h,B' x=B m)/\∀x,x∉h->B' x=B x
 |[],B,_,_,_=>⟨B,rfl,fun x hx=>(by cases hx),fun J J=>rfl⟩
 |y::r,B,hB,hm,hnd=>by
  rw[zbw] at hnd
  simp only[zah,not_or] at hm
  obtain⟨B',h1,h2,h3⟩:=zkc (h:=r) (B:=upd B y (B m)) (fun x hx=>by
   have hxy:x≠y:=fun e=>hnd.1 (e▸hx)
   rw[zhs hxy];exact hB x (zag _ hx)) hm.2 hnd.2
  have hmm:upd B y (B m) m=B m:=zhs hm.1
  refine⟨B',⟨(hB y zad).symm,h1⟩,?_,?_⟩
  ·intro x hx
   rcases zah.mp hx with rfl |hx
   ·rw[h3 x hnd.1,zvq]
   ·rw[h2 x hx,hmm]
  ·intro x hx
   simp only[zah,not_or] at hx
   rw[h3 x hx.2,zhs hx.1]
theorem zi8:∀{h:List Nat}{wr rd:List Nat},h.Nodup->m∉h->m∉wr->(∀x∈h,x∉wr/\x∉rd)->batch wr rd (h.map fun y=>(m,y))
 |[],_,_,_,_,_,_=>trivial
 |y::r,wr,rd,hnd,hm,hw,hx=>by
  rw[zbw] at hnd
  simp only[zah,not_or] at hm
  have h1:=hx y zad
  refine⟨hw,h1.1,h1.2,zi8 hnd.2 hm.2 ?_ ?_⟩
  ·simp only[zah,not_or];exact⟨hm.1,hw⟩
  ·intro x hxr
   have h2:=hx x (zag _ hxr)
   simp only[zah,not_or]
   exact⟨⟨fun e=>hnd.1 (e▸hxr),h2.1⟩,fun e=>hm.2 (e▸hxr),h2.2⟩
theorem zl0(h:g.Pairwise (· < ·)):g.Nodup:=h.imp (fun h=>by exact ar1 [_,_] [] kan (Y8 (Y2 V0 V1) J0) (Y1 V0 V1) h)
theorem zqo{a b:List Nat}:∀{pre post:List (List Nat)}{s:Nat}{B:Nat->Nat},zhl B s (pre++a::b::post)->∃m,a.getLast?=some m/\m∉b/\b.Nodup/\∃B',zg4 B (b.map fun y=>(m,y)) B' /\
  zhl B' s (pre++(a++b)::post)/\∀x,x∉b->B' x=B x
 |[],post,s,B,hG=>by
  obtain⟨h1,h2,m,h3,h4,h5,m',h6,h7⟩:=hG
  have hm:=(h1 m (List.mem_of_getLast? h3))
  have hmb:m∉b:=fun h=>by have:=(h4 m h).2;exact ar1 [_] [] 171801870368 J0 (Y0 (Y0 V0 J1) V0) this
  obtain⟨B',p1,p2,p3⟩:=zkc (B:=B) (m:=m) (fun x hx=>(h4 x hx).1) hmb (zl0 h5)
  refine⟨m,h3,hmb,zl0 h5,B',p1,⟨?_,?_,m',?_,h7.congr fun g hg x hx=>p3 x fun hb=>?_⟩,p3⟩
  ·intro x hx
   rcases zaj.mp hx with hx |hx
   ·rw[p3 x fun hb=>?_] at ⊢
    ·exact h1 x hx
    ·have:=zh0 h2 h3 x hx
     have:=(h4 x hb).2
     exact ar2 [_,_] [] 0xa5000610080308020 J0 (Y0 (Y0 V0 J1) V1) (Y0 V1 V0) this (by assumption)
   ·rw[p2 x hx] at ⊢
    have:=(h4 x hx).2
    exact⟨hm.1,by exact ar2 [_,_,_] [] kab (Y0 V0 V1) (Y0 V0 V2) (Y0 (Y0 V2 J1) V1) hm.2 this⟩
  ·rw[List.pairwise_append] at ⊢
   refine⟨h2,h5,fun x hx y hy=>?_⟩
   have:=zh0 h2 h3 x hx
   have:=(h4 y hy).2
   exact ar2 [_,_,_] [] kaf (Y1 V0 V1) (Y0 (Y0 V2 J1) V1) (Y0 V0 V2) this (by assumption)
  ·rw[List.getLast?_append,h6] at ⊢;rfl
  ·have:=h7.ge g hg x hx
   have:=zh0 h5 h6 x hb
   exact ar2 [_,_] [] 0xa5000610080308020 J0 (Y0 V0 V1) (Y0 (Y0 V1 J1) V0) this (by assumption)
 |g::pre,post,s,B,hG=>by
  obtain⟨h1,h2,m,h3,h4⟩:=hG
  obtain⟨m',a1,a2,a3,B',a4,a5,a6⟩:=zqo h4
  refine⟨m',a1,a2,a3,B',a4,⟨?_,h2,m,h3,a5⟩,a6⟩
  intro x hx
  rw[a6 x fun hb=>?_] at ⊢
  ·exact h1 x hx
  ·have:=h4.ge b (by simp) x hb
   have:=zh0 h2 h3 x hx
   exact ar2 [_,_] [] 0xa5000610080308020 J0 (Y0 V0 V1) (Y0 (Y0 V1 J1) V0) this (by assumption)
variable {a b g:Nat}{c:Cx}{r:Net}{s:List (Nat×Nat)->List (Nat×Nat)}{v:V}
noncomputable def zc7(B:Nat->Nat)(y:List (Nat×Nat)):Bool:=y.all fun p=>p.1+1==B p.2
noncomputable def zcp:Net->(Nat->Nat)->Option (Nat->Nat)
 |[],B=>some B
 |y::r,B=>if zc7 B y then zcp r (zcy (fun l J=>l) y B) else none
theorem ze9:zcp (y::r) B=if zc7 B y then zcp r (zcy (fun l J=>l) y B) else none:=rfl
theorem zej (h:zcp (y::r) B=some B'):zc7 B y=true/\zcp r (zcy (fun l J=>l) y B)=some B':=by
 by_cases c:zc7 B y=true
 ·exact⟨c,((if_pos c).symm.trans h:zcp r _=_)⟩
 ·exact absurd (((if_neg c).symm.trans h:none=some B')) (fun e=>nomatch e)
theorem zl8(h:zc7 B y=true)(h2:zcp r (zcy (fun l J=>l) y B)=o):zcp (y::r) B=o:=(if_pos h).trans h2
noncomputable def zci(n:Nat)(net:Net):Bool:=match zcp net id with
 |none=>false
 |some B=>(List.range n).all fun x=>B x==0
noncomputable def zob(net:Net):Nat->List Nat:=runN (·++·) net fun x=>[x]
def Fair(n:Nat)(net:Net):Prop:=∀y∈net,(∀p∈y,p.1<p.2/\p.2<n)/\(y.map (·.2)).Nodup
theorem zcu(f:α->α->α)(y:List (Nat×Nat))(σ:Nat->α)(x:Nat):(∃p∈y,p.2=x/\zcy f y σ x=f (σ p.1) (σ x))\/zcy f y σ x=σ x:=by
 unfold zcy
 cases h:y.find? (fun p=>p.2==x) with
 |none=>exact .inr rfl
 |some p=>
  have:=List.find?_some h
  exact .inl ⟨p,zb7 h,by simpa using this,rfl⟩
theorem zd5(f:α->α->α)(σ:Nat->α)(hn:(y.map (·.2)).Nodup)(hp:p∈y):zcy f y σ p.2=f (σ p.1) (σ p.2):=by
 unfold zcy
 cases h:y.find? (fun q=>q.2==p.2) with
 |none=>
  rw[List.find?_eq_none] at h
  exact absurd (by simp) (h p hp)
 |some q=>
  have:=List.find?_some h
  have:=zoo hn q (zb7 h) p hp (by simpa using this)
  rw[this]
theorem zkx:∀(net:Net)(σ:Nat->List Nat)(x:Nat),∃pre,runN (·++·) net σ x=pre++σ x
 |[],σ,x=>⟨[],rfl⟩
 |y::r,σ,x=>by
  obtain⟨pre,h⟩:=zkx r (zcy (·++·) y σ) x
  rw[zdn,h]
  rcases zcu (·++·) y σ x with⟨p,_,_,e⟩|e
  ·rw[e];exact⟨pre++σ p.1,by simp⟩
  ·rw[e];exact⟨pre,rfl⟩
theorem zq4(hb:∀x,B x<=x)(hy:∀p∈y,p.1<p.2/\p.2<n)(ht:zc7 B y=true) :
  (∀x,zcy (fun l J=>l) y B x<=x)/\zcy (·++·) y (fun x=>ran (B x) x)=fun x=>ran (zcy (fun l J=>l) y B x) x:=by
 constructor
 ·intro x
  rcases zcu (fun l J=>l) y B x with⟨p,hp,hx,e⟩|e
  ·rw[e];have:=hy p hp;have:=hb p.1;exact ar3 [_,_,_,_,_] [] 0x4294a50006100803080601840400c2000060 (Y0 V0 V1) (Y2 V2 V1) (Y0 V0 V3) (Y6 (Y1 V3 V2) (Y1 V2 V4)) hx this (by assumption)
  ·rw[e];exact hb x
 ·funext x
  unfold zcy
  cases h:y.find? (fun p=>p.2==x) with
  |none=>rfl
  |some p=>
   have hp:=zb7 h
   have hx:p.2=x:=by simpa using List.find?_some h
   have h1:p.1+1=B p.2:=by
    have:=zaz.mp ht p hp
    simpa using this
   subst hx
   show ran (B p.1) p.1++ran (B p.2) p.2=ran (B p.1) p.2
   rw[<- h1,zqr (hb p.1) (hy p hp).1]
theorem zk3:∀{net:Net}{B B':Nat->Nat},Fair n net->(∀x,B x<=x)->zcp net B=some B'->(∀x,B' x<=x)/\runN (·++·) net (fun x=>ran (B x) x)=fun x=>ran (B' x) x
 |[],B,B',_,hb,h=>by(injection h with Ja;subst Ja);exact⟨hb,rfl⟩
 |y::r,B,B',hf,hb,h=>by
  obtain⟨ht,h⟩:=zej h
  obtain⟨s1,s2⟩:=zq4 hb (hf y zad).1 ht
  have:=zk3 (fun z hz=>hf z (zag _ hz)) s1 h
  refine⟨this.1,?_⟩
  rw[zdn,s2];exact this.2
theorem zsc{P S:List Nat}(h:P++a::b::S=List.range m):b=a+1:=by
 have h1:(P++a::b::S)[P.length]?=some a:=by simp
 have h2:(P++a::b::S)[P.length+1]?=some b:=by simp
 rw[h,zbs] at h1 h2
 ·(injection h1 with Ja;subst Ja);(injection h2 with Ja;subst Ja);rfl
 all_goals
  have:=congrArg List.length h
  simp at this
  (first |exact ar1 [_,_,_] [] kaa (Y1 (Y0 V0 J1) V1) (Y2 (Y0 V0 (Y0 (Y0 V2 J1) J1)) V1) this |exact ar1 [_,_,_] [] kaa (Y1 V0 V1) (Y2 (Y0 V0 (Y0 (Y0 V2 J1) J1)) V1) this)
set_option tactic.hygienic true in
theorem zku:∀{net:Net}{B:Nat->Nat},Fair n net->(∀x,B x<=x)->zcp net B=none->∃x,x<n/\runN (·++·) net (fun x=>ran (B x) x) x≠List.range (x+1)
 |[],B,_,hb,h=>by injection h
 |y::r,B,hf,hb,h=>by
  rw[ze9] at h
  split at h
  ·rename_i ht
   obtain⟨s1,s2⟩:=zq4 hb (hf y zad).1 ht
   have:=zku (fun z hz=>hf z (zag _ hz)) s1 h
   rw[zdn,s2];exact this
  ·rename_i ht
   have hfy:=hf y zad
   have:∃p∈y,p.1+1≠B p.2:=by
    refine qca fun hno=>ht ?_
    simp only[zc7,zaz,beq_iff_eq]
    exact fun p hp=>qca fun hne=>hno ⟨p,hp,hne⟩
   obtain⟨p,hp,hne⟩:=this
   refine⟨p.2,(hfy.1 p hp).2,fun hr=>hne ?_⟩
   obtain⟨pre,hs⟩:=zkx r (zcy (·++·) y fun x=>ran (B x) x) p.2
   rw[zdn,hs,zd5 _ _ hfy.2 hp] at hr
   have e1:ran (B p.1) p.1=List.range' (B p.1) (p.1-B p.1)++[p.1]:=by
    unfold ran
    have:=hb p.1
    rw[show p.1+1-B p.1=(p.1-B p.1)+1 by exact ar1 [_,_] [] kbh (Y2 (Y2 (Y0 V0 J1) V1) (Y0 (Y2 V0 V1) J1)) (Y0 V1 V0) this,List.range'_concat]
    congr 2;exact ar1 [_,_] [] kat (Y2 (Y0 V0 (Y1 J1 (Y2 V1 V0))) V1) (Y0 V0 V1) this
   have e2:ran (B p.2) p.2=B p.2::List.range' (B p.2+1) (p.2-B p.2):=by
    unfold ran
    have:=hb p.2
    rw[show p.2+1-B p.2=(p.2-B p.2)+1 by exact ar1 [_,_] [] kbh (Y2 (Y2 (Y0 V0 J1) V1) (Y0 (Y2 V0 V1) J1)) (Y0 V1 V0) this,List.range'_succ]
   simp only[e1,e2] at hr
   have hr':(pre++List.range' (B p.1) (p.1-B p.1))++p.1::B p.2::List.range' (B p.2+1) (p.2-B p.2)=List.range (p.2+1):=by
    rw[<- hr];simp
   exact(zsc hr').symm
theorem zjg(hb:b<=x):ran b x=List.range (x+1)↔b=0:=by
 constructor
 ·intro h
  have:=congrArg List.length h
  simp[ran] at this
  exact ar2 [_,_] [] 0x30d04294001840800c2000000294a00102038061010030800028023080212800308000 (Y2 V0 J0) (Y0 V0 V1) (Y2 (Y2 (Y0 V1 J1) V0) (Y0 V1 J1)) hb this
 ·rintro rfl;simp[ran,List.range_eq_range']
theorem ziz{net:Net}(hf:Fair n net):zci n net=true↔∀x,x<n->zob net x=List.range (x+1):=by
 have e0:(fun x:Nat=>[x])=fun x=>ran (id x) x:=by funext x;simp[ran]
 have hb:∀x:Nat,id x<=x:=fun x=>zae _
 unfold zci zob
 rw[e0]
 refine xC (zcp net id) (fun h=>?_) fun B h=>?_
 ·obtain⟨x,hx,hne⟩:=zku hf hb h
  simp only[zbk,false_iff]
  exact fun hall=>hne (hall x hx)
 ·obtain⟨s1,s2⟩:=zk3 hf hb h
  rw[s2]
  simp only[zaz,zbo,beq_iff_eq]
  exact⟨fun h x hx=>(zjg (s1 x)).mpr (h x hx),fun h x hx=>(zjg (s1 x)).mp (h x hx)⟩
theorem zd2:∀{y:List (Nat×Nat)} {lo:Nat},zdj n lo y->(∀p∈y,p.1<p.2/\p.2<n/\lo<=p.2)/\(y.map (·.2)).Nodup
 |[],_,_=>⟨fun p hp=>(by cases hp),zbx⟩
 |(l,h)::r,lo,⟨h1,h2,h3,h4⟩=>by
  obtain⟨i1,i2⟩:=zd2 h4
  refine⟨fun p hp=>?_,?_⟩
  ·rcases zah.mp hp with rfl |hp
   ·exact⟨h1,h2,h3⟩
   ·have:=i1 p hp;exact ar4 [_,_,_,_,_] [] 0xc6294a000c20180610180308000294001840500c20000a50006100c0308000 (Y6 (Y1 V0 V1) (Y6 (Y1 V1 V2) (Y0 V3 V1))) (Y0 V3 V4) (Y1 V0 V1) (Y1 V1 V2) (Y0 (Y0 V4 J1) V1) h3 this.1 this.2.1 this.2.2
  ·rw[za5,zbw]
   refine⟨fun hm=>?_,i2⟩
   revert hm;refine xL fun p hp e=>?_
   have:=i1 p hp
   simp only at e
   exact ar2 [_,_] [] kag J0 (Y2 V0 V1) (Y0 (Y0 V1 J1) V0) e this.2.2
theorem zg5.fair {net:Net} (h:zg5 n net):Fair n net:=fun y hy=>by
 have:=zd2 (h.2 y hy).2
 exact⟨fun p hp=>⟨(this.1 p hp).1,(this.1 p hp).2.1⟩,this.2⟩
theorem zs1(f:α->α->α){z:List (Nat×Nat)}(σ:Nat->α)(hn:(y.map (·.2)).Nodup)(hp:y.Perm z):zcy f z σ=zcy f y σ:=by
 have hz:(z.map (·.2)).Nodup:=(hp.map _).nodup_iff.mp hn
 funext x
 rcases zcu f y σ x with⟨p,h1,h2,e⟩|e
 ·subst h2
  rw[e,zd5 f σ hz (hp.mem_iff.mp h1)]
 ·rcases zcu f z σ x with⟨p,h1,h2,e'⟩|e'
  ·subst h2
   rw[e',zd5 f σ hn (hp.mem_iff.mpr h1)]
  ·rw[e,e']
theorem zm9(f:α->α->α):∀{a:Net}(σ:Nat->α),(∀y∈a,(y.map (·.2)).Nodup)->(∀y∈a,y.Perm (s y))->runN f (a.map s) σ=runN f a σ
 |[],σ,_,_=>rfl
 |y::r,σ,hn,hp=>by
  rw[za5,zdn,zdn,zs1 f σ (hn y zad) (hp y zad)]
  exact zm9 f _ (fun y hy=>hn y (zag _ hy)) (fun y hy=>hp y (zag _ hy))
theorem zco:∀(a b:Net)(B:Nat->Nat),zcp (a++b) B=(zcp a B).bind (zcp b)
 |[],b,B=>rfl
 |y::r,b,B=>by
  simp only[List.cons_append,ze9]
  split
  ·exact zco r b _
  ·rfl
theorem zfh:zc7 B y=true↔∀p∈y,p.1+1=B p.2:=by
 simp only[zc7,zaz,beq_iff_eq]
variable {o:Ex}{p:Prop}{s:PS}{x:List (Nat×Nat)}
noncomputable def hiLe(a b:Nat×Nat):Bool:=decide (a.2<b.2)||(decide (a.2=b.2)&&decide (a.1<=b.1))
noncomputable def zhz(y:List (Nat×Nat)):List (Nat×Nat):=y.mergeSort hiLe
theorem zfb(y:List (Nat×Nat)):y.Perm (zhz y):=(List.mergeSort_perm y hiLe).symm
theorem hiLe_iff{a b:Nat×Nat}:hiLe a b=true↔a.2<b.2\/(a.2=b.2/\a.1<=b.1):=by simp only[hiLe,Bool.or_eq_true,Bool.and_eq_true,decide_eq_true_eq]
theorem hi3{c e f:Nat}(h1:b<d\/(b=d/\a<=c))(h2:d<f\/(d=f/\c<=e)):b<f\/(b=f/\a<=e):=by exact ar2 [_,_,_,_,_,_] [] kbd (Y7 (Y1 V0 V1) (Y6 (Y2 V0 V1) (Y0 V2 V3))) (Y7 (Y1 V0 V4) (Y6 (Y2 V0 V4) (Y0 V2 V5))) (Y7 (Y1 V4 V1) (Y6 (Y2 V4 V1) (Y0 V5 V3))) h1 h2
theorem hi1(a b c d:Nat):(b<d\/(b=d/\a<=c))\/(d<b\/(d=b/\c<=a)):=by exact ar0 [_,_,_,_] [] kbe (Y7 (Y7 (Y1 V0 V1) (Y6 (Y2 V0 V1) (Y0 V2 V3))) (Y7 (Y1 V1 V0) (Y6 (Y2 V1 V0) (Y0 V3 V2))))
theorem zkn(y:List (Nat×Nat)):(zhz y).Pairwise fun a b=>hiLe a b=true:=by
 refine List.pairwise_mergeSort ?_ ?_ y
 ·exact fun a b c h1 h2=>hiLe_iff.mpr (hi3 (hiLe_iff.mp h1) (hiLe_iff.mp h2))
 ·exact fun a b=>zb1.mpr ((hi1 a.1 a.2 b.1 b.2).imp hiLe_iff.mpr hiLe_iff.mpr)
theorem znv:∀{y:List (Nat×Nat)} {lo:Nat},(y.Pairwise fun a b=>hiLe a b=true)->(y.map (·.2)).Nodup->(∀p∈y,p.1<p.2/\p.2<n/\lo<=p.2)->zdj n lo y
 |[],_,_,_,_=>trivial
 |(l,h)::r,lo,hp,hn,hy=>by
  have h1:=hy (l,h) zad
  rw[List.pairwise_cons] at hp
  rw[za5,zbw] at hn
  refine⟨h1.1,h1.2.1,h1.2.2,znv hp.2 hn.2 fun p hm=>?_⟩
  have h2:=hy p (zag _ hm)
  have h3:=hp.1 p hm
  have h4:p.2≠h:=fun e=>hn.1 (za6.mpr ⟨p,hm,e⟩)
  simp only[hiLe,Bool.or_eq_true,Bool.and_eq_true,decide_eq_true_eq] at h3
  exact⟨h2.1,h2.2.1,by exact ar2 [_,_,_,_] [] 0x1ca5000610040308000490a50006100c0308000000a5000610040308000 (Y0 (Y0 V0 J1) V1) (Y8 (Y2 V1 V0) J0) (Y7 (Y1 V0 V1) (Y6 (Y2 V0 V1) (Y0 V2 V3))) h4 h3⟩
theorem zn9 (hn:(y.map (·.2)).Nodup) (hy:∀p∈y,p.1<p.2/\p.2<n):zdj n 0 (zhz y):=by
 refine znv (zkn y) (((zfb y).map _).nodup_iff.mp hn) fun p hp=>?_
 have:=hy p ((zfb y).mem_iff.mpr hp)
 exact⟨this.1,this.2,zax _⟩
theorem sortL_ne(h:y≠[]):zhz y≠[]:=by
 intro e
 have:=(zfb y).length_eq
 rw[e] at this
 exact h (zbr.mp this)
theorem zf9:∀{n:Nat}{xs:List Nat},xs.Nodup->(∀x∈xs,x<n)->xs.length<=n
 |0,[],_,_=>zae _
 |0,x::_,_,h=>absurd (h x zad) (by exact ar0 [_] [] 4679524742594560 (Y8 (Y1 V0 J0) J0))
 |n+1,xs,hn,h=>by
  by_cases hm:n∈xs
  ·have:=zf9 (n:=n) (xs:=xs.erase n) (hn.erase n) fun x hx=>by
    rw[hn.mem_erase_iff] at hx
    have:=h x hx.2
    exact ar2 [_,_] [] kar (Y1 V0 V1) (Y8 (Y2 V0 V1) J0) (Y1 V0 (Y0 V1 J1)) hx.1 this
   rw[List.length_erase_of_mem hm] at this
   exact ar1 [_,_] [] 0x65294001840300c20200610040508001 (Y0 V0 (Y0 V1 J1)) (Y0 (Y2 V0 J1) V1) this
  ·have:=zf9 (n:=n) hn fun x hx=>by
    have:=h x hx
    have:x≠n:=fun e=>hm (e▸hx)
    exact ar2 [_,_] [] kar (Y1 V0 V1) (Y8 (Y2 V0 V1) J0) (Y1 V0 (Y0 V1 J1)) this (by assumption)
   exact ar1 [_,_] [] kaa (Y0 V0 (Y0 V1 J1)) (Y0 V0 V1) this
theorem Laid.wide(L:Laid n s js):∀y∈s.lays,y.length<=n:=by
 intro y hy
 obtain⟨i,hi,e⟩:=zb6.mp hy
 have hiy:s.lays[i]?=some y:=by rw[zai hi,e]
 have:=zf9 (L.nd y hy) fun x hx=>by
  revert hx;refine xL fun p hp wj=>?_;subst wj
  exact(L.hi i y hiy p hp).2.2.2
 simpa using this
theorem zgh:∀{ks:List (Nat×Nat)} {s:PS} {js:List (Nat×Nat)},Laid n s js->(∀p∈ks,p.1<p.2/\p.2<n)->(s.puts ks).lays.length<=s.lays.length+ks.length
 |[],s,js,_,_=>zae _
 |(l,h)::r,s,js,L,hk=>by
  have hp:=hk (l,h) zad
  have:=zgh (ks:=r) (L.put hp.1 hp.2) fun p hp=>hk p (zag _ hp)
  rw[zvx L] at this
  have:=L.at_le l h
  simp only[PS.puts,List.foldl_cons,zba] at *
  exact ar3 [_,_,_,_,_] [] 0x9214a528003080601840500c202006100000010a528003080601840500c2000000 (Y0 V0 (Y0 V1 (Y0 V2 J1))) (Y0 V3 V1) (Y0 V0 (Y0 V4 V2)) (Y7 (Y6 (Y2 V4 V1) (Y0 (Y0 V3 J1) V1)) (Y6 (Y2 V4 (Y0 V3 J1)) (Y0 V1 (Y0 V3 J1)))) this (by assumption) (by exact Ar.mx _ _)
structure Told (n:Nat) (net:Net):Prop where
 ok:∀y∈net,zcl n y
 len:net.length<=n+3
 whole:∀x,x<n->zob net x=List.range (x+1)
theorem told_of(L:Laid n s js)(P:zg4 id js B)(h0:∀x,x<n->B x=0)(hl:s.lays.length<=n+3):Told n (s.lays.map zhz) where
 ok:=by
  intro y hy
  revert hy;refine xL fun z hz wj=>?_;subst wj
  obtain⟨i,hi,e⟩:=zb6.mp hz
  have hiz:s.lays[i]?=some z:=by rw[zai hi,e]
  exact⟨sortL_ne (L.ne z hz),zn9 (L.nd z hz) fun p hp=>(L.hi i z hiz p hp).2.2⟩
 len:=by simpa using hl
 whole:=by
  intro x hx
  unfold zob
  rw[zm9 _ _ L.nd fun y J=>zfb y,L.run]
  have e0:(fun x:Nat=>[x])=fun x=>ran (id x) x:=by funext x;simp[ran]
  have:=(zf8 P fun x=>zae _)
  rw[e0,this.2]
  exact(zjg (this.1 x)).mpr (h0 x hx)
def FillOk(n:Nat)(B:Nat->Nat)(A:List Nat)(left:List (Nat×Nat)):Prop:=
 ∀B2,(∀x∈A,B2 x=0)->(∀x,x∉A->B2 x=B x)->∃B3,zg4 B2 left.reverse B3/\∀x,x<n->B3 x=0
structure TurnInv(n t:Nat)(s:PS)(left:List (Nat×Nat))(active:List Nat):Prop where
 ex:∃js B,Laid n s js/\zg4 id js B/\zln B 0 active/\FillOk n B active left
 lt:∀x∈active,x<n
 llt:∀p∈left,p.1<n/\p.2<n
 len:active.length+left.length<=n
 lay:s.lays.length<=t
theorem zqt:∀(k s:Nat),zln id s (List.range' s k)
 |0,_=>trivial
 |k+1,s=>⟨rfl,zae _,zqt k (s+1)⟩
theorem TurnInv.init(n:Nat):TurnInv n 0 (PS.init n) [] (List.range n) where
 ex:=⟨[],id,Laid.init n,rfl,by rw[List.range_eq_range'];exact zqt n 0,fun B2 h J=>⟨B2,rfl,fun x hx=>h x (by simpa using hx)⟩⟩
 lt:=by simp
 llt:=by simp
 len:=by simp
 lay:=by simp[PS.init]
theorem TurnInv.thin(I:TurnInv n t s left active)(cond:Nat->Bool) :
  TurnInv n (t+1) (s.puts (thin cond 0 0 active).1) (left++(Bn.thin cond 0 0 active).2.1) (Bn.thin cond 0 0 active).2.2/\∀p∈(Bn.thin cond 0 0 active).1,p.1<p.2/\p.2<n:=by
 obtain⟨js,B,L,P,C,F⟩:=I.ex
 obtain⟨B1,T⟩:=zpl cond 0 0 active B C
 generalize Bn.thin cond 0 0 active=th at T
 have hb:=(zf8 P fun x=>zae _).1
 have hlt:∀p∈th.1,p.1<p.2/\p.2<n:=fun p hp=>⟨ziv T.plays hb p hp,I.lt _ (T.mem p hp).2⟩
 refine⟨⟨⟨js++th.1,B1,L.puts hlt,P.append T.plays,T.chain,?_⟩,fun x hx=>I.lt x (T.sub x hx),?_,?_,?_⟩,hlt⟩
 ·intro B2 h0 h1
  obtain⟨B3,P3,Z3,S3⟩:=T.fill B2 h0 (fun x J hx=>h1 x hx) (.inl rfl)
  obtain⟨B4,P4,Z4⟩:=F B3 Z3 fun x hx=>by rw[S3 x hx,h1 x fun h=>hx (T.sub x h),T.same x hx]
  exact⟨B4,by rw[List.reverse_append];exact P3.append P4,Z4⟩
 ·intro p hp
  rcases zaj.mp hp with hp |hp
  ·exact I.llt p hp
  ·have:=T.lmem p hp
   exact⟨I.lt _ (this.1.resolve_right (by exact ar0 [_] [] 4679524742594560 (Y8 (Y2 (Y0 V0 J1) J0) J0))),I.lt _ this.2⟩
 ·have:=I.len;have:=T.len;simp;exact ar3 [_,_,_,_,_,_] [] 0xa5294001840000c20180610040308040 (Y0 (Y0 V0 (Y0 V1 V2)) V3) (Y2 (Y0 V0 V4) V5) (Y0 V2 V4) (Y0 (Y0 V5 V1) V3) this.1 this.2 (by assumption)
 ·have:=L.batch hlt (T.batch [] [] (by simp) (by simp))
  have:=I.lay
  exact ar2 [_,_,_] [] kaf (Y0 V0 (Y0 V1 J1)) (Y0 V2 V1) (Y0 V0 (Y0 V2 J1)) this (by assumption)
structure GInv(n M:Nat)(s:PS)(left:List (Nat×Nat))(gs:List (List Nat)):Prop where
 ex:∃js B,Laid n s js/\zg4 id js B/\zhl B 0 gs/\FillOk n B gs.flatten left
 lt:∀g∈gs,∀x∈g,x<n
 llt:∀p∈left,p.1<n/\p.2<n
 lay:s.lays.length+gs.length+left.length<=M
theorem GInv.of(I:TurnInv n t s left active):GInv n (n+t) s left (active.map fun x=>[x]):=by
 obtain⟨js,B,L,P,C,F⟩:=I.ex
 refine⟨⟨js,B,L,P,zhl.of C,?_⟩,?_,I.llt,?_⟩
 ·have:∀l:List Nat,(l.map fun x=>[x]).flatten=l:=by intro l;induction l<;>simp_all
  rw[this];exact F
 ·intro g hg x hx
  revert hg;refine xL fun y hy wj=>?_;subst wj
  rw[zaf.mp hx];exact I.lt y hy
 ·have:=I.len;have:=I.lay;simp;exact ar2 [_,_,_,_,_] [] kaf (Y0 (Y0 (Y0 V0 V1) V2) (Y0 V3 V4)) (Y0 V0 V4) (Y0 (Y0 V1 V2) V3) this (by assumption)
theorem GInv.merge{pre post:List (List Nat)}{a b:List Nat}(I:GInv n M s left (pre++a::b::post)) :
  ∃m,a.getLast?=some m/\GInv n M (s.puts (b.map fun y=>(m,y))) left (pre++(a++b)::post)/\(∀p∈b.map (fun y=>(m,y)),p.1<p.2/\p.2<n):=by
 obtain⟨js,B,L,P,C,F⟩:=I.ex
 obtain⟨m,h1,h2,h3,B',h4,h5,h6⟩:=zqo C
 have hb:=(zf8 P fun x=>zae _).1
 have hlt:∀p∈b.map (fun y=>(m,y)),p.1<p.2/\p.2<n:=fun p hp=>⟨ziv h4 hb p hp,by
  revert hp;refine xL fun y hy wj=>?_;subst wj
  exact I.lt b (by simp) y hy⟩
 refine⟨m,h1,⟨⟨js++_,B',L.puts hlt,P.append h4,h5,?_⟩,?_,I.llt,?_⟩,hlt⟩
 ·have e:(pre++(a++b)::post).flatten=(pre++a::b::post).flatten:=by simp
  rw[e] at ⊢
  intro B2 z0 z1
  refine F B2 z0 fun x hx=>?_
  rw[z1 x hx,h6 x fun hb=>hx ?_] at ⊢
  simp[hb]
 ·intro g hg x hx
  simp only[zaj,zah] at hg
  rcases hg with hg |rfl |hg
  ·exact I.lt g (by simp[hg]) x hx
  ·rcases zaj.mp hx with hx |hx
   ·exact I.lt a (by simp) x hx
   ·exact I.lt b (by simp) x hx
  ·exact I.lt g (by simp[hg]) x hx
 ·have:=L.batch hlt (zi8 h3 h2 (by simp) (by simp))
  have:=I.lay
  simp only[zak,zba] at *
  exact ar2 [_,_,_,_,_,_] [] kaf (Y0 (Y0 (Y0 V0 (Y0 V1 (Y0 V2 J1))) V3) V4) (Y0 (Y0 (Y0 V5 (Y0 V1 (Y0 (Y0 V2 J1) J1))) V3) V4) (Y0 V0 (Y0 V5 J1)) this (by assumption)
theorem GInv.fin(I:GInv n M s left gs)(h1:gs.length<=1)(hM:M<=n+3) :
  Told n ((s.puts left.reverse).lays.map zhz)/\(∃js,Laid n s js)/\(∀p∈left.reverse,p.1<p.2/\p.2<n):=by
 obtain⟨js,B,L,P,C,F⟩:=I.ex
 have hz:∀x∈gs.flatten,B x=0:=by
  cases gs with
  |nil=>exact fun x hx=>nomatch hx
  |cons g r=>
   obtain rfl:r=[]:=zbr.mp (Nat.le_zero.mp (Nat.le_of_succ_le_succ h1))
   exact fun x hx=>(C.1 x (by simpa using hx)).1
 obtain⟨B3,P3,Z3⟩:=F B hz fun J J=>rfl
 have hb:=(zf8 P fun x=>zae _).1
 have hlt:∀p∈left.reverse,p.1<p.2/\p.2<n:=fun p hp=>⟨ziv P3 hb p hp,(I.llt p (by simpa using hp)).2⟩
 refine⟨told_of (L.puts hlt) (P.append P3) Z3 ?_,⟨js,L⟩,hlt⟩
 have:=zgh L hlt
 have:=I.lay
 simp at *
 exact ar3 [_,_,_,_,_,_] [] 0xa5294001840000c200806100c0308040 (Y0 V0 (Y0 V1 (.l 3))) (Y0 V2 (Y0 V1 (.l 3))) (Y0 V0 (Y0 V3 V4)) (Y0 (Y0 (Y0 V3 V5) V4) V2) hM this (by assumption)
variable {a b:Net}{s:Nat}{t:Ex}
theorem zd4{lo:Nat}(h:lo<=lo')(hr:zdj n lo' y):zdj n lo y:=by
 cases y with
 |nil=>trivial
 |cons p r=>obtain⟨a,b,c,d⟩:=hr;exact⟨a,b,by exact ar2 [_,_,_] [] kab (Y0 V0 V1) (Y0 V0 V2) (Y0 V2 V1) h c,d⟩
noncomputable def tri:Nat->Nat
 |0=>0
 |n+1=>(n+1)+tri n
theorem tri_succ:tri (n+1)=(n+1)+tri n:=rfl
theorem zuu:∀n,n<=11->tri n<=66:=by decide
theorem ok_one(h1:l<h)(h2:h<n):zcl n [(l,h)]:=⟨by simp,h1,h2,zax _,trivial⟩
variable {l:Loc}
def zkl(n:Nat)(net:Net):Prop:=∃B,zcp net id=some B/\∀x,x<n->B x=0
theorem zkl.whole{net:Net}(hf:Fair n net)(h:zkl n net):∀x,x<n->zob net x=List.range (x+1):=by
 refine(ziz hf).mp ?_
 obtain⟨B,h1,h2⟩:=h
 unfold zci
 rw[h1]
 simpa using h2
theorem zkl.of{net:Net}(hf:Fair n net)(h:∀x,x<n->zob net x=List.range (x+1)):zkl n net:=by
 have:=(ziz hf).mpr h
 unfold zci at this
 refine xC (zcp net id) (fun e=>?_) fun B e=>?_
 ·rw[e] at this;injection this
 ·rw[e] at this;exact⟨B,e,by simpa using this⟩
theorem Told.tells{net:Net}(T:Told n net):zkl n net:=zkl.of (fun y hy=>by
 have:=zd2 (T.ok y hy).2
 exact⟨fun p hp=>⟨(this.1 p hp).1,(this.1 p hp).2.1⟩,this.2⟩) T.whole
theorem ze8(hn:(y.map (·.2)).Nodup)(ht:∀p∈y,p.1+1=B p.2)(h1:∀p∈y,B' p.2=B p.1)(h2:∀x,(∀p∈y,p.2≠x)->B' x=B x):zcp [y] B=some B':=by
 have:zc7 B y=true:=by
  simp only[zc7,zaz,beq_iff_eq];exact ht
 rw[ze9,if_pos this]
 refine congrArg some ?_
 funext x
 rcases zcu (fun l J=>l) y B x with⟨p,hp,rfl,e⟩|e
 ·rw[e,h1 p hp]
 ·by_cases hx:∀p∈y,p.2≠x
  ·rw[e,h2 x hx]
  ·have:∃p∈y,p.2=x:=qca fun hno=>hx fun p hp e=>hno ⟨p,hp,e⟩
   obtain⟨p,hp,rfl⟩:=this
   rw[zd5 _ _ hn hp,h1 p hp]
noncomputable def ze1(n:Nat):Net:=(List.range (n-1)).map fun i=>[(i,i+1)]
theorem zpc(k:Nat)(step:∀i,i<k->zcp [f i] (S i)=some (S (i+1))):zcp ((List.range k).map f) (S 0)=some (S k):=by
 induction k with
 |zero=>rfl
 |succ k ih=>
  rw[List.range_succ,zan,zco,ih fun i hi=>step i (by exact ar1 [_,_] [] kaa (Y1 V0 (Y0 V1 J1)) (Y1 V0 V1) hi)]
  exact step k (by exact ar0 [_] [] 171801870336 (Y1 V0 (Y0 V0 J1)))
theorem zki(n:Nat):zkl n (ze1 n):=by
 have:=zpc (f:=fun i=>[(i,i+1)]) (S:=fun k x=>if x<=k then 0 else x) (n-1) fun i hi=>by
  refine ze8 (by simp) ?_ ?_ ?_
  ·intro p hp;rw[zaf.mp hp];show i+1=if i+1<=i then 0 else i+1;rw[if_neg (by exact ar0 [_] [] 4679524742594560 (Y8 (Y0 (Y0 V0 J1) V0) J0))]
  ·intro p hp;rw[zaf.mp hp];simp
  ·intro x hx
   have:=hx _ zad
   simp only at this
   show(if x<=i+1 then 0 else x)=if x<=i then 0 else x
   repeat' split
   all_goals(first |exact ar0 [] [] kac (Y2 J0 J0) |exact ar3 [_,_] [] 0x7294001840400c20000a50006100c0308000 (Y2 J0 V0) (Y8 (Y2 (Y0 V1 J1) V0) J0) (Y0 V0 (Y0 V1 J1)) (Y8 (Y0 V0 V1) J0) this (by assumption) (by assumption) |exact ar2 [_,_] [] kag (Y2 V0 J0) (Y8 (Y0 V0 (Y0 V1 J1)) J0) (Y0 V0 V1) (by assumption) (by assumption) |exact ar0 [_] [] kac (Y2 V0 V0))
 have e0:(fun x:Nat=>if x<=0 then 0 else x)=id:=by funext x;show(if x<=0 then 0 else x)=x;split<;>(first |exact ar1 [_] [] 0x18a000c20000a5000610080308000 (Y2 J0 V0) (Y0 V0 J0) (by assumption) |exact ar0 [_] [] kac (Y2 V0 V0))
 rw[e0] at this
 exact⟨_,this,fun x hx=>by simp;lia⟩
theorem zo4(n:Nat):∀y∈ze1 n,zcl n y:=by
 intro y hy
 revert hy;refine xL fun i hi wj=>?_;subst wj
 rw[zbo] at hi
 exact ok_one (by exact ar0 [_] [] 171801870336 (Y1 V0 (Y0 V0 J1))) (by exact ar1 [_,_] [] 0x1a08528003080e01840100005294001840400c20280610000508021 (Y1 (Y0 V0 J1) V1) (Y1 V0 (Y2 V1 J1)) hi)
noncomputable def zei(n s:Nat):List (Nat×Nat):=(List.range (n-s)).map fun i=>(i,i+s)
theorem dbl_step(hs:1<=s):zcp [zei n s] (fun x=>if x<n then x+1-s else x)=some (fun x=>if x<n then x+1-2*s else x):=by
 have hmem:∀p∈zei n s,p.2=p.1+s/\p.2<n:=by
  intro p hp
  revert hp;refine xL fun i hi wj=>?_;subst wj
  rw[zbo] at hi
  exact⟨rfl,by show i+s<n;exact ar1 [_,_,_] [] 0x1a08528003080e01840100005294001840400c20280610000508441 (Y1 (Y0 V0 V1) V2) (Y1 V0 (Y2 V2 V1)) hi⟩
 refine ze8 ?_ ?_ ?_ ?_
 ·unfold zei
  rw[za0]
  have:((fun p:Nat×Nat=>p.2)∘fun i=>(i,i+s))=fun i=>i+s:=rfl
  rw[this]
  exact List.Pairwise.map _ (fun a b (h:a≠b)=>by exact ar1 [_,_,_] [] kau (Y8 (Y2 (Y0 V0 V1) (Y0 V2 V1)) J0) (Y8 (Y2 V0 V2) J0) h) List.nodup_range
 ·intro p hp
  obtain⟨h1,h2⟩:=hmem p hp
  rw[if_pos h2,h1,Nat.add_right_comm,Nat.add_sub_cancel]
 ·intro p hp
  obtain⟨h1,h2⟩:=hmem p hp
  rw[if_pos h2,if_pos (za3 (h1▸zbi ..) h2),h1,Nat.two_mul,Nat.add_right_comm,Nat.add_sub_add_right]
 ·intro x hx
  by_cases hxn:x<n
  ·rw[if_pos hxn,if_pos hxn]
   by_cases hxs:s<=x
   ·exact absurd (Nat.sub_add_cancel hxs) (hx (x-s,x-s+s) (za6.mpr ⟨x-s,zbo.mpr (Nat.sub_lt_sub_right hxs hxn),rfl⟩))
   ·have hxs:=Nat.lt_of_not_le hxs
    rw[Nat.sub_eq_zero_of_le hxs,Nat.sub_eq_zero_of_le (zac hxs (Nat.le_mul_of_pos_left s (by decide)))]
  ·rw[if_neg hxn,if_neg hxn]
theorem dbl_ok(hs:1<=s)(hsn:s<n):zcl n (zei n s):=by
 refine⟨?_,?_⟩
 ·unfold zei;intro h;have:=congrArg List.length h;simp at this;exact ar2 [_,_] [] 0x65294001840400c20280610040500421 J0 (Y1 V0 V1) (Y2 (Y2 V1 V0) J0) hsn this
 ·unfold zei
  have:∀(k a:Nat),a+k+s<=n->zdj n (a+s) ((List.range' a k).map fun i=>(i,i+s)):=by
   intro k
   induction k with
   |zero=>intro a _;trivial
   |succ k ih=>
    intro a h
    refine⟨by exact ar1 [_,_] [] kaa (Y1 V0 (Y0 V0 V1)) (Y0 J1 V1) hs,by exact ar1 [_,_,_,_] [] kaa (Y1 (Y0 V0 V1) V2) (Y0 (Y0 (Y0 V0 (Y0 V3 J1)) V1) V2) h,zae _,?_⟩
    have:=ih (a+1) (by exact ar1 [_,_,_,_] [] kaa (Y0 (Y0 (Y0 (Y0 V0 J1) V1) V2) V3) (Y0 (Y0 (Y0 V0 (Y0 V1 J1)) V2) V3) h)
    rw[show a+1+s=a+s+1 by exact ar0 [_,_] [] kac (Y2 (Y0 (Y0 V0 J1) V1) (Y0 (Y0 V0 V1) J1))] at this
    exact this
  have:=this (n-s) 0 (by exact ar1 [_,_] [] 0x68214a000c203806100000014a000c20200610000508401 (Y0 (Y0 (Y0 J0 (Y2 V0 V1)) V1) V0) (Y1 V1 V0) hsn)
  rw[<- List.range_eq_range'] at this
  exact zd4 (by exact ar0 [_] [] 171801870336 (Y0 J0 (Y0 J0 V0))) this
noncomputable def zee(m:Nat)(y:List (Nat×Nat)):List (Nat×Nat):=y.map fun p=>(p.1+m,p.2+m)
noncomputable def zfu:Net->Net->Net
 |[],b=>b
 |a,[]=>a
 |x::a,y::b=>(x++y)::zfu a b
theorem zsu:zfu [] b=b:=rfl
theorem zj4:zfu (x::a) (y::b)=(x++y)::zfu a b:=rfl
def zv8 (m:Nat) (Ba Bb B:Nat->Nat):Prop:=(∀x,x<m->B x=Ba x)/\∀y,B (m+y)=m+Bb y
theorem zjy{Bb:Nat->Nat}(h:zv8 m Ba Bb B)(hx:∀p∈x,p.1<p.2/\p.2<m)(hy:∀p∈y,p.1<p.2/\p.2<n)(nx:(x.map (·.2)).Nodup)(ny:(y.map (·.2)).Nodup)(tx:zc7 Ba x=true)(ty:zc7 Bb y=true) :
  zc7 B (x++zee m y)=true/\zv8 m (zcy (fun l J=>l) x Ba) (zcy (fun l J=>l) y Bb) (zcy (fun l J=>l) (x++zee m y) B):=by
 rw[zfh] at tx ty
 have hmem:∀p∈x++zee m y,p∈x\/∃q∈y,p=(q.1+m,q.2+m):=by
  intro p hp
  rcases zaj.mp hp with hp |hp
  ·exact .inl hp
  ·revert hp;refine xL fun q hq wj=>?_;subst wj;exact .inr ⟨q,hq,rfl⟩
 have nd:((x++zee m y).map (·.2)).Nodup:=by
  rw[zan,zb3]
  refine⟨nx,?_,?_⟩
  ·unfold zee
   rw[za0]
   have:((fun p:Nat×Nat=>p.2)∘fun p:Nat×Nat=>(p.1+m,p.2+m))=(fun k=>k+m)∘fun p:Nat×Nat=>p.2:=rfl
   rw[this,<-za0]
   exact List.Pairwise.map _ (fun a b (h:a≠b)=>by exact ar1 [_,_,_] [] kau (Y8 (Y2 (Y0 V0 V1) (Y0 V2 V1)) J0) (Y8 (Y2 V0 V2) J0) h) ny
  ·intro a ha b hb
   revert ha;refine xL fun p hp wj=>?_;subst wj
   revert hb;refine xL fun q hq wj=>?_;subst wj
   revert hq;refine xL fun r hr wj=>?_;subst wj
   have:=(hx p hp).2
   show p.2≠r.2+m
   exact ar1 [_,_,_] [] kan (Y8 (Y2 V0 (Y0 V1 V2)) J0) (Y1 V0 V2) this
 refine⟨?_,?_,?_⟩
 ·rw[zfh]
  intro p hp
  rcases hmem p hp with hp |⟨q,hq,rfl⟩
  ·rw[h.1 _ (hx p hp).2];exact tx p hp
  ·show q.1+m+1=B (q.2+m)
   rw[Nat.add_comm q.2 m,h.2]
   have:=ty q hq
   exact ar1 [_,_,_] [] kad (Y2 (Y0 (Y0 V0 V1) J1) (Y0 V1 V2)) (Y2 (Y0 V0 J1) V2) this
 ·intro z hz
  rcases zcu (fun l J=>l) x Ba z with⟨p,hp,rfl,e⟩|e
  ·rw[e,zd5 _ _ nd (zb8 _ hp)]
   exact h.1 _ (by have:=hx p hp;exact ar2 [_,_,_] [] kab (Y1 V0 V1) (Y1 V2 V1) (Y1 V0 V2) hz this.1)
  ·rw[e]
   rcases zcu (fun l J=>l) (x++zee m y) B z with⟨p,hp,rfl,e'⟩|e'
   ·rcases hmem p hp with hp |⟨q,hq,rfl⟩
    ·rw[zd5 _ _ nx hp] at e
     rw[e',h.1 _ (by have:=hx p hp;exact ar2 [_,_,_] [] kab (Y1 V0 V1) (Y1 V2 V1) (Y1 V0 V2) hz this.1),e]
    ·exact absurd hz (by show ¬q.2+m<m;exact ar0 [_,_] [] 4679524742594560 (Y8 (Y1 (Y0 V0 V1) V1) J0))
   ·rw[e',h.1 z hz]
 ·intro z
  rcases zcu (fun l J=>l) y Bb z with⟨p,hp,rfl,e⟩|e
  ·rw[e,show m+p.2=((p.1+m,p.2+m):Nat×Nat).2 by show m+p.2=p.2+m;exact ar0 [_,_] [] kac (Y2 (Y0 V0 V1) (Y0 V1 V0)),zd5 _ _ nd (zbt _ (za6.mpr ⟨p,hp,rfl⟩))]
   show B (p.1+m)=_
   rw[Nat.add_comm p.1 m,h.2]
  ·rw[e]
   rcases zcu (fun l J=>l) (x++zee m y) B (m+z) with⟨p,hp,e0,e'⟩|e'
   ·rcases hmem p hp with hp |⟨q,hq,rfl⟩
    ·have:=(hx p hp).2;exact ar2 [_,_,_,_,_] [] 0xa5000810040308040 (Y2 V0 (Y0 V1 V2)) (Y2 V3 (Y0 V1 V4)) (Y1 V3 V1) e0 this
    ·have hqz:q.2=z:=by simp only at e0;exact ar1 [_,_,_] [] kad (Y2 V0 V1) (Y2 (Y0 V0 V2) (Y0 V2 V1)) e0
     subst hqz
     rw[zd5 _ _ ny hq] at e
     rw[e']
     show B (q.1+m)=_
     rw[Nat.add_comm q.1 m,h.2,e]
   ·rw[e',h.2]
theorem Fair.tail(h:Fair n (y::r)):Fair n r:=fun z hz=>h z (zag _ hz)
inductive BothN(m:Nat)(Ba Bb B:Nat->Nat)(net:Net):Prop
 |mk (B':Nat->Nat)(h1:zcp net B=some B')(h2:zv8 m Ba Bb B'):BothN m Ba Bb B net
theorem zq6:∀{b:Net}{Bb B Bb':Nat->Nat},zv8 m Ba Bb B->Fair n b->zcp b Bb=some Bb'->BothN m Ba Bb' B (b.map (zee m))
 |[],Bb,B,_,h,_,hb=>by obtain rfl:=zaa hb;exact⟨B,rfl,h⟩
 |y::b,Bb,B,Bb',h,fb,hb=>by
  obtain⟨ty,hb⟩:=zej hb
  have hy:=fb y zad
  have st:=zjy (x:=[]) h (fun J h=>nomatch h) hy.1 zbx hy.2 rfl ty
  obtain⟨B',h1,h2⟩:=zq6 st.2 fb.tail hb
  exact⟨B',zl8 st.1 h1,h2⟩
theorem zxd:∀a:Net,zfu a []=a
 |[]=>rfl
 |_::_=>rfl
theorem zlq:∀{a b:Net}{Ba Bb B Ba' Bb':Nat->Nat},zv8 m Ba Bb B->Fair m a->Fair n b->zcp a Ba=some Ba'->zcp b Bb=some Bb'->BothN m Ba' Bb' B (zfu a (b.map (zee m)))
 |[],_,_,_,_,_,_,h,_,fb,ha,hb=>by obtain rfl:=zaa ha;exact zq6 h fb hb
 |x::a,[],Ba,Bb,B,Ba',Bb',h,fa,fb,ha,hb=>by
  obtain⟨tx,ha⟩:=zej ha
  have hx:=fa x zad
  have st:=zjy (y:=[]) (n:=n) h hx.1 (fun J h=>nomatch h) hx.2 zbx tx rfl
  rw[show x++zee m []=x from za4 x] at st
  obtain⟨B',h1,h2⟩:=zlq (b:=[]) st.2 fa.tail fb ha hb
  exact⟨B',zl8 st.1 ((congrArg (fun z=>zcp z _) (zxd a)).symm.trans h1),h2⟩
 |x::a,y::b,Ba,Bb,B,Ba',Bb',h,fa,fb,ha,hb=>by
  obtain⟨tx,ha⟩:=zej ha
  obtain⟨ty,hb⟩:=zej hb
  have hx:=fa x zad
  have hy:=fb y zad
  have st:=zjy h hx.1 hy.1 hx.2 hy.2 tx ty
  obtain⟨B',h1,h2⟩:=zlq st.2 fa.tail fb.tail ha hb
  exact⟨B',zl8 st.1 h1,h2⟩
noncomputable def zew(m n:Nat):List (Nat×Nat):=(List.range n).map fun i=>(m-1,m+i)
noncomputable def zfs(m:Nat)(a:Net)(n:Nat)(b:Net):Net:=zfu a (b.map (zee m))++[zew m n]
theorem zok(hm:1<=m)(fa:Fair m a)(fb:Fair n b)(ta:zkl m a)(tb:zkl n b):zkl (m+n) (zfs m a n b):=by
 obtain⟨Ba,a1,a2⟩:=ta
 obtain⟨Bb,b1,b2⟩:=tb
 obtain⟨B,h1,h2⟩:=zlq (m:=m) (n:=n) (Ba:=id) (Bb:=id) (B:=id) ⟨fun J J=>rfl,fun J=>rfl⟩ fa fb a1 b1
 refine⟨fun x=>if m<=x/\x<m+n then 0 else B x,?_,?_⟩
 ·unfold zfs
  rw[zco,h1]
  show zcp [zew m n] B=_
  have hmem:∀p∈zew m n,∃i,i<n/\p=(m-1,m+i):=by
   intro p hp
   revert hp;refine xL fun i hi wj=>?_;subst wj
   exact⟨i,by simpa using hi,rfl⟩
  refine ze8 ?_ ?_ ?_ ?_
  ·unfold zew
   rw[za0]
   have:((fun p:Nat×Nat=>p.2)∘fun i=>(m-1,m+i))=fun i=>m+i:=rfl
   rw[this]
   exact List.Pairwise.map _ (fun a b (h:a≠b)=>by exact ar1 [_,_,_] [] kau (Y8 (Y2 (Y0 V0 V1) (Y0 V0 V2)) J0) (Y8 (Y2 V1 V2) J0) h) List.nodup_range
  ·intro p hp
   obtain⟨i,hi,rfl⟩:=hmem p hp
   show m-1+1=B (m+i)
   rw[h2.2,b2 i hi];exact ar1 [_] [] 0x61a085294001840800c203006100400014a000c20200610000508001194a000c20180610040508001 (Y2 (Y0 (Y2 V0 J1) J1) (Y0 V0 J0)) (Y0 J1 V0) hm
  ·intro p hp
   obtain⟨i,hi,rfl⟩:=hmem p hp
   show(if m<=m+i/\m+i<m+n then 0 else B (m+i))=B (m-1)
   rw[if_pos ⟨by exact ar0 [_,_] [] 171801870336 (Y0 V0 (Y0 V0 V1)),by exact ar1 [_,_,_] [] kaa (Y1 (Y0 V0 V1) (Y0 V0 V2)) (Y1 V1 V2) hi⟩,h2.1 _ (by exact ar1 [_] [] kah (Y1 (Y2 V0 J1) V0) (Y0 J1 V0) hm),a2 _ (by exact ar1 [_] [] kah (Y1 (Y2 V0 J1) V0) (Y0 J1 V0) hm)]
  ·intro x hx
   rw[if_neg]
   intro h
   exact hx (m-1,m+(x-m)) (za6.mpr ⟨x-m,by simp;exact ar2 [_,_,_] [] 0x1a085294a000c203006101c03081001840100005294001840400c20300610000508401 (Y1 (Y2 V0 V1) V2) (Y0 V1 V0) (Y1 V0 (Y0 V1 V2)) h.1 h.2,rfl⟩) (by show m+(x-m)=x;exact ar1 [_,_] [] kat (Y2 (Y0 V0 (Y2 V1 V0)) V1) (Y0 V0 V1) h.1)
 ·intro x hx
  by_cases h:m<=x
  ·simp only[h,hx,and_self,if_true]
  ·simp only[h,false_and,if_false]
   rw[h2.1 x (by exact ar1 [_,_] [] kaa (Y1 V0 V1) (Y8 (Y0 V1 V0) J0) h),a2 x (by exact ar1 [_,_] [] kaa (Y1 V0 V1) (Y8 (Y0 V1 V0) J0) h)]
noncomputable def oddL(y:List (Nat×Nat)):List (Nat×Nat):=y.map fun p=>(2*p.1+1,2*p.2+1)
def Odd(k:Nat)(Bn B:Nat->Nat):Prop:=(∀i,i<k->B (2*i+1)=2*Bn i)/\∀i,B (2*i)=2*i
theorem zu3:∀{a:Net}{Bn B Bn':Nat->Nat},Odd k Bn B->Fair k a->zcp a Bn=some Bn'->∃B',zcp (a.map oddL) B=some B'/\Odd k Bn' B'
 |[],Bn,B,_,h,_,ht=>by(injection ht with Ja;subst Ja);exact⟨B,rfl,h⟩
 |y::r,Bn,B,Bn',h,hf,ht=>by
  obtain⟨hl,ht⟩:=zej ht
  ·have hy:=hf y zad
   rw[zfh] at hl
   have nd:((oddL y).map (·.2)).Nodup:=by
    unfold oddL
    rw[za0]
    have:((fun p:Nat×Nat=>p.2)∘fun p:Nat×Nat=>(2*p.1+1,2*p.2+1))=(fun k=>2*k+1)∘fun p:Nat×Nat=>p.2:=rfl
    rw[this,<-za0]
    exact List.Pairwise.map _ (fun a b (h:a≠b)=>by exact ar1 [_,_] [] kav (Y8 (Y2 (Y0 (Y1 J2 V0) J1) (Y0 (Y1 J2 V1) J1)) J0) (Y8 (Y2 V0 V1) J0) h) hy.2
   have t1:zc7 B (oddL y)=true:=by
    rw[zfh]
    intro p hp
    revert hp;refine xL fun q hq wj=>?_;subst wj
    show 2*q.1+1+1=B (2*q.2+1)
    rw[h.1 _ (hy.1 q hq).2]
    have:=hl q hq
    exact ar1 [_,_] [] 0x6294001880200c20000a5000820080308000 (Y2 (Y0 (Y0 (Y1 J2 V0) J1) J1) (Y1 J2 V1)) (Y2 (Y0 V0 J1) V1) this
   have st:Odd k (zcy (fun l J=>l) y Bn) (zcy (fun l J=>l) (oddL y) B):=by
    constructor
    ·intro i hi
     rcases zcu (fun l J=>l) y Bn i with⟨p,hp,rfl,e⟩|e
     ·rw[e,show 2*p.2+1=((2*p.1+1,2*p.2+1):Nat×Nat).2 from rfl,zd5 _ _ nd (za6.mpr ⟨p,hp,rfl⟩)]
      exact h.1 _ (by have:=hy.1 p hp;exact ar2 [_,_,_] [] kab (Y1 V0 V1) (Y1 V2 V1) (Y1 V0 V2) hi this.1)
     ·rw[e]
      rcases zcu (fun l J=>l) (oddL y) B (2*i+1) with⟨p,hp,e0,e'⟩|e'
      ·revert hp;refine xL fun q hq wj=>?_;subst wj
       have hqi:q.2=i:=by simp only at e0;exact ar1 [_,_] [] 0x6294001840200c40000a5000810080310000 (Y2 V0 V1) (Y2 (Y0 (Y1 J2 V0) J1) (Y0 (Y1 J2 V1) J1)) e0
       subst hqi
       rw[zd5 _ _ hy.2 hq] at e
       rw[e']
       show B (2*q.1+1)=_
       rw[h.1 _ (by have:=hy.1 q hq;exact ar2 [_,_,_] [] kab (Y1 V0 V1) (Y1 V2 V1) (Y1 V0 V2) hi this.1),e]
      ·rw[e',h.1 i hi]
    ·intro i
     rcases zcu (fun l J=>l) (oddL y) B (2*i) with⟨p,hp,e0,e'⟩|e'
     ·revert hp;refine xL fun q hq wj=>?_;subst wj
      simp only at e0;exact ar2 [_,_,_] [] 0x8294001840200c40000a5000810080310000 (Y2 V0 (Y1 J2 V1)) (Y2 (Y0 (Y1 J2 V2) J1) (Y1 J2 V1)) (Y7 (Y1 V2 V1) (Y0 V1 V2)) e0 (Nat.lt_or_ge _ _)
     ·rw[e',h.2]
   obtain⟨B',h1,h2⟩:=zu3 st (fun z hz=>hf z (zag _ hz)) ht
   exact⟨B',zl8 t1 h1,h2⟩
noncomputable def zr9(n:Nat):List (Nat×Nat):=(List.range (n/2)).map fun i=>(2*i,2*i+1)
noncomputable def endL(n:Nat):List (Nat×Nat):=(List.range ((n-1)/2)).map fun i=>(2*i+1,2*i+2)
noncomputable def zd0(n:Nat)(a:Net):Net:=[zr9 n]++a.map oddL++(if 2<n then[endL n] else[])
theorem znt(fa:Fair (n/2) a)(ta:zkl (n/2) a):zkl n (zd0 n a):=by
 obtain⟨Ba,a1,a2⟩:=ta
 have h0:zcp [zr9 n] id=some (fun x=>if x%2=1/\x<2*(n/2) then x-1 else x):=by
  have hmem:∀p∈zr9 n,∃i,i<n/2/\p=(2*i,2*i+1):=by
   intro p hp
   revert hp;refine xL fun i hi wj=>?_;subst wj
   exact⟨i,by simpa using hi,rfl⟩
  refine ze8 ?_ ?_ ?_ ?_
  ·unfold zr9
   rw[za0]
   have:((fun p:Nat×Nat=>p.2)∘fun i=>(2*i,2*i+1))=fun i=>2*i+1:=rfl
   rw[this]
   exact List.Pairwise.map _ (fun a b (h:a≠b)=>by exact ar1 [_,_] [] kav (Y8 (Y2 (Y0 (Y1 J2 V0) J1) (Y0 (Y1 J2 V1) J1)) J0) (Y8 (Y2 V0 V1) J0) h) List.nodup_range
  ·intro p hp;obtain⟨i,hi,rfl⟩:=hmem p hp;rfl
  ·intro p hp
   obtain⟨i,hi,rfl⟩:=hmem p hp
   show(if(2*i+1)%2=1/\2*i+1<2*(n/2) then 2*i+1-1 else 2*i+1)=2*i
   rw[if_pos ⟨by exact ar1 [_] [] kaw (Y2 (Y4 (Y0 (Y1 J2 V0) J1) J2) J1) (Y7 (Y1 V0 (Y3 (Y0 (Y1 J2 V0) J1) J2)) (Y0 (Y3 (Y0 (Y1 J2 V0) J1) J2) V0)) (Nat.lt_or_ge _ _),by exact ar1 [_,_] [] kae (Y1 (Y0 (Y1 J2 V0) J1) (Y1 J2 (Y3 V1 J2))) (Y1 V0 (Y3 V1 J2)) hi⟩];exact ar0 [_] [] kbi (Y2 (Y2 (Y0 (Y1 J2 V0) J1) J1) (Y1 J2 V0))
  ·intro x hx
   rw[if_neg];rfl
   intro h
   exact hx (2*(x/2),2*(x/2)+1) (za6.mpr ⟨x/2,by simp;exact ar1 [_,_] [] 0x65294001880200c20180610000710001 (Y1 (Y3 V0 J2) (Y3 V1 J2)) (Y1 V0 (Y1 J2 (Y3 V1 J2))) h.2,rfl⟩) (by show 2*(x/2)+1=x;exact ar1 [_] [] kbj (Y2 (Y0 (Y1 J2 (Y3 V0 J2)) J1) V0) (Y2 (Y4 V0 J2) J1) h.1)
 obtain⟨B,h1,h2⟩:=zu3 (k:=n/2) (Bn:=id) (B:=fun x=>if x%2=1/\x<2*(n/2) then x-1 else x) ⟨fun i hi=>by
  show(if(2*i+1)%2=1/\2*i+1<2*(n/2) then 2*i+1-1 else 2*i+1)=2*i
  rw[if_pos ⟨by exact ar1 [_] [] kaw (Y2 (Y4 (Y0 (Y1 J2 V0) J1) J2) J1) (Y7 (Y1 V0 (Y3 (Y0 (Y1 J2 V0) J1) J2)) (Y0 (Y3 (Y0 (Y1 J2 V0) J1) J2) V0)) (Nat.lt_or_ge _ _),by exact ar1 [_,_] [] kae (Y1 (Y0 (Y1 J2 V0) J1) (Y1 J2 (Y3 V1 J2))) (Y1 V0 (Y3 V1 J2)) hi⟩];exact ar0 [_] [] kbi (Y2 (Y2 (Y0 (Y1 J2 V0) J1) J1) (Y1 J2 V0)),fun i=>by
  show(if(2*i)%2=1/\2*i<2*(n/2) then 2*i-1 else 2*i)=2*i
  rw[if_neg (by exact ar1 [_,_] [] 0x719085294001880500c20180810000000c071008008803294a000c401008100003080203880400440 (Y8 (Y6 (Y2 (Y4 (Y1 J2 V0) J2) J1) (Y1 (Y1 J2 V0) (Y1 J2 (Y3 V1 J2)))) J0) (Y7 (Y1 (Y3 (Y1 J2 V0) J2) V0) (Y0 V0 (Y3 (Y1 J2 V0) J2))) (Nat.lt_or_ge _ _))]⟩ fa a1
 have hodd:∀x,x%2=1->x<n->B x=0:=by
  intro x h3 h4
  have:=h2.1 (x/2) (by exact ar2 [_,_] [] kbk (Y1 (Y3 V0 J2) (Y3 V1 J2)) (Y2 (Y4 V0 J2) J1) (Y1 V0 V1) h3 h4)
  rw[show 2*(x/2)+1=x by exact ar1 [_] [] kbj (Y2 (Y0 (Y1 J2 (Y3 V0 J2)) J1) V0) (Y2 (Y4 V0 J2) J1) h3,a2 _ (by exact ar2 [_,_] [] kbk (Y1 (Y3 V0 J2) (Y3 V1 J2)) (Y2 (Y4 V0 J2) J1) (Y1 V0 V1) h3 h4)] at this
  exact this
 have heven:∀x,x%2=0->B x=x:=by
  intro x h3
  have:=h2.2 (x/2)
  rw[show 2*(x/2)=x by exact ar1 [_] [] 0x186528003080401840001c4000465294001840400c20100810000710001 (Y2 (Y1 J2 (Y3 V0 J2)) V0) (Y2 (Y4 V0 J2) J0) h3] at this
  exact this
 by_cases hn:2<n
 ·refine⟨fun x=>if x<n then 0 else B x,?_,fun x hx=>by simp only[hx,if_true]⟩
  unfold zd0
  rw[if_pos hn,zco,zco,h0]
  show(zcp (a.map oddL) _).bind (zcp [endL n])=_
  rw[h1]
  show zcp [endL n] B=_
  have hmem:∀p∈endL n,∃i,i<(n-1)/2/\p=(2*i+1,2*i+2):=by
   intro p hp
   revert hp;refine xL fun i hi wj=>?_;subst wj
   exact⟨i,by simpa using hi,rfl⟩
  refine ze8 ?_ ?_ ?_ ?_
  ·unfold endL
   rw[za0]
   have:((fun p:Nat×Nat=>p.2)∘fun i=>(2*i+1,2*i+2))=fun i=>2*i+2:=rfl
   rw[this]
   exact List.Pairwise.map _ (fun a b (h:a≠b)=>by exact ar1 [_,_] [] kav (Y8 (Y2 (Y0 (Y1 J2 V0) J2) (Y0 (Y1 J2 V1) J2)) J0) (Y8 (Y2 V0 V1) J0) h) List.nodup_range
  ·intro p hp
   obtain⟨i,hi,rfl⟩:=hmem p hp
   show 2*i+1+1=B (2*i+2)
   rw[heven _ (by exact ar1 [_] [] 0xc8194a50006100c03100401840001c401880400440194a50006200804080001840101c4018804004402800308000 (Y2 (Y4 (Y0 (Y1 J2 V0) J2) J2) J0) (Y7 (Y1 (Y3 (Y0 (Y1 J2 V0) J2) J2) (Y0 V0 J1)) (Y0 (Y0 V0 J1) (Y3 (Y0 (Y1 J2 V0) J2) J2))) (Nat.lt_or_ge _ _))]
  ·intro p hp
   obtain⟨i,hi,rfl⟩:=hmem p hp
   show(if 2*i+2<n then 0 else B (2*i+2))=B (2*i+1)
   rw[if_pos (by exact ar2 [_,_] [] kbl (Y1 (Y0 (Y1 J2 V0) J2) V1) (Y1 J2 V1) (Y1 V0 (Y3 (Y2 V1 J1) J2)) hn hi),hodd _ (by exact ar1 [_] [] kaw (Y2 (Y4 (Y0 (Y1 J2 V0) J1) J2) J1) (Y7 (Y1 V0 (Y3 (Y0 (Y1 J2 V0) J1) J2)) (Y0 (Y3 (Y0 (Y1 J2 V0) J1) J2) V0)) (Nat.lt_or_ge _ _)) (by exact ar1 [_,_] [] 0x3194a528003080a01880600c201806100005080213080508021 (Y1 (Y0 (Y1 J2 V0) J1) V1) (Y1 V0 (Y3 (Y2 V1 J1) J2)) hi)]
  ·intro x hx
   by_cases hxn:x<n
   ·rw[if_pos hxn]
    by_cases h3:x%2=1
    ·rw[hodd x h3 hxn]
    ·by_cases h4:x=0
     ·rw[h4,heven 0 rfl]
     ·exact absurd (show 2*(x/2-1)+2=x by exact ar3 [_] [] 0x940ca5000610080308020388000a865294a000c402006100c03080402040001c40004a000c20000e340c85294a000c40480610200308040188010080610001194a50006101803100401840001840004a10184000523294001840200c20080e200023194a528003080c018405010201806200405080c20002710001 (Y2 (Y0 (Y1 J2 (Y2 (Y3 V0 J2) J1)) J2) V0) (Y8 (Y2 (Y4 V0 J2) J1) J0) (Y8 (Y2 V0 J0) J0) (Y7 (Y1 J0 (Y3 V0 J2)) (Y0 (Y3 V0 J2) J0)) h3 h4 (Nat.lt_or_ge _ _)) (hx (2*(x/2-1)+1,2*(x/2-1)+2) (za6.mpr ⟨x/2-1,by simp;exact ar2 [_,_] [] 0xd03190a5294a000c405806103003080c01840300c40080a028401098402840108c63294a5294001880b00c206806201c03080a01840400c20080a100426100a100426100012840610001 (Y1 (Y2 (Y3 V0 J2) J1) (Y3 (Y2 V1 J1) J2)) (Y1 J2 V1) (Y1 V0 V1) hn hxn,rfl⟩))
   ·rw[if_neg hxn]
 ·refine⟨B,?_,?_⟩
  ·unfold zd0
   rw[if_neg hn,za4,zco,h0]
   exact h1
  ·intro x hx
   by_cases h3:x%2=1
   ·exact hodd x h3 hx
   ·rw[heven x (by exact ar1 [_] [] 0x3206528003080401840101c40004a50006100403080002800308000 (Y2 (Y4 V0 J2) J0) (Y8 (Y2 (Y4 V0 J2) J1) J0) h3)];exact ar4 [_,_] [] 0x1943294001840200c20080e20002c194a528003080801840300c40100810000710001194a528003080c01840700c401006100007100012800308000 (Y2 V0 J0) (Y8 (Y1 J2 V1) J0) (Y1 V0 V1) (Y8 (Y2 (Y4 V0 J2) J1) J0) (Y7 (Y1 J0 (Y3 V0 J2)) (Y0 (Y3 V0 J2) J0)) hn hx h3 (Nat.lt_or_ge _ _)
variable {B:Prop}{S:List Nat}{f:String}{r:Loc}{x:Option V}
theorem zia(hN:m<=N):∀{x z:List (Nat×Nat)}{lo:Nat},lo<=m->zdj m lo x->zdj N m z->zdj N lo (x++z)
 |[],z,lo,h,_,hz=>zd4 h hz
 |(l,k)::r,z,lo,h,q,hz=>⟨q.1,zat q.2.1 hN,q.2.2.1,zia hN q.2.1 q.2.2.2 hz⟩
theorem zgb{m n:Nat}:∀{y:List (Nat×Nat)}{lo:Nat},zdj n lo y->zdj (m+n) (m+lo) (zee m y)
 |[],_,_=>trivial
 |(l,k)::r,lo,⟨a,b,c,d⟩=>⟨by exact ar1 [_,_,_] [] kaa (Y1 (Y0 V0 V1) (Y0 V2 V1)) (Y1 V0 V2) a,by exact ar1 [_,_,_] [] kaa (Y1 (Y0 V0 V1) (Y0 V1 V2)) (Y1 V0 V2) b,by exact ar1 [_,_,_] [] kaa (Y0 (Y0 V0 V1) (Y0 V2 V0)) (Y0 V1 V2) c,by
  have:=zgb (m:=m) d
  rw[show m+(k+1)=k+m+1 by exact ar0 [_,_] [] kac (Y2 (Y0 V0 (Y0 V1 J1)) (Y0 (Y0 V1 V0) J1))] at this
  exact this⟩
theorem zhh:∀(a b:Net),(zfu a b).length=max a.length b.length
 |[],b=>(Nat.zero_max b.length).symm
 |x::a,[]=>(Nat.max_zero (x::a).length).symm
 |x::a,y::b=>by simp only[zj4,zba,zhh a b];exact ar2 [_,_,_,_] [] 0x190a210a528003080c018402010200004008084294a50006101803080402040000c200804008144214a528003080c01840201020000610040200404214a5000610180308040204000080102144214a5000610180408040184000080101085294a000c20300810080308060184000080102884294a50006101804080401840300c200004008084294a000c2030081008030800010020 (Y2 (Y0 V0 J1) V1) (Y7 (Y6 (Y2 V0 V2) (Y0 V3 V2)) (Y6 (Y2 V0 V3) (Y0 V2 V3))) (Y7 (Y6 (Y2 V1 (Y0 V2 J1)) (Y0 (Y0 V3 J1) (Y0 V2 J1))) (Y6 (Y2 V1 (Y0 V3 J1)) (Y0 (Y0 V2 J1) (Y0 V3 J1)))) (Ar.mx _ _) (Ar.mx _ _)
theorem znm:∀{a b:Net},(∀y∈a,zcl m y)->(∀y∈b,zcl n y)->∀y∈zfu a (b.map (zee m)),zcl (m+n) y
 |[],b,_,hb,y,hy=>by
  simp only[zsu,za6] at hy
  obtain⟨z,hz,rfl⟩:=hy
  obtain⟨h1,h2⟩:=hb z hz
  refine⟨by simp[zee,h1],zd4 (zax _) (zgb h2)⟩
 |x::a,[],ha,_,y,hy=>by
  have:y∈x::a:=hy
  obtain⟨h1,h2⟩:=ha y this
  refine⟨h1,?_⟩
  have:=zia (m:=m) (N:=m+n) (z:=[]) (by exact ar0 [_,_] [] 171801870336 (Y0 V0 (Y0 V0 V1))) (zax _) h2 trivial
  simpa using this
 |x::a,z::b,ha,hb,y,hy=>by
  simp only[za5,zj4] at hy
  rcases zah.mp hy with rfl |hy
  ·obtain⟨h1,h2⟩:=ha x zad
   obtain⟨h3,h4⟩:=hb z zad
   refine⟨by simp[h1],zia (by exact ar0 [_,_] [] 171801870336 (Y0 V0 (Y0 V0 V1))) (zax _) h2 (zgb h4)⟩
  ·exact znm (fun y h=>ha y (zag _ h)) (fun y h=>hb y (zag _ h)) y hy
theorem zie(f g:Nat->Nat)(hfg:∀i,f i<g i)(hg:∀i,g i<g (i+1)):∀(k a:Nat),(∀i,i<a+k->g i<N)->zdj N (g a) ((List.range' a k).map fun i=>(f i,g i))
 |0,_,_=>trivial
 |k+1,a,h=>⟨hfg a,h a (by exact ar0 [_,_] [] 171801870336 (Y1 V0 (Y0 V0 (Y0 V1 J1)))),zae _,zd4 (hg a) (zie f g hfg hg k (a+1) fun i hi=>h i (by exact ar1 [_,_,_] [] kaa (Y1 V0 (Y0 V1 (Y0 V2 J1))) (Y1 V0 (Y0 (Y0 V1 J1) V2)) hi))⟩
theorem zmo(f g:Nat->Nat)(hfg:∀i,f i<g i)(hg:∀i,g i<g (i+1))(hk:0<k)(h:∀i,i<k->g i<N):zcl N ((List.range k).map fun i=>(f i,g i)):=by
 refine⟨fun e=>?_,?_⟩
 ·have:=congrArg List.length e;simp at this;exact ar2 [_] [] kag J0 (Y1 J0 V0) (Y2 V0 J0) hk this
 ·have:=zie f g hfg hg k 0 (N:=N) (fun i hi=>h i (by exact ar1 [_,_] [] kaa (Y1 V0 V1) (Y1 V0 (Y0 J0 V1)) hi))
  rw[<- List.range_eq_range'] at this
  exact zd4 (zax _) this
theorem last_ok(hm:1<=m)(hn:1<=n):zcl (m+n) (zew m n):=
 zmo (fun J=>m-1) (fun i=>m+i) (fun i=>by exact ar1 [_,_] [] kah (Y1 (Y2 V0 J1) (Y0 V0 V1)) (Y0 J1 V0) hm) (fun i=>by exact ar0 [_,_] [] 171801870336 (Y1 (Y0 V0 V1) (Y0 V0 (Y0 V1 J1)))) hn (fun i hi=>by exact ar1 [_,_,_] [] kaa (Y1 (Y0 V0 V1) (Y0 V0 V2)) (Y1 V1 V2) hi)
theorem zw9(hm:1<=m)(hn:1<=n)(ha:∀y∈a,zcl m y)(hb:∀y∈b,zcl n y):∀y∈zfs m a n b,zcl (m+n) y:=by
 intro y hy
 rcases zaj.mp hy with hy |hy
 ·exact znm ha hb y hy
 ·rw[zaf.mp hy];exact last_ok hm hn
theorem zrm(m n:Nat)(a b:Net):(zfs m a n b).length=max a.length b.length+1:=by
 simp[zfs,zhh]
theorem zlg:∀{y:List (Nat×Nat)} {lo:Nat},zdj k lo y->zdj (2*k) (2*lo) (oddL y)
 |[],_,_=>trivial
 |(l,h)::r,lo,⟨a,b,c,d⟩=>⟨by exact ar1 [_,_] [] kae (Y1 (Y0 (Y1 J2 V0) J1) (Y0 (Y1 J2 V1) J1)) (Y1 V0 V1) a,by exact ar1 [_,_] [] kae (Y1 (Y0 (Y1 J2 V0) J1) (Y1 J2 V1)) (Y1 V0 V1) b,by exact ar1 [_,_] [] kae (Y0 (Y1 J2 V0) (Y0 (Y1 J2 V1) J1)) (Y0 V0 V1) c,zd4 (by exact ar0 [_] [] 171801870336 (Y0 (Y0 (Y0 (Y1 J2 V0) J1) J1) (Y1 J2 (Y0 V0 J1)))) (zlg d)⟩
theorem zn3 (h:m<=N):∀{y:List (Nat×Nat)} {lo:Nat},zdj m lo y->zdj N lo y
 |[],_,_=>trivial
 |(l,k)::r,lo,⟨a,b,c,d⟩=>⟨a,by exact ar2 [_,_,_] [] kab (Y1 V0 V1) (Y0 V2 V1) (Y1 V0 V2) h b,c,zn3 h d⟩
theorem zwh(hn:2<=n)(ha:∀y∈a,zcl (n/2) y):∀y∈zd0 n a,zcl n y:=by
 intro y hy
 unfold zd0 at hy
 rcases zaj.mp hy with hy |hy
 ·rcases zaj.mp hy with hy |hy
  ·rw[zaf.mp hy]
   exact zmo (fun i=>2*i) (fun i=>2*i+1) (fun i=>by exact ar0 [_] [] 171801870336 (Y1 (Y1 J2 V0) (Y0 (Y1 J2 V0) J1))) (fun i=>by exact ar0 [_] [] 171801870336 (Y1 (Y0 (Y1 J2 V0) J1) (Y0 (Y1 J2 (Y0 V0 J1)) J1))) (by exact ar1 [_] [] 0x65294001880200c20180610040610001 (Y1 J0 (Y3 V0 J2)) (Y0 J2 V0) hn) (fun i hi=>by exact ar1 [_,_] [] 0x65294001840200c40180610000610021 (Y1 (Y0 (Y1 J2 V0) J1) V1) (Y1 V0 (Y3 V1 J2)) hi)
  ·revert hy;refine xL fun z hz wj=>?_;subst wj
   obtain⟨h1,h2⟩:=ha z hz
   exact⟨by simp[oddL,h1],zn3 (by exact ar0 [_] [] 0x194a000c20100610000610001 (Y0 (Y1 J2 (Y3 V0 J2)) V0)) (zlg h2)⟩
 ·split at hy
  ·rw[zaf.mp hy]
   exact zmo (fun i=>2*i+1) (fun i=>2*i+2) (fun i=>by exact ar0 [_] [] 171801870336 (Y1 (Y0 (Y1 J2 V0) J1) (Y0 (Y1 J2 V0) J2))) (fun i=>by exact ar0 [_] [] 171801870336 (Y1 (Y0 (Y1 J2 V0) J2) (Y0 (Y1 J2 (Y0 V0 J1)) J2))) (by exact ar1 [_] [] 0x3194a528003100a01840600c202006100405080013080508001 (Y1 J0 (Y3 (Y2 V0 J1) J2)) (Y1 J2 V0) (by assumption)) (fun i hi=>by exact ar2 [_,_] [] kbl (Y1 (Y0 (Y1 J2 V0) J2) V1) (Y0 J2 V1) (Y1 V0 (Y3 (Y2 V1 J1) J2)) hn hi)
  ·cases hy
theorem zsp(n:Nat)(a:Net):(zd0 n a).length=1+a.length+(if 2<n then 1 else 0):=by
 unfold zd0;split<;>simp<;>exact ar0 [_] [] kac (Y2 (Y0 V0 J1) (Y0 J1 V0))
theorem zke{net:Net}(h:∀y∈net,zcl n y):Fair n net:=fun y hy=>by
 have:=zd2 (h y hy).2
 exact⟨fun p hp=>⟨(this.1 p hp).1,(this.1 p hp).2.1⟩,this.2⟩
structure Fine(n:Nat)(net:Net):Prop where
 ok:∀y∈net,zcl n y
 tells:zkl n net
theorem Fine.whole{net:Net}(F:Fine n net):∀x,x<n->zob net x=List.range (x+1):=F.tells.whole (zke F.ok)
theorem Told.fine{net:Net}(T:Told n net):Fine n net:=⟨T.ok,T.tells⟩
theorem zp5(hm:1<=m)(hn:1<=n)(ha:Fine m a)(hb:Fine n b):Fine (m+n) (zfs m a n b):=
 ⟨zw9 hm hn ha.ok hb.ok,zok hm (zke ha.ok) (zke hb.ok) ha.tells hb.tells⟩
theorem zp2(hn:2<=n)(ha:Fine (n/2) a):Fine n (zd0 n a):=⟨zwh hn ha.ok,znt (zke ha.ok) ha.tells⟩
theorem fine_one(n:Nat):Fine n (ze1 n):=⟨zo4 n,zki n⟩
theorem zrg:Fine 1 []:=⟨fun y hy=>(by cases hy),⟨id,rfl,fun x hx=>(by show x=0;exact ar1 [_] [] kas (Y2 V0 J0) (Y1 V0 J1) hx)⟩⟩
theorem fine_dbl(ha:∀y∈a,zcl n y)(hs:zcp a id=some (fun x=>if x<n then x+1-s else x))(h1:1<=s)(h:n<=s):Fine n a:=
 ⟨ha,_,hs,fun x hx=>by simp only[hx,if_true];exact ar2 [_,_,_] [] 0xc3410a5000610180308020000a5294001840600c2038061010030800028423080012800308000 (Y2 (Y2 (Y0 V0 J1) V1) J0) (Y0 V2 V1) (Y1 V0 V2) h hx⟩
theorem dbl_next(hs:zcp a id=some (fun x=>if x<n then x+1-s else x))(h1:1<=s):zcp (a++[zei n s]) id=some (fun x=>if x<n then x+1-2*s else x):=by
 rw[zco,hs];exact dbl_step h1
theorem dbl_zero(n:Nat):zcp [] id=some (fun x=>if x<n then x+1-1 else x):=by
 show some id=_
 congr 1;funext x;simp
variable {a:Ex}{b:Int}{s:Loc}
noncomputable def zjq:Nat->Nat->Net
 |0,_=>[]
 |f+1,n=>if n<=1 then[] else zfs ((n+1)/2) (zjq f ((n+1)/2)) (n-(n+1)/2) (zjq f (n-(n+1)/2))
noncomputable def zp9:Nat->Nat->Net
 |0,_=>[]
 |f+1,n=>if n<=1 then[] else zd0 n (zp9 f (n/2))
noncomputable def zfr(n:Nat):Net:=zjq n n
noncomputable def zih(n:Nat):Net:=zp9 n n
inductive Half(n N:Nat):Prop
 |mk (m k:Nat)(hn:n=m+k)(hm:(n+1)/2=m)(h1:1<=m)(h2:1<=k)(h3:m<=N)(h4:k<=N)(h5:n/2=k)(h6:n-m=k)(h7:k<=m):Half n N
theorem zf0(h0:1<=n)(h1:n≠1)(h:n<=N+1):Half n N:=⟨(n+1)/2,n/2,by exact ar0 [_] [] 0x1863294a000c402006100c030802030800098401840008c65294001880400c201006100006100013080308001 (Y2 V0 (Y0 (Y3 (Y0 V0 J1) J2) (Y3 V0 J2))),rfl,by exact ar1 [_] [] 0x3294a000c401006100c03080203080308001 (Y0 J1 (Y3 (Y0 V0 J1) J2)) (Y0 J1 V0) h0,by exact ar2 [_] [] 0x8194a50006200c03080401840101840004a5000610080308000 (Y0 J1 (Y3 V0 J2)) (Y0 J1 V0) (Y8 (Y2 V0 J1) J0) h0 h1,by exact ar3 [_,_] [] 0x103294a50006200c03100c01840200c20000c200c20004a5000610080308000 (Y0 (Y3 (Y0 V0 J1) J2) V1) (Y0 J1 V0) (Y8 (Y2 V0 J1) J0) (Y0 V0 (Y0 V1 J1)) h0 h1 h,by exact ar1 [_,_] [] kax (Y0 (Y3 V0 J2) V1) (Y0 V0 (Y0 V1 J1)) h,rfl,by exact ar0 [_] [] 0x61a08528003080c01840100003194a528003101001880400c20180610040610001308030800129840184000802318ca5294001880700c40280610080308000308000984018400094c200c2000401 (Y2 (Y2 V0 (Y3 (Y0 V0 J1) J2)) (Y3 V0 J2)),by exact ar0 [_] [] 0xc65294001880400c201006100406100610002610001 (Y0 (Y3 V0 J2) (Y3 (Y0 V0 J1) J2))⟩
theorem zgk:∀(f g n:Nat),1<=n->n<=f->n<=g->zjq f n=zjq g n
 |0,_,_,h1,h,_=>absurd (zac h1 h) (by decide)
 |_+1,0,_,h1,_,h=>absurd (zac h1 h) (by decide)
 |f+1,g+1,n,h1,hf,hg=>by
  show(if n<=1 then[] else _)=(if n<=1 then[] else _)
  by_cases h:n<=1
  ·rw[if_pos h,if_pos h]
  ·obtain⟨m,k,_,e,a1,a2,a3,a4,_,e2,_⟩:=zf0 h1 (fun e=>h (za8 e)) hf
   obtain⟨m',k',_,e',_,_,b3,b4,_,e2',_⟩:=zf0 h1 (fun e=>h (za8 e)) hg
   obtain rfl:=e.symm.trans e'
   obtain rfl:=e2.symm.trans e2'
   rw[if_neg h,if_neg h,e,e2,zgk f g m a1 a3 b3,zgk f g k a2 a4 b4]
theorem zn2:∀(f g n:Nat),1<=n->n<=f->n<=g->zp9 f n=zp9 g n
 |0,_,_,h1,h,_=>absurd (zac h1 h) (by decide)
 |_+1,0,_,h1,_,h=>absurd (zac h1 h) (by decide)
 |f+1,g+1,n,h1,hf,hg=>by
  show(if n<=1 then[] else _)=(if n<=1 then[] else _)
  by_cases h:n<=1
  ·rw[if_pos h,if_pos h]
  ·obtain⟨m,k,_,e,a1,a2,a3,a4,e2,_,_⟩:=zf0 h1 (fun e=>h (za8 e)) hf
   obtain⟨m',k',_,e',_,_,b3,b4,e2',_,_⟩:=zf0 h1 (fun e=>h (za8 e)) hg
   obtain rfl:=e2.symm.trans e2'
   rw[if_neg h,if_neg h,e2,zn2 f g k a2 a4 b4]
theorem zil(h1:1<=m)(h2:1<=k)(e:n=m+k)(em:(n+1)/2=m):zfr n=zfs m (zfr m) k (zfr k):=by
 obtain⟨j,rfl⟩:=Nat.exists_eq_add_of_le' h1
 subst e
 have hk:j+1+k-(j+1)=k:=Nat.add_sub_cancel_left ..
 have e2:j+1+k=(j+k)+1:=Nat.add_right_comm ..
 unfold zfr
 rw[e2] at em hk ⊢
 show(if j+k+1<=1 then[] else _)=_
 rw[if_neg (Nat.not_le.mpr (Nat.succ_lt_succ (zat h2 (Nat.le_add_left ..)))),em,hk,zgk (j+k) (j+1) (j+1) h1 (Nat.add_le_add_left h2 j) (zae _),zgk (j+k) k k h2 (Nat.le_add_left ..) (zae _)]
theorem zjb(h1:1<=m)(h2:1<=k)(e:n=m+k)(em:n/2=k):zih n=zd0 n (zih k):=by
 obtain⟨j,rfl⟩:=Nat.exists_eq_add_of_le' h1
 subst e
 have e2:j+1+k=(j+k)+1:=Nat.add_right_comm ..
 unfold zih
 rw[e2] at em ⊢
 show(if j+k+1<=1 then[] else _)=_
 rw[if_neg (Nat.not_le.mpr (Nat.succ_lt_succ (zat h2 (Nat.le_add_left ..)))),em,zn2 (j+k) k k h2 (Nat.le_add_left ..) (zae _)]
theorem half_len{a b:Nat}(ha:a<=m-1)(hb:b<=k-1)(hm:1<=m)(hk:1<=k):max a b+1<=m+k-1:=by exact ar5 [_,_,_,_,_] [] 0xb1a064214a5294a50006103003081c01840f00c208006101403080401840101407014201882108c85294a528003081401840c00c206806101403080601840001c050806208425080411a064214a5294a50006103003081a01840f00c208006101403080401840101407014201882108c85294a528003081401840b00c207006101403080601840001c05080620842508021 (Y0 (Y0 V0 J1) (Y2 (Y0 V1 V2) J1)) (Y0 V3 (Y2 V1 J1)) (Y0 V4 (Y2 V2 J1)) (Y0 J1 V1) (Y0 J1 V2) (Y7 (Y6 (Y2 V0 V3) (Y0 V4 V3)) (Y6 (Y2 V0 V4) (Y0 V3 V4))) ha hb hm hk (Ar.mx _ _)
theorem pair_len{x:Nat}(hx:x<=k-1)(hm:k<=m)(hk:1<=k):1+x+(if 2<m+k then 1 else 0)<=m+k-1:=by split<;>(first |exact ar3 [_,_,_] [] 0x68190a5294a000c204806102803081801840300c20080602840310421194a5294a000c403806202003081201840a00c401806200405080620842508041 (Y0 (Y0 (Y0 J1 V0) J1) (Y2 (Y0 V1 V2) J1)) (Y0 V0 (Y2 V2 J1)) (Y0 V2 V1) (Y1 J2 (Y0 V1 V2)) hx hm (by assumption) |exact ar3 [_,_,_] [] 0x68190a5294a50006102403081401840b00c406006100c0308020180a100c4108465294a50006101c03101001840900c401806100405080620842508041 (Y0 (Y0 (Y0 J1 V0) J0) (Y2 (Y0 V1 V2) J1)) (Y0 V0 (Y2 V2 J1)) (Y0 V2 V1) (Y0 J1 V2) hx hm hk)
theorem zf1:∀(N:Nat){n:Nat},1<=n->n<=N->Fine n (zfr n)/\(zfr n).length<=n-1
 |0,_,h1,h=>absurd (zac h1 h) (by decide)
 |N+1,n,h,hN=>by
  by_cases h1:n=1
  ·subst h1;exact⟨zrg,zae _⟩
  ·obtain⟨m,k,e,em,a1,a2,a3,a4,_,_,_⟩:=zf0 h h1 hN
   rw[zil a1 a2 e em,e]
   have A:=zf1 N a1 a3
   have B:=zf1 N a2 a4
   exact⟨zp5 a1 a2 A.1 B.1,by rw[zrm];exact half_len A.2 B.2 a1 a2⟩
theorem zj1:∀(N:Nat){n:Nat},1<=n->n<=N->Fine n (zih n)/\(zih n).length<=n-1
 |0,_,h1,h=>absurd (zac h1 h) (by decide)
 |N+1,n,h,hN=>by
  by_cases h1:n=1
  ·subst h1;exact⟨zrg,zae _⟩
  ·obtain⟨m,k,e,_,a1,a2,_,a4,em,_,a7⟩:=zf0 h h1 hN
   rw[zjb a1 a2 e em]
   have B:=zj1 N a2 a4
   refine⟨zp2 (e▸Nat.add_le_add a1 a2) (em.symm▸B.1),?_⟩
   rw[zsp,e]
   exact pair_len B.2 a7 a2
theorem zg6(n:Nat)(h:1<=n):Fine n (zfr n)/\(zfr n).length<=n-1:=zf1 n h (zae n)
theorem zks(n:Nat)(h:1<=n):Fine n (zih n)/\(zih n).length<=n-1:=zj1 n h (zae n)
variable {N:Loc->Hp->Prop}{k:Clo}{m:Me}
theorem zq8{net:Net}(h:net[i]?=some y):net=net.take i++[y]++net.drop (i+1):=by
 obtain⟨h1,h2⟩:=zbn.mp h
 rw[zbb]
 show net=net.take i++y::net.drop (i+1)
 rw[<- h2,<-zb5 h1,List.take_append_drop]
noncomputable def zex(p:Nat×List Nat):Net:=p.2.map fun l=>[(l,p.1)]
variable {y:V}
theorem zel{ok:Hp->Prop}{body:V->Loc->SPost->Hp->Prop}(I:Nat->Loc->Hp->Prop)
  (step:∀i x l H (K:SPost),items[i]?=some x->I i l H->(∀l' H',ok H'->I (i+1) l' H'->K .next l' H')->(∀v l' H',Q (.ret v) l' H'->K (.ret v) l' H')->body x l K H)
  (hend:∀l H,I items.length l H->Q .next l H) (h0:I 0 l H):zhx ok body items Q l H:=by
 have key:∀(n i:Nat),n+i=items.length->∀l H,I i l H->zhx ok body (items.drop i) Q l H:=by
  intro n
  induction n with
  |zero=>
   intro i hi l H hI
   have:i=items.length:=by exact ar1 [_,_] [] kad (Y2 V0 V1) (Y2 (Y0 J0 V0) V1) hi
   subst this
   rw[List.drop_length]
   exact hend l H hI
  |succ n ih=>
   intro i hi l H hI
   have hlt:i<items.length:=by exact ar1 [_,_,_] [] kaa (Y1 V0 V1) (Y2 (Y0 (Y0 V2 J1) V0) V1) hi
   rw[zb5 hlt]
   refine step i _ l H _ (zai hlt) hI (fun l' H' hok hI'=>⟨hok,ih (i+1) (by exact ar1 [_,_,_] [] kad (Y2 (Y0 V0 (Y0 V1 J1)) V2) (Y2 (Y0 (Y0 V0 J1) V1) V2) hi) l' H' hI'⟩) fun v l' H' hq=>hq
 exact key items.length 0 rfl l H h0
theorem zfj{ok:Hp->Prop}{f:V->σ->(σ->Hp->Prop)->Hp->Prop}{Q:σ->Hp->Prop}(I:Nat->σ->Hp->Prop)
  (step:∀i x a H (K:σ->Hp->Prop),items[i]?=some x->I i a H->(∀a' H',ok H'->I (i+1) a' H'->K a' H')->f x a K H)
  (hend:∀a H,I items.length a H->Q a H) {a:σ} (h0:I 0 a H):zfe ok f items a Q H:=by
 have key:∀(n i:Nat),n+i=items.length->∀a H,I i a H->zfe ok f (items.drop i) a Q H:=by
  intro n
  induction n with
  |zero=>
   intro i hi a H hI
   have:i=items.length:=by exact ar1 [_,_] [] kad (Y2 V0 V1) (Y2 (Y0 J0 V0) V1) hi
   subst this
   rw[List.drop_length]
   exact hend a H hI
  |succ n ih=>
   intro i hi a H hI
   have hlt:i<items.length:=by exact ar1 [_,_,_] [] kaa (Y1 V0 V1) (Y2 (Y0 (Y0 V2 J1) V0) V1) hi
   rw[zb5 hlt]
   exact step i _ a H _ (zai hlt) hI fun a' H' hok hI'=>⟨hok,ih (i+1) (by exact ar1 [_,_,_] [] kad (Y2 (Y0 V0 (Y0 V1 J1)) V2) (Y2 (Y0 (Y0 V0 J1) V1) V2) hi) a' H' hI'⟩
 exact key items.length 0 rfl a H h0
theorem zdv{g:α->V}{ok:Hp->Prop}{body:V->Loc->SPost->Hp->Prop}(I:List α->Loc->Hp->Prop)
  (step:∀x r l H (K:SPost),I (x::r) l H->(∀l' H',ok H'->I r l' H'->K .next l' H')->(∀v l' H',Q (.ret v) l' H'->K (.ret v) l' H')->body (g x) l K H)
  (hend:∀l H,I [] l H->Q .next l H):∀{xs:List α} {l:Loc} {H:Hp},I xs l H->zhx ok body (xs.map g) Q l H
 |[],l,H,h=>hend l H h
 |x::r,l,H,h=>step x r l H _ h (fun J J hok hI=>⟨hok,zdv I step hend hI⟩) fun J J J hq=>hq
def Has(c:Cx)(f:String)(np n:Nat)(xs:List St):Prop:=
 ∀q d vs Q E H,vs.length=np->wpSs (Calls c) q d none xs (EndQ Q) (EndX E) (vs.map some++List.replicate (n-np) none) H->Calls c q (d+1) (qab f) vs none Q E H
theorem has_of(O:c.Ok)(TO:TabOk c T){e:PyProof.Rows.DefItem}(hat:DefAt c e){r:Nat}(he:eFun T fuel r e=some xs)(hf:e.name=qab f)(hnp:e.params.args.length=np)(hn:(slots e.scope.names).length+r=n):Has c f np n xs:=by
 intro q d vs Q E H hl hw
 rw[<- hf]
 refine zuo O TO hat he (by rw[hl,hnp]) ?_
 rw[hn,hl];exact hw
theorem E_lit{Q E}:wpE C q d k (.lit v) l Q E H=Q v H:=rfl
theorem E_var{Q E}:wpE C q d k (.var i) l Q E H=Opt (l.getD i none) fun v=>Q v H:=rfl
theorem E_tup{Q E}:wpE C q d k (.tup es) l Q E H=wpL C q d k es l (fun vs H=>Q (.tup vs) H) E H:=rfl
theorem E_list{Q E}:wpE C q d k (.list es) l Q E H=wpL C q d k es l (fun vs H=>Q (.lst H.length) (H++[vs])) E H:=rfl
theorem E_bin{b:Ex} {Q E}:wpE C q d k (.bin op a b) l Q E H=wpE C q d k a l (fun x H=>wpE C q d k b l (fun y H=>Opt (binV H op x y) fun p=>Q p.1 p.2) E H) E H:=rfl
theorem E_neg{Q E}:wpE C q d k (.neg a) l Q E H=wpE C q d k a l (fun x H=>Opt (zir x) fun i=>Q (.int (-i)) H) E H:=rfl
theorem E_not{Q E}:wpE C q d k (.not a) l Q E H=wpE C q d k a l (zed fun b H=>Q (.bool !b) H) E H:=rfl
theorem E_cmp{Q E}:wpE C q d k (.cmp a os bs) l Q E H=wpE C q d k a l (fun x H=>wpC C q d k x os bs l (fun b H=>Q (.bool b) H) E H) E H:=rfl
theorem E_and{Q E}:wpE C q d k (.and es) l Q E H=zrs C q d k es l (fun b H=>Q (.bool b) H) E H:=rfl
theorem E_or{Q E}:wpE C q d k (.or es) l Q E H=wpOr C q d k es l (fun b H=>Q (.bool b) H) E H:=rfl
theorem E_idx{b:Ex} {Q E}:wpE C q d k (.idx a b) l Q E H=wpE C q d k a l (fun x H=>wpE C q d k b l (fun y H=>Opt (idxV H x y) fun v=>Q v H) E H) E H:=rfl
theorem E_slice{b c:Ex} {Q E}:wpE C q d k (.slice a b c) l Q E H=wpE C q d k a l (fun x H=>wpE C q d k b l (fun y H=>wpE C q d k c l (fun z H=>Opt (zky H x y z) fun p=>Q p.1 p.2) E H) E H) E H:=rfl
theorem E_rev{Q E}:wpE C q d k (.rev a) l Q E H=wpE C q d k a l (fun x H=>Opt (revV H x) fun p=>Q p.1 p.2) E H:=rfl
theorem E_call{f:Str} {Q E}:wpE C q d k (.call f es) l Q E H=wpL C q d k es l (fun vs H=>C q d f vs none Q E H) E H:=rfl
theorem E_blt{b:Bl} {Q E}:wpE C q d k (.blt b es) l Q E H=wpL C q d k es l (fun vs H=>Opt (onQ q (bltV H b vs)) fun p=>Q p.1 p.2) E H:=rfl
theorem E_meth{Q E}:wpE C q d k (.meth m o es) l Q E H=wpE C q d k o l (fun x H=>zvj m x=true/\wpL C q d k es l (fun vs H=>Opt (zpx H m x vs) fun p=>Q p.1 p.2) E H) E H:=rfl
theorem E_isi{t:Tc} {Q E}:wpE C q d k (.isi a t) l Q E H=wpE C q d k a l (fun x H=>Opt (isiV x t) fun b=>Q (.bool b) H) E H:=rfl
theorem E_attr{x:Str}{Q:V->Hp->Prop}{E:XPost}:wpE C q d k (.attr a x) l Q E H=wpE C q d k a l (fun v H=>Opt (attrV v x) fun w=>Q w H) E H:=rfl
theorem E_comp{t:Tg} {Q E}:wpE C q d k (.comp elt t src ifs) l Q E H=wpE C q d k src l (fun sv H=>Opt (onQ q (srcV H sv)) fun items=>items.length<=qag /\
   zfe (okV sv items) (zlx (fun l' Q H=>wpI C q d none ifs l' Q H) (fun l' Q H=>wpE C q d none elt l' Q noX H) t l) items [] (fun acc H'=>Q (.lst H'.length) (H'++[acc])) H) E H:=rfl
theorem L_nil{Q E}:wpL C q d k [] l Q E H=Q [] H:=rfl
theorem L_cons{Q E}:wpL C q d k (e::es) l Q E H=wpE C q d k e l (fun v H=>wpL C q d k es l (fun vs H=>Q (v::vs) H) E H) E H:=rfl
theorem A_cons{Q:Bool->Hp->Prop} {E}:zrs C q d k (e::es) l Q E H=wpE C q d k e l (zed fun b H=>zha es (Q b H) (ze5 b (zrs C q d k es l Q E H) (Q false H))) E H:=rfl
theorem O_cons{Q:Bool->Hp->Prop} {E}:wpOr C q d k (e::es) l Q E H=wpE C q d k e l (zed fun b H=>zha es (Q b H) (ze5 b (Q true H) (wpOr C q d k es l Q E H))) E H:=rfl
theorem C_cons {x:V} {o:Cm} {Q:Bool->Hp->Prop} {E}:wpC C q d k x (o::os) (e::es) l Q E H=wpE C q d k e l (fun y H=>Opt (cmpV H o x y) fun b=>zha es (Q b H) (ze5 b (wpC C q d k y os es l Q E H) (Q false H))) E H:=rfl
theorem I_nil {Q:Bool->Hp->Prop}:wpI C q d k [] l Q H=Q true H:=rfl
theorem I_cons{Q:Bool->Hp->Prop}:wpI C q d k (e::es) l Q H=wpE C q d k e l (zed fun b H=>ze5 b (wpI C q d k es l Q H) (Q false H)) noX H:=rfl
theorem Opt_some{a:α}{K:α->Prop}:Opt (some a) K=K a:=rfl
theorem truthP_bool{b:Bool}{Q:Bool->Hp->Prop}:zed Q (.bool b) H=Q b H:=rfl
theorem CondP_true:ze5 true A B=A:=rfl
theorem CondP_false:ze5 false A B=B:=rfl
theorem lastOr_nil:zha [] A B=A:=rfl
theorem lastOr_cons:zha (e::es) A B=B:=rfl
theorem asInt_int {i:Int}:zir (.int i)=some i:=rfl
theorem onQ_true{o:Option α}:onQ true o=o:=rfl
theorem bin_addi{a:Int}:binV H .add (.int a) (.int b)=some (.int (a+b),H):=rfl
theorem bin_subi{a:Int}:binV H .sub (.int a) (.int b)=some (.int (a-b),H):=rfl
theorem cmp_lt{a:Int}:cmpV H .lt (.int a) (.int b)=some (decide (a<b)):=rfl
theorem cmp_le{a:Int}:cmpV H .le (.int a) (.int b)=some (decide (a<=b)):=rfl
theorem cmp_gt{a:Int}:cmpV H .gt (.int a) (.int b)=some (decide (a>b)):=rfl
theorem cmp_ge{a:Int}:cmpV H .ge (.int a) (.int b)=some (decide (a>=b)):=rfl
theorem cmp_eqi{a:Int}:cmpV H .eq (.int a) (.int b)=some (decide (a=b)):=rfl
theorem cmp_nei{a:Int}:cmpV H .ne (.int a) (.int b)=some (!decide (a=b)):=rfl
theorem isi_ii{i:Int}:isiV (.int i) .int=some true:=rfl
theorem isi_ib{i:Int}:isiV (.int i) .bool=some false:=rfl
theorem isi_bb{b:Bool}:isiV (.bool b) .bool=some true:=rfl
theorem isi_tt{l:List V}:isiV (.tup l) .tuple=some true:=rfl
theorem isi_ll{a:Nat}:isiV (.lst a) .list=some true:=rfl
theorem not_t:(!true)=false:=rfl
theorem not_f:(!false)=true:=rfl
theorem dec_22:decide ((2:Int)=2)=true:=rfl
theorem len_tup {x:V}:bltV H .len [.tup [x,y]]=some (.int 2,H):=rfl
theorem len_scr{l:List Int}:bltV H .len [.scr l]=some (.int l.length,H):=rfl
theorem idx_t0{x:V}:idxV H (.tup [x,y]) (.int 0)=some x:=rfl
theorem idx_t1{x:V}:idxV H (.tup [x,y]) (.int 1)=some y:=rfl
theorem zcf[Decidable p](h1:p->A)(h2:¬p->B):ze5 (decide p) A B:=by
 by_cases h:p
 ·rw[decide_eq_true h];exact h1 h
 ·rw[decide_eq_false h];exact h2 h
theorem zfl[Decidable p](h1:¬p->A)(h2:p->B):ze5 (!decide p) A B:=by
 by_cases h:p
 ·rw[decide_eq_true h];exact h2 h
 ·rw[decide_eq_false h];exact h1 h
theorem zgg[Decidable p](h:p)(h1:A):ze5 (decide p) A B:=by rw[decide_eq_true h];exact h1
theorem Cond_neg[Decidable p](h:¬p)(h1:B):ze5 (decide p) A B:=by rw[decide_eq_false h];exact h1
theorem S_set:wpS C q d k (.set i e) Q E l H=wpE C q d k e l (fun v H=>Q .next (l.set i (some v)) H) (fun x H=>E x l H) H:=rfl
theorem S_unp:wpS C q d k (.unp is e) Q E l H=(q=true/\wpE C q d k e l (fun v H=>Opt (unpV is v l) fun l'=>Q .next l' H) (fun x H=>E x l H) H):=rfl
theorem S_put{i:Ex}:wpS C q d k (.put o i e) Q E l H=wpE C q d k e l (fun v H=>wpE C q d k o l (fun a H=>wpE C q d k i l (fun j H=>Opt (putV H a j v) fun H'=>Q .next l H') (fun x H=>E x l H) H) (fun x H=>E x l H) H) (fun x H=>E x l H) H:=rfl
theorem S_expr:wpS C q d k (.expr e) Q E l H=wpE C q d k e l (fun J H=>Q .next l H) (fun x H=>E x l H) H:=rfl
theorem S_ret:wpS C q d k (.ret e) Q E l H=wpE C q d k e l (fun v H=>Q (.ret v) l H) (fun x H=>E x l H) H:=rfl
theorem S_ite{a b:List St}:wpS C q d k (.ite t a b) Q E l H=wpE C q d k t l (zed fun c H=>ze5 c (wpSs C q d k a Q E l H) (wpSs C q d k b Q E l H)) (fun x H=>E x l H) H:=rfl
theorem S_whil{b:List St}:wpS C q d k (.whil t b) Q E l H=(q=true/\wpWhile (fun l Q H=>wpT C q d k t l Q noX H) (fun l Q H=>wpSs C q d k b Q (fun J J J=>False) l H) l Q H):=rfl
theorem S_rais:wpS C q d k (.rais cn es) Q E l H=(q=true/\wpL C q d k es l (fun vs H=>E (.exc cn (atOf cn vs)) l H) noX H):=rfl
theorem S_tri{b:List St}{h:List St}:wpS C q d k (.tri b i h) Q E l H=(q=true/\wpSs C q d k b Q (fun x l' H=>kidX x=true/\wpSs C false d k h (fun f l'' H=>Q f (l''.set i none) H) (fun J J J=>False) (l'.set i (some x)) H) l H):=rfl
theorem S_loop{t:Tg}{s:Sr}{b:List St}:wpS C q d k (.loop t s b) Q E l H=(q=true/\wpSr C q d k s l (fun items ok H=>zhx ok (fun x l Q H=>Opt (zg8 t x l) fun l'=>wpSs C q d k b Q E l' H) items Q l H) (fun x H=>E x l H) H):=rfl
theorem T_eq{Q:Bool->Hp->Prop} {E}:wpT C q d k t l Q E H=wpE C q d k t l (zed Q) E H:=rfl
theorem End_ret{Q:V->Hp->Prop}:EndQ Q (.ret v) l H=Q v H:=rfl
theorem End_next{Q:V->Hp->Prop}:EndQ Q .next l H=Q .none H:=rfl
theorem Then_ret:Then N Q (.ret v) l H=Q (.ret v) l H:=rfl
theorem bind_one{x:V}:zg8 (.one i) x l=some (l.set i (some x)):=rfl
theorem bind_two{a b:V}:zg8 (.two i j) (.tup [a,b]) l=some ((l.set i (some a)).set j (some b)):=rfl
theorem CompS_eq{W:Loc->(V->Hp->Prop)->Hp->Prop}{t:Tg}{x:V}:zlx I W t l x acc K H=Opt (zg8 t x l) fun l'=>I l' (fun b H=>ze5 b (W l' (fun v H=>K (acc++[v]) H) H) (K acc H)) H:=rfl
theorem getD_0:(x::r).getD 0 none=x:=rfl
theorem getD_s:(x::r).getD (i+1) none=r.getD i none:=rfl
theorem set_0 {y:Option V}:List.set (x::r) 0 y=y::r:=rfl
theorem set_s{y:Option V}:List.set (x::r) (i+1) y=x::List.set r i y:=rfl
theorem map_c{x:V}{r:List V}:List.map some (x::r)=some x::List.map some r:=rfl
theorem map_n:List.map some ([]:List V)=[]:=rfl
theorem app_c:(x::r)++s=x::(r++s):=rfl
theorem app_n:[]++s=s:=rfl
theorem rep_s:List.replicate (n+1) (none:Option V)=none::List.replicate n none:=rfl
theorem rep_n:List.replicate 0 (none:Option V)=[]:=rfl
theorem Then_go(h:N l H):Then N Q .next l H:=h
theorem Ss_go{s:St}(h:wpS C q d k s (Then (wpSs C q d k ss Q E) Q) E l H):wpSs C q d k (s::ss) Q E l H:=h
theorem Ss_end(h:Q .next l H):wpSs C q d k [] Q E l H:=h
theorem ze7{Q:List V->(Hp->Prop)->Hp->Prop} {E}(hv:∀(K:V->Hp->Prop) E',K v H->wpE C q d k e l K E' H)(h:srcV H v=some items)(hq:Q items (okV v items) H):wpSr C q d k (.val e) l Q E H:=hv _ _ (Opt.mk h hq)
local macro_rules | `(tactic| walk_at $s:str)=>do
 match s.getString with
 |"d"=>
  let a:=("Bn.E_lit Bn.E_var Bn.E_tup Bn.E_list Bn.E_bin Bn.E_neg Bn.E_not Bn.E_cmp Bn.E_and Bn.E_or Bn.E_idx Bn.E_slice Bn.E_rev Bn.E_call Bn.E_blt Bn.E_meth Bn.E_isi Bn.E_attr Bn.E_comp Bn.L_nil Bn.L_cons Bn.A_cons Bn.O_cons Bn.C_cons Bn.I_nil Bn.I_cons Bn.Opt_some Bn.truthP_bool Bn.CondP_true Bn.CondP_false Bn.lastOr_nil Bn.lastOr_cons Bn.asInt_int Bn.onQ_true Bn.bin_addi Bn.bin_subi Bn.isi_ii Bn.isi_ib Bn.isi_bb Bn.isi_tt Bn.isi_ll Bn.len_tup Bn.len_scr Bn.idx_t0 Bn.idx_t1 Bn.cmp_lt Bn.cmp_le Bn.cmp_gt Bn.cmp_ge Bn.cmp_eqi Bn.cmp_nei Bn.S_set Bn.S_unp Bn.S_put Bn.S_expr Bn.S_ret Bn.S_ite Bn.S_whil Bn.S_loop Bn.S_rais Bn.S_tri Bn.T_eq Bn.End_ret Bn.End_next Bn.Then_ret Bn.bind_one Bn.bind_two Bn.CompS_eq Bn.getD_0 Bn.getD_s Bn.set_0 Bn.set_s Bn.map_c Bn.map_n Bn.app_c Bn.app_n Bn.rep_s Bn.rep_n Nat.reduceSub Nat.sub_self Bn.not_t Bn.not_f Bn.dec_22".splitOn " ").toArray.map fun s=>Lean.mkIdent s.toName
  `(tactic| dsimp only[$[$a:ident],*])
 |"g"=>`(tactic| first |with_reducible refine Bn.Then_go ?_ |with_reducible refine Bn.Ss_go ?_ |with_reducible refine Bn.Ss_end ?_)
 |""=>`(tactic| ((try walk_at "d");(repeat(walk_at "g";(try walk_at "d")))))
 |_=>Lean.Macro.throwUnsupported
variable {A:Around}{B σ:Nat->Nat}{E:XPost}{K:V×Hp->Prop}{Q:V->Hp->Prop}{a b:Nat}{bs:List Nat}{m:Str->Option Value}{o:Option (V×Hp)}{p:qbi}{r:Net}{s:Shared}{t:Tc}{x:Str}{y:List St×Nat×Nat}
noncomputable def zen:List St:=[.ret (.and [.isi (.wx 0) .int,.not (.isi (.wx 0) .bool),.cmp (.wx 1) [.le,.le] [.wx 0,.wx 2]])]
noncomputable def zh7:List St:=[.ite (.or [.not (.isi (.wx 0) .tuple),.cmp (.blt .len [.wx 0]) [.ne] [.ww 2]]) [.ret (.lit (.bool false))] [],.ite (.or [.not (.call "is_among" [.idx (.wx 0) (.ww 0),.ww 0,.bin .sub (.wx 1) (.ww 1)]),.not (.call "is_among" [.idx (.wx 0) (.ww 1),.ww 0,.bin .sub (.wx 1) (.ww 1)])]) [.ret (.lit (.bool false))] [],.ret (.cmp (.idx (.wx 0) (.ww 0)) [.lt] [.idx (.wx 0) (.ww 1)])]
noncomputable def zk7:List St:=[.ite (.or [.not (.isi (.wx 0) .list),.not (.cmp (.ww 1) [.le,.le] [.blt .len [.wx 0],.ww 63])]) [.ret (.lit (.bool false))] [],.set 2 (.neg (.ww 1)),.loop (.one 3) (.val (.wx 0)) [.ite (.or [.not (.call "is_joint" [.wx 3,.wx 1]),.cmp (.idx (.wx 3) (.ww 1)) [.le] [.wx 2]]) [.ret (.lit (.bool false))] [],.set 2 (.idx (.wx 3) (.ww 1))],.ret (.lit (.bool true))]
noncomputable def zgy:List St:=[.set 2 (.blt .list [.blt .range [.wx 0]]),.loop (.one 3) (.val (.wx 1)) [.set 4 (.blt .list [.wx 2]),.loop (.two 5 6) (.val (.wx 3)) [.ite (.cmp (.bin .add (.wx 5) (.ww 1)) [.ne] [.idx (.wx 2) (.wx 6)]) [.ret (.lit (.bool false))] [],.put (.wx 4) (.wx 6) (.idx (.wx 2) (.wx 5))],.set 2 (.wx 4)],.ret (.blt .all [.comp (.cmp (.wx 7) [.eq] [.ww 0]) (.one 7) (.wx 2) []])]
noncomputable def zgv:List St:=[.ite (.cmp (.wx 1) [.lt] [.blt .len [.wx 0]]) [.ret (.idx (.wx 0) (.wx 1))] [],.ret (.ww 0)]
noncomputable def zio:List St:=[.ret (.and [.isi (.wx 0) .int,.not (.isi (.wx 0) .bool)])]
noncomputable def zc4:List St:=[.set 5 (.blt .max [.idx (.wx 3) (.wx 1),.idx (.wx 3) (.wx 2),.idx (.wx 4) (.wx 2)]),.whil (.cmp (.blt .len [.wx 0]) [.le] [.wx 5]) [.expr (.meth .append (.wx 0) [.list []])],.expr (.meth .append (.idx (.wx 0) (.wx 5)) [.tup [.wx 2,.wx 1]]),.put (.wx 4) (.wx 1) (.blt .max [.idx (.wx 4) (.wx 1),.wx 5]),.put (.wx 3) (.wx 2) (.bin .add (.wx 5) (.ww 1))]
noncomputable def zd7:List St:=[.set 6 (.list []),.set 7 (.ww 0),.whil (.cmp (.wx 7) [.lt] [.blt .len [.wx 1]]) [.ite (.and [.cmp (.bin .add (.wx 7) (.ww 1)) [.lt] [.blt .len [.wx 1]],.cmp (.bin .mod (.bin .div (.wx 2) (.bin .add (.ww 1) (.wx 7))) (.ww 4)) [.gt] [.ww 0]]) [.expr (.call "_law_place" [.wx 0,.idx (.wx 1) (.wx 7),.idx (.wx 1) (.bin .add (.wx 7) (.ww 1)),.wx 3,.wx 4]),.ite (.cmp (.wx 6) [.ne] [.list []]) [.expr (.meth .append (.wx 5) [.tup [.idx (.wx 6) (.neg (.ww 1)),.idx (.wx 1) (.wx 7)]])] [],.set 7 (.bin .add (.wx 7) (.ww 1))] [],.expr (.meth .append (.wx 6) [.idx (.wx 1) (.wx 7)]),.set 7 (.bin .add (.wx 7) (.ww 1))],.ret (.wx 6)]
noncomputable def ze4:List St:=[.set 0 (.bin .mod (.bin .mul (.wx 0) (.ww 48271)) (.ww 2147483647)),.set 2 (.list []),.set 3 (.list []),.set 4 (.bin .mul (.list [.ww 0]) (.wx 1)),.set 5 (.bin .mul (.list [.ww 0]) (.wx 1)),.set 6 (.blt .list [.blt .range [.wx 1]]),.loop (.one 7) (.val (.blt .range [.bin .mod (.wx 0) (.ww 4)])) [.set 6 (.call "_law_thinner" [.wx 2,.wx 6,.bin .div (.bin .div (.wx 0) (.ww 4)) (.bin .add (.ww 1) (.wx 7)),.wx 4,.wx 5,.wx 3])],.set 8 (.comp (.list [.wx 13]) (.one 13) (.wx 6) []),.whil (.cmp (.blt .len [.wx 8]) [.gt] [.ww 1]) [.set 0 (.bin .mod (.bin .mul (.wx 0) (.ww 16807)) (.ww 2147483647)),.set 9 (.idx (.list [.bin .mod (.bin .div (.wx 0) (.ww 3)) (.bin .sub (.blt .len [.wx 8]) (.ww 1)),.ww 0,.bin .sub (.blt .len [.wx 8]) (.ww 2)]) (.bin .mod (.wx 0) (.ww 3))),.loop (.one 10) (.val (.idx (.wx 8) (.bin .add (.wx 9) (.ww 1)))) [.expr (.call "_law_place" [.wx 2,.idx (.idx (.wx 8) (.wx 9)) (.neg (.ww 1)),.wx 10,.wx 4,.wx 5])],.set 11 (.bin .add (.idx (.wx 8) (.wx 9)) (.idx (.wx 8) (.bin .add (.wx 9) (.ww 1)))),.set 8 (.bin .add (.bin .add (.slice (.wx 8) (.lit .none) (.wx 9)) (.list [.wx 11])) (.slice (.wx 8) (.bin .add (.wx 9) (.ww 2)) (.lit .none)))],.loop (.two 12 10) (.rev (.wx 3)) [.expr (.call "_law_place" [.wx 2,.wx 12,.wx 10,.wx 4,.wx 5])],.ret (.comp (.comp (.tup [.wx 15,.wx 14]) (.two 14 15) (.blt .sorted [.wx 13]) []) (.one 13) (.wx 2) [])]
noncomputable def zf3:List St:=[.set 1 (.bin .add (.ww 1) (.bin .mod (.wx 0) (.ww 12))),.ite (.cmp (.bin .mod (.bin .div (.wx 0) (.ww 12)) (.ww 9)) [.eq] [.ww 1]) [.set 1 (.bin .add (.ww 13) (.bin .mod (.bin .div (.wx 0) (.ww 108)) (.ww 20)))] [],.ret (.wx 1)]
theorem zgm(P:Has c "is_among" 3 3 zen){v:Int}(h1:lo<=v)(h2:v<=hi)(hq:Q (.bool true) H):Calls c q (d+1) "is_among" [.int v,.int lo,.int hi] none Q E H:=by
 refine P q d _ Q E H rfl (Ss_go ?_)
 walk_at ""
 refine zgg h1 ?_
 walk_at ""
 rw[decide_eq_true h2]
 exact hq
theorem zsv(P1:Has c "is_among" 3 3 zen)(P:Has c "is_joint" 2 2 zh7){l:Nat}{n:Int}(h1:l<h)(h2:h<n)(hc:q=true)(hq:Q (.bool true) H):Calls c q (d+2) "is_joint" [.tup [.int l,.int h],.int n] none Q E H:=by
 subst hc
 have h3:(l:Int)<h:=zaq.mpr h1
 refine P true (d+1) _ Q E H rfl (Ss_go ?_)
 walk_at ""
 refine zgm P1 (zbl l) (Int.le_sub_one_of_lt (Int.lt_trans h3 h2)) ?_
 walk_at ""
 refine zgm P1 (zbl h) (Int.le_sub_one_of_lt h2) ?_
 walk_at ""
 rw[decide_eq_true h3]
 exact hq
noncomputable def pr(p:Nat×Nat):V:=.tup [.int p.1,.int p.2]
def LayerInv(a n:Nat)(H:Hp)(r:List (Nat×Nat))(x1:Loc)(x2:Hp):Prop:=∀GJ:Prop,(∀(last:Int),∀(lo:Nat),∀(z:Option V),zdj n lo r->(∀h:Nat,lo<=h->last<h)->[some (.lst a),some (.int n),some (.int last),z]=x1->H=x2->GJ)->GJ
theorem zcn{xs:List V}(h:H[a]?=some xs):onQ true (bltV H .len [.lst a])=some (.int xs.length,H):=by
 show(H[a]?).map _=_
 rw[h];rfl
theorem zrw(P1:Has c "is_among" 3 3 zen)(P2:Has c "is_joint" 2 2 zh7)(P:Has c "is_layer" 2 4 zk7)(ha:H[a]?=some (layer.map pr))(hn:n<=64)(hok:zcl n layer)(hc:q=true)(hq:Q (.bool true) H):Calls c q (d+3) "is_layer" [.lst a,.int n] none Q E H:=by
 subst hc
 refine P true (d+2) _ Q E H rfl (Ss_go ?_)
 walk_at ""
 refine Opt.mk (zcn ha) ?_
 rw[zab]
 walk_at ""
 have hl:=zgf hok.2 hok.1
 refine zgg (zaw.mpr (Nat.pos_of_ne_zero fun h=>hok.1 (List.eq_nil_of_length_eq_zero h))) ?_
 walk_at ""
 rw[decide_eq_true (show(layer.length:Int)<=63 by exact ar2 [_,_] [] 0x8294a000c200806100803080002800308000 (Y3 (Y4 V0 J0) (.l 63)) (Y0 V1 (.l 64)) (Y7 (Y1 J0 J0) (Y1 V0 V1)) hn hl.2)]
 walk_at ""
 refine⟨rfl,ze7 (v:=.lst a) (fun K E' h=>h) ha ?_⟩
 refine zdv (LayerInv a n H) ?_ ?_ (fun J kJ=>kJ _ 0 _ hok.2 (fun h J=>Int.lt_of_lt_of_le (by decide) (zbl h)) rfl rfl)
 ·rintro x r l H' K hI hnext hret
  refine hI _ fun last lo z hr hl wg eI2=>?_;clear hI;subst wg;subst eI2
  obtain⟨h1,h2,h3,h4⟩:=hr
  refine Opt.mk rfl (Ss_go ?_)
  walk_at ""
  refine zsv P1 P2 h1 (zaq.mpr h2) rfl ?_
  walk_at ""
  refine Cond_neg (fun q=>Int.not_lt.mpr q (hl _ h3)) ?_
  walk_at ""
  exact hnext _ _ ha (fun J kJ=>kJ _ _ _ h4 (fun h hh=>zaq.mpr hh) rfl rfl)
 ·intro l H' hI;refine hI _ fun J J J J J wg eI2=>?_;clear hI;subst wg;subst eI2
  walk_at ""
  exact hq
variable {Q:List V->(Hp->Prop)->Hp->Prop}{h:Heap}
structure NetAt(H:Hp)(a:Nat)(bs:List Nat)(net:Net):Prop where
 top:H[a]?=some (bs.map .lst)
 len:bs.length=net.length
 lay:∀(i b:Nat) (layer:List (Nat×Nat)),bs[i]?=some b->net[i]?=some layer->H[b]?=some (layer.map pr)
theorem NetAt.each{net:Net}(h:NetAt H a bs net)(hb:b∈bs):∃layer∈net,H[b]?=some (layer.map pr):=by
 obtain⟨i,hi,e⟩:=zb6.mp hb
 have hi':i<net.length:=h.len▸hi
 exact⟨_,List.getElem_mem hi',h.lay i b _ (e▸zai hi) (zai hi')⟩
section
variable {Q:V->Hp->Prop}
theorem zri(h:H[a]?=some items):lstV H (.lst a)=some items:=h
theorem Sr_enum{Q:List V->(Hp->Prop)->Hp->Prop} {E}(hv:∀(K:V->Hp->Prop) E',K (.lst a) H->wpE C q d k e l K E' H)(h:H[a]?=some items)(hq:Q (zfk 0 items) (okV (.lst a) items) H):wpSr C q d k (.enum e) l Q E H:=hv _ _ (Opt.mk (zri h) hq)
theorem Sr_rev{Q:List V->(Hp->Prop)->Hp->Prop} {E}(hv:∀(K:V->Hp->Prop) E',K (.lst a) H->wpE C q d k e l K E' H)(h:H[a]?=some items)(hq:Q items.reverse (okV (.lst a) items) H):wpSr C q d k (.rev e) l Q E H:=hv _ _ (Opt.mk (zri h) hq)
end
variable {Q:V->Hp->Prop}{a:Addr}{b:Bl}{e:Str}{l:List Int}
section
open PySem PyProof.Rows
noncomputable def zhk:List (Str×Gk):=[("len",.blt .len),("max",.blt .max),("min",.blt .min),("range",.blt .range),("list",.blt .list),("all",.blt .all),
 ("tuple",.blt .tuple),
 ("sorted",.blt .sorted),
 ("int",.blt .int),
 ("enumerate",.enum),
 ("reversed",.rev),
 ("isinstance",.isi)]
noncomputable def zq5:List (Str×Tc):=[("int",.int),("bool",.bool),("list",.list),
 ("str",.str),
 ("tuple",.tuple)]
noncomputable def ownT:List (Str×Tc):=(kids.map fun k=>(k,Tc.own k))++[(qab "ValueError",Tc.own (qab "ValueError"))]
noncomputable def zud (fs:List Str) (vals:List (Str×V)):Tab:=⟨fs.map (fun f=>(f,Gk.fn))++vals.map (fun p=>(p.1,Gk.val p.2))++zhk,zq5++ownT⟩
theorem own_ty(h:(x,t)∈ownT):TyAt c x t:=by
 rcases zaj.mp h with h |h
 ·revert h;refine xL fun k hk e=>?_
  obtain⟨e1,e2⟩:=qbv e
  subst e1 e2
  exact .own rfl (.inl hk)
 ·obtain⟨e1,e2⟩:=qbv (zaf.mp h)
  subst e1 e2
  exact .own rfl (.inr rfl)
noncomputable def freeB(p:qbi)(loose:List Str)(x:Str):Bool:=!(startupNames.contains x)&&!(loose.contains x)&&!(((recsOf p).map (·.name)).contains x)&&!(((litsOf p).map (·.1)).contains x)&&!(((clssOf p loose).map (·.name)).contains x)
noncomputable def pdInt:PyData->Option Int
 |.int i=>some i
 |_=>none
noncomputable def valI(p:qbi)(x:Str)(v:V):Option Unit:=(zir v).bind fun j=>(valOf p x).bind fun w=>(pdInt w).bind fun i=>if i=j then some () else none
noncomputable def pdStr:PyData->Option Str
 |.str i=>some i
 |_=>none
noncomputable def valS(p:qbi)(x:Str)(v:V):Option Unit:=(asStr v).bind fun j=>(valOf p x).bind fun w=>(pdStr w).bind fun i=>if i=j then some () else none
noncomputable def valT(p:qbi)(x:Str)(v:V):Option Unit:=(zsz v).bind fun l=>(zuq l).bind fun ss=>(tupStrsOf p x).bind fun ts=>if ts=ss then some () else none
noncomputable def valB(p:qbi)(x:Str)(v:V):Bool:=(valI p x v).isSome||((valS p x v).isSome||(valT p x v).isSome)
noncomputable def meanG:Gk->Option Value
 |.blt b=>some b.real
 |.isi=>some (.builtin "isinstance")
 |.enum=>some (.type "enumerate")
 |.rev=>some (.type "reversed")
 |_=>none
inductive Boot(p:Str×Gk):Prop
 |mk (h1:p.1≠"__name__")(h2:bootBuiltins p.1=meanG p.2)(h3:p.2=.isi->p.1=qab "isinstance")(h4:∀v,p.2≠.val v)(h5:p.2≠.fn):Boot p
inductive BootT(p:Str×Tc):Prop
 |mk (S:String)(h1:p.1≠"__name__")(h2:p.2.real=some S)(h3:p.1=qab S)(h4:bootBuiltins p.1=some (.type S)):BootT p
theorem ztz{P:α->Prop}:∀p∈([]:List α),P p:=fun J h=>nomatch h
theorem all_cons{P:α->Prop}{x:α}{l:List α}(h:P x)(t:∀p∈l,P p):∀p∈x::l,P p:=za2.mpr ⟨h,t⟩
theorem boot_blt(h1:x≠"__name__")(h2:bootBuiltins x=some b.real):Boot (x,.blt b):=⟨h1,h2,(fun h=>nomatch h),(fun J h=>nomatch h),(fun h=>nomatch h)⟩
theorem ztu:∀p∈zhk,Boot p:=by
 repeat(refine all_cons ?_ ?_;first |refine boot_blt (by decide +kernel) (by kernel_rfl) |refine⟨by decide +kernel,by kernel_rfl,by(intro h;first |rfl |injection h),by(intro v h;injection h),by(intro h;injection h)⟩)
 exact ztz
theorem bootsT:∀p∈zq5,BootT p:=by
 repeat(refine all_cons ?_ ?_;exact⟨_,by decide +kernel,rfl,rfl,by kernel_rfl⟩)
 exact ztz
def Hid(h:Heap)(c:Cx):Prop:=∀b o,h.get? b=some o->(∀ps,o≠tabO ps)->c.h0.get? b=some o
theorem DefAt.of{e:qa9}(hh:Hid h c)(hat:e.At c.g h):DefAt c e:=by
 obtain⟨a,cc,P,o,pm,doc,g1,g2,g3,g4,B⟩:=hat
 obtain⟨⟨o1,vs1,t1,t2,t3,t4⟩,_⟩:=B.tab
 obtain⟨c2,o2,vs2,t,q1,q2,q3,q4⟩:=g4
 obtain rfl:=qby q1
 obtain rfl:=zaa (t1.symm.trans q2)
 exact⟨a,cc,o,pm,doc,g1,hh a o g2 (fun ps q=>by rw[q] at g3;injection g3),g3,cc,o1,vs2,t,rfl,hh cc o1 q2 (fun ps q=>by rw[q] at t2;injection t2),q3,q4⟩
theorem zoy(T:Top p loose mean mg mb h)(hx:freeB p loose x=true):mg x=none:=by
 simp only[freeB,Bool.and_eq_true,zbm,List.contains_eq_mem,decide_eq_false_iff_not] at hx
 exact T.free x hx.1.1.1.1 hx.1.1.1.2 hx.1.1.2 hx.1.2 hx.2
inductive GkAt(fs:List Str)(vals:List (Str×V))(x:Str)(k:Gk):Prop
 |fn (h:k=.fn)(hm:x∈fs)
 |val (v:V)(h:k=.val v)(hm:(x,v)∈vals)
 |blt (h:(x,k)∈zhk)
theorem gkAt{k:Gk}(hx:(zud fs vals).g.lookup x=some k):GkAt fs vals x k:=by
 rcases zaj.mp (qav hx) with h |h
 ·rcases zaj.mp h with h |h
  ·revert h;refine xL fun f hf e=>?_
   obtain⟨e1,e2⟩:=qbv e
   exact .fn e2.symm (e1▸hf)
  ·revert h;refine xL fun q hq e=>?_
   obtain⟨e1,e2⟩:=qbv e
   exact .val q.2 e2.symm (e1▸hq)
 ·exact .blt h
theorem valI_rep(T:Top p loose mean mg mb h)(hv:(valI p x v).isSome=true):∃r,mg x=some r/\Rep c [] c.h0 v r:=by
 obtain⟨u,hu⟩:=zca.mp hv
 revert hu;refine xB fun j hj hu=>?_
 revert hu;refine xB fun w hw hu=>?_
 revert hu;refine xB fun i hi hu=>?_
 obtain rfl:=(iteO hu).1
 obtain rfl:=zdy hj
 obtain⟨r,hr,hR⟩:=T.const _ _ hw
 cases w with
 |int k=>
  obtain rfl:=zaa hi
  cases hR c.h0
  exact⟨_,hr,rI⟩
 |_=>cases hi
theorem valS_rep(T:Top p loose mean mg mb h)(hv:(valS p x v).isSome=true):∃r,mg x=some r/\Rep c [] c.h0 v r:=by
 obtain⟨u,hu⟩:=zca.mp hv
 revert hu;refine xB fun j hj hu=>?_
 revert hu;refine xB fun w hw hu=>?_
 revert hu;refine xB fun i hi hu=>?_
 obtain rfl:=(iteO hu).1
 obtain rfl:=zhg hj
 obtain⟨r,hr,hR⟩:=T.const _ _ hw
 cases w with
 |str k=>
  obtain rfl:=zaa hi
  obtain⟨t,rfl,_⟩:=reads_str_inv (hR c.h0)
  exact⟨_,hr,rS⟩
 |_=>injection hi
theorem zqd:∀{l:List V}{vs:List Value}{ss:List Str},zuq l=some ss->StrsAre vs ss->RepL c [] h l vs
 |[],_,_,e,S=>by
  obtain rfl:=zaa e
  cases S
  exact rL
 |v::l,_,_,e,S=>by
  revert e;refine xB fun i h1 f=>?_
  revert f;refine xM fun l' h2 wj=>?_;subst wj
  obtain rfl:=zhg h1
  cases S with
  |cons y t S=>exact⟨rS,zqd h2 S⟩
theorem valT_rep(hh:Hid h c)(B:Tables p w mg h)(hv:(valT p x v).isSome=true)(hz:∀l,v=.tup l->l.length<=qag):∃r,mg x=some r/\Rep c [] c.h0 v r:=by
 obtain⟨u,hu⟩:=zca.mp hv
 revert hu;refine xB fun l hl hu=>?_
 revert hu;refine xB fun ss hs hu=>?_
 revert hu;refine xB fun ts ht hu=>?_
 obtain rfl:=(iteO hu).1
 obtain rfl:=zf7 hl
 obtain⟨a,vs,h1,⟨o,h2,h3,n,h4⟩,h5⟩:=B.tupS x ts ht
 exact⟨_,h1,TupAt.mk a o vs.toArray n rfl zbd (hh a o h2 fun ps q=>by rw[q] at h3;injection h3) h3 h4 (hz l rfl) (zqd hs h5)⟩
noncomputable def shortV(v:V):Bool:=match v with
 |.tup l=>decide (l.length<=100)
 |_=>true
theorem val_rep(T:Top p loose mean mg mb h)(hh:Hid h c)(B:Tables p w mg h)(hv:(valB p x v&&shortV v)=true):∃r,mg x=some r/\Rep c [] c.h0 v r:=by
 revert hv;refine xA fun hv hs=>?_
 rcases zb1.mp hv with hv |hv
 ·exact valI_rep T hv
 ·rcases zb1.mp hv with hv |hv
  ·exact valS_rep T hv
  ·exact valT_rep hh B hv fun l e=>by subst e;exact zac (of_decide_eq_true hs) (by decide)
theorem tab_ok(T:Top p loose mean mg mb h)(B:Tables p w mg h)(hg:c.g=mg)(hb:c.b=mb)(hh:Hid h c)(h1:fs.all (fun f=>((recsOf p).map (·.name)).contains f)=true)(h2:vals.all (fun q=>valB p q.1 q.2&&shortV q.2)=true)
  (h3:(zhk.map (·.1)++zq5.map (·.1)).all (freeB p loose)=true)
  (XO:ExcOk c)
  (NO:NetOk c)
  (LO:∀kk fd nm,c.lam kk fd nm->LamF kk fd nm)
  :TabOk c (zud fs vals):=by
 subst hg hb
 have h1:=zaz.mp h1
 have h2:=zaz.mp h2
 have h3:=zaz.mp h3
 have bl:∀{x:Str} {k:Gk},(x,k)∈zhk->c.g x=none/\c.b x=meanG k:=fun{x k} hx=>
  ⟨zoy T (h3 x (zb8 _ (za6.mpr ⟨_,hx,rfl⟩))),(T.builtins x (ztu _ hx).1).trans (ztu _ hx).2⟩
 have bk:∀{x:Str} {k:Gk},k≠.fn->(∀v,k≠.val v)->(zud fs vals).g.lookup x=some k->(x,k)∈zhk:=fun n1 n2 hx=>by
  rcases gkAt hx with⟨hk,_⟩|⟨v,hk,_⟩|hm
  ·exact absurd hk n1
  ·exact absurd hk (n2 v)
  ·exact hm
 refine⟨fun x hx=>?_,fun x v hx=>?_,fun x b hx=>bl (bk (k:=.blt b) (fun h=>nomatch h) (fun J h=>nomatch h) hx),fun x hx=>?_,fun x hx=>bl (bk (k:=.enum) (fun h=>nomatch h) (fun J h=>nomatch h) hx),fun x hx=>bl (bk (k:=.rev) (fun h=>nomatch h) (fun J h=>nomatch h) hx),fun x t hx=>?_,XO
  ,NO
  ,LO
  ⟩
 ·rcases gkAt hx with⟨_,hm⟩|⟨v,hk,_⟩|hm
  ·refine xL (fun dd hd wj=>?_) (List.contains_iff_mem.mp (h1 x hm));subst wj
   obtain⟨a,o,pm,code,doc,g1,g2,g3,_⟩:=T.fn dd hd
   exact(fun J kJ=>kJ a o _ g1 (hh a o g2 (fun ps q=>by rw[q] at g3;injection g3)) g3)
  ·injection hk
  ·exact absurd rfl (ztu _ hm).5
 ·rcases gkAt hx with⟨hk,_⟩|⟨v',hk,hm⟩|hm
  ·injection hk
  ·(injection hk with Ja;subst Ja)
   exact val_rep T hh B (h2 _ hm)
  ·exact absurd rfl ((ztu _ hm).4 v)
 ·have hm:=bk (k:=.isi) (fun h=>nomatch h) (fun J h=>nomatch h) hx
  exact⟨(ztu _ hm).3 rfl,bl hm⟩
 ·have hm:=qav hx
  rcases zaj.mp hm with hm |hm;rotate_left;exact own_ty hm
  obtain⟨S,b1,b2,b3,b4⟩:=bootsT _ hm
  exact .mk S b2 b3 (zoy T (h3 x (zbt _ (za6.mpr ⟨_,hm,rfl⟩)))) ((T.builtins x b1).trans b4)
theorem ints_of:∀{vs:List Value}{l:List Int},IntsAre vs l->zvg l vs:=by
 intro vs l h
 induction h with
 |nil=>trivial
 |cons _ _ _ ih=>exact⟨⟨_,rfl⟩,ih⟩
theorem zcq(TA:∀e∈(recsOf p).map W.itemOf,e.params.defaults=[]->DefAt c e)(O:c.Ok)(TO:TabOk c Tb)(j fuel r:Nat)
  (hj:(((recsOf p).map W.itemOf)[j]?.bind fun e=>if e.params.defaults.isEmpty=true/\e.name=qab f/\e.params.args.length=np/\(slots e.scope.names).length+r=n then eFun Tb fuel r e else none)=some xs):Has c f np n xs:=by
 revert hj;refine xB fun e he hx=>?_
 obtain⟨⟨h0,h1,h2,h3⟩,hx⟩:=iteO hx
 exact has_of O TO (TA e (zam he) (zbh.mp h0)) hx h1 h2 h3
end
variable {b x:Int}{t:Nat}{w:V}
section
open PySem PyProof.Rows
theorem zmj{P:Addr}(hc:c.h0=h.hide P)(hP:h.get? P=some (tabO ps)):Hid h c:=fun b o hb hn=>by
 rw[hc,Heap.hide_ne h fun q=>by rw[q,hP] at hb;exact hn ps (zaa hb).symm];exact hb
theorem zfg(hh:Hid h c)(n:h.Ns a m):c.h0.Ns a m:=
 let⟨o,es,ep,e,hd,r⟩:=n;⟨o,es,ep,hh a o e (fun ps q=>by rw[q] at hd;injection hd),hd,r⟩
theorem ok_hid (T : Top p loose mean mg mb h) (hh : Hid h c) (hg : c.g = mg) (hb : c.b = mb) (hs : h.NoSeer) (ht : c.prog.given.tree = none) : c.Ok := by
 subst hg hb
 exact { lim := let ⟨mc, a, r⟩ := T.nolimit; ⟨mc, zfg hh a, r⟩
         gl := zfg hh T.g
         bl := zfg hh T.b
         tree := ht
         seer := { statics := let ⟨mc, a, r⟩ := hs.statics; ⟨mc, zfg hh a, r⟩
                   mods := let ⟨mc, a, r⟩ := hs.mods; ⟨mc, zfg hh a, r⟩
                   imp := let ⟨mc, a, r⟩ := hs.imp; ⟨mc, zfg hh a, r⟩
                   main := let ⟨mg, bm, ob, a, b, c, d, e⟩ := hs.main; ⟨mg, bm, ob, zfg hh a, b, hh bm ob c (fun ps q => by rw [q] at d; injection d), d, e⟩ } }
theorem bm_hid (T : Top p loose mean mg mb h) (hh : Hid h c) (hg : c.g = mg) : BMain c := by
 subst hg
 obtain ⟨bm, ob, b1, b2, b3, b4, b5, b6⟩ := T.bmain
 exact ⟨bm, ob, b1, b2, hh bm ob b3 (fun ps q => by rw [q] at b4; injection b4), b4, b5, b6⟩
theorem cdHd_of{c P:Addr}(hc:h.IsCode c P #[])(ht:h.TableAt c P #[]):CdHd h c P:=by
 obtain⟨⟨o,vs,e1,e2,e3,e4⟩,_⟩:=ht
 obtain⟨o',vs',file,tf,flags,tg,inF,text,tt,op,f1,f2,f3,f4,f5,f6,f7,_,_,_,f11⟩:=hc
 obtain rfl:=zaa (e1.symm.trans f1)
 obtain rfl:=Data.fields.inj (e3.symm.trans f2)
 exact⟨o,vs,file,tf,flags,tg,inF,text,tt,e1,e2,e3,e4,f3,f4,f5,f6,f7,f11⟩
inductive AtP(e:qa9)(mg:Str->Option Value)(h:Heap)(P:Addr):Prop
 |mk (a cc:Addr)(o:Obj)(pm doc:Value)(g1:mg e.name=some (.ref a))(g2:h.get? a=some o)(g3:o.data=.func (Calls.docDef e.name e.params e.body e.scope pm (.ref cc) doc))(g4:h.CodeRec (.ref cc) e.name)(g5:CdHd h cc P)(g6:h.get? P=some (tabO #[])):AtP e mg h P
theorem atP{e:qa9}(hat:e.At mg h):∃P,AtP e mg h P:=by
 obtain⟨a,cc,P,o,pm,doc,g1,g2,g3,g4,B⟩:=hat
 exact⟨P,a,cc,o,pm,doc,g1,g2,g3,g4,cdHd_of B.code B.tab,B.tab.2⟩
theorem DefTab.of{e:qa9}{P:Addr}(hh:Hid h c)(q:AtP e c.g h P)(h0:c.h0.get? P=none)(ht:c.tabs=[(P,lc,e.name++".<locals>."++"<lambda>")]):DefTab c e lc:=by
 obtain⟨a,cc,o,pm,doc,g1,g2,g3,g4,g5,g6⟩:=q
 obtain⟨o1,vs,file,tf,flags,tg,inF,text,tt,e1,e2,e3,e4,f3,f4,f5,f6,f7,f11⟩:=g5
 obtain⟨c2,o2,vs2,t,q1,q2,q3,q4⟩:=g4
 obtain rfl:=qby q1
 obtain rfl:=zaa (e1.symm.trans q2)
 have k:=hh cc o1 e1 (fun ps q=>by rw[q] at e2;injection e2)
 exact⟨a,cc,o,pm,doc,(P,lc,e.name++".<locals>."++"<lambda>"),g1,hh a o g2 (fun ps q=>by rw[q] at g3;injection g3),g3,⟨cc,o1,vs2,t,rfl,k,q3,q4⟩,by rw[ht];exact zad,fun y hy J=>by rw[ht] at hy;exact zaf.mp hy,h0,⟨o1,vs,file,tf,flags,tg,inF,text,tt,k,e2,e3,e4,f3,f4,f5,f6,f7,f11⟩,rfl,rfl⟩
def HasJ(c:Cx)(f:String)(np n:Nat)(xs:List St):Prop:=
 ∀q d kk z vs Q E H,vs.length=np->wpSs (Calls c) q d (some (kk,z)) xs (EndQ Q) (EndX E) (vs.map some++List.replicate (n-np) none) H->Calls c q (d+1) (qab f) vs (some (kk,z)) Q E H
theorem has_atJ(TA:∀e∈(recsOf p).map W.itemOf,e.params.defaults=[]->DefAt c e)(O:c.Ok)(TO:TabOk c Tb)(j fuel r:Nat)(ps:List Str)
  (hj:(((recsOf p).map W.itemOf)[j]?.bind fun e=>if e.params.defaults.isEmpty=true/\e.name=qab f/\ps.length=np/\(slots e.scope.names).length+r=n then eFunJ Tb fuel r ps e else none)=some xs):HasJ c f np n xs:=by
 revert hj;refine xB fun e he hx=>?_
 obtain⟨⟨h0,h1,h2,h3⟩,hx⟩:=iteO hx
 intro q d kk z vs Q E H hl hw
 rw[<- h1]
 refine zsq O TO (TA e (zam he) (zbh.mp h0)) hx (by rw[hl,h2]) ?_
 rw[h3,hl];exact hw
inductive Led(p:qbi)(Tb:Tab)(f:String)(np n kk:Nat)(y:List St×Nat×Nat)(e:qa9):Prop
 |mk (fuel r:Nat)(hm:e∈(recsOf p).map W.itemOf)(h0:e.params.defaults=[])(h1:e.name=qab f)(h2:e.params.args.length=np)(h3:(slots e.scope.names).length+r=n)(he:eFunL Tb fuel r kk e=some y):Led p Tb f np n kk y e
theorem led_of(TA:∀e∈(recsOf p).map W.itemOf,e.params.defaults=[]->e.At mg h)(j fuel r kk:Nat)
  (hj:(((recsOf p).map W.itemOf)[j]?.bind fun e=>if e.params.defaults.isEmpty=true/\e.name=qab f/\e.params.args.length=np/\(slots e.scope.names).length+r=n then eFunL Tb fuel r kk e else none)=some y):∃e P,Led p Tb f np n kk y e/\AtP e mg h P:=by
 revert hj;refine xB fun e he hx=>?_
 obtain⟨⟨h0,h1,h2,h3⟩,hx⟩:=iteO hx
 obtain⟨P,hP⟩:=atP (TA e (zam he) (zbh.mp h0))
 exact⟨e,P,⟨fuel,r,zam he,zbh.mp h0,h1,h2,h3,hx⟩,hP⟩
theorem AtP.tab{e:qa9}{P:Addr}(q:AtP e mg h P):h.get? P=some (tabO #[]):=let⟨_,_,_,_,_,_,_,_,_,_,g⟩:=q;g
theorem oldK_of{e:qa9}{P:Addr}(q:AtP e mg h P)(k:∀b o,b≠P->h.get? b=some o->h'.get? b=some o)(hg:∃ps,h'.get? P=some (tabO ps)):OldK h h':=by
 have hP:=q.tab
 obtain⟨_,cc,_,_,_,_,_,_,_,g5,_⟩:=q
 obtain⟨o1,vs,_,_,_,_,_,_,_,e1,e2,e3,e4,_,_,_,_,_,_⟩:=g5
 obtain⟨ps,hg⟩:=hg
 refine⟨fun b o e=>?_,fun b o e=>?_⟩
 ·by_cases hb:b=P
  ·subst hb
   obtain rfl:=zaa (hP.symm.trans e)
   exact .inr (.inl ⟨⟨cc,o1,vs,e1,e2,e3,e4⟩,rfl,#[],ps,rfl,by rw[Array.empty_append];exact hg⟩)
  ·exact .inl (k b o hb e)
 ·by_cases hb:b=P
  ·subst hb;exact⟨_,hg⟩
  ·exact⟨o,k b o hb e⟩
theorem has_led{e:qa9}(O:c.Ok)(TO:TabOk c Tb)(BM:BMain c)(LO:∀kk fd nm,LamF kk fd nm->c.lam kk fd nm)(hl:Led p Tb f np n kk y e)(hat:DefTab c e y.2):Has c f np n y.1:=by
 obtain⟨fuel,r,hm,h0,h1,h2,h3,he⟩:=hl
 intro q d vs Q E H hl hw
 rw[<- h1]
 refine zsg O TO BM LO hat he (by rw[hl,h2]) ?_
 rw[h3,hl];exact hw
theorem law_endL{fa P:Addr}{nm:Str}(hA:OkA c A true d [] s.heap)(h0:c.h0=s.heap.hide P)(hP:s.heap.get? P=some (tabO #[]))(ht:c.tabs=[(P,lc,nm)])(hgens:s.gens = #[])(hg:c.g (qab "law")=some (.ref fa)){vs:List Value}(hL:s.heap.IsList a vs.toArray)(hI:IntsAre vs l)(hl:l.length<=qag)
  (hc:Calls c true d (qab "law") [.scr l] none (fun v J=>v=.bool true) noX [])
  (hR:∀s',(∀b o,b≠P->s.heap.get? b=some o->s'.heap.get? b=some o)->(∃ps,s'.heap.get? P=some (tabO ps))->s'.os=s.os->s'.gens = #[]->R (.ok (.ret (.bool true))) s'):codeAny (model c.prog c.w) A (.call (.ref fa) ⟨[.ref a],[]⟩) R s:=by
 refine hc _ fun a' o' fd' g1 g2 g3 g4=>?_;clear hc
 rw[hg] at g1;injection g1 with Ja;injection Ja with w4;subst w4
 have hh:Hid s.heap c:=zmj h0 hP
 have S:Sim c [] [] s:=⟨fun b o h=>Heap.of_hide (h0▸h),(fun J h=>nomatch h),zbx,rfl,(fun J J h=>nomatch h),hgens,fun x hx=>by
  rw[ht] at hx;rw[zaf.mp hx];exact .no hP⟩
 obtain⟨ol,ho,hcl,n,hd⟩:=hL
 have R1:RepL c [] s.heap [.scr l] [.ref a]:=⟨⟨a,ol,vs.toArray,n,rfl,zbd,hh a ol ho (fun ps q=>by rw[q] at hcl;injection hcl),ho,hcl,hd,hl,ints_of hI⟩,rfl⟩
 have:=g4 A [] s [.ref a] [] hA S R1 rfl
 refine codeAny_mono this ?_
 intro r s' hr
 cases r with
 |error e=>
  obtain⟨_,_,_,_,_,_,hq⟩:=hr
  exact hq.elim
 |ok f=>cases f with
  |ret v=>
   obtain⟨φ',H',v,e,S',Rv,hv⟩:=hr
   subst hv
   cases(show _=_ from Rv)
   refine hR s' (fun b o hb ho=>S'.stays b o (by rw[h0,Heap.hide_ne _ hb];exact ho)) ?_ e.os S'.gens
   rcases S'.tab _ (ht▸zad) with h1 |⟨cc,h1,_⟩
   ·exact⟨_,h1⟩
   ·exact⟨_,h1⟩
  |_=>exact hr.elim
end
variable {R:SPost}{a:Int}{f m:Nat}{l:Loc}{p:Nat×Nat}{s:PS}{xs y:List V}
section
open PySem PyProof.Rows
theorem zmm(hh:Hid h c){C:Addr}(K:ClsAt h C bm ini):ClsAt c.h0 C bm ini:=by
 obtain⟨nm,q,N,bs,sn,sub,ab,col,dd,k0,k1,k2,k3,k5,mN,hC,hN,hq,hi⟩:=K
 exact⟨nm,q,N,bs,sn,sub,ab,col,dd,k0,k1,k2,k3,k5,mN,hh C _ hC (fun ps e=>nomatch congrArg Obj.cls e),zfg hh hN,hq,hi⟩
theorem exc_hid(hh:Hid h c)(X:ExcH h):ExcH c.h0:=by
 obtain⟨m,hm,NE,hn,net,kid,inj⟩:=X
 refine⟨m,zfg hh hm,NE,hn,zmm hh net,fun cn hc=>?_,inj⟩
 obtain⟨C,ini,h1,h2,h3,h4⟩:=kid cn hc
 exact⟨C,ini,h1,h2,zmm hh h3,h4⟩
theorem net_hid{P:Addr}(hc:c.h0=h.hide P)(hP:h.get? P=some (tabO #[]))(X:NetH h):NetH c.h0:=by
 have hh:Hid h c:=zmj hc hP
 obtain⟨m,hm,NE,C,fI,oI,fd,hn,hg,own,net,I,mc,h1,h2⟩:=X
 refine⟨m,zfg hh hm,NE,C,fI,oI,fd,hn,hg,zmm hh own,zmm hh net,{ I with ho:=hh _ _ I.ho (fun ps e=>?_),code:=?_ },mc,zfg hh h1,h2⟩
 ·have:=I.cls
  rw[e] at this;injection this
 ·obtain⟨c2,o2,vs2,t,q1,q2,q3,q4⟩:=I.code
  refine⟨c2,o2,vs2,t,q1,?_,q3,q4⟩
  have hne:c2≠P:=fun e=>by
   rw[e,hP] at q2
   obtain rfl:=zaa q2
   (injection q3 with Ja;subst Ja)
   injection q4
  rw[hc,Heap.hide_ne _ hne];exact q2
end
variable {h:Nat}
theorem zw2(h:i<n):ix (i:Int) n=some i:=by
 refine(if_pos (zbl i)).trans ((if_pos (zaq.mpr h)).trans ?_)
 rw[zb4]
theorem zcj{xs:List α}{x:α}(h:xs[i]?=some x):i<xs.length:=(zbn.mp h).1
theorem idx_scr{xs:List Int}(h:xs[i]?=some x):idxV H (.scr xs) (.int i)=some (.int x):=by
 show(ix i xs.length).bind _=_
 rw[zw2 (zcj h)]
 show(xs[i]?).map _=_
 rw[h];rfl
theorem zc5{a:Nat}{x:V}(ha:H[a]?=some xs)(h:xs[i]?=some x):idxV H (.lst a) (.int i)=some x:=by
 show(H[a]?).bind _=_
 rw[ha]
 show(ix i xs.length).bind _=_
 rw[zw2 (zcj h)]
 exact h
theorem zmt{a:Nat}{x:V}(ha:H[a]?=some xs)(h:xs.getLast?=some x):idxV H (.lst a) (.int (-1))=some x:=by
 show(H[a]?).bind _=_
 rw[ha]
 show(ix (-1) xs.length).bind _=_
 rw[List.getLast?_eq_getElem?] at h
 have wq:=Nat.pos_of_lt_add_left (n:=0) (k:=xs.length) (by have:=zcj h;exact ar1 [_] [] kaa (Y1 J0 (Y0 V0 J0)) (Y1 (Y2 V0 J1) V0) this)
 have e:ix (-1) xs.length=some (xs.length-1):=by
  refine(if_neg (by decide)).trans ((if_pos (by exact ar1 [_] [] kaa (Y3 (Y3 (Y4 V0 J0) J0) (Y3 J1 J0)) (Y1 J0 V0) wq)).trans ?_)
  rw[show((-1:Int)+xs.length).toNat=xs.length-1 by exact ar1 [_,_] [] 0x6410a50006100c030802000065294001840400c2018061004050802140d04294001840700c2008000214a50006101c03080401840001005080211a08528003080e01840100005294001840501020200610000508021 (Y2 V0 (Y2 V1 J1)) (Y7 (Y5 (Y4 V0 J0) (Y0 (Y3 J1 J0) (Y4 V1 J0))) (Y6 (Y3 (Y0 (Y3 J1 J0) (Y4 V1 J0)) J0) (Y2 V0 J0))) (Ar.tn _)]
 rw[e]
 exact h
theorem zfc(P:Has c "_law_cell_at" 2 2 zgv){xs:List Int}(hc:q=true)(hq:Q (.int (xs.getD i 0)) H):Calls c q (d+1) "_law_cell_at" [.scr xs,.int i] none Q E H:=by
 subst hc
 refine P true d _ Q E H rfl (Ss_go ?_)
 walk_at ""
 refine zcf (fun h=>?_) (fun h=>?_)
 ·walk_at ""
  have hg:=zai (zaq.mp h)
  refine Opt.mk (idx_scr hg) ?_
  rw[zao,hg] at hq
  exact hq
 ·walk_at ""
  rw[zao,zb2 (za7 fun q=>h (zaq.mpr q))] at hq
  exact hq
theorem bin_mod(hb:0<b):binV H .mod (.int a) (.int b)=some (.int (a%b),H):=by
 refine(if_neg (Int.ne_of_gt hb)).trans ?_
 rw[Int.fmod_eq_emod_of_nonneg _ (Int.le_of_lt hb)]
theorem bin_div(hb:0<b):binV H .div (.int a) (.int b)=some (.int (a/b),H):=by
 refine(if_neg (Int.ne_of_gt hb)).trans ?_
 rw[Int.fdiv_eq_ediv_of_nonneg _ (Int.le_of_lt hb)]
theorem zdf(hb:0<b)(h:K (.int (a%b),H)):Opt (binV H .mod (.int a) (.int b)) K:=Opt.mk (bin_mod hb) h
theorem zfq(hb:0<b)(h:K (.int (a/b),H)):Opt (binV H .div (.int a) (.int b)) K:=Opt.mk (bin_div hb) h
noncomputable def zg2(x:Int):Int:=if x/12%9=1 then 13+x/108%20 else 1+x%12
theorem zr4(x:Int):1<=zg2 x/\zg2 x<=32:=by unfold zg2;split<;>(first |exact ar1 [] [_,_,_] kbm (Y6 (Y3 J1 (Y0 (.l 13) V0)) (Y3 (Y0 (.l 13) V0) (.l 32))) (Y6 (Y5 (Y0 (Y1 (.l 20) V1) V0) V2) (Y6 (Y3 J0 V0) (Y4 V0 (.l 20)))) (Ar.zd _ (k:=20) (by decide)) |exact ar1 [] [_,_,_] kbm (Y6 (Y3 J1 (Y0 J1 V0)) (Y3 (Y0 J1 V0) (.l 32))) (Y6 (Y5 (Y0 (Y1 (.l 12) V1) V0) V2) (Y6 (Y3 J0 V0) (Y4 V0 (.l 12)))) (Ar.zd _ (k:=12) (by decide)))
theorem zr5(P:Has c "_law_lines_by" 1 2 zf3)(hq:Q (.int (zg2 x)) H):Calls c q (d+1) "_law_lines_by" [.int x] none Q E H:=by
 refine P q d _ Q E H rfl (Ss_go ?_)
 walk_at ""
 refine zdf (by decide) ?_
 walk_at ""
 refine zfq (by decide) ?_
 walk_at ""
 refine zdf (by decide) ?_
 walk_at ""
 refine zcf (fun h=>?_) (fun h=>?_)
 ·walk_at ""
  refine zfq (by decide) ?_
  walk_at ""
  refine zdf (by decide) ?_
  walk_at ""
  rw[zg2,if_pos h] at hq
  exact hq
 ·walk_at ""
  rw[zg2,if_neg h] at hq
  exact hq
theorem s_whole(P:Has c "_law_whole" 1 1 zio){i:Int}(hq:Q (.bool true) H):Calls c q (d+1) "_law_whole" [.int i] none Q E H:=by
 refine P q d _ Q E H rfl (Ss_go ?_)
 walk_at ""
 exact hq
variable {a b k x:Nat}
noncomputable def nat(n:Nat):V:=.int n
noncomputable def fl(p:Nat×Nat):V:=.tup [.int p.2,.int p.1]
structure Apart(f dn rd:Nat)(bs:List Nat):Prop where
 n1:f≠dn
 n2:f≠rd
 n3:f∉bs
 n4:dn≠rd
 n5:dn∉bs
 n6:rd∉bs
 n7:bs.Nodup
structure Build(H:Hp)(f dn rd:Nat)(bs:List Nat)(lays:Net)(done read:List Nat):Prop where
 F:H[f]?=some (bs.map .lst)
 len:bs.length=lays.length
 L:∀(i b:Nat) (y:List (Nat×Nat)),bs[i]?=some b->lays[i]?=some y->H[b]?=some (y.map fl)
 D:H[dn]?=some (done.map nat)
 R:H[rd]?=some (read.map nat)
 ap:Apart f dn rd bs
structure Stay(S:List Nat)(H H':Hp):Prop where
 len:H.length<=H'.length
 same:∀x,x<H.length->x∉S->H'[x]?=H[x]?
theorem Stay.refl:Stay S H H:=⟨zae _,fun J J J=>rfl⟩
theorem zc2(h:H[x]?=some y):x<H.length:=zcj h
theorem zdq(h:H[x]?=some y):(H++[xs])[x]?=some y:=(zbu (zc2 h)).trans h
theorem zcd:(H++[xs])[H.length]?=some xs:=List.getElem?_concat_length
theorem zcz(h:H[x]?=some y)(hn:x≠a):(H.set a xs)[x]?=some y:=(zb0 (qax hn)).trans h
theorem zd1(h:H[a]?=some y):(H.set a xs)[a]?=some xs:=zbv (zc2 h)
theorem Build.lt(B:Build H f dn rd bs lays done read)(hb:bs[i]?=some b):b<H.length/\i<lays.length:=
 have hi:i<lays.length:=B.len▸zcj hb
 ⟨zc2 (B.L i b _ hb (zai hi)),hi⟩
theorem Build.ltm(B:Build H f dn rd bs lays done read)(hb:b∈bs):b<H.length:=by
 obtain⟨i,hi⟩:=List.mem_iff_getElem?.mp hb
 exact(B.lt hi).1
theorem zd9{l:List α}{x y:α}(h:(l++[x])[i]?=some y):l[i]?=some y\/(i=l.length/\x=y):=by
 by_cases hi:i<l.length
 ·exact .inl ((zbu hi).symm.trans h)
 ·have hlt:=zcj h
  rw[zak] at hlt
  have e:i=l.length:=Nat.le_antisymm (Nat.le_of_lt_succ hlt) (za7 hi)
  rw[e,List.getElem?_concat_length] at h
  exact .inr ⟨e,zaa h⟩
theorem Build.grow(B:Build H f dn rd bs lays done read):Build ((H++[[]]).set f (bs.map V.lst++[V.lst H.length])) f dn rd (bs++[H.length]) (lays++[[]]) done read:=by
 have hf:=zc2 B.F
 have A:=B.ap
 have keep:∀{x:Nat} {y:List V},x≠f->H[x]?=some y->((H++[[]]).set f (bs.map V.lst++[V.lst H.length]))[x]?=some y:=fun hx h=>zcz (zdq h) hx
 have out:∀{x:Nat},x<H.length->x∉bs->x∉bs++[H.length]:=fun hx hn hm=>(zaj.mp hm).elim hn fun e=>zar hx (zaf.mp e)
 refine⟨?_,?_,fun i b y hb hy=>?_,keep (qax A.n1) B.D,keep (qax A.n2) B.R,⟨A.n1,A.n2,out hf A.n3,A.n4,out (zc2 B.D) A.n5,out (zc2 B.R) A.n6,?_⟩⟩
 ·rw[zan];exact zd1 (zdq B.F)
 ·rw[zak,zak,B.len];rfl
 ·rcases zd9 hb with hb |⟨e,rfl⟩
  ·rcases zd9 hy with hy |⟨e,rfl⟩
   ·exact keep (fun q=>A.n3 (q▸zam hb)) (B.L i b y hb hy)
   ·exact absurd (zcj hb) (by rw[e,B.len];exact zay _)
  ·rcases zd9 hy with hy |⟨_,rfl⟩
   ·exact absurd (zcj hy) (by rw[e,B.len];exact zay _)
   ·exact zcz zcd (Nat.ne_of_gt hf)
 ·refine zb3.mpr ⟨A.n7,zbw.mpr ⟨zbd,zbx⟩,fun x hx y hy=>?_⟩
  rw[zaf.mp hy]
  exact zar (B.ltm hx)
theorem Build.putL(B:Build H f dn rd bs lays done read){y:List (Nat×Nat)}(hb:bs[i]?=some b):Build (H.set b (y.map fl)) f dn rd bs (lays.set i y) done read:=by
 have A:=B.ap
 have hm:=zam hb
 obtain⟨hlt,hi⟩:=B.lt hb
 refine⟨zcz B.F (fun q=>A.n3 (q▸hm)),B.len.trans zbg.symm,fun j b' y' hb' hy'=>?_,zcz B.D (fun q=>A.n5 (q▸hm)),zcz B.R (fun q=>A.n6 (q▸hm)),A⟩
 by_cases hij:j=i
 ·subst hij
  obtain rfl:=zaa (hb.symm.trans hb')
  obtain rfl:=zaa ((zbv hi).symm.trans hy')
  exact zbv hlt
 ·rw[zb0 (qax hij)] at hy'
  exact zcz (B.L j b' y' hb' hy') (fun q=>hij (znw A.n7 (q▸hb') hb))
theorem Build.putD(B:Build H f dn rd bs lays done read):Build (H.set dn (done'.map nat)) f dn rd bs lays done' read:=
 have A:=B.ap
 ⟨zcz B.F A.n1,B.len,fun j b y hb hy=>zcz (B.L j b y hb hy) (fun q=>A.n5 (q▸zam hb)),zd1 B.D,zcz B.R (qax A.n4),A⟩
theorem Build.putR(B:Build H f dn rd bs lays done read):Build (H.set rd (read'.map nat)) f dn rd bs lays done read':=
 have A:=B.ap
 ⟨zcz B.F A.n2,B.len,fun j b y hb hy=>zcz (B.L j b y hb hy) (fun q=>A.n6 (q▸zam hb)),zcz B.D A.n4,zd1 B.R,A⟩
theorem Stay.set(h:Stay S H H')(ha:a∈S\/H.length<=a):Stay S H (H'.set a xs):=
 ⟨by rw[zbg];exact h.len,fun x hx hn=>(zb0 (fun q:a=x=>ha.elim (fun m=>hn (q▸m)) fun m=>za9.mpr m (q▸hx))).trans (h.same x hx hn)⟩
theorem Stay.app(h:Stay S H H'):Stay S H (H'++[xs]):=
 ⟨by rw[zak];exact Nat.le_add_right_of_le h.len,fun x hx hn=>(zbu (zat hx h.len)).trans (h.same x hx hn)⟩
variable {xs:List Nat}
theorem zp6(a b:Nat):(if(a:Int)<b then(b:Int) else a)=((max a b:Nat):Int):=by
 by_cases h:a<b
 ·rw[if_pos (zaq.mpr h),Nat.max_eq_right (zap h)]
 ·rw[if_neg (fun q=>h (zaq.mp q)),Nat.max_eq_left (za7 h)]
theorem zrj:onQ true (bltV H .max [.int a,.int b])=some (.int (max a b:Nat),H):=by
 rw[<- zp6];rfl
theorem blt_max3{e:Nat}:onQ true (bltV H .max [.int a,.int b,.int e])=some (.int (max (max a b) e:Nat),H):=by
 rw[<- zp6,<-zp6];rfl
theorem zi9{g:α->V}{xs:List α}{x:α}(h:xs[i]?=some x):(xs.map g)[i]?=some (g x):=by rw[zal,h];rfl
theorem zds(ha:H[a]?=some (xs.map nat))(h:xs[i]?=some x):idxV H (.lst a) (.int i)=some (.int x):=zc5 ha (zi9 h)
theorem put_at{xs:List V}(ha:H[a]?=some xs)(h:i<xs.length):putV H (.lst a) (.int i) v=some (H.set a (xs.set i v)):=by
 show(H[a]?).bind _=_
 rw[ha]
 refine(if_pos ⟨zbl i,zaq.mpr h⟩).trans ?_
 rw[zb4]
theorem zmc(ha:H[a]?=some (xs.map nat))(h:i<xs.length):putV H (.lst a) (.int i) (.int x)=some (H.set a ((xs.set i x).map nat)):=by
 rw[List.map_set]
 exact put_at ha (by rw[zab];exact h)
theorem zcx{xs:List V}(ha:H[a]?=some xs)(hz:xs.length<10000):zpx H .append (.lst a) [v]=some (.none,H.set a (xs++[v])):=by
 show(H[a]?).bind _=_
 rw[ha]
 exact if_pos (zau hz (by decide))
structure Placed(H:Hp)(f dn rd:Nat)(bs:List Nat)(lays:Net)(done read:List Nat)(l h:Nat)(bs':List Nat)(H':Hp):Prop where
 build:Build H' f dn rd bs' (zk5 lays (zdk done read l h) (l,h)) (done.set h (zdk done read l h+1)) (read.set l (max (g0 read l) (zdk done read l h)))
 stay:Stay (f::dn::rd::bs) H H'
 new:∀b∈bs',b∈bs\/H.length<=b
theorem zr8(hnm:n+m=k+1-L)(wq:b=L+m)(hle:b<=k):n-1<n/\n-1+(m+1)=k+1-L:=by exact ar3 [_,_,_,_,_] [] 0xc61a064294a528004081a01840e00c204806100c0308020180a308c20104a528003080e01840400c20000a100023294a0010203006100c03080202840008d04294a00102048061028030800000068214a5294a0010206008103403081c01840a010203006100400014a000c2040061000050800128c2308041 (Y6 (Y1 (Y2 V0 J1) V0) (Y2 (Y0 (Y2 V0 J1) (Y0 V1 J1)) (Y2 (Y0 V2 J1) V3))) (Y2 (Y0 V0 V1) (Y2 (Y0 V2 J1) V3)) (Y2 V4 (Y0 V3 V1)) (Y0 V4 V2) hnm wq hle
theorem ztr(hnm:n+m=k+1-L)(wq:b=L+m)(hle:¬b<=k):m=k+1-L:=by exact ar3 [_,_,_,_,_] [] 0x314a000c201006100003410a5000610180308020000a5294001840700c204006101003080002882308021 (Y2 V0 (Y2 (Y0 V1 J1) V2)) (Y2 (Y0 V3 V0) (Y2 (Y0 V1 J1) V2)) (Y2 V4 (Y0 V2 V0)) (Y8 (Y0 V4 V1) J0) hnm wq hle
def GrowInv(H:Hp)(f dn rd:Nat)(bs:List Nat)(lays:Net)(done read:List Nat)(l h k n:Nat)(x0:Loc)(H':Hp):Prop:=∀GJ:Prop,(∀(bs':List Nat),∀(m:Nat),(n+m=k+1-lays.length)->Build H' f dn rd bs' (lays++List.replicate m []) done read->Stay (f::dn::rd::bs) H H'->(∀b∈bs',b∈bs\/H.length<=b)->[some (.lst f),some (.int l),some (.int h),some (.lst dn),some (.lst rd),some (.int k)]=x0->GJ)->GJ
theorem zwa(h:i<xs.length):xs[i]?=some (g0 xs i):=by
 rw[g0,zao,zai h];rfl
theorem s_place(P:Has c "_law_place" 5 6 zc4){l:Nat}(B:Build H f dn rd bs lays done read)(hl:l<done.length)(hh:h<done.length)(hrl:read.length=done.length)(hc:q=true)
  (hsz:zdk done read l h<1000) (hlz:lays.length<1000) (hyz:∀y∈lays,y.length<1000) (hq:∀bs' H',Placed H f dn rd bs lays done read l h bs' H'->Q .none H') :
  Calls c q (d+1) "_law_place" [.lst f,.int l,.int h,.lst dn,.lst rd] none Q E H:=by
 subst hc
 refine P true d _ Q E H rfl (Ss_go ?_)
 have gR:∀{x:Nat},x<done.length->read[x]?=some (g0 read x):=fun hx=>zwa (hrl▸hx)
 walk_at ""
 refine Opt.mk (zds B.D (zwa hl)) ?_
 walk_at ""
 refine Opt.mk (zds B.D (zwa hh)) ?_
 walk_at ""
 refine Opt.mk (zds B.R (gR hh)) ?_
 walk_at ""
 refine Opt.mk blt_max3 ?_
 walk_at ""
 rw[show max (max (g0 done l) (g0 done h)) (g0 read h)=zdk done read l h from rfl]
 generalize hat:zdk done read l h=k at hsz
 refine⟨rfl,.mk (GrowInv H f dn rd bs lays done read l h k) (k+1-lays.length) (fun J kJ=>kJ bs 0 rfl (by rw[List.replicate_zero,za4];exact B) Stay.refl (fun b hb=>.inl hb) rfl) ?_⟩
 rintro n l' H' hI
 refine hI _ fun bs' m hnm B' st hnew wg=>?_;clear hI;subst wg
 have wq:=B'.len
 rw[zak,List.length_replicate] at wq
 walk_at ""
 refine Opt.mk (zcn B'.F) ?_
 walk_at ""
 rw[zab]
 refine zcf (fun hle=>?_) (fun hle=>?_)
 ·have hle:=zaw.mp hle
  walk_at ""
  refine⟨rfl,?_⟩
  walk_at ""
  refine Opt.mk (zcx (zdq B'.F) (by rw[zab];exact za3 hle (zau hsz (by decide)))) ?_
  walk_at ""
  have hst:=zr8 hnm wq hle
  refine⟨n-1,hst.1,(fun J kJ=>kJ (bs'++[H'.length]) (m+1) hst.2 ?_ ((st.app).set (.inl zad)) (fun b hb=>?_) rfl)⟩
  ·have:=B'.grow
   rw[zbb,<-List.replicate_succ'] at this
   exact this
  ·rcases zaj.mp hb with hb |hb
   ·exact hnew b hb
   ·rw[zaf.mp hb];exact .inr st.len
 ·have hle:¬bs'.length<=k:=fun q=>hle (zaw.mpr q)
  walk_at ""
  have hm:m=k+1-lays.length:=ztr hnm wq hle
  rw[hm] at B'
  rw[show lays++List.replicate (k+1-lays.length) []=zlk (k+1) lays from rfl] at B'
  have hb:=zai (Nat.lt_of_not_le hle)
  generalize bs'[k]=b at hb
  obtain⟨hblt,hkl⟩:=B'.lt hb
  have hy:=zai hkl
  generalize hyy:(zlk (k+1) lays)[k]=y at hy
  have hyl:y.length<1000:=by
   rcases zaj.mp (zam hy) with h1 |h1
   ·exact hyz y h1
   ·rw[(List.mem_replicate.mp h1).2];decide
  refine Opt.mk (zc5 B'.F (zi9 hb)) ⟨rfl,?_⟩
  walk_at ""
  refine Opt.mk (zcx (B'.L k b y hb hy) (by rw[zab];exact zau hyl (by decide))) ?_
  rw[show y.map fl++[.tup [.int h,.int l]]=(y++[(l,h)]).map fl by rw[zan];rfl]
  have B2:=B'.putL (y:=y++[(l,h)]) hb
  walk_at ""
  refine Opt.mk (zds B2.R (gR hl)) ?_
  walk_at ""
  refine Opt.mk zrj ?_
  walk_at ""
  refine Opt.mk (zmc B2.R (hrl▸hl)) ?_
  have B3:=B2.putR (read':=read.set l (max (g0 read l) k))
  walk_at ""
  refine Opt.mk (zmc (x:=k+1) B3.D hh) ?_
  have B4:=B3.putD (done':=done.set h (k+1))
  refine hq bs' _ ⟨?_,((st.set ?_).set (.inl (zag _ (zag _ zad)))).set (.inl (zag _ zad)),hnew⟩
  ·rw[hat]
   have e2:(zlk (k+1) lays).set k (y++[(l,h)])=zk5 lays k (l,h):=by
    rw[zk5,zao,hy];rfl
   rw[<- e2];exact B4
  ·exact(hnew b (zam hb)).imp (fun h1=>zag _ (zag _ (zag _ h1))) id
theorem Stay.trans{S':List Nat}(h:Stay S H H')(h':Stay S' H' H'')(hs:∀x∈S',x∈S\/H.length<=x):Stay S H H'':=
 ⟨zac h.len h'.len,fun x hx hn=>(h'.same x (zat hx h.len) fun hm=>(hs x hm).elim hn fun hl=>za9.mpr hl hx).trans (h.same x hx hn)⟩
structure KeptB(H:Hp)(f dn rd:Nat)(bs:List Nat)(X:List Nat)(s:PS)(bs':List Nat)(H':Hp):Prop where
 build:Build H' f dn rd bs' s.lays s.done s.read
 stay:Stay (X++f::dn::rd::bs) H H'
 new:∀b∈bs',b∈bs\/H.length<=b
theorem mem4{P:Nat->Prop}(h1:P f)(h2:P dn)(h3:P rd)(h4:∀b∈bs,P b):∀x∈f::dn::rd::bs,P x:=
 za2.mpr ⟨h1,za2.mpr ⟨h2,za2.mpr ⟨h3,h4⟩⟩⟩
theorem m1:f∈f::dn::rd::bs:=zad
theorem m2:dn∈f::dn::rd::bs:=zag _ zad
theorem m3:rd∈f::dn::rd::bs:=zag _ (zag _ zad)
theorem m4(h:x∈bs):x∈f::dn::rd::bs:=zag _ (zag _ (zag _ h))
theorem not4(h1:x≠f)(h2:x≠dn)(h3:x≠rd)(h4:x∉bs):x∉f::dn::rd::bs:=fun hm=>by
 rcases zah.mp hm with h |hm
 ·exact h1 h
 rcases zah.mp hm with h |hm
 ·exact h2 h
 rcases zah.mp hm with h |hm
 ·exact h3 h
 exact h4 hm
theorem s_put(P:Has c "_law_place" 5 6 zc4){l:Nat}(K:KeptB H0 f dn rd bs0 X s bs H)(L:Laid n s js)(hn:n<=64)(hz:s.lays.length<900)(hlh:l<h)(hhn:h<n)(hc:q=true)
  (hq:∀bs' H',KeptB H0 f dn rd bs0 X (s.put (l,h)) bs' H'->Stay (f::dn::rd::bs) H H'->(∀b∈bs',b∈bs\/H.length<=b)->Q .none H') :
  Calls c q (d+1) "_law_place" [.lst f,.int l,.int h,.lst dn,.lst rd] none Q E H:=by
 have dl:=L.dl;have rl:=L.rl
 refine s_place P K.build (dl▸zau hlh hhn) (dl▸hhn) (rl.trans dl.symm) hc ?_ (zau hz (by decide)) (fun y hy=>za3 (zac (L.wide y hy) hn) (by decide)) ?_
 ·exact za3 (L.at_le l h) (zau hz (by decide))
 ·intro bs' H' Pl
  exact hq bs' H' ⟨Pl.build,K.stay.trans Pl.stay (mem4 (.inl (zbt _ m1)) (.inl (zbt _ m2)) (.inl (zbt _ m3)) fun b hb=>(K.new b hb).imp (fun h=>zbt _ (m4 h)) id),
   fun b hb=>(Pl.new b hb).elim (K.new b) fun h=>.inr (zac K.stay.len h)⟩ Pl.stay Pl.new
noncomputable def zfi(cell:Int)(k:Nat):Bool:=decide (cell/(1+k)%4>0)
theorem Stay.at(h:Stay S H H')(hx:H[x]?=some y)(hn:x∉S):H'[x]?=some y:=(h.same x (zcj hx) hn).trans hx
variable {y:List (Nat×Nat)}
structure EqP{α:Type} [DecidableEq α](f:α->PyData):Prop where
 eq:∀a b,PyData.eqv (f a) (f b)=decide (a=b)
 lay:∀a,PyData.canLay0 (f a)=true
theorem and_dec[DecidableEq α]{x y:α}{xs ys:List α}:(decide (x=y)&&decide (xs=ys))=decide (x::xs=y::ys):=by
 rw[<- Bool.decide_and]
 exact decide_eq_decide.mpr (List.cons.injEq ..).symm.to_iff
theorem EqP.all[DecidableEq α]{f:α->PyData}(h:EqP f):∀xs ys:List α,PyData.eqvAll (xs.map f) (ys.map f)=decide (xs=ys)
 |[],[]=>rfl
 |[],_::_=>rfl
 |_::_,[]=>rfl
 |x::xs,y::ys=>by
  refine(show _=(PyData.eqv (f x) (f y)&&PyData.eqvAll (xs.map f) (ys.map f)) from rfl).trans ?_
  rw[h.eq,h.all xs ys,and_dec]
theorem EqP.layAll[DecidableEq α]{f:α->PyData}(h:EqP f):∀xs:List α,PyData.canLayAll0 (xs.map f)=true
 |[]=>rfl
 |x::xs=>zbc.mpr ⟨h.lay x,h.layAll xs⟩
noncomputable def zg0{α:Type}(f:α->PyData)(xs:List α):PyData:=.list (xs.map f)
theorem EqP.list[DecidableEq α]{f:α->PyData}(h:EqP f):EqP (zg0 f):=⟨h.all,h.layAll⟩
noncomputable def natP(n:Nat):PyData:=.int n
theorem zjv:decide ((a:Int)=b)=decide (a=b):=decide_eq_decide.mpr Int.ofNat_inj
theorem eqP_nat:EqP natP:=⟨fun J J=>zjv,fun J=>rfl⟩
noncomputable def zlb(p:Nat×Nat):PyData:=.tuple [.int p.1,.int p.2]
theorem eqP_joint:EqP zlb:=⟨fun a b=>by
 refine(show _=(decide ((a.1:Int)=b.1)&&(decide ((a.2:Int)=b.2)&&true)) from rfl).trans ?_
 rw[zjv,zjv,Bool.and_true,<-Bool.decide_and]
 exact decide_eq_decide.mpr Prod.ext_iff.symm,fun J=>rfl⟩
theorem zwo{g:α->V}{f:α->PyData}{F:V->Option PyData}:∀{xs:List α},(∀x∈xs,F (g x)=some (f x))->mapO F (xs.map g)=some (xs.map f)
 |[],_=>rfl
 |x::r,h=>by
  show(F (g x)).bind _=_
  rw[h x zad]
  show(mapO F (r.map g)).map _=_
  rw[zwo fun y hy=>h y (zag _ hy)];rfl
theorem mapO_idx{f:β->PyData}{F:V->Option PyData}:∀{bs:List V}{ys:List β},bs.length=ys.length->(∀(i:Nat) b y,bs[i]?=some b->ys[i]?=some y->F b=some (f y))->mapO F bs=some (ys.map f)
 :=by
 intro bs
 induction bs with
 |nil=>exact fun h J=>by rw[zbr.mp h.symm];rfl
 |cons b bs ih=>
  intro ys h hh
  cases ys with
  |nil=>exact nomatch h
  |cons y ys=>
  show(F b).bind _=_
  rw[hh 0 b y rfl rfl]
  show(mapO F bs).map _=_
  rw[ih (Nat.succ.inj h) fun i b y h1 h2=>hh (i+1) b y h1 h2];rfl
theorem zet{xs:List V}(ha:H[a]?=some xs)(h:mapO (toP n H) xs=some ys):toP (n+1) H (.lst a)=some (.list ys):=by
 show((H[a]?).bind _).map _=_
 rw[ha]
 show(mapO (toP n H) xs).map _=_
 rw[h];rfl
theorem zrd{g:α->V}{f:α->PyData}{xs:List α}(ha:H[a]?=some (xs.map g))(h:∀x∈xs,toP n H (g x)=some (f x)):toP (n+1) H (.lst a)=some (zg0 f xs):=zet ha (zwo h)
theorem zwn{f:β->PyData}{bs:List V}{ys:List β}(ha:H[a]?=some bs)(hl:bs.length=ys.length)(h:∀(i:Nat) b y,bs[i]?=some b->ys[i]?=some y->toP n H b=some (f y)):toP (n+1) H (.lst a)=some (zg0 f ys):=zet ha (mapO_idx hl h)
theorem toP_nat(x:Nat):toP n H (nat x)=some (natP x):=by cases n<;>rfl
theorem toP_pr(p:Nat×Nat):toP (n+1) H (pr p)=some (zlb p):=by cases n<;>rfl
theorem zlw(ha:H[a]?=some (xs.map nat)):toP (n+1) H (.lst a)=some (zg0 natP xs):=zrd ha fun x J=>toP_nat x
theorem ztw(ha:H[a]?=some (y.map pr)):toP (n+2) H (.lst a)=some (zg0 zlb y):=zrd ha fun x J=>toP_pr x
theorem zpo{net:Net}(N:NetAt H a bs net):toP (n+3) H (.lst a)=some (zg0 (zg0 zlb) net):=by
 refine zwn N.top (zab .. |>.trans N.len) fun i b y h1 h2=>?_
 rw[zal] at h1
 revert h1;refine xM fun b' hb wj=>?_;subst wj
 exact ztw (N.lay i b' y hb h2)
theorem eqV_of[DecidableEq α]{f:α->PyData}(h:EqP f){x y:α}(h1:toP 9 H v=some (f x))(h2:toP 9 H w=some (f y)):eqV H v w=some (decide (x=y)):=by
 show(toP 9 H v).bind _=_
 rw[h1]
 show(toP 9 H w).bind _=_
 rw[h2,<-h.eq]
 exact if_pos (zbc.mpr ⟨h.lay x,h.lay y⟩)
theorem eq_row{ys:List Nat}(ha:H[a]?=some (xs.map nat))(hb:H[b]?=some (ys.map nat)):eqV H (.lst a) (.lst b)=some (decide (xs=ys)):=eqV_of eqP_nat.list (zlw ha) (zlw hb)
theorem eq_net{xs ys:Net}(ha:NetAt H a bs xs)(hb:NetAt H b cs ys):eqV H (.lst a) (.lst b)=some (decide (xs=ys)):=eqV_of eqP_joint.list.list (zpo ha) (zpo hb)
theorem znu{b:Bool}(h:eqV H v w=some b):cmpV H .eq v w=some b:=h
theorem cmp_ne{b:Bool}(h:eqV H v w=some b):cmpV H .ne v w=some (!b):=by
 show(eqV H v w).map _=_
 rw[h];rfl
variable {w:Str}{xs:List V}{ys:List (List V)}
theorem Build.below(B:Build H f dn rd bs lays done read):∀b∈f::dn::rd::bs,b<H.length:=mem4 (zc2 B.F) (zc2 B.D) (zc2 B.R) fun J h=>B.ltm h
theorem Build.keep(B:Build H f dn rd bs lays done read)(h:∀x∈f::dn::rd::bs,H'[x]?=H[x]?):Build H' f dn rd bs lays done read:=
 ⟨(h f m1).trans B.F,B.len,fun i b y hb hy=>(h b (m4 (zam hb))).trans (B.L i b y hb hy),(h dn m2).trans B.D,(h rd m3).trans B.R,B.ap⟩
theorem KeptB.set(K:KeptB H0 f dn rd bs0 X s bs H)(hn:a∉f::dn::rd::bs)(hx:a∈X\/H0.length<=a):KeptB H0 f dn rd bs0 X s bs (H.set a xs):=
 ⟨K.build.keep fun x hx=>zb0 fun e:a=x=>hn (e▸hx),K.stay.set (hx.imp (zb8 _) id),K.new⟩
theorem KeptB.app(K:KeptB H0 f dn rd bs0 X s bs H):KeptB H0 f dn rd bs0 X s bs (H++[xs]):=
 ⟨K.build.keep fun x hx=>zbu (K.build.below x hx),K.stay.app,K.new⟩
structure ThinSt(H:Hp)(f dn rd lf la fw:Nat)(bs:List Nat)(s:PS)(left:List (Nat×Nat))(act:List Nat)(fwx:List Nat)(H0:Hp)(bs0:List Nat):Prop where
 kept:KeptB H0 f dn rd bs0 [lf] s bs H
 hact:H[la]?=some (act.map nat)
 hleft:H[lf]?=some (left.map pr)
 hfw:H[fw]?=some (fwx.map nat)
 nla:la∉f::dn::rd::bs
 nlf:lf∉f::dn::rd::bs
 nfw:fw∉f::dn::rd::bs
 d1:la≠lf
 d2:la≠fw
 d3:lf≠fw
 new:H0.length<=fw
theorem ThinSt.push(T:ThinSt H f dn rd lf la fw bs s left act fwx H0 bs0):ThinSt (H.set fw (fwx.map nat++[.int x])) f dn rd lf la fw bs s left act (fwx++[x]) H0 bs0:=
 ⟨T.kept.set T.nfw (.inr T.new),zcz T.hact T.d2,zcz T.hleft T.d3,(by rw[zan];exact zd1 T.hfw),T.nla,T.nlf,T.nfw,T.d1,T.d2,T.d3,T.new⟩
theorem ThinSt.leave(T:ThinSt H f dn rd lf la fw bs s left act fwx H0 bs0):ThinSt (H.set lf (left.map pr++[pr p])) f dn rd lf la fw bs s (left++[p]) act fwx H0 bs0:=
 ⟨T.kept.set T.nlf (.inl zad),zcz T.hact T.d1,(by rw[zan];exact zd1 T.hleft),zcz T.hfw (qax T.d3),T.nla,T.nlf,T.nfw,T.d1,T.d2,T.d3,T.new⟩
theorem ThinSt.more(T:ThinSt H f dn rd lf la fw bs s left act fwx H0 bs0):ThinSt (H++[xs]) f dn rd lf la fw bs s left act fwx H0 bs0:=
 ⟨T.kept.app,zdq T.hact,zdq T.hleft,zdq T.hfw,T.nla,T.nlf,T.nfw,T.d1,T.d2,T.d3,T.new⟩
theorem out4(hx:x<H.length)(hn:x∉f::dn::rd::bs)(hnew:∀b∈bs',b∈bs\/H.length<=b):x∉f::dn::rd::bs':=
 not4 (fun e=>hn (e▸m1)) (fun e=>hn (e▸m2)) (fun e=>hn (e▸m3)) fun h=>(hnew x h).elim (fun h=>hn (m4 h)) fun h=>za9.mpr h hx
theorem ThinSt.place(T:ThinSt H f dn rd lf la fw bs s left act fwx H0 bs0)(K:KeptB H0 f dn rd bs0 [lf] s' bs' H')(st:Stay (f::dn::rd::bs) H H')(hnew:∀b∈bs',b∈bs\/H.length<=b):ThinSt H' f dn rd lf la fw bs' s' left act fwx H0 bs0:=
 ⟨K,st.at T.hact T.nla,st.at T.hleft T.nlf,st.at T.hfw T.nfw,out4 (zc2 T.hact) T.nla hnew,out4 (zc2 T.hleft) T.nlf hnew,out4 (zc2 T.hfw) T.nfw hnew,T.d1,T.d2,T.d3,T.new⟩
def zpa(H:Hp)(f dn rd la lf:Nat)(bs:List Nat)(s:PS)(left:List (Nat×Nat))(act:List Nat)(cell:Int)(m:Nat)(x0:Loc)(H':Hp):Prop:=∀GJ:Prop,(∀(k sp:Nat),∀(pl lfx:List (Nat×Nat)),∀(fwx bs':List Nat),(m+k=act.length)->(thin (zfi cell) 0 0 act=(pl++(thin (zfi cell) k sp (act.drop k)).1,lfx++(thin (zfi cell) k sp (act.drop k)).2.1,fwx++(thin (zfi cell) k sp (act.drop k)).2.2))->(fwx=[]->sp=0)->(fwx≠[]->fwx.getLast?=some (sp-1)/\sp≠0)->lfx.length<=k->pl.length<=k->fwx.length<=k->ThinSt H' f dn rd lf la H.length bs' (s.puts pl) (left++lfx) act fwx H bs->[some (.lst f),some (.lst la),some (.int cell),some (.lst dn),some (.lst rd),some (.lst lf),some (.lst H.length),some (.int (k:Nat))]=x0->GJ)->GJ
theorem zpa.mk{cell:Int}(k sp:Nat)(pl lfx:List (Nat×Nat))(fwx bs':List Nat)(H':Hp)(hmk:m+k=act.length)(hth:thin (zfi cell) 0 0 act=(pl++(thin (zfi cell) k sp (act.drop k)).1,lfx++(thin (zfi cell) k sp (act.drop k)).2.1,fwx++(thin (zfi cell) k sp (act.drop k)).2.2))(hf0:fwx=[]->sp=0)(hf1:fwx≠[]->fwx.getLast?=some (sp-1)/\sp≠0)(hll:lfx.length<=k)(hpl:pl.length<=k)(hfl:fwx.length<=k)(T:ThinSt H' f dn rd lf la H.length bs' (s.puts pl) (left++lfx) act fwx H bs):zpa H f dn rd la lf bs s left act cell m [some (.lst f),some (.lst la),some (.int cell),some (.lst dn),some (.lst rd),some (.lst lf),some (.lst H.length),some (.int (k:Nat))] H':=fun J kJ=>kJ k sp pl lfx fwx bs' hmk hth hf0 hf1 hll hpl hfl T rfl
theorem zuk(hm:m=n-k)(hlt:k<n)(h:m<=m'):m-1<m'/\m-1+(k+1)=n:=by exact ar3 [_,_,_,_] [] 0x31868214a000c20500610000000d04294a000c20700610280308020000a5294001840b00c20400610100308000284000944118463294a50008102403080c01840400c20080a100025104611a08528003081201840000003410a5294a50008103003081a01840e00c20500810180308020000a528003081801840800c20000a10002510461 (Y6 (Y1 (Y2 V0 J1) V1) (Y2 (Y0 (Y2 V0 J1) (Y0 V2 J1)) V3)) (Y2 V0 (Y2 V3 V2)) (Y1 V2 V3) (Y0 V0 V1) hm hlt h
theorem zhw{cell:Int}{pl lfx:List (Nat×Nat)}{Ex:SX}(hm:m=act.length-kk)(hx:act[kk]?=some x)
  (hth:thin (zfi cell) 0 0 act=(pl++(thin (zfi cell) (kk+1) (x+1) (act.drop (kk+1))).1,lfx++(thin (zfi cell) (kk+1) (x+1) (act.drop (kk+1))).2.1,fwx++x::(thin (zfi cell) (kk+1) (x+1) (act.drop (kk+1))).2.2))
  (hll:lfx.length<=kk+1) (hpl:pl.length<=kk+1) (hfl:fwx.length<=kk) (hz:act.length<=64) (T:ThinSt H3 f dn rd lf la H.length bs' (s.puts pl) (left++lfx) act fwx H bs) (hm':m<=m') :
  wpSs (Calls c) true d none [.expr (.meth .append (.var 6) [(.idx (.var 1) (.var 7))]),.set 7 (.bin .add (.var 7) (.lit (.int 1)))] (Then (fun l' H''=>∃m,m<m'/\zpa H f dn rd la lf bs s left act cell m l' H'') Qx) Ex
   [some (.lst f),some (.lst la),some (.int cell),some (.lst dn),some (.lst rd),some (.lst lf),some (.lst H.length),some (.int (kk:Nat))] H3:=by
 have hlt:=zcj hx
 refine Ss_go ?_
 walk_at ""
 refine⟨rfl,?_⟩
 walk_at ""
 refine Opt.mk (zds T.hact hx) ?_
 walk_at ""
 refine Opt.mk (zcx T.hfw (by rw[zab];exact za3 hfl (zat hlt (zac hz (by decide))))) ?_
 walk_at ""
 have hts:=zuk hm hlt hm'
 refine⟨m-1,hts.1,.mk (kk+1) (x+1) pl lfx (fwx++[x]) bs' _ hts.2 (hth.trans (by rw[zbb];rfl)) (fun h=>absurd h (List.append_ne_nil_of_right_ne_nil _ (List.cons_ne_nil _ _)))
  (fun J=>⟨List.getLast?_concat,Nat.succ_ne_zero _⟩) hll hpl (by rw[zak];exact Nat.succ_le_succ hfl) T.push⟩
theorem zvt(P:Has c "_law_thinner" 6 8 zd7)(PP:Has c "_law_place" 5 6 zc4){cell:Int}
  (B:Build H f dn rd bs s.lays s.done s.read) (L:Laid n s js) (hn:n<=64) (ha:H[la]?=some (act.map nat)) (hlf:H[lf]?=some (left.map pr)) (nla:la∉f::dn::rd::bs) (nlf:lf∉f::dn::rd::bs) (hal:la≠lf)
  (hlt:∀p∈(thin (zfi cell) 0 0 act).1,p.1<p.2/\p.2<n) (hz:act.length<=64) (hlz:left.length+act.length<=200) (hsz:s.lays.length<=800) (hc:q=true)
  (hq:∀bs' H' fw,ThinSt H' f dn rd lf la fw bs' (s.puts (thin (zfi cell) 0 0 act).1) (left++(thin (zfi cell) 0 0 act).2.1) act (thin (zfi cell) 0 0 act).2.2 H bs->Q (.lst fw) H') :
  Calls c q (d+2) "_law_thinner" [.lst f,.lst la,.int cell,.lst dn,.lst rd,.lst lf] none Q E H:=by
 subst hc
 refine P true (d+1) _ Q E H rfl (Ss_go ?_)
 walk_at ""
 have hbs:=B.below
 have n0:H.length∉f::dn::rd::bs:=fun h=>zay _ (hbs _ h)
 refine⟨rfl,.mk (zpa H f dn rd la lf bs s left act cell) act.length (.mk 0 0 [] [] [] bs _ (Nat.add_zero _) rfl (fun J=>rfl) (fun h=>absurd rfl h) (zae _) (zae _) (zae _)
  ⟨⟨B.keep fun x hx=>zbu (hbs x hx),Stay.refl.app,fun b hb=>.inl hb⟩,zdq ha,(by rw[za4];exact zdq hlf),zcd,nla,nlf,n0,hal,zar (zc2 ha),zar (zc2 hlf),zae _⟩) ?_⟩
 intro m l' H' hI
 refine hI _ fun k sp pl lfx fwx bs' hmk hth hf0 hf1 hll hpl hfl T wg=>?_;clear hI;subst wg
 walk_at ""
 refine Opt.mk (zcn T.hact) ?_
 walk_at ""
 rw[zab]
 refine zcf (fun hk=>?_) (fun hk=>?_)
 ·have hk:=zaq.mp hk
  have hx:=zai hk
  have hm0:act.length-k<=m:=Nat.sub_le_of_le_add (za8 hmk.symm)
  have hm1:act.length-(k+1)<=m:=zac (Nat.sub_le_sub_left (Nat.le_succ k) _) hm0
  have hdr:=zb5 hk
  generalize act[k]=x at hx hdr
  refine Ss_go ?_
  walk_at ""
  refine Opt.mk (zcn T.hact) ?_
  walk_at ""
  rw[zab]
  refine zcf (fun hk1=>?_) (fun hk1=>?_)
  ·have hk1:k+1<act.length:=zaq.mp hk1
   have hy:=zai hk1
   have hdr2:=zb5 hk1
   generalize act[k+1]=y at hy hdr2
   walk_at ""
   refine zfq pos1 ?_
   walk_at ""
   refine zdf (by decide) ?_
   walk_at ""
   refine zcf (fun hcn=>?_) (fun hcn=>?_)
   ·have hct:zfi cell k=true:=decide_eq_true hcn
    refine Ss_go ?_
    walk_at ""
    refine Opt.mk (zds T.hact hx) ?_
    walk_at ""
    refine Opt.mk (zds (i:=k+1) T.hact hy) ?_
    walk_at ""
    rw[hdr,hdr2,zma,if_pos hct] at hth
    have hplt:∀p∈pl,p.1<p.2/\p.2<n:=fun p hp=>hlt p (by rw[hth];exact zb8 _ hp)
    have hxy:=hlt (x,y) (by rw[hth];exact zbt _ zad)
    have hpz:=zgh L hplt
    refine s_put PP T.kept (L.puts hplt) hn (lt900 hpz hsz (zac hpl (zac (zap hk) hz))) hxy.1 hxy.2 rfl fun bs'' H'' K'' st'' new''=>?_
    have T1:=T.place K'' st'' new''
    rw[show(s.puts pl).put (x,y)=s.puts (pl++[(x,y)]) by rw[PS.puts_append];rfl] at T1
    have T2:=T1.more (xs:=[])
    refine Then_go (Ss_go ?_)
    walk_at ""
    refine Opt.mk (cmp_ne (eq_row T2.hfw (ys:=[]) zcd)) ?_
    have hpl':(pl++[(x,y)]).length<=k+1+1:=by rw[zak];exact zbp (Nat.succ_le_succ hpl)
    refine zfl (fun hfw=>?_) (fun hfw=>?_)
    ·obtain⟨hlast,hs0⟩:=hf1 hfw
     refine Ss_go ?_
     walk_at ""
     refine⟨rfl,?_⟩
     walk_at ""
     refine Opt.mk (zmt T2.hfw (by rw[List.getLast?_map,hlast];rfl)) ?_
     walk_at ""
     refine Opt.mk (zds T2.hact hx) ?_
     walk_at ""
     refine Opt.mk (zcx T2.hleft (by rw[zab,zak];exact za3 (Nat.add_le_add_left (zac hll (zap hk)) _) (za3 hlz (by decide)))) ?_
     have T3:=T2.leave (p:=(sp-1,x))
     rw[zbb] at T3
     walk_at ""
     refine zhw (kk:=k+1) rfl hy ?_ (by rw[zak];exact zbp (Nat.succ_le_succ hll)) hpl' (zbp hfl) hz T3 hm1
     rw[hth,if_neg hs0,zbb,zbb];rfl
    ·have hs0:=hf0 hfw
     walk_at ""
     refine zhw (kk:=k+1) rfl hy ?_ (zac hll (zbi _ 2)) hpl' (zbp hfl) hz T2 hm1
     rw[hth,hs0,zbb];rfl
   ·have hct:¬zfi cell k=true:=fun h=>hcn (of_decide_eq_true h)
    walk_at ""
    refine zhw rfl hx ?_ (zbp hll) (zbp hpl) hfl hz T hm0
    rw[hth,hdr,hdr2,zma,if_neg hct]
  ·have hk1:¬k+1<act.length:=fun h=>hk1 (zaq.mpr h)
   walk_at ""
   refine zhw rfl hx ?_ (zbp hll) (zbp hpl) hfl hz T hm0
   rw[hth,hdr,List.drop_eq_nil_of_le (za7 hk1)]
   rfl
 ·have hk:=za7 fun h=>hk (zaq.mpr h)
  walk_at ""
  rw[List.drop_eq_nil_of_le hk] at hth
  have hth:_=(pl,lfx,fwx):=hth.trans (by rw[thin_nil,za4,za4,za4])
  rw[hth] at hq
  exact hq bs' _ _ T
variable {Q:List V->Hp->Prop}{f:V->List V->(List V->Hp->Prop)->Hp->Prop}{p:Nat×List Nat}
section
variable {Q:V->Hp->Prop}
theorem zjs{a b:Int}(hb:small b=true)(h:K (.int (a*b),H)):Opt (binV H .mul (.int a) (.int b)) K:=
 Opt.mk (if_pos (by rw[hb,Bool.or_true])) h
theorem zd3(n:Nat):zdo 0 (n:Int) 1=(List.range n).map nat:=by
 have:(if 0<(1:Int)/\0<(n:Int) then(((n:Int)-0-1)/1+1).toNat else 0)=n:=by
  split<;>(first |exact ar2 [_,_] [_,_] 0x1904294001840300c2008000210a5294001840500c202006100803080000808041084294a50006101c04080801840200c200806010080210a529400184050102020081008030802008080 (Y2 V0 V1) (Y7 (Y5 (Y4 V0 J0) (Y0 V0 J1)) (Y6 (Y3 (Y0 V0 J1) J0) (Y2 V0 J0))) (Y6 (Y5 (Y0 (Y1 J1 V0) V1) (Y2 (Y2 (Y4 V1 J0) J0) J1)) (Y6 (Y3 J0 V1) (Y4 V1 J1))) (Ar.tn _) (Ar.zd _ (k:=1) (by decide)) |exact ar1 [_] [] 0x3140018400020a50006100403080002800308000 (Y2 J0 V0) (Y8 (Y6 (Y4 J0 J1) (Y4 J0 (Y4 V0 J0))) J0) (by assumption))
 rw[zdo,this]
 refine List.map_congr_left fun i J=>?_
 rw[Int.mul_one,Int.zero_add];rfl
theorem zdl(h:n<100000):onQ true (bltV H .range [.int n])=some (.rng 0 n 1,H):=if_pos (show(n:Int).natAbs<2^31 by exact ar1 [_] [] kaa (Y1 V0 (.l 2147483648)) (Y1 V0 (.l 100000)) h)
theorem zh8(h:n<100000):onQ true (bltV H .list [.rng 0 n 1])=some (.lst H.length,H++[(List.range n).map nat]):=by
 rw[<- zd3]
 exact if_pos (by rw[zd3,zab,zas];exact zap (zau h (by decide)))
theorem zfp(h:H[a]?=some xs):onQ true (bltV H .list [.lst a])=some (.lst H.length,H++[xs]):=by
 show(H[a]?).map _=_
 rw[h];rfl
theorem zo3(x:α):∀n,rep [x] n=List.replicate n x
 |0=>rfl
 |n+1=>congrArg (x::·) (zo3 x n)
theorem mul_zero(h:H[a]?=some [V.int 0])(hn:n<100000):binV H .mul (.lst a) (.int n)=some (.lst H.length,H++[(List.replicate n 0).map nat]):=by
 show(H[a]?).bind _=_
 rw[h]
 have h2:(n:Int).toNat*[V.int 0].length<=qag:=by
  rw[zb4]
  exact zac (za8 (Nat.mul_one n)) (zap (zau hn (by decide)))
 refine(if_pos ⟨zbl n,zaw.mpr (zac (zap hn) (by decide)),h2⟩).trans ?_
 ·rw[zb4,zo3,List.map_replicate];rfl
theorem zc6{ys:List V}(ha:H[a]?=some xs)(hb:H[b]?=some ys)(hz:xs.length+ys.length<100000):binV H .add (.lst a) (.lst b)=some (.lst H.length,H++[xs++ys]):=by
 show(H[a]?).bind _=_
 rw[ha]
 show(H[b]?).bind _=_
 rw[hb]
 exact if_pos (zap (zau hz (by decide)))
theorem zns:zhj (i:Int) n=min i n:=by
 rw[zhj,if_neg (Int.not_lt.mpr (zbl i)),zb4]
theorem zi3 (ha:H[a]?=some xs):zky H (.lst a) .none (.int i)=some (.lst H.length,H++[xs.take i]):=by
 show(H[a]?).bind _=_
 rw[ha,List.take_eq_take_min,<-zns];rfl
theorem zem(ha:H[a]?=some xs):zky H (.lst a) (.int i) .none=some (.lst H.length,H++[xs.drop i]):=by
 show(H[a]?).bind _=_
 rw[ha]
 show some (V.lst H.length,H++[(xs.drop (zhj i xs.length)).take (xs.length-zhj i xs.length)])=_
 rw[zns,List.take_of_length_le (by rw[zbf];exact zae _)]
 by_cases h:i<=xs.length
 ·rw[Nat.min_eq_left h]
 ·have h:=Nat.le_of_not_le h
  rw[Nat.min_eq_right h,List.drop_of_length_le (zae _),List.drop_of_length_le h]
end
structure Rows(H H':Hp)(cs:List Nat)(ys:List (List V)):Prop where
 st:Stay [] H H'
 len:cs.length=ys.length
 hold:∀(i b:Nat) (y:List V),cs[i]?=some b->ys[i]?=some y->H'[b]?=some y
 fr:∀b∈cs,H.length<=b/\b<H'.length
 nd:cs.Nodup
theorem Rows.nil:Rows H H [] []:=⟨Stay.refl,rfl,(fun J J J h=>nomatch h),(fun J h=>nomatch h),zbx⟩
theorem at0(st:Stay [] H H')(h:H[a]?=some xs):H'[a]?=some xs:=st.at h zbd
theorem Stay.trans0(h:Stay [] H H')(h':Stay [] H' H''):Stay [] H H'':=h.trans h' fun J m=>nomatch m
theorem Rows.snoc{y:List V}(R:Rows H H' cs ys)(st:Stay [] H' H'')(hb:H''[b]?=some y)(hn:H'.length<=b):Rows H H'' (cs++[b]) (ys++[y]):=by
 refine⟨R.st.trans0 st,?_,fun i b' y' h1 h2=>?_,fun b' hb'=>?_,?_⟩
 ·rw[zak,zak,R.len];rfl
 ·rcases zd9 h1 with h1 |⟨e,rfl⟩
  ·rcases zd9 h2 with h2 |⟨e,rfl⟩
   ·exact at0 st (R.hold i b' y' h1 h2)
   ·exact absurd (zcj h1) (by rw[e,R.len];exact zay _)
  ·rcases zd9 h2 with h2 |⟨_,rfl⟩
   ·exact absurd (zcj h2) (by rw[e,R.len];exact zay _)
   ·exact hb
 ·rcases zaj.mp hb' with h |h
  ·exact⟨(R.fr b' h).1,zat (R.fr b' h).2 st.len⟩
  ·rw[zaf.mp h];exact⟨zac R.st.len hn,zc2 hb⟩
 ·refine zb3.mpr ⟨R.nd,zbw.mpr ⟨zbd,zbx⟩,fun x hx z hz=>?_⟩
  rw[zaf.mp hz]
  exact zar (zat (R.fr x hx).2 hn)
theorem zdr{ok:Hp->Prop}(ys:List (List V))(wq:items.length=ys.length)
  (step:∀(i:Nat) x y acc H' (K:List V->Hp->Prop),items[i]?=some x->ys[i]?=some y->Stay [] H H'->(∀b H'',Stay [] H' H''->H''[b]?=some y->H'.length<=b->K (acc++[.lst b]) H'')->f x acc K H')
  (hok:∀H',Stay [] H H'->ok H') (hend:∀cs H',Rows H H' cs ys->Q (cs.map .lst) H'):zfe ok f items [] Q H:=by
 refine zfj (I:=fun i acc H'=>∃cs,acc=cs.map V.lst/\Rows H H' cs (ys.take i)) (fun i x acc H' K hx hI hK=>?_) (fun acc H' hI=>?_) ⟨[],rfl,Rows.nil⟩
 ·obtain⟨cs,rfl,R⟩:=hI
  have hi:i<ys.length:=wq▸zcj hx
  have hy:=zai hi
  refine step i x _ _ H' K hx hy R.st fun b H'' st hb hn=>?_
  have R':=R.snoc st hb hn
  refine hK _ _ (hok _ R'.st) ⟨cs++[b],by rw[zan];rfl,?_⟩
  rw[List.take_add_one,hy];exact R'
 ·obtain⟨cs,rfl,R⟩:=hI
  rw[wq,List.take_length] at R
  exact hend cs H' R
theorem Rows.net{net:Net}(R:Rows H H' cs (net.map fun y=>y.map pr)):NetAt (H'++[cs.map .lst]) H'.length cs net:=
 ⟨zcd,R.len.trans (zab ..),fun i b y h1 h2=>zdq (R.hold i b _ h1 (by rw[zal,h2];rfl))⟩
variable {E:SX}{f:Nat}
structure TelSt(H0 H:Hp)(f dn rd lf:Nat)(bs:List Nat)(s:PS)(left:List (Nat×Nat)):Prop where
 build:Build H f dn rd bs s.lays s.done s.read
 hleft:H[lf]?=some (left.map pr)
 nlf:lf∉f::dn::rd::bs
 stay:Stay [] H0 H
 fresh:∀b∈f::dn::rd::bs,H0.length<=b
 freshL:H0.length<=lf
structure GrAt(H:Hp)(g:Nat)(rs:List Nat)(gs:List (List Nat)):Prop where
 top:H[g]?=some (rs.map .lst)
 len:rs.length=gs.length
 gr:∀(i r:Nat) (y:List Nat),rs[i]?=some r->gs[i]?=some y->H[r]?=some (y.map nat)
section
variable {left':List (Nat×Nat)}
theorem TelSt.freshB(T:TelSt H0 H f dn rd lf bs s left)(hnew:∀b∈bs',b∈bs\/H.length<=b):∀b∈f::dn::rd::bs',H0.length<=b:=
 mem4 (T.fresh _ m1) (T.fresh _ m2) (T.fresh _ m3) fun b hb=>(hnew b hb).elim (fun h=>T.fresh _ (m4 h)) fun h=>zac T.stay.len h
theorem TelSt.place(T:TelSt H0 H f dn rd lf bs s left)(B:Build H' f dn rd bs' s'.lays s'.done s'.read)(st:Stay (f::dn::rd::bs) H H')(hnew:∀b∈bs',b∈bs\/H.length<=b):TelSt H0 H' f dn rd lf bs' s' left:=
 ⟨B,st.at T.hleft T.nlf,out4 (zc2 T.hleft) T.nlf hnew,T.stay.trans st fun x hx=>.inr (T.fresh x hx),T.freshB hnew,T.freshL⟩
theorem TelSt.thin(T:TelSt H0 H f dn rd lf bs s left)(K:ThinSt H' f dn rd lf la fw bs' s' left' act fwx H bs):TelSt H0 H' f dn rd lf bs' s' left':=
 ⟨K.kept.build,K.hleft,K.nlf,T.stay.trans K.kept.stay fun x hx=>.inr ((zah.mp hx).elim (fun e=>e▸T.freshL) (T.fresh x)),T.freshB K.kept.new,T.freshL⟩
def OffB(f dn rd:Nat)(bs rs:List Nat):Prop:=∀r∈rs,r∉f::dn::rd::bs
theorem GrAt.lt(G:GrAt H g rs gs):∀r∈rs,r<H.length:=by
 intro r hr
 obtain⟨i,hi,rfl⟩:=zb6.mp hr
 exact zc2 (G.gr i _ _ (zai hi) (zai (G.len▸hi)))
theorem GrAt.stay(G:GrAt H g rs gs)(st:Stay (f::dn::rd::bs) H H')(ap:OffB f dn rd bs (g::rs)):GrAt H' g rs gs:=
 ⟨st.at G.top (ap g zad),G.len,fun i r y h1 h2=>st.at (G.gr i r y h1 h2) (ap r (zag _ (zam h1)))⟩
end
noncomputable def tel3:List St:=[.ret (.comp (.comp (.tup [.wx 15,.wx 14]) (.two 14 15) (.blt .sorted [.wx 13]) []) (.one 13) (.wx 2) [])]
noncomputable def tel2:List St:=.loop (.two 12 10) (.rev (.wx 3)) [.expr (.call "_law_place" [.wx 2,.wx 12,.wx 10,.wx 4,.wx 5])]::tel3
noncomputable def telW:List St:=[.set 0 (.bin .mod (.bin .mul (.wx 0) (.ww 16807)) (.ww 2147483647)),.set 9 (.idx (.list [.bin .mod (.bin .div (.wx 0) (.ww 3)) (.bin .sub (.blt .len [.wx 8]) (.ww 1)),.ww 0,.bin .sub (.blt .len [.wx 8]) (.ww 2)]) (.bin .mod (.wx 0) (.ww 3))),.loop (.one 10) (.val (.idx (.wx 8) (.bin .add (.wx 9) (.ww 1)))) [.expr (.call "_law_place" [.wx 2,.idx (.idx (.wx 8) (.wx 9)) (.neg (.ww 1)),.wx 10,.wx 4,.wx 5])],.set 11 (.bin .add (.idx (.wx 8) (.wx 9)) (.idx (.wx 8) (.bin .add (.wx 9) (.ww 1)))),.set 8 (.bin .add (.bin .add (.slice (.wx 8) (.lit .none) (.wx 9)) (.list [.wx 11])) (.slice (.wx 8) (.bin .add (.wx 9) (.ww 2)) (.lit .none)))]
noncomputable def tel1:List St:=.whil (.cmp (.blt .len [.wx 8]) [.gt] [.ww 1]) telW::tel2
noncomputable def tel0:List St:=.set 8 (.comp (.list [.wx 13]) (.one 13) (.wx 6) [])::tel1
noncomputable def telT:List St:=.loop (.one 7) (.val (.blt .range [.bin .mod (.wx 0) (.ww 4)])) [.set 6 (.call "_law_thinner" [.wx 2,.wx 6,.bin .div (.bin .div (.wx 0) (.ww 4)) (.bin .add (.ww 1) (.wx 7)),.wx 4,.wx 5,.wx 3])]::tel0
theorem tel_eq:ze4=.set 0 (.bin .mod (.bin .mul (.var 0) (.lit (.int 48271))) (.lit (.int 2147483647)))::.set 2 (.list [])::.set 3 (.list [])::.set 4 (.bin .mul (.list [(.lit (.int 0))]) (.var 1))::.set 5 (.bin .mul (.list [(.lit (.int 0))]) (.var 1))::.set 6 (.blt .list [(.blt .range [(.var 1)])])::telT:=rfl
noncomputable def sw(p:Nat×Nat):Int×Int:=(p.2,p.1)
theorem zqe:∀z:List (Nat×Nat),zlc (z.map fl)=some (z.map sw)
 |[]=>rfl
 |p::r=>by
  show(zlc (r.map fl)).map _=_
  rw[zqe r];rfl
theorem zsj:decide ((a:Int)<b)=decide (a<b):=decide_eq_decide.mpr zaq
theorem zsa:decide ((a:Int)<=b)=decide (a<=b):=decide_eq_decide.mpr zaw
theorem sw_le (a b:Nat×Nat):hiLe a b=zfa (sw a) (sw b):=by
 refine Eq.symm ((show _=(decide ((a.2:Int)<b.2)||(decide ((a.2:Int)=b.2)&&decide ((a.1:Int)<=b.1))) from rfl).trans ?_)
 rw[zsj,zjv,zsa];rfl
theorem zxe(hb:H[b]?=some (y.map fl))(hy:∀p∈y,p.1<p.2/\p.2<n)(hn:n<=64)(hnd:(y.map (·.2)).Nodup):onQ true (bltV H .sorted [.lst b])=some (.lst H.length,H++[(zhz y).map fl]):=by
 have hlt:y.length<64:=by
  have:=zf9 (n:=n-1) (xs:=y.map fun p=>p.2-1) ?_ ?_
  ·rw[zab] at this
   cases y with
   |nil=>decide
   |cons p r=>have:=hy p zad;exact ar2 [_,_] [] 0x68214a528003080c01840800c201806100000014a528003080801840500c20300610000508021 (Y1 V0 (.l 64)) (Y0 V1 (.l 64)) (Y0 V0 (Y2 V1 J1)) hn (by assumption)
  ·refine List.pairwise_map.mpr ((List.pairwise_map.mp hnd).imp_of_mem ?_)
   intro a b ha hb hne
   have:=hy a ha;have:=hy b hb
   exact ar3 [_,_,_,_,_] [] 0x38d03210a5294a000c206806102803080801840200c2008080400a100023214a528003081001840400c20100610000801420004a10042340c84214a5294001840c00c20300810100308040184010180c0200508021190a5294001840800c20200610080408000400a10042508001 (Y8 (Y2 (Y2 V0 J1) (Y2 V1 J1)) J0) (Y8 (Y2 V0 V1) J0) (Y1 V2 V1) (Y6 (Y1 V3 V0) (Y1 V0 V4)) hne this.1 (by assumption)
  ·intro x hx
   revert hx;refine xL fun p hp wj=>?_;subst wj
   have:=hy p hp
   exact ar2 [_,_,_] [] 0x1a064294a528003081201840a00c205806100c0308020180a100423294a50006101c03081201840300c20080a10042508001 (Y1 (Y2 V0 J1) (Y2 V1 J1)) (Y1 V2 V0) (Y1 V0 V1) this.1 this.2
 have e2:zm8 (y.map sw)=true:=by
  refine zbc.mpr ⟨zbc.mpr ⟨decide_eq_true (by rw[zab];exact hlt),decide_eq_true ?_⟩,zaz.mpr ?_⟩
  ·exact List.pairwise_map.mpr ((List.pairwise_map.mp hnd).imp fun hne e=>hne (Int.ofNat_inj.mp (congrArg Prod.fst e)))
  ·intro x hx
   revert hx;refine xL fun p hp wj=>?_;subst wj
   have h2:=zat (hy p hp).2 hn
   exact zbc.mpr ⟨decide_eq_true (zau h2 (by decide)),decide_eq_true (zau (zau (hy p hp).1 h2) (by decide))⟩
 have e3:((y.map sw).mergeSort zfa).map zjl=(zhz y).map fl:=by
  rw[<- List.map_mergeSort (r:=hiLe) (s:=zfa) (f:=sw) (l:=y) (fun a J b J=>sw_le a b),za0]
  rfl
 show(H[b]?).bind _=_
 rw[hb]
 show(zlc (y.map fl)).bind _=_
 rw[zqe,<-e3]
 exact if_pos e2
theorem zdh(h:H[a]?=some xs):onQ true (srcV H (.lst a))=some xs:=h
theorem zck(h:n<100000):n<=qag:=zap (zau h (by decide))
theorem tel3_ok{l3 l4 l5:Option V}(B:Build H f dn rd bs s.lays s.done s.read)(L:Laid n s js)(hn:n<=64)(hz:s.lays.length<=900)
  (hq:∀a bs' H' l',NetAt H' a bs' (s.lays.map zhz)->Stay [] H H'->(∀b∈a::bs',H.length<=b)->(a::bs').Nodup->R (.ret (.lst a)) l' H') :
  wpSs (Calls c) true d none tel3 R E [l0,l1,some (.lst f),l3,l4,l5,l6,l7,l8,l9,l10,l11,l12,l13,l14,l15] H:=by
 refine Ss_go ?_
 walk_at ""
 refine Opt.mk (zdh B.F) ⟨zck (by rw[zab,B.len];exact ar1 [_] [] kaa (Y1 V0 (.l 100000)) (Y0 V0 (.l 900)) hz),?_⟩
 refine zdr ((s.lays.map zhz).map fun y=>y.map pr) ?_ ?_ (fun H' st=>at0 st B.F) ?_
 ·rw[zab,zab,zab,B.len]
 ·intro i x y' acc H' K hx hy' st hK
  rw[za0,zal] at hy'
  revert hy';refine xM fun y hy wj=>?_;subst wj
  rw[zal] at hx
  revert hx;refine xM fun b hb wj=>?_;subst wj
  have hm:=zam hy
  have hyz:=L.wide y hm
  walk_at ""
  refine Opt.mk (zxe (at0 st (B.L i b y hb hy)) (fun p hp=>(L.hi i y hy p hp).2.2) hn (L.nd y hm)) ?_
  walk_at ""
  refine Opt.mk (zdh zcd) ⟨zck (by rw[zab,<-(zfb y).length_eq];exact ar2 [_,_] [] kab (Y1 V0 (.l 100000)) (Y0 V1 (.l 64)) (Y0 V0 V1) hn hyz),?_⟩
  refine zfj (I:=fun j acc2 H2=>H2=H'++[(zhz y).map fl]/\acc2=((zhz y).take j).map pr) ?_ ?_ ⟨rfl,rfl⟩
  ·rintro j x2 acc2 H2 K2 hx2 ⟨rfl,rfl⟩ hK2
   rw[zal] at hx2
   revert hx2;refine xM fun p hp wj=>?_;subst wj
   unfold fl
   walk_at ""
   refine hK2 _ _ zcd ⟨rfl,?_⟩
   rw[List.take_add_one,hp,zan];rfl
  ·rintro acc2 H2 ⟨rfl,rfl⟩
   rw[zab,List.take_length]
   exact hK _ _ Stay.refl.app.app zcd (Stay.refl (S:=[])).app.len
 ·intro cs H' RR
  exact hq _ cs _ _ RR.net RR.st.app (za2.mpr ⟨RR.st.len,fun b hb=>(RR.fr b hb).1⟩) (zbw.mpr ⟨fun h=>zay _ (RR.fr _ h).2,RR.nd⟩)
variable {b y:List Nat}
structure New(H:Hp)(a:Nat)(xs:List V)(H':Hp):Prop where
 st:Stay [] H H'
 hold:H'[a]?=some xs
 lo:H.length<=a
theorem New.mk0:New H H.length xs (H++[xs]):=⟨Stay.refl.app,zcd,zae _⟩
theorem zch(h:o=some (.lst H.length,H++[xs]))(k:∀a H',New H a xs H'->K (.lst a,H')):Opt o K:=Opt.mk h (k _ _ .mk0)
theorem TelSt.grow(T:TelSt H0 H f dn rd lf bs s left)(st:Stay [] H H'):TelSt H0 H' f dn rd lf bs s left:=
 ⟨T.build.keep fun x hx=>st.same x (T.build.below x hx) zbd,at0 st T.hleft,T.nlf,T.stay.trans0 st,T.fresh,T.freshL⟩
def Tel2Inv(H0:Hp)(f dn rd lf:Nat)(s:PS)(left:List (Nat×Nat))(l0 l1 l6 l7 l8 l9 l11 l13 l14 l15:Option V)(r:List (Nat×Nat))(x1:Loc)(H:Hp):Prop:=∀GJ:Prop,(∀(ks:List (Nat×Nat)),∀(v10 v12:Option V),∀(bs:List Nat),(ks++r=left.reverse)->TelSt H0 H f dn rd lf bs (s.puts ks) left->[l0,l1,some (.lst f),some (.lst lf),some (.lst dn),some (.lst rd),l6,l7,l8,l9,v10,l11,v12,l13,l14,l15]=x1->GJ)->GJ
theorem tel2_ok(PP:Has c "_law_place" 5 6 zc4)(T:TelSt H0 H f dn rd lf bs s left)(L:Laid n s js)(hn:n<=64)(hz:s.lays.length+left.length<=800)
  (hlt:∀p∈left.reverse,p.1<p.2/\p.2<n)
  (hq:∀a bs' H' l',NetAt H' a bs' ((s.puts left.reverse).lays.map zhz)->Stay [] H0 H'->(∀b∈a::bs',H0.length<=b)->(a::bs').Nodup->R (.ret (.lst a)) l' H') :
  wpSs (Calls c) true (d+1) none tel2 R E [l0,l1,some (.lst f),some (.lst lf),some (.lst dn),some (.lst rd),l6,l7,l8,l9,l10,l11,l12,l13,l14,l15] H:=by
 refine Ss_go ?_
 walk_at ""
 refine⟨rfl,Sr_rev (a:=lf) (items:=left.map pr) (fun K E' h=>h) T.hleft ?_⟩
 rw[<- List.map_reverse]
 refine zdv (Tel2Inv H0 f dn rd lf s left l0 l1 l6 l7 l8 l9 l11 l13 l14 l15) ?_ ?_ (fun J kJ=>kJ [] _ _ bs rfl T rfl)
 ·intro p r l' H' K hI hnext hret
  refine hI _ fun ks v10 v12 bs he T wg=>?_;clear hI;subst wg
  have hpm:=hlt p (by rw[<- he];exact zbt _ zad)
  have htk:∀p∈ks,p.1<p.2/\p.2<n:=fun p hp=>hlt p (by rw[<- he];exact zb8 _ hp)
  have wq:=zgh L htk
  have hl:=congrArg List.length he
  rw[zak,List.length_reverse] at hl
  refine Opt.mk rfl (Ss_go ?_)
  walk_at ""
  refine s_put PP (H0:=H') (bs0:=bs) (X:=[]) ⟨T.build,Stay.refl,fun b hb=>.inl hb⟩ (L.puts htk) hn (by exact ar3 [_,_,_,_,_] [] kak (Y1 V0 (.l 900)) (Y0 (Y0 V1 V2) (.l 800)) (Y0 V0 (Y0 V1 V3)) (Y2 (Y0 V3 V4) V2) hz wq hl) hpm.1 hpm.2 rfl fun bs'' H'' K'' st'' new''=>?_
  have T2:=T.place K''.build st'' new''
  rw[show(s.puts ks).put (p.1,p.2)=s.puts (ks++[p]) by rw[PS.puts_append];rfl] at T2
  exact hnext _ _ T2.hleft (fun J kJ=>kJ (ks++[p]) _ _ bs'' (by rw[zbb];exact he) T2 rfl)
 ·intro l' H' hI
  refine hI _ fun ks v10 v12 bs he T wg=>?_;clear hI;subst wg
  rw[za4] at he
  subst he
  have wq:=zgh L hlt
  rw[List.length_reverse] at wq
  exact tel3_ok T.build (L.puts hlt) hn (by exact ar2 [_,_,_] [] kab (Y0 V0 (.l 900)) (Y0 (Y0 V1 V2) (.l 800)) (Y0 V0 (Y0 V1 V2)) hz wq) fun a cs H'' l'' N st fr nd=>hq a cs H'' l'' N (T.stay.trans0 st) (fun b hb=>zac T.stay.len (fr b hb)) nd
structure GrSt(H:Hp)(f dn rd g:Nat)(bs rs:List Nat)(gs:List (List Nat)):Prop where
 gr:GrAt H g rs gs
 apart:OffB f dn rd bs (g::rs)
theorem GrAt.grow(G:GrAt H g rs gs)(st:Stay [] H H'):GrAt H' g rs gs:=⟨at0 st G.top,G.len,fun i r y h1 h2=>at0 st (G.gr i r y h1 h2)⟩
theorem GrSt.grow(G:GrSt H f dn rd g bs rs gs)(st:Stay [] H H'):GrSt H' f dn rd g bs rs gs:=⟨G.gr.grow st,G.apart⟩
theorem GrSt.place(G:GrSt H f dn rd g bs rs gs)(st:Stay (f::dn::rd::bs) H H')(hnew:∀b∈bs',b∈bs\/H.length<=b):GrSt H' f dn rd g bs' rs gs:=
 ⟨G.gr.stay st G.apart,fun r hr=>out4 ((zah.mp hr).elim (fun e=>e▸zc2 G.gr.top) (G.gr.lt r)) (G.apart r hr) hnew⟩
inductive GrIt(H:Hp)(g i:Nat)(rs:List Nat)(y:List Nat):Prop
 |mk (r:Nat)(hr:rs[i]?=some r)(hold:H[r]?=some (y.map nat))(ix:idxV H (.lst g) (.int i)=some (.lst r)):GrIt H g i rs y
theorem GrAt.at(G:GrAt H g rs gs)(h:gs[i]?=some y):GrIt H g i rs y:=
 have hr:=zai (show i<rs.length from G.len▸zcj h)
 ⟨_,hr,G.gr i _ y hr h,zc5 G.top (zi9 hr)⟩
theorem GrAt.merge{g':Nat}(G:GrAt H g rs gs)(hi:i+1<gs.length)(hM:H[M]?=some (y.map nat))(top:H[g']?=some ((rs.take i++M::rs.drop (i+2)).map V.lst)) :
  GrAt H g' (rs.take i++M::rs.drop (i+2)) (gs.take i++y::gs.drop (i+2)):=by
 have hl:=G.len
 have hle:=zap (Nat.lt_of_succ_lt hi)
 have l1:(rs.take i).length=i:=List.length_take_of_le (zac hle (za8 hl.symm))
 have l2:(gs.take i).length=i:=List.length_take_of_le hle
 refine⟨top,?_,fun j r z h1 h2=>?_⟩
 ·rw[zak,zak,l1,l2,zba,zba,zbf,zbf,hl]
 rcases Nat.lt_trichotomy j i with h |h |h
 ·rw[zbu (by rw[l1];exact h),List.getElem?_take,if_pos h] at h1
  rw[zbu (by rw[l2];exact h),List.getElem?_take,if_pos h] at h2
  exact G.gr j r z h1 h2
 ·subst h
  rw[zbq (by rw[l1];exact zae _),l1,Nat.sub_self] at h1
  rw[zbq (by rw[l2];exact zae _),l2,Nat.sub_self] at h2
  (injection h1 with Ja;subst Ja);(injection h2 with Ja;subst Ja)
  exact hM
 ·rw[zbq (by rw[l1];exact zap h),l1,show j-i=(j-i-1)+1 from(Nat.sub_add_cancel (Nat.sub_pos_of_lt h)).symm,List.getElem?_cons_succ,List.getElem?_drop] at h1
  rw[zbq (by rw[l2];exact zap h),l2,show j-i=(j-i-1)+1 from(Nat.sub_add_cancel (Nat.sub_pos_of_lt h)).symm,List.getElem?_cons_succ,List.getElem?_drop] at h2
  exact G.gr _ r z h1 h2
theorem lt3c(h:t<3):t=0\/t=1\/t=2:=(Nat.lt_succ_iff_lt_or_eq.mp h).elim (fun h=>(Nat.lt_succ_iff_lt_or_eq.mp h).elim (fun h=>.inl (Nat.lt_one_iff.mp h)) fun h=>.inr (.inl h)) fun h=>.inr (.inr h)
theorem pick3(hcl:0<=cl)(hm:2<=m):∃i:Nat,i+1<m/\idxV (H++[[V.int (cl/3%((m:Int)-1)),V.int 0,V.int ((m:Int)-2)]]) (.lst H.length) (.int (cl%3))=some (.int i):=by
 obtain⟨t,h⟩:=zrb (x:=cl) (y:=3) (by decide)
 have ht:t<3:=zaq.mp (h▸Int.emod_lt_of_pos cl (by decide))
 have hp:(0:Int)<(m:Int)-1:=Int.sub_pos_of_lt (zaq.mpr hm)
 rw[h]
 rcases lt3c ht with rfl |rfl |rfl
 ·skip
  have a1:0<=cl/3%((m:Int)-1):=Int.emod_nonneg _ (Int.ne_of_gt hp)
  have a2:cl/3%((m:Int)-1)<(m:Int)-1:=Int.emod_lt_of_pos _ hp
  refine⟨(cl/3%((m:Int)-1)).toNat,by exact ar3 [_,_] [_] 0x490a528003080601840400c2008000294a000c200806100c0308000 (Y1 (Y0 V0 J1) V1) (Y0 J2 V1) (Y4 V0 (Y2 (Y4 V1 J0) J1)) (Y7 (Y5 (Y4 V0 J0) V0) (Y6 (Y3 V0 J0) (Y2 V0 J0))) hm a2 (Ar.tn _),?_⟩
  rw[Int.toNat_of_nonneg a1]
  exact zc5 zcd rfl
 ·exact⟨0,hm,zc5 zcd rfl⟩
 ·refine⟨m-2,Nat.lt_of_lt_of_eq (Nat.lt_succ_self _) (Nat.sub_add_cancel hm),?_⟩
  rw[show((m-2:Nat):Int)=(m:Int)-2 from Int.ofNat_sub hm]
  exact zc5 zcd rfl
theorem zm0:∀{gs:List (List Nat)} {s:Nat},zhl B s gs->∀g∈gs,g.Nodup
 |[],_,_,_,hg=>nomatch hg
 |_::_,_,h,g',hg'=>(zah.mp hg').elim (fun e=>e▸zl0 h.2.1) (h.2.2.elim fun J q=>zm0 q.2 g')
theorem GInv.short (I:GInv n M s left gs) (hg:y∈gs):y.length<=n:=by
 obtain⟨_,B1,_,_,C1,_⟩:=I.ex
 exact zf9 (zm0 C1 y hg) (I.lt y hg)
def zwk(H0:Hp)(f dn rd lf n:Nat)(left:List (Nat×Nat))(l1 l6 l7 l12 l13 l14 l15:Option V)(m:Nat)(x0:Loc)(H:Hp):Prop:=∀GJ:Prop,(∀(cl:Int),∀(g:Nat),∀(bs rs:List Nat),∀(s:PS),∀(gs:List (List Nat)),∀(v9 v10 v11:Option V),(m=gs.length)->0<=cl->TelSt H0 H f dn rd lf bs s left->GrSt H f dn rd g bs rs gs->GInv n (n+3) s left gs->[some (.int cl),l1,some (.lst f),some (.lst lf),some (.lst dn),some (.lst rd),l6,l7,some (.lst g),v9,v10,v11,l12,l13,l14,l15]=x0->GJ)->GJ
theorem zwk.mk(cl:Int)(g:Nat)(bs rs:List Nat)(s:PS)(gs:List (List Nat))(v9 v10 v11:Option V)(H:Hp)(hm:m=gs.length)(hcl:0<=cl)(T:TelSt H0 H f dn rd lf bs s left)(G:GrSt H f dn rd g bs rs gs)(I:GInv n (n+3) s left gs):zwk H0 f dn rd lf n left l1 l6 l7 l12 l13 l14 l15 m [some (.int cl),l1,some (.lst f),some (.lst lf),some (.lst dn),some (.lst rd),l6,l7,some (.lst g),v9,v10,v11,l12,l13,l14,l15] H:=fun J kJ=>kJ cl g bs rs s gs v9 v10 v11 hm hcl T G I rfl
def zu9(H0:Hp)(f dn rd lf g:Nat)(rs:List Nat)(s:PS)(left:List (Nat×Nat))(gs:List (List Nat))(mm:Nat)(b:List Nat)(l0 l1 l6 l7 l9 l11 l12 l13 l14 l15:Option V)(r:List Nat)(x1:Loc)(H:Hp):Prop:=∀GJ:Prop,(∀(ks:List Nat),∀(v10:Option V),∀(bs:List Nat),(ks++r=b)->(TelSt H0 H f dn rd lf bs (s.puts (ks.map fun y=>(mm,y))) left)->GrSt H f dn rd g bs rs gs->[l0,l1,some (.lst f),some (.lst lf),some (.lst dn),some (.lst rd),l6,l7,some (.lst g),l9,v10,l11,l12,l13,l14,l15]=x1->GJ)->GJ
theorem zu9.mk(r ks:List Nat)(v10:Option V)(bs:List Nat)(H:Hp)(he:ks++r=b)(T:TelSt H0 H f dn rd lf bs (s.puts (ks.map fun y=>(mm,y))) left)(G:GrSt H f dn rd g bs rs gs):zu9 H0 f dn rd lf g rs s left gs mm b l0 l1 l6 l7 l9 l11 l12 l13 l14 l15 r [l0,l1,some (.lst f),some (.lst lf),some (.lst dn),some (.lst rd),l6,l7,some (.lst g),l9,v10,l11,l12,l13,l14,l15] H:=fun J kJ=>kJ ks v10 bs he T G rfl
variable {b:Nat}{xs:List Nat}{y:List (Nat×Nat)}
theorem split2{gs:List α}{a b:α}(ha:gs[i]?=some a)(hb:gs[i+1]?=some b):gs=gs.take i++a::b::gs.drop (i+2):=by
 obtain⟨h1,rfl⟩:=zbn.mp ha
 obtain⟨h2,rfl⟩:=zbn.mp hb
 rw[<- zb5 h2,<-zb5 h1,List.take_append_drop]
theorem tel1_ok(PP:Has c "_law_place" 5 6 zc4)(hn:n<=64)(hcl:0<=cl)(T:TelSt H0 H f dn rd lf bs s left)(G:GrSt H f dn rd g bs rs gs)(I:GInv n (n+3) s left gs)
  (hq:∀a bs' H' l' net,Told n net->NetAt H' a bs' net->Stay [] H0 H'->(∀b∈a::bs',H0.length<=b)->(a::bs').Nodup->R (.ret (.lst a)) l' H') :
  wpSs (Calls c) true (d+1) none tel1 R E [some (.int cl),l1,some (.lst f),some (.lst lf),some (.lst dn),some (.lst rd),l6,l7,some (.lst g),l9,l10,l11,l12,l13,l14,l15] H:=by
 refine Ss_go ?_
 walk_at ""
 refine⟨rfl,.mk (zwk H0 f dn rd lf n left l1 l6 l7 l12 l13 l14 l15) gs.length (.mk cl g bs rs s gs _ _ _ _ rfl hcl T G I) ?_⟩
 clear T G I hcl
 intro m l' H' hI
 refine hI _ fun cl g bs rs s gs v9 v10 v11 wk hcl T G I wg=>?_;clear hI;subst wg;subst wk
 walk_at ""
 refine Opt.mk (zcn G.gr.top) ?_
 walk_at ""
 rw[zab,G.gr.len]
 refine zcf (fun h1=>?_) (fun h1=>?_)
 ·have h1:2<=gs.length:=zaq.mp h1
  refine Ss_go ?_
  walk_at ""
  refine zjs (by decide) ?_
  walk_at ""
  refine zdf (by decide) ?_
  walk_at ""
  generalize hcell:cl*16807%2147483647=cl'
  have hcl':0<=cl':=hcell▸Int.emod_nonneg _ (by decide)
  refine zfq (by decide) ?_
  walk_at ""
  refine Opt.mk (zcn G.gr.top) ?_
  walk_at ""
  rw[zab,G.gr.len]
  refine zdf (Int.sub_pos_of_lt (zaq.mpr h1)) ?_
  walk_at ""
  refine Opt.mk (zcn G.gr.top) ?_
  walk_at ""
  rw[zab,G.gr.len]
  refine zdf (by decide) ?_
  walk_at ""
  obtain⟨i,hi,hidx⟩:=pick3 (H:=H') (m:=gs.length) hcl' h1
  refine Opt.mk hidx ?_
  clear hidx hcell
  walk_at ""
  generalize hH1:H'++[[V.int (cl'/3%((gs.length:Int)-1)),V.int 0,V.int ((gs.length:Int)-2)]]=H1
  have st1:Stay [] H' H1:=hH1▸Stay.refl.app
  clear hH1
  have T1:=T.grow st1
  have G1:=G.grow st1
  have ha:=zai (Nat.lt_of_succ_lt hi)
  have hb:=zai hi
  generalize gs[i]=a at ha
  generalize gs[i+1]=b at hb
  have I2:=I
  rw[split2 ha hb] at I2
  obtain⟨mm,hmm,I3,hlt⟩:=I2.merge
  clear I2
  obtain⟨js,B0,L,_⟩:=I.ex
  obtain⟨rb,hrb,hrbH,hrbI⟩:=G1.gr.at hb
  have hbz:=I.short (zam hb)
  have hlayz:=zac I.lay (zac (Nat.add_le_add_right hn 3) (show 64+3<=80 by decide))
  have hgz:gs.length<=80:=zac (zac (Nat.le_add_left ..) (zbi ..)) hlayz
  have hsz:s.lays.length<=800:=zac (zac (zbi ..) (zbi ..)) (zac hlayz (by decide))
  have hn80:=zac hn (show 64<=80 by decide)
  refine⟨rfl,ze7 (v:=.lst rb) (fun K E' h=>Opt.mk hrbI h) hrbH ?_⟩
  refine zdv (zu9 H0 f dn rd lf g rs s left gs mm b (some (.int cl')) l1 l6 l7 (some (.int i)) v11 l12 l13 l14 l15) ?_ ?_ (.mk _ [] _ bs _ rfl T1 G1)
  ·clear T1 G1 st1 hrbH hrbI T G
   intro y r l' H2 K hI hnext hret
   refine hI _ fun ks v10 bs he T G wg=>?_;clear hI;subst wg
   obtain⟨ra,hra,hraH,hraI⟩:=G.gr.at ha
   walk_at ""
   refine Opt.mk hraI ?_
   walk_at ""
   refine Opt.mk (zmt hraH (by rw[List.getLast?_map,hmm];rfl)) ?_
   walk_at ""
   have htk:∀p∈ks.map fun y=>(mm,y),p.1<p.2/\p.2<n:=fun p hp=>hlt p (by rw[<- he,zan];exact zb8 _ hp)
   have hpm:=hlt (mm,y) (by rw[<- he,zan];exact zbt _ zad)
   have hl2:=zgh L htk
   have hkz:=congrArg List.length he
   rw[zak] at hkz
   rw[zab] at hl2
   refine s_put PP (H0:=H2) (bs0:=bs) (X:=[]) ⟨T.build,Stay.refl,fun b hb=>.inl hb⟩ (L.puts htk) hn (lt900 hl2 hsz (zac (hkz▸zbi ..) (zac hbz hn))) hpm.1 hpm.2 rfl fun bs'' H'' K'' st'' new''=>?_
   have T3:=T.place K''.build st'' new''
   have G3:=G.place st'' new''
   rw[show(s.puts (ks.map fun y=>(mm,y))).put (mm,y)=s.puts ((ks++[y]).map fun y=>(mm,y)) by rw[zan,PS.puts_append];rfl] at T3
   obtain⟨rb',hrb',hrbH',_⟩:=G3.gr.at hb
   obtain rfl:=zaa (hrb.symm.trans hrb')
   exact hnext _ _ hrbH' (.mk _ (ks++[y]) _ bs'' _ (by rw[zbb];exact he) T3 G3)
  ·clear T1 G1 st1 hrbH hrbI T G
   intro l' H2 hI
   refine hI _ fun ks v10 bs he T G wg=>?_;clear hI;subst wg
   rw[za4] at he
   subst he
   obtain⟨ra,hra,hraH,hraI⟩:=G.gr.at ha
   obtain⟨rb',hrb',hrbH,hrbI⟩:=G.gr.at hb
   have haz:=I.short (zam ha)
   have hrl:=G.gr.len
   refine Then_go (Ss_go ?_)
   walk_at ""
   refine Opt.mk hraI ?_
   walk_at ""
   refine Opt.mk hrbI ?_
   walk_at ""
   refine zch (zc6 hraH hrbH (by rw[zab,zab];exact zau (ltA2 (zac haz hn80) (zac hbz hn80)) (by decide))) fun M h1 N1=>?_
   walk_at ""
   have G1:=G.grow N1.st
   refine zch (zi3 G1.gr.top) fun A h2 N2=>?_
   walk_at ""
   refine zch (zc6 (zdq N2.hold) zcd (by rw[zbe,zab];exact zau (ltA3 (b:=0) (zac (Nat.min_le_right ..) (hrl▸hgz)) (by decide)) (by decide))) fun A3 h3 N3=>?_
   walk_at ""
   have st3:=(N2.st.app).trans0 N3.st
   have G3:=G1.grow st3
   refine zch (zem (i:=i+2) G3.gr.top) fun A4 h4 N4=>?_
   walk_at ""
   refine zch (zc6 (at0 N4.st N3.hold) N4.hold (by rw[zak,zbe,zbf,zab];exact zau (ltA3 (zac (Nat.min_le_right ..) (hrl▸hgz)) (zac (Nat.sub_le ..) (hrl▸hgz))) (by decide))) fun A5 h5 N5=>?_
   have st5:=N4.st.trans0 N5.st
   have T5:=T.grow (N1.st.trans0 (st3.trans0 st5))
   refine⟨gs.length-1,Nat.sub_lt (Nat.zero_lt_of_lt hi) (by decide),.mk cl' _ bs (rs.take i++M::rs.drop (i+2)) _ (gs.take i++(a++ks)::gs.drop (i+2)) _ _ _ _ ?_ hcl' T5 ⟨?_,?_⟩ I3⟩
   ·rw[zak,zbe,zba,zbf];exact mid_len hi
   ·refine(G3.gr.grow st5).merge hi ?_ ?_
    ·rw[zan];exact at0 (st3.trans0 st5) N1.hold
    ·rw[N5.hold,zan,za5,List.map_take,List.map_drop,zbb];rfl
   ·have big:∀{x:Nat},H2.length<=x->x∉f::dn::rd::bs:=fun hx hm=>za9.mpr hx (T.build.below _ hm)
    intro r hr
    rcases zah.mp hr with rfl |hr
    ·exact big (zac N1.st.len (zac st3.len (zac N4.st.len N5.lo)))
    ·rcases zaj.mp hr with hr |hr
     ·exact G.apart r (zag _ (List.mem_of_mem_take hr))
     ·rcases zah.mp hr with rfl |hr
      ·exact big N1.lo
      ·exact G.apart r (zag _ (List.mem_of_mem_drop hr))
 ·have h1:gs.length<=1:=za7 fun h=>h1 (zaq.mpr h)
  obtain⟨F1,⟨js,L⟩,F3⟩:=I.fin h1 (zae _)
  exact tel2_ok PP T L hn (zac (Nat.add_le_add_right (zbi ..) _) (zac I.lay (zac (Nat.add_le_add_right hn 3) (by decide)))) F3 fun a bs' H' l' N st fr nd=>hq a bs' H' l' _ F1 N st fr nd
variable {E:XPost}
section
variable {ok:Hp->Prop}
theorem zmi(hi:i<l.length):(l.set i (some v)).getD i none=some v:=by
 rw[zao,zbv hi];rfl
theorem zvi(hi:i<l.length)(hok:∀H',Stay [] H H'->ok H')(hq:∀cs H',Rows H H' cs (xs.map fun x=>[nat x])->Q (cs.map .lst) H') :
  zfe ok (zlx (fun l' Q H=>Q true H) (fun l' Q H=>Opt (l'.getD i none) fun v=>Q (.lst H.length) (H++[[v]])) (.one i) l) (xs.map nat) [] Q H:=by
 refine zdr (xs.map fun x=>[nat x]) (by rw[zab,zab]) ?_ hok hq
 intro j x y acc H' K hx hy st hK
 rw[zal] at hx hy
 revert hx;refine xM fun z hz wj=>?_;subst wj
 rw[hz] at hy
 obtain rfl:=zaa hy
 walk_at ""
 exact Opt.mk (zmi hi) (hK _ _ Stay.refl.app zcd (zae _))
theorem zpj(hi:i<l.length)(wq:rs.length=ys.length)(hr:∀(i b:Nat)(y:List V),rs[i]?=some b->ys[i]?=some y->H[b]?=some y)(hok:∀H',Stay [] H H'->ok H')(hq:∀cs H',Rows H H' cs ys->Q (cs.map .lst) H') :
  zfe ok (zlx (fun l' Q H=>Q true H) (fun l' Q H=>Opt (l'.getD i none) fun v=>Opt (bltV H .list [v]) fun p=>Q p.1 p.2) (.one i) l) (rs.map .lst) [] Q H:=by
 refine zdr ys (by rw[zab];exact wq) ?_ hok hq
 intro j x y acc H' K hx hy st hK
 rw[zal] at hx
 revert hx;refine xM fun b hb wj=>?_;subst wj
 walk_at ""
 exact Opt.mk (zmi hi) (Opt.mk (zfp (at0 st (hr j b y hb hy))) (hK _ _ Stay.refl.app zcd (zae _)))
theorem Rows.grat(R:Rows H H' cs (gs.map fun y=>y.map nat)):GrAt (H'++[cs.map .lst]) H'.length cs gs:=
 ⟨zcd,R.len.trans (zab ..),fun i b y h1 h2=>zdq (R.hold i b _ h1 (by rw[zal,h2];rfl))⟩
theorem ones_eq:(xs.map fun x=>[nat x])=(xs.map fun x=>[x]).map fun y=>y.map nat:=by rw[za0];rfl
theorem Rows.top(R:Rows H H' cs ys):∀b∈H'.length::cs,H.length<=b:=za2.mpr ⟨R.st.len,fun b hb=>(R.fr b hb).1⟩
end
section
variable {E:SX}
theorem tel0_ok(PP:Has c "_law_place" 5 6 zc4)(hn:n<=64)(hcl:0<=cl)(T:TelSt H0 H f dn rd lf bs s left)(ha:H[la]?=some (act.map nat))(I:TurnInv n 3 s left act)
  (hq:∀a bs' H' l' net,Told n net->NetAt H' a bs' net->Stay [] H0 H'->(∀b∈a::bs',H0.length<=b)->(a::bs').Nodup->R (.ret (.lst a)) l' H') :
  wpSs (Calls c) true (d+1) none tel0 R E [some (.int cl),l1,some (.lst f),some (.lst lf),some (.lst dn),some (.lst rd),some (.lst la),l7,l8,l9,l10,l11,l12,l13,l14,l15] H:=by
 have hal:=I.len
 refine Ss_go ?_
 walk_at ""
 refine Opt.mk (zdh ha) ⟨zck (by rw[zab];exact za3 (zac (zbi ..) (zac hal hn)) (by decide)),?_⟩
 refine zvi (Nat.le_of_ble_eq_true rfl) (fun H' st=>at0 st ha) fun rs H' RR=>?_
 rw[ones_eq] at RR
 refine tel1_ok PP hn hcl (T.grow RR.st.app) ⟨RR.grat,fun r hr hm=>?_⟩ (GInv.of I) hq
 exact za9.mpr (RR.top r hr) (T.build.below r hm)
theorem TurnInv.mono(I:TurnInv n t s left act)(h:t<=t'):TurnInv n t' s left act:={ I with lay:=zac I.lay h }
def TelTInv(H0:Hp)(f dn rd lf n:Nat)(cl:Int)(l1 l8 l9 l10 l11 l12 l13 l14 l15:Option V)(i:Nat)(x0:Loc)(H:Hp):Prop:=∀GJ:Prop,(∀(v7:Option V),∀(la:Nat),∀(bs:List Nat),∀(s:PS),∀(left:List (Nat×Nat)),∀(act:List Nat),TelSt H0 H f dn rd lf bs s left->(H[la]?=some (act.map nat))->la∉f::dn::rd::bs->la≠lf->TurnInv n i s left act->[some (.int cl),l1,some (.lst f),some (.lst lf),some (.lst dn),some (.lst rd),some (.lst la),v7,l8,l9,l10,l11,l12,l13,l14,l15]=x0->GJ)->GJ
theorem telT_ok(PT:Has c "_law_thinner" 6 8 zd7)(PP:Has c "_law_place" 5 6 zc4)(hn:n<=64)(hcl:0<=cl)(T:TelSt H0 H f dn rd lf bs s left)(ha:H[la]?=some (act.map nat))(nla:la∉f::dn::rd::bs)(hal:la≠lf)(I:TurnInv n 0 s left act)
  (hq:∀a bs' H' l' net,Told n net->NetAt H' a bs' net->Stay [] H0 H'->(∀b∈a::bs',H0.length<=b)->(a::bs').Nodup->R (.ret (.lst a)) l' H') :
  wpSs (Calls c) true (d+2) none telT R E [some (.int cl),l1,some (.lst f),some (.lst lf),some (.lst dn),some (.lst rd),some (.lst la),l7,l8,l9,l10,l11,l12,l13,l14,l15] H:=by
 refine Ss_go ?_
 walk_at ""
 obtain⟨t,ht,ht3⟩:∃t:Nat,cl%4=t/\t<=3:=⟨(cl%4).toNat,(Int.toNat_of_nonneg (Int.emod_nonneg _ (by decide))).symm,Int.toNat_le.mpr (Int.le_of_lt_add_one (Int.emod_lt_of_pos _ (by decide)))⟩
 refine⟨rfl,ze7 (v:=.rng 0 t 1) (items:=(List.range t).map nat) (fun K E' h=>by walk_at "";refine zdf (by decide) ?_;walk_at "";rw[ht];exact Opt.mk (zdl (za3 ht3 (by decide))) h) (congrArg some (zd3 t)) ?_⟩
 refine zel (TelTInv H0 f dn rd lf n cl l1 l8 l9 l10 l11 l12 l13 l14 l15) ?_ ?_ (fun J kJ=>kJ _ la bs s left act T ha nla hal I rfl)
 ·clear T ha nla hal I
  intro i x l' H' K hx hI hnext hret
  refine hI _ fun v7 la bs s left act T ha nla hal I wg=>?_;clear hI;subst wg
  have hit:=zcj hx
  rw[zab,zas] at hit
  rw[zal,zbs hit] at hx
  obtain rfl:=zaa hx
  unfold nat
  walk_at ""
  refine zfq (by decide) ?_
  walk_at ""
  refine zfq pos1 ?_
  walk_at ""
  obtain⟨js,B,L,_⟩:=I.ex
  have hln:=I.len
  have hly:=I.lay
  have st:=I.thin (zfi (cl/4/(1+(i:Int))))
  refine zvt PT PP T.build L hn ha T.hleft nla T.nlf hal st.2 (zac (zbi ..) (zac hln hn)) (zac (za8 (Nat.add_comm ..)) (zac hln (zac hn (by decide)))) (zac hly (zac (zap hit) (zac ht3 (by decide)))) rfl fun bs' H'' fw K'=>?_
  exact hnext _ _ trivial (fun J kJ=>kJ _ fw bs' _ _ _ (T.thin K') K'.hfw K'.nfw (qax K'.d3) st.1 rfl)
 ·clear T ha nla hal I
  intro l' H' hI
  refine hI _ fun v7 la bs s left act T ha nla hal I wg=>?_;clear hI;subst wg
  rw[zab,zas] at I
  exact tel0_ok (d:=d+1) PP hn hcl T ha (I.mono ht3) hq
end
section
variable {Q:V->Hp->Prop}
theorem zvu(P:Has c "_law_telling" 2 16 ze4)(PT:Has c "_law_thinner" 6 8 zd7)(PP:Has c "_law_place" 5 6 zc4){cell:Int}(hn1:1<=n)(hn:n<=64)(hc:q=true)
  (hq:∀a bs net H',Told n net->NetAt H' a bs net->Stay [] H H'->(∀b∈a::bs,H.length<=b)->(a::bs).Nodup->Q (.lst a) H') :
  Calls c q (d+3) "_law_telling" [.int cell,.int n] none Q E H:=by
 subst hc
 refine P true (d+2) _ Q E H rfl ?_
 rw[tel_eq]
 refine Ss_go ?_
 walk_at ""
 refine zjs (by decide) ?_
 walk_at ""
 refine zdf (by decide) ?_
 have hcl:0<=cell*48271%2147483647:=Int.emod_nonneg _ (by decide)
 walk_at ""
 generalize cell*48271%2147483647=cl at hcl
 refine zch (mul_zero zcd (za3 hn (by decide))) fun dn H1 N1=>?_
 walk_at ""
 refine zch (mul_zero zcd (za3 hn (by decide))) fun rd H2 N2=>?_
 walk_at ""
 refine Opt.mk (zdl (za3 hn (by decide))) ?_
 walk_at ""
 refine zch (zh8 (za3 hn (by decide))) fun la H3 N3=>?_
 have a1:Stay [] (H++[[]]) H1:=Stay.refl.app.app.trans0 N1.st
 have a2:Stay [] H1 H3:=Stay.refl.app.trans0 (N2.st.trans0 N3.st)
 have b1:=(Stay.refl (S:=[]) (H:=H)).app (xs:=[])
 have g1:H.length<(H++[[]]).length:=zc2 zcd
 have g2:(H++[[]]).length<(H++[[]]++[[]]).length:=zc2 zcd
 have g3:(H++[[]]).length<dn:=zat g2 (zac (Stay.refl (S:=[])).app.len N1.lo)
 have g4:dn<rd:=zat (zc2 N1.hold) (zac (Stay.refl (S:=[])).app.len N2.lo)
 have g5:rd<la:=zat (zc2 N2.hold) N3.lo
 have T:TelSt H H3 H.length dn rd (H++[[]]).length [] (PS.init n) []:=
  ⟨⟨at0 (a1.trans0 a2) zcd,rfl,(fun J J J h=>nomatch h),at0 a2 N1.hold,at0 N3.st N2.hold,
   ⟨by exact ar2 [_,_,_] [] kaq (Y8 (Y2 V0 V1) J0) (Y1 V0 V2) (Y1 V2 V1) g1 g3,by exact ar3 [_,_,_,_] [] 0x4294a5000610080308060184040102000000 (Y8 (Y2 V0 V1) J0) (Y1 V0 V2) (Y1 V2 V3) (Y1 V3 V1) g1 g3 g4,zbd,by exact ar1 [_,_] [] kan (Y8 (Y2 V0 V1) J0) (Y1 V0 V1) g4,zbd,zbd,zbx⟩⟩,
   at0 a2 (at0 (Stay.refl.app.trans0 N1.st) zcd),not4 (by exact ar1 [_,_] [] 0x4294001840200c2000000 (Y8 (Y2 V0 V1) J0) (Y1 V1 V0) g1) (by exact ar1 [_,_] [] kan (Y8 (Y2 V0 V1) J0) (Y1 V0 V1) g3) (by exact ar2 [_,_,_] [] kaq (Y8 (Y2 V0 V1) J0) (Y1 V0 V2) (Y1 V2 V1) g3 g4) zbd,b1.trans0 (a1.trans0 a2),mem4 (zae _) (by exact ar2 [_,_,_] [] kab (Y0 V0 V1) (Y1 V0 V2) (Y1 V2 V1) g1 g3) (by exact ar3 [_,_,_,_] [] kak (Y0 V0 V1) (Y1 V0 V2) (Y1 V2 V3) (Y1 V3 V1) g1 g3 g4) (fun J h=>nomatch h),by exact ar1 [_,_] [] kaa (Y0 V0 V1) (Y1 V0 V1) g1⟩
 exact telT_ok (d:=d) PT PP hn hcl T N3.hold (not4 (by exact ar4 [_,_,_,_,_] [] 0x10a5294a000c201006100c03080801840500c2000000 (Y8 (Y2 V0 V1) J0) (Y1 V1 V2) (Y1 V2 V3) (Y1 V3 V4) (Y1 V4 V0) g1 g3 g4 g5) (by exact ar2 [_,_,_] [] 0x10a528003080401840300c2000000 (Y8 (Y2 V0 V1) J0) (Y1 V1 V2) (Y1 V2 V0) g4 g5) (by exact ar1 [_,_] [] 0x4294001840200c2000000 (Y8 (Y2 V0 V1) J0) (Y1 V1 V0) g5) zbd) (by exact ar3 [_,_,_,_] [] 0x4294a50006100803080601840400c2000000 (Y8 (Y2 V0 V1) J0) (Y1 V1 V2) (Y1 V2 V3) (Y1 V3 V0) g3 g4 g5) (TurnInv.init n) fun a bs' H' l' net Tn N s2 fr nd=>hq a bs' net H' Tn N s2 fr nd
end
variable {Q:V->Hp->Prop}{cl:Nat}{f s:Str}{gs:Net}{xs:List V}{ys:List Nat}
theorem zor(f:α->α->α){l:Nat}(hn:((y++[(l,h)]).map (·.2)).Nodup)(σ:Nat->α):zcy f (y++[(l,h)]) σ=fun x=>if x=h then f (σ l) (σ h) else zcy f y σ x:=by
 funext x
 rw[zan,zb3] at hn
 have hnh:∀p∈y,p.2≠h:=fun p hp e=>hn.2.2 p.2 (za6.mpr ⟨p,hp,rfl⟩) h zad e
 unfold zcy
 rw[List.find?_append]
 by_cases e:x=h
 ·subst e
  rw[List.find?_eq_none.mpr fun p hp q=>hnh p hp (beq_iff_eq.mp q),if_pos rfl,List.find?_cons_of_pos (p:=fun p:Nat×Nat=>p.2==x) (a:=(l,x)) (beq_iff_eq.mpr rfl)];rfl
 ·rw[if_neg e,List.find?_cons_of_neg (p:=fun p:Nat×Nat=>p.2==x) (a:=(l,h)) (fun q=>e (beq_iff_eq.mp q).symm)]
  cases y.find? (fun p=>p.2==x)<;>rfl
theorem NetAt.stay{net:Net}(N:NetAt H a bs net)(st:Stay S H H')(h:∀b∈a::bs,b∉S):NetAt H' a bs net:=
 ⟨st.at N.top (h a zad),N.len,fun i b y h1 h2=>st.at (N.lay i b y h1 h2) (h b (zag _ (zam h1)))⟩
theorem NetAt.grow{net:Net}(N:NetAt H a bs net)(st:Stay [] H H'):NetAt H' a bs net:=N.stay st fun J J=>zbd
inductive NetIt(H:Hp)(a i:Nat)(bs:List Nat)(y:List (Nat×Nat)):Prop
 |mk (b:Nat)(hb:bs[i]?=some b)(hold:H[b]?=some (y.map pr))(ix:idxV H (.lst a) (.int i)=some (.lst b)):NetIt H a i bs y
theorem NetAt.at{net:Net}(N:NetAt H a bs net)(h:net[i]?=some y):NetIt H a i bs y:=
 have hr:=zai (show i<bs.length from N.len▸zcj h)
 ⟨_,hr,N.lay i _ y hr h,zc5 N.top (zi9 hr)⟩
theorem NetAt.get{net:Net}(N:NetAt H a bs net)(h:bs[i]?=some b):∃y,net[i]?=some y/\H[b]?=some (y.map pr):=
 have hr:=zai (show i<net.length from N.len▸zcj h)
 ⟨_,hr,N.lay i _ _ h hr⟩
theorem NetAt.lt{net:Net}(N:NetAt H a bs net):∀b∈a::bs,b<H.length:=by
 refine za2.mpr ⟨zc2 N.top,fun b hb=>?_⟩
 obtain⟨_,_,h⟩:=N.each hb
 exact zc2 h
theorem zpu:onQ true (srcV H (.rng 0 n 1))=some ((List.range n).map nat):=congrArg some (zd3 n)
noncomputable def natL(n:Nat)(σ:Nat->Nat):List Nat:=(List.range n).map σ
theorem zhn:(natL n σ).length=n:=by rw[natL,zab,zas]
theorem ziu(h:x<n):(natL n σ)[x]?=some (σ x):=by
 rw[natL,zal,zbs h];rfl
theorem natL_set{v:Nat}:(natL n σ).set h v=natL n (fun x=>if x=h then v else σ x):=by
 apply List.ext_getElem?
 intro i
 by_cases hi:i<n
 ·rw[ziu hi]
  by_cases e:i=h
  ·subst e;rw[zbv (by rw[zhn];exact hi),if_pos rfl]
  ·rw[zb0 (qax e),ziu hi,if_neg e]
 ·have hi:=za7 hi
  rw[zb2 (by rw[zbg,zhn];exact hi),zb2 (by rw[zhn];exact hi)]
theorem znn:zcp (y::r) B=if zc7 B y then zcp r (zcy (fun l J=>l) y B) else none:=rfl
theorem zrn {net:Net} (h:zcp (net.take i) id=some B) (hy:net[i]?=some y) (hn:zc7 B y=false):zcp net id=none:=by
 rw[zq8 hy,zbb,zco,h]
 refine(znn (y:=y)).trans ?_
 rw[hn];rfl
theorem zrx{net:Net}(h:zcp (net.take i) id=some B)(hy:net[i]?=some y)(hn:zc7 B y=true):zcp (net.take (i+1)) id=some (zcy (fun l J=>l) y B):=by
 rw[List.take_add_one,hy,zco,h]
 refine(znn (y:=y)).trans ?_
 rw[hn];rfl
inductive BegInv(H:Hp)(n a:Nat)(net:Net)(i:Nat):Loc->Hp->Prop
 |mk (v3 v4 v5 v6:Option V)(g:Nat)(B:Nat->Nat)(H':Hp)(hg:H'[g]?=some ((natL n B).map nat))(ht:zcp (net.take i) id=some B)(st:Stay [] H H'):BegInv H n a net i [some (.int n),some (.lst a),some (.lst g),v3,v4,v5,v6,none] H'
inductive BegFor(H:Hp)(n a b g g':Nat)(B:Nat->Nat)(y:List (Nat×Nat)):List (Nat×Nat)->Loc->Hp->Prop
 |mk (r ks:List (Nat×Nat))(v5 v6:Option V)(H':Hp)(he:ks++r=y)(g1:H'[g]?=some ((natL n B).map nat))(g2:H'[g']?=some ((natL n (zcy (fun l J=>l) ks B)).map nat))(hl:zc7 B ks=true)(st:Stay [] H H') :
   BegFor H n a b g g' B y r [some (.int n),some (.lst a),some (.lst g),some (.lst b),some (.lst g'),v5,v6,none] H'
theorem zrh{f:α->Bool}:∀zs:List α,zeq (zs.map fun x=>V.bool (f x))=some (zs.map f)
 |[]=>rfl
 |z::r=>by
  show(zeq (r.map fun x=>V.bool (f x))).map _=_
  rw[zrh r];rfl
theorem zml{f:α->Bool}{zs:List α}(h:H[a]?=some (zs.map fun x=>V.bool (f x))):onQ true (bltV H .all [.lst a])=some (.bool (zs.all f),H):=by
 show(H[a]?).bind _=_
 rw[h]
 show(zeq (zs.map fun x=>V.bool (f x))).map _=_
 rw[zrh]
 show some (V.bool ((zs.map f).all id),H)=_
 rw[List.all_map];rfl
theorem zpd(P:Has c "does_tell" 2 8 zgy){net:Net}(A:NetAt H a bs net)(hn:n<=64)(hf:Fair n net)(hc:q=true)
  (hq:∀H',Stay [] H H'->Q (.bool (zci n net)) H'):Calls c q (d+1) "does_tell" [.int n,.lst a] none Q E H:=by
 subst hc
 refine P true d _ Q E H rfl (Ss_go ?_)
 walk_at ""
 refine Opt.mk (zdl (za3 hn (by decide))) ?_
 walk_at ""
 refine zch (zh8 (za3 hn (by decide))) fun g H1 N1=>?_
 walk_at ""
 refine⟨rfl,ze7 (v:=.lst a) (fun K E' h=>h) (at0 N1.st A.top) ?_⟩
 refine zel (BegInv H n a net) ?_ ?_ (.mk _ _ _ _ g id _ (by rw[natL,List.map_id];exact N1.hold) rfl N1.st)
 ·clear N1
  intro i x l' H' K hx hI hnext hret
  obtain⟨v3,v4,v5,v6,g,B,_,hg,ht,st⟩:=hI
  rw[zal] at hx
  revert hx;refine xM fun b hb wj=>?_;subst wj
  obtain⟨y,hy,hby⟩:=(A.grow st).get hb
  have hfy:=hf y (zam hy)
  walk_at ""
  refine zch (zfp hg) fun g' H'' N=>?_
  walk_at ""
  have hgg:g≠g':=zar (zat (zc2 hg) N.lo)
  have hgl:H.length<=g':=zac st.len N.lo
  refine⟨rfl,ze7 (v:=.lst b) (fun K E' h=>h) (at0 N.st hby) ?_⟩
  refine zdv (BegFor H n a b g g' B y) ?_ ?_ (.mk _ [] _ _ _ rfl (at0 N.st hg) N.hold rfl (st.trans0 N.st))
  ·clear N hg st hby
   intro p r l' H2 K2 hI hnext2 hret2
   obtain⟨ks,v5,v6,_,he,g1,g2,hl,st⟩:=hI
   obtain⟨pl,ph⟩:=p
   have hpy:(pl,ph)∈y:=by rw[<- he];exact zbt _ zad
   have hpm:=hfy.1 _ hpy
   have he':(ks++[(pl,ph)])++r=y:=by rw[zbb];exact he
   have hnd:=hfy.2
   rw[<- he',zan] at hnd
   have hnd:=(zb3.mp hnd).1
   refine Opt.mk rfl (Ss_go ?_)
   walk_at ""
   refine Opt.mk (zds g1 (ziu hpm.2)) ?_
   walk_at ""
   refine zfl (fun hne=>?_) (fun heq=>?_)
   ·have hne:¬pl+1=B ph:=fun e=>hne (Int.ofNat_inj.mpr e)
    refine Ss_go ?_
    walk_at ""
    refine hret2 _ _ _ (hret _ _ _ ?_)
    have hly:zc7 B y=false:=Bool.eq_false_iff.mpr fun e=>hne (zfh.mp e _ hpy)
    have:=hq H2 st
    unfold zci at this
    rw[zrn ht hy hly] at this
    exact this
   ·have heq:pl+1=B ph:=Int.ofNat_inj.mp heq
    walk_at ""
    refine Opt.mk (zds g1 (ziu (zau hpm.1 hpm.2))) ?_
    walk_at ""
    refine Opt.mk (zmc g2 (by rw[zhn];exact hpm.2)) ?_
    have st3:=st.set (a:=g') (xs:=((natL n (zcy (fun l J=>l) ks B)).set ph (B pl)).map nat) (.inr hgl)
    refine hnext2 _ _ ((A.grow st3).lay i b y hb hy) (.mk _ (ks++[(pl,ph)]) _ _ _ he' (zcz g1 hgg) ?_ ?_ st3)
    ·rw[zd1 g2,zor _ hnd,natL_set]
    ·refine zfh.mpr fun p hp=>(zaj.mp hp).elim (zfh.mp hl p) fun h=>?_
     rw[zaf.mp h];exact heq
  ·clear N hg st hby
   intro l' H2 hI
   obtain⟨ks,v5,v6,_,he,g1,g2,hl,st⟩:=hI
   rw[za4] at he
   subst he
   refine Then_go (Ss_go ?_)
   walk_at ""
   exact hnext _ _ (A.grow st).top (.mk _ _ _ _ _ _ _ g2 (zrx ht hy hl) st)
 ·clear N1
  intro l' H' hI
  obtain⟨v3,v4,v5,v6,g,B,_,hg,ht,st⟩:=hI
  rw[zab,A.len,List.take_length] at ht
  refine Then_go (Ss_go ?_)
  walk_at ""
  refine Opt.mk (zdh hg) ⟨zck (by rw[zab,zhn];exact za3 hn (by decide)),?_⟩
  refine zfj (I:=fun j acc H2=>H2=H'/\acc=((natL n B).take j).map fun x=>V.bool (decide (x=0))) ?_ ?_ ⟨rfl,rfl⟩
  ·rintro j x acc H2 K hx ⟨rfl,rfl⟩ hK
   rw[zal] at hx
   revert hx;refine xM fun z hz wj=>?_;subst wj
   unfold nat
   walk_at ""
   refine hK _ _ hg ⟨rfl,?_⟩
   rw[List.take_add_one,hz,zan]
   exact congrArg (fun b=>List.map _ _++[V.bool b]) (zjv (a:=z) (b:=0))
  ·rintro acc H2 ⟨rfl,rfl⟩
   rw[zab,List.take_length]
   refine Opt.mk (zml zcd) ?_
   have e:zci n net=(natL n B).all fun x=>decide (x=0):=by
    unfold zci natL
    rw[ht,List.all_map];rfl
   rw[<- e]
   exact hq _ st.app
variable {x:Net}{σ:Nat->List Nat}
section
variable {ok:Hp->Prop}{Q:List V->Hp->Prop}
theorem zoz(G:NetAt H g rs gs)(hi:i<l.length)(hok:∀H',Stay [] H H'->ok H')(hq:∀cs H',Rows H H' cs (gs.map fun y=>y.map pr)->Q (cs.map .lst) H') :
  zfe ok (zlx (fun l' Q H=>Q true H) (fun l' Q H=>Opt (l'.getD i none) fun v=>Opt (bltV H .list [v]) fun p=>Q p.1 p.2) (.one i) l) (rs.map .lst) [] Q H:=by
 refine zpj hi (by rw[zab];exact G.len) (fun j b y h1 h2=>?_) hok hq
 rw[zal] at h2
 revert h2;refine xM fun z hz wj=>?_;subst wj
 exact G.lay j b z h1 hz
theorem zc0{W:Loc->(V->Hp->Prop)->Hp->Prop}{t:Tg}{f g:α->V}{xs:List α}(hok:ok H)(he:∀x∈xs,∀K:V->Hp->Prop,K (g x) H->Opt (zg8 t (f x) l) fun l'=>W l' K H)(hq:Q (xs.map g) H) :
  zfe ok (zlx (fun l' Q H=>Q true H) W t l) (xs.map f) [] Q H:=by
 refine zfj (I:=fun j acc H2=>H2=H/\acc=(xs.take j).map g) ?_ ?_ ⟨rfl,rfl⟩
 ·rintro j x acc H2 K hx ⟨rfl,rfl⟩ hK
  rw[zal] at hx
  revert hx;refine xM fun z hz wj=>?_;subst wj
  refine he z (zam hz) _ (hK _ _ hok ⟨rfl,?_⟩)
  rw[List.take_add_one,hz,zan];rfl
 ·rintro acc H2 ⟨rfl,rfl⟩
  rw[zab,List.take_length]
  exact hq
end
theorem zcw(hb:0<b)(h:K (.int (a%b:Nat),H)):Opt (binV H .mod (.int a) (.int b)) K:=zdf (zaq.mpr hb) (Int.natCast_emod a b▸h)
theorem zcv(hb:0<b)(h:K (.int (a/b:Nat),H)):Opt (binV H .div (.int a) (.int b)) K:=zfq (zaq.mpr hb) (Int.natCast_ediv a b▸h)
theorem NetAt.ofz{zs:List (Nat×List (Nat×Nat))}(top:H[a]?=some ((zs.map (·.1)).map V.lst))(h:∀p∈zs,H[p.1]?=some (p.2.map pr)):NetAt H a (zs.map (·.1)) (zs.map (·.2)):=by
 refine⟨top,by rw[zab,zab],fun i b y h1 h2=>?_⟩
 rw[zal] at h1 h2
 revert h1;refine xM fun p hp wj=>?_;subst wj
 rw[hp] at h2
 obtain rfl:=zaa h2
 exact h p (zam hp)
theorem NetAt.zs{net:Net}(N:NetAt H a bs net):∃zs:List (Nat×List (Nat×Nat)),zs.map (·.1)=bs/\zs.map (·.2)=net/\∀p∈zs,H[p.1]?=some (p.2.map pr):=by
 refine⟨bs.zip net,List.map_fst_zip (za8 N.len),List.map_snd_zip (za8 N.len.symm),fun p hp=>?_⟩
 obtain⟨i,hi⟩:=List.mem_iff_getElem?.mp hp
 have h1:=List.getElem?_zip_eq_some.mp hi
 exact N.lay i p.1 p.2 h1.1 h1.2
theorem NetAt.append{a':Nat}{y:Net}(N:NetAt H a bs x)(M:NetAt H b cs y)(top:H[a']?=some (bs.map V.lst++cs.map .lst)):NetAt H a' (bs++cs) (x++y):=by
 obtain⟨zs,z1,z2,z3⟩:=N.zs
 obtain⟨ws,w1,w2,w3⟩:=M.zs
 have:NetAt H a' ((zs++ws).map (·.1)) ((zs++ws).map (·.2)):=by
  refine NetAt.ofz ?_ fun p hp=>(zaj.mp hp).elim (z3 p) (w3 p)
  rw[top,<-z1,<-w1,zan,zan]
 rw[zan,zan,z1,z2,w1,w2] at this
 exact this
theorem block_eq:((zex (h,ls)).map fun y=>y.map pr)=ls.map fun x=>[pr (x,h)]:=by rw[zex,za0];rfl
theorem zs7 {ok:Hp->Prop} {Q:List V->Hp->Prop} (hi:i<l.length) (hij:j≠i) (hj:l.getD j none=some (.int h)) (hok:∀H',Stay [] H H'->ok H') (hq:∀cs H',Rows H H' cs ((zex (h,ls)).map fun y=>y.map pr)->Q (cs.map .lst) H') :
  zfe ok (zlx (fun l' Q H=>Q true H) (fun l' Q H=>Opt (l'.getD i none) fun v=>Opt (l'.getD j none) fun w=>Q (.lst H.length) (H++[[.tup [v,w]]])) (.one i) l) (ls.map nat) [] Q H:=by
 rw[block_eq] at hq
 refine zdr (ls.map fun x=>[pr (x,h)]) (by rw[zab,zab]) ?_ hok hq
 intro k x y acc H' K hx hy st hK
 rw[zal] at hx hy
 revert hx;refine xM fun z hz wj=>?_;subst wj
 rw[hz] at hy
 obtain rfl:=zaa hy
 walk_at ""
 refine Opt.mk (zmi hi) (Opt.mk (a:=.int h) ?_ (hK _ _ Stay.refl.app zcd (zae _)))
 rw[zao,zb0 (qax hij),<-zao];exact hj
theorem rev_lst(h:H[a]?=some xs):revV H (.lst a)=some (.lst H.length,H++[xs.reverse]):=by
 show(H[a]?).map _=_
 rw[h];rfl
structure Blocks(n k:Nat)(bl:List (Nat×List Nat)):Prop where
 len:bl.length=k
 at':∀(i:Nat) (p:Nat×List Nat),bl[i]?=some p->p.1+i+1=n/\p.2.length=p.1/\∀l∈p.2,l<p.1
 tot:(bl.flatMap zex).length+tri (n-1-k)=tri (n-1)
theorem Blocks.ok(B:Blocks n k bl)(hn:n<=12):zg5 n (bl.flatMap zex):=by
 refine⟨by have:=B.tot;have:=zuu (n-1) (by exact ar1 [_] [] kbn (Y0 (Y2 V0 J1) (.l 11)) (Y0 V0 (.l 12)) hn);exact ar2 [_,_,_] [] kaf (Y0 V0 (.l 80)) (Y0 V1 (.l 66)) (Y2 (Y0 V0 V2) V1) this (by assumption),fun y hy=>?_⟩
 obtain⟨p,hp,hy⟩:=List.mem_flatMap.mp hy
 revert hy;refine xL fun l hl wj=>?_;subst wj
 obtain⟨i,hi⟩:=List.mem_iff_getElem?.mp hp
 obtain⟨h1,h2,h3⟩:=B.at' i p hi
 exact ok_one (h3 l hl) (by exact ar1 [_,_,_] [] kaa (Y1 V0 V1) (Y2 (Y0 (Y0 V0 V2) J1) V1) h1)
theorem zll:[p].flatMap zex=zex p:=by rw[List.flatMap_cons,List.flatMap_nil,za4]
theorem Blocks.snoc(B:Blocks n k bl)(hk:k<n-1)(hh:n-1-k=h)(hl:ls.length=h)(hls:∀x∈ls,x<h):Blocks n (k+1) (bl++[(h,ls)]):=by
 refine⟨by rw[zak,B.len];rfl,fun i p hp=>?_,?_⟩
 ·rcases zd9 hp with hp |⟨e,rfl⟩
  ·exact B.at' i p hp
  ·have:=B.len
   exact⟨by show h+i+1=n;exact ar4 [_,_,_,_,_] [] 0x1868214a000c20400610040000d04294001840c00c2000000294a5294002040b00c206006103403081001840400c20000a309420104a100823194a5294a000c204808102804081601840600c202006100405184a10082508041 (Y2 (Y0 (Y0 V0 V1) J1) V2) (Y1 V3 (Y2 V2 J1)) (Y2 (Y2 (Y2 V2 J1) V3) V0) (Y2 V1 V4) (Y2 V4 V3) hk hh e this,hl,hls⟩
 ·have:=B.tot
  rw[List.flatMap_append,zak,zll,zex,zab,hl]
  rw[show n-1-k=(n-1-(k+1))+1 by exact ar1 [_,_] [] 0x30d04294001840800c2000000194a50006101c03080601840101461004250800128425080011a064294a50006102c03081201840300c20080602842508001194a50006101c0308060184010142128400094610042508001 (Y2 (Y2 (Y2 V0 J1) V1) (Y0 (Y2 (Y2 V0 J1) (Y0 V1 J1)) J1)) (Y1 V1 (Y2 V0 J1)) hk,tri_succ] at this
  exact ar3 [_,_,_,_,_,_] [] 0x30d04294001840800c2000000194a5294002040a00c205806101c0308060184010146101025080a129025080a11a064294a5294001840b00c206008103403081201840300c200806029025080a1194a5294001840a010205806101c03080601840101481284050946101025080a1 (Y2 (Y0 (Y0 V0 V1) V2) V3) (Y1 V4 (Y2 V5 J1)) (Y2 (Y2 (Y2 V5 J1) V4) V1) (Y2 (Y0 V0 (Y0 (Y0 (Y2 (Y2 V5 J1) (Y0 V4 J1)) J1) V2)) V3) hk hh this
variable {k:Clo}{p:Str}{x:V}
section
variable {E:SX}
end
variable {R:Hp->V->Prop}
noncomputable def zmq:List St:=[.ret (.comp (.comp (.tup [.bin .add (.wx 3) (.wx 1),.bin .add (.wx 4) (.wx 1)]) (.two 3 4) (.wx 2) []) (.one 2) (.wx 0) [])]
noncomputable def zev:List St:=[.set 2 (.list []),.loop (.one 3) (.val (.blt .range [.blt .max [.blt .len [.wx 0],.blt .len [.wx 1]]])) [.set 4 (.list []),.loop (.one 5) (.val (.tup [.wx 0,.wx 1])) [.ite (.cmp (.wx 3) [.lt] [.blt .len [.wx 5]]) [.expr (.meth .extend (.wx 4) [.idx (.wx 5) (.wx 3)])] []],.expr (.meth .append (.wx 2) [.wx 4])],.ret (.wx 2)]
noncomputable def znl:List St:=[.set 4 (.call "side_by_side" [.wx 1,.call "moved" [.wx 3,.wx 0]]),.expr (.meth .append (.wx 4) [.comp (.tup [.bin .sub (.wx 0) (.ww 1),.wx 5]) (.one 5) (.blt .range [.wx 0,.bin .add (.wx 0) (.wx 2)]) []]),.ret (.wx 4)]
noncomputable def zmy:List St:=[.set 2 (.list [.comp (.tup [.wx 3,.bin .add (.wx 3) (.ww 1)]) (.one 3) (.blt .range [.ww 0,.bin .sub (.wx 0) (.ww 1),.ww 2]) []]),.expr (.meth .extend (.wx 2) [.comp (.comp (.tup [.bin .add (.bin .mul (.ww 2) (.wx 4)) (.ww 1),.bin .add (.bin .mul (.ww 2) (.wx 5)) (.ww 1)]) (.two 4 5) (.wx 3) []) (.one 3) (.wx 1) []]),.ite (.cmp (.wx 0) [.gt] [.ww 2]) [.expr (.meth .append (.wx 2) [.comp (.tup [.wx 3,.bin .add (.wx 3) (.ww 1)]) (.one 3) (.blt .range [.ww 1,.bin .sub (.wx 0) (.ww 1),.ww 2]) []])] [],.ret (.wx 2)]
noncomputable def zhc:List St:=[.expr (.call "need_lines" [.wx 0]),.ret (.comp (.list [.tup [.wx 1,.bin .add (.wx 1) (.ww 1)]]) (.one 1) (.blt .range [.bin .sub (.wx 0) (.ww 1)]) [])]
noncomputable def zk4:List St:=[.expr (.call "need_lines" [.wx 0]),.set 1 (.list []),.set 2 (.ww 1),.whil (.cmp (.wx 2) [.lt] [.wx 0]) [.expr (.meth .append (.wx 1) [.comp (.tup [.bin .sub (.wx 3) (.wx 2),.wx 3]) (.one 3) (.blt .range [.wx 2,.wx 0]) []]),.set 2 (.bin .mul (.ww 2) (.wx 2))],.ret (.wx 1)]
noncomputable def zog:List St:=[.expr (.call "need_lines" [.wx 0]),.ite (.cmp (.wx 0) [.eq] [.ww 1]) [.ret (.list [])] [],.set 1 (.bin .div (.bin .add (.wx 0) (.ww 1)) (.ww 2)),.ret (.call "parted" [.wx 1,.call "by_halves" [.wx 1],.bin .sub (.wx 0) (.wx 1),.call "by_halves" [.bin .sub (.wx 0) (.wx 1)]])]
noncomputable def zpn:List St:=[.expr (.call "need_lines" [.wx 0]),.ite (.cmp (.wx 0) [.eq] [.ww 1]) [.ret (.list [])] [],.ret (.call "paired" [.wx 0,.call "by_pairs" [.bin .div (.wx 0) (.ww 2)]])]
theorem Fine.short{net:Net}(F:∀y∈net,zcl n y)(hn:n<=64):∀y∈net,y.length<1000:=fun y hy=>by
 have:=zgf (F y hy).2 (F y hy).1
 exact ar2 [_,_] [] kab (Y1 V0 (.l 1000)) (Y0 V1 (.l 64)) (Y0 (Y0 V0 J0) V1) hn this.1
noncomputable def zom:List St:=[.ite (.or [.not (.isi (.wx 0) .tuple),.not (.cmp (.ww 1) [.le,.le] [.blt .len [.wx 0],.ww 8])]) [.ret (.lit (.bool false))] [],.ret (.blt .all [.comp (.call "is_among" [.wx 1,.ww 0,.bin .sub (.blt .len [.wx 0]) (.ww 1)]) (.one 1) (.wx 0) []])]
noncomputable def zij:List St:=[.ite (.or [.not (.isi (.wx 0) .str),.cmp (.wx 0) [.notIn] [.lit (.tup [.str "sum",.str "most",.str "text",.str "map",.str "step"])]]) [.rais "BadKind" [.lit (.str "no kind")]] []]
noncomputable def zo5:List St:=[.ite (.cmp (.wx 0) [.eq] [.lit (.str "text")]) [.ret (.call "is_text" [.wx 1])] [],.ite (.cmp (.wx 0) [.eq] [.lit (.str "map")]) [.ret (.call "is_map" [.wx 1])] [],.ite (.cmp (.wx 0) [.eq] [.lit (.str "step")]) [.ret (.call "is_step" [.wx 1])] [],.ret (.call "is_among" [.wx 1,.bin .sub (.ww 0) (.ww 1000000000000),.ww 1000000000000])]
noncomputable def zmd:List St:=[.expr (.call "need_kind" [.wx 0]),.ite (.not (.call "is_thing" [.wx 0,.wx 1])) [.rais "BadThing" [.lit (.str "no thing of that kind")]] []]
noncomputable def zmp:List St:=[.ite (.and [.cmp (.wx 0) [.eq] [.lit (.str "map")],.not (.blt .all [.comp (.cmp (.blt .len [.wx 2]) [.eq] [.blt .len [.idx (.wx 1) (.ww 0)]]) (.one 2) (.wx 1) []])]) [.rais "BadThing" [.lit (.str "maps of unlike lengths")]] []]
noncomputable def zjn:List St:=[.ite (.cmp (.wx 0) [.eq] [.lit (.str "most")]) [.ret (.blt .max [.wx 1,.wx 2])] [],.ite (.cmp (.wx 0) [.eq] [.lit (.str "map")]) [.ret (.blt .tuple [.comp (.idx (.wx 2) (.wx 3)) (.one 3) (.wx 1) []])] [],.ite (.cmp (.wx 0) [.eq] [.lit (.str "step")]) [.ret (.tup [.bin .mod (.bin .mul (.idx (.wx 1) (.ww 0)) (.idx (.wx 2) (.ww 0))) (.ww 1000003),.bin .mod (.bin .add (.bin .mul (.idx (.wx 1) (.ww 1)) (.idx (.wx 2) (.ww 0))) (.idx (.wx 2) (.ww 1))) (.ww 1000003)])] [],.ret (.bin .add (.wx 1) (.wx 2))]
inductive Kd |sum |most |text |map |step
 deriving DecidableEq
noncomputable def kS:Kd->Str
 |.sum=>"sum" |.most=>"most" |.text=>"text" |.map=>"map" |.step=>"step"
theorem eq_str{a b:Str}(ha:qaw a=true)(hb:qaw b=true):eqV H (.str a) (.str b)=some (decide (a=b)):=by
 refine(if_pos (show(qaw a&&qaw b)=true by rw[ha,hb];rfl)).trans ?_
 show some (a==b)=_
 congr 1
theorem kS_ok(k:Kd):qaw (kS k)=true:=by cases k<;>decide +kernel
theorem zhr{k k':Kd}:cmpV H .eq (.str (kS k)) (.str (kS k'))=some (decide (k=k')):=by
 refine znu ((eq_str (kS_ok k) (kS_ok k')).trans ?_)
 congr 1
 refine decide_eq_decide.mpr ⟨fun h=>?_,fun h=>by rw[h]⟩
 revert h;cases k<;>cases k'<;>decide +kernel
noncomputable def zdt(lo hi:Int)(v:V):Bool:=match v with
 |.int i=>decide (lo<=i/\i<=hi)
 |_=>false
theorem zls(P:Has c "is_among" 3 3 zen)(hk:(kd v).isSome=true)(hq:Q (.bool (zdt lo hi v)) H):Calls c q (d+1) "is_among" [v,.int lo,.int hi] none Q E H:=by
 refine P q d _ Q E H rfl (Ss_go ?_)
 walk_at ""
 cases v with
 |int i=>
  walk_at ""
  refine zcf (fun h=>?_) (fun h=>?_)
  ·walk_at ""
   refine cast ?_ hq
   show Q (.bool (decide (lo<=i/\i<=hi))) H=_
   congr 2
   exact decide_eq_decide.mpr ⟨fun h=>h.2,fun h2=>⟨h,h2⟩⟩
  ·walk_at ""
   refine cast ?_ hq
   show Q (.bool (decide (lo<=i/\i<=hi))) H=_
   rw[decide_eq_false (fun h2=>h h2.1)]
 |bool b=>walk_at "";exact hq
 |none=>walk_at "";exact hq
 |str s=>walk_at "";exact hq
 |tup l=>walk_at "";exact hq
 |lst a=>walk_at "";exact hq
 |_=>injection hk
variable {hi lo:Nat}
noncomputable def isMap:V->Bool
 |.tup l=>decide (1<=l.length/\l.length<=8)&&l.all (zdt 0 (l.length-1))
 |_=>false
def plainV:V->Prop
 |.str s=>s.length<=10000
 |.tup l=>l.length<=20/\∀x∈l,(kd x).isSome=true
 |.none=>True |.bool _=>True |.int _=>True |.lst _=>True
 |_=>False
theorem src_tup{l:List V}:srcV H (.tup l)=some (l.map id):=congrArg some (List.map_id l).symm
theorem s_is_map(P:Has c "is_map" 1 2 zom)(PA:Has c "is_among" 3 3 zen)(hp:plainV v)(hc:q=true)(hq:∀H',Stay [] H H'->Q (.bool (isMap v)) H'):Calls c q (d+2) "is_map" [v] none Q E H:=by
 subst hc
 refine P true (d+1) _ Q E H rfl (Ss_go ?_)
 walk_at ""
 cases v with
 |tup l=>
  walk_at ""
  have no:¬(1<=l.length/\l.length<=8)->isMap (.tup l)=false:=fun h=>by show(decide _&&_)=_;rw[decide_eq_false h,Bool.false_and]
  refine zcf (fun h1=>?_) (fun h1=>?_)
  ·have h1:1<=l.length:=zaw.mp h1
   walk_at ""
   refine zfl (fun h2=>?_) (fun h2=>?_)
   ·refine Ss_go ?_
    walk_at ""
    have:=hq _ Stay.refl
    rw[no (fun q=>h2 (zaw.mpr q.2))] at this
    exact this
   ·have h2:l.length<=8:=zaw.mp h2
    walk_at ""
    refine Opt.mk (src_tup (H:=H)) ⟨zck (by rw[zab];exact za3 h2 (by decide)),?_⟩
    refine zc0 (g:=fun x=>V.bool (zdt 0 (l.length-1) x)) trivial (fun x hx K hK=>?_) ?_
    ·walk_at ""
     exact zls PA (hp.2 x hx) hK
    walk_at ""
    refine Opt.mk (zml zcd) ?_
    walk_at ""
    have:=hq _ (Stay.refl.app (xs:=l.map fun x=>V.bool (zdt 0 (l.length-1) x)))
    rw[show isMap (.tup l)=l.all (zdt 0 (l.length-1)) by show(decide _&&_)=_;rw[decide_eq_true ⟨h1,h2⟩,Bool.true_and]] at this
    exact this
  ·walk_at ""
   have:=hq _ Stay.refl
   rw[no (fun q=>h1 (zaw.mpr q.1))] at this
   exact this
 |bool b=>walk_at "";refine Ss_go ?_;walk_at "";exact hq _ Stay.refl
 |none=>walk_at "";refine Ss_go ?_;walk_at "";exact hq _ Stay.refl
 |int s=>walk_at "";refine Ss_go ?_;walk_at "";exact hq _ Stay.refl
 |str l=>walk_at "";refine Ss_go ?_;walk_at "";exact hq _ Stay.refl
 |lst a=>walk_at "";refine Ss_go ?_;walk_at "";exact hq _ Stay.refl
 |_=>exact hp.elim
noncomputable def kindsL:List Str:=["sum","most","text","map","step"]
theorem kS_mem(k:Kd):kS k∈kindsL:=by cases k<;>decide +kernel
theorem znf:cmpV H .notIn (.str s) (.tup [.str "sum",.str "most",.str "text",.str "map",.str "step"])=some (!decide (s∈kindsL)):=rfl
theorem at_thing:atOf (qab "BadThing") vs=.none:=if_neg (by decide +kernel)
theorem zjm (P:Has c "need_kind" 1 1 zij) {kk:Kd} (hc:q=true) (hq:Q .none H):Calls c q (d+1) "need_kind" [.str (kS kk)] none Q E H:=by
 subst hc
 refine P true d _ Q E H rfl (Ss_go ?_)
 walk_at ""
 refine Opt.mk (a:=true) rfl ?_
 walk_at ""
 refine Opt.mk znf ?_
 walk_at ""
 rw[decide_eq_true (kS_mem kk)]
 walk_at ""
 exact hq
variable {s:Nat->Nat}
theorem zjk(h:H[a]?=some xs):onQ true (bltV H .tuple [.lst a])=some (.tup xs,H):=by
 show(H[a]?).map _=_
 rw[h];rfl
theorem zg7(h:xs[i]?=some x):idxV H (.tup xs) (.int i)=some x:=by
 show(ix i xs.length).bind _=_
 rw[zw2 (zcj h)]
 exact h
theorem getD_nat(h:n<ms.length):(ms.map nat)[n]?=some (nat (ms.getD n 0)):=by
 rw[zal,zao,zai h];rfl
variable {l:List Bool}
section
variable {l:Loc}
theorem zg1{y:V}(he:e∈kids)(hp:p∈kids\/p=qab "ValueError"){b:Bool}(hb:decide (e=p\/p=qab "ValueError")=b):isiV (.exc e y) (.own p)=some b:=by
 subst hb
 exact if_pos ⟨he,hp⟩
theorem zrz{l:List Bool}(h:H[a]?=some xs)(hl:zeq xs=some l):zpx H .count (.lst a) [.bool true]=some (.int (l.count true),H):=by
 show(H[a]?).bind _=_
 rw[h]
 show(zeq xs).map _=_
 rw[hl];rfl
theorem zsl{l:List Bool}(h:H[a]?=some xs)(hl:zeq xs=some l)(ht:true∈l):zpx H .index (.lst a) [.bool true]=some (.int (l.idxOf true),H):=by
 show(H[a]?).bind _=_
 rw[h]
 show(zeq xs).bind _=_
 rw[hl]
 exact if_pos ht
end
variable {l:Loc}{p:Nat->Prop}
theorem eq_words(ha:H[a]?=some [.str w])(hb:H[b]?=some [.str w'])(h1:qaw w=true)(h2:qaw w'=true):eqV H (.lst a) (.lst b)=some (decide (w=w')):=by
 have t1:toP 9 H (.lst a)=some (.list [.str w]):=zet ha rfl
 have t2:toP 9 H (.lst b)=some (.list [.str w']):=zet hb rfl
 show(toP 9 H (.lst a)).bind _=_
 rw[t1]
 show(toP 9 H (.lst b)).bind _=_
 rw[t2]
 refine(if_pos (show((qaw w&&true)&&(qaw w'&&true))=true by rw[h1,h2];rfl)).trans ?_
 show some ((w==w')&&true)=_
 rw[Bool.and_true]
 congr 1
variable {k:Nat}
theorem map_pr(g:Nat×Nat->Nat×Nat)(y:List (Nat×Nat)):(y.map fun p=>pr (g p))=(y.map g).map pr:=by rw[za0];rfl
theorem s_moved(P:Has c "moved" 2 5 zmq){net:Net}(A:NetAt H a bs net)(hz:net.length<1000)(hyz:∀y∈net,y.length<1000)(hc:q=true)
  (hq:∀a' bs' H',NetAt H' a' bs' (net.map (zee m))->Stay [] H H'->Q (.lst a') H'):Calls c q (d+1) "moved" [.lst a,.int m] none Q E H:=by
 subst hc
 refine P true d _ Q E H rfl (Ss_go ?_)
 walk_at ""
 refine Opt.mk (zdh A.top) ⟨zck (by rw[zab,A.len];exact ar1 [_] [] kaa (Y1 V0 (.l 100000)) (Y1 V0 (.l 1000)) hz),?_⟩
 refine zdr ((net.map (zee m)).map fun y=>y.map pr) (by rw[zab,zab,zab,A.len]) ?_ (fun H' st=>at0 st A.top) ?_
 ·intro i x y' acc H' K hx hy' st hK
  rw[zal] at hx
  revert hx;refine xM fun b hb wj=>?_;subst wj
  obtain⟨y,hy,hby⟩:=(A.grow st).get hb
  rw[zal,zal,hy] at hy'
  obtain rfl:=zaa hy'
  have hl:=hyz y (zam hy)
  walk_at ""
  refine Opt.mk (zdh hby) ⟨zck (by rw[zab];exact ar1 [_] [] kaa (Y1 V0 (.l 100000)) (Y1 V0 (.l 1000)) hl),?_⟩
  refine zc0 (g:=fun p:Nat×Nat=>pr (p.1+m,p.2+m)) hby (fun p hp K hK=>hK) ?_
  exact hK _ _ Stay.refl.app (zcd.trans (congrArg some (map_pr (fun p=>(p.1+m,p.2+m)) y))) (zae _)
 ·intro cs H' RR
  exact hq _ cs _ RR.net RR.st.app
theorem zmw:∀{a b:Net} {k:Nat},k<max a.length b.length->(zfu a b)[k]?=some (a.getD k []++b.getD k [])
 |[],b,k,h=>by
  have h:k<b.length:=by rw[List.length_nil,Nat.zero_max] at h;exact h
  show b[k]?=some ([]++b.getD k [])
  rw[List.nil_append,zao,zai h];rfl
 |x::a,[],k,h=>by
  have h:k<(x::a).length:=by rw[List.length_nil,Nat.max_zero] at h;exact h
  show(x::a)[k]?=some ((x::a).getD k []++[])
  rw[za4,zao,zai h];rfl
 |x::a,y::b,0,_=>rfl
 |x::a,y::b,k+1,h=>zmw (a:=a) (b:=b) (k:=k) (by rw[zba,zba] at h;exact ar3 [_,_,_,_,_] [] 0x2144214a528003080c01840701020100610000200404214a5294001840600c20380810080308060184000080102884294a528003080c018407010201006100c030800010020210a5294001840600c2038081008030800010020 (Y1 V0 V1) (Y1 (Y0 V0 J1) V2) (Y7 (Y6 (Y2 V1 V3) (Y0 V4 V3)) (Y6 (Y2 V1 V4) (Y0 V3 V4))) (Y7 (Y6 (Y2 V2 (Y0 V3 J1)) (Y0 (Y0 V4 J1) (Y0 V3 J1))) (Y6 (Y2 V2 (Y0 V4 J1)) (Y0 (Y0 V3 J1) (Y0 V4 J1)))) h (Ar.mx _ _) (Ar.mx _ _))
theorem F_cons {ok:Hp->Prop} {body:V->Loc->SPost->Hp->Prop} {Q:SPost} (h:body x l (Then (fun l' H'=>ok H'/\zhx ok body xs Q l' H') Q) H):zhx ok body (x::xs) Q l H:=h
theorem F_nil{ok:Hp->Prop}{body:V->Loc->SPost->Hp->Prop}{Q:SPost}(h:Q .next l H):zhx ok body [] Q l H:=h
theorem zkd{ys:List V}(ha:H[a]?=some xs)(hb:H[b]?=some ys)(hz:xs.length+ys.length<10000):zpx H .extend (.lst a) [.lst b]=some (.none,H.set a (xs++ys)):=by
 show(H[a]?).bind _=_
 rw[ha]
 show(H[b]?).bind _=_
 rw[hb]
 exact if_pos (zap (zau hz (by decide)))
theorem NetAt.push{e:Nat}{net:Net}(N:NetAt H a bs net)(hab:a∉bs)(he:H[e]?=some (y.map pr))(hne:e≠a):NetAt (H.set a (bs.map .lst++[.lst e])) a (bs++[e]) (net++[y]):=by
 refine⟨by rw[zan];exact zd1 N.top,by rw[zak,zak,N.len];rfl,fun i b z h1 h2=>?_⟩
 rcases zd9 h1 with h1 |⟨e,rfl⟩
 ·rcases zd9 h2 with h2 |⟨e,rfl⟩
  ·exact zcz (N.lay i b z h1 h2) fun e=>hab (e▸zam h1)
  ·exact absurd (zcj h1) (by rw[e,N.len];exact zay _)
 ·rcases zd9 h2 with h2 |⟨_,rfl⟩
  ·exact absurd (zcj h2) (by rw[e,N.len];exact zay _)
  ·exact zcz he hne
theorem zqq{ly:Nat}{net:Net}{xs:List (Nat×Nat)}{l2:Option V}{K:SPost}(A:NetAt H a bs net)(hl:H[ly]?=some (xs.map pr))(hx:xs.length<2000)(hyz:∀y∈net,y.length<1000)
  (hK:∀H',H'[ly]?=some ((xs++net.getD k []).map pr)->Stay [ly] H H'->K .next [l0,l1,l2,some (.int k),some (.lst ly),some (.lst a)] H') :
  wpSs (Calls c) true d none [.ite (.cmp (.var 3) [.lt] [(.blt .len [(.var 5)])]) [.expr (.meth .extend (.var 4) [(.idx (.var 5) (.var 3))])] []] K EE [l0,l1,l2,some (.int k),some (.lst ly),some (.lst a)] H:=by
 refine Ss_go ?_
 walk_at ""
 refine Opt.mk (zcn A.top) ?_
 walk_at ""
 rw[zab,A.len]
 refine zcf (fun h=>?_) (fun h=>?_)
 ·have hy:=zai (zaq.mp h)
  obtain⟨b,hb,hbH,hbI⟩:=A.at hy
  have hyl:=hyz _ (zam hy)
  have hd:net.getD k []=net[k]'(zaq.mp h):=by rw[zao,hy];rfl
  refine Ss_go ?_
  walk_at ""
  refine⟨rfl,?_⟩
  walk_at ""
  refine Opt.mk hbI ?_
  walk_at ""
  refine Opt.mk (zkd hl hbH (by rw[zab,zab];exact ar2 [_,_] [] kab (Y1 (Y0 V0 V1) (.l 10000)) (Y1 V0 (.l 2000)) (Y1 V1 (.l 1000)) hx hyl)) ?_
  walk_at ""
  exact hK _ (by rw[hd,zan];exact zd1 hl) (Stay.refl.set (.inl zad))
 ·walk_at ""
  have hd:net.getD k []=[]:=by rw[zao,zb2 (za7 fun q=>h (zaq.mpr q))];rfl
  exact hK _ (by rw[hd,za4];exact hl) Stay.refl
variable {x y:Net}
def SideInv(H:Hp)(a b ls:Nat)(M:Net)(k:Nat)(x0:Loc)(H':Hp):Prop:=∀GJ:Prop,(∀(v3 v4 v5:Option V),∀(ds:List Nat),NetAt H' ls ds (M.take k)->Stay [] H H'->ls∉ds->[some (.lst a),some (.lst b),some (.lst ls),v3,v4,v5]=x0->GJ)->GJ
theorem s_side(P:Has c "side_by_side" 2 6 zev)(A:NetAt H a bs x)(B:NetAt H b cs y)(hx:x.length<1000)(hy:y.length<1000)(hxz:∀z∈x,z.length<1000)(hyz:∀z∈y,z.length<1000)(hc:q=true)
  (hq:∀a' bs' H',NetAt H' a' bs' (zfu x y)->Stay [] H H'->H.length<=a'->a'∉bs'->Q (.lst a') H'):Calls c q (d+1) "side_by_side" [.lst a,.lst b] none Q E H:=by
 subst hc
 refine P true d _ Q E H rfl (Ss_go ?_)
 walk_at ""
 have st1:=(Stay.refl (S:=[]) (H:=H)).app (xs:=[])
 have hmx:max x.length y.length<1000:=Nat.max_lt.mpr ⟨hx,hy⟩
 refine⟨rfl,ze7 (v:=.rng 0 (max x.length y.length:Nat) 1) (items:=(List.range (max x.length y.length)).map nat) (fun K E' h=>?_) (congrArg some (zd3 _)) ?_⟩
 ·walk_at ""
  refine Opt.mk (zcn (at0 st1 A.top)) ?_
  walk_at ""
  refine Opt.mk (zcn (at0 st1 B.top)) ?_
  walk_at ""
  rw[zab,zab,A.len,B.len]
  refine Opt.mk zrj ?_
  walk_at ""
  exact Opt.mk (zdl (by exact ar1 [_] [] kaa (Y1 V0 (.l 100000)) (Y1 V0 (.l 1000)) hmx)) h
 refine zel (SideInv H a b H.length (zfu x y)) ?_ ?_ (fun J kJ=>kJ _ _ _ [] ⟨zcd,rfl,fun J J J h=>nomatch h⟩ st1 zbd rfl)
 ·intro k v l' H' K hv hI hnext hret
  refine hI _ fun v3 v4 v5 ds N st ap wg=>?_;clear hI;subst wg
  have hk:=zcj hv
  rw[zab,zas] at hk
  rw[zal,zbs hk] at hv
  obtain rfl:=zaa hv
  unfold nat
  walk_at ""
  have st2:=st.app (xs:=[])
  refine⟨rfl,ze7 (v:=.tup [.lst a,.lst b]) (fun K E' h=>h) rfl (F_cons ?_)⟩
  walk_at ""
  refine zqq (xs:=[]) (A.grow st2) zcd (by decide) hxz fun H3 h3 st3=>?_
  refine Then_go ⟨trivial,F_cons ?_⟩
  walk_at ""
  have lo:∀{S:List Nat},(∀z∈S,z<H.length)->∀z∈S,z∉[H'.length]:=fun hS z hz hm=>za9.mpr st.len ((zaf.mp hm)▸hS z hz)
  have B3:=(B.grow st2).stay st3 (lo fun z hz=>B.lt z hz)
  refine zqq (xs:=[]++x.getD k []) B3 h3 ?_ hyz fun H4 h4 st4=>?_
  ·rw[List.nil_append,zao]
   refine xC (x[k]?) (fun e=>?_) fun z e=>?_
   ·decide
   ·exact zau (hxz z (zam e)) (by decide)
  refine Then_go ⟨trivial,F_nil ?_⟩
  have lo2:∀z∈H.length::ds,z∉[H'.length]:=fun z hz hm=>zay _ ((zaf.mp hm)▸N.lt z hz)
  have N4:=((N.grow (Stay.refl.app (xs:=[]))).stay st3 lo2).stay st4 lo2
  have hne:H'.length≠H.length:=Nat.ne_of_gt (N.lt _ zad)
  have hds:(ds.map V.lst).length<10000:=by rw[zab,N.len,zbe];exact ar2 [_,_,_] [] kay (Y1 (Y5 V0 V1) (.l 10000)) (Y1 V2 (.l 1000)) (Y1 V0 V2) hmx hk
  refine Then_go (Ss_go ?_)
  walk_at ""
  refine⟨rfl,?_⟩
  walk_at ""
  refine Opt.mk (zcx N4.top hds) ?_
  walk_at ""
  have N5:=N4.push ap h4 hne
  rw[List.nil_append] at N5
  have stZ:Stay [] H H4:=(st2.trans st3 fun z hz=>.inr (by rw[zaf.mp hz];exact st.len)).trans st4 fun z hz=>.inr (by rw[zaf.mp hz];exact st.len)
  refine hnext _ _ trivial (fun J kJ=>kJ _ _ _ _ ?_ (stZ.set (.inr (zae _))) (fun hm=>(zaj.mp hm).elim ap fun e=>hne (zaf.mp e).symm) rfl)
  rw[List.take_add_one,zmw hk];exact N5
 ·intro l' H' hI
  refine hI _ fun v3 v4 v5 ds N st ap wg=>?_;clear hI;subst wg
  rw[zab,zas,<-zhh,List.take_length] at N
  refine Then_go (Ss_go ?_)
  walk_at ""
  exact hq _ ds _ N st (zae _) ap
theorem range2(hm:m<1000)(hn:n<1000):onQ true (bltV H .range [.int m,.int n])=some (.rng m n 1,H):=if_pos (show(m:Int).natAbs<2^31/\(n:Int).natAbs<2^31 by exact ar2 [_,_] [] kam (Y6 (Y1 V0 (.l 2147483648)) (Y1 V1 (.l 2147483648))) (Y1 V0 (.l 1000)) (Y1 V1 (.l 1000)) hm hn)
theorem zpt (m n:Nat):zdo (m:Int) (n:Int) 1=(List.range (n-m)).map fun i=>nat (m+i):=by
 have:(if 0<(1:Int)/\(m:Int)<(n:Int) then(((n:Int)-m-1)/1+1).toNat else 0)=n-m:=by
  split<;>(first |exact ar2 [_,_,_] [_,_] 0x1904294001840300c200800019085294a50006102003080e01840500c20100610000101c051042140d04294001840700c200800021085294a50006102c03080c02040400c201006100403018080144108468214a000c20380610040001085294a5000610240408100184040102010061004010200510421 (Y2 V0 (Y2 V1 V2)) (Y7 (Y5 (Y4 V0 J0) (Y0 V0 J1)) (Y6 (Y3 (Y0 V0 J1) J0) (Y2 V0 J0))) (Y6 (Y5 (Y0 (Y1 J1 V0) V1) (Y2 (Y2 (Y4 V1 J0) (Y4 V2 J0)) J1)) (Y6 (Y3 J0 V1) (Y4 V1 J1))) (Ar.tn _) (Ar.zd _ (k:=1) (by decide)) |exact ar1 [_,_] [] 0xc500061000081a08528003080e01840100005294001840500c202006100005084012800308000 (Y2 J0 (Y2 V0 V1)) (Y8 (Y6 (Y4 J0 J1) (Y4 (Y4 V1 J0) (Y4 V0 J0))) J0) (by assumption))
 rw[zdo,this]
 refine List.map_congr_left fun i J=>?_
 rw[Int.mul_one];rfl
theorem zqh:onQ true (srcV H (.rng m n 1))=some ((List.range (n-m)).map fun i=>nat (m+i)):=congrArg some (zpt m n)
theorem s_parted(P:Has c "parted" 4 6 znl)(PS:Has c "side_by_side" 2 6 zev)(PM:Has c "moved" 2 5 zmq)(A:NetAt H a bs x)(B:NetAt H b cs y)(hm:1<=m)(hmz:m<=64)(hnz:n<=64)(hx:x.length<1000)(hy:y.length<1000)(hxz:∀z∈x,z.length<1000)(hyz:∀z∈y,z.length<1000)(hc:q=true)
  (hq:∀a' bs' H',NetAt H' a' bs' (zfs m x n y)->Stay [] H H'->Q (.lst a') H'):Calls c q (d+2) "parted" [.int m,.lst a,.int n,.lst b] none Q E H:=by
 subst hc
 refine P true (d+1) _ Q E H rfl (Ss_go ?_)
 walk_at ""
 refine s_moved PM B hy hyz rfl fun b1 cs1 H1 B1 st1=>?_
 walk_at ""
 refine s_side PS (A.grow st1) B1 hx (by rw[zab];exact hy) hxz (fun z hz=>?_) rfl fun a2 ds H2 N2 st2 hlo ap=>?_
 ·revert hz;refine xL fun w hw wj=>?_;subst wj
  rw[zee,zab];exact hyz w hw
 have st3:=st1.trans0 st2
 walk_at ""
 refine⟨rfl,?_⟩
 walk_at ""
 refine Opt.mk (range2 (n:=m+n) (by exact ar1 [_] [] kaa (Y1 V0 (.l 1000)) (Y0 V0 (.l 64)) hmz) (by exact ar2 [_,_] [] kab (Y1 (Y0 V0 V1) (.l 1000)) (Y0 V0 (.l 64)) (Y0 V1 (.l 64)) hmz hnz)) ?_
 walk_at ""
 refine Opt.mk (zqh (H:=H2) (m:=m) (n:=m+n)) ⟨zck (by rw[zab,zas];exact ar2 [_,_] [] 0xca5294001840300c202006101403080002802308401 (Y1 (Y2 (Y0 V0 V1) V0) (.l 100000)) (Y0 V0 (.l 64)) (Y0 V1 (.l 64)) hmz hnz),?_⟩
 refine zc0 (g:=fun i=>pr (m-1,m+i)) trivial (fun i hi K hK=>?_) ?_
 ·walk_at ""
  unfold nat
  rw[show(m:Int)-1=((m-1:Nat):Int) by exact ar1 [_] [] kbo (Y5 (Y2 (Y4 V0 J0) J1) (Y4 (Y2 V0 J1) J0)) (Y0 J1 V0) hm]
  exact hK
 have hy2:(H2++[(List.range (m+n-m)).map fun i=>pr (m-1,m+i)])[H2.length]?=some ((zew m n).map pr):=by
  rw[zcd,zew,za0,Nat.add_sub_cancel_left];rfl
 have st4:=(Stay.refl (S:=[]) (H:=H2)).app (xs:=(List.range (m+n-m)).map fun i=>pr (m-1,m+i))
 have N3:=N2.grow st4
 walk_at ""
 refine Opt.mk (zcx N3.top (by rw[zab,N2.len,zhh,zab];exact ar3 [_,_,_] [] 0x2485294001840300c202806100000010a528003080601840400c2000000 (Y1 V0 (.l 10000)) (Y1 V1 (.l 1000)) (Y1 V2 (.l 1000)) (Y7 (Y6 (Y2 V0 V1) (Y0 V2 V1)) (Y6 (Y2 V0 V2) (Y0 V1 V2))) hx hy (Ar.mx _ _))) ?_
 walk_at ""
 exact hq _ _ _ (N3.push ap hy2 (Nat.ne_of_gt (N2.lt _ zad))) ((st3.trans0 st4).set (.inr (zac st1.len hlo)))
theorem range3{a b:Int}(ha:a.natAbs<1000)(hb:b.natAbs<1000):onQ true (bltV H .range [.int a,.int b,.int 2])=some (.rng a b 2,H):=if_pos (show a.natAbs<2^31/\b.natAbs<2^31/\(0:Int)<2/\(2:Int)<2^31 by exact ar3 [_,_] [_] 0x6318a50008101803080002800308000294001840400c20000a5000610080308000 (Y6 (Y1 V0 (.l 2147483648)) (Y6 (Y1 V1 (.l 2147483648)) (Y6 (Y4 J0 J2) (Y4 J2 V0)))) (Y1 V0 (.l 1000)) (Y1 V1 (.l 1000)) (Y5 V0 (.l 2147483648)) ha hb (Ar.p31))
theorem zk6(m n k:Nat)(h:(if(m:Int)<(n:Int)-1 then(((n:Int)-1-m-1)/2+1).toNat else 0)=k):zdo (m:Int) ((n:Int)-1) 2=(List.range k).map fun i=>nat (m+i*2):=by
 have:(if 0<(2:Int)/\(m:Int)<(n:Int)-1 then(((n:Int)-1-m-1)/2+1).toNat else 0)=k:=by
  rw[<- h];split<;>split<;>(first |exact ar0 [_] [] kac (Y2 V0 V0) |exact ar2 [_,_,_] [] 0x4294001840400c2008020 (Y2 V0 J0) (Y6 (Y4 J0 J2) (Y4 (Y4 V1 J0) (Y2 (Y4 V2 J0) J1))) (Y8 (Y4 (Y4 V1 J0) (Y2 (Y4 V2 J0) J1)) J0) (by assumption) (by assumption) |exact ar2 [_,_,_] [] 0x1ca50006100c03080002800308000 (Y2 J0 V0) (Y8 (Y6 (Y4 J0 J2) (Y4 (Y4 V1 J0) (Y2 (Y4 V2 J0) J1))) J0) (Y4 (Y4 V1 J0) (Y2 (Y4 V2 J0) J1)) (by assumption) (by assumption) |exact ar0 [] [] kac (Y2 J0 J0))
 rw[zdo,this]
 refine List.map_congr_left fun i J=>?_
 rfl
theorem src_even(hk:k=n/2):onQ true (srcV H (.rng 0 ((n:Int)-1) 2))=some ((List.range k).map fun i=>nat (0+i*2)):=congrArg some (zk6 0 n k (by split<;>(first |exact ar3 [_,_,_] [_,_] 0x6490a50006100c030802000064214a5294a0010404806201c03100c01840500c20100610000101c061004148c84214a5294a000c405806202403080c02040400c401006100403010070184010464214a5294a000c404806201c04100c01840401020100610040101c0610041 (Y2 V0 V1) (Y2 V1 (Y3 V2 J2)) (Y7 (Y5 (Y4 V0 J0) (Y0 V0 J1)) (Y6 (Y3 (Y0 V0 J1) J0) (Y2 V0 J0))) (Y6 (Y5 (Y0 (Y1 J2 V0) V1) (Y2 (Y2 (Y2 (Y4 V2 J0) J1) (Y4 J0 J0)) J1)) (Y6 (Y3 J0 V1) (Y4 V1 J2))) hk (Ar.tn _) (Ar.zd _ (k:=2) (by decide)) |exact ar2 [_,_] [] 0x62800308000194a528003100801840500c40100610000610021 (Y2 J0 V0) (Y2 V0 (Y3 V1 J2)) (Y8 (Y4 (Y4 J0 J0) (Y2 (Y4 V1 J0) J1)) J0) hk (by assumption))))
theorem src_odd(hk:k=(n-1)/2):onQ true (srcV H (.rng 1 ((n:Int)-1) 2))=some ((List.range k).map fun i=>nat (1+i*2)):=congrArg some (zk6 1 n k (by split<;>(first |exact ar3 [_,_,_] [_,_] 0xc9214a000c20180610040000c64214a5294a50008203003101401880900c20400610140308040184000040a01420104c2014201052340c85294a50006202c03101201840200c202806100002018402840208c84214a5294a50006203c03101a01840800c203008101003100401840100c0802c06100a100825080411a064294a50006202c03101201840200c2008040308050804119085294a5294001880d00c405808202803080c01840401020100610040102c06100a10082508041 (Y2 V0 V1) (Y2 V1 (Y3 (Y2 V2 J1) J2)) (Y7 (Y5 (Y4 V0 J0) (Y0 V0 J1)) (Y6 (Y3 (Y0 V0 J1) J0) (Y2 V0 J0))) (Y6 (Y5 (Y0 (Y1 J2 V0) V1) (Y2 (Y2 (Y2 (Y4 V2 J0) J1) (Y4 J1 J0)) J1)) (Y6 (Y3 J0 V1) (Y4 V1 J2))) hk (Ar.tn _) (Ar.zd _ (k:=2) (by decide)) |exact ar2 [_,_] [] 0x628003080001a064294a528003101401880800c20100610140308000100c20142008465294a50006202003081201880600c201006100006100a10042508021 (Y2 J0 V0) (Y2 V0 (Y3 (Y2 V1 J1) J2)) (Y8 (Y4 (Y4 J1 J0) (Y2 (Y4 V1 J0) J1)) J0) hk (by assumption))))
theorem zi0{a b:Int}(ha:small a=true)(h:K (.int (a*b),H)):Opt (binV H .mul (.int a) (.int b)) K:=Opt.mk (if_pos (by rw[ha,Bool.true_or])) h
theorem NetAt.extend(N:NetAt H a bs x)(M:NetAt H b cs y)(h1:a∉bs)(h2:a∉cs):NetAt (H.set a (bs.map .lst++cs.map .lst)) a (bs++cs) (x++y):=by
 obtain⟨zs,z1,z2,z3⟩:=N.zs
 obtain⟨ws,w1,w2,w3⟩:=M.zs
 have:NetAt (H.set a (bs.map .lst++cs.map .lst)) a ((zs++ws).map (·.1)) ((zs++ws).map (·.2)):=by
  refine NetAt.ofz ?_ fun p hp=>(zaj.mp hp).elim (fun hp=>zcz (z3 p hp) fun e=>h1 (z1▸e▸za6.mpr ⟨p,hp,rfl⟩)) fun hp=>zcz (w3 p hp) fun e=>h2 (w1▸e▸za6.mpr ⟨p,hp,rfl⟩)
  rw[zd1 N.top,<-z1,<-w1,zan,zan]
 rw[zan,zan,z1,z2,w1,w2] at this
 exact this
theorem s_paired(P:Has c "paired" 2 6 zmy){net:Net}(A:NetAt H a bs net)(hn1:1<=n)(hn:n<=64)(hz:net.length<1000)(hyz:∀z∈net,z.length<1000)(hc:q=true)
  (hq:∀a' bs' H',NetAt H' a' bs' (zd0 n net)->Stay [] H H'->Q (.lst a') H'):Calls c q (d+1) "paired" [.int n,.lst a] none Q E H:=by
 subst hc
 refine P true d _ Q E H rfl (Ss_go ?_)
 walk_at ""
 refine Opt.mk (range3 (by decide) (by exact ar2 [_,_] [] kbp (Y1 V0 (.l 1000)) (Y0 V1 (.l 64)) (Y7 (Y6 (Y5 (Y4 V0 J0) (Y2 (Y4 V1 J0) J1)) (Y3 J0 (Y2 (Y4 V1 J0) J1))) (Y6 (Y5 (Y4 V0 J0) (Y3 (Y2 (Y4 V1 J0) J1) J0)) (Y3 (Y2 (Y4 V1 J0) J1) J0))) hn (Ar.na _))) ?_
 walk_at ""
 refine Opt.mk (src_even (H:=H) (n:=n) rfl) ⟨zck (by rw[zab,zas];exact ar1 [_] [] kax (Y1 (Y3 V0 J2) (.l 100000)) (Y0 V0 (.l 64)) hn),?_⟩
 refine zc0 (g:=fun i=>pr (2*i,2*i+1)) trivial (fun i hi K hK=>?_) ?_
 ·walk_at ""
  rw[Nat.zero_add,Nat.mul_comm]
  exact hK
 walk_at ""
 have N2:NetAt (H++[(List.range (n/2)).map fun i=>pr (2*i,2*i+1)]++[[.lst H.length]]) (H++[(List.range (n/2)).map fun i=>pr (2*i,2*i+1)]).length [H.length] [zr9 n]:=by
  refine⟨zcd,rfl,fun i b y h1 h2=>?_⟩
  cases i with
  |zero=>
   obtain rfl:=zaa h1
   obtain rfl:=zaa h2
   rw[zdq zcd,zr9,za0];rfl
  |succ i=>injection h1
 have st2:Stay [] H (H++[(List.range (n/2)).map fun i=>pr (2*i,2*i+1)]++[[.lst H.length]]):=Stay.refl.app.app
 have lo2:H.length<(H++[(List.range (n/2)).map fun i=>pr (2*i,2*i+1)]).length:=zc2 zcd
 generalize H++[(List.range (n/2)).map fun i=>pr (2*i,2*i+1)]++[[.lst H.length]]=H2 at N2 st2
 generalize(H++[(List.range (n/2)).map fun i=>pr (2*i,2*i+1)]).length=ls at N2 lo2
 refine⟨rfl,?_⟩
 walk_at ""
 have A2:=A.grow st2
 refine Opt.mk (zdh A2.top) ⟨zck (by rw[zab,A2.len];exact ar1 [_] [] kaa (Y1 V0 (.l 100000)) (Y1 V0 (.l 1000)) hz),?_⟩
 refine zdr ((net.map oddL).map fun y=>y.map pr) (by rw[zab,zab,zab,A2.len]) ?_ (fun H' st=>at0 st A2.top) ?_
 ·intro i x y' acc H' K hx hy' st hK
  rw[zal] at hx
  revert hx;refine xM fun b hb wj=>?_;subst wj
  obtain⟨y,hy,hby⟩:=(A2.grow st).get hb
  rw[zal,zal,hy] at hy'
  obtain rfl:=zaa hy'
  have hl:=hyz y (zam hy)
  walk_at ""
  refine Opt.mk (zdh hby) ⟨zck (by rw[zab];exact ar1 [_] [] kaa (Y1 V0 (.l 100000)) (Y1 V0 (.l 1000)) hl),?_⟩
  refine zc0 (g:=fun p:Nat×Nat=>pr (2*p.1+1,2*p.2+1)) hby (fun p hp K hK=>?_) ?_
  ·unfold pr
   walk_at ""
   refine zi0 (by decide) ?_
   walk_at ""
   refine zi0 (by decide) ?_
   exact hK
  exact hK _ _ Stay.refl.app (zcd.trans (congrArg some (map_pr (fun p=>(2*p.1+1,2*p.2+1)) y))) (zae _)
 intro cs H3 RR
 have N3:=RR.net
 have st3:=RR.st.app (xs:=cs.map .lst)
 have hlc:ls∉cs:=fun h=>za9.mpr (RR.fr ls h).1 (N2.lt ls zad)
 generalize H3++[cs.map .lst]=H3' at N3 st3
 generalize H3.length=a3 at N3
 clear RR
 have N2':=N2.grow st3
 have hce:cs.length=net.length:=by rw[N3.len,zab]
 walk_at ""
 refine Opt.mk (zkd N2'.top N3.top (by rw[zab,zab,hce];show 1+_<_;exact ar1 [_] [] kaa (Y1 (Y0 J1 V0) (.l 10000)) (Y1 V0 (.l 1000)) hz)) ?_
 have N4:=N2'.extend N3 (fun h=>Nat.ne_of_gt lo2 (zaf.mp h)) hlc
 have st4:=(st2.trans0 st3).set (a:=ls) (xs:=[H.length].map .lst++cs.map .lst) (.inr (zap lo2))
 generalize H3'.set ls ([H.length].map .lst++cs.map .lst)=H4 at N4 st4
 have ap4:ls∉[H.length]++cs:=fun h=>(zaj.mp h).elim (fun h=>Nat.ne_of_gt lo2 (zaf.mp h)) hlc
 walk_at ""
 refine zcf (fun h=>?_) (fun h=>?_)
 ·have h2:2<n:=zaq.mp h
  refine Ss_go ?_
  walk_at ""
  refine⟨rfl,?_⟩
  walk_at ""
  refine Opt.mk (range3 (by decide) (by exact ar2 [_,_] [] kbp (Y1 V0 (.l 1000)) (Y0 V1 (.l 64)) (Y7 (Y6 (Y5 (Y4 V0 J0) (Y2 (Y4 V1 J0) J1)) (Y3 J0 (Y2 (Y4 V1 J0) J1))) (Y6 (Y5 (Y4 V0 J0) (Y3 (Y2 (Y4 V1 J0) J1) J0)) (Y3 (Y2 (Y4 V1 J0) J1) J0))) hn (Ar.na _))) ?_
  walk_at ""
  refine Opt.mk (src_odd (H:=H4) (n:=n) rfl) ⟨zck (by rw[zab,zas];exact ar1 [_] [] 0x3194a528003100a01840600c201806100005080013080508001 (Y1 (Y3 (Y2 V0 J1) J2) (.l 100000)) (Y0 V0 (.l 64)) hn),?_⟩
  refine zc0 (g:=fun i=>pr (2*i+1,2*i+2)) trivial (fun i hi K hK=>?_) ?_
  ·walk_at ""
   rw[Nat.add_comm,Nat.mul_comm]
   exact hK
  have st5:=(Stay.refl (S:=[]) (H:=H4)).app (xs:=(List.range ((n-1)/2)).map fun i=>pr (2*i+1,2*i+2))
  have N5:=N4.grow st5
  walk_at ""
  refine Opt.mk (zcx N5.top (by rw[zab,zak,hce];show 1+_<_;exact ar1 [_] [] kaa (Y1 (Y0 J1 V0) (.l 10000)) (Y1 V0 (.l 1000)) hz)) ?_
  walk_at ""
  have N6:=N5.push (y:=endL n) ap4 (by rw[zcd,endL,za0];rfl) (Nat.ne_of_gt (N4.lt _ zad))
  refine hq _ ([H.length]++cs++[H4.length]) _ ?_ ((st4.trans0 st5).set (.inr (zap lo2)))
  unfold zd0
  rw[if_pos h2];exact N6
 ·walk_at ""
  refine hq _ ([H.length]++cs) _ ?_ st4
  unfold zd0
  rw[if_neg (fun q=>h (zaq.mpr q)),za4];exact N4
variable {K:SPost}{x:Nat}{y:V}
theorem zme{net:Net}(F:∀y∈net,zcl n y)(hn:n<=64):∀z∈net,z.length<1000:=Fine.short F hn
theorem zva(h:x<=n-1)(hn:n<=64):x<1000:=za3 (zac h (zac (Nat.sub_le ..) hn)) (by decide)
theorem sub_of(h:n=m+k):(n:Int)-(m:Int)=(k:Int):=by exact ar1 [_,_,_] [] kad (Y5 (Y2 (Y4 V0 J0) (Y4 V1 J0)) (Y4 V2 J0)) (Y2 V0 (Y0 V1 V2)) h
variable {x:V}
def DblInv(H:Hp)(n ls m:Nat)(x0:Loc)(H':Hp):Prop:=∀GJ:Prop,(∀(s:Nat),∀(net:Net),∀(bs:List Nat),∀(v3:Option V),1<=s->(m+s=2*n)->(∀y∈net,zcl n y)->(zcp net id=some (fun x=>if x<n then x+1-s else x))->2*net.length<=s+1->net.length<s->NetAt H' ls bs net->ls∉bs->Stay [] H H'->[some (.int n),some (.lst ls),some (.int s),v3]=x0->GJ)->GJ
theorem DblInv.mk{ls:Nat}(s:Nat)(net:Net)(bs:List Nat)(v3:Option V)(H':Hp)(h1:1<=s)(hm:m+s=2*n)(hok:∀y∈net,zcl n y)(ht:zcp net id=some (fun x=>if x<n then x+1-s else x))(hl:2*net.length<=s+1)(hl2:net.length<s)(N:NetAt H' ls bs net)(ap:ls∉bs)(st:Stay [] H H'):DblInv H n ls m [some (.int n),some (.lst ls),some (.int s),v3] H':=fun J kJ=>kJ s net bs v3 h1 hm hok ht hl hl2 N ap st rfl
variable {m:List Nat}
noncomputable def zlh:List St:=[.ite (.not (.call "is_among" [.wx 0,.ww 1,.ww 64])) [.rais "BadLines" [.lit (.str "there are 1 to 64 lines")]] []]
theorem zl1:atOf (qab "BadLines") vs=.none:=if_neg (by decide +kernel)
theorem at_nonet:atOf (qab "NoNet") vs=.none:=if_neg (by decide +kernel)
theorem am_nat (h1:lo<=n) (h2:n<=hi):zdt lo hi (.int n)=true:=decide_eq_true ⟨zaw.mpr h1,zaw.mpr h2⟩
inductive Wd5(e:Str)(w:Str)(b1 b2 b3 b4 b5:Bool):Prop
 |mk (hk:e∈kids)(h1:decide (e=qab "BadKind"\/qab "BadKind"=qab "ValueError")=b1)(h2:decide (e=qab "BadThing"\/qab "BadThing"=qab "ValueError")=b2)
   (h3:decide (e=qab "BadLines"\/qab "BadLines"=qab "ValueError")=b3) (h4:decide (e=qab "BadNet"\/qab "BadNet"=qab "ValueError")=b4) (h5:decide (e=qab "NoNet"\/qab "NoNet"=qab "ValueError")=b5)
   (hc:[b1,b2,b3,b4,b5].count true=1) (hi:[V.str "kind",.str "thing",.str "lines",.str "net",.str "none"][[b1,b2,b3,b4,b5].idxOf true]?=some (.str w)) (hm:true∈[b1,b2,b3,b4,b5]):Wd5 e w b1 b2 b3 b4 b5
theorem wd_lines:Wd5 (qab "BadLines") "lines" false false true false false:=⟨by decide +kernel,by decide +kernel,by decide +kernel,by decide +kernel,by decide +kernel,by decide +kernel,by decide,rfl,by decide⟩
theorem wd_none:Wd5 (qab "NoNet") "none" false false false false true:=⟨by decide +kernel,by decide +kernel,by decide +kernel,by decide +kernel,by decide +kernel,by decide +kernel,by decide,rfl,by decide⟩
noncomputable def zpy:List St:=[.expr (.call "need_lines" [.wx 0]),.ite (.or [.not (.isi (.wx 1) .list),.cmp (.blt .len [.wx 1]) [.gt] [.ww 80]]) [.rais "BadNet" [.lit .none]] [],.loop (.two 2 3) (.enum (.wx 1)) [.ite (.not (.call "is_layer" [.wx 3,.wx 0])) [.rais "BadNet" [.wx 2]] []]]
theorem zjj{g:α->V}{ok:Hp->Prop}{body:V->Loc->SPost->Hp->Prop}{Q:SPost}(I:Nat->List α->Loc->Hp->Prop)
  (step:∀(k:Nat) x r l H (K:SPost),I k (x::r) l H->(∀l' H',ok H'->I (k+1) r l' H'->K .next l' H')->(∀v l' H',Q (.ret v) l' H'->K (.ret v) l' H')->body (.tup [.int k,g x]) l K H)
  (hend:∀k l H,I k [] l H->Q .next l H):∀{xs:List α} {k:Nat} {l:Loc} {H:Hp},I k xs l H->zhx ok body (zfk (k:Int) (xs.map g)) Q l H
 |[],k,l,H,h=>hend k l H h
 |x::r,k,l,H,h=>step k x r l H _ h (fun J J hok hI=>⟨hok,zjj I step hend (k:=k+1) hI⟩) fun J J J hq=>hq
structure Chk9(c:Cx):Prop where
 among:Has c "is_among" 3 3 zen
 lines:Has c "need_lines" 1 1 zlh
 joint:Has c "is_joint" 2 2 zh7
 layer:Has c "is_layer" 2 4 zk7
 net:Has c "need_net" 2 4 zpy
theorem at_net:atOf (qab "BadNet") [v]=v:=if_pos rfl
theorem zp7 (F:Chk9 c) (hk:(kd v).isSome=true) (hc:q=true) (hy:zdt 1 64 v=true->Q .none H) (hn:zdt 1 64 v=false->E (.exc "BadLines" .none) H):Calls c q (d+2) "need_lines" [v] none Q E H:=by
 subst hc
 refine F.lines true (d+1) _ Q E H rfl (Ss_go ?_)
 walk_at ""
 refine zls F.among hk ?_
 walk_at ""
 refine xD (zdt 1 64 v) (fun hg=>?_) fun hg=>?_
 ·walk_at ""
  exact hy hg
 ·walk_at ""
  refine⟨rfl,?_⟩
  show E (.exc "BadLines" (atOf _ _)) H
  rw[zl1];exact hn hg
theorem zpm(F:Chk9 c)(hn:1<=n)(hc:q=true)(hq:Q (.bool false) H):Calls c q (d+2) "is_joint" [.tup [.int 0,.int n],.int n] none Q E H:=by
 subst hc
 refine F.joint true (d+1) _ Q E H rfl (Ss_go ?_)
 walk_at ""
 refine zgm F.among (Int.le_refl 0) (Int.le_sub_one_of_lt (zaq.mpr hn)) ?_
 walk_at ""
 refine zls F.among rfl ?_
 rw[show zdt 0 ((n:Int)-1) (.int n)=false from decide_eq_false fun h=>absurd h.2 (by exact ar1 [_] [] 171801870368 (Y8 (Y3 (Y4 V0 J0) (Y2 (Y4 V0 J0) J1)) J0) (Y3 (Y4 V0 J0) (Y2 (Y4 V0 J0) J1)) h.2)]
 walk_at ""
 exact hq
theorem zpw(F:Chk9 c)(ha:H[a]?=some [pr (0,n)])(hn:1<=n)(hc:q=true)(hq:Q (.bool false) H):Calls c q (d+3) "is_layer" [.lst a,.int n] none Q E H:=by
 subst hc
 refine F.layer true (d+2) _ Q E H rfl (Ss_go ?_)
 walk_at ""
 refine Opt.mk (zcn ha) ?_
 walk_at ""
 refine zgg (Int.le_refl 1) ?_
 walk_at ""
 refine⟨rfl,ze7 (v:=.lst a) (fun K E' h=>h) ha ?_⟩
 refine Opt.mk rfl (Ss_go ?_)
 walk_at ""
 refine zpm F hn rfl ?_
 walk_at ""
 exact hq
def Net9Inv(a n:Nat)(bs:List Nat)(net:Net)(H:Hp)(k:Nat)(r:List Nat)(x2:Loc)(x3:Hp):Prop:=∀GJ:Prop,(∀(x y:Option V),(bs.drop k=r)->(∀j y,j<k->net[j]?=some y->zcl n y)->[some (.int n),some (.lst a),x,y]=x2->H=x3->GJ)->GJ
theorem s_net9(F:Chk9 c){net:Net}(hn:1<=n/\n<=64)(hN:NetAt H a bs net)(hc:q=true)(good:∀y∈net,zcl n y\/y=[(0,n)])(hl:80<net.length->E (.exc "BadNet" .none) H)
  (hq:net.length<=80->(∀y∈net,zcl n y)->Q .none H) (hb:∀i:Nat,net[i]?=some [(0,n)]->(∀j y,j<i->net[j]?=some y->zcl n y)->net.length<=80->E (.exc "BadNet" (.int i)) H):Calls c q (d+4) "need_net" [.int n,.lst a] none Q E H:=by
 subst hc
 refine F.net true (d+3) _ Q E H rfl (Ss_go ?_)
 walk_at ""
 refine zp7 (d:=d+1) F rfl rfl (fun J=>?_) (fun h=>absurd (am_nat (lo:=1) (hi:=64) hn.1 hn.2) (by rw[show zdt ((1:Nat):Int) ((64:Nat):Int) (.int n)=false from h];decide))
 walk_at ""
 refine Opt.mk (zcn hN.top) ?_
 rw[zab,hN.len]
 walk_at ""
 refine zcf (fun h=>?_) (fun h=>?_)
 ·walk_at ""
  refine⟨rfl,?_⟩
  show E (.exc "BadNet" (atOf _ _)) H
  rw[at_net];exact hl (zaq.mp h)
 ·have hz:net.length<=80:=za7 fun q=>h (zaq.mpr q)
  walk_at ""
  refine⟨rfl,Sr_enum (a:=a) (fun K E' h=>h) hN.top ?_⟩
  refine zjj (k:=0) (Net9Inv a n bs net H) ?_ ?_ (fun J kJ=>kJ _ _ rfl (fun j J hj=>absurd hj (Nat.not_lt_zero _)) rfl rfl)
  ·intro k b r l H' K hI hnext hret
   refine hI _ fun x y hr hp wg eI2=>?_;clear hI;subst wg;subst eI2
   have hk:bs[k]?=some b:=by rw[<- List.head?_drop,hr];rfl
   obtain⟨layer,hy,hb'⟩:=hN.get hk
   refine Opt.mk rfl (Ss_go ?_)
   walk_at ""
   rcases good layer (zam hy) with ho |rfl
   ·refine zrw F.among F.joint F.layer hb' hn.2 ho rfl ?_
    walk_at ""
    refine hnext _ _ hN.top (fun J kJ=>kJ _ _ (by rw[<- List.drop_drop,hr];rfl) (fun j y hj hy'=>?_) rfl rfl)
    rcases Nat.lt_succ_iff_lt_or_eq.mp hj with hj |rfl
    ·exact hp j y hj hy'
    ·rw[hy] at hy';obtain rfl:=zaa hy';exact ho
   ·refine zpw F hb' hn.1 rfl ?_
    walk_at ""
    refine⟨rfl,?_⟩
    show E (.exc "BadNet" (atOf _ _)) _
    rw[at_net];exact hb k hy hp hz
  ·intro k l H' hI
   refine hI _ fun x y hr hp wg eI2=>?_;clear hI;subst wg;subst eI2
   walk_at ""
   refine hq hz fun y hy=>?_
   obtain⟨j,hj,e⟩:=List.getElem_of_mem hy
   refine hp j y (zat hj ?_) (by rw[zai hj,e])
   rw[<- hN.len];exact List.drop_eq_nil_iff.mp hr
theorem wd_net:Wd5 (qab "BadNet") "net" false false false true false:=⟨by decide +kernel,by decide +kernel,by decide +kernel,by decide +kernel,by decide +kernel,by decide +kernel,by decide,rfl,by decide⟩
inductive WordZ (Q:V->Hp->Prop) (x:V) (H:Hp):Prop
 |word (e w:Str) (b1 b2 b3 b5:Bool) (h1:x=.exc e .none) (W:Wd5 e w b1 b2 b3 false b5) (hq:∀a H',New H a [.str w] H'->Q (.lst a) H'):WordZ Q x H
 |net (y:V) (h1:x=.exc "BadNet" y) (hy:zss y=some y) (hq:∀a H',New H a [.str "net",y] H'->Q (.lst a) H'):WordZ Q x H
theorem zot(hq:∀a H',New H a [.str "lines"] H'->Q (.lst a) H'):WordZ Q (.exc "BadLines" .none) H:=.word _ _ _ _ _ _ rfl wd_lines hq
theorem zsw(hq:∀a H',New H a [.str "none"] H'->Q (.lst a) H'):WordZ Q (.exc "NoNet" .none) H:=.word _ _ _ _ _ _ rfl wd_none hq
noncomputable def zkk:List St:=[.ite (.or [.not (.isi (.wx 2) .list),.not (.cmp (.ww 1) [.le,.le] [.blt .len [.wx 2],.ww 64])]) [.rais "BadLines" [.lit (.str "a list of 1 to 64 things is wanted")]] [],.expr (.call "need_net" [.blt .len [.wx 2],.wx 0]),.expr (.call "need_kind" [.wx 1]),.loop (.one 3) (.val (.wx 2)) [.expr (.call "need_thing" [.wx 1,.wx 3])],.expr (.call "need_alike" [.wx 1,.wx 2])]
noncomputable def zfy:List St:=[.set 1 (.list [.isi (.wx 0) (.own "BadKind"),.isi (.wx 0) (.own "BadThing"),.isi (.wx 0) (.own "BadLines"),.isi (.wx 0) (.own "BadNet")]),.expr (.meth .append (.wx 1) [.isi (.wx 0) (.own "NoNet")]),.ite (.or [.cmp (.meth .count (.wx 1) [.lit (.bool true)]) [.ne] [.ww 1],.not (.isi (.wx 0) (.own "ValueError"))]) [.ret (.list [.lit (.str "other")])] [],.ite (.and [.isi (.wx 0) (.own "BadNet"),.not (.isi (.attr (.wx 0) "at") .bool)]) [.ret (.list [.lit (.str "net"),.attr (.wx 0) "at"])] [],.ret (.list [.idx (.list [.lit (.str "kind"),.lit (.str "thing"),.lit (.str "lines"),.lit (.str "net"),.lit (.str "none")]) (.meth .index (.wx 1) [.lit (.bool true)])])]
theorem s_netG(F:Chk9 c){net:Net}(hn:1<=n/\n<=64)(A:NetAt H a bs net)(ok:zg5 n net)(hc:q=true)(hq:Q .none H):Calls c q (d+4) "need_net" [.int n,.lst a] none Q E H:=
 s_net9 F hn A hc (fun y hy=>.inl (ok.2 y hy)) (fun h=>absurd h (za9.mpr ok.1)) (fun J J=>hq) fun i hi hj J=>by
  have:=ok.2 _ (zam hi)
  exact absurd this.2.2.1 (zay _)
theorem zwj(P:Has c "_law_word" 1 2 zfy){b1 b2 b3 b4 b5:Bool}(W:Wd5 e w b1 b2 b3 b4 b5)(hy:b4=true->attrV (.exc e y) "at"=some y/\isiV y .bool=some false)(hq:b4=false->∀a H',New H a [.str w] H'->Q (.lst a) H')(hn:b4=true->∀a H',New H a [.str "net",y] H'->Q (.lst a) H'):Calls c q (d+1) "_law_word" [.exc e y] none Q E H:=by
 obtain⟨hk,h1,h2,h3,h4,h5,hc,hi,hm⟩:=W
 refine P q d _ Q E H rfl (Ss_go ?_)
 walk_at ""
 refine Opt.mk (zg1 hk (.inl (by decide +kernel)) h1) ?_
 walk_at ""
 refine Opt.mk (zg1 hk (.inl (by decide +kernel)) h2) ?_
 walk_at ""
 refine Opt.mk (zg1 hk (.inl (by decide +kernel)) h3) ?_
 walk_at ""
 refine Opt.mk (zg1 hk (.inl (by decide +kernel)) h4) ?_
 walk_at ""
 have hn1:(H++[[V.bool b1,.bool b2,.bool b3,.bool b4]])[H.length]?=some [V.bool b1,.bool b2,.bool b3,.bool b4]:=zcd
 have st1:=Stay.refl (S:=[]) (H:=H) |>.app (xs:=[V.bool b1,.bool b2,.bool b3,.bool b4])
 generalize H++[[V.bool b1,.bool b2,.bool b3,.bool b4]]=H1 at hn1 st1
 refine⟨rfl,?_⟩
 walk_at ""
 refine Opt.mk (zg1 hk (.inl (by decide +kernel)) h5) ?_
 walk_at ""
 refine Opt.mk (zcx hn1 (show 4<10000 by decide)) ?_
 walk_at ""
 have hn2:(H1.set H.length ([V.bool b1,.bool b2,.bool b3,.bool b4]++[.bool b5]))[H.length]?=some [V.bool b1,.bool b2,.bool b3,.bool b4,.bool b5]:=zd1 hn1
 have st2:=st1.set (a:=H.length) (xs:=[V.bool b1,.bool b2,.bool b3,.bool b4]++[.bool b5]) (.inr (zae _))
 generalize H1.set H.length ([V.bool b1,.bool b2,.bool b3,.bool b4]++[.bool b5])=H2 at hn2 st2
 refine⟨rfl,?_⟩
 walk_at ""
 refine Opt.mk (zrz (l:=[b1,b2,b3,b4,b5]) hn2 rfl) ?_
 rw[hc]
 walk_at ""
 refine Opt.mk (zg1 hk (.inr rfl) (b:=true) (decide_eq_true (.inr rfl))) ?_
 walk_at ""
 refine Opt.mk (zg1 hk (.inl (by decide +kernel)) h4) ?_
 walk_at ""
 cases b4 with
 |true=>
  obtain⟨y1,y2⟩:=hy rfl
  walk_at ""
  refine Opt.mk y1 ?_
  refine Opt.mk y2 ?_
  walk_at ""
  refine Opt.mk y1 ?_
  walk_at ""
  exact hn rfl _ _ ⟨st2.app,zcd,st2.len⟩
 |false=>
  walk_at ""
  refine⟨rfl,?_⟩
  walk_at ""
  have hn3:(H2++[[V.str "kind",.str "thing",.str "lines",.str "net",.str "none"]])[H.length]?=some [V.bool b1,.bool b2,.bool b3,.bool false,.bool b5]:=zdq hn2
  refine Opt.mk (zsl (l:=[b1,b2,b3,false,b5]) hn3 rfl hm) ?_
  walk_at ""
  refine Opt.mk (zc5 zcd hi) ?_
  walk_at ""
  refine hq rfl _ _ ⟨(st2.app).app,zcd,?_⟩
  exact zac st2.len (Stay.refl (S:=[])).app.len
theorem atom_isi(hy:zss y=some y):isiV y .bool=some false:=by
 cases y<;>first |rfl |injection hy
theorem s_wordY2(PW:Has c "_law_word" 1 2 zfy)(h:WordZ Q x H):kidX x=true/\Calls c q (d+1) "_law_word" [x] none Q E H:=by
 cases h with
 |word e w b1 b2 b3 b5 h1 W hq=>
  subst h1
  have hk:e∈kids:=by obtain⟨hk,_⟩:=W;exact hk
  exact⟨decide_eq_true hk,zwj PW W (fun h=>nomatch h) (fun J=>hq) fun h=>nomatch h⟩
 |net y h1 hy hq=>
  subst h1
  exact⟨decide_eq_true (show qab "BadNet"∈kids by decide +kernel),zwj PW wd_net (fun J=>⟨by show(if qab "at"=qab "at"/\qab "BadNet"=qab "BadNet" then zss y else none)=_;rw[if_pos ⟨rfl,rfl⟩];exact hy,atom_isi hy⟩) (fun h=>nomatch h) fun J=>hq⟩
theorem mul_one'(h:H[a]?=some [x])(hn:n<100000):binV H .mul (.lst a) (.int n)=some (.lst H.length,H++[List.replicate n x]):=by
 show(H[a]?).bind _=_
 rw[h]
 have h2:(n:Int).toNat*[x].length<=qag:=by
  rw[zb4]
  exact zac (za8 (Nat.mul_one n)) (zap (zau hn (by decide)))
 refine(if_pos ⟨zbl n,zaw.mpr (zac (zap hn) (by decide)),h2⟩).trans ?_
 rw[zb4,zo3]
variable {e:Ex}{x:Nat}{y:List (Nat×Nat)}
theorem zrl:∀{y:List (Nat×Nat)} {lo i l l' h:Nat},zdj n lo y->y[i]?=some (l,h)->l'<h->zdj n lo (y.set i (l',h))
 :=by
 intro y
 induction y with
 |nil=>exact fun J e=>nomatch e
 |cons p r ih=>
  intro lo i l l' h q e hl
  cases i with
  |zero=>obtain rfl:=zaa e;exact⟨hl,q.2⟩
  |succ i=>exact⟨q.1,q.2.1,q.2.2.1,ih q.2.2.2 e hl⟩
theorem zph {l:Nat} (ho:zcl n y) (e:y[i]?=some (l,h)) (hl:l'<h):zcl n (y.set i (l',h)):=
 ⟨fun q=>ho.1 (by cases y with |nil=>rfl |cons a r=>cases i<;>exact nomatch q),zrl ho.2 e hl⟩
theorem zvl{net:Net}(ho:zg5 n net)(h:zcl n y):zg5 n (net.set k y):=
 ⟨by rw[zbg];exact ho.1,fun z hz=>(List.mem_or_eq_of_mem_set hz).elim (ho.2 z) fun e=>e▸h⟩
theorem eq_lw(h1:qaw w=true)(ha:H[a]?=some [.str w])(hb:H[b]?=some [.str w]):eqV H (.lst a) (.lst b)=some true:=(eq_words ha hb h1 h1).trans (by rw[decide_eq_true rfl])
theorem ok_lines:qaw (qab "lines")=true:=by decide +kernel
theorem ok_none:qaw (qab "none")=true:=by decide +kernel
theorem eq_nw {y:V} (hy:zss y=some y) (ha:H[a]?=some [.str "net",y]) (hb:H[b]?=some [.str "net",y]):eqV H (.lst a) (.lst b)=some true:=by
 have hn:qaw (qab "net")=true:=by decide +kernel
 have he:(qab "net"==qab "net")=true:=beq_self_eq_true _
 cases y with
 |none=>
  have t:∀{a:Nat},H[a]?=some [.str "net",.none]->toP 9 H (.lst a)=some (.list [.str "net",.none]):=fun h=>zet h rfl
  show(toP 9 H (.lst a)).bind _=_
  rw[t ha]
  show(toP 9 H (.lst b)).bind _=_
  rw[t hb]
  refine(if_pos (show((qaw "net"&&true)&&(qaw "net"&&true))=true by rw[hn];rfl)).trans ?_
  show some ((qab "net"==qab "net")&&true)=_
  rw[he];rfl
 |int i=>
  have t:∀{a:Nat},H[a]?=some [.str "net",.int i]->toP 9 H (.lst a)=some (.list [.str "net",.int i]):=fun h=>zet h rfl
  show(toP 9 H (.lst a)).bind _=_
  rw[t ha]
  show(toP 9 H (.lst b)).bind _=_
  rw[t hb]
  refine(if_pos (show((qaw "net"&&true)&&(qaw "net"&&true))=true by rw[hn];rfl)).trans ?_
  show some ((qab "net"==qab "net")&&(decide (i=i)&&true))=_
  rw[he,decide_eq_true rfl];rfl
 |_=>injection hy
variable {b:List Nat}{w:V}
theorem eqV_lay{P:PyData}(l:P.canLay0=true)(h1:toP 9 H v=some P)(h2:toP 9 H w=some P):eqV H v w=some true:=by
 show(toP 9 H v).bind _=_
 rw[h1]
 show(toP 9 H w).bind _=_
 rw[h2]
 refine(if_pos (zbc.mpr ⟨l,l⟩)).trans ?_
 rw[PySem.SeqAt.eqv_refl P l]
variable {w:Nat}
def okM(w:Nat)(m:List Nat):Prop:=m.length=w/\∀i∈m,i<w
noncomputable def mv(m:List Nat):V:=.tup (m.map nat)
noncomputable def jM(a b:List Nat):List Nat:=a.map fun i=>b.getD i 0
noncomputable def mL(n:Nat)(σ:Nat->List Nat):List V:=(List.range n).map fun x=>mv (σ x)
theorem okM.get(h:okM w m)(hi:i<w):m.getD i 0<w:=by
 have hi':i<m.length:=h.1.symm▸hi
 rw[zao,zai hi']
 exact h.2 _ (List.getElem_mem hi')
theorem okM.join{a:List Nat}(ha:okM w a)(hb:okM w b):okM w (jM a b):=⟨by rw[jM,zab];exact ha.1,fun i hi=>by
 revert hi;refine xL fun j hj wj=>?_;subst wj
 exact hb.get (ha.2 j hj)⟩
theorem jM_get{a:List Nat}(ha:okM w a)(hi:i<w):(jM a b).getD i 0=b.getD (a.getD i 0) 0:=by
 have hi':i<a.length:=ha.1.symm▸hi
 rw[jM,zao,zal,zao (l:=a),zai hi'];rfl
theorem zin:(mL n σ).length=n:=by rw[mL,zab,zas]
theorem zmx(h:x<n):(mL n σ)[x]?=some (mv (σ x)):=by
 rw[mL,zal,zbs h];rfl
theorem mL_set{t:List Nat}:(mL n σ).set h (mv t)=mL n fun x=>if x=h then t else σ x:=by
 refine List.ext_getElem? fun i=>?_
 by_cases hi:i<n
 ·rw[zmx hi]
  by_cases e:i=h
  ·subst e
   rw[zbv (by rw[zin];exact hi),if_pos rfl]
  ·rw[zb0 (qax e),zmx hi,if_neg e]
 ·rw[zb2 (by rw[zbg,zin];exact za7 hi),zb2 (by rw[zin];exact za7 hi)]
def okS(w n:Nat)(σ:Nat->List Nat):Prop:=∀x,x<n->okM w (σ x)
theorem okS.step(h:okS w n σ)(hy:∀p∈y,p.1<p.2/\p.2<n):okS w n (zcy jM y σ):=fun x hx=>by
 rcases zcu jM y σ x with⟨p,hp,e,e'⟩|e
 ·rw[e'];exact(h p.1 (zau (hy p hp).1 (hy p hp).2)).join (h x hx)
 ·rw[e];exact h x hx
noncomputable def stM(net:Net)(σ:Nat->List Nat)(i:Nat):Nat->List Nat:=runN jM (net.take i) σ
theorem stM_succ{net:Net}(h:net[i]?=some y):stM net σ (i+1)=zcy jM y (stM net σ i):=by
 unfold stM
 rw[List.take_add_one,h,zes];rfl
theorem stM_all{net:Net}:stM net σ net.length=runN jM net σ:=by unfold stM;rw[List.take_length]
theorem zqu:∀{net:Net}{σ:Nat->List Nat},Fair n net->okS w n σ->okS w n (runN jM net σ)
 |[],_,_,h=>h
 |y::net,σ,hf,h=>zqu (net:=net) (fun z hz=>hf z (zag _ hz)) (h.step (hf y zad).1)
theorem stM_ok{net:Net}(hf:Fair n net)(h:okS w n σ)(i:Nat):okS w n (stM net σ i):=zqu (fun y hy=>hf y (List.mem_of_mem_take hy)) h
noncomputable def zoq(σ:Nat->List Nat)(p:Nat)(r:List Nat):Nat:=r.foldl (fun p x=>(σ x).getD p 0) p
theorem zwz(h:okS w n σ):∀{r:List Nat}{p:Nat},(∀x∈r,x<n)->p<w->zoq σ p r<w
 |[],_,_,hp=>hp
 |x::r,p,hr,hp=>zwz h (r:=r) (fun y hy=>hr y (zag _ hy)) ((h x (hr x zad)).get hp)
inductive RowM(w n:Nat)(σ:Nat->List Nat)(m:List Nat)(r:List Nat):Prop
 |mk (ok:okM w m)(e:∀p,p<w->m.getD p 0=zoq σ p r)(lt:∀x∈r,x<n):RowM w n σ m r
theorem zv3(hσ:okS w n σ):∀{net:Net}{τ:Nat->List Nat}{ρ:Nat->List Nat},Fair n net->(∀x,x<n->RowM w n σ (τ x) (ρ x))->∀x,x<n->RowM w n σ (runN jM net τ x) (runN (·++·) net ρ x)
 |[],_,_,_,h=>h
 |y::net,τ,ρ,hf,h=>zv3 hσ (net:=net) (fun z hz=>hf z (zag _ hz)) fun x hx=>by
  have hy:=hf y zad
  unfold zcy
  cases e:y.find? (fun p=>p.2==x) with
  |none=>exact h x hx
  |some p=>
   have hp:=hy.1 p (zb7 e)
   obtain⟨a1,a2,a3⟩:=h p.1 (zau hp.1 hp.2)
   obtain⟨b1,b2,b3⟩:=h x hx
   refine⟨a1.join b1,fun q hq=>?_,fun z hz=>(zaj.mp hz).elim (a3 z) (b3 z)⟩
   rw[jM_get a1 hq,a2 q hq,b2 _ (zwz hσ a3 hq),zoq,zoq,zoq,List.foldl_append]
theorem zus{net:Net}(hσ:okS w n σ)(hf:Fair n net)(ht:zci n net=true)(hx:x<n):RowM w n σ (runN jM net σ x) (List.range (x+1)):=by
 have:=zv3 hσ hf (τ:=σ) (ρ:=fun x=>[x]) (fun x hx=>⟨hσ x hx,fun p J=>rfl,fun y hy=>by rw[zaf.mp hy];exact hx⟩) x hx
 rw[show runN (·++·) net (fun x=>[x]) x=zob net x from rfl,(ziz hf).mp ht x hx] at this
 exact this
theorem mv_map(h:okM w m)(h1:1<=w)(h8:w<=8):isMap (mv m)=true:=by
 show(decide (1<=(m.map nat).length/\(m.map nat).length<=8)&&_)=true
 rw[zab,h.1,decide_eq_true ⟨h1,h8⟩,Bool.true_and]
 refine zaz.mpr fun x hx=>?_
 revert hx;refine xL fun i hi wj=>?_;subst wj
 have:=h.2 i hi
 exact decide_eq_true (by exact ar1 [_,_] [] kas (Y6 (Y3 J0 (Y4 V0 J0)) (Y3 (Y4 V0 J0) (Y2 (Y4 V1 J0) J1))) (Y1 V0 V1) this)
theorem mv_plain(h:okM w m)(h8:w<=8):plainV (mv m):=⟨by rw[zab,h.1];exact ar1 [_] [] kaa (Y0 V0 (.l 20)) (Y0 V0 (.l 8)) h8,fun x hx=>by revert hx;refine xL fun i J wj=>?_;subst wj;rfl⟩
noncomputable def zp3:List St:=[.set 2 (.blt .list [.wx 1]),.loop (.one 3) (.val (.wx 0)) [.set 4 (.blt .list [.wx 2]),.loop (.two 5 6) (.val (.wx 3)) [.put (.wx 4) (.wx 6) (.callv [.idx (.wx 2) (.wx 5),.idx (.wx 2) (.wx 6)])],.set 2 (.wx 4)],.ret (.wx 2)]
noncomputable def zt7:List St:=[.expr (.call "need_things" [.wx 0,.wx 1,.wx 2]),.ret (.callL "carried" [.wx 0,.wx 2] 19 1)]
structure FnsP(c:Cx):Prop where
 chk:Chk9 c
 ismap:Has c "is_map" 1 2 zom
 thing:Has c "is_thing" 2 2 zo5
 put:Has c "put_together" 3 4 zjn
 nkind:Has c "need_kind" 1 1 zij
 nthing:Has c "need_thing" 2 2 zmd
 alike:Has c "need_alike" 2 3 zmp
 things:Has c "need_things" 3 4 zkk
 led:Has c "led" 3 3 zt7
 car:HasJ c "carried" 2 7 zp3
section
variable {k:Clo}
theorem s_putM(F:FnsP c){a:List Nat}(ha:okM w a)(hb:okM w b)(hw:w<=8)(hc:q=true)(hq:∀H',Stay [] H H'->Q (mv (jM a b)) H'):Calls c q (d+1) "put_together" [.str "map",mv a,mv b] none Q E H:=by
 subst hc
 refine F.put true d _ Q E H rfl (Ss_go ?_)
 walk_at ""
 refine Opt.mk (zhr (k:=.map) (k':=.most)) ?_
 walk_at ""
 refine Opt.mk (zhr (k:=.map) (k':=.map)) ?_
 refine Ss_go ?_
 walk_at ""
 refine Opt.mk (show onQ true (srcV H (mv a))=some (a.map nat) from rfl) ?_
 refine⟨zck (by rw[zab,ha.1];exact ar1 [_] [] kaa (Y1 V0 (.l 100000)) (Y0 V0 (.l 8)) hw),?_⟩
 refine zc0 (g:=fun n=>nat (b.getD n 0)) trivial (fun n hn K hK=>?_) ?_
 ·unfold nat mv
  walk_at ""
  exact Opt.mk (zg7 (getD_nat (hb.1.symm▸ha.2 n hn))) hK
 walk_at ""
 refine Opt.mk (zjk zcd) ?_
 walk_at ""
 have:=hq _ (Stay.refl.app (xs:=a.map fun n=>nat (b.getD n 0)))
 rw[show mv (jM a b)=.tup (a.map fun n=>nat (b.getD n 0)) by show V.tup ((a.map _).map nat)=_;rw[za0];rfl] at this
 exact this
theorem zwq(F:FnsP c)(h:okM w m)(h1:1<=w)(h8:w<=8)(hc:q=true)(hq:∀H',Stay [] H H'->Q .none H'):Calls c q (d+4) "need_thing" [.str "map",mv m] none Q E H:=by
 subst hc
 refine F.nthing true (d+3) _ Q E H rfl (Ss_go ?_)
 walk_at ""
 refine zjm (kk:=.map) F.nkind rfl ?_
 walk_at ""
 refine F.thing true (d+2) _ _ _ _ rfl (Ss_go ?_)
 walk_at ""
 refine Opt.mk (zhr (k:=.map) (k':=.text)) ?_
 walk_at ""
 refine Opt.mk (zhr (k:=.map) (k':=.map)) ?_
 walk_at ""
 refine s_is_map F.ismap F.chk.among (mv_plain h h8) rfl fun H1 st1=>?_
 rw[mv_map h h1 h8]
 walk_at ""
 exact hq H1 st1
theorem s_alikeM(F:FnsP c)(ht:H[t]?=some (mL n σ))(hn1:1<=n)(hn:n<=64)(h:okS w n σ)(hc:q=true)(hq:∀H',Stay [] H H'->Q .none H'):Calls c q (d+1) "need_alike" [.str "map",.lst t] none Q E H:=by
 subst hc
 refine F.alike true d _ Q E H rfl (Ss_go ?_)
 walk_at ""
 refine Opt.mk (zhr (k:=.map) (k':=.map)) ?_
 walk_at ""
 refine Opt.mk (zdh ht) ⟨zck (by rw[zin];exact ar1 [_] [] kaa (Y1 V0 (.l 100000)) (Y0 V0 (.l 64)) hn),?_⟩
 have len:∀{x:Nat},x<n->onQ true (bltV H .len [mv (σ x)])=some (.int w,H):=fun{x} hx=>by
  show some (V.int ((σ x).map nat).length,H)=_
  rw[zab,(h x hx).1]
 refine zc0 (f:=fun x=>mv (σ x)) (xs:=List.range n) (g:=fun J=>V.bool true) ht (fun x hx K hK=>?_) ?_
 ·walk_at ""
  refine Opt.mk (len (zbo.mp hx)) ?_
  walk_at ""
  refine Opt.mk (zc5 (i:=0) ht (zmx hn1)) ?_
  refine Opt.mk (len hn1) ?_
  walk_at ""
  rw[decide_eq_true rfl]
  exact hK
 walk_at ""
 refine Opt.mk (zml (f:=fun _:Nat=>true) (zs:=List.range n) zcd) ?_
 walk_at ""
 rw[show((List.range n).all fun J=>true)=true from zaz.mpr fun J J=>rfl]
 walk_at ""
 exact hq _ Stay.refl.app
def NmInv(H:Hp)(a t n:Nat)(r:List Nat)(x1:Loc)(H':Hp):Prop:=∀GJ:Prop,(∀(v:Option V),Stay [] H H'->(∀x∈r,x<n)->[some (.lst a),some (.str "map"),some (.lst t),v]=x1->GJ)->GJ
theorem zt8(F:FnsP c){net:Net}(A:NetAt H a bs net)(ht:H[t]?=some (mL n σ))(hn:1<=n/\n<=64)(ho:zg5 n net)(h:okS w n σ)(h1:1<=w)(h8:w<=8)(hc:q=true)
  (hq:∀H',Stay [] H H'->Q .none H'):Calls c q (d+5) "need_things" [.lst a,.str "map",.lst t] none Q E H:=by
 subst hc
 refine F.things true (d+4) _ Q E H rfl (Ss_go ?_)
 walk_at ""
 refine Opt.mk (zcn ht) ?_
 walk_at ""
 rw[zin]
 refine zgg (zaw.mpr hn.1) ?_
 refine zfl (fun h=>absurd (zaw.mpr hn.2) h) (fun J=>?_)
 walk_at ""
 refine Opt.mk (zcn ht) ?_
 rw[zin]
 walk_at ""
 refine s_netG F.chk hn A ho rfl ?_
 walk_at ""
 refine zjm (kk:=.map) (d:=d+3) F.nkind rfl ?_
 walk_at ""
 refine⟨rfl,ze7 (v:=.lst t) (fun K E' h=>h) ht ?_⟩
 refine zdv (g:=fun x=>mv (σ x)) (NmInv H a t n) ?_ ?_ (xs:=List.range n) (fun J kJ=>kJ _ Stay.refl (fun x hx=>zbo.mp hx) rfl)
 ·intro x r l' H' K hI hnext hret
  refine hI _ fun v st hr wg=>?_;clear hI;subst wg
  refine Opt.mk rfl (Ss_go ?_)
  walk_at ""
  refine zwq F (h x (hr x zad)) h1 h8 rfl fun H2 st2=>?_
  walk_at ""
  exact hnext _ _ (at0 (st.trans0 st2) ht) (fun J kJ=>kJ _ (st.trans0 st2) (fun y hy=>hr y (zag _ hy)) rfl)
 ·intro l' H' hI
  refine hI _ fun v st hr wg=>?_;clear hI;subst wg
  walk_at ""
  refine s_alikeM (d:=d+3) F (at0 st ht) hn.1 hn.2 h rfl fun H2 st2=>?_
  walk_at ""
  exact hq H2 (st.trans0 st2)
theorem clo19'{x y:V}:zib 19 x y z=[z,x,y]:=by simp[zib]
theorem zv9{z:Nat×V}(hk:k=some z)(h:wpL C q d k es l (fun vs H=>Opt (cloV k d vs) fun p=>C q p.1 zhi p.2 none Q noX H) E H):wpE C q d k (.callv es) l Q E H:=Opt.mk hk h
inductive MInv(H:Hp)(n tg sr:Nat)(σ:Nat->List Nat)(y:List (Nat×Nat))(L:Option V->Option V->Loc):List (Nat×Nat)->Loc->Hp->Prop
 |mk (r ks:List (Nat×Nat))(u v:Option V)(H2:Hp)(he:ks++r=y)(ht:H2[tg]?=some (mL n (zcy jM ks σ)))(hs:H2[sr]?=some (mL n σ))(st:Stay [] H H2):MInv H n tg sr σ y L r (L u v) H2
inductive CarM(H:Hp)(n a t:Nat)(net:Net)(σ:Nat->List Nat)(i:Nat):Loc->Hp->Prop
 |mk (g:Nat)(v3 v4 v5 v6:Option V)(H':Hp)(hg:H'[g]?=some (mL n (stM net σ i)))(st:Stay [] H H')(lo:H.length<=g):CarM H n a t net σ i [some (.lst a),some (.lst t),some (.lst g),v3,v4,v5,v6] H'
theorem s_carM(F:FnsP c){net:Net}(A:NetAt H a bs net)(ht:H[t]?=some (mL n σ))(hf:Fair n net)(h:okS w n σ)(h8:w<=8)(hc:q=true)
  (hq:∀g H',New H g (mL n (runN jM net σ)) H'->Q (.lst g) H'):Calls c q (d+3) "carried" [.lst a,.lst t] (some (19,.str "map")) Q E H:=by
 subst hc
 refine F.car true (d+2) 19 _ _ Q E H rfl (Ss_go ?_)
 walk_at ""
 refine zch (zfp ht) fun g H1 N=>?_
 walk_at ""
 refine⟨rfl,ze7 (v:=.lst a) (fun K E' h=>h) (at0 N.st A.top) ?_⟩
 refine zel (CarM H n a t net σ) ?_ ?_ (.mk g _ _ _ _ _ N.hold N.st N.lo)
 ·clear N
  intro i x l' H' K hx hI hnext hret
  obtain⟨g,v3,v4,v5,v6,_,hg,st,lo⟩:=hI
  rw[zal] at hx
  revert hx;refine xM fun b hb wj=>?_;subst wj
  obtain⟨y,hy,hby⟩:=(A.grow st).get hb
  have hfy:=hf y (zam hy)
  have ok:=stM_ok hf h i
  walk_at ""
  refine zch (zfp hg) fun g' H'' N=>?_
  walk_at ""
  have st2:=st.trans0 N.st
  refine⟨rfl,ze7 (v:=.lst b) (fun K E' h=>h) (at0 N.st hby) ?_⟩
  have hng:g'≠g:=Nat.ne_of_gt (zat (zc2 hg) N.lo)
  have lg':H.length<=g':=zac st.len N.lo
  refine zdv (MInv H n g' g (stM net σ i) y fun u v=>[some (.lst a),some (.lst t),some (.lst g),some (.lst b),some (.lst g'),u,v]) ?_ ?_ (.mk _ [] _ _ _ rfl N.hold (at0 N.st hg) st2)
  ·clear N st2
   intro p r l' H2 K2 hI hnext2 hret2
   obtain⟨ks,u,v,_,hk,ht2,hs,st2⟩:=hI
   obtain⟨pl,ph⟩:=p
   have hpm:=hfy.1 (pl,ph) (by rw[<- hk];exact zbt _ zad)
   have hk':(ks++[(pl,ph)])++r=y:=by rw[zbb];exact hk
   have hnd:((ks++[(pl,ph)]).map (·.2)).Nodup:=by have:=hfy.2;rw[<- hk',zan] at this;exact(zb3.mp this).1
   have hpl:pl<n:=zau hpm.1 hpm.2
   refine Opt.mk rfl (Ss_go ?_)
   walk_at ""
   refine zv9 rfl ?_
   walk_at ""
   refine Opt.mk (zc5 hs (zmx hpl)) ?_
   walk_at ""
   refine Opt.mk (zc5 hs (zmx hpm.2)) ?_
   refine Opt.mk rfl ?_
   show Calls c true (d+1) zhi (zib 19 (mv (stM net σ i pl)) (mv (stM net σ i ph)) (.str "map")) none _ noX H2
   rw[clo19']
   refine s_putM F (ok pl hpl) (ok ph hpm.2) h8 rfl fun H3 st3=>?_
   walk_at ""
   have ht3:=at0 st3 ht2
   refine Opt.mk (put_at ht3 (by rw[zin];exact hpm.2)) ?_
   rw[mL_set,<-zor jM hnd (stM net σ i)]
   have st4:=(st2.trans0 st3).set (a:=g') (xs:=mL n (zcy jM (ks++[(pl,ph)]) (stM net σ i))) (.inr lg')
   exact hnext2 _ _ ((A.grow st4).lay i b y hb hy) (.mk _ (ks++[(pl,ph)]) _ _ _ hk' (zd1 ht3) (zcz (at0 st3 hs) (qax hng)) st4)
  ·clear N st2
   intro l' H2 hI
   obtain⟨ks,u,v,_,hk,ht2,hs,st2⟩:=hI
   rw[za4] at hk
   subst hk
   walk_at ""
   exact hnext _ _ (A.grow st2).top (.mk g' _ _ _ _ _ (by rw[stM_succ hy];exact ht2) st2 lg')
 ·clear N
  intro l' H' hI
  obtain⟨g,v3,v4,v5,v6,_,hg,st,lo⟩:=hI
  rw[zab,A.len,stM_all] at hg
  walk_at ""
  exact hq g H' ⟨st,hg,lo⟩
theorem ztn(hz:l.getD i none=some z)(h:wpL C q d k es l (fun vs H=>C q d f vs (some (kk,z)) Q E H) E H):wpE C q d k (.callL f es kk i) l Q E H:=by
 have e:wpE C q d k (.callL f es kk i) l Q E H=wpL C q d k es l (fun vs H=>Opt (l.getD i none) fun v=>C q d f vs (some (kk,v)) Q E H) E H:=rfl
 rw[e,hz];exact h
theorem s_ledM(F:FnsP c){net:Net}(A:NetAt H a bs net)(ht:H[t]?=some (mL n σ))(hn:1<=n/\n<=64)(ho:zg5 n net)(h:okS w n σ)(h1:1<=w)(h8:w<=8)(hc:q=true)
  (hq:∀g H',New H g (mL n (runN jM net σ)) H'->Q (.lst g) H'):Calls c q (d+6) "led" [.lst a,.str "map",.lst t] none Q E H:=by
 subst hc
 refine F.led true (d+5) _ Q E H rfl (Ss_go ?_)
 walk_at ""
 refine zt8 F A ht hn ho h h1 h8 rfl fun H1 st1=>?_
 walk_at ""
 refine ztn rfl ?_
 walk_at ""
 exact s_carM (d:=d+2) F (A.grow st1) (at0 st1 ht) ho.fair h h8 rfl fun g H2 N=>hq g H2 ⟨st1.trans0 N.st,N.hold,zac st1.len N.lo⟩
end
variable {b:Net}{f:Nat->Nat}{kk:Clo}{m:Nat}
theorem zqy:∀{net:Net}{B B':Nat->Nat},zcp net B=some B'->(∀y∈net,∀p∈y,p.2≠x)->B' x=B x
 |[],B,B',h,_=>by obtain rfl:=zaa h;rfl
 |y::net,B,B',h,hx=>by
  obtain⟨_,h2⟩:=zej h
  rw[zqy h2 fun z hz=>hx z (zag _ hz)]
  rcases zcu (fun l J=>l) y B x with⟨p,hp,e,_⟩|e
  ·exact absurd e (hx y zad p hp)
  ·exact e
theorem znk{net:Net}(h:zcp net id=none):zci n net=false:=by
 unfold zci
 rw[h]
theorem none_app{a:Net}(h:zcp a id=none):zcp (a++b) id=none:=by
 rw[zco,h];rfl
theorem zsr{net:Net}(hh:2<=h)(hb:∀y∈net,∀p∈y,p.2≠h):zcp (net++zex (h,(h-2)::ls)) id=none:=by
 rw[zco]
 refine xC (zcp net id) (fun e=>?_) fun B e=>?_
 ·rfl
 ·have hB:B h=h:=zqy e hb
  show zcp ([(h-2,h)]::zex (h,ls)) B=none
  rw[ze9,if_neg]
  intro q
  have:=zfh.mp q (h-2,h) zad
  dsimp only at this
  rw[hB] at this
  exact ar2 [_] [] 0x1a0852940018407010204006100400014a001020300610000510001 J0 (Y0 J2 V0) (Y2 (Y0 (Y2 V0 J2) J1) V0) hh this
theorem zqp{a:Net}(h:zci n (a++b)=true):∃B B',zcp a id=some B/\zcp b B=some B':=by
 unfold zci at h
 rw[zco] at h
 refine xC (zcp a id) (fun e=>?_) fun B e=>?_
 ·rw[e] at h;injection h
 ·rw[e] at h
  refine xC (zcp b B) (fun e2=>?_) fun B' e2=>?_
  ·rw[show(some B).bind (zcp b)=none from e2] at h;injection h
  ·exact⟨B,B',rfl,e2⟩
theorem set_none{net:Net}(h:zci n net=true)(hy:net[i]?=some y)(hp:y[k]?=some (lo,hi))(hl:l'≠lo):zci n (net.set i (y.set k (l',hi)))=false:=by
 have hi':=zcj hy
 have hk':=zcj hp
 rw[show net=net.take i++(y::net.drop (i+1)) by rw[List.append_cons];exact zq8 hy] at h
 obtain⟨B,B',h1,h2⟩:=zqp h
 refine znk ?_
 rw[zcc,if_pos hi',zco,h1]
 show zcp (_::_) B=none
 rw[ze9,if_neg]
 intro q
 have q1:=zfh.mp q (l',hi) (List.mem_iff_getElem?.mpr ⟨k,by rw[zbv hk']⟩)
 have q2:=zfh.mp (zej h2).1 (lo,hi) (zam hp)
 dsimp only at q1 q2
 exact ar3 [_,_,_] [] 0x7294a000c20180810100308000294a001020180610100308000 J0 (Y8 (Y2 V0 V1) J0) (Y2 (Y0 V0 J1) V2) (Y2 (Y0 V1 J1) V2) hl q1 q2
theorem zvd{net:Net}(ok:∀y∈net,zcl n y)(hne:net≠[])(h:zci n net=true):zci n net.dropLast=false:=by
 have e:=List.dropLast_concat_getLast hne
 have hm:=ok _ (List.getLast_mem hne)
 rw[<- e] at h
 obtain⟨B,B',h1,h2⟩:=zqp h
 have h3:=zfh.mp (zej h2).1
 unfold zci
 rw[h1]
 generalize net.getLast hne=y at h3 hm
 cases y with
 |nil=>exact absurd rfl hm.1
 |cons p r=>
  have hp:=h3 p zad
  have hf:=(zd2 hm.2).1 p zad
  refine List.all_eq_false.mpr ⟨p.2,zbo.mpr hf.2.1,fun q=>?_⟩
  have:B p.2=0:=eq_of_beq q
  exact ar2 [_,_] [] kag J0 (Y2 (Y0 V0 J1) V1) (Y2 V1 J0) hp this
noncomputable def zfv:List St:=[.expr (.call "need_net" [.wx 0,.wx 1]),.ite (.not (.call "does_tell" [.wx 0,.wx 1])) [.rais "NoNet" [.lit (.str "the net doesn't tell beginnings")]] []]
noncomputable def zda:List St:=[.set 2 (.list []),.loop (.one 3) (.val (.blt .range [.bin .sub (.wx 0) (.ww 1)])) [.set 4 (.bin .sub (.bin .sub (.wx 0) (.ww 1)) (.wx 3)),.set 5 (.rev (.blt .list [.blt .range [.wx 4]])),.ite (.cmp (.wx 3) [.eq] [.bin .mod (.wx 1) (.bin .sub (.wx 0) (.ww 2))]) [.set 5 (.bin .add (.list [.idx (.wx 5) (.ww 1),.idx (.wx 5) (.ww 0)]) (.slice (.wx 5) (.ww 2) (.lit .none)))] [],.set 2 (.bin .add (.wx 2) (.comp (.list [.tup [.wx 6,.wx 4]]) (.one 6) (.wx 5) []))],.ret (.wx 2)]
noncomputable def zdc:List St:=[.ite (.and [.cmp (.bin .mod (.wx 2) (.ww 3)) [.eq] [.ww 1],.cmp (.ww 3) [.le,.le] [.wx 1,.ww 12]]) [.ret (.call "_law_crossed" [.wx 1,.bin .div (.wx 2) (.ww 3)])] [],.set 3 (.bin .mod (.wx 2) (.blt .len [.wx 0])),.set 4 (.bin .mod (.bin .div (.wx 2) (.ww 64)) (.blt .len [.idx (.wx 0) (.wx 3)])),.unp [5,6] (.idx (.idx (.wx 0) (.wx 3)) (.wx 4)),.set 7 (.bin .mod (.bin .div (.wx 2) (.ww 4096)) (.wx 6)),.ite (.cmp (.wx 7) [.eq] [.wx 5]) [.ret (.slice (.wx 0) (.lit .none) (.neg (.ww 1)))] [],.set 8 (.bin .add (.bin .add (.slice (.idx (.wx 0) (.wx 3)) (.lit .none) (.wx 4)) (.list [.tup [.wx 7,.wx 6]])) (.slice (.idx (.wx 0) (.wx 3)) (.bin .add (.wx 4) (.ww 1)) (.lit .none))),.ret (.bin .add (.bin .add (.slice (.wx 0) (.lit .none) (.wx 3)) (.list [.wx 8])) (.slice (.wx 0) (.bin .add (.wx 3) (.ww 1)) (.lit .none)))]
theorem s_ntell(P:Has c "need_telling" 2 2 zfv)(PD:Has c "does_tell" 2 8 zgy)(C:Chk9 c){net:Net}(A:NetAt H a bs net)(hn:1<=n/\n<=64)(ok:zg5 n net)(hc:q=true)
  (hy:zci n net=true->∀H',Stay [] H H'->Q .none H') (hx:zci n net=false->∀H',Stay [] H H'->E (.exc "NoNet" .none) H'):Calls c q (d+5) "need_telling" [.int n,.lst a] none Q E H:=by
 subst hc
 refine P true (d+4) _ Q E H rfl (Ss_go ?_)
 walk_at ""
 refine s_netG C hn A ok rfl ?_
 walk_at ""
 refine zpd PD A hn.2 ok.fair rfl fun H1 st=>?_
 walk_at ""
 refine xD (zci n net) (fun e=>?_) fun e=>?_
 ·walk_at ""
  exact hy e H1 st
 ·walk_at ""
  refine⟨rfl,?_⟩
  show E (.exc "NoNet" (atOf _ _)) _
  rw[at_nonet];exact hx e H1 st
def CrossP(n j k:Nat)(net:Net):Prop:=(k<=j->∀y∈net,∀p∈y,n-1-k<p.2)/\(j<k->zcp net id=none)
def zqb(H:Hp)(n cell j k:Nat)(x0:Loc)(H':Hp):Prop:=∀GJ:Prop,(∀(v3 v4 v5:Option V),∀(nt:Nat),∀(bs:List Nat),∀(bl:List (Nat×List Nat)),NetAt H' nt bs (bl.flatMap zex)->Blocks n k bl->CrossP n j k (bl.flatMap zex)->Stay [] H H'->[some (.int n),some (.int cell),some (.lst nt),v3,v4,v5,none]=x0->GJ)->GJ
theorem zkz{cell v5:Nat}(hn:n<=12)(hk:k<n-1)(hh:n-1-k=h)(hv:H2[v5]?=some (ls.map nat))(hl:ls.length=h)(hls:∀x∈ls,x<h)(N:NetAt H2 nt bs (bl.flatMap zex))(B:Blocks n k bl)(C:CrossP n j k (bl.flatMap zex))(hj:k=j->2<=h/\∃r,ls=(h-2)::r)(st:Stay [] H H2)
  (hK:∀l' H',zqb H n cell j (k+1) l' H'->K .next l' H') :
  wpSs (Calls c) true d none [.set 2 (.bin .add (.var 2) (.comp (.list [(.tup [(.var 6),(.var 4)])]) (.one 6) (.var 5) []))] K EE [some (.int n),some (.int cell),some (.lst nt),v3,some (.int h),some (.lst v5),none] H2:=by
 refine Ss_go ?_
 walk_at ""
 refine Opt.mk (zdh hv) ⟨zck (by rw[zab];exact ar3 [_,_,_,_] [] 0x3194a5294a000c203006101c04081001840900c201806100005104a10042508021 (Y1 V0 (.l 100000)) (Y0 V1 (.l 12)) (Y2 (Y2 (Y2 V1 J1) V2) V3) (Y2 V0 V3) hn hh hl),?_⟩
 refine zs7 (Nat.le_of_ble_eq_true rfl) (by decide) rfl (fun H' st=>at0 st hv) fun cs H3 RR=>?_
 have N3:=RR.net
 have st3:=RR.st.app (xs:=cs.map .lst)
 generalize H3++[cs.map .lst]=H3' at N3 st3
 generalize H3.length=a3 at N3
 clear RR
 have N2:=N.grow st3
 have htot:=B.tot
 have ht:=zuu (n-1) (by exact ar1 [_] [] kbn (Y0 (Y2 V0 J1) (.l 11)) (Y0 V0 (.l 12)) hn)
 have hz2:=N.len
 have hz3:cs.length=h:=by rw[N3.len,zex,zab,hl]
 walk_at ""
 refine zch (zc6 N2.top N3.top (by rw[zab,zab];exact ar6 [_,_,_,_,_,_,_,_] [] 0xc65294a5294a50006101803080e02040800c204806102803081601840c00c201806100005184a10082508041 (Y1 (Y0 V0 V1) (.l 100000)) (Y0 V2 (.l 12)) (Y2 (Y2 (Y2 V2 J1) V3) V4) (Y2 (Y0 V5 V6) (.v 7)) (Y0 (.v 7) (.l 66)) (Y2 V0 V5) (Y2 V1 V4) hn hh htot ht hz2 hz3)) fun a4 H4 N4=>?_
 walk_at ""
 refine hK _ _ (fun J kJ=>kJ _ _ _ a4 (bs++cs) (bl++[(h,ls)]) ?_ (B.snoc hk hh hl hls) ?_ (st.trans0 (st3.trans0 N4.st)) rfl)
 ·rw[List.flatMap_append,zll]
  exact(N2.grow N4.st).append (N3.grow N4.st) N4.hold
 ·rw[List.flatMap_append,zll]
  refine⟨fun hkj y hy p hp=>?_,fun hjk=>?_⟩
  ·rcases zaj.mp hy with hy |hy
   ·have:=C.1 (Nat.le_of_succ_le hkj) y hy p hp
    exact ar1 [_,_,_] [] 0xd04294a000c203006101c030802000065294a000c20380610200308060184010142128400094610042508001 (Y1 (Y2 (Y2 V0 J1) (Y0 V1 J1)) V2) (Y1 (Y2 (Y2 V0 J1) V1) V2) this
   ·revert hy;refine xL fun l hl' wj=>?_;subst wj
    rw[zaf.mp hp]
    show n-1-(k+1)<h
    exact ar2 [_,_,_] [] 0x1a064294a528003081201840a00c205806100c0308020180a10942000465294a000c20380610240308060184010142128400094610042508001 (Y1 (Y2 (Y2 V0 J1) (Y0 V1 J1)) V2) (Y1 V1 (Y2 V0 J1)) (Y2 (Y2 (Y2 V0 J1) V1) V2) hk hh
  ·rcases Nat.lt_succ_iff_lt_or_eq.mp hjk with hjk |rfl
   ·exact none_app (C.2 hjk)
   ·obtain⟨h2,r,rfl⟩:=hj rfl
    refine zsr h2 fun y hy p hp e=>?_
    have:=C.1 (zae _) y hy p hp
    exact ar3 [_,_,_,_] [] 0x294a001020080610080308060 J0 (Y2 (Y2 (Y2 V0 J1) V1) V2) (Y2 V3 V2) (Y1 (Y2 (Y2 V0 J1) V1) V3) hh e this
theorem zq2(hi:i<h):(List.range h).reverse[i]?=some (h-1-i):=by
 rw[List.getElem?_reverse (by rw[zas];exact hi),zas,zbs (by exact ar1 [_,_] [] kbf (Y1 (Y2 (Y2 V0 J1) V1) V0) (Y1 V1 V0) hi)]
theorem zu1(P:Has c "_law_crossed" 2 7 zda){cell:Nat}(hn1:3<=n)(hn:n<=12)(hc:q=true)
  (hq:∀a bs H' net,NetAt H' a bs net->zg5 n net->net.length<=70->zci n net=false->Stay [] H H'->Q (.lst a) H'):Calls c q (d+1) "_law_crossed" [.int n,.int cell] none Q E H:=by
 subst hc
 refine P true d _ Q E H rfl (Ss_go ?_)
 have en:((n:Int)-1)=((n-1:Nat):Int):=by exact ar1 [_] [] 0x18652800308060184010142000468214a000c204006100000014a000c20200610000508001 (Y5 (Y2 (Y4 V0 J0) J1) (Y4 (Y2 V0 J1) J0)) (Y0 (.l 3) V0) hn1
 have hjn:cell%(n-2)<n-2:=Nat.mod_lt _ (by exact ar1 [_] [] 0x65294001840300c20200610040510001 (Y1 J0 (Y2 V0 J2)) (Y0 (.l 3) V0) hn1)
 walk_at ""
 refine⟨rfl,ze7 (v:=.rng 0 ((n-1:Nat):Int) 1) (items:=(List.range (n-1)).map nat) (fun K E' h=>by walk_at "";rw[en];exact Opt.mk (zdl (by exact ar2 [_] [] kap (Y1 (Y2 V0 J1) (.l 100000)) (Y0 V0 (.l 12)) (Y5 (Y2 (Y4 V0 J0) J1) (Y4 (Y2 V0 J1) J0)) hn en)) h) (congrArg some (zd3 _)) ?_⟩
 refine zel (zqb H n cell (cell%(n-2))) ?_ ?_ (fun J kJ=>kJ _ _ _ H.length [] [] ⟨zcd,rfl,fun J J J h=>nomatch h⟩ ⟨rfl,(fun J J h=>nomatch h),Nat.zero_add _⟩ ⟨(fun J J h=>nomatch h),fun h=>absurd h (Nat.not_lt_zero _)⟩ Stay.refl.app rfl)
 ·intro k x l' H' K hx hI hnext hret
  refine hI _ fun v3 v4 v5 nt bs bl N B C st wg=>?_;clear hI;subst wg
  have hk:=zcj hx
  rw[zab,zas] at hk
  rw[zal,zbs hk] at hx
  obtain rfl:=zaa hx
  have hnext:=fun l' H' h=>hnext l' H' trivial h
  unfold nat
  walk_at ""
  rw[show((n:Int)-1-(k:Int))=((n-1-k:Nat):Int) by exact ar2 [_,_] [] 0x6194a500061014030806018401014212840008d04294001840900c2000000294a0010203006101003080002842508001 (Y5 (Y2 (Y2 (Y4 V0 J0) J1) (Y4 V1 J0)) (Y4 (Y2 (Y2 V0 J1) V1) J0)) (Y5 (Y2 (Y4 V0 J0) J1) (Y4 (Y2 V0 J1) J0)) (Y1 V1 (Y2 V0 J1)) en hk]
  generalize hh:n-1-k=h
  refine Opt.mk (zdl (by exact ar3 [_,_,_] [] kbq (Y1 V0 (.l 100000)) (Y0 V1 (.l 12)) (Y5 (Y2 (Y4 V1 J0) J1) (Y4 (Y2 V1 J1) J0)) (Y2 (Y2 (Y2 V1 J1) V2) V0) hn en hh)) ?_
  walk_at ""
  refine zch (zh8 (by exact ar3 [_,_,_] [] kbq (Y1 V0 (.l 100000)) (Y0 V1 (.l 12)) (Y5 (Y2 (Y4 V1 J0) J1) (Y4 (Y2 V1 J1) J0)) (Y2 (Y2 (Y2 V1 J1) V2) V0) hn en hh)) fun a1 H1 N1=>?_
  walk_at ""
  refine zch (rev_lst N1.hold) fun a2 H2 N2=>?_
  have hv:H2[a2]?=some (((List.range h).reverse).map nat):=by rw[List.map_reverse];exact N2.hold
  have hLl:(List.range h).reverse.length=h:=by rw[List.length_reverse,zas]
  have hLm:∀x∈(List.range h).reverse,x<h:=fun x hx=>zbo.mp (List.mem_reverse.mp hx)
  have st2:=N1.st.trans0 N2.st
  have NN:=N.grow st2
  have st3:=st.trans0 st2
  clear N1 N2 st2
  walk_at ""
  rw[show(n:Int)-2=((n-2:Nat):Int) by exact ar1 [_] [] 0x18652800308060184010144000468214a000c204006100000014a000c20200610000510001 (Y5 (Y2 (Y4 V0 J0) J2) (Y4 (Y2 V0 J2) J0)) (Y0 (.l 3) V0) hn1]
  refine zcw (by exact ar1 [_] [] 0x65294001840300c20200610040510001 (Y1 J0 (Y2 V0 J2)) (Y0 (.l 3) V0) hn1) ?_
  walk_at ""
  generalize cell%(n-2)=j at hjn C hnext
  refine zcf (fun hkj=>?_) (fun hkj=>?_)
  ·obtain rfl:k=j:=Int.ofNat.inj hkj
   have h2:2<=h:=by exact ar4 [_,_,_] [] 0xd04294001840700c2000000194a5294a000c203806102403081401840b00c201806100405104a10042510021 (Y0 J2 V0) (Y0 (.l 3) V1) (Y5 (Y2 (Y4 V1 J0) J1) (Y4 (Y2 V1 J1) J0)) (Y2 (Y2 (Y2 V1 J1) V2) V0) (Y1 V2 (Y2 V1 J2)) hn1 en hh hjn
   refine Ss_go ?_
   walk_at ""
   refine Opt.mk (zds (i:=1) hv (zq2 (by exact ar1 [_] [] kaa (Y1 J1 V0) (Y0 J2 V0) h2))) ?_
   walk_at ""
   refine Opt.mk (zds (i:=0) hv (zq2 (by exact ar1 [_] [] kaa (Y1 J0 V0) (Y0 J2 V0) h2))) ?_
   walk_at ""
   have s4:=(Stay.refl (S:=[]) (H:=H2)).app (xs:=[V.int (h-1-1:Nat),V.int (h-1-0:Nat)])
   refine zch (zem (i:=2) (at0 s4 hv)) fun a5 H5 N5=>?_
   walk_at ""
   refine zch (zc6 (at0 N5.st zcd) N5.hold (by rw[zbf,zab];show 2+_<_;exact ar4 [_,_,_,_] [] 0xc65294a5294001840600c203808102004081201840a00c201806100005100012882508021 (Y1 (Y0 J2 (Y2 V0 J2)) (.l 100000)) (Y0 V1 (.l 12)) (Y5 (Y2 (Y4 V1 J0) J1) (Y4 (Y2 V1 J1) J0)) (Y2 (Y2 (Y2 V1 J1) V2) V3) (Y2 V0 V3) hn en hh hLl)) fun a6 H6 N6=>?_
   have st6:=s4.trans0 (N5.st.trans0 N6.st)
   refine zkz (ls:=(h-2)::(h-1)::(List.range h).reverse.drop 2) hn hk hh ?_ ?_ ?_ (NN.grow st6) B C (fun J=>⟨h2,_,rfl⟩) (st3.trans0 st6) hnext
   ·rw[N6.hold,za5,za5,List.map_drop,Nat.sub_sub];rfl
   ·rw[zba,zba,zbf,hLl];exact ar1 [_] [] 0x61a085294001840800c203006100400014a000c20200610000510001194a000c20180610040510001 (Y2 (Y0 (Y0 (Y2 V0 J2) J1) J1) V0) (Y0 J2 V0) h2
   ·intro x hx
    rcases zah.mp hx with rfl |hx
    ·exact ar2 [_,_,_] [] 0x340c85294a50006102403081401840b00c2018061004030142128402094a000c20200610000510001 (Y1 (Y2 V0 J2) V0) (Y1 V1 (Y2 V2 J1)) (Y2 (Y2 (Y2 V2 J1) V1) V0) hk hh
    ·rcases zah.mp hx with rfl |hx
     ·exact ar1 [_] [] kao (Y1 (Y2 V0 J1) V0) (Y0 J2 V0) h2
     ·exact hLm x (List.mem_of_mem_drop hx)
  ·exact zkz hn hk hh hv hLl hLm NN B C (fun e=>absurd (congrArg Int.ofNat e) hkj) st3 hnext
 ·intro l' H' hI
  refine hI _ fun v3 v4 v5 nt bs bl N B C st wg=>?_;clear hI;subst wg
  rw[zab,zas] at B C
  refine Then_go (Ss_go ?_)
  walk_at ""
  have hz:=B.tot
  have:=zuu (n-1) (by exact ar2 [_] [] kap (Y0 (Y2 V0 J1) (.l 11)) (Y0 V0 (.l 12)) (Y5 (Y2 (Y4 V0 J0) J1) (Y4 (Y2 V0 J1) J0)) hn en)
  exact hq _ _ _ _ N (B.ok hn) (by exact ar2 [_,_,_] [] kab (Y0 V0 (.l 70)) (Y2 (Y0 V0 V1) V2) (Y0 V2 (.l 66)) hz this) (znk (C.2 (by exact ar3 [_,_] [] 0x68214a000c203806100000014a528003080801840600c20380610000510021 (Y1 V0 (Y2 V1 J1)) (Y0 (.l 3) V1) (Y5 (Y2 (Y4 V1 J0) J1) (Y4 (Y2 V1 J1) J0)) (Y1 V0 (Y2 V1 J2)) hn1 en hjn))) st
theorem zrr(ha:H[a]?=some xs)(hne:xs≠[]):zky H (.lst a) .none (.int (-1))=some (.lst H.length,H++[xs.dropLast]):=by
 show(H[a]?).bind _=_
 rw[ha]
 show some (V.lst H.length,H++[(xs.drop 0).take (zhj (-1) xs.length-0)])=_
 have hl:=List.length_pos_iff.mpr hne
 rw[List.drop_zero,List.dropLast_eq_take,show zhj (-1) xs.length-0=xs.length-1 by show((-1:Int)+(xs.length:Int)).toNat-0=_;exact ar1 [_,_] [] 0x640c85294001840600c2010061004030140000463294a50006101c03080c01840300c20080a1004250000140d04294001840700c2008000214a50006101c03080401840001005080211a08528003080e01840100003294a50006102004080e01840300c20080a00002508021 (Y2 (Y2 V0 J0) (Y2 V1 J1)) (Y7 (Y5 (Y4 V0 J0) (Y0 (Y3 J1 J0) (Y4 V1 J0))) (Y6 (Y3 (Y0 (Y3 J1 J0) (Y4 V1 J0)) J0) (Y2 V0 J0))) (Ar.tn _)]
theorem s_unt(P:Has c "_law_untelling" 3 9 zdc)(PC:Has c "_law_crossed" 2 7 zda){cell:Nat}{net:Net}(A:NetAt H a bs net)(hn:1<=n/\n<=64)(ok:zg5 n net)(hz:net.length<=70)(ht:zci n net=true)(hne:net≠[])(hc:q=true)
  (hq:∀a' bs' H' net',NetAt H' a' bs' net'->zg5 n net'->net'.length<=70->zci n net'=false->Stay [] H H'->Q (.lst a') H'):Calls c q (d+2) "_law_untelling" [.lst a,.int n,.int cell] none Q E H:=by
 subst hc
 refine P true (d+1) _ Q E H rfl (Ss_go ?_)
 walk_at ""
 have hnl:0<net.length:=List.length_pos_iff.mpr hne
 refine zcw (b:=3) (by decide) ?_
 walk_at ""
 have go:wpSs (Calls c) true (d+1) none (zdc.drop 1) (EndQ Q) (EndX E) [some (.lst a),some (.int n),some (.int cell),none,none,none,none,none,none] H:=by
  refine Ss_go ?_
  walk_at ""
  refine Opt.mk (zcn A.top) ?_
  walk_at ""
  rw[zab,A.len]
  refine zcw hnl ?_
  walk_at ""
  have hat:cell%net.length<net.length:=Nat.mod_lt _ hnl
  generalize cell%net.length=i at hat
  have hy:=zai hat
  generalize net[i]=y at hy
  obtain⟨b,hb,hbH,hbI⟩:=A.at hy
  refine zcv (b:=64) (by decide) ?_
  walk_at ""
  refine Opt.mk hbI ?_
  walk_at ""
  refine Opt.mk (zcn hbH) ?_
  walk_at ""
  have hyo:=ok.2 y (zam hy)
  have hyl:0<y.length:=List.length_pos_iff.mpr hyo.1
  rw[zab]
  refine zcw hyl ?_
  walk_at ""
  have hsp:cell/64%y.length<y.length:=Nat.mod_lt _ hyl
  generalize cell/64%y.length=k at hsp
  have hp:=zai hsp
  generalize y[k]=p at hp
  obtain⟨lo,hi⟩:=p
  have hpm:lo<hi/\hi<n/\0<=hi:=(zd2 hyo.2).1 _ (zam hp)
  have hi0:0<hi:=za3 (zax _) hpm.1
  refine⟨rfl,?_⟩
  refine Opt.mk hbI ?_
  walk_at ""
  refine Opt.mk (zc5 hbH (zi9 hp)) ?_
  refine Opt.mk (a:=[some (.lst a),some (.int n),some (.int cell),some (.int i),some (.int k),some (.int lo),some (.int hi),none,none]) rfl ?_
  walk_at ""
  refine zcv (b:=4096) (by decide) ?_
  walk_at ""
  refine zcw hi0 ?_
  walk_at ""
  have hlt:cell/4096%hi<hi:=Nat.mod_lt _ hi0
  generalize cell/4096%hi=l' at hlt
  refine zcf (fun e=>?_) (fun e=>?_)
  ·walk_at ""
   refine zch (zrr A.top (fun q=>hne (zbr.mp (by rw[<- A.len,<-zab (f:=V.lst),q];rfl)))) fun a2 H2 N2=>?_
   walk_at ""
   refine hq a2 bs.dropLast H2 net.dropLast ⟨by rw[N2.hold,List.map_dropLast],by rw[List.length_dropLast,List.length_dropLast,A.len],fun j r z h1 h2=>?_⟩ ⟨?_,fun z hz=>ok.2 z (List.dropLast_subset _ hz)⟩ ?_ (zvd ok.2 hne ht) N2.st
   ·rw[List.getElem?_dropLast] at h1 h2
    revert h1;refine xO fun J h1=>?_
    revert h2;refine xO fun J h2=>?_
    exact at0 N2.st (A.lay j r z h1 h2)
   ·rw[List.length_dropLast];exact zac (Nat.sub_le _ _) ok.1
   ·rw[List.length_dropLast];exact zac (Nat.sub_le _ _) hz
  ·have hlo:l'≠lo:=fun q=>e (by rw[q])
   have ny:y.length<50000:=by have:=(zgf hyo.2 hyo.1).1;exact ar2 [_,_] [] kab (Y1 V0 (.l 50000)) (Y0 V1 (.l 64)) (Y0 (Y0 V0 J0) V1) hn.2 this
   walk_at ""
   refine Opt.mk hbI ?_
   walk_at ""
   refine zch (zi3 hbH) fun e1 H3 N3=>?_
   walk_at ""
   have s4:=(Stay.refl (S:=[]) (H:=H3)).app (xs:=[pr (l',hi)])
   refine zch (zc6 (at0 s4 N3.hold) zcd (by rw[zbe,zab];show _+1<_;exact ar2 [_,_] [] kay (Y1 (Y0 (Y5 V0 V1) J1) (.l 100000)) (Y1 V0 V1) (Y1 V1 (.l 50000)) hsp ny)) fun e3 H5 N5=>?_
   walk_at ""
   have s5:=N3.st.trans0 (s4.trans0 N5.st)
   refine Opt.mk (show idxV H5 (.lst a) (.int i)=some (.lst b) from zc5 (at0 s5 A.top) (by rw[zal,hb];rfl)) ?_
   refine zch (zem (i:=k+1) (at0 s5 hbH)) fun e4 H6 N6=>?_
   walk_at ""
   refine zch (zc6 (at0 N6.st N5.hold) N6.hold (by rw[zak,zbe,zbf,zab];show _+1+_<_;exact ar2 [_,_] [] 0xc65294a50006101803080e01880800c201806100005184000842808401 (Y1 (Y0 (Y0 (Y5 V0 V1) J1) (Y2 V1 (Y0 V0 J1))) (.l 100000)) (Y1 V0 V1) (Y1 V1 (.l 50000)) hsp ny)) fun e5 H7 N7=>?_
   have hl5:H7[e5]?=some ((y.set k (l',hi)).map pr):=by
    rw[N7.hold,List.map_set,zcc,if_pos (by rw[zab];exact hsp),zbb];rfl
   have s7:=s5.trans0 (N6.st.trans0 N7.st)
   clear N3 N5 N6 N7 s4 s5
   walk_at ""
   refine zch (zi3 (at0 s7 A.top)) fun a2 H8 N8=>?_
   walk_at ""
   have s8:=(Stay.refl (S:=[]) (H:=H8)).app (xs:=[V.lst e5])
   refine zch (zc6 (at0 s8 N8.hold) zcd (by rw[zbe,zab,A.len];show _+1<_;exact ar2 [_,_] [] kay (Y1 (Y0 (Y5 V0 V1) J1) (.l 100000)) (Y0 V1 (.l 70)) (Y1 V0 V1) hz hat)) fun e6 H9 N9=>?_
   walk_at ""
   have s9:=N8.st.trans0 (s8.trans0 N9.st)
   refine zch (zem (i:=i+1) (at0 (s7.trans0 s9) A.top)) fun e7 H10 N10=>?_
   walk_at ""
   refine zch (zc6 (at0 N10.st N9.hold) N10.hold (by rw[zak,zbe,zbf,zab,A.len];show _+1+_<_;exact ar2 [_,_] [] 0xc65294a50006101803100e01840800c201806100005184000842808401 (Y1 (Y0 (Y0 (Y5 V0 V1) J1) (Y2 V1 (Y0 V0 J1))) (.l 100000)) (Y0 V1 (.l 70)) (Y1 V0 V1) hz hat)) fun e8 H11 N11=>?_
   have top:H11[e8]?=some ((bs.set i e5).map .lst):=by
    rw[N11.hold,List.map_set,zcc,if_pos (by rw[zab,A.len];exact hat),zbb];rfl
   have s11:=s9.trans0 (N10.st.trans0 N11.st)
   walk_at ""
   refine hq e8 (bs.set i e5) H11 (net.set i (y.set k (l',hi))) ⟨top,by rw[zbg,zbg];exact A.len,fun j r z h1 h2=>?_⟩ (zvl ok (zph hyo hp hlt)) (by rw[zbg];exact hz) (set_none ht hy hp hlo) (s7.trans0 s11)
   by_cases e:j=i
   ·subst e
    rw[zbv (by rw[A.len];exact hat)] at h1
    rw[zbv hat] at h2
    obtain rfl:=zaa h1
    obtain rfl:=zaa h2
    exact at0 s11 hl5
   ·rw[zb0 (qax e)] at h1 h2
    exact at0 (s7.trans0 s11) (A.lay j r z h1 h2)
 refine zcf (fun J=>?_) (fun J=>?_)
 ·refine zcf (fun h3=>?_) (fun J=>?_)
  ·refine zcf (fun h12=>?_) (fun J=>?_)
   ·refine Ss_go ?_
    walk_at ""
    refine zcv (b:=3) (by decide) ?_
    exact zu1 PC (zaw.mp h3) (zaw.mp h12) rfl hq
   ·exact go
  ·exact go
 ·exact go
variable {b y:Nat}{xs:List Nat}
noncomputable def zmk:List St:=[.ite (.cmp (.wx 0) [.eq] [.ww 0]) [.ret (.call "one_by_one" [.wx 2])] [],.ite (.cmp (.wx 0) [.eq] [.ww 1]) [.ret (.call "doubled" [.wx 2])] [],.ite (.cmp (.wx 0) [.eq] [.ww 2]) [.ret (.call "by_halves" [.wx 2])] [],.ite (.cmp (.wx 0) [.eq] [.ww 3]) [.ret (.call "by_pairs" [.wx 2])] [],.ret (.call "_law_telling" [.wx 1,.wx 2])]
structure FnsM9(c:Cx):Prop where
 chk:Chk9 c
 moved:Has c "moved" 2 5 zmq
 side:Has c "side_by_side" 2 6 zev
 parted:Has c "parted" 4 6 znl
 paired:Has c "paired" 2 6 zmy
 halves:Has c "by_halves" 1 2 zog
 pairs:Has c "by_pairs" 1 1 zpn
structure FnsD(c:Cx):Prop where
 m:FnsM9 c
 one:Has c "one_by_one" 1 2 zhc
 dbl:Has c "doubled" 1 4 zk4
 place:Has c "_law_place" 5 6 zc4
 thinner:Has c "_law_thinner" 6 8 zd7
 telling:Has c "_law_telling" 2 16 ze4
 made:Has c "_law_made" 3 3 zmk
theorem zra(C:Chk9 c)(h1:1<=n)(h2:n<=64)(hq:Q .none H):Calls c true (d+2) "need_lines" [.int n] none Q E H:=
 zp7 C rfl rfl (fun J=>hq) (fun h=>absurd (am_nat (lo:=1) (hi:=64) h1 h2) (by rw[show zdt ((1:Nat):Int) ((64:Nat):Int) (.int n)=false from h];decide))
theorem s_one9(P:Has c "one_by_one" 1 2 zhc)(C:Chk9 c)(hn1:1<=n)(hn:n<=64)(hc:q=true)
  (hq:∀a' bs' H',NetAt H' a' bs' (ze1 n)->Stay [] H H'->Q (.lst a') H'):Calls c q (d+3) "one_by_one" [.int n] none Q E H:=by
 subst hc
 refine P true (d+2) _ Q E H rfl (Ss_go ?_)
 walk_at ""
 refine zra (d:=d) C hn1 hn ?_
 walk_at ""
 rw[show(n:Int)-1=((n-1:Nat):Int) by exact ar1 [_] [] kbo (Y5 (Y2 (Y4 V0 J0) J1) (Y4 (Y2 V0 J1) J0)) (Y0 J1 V0) hn1]
 refine Opt.mk (zdl (by exact ar1 [_] [] kai (Y1 (Y2 V0 J1) (.l 100000)) (Y0 V0 (.l 64)) hn)) ?_
 walk_at ""
 refine Opt.mk (zpu (H:=H)) ⟨zck (by rw[zab,zas];exact ar1 [_] [] kai (Y1 (Y2 V0 J1) (.l 100000)) (Y0 V0 (.l 64)) hn),?_⟩
 refine zdr ((ze1 n).map fun y=>y.map pr) (by rw[ze1,zab,zab,zab]) ?_ (fun J J=>trivial) ?_
 ·intro i x y acc H' K hx hy st hK
  rw[ze1,za0,zal] at hy
  rw[zal] at hx
  revert hx;refine xM fun z hz wj=>?_;subst wj
  rw[hz] at hy
  obtain rfl:=zaa hy
  exact hK _ _ Stay.refl.app zcd (zae _)
 ·intro cs H' RR
  exact hq _ cs _ RR.net RR.st.app
theorem zqz(M:FnsM9 c):∀(N:Nat){n:Nat}{H:Hp}{d:Nat}{Q:V->Hp->Prop}{E:XPost},1<=n->n<=N->N<=64->(∀a' bs' H',NetAt H' a' bs' (zih n)->Stay [] H H'->Q (.lst a') H')->Calls c true (d+N+2) "by_pairs" [.int n] none Q E H
 |0,_,_,_,_,_,h1,h2,_,_=>absurd (zac h1 h2) (by decide)
 |N+1,n,H,d,Q,E,hn1,hn,hN,hq=>by
  have hN':=Nat.le_of_succ_le hN
  refine M.pairs true (d+N+2) _ Q E H rfl (Ss_go ?_)
  walk_at ""
  refine zra (d:=d+N) M.chk hn1 (zac hn hN) ?_
  walk_at ""
  refine zcf (fun h=>?_) (fun h=>?_)
  ·have h:n=1:=Int.ofNat_inj.mp h
   subst h
   refine Ss_go ?_
   walk_at ""
   exact hq _ [] _ ⟨zcd,rfl,fun J J J h=>nomatch h⟩ Stay.refl.app
  ·have h:n≠1:=fun e=>h (Int.ofNat_inj.mpr e)
   walk_at ""
   refine zcv (b:=2) (by decide) ?_
   walk_at ""
   obtain⟨m,k,e1,_,h1,h2,_,h4,e2,_,_⟩:=zf0 hn1 h hn
   have hp:=zjb h1 h2 e1 e2
   rw[e2]
   have F:=zks k h2
   have hk:=zac h4 hN'
   refine zqz M N h2 h4 hN' fun a1 bs1 H1 N1 st1=>?_
   walk_at ""
   refine s_paired M.paired N1 hn1 (zac hn hN) (zva F.2 hk) (zme F.1.ok hk) rfl fun a2 bs2 H2 N2 st2=>?_
   refine hq _ bs2 _ ?_ (st1.trans0 st2)
   rw[hp];exact N2
theorem zj9(M:FnsM9 c):∀(N:Nat){n:Nat}{H:Hp}{d:Nat}{Q:V->Hp->Prop}{E:XPost},1<=n->n<=N->N<=64->(∀a' bs' H',NetAt H' a' bs' (zfr n)->Stay [] H H'->Q (.lst a') H')->Calls c true (d+N+2) "by_halves" [.int n] none Q E H
 |0,_,_,_,_,_,h1,h2,_,_=>absurd (zac h1 h2) (by decide)
 |N+1,n,H,d,Q,E,hn1,hn,hN,hq=>by
  have hN':=Nat.le_of_succ_le hN
  refine M.halves true (d+N+2) _ Q E H rfl (Ss_go ?_)
  walk_at ""
  refine zra (d:=d+N) M.chk hn1 (zac hn hN) ?_
  walk_at ""
  refine zcf (fun h=>?_) (fun h=>?_)
  ·have h:n=1:=Int.ofNat_inj.mp h
   subst h
   refine Ss_go ?_
   walk_at ""
   exact hq _ [] _ ⟨zcd,rfl,fun J J J h=>nomatch h⟩ Stay.refl.app
  ·have h:n≠1:=fun e=>h (Int.ofNat_inj.mpr e)
   walk_at ""
   refine zcv (a:=n+1) (b:=2) (by decide) ?_
   walk_at ""
   obtain⟨m,k,e1,e2,h1,h2,h3,h4,_,_,_⟩:=zf0 hn1 h hn
   have hp:=zil h1 h2 e1 e2
   rw[e2,sub_of e1]
   have F1:=zg6 m h1
   have F2:=zg6 k h2
   have hm:=zac h3 hN'
   have hk:=zac h4 hN'
   refine zj9 M N h1 h3 hN' fun a1 bs1 H1 N1 st1=>?_
   walk_at ""
   refine zj9 M N h2 h4 hN' fun a2 bs2 H2 N2 st2=>?_
   walk_at ""
   refine s_parted M.parted M.side M.moved (N1.grow st2) N2 h1 hm hk (zva F1.2 hm) (zva F2.2 hk) (zme F1.1.ok hm) (zme F2.1.ok hk) rfl fun a3 bs3 H3 N3 st3=>?_
   refine hq _ bs3 _ ?_ (st1.trans0 (st2.trans0 st3))
   rw[hp];exact N3
theorem s_dbl9(P:Has c "doubled" 1 4 zk4)(C:Chk9 c)(hn1:1<=n)(hn:n<=64)(hc:q=true)
  (hq:∀a' bs' H' net,Fine n net->net.length<=70->NetAt H' a' bs' net->Stay [] H H'->Q (.lst a') H'):Calls c q (d+3) "doubled" [.int n] none Q E H:=by
 subst hc
 refine P true (d+2) _ Q E H rfl (Ss_go ?_)
 walk_at ""
 refine zra (d:=d) C hn1 hn ?_
 walk_at ""
 refine⟨rfl,.mk (DblInv H n H.length) (2*n-1) (.mk 1 [] [] _ _ (zae _) (by exact ar1 [_] [] 0x61a08528003101001840000005280030808018400014202002200ca50006100c03080202840400440 (Y2 (Y0 (Y2 (Y1 J2 V0) J1) J1) (Y1 J2 V0)) (Y0 J1 V0) hn1) (fun J h=>nomatch h) (dbl_zero n) (by decide) (by decide) ⟨zcd,rfl,fun J J J h=>nomatch h⟩ zbd Stay.refl.app) ?_⟩
 intro m l' H' hI
 refine hI _ fun s net bs v3 h1 hm hok ht hl hl2 N ap st wg=>?_;clear hI;subst wg
 walk_at ""
 refine zcf (fun h=>?_) (fun h=>?_)
 ·have h:s<n:=zaq.mp h
  refine Ss_go ?_
  walk_at ""
  refine⟨rfl,?_⟩
  walk_at ""
  refine Opt.mk (range2 (by exact ar2 [_,_] [] kab (Y1 V0 (.l 1000)) (Y0 V1 (.l 64)) (Y1 V0 V1) hn h) (by exact ar1 [_] [] kaa (Y1 V0 (.l 1000)) (Y0 V0 (.l 64)) hn)) ?_
  walk_at ""
  refine Opt.mk (zqh (H:=H') (m:=s) (n:=n)) ⟨zck (by rw[zab,zas];exact ar1 [_,_] [] 0x65294001840300c20200610000508401 (Y1 (Y2 V0 V1) (.l 100000)) (Y0 V0 (.l 64)) hn),?_⟩
  refine zc0 (g:=fun i=>pr (i,i+s)) trivial (fun i hi K hK=>?_) ?_
  ·unfold nat
   walk_at ""
   rw[show((s+i:Nat):Int)-(s:Int)=((i:Nat):Int) by exact ar0 [_,_] [] kac (Y5 (Y2 (Y4 (Y0 V0 V1) J0) (Y4 V0 J0)) (Y4 V1 J0)),Nat.add_comm s i]
   exact hK
  have st5:=(Stay.refl (S:=[]) (H:=H')).app (xs:=(List.range (n-s)).map fun i=>pr (i,i+s))
  have N5:=N.grow st5
  walk_at ""
  refine Opt.mk (zcx N5.top (by rw[zab,N.len];exact ar3 [_,_,_] [] 0xa5294001880000c20080610080308060 (Y1 V0 (.l 10000)) (Y0 V1 (.l 64)) (Y0 (Y1 J2 V0) (Y0 V2 J1)) (Y1 V2 V1) hn hl h)) ?_
  walk_at ""
  refine zi0 (by decide) ?_
  walk_at ""
  refine⟨2*n-2*s,by exact ar3 [_,_,_] [] 0x1a08528003101201840000005294a000c202006101404080c018400014810880400440 (Y1 (Y2 (Y1 J2 V0) (Y1 J2 V1)) V2) (Y0 J1 V1) (Y2 (Y0 V2 V1) (Y1 J2 V0)) (Y1 V1 V0) h1 hm h,.mk (2*s) (net++[zei n s]) (bs++[H'.length]) _ _ (by exact ar1 [_] [] kae (Y0 J1 (Y1 J2 V0)) (Y0 J1 V0) h1) (by exact ar1 [_,_] [] 0x1868214a000c404006100000014a000c202006100005204220100110065280030806018401014810880400440 (Y2 (Y0 (Y2 (Y1 J2 V0) (Y1 J2 V1)) (Y1 J2 V1)) (Y1 J2 V0)) (Y1 V1 V0) h) (fun y hy=>(zaj.mp hy).elim (hok y) fun hy=>?_) (dbl_next ht h1) (by rw[zak];show 2*(net.length+1)<=_;exact ar1 [_,_] [] kae (Y0 (Y1 J2 (Y0 V0 J1)) (Y0 (Y1 J2 V1) J1)) (Y1 V0 V1) hl2) (by rw[zak];show net.length+1<_;exact ar1 [_,_] [] kae (Y1 (Y0 V0 J1) (Y1 J2 V1)) (Y1 V0 V1) hl2)
   (N5.push ap (by rw[zcd,zei,za0];rfl) (Nat.ne_of_gt (N.lt _ zad))) (fun hm=>(zaj.mp hm).elim ap fun e=>zar (N.lt _ zad) (zaf.mp e)) ((st.trans0 st5).set (.inr (zae _)))⟩
  rw[zaf.mp hy];exact dbl_ok h1 h
 ·have h:n<=s:=za7 fun q=>h (zaq.mpr q)
  walk_at ""
  exact hq _ bs _ net (fine_dbl hok ht h1 h) (by exact ar3 [_,_,_,_] [] 0xa5294001880000c40080610080308060 (Y0 V0 (.l 70)) (Y0 V1 (.l 64)) (Y2 (Y0 V2 V3) (Y1 J2 V1)) (Y0 (Y1 J2 V0) (Y0 V3 J1)) hn hm hl) N st
structure MadeN(n:Nat)(net:Net):Prop where
 ok:zg5 n net
 len:net.length<=70
 tells:zci n net=true
theorem Fine.does{net:Net}(F:Fine n net):zci n net=true:=(ziz (zke F.ok)).mpr F.whole
theorem MadeN.of{net:Net}(F:Fine n net)(h:net.length<=70):MadeN n net:=⟨⟨zac h (by decide),F.ok⟩,h,F.does⟩
theorem s_made11(F:FnsD c){cell:Int}(hn:1<=n/\n<=64)(hw:4<=w->n<=32)(hc:q=true)
  (hq:∀a bs H' net,MadeN n net->NetAt H' a bs net->Stay [] H H'->Q (.lst a) H'):Calls c q (d+70) "_law_made" [.int w,.int cell,.int n] none Q E H:=by
 subst hc
 refine F.made true (d+69) _ Q E H rfl (Ss_go ?_)
 walk_at ""
 refine zcf (fun J=>?_) (fun h0=>?_)
 ·refine Ss_go ?_
  walk_at ""
  refine s_one9 (d:=d+66) F.one F.m.chk hn.1 hn.2 rfl fun a' bs' H' N st=>?_
  exact hq _ _ _ _ (MadeN.of (fine_one n) (by rw[ze1,zab,zas];exact ar1 [_] [] kai (Y0 (Y2 V0 J1) (.l 70)) (Y0 V0 (.l 64)) hn.2)) N st
 walk_at ""
 refine zcf (fun J=>?_) (fun h1=>?_)
 ·refine Ss_go ?_
  walk_at ""
  refine s_dbl9 (d:=d+66) F.dbl F.m.chk hn.1 hn.2 rfl fun a' bs' H' net fi hl N st=>?_
  exact hq _ _ _ _ (MadeN.of fi hl) N st
 walk_at ""
 refine zcf (fun J=>?_) (fun h2=>?_)
 ·refine Ss_go ?_
  walk_at ""
  have hf:=zg6 n hn.1
  refine zj9 (d:=d+3) F.m 64 hn.1 hn.2 (zae _) fun a' bs' H' N st=>?_
  exact hq _ _ _ _ (MadeN.of hf.1 (by exact ar2 [_,_] [] 0x194a528003080601840400c20280610000508021 (Y0 V0 (.l 70)) (Y0 V1 (.l 64)) (Y0 V0 (Y2 V1 J1)) hn.2 hf.2)) N st
 walk_at ""
 refine zcf (fun J=>?_) (fun h3=>?_)
 ·refine Ss_go ?_
  walk_at ""
  have hf:=zks n hn.1
  refine zqz (d:=d+3) F.m 64 hn.1 hn.2 (zae _) fun a' bs' H' N st=>?_
  exact hq _ _ _ _ (MadeN.of hf.1 (by exact ar2 [_,_] [] 0x194a528003080601840400c20280610000508021 (Y0 V0 (.l 70)) (Y0 V1 (.l 64)) (Y0 V0 (Y2 V1 J1)) hn.2 hf.2)) N st
 walk_at ""
 have h32:=hw (by exact ar4 [_] [] 0x3a985280030806018400014a000c20080610000a294001840100c20000a50006100803080002800308000 (Y0 (.l 4) V0) (Y8 (Y5 (Y4 V0 J0) J0) J0) (Y8 (Y5 (Y4 V0 J0) J1) J0) (Y8 (Y5 (Y4 V0 J0) J2) J0) (Y8 (Y5 (Y4 V0 J0) (.l 3)) J0) h0 h1 h2 h3)
 refine zvu (d:=d+66) F.telling F.thinner F.place hn.1 hn.2 rfl fun a bs net H1 T N st J J=>?_
 exact hq _ _ _ _ (MadeN.of T.fine (zac T.len (by exact ar1 [_] [] kaa (Y0 (Y0 V0 (.l 3)) (.l 70)) (Y0 V0 (.l 64)) hn.2))) N st
variable {w:V}
noncomputable def num:List Nat->Nat
 |[]=>0
 |x::r=>x+2*num r
theorem zlp(x:Nat):∀l:List Nat,num (l++[x])=num l+x*2^l.length
 |[]=>by show x+2*0=0+x*1;exact ar0 [_] [] kac (Y2 (Y0 V0 J0) (Y0 J0 (Y1 V0 J1)))
 |y::l=>by
  show y+2*num (l++[x])=y+2*num l+x*2^(l.length+1)
  rw[zlp x l,Nat.pow_succ,Nat.mul_add,Nat.mul_comm (2^l.length) 2,<-Nat.mul_assoc,<-Nat.mul_assoc,Nat.mul_comm x 2,Nat.add_assoc]
noncomputable def val(f:Nat->Nat):Nat->Nat
 |0=>0
 |n+1=>val f n+f n*2^n
theorem zgs:val f (n+1)=val f n+f n*2^n:=rfl
theorem zo6(f:Nat->Nat):∀n,num ((List.range n).map f)=val f n
 |0=>rfl
 |n+1=>by rw[List.range_succ,zan,List.map_singleton,zlp,zo6 f n,zab,zas,zgs]
noncomputable def cN(s:Nat->Nat):Nat->Nat
 |0=>0
 |k+1=>(s k+cN s k)/2
theorem zp0:cN s (k+1)=(s k+cN s k)/2:=rfl
theorem cN_le(h:∀k,s k<=2):∀k,cN s k<=1
 |0=>zax _
 |k+1=>by have:=h k;have:=cN_le h k;rw[zp0];exact ar2 [_,_] [] 0xca5294001880200c202006100c03080003080308401 (Y0 (Y3 (Y0 V0 V1) J2) J1) (Y0 V1 J1) (Y0 V0 J2) this (by assumption)
theorem znr(s:Nat->Nat):∀n,val (fun k=>(s k+cN s k)%2) n+cN s n*2^n=val s n
 |0=>rfl
 |n+1=>by
  have ih:=znr s n
  rw[zgs,zgs,<-ih,zp0,Nat.pow_succ,Nat.mul_comm (2^n) 2,<-Nat.mul_assoc,Nat.add_assoc,<-Nat.add_mul,Nat.add_assoc,<-Nat.add_mul,show(s n+cN s n)%2+(s n+cN s n)/2*2=cN s n+s n by exact ar0 [_,_] [] 0x186528003080401840001c401842008ca50006100804080003880308401 (Y2 (Y0 (Y4 (Y0 V0 V1) J2) (Y1 (Y3 (Y0 V0 V1) J2) J2)) (Y0 V1 V0))]
noncomputable def resN(s:Nat->Nat)(n:Nat):List Nat:=(List.range n).map (fun k=>(s k+cN s k)%2)++[cN s n]
noncomputable def zde(xs ys:List Nat)(k:Nat):Nat:=xs.getD k 0+ys.getD k 0
theorem zw0(f g:Nat->Nat):∀n,val (fun k=>f k+g k) n=val f n+val g n
 |0=>rfl
 |n+1=>by rw[zgs,zgs,zgs,zw0 f g n,Nat.add_mul];exact ar0 [_,_,_,_] [] kac (Y2 (Y0 (Y0 V0 V1) (Y0 V2 V3)) (Y0 (Y0 V0 V2) (Y0 V1 V3)))
theorem zsn(xs:List Nat):(List.range xs.length).map (fun k=>xs.getD k 0)=xs:=by
 refine List.ext_getElem? fun i=>?_
 rw[zal]
 by_cases h:i<xs.length
 ·rw[zbs h,zai h]
  show some (xs.getD i 0)=_
  rw[zao,zai h];rfl
 ·rw[zb2 (by rw[zas];exact za7 h),zb2 (za7 h)];rfl
theorem num_eq(xs:List Nat)(h:xs.length=n):num xs=val (fun k=>xs.getD k 0) n:=by
 rw[<- zo6,<-h,zsn]
theorem num_res(hx:xs.length=n)(hy:ys.length=n):num (resN (zde xs ys) n)=num xs+num ys:=by
 rw[resN,zlp,zo6,zab,zas,znr,num_eq xs hx,num_eq ys hy,<-zw0];rfl
def Fig(xs:List Nat):Prop:=∀x∈xs,x<=1
theorem Fig.get(h:Fig xs)(k:Nat):xs.getD k 0<=1:=by
 rw[zao]
 refine xC (xs[k]?) (fun e=>?_) fun x e=>?_
 ·exact zax _
 ·exact h x (zam e)
theorem sum_le(hx:Fig xs)(hy:Fig ys)(k:Nat):zde xs ys k<=2:=Nat.add_le_add (hx.get k) (hy.get k)
noncomputable def figM(s:Nat->Nat)(k:Nat):List Nat:=[s k/2,(s k+1)/2]
theorem zvb(h:∀k,s k<=2)(n:Nat):okS 2 n (figM s):=fun k J=>⟨rfl,fun i hi=>by
 have:=h k
 rcases zah.mp hi with rfl |hi
 ·exact ar1 [_] [] kax (Y1 (Y3 V0 J2) J2) (Y0 V0 J2) this
 ·rw[zaf.mp hi];exact ar1 [_] [] 0x3294a000c401006100c03080003080308001 (Y1 (Y3 (Y0 V0 J1) J2) J2) (Y0 V0 J2) this⟩
theorem zle(h:∀k,s k<=2):∀n,zoq (figM s) 0 (List.range n)=cN s n
 |0=>rfl
 |n+1=>by
  rw[List.range_succ,zoq,List.foldl_append]
  show(figM s n).getD (zoq (figM s) 0 (List.range n)) 0=_
  rw[zle h n,zp0]
  have:=cN_le h n
  rcases(show cN s n=0\/cN s n=1 by exact ar1 [_] [] 0x4320a5000610140308000294001840100c20000a000c2000000 (Y7 (Y2 V0 J0) (Y2 V0 J1)) (Y0 V0 J1) this) with e |e<;>rw[e]<;>rfl
theorem zr1(h:∀k,s k<=2){net:Net}(hf:Fair n net)(ht:zci n net=true)(hx:x<n):∃b,runN jM net (figM s) x=[cN s (x+1),b]:=by
 obtain⟨ok,e,_⟩:=zus (zvb h n) hf ht hx
 have e0:=e 0 (by decide)
 rw[zle h] at e0
 generalize runN jM net (figM s) x=m at ok e0
 match m,ok.1 with
 |[a,b],_=>exact⟨b,by rw[<- show a=_ from e0]⟩
variable {k:Clo}{xs:List V}
noncomputable def zof:List St:=[.ite (.or [.not (.isi (.wx 1) .list),.not (.cmp (.ww 1) [.le,.le] [.blt .len [.wx 1],.ww 64])]) [.rais "BadLines" [.lit (.str "a list of 1 to 64 figures is wanted")]] [],.ite (.or [.not (.isi (.wx 2) .list),.cmp (.blt .len [.wx 2]) [.ne] [.blt .len [.wx 1]]]) [.rais "BadLines" [.lit (.str "as many figures are wanted")]] [],.loop (.one 3) (.val (.bin .add (.wx 1) (.wx 2))) [.ite (.not (.call "is_among" [.wx 3,.ww 0,.ww 1])) [.rais "BadThing" [.lit (.str "a figure is 0 or 1")]] []],.expr (.call "need_telling" [.blt .len [.wx 1],.wx 0]),.set 4 (.comp (.bin .add (.idx (.wx 1) (.wx 7)) (.idx (.wx 2) (.wx 7))) (.one 7) (.blt .range [.blt .len [.wx 1]]) []),.set 5 (.call "led" [.wx 0,.lit (.str "map"),.comp (.tup [.bin .div (.wx 7) (.ww 2),.bin .div (.bin .add (.wx 7) (.ww 1)) (.ww 2)]) (.one 7) (.wx 4) []]),.set 6 (.bin .add (.list [.ww 0]) (.comp (.idx (.wx 7) (.ww 0)) (.one 7) (.wx 5) [])),.ret (.bin .add (.comp (.bin .mod (.bin .add (.idx (.wx 4) (.wx 7)) (.idx (.wx 6) (.wx 7))) (.ww 2)) (.one 7) (.blt .range [.blt .len [.wx 4]]) []) (.list [.idx (.wx 6) (.neg (.ww 1))]))]
noncomputable def zkj:List St:=[.tri [.ret (.tup [.call "added" [.wx 0,.wx 1,.wx 2]])] 3 [.ret (.call "_law_word" [.wx 3])]]
noncomputable def zfx:List St:=[.set 2 (.list []),.loop (.one 3) (.val (.blt .range [.wx 1])) [.set 0 (.bin .mod (.bin .mul (.wx 0) (.ww 16807)) (.ww 2147483647)),.expr (.meth .append (.wx 2) [.bin .mod (.bin .div (.wx 0) (.ww 64)) (.ww 2)])],.ret (.wx 2)]
noncomputable def zfz:List St:=[.set 1 (.ww 0),.loop (.one 2) (.rev (.wx 0)) [.set 1 (.bin .add (.bin .mul (.ww 2) (.wx 1)) (.wx 2))],.ret (.wx 1)]
noncomputable def p11_law:List St:=[.set 1 (.call "_law_lines_by" [.call "_law_cell_at" [.wx 0,.ww 0]]),.set 2 (.bin .mod (.bin .mul (.call "_law_cell_at" [.wx 0,.ww 1]) (.ww 48271)) (.ww 2147483647)),.set 3 (.bin .mod (.wx 2) (.ww 7)),.ite (.and [.cmp (.bin .mod (.bin .div (.wx 2) (.ww 7)) (.ww 3)) [.eq] [.ww 1],.cmp (.wx 3) [.lt] [.ww 4]]) [.set 1 (.bin .add (.ww 33) (.bin .mod (.bin .div (.wx 2) (.ww 21)) (.ww 32)))] [],.set 4 (.call "_law_made" [.wx 3,.call "_law_cell_at" [.wx 0,.ww 2],.wx 1]),.set 5 (.call "_law_figures" [.bin .add (.ww 1) (.bin .mod (.call "_law_cell_at" [.wx 0,.ww 3]) (.ww 2147483646)),.wx 1]),.set 6 (.call "_law_figures" [.bin .add (.ww 1) (.bin .mod (.call "_law_cell_at" [.wx 0,.ww 4]) (.ww 2147483646)),.wx 1]),.ite (.cmp (.bin .mod (.bin .div (.wx 2) (.ww 63)) (.ww 3)) [.eq] [.ww 1]) [.set 6 (.comp (.bin .sub (.ww 1) (.wx 10)) (.one 10) (.wx 5) []),.put (.wx 6) (.bin .mod (.bin .div (.wx 2) (.ww 189)) (.wx 1)) (.ww 1)] [],.ite (.cmp (.bin .mod (.bin .div (.wx 2) (.ww 13)) (.ww 4)) [.eq] [.ww 1]) [.ret (.call "_law_refused" [.wx 4,.wx 5,.wx 6,.bin .mod (.bin .mul (.call "_law_cell_at" [.wx 0,.ww 5]) (.ww 48271)) (.ww 2147483647)])] [],.set 7 (.list [.comp (.blt .list [.wx 10]) (.one 10) (.wx 4) [],.blt .list [.wx 5],.blt .list [.wx 6]]),.set 8 (.call "_law_tried" [.idx (.wx 7) (.ww 0),.idx (.wx 7) (.ww 1),.idx (.wx 7) (.ww 2)]),.ite (.or [.not (.isi (.wx 8) .tuple),.not (.isi (.idx (.wx 8) (.ww 0)) .list),.cmp (.blt .len [.idx (.wx 8) (.ww 0)]) [.ne] [.bin .add (.wx 1) (.ww 1)]]) [.ret (.lit (.bool false))] [],.ite (.not (.blt .all [.comp (.and [.call "_law_whole" [.wx 10],.cmp (.ww 0) [.le,.le] [.wx 10,.ww 1]]) (.one 10) (.idx (.wx 8) (.ww 0)) []])) [.ret (.lit (.bool false))] [],.ite (.cmp (.call "_law_number" [.idx (.wx 8) (.ww 0)]) [.ne] [.bin .add (.call "_law_number" [.wx 5]) (.call "_law_number" [.wx 6])]) [.ret (.lit (.bool false))] [],.set 9 (.blt .list [.idx (.wx 8) (.ww 0)]),.expr (.meth .append (.idx (.wx 8) (.ww 0)) [.ww 1]),.ret (.and [.cmp (.wx 7) [.eq] [.list [.wx 4,.wx 5,.wx 6]],.cmp (.call "added" [.idx (.wx 7) (.ww 0),.idx (.wx 7) (.ww 1),.idx (.wx 7) (.ww 2)]) [.eq] [.wx 9]])]
structure Fns11(c:Cx):Prop where
 p:FnsP c
 does:Has c "does_tell" 2 8 zgy
 ntell:Has c "need_telling" 2 2 zfv
 added:Has c "added" 3 8 zof
 word:Has c "_law_word" 1 2 zfy
 tried:Has c "_law_tried" 3 4 zkj
theorem zxg{Q:List V->(Hp->Prop)->Hp->Prop} {E}(h:wpE C q d k e l (fun v H=>Opt (srcV H v) fun items=>Q items (okV v items) H) E H):wpSr C q d k (.val e) l Q E H:=h
theorem zo7{Q:SPost}{w:Str}(h:EE (.exc cn (atOf cn [.str w])) l H):wpSs C true d k [.rais cn [(.lit (.str w))]] Q EE l H:=by
 refine Ss_go ?_
 walk_at ""
 exact⟨rfl,h⟩
theorem zvh(F:Fns11 c)(hv:isiV v .list=some false\/∃a xs,v=.lst a/\H[a]?=some xs/\¬(1<=xs.length/\xs.length<=64))(hc:q=true)(hq:E (.exc "BadLines" .none) H):Calls c q (d+1) "added" [z,v,w] none Q E H:=by
 subst hc
 have hq':EndX E (.exc "BadLines" (atOf (qab "BadLines") [V.str "a list of 1 to 64 figures is wanted"])) [some z,some v,some w,none,none,none,none,none] H:=by
  rw[zl1];exact hq
 refine F.added true d _ Q E H rfl (Ss_go ?_)
 walk_at ""
 rcases hv with hv |⟨a,xs,rfl,ha,hb⟩
 ·refine Opt.mk hv ?_
  walk_at ""
  exact⟨rfl,hq'⟩
 ·walk_at ""
  refine Opt.mk (zcn ha) ?_
  walk_at ""
  refine zcf (fun h1=>?_) (fun h1=>?_)
  ·refine zfl (fun h2=>?_) (fun h2=>absurd ⟨zaw.mp h1,zaw.mp h2⟩ hb)
   exact zo7 hq'
  ·exact zo7 hq'
theorem zqs(ha:H[a]?=some xs)(h1:1<=xs.length)(h2:xs.length<=64)(hv:v=.lst a)(h:wpSs (Calls c) true d none (zof.drop 1) QQ EE [some z,some v,some w,none,none,none,none,none] H) :
  wpSs (Calls c) true d none zof QQ EE [some z,some v,some w,none,none,none,none,none] H:=by
 subst hv
 refine Ss_go ?_
 walk_at ""
 refine Opt.mk (zcn ha) ?_
 walk_at ""
 refine zgg (zaw.mpr h1) ?_
 refine zfl (fun h=>absurd (zaw.mpr h2) h) (fun J=>?_)
 walk_at ""
 exact h
theorem zo8(F:Fns11 c)(ha:H[a]?=some xs)(h1:1<=xs.length)(h2:xs.length<=64)(hw:isiV w .list=some false\/∃b ys,w=.lst b/\H[b]?=some ys/\ys.length≠xs.length)(hc:q=true)(hq:E (.exc "BadLines" .none) H):Calls c q (d+1) "added" [z,.lst a,w] none Q E H:=by
 subst hc
 have hq':EndX E (.exc "BadLines" (atOf (qab "BadLines") [V.str "as many figures are wanted"])) [some z,some (.lst a),some w,none,none,none,none,none] H:=by
  rw[zl1];exact hq
 refine F.added true d _ Q E H rfl (zqs ha h1 h2 rfl ?_)
 refine Ss_go ?_
 walk_at ""
 rcases hw with hw |⟨b,ys,rfl,hb,hne⟩
 ·refine Opt.mk hw ?_
  walk_at ""
  exact⟨rfl,hq'⟩
 ·walk_at ""
  refine Opt.mk (zcn hb) ?_
  walk_at ""
  refine Opt.mk (zcn ha) ?_
  walk_at ""
  refine zfl (fun J=>?_) (fun e=>absurd (Int.ofNat.inj e) hne)
  exact zo7 hq'
theorem zpk{ys:List V}(ha:H[a]?=some xs)(hb:H[b]?=some ys)(he:ys.length=xs.length)(h:wpSs (Calls c) true d none (zof.drop 2) QQ EE [some z,some (.lst a),some (.lst b),none,none,none,none,none] H) :
  wpSs (Calls c) true d none (zof.drop 1) QQ EE [some z,some (.lst a),some (.lst b),none,none,none,none,none] H:=by
 refine Ss_go ?_
 walk_at ""
 refine Opt.mk (zcn hb) ?_
 walk_at ""
 refine Opt.mk (zcn ha) ?_
 walk_at ""
 rw[he,decide_eq_true rfl]
 walk_at ""
 exact h
theorem zws(F:Fns11 c){ys:List V}(ha:H[a]?=some xs)(hb:H[b]?=some ys)(h1:1<=xs.length)(h2:xs.length<=64)(he:ys.length=xs.length)(hk:∀x∈xs++ys,(kd x).isSome=true)(hx:∃x∈xs++ys,zdt 0 1 x=false)(hc:q=true)(hq:∀H',Stay [] H H'->E (.exc "BadThing" .none) H'):Calls c q (d+2) "added" [z,.lst a,.lst b] none Q E H:=by
 subst hc
 refine F.added true (d+1) _ Q E H rfl (zqs ha h1 h2 rfl (zpk ha hb he ?_))
 refine Ss_go ?_
 walk_at ""
 refine⟨rfl,zxg ?_⟩
 walk_at ""
 refine zch (zc6 ha hb (by rw[he];exact ar1 [_] [] kae (Y1 (Y0 V0 V0) (.l 100000)) (Y0 V0 (.l 64)) h2)) fun t H1 N=>?_
 refine Opt.mk (zdh N.hold) ?_
 have key:∀(r:List V),(∀x∈r,(kd x).isSome=true)->(∃x∈r,zdt 0 1 x=false)->∀(v:Option V) {QQ:SPost} {ok:Hp->Prop},ok H1->zhx ok (fun x l Q H=>Opt (zg8 (.one 3) x l) fun l'=>wpSs (Calls c) true (d+1) none [.ite (.not (.call "is_among" [(.var 3),(.lit (.int 0)),(.lit (.int 1))])) [.rais "BadThing" [(.lit (.str "a figure is 0 or 1"))]] []] Q (EndX E) l' H) r QQ [some z,some (.lst a),some (.lst b),v,none,none,none,none] H1:=by
  intro r
  induction r with
  |nil=>intro _ hx;obtain⟨_,h,_⟩:=hx;exact nomatch h
  |cons x r ih=>
   intro hk' hx v QQ ok hok
   refine Opt.mk rfl (Ss_go ?_)
   walk_at ""
   refine zls F.p.chk.among (hk' x zad) ?_
   refine xD (zdt 0 1 x) (fun e=>?_) fun e=>?_
   ·walk_at ""
    refine⟨hok,ih (fun y hy=>hk' y (zag _ hy)) ?_ _ hok⟩
    obtain⟨y,hy,hy2⟩:=hx
    rcases zah.mp hy with rfl |hy
    ·rw[e] at hy2;injection hy2
    ·exact⟨y,hy,hy2⟩
   ·walk_at ""
    refine⟨rfl,?_⟩
    show EndX E (.exc "BadThing" (atOf _ _)) _ _
    rw[at_thing];exact hq _ N.st
 exact key _ hk hx _ N.hold
theorem zuf(F:Fns11 c){xs:List Nat}(ha:H[a]?=some (xs.map nat))(hb:H[b]?=some (ys.map nat))(fx:Fig xs)(fy:Fig ys)(hz:xs.length+ys.length<1000)(h:∀v H',Stay [] H H'->wpSs (Calls c) true (d+1) none (zof.drop 3) QQ EE [some z,some (.lst a),some (.lst b),v,none,none,none,none] H') :
  wpSs (Calls c) true (d+1) none (zof.drop 2) QQ EE [some z,some (.lst a),some (.lst b),none,none,none,none,none] H:=by
 refine Ss_go ?_
 walk_at ""
 refine⟨rfl,zxg ?_⟩
 walk_at ""
 refine zch (zc6 ha hb (by rw[zab,zab];exact ar1 [_,_] [] kaa (Y1 (Y0 V0 V1) (.l 100000)) (Y1 (Y0 V0 V1) (.l 1000)) hz)) fun t H1 N=>?_
 refine Opt.mk (zdh N.hold) ?_
 rw[<- zan]
 have key:∀(r:List Nat),(∀x∈r,x<=1)->∀(v:Option V) {ok:Hp->Prop},ok H1->zhx ok (fun x l Q H=>Opt (zg8 (.one 3) x l) fun l'=>wpSs (Calls c) true (d+1) none [.ite (.not (.call "is_among" [(.var 3),(.lit (.int 0)),(.lit (.int 1))])) [.rais "BadThing" [(.lit (.str "a figure is 0 or 1"))]] []] Q EE l' H) (r.map nat) (Then (wpSs (Calls c) true (d+1) none (zof.drop 3) QQ EE) QQ) [some z,some (.lst a),some (.lst b),v,none,none,none,none] H1:=by
  intro r
  induction r with
  |nil=>intro _ v ok hok;exact h v _ N.st
  |cons x r ih=>
   intro hr v ok hok
   refine Opt.mk rfl (Ss_go ?_)
   unfold nat
   walk_at ""
   refine zgm F.p.chk.among (zbl x) (zaw.mpr (hr x zad)) ?_
   walk_at ""
   exact⟨hok,ih (fun y hy=>hr y (zag _ hy)) _ hok⟩
 exact key _ (fun x hx=>(zaj.mp hx).elim (fx x) (fy x)) _ (by rw[zan];exact N.hold)
theorem s_add(F:Fns11 c){xs:List Nat}{net:Net}(A:NetAt H m bs net)(ok:zg5 n net)(ha:H[a]?=some (xs.map nat))(hb:H[b]?=some (ys.map nat))(hx:xs.length=n)(hy:ys.length=n)(fx:Fig xs)(fy:Fig ys)(hn:1<=n/\n<=64)(hc:q=true)
  (hq:zci n net=true->∀t H',New H t ((resN (zde xs ys) n).map nat) H'->Q (.lst t) H') (hE:zci n net=false->∀H',Stay [] H H'->E (.exc "NoNet" .none) H'):Calls c q (d+7) "added" [.lst m,.lst a,.lst b] none Q E H:=by
 subst hc
 have hs:=sum_le fx fy
 refine F.added true (d+6) _ Q E H rfl (zqs ha (by rw[zab,hx];exact hn.1) (by rw[zab,hx];exact hn.2) rfl (zpk ha hb (by rw[zab,zab,hx,hy]) (zuf F ha hb fx fy (by exact ar3 [_,_,_] [] 0xa5294001840000c20080610080310060 (Y1 (Y0 V0 V1) (.l 1000)) (Y2 V0 V2) (Y2 V1 V2) (Y0 V2 (.l 64)) hx hy hn.2) fun v3 H1 st1=>?_)))
 refine Ss_go ?_
 walk_at ""
 refine Opt.mk (zcn (at0 st1 ha)) ?_
 rw[zab,hx]
 walk_at ""
 refine s_ntell (d:=d+1) F.ntell F.does F.p.chk (A.grow st1) hn ok rfl (fun ht H2 st2=>?_) (fun ht H2 st2=>hE ht _ (st1.trans0 st2))
 have s2:=st1.trans0 st2
 walk_at ""
 refine Opt.mk (zcn (at0 s2 ha)) ?_
 rw[zab,hx]
 walk_at ""
 refine Opt.mk (zdl (by exact ar1 [_] [] kaa (Y1 V0 (.l 100000)) (Y0 V0 (.l 64)) hn.2)) ?_
 walk_at ""
 refine Opt.mk (zpu (H:=H2)) ⟨zck (by rw[zab,zas];exact ar1 [_] [] kaa (Y1 V0 (.l 100000)) (Y0 V0 (.l 64)) hn.2),?_⟩
 have gx:∀k,k<n->xs[k]?=some (xs.getD k 0):=fun k hk=>by rw[zao,zai (hx.symm▸hk)];rfl
 have gy:∀k,k<n->ys[k]?=some (ys.getD k 0):=fun k hk=>by rw[zao,zai (hy.symm▸hk)];rfl
 refine zc0 (g:=fun k=>nat (zde xs ys k)) trivial (fun k hk K hK=>?_) ?_
 ·have hk:=zbo.mp hk
  unfold nat
  walk_at ""
  refine Opt.mk (zds (at0 s2 ha) (gx k hk)) ?_
  walk_at ""
  refine Opt.mk (zds (at0 s2 hb) (gy k hk)) ?_
  walk_at ""
  rw[<- Int.natCast_add]
  exact hK
 have N3:New H2 H2.length ((List.range n).map fun k=>nat (zde xs ys k)) (H2++[(List.range n).map fun k=>nat (zde xs ys k)]):=.mk0
 generalize H2++[(List.range n).map fun k=>nat (zde xs ys k)]=H3 at N3
 generalize hs4:H2.length=s4 at N3
 clear hs4
 have s3:=s2.trans0 N3.st
 walk_at ""
 refine Opt.mk (zdh N3.hold) ⟨zck (by rw[zab,zas];exact ar1 [_] [] kaa (Y1 V0 (.l 100000)) (Y0 V0 (.l 64)) hn.2),?_⟩
 refine zc0 (f:=fun k=>nat (zde xs ys k)) (g:=fun k=>mv (figM (zde xs ys) k)) N3.hold (fun k hk K hK=>?_) ?_
 ·unfold nat
  walk_at ""
  refine zcv (b:=2) (by decide) ?_
  walk_at ""
  refine zcv (a:=zde xs ys k+1) (b:=2) (by decide) ?_
  exact hK
 have t4:=(Stay.refl (S:=[]) (H:=H3)).app (xs:=(List.range n).map fun k=>mv (figM (zde xs ys) k))
 have k4:(H3++[(List.range n).map fun k=>mv (figM (zde xs ys) k)])[H3.length]?=some (mL n (figM (zde xs ys))):=zcd
 generalize H3++[(List.range n).map fun k=>mv (figM (zde xs ys) k)]=H4 at t4 k4
 generalize H3.length=t at k4
 refine s_ledM F.p (A.grow (s3.trans0 t4)) k4 hn ok (zvb hs n) (by decide) (by decide) rfl fun g H5 N5=>?_
 have s5:=(s3.trans0 t4).trans0 N5.st
 have k5:=at0 (t4.trans0 N5.st) N3.hold
 walk_at ""
 have t6:=(Stay.refl (S:=[]) (H:=H5)).app (xs:=[V.int 0])
 refine Opt.mk (zdh (at0 t6 N5.hold)) ⟨zck (by rw[zin];exact ar1 [_] [] kaa (Y1 V0 (.l 100000)) (Y0 V0 (.l 64)) hn.2),?_⟩
 refine zc0 (f:=fun x=>mv (runN jM net (figM (zde xs ys)) x)) (g:=fun x=>nat (cN (zde xs ys) (x+1))) (at0 t6 N5.hold) (fun x hx' K hK=>?_) ?_
 ·obtain⟨b',e⟩:=zr1 hs ok.fair ht (zbo.mp hx')
  rw[e]
  walk_at ""
  exact hK
 have t7:=(Stay.refl (S:=[]) (H:=H5++[[V.int 0]])).app (xs:=(List.range n).map fun x=>nat (cN (zde xs ys) (x+1)))
 refine zch (zc6 (zdq zcd) zcd (by rw[zab,zas];show 1+n<_;exact ar1 [_] [] kaa (Y1 (Y0 J1 V0) (.l 100000)) (Y0 V0 (.l 64)) hn.2)) fun g6 H6 N6=>?_
 have k6:H6[g6]?=some (((List.range (n+1)).map (cN (zde xs ys))).map nat):=by
  rw[N6.hold,List.range_succ_eq_map,za5,za5,za0,za0,List.singleton_append];rfl
 have s6:=s5.trans0 (t6.trans0 (t7.trans0 N6.st))
 have k65:=at0 (t6.trans0 (t7.trans0 N6.st)) k5
 clear N6 t7 t6 N5 N3 t4 k4 k5
 walk_at ""
 refine Opt.mk (zcn k65) ?_
 rw[zab,zas]
 walk_at ""
 refine Opt.mk (zdl (by exact ar1 [_] [] kaa (Y1 V0 (.l 100000)) (Y0 V0 (.l 64)) hn.2)) ?_
 walk_at ""
 refine Opt.mk (zpu (H:=H6)) ⟨zck (by rw[zab,zas];exact ar1 [_] [] kaa (Y1 V0 (.l 100000)) (Y0 V0 (.l 64)) hn.2),?_⟩
 refine zc0 (g:=fun k=>nat ((zde xs ys k+cN (zde xs ys) k)%2)) trivial (fun k hk K hK=>?_) ?_
 ·have hk:=zbo.mp hk
  unfold nat
  walk_at ""
  refine Opt.mk (zc5 (x:=.int (zde xs ys k)) k65 (by rw[zal,zbs hk];rfl)) ?_
  walk_at ""
  refine Opt.mk (zds (x:=cN (zde xs ys) k) k6 (by rw[zal,zbs (Nat.lt_succ_of_lt hk)];rfl)) ?_
  walk_at ""
  rw[<- Int.natCast_add]
  refine zcw (b:=2) (by decide) ?_
  exact hK
 have t8:=(Stay.refl (S:=[]) (H:=H6)).app (xs:=(List.range n).map fun k=>nat ((zde xs ys k+cN (zde xs ys) k)%2))
 walk_at ""
 refine Opt.mk (zmt (x:=.int (cN (zde xs ys) n)) (at0 t8 k6) (by rw[List.getLast?_map,List.getLast?_map,List.range_succ,List.getLast?_concat];rfl)) ?_
 walk_at ""
 refine zch (zc6 (zdq zcd) zcd (by rw[zab,zas];show n+1<_;exact ar1 [_] [] kaa (Y1 (Y0 V0 J1) (.l 100000)) (Y0 V0 (.l 64)) hn.2)) fun g9 H9 N9=>?_
 refine hq ht _ _ ⟨s6.trans0 (t8.trans0 (Stay.refl.app.trans0 N9.st)),?_,zac (zac s6.len t8.len) (zac (Stay.refl (S:=[])).app.len N9.lo)⟩
 rw[N9.hold,resN,zan,za0];rfl
variable {k:Nat}
theorem zv2:Wd5 (qab "BadThing") "thing" false true false false false:=⟨by decide +kernel,by decide +kernel,by decide +kernel,by decide +kernel,by decide +kernel,by decide +kernel,by decide,rfl,by decide⟩
inductive DueX:V->List V->Prop
 |lines:DueX (.exc "BadLines" .none) [.str "lines"]
 |thing:DueX (.exc "BadThing" .none) [.str "thing"]
 |none:DueX (.exc "NoNet" .none) [.str "none"]
 |net (i:Nat):DueX (.exc "BadNet" (.int i)) [.str "net",.int i]
theorem DueX.word{W:List V}(h:DueX z W)(hq:∀a H',New H a W H'->Q (.lst a) H'):WordZ Q z H:=by
 cases h with
 |lines=>exact zot hq
 |thing=>exact .word _ _ _ _ _ _ rfl zv2 hq
 |none=>exact zsw hq
 |net i=>exact .net _ rfl rfl hq
theorem ok_thing:qaw (qab "thing")=true:=by decide +kernel
theorem DueX.eq {W:List V} (h:DueX z W) (ha:H[a]?=some W) (hb:H[b]?=some W):eqV H (.lst a) (.lst b)=some true:=by
 cases h with
 |lines=>exact eq_lw ok_lines ha hb
 |thing=>exact eq_lw ok_thing ha hb
 |none=>exact eq_lw ok_none ha hb
 |net i=>exact eq_nw rfl ha hb
theorem zny(F:Fns11 c)(h:∀{K:V->Hp->Prop}{X:XPost},(∀r H',Q (.tup [r]) H'->K r H')->(∀z H',WordZ Q z H'->X z H')->Calls c true (d+1) "added" [v,w,u] none K X H)(hc:q=true):Calls c q (d+2) "_law_tried" [v,w,u] none Q E H:=by
 subst hc
 refine F.tried true (d+1) _ Q E H rfl (Ss_go ?_)
 walk_at ""
 refine⟨rfl,?_⟩
 refine Ss_go ?_
 walk_at ""
 refine h (fun r H' h=>?_) (fun z H' h=>?_)
 ·exact h
 ·obtain⟨h1,h2⟩:=s_wordY2 (q:=false) (d:=d) (E:=fun J J=>False) F.word h
  refine⟨h1,?_⟩
  refine Ss_go ?_
  walk_at ""
  exact h2
def zkp(c:Cx)(v w u:V)(W:List V)(H:Hp):Prop:=∀{d:Nat}{Q:V->Hp->Prop}{E:XPost}{H':Hp},Stay [] H H'->(∀a H1 H2,Stay [] H' H1->New H1 a W H2->Q (.lst a) H2)->Calls c true (d+9) "_law_tried" [v,w,u] none Q E H'
theorem zhp(F:Fns11 c){W:List V}(D:DueX z W)(h:∀{d:Nat}{K:V->Hp->Prop}{X:XPost}{H':Hp},Stay [] H H'->(∀H1,Stay [] H' H1->X z H1)->Calls c true (d+8) "added" [v,w,u] none K X H'):zkp c v w u W H:=by
 intro d Q E H' st hq
 exact zny (d:=d+7) F (fun hK hX=>h st fun H1 st1=>hX _ _ (D.word fun a H2 N=>hq a H1 H2 st1 N)) rfl
theorem zu5(F:Fns11 c)(hv:isiV v .list=some false\/∃a xs,v=.lst a/\H[a]?=some xs/\¬(1<=xs.length/\xs.length<=64)):zkp c w v u [.str "lines"] H:=
 zhp F .lines fun st hX=>zvh F (hv.imp id fun⟨a,xs,e,h,b⟩=>⟨a,xs,e,at0 st h,b⟩) rfl (hX _ .refl)
theorem zpr(F:Fns11 c)(ha:H[a]?=some xs)(h1:1<=xs.length)(h2:xs.length<=64)(hu:isiV u .list=some false\/∃b ys,u=.lst b/\H[b]?=some ys/\ys.length≠xs.length):zkp c w (.lst a) u [.str "lines"] H:=
 zhp F .lines fun st hX=>zo8 F (at0 st ha) h1 h2 (hu.imp id fun⟨b,ys,e,h,n⟩=>⟨b,ys,e,at0 st h,n⟩) rfl (hX _ .refl)
theorem zm6(F:Fns11 c){ys:List V}(ha:H[a]?=some xs)(hb:H[b]?=some ys)(h1:1<=xs.length)(h2:xs.length<=64)(he:ys.length=xs.length)(hk:∀x∈xs++ys,(kd x).isSome=true)(hx:∃x∈xs++ys,zdt 0 1 x=false):zkp c w (.lst a) (.lst b) [.str "thing"] H:=
 zhp F .thing fun{d} {K} {X} {H'} st hX=>zws (d:=d+6) F (at0 st ha) (at0 st hb) h1 h2 he hk hx rfl hX
theorem zta(F:Fns11 c){xs:List Nat}{net:Net}(A:NetAt H m bs net)(ok:zg5 n net)(ht:zci n net=false)(ha:H[a]?=some (xs.map nat))(hb:H[b]?=some (ys.map nat))(hx:xs.length=n)(hy:ys.length=n)(fx:Fig xs)(fy:Fig ys)(hn:1<=n/\n<=64):zkp c (.lst m) (.lst a) (.lst b) [.str "none"] H:=
 zhp F .none fun{d} {K} {X} {H'} st hX=>s_add (d:=d+1) F (A.grow st) ok (at0 st ha) (at0 st hb) hx hy fx fy hn rfl (fun h=>by rw[ht] at h;injection h) fun J H1 st1=>hX H1 st1
theorem zvn(F:Fns11 c){xs:List Nat}{net:Net}(A:NetAt H m bs net)(hz:net.length<=80)(hi:net[i]?=some [(0,n)])(ok:∀j y,net[j]?=some y->j=i\/zcl n y)(ha:H[a]?=some (xs.map nat))(hb:H[b]?=some (ys.map nat))(hx:xs.length=n)(hy:ys.length=n)(fx:Fig xs)(fy:Fig ys)(hn:1<=n/\n<=64):zkp c (.lst m) (.lst a) (.lst b) [.str "net",.int i] H:=
 zhp F (.net i) fun{d} {K} {X} {H'} st hX=>by
  refine F.added true (d+7) _ _ _ _ rfl (zqs (at0 st ha) (by rw[zab,hx];exact hn.1) (by rw[zab,hx];exact hn.2) rfl (zpk (at0 st ha) (at0 st hb) (by rw[zab,zab,hx,hy]) (zuf (d:=d+6) F (at0 st ha) (at0 st hb) fx fy (by exact ar3 [_,_,_] [] 0xa5294001840000c20080610080310060 (Y1 (Y0 V0 V1) (.l 1000)) (Y2 V0 V2) (Y2 V1 V2) (Y0 V2 (.l 64)) hx hy hn.2) fun v3 H1 st1=>?_)))
  refine Ss_go ?_
  walk_at ""
  refine Opt.mk (zcn (at0 (st.trans0 st1) ha)) ?_
  rw[zab,hx]
  walk_at ""
  refine F.ntell true (d+6) _ _ _ _ rfl (Ss_go ?_)
  walk_at ""
  refine s_net9 (d:=d+2) F.p.chk hn (A.grow (st.trans0 st1)) rfl (fun y hy=>?_) (fun h=>absurd h (za9.mpr hz)) (fun J h=>?_) (fun j hj hl J=>?_)
  ·obtain⟨j,hj⟩:=List.mem_iff_getElem?.mp hy
   rcases ok j y hj with rfl |h
   ·rw[hi] at hj;exact .inr (zaa hj).symm
   ·exact .inl h
  ·exact absurd (h _ (zam hi)).2.2.1 (zay _)
  ·rcases ok j _ hj with rfl |h
   ·exact hX H1 st1
   ·exact absurd h.2.2.1 (zay _)
def FgInv(H:Hp)(n i:Nat)(x0:Loc)(H':Hp):Prop:=∀GJ:Prop,(∀(cl:Int),∀(v3:Option V),∀(xs:List Nat),(H'[H.length]?=some (xs.map nat))->(xs.length=i)->Fig xs->Stay [] H H'->[some (.int cl),some (.int n),some (.lst H.length),v3]=x0->GJ)->GJ
theorem s_fig(P:Has c "_law_figures" 2 4 zfx){cell:Int}(hn:n<=64)(hc:q=true)(hq:∀a xs H',New H a (List.map nat xs) H'->xs.length=n->Fig xs->Q (.lst a) H'):Calls c q (d+1) "_law_figures" [.int cell,.int n] none Q E H:=by
 subst hc
 refine P true d _ Q E H rfl (Ss_go ?_)
 walk_at ""
 refine⟨rfl,ze7 (v:=.rng 0 (n:Int) 1) (items:=(List.range n).map nat) (fun K E' h=>by walk_at "";exact Opt.mk (zdl (by exact ar1 [_] [] kaa (Y1 V0 (.l 100000)) (Y0 V0 (.l 64)) hn)) h) (congrArg some (zd3 _)) ?_⟩
 refine zel (FgInv H n) ?_ ?_ (fun J kJ=>kJ _ _ [] zcd rfl (fun J h=>nomatch h) Stay.refl.app rfl)
 ·intro i x l' H' K hx hI hnext hret
  refine hI _ fun cl v3 xs hf hl fx st wg=>?_;clear hI;subst wg
  have hi:=zcj hx
  rw[zab,zas] at hi
  walk_at ""
  refine zjs rfl ?_
  walk_at ""
  refine zdf (by decide) ?_
  walk_at ""
  refine⟨rfl,?_⟩
  refine zfq (by decide) ?_
  walk_at ""
  refine zdf (by decide) ?_
  obtain⟨j,hj⟩:=zrb (x:=cl*16807%2147483647/64) (y:=2) (by decide)
  have hj2:j<2:=zaq.mp (hj▸Int.emod_lt_of_pos _ (by decide))
  rw[hj]
  refine Opt.mk (zcx hf (by rw[zab];exact ar3 [_,_,_] [] kak (Y1 V0 (.l 10000)) (Y0 V1 (.l 64)) (Y2 V0 V2) (Y1 V2 V1) hn hl hi)) ?_
  walk_at ""
  refine hnext _ _ trivial (fun J kJ=>kJ _ _ (xs++[j]) (by rw[zan];exact zd1 hf) (by rw[zak,hl];rfl) (fun y hy=>(zaj.mp hy).elim (fx y) fun e=>by rw[zaf.mp e];exact ar1 [_] [] kaa (Y0 V0 J1) (Y1 V0 J2) hj2) (st.set (.inr (zae _))) rfl)
 ·intro l' H' hI
  refine hI _ fun cl v3 xs hf hl fx st wg=>?_;clear hI;subst wg
  rw[zab,zas] at hl
  walk_at ""
  exact hq _ xs _ ⟨st,hf,zae _⟩ hl fx
def NumInv(a:Nat)(xs:List Nat)(H:Hp)(r:List Nat)(x1:Loc)(x2:Hp):Prop:=∀GJ:Prop,(∀(dn:List Nat),∀(v:Option V),(r.reverse++dn=xs)->[some (.lst a),some (.int (num dn)),v]=x1->H=x2->GJ)->GJ
theorem s_num(P:Has c "_law_number" 1 3 zfz){xs:List Nat}(ha:H[a]?=some (xs.map nat))(hc:q=true)(hq:Q (.int (num xs)) H):Calls c q (d+1) "_law_number" [.lst a] none Q E H:=by
 subst hc
 refine P true d _ Q E H rfl (Ss_go ?_)
 walk_at ""
 refine⟨rfl,Sr_rev (a:=a) (fun K E' h=>h) ha ?_⟩
 rw[<- List.map_reverse]
 refine zdv (g:=nat) (NumInv a xs H) ?_ ?_ (fun J kJ=>kJ [] _ (by rw[List.reverse_reverse,za4]) rfl rfl)
 ·intro x r l' H' K hI hnext hret
  refine hI _ fun dn v he wg eI2=>?_;clear hI;subst wg;subst eI2
  unfold nat
  walk_at ""
  refine zi0 rfl ?_
  walk_at ""
  rw[show(2:Int)*(num dn:Int)+(x:Int)=((num (x::dn):Nat):Int) by show _=((x+2*num dn:Nat):Int);exact ar0 [_,_] [] kac (Y5 (Y0 (Y1 J2 (Y4 V0 J0)) (Y4 V1 J0)) (Y4 (Y0 V1 (Y1 J2 V0)) J0))]
  refine hnext _ _ ha (fun J kJ=>kJ (x::dn) _ ?_ rfl rfl)
  rw[<- he,List.reverse_cons,zbb];rfl
 ·intro l' H' hI
  refine hI _ fun dn v he wg eI2=>?_;clear hI;subst wg;subst eI2
  obtain rfl:dn=xs:=he
  walk_at ""
  exact hq
inductive GenL(C:CallT)(d:Nat)(l:Loc)(H:Hp)(P:Nat->Hp->V->Prop):Nat->List Ex->Prop
 |nil {k:Nat}:GenL C d l H P k []
 |cons {k:Nat}{e:Ex}{es:List Ex}(h:∀H' (K:V->Hp->Prop)(E:XPost),Stay [] H H'->(∀v H2,Stay [] H' H2->P k H2 v->K v H2)->wpE C true d none e l K E H')(t:GenL C d l H P (k+1) es):GenL C d l H P k (e::es)
section
variable {P:Nat->Hp->V->Prop}
theorem GenL.lit(h:∀H',P k H' v)(t:GenL C d l H P (k+1) es):GenL C d l H P k (.lit v::es):=.cons (fun H' K E st hK=>hK v H' .refl (h H')) t
theorem L_gen(mono:∀k H H' v,Stay [] H H'->P k H v->P k H' v)(g:GenL C d l H P k es):∀{H':Hp}{Q:List V->Hp->Prop}{E:XPost},Stay [] H H'->(∀vs H2,Stay [] H' H2->(∀i v,vs[i]?=some v->P (k+i) H2 v)->vs.length=es.length->Q vs H2)->wpL C true d none es l Q E H':=by
 induction g with
 |nil=>exact fun st hq=>hq [] _ .refl (fun J J h=>nomatch h) rfl
 |cons h t ih=>
  intro H' Q E st hq
  rw[L_cons]
  refine h _ _ _ st fun v H1 s1 hv=>?_
  refine ih (st.trans0 s1) fun vs H2 s2 hvs hl=>hq _ _ (s1.trans0 s2) (fun i x hx=>?_) (congrArg (· + 1) hl)
  cases i with
  |zero=>obtain rfl:=zaa hx;exact mono _ _ _ _ s2 hv
  |succ i=>rw[Nat.add_succ,<-Nat.succ_add];exact hvs i x hx
theorem zng(mono:∀k H H' v,Stay [] H H'->P k H v->P k H' v){ix:Ex}(g:GenL C d l H P 0 es)(hj:j<es.length)(hi:∀H' (K:V->Hp->Prop),Stay [] H H'->K (.int j) H'->wpE C true d none ix l K E H')(hq:∀v H2,Stay [] H H2->P j H2 v->Q v H2):wpE C true d none (.idx (.list es) ix) l Q E H:=by
 rw[E_idx,E_list]
 refine L_gen mono g .refl fun vs H2 st hvs hl=>?_
 have t2:=st.app (xs:=vs)
 refine hi _ _ t2 ?_
 have hj':j<vs.length:=hl.symm▸hj
 refine Opt.mk (zc5 zcd (zai hj')) (hq _ _ t2 ?_)
 have:=hvs j _ (zai hj')
 rw[Nat.zero_add] at this
 exact mono _ _ _ _ Stay.refl.app this
theorem zmn{ix:Ex}(h1:l.getD a none=some (.lst t))(h2:l.getD i none=some (.int n))(hx:H[t]?=some xs)(hz:xs.length<1000)(he:∀H' (K:V->Hp->Prop),Stay [] H H'->(∀v H2,Stay [] H' H2->R H2 v->K v H2)->wpE C true d none e l K E H')(hi:∀H' (K:V->Hp->Prop),K (.int m) H'->wpE C true d none ix l K E H')
  (hq:∀v r H2 H5,R H2 v->Stay [] H2 H5->Stay [] H H5->H5[r]?=some (xs.take n++[v]++xs.drop m)->Q (.lst r) H5):wpE C true d none (.bin .add (.bin .add (.slice (.var a) (.lit .none) (.var i)) (.list [e])) (.slice (.var a) ix (.lit .none))) l Q E H:=by
 rw[E_bin,E_bin,E_slice,E_var,h1]
 refine Opt.mk rfl ?_
 rw[E_lit,E_var,h2]
 refine Opt.mk rfl ?_
 refine zch (zi3 hx) fun t1 H1 N1=>?_
 rw[E_list,L_cons]
 refine he _ _ N1.st fun v H2 s2 hv=>?_
 rw[L_nil]
 have s3:=(Stay.refl (S:=[]) (H:=H2)).app (xs:=[v])
 refine zch (zc6 (at0 (s2.trans0 s3) N1.hold) zcd (by rw[zbe];show _+1<_;exact ar1 [_,_] [] 0x65294001840300c20200610040808401 (Y1 (Y0 (Y5 V0 V1) J1) (.l 100000)) (Y1 V1 (.l 1000)) hz)) fun t2 H3 N2=>?_
 rw[E_slice,E_var,h1]
 refine Opt.mk rfl ?_
 refine hi _ _ ?_
 rw[E_lit]
 have s4:=N1.st.trans0 (s2.trans0 (s3.trans0 N2.st))
 refine zch (zem (at0 s4 hx)) fun t3 H4 N3=>?_
 refine zch (zc6 (at0 N3.st N2.hold) N3.hold (by rw[zak,zbe,zbf];show _+1+_<_;exact ar1 [_,_,_] [] 0x63294a50006101803100e01840400c20000a20842808401 (Y1 (Y0 (Y0 (Y5 V0 V1) J1) (Y2 V1 V2)) (.l 100000)) (Y1 V1 (.l 1000)) hz)) fun t4 H5 N4=>?_
 exact hq v _ _ _ hv (s3.trans0 (N2.st.trans0 (N3.st.trans0 N4.st))) (s4.trans0 (N3.st.trans0 N4.st)) N4.hold
theorem mem_spl{xs:List α}{v x:α}(h:x∈xs.take i++[v]++xs.drop j):x∈xs\/x=v:=by
 rcases zaj.mp h with h |h
 ·rcases zaj.mp h with h |h
  ·exact .inl (List.mem_of_mem_take h)
  ·exact .inr (zaf.mp h)
 ·exact .inl (List.mem_of_mem_drop h)
theorem zu8{xs:List α}{v:α}:v∈xs.take i++[v]++xs.drop j:=zb8 _ (zbt _ zad)
theorem spl_len{xs:List α}{v:α}(h:i<=xs.length):(xs.take i++[v]++xs.drop j).length=i+1+(xs.length-j):=by
 rw[zak,zak,zbe,zbf,Nat.min_eq_left h];rfl
theorem zl4{k m:Int}{A B:List St}{Q:SPost}{E:SX}(h5:l.getD i none=some (.int k))(h6:l.getD j none=some (.int m))(ha:k=t\/m=t->wpSs C q d kk A Q E l H)(hb:k≠t->wpSs C q d kk B Q E l H):wpS C q d kk (.ite (.or [(.cmp (.var i) [.eq] [(.lit (.int t))]),(.cmp (.var j) [.eq] [(.lit (.int t))])]) A B) Q E l H:=by
 walk_at "d"
 rw[h5]
 walk_at "d"
 refine zcf (fun e=>ha (.inl e)) (fun e=>?_)
 rw[h6]
 walk_at "d"
 exact zcf (fun e=>ha (.inr e)) (fun J=>hb e)
theorem zxi{net:Net}(N:NetAt H a bs net)(hL:H[L]?=some [pr (0,m)])(top:H[A7]?=some ((bs.map V.lst).take i++[V.lst L]++(bs.map V.lst).drop i)):∃cs,NetAt H A7 cs (net.take i++[(0,m)]::net.drop i):=by
 obtain⟨zs,z1,z2,z3⟩:=N.zs
 have key:=NetAt.ofz (H:=H) (a:=A7) (zs:=zs.take i++(L,[(0,m)])::zs.drop i) ?_ fun p hp=>?_
 ·have e:net.take i++[(0,m)]::net.drop i=(zs.take i++(L,[(0,m)])::zs.drop i).map (·.2):=by rw[zan,za5,List.map_take,List.map_drop,z2]
  rw[e];exact⟨_,key⟩
 ·rw[top,zan,zan,za5,za5,List.map_take,List.map_drop,List.map_take,List.map_drop,z1,zbb];rfl
 ·rcases zaj.mp hp with hp |hp
  ·exact z3 p (List.mem_of_mem_take hp)
  ·rcases zah.mp hp with rfl |hp
   ·exact hL
   ·exact z3 p (List.mem_of_mem_drop hp)
theorem bad_at12{net:Net}(ok:∀y∈net,zcl n y)(hi:i<=net.length):(net.take i++[(0,n)]::net.drop i)[i]?=some [(0,n)]/\(∀j y,(net.take i++[(0,n)]::net.drop i)[j]?=some y->j=i\/zcl n y)/\(net.take i++[(0,n)]::net.drop i).length=net.length+1:=by
 have hl:(net.take i).length=i:=by rw[zbe];exact Nat.min_eq_left hi
 refine⟨?_,fun j y hj=>?_,?_⟩
 ·rw[zbq (za8 hl),hl,Nat.sub_self];rfl
 ·rcases Nat.lt_trichotomy j i with h |h |h
  ·rw[zbu (by rw[hl];exact h)] at hj
   exact .inr (ok y (List.mem_of_mem_take (zam hj)))
  ·exact .inl h
  ·rw[zbq (by rw[hl];exact zap h),hl,show j-i=(j-i-1)+1 by exact ar1 [_,_] [] 0x1865280030806018401014202842008d03214a528003081601840900c20180610040301421004a50006101003080002840508401 (Y2 (Y2 V0 V1) (Y0 (Y2 (Y2 V0 V1) J1) J1)) (Y1 V1 V0) h,List.getElem?_cons_succ] at hj
   exact .inr (ok y (List.mem_of_mem_drop (zam hj)))
 ·rw[zak,zba,zbf,hl];exact ar1 [_,_] [] kat (Y2 (Y0 V0 (Y0 (Y2 V1 V0) J1)) (Y0 V1 J1)) (Y0 V0 V1) hi
end
variable {xs:List Nat}
noncomputable def rf6:List St:=[.ret (.cmp (.call "_law_tried" [.wx 0,.wx 1,.wx 2]) [.eq] [.wx 8])]
noncomputable def rf5:List St:=.ite (.cmp (.wx 4) [.eq] [.ww 0]) [.set 1 (.idx (.list [.list [],.blt .tuple [.wx 1],.lit .none,.bin .mul (.list [.ww 0]) (.ww 65)]) (.bin .mod (.bin .div (.wx 3) (.ww 960)) (.ww 4)))] []::rf6
noncomputable def rf4i:List St:=[.set 2 (.idx (.list [.slice (.wx 2) (.ww 1) (.lit .none),.bin .add (.wx 2) (.list [.ww 0]),.blt .tuple [.wx 2],.lit .none]) (.bin .mod (.bin .div (.wx 3) (.ww 960)) (.ww 4)))]
noncomputable def rf4:List St:=.ite (.or [.cmp (.wx 4) [.eq] [.ww 1],.cmp (.wx 5) [.eq] [.ww 1]]) rf4i []::rf5
noncomputable def rf3i:List St:=[.ite (.cmp (.bin .mod (.bin .div (.wx 3) (.ww 7)) (.ww 2)) [.eq] [.ww 0]) [.set 1 (.bin .add (.bin .add (.slice (.wx 1) (.lit .none) (.wx 6)) (.list [.wx 7])) (.slice (.wx 1) (.bin .add (.wx 6) (.ww 1)) (.lit .none)))] [.set 2 (.bin .add (.bin .add (.slice (.wx 2) (.lit .none) (.wx 6)) (.list [.wx 7])) (.slice (.wx 2) (.bin .add (.wx 6) (.ww 1)) (.lit .none)))]]
noncomputable def rf3:List St:=.ite (.or [.cmp (.wx 4) [.eq] [.ww 2],.cmp (.wx 5) [.eq] [.ww 2]]) rf3i []::rf4
noncomputable def rf2i:List St:=[.set 9 (.bin .mod (.bin .div (.wx 3) (.ww 33)) (.bin .add (.blt .len [.wx 0]) (.ww 1))),.set 0 (.bin .add (.bin .add (.slice (.wx 0) (.lit .none) (.wx 9)) (.list [.list [.tup [.ww 0,.blt .len [.wx 1]]]])) (.slice (.wx 0) (.wx 9) (.lit .none))),.set 8 (.idx (.list [.wx 8,.list [.lit (.str "net"),.wx 9]]) (.blt .int [.cmp (.wx 4) [.eq] [.ww 3]]))]
noncomputable def rf2:List St:=.ite (.or [.cmp (.wx 4) [.eq] [.ww 3],.cmp (.wx 5) [.eq] [.ww 3]]) rf2i []::rf3
noncomputable def rf1i:List St:=[.ite (.cmp (.wx 0) [.eq] [.list []]) [.ret (.lit (.bool true))] [],.set 0 (.call "_law_untelling" [.wx 0,.blt .len [.wx 1],.bin .div (.wx 3) (.ww 15)])]
noncomputable def rf1:List St:=.ite (.or [.cmp (.wx 4) [.eq] [.ww 4],.cmp (.wx 5) [.ge] [.ww 4]]) rf1i []::rf2
noncomputable def zeg:List St:=.set 4 (.bin .mod (.wx 3) (.ww 5))::.set 5 (.bin .add (.wx 4) (.bin .mod (.bin .div (.wx 3) (.ww 5)) (.ww 3)))::.set 6 (.bin .mod (.bin .div (.wx 3) (.ww 15)) (.blt .len [.wx 1]))::.set 7 (.idx (.list [.ww 2,.neg (.ww 1),.lit (.bool true),.lit .none,.lit (.str "1"),.lit (.bool false),.list [.ww 0]]) (.bin .mod (.bin .div (.wx 3) (.ww 960)) (.ww 7)))::.set 8 (.idx (.list [.list [.lit (.str "lines")],.list [.lit (.str "lines")],.list [.lit (.str "thing")],.list [.lit (.str "net"),.ww 0],.list [.lit (.str "none")]]) (.wx 4))::rf1
abbrev locR (v0 v1 v2 v3 v4 v5 v6 v7 v8 v9:Option V):Loc:=[v0,v1,v2,v3,v4,v5,v6,v7,v8,v9]
structure Oo(H:Hp)(a b n:Nat)(xs ys:List Nat):Prop where
 ha:H[a]?=some (xs.map nat)
 hb:H[b]?=some (ys.map nat)
 hx:xs.length=n
 hy:ys.length=n
 fx:Fig xs
 fy:Fig ys
 hn:1<=n/\n<=64
theorem Oo.grow(o:Oo H a b n xs ys)(st:Stay [] H H'):Oo H' a b n xs ys:=⟨at0 st o.ha,at0 st o.hb,o.hx,o.hy,o.fx,o.fy,o.hn⟩
def NoRow(p:Nat->Prop)(H:Hp)(v:V):Prop:=isiV v .list=some false\/∃a xs,v=.lst a/\H[a]?=some xs/\¬p xs.length
theorem NoRow.grow(h:NoRow p H v)(st:Stay [] H H'):NoRow p H' v:=h.imp id fun⟨a,xs,e,h,b⟩=>⟨a,xs,e,at0 st h,b⟩
noncomputable def dueW(k:Nat):List V:=if k=2 then[.str "thing"] else if k=3 then[.str "net",.int 0] else if k=4 then[.str "none"] else[.str "lines"]
section
variable {v4 v5 v6 v7 v9:Option V}
theorem rf6_ok{v1:V}{W:List V}(D:DueX z W)(hd:H[due]?=some W)(G:zkp c v0 v1 v2 W H)(hQ:∀l H,QQ (.ret (.bool true)) l H) :
  wpSs (Calls c) true (d+9) none rf6 QQ EE (locR (some v0) (some v1) (some v2) v3 v4 v5 v6 v7 (some (.lst due)) v9) H:=by
 unfold rf6 locR
 walk_at ""
 refine G .refl fun a H1 H2 st N=>?_
 walk_at ""
 refine Opt.mk (znu (D.eq N.hold (at0 (st.trans0 N.st) hd))) ?_
 walk_at ""
 exact hQ _ _
theorem rf5_ok{W xs:List V}{cell:Nat}(F:Fns11 c)(D:DueX z W)(hd:H[due]?=some W)(ha:H[a]?=some xs)(h0:k=0->W=[.str "lines"])(G:k≠0->zkp c v0 (.lst a) v2 W H)(hQ:∀l H,QQ (.ret (.bool true)) l H) :
  wpSs (Calls c) true (d+9) none rf5 QQ EE (locR (some v0) (some (.lst a)) (some v2) (some (.int cell)) (some (.int k)) v5 v6 v7 (some (.lst due)) v9) H:=by
 unfold rf5 locR
 walk_at "g"
 walk_at "d"
 refine zcf (fun e=>?_) (fun e=>?_)
 ·obtain rfl:=h0 (Int.ofNat.inj e)
  walk_at "g"
  rw[S_set]
  refine zng (P:=fun J=>NoRow fun n=>1<=n/\n<=64) (j:=cell/960%4) (fun J J J J st h=>h.grow st) (.cons (fun H' K E st hK=>hK _ _ Stay.refl.app (.inr ⟨_,_,rfl,zcd,fun h=>absurd h.1 (by decide)⟩)) (.cons (fun H' K E st hK=>?_) (.lit (fun J=>.inl rfl) (.cons (fun H' K E st hK=>?_) .nil)))) (Nat.mod_lt _ (by decide)) (fun H' K st hK=>?_) fun v H1 s1 hv=>?_
  ·walk_at "d"
   exact Opt.mk (zjk (at0 st ha)) (hK _ _ .refl (.inl rfl))
  ·walk_at "d"
   refine zch (mul_one' (n:=65) zcd (by decide)) fun x H6 N=>?_
   exact hK _ _ (Stay.refl.app.trans0 N.st) (.inr ⟨_,_,rfl,N.hold,fun h=>absurd h.2 (by rw[List.length_replicate];decide)⟩)
  ·walk_at "d"
   refine zcv (b:=960) (by decide) ?_
   exact zcw (b:=4) (by decide) hK
  walk_at "g"
  walk_at "g"
  walk_at "g"
  exact rf6_ok D (at0 s1 hd) (zu5 F hv) hQ
 ·walk_at "g"
  walk_at "g"
  exact rf6_ok D hd (G fun e'=>e (by rw[e'];rfl)) hQ
theorem zwt{W xs ys:List V}{cell:Nat}(F:Fns11 c)(D:DueX z W)(hd:H[due]?=some W)(ha:H[a]?=some xs)(hb:H[b]?=some ys)(hx:xs.length=n)(hy:ys.length=n)(hn:1<=n/\n<=64)(h0:k<=1->W=[.str "lines"])(G:2<=k->zkp c v0 (.lst a) (.lst b) W H)(hQ:∀l H,QQ (.ret (.bool true)) l H) :
  wpSs (Calls c) true (d+9) none rf4 QQ EE (locR (some v0) (some (.lst a)) (some (.lst b)) (some (.int cell)) (some (.int k)) (some (.int (k+j:Nat))) v6 v7 (some (.lst due)) v9) H:=by
 unfold rf4
 walk_at "g"
 refine zl4 (i:=4) (j:=5) (t:=1) rfl rfl (fun e=>?_) (fun e=>?_)
 ·obtain rfl:=h0 (by exact ar1 [_,_] [] kaz (Y0 V0 J1) (Y7 (Y5 (Y4 V0 J0) (Y4 J1 J0)) (Y5 (Y4 (Y0 V0 V1) J0) (Y4 J1 J0))) e)
  unfold rf4i locR
  walk_at "g"
  rw[S_set]
  refine zng (P:=fun J=>NoRow fun n=>n=xs.length) (j:=cell/960%4) (fun J J J J st h=>h.grow st) (.cons (fun H' K E st hK=>?_) (.cons (fun H' K E st hK=>?_) (.cons (fun H' K E st hK=>?_) (.lit (fun J=>.inl rfl) .nil)))) (Nat.mod_lt _ (by decide)) (fun H' K st hK=>?_) fun v H1 s1 hv=>?_
  ·walk_at "d"
   refine zch (zem (i:=1) (at0 st hb)) fun t1 H1 N1=>?_
   exact hK _ _ N1.st (.inr ⟨_,_,rfl,N1.hold,by rw[zbf,hy,hx];lia⟩)
  ·walk_at "d"
   refine zch (zc6 (at0 st.app hb) zcd (by rw[hy];show n+1<_;exact ar1 [_] [] kaa (Y1 (Y0 V0 J1) (.l 100000)) (Y0 V0 (.l 64)) hn.2)) fun t2 H2 N2=>?_
   exact hK _ _ (Stay.refl.app.trans0 N2.st) (.inr ⟨_,_,rfl,N2.hold,by rw[zak,hy,hx];show ¬n+1=n;exact ar0 [_] [] 4679524742594560 (Y8 (Y2 (Y0 V0 J1) V0) J0)⟩)
  ·walk_at "d"
   exact Opt.mk (zjk (at0 st hb)) (hK _ _ .refl (.inl rfl))
  ·walk_at "d"
   refine zcv (b:=960) (by decide) ?_
   exact zcw (b:=4) (by decide) hK
  walk_at "g"
  walk_at "g"
  walk_at "g"
  exact rf5_ok F D (at0 s1 hd) (at0 s1 ha) (fun J=>rfl) (fun J=>zpr F (at0 s1 ha) (hx.symm▸hn.1) (hx.symm▸hn.2) hv) hQ
 ·walk_at "g"
  walk_at "g"
  exact rf5_ok F D hd ha (fun h=>h0 (by exact ar1 [_] [] kaa (Y0 V0 J1) (Y2 V0 J0) h)) (fun h=>G (by exact ar2 [_] [] 0xe5280030802018400024a50006100403080002800308000 (Y0 J2 V0) (Y8 (Y5 (Y4 V0 J0) (Y4 J1 J0)) J0) (Y8 (Y2 V0 J0) J0) e h)) hQ
theorem zvc:∀x∈xs.map nat,(kd x).isSome=true:=fun x hx=>by revert hx;refine xL fun y J wj=>?_;subst wj;rfl
theorem zvm(hx:xs.length=n)(hi:i<n)(hv:(kd v).isSome=true):((xs.map nat).take i++[v]++(xs.map nat).drop (i+1)).length=n/\(∀x∈(xs.map nat).take i++[v]++(xs.map nat).drop (i+1),(kd x).isSome=true):=by
 refine⟨?_,fun x hx=>?_⟩
 ·rw[spl_len (by rw[zab,hx];exact zap hi),zab,hx];exact ar1 [_,_] [] 0x1868214a50006102003080c01840100005280030808018400014610002108ca50006100c030802028c2000421 (Y2 (Y0 (Y0 V0 J1) (Y2 V1 (Y0 V0 J1))) V1) (Y1 V0 V1) hi
 ·rcases mem_spl hx with hx |rfl
  ·exact zvc x hx
  ·exact hv
theorem zux{W:List V}{cell:Nat}(F:Fns11 c)(o:Oo H a b n xs ys)(hi:i<n)(D:DueX z W)(hd:H[due]?=some W)(hv:(kd bad).isSome=true/\zdt 0 1 bad=false)(h0:k<=1->W=[.str "lines"])(h2:k=2->W=[.str "thing"])(G:3<=k->zkp c v0 (.lst a) (.lst b) W H)(hQ:∀l H,QQ (.ret (.bool true)) l H) :
  wpSs (Calls c) true (d+9) none rf3 QQ EE (locR (some v0) (some (.lst a)) (some (.lst b)) (some (.int cell)) (some (.int k)) (some (.int (k+j:Nat))) (some (.int i)) (some bad) (some (.lst due)) v9) H:=by
 unfold rf3
 have hn:=o.hn
 have hx:(xs.map nat).length=n:=by rw[zab];exact o.hx
 have hy:(ys.map nat).length=n:=by rw[zab];exact o.hy
 walk_at "g"
 refine zl4 (i:=4) (j:=5) (t:=2) rfl rfl (fun e=>?_) (fun e=>?_)
 ·have hk2:k<=2:=by exact ar1 [_,_] [] kaz (Y0 V0 J2) (Y7 (Y5 (Y4 V0 J0) (Y4 J2 J0)) (Y5 (Y4 (Y0 V0 V1) J0) (Y4 J2 J0))) e
  unfold rf3i locR
  walk_at "g"
  walk_at "d"
  refine zfq (by decide) ?_
  walk_at "d"
  refine zdf (by decide) ?_
  walk_at "d"
  refine zcf (fun J=>?_) (fun J=>?_)
  ·walk_at "g"
   rw[S_set]
   refine zmn (R:=fun J u=>u=bad) rfl rfl o.ha (by exact ar2 [_,_] [] kab (Y1 V0 (.l 1000)) (Y0 V1 (.l 64)) (Y2 V0 V1) hn.2 hx) (fun H' K st hK=>hK _ _ .refl rfl) (fun H' K h=>h) fun u r H2 H5 e s2 s5 hr=>?_
   subst e
   obtain⟨r1,r2⟩:=zvm o.hx hi hv.1
   walk_at "g"
   walk_at "g"
   walk_at "g"
   walk_at "g"
   refine zwt F D (at0 s5 hd) hr (at0 s5 o.hb) r1 hy hn h0 (fun h=>?_) hQ
   obtain rfl:=h2 (by exact ar2 [_] [] kaj (Y2 V0 J2) (Y0 V0 J2) (Y0 J2 V0) hk2 h)
   exact zm6 F hr (at0 s5 o.hb) (r1.symm▸hn.1) (r1.symm▸hn.2) (hy.trans r1.symm) (fun x hx=>(zaj.mp hx).elim (r2 x) (zvc x)) ⟨u,zb8 _ zu8,hv.2⟩
  ·walk_at "g"
   rw[S_set]
   refine zmn (R:=fun J u=>u=bad) rfl rfl o.hb (by exact ar2 [_,_] [] kab (Y1 V0 (.l 1000)) (Y0 V1 (.l 64)) (Y2 V0 V1) hn.2 hy) (fun H' K st hK=>hK _ _ .refl rfl) (fun H' K h=>h) fun u r H2 H5 e s2 s5 hr=>?_
   subst e
   obtain⟨r1,r2⟩:=zvm o.hy hi hv.1
   walk_at "g"
   walk_at "g"
   walk_at "g"
   walk_at "g"
   refine zwt F D (at0 s5 hd) (at0 s5 o.ha) hr hx r1 hn h0 (fun h=>?_) hQ
   obtain rfl:=h2 (by exact ar2 [_] [] kaj (Y2 V0 J2) (Y0 V0 J2) (Y0 J2 V0) hk2 h)
   exact zm6 F (at0 s5 o.ha) hr (hx.symm▸hn.1) (hx.symm▸hn.2) (r1.trans hx.symm) (fun x hx=>(zaj.mp hx).elim (zvc x) (r2 x)) ⟨u,zbt _ zu8,hv.2⟩
 ·walk_at "g"
  walk_at "g"
  exact zwt F D hd o.ha o.hb hx hy hn h0 (fun h=>G (by exact ar2 [_] [] 0x7294001840100c20000a50006100c0308000 (Y0 (.l 3) V0) (Y8 (Y5 (Y4 V0 J0) (Y4 J2 J0)) J0) (Y0 J2 V0) e h)) hQ
theorem rf2_ok{W:List V}{net:Net}{cell:Nat}(F:Fns11 c)(o:Oo H a b n xs ys)(hi:i<n)(hv:(kd bad).isSome=true/\zdt 0 1 bad=false)(D:k≠3->∃z,DueX z W)(hd:H[due]?=some W)(A:NetAt H m bs net)(ok:zg5 n net)(hz:net.length<=70)(ht:k=4->zci n net=false)(hk:k<5)(h0:k<=1->W=[.str "lines"])(h2:k=2->W=[.str "thing"])(h4:k=4->W=[.str "none"])(hQ:∀l H,QQ (.ret (.bool true)) l H) :
  wpSs (Calls c) true (d+9) none rf2 QQ EE (locR (some (.lst m)) (some (.lst a)) (some (.lst b)) (some (.int cell)) (some (.int k)) (some (.int (k+j:Nat))) (some (.int i)) (some bad) (some (.lst due)) v9) H:=by
 unfold rf2
 walk_at "g"
 refine zl4 (i:=4) (j:=5) (t:=3) rfl rfl (fun e=>?_) (fun e=>?_)
 ·have hk3:k<=3:=by exact ar1 [_,_] [] kaz (Y0 V0 (.l 3)) (Y7 (Y5 (Y4 V0 J0) (Y4 (.l 3) J0)) (Y5 (Y4 (Y0 V0 V1) J0) (Y4 (.l 3) J0))) e
  unfold rf2i locR
  walk_at "g"
  walk_at "d"
  refine zcv (b:=33) (by decide) ?_
  walk_at "d"
  refine Opt.mk (zcn A.top) ?_
  rw[zab,A.len]
  walk_at "d"
  refine zcw (b:=net.length+1) (Nat.succ_pos _) ?_
  have hs:cell/33%(net.length+1)<=net.length:=Nat.le_of_lt_succ (Nat.mod_lt _ (Nat.succ_pos _))
  generalize cell/33%(net.length+1)=sp at hs
  walk_at "g"
  walk_at "g"
  rw[S_set]
  refine zmn (R:=fun H v=>∃L,v=.lst L/\H[L]?=some [pr (0,n)]) rfl rfl A.top (by rw[zab,A.len];exact ar1 [_] [] kaa (Y1 V0 (.l 1000)) (Y0 V0 (.l 70)) hz) (fun H' K st hK=>?_) (fun H' K h=>h) fun v x H2 H4 hv s2 s4 hx=>?_
  ·walk_at "d"
   refine Opt.mk (zcn (at0 st o.ha)) ?_
   rw[zab,o.hx]
   exact hK _ _ Stay.refl.app ⟨_,rfl,zcd⟩
  obtain⟨L,rfl,hL⟩:=hv
  obtain⟨cs,A4⟩:=zxi (A.grow s4) (at0 s2 hL) hx
  walk_at "g"
  walk_at "g"
  rw[S_set]
  refine zng (P:=fun j H v=>(j=0->v=.lst due)/\(j=1->∃y,v=.lst y/\H[y]?=some [.str "net",.int sp])) (j:=if k=3 then 1 else 0) (fun J J J J st h=>⟨h.1,fun e=>let⟨y,e,hy⟩:=h.2 e;⟨y,e,at0 st hy⟩⟩) (.cons (fun H' K E st hK=>hK _ _ .refl ⟨fun J=>rfl,(fun h=>nomatch h)⟩) (.cons (fun H' K E st hK=>hK _ _ Stay.refl.app ⟨(fun h=>nomatch h),fun J=>⟨_,rfl,zcd⟩⟩) .nil)) (by split<;>decide) (fun H' K st hK=>?_) fun v H5 s5 hv=>?_
  ·walk_at "d"
   by_cases h3:k=3
   ·subst h3;exact hK
   ·rw[if_neg h3] at hK
    rw[decide_eq_false (show ¬((k:Int)=3) by exact ar2 [_] [] 0x414a000c20100610000429400184010102000020 (Y8 (Y5 (Y4 V0 J0) (.l 3)) J0) (Y0 V0 (.l 3)) (Y8 (Y2 V0 (.l 3)) J0) hk3 h3)]
    exact hK
  have s6:=s4.trans0 s5
  walk_at "g"
  walk_at "g"
  walk_at "g"
  by_cases h3:k=3
  ·subst h3
   obtain⟨y,rfl,hy⟩:=hv.2 rfl
   obtain⟨b1,b2,b3⟩:=bad_at12 ok.2 hs
   exact zux F (o.grow s6) hi (.net sp) hy ‹_› (fun h=>absurd h (by decide)) (fun h=>absurd h (by decide)) (fun J=>zvn F (A4.grow s5) (by rw[b3];exact ar1 [_] [] kaa (Y0 (Y0 V0 J1) (.l 80)) (Y0 V0 (.l 70)) hz) b1 b2 (at0 s6 o.ha) (at0 s6 o.hb) o.hx o.hy o.fx o.fy o.hn) hQ
  ·obtain rfl:=hv.1 (if_neg h3)
   obtain⟨z,D⟩:=D h3
   exact zux F (o.grow s6) hi D (at0 s6 hd) ‹_› h0 h2 (fun h=>absurd h (by exact ar3 [_] [] 0x8294001840200c20000a5000610100308000 (Y8 (Y0 (.l 3) V0) J0) (Y0 V0 (.l 3)) (Y8 (Y2 V0 (.l 3)) J0) (Y0 (.l 3) V0) hk3 h3 h)) hQ
 ·walk_at "g"
  walk_at "g"
  obtain⟨z,D⟩:=D fun h=>e (congrArg _ h)
  refine zux F o hi D hd hv h0 h2 (fun h=>?_) hQ
  obtain rfl:k=4:=by exact ar3 [_] [] 0x314a000c201006100009294001840100c20000a5000610140308000 (Y2 V0 (.l 4)) (Y1 V0 (.l 5)) (Y8 (Y5 (Y4 V0 J0) (Y4 (.l 3) J0)) J0) (Y0 (.l 3) V0) hk e h
  obtain rfl:=h4 rfl
  exact zta F A ok (ht rfl) o.ha o.hb o.hx o.hy o.fx o.fy o.hn
theorem rf1_ok{W:List V}{net:Net}{cell:Nat}(F:Fns11 c)(PU:Has c "_law_untelling" 3 9 zdc)(PC:Has c "_law_crossed" 2 7 zda)(o:Oo H a b n xs ys)(hi:i<n)(hv:(kd bad).isSome=true/\zdt 0 1 bad=false)(D:k≠3->∃z,DueX z W)(hd:H[due]?=some W)(A:NetAt H m bs net)(M:MadeN n net)(hk:k<5)(h0:k<=1->W=[.str "lines"])(h2:k=2->W=[.str "thing"])(h4:k=4->W=[.str "none"])(hQ:∀l H,QQ (.ret (.bool true)) l H) :
  wpSs (Calls c) true (d+9) none rf1 QQ EE (locR (some (.lst m)) (some (.lst a)) (some (.lst b)) (some (.int cell)) (some (.int k)) (some (.int (k+j:Nat))) (some (.int i)) (some bad) (some (.lst due)) v9) H:=by
 unfold rf1 locR
 have go:wpSs (Calls c) true (d+9) none rf1i (Then (wpSs (Calls c) true (d+9) none rf2 QQ EE) QQ) EE (locR (some (.lst m)) (some (.lst a)) (some (.lst b)) (some (.int cell)) (some (.int k)) (some (.int (k+j:Nat))) (some (.int i)) (some bad) (some (.lst due)) v9) H:=by
  unfold rf1i locR
  walk_at "g"
  walk_at "d"
  have s1:=(Stay.refl (S:=[]) (H:=H)).app (xs:=[])
  refine Opt.mk (znu (eq_net (A.grow s1) (cs:=[]) (ys:=[]) ⟨zcd,rfl,fun J J J h=>nomatch h⟩)) ?_
  generalize H++[[]]=H1 at s1
  refine zcf (fun e=>?_) (fun e=>?_)
  ·walk_at "g"
   walk_at "d"
   exact hQ _ _
  ·walk_at "g"
   walk_at "g"
   walk_at "g"
   walk_at "d"
   refine Opt.mk (zcn (at0 s1 o.ha)) ?_
   rw[zab,o.hx]
   walk_at "d"
   refine zcv (b:=15) (by decide) ?_
   refine s_unt (d:=d+7) PU PC (A.grow s1) o.hn M.ok M.len M.tells e rfl fun a' bs' H2 net' A2 ok2 hz2 ht2 st2=>?_
   have s2:=s1.trans0 st2
   walk_at "g"
   walk_at "g"
   walk_at "g"
   exact rf2_ok F (o.grow s2) hi hv D (at0 s2 hd) A2 ok2 hz2 (fun J=>ht2) hk h0 h2 h4 hQ
 walk_at "g"
 walk_at "d"
 refine zcf (fun e=>?_) (fun e=>?_)
 ·exact go
 ·refine zcf (fun e2=>?_) (fun e2=>?_)
  ·exact go
  ·walk_at "g"
   walk_at "g"
   exact rf2_ok F o hi hv D hd A M.ok M.len (fun e'=>absurd (show(k:Int)=4 by rw[e'];rfl) e) hk h0 h2 h4 hQ
theorem due_ok(h:k≠3):∃z,DueX z (dueW k):=by
 unfold dueW
 by_cases h1:k=2
 ·rw[if_pos h1];exact⟨_,.thing⟩
 ·rw[if_neg h1,if_neg h]
  by_cases h2:k=4
  ·rw[if_pos h2];exact⟨_,.none⟩
  ·rw[if_neg h2];exact⟨_,.lines⟩
theorem s_ref11(F:Fns11 c)(P:Has c "_law_refused" 4 10 zeg)(PU:Has c "_law_untelling" 3 9 zdc)(PC:Has c "_law_crossed" 2 7 zda){cell:Nat}{net:Net}(A:NetAt H m bs net)(M:MadeN n net)(o:Oo H a b n xs ys)(hc:q=true)(hq:∀H',Q (.bool true) H'):Calls c q (d+10) "_law_refused" [.lst m,.lst a,.lst b,.int cell] none Q E H:=by
 subst hc
 refine P true (d+9) _ Q E H rfl ?_
 unfold zeg
 walk_at "g"
 walk_at "d"
 refine zcw (b:=5) (by decide) ?_
 have hk:cell%5<5:=Nat.mod_lt _ (by decide)
 generalize cell%5=k at hk
 walk_at "g"
 walk_at "g"
 walk_at "d"
 refine zcv (b:=5) (by decide) ?_
 walk_at "d"
 refine zcw (b:=3) (by decide) ?_
 walk_at "d"
 generalize cell/5%3=j
 rw[<- Int.natCast_add]
 walk_at "g"
 walk_at "g"
 walk_at "d"
 refine zcv (b:=15) (by decide) ?_
 walk_at "d"
 refine Opt.mk (zcn o.ha) ?_
 rw[zab,o.hx]
 walk_at "d"
 refine zcw (b:=n) o.hn.1 ?_
 have hi:cell/15%n<n:=Nat.mod_lt _ o.hn.1
 generalize cell/15%n=i at hi
 walk_at "g"
 walk_at "g"
 rw[S_set]
 refine zng (P:=fun J J v=>(kd v).isSome=true/\zdt 0 1 v=false) (j:=cell/960%7) (fun J J J J J h=>h) (.lit (fun J=>⟨rfl,rfl⟩) (.cons (fun H' K E st hK=>hK _ _ .refl ⟨rfl,rfl⟩) (.lit (fun J=>⟨rfl,rfl⟩) (.lit (fun J=>⟨rfl,rfl⟩) (.lit (fun J=>⟨rfl,rfl⟩) (.lit (fun J=>⟨rfl,rfl⟩) (.cons (fun H' K E st hK=>hK _ _ Stay.refl.app ⟨rfl,rfl⟩) .nil))))))) (Nat.mod_lt _ (by decide)) (fun H' K st hK=>?_) fun bad H1 s1 hv=>?_
 ·walk_at "d"
  refine zcv (b:=960) (by decide) ?_
  exact zcw (b:=7) (by decide) hK
 walk_at "g"
 walk_at "g"
 rw[S_set]
 refine zng (P:=fun j H v=>∃x,v=.lst x/\H[x]?=some (dueW j)) (j:=k) (fun J J J J st h=>let⟨y,e,hy⟩:=h;⟨y,e,at0 st hy⟩) (.cons (fun H' K E st hK=>hK _ _ Stay.refl.app ⟨_,rfl,zcd⟩) (.cons (fun H' K E st hK=>hK _ _ Stay.refl.app ⟨_,rfl,zcd⟩) (.cons (fun H' K E st hK=>hK _ _ Stay.refl.app ⟨_,rfl,zcd⟩) (.cons (fun H' K E st hK=>hK _ _ Stay.refl.app ⟨_,rfl,zcd⟩) (.cons (fun H' K E st hK=>hK _ _ Stay.refl.app ⟨_,rfl,zcd⟩) .nil))))) hk (fun H' K st hK=>hK) fun v H2 s2 hd=>?_
 obtain⟨due,rfl,hd⟩:=hd
 have s2:=s1.trans0 s2
 walk_at "g"
 exact rf1_ok F PU PC (o.grow s2) hi hv due_ok hd (A.grow s2) M hk (fun h=>by rcases Nat.le_one_iff_eq_zero_or_eq_one.mp h with h |h<;>rw[h]<;>rfl) (fun h=>by rw[h];rfl) (fun h=>by rw[h];rfl) fun J H'=>hq H'
end
variable {z:Nat}
structure Fns11l(c:Cx):Prop where
 f:Fns11 c
 dd:FnsD c
 fig:Has c "_law_figures" 2 4 zfx
 numb:Has c "_law_number" 1 3 zfz
 unt:Has c "_law_untelling" 3 9 zdc
 cross:Has c "_law_crossed" 2 7 zda
 ref:Has c "_law_refused" 4 10 zeg
 whole:Has c "_law_whole" 1 1 zio
 cell:Has c "_law_cell_at" 2 2 zgv
 lines:Has c "_law_lines_by" 1 2 zf3
 law:Has c "law" 1 11 p11_law
theorem zm2{n:Nat}{net:Net}(h:H[a]?=some [.lst x,.lst y,.lst z])(X:NetAt H x bs net)(hy:H[y]?=some (xs.map nat))(hz:H[z]?=some (ys.map nat)):toP 9 H (.lst a)=some (.list [zg0 (zg0 zlb) net,zg0 natP xs,zg0 natP ys]):=by
 refine zet h ?_
 show(toP 8 H (.lst x)).bind _=_
 rw[zpo (n:=5) X]
 show((toP 8 H (.lst y)).bind _).map _=_
 rw[zlw (n:=7) hy]
 show(((toP 8 H (.lst z)).bind _).map _).map _=_
 rw[zlw (n:=7) hz];rfl
theorem eq_three{x' y' z':Nat}{net:Net}(h:H[a]?=some [.lst x,.lst y,.lst z])(X:NetAt H x bs net)(hy:H[y]?=some (xs.map nat))(hz:H[z]?=some (ys.map nat))(h':H[b]?=some [.lst x',.lst y',.lst z'])(X':NetAt H x' cs net)(hy':H[y']?=some (xs.map nat))(hz':H[z']?=some (ys.map nat)):eqV H (.lst a) (.lst b)=some true:=
 eqV_lay (P:=.list [zg0 (zg0 zlb) net,zg0 natP xs,zg0 natP ys]) (by show(PyData.canLay0 _&&(PyData.canLay0 _&&(PyData.canLay0 _&&true)))=true;rw[eqP_joint.list.list.lay,eqP_nat.list.lay,eqP_nat.list.lay];rfl) (zm2 (n:=0) h X hy hz) (zm2 (n:=0) h' X' hy' hz')
noncomputable def law11b:List St:=p11_law.drop 9
theorem zr3(F:Fns11l c){net:Net}{v0 v2:Option V}(A:NetAt H nt bs net)(M:MadeN n net)(ha:H[a]?=some (xs.map nat))(hb:H[b]?=some (ys.map nat))(hx:xs.length=n)(hy:ys.length=n)(fx:Fig xs)(fy:Fig ys)(hn:1<=n/\n<=64) :
  wpSs (Calls c) true (d+10) none law11b (EndQ fun v J=>v=.bool true) EE [v0,some (.int n),v2,v3,some (.lst nt),some (.lst a),some (.lst b),none,none,none,none] H:=by
 refine Ss_go ?_
 walk_at ""
 have hz:=M.len
 refine Opt.mk (zdh A.top) ⟨zck (by rw[zab,A.len];exact ar1 [_] [] kaa (Y1 V0 (.l 100000)) (Y0 V0 (.l 70)) hz),?_⟩
 refine zoz A (Nat.le_of_ble_eq_true rfl) (fun H' st=>at0 st A.top) fun ts H2 RR=>?_
 have A1:=RR.net
 have s1:=RR.st.app (xs:=ts.map .lst)
 generalize H2++[ts.map .lst]=H1 at A1 s1
 generalize H2.length=x0 at A1
 clear RR
 walk_at ""
 refine zch (zfp (at0 s1 ha)) fun x1 H3 N1=>?_
 walk_at ""
 refine zch (zfp (at0 (s1.trans0 N1.st) hb)) fun x2 H4 N2=>?_
 walk_at ""
 have t5:=(Stay.refl (S:=[]) (H:=H4)).app (xs:=[V.lst x0,V.lst x1,V.lst x2])
 have kh:=zcd (H:=H4) (xs:=[V.lst x0,V.lst x1,V.lst x2])
 have k0:=A1.grow (N1.st.trans0 (N2.st.trans0 t5))
 have k1:=at0 (N2.st.trans0 t5) N1.hold
 have k2:=at0 t5 N2.hold
 have s5:=s1.trans0 (N1.st.trans0 (N2.st.trans0 t5))
 generalize H4++[[V.lst x0,V.lst x1,V.lst x2]]=H5 at t5 kh k0 k1 k2 s5
 generalize H4.length=h7 at kh
 clear N1 N2 t5 A1 s1
 refine Opt.mk (zc5 (i:=0) kh rfl) ?_
 refine Opt.mk (zc5 (i:=1) kh rfl) ?_
 refine Opt.mk (zc5 (i:=2) kh rfl) ?_
 refine zny (d:=d+8) F.f (fun hK hX=>s_add (d:=d+2) F.f k0 M.ok k1 k2 hx hy fx fy hn rfl (fun J r H6 N6=>hK _ _ ?_) (fun h=>by rw[M.tells] at h;injection h)) rfl
 have s6:=s5.trans0 N6.st
 have kr:=N6.hold
 have rl:(resN (zde xs ys) n).length=n+1:=by rw[resN,zak,zab,zas];rfl
 have rlo:H5.length<=r:=N6.lo
 have kh6:=at0 N6.st kh
 have st6:=N6.st
 clear N6
 walk_at ""
 refine Opt.mk (zg7 (i:=0) rfl) ?_
 walk_at ""
 refine Opt.mk (zg7 (i:=0) rfl) ?_
 refine Opt.mk (zcn kr) ?_
 rw[zab,rl]
 walk_at ""
 rw[decide_eq_true (show((n+1:Nat):Int)=(n:Int)+1 from rfl)]
 walk_at ""
 refine Opt.mk (zg7 (i:=0) rfl) ?_
 refine Opt.mk (zdh kr) ⟨zck (by rw[zab,rl];exact ar1 [_] [] kaa (Y1 (Y0 V0 J1) (.l 100000)) (Y0 V0 (.l 64)) hn.2),?_⟩
 have rle:∀x∈resN (zde xs ys) n,x<=1:=fun x hx=>by
  rcases zaj.mp hx with hx |hx
  ·revert hx;refine xL fun k J wj=>?_;subst wj
   exact ar0 [_,_] [] 0xca50006100803080203880308401 (Y0 (Y4 (Y0 V0 V1) J2) J1)
  ·rw[zaf.mp hx];exact cN_le (sum_le fx fy) n
 refine zc0 (f:=nat) (g:=fun J=>V.bool true) kr (fun x hx K hK=>?_) ?_
 ·unfold nat
  walk_at ""
  refine s_whole F.whole ?_
  walk_at ""
  refine zgg (zbl x) ?_
  rw[decide_eq_true (show(x:Int)<=1 from zaw.mpr (rle x hx))]
  exact hK
 walk_at ""
 have t7:=(Stay.refl (S:=[]) (H:=H6)).app (xs:=(resN (zde xs ys) n).map fun J=>V.bool true)
 refine Opt.mk (zml (f:=fun _:Nat=>true) (zs:=resN (zde xs ys) n) zcd) ?_
 rw[show((resN (zde xs ys) n).all fun J=>true)=true from zaz.mpr fun J J=>rfl]
 have kr7:=at0 t7 kr
 have s7:=s6.trans0 t7
 have kh7:=at0 t7 kh6
 have st7:=st6.trans0 t7
 generalize H6++[(resN (zde xs ys) n).map fun J=>V.bool true]=H7 at t7 kr7 s7 kh7 st7
 walk_at ""
 refine Opt.mk (zg7 (i:=0) rfl) ?_
 refine s_num F.numb kr7 rfl ?_
 walk_at ""
 refine s_num F.numb (at0 s7 ha) rfl ?_
 walk_at ""
 refine s_num F.numb (at0 s7 hb) rfl ?_
 walk_at ""
 rw[num_res hx hy,decide_eq_true (Int.natCast_add _ _)]
 walk_at ""
 refine Opt.mk (zg7 (i:=0) rfl) ?_
 refine zch (zfp kr7) fun cp H8 N8=>?_
 walk_at ""
 refine Opt.mk (zg7 (i:=0) rfl) ?_
 refine⟨rfl,?_⟩
 have kr8:=at0 N8.st kr7
 walk_at ""
 refine Opt.mk (zcx kr8 (by rw[zab,rl];exact ar1 [_] [] kaa (Y1 (Y0 V0 J1) (.l 10000)) (Y0 V0 (.l 64)) hn.2)) ?_
 have st8:=st7.trans0 N8.st
 have rlt:=zc2 kr8
 have u9:=st8.set (a:=r) (xs:=(resN (zde xs ys) n).map nat++[.int 1]) (.inr rlo)
 have u9':=(s5.trans0 st8).set (a:=r) (xs:=(resN (zde xs ys) n).map nat++[.int 1]) (.inr (zac s5.len rlo))
 have kc:(H8.set r ((resN (zde xs ys) n).map nat++[.int 1]))[cp]?=some ((resN (zde xs ys) n).map nat):=zcz N8.hold (Nat.ne_of_gt (zat (zc2 kr7) N8.lo))
 generalize H8.set r ((resN (zde xs ys) n).map nat++[.int 1])=H9 at u9 u9' kc
 clear N8 kr8 rlt
 walk_at ""
 have w1:=(Stay.refl (S:=[]) (H:=H9)).app (xs:=[V.lst nt,V.lst a,V.lst b])
 have v1:=u9.trans0 w1
 have v2':=u9'.trans0 w1
 refine Opt.mk (znu (eq_three (at0 v1 kh) (k0.grow v1) (at0 v1 k1) (at0 v1 k2) zcd (A.grow v2') (at0 v2' ha) (at0 v2' hb))) ?_
 generalize H9++[[V.lst nt,V.lst a,V.lst b]]=H10 at w1 v1 v2'
 walk_at ""
 refine Opt.mk (zc5 (i:=0) (at0 v1 kh) rfl) ?_
 refine Opt.mk (zc5 (i:=1) (at0 v1 kh) rfl) ?_
 refine Opt.mk (zc5 (i:=2) (at0 v1 kh) rfl) ?_
 refine s_add (d:=d+3) F.f (k0.grow v1) M.ok (at0 v1 k1) (at0 v1 k2) hx hy fx fy hn rfl (fun J t H11 N11=>?_) (fun h=>by rw[M.tells] at h;injection h)
 refine Opt.mk (znu (eq_row N11.hold (at0 (w1.trans0 N11.st) kc))) ?_
 rw[decide_eq_true rfl]
 walk_at ""
theorem znh(F:Fns11l c){sc:Nat}{net:Net}(A:NetAt H nt bs net)(M:MadeN n net)(ha:H[a]?=some (xs.map nat))(hb:H[b]?=some (ys.map nat))(hx:xs.length=n)(hy:ys.length=n)(fx:Fig xs)(fy:Fig ys)(hn:1<=n/\n<=64) :
  wpSs (Calls c) true (d+10) none (p11_law.drop 8) (EndQ fun v J=>v=.bool true) EE [some (.scr scr),some (.int n),some (.int cl),v3,some (.lst nt),some (.lst a),some (.lst b),none,none,none,none] H:=by
 refine Ss_go ?_
 walk_at "d"
 refine zcv (b:=13) (by decide) ?_
 walk_at "d"
 refine zcw (b:=4) (by decide) ?_
 walk_at "d"
 refine zcf (fun J=>?_) (fun J=>?_)
 ·walk_at "g"
  walk_at "d"
  refine zfc F.cell (i:=5) rfl ?_
  refine zjs rfl ?_
  walk_at "d"
  refine zdf (by decide) ?_
  obtain⟨e,he⟩:=zrb (x:=scr.getD 5 0*48271) (y:=2147483647) (by decide)
  rw[he]
  exact s_ref11 F.f F.ref F.unt F.cross A M ⟨ha,hb,hx,hy,fx,fy,hn⟩ rfl fun J=>rfl
 ·walk_at "g"
  walk_at "g"
  exact zr3 F A M ha hb hx hy fx fy hn
theorem flip_fig:Fig (xs.map fun x=>1-x):=fun y hy=>by revert hy;refine xL fun x J wj=>?_;subst wj;exact ar0 [_] [] 0x194a000c20180610000500420 (Y0 (Y2 J1 V0) J1)
theorem set_fig (h:Fig xs):Fig (xs.set i 1):=fun y hy=>(List.mem_or_eq_of_mem_set hy).elim (h y) fun e=>by rw[e];decide
theorem zoj(F:Fns11l c){w:Nat}(hn:1<=n/\n<=64)(hw:4<=w->n<=32) :
  wpSs (Calls c) true (d+90) none (p11_law.drop 4) (EndQ fun v J=>v=.bool true) EE [some (.scr scr),some (.int n),some (.int cl),some (.int w),none,none,none,none,none,none,none] H:=by
 refine Ss_go ?_
 walk_at "d"
 refine zfc F.cell (i:=2) rfl ?_
 refine s_made11 (d:=d+20) F.dd hn hw rfl fun nt bs H1 net M A st1=>?_
 walk_at "g"
 walk_at "g"
 walk_at "d"
 refine zfc F.cell (i:=3) rfl ?_
 refine zdf (by decide) ?_
 walk_at "d"
 refine s_fig (d:=d+89) F.fig hn.2 rfl fun a xs H2 N2 hx fx=>?_
 walk_at "g"
 walk_at "g"
 walk_at "d"
 refine zfc F.cell (i:=4) rfl ?_
 refine zdf (by decide) ?_
 walk_at "d"
 refine s_fig (d:=d+89) F.fig hn.2 rfl fun b ys H3 N3 hy fy=>?_
 have A3:=A.grow (N2.st.trans0 N3.st)
 have ha:=at0 N3.st N2.hold
 have hb:=N3.hold
 clear N2 N3 A st1
 walk_at "g"
 walk_at "g"
 walk_at "d"
 refine zcv (b:=63) (by decide) ?_
 walk_at "d"
 refine zcw (b:=3) (by decide) ?_
 walk_at "d"
 refine zcf (fun J=>?_) (fun J=>?_)
 ·walk_at "g"
  walk_at "d"
  refine Opt.mk (zdh ha) ⟨zck (by rw[zab,hx];exact ar1 [_] [] kaa (Y1 V0 (.l 100000)) (Y0 V0 (.l 64)) hn.2),?_⟩
  refine zc0 (f:=nat) (g:=fun x=>nat (1-x)) ha (fun x hx' K hK=>?_) ?_
  ·unfold nat
   walk_at "d"
   rw[show(1:Int)-(x:Int)=((1-x:Nat):Int) by have:=fx x hx';exact ar1 [_] [] 0x6194a000c201806100405004201a085294001840800c203006100400014a000c20200610000500420 (Y5 (Y2 J1 (Y4 V0 J0)) (Y4 (Y2 J1 V0) J0)) (Y0 V0 J1) this]
   exact hK
  have N4:New H3 H3.length (xs.map fun x=>nat (1-x)) (H3++[xs.map fun x=>nat (1-x)]):=.mk0
  generalize H3++[xs.map fun x=>nat (1-x)]=H4 at N4
  generalize hb4:H3.length=b4 at N4
  walk_at "g"
  walk_at "g"
  walk_at "d"
  refine zcv (b:=189) (by decide) ?_
  walk_at "d"
  refine zcw (b:=n) hn.1 ?_
  have hi:cl/189%n<n:=Nat.mod_lt _ hn.1
  generalize cl/189%n=i at hi
  have k4:H4[b4]?=some ((xs.map fun x=>1-x).map nat):=by rw[N4.hold,za0];rfl
  refine Opt.mk (zmc (x:=1) k4 (by rw[zab,hx];exact hi)) ?_
  have s5:=N4.st.set (a:=b4) (xs:=((xs.map fun x=>1-x).set i 1).map nat) (.inr N4.lo)
  have k5:=zd1 (xs:=((xs.map fun x=>1-x).set i 1).map nat) k4
  generalize H4.set b4 (((xs.map fun x=>1-x).set i 1).map nat)=H5 at s5 k5
  walk_at "g"
  walk_at "g"
  walk_at "g"
  exact znh (d:=d+80) (sc:=0) F (A3.grow s5) M (at0 s5 ha) k5 hx (by rw[zbg,zab];exact hx) fx (set_fig flip_fig) hn
 ·walk_at "g"
  walk_at "g"
  exact znh (d:=d+80) (sc:=0) F A3 M ha hb hx hy fx fy hn
theorem law11_ok(F:Fns11l c){xs:List Int}:Calls c true (d+91) "law" [.scr xs] none (fun v J=>v=.bool true) E H:=by
 obtain⟨n,e,hn⟩:∃n:Nat,zg2 (xs.getD 0 0)=(n:Int)/\1<=n/\n<=32:=by
  have hl:=zr4 (xs.getD 0 0)
  have hn:=(Int.toNat_of_nonneg (Int.le_trans (by decide) hl.1)).symm
  rw[hn] at hl
  exact⟨_,hn,zaw.mp hl.1,zaw.mp hl.2⟩
 have hn64:1<=n/\n<=64:=⟨hn.1,zac hn.2 (by decide)⟩
 refine F.law true (d+90) _ _ _ _ rfl ?_
 refine Ss_go ?_
 walk_at "d"
 refine zfc F.cell (i:=0) rfl ?_
 refine zr5 F.lines ?_
 rw[e]
 clear e
 walk_at "g"
 walk_at "g"
 walk_at "d"
 refine zfc F.cell (i:=1) rfl ?_
 refine zjs rfl ?_
 walk_at "d"
 refine zdf (by decide) ?_
 obtain⟨cl,he⟩:=zrb (x:=xs.getD 1 0*48271) (y:=2147483647) (by decide)
 rw[he]
 clear he
 walk_at "g"
 walk_at "g"
 walk_at "d"
 refine zcw (b:=7) (by decide) ?_
 generalize cl%7=w
 walk_at "g"
 walk_at "g"
 walk_at "d"
 refine zcv (b:=7) (by decide) ?_
 walk_at "d"
 refine zcw (b:=3) (by decide) ?_
 walk_at "d"
 have no:wpSs (Calls c) true (d+90) none (p11_law.drop 4) (EndQ fun v J=>v=.bool true) (EndX E) [some (.scr xs),some (.int n),some (.int cl),some (.int w),none,none,none,none,none,none,none] H:=zoj F hn64 fun J=>hn.2
 refine zcf (fun J=>?_) (fun J=>?_)
 ·refine zcf (fun hw=>?_) (fun J=>?_)
  ·walk_at "g"
   walk_at "d"
   refine zcv (b:=21) (by decide) ?_
   walk_at "d"
   refine zcw (b:=32) (by decide) ?_
   have h32:cl/21%32<32:=Nat.mod_lt _ (by decide)
   generalize cl/21%32=e at h32
   walk_at "d"
   rw[show(33:Int)+(e:Int)=((33+e:Nat):Int) by exact ar0 [_] [] kac (Y5 (Y0 (.l 33) (Y4 V0 J0)) (Y4 (Y0 (.l 33) V0) J0))]
   walk_at "g"
   walk_at "g"
   walk_at "g"
   exact zoj F ⟨by exact ar0 [_] [] 171801870336 (Y0 J1 (Y0 (.l 33) V0)),by exact ar1 [_] [] kaa (Y0 (Y0 (.l 33) V0) (.l 64)) (Y1 V0 (.l 32)) h32⟩ fun h=>absurd hw (by exact ar2 [_] [] kag (Y8 (Y4 (Y4 V0 J0) (.l 4)) J0) (Y4 (Y4 V0 J0) (.l 4)) (Y0 (.l 4) V0) hw h)
  ·walk_at "g"
   walk_at "g"
   exact no
 ·walk_at "g"
  walk_at "g"
  exact no
end Bn
open PySem PySem.W PyProof.Rows Bn
set_option maxRecDepth 100000
set_option maxHeartbeats 8000000
namespace Bn
noncomputable def fs11:List Str:=(["is_among","is_text","is_map","is_step","need_kind","is_thing","need_thing","need_alike","put_together","need_lines","is_joint","is_layer","need_net","does_tell"]:List Str)++(["carried","need_things","led","need_telling","added","moved","side_by_side","parted","paired","one_by_one","doubled","by_halves","by_pairs","_law_cell_at"]:List Str)++(["_law_whole","_law_place","_law_thinner","_law_telling","_law_lines_by","_law_word","_law_tried","_law_made","_law_figures","_law_number","_law_crossed","_law_untelling","_law_refused","law"]:List Str)
noncomputable def vals11:List (Str×V):=[("KINDS",.tup [.str "sum",.str "most",.str "text",.str "map",.str "step"]),("MOST_NUMBER",.int 1000000000000),("MOST_PLACES",.int 8),("WHOLE",.int 1000003),("MOST_LINES",.int 64),("MOST_LAYERS",.int 80),("MOST_JOINTS",.int 63)]
end Bn
set_option tactic.hygienic true in
theorem PySem.Challenge.cw_uf020024_11_holds : PySem.Challenge.rw_uf020024_11.Holds := by
 w_on;(refine PySem.W.holds_law said11 fun said=>?_)
 (refine holds_open (q:=zna) (loose:=[]) (Xt:=fun s=>xlAt zna [] s&&recOk (RowW.records Challenge.rw_uf020024_11.row.toRowW) s) (XP:=XL zna []) (Yf:=Hook.obs (zjw _ zoc)) (Ya:=Hook.val (zjw _ zoc)) (YP:=Hook.says (zjw _ zoc)) (N:=8000) left11 (Hook.of (zjw _ zoc)) (Hook.keeps (zjw _ zoc)) (fun s e=>xl_of s (zbc.mp e).1) XL.keeps (by rfl) (by rfl) (by rfl) (fun s e=>recFacts_of (zbc.mp e).2) (by rfl) (by first |assumption |decide +kernel) (by decide +kernel) ⟨rfl,rfl,rfl,rfl,rfl,by decide +kernel⟩ ?hw ?hc);(case hw=>w_witness2)
 intro w s₀ s₁ mg mb G Y fa o pm cd doc dV kV ho hd hcd hD hmg hg args vals as hpre hlay hrd hwl hlo
 refine Ground.open G ?_
 intro T B D TE TW
 have TA:=at_of_top T
 wrow_args hpre hlay hrd hwl hlo
 refine enter_call ?_
 rename_i l _ _ _ _ _ _ _ a vs _ hL _ _ _ hI _ wq _
 obtain⟨e,P,LD,AP⟩:=led_of TA (Tb:=zud fs11 vals11) 16 30 0 19 (f:="led") (np:=3) (n:=3) (y:=(zt7,117,32)) (by kernel_rfl)
 have hP:=AP.tab
 let c:Cx:=⟨Challenge.rw_uf020024_11.row.prog,w,s₁.heap.hide P,mg,mb,LamF,[(P,(117,32),e.name++".<locals>."++"<lambda>")]⟩
 have hh:Hid s₁.heap c:=zmj rfl hP
 have O:c.Ok:=ok_hid T hh rfl rfl (T.seer (by decide +kernel)) rfl
 have XO:ExcOk c:=exc_ok (c:=c) (exc_hid hh Y.1) (zfg hh T.g) ⟨zoy T (by kernel_rfl),(T.builtins _ (by decide +kernel)).trans (by kernel_rfl)⟩
 have NO:NetOk c:=net_ok (c:=c) (net_hid rfl hP Y.2) (zfg hh T.g)
 have TO:TabOk c (zud fs11 vals11):=tab_ok T B rfl rfl hh (by kernel_rfl) (by kernel_rfl) (by kernel_rfl) XO NO (fun J J J h=>h)
 have TD:∀e∈(recsOf Challenge.rw_uf020024_11.row.prog).map W.itemOf,e.params.defaults=[]->DefAt c e:=fun e he hd=>DefAt.of hh (TA e he hd)
 have K:Chk9 c:={
  among:=zcq (c:=c) TD O TO 0 30 0 (by kernel_rfl)
  lines:=zcq (c:=c) TD O TO 9 30 0 (by kernel_rfl)
  joint:=zcq (c:=c) TD O TO 10 30 0 (by kernel_rfl)
  layer:=zcq (c:=c) TD O TO 11 30 0 (by kernel_rfl)
  net:=zcq (c:=c) TD O TO 12 30 0 (by kernel_rfl) }
 have F:Fns11l c:={
  f:={
  p:={
  chk:=K
  ismap:=zcq (c:=c) TD O TO 2 30 1 (by kernel_rfl)
  thing:=zcq (c:=c) TD O TO 5 30 0 (by kernel_rfl)
  put:=zcq (c:=c) TD O TO 8 30 1 (by kernel_rfl)
  nkind:=zcq (c:=c) TD O TO 4 30 0 (by kernel_rfl)
  nthing:=zcq (c:=c) TD O TO 6 30 0 (by kernel_rfl)
  alike:=zcq (c:=c) TD O TO 7 30 1 (by kernel_rfl)
  things:=zcq (c:=c) TD O TO 15 30 0 (by kernel_rfl)
  led:=has_led (c:=c) O TO (bm_hid T hh rfl) (fun J J J h=>h) LD (DefTab.of hh AP (Heap.hide_self _ _) rfl)
  car:=has_atJ (c:=c) TD O TO 14 30 0 ["net","things"] (by kernel_rfl) }
  does:=zcq (c:=c) TD O TO 13 30 1 (by kernel_rfl)
  ntell:=zcq (c:=c) TD O TO 17 30 0 (by kernel_rfl)
  added:=zcq (c:=c) TD O TO 18 30 1 (by kernel_rfl)
  word:=zcq (c:=c) TD O TO 33 30 0 (by kernel_rfl)
  tried:=zcq (c:=c) TD O TO 34 30 0 (by kernel_rfl) }
  dd:={
  m:={
  chk:=K
  moved:=zcq (c:=c) TD O TO 19 30 3 (by kernel_rfl)
  side:=zcq (c:=c) TD O TO 20 30 0 (by kernel_rfl)
  parted:=zcq (c:=c) TD O TO 21 30 1 (by kernel_rfl)
  paired:=zcq (c:=c) TD O TO 22 30 3 (by kernel_rfl)
  halves:=zcq (c:=c) TD O TO 25 30 0 (by kernel_rfl)
  pairs:=zcq (c:=c) TD O TO 26 30 0 (by kernel_rfl) }
  one:=zcq (c:=c) TD O TO 23 30 1 (by kernel_rfl)
  dbl:=zcq (c:=c) TD O TO 24 30 1 (by kernel_rfl)
  place:=zcq (c:=c) TD O TO 29 30 0 (by kernel_rfl)
  thinner:=zcq (c:=c) TD O TO 30 30 0 (by kernel_rfl)
  telling:=zcq (c:=c) TD O TO 31 30 3 (by kernel_rfl)
  made:=zcq (c:=c) TD O TO 35 30 0 (by kernel_rfl) }
  fig:=zcq (c:=c) TD O TO 36 30 0 (by kernel_rfl)
  numb:=zcq (c:=c) TD O TO 37 30 0 (by kernel_rfl)
  unt:=zcq (c:=c) TD O TO 39 30 0 (by kernel_rfl)
  cross:=zcq (c:=c) TD O TO 38 30 1 (by kernel_rfl)
  ref:=zcq (c:=c) TD O TO 40 30 0 (by kernel_rfl)
  whole:=zcq (c:=c) TD O TO 28 30 0 (by kernel_rfl)
  cell:=zcq (c:=c) TD O TO 27 30 0 (by kernel_rfl)
  lines:=zcq (c:=c) TD O TO 32 30 0 (by kernel_rfl)
  law:=zcq (c:=c) TD O TO 41 30 1 (by kernel_rfl) }
 refine law_endL (c:=c) (d:=500) (vs:=vs) (l:=l) ⟨by decide,by decide,fun J=>rfl,[],rfl,by simp⟩ rfl hP rfl hg hmg hL hI (by have:qag=2^24:=rfl;omega) ?_ ?_
 ·exact law11_ok (d:=409) F
 ·intro s' h1 h2 h3 h4
  refine⟨.inl ⟨.bool true,.bool true,[],rfl,fun J=>?_,.bool true,?_,fun h=>?_⟩,oldK_of AP h1 h2,h3,.of_eq h4⟩
  ·first |rfl |kernel_rfl
  ·first |rfl |kernel_rfl
  ·first |(cases h;done) |exact⟨zbx,by simp⟩
