import PyProof.Rows.All
import Wide.All
import Wide.FinOn
import Open.Line
import PyProof.TupleOfStr
import KE.KSortTup
import PyProof.CodeObjX
import PyProof.DefMake
import PyProof.Rows.PlainStore
import PyProof.OldK
import PySem.Challenge.RW_uf020024_07
set_option Elab.async false
set_option linter.all false
set_option genSizeOf false
set_option genInjectivity false
set_option bootstrap.genMatcherCode false
open Option.some renaming inj->zaa
open Nat renaming le_trans->zab
open List renaming length_map->zac
open Option renaming bind_eq_some_iff->zad
open List renaming mem_cons_self->zae
open Nat renaming le_refl->zaf
open Bool renaming and_eq_true_iff->zag
open List renaming mem_singleton->zah
open List renaming mem_cons_of_mem->zai
open Option renaming map_eq_some_iff->zaj
open List renaming mem_map->zak
open List renaming mem_cons->zal
open List renaming getElem?_eq_getElem->zam
open List renaming getElem?_map->zan
open List renaming length_append->zao
open List renaming length_range->zap
open Int renaming ofNat_lt->zaq
open Nat renaming lt_trans->zar
open List renaming getD_eq_getElem?_getD->zas
open List renaming map_append->zat
open List renaming mem_append->zau
open Nat renaming le_of_lt->zav
open Nat renaming lt_of_le_of_lt->zaw
open List renaming mem_of_getElem?->zax
open Nat renaming lt_of_lt_of_le->zay
open Int renaming ofNat_le->zaz
open List renaming map_map->za0
open List renaming lookup_cons->za1
open Nat renaming zero_le->za2
open Nat renaming ne_of_lt->za3
open List renaming mem_range->za4
open List renaming all_eq_true->za5
open Nat renaming eq_of_beq_eq_true->za6
open List renaming forall_mem_cons->za7
open Nat renaming le_add_right->za8
open List renaming append_nil->za9
open Nat renaming le_of_not_lt->zba
open Nat renaming lt_irrefl->zbb
open Nat renaming le_of_eq->zbc
open List renaming append_assoc->zbd
open Array renaming length_toList->zbe
open Int renaming natCast_nonneg->zbf
open List renaming map_cons->zbg
open List renaming length_cons->zbh
open List renaming getElem?_eq_some_iff->zbi
open List renaming length_take->zbj
open Nat renaming le_succ_of_le->zbk
open List renaming getElem?_range->zbl
open List renaming length_set->zbm
open List renaming isEmpty_iff->zbn
open List renaming not_mem_nil->zbo
open Bool renaming not_eq_true'->zbp
open List renaming getElem?_eq_none->zbq
open List renaming length_drop->zbr
open Int renaming ofNat_inj->zbs
open Nat renaming le_add_left->zbt
open List renaming getElem?_append_left->zbu
open List renaming getElem?_append_right->zbv
open List renaming length_eq_zero_iff->zbw
open Bool renaming false_eq_true->zbx
open List renaming map_congr_left->zby
open List renaming mem_append_right->zbz
open List renaming getElem?_set_self->zb0
open List renaming getElem?_set_ne->zb1
open Bool renaming or_eq_true_iff->zb2
open Nat renaming succ_le_succ->zb3
open List renaming flatMap_cons->zb4
open List renaming nodup_cons->zb5
open Nat renaming sub_add_cancel->zb6
open Option renaming isSome_iff_exists->zb7
open List renaming drop_eq_getElem_cons->zb8
open List renaming mem_of_find?_eq_some->zb9
open List renaming mem_iff_getElem->zca
open Array renaming getElem?_toList->zcb
open Array renaming getElem?_eq_getElem->zcc
open Option renaming isNone_iff_eq_none->zcd
open Nat renaming add_sub_cancel_left->zce
section
open PySem PySem.W PyProof.Rows
set_option maxRecDepth 100000
set_option maxHeartbeats 8000000
namespace Bn
noncomputable def znz:Program:={ Challenge.rw_uf020024_07.row.prog with main:={ Challenge.rw_uf020024_07.row.prog.main with body:=([1,2,3,4,5,6,8,9,10,11,12,13,14,15,16,17,18,19,20,21,22,24,25,26,27,28,29,30,31,32,33,34,35,37,38,39,40,42,43,44,45,46,47,49,50,51,52,54,56,57,58,59,60,61,62,63,64,65,66,67,68]:List Nat).filterMap fun i=>Challenge.rw_uf020024_07.row.prog.main.body[i]? } }
theorem said07:Challenge.rw_uf020024_07.wellSaid=true:=by kernel_rfl
theorem left07:LeftO Challenge.rw_uf020024_07.row.prog znz [] (fun s=>xlAt znz [] s&&recOk (RowW.records Challenge.rw_uf020024_07.row.toRowW) s) (Hook.obs Hook.none) (Hook.val Hook.none) 8000:=by intro w;kernel_rfl
end Bn
end

namespace Ar
inductive Nd where
 |l (k:Nat) |v (i:Nat) |b (t:Nat)(x y:Nd)
noncomputable def nthA{α:Type}(z:α)(l:List α):Nat->α:=List.rec (fun _=>z) (fun x _ ih i=>Nat.rec x (fun j _=>ih j) i) l
noncomputable def vN(c:List Nat)(e:Nd):Nat:=
 (fun _:Nat=>Nd.rec (fun k=>k) (fun i=>List.rec (fun _=>0) (fun x _ ih i=>Nat.rec x (fun j _=>ih j) i) c i) (fun t _ _ X Y=>cond (t.beq 0) (X+Y) (cond (t.beq 1) (X*Y) (cond (t.beq 2) (X-Y) (cond (t.beq 3) (X/Y) (cond (t.beq 4) (X%Y) (min X Y)))))) e) PySem.sizeLine
noncomputable def vZ(c:List Nat)(z:List Int)(e:Nd):Int:=
 Nd.rec (fun k=>(k:Int)) (fun i=>nthA 0 z i) (fun t x _ X Y=>cond (t.beq 0) (X+Y) (cond (t.beq 1) (X*Y) (cond (t.beq 2) (X-Y) (cond (t.beq 3) (-X) ((vN c x:Nat):Int))))) e
noncomputable def vP(c:List Nat)(z:List Int)(e:Nd):Prop:=
 Nd.rec (fun _=>False) (fun _=>False) (fun t x y X Y=>cond (t.beq 0) (vN c x<=vN c y) (cond (t.beq 1) (vN c x<vN c y) (cond (t.beq 2) (vN c x=vN c y)
  (cond (t.beq 3) (vZ c z x<=vZ c z y) (cond (t.beq 4) (vZ c z x<vZ c z y) (cond (t.beq 5) (vZ c z x=vZ c z y)
  (cond (t.beq 6) (X/\Y) (cond (t.beq 7) (X\/Y) (¬X))))))))) e
noncomputable def same(e:Nd):Nd->Bool:=
 Nd.rec (fun k f=>Nd.rec (fun j=>k.beq j) (fun _=>false) (fun _ _ _ _ _=>false) f) (fun k f=>Nd.rec (fun _=>false) (fun j=>k.beq j) (fun _ _ _ _ _=>false) f)
  (fun t _ _ X Y f=>Nd.rec (fun _=>false) (fun _=>false) (fun u x y _ _=>cond (t.beq u) (cond (X x) (Y y) false) false) f) e
theorem zuc(e:Nd):∀f,same e f=true->e=f:=by
 induction e with
 |l k=>intro f h;cases f with
  |l j=>rw[za6 h]
  |v j=>exact nomatch h
  |b t x y=>exact nomatch h
 |v k=>intro f h;cases f with
  |l j=>exact nomatch h
  |v j=>rw[za6 h]
  |b t x y=>exact nomatch h
 |b t x y ihx ihy=>intro f h;cases f with
  |l j=>exact nomatch h
  |v j=>exact nomatch h
  |b u x' y'=>
   replace h:cond (t.beq u) (cond (same x x') (same y y') false) false=true:=h
   cases h1:t.beq u with
   |false=>rw[h1] at h;exact nomatch h
   |true=>
    rw[h1] at h;replace h:cond (same x x') (same y y') false=true:=h
    cases h2:same x x' with
    |false=>rw[h2] at h;exact nomatch h
    |true=>rw[h2] at h;rw[za6 h1,ihx _ h2,ihy _ h]
abbrev Lin:=List (Int×Bool×Nd)
section
variable (c:List Nat)(z:List Int)
noncomputable def atV(s:Bool)(a:Nd):Int:=cond s (vN c a:Int) (vZ c z a)
noncomputable def val(l:Lin):Int:=List.rec 0 (fun p _ ih=>p.1*atV c z p.2.1 p.2.2+ih) l
noncomputable def put (k:Int) (s:Bool) (a:Nd) (l:Lin):Lin:=List.rec [(k,s,a)] (fun p r ih=>cond (cond (s==p.2.1) (same a p.2.2) false) ((k+p.1,s,a)::r) (p::ih)) l
theorem zfy (k:Int) (s:Bool) (a:Nd) (l:Lin):val c z (put k s a l)=k*atV c z s a+val c z l:=by
 induction l with
 |nil=>rfl
 |cons p r ih=>
  show val c z (cond (cond (s==p.2.1) (same a p.2.2) false) ((k+p.1,s,a)::r) (p::put k s a r))=k*atV c z s a+(p.1*atV c z p.2.1 p.2.2+val c z r)
  cases h:cond (s==p.2.1) (same a p.2.2) false with
  |false=>
   show p.1*atV c z p.2.1 p.2.2+val c z (put k s a r)=_
   rw[ih];exact Int.add_left_comm ..
  |true=>
   cases h1:s==p.2.1 with
   |false=>rw[h1] at h;exact nomatch h
   |true=>
    rw[h1] at h
    show(k+p.1)*atV c z s a+val c z r=_
    rw[<- eq_of_beq h1,<-zuc _ _ h,Int.add_mul,Int.add_assoc]
noncomputable def litN(e:Nd):Option Nat:=Nd.rec some (fun _=>none) (fun _ _ _ _ _=>none) e
theorem zp8{e:Nd}{n:Nat}(h:litN e=some n):e=.l n:=by
 cases e with
 |l k=>rw[zaa h]
 |v _=>exact nomatch h
 |b _ _ _=>exact nomatch h
noncomputable def linN(e:Nd):Int->Lin->Lin:=
 Nd.rec (fun n k L=>put (k*n) true (.l 1) L) (fun i k L=>put k true (.v i) L)
  (fun t x y X Y k L=>cond (t.beq 0) (X k (Y k L)) (cond (t.beq 1) (Option.rec (Option.rec (put k true (.b t x y) L) (fun n=>X (k*n) L) (litN y)) (fun n=>Y (k*n) L) (litN x)) (put k true (.b t x y) L))) e
theorem zm4(e:Nd):∀k L,val c z (linN e k L)=k*(vN c e:Int)+val c z L:=by
 induction e with
 |l n=>intro k L;exact(zfy c z _ _ _ _).trans (by show k*n*((1:Nat):Int)+_=_;rw[Int.natCast_one,Int.mul_one];rfl)
 |v i=>intro k L;exact zfy c z _ _ _ _
 |b t x y X Y=>
  intro k L
  show val c z (cond (t.beq 0) (linN x k (linN y k L)) (cond (t.beq 1) (Option.rec (Option.rec (put k true (.b t x y) L) (fun n=>linN x (k*n) L) (litN y)) (fun n=>linN y (k*n) L) (litN x)) (put k true (.b t x y) L)))=_
  cases h0:t.beq 0 with
  |true=>
   obtain rfl:=za6 h0
   show val c z (linN x k (linN y k L))=k*((vN c x+vN c y:Nat):Int)+_
   rw[X,Y,Int.natCast_add,Int.mul_add,Int.add_assoc]
  |false=>
   cases h1:t.beq 1 with
   |false=>exact zfy c z _ _ _ _
   |true=>
    obtain rfl:=za6 h1
    show val c z (Option.rec (Option.rec (put k true (.b 1 x y) L) (fun n=>linN x (k*n) L) (litN y)) (fun n=>linN y (k*n) L) (litN x))=k*((vN c x*vN c y:Nat):Int)+_
    cases hx:litN x with
    |some n=>
     rw[zp8 hx]
     show val c z (linN y (k*n) L)=k*((n*vN c y:Nat):Int)+_
     rw[Y,Int.natCast_mul,Int.mul_assoc]
    |none=>
     cases hy:litN y with
     |some n=>
      rw[zp8 hy]
      show val c z (linN x (k*n) L)=k*((vN c x*n:Nat):Int)+_
      rw[X,Int.natCast_mul,Int.mul_assoc,Int.mul_comm (n:Int)]
     |none=>exact zfy c z _ _ _ _
noncomputable def linZ(e:Nd):Int->Lin->Lin:=
 Nd.rec (fun n k L=>put (k*n) true (.l 1) L) (fun i k L=>put k false (.v i) L)
  (fun t x y X Y k L=>cond (t.beq 0) (X k (Y k L)) (cond (t.beq 2) (X k (Y (-k) L)) (cond (t.beq 3) (X (-k) L) (cond (t.beq 4) (linN x k L)
   (cond (t.beq 1) (Option.rec (put k false (.b t x y) L) (fun n=>Y (k*n) L) (litN x)) (put k false (.b t x y) L)))))) e
theorem zrl(e:Nd):∀k L,val c z (linZ e k L)=k*vZ c z e+val c z L:=by
 induction e with
 |l n=>intro k L;exact(zfy c z _ _ _ _).trans (by show k*n*((1:Nat):Int)+_=_;rw[Int.natCast_one,Int.mul_one];rfl)
 |v i=>intro k L;exact zfy c z _ _ _ _
 |b t x y X Y=>
  intro k L
  show val c z (cond (t.beq 0) (linZ x k (linZ y k L)) (cond (t.beq 2) (linZ x k (linZ y (-k) L)) (cond (t.beq 3) (linZ x (-k) L) (cond (t.beq 4) (linN x k L)
   (cond (t.beq 1) (Option.rec (put k false (.b t x y) L) (fun n=>linZ y (k*n) L) (litN x)) (put k false (.b t x y) L))))))=_
  cases h0:t.beq 0 with
  |true=>
   obtain rfl:=za6 h0
   show val c z (linZ x k (linZ y k L))=k*(vZ c z x+vZ c z y)+_
   rw[X,Y,Int.mul_add,Int.add_assoc]
  |false=>
  cases h2:t.beq 2 with
  |true=>
   obtain rfl:=za6 h2
   show val c z (linZ x k (linZ y (-k) L))=k*(vZ c z x-vZ c z y)+_
   rw[X,Y,Int.mul_sub,Int.sub_eq_add_neg,Int.neg_mul,Int.add_assoc]
  |false=>
  cases h3:t.beq 3 with
  |true=>
   obtain rfl:=za6 h3
   show val c z (linZ x (-k) L)=k*(- vZ c z x)+_
   rw[X,Int.neg_mul,Int.mul_neg]
  |false=>
  cases h4:t.beq 4 with
  |true=>
   obtain rfl:=za6 h4
   exact zm4 c z x k L
  |false=>
  cases h1:t.beq 1 with
  |false=>exact zfy c z _ _ _ _
  |true=>
   obtain rfl:=za6 h1
   show val c z (Option.rec (put k false (.b 1 x y) L) (fun n=>linZ y (k*n) L) (litN x))=k*(vZ c z x*vZ c z y)+_
   cases hx:litN x with
   |none=>exact zfy c z _ _ _ _
   |some n=>
    rw[zp8 hx]
    show val c z (linZ y (k*n) L)=k*((n:Int)*vZ c z y)+_
    rw[Y,Int.mul_assoc]
noncomputable def addF(k:Int)(s:Bool)(d:Int)(x y:Nd)(L:Lin):Lin:=put (k*d) true (.l 1) (cond s (linN y k (linN x (-k) L)) (linZ y k (linZ x (-k) L)))
theorem zr1(k:Int)(s:Bool)(d:Int)(x y:Nd)(L:Lin):val c z (addF k s d x y L)=k*(d+(atV c z s y-atV c z s x))+val c z L:=by
 refine(zfy c z _ _ _ _).trans ?_
 have e:val c z (cond s (linN y k (linN x (-k) L)) (linZ y k (linZ x (-k) L)))=k*(atV c z s y-atV c z s x)+val c z L:=by
  rw[Int.mul_sub,Int.sub_eq_add_neg,<-Int.neg_mul,Int.add_assoc]
  cases s
  ·exact(zrl c z _ _ _).trans (congrArg _ (zrl c z _ _ _))
  ·exact(zm4 c z _ _ _).trans (congrArg _ (zm4 c z _ _ _))
 rw[e,show atV c z true (.l 1)=1 from rfl,Int.mul_one,Int.mul_add,Int.add_assoc]
noncomputable def shape(f:Nd):Option (Bool×Bool×Int×Nd×Nd):=
 Nd.rec (fun _=>none) (fun _=>none) (fun t x y _ _=>cond (t.beq 0) (some (false,true,0,x,y)) (cond (t.beq 1) (some (false,true,-1,x,y)) (cond (t.beq 2) (some (true,true,0,x,y))
  (cond (t.beq 3) (some (false,false,0,x,y)) (cond (t.beq 4) (some (false,false,-1,x,y)) (cond (t.beq 5) (some (true,false,0,x,y)) (cond (t.beq 8)
   (Nd.rec (fun _=>none) (fun _=>none) (fun t x y _ _=>cond (t.beq 0) (some (false,true,-1,y,x)) (cond (t.beq 1) (some (false,true,0,y,x)) (cond (t.beq 3) (some (false,false,-1,y,x)) (cond (t.beq 4) (some (false,false,0,y,x)) none)))) x)
   none))))))) f
variable {c z} in
theorem zcr{α:Type}{b:Bool}{x y:α}{P:Prop}{a:α}(h1:b=true->x=a->P)(h2:b=false->y=a->P)(h:cond b x y=a):P:=by
 cases b
 ·exact h2 rfl h
 ·exact h1 rfl h
def Sh(q s:Bool)(d:Int)(x y:Nd):Prop:=(q=true->d+(atV c z s y-atV c z s x)=0)/\0<=d+(atV c z s y-atV c z s x)
theorem sh_le{s:Bool}{x y:Nd}(h:atV c z s x<=atV c z s y):Sh c z false s 0 x y:=⟨nofun,by rw[Int.zero_add];exact Int.sub_nonneg_of_le h⟩
theorem sh_lt{s:Bool}{x y:Nd}(h:atV c z s x<atV c z s y):Sh c z false s (-1) x y:=⟨nofun,by rw[Int.add_comm];exact Int.sub_nonneg_of_le (Int.sub_pos_of_lt h)⟩
theorem sh_eq{s:Bool}{x y:Nd}(h:atV c z s x=atV c z s y):Sh c z true s 0 x y:=⟨fun _=>by rw[h,Int.sub_self];rfl,by rw[h,Int.sub_self];decide⟩
theorem shape_ok{f:Nd}{p:Bool×Bool×Int×Nd×Nd}(h:shape f=some p)(hf:vP c z f):Sh c z p.1 p.2.1 p.2.2.1 p.2.2.2.1 p.2.2.2.2:=by
 cases f with
 |l _=>exact nomatch h
 |v _=>exact nomatch h
 |b t a b=>
  revert h
  refine zcr (fun e h=>?_) fun _=>zcr (fun e h=>?_) fun _=>zcr (fun e h=>?_) fun _=>zcr (fun e h=>?_) fun _=>zcr (fun e h=>?_) fun _=>zcr (fun e h=>?_) fun _=>zcr (fun e h=>?_) fun _ h=>nomatch h
  all_goals obtain rfl:=za6 e
  ·rw[<- zaa h];exact sh_le c z (s:=true) (zaz.mpr hf)
  ·rw[<- zaa h];exact sh_lt c z (s:=true) (zaq.mpr hf)
  ·rw[<- zaa h];exact sh_eq c z (s:=true) (congrArg Int.ofNat hf)
  ·rw[<- zaa h];exact sh_le c z (s:=false) hf
  ·rw[<- zaa h];exact sh_lt c z (s:=false) hf
  ·rw[<- zaa h];exact sh_eq c z (s:=false) hf
  ·cases a with
   |l _=>exact nomatch h
   |v _=>exact nomatch h
   |b t a b=>
    revert h
    refine zcr (fun e h=>?_) fun _=>zcr (fun e h=>?_) fun _=>zcr (fun e h=>?_) fun _=>zcr (fun e h=>?_) fun _ h=>nomatch h
    all_goals obtain rfl:=za6 e
    ·rw[<- zaa h];exact sh_lt c z (s:=true) (zaq.mpr (Nat.lt_of_not_le hf))
    ·rw[<- zaa h];exact sh_le c z (s:=true) (zaz.mpr (zba hf))
    ·rw[<- zaa h];exact sh_lt c z (s:=false) (Int.lt_of_not_ge hf)
    ·rw[<- zaa h];exact sh_le c z (s:=false) (Int.le_of_not_gt hf)
end
end Ar
namespace Ar
section
variable (c:List Nat)(z:List Int)
noncomputable def useF(g:Bool)(m:Nat)(f:Nd)(L:Lin):Lin:=
 Option.rec L (fun p=>cond g (cond p.1 (addF (-(m:Int)) p.2.1 p.2.2.1 p.2.2.2.1 p.2.2.2.2 L) L) (addF m p.2.1 p.2.2.1 p.2.2.2.1 p.2.2.2.2 L)) (shape f)
theorem useF_ok{g:Bool}{m:Nat}{f:Nd}{L:Lin}(hf:vP c z f)(h:0<=val c z L):0<=val c z (useF g m f L):=by
 show 0<=val c z (Option.rec L _ (shape f))
 cases e:shape f with
 |none=>exact h
 |some p=>
  obtain⟨h1,h2⟩:=shape_ok c z e hf
  cases g with
  |false=>
   show 0<=val c z (addF m p.2.1 p.2.2.1 p.2.2.2.1 p.2.2.2.2 L)
   rw[zr1];exact Int.add_nonneg (Int.mul_nonneg (zbf m) h2) h
  |true=>
   show 0<=val c z (cond p.1 (addF (-(m:Int)) p.2.1 p.2.2.1 p.2.2.2.1 p.2.2.2.2 L) L)
   cases e:p.1 with
   |false=>exact h
   |true=>
    show 0<=val c z (addF (-(m:Int)) p.2.1 p.2.2.1 p.2.2.2.1 p.2.2.2.2 L)
    rw[zr1,h1 e,Int.mul_zero,Int.zero_add];exact h
noncomputable def ub(L:Lin):Option Int:=
 List.rec (some 0) (fun p _ ih=>Option.rec none (fun u=>cond (cond p.2.1 (same p.2.2 (.l 1)) false) (some (p.1+u)) (cond (p.1==0) (some u) (cond p.2.1 (cond (decide (p.1<=0)) (some u) none) none))) ih) L
theorem ub_ok(L:Lin):∀u,ub L=some u->val c z L<=u:=by
 induction L with
 |nil=>intro u h;rw[<- zaa h];exact Int.le_refl 0
 |cons p r ih=>
  intro u h
  obtain⟨k,s,a⟩:=p
  replace h:Option.rec none (fun u=>cond (cond s (same a (.l 1)) false) (some (k+u)) (cond (k==0) (some u) (cond s (cond (decide (k<=0)) (some u) none) none))) (ub r)=some u:=h
  show k*atV c z s a+val c z r<=u
  cases e:ub r with
  |none=>rw[e] at h;exact nomatch h
  |some w=>
   have hr:=ih w e
   rw[e] at h
   revert h
   refine zcr (fun e1 h=>?_) fun _=>zcr (fun e1 h=>?_) fun _ h=>?_
   ·rw[<- zaa h]
    cases s with
    |false=>exact nomatch e1
    |true=>
     rw[zuc _ _ e1]
     exact Int.add_le_add (Int.le_of_eq (Int.mul_one k)) hr
   ·rw[<- zaa h,eq_of_beq e1,Int.zero_mul,Int.zero_add];exact hr
   ·cases s with
    |false=>exact nomatch h
    |true=>
     replace h:cond (decide (k<=0)) (some w) none=some u:=h
     revert h
     refine zcr (fun e1 h=>?_) fun _ h=>nomatch h
     rw[<- zaa h]
     have:=Int.mul_nonneg (Int.neg_nonneg_of_nonpos (of_decide_eq_true e1)) (zbf (vN c a))
     rw[Int.neg_mul] at this
     have h2:k*atV c z true a<=0:=Int.nonpos_of_neg_nonneg this
     exact Int.le_trans (Int.add_le_add h2 hr) (Int.le_of_eq (Int.zero_add w))
noncomputable def fin(L:Lin):Bool:=Option.rec false (fun u=>decide (u<0)) (ub L)
theorem fin_ok{L:Lin}(h:fin L=true)(h0:0<=val c z L):False:=by
 replace h:Option.rec false (fun u=>decide (u<0)) (ub L)=true:=h
 cases e:ub L with
 |none=>rw[e] at h;exact nomatch h
 |some u=>rw[e] at h;exact Int.not_lt.mpr (Int.le_trans h0 (ub_ok c z L u e)) (of_decide_eq_true h)
abbrev AllP (F:List Nd):Prop:=∀f∈F,vP c z f
noncomputable def nf(F:List Nd)(i:Nat):Nd:=nthA (.b 8 (.l 0) (.l 0)) F i
theorem nf_ok{F:List Nd}(h:AllP c z F):∀i,vP c z (nf F i):=by
 induction F with
 |nil=>exact fun _ (x:False)=>x
 |cons f r ih=>
  intro i
  cases i with
  |zero=>exact h f zae
  |succ i=>exact ih (fun g hg=>h g (zai _ hg)) i
noncomputable def kid(e:Nd):Nat:=Nd.rec (fun k=>k) (fun k=>k) (fun _ _ _ _ _=>0) e
noncomputable def comb(e:Nd):List Nd->Lin->Lin:=
 Nd.rec (fun _ _ L=>L) (fun _ _ L=>L) (fun _ x _ _ Y F L=>Y F (Nd.rec (fun _=>L) (fun _=>L) (fun s i m _ _=>useF (s.beq 1) (kid m) (nf F (kid i)) L) x)) e
theorem comb_ok(e:Nd):∀F L,AllP c z F->0<=val c z L->0<=val c z (comb e F L):=by
 induction e with
 |l _=>exact fun _ _ _ h=>h
 |v _=>exact fun _ _ _ h=>h
 |b t x y _ Y=>
  intro F L hF h
  refine Y F _ hF ?_
  cases x with
  |l _=>exact h
  |v _=>exact h
  |b s i m=>exact useF_ok c z (nf_ok c z hF _) h
noncomputable def lem(e:Nd):List Nd:=
 Nd.rec (fun _=>[]) (fun _=>[]) (fun t x y _ _=>cond (t.beq 2) [.b 0 (.b 2 x y) x,.b 0 x (.b 0 (.b 2 x y) y),.b 7 (.b 2 (.b 0 (.b 2 x y) y) x) (.b 6 (.b 0 x y) (.b 2 (.b 2 x y) (.l 0)))]
  (cond (t.beq 5) [.b 0 (.b 5 x y) x,.b 0 (.b 5 x y) y,.b 7 (.b 2 (.b 5 x y) x) (.b 2 (.b 5 x y) y)]
  (Option.rec [] (fun k=>cond (k.beq 0) [] (cond (t.beq 3) [.b 0 (.b 1 (.l k) (.b 3 x (.l k))) x,.b 1 x (.b 0 (.b 1 (.l k) (.b 3 x (.l k))) (.l k))]
   (cond (t.beq 4) [.b 2 (.b 0 (.b 1 (.l k) (.b 3 x (.l k))) (.b 4 x (.l k))) x,.b 1 (.b 4 x (.l k)) (.l k)] []))) (litN y)))) e
theorem all2{p:Nd->Prop}{a b:Nd}(h1:p a)(h2:p b):∀f∈[a,b],p f:=za7.mpr ⟨h1,za7.mpr ⟨h2,fun _ h=>nomatch h⟩⟩
theorem all1{p:Nd->Prop}{a:Nd}(h1:p a):∀f∈[a],p f:=za7.mpr ⟨h1,fun _ h=>nomatch h⟩
theorem lem_ok(e:Nd):AllP c z (lem e):=by
 cases e with
 |l _=>exact fun _ h=>nomatch h
 |v _=>exact fun _ h=>nomatch h
 |b t x y=>
  cases h2:t.beq 2 with
  |true=>
   obtain rfl:=za6 h2
   refine za7.mpr ⟨Nat.sub_le (vN c x) (vN c y),all2 (p:=vP c z) (Nat.le_add_of_sub_le (zaf (vN c x-vN c y))) ?_⟩
   show vN c x-vN c y+vN c y=vN c x\/(vN c x<=vN c y/\vN c x-vN c y=0)
   exact(Nat.le_total (vN c y) (vN c x)).elim (fun h=>.inl (zb6 h)) fun h=>.inr ⟨h,Nat.sub_eq_zero_of_le h⟩
  |false=>
   show ∀f∈cond (t.beq 2) _ _,vP c z f
   rw[h2]
   show ∀f∈cond (t.beq 5) _ _,vP c z f
   cases h5:t.beq 5 with
   |true=>
    obtain rfl:=za6 h5
    refine za7.mpr ⟨Nat.min_le_left (vN c x) (vN c y),all2 (p:=vP c z) (Nat.min_le_right (vN c x) (vN c y)) ?_⟩
    show min (vN c x) (vN c y)=vN c x\/min (vN c x) (vN c y)=vN c y
    exact(Nat.le_total (vN c x) (vN c y)).elim (fun h=>.inl (Nat.min_eq_left h)) fun h=>.inr (Nat.min_eq_right h)
   |false=>
    cases hy:litN y with
    |none=>exact fun _ h=>nomatch h
    |some k=>
     show ∀f∈cond (k.beq 0) _ _,vP c z f
     cases h0:k.beq 0 with
     |true=>exact fun _ h=>nomatch h
     |false=>
      have k0:0<k:=Nat.pos_of_ne_zero fun e=>Nat.ne_of_beq_eq_false h0 e
      show ∀f∈cond (t.beq 3) _ _,vP c z f
      cases h3:t.beq 3 with
      |true=>exact all2 (p:=vP c z) (Nat.mul_div_le (vN c x) k) (Nat.lt_mul_div_succ (vN c x) k0)
      |false=>
       show ∀f∈cond (t.beq 4) _ _,vP c z f
       cases t.beq 4 with
       |false=>exact fun _ h=>nomatch h
       |true=>exact all2 (p:=vP c z) (Nat.div_add_mod (vN c x) k) (Nat.mod_lt (vN c x) k0)
noncomputable def neg(f:Nd):Nd:=.b 8 f (.l 0)
noncomputable def opn(f:Nd):List Nd:=
 Nd.rec (fun _=>[]) (fun _=>[]) (fun t x y _ _=>cond (t.beq 6) [x,y] (cond (t.beq 8) (Nd.rec (fun _=>[]) (fun _=>[]) (fun t x y _ _=>cond (t.beq 7) [neg x,neg y] (cond (t.beq 8) [x] [])) x) [])) f
theorem opn_ok {f:Nd} (h:vP c z f):AllP c z (opn f):=by
 cases f with
 |l _=>exact fun _ h=>nomatch h
 |v _=>exact fun _ h=>nomatch h
 |b t x y=>
  show ∀f∈cond (t.beq 6) _ _,vP c z f
  cases h6:t.beq 6 with
  |true=>obtain rfl:=za6 h6;exact all2 (p:=vP c z) h.1 h.2
  |false=>
   show ∀f∈cond (t.beq 8) _ _,vP c z f
   cases h8:t.beq 8 with
   |false=>exact fun _ h=>nomatch h
   |true=>
    obtain rfl:=za6 h8
    cases x with
    |l _=>exact fun _ h=>nomatch h
    |v _=>exact fun _ h=>nomatch h
    |b t x y=>
     show ∀f∈cond (t.beq 7) _ _,vP c z f
     cases h7:t.beq 7 with
     |true=>obtain rfl:=za6 h7;exact all2 (p:=vP c z) (fun q:vP c z x=>h (Or.inl q)) (fun q:vP c z y=>h (Or.inr q))
     |false=>
      show ∀f∈cond (t.beq 8) _ _,vP c z f
      cases h8:t.beq 8 with
      |false=>exact fun _ h=>nomatch h
      |true=>obtain rfl:=za6 h8;exact all1 (p:=vP c z) (Classical.not_not.mp h)
noncomputable def spl (g:Bool) (f:Nd):List Nd:=
 Nd.rec (fun _=>[]) (fun _=>[]) (fun t x y _ _=>cond (t.beq 7) [cond g x y] (cond (t.beq 8) (Nd.rec (fun _=>[]) (fun _=>[]) (fun t x y _ _=>cond (t.beq 6) [neg (cond g x y)] (cond (t.beq 2) [.b 1 (cond g x y) (cond g y x)] (cond (t.beq 5) [.b 4 (cond g x y) (cond g y x)] []))) x) [])) f
theorem spl_ok {f:Nd} (h:vP c z f):AllP c z (spl true f)\/AllP c z (spl false f):=by
 cases f with
 |l _=>exact .inl fun _ h=>nomatch h
 |v _=>exact .inl fun _ h=>nomatch h
 |b t x y=>
  show(∀f∈cond (t.beq 7) _ _,vP c z f)\/∀f∈cond (t.beq 7) _ _,vP c z f
  cases h6:t.beq 7 with
  |true=>obtain rfl:=za6 h6;exact Or.imp (fun q=>all1 q) (fun q=>all1 q) h
  |false=>
   show(∀f∈cond (t.beq 8) _ _,vP c z f)\/∀f∈cond (t.beq 8) _ _,vP c z f
   cases h8:t.beq 8 with
   |false=>exact .inl fun _ h=>nomatch h
   |true=>
    obtain rfl:=za6 h8
    cases x with
    |l _=>exact .inl fun _ h=>nomatch h
    |v _=>exact .inl fun _ h=>nomatch h
    |b t x y=>
     show(∀f∈cond (t.beq 6) _ _,vP c z f)\/∀f∈cond (t.beq 6) _ _,vP c z f
     cases h7:t.beq 6 with
     |true=>obtain rfl:=za6 h7;exact(Classical.not_and_iff_not_or_not.mp h).imp (fun q=>all1 (p:=vP c z) (a:=neg x) q) (fun q=>all1 (p:=vP c z) (a:=neg y) q)
     |false=>
      show(∀f∈cond (t.beq 2) _ _,vP c z f)\/∀f∈cond (t.beq 2) _ _,vP c z f
      cases h8:t.beq 2 with
      |true=>obtain rfl:=za6 h8;exact(Nat.lt_or_gt_of_ne h).imp (fun q=>all1 (p:=vP c z) (a:=.b 1 x y) q) (fun q=>all1 (p:=vP c z) (a:=.b 1 y x) q)
      |false=>
       show(∀f∈cond (t.beq 5) _ _,vP c z f)\/∀f∈cond (t.beq 5) _ _,vP c z f
       cases h8:t.beq 5 with
       |true=>obtain rfl:=za6 h8;exact(Int.lt_or_gt_of_ne h).imp (fun q=>all1 (p:=vP c z) (a:=.b 4 x y) q) (fun q=>all1 (p:=vP c z) (a:=.b 4 y x) q)
       |false=>exact .inl fun _ h=>nomatch h
noncomputable def run (e:Nd):List Nd->Bool:=
 Nd.rec (fun _ _=>false) (fun _ _=>false) (fun t x y X Y F=>cond (t.beq 0) (Y (lem x++F)) (cond (t.beq 1) (Y (opn (nf F (kid x))++F)) (cond (t.beq 2) (fin (comb (.b t x y) F []))
  (cond (X (spl true (nf F (t-3))++F)) (Y (spl false (nf F (t-3))++F)) false)))) e
theorem zm3{F G:List Nd}(h:AllP c z F)(k:AllP c z G):AllP c z (F++G):=List.forall_mem_append.mpr ⟨h,k⟩
theorem run_ok(e:Nd):∀F,run e F=true->AllP c z F->False:=by
 induction e with
 |l _=>exact fun _ h=>nomatch h
 |v _=>exact fun _ h=>nomatch h
 |b t x y X Y=>
  intro F
  refine zcr (fun _ h hF=>Y _ h (zm3 c z (lem_ok c z x) hF)) fun _=>zcr (fun _ h hF=>Y _ h (zm3 c z (opn_ok c z (nf_ok c z hF _)) hF)) fun _=>
   zcr (fun _ h hF=>fin_ok c z h (comb_ok c z _ F [] hF (Int.le_refl 0))) fun _=>zcr (fun e h hF=>?_) fun _ h=>nomatch h
  exact(spl_ok c z (nf_ok c z hF (t-3))).elim (fun q=>X _ e (zm3 c z q hF)) fun q=>Y _ h (zm3 c z q hF)
end
noncomputable def dec(f:Nat):Nat->List Nd->List Nd:=
 Nat.rec (fun _ S=>S) (fun _ ih n S=>Nat.rec S (fun m _=>
  cond (Nat.beq ((m+1)%32) 0) (ih ((m+1)/1024) (.l ((m+1)/32%32)::S))
  (cond (Nat.beq ((m+1)%32) 1) (ih ((m+1)/1024) (.v ((m+1)/32%32)::S))
  (cond (Nat.beq ((m+1)%32) 2) (ih ((m+1)/37778931862957161709568) (.l ((m+1)/32%1180591620717411303424)::S))
  (List.rec S (fun y R _=>List.rec S (fun x R' _=>cond (Nat.beq ((m+1)%32) 31) (ih ((m+1)/1024) (.b ((m+1)/32%32) x y::R')) (ih ((m+1)/32) (.b ((m+1)%32-3) x y::R'))) R) S)))) n) f
noncomputable def crt(n:Nat):Nd:=nf (dec 2000 n []) 0
theorem mx(a b:Nat):(max a b=a/\b<=a)\/(max a b=b/\a<=b):=(Nat.le_total b a).imp (fun h=>⟨Nat.max_eq_left h,h⟩) fun h=>⟨Nat.max_eq_right h,h⟩
theorem tn(a:Int):((a.toNat:Nat):Int)=a\/(a<=0/\a.toNat=0):=(Int.le_total 0 a).imp Int.toNat_of_nonneg fun h=>⟨h,Int.toNat_of_nonpos h⟩
theorem zx(a b:Int):(max a b=a/\b<=a)\/(max a b=b/\a<=b):=(Int.le_total b a).imp (fun h=>⟨Int.max_eq_left h,h⟩) fun h=>⟨Int.max_eq_right h,h⟩
theorem zn(a b:Int):(min a b=a/\a<=b)\/(min a b=b/\b<=a):=(Int.le_total a b).imp (fun h=>⟨Int.min_eq_left h,h⟩) fun h=>⟨Int.min_eq_right h,h⟩
theorem na(a:Int):(((a.natAbs:Nat):Int)=a/\0<=a)\/(((a.natAbs:Nat):Int) = -a/\a<=0):=(Int.le_total 0 a).imp (fun h=>⟨Int.natAbs_of_nonneg h,h⟩) fun h=>⟨Int.ofNat_natAbs_of_nonpos h,h⟩
theorem p63:(2:Int)^63=9223372036854775808:=by decide
theorem p31:(2:Int)^31=2147483648:=by decide
theorem zd(a:Int){k:Int}(h:0<k):k*(a/k)+a%k=a/\0<=a%k/\a%k<k:=⟨Int.mul_ediv_add_emod a k,Int.emod_nonneg a (Int.ne_of_gt h),Int.emod_lt_of_pos a h⟩
theorem al0(c:List Nat)(z:List Int):AllP c z []:=fun _ h=>nomatch h
theorem al1(c:List Nat)(z:List Int){f:Nd}{F:List Nd}(h:vP c z f)(k:AllP c z F):AllP c z (f::F):=za7.mpr ⟨h,k⟩
theorem zjz{c:List Nat}{z:List Int}{e g:Nd}{F:List Nd}(h:run e (neg g::F)=true)(k:AllP c z F):vP c z g:=Classical.not_not.mp fun q=>run_ok c z _ _ h (al1 c z (f:=neg g) q k)
noncomputable def ok0(n:Nat)(g:Nd):Bool:=run (crt n) [neg g]
theorem ar0(c:List Nat)(z:List Int)(n:Nat)(g:Nd)(e:ok0 n g=true:=by kernel_rfl):vP c z g:=zjz e (al0 c z)
noncomputable def ok1(n:Nat)(g f1:Nd):Bool:=run (crt n) [neg g,f1]
theorem ar1(c:List Nat)(z:List Int)(n:Nat)(g f1:Nd)(h1:vP c z f1)(e:ok1 n g f1=true:=by kernel_rfl):vP c z g:=zjz e (al1 c z h1 (al0 c z))
noncomputable def ok2(n:Nat)(g f1 f2:Nd):Bool:=run (crt n) [neg g,f1,f2]
theorem ar2(c:List Nat)(z:List Int)(n:Nat)(g f1 f2:Nd)(h1:vP c z f1)(h2:vP c z f2)(e:ok2 n g f1 f2=true:=by kernel_rfl):vP c z g:=zjz e (al1 c z h1 (al1 c z h2 (al0 c z)))
noncomputable def ok3(n:Nat)(g f1 f2 f3:Nd):Bool:=run (crt n) [neg g,f1,f2,f3]
theorem ar3(c:List Nat)(z:List Int)(n:Nat)(g f1 f2 f3:Nd)(h1:vP c z f1)(h2:vP c z f2)(h3:vP c z f3)(e:ok3 n g f1 f2 f3=true:=by kernel_rfl):vP c z g:=zjz e (al1 c z h1 (al1 c z h2 (al1 c z h3 (al0 c z))))
noncomputable def ok4(n:Nat)(g f1 f2 f3 f4:Nd):Bool:=run (crt n) [neg g,f1,f2,f3,f4]
theorem ar4(c:List Nat)(z:List Int)(n:Nat)(g f1 f2 f3 f4:Nd)(h1:vP c z f1)(h2:vP c z f2)(h3:vP c z f3)(h4:vP c z f4)(e:ok4 n g f1 f2 f3 f4=true:=by kernel_rfl):vP c z g:=zjz e (al1 c z h1 (al1 c z h2 (al1 c z h3 (al1 c z h4 (al0 c z)))))
noncomputable def ok5(n:Nat)(g f1 f2 f3 f4 f5:Nd):Bool:=run (crt n) [neg g,f1,f2,f3,f4,f5]
theorem ar5(c:List Nat)(z:List Int)(n:Nat)(g f1 f2 f3 f4 f5:Nd)(h1:vP c z f1)(h2:vP c z f2)(h3:vP c z f3)(h4:vP c z f4)(h5:vP c z f5)(e:ok5 n g f1 f2 f3 f4 f5=true:=by kernel_rfl):vP c z g:=zjz e (al1 c z h1 (al1 c z h2 (al1 c z h3 (al1 c z h4 (al1 c z h5 (al0 c z))))))
noncomputable def ok6(n:Nat)(g f1 f2 f3 f4 f5 f6:Nd):Bool:=run (crt n) [neg g,f1,f2,f3,f4,f5,f6]
theorem ar6(c:List Nat)(z:List Int)(n:Nat)(g f1 f2 f3 f4 f5 f6:Nd)(h1:vP c z f1)(h2:vP c z f2)(h3:vP c z f3)(h4:vP c z f4)(h5:vP c z f5)(h6:vP c z f6)(e:ok6 n g f1 f2 f3 f4 f5 f6=true:=by kernel_rfl):vP c z g:=zjz e (al1 c z h1 (al1 c z h2 (al1 c z h3 (al1 c z h4 (al1 c z h5 (al1 c z h6 (al0 c z)))))))
noncomputable def V0:Nd:=.v 0
noncomputable def V1:Nd:=.v 1
noncomputable def V2:Nd:=.v 2
noncomputable def V3:Nd:=.v 3
noncomputable def V4:Nd:=.v 4
noncomputable def V5:Nd:=.v 5
noncomputable def V6:Nd:=.v 6
noncomputable def J0:Nd:=.l 0
noncomputable def J1:Nd:=.l 1
noncomputable def J2:Nd:=.l 2
noncomputable def Y0(x y:Nd):Nd:=.b 0 x y
noncomputable def Y1(x y:Nd):Nd:=.b 1 x y
noncomputable def Y2(x y:Nd):Nd:=.b 2 x y
noncomputable def Y3(x y:Nd):Nd:=.b 3 x y
noncomputable def Y4(x y:Nd):Nd:=.b 4 x y
noncomputable def Y5(x y:Nd):Nd:=.b 5 x y
noncomputable def Y6(x y:Nd):Nd:=.b 6 x y
noncomputable def Y7(x y:Nd):Nd:=.b 7 x y
noncomputable def Y8(x y:Nd):Nd:=.b 8 x y
end Ar
open Ar (V0 V1 V2 V3 V4 V5 V6 J0 J1 J2 Y0 Y1 Y2 Y3 Y4 Y5 Y6 Y7 Y8)

namespace Bn
open PySem PySem.W PyProof.Rows
noncomputable def ltK(key:Nat->Int)(i j:Nat):Bool:=decide (key i<key j)
noncomputable def ge0(p:Array Nat)(i:Nat):Nat:=p.getD i 0
theorem zep(p:Array Nat)(i:Nat):ge0 p i=(p[i]?).getD 0:=by
 unfold ge0;rw[Array.getD_eq_getD_getElem?]
section
variable {key:Nat->Int}{N:Nat}
noncomputable def zd6(N:Nat)(p:Array Nat):Prop:=p.toList.Perm (List.range N)
theorem zd6.size{p:Array Nat}(h:zd6 N p):p.size=N:=by
 have:=List.Perm.length_eq h
 simpa using this
theorem zd6.lt{p:Array Nat}(h:zd6 N p){x:Nat}(hx:x<N):ge0 p x<N:=by
 have hs:=h.size
 have:ge0 p x∈p.toList:=by rw[zep,zcc (by lia)];simp
 simpa using h.mem_iff.mp this
theorem zd6.ne{p:Array Nat}(h:zd6 N p)(hk:∀i j,i<N->j<N->key i=key j->i=j){i j:Nat}(hi:i<N)(hj:j<N)(hij:i≠j):key (ge0 p i)≠key (ge0 p j):=by
 have hs:=h.size
 have hn:p.toList.Nodup:=h.nodup_iff.mpr List.nodup_range
 intro hc
 have:=hk _ _ (h.lt hi) (h.lt hj) hc
 rw[zep,zep,zcc (by lia),zcc (by lia)] at this
 simp only[Option.getD_some] at this
 have h2:p.toList[i]'(by simp;lia)=p.toList[j]'(by simp;lia):=by simpa using this
 exact hij ((List.getElem_inj hn).mp h2)
noncomputable def Up(key:Nat->Int)(p:Array Nat)(m:Nat):Prop:=∀i j,i<j->j<m->key (ge0 p i)<key (ge0 p j)
noncomputable def Down(key:Nat->Int)(p:Array Nat)(m:Nat):Prop:=∀i j,i<j->j<m->key (ge0 p j)<key (ge0 p i)
theorem Up.succ{p:Array Nat}{m:Nat}(h:Up key p m)(h1:1<=m)(hl:key (ge0 p (m-1))<key (ge0 p m)):Up key p (m+1):=by
 intro i j hij hj
 by_cases e:j=m
 ·subst e
  by_cases e':i=j-1
  ·rw[e'];exact hl
  ·exact Int.lt_trans (h i (j-1) (by exact Ar.ar2 [_,_] [] 0x8194a50006101403080601840101420084a5000610040308000 (Y1 V0 (Y2 V1 J1)) (Y1 V0 V1) (Y8 (Y2 V0 (Y2 V1 J1)) J0) hij e') (by exact Ar.ar1 [_] [] 0x1a085294001840600c203806100400014a000c20200610000508001 (Y1 (Y2 V0 J1) V0) (Y0 J1 V0) h1)) hl
 ·exact h i j hij (by exact Ar.ar2 [_,_] [] 0x8294001840200c20000a5000610040308000 (Y1 V0 V1) (Y1 V0 (Y0 V1 J1)) (Y8 (Y2 V0 V1) J0) hj e)
theorem Down.succ{p:Array Nat}{m:Nat}(h:Down key p m)(h1:1<=m)(hl:key (ge0 p m)<key (ge0 p (m-1))):Down key p (m+1):=by
 intro i j hij hj
 by_cases e:j=m
 ·subst e
  by_cases e':i=j-1
  ·rw[e'];exact hl
  ·exact Int.lt_trans hl (h i (j-1) (by exact Ar.ar2 [_,_] [] 0x8194a50006101403080601840101420084a5000610040308000 (Y1 V0 (Y2 V1 J1)) (Y1 V0 V1) (Y8 (Y2 V0 (Y2 V1 J1)) J0) hij e') (by exact Ar.ar1 [_] [] 0x1a085294001840600c203806100400014a000c20200610000508001 (Y1 (Y2 V0 J1) V0) (Y0 J1 V0) h1))
 ·exact h i j hij (by exact Ar.ar2 [_,_] [] 0x8294001840200c20000a5000610040308000 (Y1 V0 V1) (Y1 V0 (Y0 V1 J1)) (Y8 (Y2 V0 V1) J0) hj e)
theorem zd6.rev{p:Array Nat}(hp:zd6 N p)(i j:Nat):zd6 N (kas_rev p i j):=(Array.perm_iff_toList_perm.mp (mirror_perm p i j _)).trans hp
theorem zd6.bub{p:Array Nat}(hp:zd6 N p)(i j:Nat):zd6 N (bubble p i j):=(Array.perm_iff_toList_perm.mp (bubble_perm p i j)).trans hp
theorem rev_at{p:Array Nat}{n:Nat}(h:n<=p.size)(k:Nat):ge0 (kas_rev p 0 n) k=if k<n then ge0 p (n-1-k) else ge0 p k:=by
 rw[zep,zep,zep]
 unfold kas_rev
 rw[getElem?_mirror_all h]
 simp only[za2,true_and]
 split
 ·congr 2;exact Ar.ar0 [_,_] [] 0x61a08528003080c01840100003410a528003081401840700c200800018ca5294a000c207006102803080c01840400c20080a100025084a1000250806008005084a100c0100068214a000c20300610040000d04294a000c2050061018030802000063294a528003081c01840a00c203006101003080202840300400284250806008005080012842508001 (Y2 (Y2 (Y2 (Y0 J0 V0) J1) V1) (Y2 (Y2 V0 J1) V1))
 ·rfl
theorem Down.rev{p:Array Nat}{n:Nat}(h:Down key p n)(hn:n<=p.size):Up key (kas_rev p 0 n) n:=by
 intro i j hij hj
 rw[rev_at hn,rev_at hn,if_pos (by exact Ar.ar2 [_,_,_] [] 0x294a000c20000610040308040 (Y1 V0 V1) (Y1 V0 V2) (Y1 V2 V1) hij hj),if_pos hj]
 exact h _ _ (by exact Ar.ar2 [_,_,_] [] 0x340c64294a5294001840c00c206806103803080c01840300c20080c028825080012840008ca5294001840700c204006100c030802028825080012842508001 (Y1 (Y2 (Y2 V0 J1) V1) (Y2 (Y2 V0 J1) V2)) (Y1 V2 V1) (Y1 V1 V0) hij hj) (by exact Ar.ar2 [_,_,_] [] 0xd04294a000c2038061020030800000065294001840700c201806100005084a10002508001 (Y1 (Y2 (Y2 V0 J1) V1) V0) (Y1 V1 V2) (Y1 V2 V0) hij hj)
noncomputable def KGo(key:Nat->Int)(N:Nat){α:Type}(R:α->Prop):KasT α->Prop
 |.ret a=>R a
 |.ask i j k=>i<N/\j<N/\KGo key N R (k (ltK key i j))
theorem KGo.bind{α β:Type}{R:α->Prop}{R':β->Prop}{f:α->KasT β}(hf:∀a,R a->KGo key N R' (f a)):∀{t:KasT α},KGo key N R t->KGo key N R' (t.bind f)
 |.ret _,h=>hf _ h
 |.ask _ _ _,h=>⟨h.1,h.2.1,KGo.bind hf h.2.2⟩
theorem KGo.wp{cmp:Nat->Nat->(Bool->Shared->Prop)->Shared->Prop}{s:Shared}(hc:∀i j C,i<N->j<N->C (ltK key i j) s->cmp i j C s){α:Type}{R:α->Prop}{Q:α->Shared->Prop}(hq:∀a,R a->Q a s):∀t:KasT α,KGo key N R t->t.kasWp cmp Q s
 |.ret a,h=>hq a h
 |.ask i j k,h=>hc i j _ h.1 h.2.1 (KGo.wp hc hq (k (ltK key i j)) h.2.2)
section
variable {p:Array Nat}(hp:zd6 N p)(hk:∀i j,i<N->j<N->key i=key j->i=j)
include hp in
theorem KGo.ask{α:Type}{R:α->Prop}{i j:Nat}{k:Bool->KasT α}(hi:i<N)(hj:j<N)(h1:key (ge0 p i)<key (ge0 p j)->KGo key N R (k true))(h2:¬key (ge0 p i)<key (ge0 p j)->KGo key N R (k false)):KGo key N R (.ask (ge0 p i) (ge0 p j) k):=by
 refine⟨hp.lt hi,hp.lt hj,?_⟩
 unfold ltK
 by_cases h:key (ge0 p i)<key (ge0 p j)
 ·rw[decide_eq_true h];exact h1 h
 ·rw[decide_eq_false h];exact h2 h
include hp hk
theorem zd6.gt{i j:Nat}(hi:i<N)(hj:j<N)(hij:i≠j)(h:¬key (ge0 p i)<key (ge0 p j)):key (ge0 p j)<key (ge0 p i):=Int.lt_iff_le_and_ne.mpr ⟨Int.not_lt.mp h,fun e=>hp.ne hk hi hj hij e.symm⟩
theorem asc_go{R:Nat->Prop}(f:Nat):∀n,1<=n->n+f<=N->Up key p n->(∀m,n<=m->m<=n+f->Up key p m->(m=n+f\/key (ge0 p m)<key (ge0 p (m-1)))->R m)->KGo key N R (kas_asc p f n):=by
 induction f with
 |zero=>exact fun n _ _ hu h=>h n (zaf _) (zaf _) hu (.inl rfl)
 |succ f ih=>
  intro n h1 hn hu h
  have n1:n<N:=by exact Ar.ar1 [_,_,_] [] 0xa5000610000308020 (Y1 V0 V1) (Y0 (Y0 V0 (Y0 V2 J1)) V1) hn
  have n2:n-1<N:=by exact Ar.ar1 [_,_] [] 0x65294001840300c20200610000508001 (Y1 (Y2 V0 J1) V1) (Y1 V0 V1) n1
  refine KGo.ask hp n1 n2 (fun hl=>h n (zaf _) (za8 _ _) hu (.inr hl)) fun hl=>?_
  refine ih (n+1) (zbt _ _) (by exact Ar.ar1 [_,_,_] [] 0xa5000610000308020 (Y0 (Y0 (Y0 V0 J1) V1) V2) (Y0 (Y0 V0 (Y0 V1 J1)) V2) hn) (hu.succ h1 (hp.gt hk n1 n2 (by exact Ar.ar1 [_] [] 0x68210a528003081001840200c2008020200852800308020184000100508001 (Y8 (Y2 V0 (Y2 V0 J1)) J0) (Y0 J1 V0) h1) hl)) fun m a b u o=>h m (by exact Ar.ar1 [_,_] [] 0xa5000610000308020 (Y0 V0 V1) (Y0 (Y0 V0 J1) V1) a) (by exact Ar.ar1 [_,_,_] [] 0xa5000610000308020 (Y0 V0 (Y0 V1 (Y0 V2 J1))) (Y0 V0 (Y0 (Y0 V1 J1) V2)) b) u (o.imp (fun e=>?_) id)
  exact Ar.ar2 [_,_,_] [] 0x6294001840200c20000a50008100c0308000 (Y2 V0 (Y0 V1 (Y0 V2 J1))) (Y0 V0 (Y0 (Y0 V1 J1) V2)) (Y2 V0 (Y0 (Y0 V1 J1) V2)) b e
theorem desc_go{R:Array Nat×Nat×Nat->Prop}(f:Nat):∀n,1<=n->n+f<=N->Down key p n->(∀m,n<=m->m<=n+f->Down key p m->R (p,m,0))->KGo key N R (kas_desc f p n 0):=by
 induction f with
 |zero=>exact fun n _ _ hu h=>h n (zaf _) (zaf _) hu
 |succ f ih=>
  intro n h1 hn hu h
  have n1:n<N:=by exact Ar.ar1 [_,_,_] [] 0xa5000610000308020 (Y1 V0 V1) (Y0 (Y0 V0 (Y0 V2 J1)) V1) hn
  have n2:n-1<N:=by exact Ar.ar1 [_,_] [] 0x65294001840300c20200610000508001 (Y1 (Y2 V0 J1) V1) (Y1 V0 V1) n1
  refine KGo.ask hp n1 n2 (fun hl=>?_) fun hl=>KGo.ask hp n2 n1 (fun _=>h n (zaf _) (za8 _ _) hu) fun h'=>absurd (hp.gt hk n1 n2 (by exact Ar.ar1 [_] [] 0x68210a528003081001840200c2008020200852800308020184000100508001 (Y8 (Y2 V0 (Y2 V0 J1)) J0) (Y0 J1 V0) h1) hl) h'
  exact ih (n+1) (zbt _ _) (by exact Ar.ar1 [_,_,_] [] 0xa5000610000308020 (Y0 (Y0 (Y0 V0 J1) V1) V2) (Y0 (Y0 V0 (Y0 V1 J1)) V2) hn) (hu.succ h1 hl) fun m a b u=>h m (by exact Ar.ar1 [_,_] [] 0xa5000610000308020 (Y0 V0 V1) (Y0 (Y0 V0 J1) V1) a) (by exact Ar.ar1 [_,_,_] [] 0xa5000610000308020 (Y0 V0 (Y0 V1 (Y0 V2 J1))) (Y0 V0 (Y0 (Y0 V1 J1) V2)) b) u
theorem count_go{R:Nat×Array Nat->Prop}(hN:2<=N)(h:∀m p',1<=m->m<=N->zd6 N p'->Up key p' m->R (m,p')):KGo key N R (kas_count N p):=by
 refine KGo.bind (R:=fun n=>1<=n/\n<=N/\Up key p n/\(n=N\/key (ge0 p n)<key (ge0 p (n-1)))) (fun n a=>?_) (asc_go hp hk (N-1) 1 (zaf _) (by exact Ar.ar1 [_] [] 0x68214a000c203806100000014a000c20200610000508001 (Y0 (Y0 J1 (Y2 V0 J1)) V0) (Y0 J2 V0) hN) (fun i j h1 h2=>absurd h2 (by exact Ar.ar2 [_,_] [] 0xa5000610040308040 (Y8 (Y1 V0 J1) J0) (Y1 V1 V0) (Y1 V0 J1) h1 h2)) fun m a b u o=>⟨a,by exact Ar.ar2 [_,_] [] 0x1a08528003080e01840000005294001840400c20300610000508021 (Y0 V0 V1) (Y0 J2 V1) (Y0 V0 (Y0 J1 (Y2 V1 J1))) hN b,u,o.imp (fun e=>by exact Ar.ar3 [_,_] [] 0x1868214a000c204006100000014a50006101c0308080184000142008465294002040700c20180610040508021 (Y2 V0 V1) (Y0 J2 V1) (Y0 V0 (Y0 J1 (Y2 V1 J1))) (Y2 V0 (Y0 J1 (Y2 V1 J1))) hN b e) id⟩)
 obtain⟨a1,a2,a3,a4⟩:=a
 by_cases e:n=N
 ·rw[if_pos (beq_iff_eq.mpr e)];exact h n p a1 a2 hp a3
 ·rw[if_neg fun q=>e (beq_iff_eq.mp q)]
  by_cases h1:n>1
  ·rw[if_pos h1]
   exact KGo.ask hp (by exact Ar.ar1 [_] [] 0xa5000610000308020 (Y1 J0 V0) (Y0 J2 V0) hN) (by exact Ar.ar2 [_,_] [] 0x8294001840200c2000065294001840400c20180610000508001 (Y1 (Y2 V0 J1) V1) (Y0 V0 V1) (Y8 (Y2 V0 V1) J0) a2 e) (fun _=>h n p a1 a2 hp a3) fun q=>absurd (a3 0 (n-1) (by exact Ar.ar1 [_] [] 0x65294001840300c20200610040508001 (Y1 J0 (Y2 V0 J1)) (Y1 J1 V0) h1) (by exact Ar.ar1 [_] [] 0x68214a000c203806100000014a000c20200610000508001 (Y1 (Y2 V0 J1) V0) (Y1 J1 V0) h1)) q
  ·rw[if_neg h1]
   obtain rfl:n=1:=by exact Ar.ar2 [_] [] 0x6294001840300c20000a5000610080308000 (Y2 V0 J1) (Y0 J1 V0) (Y8 (Y1 J1 V0) J0) a1 h1
   have h10:=a4.resolve_left e
   have hs:=hp.size
   refine KGo.bind (R:=fun r=>∃m,r=(p,m,0)/\2<=m/\m<=N/\Down key p m) (fun r b=>?_) (desc_go hp hk (N-2) 2 (by decide) (by exact Ar.ar1 [_] [] 0x1a085294001840600c203806100400014a000c20200610000510001 (Y0 (Y0 J2 (Y2 V0 J2)) V0) (Y0 J2 V0) hN) (fun i j h1 h2=>?_) fun m a b u=>⟨m,rfl,a,by exact Ar.ar2 [_,_] [] 0x1a085294a000c203006101c03081001840100005294001840400c20300610000510021 (Y0 V0 V1) (Y0 J2 V1) (Y0 V0 (Y0 J2 (Y2 V1 J2))) hN b,u⟩)
   ·obtain⟨m,rfl,b2,b3,b4⟩:=b
    refine KGo.bind (R:=fun k=>m<=k/\k<=N/\Up key (kas_rev p 0 m) k) (fun k c=>?_) (asc_go (hp.rev 0 m) hk (N-m) m (by exact Ar.ar1 [_] [] 0xa5000610000308020 (Y0 J1 V0) (Y0 J2 V0) b2) (by exact Ar.ar1 [_,_] [] 0x1a085294001840600c203806100400014a000c20200610000500421 (Y0 (Y0 V0 (Y2 V1 V0)) V1) (Y0 V0 V1) b3) (b4.rev (by exact Ar.ar2 [_,_,_] [] 0x294a000c20000810040308040 (Y0 V0 V1) (Y2 V1 V2) (Y0 V0 V2) hs b3)) fun k a b u _=>⟨a,by exact Ar.ar2 [_,_,_] [] 0x1a085294a000c203006101c03081001840100005294001840400c20300610000510421 (Y0 V0 V1) (Y0 V2 V1) (Y0 V0 (Y0 V2 (Y2 V1 V2))) b3 b,u⟩)
    exact h k _ (by exact Ar.ar2 [_,_] [] 0x294a000c20000610040308040 (Y0 J1 V0) (Y0 J2 V1) (Y0 V1 V0) b2 c.1) c.2.1 (hp.rev 0 m) c.2.2
   ·obtain rfl:i=0:=by exact Ar.ar2 [_,_] [] 0x6294a000c201006100c03080002800308000 (Y2 V0 J0) (Y1 V0 V1) (Y1 V1 J2) h1 h2
    obtain rfl:j=1:=by exact Ar.ar2 [_] [] 0x6294001840200c20000a50006100c0308000 (Y2 V0 J1) (Y1 V0 J2) (Y1 J0 V0) h2 h1
    exact h10
theorem place_go{R:Nat->Prop}{k:Nat}(hkN:k<N)(hu:Up key p k)(h:∀m,m<=k->(∀i,i<m->key (ge0 p i)<key (ge0 p k))->(∀i,m<=i->i<k->key (ge0 p k)<key (ge0 p i))->R m)(f:Nat) :
  ∀l r,r<=k->l<=r->r-l<=f->(∀i,i<l->key (ge0 p i)<key (ge0 p k))->(∀i,r<=i->i<k->key (ge0 p k)<key (ge0 p i))->KGo key N R (kas_place p k f l r):=by
 induction f with
 |zero=>
  intro l r h1 h2 h3 h4 h5
  obtain rfl:l=r:=by exact Ar.ar2 [_,_] [] 0x6294001840200c2000065294001840600c20180610040500421 (Y2 V0 V1) (Y0 V0 V1) (Y0 (Y2 V1 V0) J0) h2 h3
  exact h l h1 h4 h5
 |succ f ih=>
  intro l r h1 h2 h3 h4 h5
  show KGo key N R (if l>=r then .ret l else .ask (ge0 p k) (ge0 p ((l+r)/2)) fun c=>if c=true then kas_place p k f l ((l+r)/2) else kas_place p k f ((l+r)/2+1) r)
  by_cases e:l>=r
  ·rw[if_pos e]
   obtain rfl:l=r:=by exact Ar.ar2 [_,_] [] 0x6294001840200c20000a50006100c0308000 (Y2 V0 V1) (Y0 V0 V1) (Y0 V1 V0) h2 e
   exact h l h1 h4 h5
  ·rw[if_neg e]
   have hm:(l+r)/2<r/\l<=(l+r)/2:=by exact Ar.ar1 [_,_] [] 0x1865294001840400c4010061004061006108023294a000c202006200803080003080308401 (Y6 (Y1 (Y3 (Y0 V0 V1) J2) V1) (Y0 V0 (Y3 (Y0 V0 V1) J2))) (Y8 (Y0 V1 V0) J0) e
   generalize(l+r)/2=mid at hm
   have up:∀i j,i<=j->j<k->key (ge0 p i)<=key (ge0 p j):=fun i j hij hj=>(Nat.eq_or_lt_of_le hij).elim (fun e=>e▸Int.le_refl _) fun e=>Int.le_of_lt (hu i j e hj)
   have mN:mid<N:=by exact Ar.ar3 [_,_,_,_] [] 0xa5294001840000c20080610080308060 (Y1 V0 V1) (Y1 V2 V1) (Y0 V3 V2) (Y1 V0 V3) hkN h1 hm.1
   refine KGo.ask hp hkN mN (fun hl=>ih l mid (by exact Ar.ar2 [_,_,_] [] 0x294a000c20000610040308040 (Y0 V0 V1) (Y0 V2 V1) (Y1 V0 V2) h1 hm.1) hm.2 (by exact Ar.ar2 [_,_,_,_] [] 0x68214a000c20300610040000ca5294a000c203806102003081201840300c20080a108c2508401 (Y0 (Y2 V0 V1) V2) (Y0 (Y2 V3 V1) (Y0 V2 J1)) (Y1 V0 V3) h3 hm.1) h4 fun i hi hik=>Int.lt_of_lt_of_le hl (up mid i hi hik)) fun hl=>ih (mid+1) r h1 (by exact Ar.ar1 [_,_] [] 0xa5000610000308020 (Y0 (Y0 V0 J1) V1) (Y1 V0 V1) hm.1) (by exact Ar.ar2 [_,_,_,_] [] 0x3410a500061018030802000065294a50006101c03081001840900c2018061004051840128c2008401 (Y0 (Y2 V0 (Y0 V1 J1)) V2) (Y0 (Y2 V0 V3) (Y0 V2 J1)) (Y0 V3 V1) h3 hm.2) (fun i hi=>Int.lt_of_le_of_lt (up i mid (Nat.le_of_lt_succ hi) (by exact Ar.ar2 [_,_,_] [] 0x294a000c20000610040308040 (Y1 V0 V1) (Y0 V2 V1) (Y1 V0 V2) h1 hm.1)) (hp.gt hk hkN mN (by exact Ar.ar2 [_,_,_] [] 0x10a528003080401840300c2000000 (Y8 (Y2 V0 V1) J0) (Y0 V2 V0) (Y1 V1 V2) h1 hm.1) hl)) h5
omit hp
theorem bin_go(f:Nat):∀(k:Nat)(p:Array Nat),zd6 N p->k+f=N->Up key p k->KGo key N (fun p=>zd6 N p/\Up key p N) (kas_bin f p k):=by
 induction f with
 |zero=>
  intro k p hp hf hu
  obtain rfl:k=N:=hf
  exact⟨hp,hu⟩
 |succ f ih=>
  intro k p hp hf hu
  have kN:k<N:=by exact Ar.ar1 [_,_,_] [] 0xa5000610000308020 (Y1 V0 V1) (Y2 (Y0 V0 (Y0 V2 J1)) V1) hf
  refine KGo.bind (R:=fun m=>m<=k/\(∀i,i<m->key (ge0 p i)<key (ge0 p k))/\∀i,m<=i->i<k->key (ge0 p k)<key (ge0 p i)) (fun m a=>ih (k+1) _ (hp.bub _ _) (by exact Ar.ar1 [_,_,_] [] 0x6294001840200c20000a5000810080308000 (Y2 (Y0 (Y0 V0 J1) V1) V2) (Y2 (Y0 V0 (Y0 V1 J1)) V2) hf) ?_) (place_go hp hk kN hu (fun m a b c=>⟨a,b,c⟩) k 0 k (zaf _) (za2 _) (Nat.sub_le _ _) (fun i hi=>absurd hi (Nat.not_lt_zero _)) fun i h1 h2=>absurd h2 (Nat.not_lt.mpr h1))
  obtain⟨a2,a3,a4⟩:=a
  have hs:=hp.size
  have at':∀x,ge0 (bubble p k (k-m)) x=if x=m then ge0 p k else if m<x/\x<=k then ge0 p (x-1) else ge0 p x:=by
   intro x
   rw[zep,zep,zep,zep,getElem?_bubble (by exact Ar.ar2 [_,_,_] [] 0x294a000c20000610040408040 (Y1 V0 V1) (Y1 V0 V2) (Y2 V1 V2) kN hs) _ (by exact Ar.ar0 [_,_] [] 0x194a000c20180610000508401 (Y0 (Y2 V0 V1) V0)),show k-(k-m)=m by exact Ar.ar1 [_,_] [] 0x30d04294001840600c2008000194a50006101c03080601840101421004a50840100468190a5294001840b00c204806100c0308020180a50840100465294001840700c201806100405284200802508401 (Y2 (Y2 V0 (Y2 V0 V1)) V1) (Y0 V1 V0) a2]
   repeat' split
   all_goals rfl
  intro i j hij hj
  rw[at',at']
  by_cases e1:j=m
  ·rw[if_pos e1,if_neg (by exact Ar.ar2 [_,_,_] [] 0x10a52800308040184030102000000 (Y8 (Y2 V0 V1) J0) (Y1 V0 V2) (Y2 V2 V1) hij e1),if_neg (by exact Ar.ar2 [_,_,_,_] [] 0x84294a000c2020061014030800000000 (Y8 (Y6 (Y1 V0 V1) (Y0 V1 V2)) J0) (Y1 V1 V3) (Y2 V3 V0) hij e1)]
   exact a3 i (by exact Ar.ar2 [_,_,_] [] 0x294a000c20000610040308040 (Y1 V0 V1) (Y1 V0 V2) (Y2 V2 V1) hij e1)
  ·rw[if_neg e1]
   by_cases e2:i=m
   ·rw[if_pos e2,if_pos (by exact Ar.ar3 [_,_,_,_] [] 0x18a50006100c0308000294a000c20100810100308000 (Y6 (Y1 V0 V1) (Y0 V1 V2)) (Y1 V3 V1) (Y1 V1 (Y0 V2 J1)) (Y2 V3 V0) hij hj e2)]
    exact a4 (j-1) (by exact Ar.ar2 [_,_,_] [] 0x194a528003080601840401020280610040508021 (Y0 V0 (Y2 V1 J1)) (Y1 V2 V1) (Y2 V2 V0) hij e2) (by exact Ar.ar2 [_,_,_] [] 0x1a085294a000c203006101c03081001840100005294001840400c20300610000508001 (Y1 (Y2 V0 J1) V1) (Y1 V2 V0) (Y1 V0 (Y0 V1 J1)) hij hj)
   ·rw[if_neg e2]
    by_cases e3:m<i
    ·rw[if_pos ⟨e3,by exact Ar.ar2 [_,_,_] [] 0x294a000c20000610040308040 (Y0 V0 V1) (Y1 V0 V2) (Y1 V2 (Y0 V1 J1)) hij hj⟩,if_pos ⟨by exact Ar.ar2 [_,_,_] [] 0x294a000c20000610040308040 (Y1 V0 V1) (Y1 V2 V1) (Y1 V0 V2) hij e3,by exact Ar.ar1 [_,_] [] 0xa5000610000308020 (Y0 V0 V1) (Y1 V0 (Y0 V1 J1)) hj⟩]
     exact hu _ _ (by exact Ar.ar2 [_,_,_] [] 0x1a064294a528003081201840a00c205806100c0308020180a100423294a50006101c03081001840300c20080a10042508001 (Y1 (Y2 V0 J1) (Y2 V1 J1)) (Y1 V0 V1) (Y1 V2 V0) hij e3) (by exact Ar.ar2 [_,_,_] [] 0x1a085294a000c203006101c03081001840100005294001840400c20300610000508001 (Y1 (Y2 V0 J1) V1) (Y1 V2 V0) (Y1 V0 (Y0 V1 J1)) hij hj)
    ·rw[if_neg (by exact Ar.ar1 [_,_,_] [] 0x210a500061010030800000000 (Y8 (Y6 (Y1 V0 V1) (Y0 V1 V2)) J0) (Y8 (Y1 V0 V1) J0) e3)]
     by_cases e4:m<j
     ·rw[if_pos ⟨e4,by exact Ar.ar1 [_,_] [] 0xa5000610000308020 (Y0 V0 V1) (Y1 V0 (Y0 V1 J1)) hj⟩]
      exact Int.lt_trans (a3 i (by exact Ar.ar2 [_,_] [] 0x7294001840300c20000a5000610040308000 (Y1 V0 V1) (Y8 (Y2 V0 V1) J0) (Y8 (Y1 V1 V0) J0) e2 e3)) (a4 (j-1) (by exact Ar.ar1 [_,_] [] 0x65294001840300c20200610040508021 (Y0 V0 (Y2 V1 J1)) (Y1 V0 V1) e4) (by exact Ar.ar2 [_,_,_] [] 0x1a085294a000c203006101c03081001840100005294001840400c20280610000508001 (Y1 (Y2 V0 J1) V1) (Y1 V0 (Y0 V1 J1)) (Y1 V2 V0) hj e4))
     ·rw[if_neg (by exact Ar.ar1 [_,_,_] [] 0x210a500061010030800000000 (Y8 (Y6 (Y1 V0 V1) (Y0 V1 V2)) J0) (Y8 (Y1 V0 V1) J0) e4)]
      exact hu _ _ hij (by exact Ar.ar3 [_,_,_] [] 0x20a5000610100308000294a000c20080610080308000 (Y1 V0 V1) (Y0 V2 V1) (Y8 (Y2 V0 V2) J0) (Y8 (Y1 V2 V0) J0) a2 e1 e4)
theorem sort_go(hN:2<=N):KGo key N (fun p=>zd6 N p/\Up key p N) (kas_sort N):=by
 have hp:zd6 N (List.toArray (List.range N)):=List.Perm.refl _
 refine KGo.bind (R:=fun r=>1<=r.1/\r.1<=N/\zd6 N r.2/\Up key r.2 r.1) (fun r a=>?_) (count_go hp hk hN fun m p' a b c d=>⟨a,b,c,d⟩)
 obtain⟨a1,a2,a3,a4⟩:=a
 by_cases h:r.1<N
 ·rw[if_pos h,Nat.max_eq_left a1]
  exact bin_go hk (N-r.1) r.1 r.2 a3 (Nat.add_sub_cancel' a2) a4
 ·rw[if_neg h]
  have e:r.1=N:=Nat.le_antisymm a2 (Nat.not_lt.mp h)
  rw[e] at a4
  exact⟨a3,a4⟩
end
end
section
variable {prog:Program}{w:World}{A:Around}{E:Value->Shared->Prop}{s:Shared}{κ:SortKind}{vs:List Value}{key:Nat->Int}
noncomputable def zvs(prog:Program)(w:World)(A:Around)(s:Shared)(κ:SortKind)(vs:List Value)(key:Nat->Int)(N:Nat):Prop:=
 ∀i j,i<N->j<N->∀(Q:Bool->Shared->Prop) (E:Value->Shared->Prop),Q (ltK key i j) s->wpAny (model prog w) A (keyLt' κ (vs.getD i Value.none) (vs.getD j Value.none)) Q E s
inductive Sorts(s:Shared)(vs:List Value)(key:Nat->Int)(st:SortSt)(s':Shared):Prop
 |mk (e:s'=s)(p:Array Nat)(hp:zd6 vs.length p)(hu:Up key p vs.length)(ha:(arrOf st).map (·.2)=(p.toList.map fun i=>vs.getD i Value.none).toArray)(hf:failedOf st=none):Sorts s vs key st s'
theorem runs_ok(hc:zvs prog w A s κ vs key vs.length)(hk:∀i j,i<vs.length->j<vs.length->key i=key j->i=j)(h2:2<=vs.length)(h64:vs.length<64) :
  wpAny (model prog w) A (sortRuns'.run (SortSt.mk' κ (vs.toArray.zip vs.toArray) #[] 7 none)) (fun r s'=>Sorts s vs key r.2 s') E s:=
 kat_run (ks:=vs) (G:=fun p s'=>s'=s/\zd6 vs.length p/\Up key p vs.length) rfl h2 h64 (fun p _ _ _ ha hf g=>⟨g.1,p,g.2.1,g.2.2,kat_snds rfl ha,hf⟩)
  (KGo.wp (fun i j C hi hj h=>hc i j hi hj C _ h) (fun p a=>⟨rfl,a.1,a.2⟩) _ (sort_go hk h2))
end
end Bn
namespace Bn
open PySem
inductive V where
 |none
 |bool (b:Bool)
 |int (i:Int)
 |str (s:Str)
 |tup (l:List V)
 |lst (a:Nat)
 |scr (l:List Int)
 |dict0
 |rng (lo hi st:Int)
 |exc (c:Str)(x:V)
 deriving Inhabited
abbrev Hp:=List (List V)
abbrev Loc:=List (Option V)
inductive LV{α:Type}:List α->Prop
 |zero:LV []
 |one (a:α):LV [a]
 |two (a b:α):LV [a,b]
 |three (a b c:α):LV [a,b,c]
 |more (a b c d:α)(l:List α):LV (a::b::c::d::l)
theorem LV.of{α:Type}(l:List α):LV l:=by
 cases l with
 |nil=>exact .zero
 |cons a l=>cases l with
  |nil=>exact .one a
  |cons b l=>cases l with
   |nil=>exact .two a b
   |cons c l=>cases l with
    |nil=>exact .three a b c
    |cons d l=>exact .more a b c d l
noncomputable def zxn:List Int->List Value->Prop
 |[],[]=>True
 |i::is,r::rs=>(∃t,r=.int i t)/\zxn is rs
 |_,_=>False
structure Cx where
 prog:Program
 w:World
 h0:Heap
 g:Str->Option Value
 b:Str->Option Value
 lam:Nat->FuncData->Str->Prop
 tabs:List (Addr×(Nat×Nat)×Str)
abbrev tabO (ps:Array Value):Obj:={ cls:=.none,data:=.fields ps }
inductive CodeO(h:Heap)(cc:Addr)(q:Str):Prop
 |mk (o:Obj)(vs:Array Value)(t:Tok)(h1:h.get? cc=some o)(h2:o.cls=.type "code")(h3:o.data=.fields vs)(h4:vs[1]?=some (.str q t)):CodeO h cc q
inductive TabSt(h:Heap)(x:Addr×(Nat×Nat)×Str):Prop
 |no (h1:h.get? x.1=some (tabO #[])):TabSt h x
 |yes (cc:Addr)(h1:h.get? x.1=some (tabO #[rawInt x.2.1.1,rawInt x.2.1.2,.ref cc]))(h2:CodeO h cc x.2.2):TabSt h x
theorem CodeO.mono{h h':Heap}{cc:Addr}{q:Str}(hk:∀b o,h.get? b=some o->o.cls=.type "code"->h'.get? b=some o):CodeO h cc q->CodeO h' cc q
 |.mk o vs t h1 h2 h3 h4=>.mk o vs t (hk _ _ h1 h2) h2 h3 h4
theorem TabSt.mono{h h':Heap}{x:Addr×(Nat×Nat)×Str}(hn:∀b ps,h.get? b=some (tabO ps)->h'.get? b=some (tabO ps))(hk:∀b o,h.get? b=some o->o.cls=.type "code"->h'.get? b=some o):TabSt h x->TabSt h' x
 |.no h1=>.no (hn _ _ h1)
 |.yes cc h1 h2=>.yes cc (hn _ _ h1) (h2.mono hk)
inductive TupAt(φ:List Addr)(h:Heap)(r:Value)(k:Nat)(P:List Value->Prop):Prop
 |mk (a:Addr)(o:Obj)(vs:Array Value)(n:Nat)(hr:r=.ref a)(ha:a∉φ)(ho:h.get? a=some o)(hc:o.cls=.type "tuple")(hd:o.data=.seq vs n)(hz:k<=sizeLine)(hl:P vs.toList):TupAt φ h r k P
inductive LstAt(φ:List Addr)(i:Nat)(r:Value):Prop
 |mk (a:Addr)(hr:r=.ref a)(ha:φ[i]?=some a):LstAt φ i r
inductive ScrAt(c:Cx)(φ:List Addr)(h:Heap)(l:List Int)(r:Value):Prop
 |mk (a:Addr)(o:Obj)(vs:Array Value)(n:Nat)(hr:r=.ref a)(ha:a∉φ)(h0:c.h0.get? a=some o)(ho:h.get? a=some o)(hc:o.cls=.type "list")(hd:o.data=.seq vs n)(hz:l.length<=sizeLine)(hl:zxn l vs.toList):ScrAt c φ h l r
inductive DictAt(φ:List Addr)(h:Heap)(r:Value):Prop
 |mk (a:Addr)(o:Obj)(es:Array DictEntry)(n:Nat)(hr:r=.ref a)(ha:a∉φ)(ho:h.get? a=some o)(hc:o.cls=.type "dict")(hd:o.data=.dict es n):DictAt φ h r
inductive RngAt(φ:List Addr)(h:Heap)(lo hi st:Int)(r:Value):Prop
 |mk (a:Addr)(t u v:Tok)(hr:r=.ref a)(ha:a∉φ)(ho:IsRange h a lo hi st t u v)(hb:lo.natAbs<2^31/\hi.natAbs<2^31/\0<st/\st<2^31):RngAt φ h lo hi st r
inductive AtAt(φ:List Addr)(h:Heap)(o:Obj)(P:Value->Prop):Prop
 |mk (d:Addr)(od:Obj)(es:Array DictEntry)(n:Nat)(ra:Value)(h1:o.dict=some d)(h2:d∉φ)(h3:h.get? d=some od)(h4:od.cls=.type "dict")(h5:od.data=.dict es n)(h6:nsFind es (Str.ofString "at")=some ra)(h7:P ra):AtAt φ h o P
inductive ExcAt(c:Cx)(φ:List Addr)(h:Heap)(cn:Str)(r:Value)(P:Value->Prop):Prop
 |mk (a:Addr)(o:Obj)(vs:Array Value)(hr:r=.ref a)(ha:a∉φ)(h0:c.h0.get? a=none)(ho:h.get? a=some o)(hC:∃C,o.cls=.ref C)(hg:c.g cn=some o.cls)(hd:o.data=.fields vs)(hn:cn=Str.ofString "BadNet"->AtAt φ h o P):ExcAt c φ h cn r P
mutual
noncomputable def Rep(c:Cx)(φ:List Addr)(h:Heap):V->Value->Prop
 |.none,r=>r=.none
 |.bool b,r=>r=.bool b
 |.int i,r=>∃t,r=.int i t
 |.str s,r=>∃t,r=.str s t
 |.tup l,r=>TupAt φ h r l.length (fun vs=>RepL c φ h l vs)
 |.lst i,r=>LstAt φ i r
 |.scr l,r=>ScrAt c φ h l r
 |.dict0,r=>DictAt φ h r
 |.rng lo hi st,r=>RngAt φ h lo hi st r
 |.exc cn x,r=>ExcAt c φ h cn r (fun ra=>Rep c φ h x ra)
noncomputable def RepL(c:Cx)(φ:List Addr)(h:Heap):List V->List Value->Prop
 |[],rs=>rs=[]
 |x::xs,rs=>match rs with
  |[]=>False
  |r::rs=>Rep c φ h x r/\RepL c φ h xs rs
end
inductive ListAt(c:Cx)(φ:List Addr)(h:Heap)(i:Nat)(xs:List V):Prop
 |mk (a:Addr)(o:Obj)(vs:Array Value)(n:Nat)(h1:φ[i]?=some a)(h2:h.get? a=some o)(h3:o.cls=.type "list")(h4:o.data=.seq vs n)(h5:RepL c φ h xs vs.toList)(h6:xs.length<=sizeLine/\o.dict=none/\o.slots = #[]):ListAt c φ h i xs
structure Sim(c:Cx)(φ:List Addr)(H:Hp)(s:Shared):Prop where
 stays:∀b o,c.h0.get? b=some o->s.heap.get? b=some o
 fresh:∀a∈φ,c.h0.get? a=none
 nodup:φ.Nodup
 len:φ.length=H.length
 lists:∀(i:Nat) xs,H[i]?=some xs->ListAt c φ s.heap i xs
 gens:s.gens = #[]
 tab:∀x∈c.tabs,TabSt s.heap x
theorem rI{c:Cx}{φ:List Addr}{h:Heap}{i:Int}{t:Tok}:Rep c φ h (.int i) (.int i t):=⟨t,rfl⟩
theorem rS{c:Cx}{φ:List Addr}{h:Heap}{i:Str}{t:Tok}:Rep c φ h (.str i) (.str i t):=⟨t,rfl⟩
theorem rB{c:Cx}{φ:List Addr}{h:Heap}{b:Bool}:Rep c φ h (.bool b) (.bool b):=rfl
theorem rN{c:Cx}{φ:List Addr}{h:Heap}:Rep c φ h .none .none:=rfl
theorem rL{c:Cx}{φ:List Addr}{h:Heap}:RepL c φ h [] []:=rfl
noncomputable def fix : Value -> Bool
 | .type t => t != "frame"
 | .none => false
 | _ => true
theorem fix_ne{v:Value}(h1:v≠.type "frame")(h2:v≠.none):fix v=true:=by
 cases v with
 |type t=>exact bne_iff_ne.mpr fun e=>h1 (by rw[e])
 |none=>exact absurd rfl h2
 |_=>rfl
structure Kp(X φ:List Addr)(h:Heap)(φ':List Addr)(h':Heap):Prop where
 pre:φ <+:φ'
 keep:∀b o,h.get? b=some o->b∉φ->b∉X->fix o.cls=true->h'.get? b=some o
 new:∀a∈φ',a∈φ\/h.get? a=none
 dict:∀b o es n,h.get? b=some o->b∉φ->o.data=.dict es n->∃o' es' n',h'.get? b=some o'/\o'.data=.dict es' n'/\o'.cls=o.cls
 exc:∀b o vs C,h.get? b=some o->b∉φ->o.cls=.ref C->o.data=.fields vs->∃vs',h'.get? b=some { o with data:=.fields vs' }
structure Ext(X φ:List Addr)(s:Shared)(φ':List Addr)(s':Shared):Prop extends Kp X φ s.heap φ' s'.heap where
 frame:∀b o,s.heap.get? b=some o->b∉φ->b∉X->o.cls≠.none->∃sl,s'.heap.get? b=some { o with slots:=sl }
 alive:∀b o,s.heap.get? b=some o->b∈X->∃o',s'.heap.get? b=some o'
 tabs:∀b o,s.heap.get? b=some o->b∉φ->b∉X->o.cls=.none->∃o',s'.heap.get? b=some o'/\o'.cls=.none
 os:s'.os=s.os
theorem Kp.notin{X φ φ':List Addr}{h h':Heap}(e:Kp X φ h φ' h'){b:Addr}{o:Obj}(hb:h.get? b=some o)(hn:b∉φ):b∉φ':=fun hm=>
 (e.new b hm).elim hn fun hle=>by rw[hle] at hb;cases hb
theorem Ext.refl{X φ}{s:Shared}:Ext X φ s φ s where
 pre:=List.prefix_rfl
 keep:=fun _ _ h _ _ _=>h
 new:=fun _ h=>.inl h
 frame:=fun _ o h _ _ _=>⟨o.slots,h⟩
 dict:=fun _ o es n h _ hd=>⟨o,es,n,h,hd,rfl⟩
 exc:=fun _ o vs _ h _ _ hd=>⟨vs,by rw[<- hd];exact h⟩
 alive:=fun _ o h _=>⟨o,h⟩
 tabs:=fun _ o h _ _ hc=>⟨o,h,hc⟩
 os:=rfl
theorem Ext.live{X φ φ':List Addr}{s s':Shared}(e:Ext X φ s φ' s')(b:Addr)(o:Obj)(h:s.heap.get? b=some o)(hφ:b∉φ)(hX:b∉X):∃o',s'.heap.get? b=some o':=
 (Classical.em (o.cls=.none)).elim (fun hc=>let⟨o',h',_⟩:=e.tabs b o h hφ hX hc;⟨o',h'⟩) fun hc=>let⟨_,h'⟩:=e.frame b o h hφ hX hc;⟨_,h'⟩
theorem Ext.trans{X φ φ₁ φ₂:List Addr}{s s₁ s₂:Shared}(e:Ext X φ s φ₁ s₁)(f:Ext X φ₁ s₁ φ₂ s₂):Ext X φ s φ₂ s₂ where
 pre:=e.pre.trans f.pre
 keep b o h hφ hX hc:=f.keep b o (e.keep b o h hφ hX hc) (e.notin h hφ) hX hc
 frame b o h hφ hX hc:=by
  obtain⟨sl,h₁⟩:=e.frame b o h hφ hX hc
  obtain⟨sl',h₂⟩:=f.frame b _ h₁ (e.notin h hφ) hX hc
  exact⟨sl',h₂⟩
 tabs b o h hφ hX hc:=by
  obtain⟨o₁,h₁,c₁⟩:=e.tabs b o h hφ hX hc
  exact f.tabs b o₁ h₁ (e.notin h hφ) hX c₁
 dict b o es n h hφ hd:=by
  obtain⟨o₁,es₁,n₁,h₁,d₁,c₁⟩:=e.dict b o es n h hφ hd
  obtain⟨o₂,es₂,n₂,h₂,d₂,c₂⟩:=f.dict b o₁ es₁ n₁ h₁ (e.notin h hφ) d₁
  exact⟨o₂,es₂,n₂,h₂,d₂,c₂.trans c₁⟩
 exc b o vs C h hφ hc hd:=by
  obtain⟨vs₁,h₁⟩:=e.exc b o vs C h hφ hc hd
  obtain⟨vs₂,h₂⟩:=f.exc b _ vs₁ C h₁ (e.notin h hφ) hc rfl
  exact⟨vs₂,h₂⟩
 new a ha:=(f.new a ha).elim (fun h=>e.new a h) fun h=>by
  cases ho:s.heap.get? a with
  |none=>exact .inr rfl
  |some o=>
   by_cases hφ:a∈φ
   ·exact .inl hφ
   ·by_cases hX:a∈X
    ·obtain⟨o',h'⟩:=e.alive a o ho hX
     rw[h] at h';cases h'
    ·obtain⟨o',h'⟩:=e.live a o ho hφ hX
     rw[h] at h';cases h'
 alive b o h hX:=by
  obtain⟨o',h'⟩:=e.alive b o h hX
  exact f.alive b o' h' hX
 os:=f.os.trans e.os
theorem Ext.weaken{X Y φ φ':List Addr}{s s':Shared}(e:Ext X φ s φ' s')(h:∀b∈X,b∈Y)(hY:∀b∈Y,b∉φ):Ext Y φ s φ' s' where
 pre:=e.pre
 keep b o hb hφ hY hc:=e.keep b o hb hφ (fun hx=>hY (h b hx)) hc
 new:=e.new
 frame b o hb hφ hY hc:=e.frame b o hb hφ (fun hx=>hY (h b hx)) hc
 tabs b o hb hφ hY hc:=e.tabs b o hb hφ (fun hx=>hY (h b hx)) hc
 dict:=e.dict
 exc:=e.exc
 alive b o hb hm:=by
  by_cases hX:b∈X
  ·exact e.alive b o hb hX
  ·exact e.live b o hb (hY b hm) hX
 os:=e.os
theorem Ext.drop{X φ φ':List Addr}{s s':Shared}(e:Ext X φ s φ' s')(h:∀b∈X,s.heap.get? b=none):Ext [] φ s φ' s' where
 pre:=e.pre
 keep b o hb hφ _ hc:=e.keep b o hb hφ (fun hx=>by rw[h b hx] at hb;cases hb) hc
 new:=e.new
 frame b o hb hφ _ hc:=e.frame b o hb hφ (fun hx=>by rw[h b hx] at hb;cases hb) hc
 tabs b o hb hφ _ hc:=e.tabs b o hb hφ (fun hx=>by rw[h b hx] at hb;cases hb) hc
 dict:=e.dict
 exc:=e.exc
 alive _ _ _ hx:=nomatch hx
 os:=e.os
theorem Ext.of_heap{X φ:List Addr}{s s':Shared}(hh:s'.heap=s.heap)(ho:s'.os=s.os):Ext X φ s φ s' where
 pre:=List.prefix_rfl
 keep _ _ h _ _ _:=by rw[hh];exact h
 new _ h:=.inl h
 frame _ o h _ _ _:=⟨o.slots,by rw[hh];exact h⟩
 tabs _ o h _ _ hc:=⟨o,by rw[hh];exact h,hc⟩
 dict _ o es n h _ hd:=⟨o,es,n,by rw[hh];exact h,hd,rfl⟩
 exc _ o vs _ h _ _ hd:=⟨vs,by rw[hh,<-hd];exact h⟩
 alive _ o h _:=⟨o,by rw[hh];exact h⟩
 os:=ho
theorem Ext.of_sameBut{X φ:List Addr}{s s':Shared}{a:Addr}(hs:Heap.SameBut a s.heap s'.heap)(ha:a∈φ)(hX:a∉X)(ho:s'.os=s.os):Ext X φ s φ s' where
 pre:=List.prefix_rfl
 keep b o h hφ _ _:=(hs.2 b fun e=>hφ (e▸ha)).trans h
 new _ h:=.inl h
 frame b o h hφ _ _:=⟨o.slots,(hs.2 b fun e=>hφ (e▸ha)).trans h⟩
 tabs b o h hφ _ hc:=⟨o,(hs.2 b fun e=>hφ (e▸ha)).trans h,hc⟩
 dict b o es n h hφ hd:=⟨o,es,n,(hs.2 b fun e=>hφ (e▸ha)).trans h,hd,rfl⟩
 exc b o vs _ h hφ _ hd:=⟨vs,by rw[<- hd];exact(hs.2 b fun e=>hφ (e▸ha)).trans h⟩
 alive b o h hb:=⟨o,(hs.2 b fun e=>hX (e▸hb)).trans h⟩
 os:=ho
theorem Ext.of_keeps{X φ:List Addr}{s s':Shared}(hk:∀b o,s.heap.get? b=some o->s'.heap.get? b=some o)(ho:s'.os=s.os):Ext X φ s φ s' where
 pre:=List.prefix_rfl
 keep b o h _ _ _:=hk b o h
 new _ h:=.inl h
 frame b o h _ _ _:=⟨o.slots,hk b o h⟩
 tabs b o h _ _ hc:=⟨o,hk b o h,hc⟩
 dict b o es n h _ hd:=⟨o,es,n,hk b o h,hd,rfl⟩
 exc b o vs _ h _ _ hd:=⟨vs,by rw[<- hd];exact hk b o h⟩
 alive b o h _:=⟨o,hk b o h⟩
 os:=ho
theorem Ext.of_own{X φ:List Addr}{s s':Shared}{a:Addr}(hs:Heap.SameBut a s.heap s'.heap)(ha:a∈X)(hd:∀o es n,s.heap.get? a=some o->o.data=.dict es n->∃o' es' n',s'.heap.get? a=some o'/\o'.data=.dict es' n'/\o'.cls=o.cls)
  (hal:∃o',s'.heap.get? a=some o') (ho:s'.os=s.os) (hf:∀o vs,s.heap.get? a=some o->o.data≠.fields vs):Ext X φ s φ s' where
 pre:=List.prefix_rfl
 keep b o h _ hX _:=(hs.2 b fun e=>hX (e▸ha)).trans h
 new _ h:=.inl h
 frame b o h _ hX _:=⟨o.slots,(hs.2 b fun e=>hX (e▸ha)).trans h⟩
 tabs b o h _ hX hc:=⟨o,(hs.2 b fun e=>hX (e▸ha)).trans h,hc⟩
 dict b o es n h _ hdd:=by
  by_cases e:b=a
  ·subst e;exact hd o es n h hdd
  ·exact⟨o,es,n,(hs.2 b e).trans h,hdd,rfl⟩
 exc b o vs _ h _ _ hdd:=by
  by_cases e:b=a
  ·subst e;exact absurd hdd (hf o vs h)
  ·exact⟨vs,by rw[<- hdd];exact(hs.2 b e).trans h⟩
 alive b o h _:=by
  by_cases e:b=a
  ·subst e;exact hal
  ·exact⟨o,(hs.2 b e).trans h⟩
 os:=ho
noncomputable def hid:Value->Bool
 |.type t=>["frame","cell","traceback","list_iterator","tuple_iterator","range_iterator","longrange_iterator","str_iterator","str_ascii_iterator","enumerate","zip","list_reverseiterator"].contains t
 |.none=>true
 |_=>false
theorem fix_of{v:Value}(h:hid v=false):fix v=true:=by
 cases v with
 |type t=>exact bne_iff_ne.mpr fun e=>by rw[e] at h;exact nomatch h
 |none=>exact nomatch h
 |_=>rfl
noncomputable def own(c:Cx)(b:Addr)(o:Obj):Prop:=
 hid o.cls=true\/(o.cls=.type "list"/\c.h0.get? b=none)\/(o.cls=.type "dict"/\∃es n,o.data=.dict es n/\nsFind es (Str.ofString "at")=none)\/(∃C,o.cls=.ref C)
noncomputable def plainT (T : String) : Bool := !hid (.type T) && T != "list" && T != "dict"
theorem zlm{c:Cx}{b:Addr}{o:Obj}{T:String}(h0:o.cls=.type T)(h1:plainT T=true):¬own c b o:=fun h=>by
 simp only[plainT,Bool.and_eq_true,zbp,bne_iff_ne] at h1
 rcases h with h |h |h |⟨C,h⟩
 ·rw[h0,h1.1.1] at h;cases h
 ·rw[h0] at h;injection h.1 with h;exact h1.1.2 h
 ·rw[h0] at h;injection h.1 with h;exact h1.2 h
 ·rw[h0] at h;cases h
noncomputable def OwnX(c:Cx)(X:List Addr)(h:Heap):Prop:=∀b∈X,∀o,h.get? b=some o->own c b o
theorem OwnX.nil{c:Cx}{h:Heap}:OwnX c [] h:=fun _ hb=>nomatch hb
theorem zfv{α:Type}{l l':List α}(h:l <+:l'){i:Nat}{a:α}(e:l[i]?=some a):l'[i]?=some a:=by
 obtain⟨t,rfl⟩:=h
 rw[zbu (zbi.mp e).1];exact e
section
variable {c:Cx}{X φ φ':List Addr}{s s':Shared}
theorem zp0{h h':Heap}(e:Kp X φ h φ' h')(hX:OwnX c X h){a:Addr}{o:Obj}(ho:h.get? a=some o)(ha:a∉φ)(hc:¬own c a o):h'.get? a=some o:=
 e.keep a o ho ha (fun hx=>hc (hX a hx o ho)) (fix_of (Bool.eq_false_iff.mpr fun q=>hc (.inl q)))
theorem own_ref{c:Cx}{b:Addr}{o o':Obj}(h0:c.h0.get? b=some o')(hc:o.cls=.type "list"):¬own c b o:=fun q=>by
 rcases q with q |q |q |⟨C,q⟩
 ·rw[hc] at q;revert q;decide
 ·rw[h0] at q;cases q.2
 ·rw[hc] at q;exact absurd q.1 (by decide)
 ·rw[hc] at q;cases q
theorem own_at{c:Cx}{b:Addr}{od:Obj}{es:Array DictEntry}{n:Nat}{ra:Value}(h4:od.cls=.type "dict")(h5:od.data=.dict es n)(h6:nsFind es (Str.ofString "at")=some ra):¬own c b od:=fun q=>by
 rcases q with q |q |⟨_,es',n',q,q''⟩|⟨C',q⟩
 ·rw[h4] at q;revert q;decide
 ·rw[h4] at q;exact absurd q.1 (by decide)
 ·rw[h5] at q;cases q;rw[h6] at q'';cases q''
 ·rw[h4] at q;cases q
mutual
theorem Rep.mono{h h':Heap}(e:Kp X φ h φ' h')(hX:OwnX c X h):∀{v:V}{r:Value},Rep c φ h v r->Rep c φ' h' v r
 |.none,_,h=>h
 |.bool _,_,h=>h
 |.int _,_,h=>h
 |.str _,_,h=>h
 |.tup l,r,.mk a o vs n hr ha ho hc hd hz hl=>TupAt.mk a o vs n hr (e.notin ho ha) (zp0 e hX ho ha (zlm hc rfl)) hc hd hz (RepL.mono e hX hl)
 |.lst i,r,.mk a hr ha=>LstAt.mk a hr (zfv e.pre ha)
 |.scr l,r,.mk a o vs n hr ha h0 ho hc hd hz hl=>ScrAt.mk a o vs n hr (e.notin ho ha) h0 (zp0 e hX ho ha (own_ref h0 hc)) hc hd hz hl
 |.dict0,r,.mk a o es n hr ha ho hc hd=>
  let⟨o',es',n',h1,h2,h3⟩:=e.dict a o es n ho ha hd
  DictAt.mk a o' es' n' hr (e.notin ho ha) h1 (h3.trans hc) h2
 |.rng lo hi st,r,.mk a t u v hr ha ho hb=>RngAt.mk a t u v hr (e.notin ho ha) (zp0 e hX ho ha (zlm (T:="range") rfl rfl)) hb
 |.exc cn x,r,.mk a o vs hr ha h0 ho ⟨C,hC⟩ hg hd hn=>
  let⟨vs',ho'⟩:=e.exc a o vs C ho ha hC hd
  ExcAt.mk a _ vs' hr (e.notin ho ha) h0 ho' ⟨C,hC⟩ hg rfl fun q=>
   let⟨d,od,es,n,ra,h1,h2,h3,h4,h5,h6,h7⟩:=hn q
   ⟨d,od,es,n,ra,h1,e.notin h3 h2,zp0 e hX h3 h2 (own_at h4 h5 h6),h4,h5,h6,Rep.mono e hX h7⟩
theorem RepL.mono{h h':Heap}(e:Kp X φ h φ' h')(hX:OwnX c X h):∀{l:List V}{rs:List Value},RepL c φ h l rs->RepL c φ' h' l rs
 |[],_,h=>h
 |_::_,[],h=>False.elim h
 |_::_,_::_,h=>⟨Rep.mono e hX h.1,RepL.mono e hX h.2⟩
end
section
variable {h:Heap}{a:Addr}{oa:Obj}
theorem ze3{b:Addr}{o:Obj}(ha:h.get? a=some oa)(hla:oa.cls=.type "list")(hb:h.get? b=some o)(hc:o.cls≠.type "list")(hn:b∉φ):b∉φ++[a]:=fun hm=>
 (zau.mp hm).elim hn fun e=>by
  rw[zah.mp e,ha] at hb;cases hb;exact hc hla
mutual
theorem Rep.adopt(ha:h.get? a=some oa)(hla:oa.cls=.type "list")(h0:c.h0.get? a=none):∀{v:V}{r:Value},Rep c φ h v r->Rep c (φ++[a]) h v r
 |.none,_,q=>q
 |.bool _,_,q=>q
 |.int _,_,q=>q
 |.str _,_,q=>q
 |.tup l,r,.mk b o vs n hr hb ho hc hd hz hl=>TupAt.mk b o vs n hr (ze3 ha hla ho (by rw[hc];decide) hb) ho hc hd hz (RepL.adopt ha hla h0 hl)
 |.lst i,r,.mk b hr hb=>LstAt.mk b hr (zfv (List.prefix_append _ _) hb)
 |.scr l,r,.mk b o vs n hr hb hb0 ho hc hd hz hl=>ScrAt.mk b o vs n hr (fun hm=>(zau.mp hm).elim hb fun e=>by rw[zah.mp e,h0] at hb0;cases hb0) hb0 ho hc hd hz hl
 |.dict0,r,.mk b o es n hr hb ho hc hd=>DictAt.mk b o es n hr (ze3 ha hla ho (by rw[hc];decide) hb) ho hc hd
 |.rng lo hi st,r,.mk b t u v hr hb ho hs=>RngAt.mk b t u v hr (ze3 ha hla ho (show Value.type "range"≠_ by decide) hb) ho hs
 |.exc cn x,r,.mk b o vs hr hb hb0 ho ⟨C,hC⟩ hg hd hn=>
  ExcAt.mk b o vs hr (ze3 ha hla ho (by rw[hC];intro q;cases q) hb) hb0 ho ⟨C,hC⟩ hg hd fun q=>
   let⟨d,od,es,n,ra,h1,h2,h3,h4,h5,h6,h7⟩:=hn q
   ⟨d,od,es,n,ra,h1,ze3 ha hla h3 (by rw[h4];decide) h2,h3,h4,h5,h6,Rep.adopt ha hla h0 h7⟩
theorem RepL.adopt(ha:h.get? a=some oa)(hla:oa.cls=.type "list")(h0:c.h0.get? a=none):∀{l:List V}{rs:List Value},RepL c φ h l rs->RepL c (φ++[a]) h l rs
 |[],_,q=>q
 |_::_,[],q=>False.elim q
 |_::_,_::_,q=>⟨Rep.adopt ha hla h0 q.1,RepL.adopt ha hla h0 q.2⟩
end
end
inductive RepC(c:Cx)(φ:List Addr)(h:Heap)(v:V)(l:List V)(rs:List Value):Prop
 |mk (r:Value)(rs':List Value)(e:rs=r::rs')(hv:Rep c φ h v r)(hl:RepL c φ h l rs'):RepC c φ h v l rs
theorem RepL.uncons{φ:List Addr}{h:Heap}{v:V}{vs:List V}{rs:List Value}(R:RepL c φ h (v::vs) rs):RepC c φ h v vs rs:=by
 cases rs with
 |nil=>exact R.elim
 |cons r rs=>exact⟨r,rs,rfl,R.1,R.2⟩
theorem RepL.nil_inv{φ:List Addr}{h:Heap}{rs:List Value}(R:RepL c φ h [] rs):rs=[]:=R
theorem RepL.length{φ:List Addr}{h:Heap}:∀{l:List V}{rs:List Value},RepL c φ h l rs->rs.length=l.length
 |[],_,q=>by rw[q.nil_inv];rfl
 |_::_,_,q=>by
  obtain⟨r,rs',rfl,_,q2⟩:=q.uncons
  exact congrArg (· + 1) (RepL.length q2)
inductive RepG(c:Cx)(φ:List Addr)(h:Heap)(rs:List Value)(i:Nat)(v:V):Prop
 |mk (r:Value)(e:rs[i]?=some r)(hv:Rep c φ h v r):RepG c φ h rs i v
theorem RepL.get{φ:List Addr}{h:Heap}:∀{l:List V}{rs:List Value},RepL c φ h l rs->∀{i:Nat}{v:V},l[i]?=some v->RepG c φ h rs i v
 |[],_,_,_,_,e=>nomatch e
 |x::xs,_,q,i,v,e=>by
  obtain⟨r,rs',rfl,hv,q2⟩:=q.uncons
  cases i with
  |zero=>cases e;exact⟨r,rfl,hv⟩
  |succ i=>
   obtain⟨r',e',h'⟩:=RepL.get q2 (i:=i) (v:=v) e
   exact⟨r',e',h'⟩
theorem RepL.append{φ:List Addr}{h:Heap}:∀{l l':List V}{rs rs':List Value},RepL c φ h l rs->RepL c φ h l' rs'->RepL c φ h (l++l') (rs++rs')
 |[],_,_,_,q,q'=>by rw[q.nil_inv];exact q'
 |_::_,_,_,_,q,q'=>by
  obtain⟨r,rs',rfl,hv,q2⟩:=q.uncons
  exact⟨hv,RepL.append q2 q'⟩
theorem RepL.set{φ:List Addr}{h:Heap}:∀{l:List V}{rs:List Value},RepL c φ h l rs->∀(i:Nat){v:V}{r:Value},Rep c φ h v r->RepL c φ h (l.set i v) (rs.set i r)
 |[],_,q,_,_,_,_=>by rw[q.nil_inv];rfl
 |_::_,_,q,i,_,_,hv'=>by
  obtain⟨r,rs',rfl,hv,q2⟩:=q.uncons
  cases i with
  |zero=>exact⟨hv',q2⟩
  |succ i=>exact⟨hv,RepL.set q2 i hv'⟩
theorem Sim.lt{H:Hp}(S:Sim c φ H s){a:Addr}(ha:a∈φ):a<s.heap.objs.size:=by
 obtain⟨i,hi,rfl⟩:=zca.mp ha
 have hi':i<H.length:=S.len▸hi
 obtain⟨a,o,_,_,h1,h2,_⟩:=S.lists i H[i] (zam hi')
 rw[zam hi] at h1;cases h1
 exact Heap.lt_size h2
theorem Sim.isList{H:Hp}(S:Sim c φ H s){a:Addr}(ha:a∈φ):∃o,s.heap.get? a=some o/\o.cls=.type "list":=by
 obtain⟨i,hi,rfl⟩:=zca.mp ha
 have hi':i<H.length:=S.len▸hi
 obtain⟨a,o,_,_,h1,h2,h3,_⟩:=S.lists i H[i] (zam hi')
 rw[zam hi] at h1;cases h1
 exact⟨o,h2,h3⟩
theorem Sim.new{H:Hp}(S:Sim c φ H s):s.heap.objs.size∉φ:=fun h=>zbb _ (S.lt h)
theorem Sim.h0_new{H:Hp}(S:Sim c φ H s){a:Addr}(ha:s.heap.objs.size<=a):c.h0.get? a=none:=by
 cases e:c.h0.get? a with
 |none=>rfl
 |some o=>exact absurd (Heap.lt_size (S.stays a o e)) (Nat.not_lt.mpr ha)
theorem Sim.mono{H:Hp}(S:Sim c φ H s)(e:Kp X φ s.heap φ s'.heap)(hX:OwnX c X s.heap)(hXb:∀b∈X,c.h0.get? b=none)
  (hl:∀a∈φ,∀o,s.heap.get? a=some o->s'.heap.get? a=some o) (hst:∀b o,c.h0.get? b=some o->fix o.cls=false->s'.heap.get? b=some o) (hg:s'.gens = #[])
  (hn:∀b ps,s.heap.get? b=some (tabO ps)->s'.heap.get? b=some (tabO ps)):Sim c φ H s' where
 stays b o h:=by
  cases hf:fix o.cls with
  |false=>exact hst b o h hf
  |true=>exact e.keep b o (S.stays b o h) (fun hm=>by rw[S.fresh b hm] at h;cases h) (fun hm=>by rw[hXb b hm] at h;cases h) hf
 fresh:=S.fresh
 nodup:=S.nodup
 len:=S.len
 lists i xs h:=by
  obtain⟨a,o,vs,n,h1,h2,h3,h4,h5,h6⟩:=S.lists i xs h
  exact⟨a,o,vs,n,h1,hl a (zax h1) o h2,h3,h4,RepL.mono e hX h5,h6⟩
 gens:=hg
 tab x hx:=(S.tab x hx).mono hn fun b o hb hc=>e.keep b o hb (fun hm=>by
  obtain⟨o',h1,h2⟩:=S.isList hm
  rw[hb] at h1;cases h1;rw[hc] at h2;exact absurd h2 (by decide)) (fun hm=>zlm hc rfl (hX b hm o hb)) (by rw[hc];rfl)
theorem Sim.keeps{H:Hp}(S:Sim c φ H s)(hk:∀b o,s.heap.get? b=some o->s'.heap.get? b=some o)(hg:s'.gens=s.gens):Sim c φ H s':=
 S.mono (X:=[]) ⟨List.prefix_rfl,fun b o h _ _ _=>hk b o h,fun _ h=>.inl h,fun b o es n h _ hd=>⟨o,es,n,hk b o h,hd,rfl⟩,fun b o vs _ h _ _ hd=>⟨vs,by rw[<- hd];exact hk b o h⟩⟩ OwnX.nil (by simp) (fun a _ o h=>hk a o h) (fun b o h _=>hk b o (S.stays b o h)) (hg.trans S.gens) fun b _ h=>hk b _ h
theorem Sim.tok{H:Hp}(S:Sim c φ H s)(t:Nat):Sim c φ H { s with toks:=t }:=⟨S.stays,S.fresh,S.nodup,S.len,S.lists,S.gens,S.tab⟩
theorem Sim.push{H:Hp}(S:Sim c φ H s)(o:Obj):Sim c φ H { s with heap:=s.heap.push o }:=
 S.keeps (fun _ _ h=>Heap.get?_push_of_some _ h) rfl
theorem Ext.push{o:Obj}:Ext X φ s φ { s with heap:=s.heap.push o }:=
 Ext.of_keeps (fun _ _ h=>Heap.get?_push_of_some _ h) rfl
theorem Sim.adopt{H:Hp}(S:Sim c φ H s){a:Addr}{o:Obj}{vs:Array Value}{n:Nat}{xs:List V}(ha:a∉φ)(h0:c.h0.get? a=none)(ho:s.heap.get? a=some o)(hc:o.cls=.type "list")
  (hd:o.data=.seq vs n) (hp:o.dict=none/\o.slots = #[]) (hr:RepL c φ s.heap xs vs.toList) (hz:xs.length<=sizeLine):Sim c (φ++[a]) (H++[xs]) s where
 stays:=S.stays
 fresh b hb:=by
  rcases zau.mp hb with h |h
  ·exact S.fresh b h
  ·rw[zah.mp h];exact h0
 nodup:=by
  rw[List.nodup_append]
  refine⟨S.nodup,by simp,fun x hx y hy=>?_⟩
  rw[zah.mp hy];rintro rfl;exact ha hx
 len:=by simp[S.len]
 lists i ys h:=by
  by_cases hi:i<H.length
  ·rw[zbu hi] at h
   obtain⟨b,o',vs',n',h1,h2,h3,h4,h5,h6⟩:=S.lists i ys h
   exact⟨b,o',vs',n',by rw[zbu (S.len▸hi)];exact h1,h2,h3,h4,RepL.adopt ho hc h0 h5,h6⟩
  ·have hlt:i<(H++[xs]).length:=(zbi.mp h).1
   have:i=H.length:=by simp at hlt;exact Ar.ar2 [_,_] [] 0x6294001840300c20000a5000610080308000 (Y2 V0 V1) (Y8 (Y1 V0 V1) J0) (Y1 V0 (Y0 V1 J1)) hi hlt
   subst this
   rw[zbv (zaf _)] at h
   simp at h;subst h
   exact⟨a,o,vs,n,by rw[zbv (zbc S.len)];simp[S.len],ho,hc,hd,RepL.adopt ho hc h0 hr,hz,hp⟩
 gens:=S.gens
 tab:=S.tab
theorem Sim.newList{H:Hp}(S:Sim c φ H s){xs:List V}{vs:List Value}(hr:RepL c φ s.heap xs vs)(hz:xs.length<=sizeLine){o:Obj}(ho:o={ cls:=.type "list",data:=.seq vs.toArray }) :
  Ext [] φ s (φ++[s.heap.objs.size]) { s with heap:=s.heap.push o }/\Sim c (φ++[s.heap.objs.size]) (H++[xs]) { s with heap:=s.heap.push o }:=by
 subst ho
 have e:Ext [] φ s (φ++[s.heap.objs.size]) { s with heap:=s.heap.push { cls:=.type "list",data:=.seq vs.toArray } }:=
  { (Ext.push (X:=[]) (φ:=φ) (s:=s) (o:={ cls:=.type "list",data:=.seq vs.toArray })) with
   pre:=List.prefix_append _ _
   new:=fun a ha=>(zau.mp ha).elim .inl fun h=>.inr (by rw[zah.mp h];exact Heap.get?_none_of_le (zaf _)) }
 refine⟨e,?_⟩
 have S':=S.push { cls:=.type "list",data:=.seq vs.toArray }
 refine S'.adopt (o:={ cls:=.type "list",data:=.seq vs.toArray }) (vs:=vs.toArray) (n:=0) S.new (S.h0_new (zaf _)) (Heap.get?_push_size _ rfl) rfl rfl ⟨rfl,rfl⟩ ?_ hz
 have:=RepL.mono (Ext.push (X:=[]) (φ:=φ) (s:=s) (o:={ cls:=.type "list",data:=.seq vs.toArray })).toKp OwnX.nil hr
 simpa using this
end
end Bn
namespace Bn
open PySem
inductive Op |add |sub |mul |div |mod
inductive Cm |lt |le |gt |ge |eq |ne |isIn
 |notIn
 |is
inductive Bl |len |max |min |range |list |all
 |tuple
 |sorted
 |int
inductive Me |append
 |extend
 |pop
 |join
inductive Tc |int |bool |list |tuple
 |str
inductive Tg |one (i:Nat) |two (i j:Nat)
inductive Ex where
 |lit (v:V)
 |var (i:Nat)
 |tup (es:List Ex)
 |list (es:List Ex)
 |dict0
 |bin (op:Op)(a b:Ex)
 |neg (a:Ex)
 |not (a:Ex)
 |cmp (a:Ex)(os:List Cm)(bs:List Ex)
 |and (es:List Ex)
 |or (es:List Ex)
 |idx (a i:Ex)
 |slice (a lo hi:Ex)
 |rev (a:Ex)
 |call (f:Str)(es:List Ex)
 |callL (f:Str)(es:List Ex)(k:Nat)(i:Nat)
 |callv (es:List Ex)
 |blt (b:Bl)(es:List Ex)
 |meth (m:Me)(o:Ex)(es:List Ex)
 |isi (a:Ex)(t:Tc)
 |comp (elt:Ex)(t:Tg)(src:Ex)(ifs:List Ex)
 |attr (a:Ex)(x:Str)
 deriving Inhabited
inductive Sr where
 |val (e:Ex)
 |enum (e:Ex)
 |rev (e:Ex)
 |zip (a b:Ex)
 deriving Inhabited
inductive St where
 |set (i:Nat)(e:Ex)
 |unp (is:List Nat)(e:Ex)
 |put (o i e:Ex)
 |expr (e:Ex)
 |ret (e:Ex)
 |ite (t:Ex)(a b:List St)
 |whil (t:Ex)(b:List St)
 |loop (t:Tg)(s:Sr)(b:List St)
 |rais (cn:Str)(es:List Ex)
 |tri (b:List St)(i:Nat)(h:List St)
 |stuck
 deriving Inhabited
inductive Fl where
 |next
 |ret (v:V)
noncomputable def zlh:V->Option Bool
 |.bool b=>some b
 |_=>none
noncomputable def mapO{α β:Type}(f:α->Option β):List α->Option (List β)
 |[]=>some []
 |x::xs=>(f x).bind fun y=>(mapO f xs).map (y::·)
inductive MapO{α β:Type}(f:α->Option β)(x:α)(xs:List α)(r:List β):Prop
 |mk (y:β)(ys:List β)(h1:f x=some y)(h2:mapO f xs=some ys)(h3:r=y::ys):MapO f x xs r
theorem zdj{α β:Type}{f:α->Option β}{x:α}{xs:List α}{r:List β}(h:mapO f (x::xs)=some r):MapO f x xs r:=by
 obtain⟨y,h1,h⟩:=zad.mp h
 obtain⟨ys,h2,h⟩:=zaj.mp h
 exact⟨y,ys,h1,h2,h.symm⟩
noncomputable def atomP:V->Option PyData
 |.none=>some PyData.none
 |.bool b=>some (PyData.bool b)
 |.int i=>some (PyData.int i)
 |.str s=>some (PyData.str s)
 |_=>none
noncomputable def toP:Nat->Hp->V->Option PyData
 |0,_,v=>atomP v
 |n+1,H,v=>match v with
  |.tup l=>(mapO (toP n H) l).map PyData.tuple
  |.lst a=>(H[a]?.bind fun xs=>mapO (toP n H) xs).map PyData.list
  |v=>atomP v
noncomputable def eqV(H:Hp)(v w:V):Option Bool:=(toP 9 H v).bind fun a=>(toP 9 H w).bind fun b=>if a.canLay0&&b.canLay0 then some (PyData.eqv a b) else none
noncomputable def ix(i:Int)(n:Nat):Option Nat:=
 if 0<=i then(if i<n then some i.toNat else none) else(if -(n:Int)<=i then some (i+n).toNat else none)
noncomputable def strAt(s:Str)(j:Nat):Option V:=s.cps[j]?.map fun c=>.str ⟨#[c]⟩
noncomputable def zu9(n:Nat)(o:Option Nat):Option Nat:=if n<=sizeLine then o else none
theorem onLe{n:Nat}{o:Option Nat}{j:Nat}(h:zu9 n o=some j):o=some j/\n<=sizeLine:=by
 unfold zu9 at h
 by_cases hn:n<=sizeLine
 ·rw[if_pos hn] at h;exact⟨h,hn⟩
 ·rw[if_neg hn] at h;cases h
noncomputable def zjk:V->Option Int
 |.int i=>some i
 |_=>none
noncomputable def zle:V->Option Nat
 |.lst a=>some a
 |_=>none
noncomputable def zs2:V->Option (List V)
 |.tup l=>some l
 |_=>none
theorem zd8 {v:V} {i:Int} (h:zjk v=some i):v=.int i:=by cases v<;>cases h;rfl
theorem zgk{v:V}{i:Nat}(h:zle v=some i):v=.lst i:=by cases v<;>cases h;rfl
noncomputable def zsf:V->Option Str
 |.str s=>some s
 |_=>none
theorem zfp{v:V}{l:Str}(h:zsf v=some l):v=.str l:=by cases v<;>cases h;rfl
theorem iteS{α:Type}{p:Prop} [Decidable p]{a b:α}(h:(if p then some a else none)=some b):p/\a=b:=by
 by_cases hp:p
 ·rw[if_pos hp] at h;exact⟨hp,zaa h⟩
 ·rw[if_neg hp] at h;cases h
theorem iteO{α:Type}{p:Prop} [Decidable p]{o:Option α}{b:α}(h:(if p then o else none)=some b):p/\o=some b:=by
 by_cases hp:p
 ·rw[if_pos hp] at h;exact⟨hp,h⟩
 ·rw[if_neg hp] at h;cases h
theorem iteN{α:Type}{p:Prop} [Decidable p]{a b:α}(h:(if p then none else some a)=some b):¬p/\a=b:=by
 by_cases hp:p
 ·rw[if_pos hp] at h;cases h
 ·rw[if_neg hp] at h;exact⟨hp,zaa h⟩
theorem zgi{v:V}{l:List V}(h:zs2 v=some l):v=.tup l:=by cases v<;>cases h;rfl
theorem zel{v:V}{b:Bool}(h:zlh v=some b):v=.bool b:=by cases v<;>cases h;rfl
noncomputable def zqo:List V->Option (List Int)
 |[]=>some []
 |x::r=>(zjk x).bind fun i=>(zqo r).map (i::·)
noncomputable def zkt:List V->Option (List Bool)
 |[]=>some []
 |x::r=>(zlh x).bind fun i=>(zkt r).map (i::·)
noncomputable def zh5:List V->Option (List Str)
 |[]=>some []
 |x::r=>(zsf x).bind fun i=>(zh5 r).map (i::·)
noncomputable def idxV(H:Hp)(v w:V):Option V:=(zjk w).bind fun i=>match v with
 |.str s=>(zu9 s.cps.size (ix i s.cps.size)).bind (strAt s)
 |.lst a=>H[a]?.bind fun xs=>(ix i xs.length).bind fun j=>xs[j]?
 |.tup xs=>(ix i xs.length).bind fun j=>xs[j]?
 |.scr xs=>(ix i xs.length).bind fun j=>xs[j]?.map .int
 |_=>none
noncomputable def int2{β:Type}(x y:V)(f:Int->Int->Option β):Option β:=(zjk x).bind fun a=>(zjk y).bind fun b=>f a b
theorem zfe{β:Type}{x y:V}{f:Int->Int->Option β}{r:β}(h:int2 x y f=some r):∃a b,x=.int a/\y=.int b/\f a b=some r:=by
 obtain⟨a,h1,h⟩:=zad.mp h
 obtain⟨b,h2,h⟩:=zad.mp h
 exact⟨a,b,zd8 h1,zd8 h2,h⟩
noncomputable def lst1{β:Type}(H:Hp)(x:V)(f:List V->Option β):Option β:=(zle x).bind fun a=>(H[a]?).bind f
theorem zgt{β:Type}{H:Hp}{x:V}{f:List V->Option β}{r:β}(h:lst1 H x f=some r):∃a xs,x=.lst a/\H[a]?=some xs/\f xs=some r:=by
 obtain⟨a,h1,h⟩:=zad.mp h
 obtain⟨xs,h2,h⟩:=zad.mp h
 exact⟨a,xs,zgk h1,h2,h⟩
noncomputable def charOf(s:Str):Option Nat:=match s.cps.toList with
 |[k]=>some k
 |_=>none
noncomputable def inS(s:Str)(y:V):Option Bool:=match y with
 |.str t=>(charOf s).map fun k=>decide (k∈t.cps.toList)
 |.tup l=>(zh5 l).map fun l=>decide (s∈l)
 |_=>none
noncomputable def inV(H:Hp)(x y:V):Option Bool:=match x with
 |.int k=>lst1 H y fun xs=>(zqo xs).map fun l=>decide (k∈l)
 |.str s=>inS s y
 |_=>none
noncomputable def ninV(x y:V):Option Bool:=(zsf x).bind fun s=>(zs2 y).bind fun l=>(zh5 l).map fun l=>!decide (s∈l)
noncomputable def isNone:V->Option Bool
 |.none=>some true
 |.int _=>some false
 |_=>none
noncomputable def isV(x y:V):Option Bool:=match y with
 |.none=>isNone x
 |_=>none
noncomputable def cmpV(H:Hp)(o:Cm)(x y:V):Option Bool:=match o with
 |.lt=>int2 x y fun a b=>some (decide (a<b))
 |.le=>int2 x y fun a b=>some (decide (a<=b))
 |.gt=>int2 x y fun a b=>some (decide (a>b))
 |.ge=>int2 x y fun a b=>some (decide (a>=b))
 |.eq=>eqV H x y
 |.ne=>(eqV H x y).map (!·)
 |.isIn=>inV H x y
 |.notIn=>ninV x y
 |.is=>isV x y
noncomputable def small(i:Int):Bool:=decide (i.natAbs<2^63)
noncomputable def rep{α:Type}(l:List α):Nat->List α
 |0=>[]
 |n+1=>l++rep l n
theorem zrz{α:Type}{l:List α}{n:Nat}:rep l (n+1)=l++rep l n:=rfl
noncomputable def addV(H:Hp)(x y:V):Option (V×Hp):=match x with
 |.int a=>(zjk y).map fun b=>(.int (a+b),H)
 |.str a=>(zsf y).bind fun b=>if a.length+b.length<=sizeLine then some (.str (a++b),H) else none
 |.lst a=>(H[a]?).bind fun x=>lst1 H y fun y=>if x.length+y.length<=sizeLine then some (.lst H.length,H++[x++y]) else none
 |_=>none
noncomputable def mulV(H:Hp)(x y:V):Option (V×Hp):=(zjk y).bind fun n=>match x with
 |.int a=>if small a||small n then some (.int (a*n),H) else none
 |.lst a=>(H[a]?).bind fun x=>if 0<=n/\n<=1000000/\n.toNat*x.length<=sizeLine then some (.lst H.length,H++[rep x n.toNat]) else none
 |_=>none
noncomputable def binV(H:Hp)(op:Op)(x y:V):Option (V×Hp):=match op with
 |.add=>addV H x y
 |.sub=>int2 x y fun a b=>some (.int (a-b),H)
 |.mul=>mulV H x y
 |.div=>int2 x y fun a b=>if b=0 then none else some (.int (a.fdiv b),H)
 |.mod=>int2 x y fun a b=>if b=0 then none else some (.int (a.fmod b),H)
noncomputable def zkb(i:Int)(n:Nat):Nat:=if i<0 then(i+n).toNat else min i.toNat n
noncomputable def bound?(n:Nat)(d:Nat):V->Option Nat
 |.none=>some d
 |.int i=>some (zkb i n)
 |_=>none
noncomputable def zo5(H:Hp)(a lo hi:V):Option (V×Hp):=(zle a).bind fun a=>(H[a]?).bind fun xs=>(bound? xs.length 0 lo).bind fun i=>(bound? xs.length xs.length hi).map fun j=>(.lst H.length,H++[(xs.drop i).take (j-i)])
noncomputable def revV(H:Hp)(a:V):Option (V×Hp):=(zle a).bind fun a=>(H[a]?).map fun xs=>(.lst H.length,H++[xs.reverse])
noncomputable def zdw(lo hi st:Int):List V:=(List.range (if 0<st/\lo<hi then((hi-lo-1)/st+1).toNat else 0)).map fun(i:Nat)=>V.int (lo+(i:Int)*st)
noncomputable def srcV(H:Hp):V->Option (List V)
 |.lst a=>H[a]?
 |.tup l=>some l
 |.rng lo hi st=>some (zdw lo hi st)
 |.str s=>some (s.cps.toList.map fun c=>.str ⟨#[c]⟩)
 |_=>none
noncomputable def okV(v:V)(items:List V)(H:Hp):Prop:=match v with
 |.lst a=>H[a]?=some items
 |_=>True
noncomputable def pair1(v:V):Option (Int×Int):=(zs2 v).bind fun l=>match l with
 |[x,y]=>int2 x y fun a b=>some (a,b)
 |_=>none
noncomputable def zlq(xs:List V):Option (List (Int×Int)):=mapO pair1 xs
noncomputable def zft(a b:Int×Int):Bool:=decide (a.1<b.1)||(decide (a.1=b.1)&&decide (a.2<=b.2))
noncomputable def zn8(l:List (Int×Int)):Bool:=decide (l.length<64)&&decide l.Nodup&&l.all fun p=>decide (p.1.natAbs<2^31)&&decide (p.2.natAbs<2^31)
noncomputable def zko(p:Int×Int):V:=.tup [.int p.1,.int p.2]
noncomputable def arg1{β:Type}(vs:List V)(f:V->Option β):Option β:=match vs with
 |[]=>none
 |x::r=>match r with
  |[]=>f x
  |_::_=>none
theorem zeu{β:Type}{vs:List V}{f:V->Option β}{r:β}(h:arg1 vs f=some r):∃x,vs=[x]/\f x=some r:=by
 cases vs with
 |nil=>cases h
 |cons x l=>cases l with
  |nil=>exact⟨x,rfl,h⟩
  |cons=>cases h
noncomputable def lenV(H:Hp)(x:V):Option (V×Hp):=match x with
 |.lst a=>(H[a]?).map fun xs=>(.int xs.length,H)
 |.tup l=>some (.int l.length,H)
 |.scr l=>some (.int l.length,H)
 |.str s=>if s.length<=sizeLine then some (.int s.length,H) else none
 |_=>none
noncomputable def maxV(H:Hp)(vs:List V):Option (V×Hp):=(zqo vs).bind fun l=>match l with
 |[a,b]=>some (.int (if a<b then b else a),H)
 |[a,b,c]=>some (.int (if(if a<b then b else a)<c then c else(if a<b then b else a)),H)
 |_=>none
noncomputable def minV(H:Hp)(vs:List V):Option (V×Hp):=(zqo vs).bind fun l=>match l with
 |[a,b]=>some (.int (if b<a then b else a),H)
 |_=>none
noncomputable def rngV(H:Hp)(vs:List V):Option (V×Hp):=(zqo vs).bind fun l=>match l with
 |[n]=>if n.natAbs<2^31 then some (.rng 0 n 1,H) else none
 |[a,b]=>if a.natAbs<2^31/\b.natAbs<2^31 then some (.rng a b 1,H) else none
 |[a,b,c]=>if a.natAbs<2^31/\b.natAbs<2^31/\0<c/\c<2^31 then some (.rng a b c,H) else none
 |_=>none
noncomputable def listV(H:Hp)(x:V):Option (V×Hp):=match x with
 |.lst a=>(H[a]?).map fun xs=>(.lst H.length,H++[xs])
 |.rng lo hi st=>if(zdw lo hi st).length<=sizeLine then some (.lst H.length,H++[zdw lo hi st]) else none
 |_=>none
noncomputable def tupleV(H:Hp)(x:V):Option (V×Hp):=match x with
 |.lst a=>(H[a]?).map fun xs=>(.tup xs,H)
 |_=>none
noncomputable def intV(H:Hp)(x:V):Option (V×Hp):=(zlh x).map fun b=>(.int (if b then 1 else 0),H)
noncomputable def bltV(H:Hp)(b:Bl)(vs:List V):Option (V×Hp):=match b with
 |.len=>arg1 vs (lenV H)
 |.max=>maxV H vs
 |.min=>minV H vs
 |.range=>rngV H vs
 |.list=>arg1 vs (listV H)
 |.tuple=>arg1 vs (tupleV H)
 |.all=>arg1 vs fun x=>lst1 H x fun xs=>(zkt xs).map fun l=>(.bool (l.all id),H)
 |.sorted=>arg1 vs fun x=>lst1 H x fun xs=>(zlq xs).bind fun l=>if zn8 l=true then some (.lst H.length,H++[(l.mergeSort zft).map zko]) else none
 |.int=>arg1 vs (intV H)
noncomputable def ztx(H:Hp)(m:Me)(x:V)(vs:List V):Option (V×Hp):=match m with
 |.append=>(zle x).bind fun a=>(H[a]?).bind fun xs=>arg1 vs fun v=>if xs.length<sizeLine then some (.none,H.set a (xs++[v])) else none
 |.extend=>(zle x).bind fun a=>(H[a]?).bind fun xs=>arg1 vs fun v=>lst1 H v fun ys=>if xs.length+ys.length<=sizeLine then some (.none,H.set a (xs++ys)) else none
 |.pop=>(zle x).bind fun a=>(H[a]?).bind fun xs=>(zqo vs).bind fun l=>match l with
  |[]=>(xs.getLast?).map fun v=>(v,H.set a xs.dropLast)
  |i::r=>if 0<=i/\r=[] then(xs[i.toNat]?).map fun v=>(v,H.set a (xs.eraseIdx i.toNat)) else none
 |.join=>(zsf x).bind fun s=>arg1 vs fun v=>lst1 H v fun xs=>(zh5 xs).bind fun l=>if s=⟨#[]⟩/\(l.map Str.length).sum<=sizeLine then some (.str ⟨(l.flatMap fun x=>x.cps.toList).toArray⟩,H) else none
noncomputable def isLst:V->Bool
 |.lst _=>true
 |_=>false
noncomputable def isStr:V->Bool
 |.str _=>true
 |_=>false
noncomputable def zvx(m:Me)(v:V):Bool:=match m with
 |.append=>isLst v
 |.extend=>isLst v
 |.pop=>isLst v
 |.join=>isStr v
noncomputable def kids:List Str:=["BadNet","BadLines","BadThing","BadKind","NoNet"]
noncomputable def kidX:V->Bool
 |.exc c _=>decide (c∈kids)
 |_=>false
noncomputable def kd:V->Option Nat
 |.none=>some 0
 |.bool _=>some 1
 |.int _=>some 2
 |.tup _=>some 4
 |.lst _=>some 5
 |.str _=>some 3
 |.dict0=>some 6
 |_=>none
noncomputable def isiV(v:V)(t:Tc):Option Bool:=match t with
 |.int=>(kd v).map fun n=>n==1||n==2
 |.bool=>(kd v).map (·==1)
 |.tuple=>(kd v).map (·==4)
 |.list=>(kd v).map (·==5)
 |.str=>(kd v).map (·==3)
noncomputable def putV(H:Hp)(a i v:V):Option Hp:=(zle a).bind fun a=>(zjk i).bind fun i=>(H[a]?).bind fun xs=>if 0<=i/\i<xs.length then some (H.set a (xs.set i.toNat v)) else none
noncomputable def zgq(t:Tg)(x:V)(l:Loc):Option Loc:=match t with
 |.one i=>some (l.set i (some x))
 |.two i j=>(zs2 x).bind fun vs=>match vs with
  |[a,b]=>some ((l.set i (some a)).set j (some b))
  |_=>none
noncomputable def zsz:List Nat->List V->Loc->Option Loc
 |[],[],l=>some l
 |i::is,v::vs,l=>zsz is vs (l.set i (some v))
 |_,_,_=>none
abbrev Clo:=Option (Nat×V)
abbrev XPost:=V->Hp->Prop
abbrev CallT:=Bool->Nat->Str->List V->Clo->(V->Hp->Prop)->XPost->Hp->Prop
noncomputable def Opt{α:Type}(o:Option α)(K:α->Prop):Prop:=match o with
 |some a=>K a
 |none=>False
inductive OptI{α:Type}(o:Option α)(K:α->Prop):Prop
 |mk (a:α)(h:o=some a)(k:K a):OptI o K
theorem Opt.inv{α:Type}{o:Option α}{K:α->Prop}(h:Opt o K):OptI o K:=by
 cases o with
 |none=>exact h.elim
 |some a=>exact⟨a,rfl,h⟩
theorem Opt.mk{α:Type}{o:Option α}{K:α->Prop}{a:α}(h:o=some a)(k:K a):Opt o K:=by subst h;exact k
noncomputable def zig(es:List Ex)(A B:Prop):Prop:=match es with
 |[]=>A
 |_::_=>B
noncomputable def zfn(b:Bool)(A B:Prop):Prop:=match b with
 |true=>A
 |false=>B
noncomputable def onQ{α:Type}(q:Bool)(o:Option α):Option α:=match q with
 |true=>o
 |false=>none
theorem zuo{α:Type}{q:Bool}{o:Option α}{a:α}(h:onQ q o=some a):q=true/\o=some a:=by
 cases q with
 |true=>exact⟨rfl,h⟩
 |false=>cases h
noncomputable def zey{σ:Type}(ok:Hp->Prop)(step:V->σ->(σ->Hp->Prop)->Hp->Prop):List V->σ->(σ->Hp->Prop)->Hp->Prop
 |[],a,Q,H=>Q a H
 |x::xs,a,Q,H=>step x a (fun a' H'=>ok H'/\zey ok step xs a' Q H') H
noncomputable def noX:XPost:=fun _ _=>False
noncomputable def zi0(k:Nat)(x y z:V):List V:=
 let p:=fun(i:Nat)=>if i=0 then x else if i=1 then y else z
 [p (k/9),p (k/3%3),p (k%3)]
noncomputable def cloV(k:Clo)(d:Nat)(vs:List V):Option (Nat×List V):=k.bind fun z=>match d with
 |0=>none
 |d+1=>match vs with
  |[x,y]=>some (d,zi0 z.1 x y z.2)
  |_=>none
noncomputable def lstV(H:Hp)(v:V):Option (List V):=(zle v).bind fun a=>H[a]?
noncomputable def attrV(v:V)(x:Str):Option V:=match v with
 |.exc _ w=>if x=Str.ofString "at" then some w else none
 |_=>none
noncomputable def unpV(is:List Nat)(v:V)(l:Loc):Option Loc:=(zs2 v).bind fun vs=>zsz is vs l
noncomputable def zen(Q:Bool->Hp->Prop)(v:V)(H:Hp):Prop:=Opt (zlh v) fun b=>Q b H
noncomputable def zkf(I:Loc->(Bool->Hp->Prop)->Hp->Prop)(W:Loc->(V->Hp->Prop)->Hp->Prop)(t:Tg)(l:Loc)(x:V)(acc:List V)(K:List V->Hp->Prop)(H:Hp):Prop:=
 Opt (zgq t x l) fun l'=>I l' (fun b H=>zfn b (W l' (fun v H=>K (acc++[v]) H) H) (K acc H)) H
mutual
noncomputable def wpE(C:CallT)(q:Bool)(d:Nat)(k:Clo):Ex->Loc->(V->Hp->Prop)->XPost->Hp->Prop
 |.lit v,_,Q,_,H=>Q v H
 |.var i,l,Q,_,H=>Opt (l.getD i none) fun v=>Q v H
 |.tup es,l,Q,E,H=>wpL C q d k es l (fun vs H=>Q (.tup vs) H) E H
 |.list es,l,Q,E,H=>wpL C q d k es l (fun vs H=>Q (.lst H.length) (H++[vs])) E H
 |.dict0,_,Q,_,H=>Q .dict0 H
 |.bin op a b,l,Q,E,H=>wpE C q d k a l (fun x H=>wpE C q d k b l (fun y H=>Opt (binV H op x y) fun p=>Q p.1 p.2) E H) E H
 |.neg a,l,Q,E,H=>wpE C q d k a l (fun x H=>Opt (zjk x) fun i=>Q (.int (-i)) H) E H
 |.not a,l,Q,E,H=>wpE C q d k a l (zen fun b H=>Q (.bool !b) H) E H
 |.cmp a os bs,l,Q,E,H=>wpE C q d k a l (fun x H=>wpC C q d k x os bs l (fun b H=>Q (.bool b) H) E H) E H
 |.and es,l,Q,E,H=>ztq C q d k es l (fun b H=>Q (.bool b) H) E H
 |.or es,l,Q,E,H=>wpOr C q d k es l (fun b H=>Q (.bool b) H) E H
 |.idx a i,l,Q,E,H=>wpE C q d k a l (fun x H=>wpE C q d k i l (fun y H=>Opt (idxV H x y) fun v=>Q v H) E H) E H
 |.slice a lo hi,l,Q,E,H=>wpE C q d k a l (fun x H=>wpE C q d k lo l (fun y H=>wpE C q d k hi l (fun z H=>Opt (zo5 H x y z) fun p=>Q p.1 p.2) E H) E H) E H
 |.rev a,l,Q,E,H=>wpE C q d k a l (fun x H=>Opt (revV H x) fun p=>Q p.1 p.2) E H
 |.call f es,l,Q,E,H=>wpL C q d k es l (fun vs H=>C q d f vs none Q E H) E H
 |.callL f es kk i,l,Q,E,H=>wpL C q d k es l (fun vs H=>Opt (l.getD i none) fun v=>C q d f vs (some (kk,v)) Q E H) E H
 |.callv es,l,Q,E,H=>Opt k fun _=>wpL C q d k es l (fun vs H=>Opt (cloV k d vs) fun p=>C q p.1 (Str.ofString "put_together") p.2 none Q noX H) E H
 |.blt b es,l,Q,E,H=>wpL C q d k es l (fun vs H=>Opt (onQ q (bltV H b vs)) fun p=>Q p.1 p.2) E H
 |.meth m o es,l,Q,E,H=>wpE C q d k o l (fun x H=>zvx m x=true/\wpL C q d k es l (fun vs H=>Opt (ztx H m x vs) fun p=>Q p.1 p.2) E H) E H
 |.isi a t,l,Q,E,H=>wpE C q d k a l (fun x H=>Opt (isiV x t) fun b=>Q (.bool b) H) E H
 |.comp elt t src ifs,l,Q,E,H=>wpE C q d k src l (fun sv H=>Opt (onQ q (srcV H sv)) fun items=>items.length<=sizeLine /\
   zey (okV sv items) (zkf (fun l' Q H=>wpI C q d none ifs l' Q H) (fun l' Q H=>wpE C q d none elt l' Q noX H) t l) items [] (fun acc H'=>Q (.lst H'.length) (H'++[acc])) H) E H
 |.attr a x,l,Q,E,H=>wpE C q d k a l (fun v H=>Opt (attrV v x) fun w=>Q w H) E H
noncomputable def wpL(C:CallT)(q:Bool)(d:Nat)(k:Clo):List Ex->Loc->(List V->Hp->Prop)->XPost->Hp->Prop
 |[],_,Q,_,H=>Q [] H
 |e::es,l,Q,E,H=>wpE C q d k e l (fun v H=>wpL C q d k es l (fun vs H=>Q (v::vs) H) E H) E H
noncomputable def ztq(C:CallT)(q:Bool)(d:Nat)(k:Clo):List Ex->Loc->(Bool->Hp->Prop)->XPost->Hp->Prop
 |[],_,_,_,_=>False
 |e::es,l,Q,E,H=>wpE C q d k e l (zen fun b H=>zig es (Q b H) (zfn b (ztq C q d k es l Q E H) (Q false H))) E H
noncomputable def wpOr(C:CallT)(q:Bool)(d:Nat)(k:Clo):List Ex->Loc->(Bool->Hp->Prop)->XPost->Hp->Prop
 |[],_,_,_,_=>False
 |e::es,l,Q,E,H=>wpE C q d k e l (zen fun b H=>zig es (Q b H) (zfn b (Q true H) (wpOr C q d k es l Q E H))) E H
noncomputable def wpC(C:CallT)(q:Bool)(d:Nat)(k:Clo):V->List Cm->List Ex->Loc->(Bool->Hp->Prop)->XPost->Hp->Prop
 |x,os,e::es,l,Q,E,H=>Opt os.head? fun o=>wpE C q d k e l (fun y H=>Opt (cmpV H o x y) fun b=>zig es (Q b H) (zfn b (wpC C q d k y os.tail es l Q E H) (Q false H))) E H
 |_,_,[],_,_,_,_=>False
noncomputable def wpI(C:CallT)(q:Bool)(d:Nat)(k:Clo):List Ex->Loc->(Bool->Hp->Prop)->Hp->Prop
 |[],_,Q,H=>Q true H
 |e::es,l,Q,H=>wpE C q d k e l (zen fun b H=>zfn b (wpI C q d k es l Q H) (Q false H)) noX H
end
noncomputable def wpT(C:CallT)(q:Bool)(d:Nat)(k:Clo)(e:Ex)(l:Loc)(Q:Bool->Hp->Prop)(E:XPost)(H:Hp):Prop:=wpE C q d k e l (zen Q) E H
abbrev SPost:=Fl->Loc->Hp->Prop
abbrev SX:=V->Loc->Hp->Prop
noncomputable def Then(N:Loc->Hp->Prop)(Q:SPost):SPost:=fun f l H=>match f with
 |.next=>N l H
 |.ret v=>Q (.ret v) l H
noncomputable def zi3(ok:Hp->Prop)(body:V->Loc->SPost->Hp->Prop):List V->SPost->Loc->Hp->Prop
 |[],Q,l,H=>Q .next l H
 |x::xs,Q,l,H=>body x l (Then (fun l' H'=>ok H'/\zi3 ok body xs Q l' H') Q) H
inductive wpWhile(test:Loc->(Bool->Hp->Prop)->Hp->Prop)(body:Loc->SPost->Hp->Prop)(l:Loc)(Q:SPost)(H:Hp):Prop
 |mk (I:Nat->Loc->Hp->Prop)(n:Nat)(h0:I n l H)(step:∀n l H,I n l H->test l (fun b H'=>zfn b (body l (Then (fun l' H''=>∃m,m<n/\I m l' H'') Q) H') (Q .next l H')) H):wpWhile test body l Q H
noncomputable def zf3(n:Int):List V->List V
 |[]=>[]
 |x::xs=>.tup [.int n,x]::zf3 (n+1) xs
noncomputable def zipV:List V->List V->List V
 |x::xs,y::ys=>.tup [x,y]::zipV xs ys
 |_,_=>[]
noncomputable def wpSr(C:CallT)(q:Bool)(d:Nat)(k:Clo):Sr->Loc->(List V->(Hp->Prop)->Hp->Prop)->XPost->Hp->Prop
 |.val e,l,Q,E,H=>wpE C q d k e l (fun v H=>Opt (srcV H v) fun items=>Q items (okV v items) H) E H
 |.enum e,l,Q,E,H=>wpE C q d k e l (fun v H=>Opt (lstV H v) fun items=>Q (zf3 0 items) (okV v items) H) E H
 |.rev e,l,Q,E,H=>wpE C q d k e l (fun v H=>Opt (lstV H v) fun items=>Q items.reverse (okV v items) H) E H
 |.zip a b,l,Q,E,H=>wpE C q d k a l (fun v H=>wpE C q d k b l (fun w H=>Opt (lstV H v) fun x=>Opt (lstV H w) fun y=>Q (zipV x y) (fun H=>okV v x H/\okV w y H) H) E H) E H
noncomputable def atOf(cn:Str)(vs:List V):V:=if cn=Str.ofString "BadNet" then vs.headD .none else .none
mutual
noncomputable def wpS(C:CallT)(q:Bool)(d:Nat)(k:Clo):St->SPost->SX->Loc->Hp->Prop
 |.set i e,Q,E,l,H=>wpE C q d k e l (fun v H=>Q .next (l.set i (some v)) H) (fun x H=>E x l H) H
 |.unp is e,Q,E,l,H=>q=true/\wpE C q d k e l (fun v H=>Opt (unpV is v l) fun l'=>Q .next l' H) (fun x H=>E x l H) H
 |.put o i e,Q,E,l,H=>wpE C q d k e l (fun v H=>wpE C q d k o l (fun a H=>wpE C q d k i l (fun j H=>Opt (putV H a j v) fun H'=>Q .next l H') (fun x H=>E x l H) H) (fun x H=>E x l H) H) (fun x H=>E x l H) H
 |.expr e,Q,E,l,H=>wpE C q d k e l (fun _ H=>Q .next l H) (fun x H=>E x l H) H
 |.ret e,Q,E,l,H=>wpE C q d k e l (fun v H=>Q (.ret v) l H) (fun x H=>E x l H) H
 |.ite t a b,Q,E,l,H=>wpE C q d k t l (zen fun c H=>zfn c (wpSs C q d k a Q E l H) (wpSs C q d k b Q E l H)) (fun x H=>E x l H) H
 |.whil t b,Q,_,l,H=>q=true/\wpWhile (fun l Q H=>wpT C q d k t l Q noX H) (fun l Q H=>wpSs C q d k b Q (fun _ _ _=>False) l H) l Q H
 |.loop t s b,Q,E,l,H=>q=true/\wpSr C q d k s l (fun items ok H=>zi3 ok (fun x l Q H=>Opt (zgq t x l) fun l'=>wpSs C q d k b Q E l' H) items Q l H) (fun x H=>E x l H) H
 |.rais cn es,_,E,l,H=>q=true/\wpL C q d k es l (fun vs H=>E (.exc cn (atOf cn vs)) l H) noX H
 |.tri b i h,Q,_,l,H=>q=true/\wpSs C q d k b Q (fun x l' H=>kidX x=true/\wpSs C false d k h (fun f l'' H=>Q f (l''.set i none) H) (fun _ _ _=>False) (l'.set i (some x)) H) l H
 |.stuck,_,_,_,_=>False
noncomputable def wpSs(C:CallT)(q:Bool)(d:Nat)(k:Clo):List St->SPost->SX->Loc->Hp->Prop
 |[],Q,_,l,H=>Q .next l H
 |s::ss,Q,E,l,H=>wpS C q d k s (Then (wpSs C q d k ss Q E) Q) E l H
end
end Bn
namespace Bn
open PySem
structure Res where
 fr:Bool
 n:Nat
 t:List (Str×Nat)
noncomputable def Res.lookup(r:Res)(x:Str):Option Nat:=r.t.lookup x
structure PlainEnv(env:Env):Prop where
 g0:env.scope.kind≠.module
 g1:env.scope.isGenerator=false
 g2:env.scope.isCoroutine=false
 g3:env.builtins=builtinsNs
 g4:env.globals=mainGlobals
inductive EnvOk(c:Cx)(φ:List Addr)(h:Heap)(env:Env):Prop
 |mk (pl:PlainEnv env)(L:Addr)(o:Obj)(es:Array DictEntry)(n:Nat)(h4:env.frame=some L)(h5:c.h0.get? L=none)(h6:L∉φ)(h7:h.get? L=some o)(h8:o.data=.dict es n)(h9:o.cls=.type "frame"):EnvOk c φ h env
structure OkA(c:Cx)(A:Around)(q:Bool)(d:Nat)(φ:List Addr)(h:Heap):Prop where
 dep:A.depth+d<=890
 un:A.units+10*d<=9000
 hd:q=true->A.handled=none
 fr:∃l,A.frames=some l/\∀env∈l,EnvOk c φ h env
structure OkF(c:Cx)(A:Around)(q:Bool)(d:Nat)(φ:List Addr)(h:Heap):Prop extends OkA c A q d φ h where
 ne:A.frames≠some []
theorem OkA.mono{c:Cx}{A:Around}{q:Bool}{d:Nat}{X φ φ':List Addr}{s s':Shared}(h:OkA c A q d φ s.heap)(e:Ext X φ s φ' s'):OkA c A q d φ' s'.heap where
 dep:=h.dep
 un:=h.un
 hd:=h.hd
 fr:=by
  obtain⟨l,h1,h2⟩:=h.fr
  refine⟨l,h1,fun env he=>?_⟩
  obtain⟨h3,L,o,es,n,h4,h5,h6,h7,h8,h9⟩:=h2 env he
  obtain⟨o',es',n',g1,g2,g3⟩:=e.dict L o es n h7 h6 h8
  exact⟨h3,L,o',es',n',h4,h5,e.notin h7 h6,g1,g2,g3.trans h9⟩
theorem OkF.mono{c:Cx}{A:Around}{q:Bool}{d:Nat}{X φ φ':List Addr}{s s':Shared}(h:OkF c A q d φ s.heap)(e:Ext X φ s φ' s'):OkF c A q d φ' s'.heap:=⟨h.toOkA.mono e,h.ne⟩
inductive SlotC(c:Cx)(φ:List Addr)(h:Heap)(env:Env)(x:Str):Option V->Prop
 |yes (v:V)(ca:Addr)(r:Value)(h1:env.cells.lookup x=some ca)(h2:h.IsCell ca (some r))(h3:Rep c φ h v r):SlotC c φ h env x (some v)
 |no (ca:Addr)(h1:env.cells.lookup x=some ca)(h2:h.IsCell ca none):SlotC c φ h env x none
inductive SlotL(c:Cx)(φ:List Addr)(h:Heap)(m:Option Value):Option V->Prop
 |yes (v:V)(r:Value)(h1:m=some r)(h2:Rep c φ h v r):SlotL c φ h m (some v)
 |no:SlotL c φ h m none
noncomputable def zsn(k:Option NameKind)(L C:Prop):Prop:=match k with
 |some .local=>L
 |some .cell=>C
 |some .free=>C
 |_=>False
noncomputable def zhc(c:Cx)(φ:List Addr)(h:Heap)(env:Env)(m:Str->Option Value)(x:Str)(ov:Option V):Prop:=zsn (env.kindOf x) (SlotL c φ h (m x) ov) (SlotC c φ h env x ov)
theorem zsn.imp{k:Option NameKind}{L C L' C':Prop}(h:zsn k L C)(hL:k=some .local->L->L')(hC:C->C'):zsn k L' C':=by
 cases k with
 |none=>exact h.elim
 |some k=>cases k<;>first |exact hL rfl h |exact hC h |exact h.elim
inductive CloRep(c:Cx)(φ:List Addr)(h:Heap)(B:Nat)(kk:Nat)(z:V)(fv:Value):Prop
 |mk (a:Addr)(o:Obj)(fd:FuncData)(nm:Str)(ca:Addr)(oc:Obj)(rv:Value)(hr:fv=.ref a)(ha:a∉φ)(ho:h.get? a=some o)(hc:o.cls=.type "function")(hd:o.data=.func fd)(hk:c.lam kk fd nm)
   (hcl:fd.closure=[(nm,ca)]) (hca:ca∉φ) (hlt:ca<B) (hoc:h.get? ca=some oc) (hcc:oc.cls=.type "cell") (hdc:oc.data=.cell (some rv)) (hx:Rep c φ h z rv)
   (h0:c.h0.get? ca=none) (cc:Addr) (hcd:fd.code=.ref cc) (hco:CodeO h cc fd.qualname) (hcφ:cc∉φ):CloRep c φ h B kk z fv
noncomputable def zcj:Str:=Str.ofString "join"
inductive JoinAt(c:Cx)(env:Env)(m:Str->Option Value)(kk:Nat)(z:V)(φ:List Addr)(h:Heap):Prop
 |mk (h1:env.kindOf zcj=some .local)(fv:Value)(h2:m zcj=some fv)(h3:CloRep c φ h env.locals kk z fv):JoinAt c env m kk z φ h
inductive RoomAt(env:Env)(fr:Bool)(h:Heap)(m:Str->Option Value):Prop
 |mk (ns:h.Ns env.locals m)(o:Obj)(ho:h.get? env.locals=some o)(hc:(o.cls=.type "frame"/\fr=true)\/(o.cls=.type "dict"/\m (Str.ofString "at")=none/\fr=false)):RoomAt env fr h m
theorem RoomAt.ns{env:Env}{fr:Bool}{h:Heap}{m:Str->Option Value}(q:RoomAt env fr h m):h.Ns env.locals m:=let⟨n,_,_,_⟩:=q;n
inductive NsAt(c:Cx)(env:Env)(res:Res)(k:Clo)(loc:Loc)(φ:List Addr)(h:Heap):Prop
 |mk (m:Str->Option Value)(room:RoomAt env res.fr h m)(slot:∀x i,res.lookup x=some i->zhc c φ h env m x (loc.getD i none))(clo:∀kk z,k=some (kk,z)->JoinAt c env m kk z φ h):NsAt c env res k loc φ h
inductive CellAt(c:Cx)(φ:List Addr)(h:Heap)(ca:Addr):Prop
 |mk (h1:ca∉φ)(h2:c.h0.get? ca=none)(o:Obj)(h3:h.get? ca=some o)(h4:o.cls=.type "cell")(h5:∃r,o.data=.cell r):CellAt c φ h ca
theorem CellAt.out{c:Cx}{φ:List Addr}{h:Heap}{ca:Addr}(q:CellAt c φ h ca):ca∉φ/\c.h0.get? ca=none:=let⟨h1,h2,_,_,_,_⟩:=q;⟨h1,h2⟩
structure FSim(c:Cx)(env:Env)(res:Res)(k:Clo)(loc:Loc)(φ:List Addr)(h:Heap):Prop where
 fn:env.scope.kind=.function
 gl:env.globals=mainGlobals
 bl:env.builtins=builtinsNs
 ns:NsAt c env res k loc φ h
 len:res.n<=loc.length
 Lφ:env.locals∉φ
 L0:c.h0.get? env.locals=none
 cells:∀x ca,env.cells.lookup x=some ca->CellAt c φ h ca
section
variable {c:Cx}{φ φ':List Addr}{s s':Shared}
theorem Ns_slots{h h':Heap}{L:Addr}{m:Str->Option Value}(hn:h.Ns L m)(hk:∀o,h.get? L=some o->∃sl,h'.get? L=some { o with slots:=sl }):h'.Ns L m:=by
 obtain⟨o,es,ep,ho,hd,r⟩:=hn
 obtain⟨sl,h1⟩:=hk o ho
 exact⟨_,es,ep,h1,hd,r⟩
structure Off(env:Env)(X:List Addr)(s:Shared):Prop where
 loc:env.locals∉X
 cells:∀x ca,env.cells.lookup x=some ca->ca∉X
 clo:∀ca o,s.heap.get? ca=some o->o.cls=.type "cell"->ca<env.locals->ca∉X
theorem Off.nil{env:Env}{s:Shared}:Off env [] s:=⟨by simp,by simp,by simp⟩
theorem ztm{X:List Addr}{cc:Addr}{q:Str}{h h':Heap}(e:Kp X φ h φ' h')(hX:OwnX c X h)(k:CodeO h cc q)(hn:cc∉φ):CodeO h' cc q:=by
 obtain⟨o,vs,t,h1,h2,h3,h4⟩:=k
 exact⟨o,vs,t,zp0 e hX h1 hn (zlm h2 rfl),h2,h3,h4⟩
theorem CloRep.mono{X:List Addr}{B:Nat} {kk z fv}(e:Kp X φ s.heap φ' s'.heap)(hX:OwnX c X s.heap)(hB:∀ca o,s.heap.get? ca=some o->o.cls=.type "cell"->ca<B->ca∉X)(h:CloRep c φ s.heap B kk z fv):CloRep c φ' s'.heap B kk z fv:=by
 obtain⟨a,o,fd,nm,ca,oc,rv,hr,ha,ho,hc,hd,hk,hcl,hca,hlt,hoc,hcc,hdc,hx,h0,cc,hcd,hco,hcφ⟩:=h
 exact⟨a,o,fd,nm,ca,oc,rv,hr,e.notin ho ha,zp0 e hX ho ha (zlm hc rfl),hc,hd,hk,hcl,e.notin hoc hca,hlt,
  e.keep ca oc hoc hca (hB ca oc hoc hcc hlt) (by rw[hcc];decide),hcc,hdc,Rep.mono e hX hx,h0,cc,hcd,ztm e hX hco hcφ,let⟨_,_,_,g1,_,_,_⟩:=hco;e.notin g1 hcφ⟩
theorem SlotL.mono{X:List Addr}{m:Option Value}{ov:Option V}(e:Kp X φ s.heap φ' s'.heap)(hX:OwnX c X s.heap):SlotL c φ s.heap m ov->SlotL c φ' s'.heap m ov
 |.yes v r h1 h2=>.yes v r h1 (Rep.mono e hX h2)
 |.no=>.no
theorem zxj{X:List Addr}{ca:Addr}{r:Option Value}(e:Kp X φ s.heap φ' s'.heap)(k0:ca∉X)(k1:CellAt c φ s.heap ca)(h:s.heap.IsCell ca r):s'.heap.IsCell ca r:=by
 obtain⟨k1,k2,o',k3,k4⟩:=k1
 obtain⟨o,h2,h2'⟩:=h
 cases zaa (h2.symm.trans k3)
 exact⟨_,e.keep ca _ h2 k1 k0 (by rw[k4];decide),h2'⟩
theorem SlotC.imp{h h':Heap}{env:Env}{x:Str}{ov:Option V}(hc:∀ca r,env.cells.lookup x=some ca->h.IsCell ca r->h'.IsCell ca r)(hr:∀v r,Rep c φ h v r->Rep c φ' h' v r):SlotC c φ h env x ov->SlotC c φ' h' env x ov
 |.yes v ca r h1 h2 h3=>.yes v ca r h1 (hc ca _ h1 h2) (hr v r h3)
 |.no ca h1 h2=>.no ca h1 (hc ca _ h1 h2)
theorem SlotC.mono{X:List Addr}{env:Env}{x:Str}{ov:Option V}(e:Kp X φ s.heap φ' s'.heap)(hX:OwnX c X s.heap)(hc:∀x ca,env.cells.lookup x=some ca->ca∉X/\CellAt c φ s.heap ca)(h:SlotC c φ s.heap env x ov):SlotC c φ' s'.heap env x ov:=
 h.imp (fun ca _ h1 h2=>zxj e (hc x ca h1).1 (hc x ca h1).2 h2) fun _ _ h=>Rep.mono e hX h
theorem zhc.mono{X:List Addr}{env:Env}{m:Str->Option Value}{x:Str}{ov:Option V}(e:Kp X φ s.heap φ' s'.heap)(hX:OwnX c X s.heap)(hc:∀x ca,env.cells.lookup x=some ca->ca∉X/\CellAt c φ s.heap ca)
  (h:zhc c φ s.heap env m x ov):zhc c φ' s'.heap env m x ov:=zsn.imp h (fun _ h=>SlotL.mono e hX h) (SlotC.mono e hX hc)
theorem FSim.lcls{env:Env}{res:Res}{k:Clo}{loc:Loc}{h:Heap}(F:FSim c env res k loc φ h){o:Obj}(ho:h.get? env.locals=some o):o.cls≠.none:=fun q=>by
 obtain⟨m,⟨_,o',h3,h4⟩,_,_⟩:=F.ns
 obtain rfl:=zaa (ho.symm.trans h3)
 rcases h4 with h4 |h4
 ·rw[h4.1] at q;cases q
 ·rw[h4.1] at q;cases q
theorem FSim.off{X:List Addr}{env:Env}{res:Res}{k:Clo}{loc:Loc}(F:FSim c env res k loc φ s.heap)(e:Kp X φ s.heap φ' s'.heap)(hX:OwnX c X s.heap)(hO:Off env X s)
  (hL:∀o,s.heap.get? env.locals=some o->∃sl,s'.heap.get? env.locals=some { o with slots:=sl }):FSim c env res k loc φ' s'.heap where
 fn:=F.fn
 gl:=F.gl
 bl:=F.bl
 len:=F.len
 ns:=by
  obtain⟨m,⟨hn,o,ho,hc⟩,h1,h2⟩:=F.ns
  obtain⟨sl,h'⟩:=hL o ho
  refine⟨m,⟨Ns_slots hn hL,_,h',hc⟩,fun x i hx=>(h1 x i hx).mono e hX fun x ca h=>⟨hO.cells x ca h,F.cells x ca h⟩,fun kk z hk=>?_⟩
  obtain⟨h3,fv,h4,h5⟩:=h2 kk z hk
  exact⟨h3,fv,h4,h5.mono e hX hO.clo⟩
 Lφ:=by
  obtain⟨m,⟨_,o,ho,_⟩,_⟩:=F.ns
  exact e.notin ho F.Lφ
 L0:=F.L0
 cells x ca h:=by
  obtain⟨h1,h2,o,h3,h4,h5⟩:=F.cells x ca h
  exact⟨e.notin h3 h1,h2,o,e.keep ca o h3 h1 (hO.cells x ca h) (by rw[h4];decide),h4,h5⟩
theorem FSim.mono{env:Env}{res:Res}{k:Clo}{loc:Loc}(F:FSim c env res k loc φ s.heap)(e:Ext [] φ s φ' s'):FSim c env res k loc φ' s'.heap:=
 F.off e.toKp OwnX.nil Off.nil fun o ho=>e.frame _ o ho F.Lφ (by simp) (F.lcls ho)
end
inductive Out(c:Cx)(φ:List Addr)(s:Shared)(Q:V->Hp->Prop)(r:Value)(s':Shared):Prop
 |mk (φ':List Addr)(H':Hp)(v:V)(e:Ext [] φ s φ' s')(S:Sim c φ' H' s')(R:Rep c φ' s'.heap v r)(q:Q v H'):Out c φ s Q r s'
inductive XRep(c:Cx)(φ:List Addr)(s:Shared)(h:Heap)(x:V)(e:Value):Prop
inductive OutX(c:Cx)(φ:List Addr)(s:Shared)(E:XPost)(e:Value)(s':Shared):Prop
 |mk (φ':List Addr)(H':Hp)(x:V)(ex:Ext [] φ s φ' s')(S:Sim c φ' H' s')(R:XRep c φ' s s'.heap x e)(q:E x H'):OutX c φ s E e s'
theorem Ext.fresh{c:Cx}{X φ φ₁:List Addr}{H:Hp}{s s₁:Shared}(e:Ext X φ s φ₁ s₁)(S:Sim c φ₁ H s₁){b:Addr}(hb:s₁.heap.get? b=none):s.heap.get? b=none:=by
 cases q:s.heap.get? b with
 |none=>rfl
 |some o=>
  by_cases hφ:b∈φ
  ·obtain⟨o',h1,_⟩:=S.isList (e.pre.subset hφ)
   rw[hb] at h1;cases h1
  ·by_cases hX:b∈X
   ·obtain⟨o',h1⟩:=e.alive b o q hX
    rw[hb] at h1;cases h1
   ·obtain⟨o',h1⟩:=e.live b o q hφ hX
    rw[hb] at h1;cases h1
theorem XRep.lift{c:Cx}{X φ φ₁ φ₂:List Addr}{H:Hp}{s s₁:Shared}{h:Heap}{x:V}{r:Value}(e:Ext X φ s φ₁ s₁)(S:Sim c φ₁ H s₁)(q:XRep c φ₂ s₁ h x r):XRep c φ₂ s h x r:=nomatch q
theorem Out.lift{c:Cx}{φ φ₁:List Addr}{s s₁ s₂:Shared}{Q:V->Hp->Prop}{r:Value}(e:Ext [] φ s φ₁ s₁)(h:Out c φ₁ s₁ Q r s₂):Out c φ s Q r s₂:=
 let⟨φ',H',v,e',S,R,hq⟩:=h;⟨φ',H',v,e.trans e',S,R,hq⟩
theorem OutX.lift{c:Cx}{φ φ₁:List Addr}{H:Hp}{s s₁ s₂:Shared}{E:XPost}{r:Value}(e:Ext [] φ s φ₁ s₁)(S₁:Sim c φ₁ H s₁)(h:OutX c φ₁ s₁ E r s₂):OutX c φ s E r s₂:=
 let⟨φ',H',v,e',S,R,hq⟩:=h;⟨φ',H',v,e.trans e',S,R.lift e S₁,hq⟩
theorem Out.mono{c:Cx}{φ:List Addr}{s s₂:Shared}{Q Q':V->Hp->Prop}{r:Value}(hq:∀v H,Q v H->Q' v H)(h:Out c φ s Q r s₂):Out c φ s Q' r s₂:=
 let⟨φ',H',v,e',S,R,h⟩:=h;⟨φ',H',v,e',S,R,hq _ _ h⟩
theorem OutX.mono{c:Cx}{φ:List Addr}{s s₂:Shared}{Q Q':XPost}{r:Value}(hq:∀v H,Q v H->Q' v H)(h:OutX c φ s Q r s₂):OutX c φ s Q' r s₂:=
 let⟨φ',H',v,e',S,R,h⟩:=h;⟨φ',H',v,e',S,R,hq _ _ h⟩
theorem OutX.no{c:Cx}{φ:List Addr}{s s₂:Shared}{P:Prop}{r:Value}(h:OutX c φ s noX r s₂):P:=
 let⟨_,_,_,_,_,_,h⟩:=h;h.elim
noncomputable def CloArg(c:Cx)(φ:List Addr)(h:Heap):Clo->List Value->Prop
 |none,l=>l=[]
 |some (kk,z),l=>∃fv,l=[fv]/\CloRep c φ h h.objs.size kk z fv
noncomputable def Ends(c:Cx)(φ:List Addr)(s:Shared)(Q:V->Hp->Prop)(E:XPost)(r:Result)(s':Shared):Prop:=
 match r with
 |.ok (.ret v)=>Out c φ s Q v s'
 |.ok _=>False
 |.error e=>OutX c φ s E e s'
inductive CallsI(c:Cx)(q:Bool)(d:Nat)(f:Str)(vs:List V)(k:Clo)(Q:V->Hp->Prop)(E:XPost)(H:Hp):Prop
 |mk (a:Addr)(o:Obj)(fd:FuncData)(g1:c.g f=some (.ref a))(g2:c.h0.get? a=some o)(g3:o.data=.func fd)
   (g4:∀A φ s args extra,OkA c A q d φ s.heap->Sim c φ H s->RepL c φ s.heap vs args->CloArg c φ s.heap k extra->codeAny (model c.prog c.w) A (.call (.ref a) ⟨args++extra,[]⟩) (Ends c φ s Q E) s):CallsI c q d f vs k Q E H
noncomputable def Calls(c:Cx):CallT:=fun q d f vs k Q E H=>CallsI c q d f vs k Q E H
noncomputable def EndQ(Q:V->Hp->Prop):SPost:=fun f _ H=>match f with
 |.ret v=>Q v H
 |.next=>Q .none H
noncomputable def EndX(E:XPost):SX:=fun x _ H=>E x H
noncomputable def zch(c:Cx)(env:Env)(res:Res)(e:Expr)(x:Ex):Prop:=
 ∀A q d k loc φ H s Q E,OkF c A q d φ s.heap->FSim c env res k loc φ s.heap->Sim c φ H s->wpE (Calls c) q d k x loc Q E H->
  wpAny (model c.prog c.w) A (eval e env) (Out c φ s Q) (OutX c φ s E) s
noncomputable def Does(c:Cx)(A:Around)(φ:List Addr)(s:Shared)(m:Sem Value)(v:V)(H':Hp):Prop:=
 ∀E:Value->Shared->Prop,wpAny (model c.prog c.w) A m (Out c φ s fun x H=>x=v/\H=H') E s
theorem Does.use{c:Cx}{A:Around}{φ φ₀:List Addr}{s s₀:Shared}{m:Sem Value}{v:V}{H':Hp}{Q:V->Hp->Prop}{E:Value->Shared->Prop}(h:Does c A φ s m v H')(e:Ext [] φ₀ s₀ φ s)(hq:Q v H') :
  wpAny (model c.prog c.w) A m (Out c φ₀ s₀ Q) E s:=
 wpAny_mono (h E) (fun _ _ h=>Out.lift e (Out.mono (fun _ _ ⟨h1,h2⟩=>by rw[h1,h2];exact hq) h)) fun _ _ h=>h
theorem Out.at{c:Cx}{φ:List Addr}{H:Hp}{s:Shared}{v:V}{r:Value}{t:Nat}{Q:V->Hp->Prop}(S:Sim c φ H s)(R:Rep c φ s.heap v r)(hq:Q v H):Out c φ s Q r { s with toks:=t }:=
 ⟨φ,H,v,Ext.of_heap rfl rfl,S.tok t,R,hq⟩
theorem Out.at'{c:Cx}{φ:List Addr}{H:Hp}{s:Shared}{v:V}{r:Value}{Q:V->Hp->Prop}(S:Sim c φ H s)(R:Rep c φ s.heap v r)(hq:Q v H):Out c φ s Q r s:=
 ⟨φ,H,v,Ext.refl,S,R,hq⟩
theorem Out.eq{c:Cx}{φ:List Addr}{s s':Shared}{v:V}{H':Hp}{r:Value}{Q:V->Hp->Prop}(h:Out c φ s (fun x H=>x=v/\H=H') r s')(hq:Q v H'):Out c φ s Q r s':=
 Out.mono (fun _ _ h=>by rw[h.1,h.2];exact hq) h
theorem Out.same{c:Cx}{φ:List Addr}{H:Hp}{s:Shared}{v:V}{r:Value}{t:Nat}(S:Sim c φ H s)(R:Rep c φ s.heap v r):Out c φ s (fun x H'=>x=v/\H'=H) r { s with toks:=t }:=
 ⟨φ,H,v,Ext.of_heap rfl rfl,S.tok t,R,rfl,rfl⟩
theorem Out.same'{c:Cx}{φ:List Addr}{H:Hp}{s:Shared}{v:V}{r:Value}(S:Sim c φ H s)(R:Rep c φ s.heap v r):Out c φ s (fun x H'=>x=v/\H'=H) r s:=
 ⟨φ,H,v,Ext.refl,S,R,rfl,rfl⟩
end Bn
namespace Bn
open PySem PyProof.Rows
structure Cx.Ok(c:Cx):Prop where
 lim:c.h0.NoLimit
 gl:c.h0.Ns mainGlobals c.g
 bl:c.h0.Ns builtinsNs c.b
 seer:c.h0.NoSeer
 tree:c.prog.given.tree=none
noncomputable def Op.real:Op->Operator
 |.add=>.Add |.sub=>.Sub |.mul=>.Mult |.div=>.FloorDiv |.mod=>.Mod
section
variable {c:Cx}{A:Around}{q:Bool}{d:Nat}{φ:List Addr}{H H':Hp}{s:Shared}
theorem Sim.lim(S:Sim c φ H s)(O:c.Ok):s.heap.NoLimit:=O.lim.keeps S.stays
theorem OkF.seer(O:c.Ok)(hA:OkF c A q d φ s.heap)(S:Sim c φ H s):SeerAt (model c.prog c.w) A s.heap:=by
 obtain⟨l,h1,h2⟩:=hA.fr
 cases l with
 |nil=>exact absurd h1 hA.ne
 |cons env l=>
  obtain⟨⟨_,g1,g2,g3,g4⟩,_⟩:=h2 env zae
  exact SeerAt.of (O.seer.keeps S.stays) O.tree h1 g1 g2 g3 g4
abbrev lobj (vs:Array Value) (n:Nat):Obj:={ cls:=.type "list",data:=.seq vs n }
inductive Got(c:Cx)(φ:List Addr)(h:Heap)(i:Nat)(xs:List V)(r:Value):Prop
 |mk (a:Addr)(vs:Array Value)(n:Nat)(hr:r=.ref a)(ha:φ[i]?=some a)(ho:h.get? a=some (lobj vs n))(hl:RepL c φ h xs vs.toList)(hz:xs.length<=sizeLine)(z:vs.size=xs.length):Got c φ h i xs r
theorem Sim.getP(S:Sim c φ H s){i:Nat}{r:Value}{xs:List V}(R:Rep c φ s.heap (.lst i) r)(h:H[i]?=some xs):Got c φ s.heap i xs r:=by
 obtain⟨a,hr,ha⟩:=R
 obtain⟨a',⟨cls,dd,data,sl⟩,vs,n,h1,h2,h3,h4,h5,h6,h7,h8⟩:=S.lists i xs h
 obtain rfl:=zaa (ha.symm.trans h1)
 dsimp only at h3 h4 h7 h8
 subst h3 h4 h7 h8
 exact⟨a,vs,n,hr,ha,h2,h5,h6,zbe.symm.trans h5.length⟩
theorem zdi{a:Addr}{vs:Array Value}{n:Nat}{h:Heap}(ho:h.get? a=some (lobj vs n)):h.IsList a vs:=⟨_,ho,rfl,n,rfl⟩
theorem zoh{l:List Addr}(h:l.Nodup){i j:Nat}{a:Addr}(hi:l[i]?=some a)(hj:l[j]?=some a):i=j:=by
 obtain⟨h1,e1⟩:=zbi.mp hi
 obtain⟨h2,e2⟩:=zbi.mp hj
 rcases Nat.lt_trichotomy i j with hlt |hlt |hlt
 ·exact absurd (e1.trans e2.symm) (List.pairwise_iff_getElem.mp h i j h1 h2 hlt)
 ·exact hlt
 ·exact absurd (e2.trans e1.symm) (List.pairwise_iff_getElem.mp h j i h2 h1 hlt)
theorem Sim.put(S:Sim c φ H s){i:Nat}{a:Addr}{xs:List V}{vs:Array Value}{n:Nat}{h':Heap}(ha:φ[i]?=some a)(hs:Heap.SameBut a s.heap h')(hn:h'.get? a=some (lobj vs n))(hr:RepL c φ s.heap xs vs.toList)(hz:xs.length<=sizeLine) :
  Ext [] φ s φ { s with heap:=h' }/\Sim c φ (H.set i xs) { s with heap:=h' }:=by
 have ham:a∈φ:=zax ha
 have e:Ext [] φ s φ { s with heap:=h' }:=Ext.of_sameBut (s':={ s with heap:=h' }) hs ham (by simp) rfl
 refine⟨e,⟨fun b o h=>?_,S.fresh,S.nodup,by simp[S.len],fun j ys h=>?_,S.gens,fun x hx=>(S.tab x hx).mono (fun b ps hb=>(hs.2 b fun q=>by obtain⟨o,h1,h2⟩:=S.isList ham;rw[q,h1] at hb;cases hb;cases h2).trans hb) fun b o hb hc=>(hs.2 b fun q=>by obtain⟨o,h1,h2⟩:=S.isList ham;rw[q,h1] at hb;cases hb;rw[hc] at h2;exact absurd h2 (by decide)).trans hb⟩⟩
 ·exact(hs.2 b fun q=>by rw[q,S.fresh a ham] at h;cases h).trans (S.stays b o h)
 ·by_cases hji:j=i
  ·subst hji
   have hlt:j<H.length:=by rw[<- S.len];exact(zbi.mp ha).1
   rw[zb0 hlt] at h
   cases h
   exact⟨a,_,vs,n,ha,hn,rfl,rfl,RepL.mono e.toKp OwnX.nil hr,hz,rfl,rfl⟩
  ·rw[zb1 (Ne.symm hji)] at h
   obtain⟨b,o,us,k,h1,h2,h3,h4,h5,h6⟩:=S.lists j ys h
   refine⟨b,o,us,k,h1,(hs.2 b fun q=>hji (zoh S.nodup (q▸h1) ha)).trans h2,h3,h4,RepL.mono e.toKp OwnX.nil h5,h6⟩
theorem zj7(S:Sim c φ H s){xs:List V}{vs:List Value}(hr:RepL c φ s.heap xs vs)(hz:xs.length<=sizeLine) :
  Out c φ s (fun x H'=>x=.lst H.length/\H'=H++[xs]) (.ref s.heap.objs.size) { s with heap:=s.heap.push { cls:=.type "list",data:=.seq vs.toArray } }:=by
 obtain⟨e,S'⟩:=S.newList hr hz rfl
 refine⟨_,_,.lst H.length,e,S',?_,rfl,rfl⟩
 exact LstAt.mk _ rfl (by rw[zbv (zbc S.len)];simp[S.len])
theorem zfa(S:Sim c φ H s){xs:List V}{vs:Array Value}(hr:RepL c φ s.heap xs vs.toList)(hz:xs.length<=sizeLine) :
  Out c φ s (fun x H'=>x=.lst H.length/\H'=H++[xs]) (.ref s.heap.objs.size) { s with heap:=s.heap.push { cls:=.type "list",data:=.seq vs } }:=by
 have:=zj7 S hr hz
 simpa using this
theorem zjh(S:Sim c φ H s){xs:List V}{vs:Array Value}(hr:RepL c φ s.heap xs vs.toList)(hz:xs.length<=sizeLine){n:Nat} :
  Out c φ s (fun x H'=>x=.tup xs/\H'=H) (.ref s.heap.objs.size) { s with heap:=s.heap.push { cls:=.type "tuple",data:=.seq vs n } }:=by
 refine⟨φ,H,.tup xs,Ext.push,S.push _,?_,rfl,rfl⟩
 exact TupAt.mk _ _ vs n rfl S.new (Heap.get?_push_size _ rfl) rfl rfl hz (RepL.mono (Ext.push (X:=[])).toKp OwnX.nil hr)
theorem zl4{a:Int}(h:small a=true):Builtin.Int.intBits a<=64:=by
 simp only[small,decide_eq_true_eq] at h
 unfold Builtin.Int.intBits
 split
 ·exact za2 _
 ·rename_i h0
  have h1:a≠0:=by simpa using h0
  have:a.natAbs.log2<63:=(Nat.log2_lt (by exact Ar.ar2 [_] [_] 0x7490a50006100c030800000084294a000c202006100804080000804049085294001840400c20100810000100804294001840300c2000000 (Y8 (Y2 V0 J0) J0) (Y8 (Y5 V0 J0) J0) (Y7 (Y6 (Y5 (Y4 V0 J0) V0) (Y3 J0 V0)) (Y6 (Y5 (Y4 V0 J0) (Y3 V0 J0)) (Y3 V0 J0))) h1 (Ar.na _))).mpr h
  exact Ar.ar1 [_] [] 0xa5000610000308020 (Y0 (Y0 V0 J1) (.l 64)) (Y1 V0 (.l 63)) this
theorem zl9{α:Type}(l:List α)(n:Nat):(rep l n).length=n*l.length:=by
 induction n with
 |zero=>exact(Nat.zero_mul _).symm
 |succ n ih=>rw[zrz,zao,ih,Nat.succ_mul,Nat.add_comm]
theorem RepL.rep{h:Heap}{l:List V}{rs:List Value}(hr:RepL c φ h l rs):∀n,RepL c φ h (rep l n) (rep rs n)
 |0=>rfl
 |n+1=>hr.append (RepL.rep hr n)
theorem zw9(vs:Array Value)(n:Nat):∀acc:Array Value,(List.foldl (fun x1 x2=>x1++x2) acc (List.replicate n vs)).toList=acc.toList++rep vs.toList n:=by
 induction n with
 |zero=>exact fun acc=>(za9 _).symm
 |succ n ih=>intro acc;rw[List.replicate_succ,List.foldl_cons,ih,zrz];simp
theorem add_lst(S:Sim c φ H s){i j:Nat}{l1 l2:List V}{x y:Value} {E}(R1:Rep c φ s.heap (.lst i) x)(R2:Rep c φ s.heap (.lst j) y)(e1:H[i]?=some l1)(e2:H[j]?=some l2)(hz:l1.length+l2.length<=sizeLine) :
  wpAny (model c.prog c.w) A (binaryOp .Add x y) (Out c φ s fun v H'=>v=.lst H.length/\H'=H++[l1++l2]) E s:=by
 have hsl:sizeLine=2^24:=rfl
 obtain⟨a1,vs,n,rfl,_,ho,hr,_,z1⟩:=S.getP R1 e1
 obtain⟨a2,ws,n2,rfl,_,ho2,hr2,_,z2⟩:=S.getP R2 e2
 refine concat_meets ⟨_,ho,rfl⟩ ⟨_,ho2,rfl⟩ noFill_list_add seq_list_add PySem.F.slot_list_add PySem.F.entry_list_add (PySem.F.args_list_add_2 _ _) (list_addW a1 a2 vs ws n n2 none none #[] #[] (by exact Ar.ar3 [_,_,_,_,_] [] 0xa5294001840000c20080610080308060 (Y0 (Y0 V0 V1) V2) (Y0 (Y0 V3 V4) V2) (Y2 V0 V3) (Y2 V1 V4) hz z1 z2)) ⟨ho,ho2,?_⟩
 exact zfa S (by rw[Array.toList_append];exact hr.append hr2) (by rw[zao];exact hz)
abbrev DoesP (c:Cx) (A:Around) (φ:List Addr) (s:Shared) (m:Sem Value) (p:V×Hp):Prop:=Does c A φ s m p.1 p.2
theorem do_add(S:Sim c φ H s){v w:V}{x y:Value}{p:V×Hp}(R1:Rep c φ s.heap v x)(R2:Rep c φ s.heap w y)(e:addV H v w=some p):DoesP c A φ s (binaryOp .Add x y) p:=by
 intro E
 cases v with
 |int a=>
  obtain⟨b,hb,rfl⟩:=zaj.mp e
  obtain rfl:=zd8 hb
  obtain⟨t1,rfl⟩:=R1;obtain⟨t2,rfl⟩:=R2
  exact add_int (Out.same S rI)
 |str a=>
  obtain⟨b,hb,f⟩:=zad.mp e
  obtain rfl:=zfp hb
  obtain⟨hz,rfl⟩:=iteS f
  obtain⟨t1,rfl⟩:=R1;obtain⟨t2,rfl⟩:=R2
  exact PyProof.Rows.add_str (fun t' tk=>Out.same S rS) hz
 |lst a=>
  obtain⟨x1,e1,f⟩:=zad.mp e
  obtain⟨_,x2,rfl,e2,g⟩:=zgt f
  obtain⟨hz,rfl⟩:=iteS g
  exact add_lst S R1 R2 e1 e2 hz
 |_=>cases e
theorem mul_lst(S:Sim c φ H s){i:Nat}{nn:Int}{l:List V}{x y:Value} {E}(R1:Rep c φ s.heap (.lst i) x)(R2:Rep c φ s.heap (.int nn) y)(e1:H[i]?=some l)(hz:0<=nn/\nn<=1000000/\nn.toNat*l.length<=sizeLine) :
  wpAny (model c.prog c.w) A (binaryOp .Mult x y) (Out c φ s fun v H'=>v=.lst H.length/\H'=H++[rep l nn.toNat]) E s:=by
 obtain⟨t2,rfl⟩:=R2
 obtain⟨a1,vs,n,rfl,_,ho,hr,_,z1⟩:=S.getP R1 e1
 have hsz':vs.size*nn.toNat<=2^24:=by rw[z1,Nat.mul_comm];exact hz.2.2
 refine wpAny_binaryOp_repeat_ref (T:="list") (U:="int") (by decide) ⟨_,ho,rfl⟩ (fun s'=>typeIs_int s' nn t2) noFill_list_mul F.fills_int_mul F.slot_int_rmul repeat_list F.slot_int_index.lookup
  (call_meets F.slot_int_rmul (typeIs_int s nn t2) F.entry_int_rmul (F.args_int_rmul_2 _ _) (lm_int_rmul_list_any nn t2 a1 vs n none #[])
   ⟨ho,rfl,⟨_,ho,rfl⟩,call_meets F.slot_list_mul ⟨_,ho,rfl⟩ F.entry_list_mul (F.args_list_mul_2 _ _)
    (lm_list_mul_any a1 vs n none #[] nn t2 (by simp[Builtin.List.listFitsIndex];lia) (by lia) (by simp[Builtin.List.listTooLong,sizeLine];lia))
    ⟨ho,?_⟩⟩)
 refine zfa S ?_ (by rw[zl9];exact hz.2.2)
 rw[zw9]
 split
 ·rename_i hem
  obtain rfl:l=[]:=zbw.mp (z1▸by simpa using hem)
  have:∀k,rep ([]:List V) k=[]:=fun k=>zbw.mp (by rw[zl9];simp)
  rw[this];rfl
 ·simpa using hr.rep nn.toNat
theorem do_mul(S:Sim c φ H s){v w:V}{x y:Value}{p:V×Hp}(R1:Rep c φ s.heap v x)(R2:Rep c φ s.heap w y)(e:mulV H v w=some p):DoesP c A φ s (binaryOp .Mult x y) p:=by
 intro E
 obtain⟨nn,hb,f⟩:=zad.mp e
 clear e
 obtain rfl:=zd8 hb
 cases v with
 |int a=>
  obtain⟨hs,rfl⟩:=iteS f
  obtain⟨t1,rfl⟩:=R1;obtain⟨t2,rfl⟩:=R2
  exact PyProof.Rows.mul_int (Out.same S rI) ((zb2.mp hs).elim (fun h=>IntMulOk.of_left (zl4 h)) fun h=>IntMulOk.of_right (zl4 h))
 |lst a=>
  obtain⟨x1,e1,g⟩:=zad.mp f
  obtain⟨hz,rfl⟩:=iteS g
  exact mul_lst S R1 R2 e1 hz
 |_=>cases f
theorem do_bin(O:c.Ok)(hA:OkF c A q d φ s.heap)(S:Sim c φ H s){op:Op}{v w:V}{x y:Value}{p:V×Hp}(R1:Rep c φ s.heap v x)(R2:Rep c φ s.heap w y)
  (e:binV H op v w=some p):DoesP c A φ s (binaryOp op.real x y) p:=by
 cases op with
 |add=>exact do_add S R1 R2 e
 |mul=>exact do_mul S R1 R2 e
 |sub=>
  obtain⟨a,b,rfl,rfl,f⟩:=zfe e
  obtain rfl:=zaa f
  obtain⟨t1,rfl⟩:=R1;obtain⟨t2,rfl⟩:=R2
  exact fun E=>PyProof.Rows.sub_int (Out.same S rI)
 |div=>
  obtain⟨a,b,rfl,rfl,f⟩:=zfe e
  obtain⟨hb,rfl⟩:=iteN f
  obtain⟨t1,rfl⟩:=R1;obtain⟨t2,rfl⟩:=R2
  exact fun E=>floordiv_int hb (Out.same S rI) (Or.inr (PySem.PylongRoom.of (S.lim O) (by have:=hA.dep;show _+100<1000;exact Ar.ar1 [_,_] [] 0xa5000610000308020 (Y1 (Y0 V0 (.l 100)) (.l 1000)) (Y0 (Y0 V0 V1) (.l 890)) this) (hA.seer O S)))
 |mod=>
  obtain⟨a,b,rfl,rfl,f⟩:=zfe e
  obtain⟨hb,rfl⟩:=iteN f
  obtain⟨t1,rfl⟩:=R1;obtain⟨t2,rfl⟩:=R2
  exact fun E=>mod_int' hb (Out.same S rI)
end
end Bn
namespace Bn
open PySem PyProof.Rows
noncomputable def Cm.real:Cm->CmpOp
 |.lt=>.Lt |.le=>.LtE |.gt=>.Gt |.ge=>.GtE |.eq=>.Eq |.ne=>.NotEq |.isIn=>.In
 |.notIn=>.NotIn
 |.is=>.Is
section
variable {c:Cx}{A:Around}{q:Bool}{d:Nat}{φ:List Addr}{H H':Hp}{s:Shared}
inductive ReadsD(h:Heap)(r:Value)(p:PyData)(n:Nat):Prop
 |mk (as:List Addr)(hr:Reads h r p as)(hd:p.depth<=n):ReadsD h r p n
inductive ReadsL(h:Heap)(rs:List Value)(ps:List PyData)(n:Nat):Prop
 |mk (as:List Addr)(hr:ReadsAll h rs ps as)(hd:PyData.depthAll ps<=n):ReadsL h rs ps n
theorem zhg{f:V->Option PyData}{h:Heap}{n:Nat}(hf:∀v p r,f v=some p->Rep c φ h v r->ReadsD h r p n) :
  ∀{xs:List V} {rs:List Value} {ps:List PyData},mapO f xs=some ps->RepL c φ h xs rs->ReadsL h rs ps n
 |[],_,_,e,R=>by
  obtain rfl:=R.nil_inv
  obtain rfl:=zaa e
  exact⟨_,.nil,za2 _⟩
 |x::xs,_,_,e,R=>by
  obtain⟨y,ys,h1,h2,rfl⟩:=zdj e
  obtain⟨r,rs,rfl,R1,R2⟩:=R.uncons
  obtain⟨as,ra,da⟩:=hf x y r h1 R1
  obtain⟨bs,rb,db⟩:=zhg hf h2 R2
  exact⟨_,.cons ra rb,Nat.max_le.mpr ⟨da,db⟩⟩
theorem zll{v:V}{p:PyData}{r:Value}{h:Heap}(n:Nat)(R:Rep c φ h v r)(e:atomP v=some p):ReadsD h r p n:=by
 cases v with
 |none=>obtain rfl:=zaa e;obtain rfl:=R;exact⟨_,by constructor,za2 _⟩
 |bool=>obtain rfl:=zaa e;obtain rfl:=R;exact⟨_,by constructor,za2 _⟩
 |int=>obtain rfl:=zaa e;obtain⟨t,rfl⟩:=R;exact⟨_,by constructor,za2 _⟩
 |str=>obtain rfl:=zaa e;obtain⟨t,rfl⟩:=R;exact⟨_,by constructor,za2 _⟩
 |_=>cases e
theorem zjv(S:Sim c φ H s):∀(n:Nat)(v:V)(p:PyData)(r:Value),toP n H v=some p->Rep c φ s.heap v r->ReadsD s.heap r p n
 |0,v,p,r,e,R=>zll 0 R e
 |n+1,v,p,r,e,R=>by
  cases v with
  |tup l=>
   obtain⟨ps,e1,rfl⟩:=zaj.mp e
   obtain⟨a,o,vs,m,rfl,_,ho,hc,hd,_,hl⟩:=R
   obtain⟨as,ra,da⟩:=zhg (zjv S n) e1 hl
   exact⟨_,.tuple ho hc hd ra,zb3 da⟩
  |lst i=>
   obtain⟨ps,e1,rfl⟩:=zaj.mp e
   obtain⟨xs,e2,e3⟩:=zad.mp e1
   obtain⟨a,vs,m,rfl,_,ho,hl,_⟩:=S.getP R e2
   obtain⟨as,ra,da⟩:=zhg (zjv S n) e3 hl
   exact⟨_,.list ho rfl rfl ra,zb3 da⟩
  |_=>exact zll _ R e
inductive EqI(h:Heap)(x y:Value)(b:Bool):Prop
 |mk (p p':PyData)(as bs:List Addr)(ra:Reads h x p as)(rb:Reads h y p' bs)(l:p.canLay0=true)(l':p'.canLay0=true)(da:p.depth<=9)(db:p'.depth<=9)(e:PyData.eqv p p'=b):EqI h x y b
theorem zrq(S:Sim c φ H s){v w:V}{x y:Value}{b:Bool}(R1:Rep c φ s.heap v x)(R2:Rep c φ s.heap w y)(e:eqV H v w=some b):EqI s.heap x y b:=by
 obtain⟨p,e1,f⟩:=zad.mp e
 obtain⟨p',e2,g⟩:=zad.mp f
 obtain⟨h,rfl⟩:=iteS g
 obtain⟨as,ra,da⟩:=zjv S 9 v p x e1 R1
 obtain⟨bs,rb,db⟩:=zjv S 9 w p' y e2 R2
 exact⟨p,p',as,bs,ra,rb,(zag.mp h).1,(zag.mp h).2,da,db,rfl⟩
theorem zfs{h:Heap}:∀{xs:List V}{rs:List Value}{l:List Int},RepL c φ h xs rs->zqo xs=some l->IntsAre rs l
 |[],_,_,R,e=>by
  obtain rfl:=R.nil_inv
  obtain rfl:=zaa e
  exact .nil
 |x::xs,_,_,R,e=>by
  obtain⟨r,rs,rfl,R1,R2⟩:=R.uncons
  obtain⟨i,h1,f⟩:=zad.mp e
  obtain⟨l',h2,rfl⟩:=zaj.mp f
  obtain rfl:=zd8 h1
  obtain⟨t,rfl⟩:=R1
  exact .cons _ _ (zfs R2 h2)
theorem zik{h:Heap}:∀{xs:List V}{rs:List Value}{l:List Str},RepL c φ h xs rs->zh5 xs=some l->StrsAre rs l
 |[],_,_,R,e=>by
  obtain rfl:=R.nil_inv
  obtain rfl:=zaa e
  exact .nil
 |x::xs,_,_,R,e=>by
  obtain⟨r,rs,rfl,R1,R2⟩:=R.uncons
  obtain⟨i,h1,f⟩:=zad.mp e
  obtain⟨l',h2,rfl⟩:=zaj.mp f
  obtain rfl:=zfp h1
  obtain⟨t,rfl⟩:=R1
  exact .cons _ _ (zik R2 h2)
theorem zme{h:Heap}:∀{xs:List V}{rs:List Value}{l:List Bool},RepL c φ h xs rs->zkt xs=some l->rs=l.map Value.bool
 |[],_,_,R,e=>by
  obtain rfl:=R.nil_inv
  obtain rfl:=zaa e
  rfl
 |x::xs,_,_,R,e=>by
  obtain⟨r,rs,rfl,R1,R2⟩:=R.uncons
  obtain⟨i,h1,f⟩:=zad.mp e
  obtain⟨l',h2,rfl⟩:=zaj.mp f
  obtain rfl:=zel h1
  obtain rfl:=R1
  rw[zme R2 h2];rfl
noncomputable def isK(k:Int):Value->Bool
 |.int i _=>i==k
 |_=>false
theorem isK_any{k:Int}{rs:List Value}{l:List Int}(h:IntsAre rs l):rs.any (isK k)=decide (k∈l):=by
 induction h with
 |nil=>rfl
 |cons n t h ih=>
  rw[List.any_cons,ih]
  rw[Bool.eq_iff_iff,show isK k (.int n t)=(n==k) from rfl];simp only[Bool.or_eq_true,beq_iff_eq,decide_eq_true_eq,zal]
  exact⟨fun h=>h.imp Eq.symm id,fun h=>h.imp Eq.symm id⟩
theorem ints_mem{rs:List Value}{l:List Int}(h:IntsAre rs l):∀r∈rs,∃i t,r=.int i t:=by
 induction h with
 |nil=>intro r hr;cases hr
 |cons n t h ih=>
  intro r hr
  rcases zal.mp hr with rfl |hr
  ·exact⟨n,t,rfl⟩
  ·exact ih r hr
noncomputable def isS(k:Str):Value->Bool
 |.str i _=>i==k
 |_=>false
theorem zw0{k:Str}{rs:List Value}{l:List Str}(h:StrsAre rs l):rs.any (isS k)=decide (k∈l):=by
 induction h with
 |nil=>rfl
 |cons n t h ih=>
  rw[List.any_cons,ih]
  rw[Bool.eq_iff_iff,show isS k (.str n t)=(n==k) from rfl];simp only[Bool.or_eq_true,beq_iff_eq,decide_eq_true_eq,zal]
  exact⟨fun h=>h.imp Eq.symm id,fun h=>h.imp Eq.symm id⟩
theorem zq9{rs:List Value}{l:List Str}(h:StrsAre rs l):∀r∈rs,∃i t,r=.str i t:=by
 induction h with
 |nil=>intro r hr;cases hr
 |cons n t h ih=>
  intro r hr
  rcases zal.mp hr with rfl |hr
  ·exact⟨n,t,rfl⟩
  ·exact ih r hr
noncomputable def Cmps(c:Cx)(A:Around)(s:Shared)(o:Cm)(x y:Value)(b:Bool):Prop:=∀{Q:Value->Shared->Prop}{E:Value->Shared->Prop},Q (.bool b) s->wpAny (model c.prog c.w) A (compareOp o.real x y) Q E s
theorem zsp{s:Str}{k:Nat}(h:charOf s=some k):s=⟨#[k]⟩:=by
 obtain⟨⟨l⟩⟩:=s
 match l,h with
 |[_],h=>cases h;rfl
theorem do_inS{t:Str}{w:V}{x y:Value}{b:Bool}(R1:Rep c φ s.heap (.str t) x)(R2:Rep c φ s.heap w y)(e:inS t w=some b):Cmps c A s .isIn x y b:=by
 intro Q E hq
 obtain⟨t1,rfl⟩:=R1
 cases w with
 |str u=>
  obtain⟨k,hk,rfl⟩:=zaj.mp e
  obtain rfl:=zsp hk
  obtain⟨t2,rfl⟩:=R2
  refine P.in_str ?_
  rw[StrLaws.found_one];exact hq
 |tup l=>
  obtain⟨l,e',rfl⟩:=zaj.mp e
  obtain⟨a,o,vs,n,rfl,_,ho,hc,hd,_,hr⟩:=R2
  have hi:=zik hr e'
  refine SeqAt.in_tupleAt (isS t) ⟨o,ho,hc,n,hd⟩ (fun r hr'=>?_) ?_
  ·obtain⟨i,t,rfl⟩:=zq9 hi r (Array.mem_toList_iff.mpr hr')
   exact SeqAt.EqAt.str_str _ _ _ _
  ·rw[<- Array.any_toList,zw0 hi];exact hq
 |_=>cases e
theorem do_in(S:Sim c φ H s){v w:V}{x y:Value}{b:Bool}(R1:Rep c φ s.heap v x)(R2:Rep c φ s.heap w y)(e:inV H v w=some b):Cmps c A s .isIn x y b:=by
 cases v with
 |int k=>
  intro Q E hq
  obtain⟨bb,xs,rfl,e1,f⟩:=zgt e
  obtain⟨l,e2,rfl⟩:=zaj.mp f
  obtain⟨a,vs,n,rfl,_,ho,hr,_⟩:=S.getP R2 e1
  obtain⟨t1,rfl⟩:=R1
  have hi:=zfs hr e2
  refine SeqAt.in_listAt (isK k) (zdi ho) (fun r hr'=>?_) ?_
  ·obtain⟨i,t,rfl⟩:=ints_mem hi r (Array.mem_toList_iff.mpr hr')
   exact SeqAt.EqAt.int_int _ _ _ _
  ·rw[<- Array.any_toList,isK_any hi];exact hq
 |str t=>exact do_inS R1 R2 e
 |_=>cases e
theorem do_notIn{v w:V}{x y:Value}{b:Bool}(R1:Rep c φ s.heap v x)(R2:Rep c φ s.heap w y)(e:ninV v w=some b):Cmps c A s .notIn x y b:=by
 intro Q E hq
 obtain⟨k,h1,f⟩:=zad.mp e
 obtain⟨l0,h2,g⟩:=zad.mp f
 obtain rfl:=zfp h1
 obtain rfl:=zgi h2
 obtain⟨l,e',rfl⟩:=zaj.mp g
 obtain⟨t1,rfl⟩:=R1
 obtain⟨a,o,vs,n,rfl,_,ho,hc,hd,_,hr⟩:=R2
 have hi:=zik hr e'
 refine SeqAt.notIn_tupleAt (isS k) ⟨o,ho,hc,n,hd⟩ (fun r hr'=>?_) ?_
 ·obtain⟨i,t,rfl⟩:=zq9 hi r (Array.mem_toList_iff.mpr hr')
  exact SeqAt.EqAt.str_str _ _ _ _
 ·rw[<- Array.any_toList,zw0 hi];exact hq
theorem do_is{v w:V}{x y:Value}{b:Bool}(R1:Rep c φ s.heap v x)(R2:Rep c φ s.heap w y)(e:isV v w=some b):Cmps c A s .is x y b:=by
 intro Q E hq
 cases w with
 |none=>
  obtain rfl:=R2
  cases v with
  |none=>obtain rfl:=R1;obtain rfl:=zaa e;exact wpAny_is_self rfl hq
  |int i=>obtain⟨t,rfl⟩:=R1;obtain rfl:=zaa e;exact wpAny_is_other rfl (by intro h;cases h) hq
  |_=>cases e
 |_=>cases e
theorem do_cmp(hu:A.units+100<cLine)(S:Sim c φ H s){o:Cm}{v w:V}{x y:Value}{b:Bool}(R1:Rep c φ s.heap v x)(R2:Rep c φ s.heap w y)
  (e:cmpV H o v w=some b):Cmps c A s o x y b:=by
 cases o with
 |lt=>
  obtain⟨a,b,rfl,rfl,f⟩:=zfe e
  obtain rfl:=zaa f
  obtain⟨t1,rfl⟩:=R1;obtain⟨t2,rfl⟩:=R2
  exact PyProof.Rows.lt_int
 |le=>
  obtain⟨a,b,rfl,rfl,f⟩:=zfe e
  obtain rfl:=zaa f
  obtain⟨t1,rfl⟩:=R1;obtain⟨t2,rfl⟩:=R2
  exact PyProof.Rows.le_int
 |gt=>
  obtain⟨a,b,rfl,rfl,f⟩:=zfe e
  obtain rfl:=zaa f
  obtain⟨t1,rfl⟩:=R1;obtain⟨t2,rfl⟩:=R2
  exact PyProof.Rows.gt_int
 |ge=>
  obtain⟨a,b,rfl,rfl,f⟩:=zfe e
  obtain rfl:=zaa f
  obtain⟨t1,rfl⟩:=R1;obtain⟨t2,rfl⟩:=R2
  exact PyProof.Rows.ge_int
 |eq=>
  obtain⟨p,p',as,bs,ra,rb,l,l',da,db,rfl⟩:=zrq S R1 R2 e
  exact SeqAt.compareEq_reads ra rb l l' (by exact Ar.ar2 [_,_,_,_] [] 0x194a528003080601840400c20280610000810421 (Y1 (Y0 V0 (Y5 V1 V2)) V3) (Y1 (Y0 V0 (.l 100)) V3) (Y0 V1 (.l 9)) hu da)
 |ne=>
  obtain⟨b',e',rfl⟩:=zaj.mp e
  obtain⟨p,p',as,bs,ra,rb,l,l',da,db,rfl⟩:=zrq S R1 R2 e'
  exact SeqAt.compareNe_reads ra rb l l' (by exact Ar.ar2 [_,_,_,_] [] 0x194a528003080601840400c20280610000810421 (Y1 (Y0 V0 (Y5 V1 V2)) V3) (Y1 (Y0 V0 (.l 100)) V3) (Y0 V1 (.l 9)) hu da)
 |isIn=>exact do_in S R1 R2 e
 |notIn=>exact do_notIn R1 R2 e
 |is=>exact do_is R1 R2 e
end
end Bn
namespace Bn
open PySem PyProof.Rows
inductive SubOps(slice:Expr)(o i:Value):Prop
 |mk (ops:List Value)(h:subscripted slice false o i=operate ops (getItem o i)):SubOps slice o i
theorem zk9(slice:Expr)(o i:Value):SubOps slice o i:=by
 cases slice with
 |Slice l u st p=>cases st<;>exact⟨_,rfl⟩
 |_=>exact⟨_,rfl⟩
section
variable {c:Cx}{A:Around}{q:Bool}{d:Nat}{φ:List Addr}{H H':Hp}{s:Shared}
theorem zxn.get{l:List Int}:∀{rs:List Value},zxn l rs->∀{i:Nat}{v:Int},l[i]?=some v->∃t,rs[i]?=some (.int v t):=by
 induction l with
 |nil=>exact fun _ _ _ e=>nomatch e
 |cons x l ih=>
  intro rs h i v e
  cases rs with
  |nil=>exact h.elim
  |cons r rs=>
   cases i with
   |zero=>obtain rfl:=zaa e;exact h.1.elim fun t e=>⟨t,congrArg some e⟩
   |succ i=>exact ih h.2 e
theorem zxn.length{l:List Int}:∀{rs:List Value},zxn l rs->rs.length=l.length:=by
 induction l with
 |nil=>
  intro rs h
  cases rs with
  |nil=>rfl
  |cons _ _=>exact h.elim
 |cons x l ih=>
  intro rs h
  cases rs with
  |nil=>exact h.elim
  |cons r rs=>exact congrArg (· + 1) (ih h.2)
inductive IxI(i:Int)(n j:Nat):Prop
 |mk (hj:j<n)(hi:(0<=i/\i.toNat=j)\/(i<0/\-(n:Int)<=i/\(i+n).toNat=j))(hs:seqIndex? i n=some j):IxI i n j
theorem zmv{i:Int}{n j:Nat}(h:ix i n=some j):IxI i n j:=by
 unfold ix at h
 by_cases h0:0<=i
 ·rw[if_pos h0] at h
  obtain⟨h1,rfl⟩:=iteS h
  refine⟨by exact Ar.ar3 [_,_] [_] 0x124294a50006100c03080801840500c2008000294a000c200806100c0308000 (Y1 V0 V1) (Y3 J0 V0) (Y4 V0 (Y4 V1 J0)) (Y7 (Y5 (Y4 V0 J0) V0) (Y6 (Y3 V0 J0) (Y2 V0 J0))) h0 h1 (Ar.tn _),.inl ⟨h0,rfl⟩,?_⟩
  unfold seqIndex?
  simp only[Int.not_lt.mpr h0,if_false]
  rw[if_pos (by simp;exact Ar.ar2 [_] [_] 0x6294001840300c20000a5000610080308000 (Y6 (Y3 J0 V0) (Y4 V0 (Y4 V0 J0))) (Y3 J0 V0) (Y4 V0 (Y4 V0 J0)) h0 h1)]
 ·rw[if_neg h0] at h
  obtain⟨h1,rfl⟩:=iteS h
  refine⟨by exact Ar.ar3 [_,_] [_] 0x124294a50006100c03080801840500c2008000294a000c20080610080308000 (Y1 V0 V1) (Y8 (Y3 J0 V0) J0) (Y3 (Y3 (Y4 V1 J0) J0) V0) (Y7 (Y5 (Y4 V0 J0) (Y0 V0 (Y4 V1 J0))) (Y6 (Y3 (Y0 V0 (Y4 V1 J0)) J0) (Y2 V0 J0))) h0 h1 (Ar.tn _),.inr ⟨Int.not_le.mp h0,h1,rfl⟩,?_⟩
  unfold seqIndex?
  simp only[Int.not_le.mp h0,if_true]
  rw[if_pos (by simp;exact Ar.ar2 [_] [_] 0x6294001840200c20000a50006100c0308000 (Y6 (Y3 J0 (Y0 V0 (Y4 V0 J0))) (Y4 (Y0 V0 (Y4 V0 J0)) (Y4 V0 J0))) (Y8 (Y3 J0 V0) J0) (Y3 (Y3 (Y4 V0 J0) J0) V0) h0 h1)]
theorem zhy{value slice:Expr}{l:Addr}{items:Array Value}{k:Int}{t:Tok}{x:Value}{Q:Value->Shared->Prop}{E:Value->Shared->Prop}{j:Nat}(hl:s.heap.IsList l items)(hj:ix k items.size=some j)
  (hz:items.size<=sizeLine) (hx:items[j]?=some x) (h:Q x s):wpAny (model c.prog c.w) A (subscriptTail value slice (.ref l) (.int k t)) Q E s:=by
 have hsl:sizeLine=2^24:=rfl
 obtain⟨h1,h2,_⟩:=zmv hj
 obtain⟨ops,hops⟩:=zk9 slice (.ref l) (.int k t)
 refine tail_any hl.typeIs slot_list_getitem.lookup ?_ hops
 rcases h2 with⟨h3,rfl⟩|⟨h3,h4,rfl⟩
 ·exact wpAny_getItem_list hl h3 (by exact Ar.ar5 [_,_,_] [_,_] 0x164294a000c201808101c0308000000a5294a50006100403080401840300c20200810140408000 (Y4 V0 V1) (Y0 V0 V1) (Y2 V1 (.l 16777216)) (Y1 V2 V0) (Y5 V1 (.l 9223372036854775808)) (Y7 (Y5 (Y4 V2 J0) V0) (Y6 (Y3 V0 J0) (Y2 V2 J0))) hz hsl h1 (Ar.p63) (Ar.tn _)) hx h
 ·exact wpAny_getItem_list_neg hl h3 h4 (by exact Ar.ar4 [_,_] [_,_] 0x294a528003080001840100c201006100c0408080 (Y3 (Y3 V0 J0) V1) (Y0 V0 V1) (Y2 V1 (.l 16777216)) (Y3 (Y3 (Y4 V0 J0) J0) V1) (Y5 V0 (.l 9223372036854775808)) hz hsl h4 (Ar.p63)) hx h
theorem zjd{vs:Array Value}{j:Nat}{r:Value}(h:vs.toList[j]?=some r):vs[j]?=some r:=by rw[<- zcb];exact h
theorem do_idx(S:Sim c φ H s){value slice:Expr}{v w u:V}{x y:Value}(R1:Rep c φ s.heap v x)(R2:Rep c φ s.heap w y)
  (e:idxV H v w=some u):Does c A φ s (subscriptTail value slice x y) u H:=by
 have hsl:sizeLine=2^24:=rfl
 intro E
 obtain⟨i,hi,f⟩:=zad.mp e
 clear e
 obtain rfl:=zd8 hi
 obtain⟨t2,rfl⟩:=R2
 cases v with
 |str st=>
  obtain⟨j,e1,e2⟩:=zad.mp f
  obtain⟨e1,hz⟩:=onLe e1
  obtain⟨h1,h2,h3⟩:=zmv e1
  obtain⟨cc,e3,rfl⟩:=zaj.mp e2
  obtain⟨t1,rfl⟩:=R1
  obtain⟨ops,hops⟩:=zk9 slice (.str st t1) (.int i t2)
  refine tail_any (typeIs_str s st t1) F.slot_str_getitem.lookup (P.getItem_str (c:=cc) (by simp;exact Ar.ar5 [_,_,_,_,_] [_] 0x32c852800308060184000000d214a000c202006100000010a5294a50006101803080e01840800c2020081008030802008164214a528003080e01840800c20280610000100004294001840300c2000000 (Y6 (Y3 (Y3 (.l 9223372036854775808) J0) V0) (Y4 V0 (.l 9223372036854775808))) (Y2 V0 (.l 16777216)) (Y0 V1 V0) (Y1 V2 V1) (Y7 (Y6 (Y3 J0 V0) (Y2 V3 V2)) (Y6 (Y4 V0 J0) (Y6 (Y3 (Y3 (Y4 V1 J0) J0) V0) (Y2 V4 V2)))) (Y7 (Y5 (Y4 V3 J0) V0) (Y6 (Y3 V0 J0) (Y2 V3 J0))) hsl hz h1 h2 (Ar.tn _)) ?_ (Out.same S rS)) hops
  show(seqIndex? i st.cps.size).bind _=_
  rw[h3];exact e3
 |lst a=>
  obtain⟨xs,e1,g⟩:=zad.mp f
  obtain⟨j,e3,e4⟩:=zad.mp g
  obtain⟨a,vs,n,rfl,_,ho,hr,hz,z⟩:=S.getP R1 e1
  obtain⟨r,hr1,hr2⟩:=hr.get e4
  exact zhy (zdi ho) (by rw[z];exact e3) (by rw[z];exact hz) (zjd hr1) (Out.same' S hr2)
 |tup xs=>
  obtain⟨j,e3,e4⟩:=zad.mp f
  obtain⟨a,o,vs,n,rfl,_,ho,hc,hd,hz,hr⟩:=R1
  have z:vs.size=xs.length:=zbe.symm.trans hr.length
  obtain⟨r,hr1,hr2⟩:=hr.get e4
  obtain⟨h1,h2,h3⟩:=zmv e3
  obtain⟨ops,hops⟩:=zk9 slice (.ref a) (.int i t2)
  have hT:IsTup s.heap a vs:=⟨o,ho,hc,n,hd⟩
  exact tail_any hT.typeIs slot_tuple_getitem.lookup (getItem_tuple hT (by exact Ar.ar4 [_,_,_,_,_] [_,_] 0x124214a5294001840500c203006101c04081201840000400010a528003080602040700c2000000 (Y3 (Y3 V0 J0) V1) (Y2 V0 (.l 16777216)) (Y0 V1 V0) (Y7 (Y6 (Y3 J0 V1) (Y2 V2 V3)) (Y6 (Y4 V1 J0) (Y6 (Y3 (Y3 (Y4 V1 J0) J0) V1) (Y2 V4 V3)))) (Y5 V0 (.l 9223372036854775808)) hsl hz h2 (Ar.p63)) (by exact Ar.ar6 [_,_,_,_,_] [_,_] 0x28852940018403010204006100000034852940018404010204806100000010a5294a528003080801840500c203006101c04081202040200c2008020 (Y4 V0 V1) (Y2 V0 (.l 16777216)) (Y0 V1 V0) (Y1 V2 V1) (Y7 (Y6 (Y3 J0 V0) (Y2 V3 V2)) (Y6 (Y4 V0 J0) (Y6 (Y3 (Y3 (Y4 V1 J0) J0) V0) (Y2 V4 V2)))) (Y5 V1 (.l 9223372036854775808)) (Y7 (Y5 (Y4 V3 J0) V0) (Y6 (Y3 V0 J0) (Y2 V3 J0))) hsl hz h1 h2 (Ar.p63) (Ar.tn _)) (by rw[z];exact h3) (zjd hr1) (Out.same' S hr2)) hops
 |scr l=>
  obtain⟨j,e3,g⟩:=zad.mp f
  obtain⟨k,e5,rfl⟩:=zaj.mp g
  obtain⟨a,o,vs,n,rfl,_,_,ho,hc,hd,hz,hr⟩:=R1
  have z:=zbe.symm.trans hr.length
  obtain⟨t,hr1⟩:=hr.get e5
  exact zhy ⟨o,ho,hc,n,hd⟩ (by rw[z];exact e3) (by rw[z];exact hz) (zjd hr1) (Out.same' S rI)
 |_=>cases f
end
end Bn
namespace Bn
open PySem PySem.W PySem.Calls PyProof.Rows
section
variable {prog:Program}{w:World}{A:Around}{E:Value->Shared->Prop}{s:Shared}
inductive PairAt(h:Heap)(v:Value)(a b:Int):Prop
 |mk (x:Addr)(o:Obj)(t u:Tok)(n:Nat)(hr:v=.ref x)(ho:h.get? x=some o)(hc:o.cls=.type "tuple")(hd:o.data=.seq #[.int a t,.int b u] n):PairAt h v a b
theorem lex1{a a' b b':Int}(ha:a=a')(hb:b=b'):(decide (a<a')||(decide (a=a')&&decide (b<b')))=false:=by rw[ha,hb,decide_eq_false (Int.lt_irrefl _),decide_eq_false (Int.lt_irrefl _),Bool.and_false];rfl
theorem lex2{a a' b b':Int}(ha:a=a'):(decide (a<a')||(decide (a=a')&&decide (b<b')))=decide (b<b'):=by rw[decide_eq_true ha,ha,decide_eq_false (Int.lt_irrefl _)];rfl
theorem lex3{a a' b b':Int}(ha:a≠a'):(decide (a<a')||(decide (a=a')&&decide (b<b')))=decide (a<a'):=by rw[decide_eq_false ha];exact Bool.or_false _
theorem lt_pair{v v':Value}{a b a' b':Int}{Q:Bool->Shared->Prop}(hp:PairAt s.heap v a b)(hp':PairAt s.heap v' a' b')(h:Q (decide (a<a')||(decide (a=a')&&decide (b<b'))) s):wpAny (model prog w) A (keyLt' (tuples' true) v v') Q E s:=by
 obtain⟨x,o,t,u,n,rfl,ho,hc,hd⟩:=hp
 obtain⟨x',o',t',u',n',rfl,ho',hc',hd'⟩:=hp'
 refine kat_lt ho hd ho' hd' (kat_cons (wpAny_eqBool_int (kat_go (fun e=>kat_yes (kat_cons (wpAny_eqBool_int (kat_go (fun e2=>kat_yes (kat_nil ?_)) fun e2=>kat_no ?_)))) fun e=>kat_no ?_)))
 ·rw[lex1 (beq_iff_eq.mp e) (beq_iff_eq.mp e2)] at h;exact h
 ·rw[lex2 (beq_iff_eq.mp e)] at h
  show wpAny (model prog w) A (oneLt' false _ _) Q _ s
  rw[oneLt'_eq,if_neg Bool.false_ne_true]
  exact wpAny_bind (wpAny_lt_int (wpAny_truthy_bool h))
 ·rw[lex3 (beq_eq_false_iff_ne.mp e)] at h;exact oneLt_int h
noncomputable def Pairs(h:Heap):List Value->List (Int×Int)->Prop
 |[],[]=>True
 |v::vs,p::ps=>PairAt h v p.1 p.2/\Pairs h vs ps
 |_,_=>False
inductive Tups(h:Heap)(vs:List Value)(n:Nat):Prop
 |mk (fs:List Value)(t:KatTups h vs fs)(l:fs.length=n)(a:∀v∈fs,∃i t,v=.int i t):Tups h vs n
theorem tups_ok{h:Heap}{vs:List Value}:∀{ps:List (Int×Int)},Pairs h vs ps->Tups h vs ps.length:=by
 induction vs with
 |nil=>
  intro ps t
  cases ps with
  |nil=>exact⟨[],trivial,rfl,fun _ h=>nomatch h⟩
  |cons _ _=>exact t.elim
 |cons v vs ih=>
  intro ps t
  cases ps with
  |nil=>exact t.elim
  |cons p ps=>
   obtain⟨⟨x,o,tk,u,n,rfl,ho,hc,hd⟩,t⟩:=t
   obtain⟨fs,k,l,a⟩:=ih t
   exact⟨_,.cons ho hc hd rfl k,congrArg (· + 1) l,za7.mpr ⟨⟨_,_,rfl⟩,a⟩⟩
theorem kind_ok{vs:List Value}{ps:List (Int×Int)}{Q:SortKind->Shared->Prop}(t:Pairs s.heap vs ps)(hne:0<ps.length)(h:Q (tuples' true) s):wpAny (model prog w) A (keyKind' vs.toArray) Q E s:=by
 obtain⟨fs,k,l,a⟩:=tups_ok t
 refine kat_kind (T:=.type "int") k (l.symm▸hne) (fun v hv=>?_) (by decide +kernel) h
 obtain⟨i,t,rfl⟩:=a v hv
 exact Looks.of_pure rfl
theorem zip_one{vs:List Value}(h:vs.length<2):(vs.toArray.zip vs.toArray).map (·.2)=((List.toArray (List.range vs.length)).toList.map fun i=>vs.getD i Value.none).toArray:=by
 refine Array.toList_inj.mp ?_
 rw[Array.toList_map,Array.toList_zip]
 cases vs with
 |nil=>rfl
 |cons x r=>
  cases r with
  |nil=>rfl
  |cons y r=>exact absurd h (Nat.not_lt.mpr (zbt 2 _))
theorem zj8{l:Addr}{vs:List Value}{κ:SortKind}{key:Nat->Int}{Q:Value->Shared->Prop}(hl:s.heap.IsList l vs.toArray)(h64:vs.length<64)
  (inj:∀i j,i<vs.length->j<vs.length->key i=key j->i=j)
  (hκ:2<=vs.length->∀h',(∀b o,s.heap.get? b=some o->h'.get? b=some o)->(∀(Q:SortKind->Shared->Prop) E,Q κ { s with heap:=h' }->wpAny (model prog w) A.in1.in1 (keyKind' vs.toArray) Q E { s with heap:=h' })/\zvs prog w A.in1.in1 { s with heap:=h' } κ vs key vs.length)
  (h:∀h' c' (p:Array Nat),(∀b o,s.heap.get? b=some o->h'.get? b=some o)->h'.get? (s.heap.objs.size+1)=some (seqObj "list" (p.toList.map fun i=>vs.getD i Value.none).toArray c')->zd6 vs.length p->Up key p vs.length->Q (.ref (s.heap.objs.size+1)) { s with heap:=h' }) :
  wpAny (model prog w) A (call (.builtin "sorted") [.ref l]) Q E s:=by
 refine Calls.call_function_entry kind_sorted plain_sorted entry_sorted (args_sorted1 _) ?_
 unfold Builtin.«sorted»
 refine wpAny_bind (m:=checkCount "sorted" 1 1 _) (wpAny_pure ?_)
 refine wpAny_bind (collect_list hl ?_ (by rw[sizeLine_eq];exact Ar.ar1 [_] [] 0xa5000610000308020 (Y0 V0 (.l 16777216)) (Y1 V0 (.l 64)) h64))
 refine wpAny_bind (wpAny_newList ?_ (by rw[sizeLine_eq];exact Ar.ar1 [_] [] 0xa5000610000308020 (Y0 V0 (.l 16777216)) (Y1 V0 (.l 64)) h64))
 generalize hg1:(s.heap.push (seqObj "list" #[] 0)).update s.heap.objs.size (Obj.mapSeq (·++vs.toArray))=g1
 have hsz:g1.objs.size=s.heap.objs.size+1:=by rw[<- hg1,Heap.size_update,size_push']
 have k1:∀b o,s.heap.get? b=some o->g1.get? b=some o:=fun b o q=>by
  have hlt:=Heap.lt_size q
  rw[<- hg1,Heap.get?_update_ne _ _ _ _ (za3 hlt),Heap.get?_push_ne _ _ _ (za3 hlt)]
  exact q
 have hoL:(g1.push (seqObj "list" vs.toArray 0)).get? (s.heap.objs.size+1)=some (seqObj "list" vs.toArray 0):=by
  rw[<- hsz];exact Heap.get?_push_size _ rfl
 show wpAny _ _ _ _ _ { s with heap:=g1.push (seqObj "list" vs.toArray 0) }
 rw[hsz]
 refine wpAny_bind (wpAny_holding (wpAny_call_entry slot_list_sort ⟨_,hoL,rfl⟩ entry_list_sort ?body (args_list_sort _)))
 case body=>
 generalize ha:s.heap.objs.size+1=a at *
 generalize hg2:g1.push (seqObj "list" vs.toArray 0)=g2 at *
 have hz2:g2.objs.size=a+1:=by rw[<- hg2,size_push',hsz]
 have k2:∀b o,s.heap.get? b=some o->b≠a/\g2.get? b=some o:=fun b o q=>by
  refine⟨?_,?_⟩
  ·rw[<- ha];exact za3 (Nat.lt_succ_of_lt (Heap.lt_size q))
  ·rw[<- hg2,Heap.get?_push_of_some _ (k1 b o q)]
 rw[list_sort_plain]
 refine wpAny_bind (listItems_at hoL rfl ?_)
 refine wpAny_bind (listUpdate_at hoL rfl ?_ (by rw[List.size_toArray,sizeLine_eq];exact Ar.ar1 [_] [] 0xa5000610000308020 (Y0 V0 (.l 16777216)) (Y1 V0 (.l 64)) h64) (za2 _))
 obtain⟨e1,ho1⟩:∃e1,(g2.update a (Obj.mapSeq fun _=>(#[]:Array Value))).get? a=some (seqObj "list" #[] e1):=⟨_,get?_update_seq hoL fun _=>#[]⟩
 refine wpAny_bind (seqEpoch_at ho1 rfl ?_)
 refine wpAny_bind (wpAny_newTuple ?_ (by show vs.length<=_;rw[sizeLine_eq];exact Ar.ar1 [_] [] 0xa5000610000308020 (Y0 V0 (.l 16777216)) (Y1 V0 (.l 64)) h64))
 refine wpAny_bind (wpAny_newList ?_ (za2 _))
 refine wpAny_holding ?_
 generalize hg3:((g2.update a (Obj.mapSeq fun _=>(#[]:Array Value))).push (seqObj "tuple" vs.toArray 0)).push (seqObj "list" #[] 0)=g3
 have ho3:g3.get? a=some (seqObj "list" #[] e1):=by
  rw[<- hg3];exact Heap.get?_push_of_some _ (Heap.get?_push_of_some _ ho1)
 have k3:∀b o,s.heap.get? b=some o->b≠a/\g3.get? b=some o:=fun b o q=>by
  obtain⟨hne,q2⟩:=k2 b o q
  refine⟨hne,?_⟩
  rw[<- hg3]
  refine Heap.get?_push_of_some _ (Heap.get?_push_of_some _ ?_)
  rw[Heap.get?_update_ne _ _ _ _ hne]
  exact q2
 show wpAny (model prog w) A.in1.in1 _ _ _ { s with heap:=g3 }
 dsimp only
 have fin:∀(o2:Array Value) (p:Array Nat),o2=(p.toList.map fun i=>vs.getD i Value.none).toArray->zd6 vs.length p->Up key p vs.length->o2.size<=2^24/\Q (.ref a) { s with heap:=g3.update a (Obj.mapSeq fun _=>o2) }:=by
  rintro _ p rfl hp hu
  obtain⟨c2,hc2⟩:∃c2,(g3.update a (Obj.mapSeq fun _=>(p.toList.map fun i=>vs.getD i Value.none).toArray)).get? a=some (seqObj "list" (p.toList.map fun i=>vs.getD i Value.none).toArray c2):=⟨_,get?_update_seq ho3 fun _=>(p.toList.map fun i=>vs.getD i Value.none).toArray⟩
  refine⟨?_,h _ c2 p (fun b o q=>?_) hc2 hp hu⟩
  ·rw[List.size_toArray,zac,zbe,hp.size];exact Ar.ar1 [_] [] 0xa5000610000308020 (Y0 V0 (.l 16777216)) (Y1 V0 (.l 64)) h64
  ·obtain⟨hne,q3⟩:=k3 b o q
   rw[Heap.get?_update_ne _ _ _ _ hne]
   exact q3
 have hr:zd6 vs.length (List.toArray (List.range vs.length)):=List.Perm.refl _
 by_cases h22:vs.toArray.size<2
 ·rw[if_pos h22,if_pos h22]
  refine wpAny_bind (wpAny_pure ?_)
  rw[StateT.run_pure]
  refine wpAny_bind (wpAny_pure ?_)
  dsimp only
  have hlt:vs.length<2:=by simpa using h22
  obtain⟨hz,hQ⟩:=fin _ _ (zip_one hlt) hr (fun i j h1 h2=>by exact Ar.ar3 [_,_,_] [_,_] 0x294a000c20080610080308060 (Y4 V0 V1) (Y1 V0 J2) (Y1 V1 V2) (Y1 V2 V0) hlt h1 h2)
  refine wpAny_bind (seqEpoch_at ho3 rfl ?_)
  refine wpAny_bind (listUpdate_at ho3 rfl ?_ (za2 _) (zab hz (by rw[sizeLine_eq];decide)))
  simp only[bne_self_eq_false,zbx,if_false]
  exact wpAny_pure ⟨_,rfl,wpAny_pure ⟨_,rfl,hQ⟩⟩
 ·rw[if_neg h22,if_neg h22]
  have hge:2<=vs.length:=by simpa using h22
  obtain⟨hk1,hk2⟩:=hκ hge g3 fun b o q=>(k3 b o q).2
  refine wpAny_bind (hk1 _ _ ?_)
  refine wpAny_bind (wpAny_mono (runs_ok hk2 inj hge h64) ?_ fun _ _ e=>e)
  rintro⟨⟨⟩,st'⟩ s' ⟨rfl,p,hp,hu,har,hf⟩
  dsimp only
  obtain⟨hz,hQ⟩:=fin ((arrOf st').map (·.2)) p har hp hu
  refine wpAny_bind (seqEpoch_at ho3 rfl ?_)
  refine wpAny_bind (listUpdate_at ho3 rfl ?_ (za2 _) (zab hz (by rw[sizeLine_eq];decide)))
  rw[hf]
  simp only[bne_self_eq_false,zbx,if_false]
  exact wpAny_pure ⟨_,rfl,wpAny_pure ⟨_,rfl,hQ⟩⟩
end
section
variable {c:Cx}{φ:List Addr}
inductive Rep1(c:Cx)(φ:List Addr)(h:Heap)(v:V)(rs:List Value):Prop
 |mk (r:Value)(e:rs=[r])(h1:Rep c φ h v r):Rep1 c φ h v rs
theorem RepL.one{h:Heap}{v:V}{rs:List Value}(R:RepL c φ h [v] rs):Rep1 c φ h v rs:=by
 obtain⟨r,rs',rfl,h1,R2⟩:=R.uncons
 obtain rfl:=R2.nil_inv
 exact⟨r,rfl,h1⟩
inductive Rep2(c:Cx)(φ:List Addr)(h:Heap)(v w:V)(rs:List Value):Prop
 |mk (r r':Value)(e:rs=[r,r'])(h1:Rep c φ h v r)(h2:Rep c φ h w r'):Rep2 c φ h v w rs
theorem RepL.two{h:Heap}{v w:V}{rs:List Value}(R:RepL c φ h [v,w] rs):Rep2 c φ h v w rs:=by
 obtain⟨r,rs',rfl,h1,R2⟩:=R.uncons
 obtain⟨r',rfl,h2⟩:=R2.one
 exact⟨r,r',rfl,h1,h2⟩
theorem RepL.of_get{h:Heap}:∀{l:List V}{rs:List Value},rs.length=l.length->(∀(i:Nat) v r,l[i]?=some v->rs[i]?=some r->Rep c φ h v r)->RepL c φ h l rs:=by
 intro l
 induction l with
 |nil=>intro rs h _;exact zbw.mp h
 |cons x xs ih=>
  intro rs h hh
  cases rs with
  |nil=>exact nomatch h
  |cons r rs=>exact⟨hh 0 x r rfl rfl,ih (Nat.succ.inj h) fun i v r h1 h2=>hh (i+1) v r h1 h2⟩
theorem zop{α:Type}{R:α->α->Prop}(anti:∀x y,R x y->R y x->x=y):∀{a b:List α},a.Perm b->a.Pairwise R->b.Pairwise R->a=b
 |[],b,h,_,_=>(List.nil_perm.mp h).symm
 |x::a,[],h,_,_=>absurd h.length_eq (by simp)
 |x::a,y::b,h,ha,hb=>by
  rw[List.pairwise_cons] at ha hb
  have e:x=y:=by
   rcases zal.mp (h.mem_iff.mp zae) with e |hx
   ·exact e
   ·rcases zal.mp (h.mem_iff.mpr zae) with e |hy
    ·exact e.symm
    ·exact anti x y (ha.1 y hy) (hb.1 x hx)
  subst e
  rw[zop anti h.cons_inv ha.2 hb.2]
theorem zwd{v:V}{p:Int×Int}(h:pair1 v=some p):v=zko p:=by
 obtain⟨l,h1,f⟩:=zad.mp h
 obtain rfl:=zgi h1
 cases LV.of l with
 |two x y=>
  obtain⟨a,b,rfl,rfl,g⟩:=zfe f
  obtain rfl:=zaa g
  rfl
 |_=>cases f
theorem zl2:∀{xs:List V}{l:List (Int×Int)},zlq xs=some l->xs=l.map zko
 |[],l,h=>by obtain rfl:=zaa h;rfl
 |x::r,l,h=>by
  obtain⟨p,l',h1,h2,rfl⟩:=zdj h
  rw[zl2 h2,zwd h1];rfl
theorem lexK{a b c d:Int}(hb : -2147483648<b/\b<2147483648)(hd : -2147483648<d/\d<2147483648):4294967296*a+b<4294967296*c+d↔a<c\/(a=c/\b<d):=⟨fun h=>by exact Ar.ar3 [] [_,_,_,_] 0x10e5294001840600c200006000000000800000000820314a528003080a01840600c203806000000000800000000800294001840000c2010000 (Y7 (Y4 V0 V1) (Y6 (Y5 V0 V1) (Y4 V2 V3))) (Y4 (Y3 (.l 2147483648) J0) V2) (Y4 V3 (.l 2147483648)) (Y4 (Y0 (Y1 (.l 4294967296) V0) V2) (Y0 (Y1 (.l 4294967296) V1) V3)) hb.1 hd.2 h,fun h=>by exact Ar.ar3 [] [_,_,_,_] 0x490a52800308060180000000020000000020006100400014a528003080201840200c201806000000000800000000800 (Y4 (Y0 (Y1 (.l 4294967296) V0) V1) (Y0 (Y1 (.l 4294967296) V2) V3)) (Y4 V1 (.l 2147483648)) (Y4 (Y3 (.l 2147483648) J0) V3) (Y7 (Y4 V0 V2) (Y6 (Y5 V0 V2) (Y4 V1 V3))) hb.2 hd.1 h⟩
theorem injK{a b c d:Int}(hb : -2147483648<b/\b<2147483648)(hd : -2147483648<d/\d<2147483648)(h:4294967296*a+b=4294967296*c+d):a=c/\b=d:=by
 have e:a=c:=by exact Ar.ar5 [] [_,_,_,_] 0x18a5294001840200c20280610180300000000040000000040014a5280030806018404010203006000000000800000000800 (Y5 V0 V1) (Y4 (Y3 (.l 2147483648) J0) V2) (Y4 V2 (.l 2147483648)) (Y4 (Y3 (.l 2147483648) J0) V3) (Y4 V3 (.l 2147483648)) (Y5 (Y0 (Y1 (.l 4294967296) V0) V2) (Y0 (Y1 (.l 4294967296) V1) V3)) hb.1 hb.2 hd.1 hd.2 h
 exact⟨e,by exact Ar.ar2 [] [_,_,_,_] 0x18a52800308040200000000020000000021806100005294002040200c0000000010000000010c0308000 (Y5 V0 V1) (Y5 (Y0 (Y1 (.l 4294967296) V2) V0) (Y0 (Y1 (.l 4294967296) V3) V1)) (Y5 V2 V3) h e⟩
theorem bndK{b:Int}(h:b.natAbs<2147483648) : -2147483648<b/\b<2147483648:=by exact Ar.ar2 [_] [_] 0x1924294001840300c2008000214a50006101403080602040000009214a50006101403080602040000004294001840300c2008000 (Y6 (Y4 (Y3 (.l 2147483648) J0) V0) (Y4 V0 (.l 2147483648))) (Y1 V0 (.l 2147483648)) (Y7 (Y6 (Y5 (Y4 V0 J0) V0) (Y3 J0 V0)) (Y6 (Y5 (Y4 V0 J0) (Y3 V0 J0)) (Y3 V0 J0))) h (Ar.na _)
theorem lt3{a b c d e f:Int}(h1:a<c\/(a=c/\b<=d))(h2:c<e\/(c=e/\d<=f)):a<e\/(a=e/\b<=f):=by exact Ar.ar2 [] [_,_,_,_,_,_] 0x7490e4214a5000610100308060184010140401884294a000c20200610080308000300a0294001840000c2010040210a528003080801840200c200006010124214a50006101403080401840000802010a528003080601840200c2000040 (Y7 (Y4 V0 V1) (Y6 (Y5 V0 V1) (Y3 V2 V3))) (Y7 (Y4 V0 V4) (Y6 (Y5 V0 V4) (Y3 V2 V5))) (Y7 (Y4 V4 V1) (Y6 (Y5 V4 V1) (Y3 V5 V3))) h1 h2
theorem lt2{a b c d:Int}(h1:a<c\/(a=c/\b<=d))(h2:c<a\/(c=a/\d<=b)):a=c/\b=d:=by
 have e:a=c:=by exact Ar.ar2 [] [_,_,_,_] 0x6410a50006100c0308000000a5000610040308000490a50006100c0308000000a5000610040308000 (Y5 V0 V1) (Y7 (Y4 V0 V1) (Y6 (Y5 V0 V1) (Y3 V2 V3))) (Y7 (Y4 V1 V0) (Y6 (Y5 V1 V0) (Y3 V3 V2))) h1 h2
 exact⟨e,by exact Ar.ar3 [] [_,_,_,_] 0x6410a50006100c0308020000a5000810140308000490a50006100c0308020000a5000610140308000 (Y5 V0 V1) (Y7 (Y4 V2 V3) (Y6 (Y5 V2 V3) (Y3 V0 V1))) (Y7 (Y4 V3 V2) (Y6 (Y5 V3 V2) (Y3 V1 V0))) (Y5 V2 V3) h1 h2 e⟩
theorem lt1(a b c d:Int):(a<c\/(a=c/\b<=d))\/(c<a\/(c=a/\d<=b)):=by exact Ar.ar0 [] [_,_,_,_] 0x84390e5280030806018400018a50006100003080a0294001840000c2010080310a5000610080308000280a500061000030804000000 (Y7 (Y7 (Y4 V0 V1) (Y6 (Y5 V0 V1) (Y3 V2 V3))) (Y7 (Y4 V1 V0) (Y6 (Y5 V1 V0) (Y3 V3 V2))))
theorem leP{x y:Int×Int}:zft x y=true↔x.1<y.1\/(x.1=y.1/\x.2<=y.2):=by simp[zft]
theorem leP_anti{x y:Int×Int}(h1:x.1<y.1\/(x.1=y.1/\x.2<=y.2))(h2:y.1<x.1\/(y.1=x.1/\y.2<=x.2)):x=y:=Prod.ext (lt2 h1 h2).1 (lt2 h1 h2).2
theorem zuw{x y z:Int×Int}(h1:x.1<y.1\/(x.1=y.1/\x.2<=y.2))(h2:y.1<z.1\/(y.1=z.1/\y.2<=z.2)):x.1<z.1\/(x.1=z.1/\x.2<=z.2):=lt3 h1 h2
theorem zwt(x y:Int×Int):(zft x y||zft y x)=true:=zb2.mpr ((lt1 x.1 x.2 y.1 y.2).imp leP.mpr leP.mpr)
noncomputable def pkey(l:List (Int×Int))(i:Nat):Int:=4294967296*(l.getD i (0,0)).1+(l.getD i (0,0)).2
theorem RepL.maps{h:Heap}{f:Nat->V}{g:Nat->Value}:∀{is:List Nat},(∀i∈is,Rep c φ h (f i) (g i))->RepL c φ h (is.map f) (is.map g)
 |[],_=>rfl
 |i::r,hh=>⟨hh i zae,RepL.maps fun j hj=>hh j (zai _ hj)⟩
theorem zw6{h:Heap}{p:Int×Int}{v:Value}(R:Rep c φ h (zko p) v):PairAt h v p.1 p.2:=by
 obtain⟨x,o,ws,n,hr,_,ho,hc,hd,_,hR⟩:=R
 obtain⟨r,r',e,⟨t,rfl⟩,⟨u,rfl⟩⟩:=hR.two
 refine⟨x,o,t,u,n,hr,ho,hc,?_⟩
 rw[hd]
 congr 1
 exact Array.toList_inj.mp e
theorem PairAt.mono{h h':Heap}{v:Value}{a b:Int}(hk:∀b o,h.get? b=some o->h'.get? b=some o)(p:PairAt h v a b):PairAt h' v a b:=
 let⟨x,o,t,u,n,h1,h2,h3,h4⟩:=p;⟨x,o,t,u,n,h1,hk _ _ h2,h3,h4⟩
theorem zq2{h h':Heap}(hk:∀b o,h.get? b=some o->h'.get? b=some o):∀{l:List (Int×Int)}{vs:List Value},RepL c φ h (l.map zko) vs->Pairs h' vs l
 |[],vs,R=>by rw[R.nil_inv];trivial
 |p::l,vs,R=>by
  rw[zbg] at R
  obtain⟨r,rs,rfl,h1,h2⟩:=R.uncons
  exact⟨(zw6 h1).mono hk,zq2 hk h2⟩
theorem ziw{A:Around}{E:Value->Shared->Prop}{s:Shared}{a:Addr}{l:List (Int×Int)}{vs:List Value}{Q:Value->Shared->Prop}(R:RepL c φ s.heap (l.map zko) vs)(hl:s.heap.IsList a vs.toArray)(hok:zn8 l=true)
  (h:∀h' c' out,(∀b o,s.heap.get? b=some o->h'.get? b=some o)->h'.get? (s.heap.objs.size+1)=some (seqObj "list" (List.toArray out) c')->RepL c φ s.heap ((l.mergeSort zft).map zko) out->Q (.ref (s.heap.objs.size+1)) { s with heap:=h' }) :
  wpAny (model c.prog c.w) A (call (.builtin "sorted") [.ref a]) Q E s:=by
 have hlen:vs.length=l.length:=by rw[R.length,zac]
 simp only[zn8,Bool.and_eq_true,decide_eq_true_eq,za5] at hok
 obtain⟨⟨h64,hnd⟩,hsm⟩:=hok
 have gl:∀{i:Nat},i<l.length->l[i]?=some (l.getD i (0,0)):=fun{i} hi=>by simp[zas,hi]
 have gm:∀{i:Nat},i<l.length->l.getD i (0,0)∈l:=fun{i} hi=>zax (gl hi)
 have at':∀{i:Nat},i<l.length->Rep c φ s.heap (zko (l.getD i (0,0))) (vs.getD i Value.none):=by
  intro i hi
  obtain⟨r,h1,h2⟩:=R.get (i:=i) (v:=zko (l.getD i (0,0))) (by rw[zan,gl hi];rfl)
  have e:vs.getD i Value.none=r:=by rw[zas,h1];rfl
  rw[e];exact h2
 have ob:∀{i:Nat},i<l.length->PairAt s.heap (vs.getD i Value.none) (l.getD i (0,0)).1 (l.getD i (0,0)).2:=fun{i} hi=>zw6 (at' hi)
 have key:∀i j,i<l.length->j<l.length->pkey l i=pkey l j->i=j:=by
  intro i j hi hj e
  have e0:=injK (bndK (hsm _ (gm hi)).2) (bndK (hsm _ (gm hj)).2) e
  have e3:l.getD i (0,0)=l.getD j (0,0):=Prod.ext e0.1 e0.2
  have e4:l[i]=l[j]:=by simpa[zas,hi,hj] using e3
  exact(List.getElem_inj hnd).mp e4
 have lex:∀i j,i<l.length->j<l.length->(decide ((l.getD i (0,0)).1<(l.getD j (0,0)).1)||(decide ((l.getD i (0,0)).1=(l.getD j (0,0)).1)&&decide ((l.getD i (0,0)).2<(l.getD j (0,0)).2)))=ltK (pkey l) i j:=by
  intro i j hi hj
  rw[Bool.eq_iff_iff,ltK,decide_eq_true_eq]
  simp only[Bool.or_eq_true,Bool.and_eq_true,decide_eq_true_eq]
  exact(lexK (bndK (hsm _ (gm hi)).2) (bndK (hsm _ (gm hj)).2)).symm
 refine zj8 (κ:=tuples' true) (key:=pkey l) hl (by exact Ar.ar2 [_,_] [] 0x294a000c20000610040308040 (Y1 V0 (.l 64)) (Y2 V0 V1) (Y1 V1 (.l 64)) hlen h64) (by rw[hlen];exact key) (fun h2 h' hk=>⟨fun Q E hq=>kind_ok (ps:=l) ?_ (by exact Ar.ar2 [_,_] [] 0x294a000c20000610040308040 (Y1 J0 V0) (Y2 V1 V0) (Y0 J2 V1) hlen h2) hq,fun i j hi hj Q E hq=>?_⟩) fun h' c' p hk hg s1 s2=>?_
 ·exact zq2 hk R
 ·rw[hlen] at hi hj
  exact lt_pair (PairAt.mono hk (ob hi)) (PairAt.mono hk (ob hj)) (by rw[lex i j hi hj];exact hq)
 ·rw[hlen] at s1 s2
  have hlt:∀i∈p.toList,i<l.length:=fun i hi=>by simpa using s1.mem_iff.mp hi
  have hsort:l.mergeSort zft=p.toList.map fun i=>l.getD i (0,0):=by
   refine zop (R:=fun a b=>zft a b=true) ?_ ?_ ?_ ?_
   ·intro x y h1 h2
    exact leP_anti (leP.mp h1) (leP.mp h2)
   ·have e0:(List.range l.length).map (fun i=>l.getD i (0,0))=l:=by
     apply List.ext_getElem?
     intro i
     rw[zan]
     by_cases hi:i<l.length
     ·rw[zbl hi,gl hi];rfl
     ·rw[zbq (by simpa using hi),zbq (by simpa using hi)];rfl
    have:=(List.Perm.map (fun i=>l.getD i (0,0)) s1).symm
    rw[e0] at this
    exact(List.mergeSort_perm l zft).trans this
   ·refine List.pairwise_mergeSort ?_ ?_ l
    ·exact fun a b c h1 h2=>leP.mpr (zuw (leP.mp h1) (leP.mp h2))
    ·exact zwt
   ·rw[List.pairwise_map,List.pairwise_iff_getElem]
    intro i j hi hj hij
    have hsz:=s1.size
    have:=s2 i j hij (by simpa[hsz] using hj)
    have ei:ge0 p i=p.toList[i]:=by rw[zep,<-zcb,zam hi];rfl
    have ej:ge0 p j=p.toList[j]:=by rw[zep,<-zcb,zam hj];rfl
    rw[ei,ej] at this
    exact leP.mpr (((lexK (bndK (hsm _ (gm (hlt _ (List.getElem_mem hi)))).2) (bndK (hsm _ (gm (hlt _ (List.getElem_mem hj)))).2)).mp this).imp id fun h=>⟨h.1,Int.le_of_lt h.2⟩)
  refine h h' c' _ hk hg ?_
  rw[hsort,za0]
  exact RepL.maps fun i hi=>at' (hlt i hi)
end
end Bn
namespace Bn
open PySem PyProof.Rows
section
variable {c:Cx}{A:Around}{q:Bool}{d:Nat}{φ:List Addr}{H H':Hp}{s:Shared}
theorem Out.kept{v:V}{r:Value}{h':Heap}{t:Nat}(S:Sim c φ H s)(hk:∀b o,s.heap.get? b=some o->h'.get? b=some o)(R:Rep c φ s.heap v r):Out c φ s (fun x H'=>x=v/\H'=H) r { s with heap:=h',toks:=t }:=by
 have e:Ext [] φ s φ { s with heap:=h',toks:=t }:=Ext.of_keeps (s':={ s with heap:=h',toks:=t }) hk rfl
 exact⟨φ,H,v,e,S.keeps (s':={ s with heap:=h',toks:=t }) hk rfl,Rep.mono e.toKp OwnX.nil R,rfl,rfl⟩
theorem zm5(S:Sim c φ H s){a:Addr}{xs:List V}{vs:Array Value}{n:Nat}{h':Heap}{t:Nat}(hk:∀b o,s.heap.get? b=some o->h'.get? b=some o)(ha:s.heap.get? a=none)(hn:h'.get? a=some (lobj vs n))(hr:RepL c φ s.heap xs vs.toList)(hz:xs.length<=sizeLine) :
  Out c φ s (fun x H'=>x=.lst H.length/\H'=H++[xs]) (.ref a) { s with heap:=h',toks:=t }:=by
 have e:Ext [] φ s φ { s with heap:=h',toks:=t }:=Ext.of_keeps (s':={ s with heap:=h',toks:=t }) hk rfl
 have S':Sim c φ H { s with heap:=h',toks:=t }:=S.keeps (s':={ s with heap:=h',toks:=t }) hk rfl
 have haφ:a∉φ:=fun hm=>by obtain⟨o,ho,_⟩:=S.isList hm;rw[ha] at ho;cases ho
 have h0:c.h0.get? a=none:=by
  cases hq:c.h0.get? a with
  |none=>rfl
  |some o=>have:=S.stays a o hq;rw[ha] at this;cases this
 refine⟨φ++[a],H++[xs],.lst H.length,?_,S'.adopt (o:=lobj vs n) haφ h0 hn rfl rfl ⟨rfl,rfl⟩ (RepL.mono e.toKp OwnX.nil hr) hz,?_,rfl,rfl⟩
 ·exact{ e with
   pre:=List.prefix_append _ _
   new:=fun b hb=>(zau.mp hb).elim .inl fun h=>.inr (by rw[zah.mp h];exact ha) }
 ·exact LstAt.mk a rfl (by rw[zbv (zbc S.len)];simp[S.len])
noncomputable def Bl.real:Bl->Value
 |.len=>.builtin "len" |.max=>.builtin "max" |.min=>.builtin "min" |.range=>.type "range" |.list=>.type "list" |.all=>.builtin "all"
 |.tuple=>.type "tuple"
 |.sorted=>.builtin "sorted"
 |.int=>.type "int"
theorem zf8(lo hi st:Int):(zdw lo hi st).length=if 0<st/\lo<hi then((hi-lo-1)/st+1).toNat else 0:=by simp[zdw]
theorem zss(lo hi st:Int){i:Nat}(h:i<(zdw lo hi st).length):(zdw lo hi st)[i]?=some (.int (lo+i*st)):=by
 simp only[zdw,zan] at h ⊢
 rw[zbl (by simpa using h)];rfl
theorem zp7{h:Heap}{lo hi st:Int}{acc:Array Value}(hi':ItemsOf (fun i v=>∃t,v=.int (lo+i*st) t) acc (zdw lo hi st).length):RepL c φ h (zdw lo hi st) acc.toList:=by
 refine RepL.of_get (by rw[zbe,hi'.1]) fun i v r h1 h2=>?_
 have hlt:=(zbi.mp h1).1
 rw[zss _ _ _ hlt] at h1
 cases h1
 obtain⟨t,rfl⟩:=hi'.2 i r (zjd h2)
 exact rI
theorem zgf(lo hi st:Int)(h:0<st):Builtin.Range.rangeSize lo hi st=((zdw lo hi st).length:Nat):=by
 rw[zf8]
 unfold Builtin.Range.rangeSize
 rw[if_pos h]
 by_cases hl:lo<hi
 ·rw[if_pos hl,if_pos ⟨h,hl⟩]
  have:0<=(hi-lo-1)/st:=Int.ediv_nonneg (by exact Ar.ar1 [] [_,_] 0xa5000610000308020 (Y3 J0 (Y2 (Y2 V0 V1) J1)) (Y4 V1 V0) hl) (by exact Ar.ar1 [] [_] 0xa5000610000308020 (Y3 J0 V0) (Y4 J0 V0) h)
  exact Ar.ar2 [_] [_] 0x6490a5000610140308000000a5000610040408000490a5000610140308000000a5000610040308000 (Y5 (Y0 V0 J1) (Y4 V0 J0)) (Y3 J0 V0) (Y7 (Y5 (Y4 V0 J0) (Y0 V0 J1)) (Y6 (Y3 (Y0 V0 J1) J0) (Y2 V0 J0))) this (Ar.tn _)
 ·rw[if_neg hl,if_neg (fun q=>hl q.2)];rfl
theorem zla{lo hi st:Int}(h:lo.natAbs<2^31/\hi.natAbs<2^31/\0<st/\st<2^31):Builtin.Range.small lo hi st=true:=by
 have hsz:=zgf lo hi st h.2.2.1
 have hle:(zdw lo hi st).length<=2^33:=by
  rw[zf8]
  split
  ·rename_i hl
   have:(hi-lo-1)/st<=hi-lo-1:=Int.ediv_le_self _ (by exact Ar.ar1 [] [_,_] 0xa5000610000308020 (Y3 J0 (Y2 (Y2 V0 V1) J1)) (Y4 V1 V0) hl.2)
   exact Ar.ar6 [_,_,_] [_,_,_] 0xa214a000c201806100400031c4214a5294a000c203806102003081401840601020100610040200404214a5294a50006101c03081001840900c20500610180408040204000080103884294a528003080e01840a00c203006100c030802010020210a5294a50006101c03081201840a00c203006100c040800010020 (Y0 V0 (.l 8589934592)) (Y1 V1 (.l 2147483648)) (Y1 V2 (.l 2147483648)) (Y3 V0 (Y2 (Y2 V1 V2) J1)) (Y7 (Y5 (Y4 V0 J0) (Y0 V0 J1)) (Y6 (Y3 (Y0 V0 J1) J0) (Y2 V0 J0))) (Y7 (Y6 (Y5 (Y4 V1 J0) V2) (Y3 J0 V2)) (Y6 (Y5 (Y4 V1 J0) (Y3 V2 J0)) (Y3 V2 J0))) (Y7 (Y6 (Y5 (Y4 V2 J0) V1) (Y3 J0 V1)) (Y6 (Y5 (Y4 V2 J0) (Y3 V1 J0)) (Y3 V1 J0))) h.1 h.2.1 this (Ar.tn _) (Ar.na _) (Ar.na _)
  ·exact Ar.ar0 [] [] 171801870336 (Y0 J0 (.l 8589934592))
 unfold Builtin.Range.small Builtin.Range.rangeFitsLong
 rw[hsz]
 simp only[Bool.and_eq_true,Bool.or_eq_true,decide_eq_true_eq,gt_iff_lt,h.2.2.1,if_true]
 refine⟨⟨⟨⟨?_,?_⟩,?_⟩,?_⟩,.inr ?_⟩<;>first |omega |(constructor<;>omega)
theorem zuz(ll:List Bool):(List.range ll.length).all (fun i=>(ll[i]?).getD true)=ll.all id:=by
 rw[Bool.eq_iff_iff]
 simp only[za5,za4]
 constructor
 ·intro h x hx
  obtain⟨i,hi,rfl⟩:=zca.mp hx
  have:=h i hi
  rw[zam hi] at this
  simpa using this
 ·intro h i hi
  rw[zam hi]
  exact h _ (List.getElem_mem hi)
noncomputable def HasB(c:Cx)(A:Around)(φ:List Addr)(s:Shared)(b:Bl)(rs:List Value)(p:V×Hp):Prop:=Does c A φ s (call b.real rs) p.1 p.2
theorem do_len(S:Sim c φ H s){x:V}{p:V×Hp}{r:Value}(R:Rep c φ s.heap x r)(e:lenV H x=some p):HasB c A φ s .len [r] p:=by
 intro E
 have hsl:sizeLine=2^24:=rfl
 cases x with
 |lst i=>
  obtain⟨xs,e1,rfl⟩:=zaj.mp e
  obtain⟨a,ws,n,rfl,_,ho,hr,hz,z⟩:=S.getP R e1
  rw[<- z]
  exact len_list (zdi ho) (by exact Ar.ar4 [_,_,_] [_] 0x294a528003080001840100c201006100c0408080 (Y4 (Y4 V0 J0) V0) (Y2 V1 (.l 16777216)) (Y0 V2 V1) (Y2 V0 V2) (Y5 V0 (.l 9223372036854775808)) hsl hz z (Ar.p63)) (Out.same S rI)
 |tup l=>
  obtain rfl:=zaa e
  obtain⟨a,o,ws,n,rfl,_,ho,hc,hd,hz,hr⟩:=R
  have z:=hr.length;rw[zbe] at z
  rw[<- z]
  exact PyProof.Rows.len_tuple ⟨o,ho,hc,n,hd⟩ (by exact Ar.ar4 [_,_,_] [_] 0x294a528003080001840100c201006100c0408080 (Y4 (Y4 V0 J0) V0) (Y2 V1 (.l 16777216)) (Y0 V2 V1) (Y2 V0 V2) (Y5 V0 (.l 9223372036854775808)) hsl hz z (Ar.p63)) (Out.same S rI)
 |scr l=>
  obtain rfl:=zaa e
  obtain⟨a,o,ws,n,rfl,_,_,ho,hc,hd,hz,hr⟩:=R
  have z:=hr.length;rw[zbe] at z
  rw[<- z]
  exact len_list ⟨o,ho,hc,n,hd⟩ (by exact Ar.ar4 [_,_,_] [_] 0x294a528003080001840100c201006100c0408080 (Y4 (Y4 V0 J0) V0) (Y2 V1 (.l 16777216)) (Y0 V2 V1) (Y2 V0 V2) (Y5 V0 (.l 9223372036854775808)) hsl hz z (Ar.p63)) (Out.same S rI)
 |str l=>
  obtain⟨hz,rfl⟩:=iteS e
  obtain⟨t,rfl⟩:=R
  exact P.len_str (by exact Ar.ar3 [_,_] [_] 0x4294a50006100803080602040400c2000000 (Y8 (Y3 V0 (Y4 V0 J0)) J0) (Y2 V1 (.l 16777216)) (Y0 V0 V1) (Y5 V0 (.l 9223372036854775808)) hsl hz (Ar.p63)) (Out.same S rI)
 |_=>cases e
theorem ints1{rs:List Value}{a:Int}(h:IntsAre rs [a]):∃t,rs=[.int a t]:=by
 cases h with |cons _ t h=>cases h;exact⟨t,rfl⟩
theorem ints2{rs:List Value}{a b:Int}(h:IntsAre rs [a,b]):∃t u,rs=[.int a t,.int b u]:=by
 cases h with |cons _ t h=>obtain⟨u,rfl⟩:=ints1 h;exact⟨t,u,rfl⟩
theorem ints3{rs:List Value}{a b d:Int}(h:IntsAre rs [a,b,d]):∃t u v,rs=[.int a t,.int b u,.int d v]:=by
 cases h with |cons _ t h=>obtain⟨u,v,rfl⟩:=ints2 h;exact⟨t,u,v,rfl⟩
theorem zms{h:Heap}{p:Prop} [Decidable p]{a b:Int}{t u:Tok}:Rep c φ h (.int (if p then a else b)) (if p then .int a t else .int b u):=by
 by_cases q:p
 ·rw[if_pos q,if_pos q];exact rI
 ·rw[if_neg q,if_neg q];exact rI
theorem do_max(hh:A.handled=none)(S:Sim c φ H s){vs:List V}{p:V×Hp}{rs:List Value}(R:RepL c φ s.heap vs rs)(e:maxV H vs=some p):HasB c A φ s .max rs p:=by
 intro E
 obtain⟨l,h1,f⟩:=zad.mp e
 have hi:=zfs R h1
 cases LV.of l with
 |two a b=>
  obtain rfl:=zaa f
  obtain⟨t,u,rfl⟩:=ints2 hi
  exact max_two_ints hh fun h' tk hk=>Out.kept S hk zms
 |three a b d=>
  obtain rfl:=zaa f
  obtain⟨t,u,v,rfl⟩:=ints3 hi
  refine max_three_ints hh fun h' tk hk=>Out.kept S hk ?_
  by_cases h:a<b
  ·rw[if_pos h,if_pos (show b>a from h)];exact zms
  ·rw[if_neg h,if_neg (show ¬b>a from h)];exact zms
 |_=>cases f
theorem do_min(hh:A.handled=none)(S:Sim c φ H s){vs:List V}{p:V×Hp}{rs:List Value}(R:RepL c φ s.heap vs rs)(e:minV H vs=some p):HasB c A φ s .min rs p:=by
 intro E
 obtain⟨l,h1,f⟩:=zad.mp e
 have hi:=zfs R h1
 cases LV.of l with
 |two a b=>
  obtain rfl:=zaa f
  obtain⟨t,u,rfl⟩:=ints2 hi
  exact min_two_ints hh fun h' tk hk=>Out.kept S hk zms
 |_=>cases f
theorem do_range(hpl:PySem.PylongRoom (model c.prog c.w) A s)(S:Sim c φ H s){vs:List V}{p:V×Hp}{rs:List Value}(R:RepL c φ s.heap vs rs)(e:rngV H vs=some p):HasB c A φ s .range rs p:=by
 intro E
 obtain⟨l,h1,f⟩:=zad.mp e
 have hi:=zfs R h1
 cases LV.of l with
 |one n=>
  obtain⟨hz,rfl⟩:=iteS f
  obtain⟨t,rfl⟩:=ints1 hi
  exact call_range_1 ⟨φ,H,.rng 0 n 1,(Ext.push (o:={ cls:=.type "range",data:=.fields #[.int 0 s.toks,.int _ t,.int 1 (s.toks+1)] })).trans (Ext.of_heap rfl rfl),(S.push _).tok _,RngAt.mk _ _ _ _ rfl S.new (Heap.get?_push_size _ rfl) ⟨by decide,hz,by decide,by decide⟩,rfl,rfl⟩
 |two a b=>
  obtain⟨hz,rfl⟩:=iteS f
  obtain⟨t,u,rfl⟩:=ints2 hi
  exact call_range_2 ⟨φ,H,.rng a b 1,(Ext.push (o:={ cls:=.type "range",data:=.fields #[.int _ t,.int _ u,.int 1 s.toks] })).trans (Ext.of_heap rfl rfl),(S.push _).tok _,RngAt.mk _ _ _ _ rfl S.new (Heap.get?_push_size _ rfl) ⟨hz.1,hz.2,by decide,by decide⟩,rfl,rfl⟩
 |three a b d=>
  obtain⟨hz,rfl⟩:=iteS f
  obtain⟨t,u,v,rfl⟩:=ints3 hi
  exact call_range_3 (by exact Ar.ar1 [] [_] 0x4294001840200c2000000 (Y8 (Y5 V0 J0) J0) (Y4 J0 V0) hz.2.2.1) ⟨φ,H,.rng a b d,(Ext.push (o:={ cls:=.type "range",data:=.fields #[.int _ t,.int _ u,.int _ v] })).trans (Ext.of_heap rfl rfl),(S.push _).tok _,RngAt.mk _ _ _ _ rfl S.new (Heap.get?_push_size _ rfl) hz,rfl,rfl⟩ (Or.inr hpl)
 |_=>cases f
theorem do_list(hh:A.handled=none)(S:Sim c φ H s){x:V}{p:V×Hp}{r:Value}(RR:Rep c φ s.heap x r)(e:listV H x=some p):HasB c A φ s .list [r] p:=by
 intro E
 have hsl:sizeLine=2^24:=rfl
 cases x with
 |lst i=>
  obtain⟨xs,e1,rfl⟩:=zaj.mp e
  obtain⟨a,ws,n,rfl,_,ho,hr,hz,z⟩:=S.getP RR e1
  refine call_list_seq a (.inl rfl) ho rfl rfl (fun h' c' hk hn=>?_) (by exact Ar.ar2 [_,_,_] [] 0x294a000c20000610040308040 (Y0 V0 V1) (Y0 V2 V1) (Y2 V0 V2) hz z)
  exact zm5 (t:=s.toks) S hk (Heap.get?_none_of_le (zaf _)) hn hr hz
 |rng lo hi st=>
  obtain⟨hz,rfl⟩:=iteS e
  obtain⟨a,t,u,v,rfl,_,hr,hb⟩:=RR
  exact call_list_range hh hr (zla hb) (zgf lo hi st hb.2.2.1) hz fun h' tk acc' c' hk hn hi'=>zm5 S hk (Heap.get?_none_of_le (zaf _)) hn (zp7 hi') hz
 |_=>cases e
theorem do_tuple(hh:A.handled=none)(S:Sim c φ H s){x:V}{p:V×Hp}{r:Value}(RR:Rep c φ s.heap x r)(e:tupleV H x=some p):HasB c A φ s .tuple [r] p:=by
 intro E
 have hsl:sizeLine=2^24:=rfl
 cases x with
 |lst i=>
  obtain⟨xs,e1,rfl⟩:=zaj.mp e
  obtain⟨a,ws,n,rfl,_,ho,hr,hz,z⟩:=S.getP RR e1
  refine call_tuple_list (zdi ho) (fun h' hk=>?_) (by exact Ar.ar2 [_,_,_] [] 0x294a000c20000610040308040 (Y0 V0 V1) (Y0 V2 V1) (Y2 V0 V2) hz z)
  have e1:Ext [] φ s φ { s with heap:=h' }:=Ext.of_keeps (s':={ s with heap:=h' }) hk rfl
  exact Out.lift e1 (zjh (S.keeps (s':={ s with heap:=h' }) hk rfl) (RepL.mono e1.toKp OwnX.nil hr) hz)
 |_=>cases e
theorem do_all(hh:A.handled=none)(S:Sim c φ H s){ll:List Bool}{xs:List V}{i:Nat}{r:Value}(RR:Rep c φ s.heap (.lst i) r)(e2:H[i]?=some xs)(e3:zkt xs=some ll):HasB c A φ s .all [r] (.bool (ll.all id),H):=by
 intro E
 obtain⟨a,ws,n,rfl,_,ho,hr,hz,z⟩:=S.getP RR e2
 have hL:=zdi ho
 have hi:=zme hr e3
 have hlt:a<s.heap.objs.size:=Heap.lt_size ho
 refine call_all_walk (wpAny_pyIter_list hL ?_)
 refine⟨s.heap.objs.size,[s.heap.objs.size,a],[s.heap.objs.size],ws.size,_,_,fun i=>(ll[i]?).getD true,rfl,Walks.list (A:=A.in1) hh _ a (za3 hlt) ws,
  ⟨⟨_,Heap.get?_push_size _ rfl,rfl,rfl⟩,hL.push _⟩,?_,?_⟩
 ·intro i v s' Q E' hv hQ
  have h1:ws.toList[i]?=some v:=by rw[zcb];exact hv
  rw[hi,zan] at h1
  obtain⟨bb,h2,rfl⟩:=zaj.mp h1
  dsimp only at hQ
  rw[h2] at hQ
  exact wpAny_truthy_bool hQ
 ·intro h' tk hk
  have hlen:ws.size=ll.length:=by rw[<- zbe,hi];simp
  have:(List.range ws.size).all (fun i=>(ll[i]?).getD true)=ll.all id:=by rw[hlen,zuz]
  rw[this]
  refine Out.kept S (fun b o hb=>hk b o ?_ (Heap.get?_push_of_some _ hb)) rB
  simp only[zah]
  exact za3 (Heap.lt_size hb)
theorem zw7(S:Sim c φ H s){ll:List (Int×Int)}{xs:List V}{i:Nat}{r:Value}(RR:Rep c φ s.heap (.lst i) r)(e2:H[i]?=some xs)(e3:zlq xs=some ll)(hok:zn8 ll=true):HasB c A φ s .sorted [r] (.lst H.length,H++[(ll.mergeSort zft).map zko]):=by
 intro E
 obtain⟨a,ws,n,rfl,_,ho,hr,hz,z⟩:=S.getP RR e2
 obtain rfl:=zl2 e3
 refine ziw (vs:=ws.toList) hr (by rw[Array.toArray_toList];exact zdi ho) hok fun h' c' out hk hn hR=>?_
 exact zm5 (t:=s.toks) S hk (Heap.get?_none_of_le (Nat.le_succ _)) hn hR (by rw[zac,List.length_mergeSort];rw[zac] at hz;exact hz)
theorem do_blt (O:c.Ok) (hA:OkF c A true d φ s.heap) (S:Sim c φ H s) {b:Bl} {vs:List V} {p:V×Hp} {rs:List Value} (R:RepL c φ s.heap vs rs)
  (e:bltV H b vs=some p):DoesP c A φ s (call b.real rs) p:=by
 have hh:=hA.hd rfl
 cases b with
 |len=>
  obtain⟨x,rfl,f⟩:=zeu e
  obtain⟨r,rfl,RR⟩:=R.one
  exact do_len S RR f
 |max=>exact do_max hh S R e
 |min=>exact do_min hh S R e
 |range=>exact do_range (PySem.PylongRoom.of (S.lim O) (by have:=hA.dep;show _+100<1000;exact Ar.ar1 [_,_] [] 0xa5000610000308020 (Y1 (Y0 V0 (.l 100)) (.l 1000)) (Y0 (Y0 V0 V1) (.l 890)) this) (hA.seer O S)) S R e
 |list=>
  obtain⟨x,rfl,f⟩:=zeu e
  obtain⟨r,rfl,RR⟩:=R.one
  exact do_list hh S RR f
 |tuple=>
  obtain⟨x,rfl,f⟩:=zeu e
  obtain⟨r,rfl,RR⟩:=R.one
  exact do_tuple hh S RR f
 |all=>
  obtain⟨x,rfl,f⟩:=zeu e
  obtain⟨r,rfl,RR⟩:=R.one
  obtain⟨a,xs,rfl,e2,g⟩:=zgt f
  obtain⟨l,e3,rfl⟩:=zaj.mp g
  exact do_all hh S RR e2 e3
 |sorted=>
  obtain⟨x,rfl,f⟩:=zeu e
  obtain⟨r,rfl,RR⟩:=R.one
  obtain⟨a,xs,rfl,e2,g⟩:=zgt f
  obtain⟨l,e3,k⟩:=zad.mp g
  obtain⟨hs,rfl⟩:=iteS k
  exact zw7 S RR e2 e3 hs
 |int=>
  obtain⟨x,rfl,f⟩:=zeu e
  obtain⟨r,rfl,RR⟩:=R.one
  obtain⟨b,hb,rfl⟩:=zaj.mp f
  obtain rfl:=zel hb
  obtain rfl:=RR
  exact fun E=>call_int_bool (Out.same S rI)
end
end Bn
namespace Bn
open PySem PyProof.Rows
noncomputable def zcz:Expr->Bool
 |.Starred ..=>false
 |_=>true
theorem zdd{e:Expr}{es:List Expr}{env:Env}(h:zcz e=true):starEach (e::es) env=(false,eval e env)::starEach es env:=by
 cases e<;>first |rfl |cases h
section
variable {c:Cx}{env:Env}{res:Res}
inductive OutL(c:Cx)(φ:List Addr)(s:Shared)(Q:List V->Hp->Prop)(rs:List Value)(s':Shared):Prop
 |mk (φ':List Addr)(H':Hp)(vs:List V)(e:Ext [] φ s φ' s')(S:Sim c φ' H' s')(R:RepL c φ' s'.heap vs rs)(q:Q vs H'):OutL c φ s Q rs s'
noncomputable def zfr(c:Cx)(env:Env)(res:Res)(es:List Expr)(xs:List Ex):Prop:=
 (es.all zcz=true/\es.length=xs.length)/\∀A q d k loc φ H s Q E pos,OkF c A q d φ s.heap->FSim c env res k loc φ s.heap->Sim c φ H s->wpL (Calls c) q d k xs loc Q E H->
  wpAny (model c.prog c.w) A (spliced (backTo pos (starEach es env))) (OutL c φ s fun vs H=>vs.length=xs.length/\Q vs H) (OutX c φ s E) s
theorem zi4:zfr c env res [] []:=⟨⟨rfl,rfl⟩,fun A q d k loc φ H s Q E pos hA hF hS hw=>by
 exact wpAny_pure ⟨φ,H,[],Ext.refl,hS,rL,rfl,hw⟩⟩
theorem ze6 {e:Expr} {es:List Expr} {x:Ex} {xs:List Ex} (hn:zcz e=true) (h:zch c env res e x) (hs:zfr c env res es xs):zfr c env res (e::es) (x::xs):=
 ⟨⟨by simp[hn,hs.1.1],by simp[hs.1.2]⟩,fun A q d k loc φ H s Q E pos hA hF hS hw=>by
 rw[zdd hn]
 show wpAny _ _ (spliced ((false,eval e env)::backTo pos (starEach es env))) _ _ _
 refine Calls.spliced_cons (wpAny_mono (h A q d k loc φ H s _ E hA hF hS hw) ?_ fun _ _ h=>h)
 rintro r s₁ ⟨φ₁,H₁,v₁,e₁,S₁,R₁,w₁⟩
 refine wpAny_mono (hs.2 A q d k loc φ₁ H₁ s₁ _ E pos (hA.mono e₁) (hF.mono e₁) S₁ w₁) ?_ fun _ _ h=>OutX.lift e₁ S₁ h
 rintro rs s₂ ⟨φ₂,H₂,vs,e₂,S₂,R₂,l₂,w₂⟩
 exact⟨φ₂,H₂,v₁::vs,e₁.trans e₂,S₂,⟨Rep.mono e₂.toKp OwnX.nil R₁,R₂⟩,congrArg (· + 1) l₂,w₂⟩⟩
theorem zvz {i:Int} {n:Nat} {pos:Pos}:zch c env res (.Constant (.int i) n pos) (.lit (.int i)):=fun A q d k loc φ H s Q E hA hF hS hw=>by
 exact wpAny_Constant_int (Out.at hS rI hw)
theorem zwy{i:Str}{n:Nat}{pos:Pos}:zch c env res (.Constant (.str i) n pos) (.lit (.str i)):=fun A q d k loc φ H s Q E hA hF hS hw=>by
 exact Calls.Constant_str (Out.at hS rS hw)
theorem zsl{i:Bool}{n:Nat}{pos:Pos}:zch c env res (.Constant (.bool i) n pos) (.lit (.bool i)):=fun A q d k loc φ H s Q E hA hF hS hw=>by
 exact wpAny_pure (Out.at' hS rB hw)
theorem zsu{n:Nat}{pos:Pos}:zch c env res (.Constant .none n pos) (.lit .none):=fun A q d k loc φ H s Q E hA hF hS hw=>by
 exact wpAny_pure (Out.at' hS rN hw)
theorem znq{x:Str}{pos:Pos}{i:Nat}(hx:res.lookup x=some i)(hd:(x==("__debug__":Str))=false)(hcd:(x==("__classdict__":Str))=false):zch c env res (.Name x pos) (.var i):=fun A q d k loc φ H s Q E hA hF hS hw=>by
 obtain⟨v,hv,hw⟩:=Opt.inv hw
 obtain⟨m,hn,h1,h2⟩:=hF.ns
 have h3:=h1 x i hx
 refine wpAny_Name ?_ hd
 rw[hv] at h3
 unfold zhc at h3
 cases hk:env.kindOf x with
 |none=>rw[hk] at h3;exact h3.elim
 |some kd=>
  rw[hk] at h3
  cases kd with
  | «local»=>
   obtain⟨_,r,h4,h5⟩:=h3
   exact wpAny_loadName_local hF.fn hk hn.ns h4 (Out.at' hS h5 hw)
  |cell=>
   obtain⟨_,ca,r,h4,h5,h6⟩:=h3
   exact wpAny_loadName_cell hF.fn hk h4 h5 (Out.at' hS h6 hw)
  |free=>
   obtain⟨_,ca,r,h4,h5,h6⟩:=h3
   exact wpAny_loadName_free hF.fn hk h4 h5 (Out.at' hS h6 hw) hcd
  |_=>exact h3.elim
theorem zso{x:Str}{pos:Pos}{v:V}{r:Value}(O:c.Ok)(hx:env.kindOf x=some .globalImplicit)(hg:c.g x=some r)(hr:Rep c [] c.h0 v r)(hd:(x==("__debug__":Str))=false):zch c env res (.Name x pos) (.lit v):=fun A q d k loc φ H s Q E hA hF hS hw=>by
 refine Calls.Name_function_global hF.fn hx (Calls.loadGlobal_global (by rw[hF.gl];exact O.gl.keeps hS.stays) hg ?_) hd
 refine Out.at' hS ?_ hw
 exact Rep.mono (X:=[]) ⟨List.nil_prefix,fun b o h _ _ _=>hS.stays b o h,fun a ha=>.inr (hS.fresh a ha),fun b o es n h _ hd=>⟨o,es,n,hS.stays b o h,hd,rfl⟩,fun b o vs _ h _ _ hd=>⟨vs,by rw[<- hd];exact hS.stays b o h⟩⟩ OwnX.nil hr
theorem zwo{es:List Expr}{xs:List Ex}{n:Nat}{pos:Pos}(h:zfr c env res es xs)(hz:xs.length<=1000):zch c env res (.Tuple es n pos) (.tup xs):=fun A q d k loc φ H s Q E hA hF hS hw=>by
 refine Tuple_ (wpAny_mono (h.2 A q d k loc φ H s _ E pos hA hF hS hw) ?_ fun _ _ h=>h)
 rintro rs s₁ ⟨φ₁,H₁,vs,e₁,S₁,R₁,l₁,w₁⟩
 have hz':vs.length<=sizeLine:=by rw[l₁];exact zab hz (by decide)
 exact wpAny_newObj_type (Out.lift e₁ ((zjh S₁ R₁ hz').eq w₁)) (by show rs.toArray.size<=sizeLine;rw[List.size_toArray,R₁.length];exact hz')
theorem ztr{es:List Expr}{xs:List Ex}{pos:Pos}(h:zfr c env res es xs)(hz:xs.length<=1000):zch c env res (.List es pos) (.list xs):=fun A q d k loc φ H s Q E hA hF hS hw=>by
 refine List_ (wpAny_mono (h.2 A q d k loc φ H s _ E pos hA hF hS hw) ?_ fun _ _ h=>h)
 rintro rs s₁ ⟨φ₁,H₁,vs,e₁,S₁,R₁,l₁,w₁⟩
 have hz':vs.length<=sizeLine:=by rw[l₁];exact zab hz (by decide)
 exact wpAny_newObj_type (Out.lift e₁ ((zj7 S₁ R₁ hz').eq w₁)) (by show rs.toArray.size<=sizeLine;rw[List.size_toArray,R₁.length];exact hz')
theorem zvq{l:Expr}{a:Ex}{pos:Pos}(h1:zch c env res l a):zch c env res (.UnaryOp .USub l pos) (.neg a):=fun A q d k loc φ H s Q E hA hF hS hw=>by
 refine wpAny_UnaryOp (wpAny_mono (h1 A q d k loc φ H s _ E hA hF hS hw) ?_ fun _ _ h=>h)
 rintro x s₁ ⟨φ₁,H₁,v₁,e₁,S₁,R₁,w₁⟩
 obtain⟨i,hi,w₁⟩:=Opt.inv w₁
 obtain rfl:=zd8 hi
 obtain⟨t,rfl⟩:=R₁
 exact PyProof.Rows.neg_int (Out.lift e₁ (Out.at S₁ rI w₁))
theorem zwz{l:Expr}{a:Ex}{pos:Pos}(h1:zch c env res l a):zch c env res (.UnaryOp .Not l pos) (.not a):=fun A q d k loc φ H s Q E hA hF hS hw=>by
 refine wpAny_UnaryOp (wpAny_mono (h1 A q d k loc φ H s _ E hA hF hS hw) ?_ fun _ _ h=>h)
 rintro x s₁ ⟨φ₁,H₁,v₁,e₁,S₁,R₁,w₁⟩
 obtain⟨b,hb,w₁⟩:=Opt.inv w₁
 obtain rfl:=zel hb
 obtain rfl:=R₁
 exact not_of (wpAny_truthy_bool (Out.lift e₁ (Out.at' S₁ rB w₁)))
noncomputable def zfk(c:Cx)(env:Env)(res:Res):List Expr->List Ex->Prop
 |[],xs=>xs=[]
 |e::es,xs=>match xs with
  |[]=>False
  |x::xs=>zch c env res e x/\zfk c env res es xs
inductive SoundsC(c:Cx)(env:Env)(res:Res)(e:Expr)(es:List Expr)(xs:List Ex):Prop
 |mk (x:Ex)(xs':List Ex)(h:xs=x::xs')(h1:zch c env res e x)(h2:zfk c env res es xs'):SoundsC c env res e es xs
theorem zfk.uncons{e:Expr}{es:List Expr}{xs:List Ex}(h:zfk c env res (e::es) xs):SoundsC c env res e es xs:=by
 cases xs with
 |nil=>exact h.elim
 |cons x xs=>exact⟨x,xs,rfl,h.1,h.2⟩
noncomputable def wpBo(C:CallT)(q:Bool)(d:Nat)(k:Clo)(t:Bool)(xs:List Ex)(l:Loc)(Q:Bool->Hp->Prop)(E:XPost)(H:Hp):Prop:=match t with
 |true=>ztq C q d k xs l Q E H
 |false=>wpOr C q d k xs l Q E H
noncomputable def boR(t:Bool):BoolOp:=match t with
 |true=>.And
 |false=>.Or
theorem zpo{C:CallT}{q:Bool}{d:Nat}{k:Clo}{t:Bool}{x:Ex}{xs:List Ex}{l:Loc}{Q:Bool->Hp->Prop}{E:XPost}{H:Hp}(h:wpBo C q d k t (x::xs) l Q E H) :
  wpE C q d k x l (zen fun b H=>zig xs (Q b H) (zfn (b==t) (wpBo C q d k t xs l Q E H) (Q b H))) E H:=by
 have e:∀{P P':V->Hp->Prop} {E:XPost},(∀v H,P v H=P' v H)->wpE C q d k x l P E H->wpE C q d k x l P' E H:=fun h w=>by
  have:_=_:=funext fun v=>funext fun H=>h v H
  exact this▸w
 cases t with
 |true=>
  refine e (fun v H=>?_) h
  unfold zen
  cases zlh v with
  |none=>rfl
  |some b=>cases b<;>rfl
 |false=>
  refine e (fun v H=>?_) h
  unfold zen
  cases zlh v with
  |none=>rfl
  |some b=>cases b<;>rfl
theorem zmq{pos:Pos}{t:Bool}:∀{es:List Expr}{xs:List Ex},zfk c env res es xs->∀A q d k loc φ H s (Q:Bool->Hp->Prop) E,OkF c A q d φ s.heap->FSim c env res k loc φ s.heap->Sim c φ H s->wpBo (Calls c) q d k t xs loc Q E H->
  wpAny (model c.prog c.w) A (boolOp pos (boR t) (evalEach es env)) (Out c φ s fun v H=>OptI (zlh v) fun b=>Q b H) (OutX c φ s E) s
 |[],xs,h=>fun A q d k loc φ H s Q E hA hF hS hw=>by
  obtain rfl:xs=[]:=h
  cases t<;>exact hw.elim
 |[e],xs,h=>fun A q d k loc φ H s Q E hA hF hS hw=>by
  obtain⟨x,xs',rfl,h1,h2⟩:=h.uncons
  obtain rfl:xs'=[]:=h2
  show wpAny _ _ (eval e env) _ _ _
  exact wpAny_mono (h1 A q d k loc φ H s _ E hA hF hS (zpo hw)) (fun _ _ h=>Out.mono (fun _ _ h=>Opt.inv h) h) fun _ _ h=>h
 |e::e'::es,xs,h=>fun A q d k loc φ H s Q E hA hF hS hw=>by
  obtain⟨x,xs',rfl,h1,h2⟩:=h.uncons
  have ih:=zmq (pos:=pos) (t:=t) h2
  obtain⟨x',xs'',rfl,_,_⟩:=h2.uncons
  show wpAny _ _ (eval e env >>=fun v=>standAt pos >>=fun _=>holding [v] (truthy v) >>=fun tv=>match boR t,tv with
   |.And,false |.Or,true=>pure v
   |_,_=>boolOp pos (boR t) (evalEach (e'::es) env)) _ _ _
  refine wpAny_bind (wpAny_mono (h1 A q d k loc φ H s _ E hA hF hS (zpo hw)) ?_ fun _ _ h=>h)
  rintro r s₁ ⟨φ₁,H₁,v₁,e₁,S₁,R₁,w₁⟩
  obtain⟨b,hb,w₁⟩:=Opt.inv w₁
  obtain rfl:=zel hb
  obtain rfl:=R₁
  refine wpAny_bind (wpAny_standAt (wpAny_bind (wpAny_holding (wpAny_truthy_bool ?_))))
  have go:wpBo (Calls c) q d k t (x'::xs'') loc Q E H₁->wpAny (model c.prog c.w) A (boolOp pos (boR t) (evalEach (e'::es) env)) (Out c φ s fun v H=>OptI (zlh v) fun b=>Q b H) (OutX c φ s E) s₁:=fun w=>
   wpAny_mono (ih A q d k loc φ₁ H₁ s₁ Q E (hA.mono e₁) (hF.mono e₁) S₁ w) (fun _ _ h=>Out.lift e₁ h) fun _ _ h=>OutX.lift e₁ S₁ h
  have st:Q b H₁->wpAny (model c.prog c.w) A (pure (.bool b)) (Out c φ s fun v H=>OptI (zlh v) fun b=>Q b H) (OutX c φ s E) s₁:=fun w=>wpAny_pure (Out.lift e₁ (Out.at' S₁ rB ⟨b,rfl,w⟩))
  cases t<;>cases b<;>first |exact st w₁ |exact go w₁
theorem zve{pos:Pos}{es:List Expr}{xs:List Ex}(h:zfk c env res es xs):zch c env res (.BoolOp .And es pos) (.and xs):=fun A q d k loc φ H s Q E hA hF hS hw=>
 wpAny_mono (zmq (t:=true) h A q d k loc φ H s _ E hA hF hS hw) (fun _ _ h=>Out.mono (fun _ _ ⟨_,hb,h⟩=>by rw[zel hb];exact h) h) fun _ _ h=>h
theorem sound_or{pos:Pos}{es:List Expr}{xs:List Ex}(h:zfk c env res es xs):zch c env res (.BoolOp .Or es pos) (.or xs):=fun A q d k loc φ H s Q E hA hF hS hw=>
 wpAny_mono (zmq (t:=false) h A q d k loc φ H s _ E hA hF hS hw) (fun _ _ h=>Out.mono (fun _ _ ⟨_,hb,h⟩=>by rw[zel hb];exact h) h) fun _ _ h=>h
theorem zvt{l r:Expr}{a b:Ex}{op:Op}{pos:Pos}(O:c.Ok)(h1:zch c env res l a)(h2:zch c env res r b):zch c env res (.BinOp l op.real r pos) (.bin op a b):=fun A q d k loc φ H s Q E hA hF hS hw=>by
 refine wpAny_BinOp (wpAny_mono (h1 A q d k loc φ H s _ E hA hF hS hw) ?_ fun _ _ h=>h)
 rintro x s₁ ⟨φ₁,H₁,v₁,e₁,S₁,R₁,w₁⟩
 refine wpAny_mono (h2 A q d k loc φ₁ H₁ s₁ _ E (hA.mono e₁) (hF.mono e₁) S₁ w₁) ?_ fun _ _ h=>OutX.lift e₁ S₁ h
 rintro y s₂ ⟨φ₂,H₂,v₂,e₂,S₂,R₂,w₂⟩
 obtain⟨p,e,w₂⟩:=Opt.inv w₂
 exact(do_bin O (hA.mono (e₁.trans e₂)) S₂ (Rep.mono e₂.toKp OwnX.nil R₁) R₂ e).use (e₁.trans e₂) w₂
theorem zxo{l r:Expr}{a b:Ex}{pos:Pos}(h1:zch c env res l a)(h2:zch c env res r b):zch c env res (.Subscript l r pos) (.idx a b):=fun A q d k loc φ H s Q E hA hF hS hw=>by
 refine Subscript_ (wpAny_mono (h1 A q d k loc φ H s _ E hA hF hS hw) ?_ fun _ _ h=>h)
 rintro x s₁ ⟨φ₁,H₁,v₁,e₁,S₁,R₁,w₁⟩
 refine wpAny_mono (h2 A q d k loc φ₁ H₁ s₁ _ E (hA.mono e₁) (hF.mono e₁) S₁ w₁) ?_ fun _ _ h=>OutX.lift e₁ S₁ h
 rintro y s₂ ⟨φ₂,H₂,v₂,e₂,S₂,R₂,w₂⟩
 obtain⟨v,e,w₂⟩:=Opt.inv w₂
 exact(do_idx S₂ (Rep.mono e₂.toKp OwnX.nil R₁) R₂ e).use (e₁.trans e₂) w₂
end
end Bn
namespace Bn
open PySem PyProof.Rows
noncomputable def zjc:Expr->Bool
 |.Set ..=>false
 |_=>true
theorem marks_of{op:CmpOp}{e:Expr}(h:zjc e=true)(t:Sem Value):markedBehindIn op e t=t:=by
 refine markedBehindIn_of_false ?_
 cases e<;>first |rfl |cases h
theorem zex{env:Env}:∀{ops:List CmpOp}{es:List Expr},es.all zjc=true->markedEach ops es (evalEach es env)=evalEach es env
 |[],es,_=>by cases es<;>rfl
 |[op],[],_=>rfl
 |[op],e::es,h=>by
  obtain⟨h1,h2⟩:=zag.mp h
  cases es with
  |nil=>exact congrArg (fun x=>[x]) (marks_of h1 _)
  |cons e' es=>exact congrArg (eval e env::·) (zex (ops:=[]) h2)
 |op::op'::ops,[],_=>rfl
 |op::op'::ops,e::es,h=>congrArg (eval e env::·) (zex (ops:=op'::ops) (zag.mp h).2)
section
variable {c:Cx}{env:Env}{res:Res}
theorem opr{M:Model}{A:Around}{vs:List Value}{m:Sem Value}{Q:Value->Shared->Prop}{E:Value->Shared->Prop}{s:Shared}(h:wpAny M A m Q E s):wpAny M A (operate vs m) Q E s:=fun Γ p hΓ=>by rw[Sem.wp_operate];exact h Γ p hΓ
theorem OkF.hu{A:Around}{q:Bool}{d:Nat}{φ:List Addr}{h:Heap}(hA:OkF c A q d φ h):A.units+100<cLine:=by have:=hA.un;show _<9900;exact Ar.ar1 [_,_] [] 0xa5000610000308020 (Y1 (Y0 V0 (.l 100)) (.l 9900)) (Y0 (Y0 V0 (Y1 (.l 10) V1)) (.l 9000)) this
inductive OutB(c:Cx)(φ:List Addr)(s:Shared)(Q:Bool->Hp->Prop)(b:Bool)(s':Shared):Prop
 |mk (φ':List Addr)(H':Hp)(e:Ext [] φ s φ' s')(S:Sim c φ' H' s')(q:Q b H'):OutB c φ s Q b s'
theorem OutB.lift{φ φ₁:List Addr}{s s₁ s₂:Shared}{Q:Bool->Hp->Prop}{r:Bool}(e:Ext [] φ s φ₁ s₁)(h:OutB c φ₁ s₁ Q r s₂):OutB c φ s Q r s₂:=
 let⟨φ',H',e',S,hq⟩:=h;⟨φ',H',e.trans e',S,hq⟩
theorem zmw{α:Type}{go:Value->List CmpOp->List (Sem Value)->Sem α}{fin:Value->Value->CmpOp->Sem α}{no:Value->Sem α}{pos:Pos}{R:(Bool->Hp->Prop)->List Addr->Shared->α->Shared->Prop}
  (g1:∀x o m,go x [o] [m]=(holding [x] m >>=fun rv=>standAt pos >>=fun _=>fin x rv o))
  (g2:∀x o o' os m m' ms,go x (o::o'::os) (m::m'::ms)=(holding [x] m >>=fun rv=>standAt pos >>=fun _=>holding [x,rv] (compareOp o x rv) >>=fun cc=>release [x,rv] [cc] >>=fun _=>holding [cc,rv] (truthy cc) >>=fun t=>
   if t then go rv (o'::os) (m'::ms) else no cc))
  (hfin:∀{A E s x rv o b} {P:α->Shared->Prop},(∀{Q E},Q (.bool b) s->wpAny (model c.prog c.w) A (compareOp o x rv) Q E s)->(∀a,(∀φ H Q,Sim c φ H s->Q b H->R Q φ s a s)->P a s)->wpAny (model c.prog c.w) A (fin x rv o) P E s)
  (hno:∀{A E s} {P:α->Shared->Prop},(∀a,(∀φ H Q,Sim c φ H s->Q false H->R Q φ s a s)->P a s)->wpAny (model c.prog c.w) A (no (.bool false)) P E s)
  (hlift:∀{Q φ s φ₁ s₁ a s₂},Ext [] φ s φ₁ s₁->R Q φ₁ s₁ a s₂->R Q φ s a s₂) :
  ∀{es:List Expr} {xs:List Ex} {os:List Cm},zfk c env res es xs->os.length=es.length->∀A q d k loc φ H s (Q:Bool->Hp->Prop) E v x,OkF c A q d φ s.heap->FSim c env res k loc φ s.heap->Sim c φ H s->Rep c φ s.heap v x->
  wpC (Calls c) q d k v os xs loc Q E H->wpAny (model c.prog c.w) A (go x (os.map Cm.real) (evalEach es env)) (R Q φ s) (OutX c φ s E) s
 |[],xs,os,h,hl=>fun A q d k loc φ H s Q E v x hA hF hS hR hw=>by
  obtain rfl:xs=[]:=h
  exact hw.elim
 |_::_,_,[],h,hl=>nomatch hl
 |[e],xs,o::os,h,hl=>fun A q d k loc φ H s Q E v x hA hF hS hR hw=>by
  obtain⟨y,ys,rfl,h1,h2⟩:=h.uncons
  obtain rfl:ys=[]:=h2
  obtain rfl:os=[]:=zbw.mp (Nat.succ.inj hl)
  show wpAny _ _ (go x [o.real] [eval e env]) _ _ _
  rw[g1]
  refine wpAny_bind (wpAny_holding (wpAny_mono (h1 A q d k loc φ H s _ E hA hF hS hw) ?_ fun _ _ h=>h))
  rintro r s₁ ⟨φ₁,H₁,w,e₁,S₁,R₁,w₁⟩
  obtain⟨b,hb,w₁⟩:=Opt.inv w₁
  exact wpAny_bind (wpAny_standAt (hfin (do_cmp hA.hu S₁ (Rep.mono e₁.toKp OwnX.nil hR) R₁ hb) fun a ha=>hlift e₁ (ha φ₁ H₁ Q S₁ w₁)))
 |_::_::_,_,[_],h,hl=>nomatch (Nat.succ.inj hl)
 |e::e'::es,xs,o::o'::os,h,hl=>fun A q d k loc φ H s Q E v x hA hF hS hR hw=>by
  obtain⟨y,ys,rfl,h1,h2⟩:=h.uncons
  have ih:=zmw g1 g2 hfin hno hlift h2 (os:=o'::os) (Nat.succ.inj hl)
  obtain⟨y',ys',rfl,_,_⟩:=h2.uncons
  show wpAny _ _ (go x (o.real::o'.real::os.map Cm.real) (eval e env::eval e' env::evalEach es env)) _ _ _
  rw[g2]
  refine wpAny_bind (wpAny_holding (wpAny_mono (h1 A q d k loc φ H s _ E hA hF hS hw) ?_ fun _ _ h=>h))
  rintro r s₁ ⟨φ₁,H₁,w,e₁,S₁,R₁,w₁⟩
  obtain⟨b,hb,w₁⟩:=Opt.inv w₁
  refine wpAny_bind (wpAny_standAt (wpAny_bind (wpAny_holding (do_cmp hA.hu S₁ (Rep.mono e₁.toKp OwnX.nil hR) R₁ hb (wpAny_bind (wpAny_release (wpAny_bind (wpAny_holding (wpAny_truthy_bool ?_)))))))))
  cases b with
  |true=>exact wpAny_mono (ih A q d k loc φ₁ H₁ s₁ Q E w r (hA.mono e₁) (hF.mono e₁) S₁ R₁ w₁) (fun _ _ h=>hlift e₁ h) fun _ _ h=>OutX.lift e₁ S₁ h
  |false=>exact hno fun a ha=>hlift e₁ (ha φ₁ H₁ Q S₁ w₁)
theorem zt6{l:Expr}{a:Ex}{es:List Expr}{xs:List Ex}{os:List Cm}{pos:Pos}(h1:zch c env res l a)(h2:zfk c env res es xs)(hl:os.length=es.length)(hn:es.all zjc=true) :
  zch c env res (.Compare l (os.map Cm.real) es pos) (.cmp a os xs):=fun A q d k loc φ H s Q E hA hF hS hw=>by
 show wpAny _ _ (eval l env >>=fun v=>compareChain pos v (os.map Cm.real) (markedEach (os.map Cm.real) es (evalEach es env))) _ _ _
 rw[zex hn]
 refine wpAny_bind (wpAny_mono (h1 A q d k loc φ H s _ E hA hF hS hw) ?_ fun _ _ h=>h)
 rintro x s₁ ⟨φ₁,H₁,v₁,e₁,S₁,R₁,w₁⟩
 exact wpAny_mono (zmw (go:=compareChain pos) (fin:=fun x rv o=>operate [x,rv] (compareOp o x rv)) (no:=fun cc=>pure cc) (R:=fun Q φ s=>Out c φ s fun v H=>OptI (zlh v) fun b=>Q b H) (fun _ _ _=>rfl) (fun _ _ _ _ _ _ _=>rfl)
  (fun h hp=>opr (h (hp _ fun φ H Q S hq=>Out.at' S rB ⟨_,rfl,hq⟩))) (fun hp=>wpAny_pure (hp _ fun φ H Q S hq=>Out.at' S rB ⟨_,rfl,hq⟩)) (fun e h=>Out.lift e h) h2 hl A q d k loc φ₁ H₁ s₁ _ E v₁ x (hA.mono e₁) (hF.mono e₁) S₁ R₁ w₁)
  (fun _ _ h=>Out.lift e₁ (Out.mono (fun _ _ ⟨_,hb,h⟩=>by rw[zel hb];exact h) h)) fun _ _ h=>OutX.lift e₁ S₁ h
noncomputable def zgn(c:Cx)(env:Env)(res:Res)(e:Expr)(x:Ex):Prop:=
 ∀A q d k loc φ H s Q E,OkF c A q d φ s.heap->FSim c env res k loc φ s.heap->Sim c φ H s->wpE (Calls c) q d k x loc (zen Q) E H->
  wpAny (model c.prog c.w) A (isTrue e env (eval e env)) (OutB c φ s Q) (OutX c φ s E) s
noncomputable def zj4:Expr->Bool
 |.UnaryOp .Not _ _=>false
 |.BoolOp ..=>false
 |.IfExp ..=>false
 |.Compare ..=>false
 |_=>true
theorem zjj{e:Expr}(h:zj4 e=true)(whole:Sem Value):isTrue e env whole=(do
  let v<-whole
  standAt e.pos
  holding [v] (truthy v)):=by
 cases e<;>first |rfl |(cases h;done) |skip
 rename_i op _ _
 cases op<;>first |rfl |cases h
theorem zor{e:Expr}{x:Ex}(h:zch c env res e x)(hp:zj4 e=true):zgn c env res e x:=fun A q d k loc φ H s Q E hA hF hS hw=>by
 rw[zjj hp]
 refine wpAny_bind (wpAny_mono (h A q d k loc φ H s _ E hA hF hS hw) ?_ fun _ _ h=>h)
 rintro r s₁ ⟨φ₁,H₁,v₁,e₁,S₁,R₁,w₁⟩
 obtain⟨b,hb,w₁⟩:=Opt.inv w₁
 obtain rfl:=zel hb
 obtain rfl:=R₁
 exact wpAny_bind (wpAny_standAt (wpAny_holding (wpAny_truthy_bool ⟨φ₁,H₁,e₁,S₁,w₁⟩)))
theorem zs5{l:Expr}{a:Ex}{pos:Pos}(h:zgn c env res l a):zgn c env res (.UnaryOp .Not l pos) (.not a):=fun A q d k loc φ H s Q E hA hF hS hw=>
 wpAny_isTrue_Not (wpAny_mono (h A q d k loc φ H s (fun b H=>Q (!b) H) E hA hF hS hw) (fun _ _ ⟨φ',H',e,S,h⟩=>⟨φ',H',e,S,h⟩) fun _ _ h=>h)
noncomputable def zeq(c:Cx)(env:Env)(res:Res):List Expr->List Ex->Prop
 |[],xs=>xs=[]
 |e::es,xs=>match xs with
  |[]=>False
  |x::xs=>zgn c env res e x/\zeq c env res es xs
inductive SoundTC(c:Cx)(env:Env)(res:Res)(e:Expr)(es:List Expr)(xs:List Ex):Prop
 |mk (x:Ex)(xs':List Ex)(h:xs=x::xs')(h1:zgn c env res e x)(h2:zeq c env res es xs'):SoundTC c env res e es xs
theorem zeq.uncons{e:Expr}{es:List Expr}{xs:List Ex}(h:zeq c env res (e::es) xs):SoundTC c env res e es xs:=by
 cases xs with
 |nil=>exact h.elim
 |cons x xs=>exact⟨x,xs,rfl,h.1,h.2⟩
theorem zk7{t:Bool}:∀{es:List Expr}{xs:List Ex},zeq c env res es xs->∀A q d k loc φ H s (Q:Bool->Hp->Prop) E,OkF c A q d φ s.heap->FSim c env res k loc φ s.heap->Sim c φ H s->wpBo (Calls c) q d k t xs loc Q E H->
  wpAny (model c.prog c.w) A (allTrue (boR t) es env) (OutB c φ s Q) (OutX c φ s E) s
 |[],xs,h=>fun A q d k loc φ H s Q E hA hF hS hw=>by
  obtain rfl:xs=[]:=h
  cases t<;>exact hw.elim
 |e::es,xs,h=>fun A q d k loc φ H s Q E hA hF hS hw=>by
  obtain⟨x,xs',rfl,h1,h2⟩:=h.uncons
  have key:wpAny (model c.prog c.w) A (isTrue e env (eval e env)) (fun b s₁=>zfn (b==t) (wpAny (model c.prog c.w) A (allTrue (boR t) es env) (OutB c φ s Q) (OutX c φ s E) s₁) (OutB c φ s Q b s₁)) (OutX c φ s E) s:=by
   refine wpAny_mono (h1 A q d k loc φ H s _ E hA hF hS (zpo hw)) ?_ fun _ _ h=>h
   rintro b s₁ ⟨φ₁,H₁,e₁,S₁,w₁⟩
   cases es with
   |nil=>
    obtain rfl:xs'=[]:=h2
    cases t<;>cases b<;>first |exact⟨φ₁,H₁,e₁,S₁,w₁⟩|exact wpAny_allTrue_And_nil ⟨φ₁,H₁,e₁,S₁,w₁⟩|exact wpAny_allTrue_Or_nil ⟨φ₁,H₁,e₁,S₁,w₁⟩
   |cons e' es=>
    have ih:=zk7 (t:=t) h2
    obtain⟨x',xs'',rfl,_,_⟩:=h2.uncons
    have go:wpBo (Calls c) q d k t (x'::xs'') loc Q E H₁->wpAny (model c.prog c.w) A (allTrue (boR t) (e'::es) env) (OutB c φ s Q) (OutX c φ s E) s₁:=fun w=>
     wpAny_mono (ih A q d k loc φ₁ H₁ s₁ Q E (hA.mono e₁) (hF.mono e₁) S₁ w) (fun _ _ h=>OutB.lift e₁ h) fun _ _ h=>OutX.lift e₁ S₁ h
    cases t<;>cases b<;>first |exact go w₁ |exact⟨φ₁,H₁,e₁,S₁,w₁⟩
  cases t with
  |true=>exact wpAny_allTrue_And_cons (wpAny_mono key (fun b _ h=>by cases b<;>exact h) fun _ _ h=>h)
  |false=>exact wpAny_allTrue_Or_cons (wpAny_mono key (fun b _ h=>by cases b<;>exact h) fun _ _ h=>h)
theorem zsy{es:List Expr}{xs:List Ex}{pos:Pos}(h:zeq c env res es xs):zgn c env res (.BoolOp .And es pos) (.and xs):=fun A q d k loc φ H s Q E hA hF hS hw=>
 wpAny_isTrue_BoolOp (zk7 (t:=true) h A q d k loc φ H s Q E hA hF hS hw)
theorem zxi{es:List Expr}{xs:List Ex}{pos:Pos}(h:zeq c env res es xs):zgn c env res (.BoolOp .Or es pos) (.or xs):=fun A q d k loc φ H s Q E hA hF hS hw=>
 wpAny_isTrue_BoolOp (zk7 (t:=false) h A q d k loc φ H s Q E hA hF hS hw)
theorem ztf{l:Expr}{a:Ex}{es:List Expr}{xs:List Ex}{os:List Cm}{pos:Pos}(h1:zch c env res l a)(h2:zfk c env res es xs)(hl:os.length=es.length)(hn:es.all zjc=true) :
  zgn c env res (.Compare l (os.map Cm.real) es pos) (.cmp a os xs):=fun A q d k loc φ H s Q E hA hF hS hw=>by
 show wpAny _ _ (eval l env >>=fun v=>testChain pos v (os.map Cm.real) (markedEach (os.map Cm.real) es (evalEach es env))) _ _ _
 rw[zex hn]
 refine wpAny_bind (wpAny_mono (h1 A q d k loc φ H s _ E hA hF hS hw) ?_ fun _ _ h=>h)
 rintro x s₁ ⟨φ₁,H₁,v₁,e₁,S₁,R₁,w₁⟩
 exact wpAny_mono (zmw (go:=testChain pos) (fin:=fun x rv o=>operate [x,rv] (compareOp o x rv) >>=fun cc=>holding [cc] (truthy cc)) (no:=fun _=>pure false) (R:=fun Q φ s=>OutB c φ s Q) (fun _ _ _=>rfl) (fun _ _ _ _ _ _ _=>rfl)
  (fun h hp=>wpAny_bind (opr (h (wpAny_holding (wpAny_truthy_bool (hp _ fun φ H Q S hq=>⟨φ,H,Ext.refl,S,hq⟩)))))) (fun hp=>wpAny_pure (hp _ fun φ H Q S hq=>⟨φ,H,Ext.refl,S,hq⟩)) (fun e h=>OutB.lift e h) h2 hl A q d k loc φ₁ H₁ s₁ Q E v₁ x (hA.mono e₁) (hF.mono e₁) S₁ R₁ w₁)
  (fun _ _ h=>OutB.lift e₁ h) fun _ _ h=>OutX.lift e₁ S₁ h
end
end Bn
namespace Bn
open PySem PyProof.Rows
noncomputable def Tc.real:Tc->Option String
 |.int=>some "int" |.bool=>some "bool" |.list=>some "list" |.tuple=>some "tuple"
 |.str=>some "str"
section
variable {c:Cx}{A:Around}{q:Bool}{d:Nat}{φ:List Addr}{H H':Hp}{s:Shared}
inductive ListRef(h:Heap)(x:Value):Prop
 |mk (a:Addr)(o:Obj)(e:x=.ref a)(ho:h.get? a=some o)(hc:o.cls=.type "list"):ListRef h x
inductive SubT(Tx:Option String)(T:String)(b:Bool):Prop
 |mk (X:String)(e:Tx=some X)(h1:typeOf (.type T)=pure (.type "type"))(h2:isSubtype (.type X) (.type T)=pure b)(h3:b=false->(Value.type X==Value.type T)=false):SubT Tx T b
theorem zct{X T:String}{b b':Bool}(e:some b'=some b)(h1:typeOf (.type T)=pure (.type "type"))(h2:isSubtype (.type X) (.type T)=pure b')(h3:(b'||!(Value.type X==Value.type T))=true):SubT (some X) T b:=by
 obtain rfl:=zaa e
 exact⟨X,rfl,h1,h2,fun h=>by rw[h] at h3;exact Bool.not_eq_eq_eq_not.mp h3⟩
noncomputable def tyN:V->Option String
 |.none=>some "NoneType" |.bool _=>some "bool" |.int _=>some "int" |.tup _=>some "tuple" |.lst _=>some "list"
 |.str _=>some "str"
 |.dict0=>some "dict"
 |_=>none
theorem isi_sub{v:V}{t:Tc}{T:String}{b:Bool}(hT:t.real=some T)(e:isiV v t=some b):SubT (tyN v) T b:=by
 cases t with
 |int=>
  obtain rfl:=zaa hT
  cases v with
  |none=>exact zct e F.isi_meta_int F.sub_NoneType_int (by decide +kernel)
  |bool=>exact zct e F.isi_meta_int F.sub_bool_int (by decide +kernel)
  |int=>exact zct e F.isi_meta_int F.sub_int_int (by decide +kernel)
  |tup=>exact zct e F.isi_meta_int F.sub_tuple_int (by decide +kernel)
  |lst=>exact zct e F.isi_meta_int F.sub_list_int (by decide +kernel)
  |str=>exact zct e F.isi_meta_int F.sub_str_int (by decide +kernel)
  |dict0=>exact zct e F.isi_meta_int F.sub_dict_int (by decide +kernel)
  |_=>cases e
 |bool=>
  obtain rfl:=zaa hT
  cases v with
  |none=>exact zct e F.isi_meta_bool F.sub_NoneType_bool (by decide +kernel)
  |bool=>exact zct e F.isi_meta_bool F.sub_bool_bool (by decide +kernel)
  |int=>exact zct e F.isi_meta_bool F.sub_int_bool (by decide +kernel)
  |tup=>exact zct e F.isi_meta_bool F.sub_tuple_bool (by decide +kernel)
  |lst=>exact zct e F.isi_meta_bool F.sub_list_bool (by decide +kernel)
  |str=>exact zct e F.isi_meta_bool F.sub_str_bool (by decide +kernel)
  |dict0=>exact zct e F.isi_meta_bool F.sub_dict_bool (by decide +kernel)
  |_=>cases e
 |list=>
  obtain rfl:=zaa hT
  cases v with
  |none=>exact zct e F.isi_meta_list F.sub_NoneType_list (by decide +kernel)
  |bool=>exact zct e F.isi_meta_list F.sub_bool_list (by decide +kernel)
  |int=>exact zct e F.isi_meta_list F.sub_int_list (by decide +kernel)
  |tup=>exact zct e F.isi_meta_list F.sub_tuple_list (by decide +kernel)
  |lst=>exact zct e F.isi_meta_list F.sub_list_list (by decide +kernel)
  |str=>exact zct e F.isi_meta_list F.sub_str_list (by decide +kernel)
  |dict0=>exact zct e F.isi_meta_list F.sub_dict_list (by decide +kernel)
  |_=>cases e
 |tuple=>
  obtain rfl:=zaa hT
  cases v with
  |none=>exact zct e F.isi_meta_tuple F.sub_NoneType_tuple (by decide +kernel)
  |bool=>exact zct e F.isi_meta_tuple F.sub_bool_tuple (by decide +kernel)
  |int=>exact zct e F.isi_meta_tuple F.sub_int_tuple (by decide +kernel)
  |tup=>exact zct e F.isi_meta_tuple F.sub_tuple_tuple (by decide +kernel)
  |lst=>exact zct e F.isi_meta_tuple F.sub_list_tuple (by decide +kernel)
  |str=>exact zct e F.isi_meta_tuple F.sub_str_tuple (by decide +kernel)
  |dict0=>exact zct e F.isi_meta_tuple F.sub_dict_tuple (by decide +kernel)
  |_=>cases e
 |str=>
  obtain rfl:=zaa hT
  cases v with
  |none=>exact zct e F.isi_meta_str F.sub_NoneType_str (by decide +kernel)
  |bool=>exact zct e F.isi_meta_str F.sub_bool_str (by decide +kernel)
  |int=>exact zct e F.isi_meta_str F.sub_int_str (by decide +kernel)
  |tup=>exact zct e F.isi_meta_str F.sub_tuple_str (by decide +kernel)
  |lst=>exact zct e F.isi_meta_str F.sub_list_str (by decide +kernel)
  |str=>exact zct e F.isi_meta_str F.sub_str_str (by decide +kernel)
  |dict0=>exact zct e F.isi_meta_str F.sub_dict_str (by decide +kernel)
  |_=>cases e
theorem do_isi(S:Sim c φ H s){v:V}{x:Value}{t:Tc}{T:String}{b:Bool}(R:Rep c φ s.heap v x)(hT:t.real=some T)(e:isiV v t=some b):Does c A φ s (call (.builtin "isinstance") [x,.type T]) (.bool b) H:=by
 intro E
 have hlst:∀{i:Nat} {x:Value},Rep c φ s.heap (.lst i) x->ListRef s.heap x:=fun R=>by
  obtain⟨a,rfl,ha⟩:=R
  obtain⟨o,h1,h2⟩:=S.isList (zax ha)
  exact⟨a,o,rfl,h1,h2⟩
 obtain⟨X,eX,h1,h2,h3⟩:=isi_sub hT e
 clear e hT t
 cases b with
 |true=>
  refine call_isinstance (isinstance_true (Tx:=X) h1 h2) ⟨?_,Out.same' S rB⟩
  cases v with
  |none=>obtain rfl:=zaa eX;obtain rfl:=R;exact rfl
  |bool=>obtain rfl:=zaa eX;obtain rfl:=R;exact rfl
  |int=>obtain rfl:=zaa eX;obtain⟨t1,rfl⟩:=R;exact rfl
  |tup=>obtain rfl:=zaa eX;obtain⟨a,o,vs,n,rfl,_,ho,hc,_⟩:=R;exact⟨o,ho,hc⟩
  |lst=>obtain rfl:=zaa eX;obtain⟨a,o,rfl,ho,hc⟩:=hlst R;exact⟨o,ho,hc⟩
  |str=>obtain rfl:=zaa eX;obtain⟨t1,rfl⟩:=R;exact rfl
  |dict0=>obtain rfl:=zaa eX;obtain⟨a,o,es,n,rfl,_,ho,hc,_⟩:=R;exact⟨o,ho,hc⟩
  |_=>cases eX
 |false=>
  have yes:∀{t:Nat},Out c φ s (fun x H'=>x=.bool false/\H'=H) (.bool false) { s with toks:=t }:=Out.same S rB
  have h3:=h3 rfl
  cases v with
  |none=>obtain rfl:=zaa eX;obtain rfl:=R;exact call_isinstance (isinstance_false_none h3 h1 h2) yes
  |bool=>obtain rfl:=zaa eX;obtain rfl:=R;exact call_isinstance (isinstance_false_bool h3 h1 h2) yes
  |int=>obtain rfl:=zaa eX;obtain⟨t1,rfl⟩:=R;exact call_isinstance (isinstance_false_int h3 h1 h2) yes
  |tup=>obtain rfl:=zaa eX;obtain⟨a,o,vs,n,rfl,_,ho,hc,_⟩:=R;exact call_isinstance (isinstance_false_tuple h3 h1 h2) ⟨⟨o,ho,hc⟩,yes⟩
  |lst=>obtain rfl:=zaa eX;obtain⟨a,o,rfl,ho,hc⟩:=hlst R;exact call_isinstance (isinstance_false_list h3 h1 h2) ⟨⟨o,ho,hc⟩,yes⟩
  |str=>obtain rfl:=zaa eX;obtain⟨t1,rfl⟩:=R;exact call_isinstance (isinstance_false_str h3 h1 h2) yes
  |dict0=>obtain rfl:=zaa eX;obtain⟨a,o,es,n,rfl,_,ho,hc,_⟩:=R;exact call_isinstance (isinstance_false_dict h3 h1 h2) ⟨⟨o,ho,hc⟩,yes⟩
  |_=>cases eX
end
section
variable {c:Cx}{env:Env}{res:Res}
theorem zjl{es:List Expr}{pos:Pos}:es.all zcz=true->(backTo pos (starEach es env)).any (·.1)=false:=by
 induction es with
 |nil=>intro _;rfl
 |cons e es ih=>
  intro h
  simp only[List.all_cons,Bool.and_eq_true] at h
  rw[zdd h.1]
  show(false||(backTo pos (starEach es env)).any (·.1))=false
  rw[ih h.2];rfl
inductive OutA(c:Cx)(φ:List Addr)(s:Shared)(Q:List V->Hp->Prop)(a:Args)(s':Shared):Prop
 |mk (rs:List Value)(h:a=⟨rs,[]⟩)(φ':List Addr)(H':Hp)(vs:List V)(e:Ext [] φ s φ' s')(S:Sim c φ' H' s')(R:RepL c φ' s'.heap vs rs)(q:Q vs H'):OutA c φ s Q a s'
theorem zkd{es:List Expr}{xs:List Ex}(h:zfr c env res es xs)(hne:es≠[]){f:Value} {A q d k loc φ H s Q E}{pos:Pos}(hA:OkF c A q d φ s.heap)(hF:FSim c env res k loc φ s.heap)(hS:Sim c φ H s)(hw:wpL (Calls c) q d k xs loc Q E H) :
  wpAny (model c.prog c.w) A (evalArgs f true (backTo pos (starEach es env)) []) (fun a s'=>OutA c φ s (fun vs H=>vs.length=xs.length/\Q vs H) a s') (OutX c φ s E) s:=by
 cases es with
 |nil=>exact absurd rfl hne
 |cons e es=>
  have h2:=h.2 A q d k loc φ H s Q E pos hA hF hS hw
  have hn:=h.1.1
  simp only[List.all_cons,Bool.and_eq_true] at hn
  rw[zdd hn.1] at h2 ⊢
  exact Calls.evalArgs_plain (wpAny_mono h2 (fun rs s' ⟨φ',H',vs,e,S,R,q⟩=>⟨rs,rfl,φ',H',vs,e,S,R,q⟩) fun _ _ h=>h)
theorem zls{f:Str}{p pos:Pos}{es:List Expr}{xs:List Ex}{a:Addr}{o:Obj}{fd:FuncData}(O:c.Ok)(hk:env.kindOf f=some .globalImplicit)(hg:c.g f=some (.ref a))(ho:c.h0.get? a=some o)(hd:o.data=.func fd)
  (hx:(f==("__debug__":Str))=false) (h:zfr c env res es xs) (hne:es≠[]):zch c env res (.Call (.Name f p) es [] pos) (.call f xs):=fun A q d k loc φ H s Q E hA hF hS hw=>by
 show wpAny _ _ (eval (.Name f p) env >>=fun fv=>callWith pos fv [] (backTo pos (starEach es env)) []) _ _ _
 refine wpAny_bind (Calls.Name_function_global hF.fn hk (Calls.loadGlobal_global (by rw[hF.gl];exact O.gl.keeps hS.stays) hg ?_) hx)
 refine Calls.callWith_function (o:=o) (fd:=fd) (wpAny_mono (zkd h hne hA hF hS hw) ?_ fun _ _ h=>h)
 rintro _ s₁ ⟨rs,rfl,φ₁,H₁,vs,e₁,S₁,R₁,l₁,w₁⟩
 refine⟨⟨S₁.stays a o ho,hd⟩,wpAny_call ?_⟩
 obtain⟨a',o',fd',g1,g2,g3,g4⟩:=w₁
 rw[hg] at g1;cases g1
 have:=g4 A φ₁ s₁ rs [] (hA.mono e₁).toOkA S₁ R₁ rfl
 rw[za9] at this
 refine codeAny_mono this ?_
 intro r s' hr
 cases r with
 |error e=>exact OutX.lift e₁ S₁ hr
 |ok f=>cases f with
  |ret v=>exact Out.lift e₁ hr
  |_=>exact hr.elim
theorem zeh{M:Model}{A:Around}{E:Value->Shared->Prop}{s:Shared}{pos:Pos}{f:Value}(hf:∀a,f≠.ref a){first:List Value}{args:List (Bool×Sem Value)}{Q:Value->Shared->Prop}(hplain:args.any (·.1)=false)
  (h:wpAny M A (evalArgs f true args []) (fun a s₁=>wpAny M A (call f (first++a.pos) a.kw) Q E s₁) E s):wpAny M A (callWith pos f first args []) Q E s:=by
 unfold callWith
 refine wpAny_bind (wpAny_holding (wpAny_mono h (fun a s₁ h₁=>wpAny_bind (wpAny_standAt ?_)) fun _ _ x=>x))
 rw[hplain]
 have hk:keeperOf f=pure .machine:=by cases f<;>first |rfl |exact absurd rfl (hf _)
 rw[hk]
 refine wpAny_bind (wpAny_pure ?_)
 exact wpAny_bind (wpAny_mono h₁ (fun r s₂ hr=>wpAny_bind (wpAny_holding (wpAny_point (wpAny_pure hr)))) fun _ _ x=>x)
theorem Bl.noref(b:Bl):∀a,b.real≠.ref a:=by intro a;cases b<;>(intro h;cases h)
theorem zut{f:Str}{p pos:Pos}{es:List Expr}{xs:List Ex}{b:Bl}(O:c.Ok)(hk:env.kindOf f=some .globalImplicit)(hg:c.g f=none)(hb:c.b f=some b.real)
  (hx:(f==("__debug__":Str))=false) (h:zfr c env res es xs) (hne:es≠[]):zch c env res (.Call (.Name f p) es [] pos) (.blt b xs):=fun A q d k loc φ H s Q E hA hF hS hw=>by
 show wpAny _ _ (eval (.Name f p) env >>=fun fv=>callWith pos fv [] (backTo pos (starEach es env)) []) _ _ _
 refine wpAny_bind (Calls.Name_function_global hF.fn hk (Calls.loadGlobal_builtin (by rw[hF.gl];exact O.gl.keeps hS.stays) hg (by rw[hF.bl];exact O.bl.keeps hS.stays) hb ?_) hx)
 refine zeh b.noref (zjl h.1.1) (wpAny_mono (zkd h hne hA hF hS hw) ?_ fun _ _ h=>h)
 rintro _ s₁ ⟨rs,rfl,φ₁,H₁,vs,e₁,S₁,R₁,l₁,w₁⟩
 obtain⟨p,e,w₂⟩:=Opt.inv w₁
 obtain⟨rfl,e'⟩:=zuo e
 exact(do_blt O (hA.mono e₁) S₁ R₁ e').use e₁ w₂
theorem zvm{p p' pos:Pos}{e:Expr}{x:Ex}{t:Tc}{T:String}(O:c.Ok)(hT:t.real=some T)(hk:env.kindOf (Str.ofString "isinstance")=some .globalImplicit)(hk':env.kindOf (Str.ofString T)=some .globalImplicit)
  (hg:c.g (Str.ofString "isinstance")=none) (hb:c.b (Str.ofString "isinstance")=some (.builtin "isinstance")) (hg':c.g (Str.ofString T)=none) (hb':c.b (Str.ofString T)=some (.type T))
  (hx:(Str.ofString T==("__debug__":Str))=false) (hn:zcz e=true) (h:zch c env res e x):zch c env res (.Call (.Name (Str.ofString "isinstance") p) [e,.Name (Str.ofString T) p'] [] pos) (.isi x t):=fun A q d k loc φ H s Q E hA hF hS hw=>by
 show wpAny _ _ (eval (.Name (Str.ofString "isinstance") p) env >>=fun fv=>callWith pos fv [] (backTo pos (starEach [e,.Name (Str.ofString T) p'] env)) []) _ _ _
 refine wpAny_bind (Calls.Name_function_global hF.fn hk (Calls.loadGlobal_builtin (by rw[hF.gl];exact O.gl.keeps hS.stays) hg (by rw[hF.bl];exact O.bl.keeps hS.stays) hb ?_))
 rw[zdd hn]
 refine zeh (by intro a h;cases h) rfl (Calls.evalArgs_plain (Calls.spliced_cons (wpAny_mono (h A q d k loc φ H s _ E hA hF hS hw) ?_ fun _ _ h=>h)))
 rintro r s₁ ⟨φ₁,H₁,v₁,e₁,S₁,R₁,w₁⟩
 refine Calls.spliced_cons (Calls.Name_function_global hF.fn hk' (Calls.loadGlobal_builtin (by rw[hF.gl];exact O.gl.keeps S₁.stays) hg' (by rw[hF.bl];exact O.bl.keeps S₁.stays) hb' (Calls.spliced_nil ?_)) hx)
 obtain⟨b,hb,w₁⟩:=Opt.inv w₁
 exact(do_isi S₁ R₁ hT hb).use e₁ w₁
end
end Bn
namespace Bn
open PySem PyProof.Rows
noncomputable def Me.on:Me->String
 |.join=>"str"
 |_=>"list"
noncomputable def Me.nm:Me->Str
 |.append=>"append"
 |.extend=>"extend"
 |.pop=>"pop"
 |.join=>"join"
noncomputable def Me.id:Me->String
 |.append=>"list.append"
 |.extend=>"list.extend"
 |.pop=>"list.pop"
 |.join=>"str.join"
theorem Me.slot(m:Me):Slot m.on m.nm m.id:=by
 cases m with
 |append=>exact PySem.F.slot_list_append
 |extend=>exact PySem.F.slot_list_extend
 |pop=>exact PySem.F.slot_list_pop
 |join=>exact PySem.F.slot_str_join
theorem Me.ty(m:Me):typeOf (.builtin m.id)=pure (.type "method_descriptor"):=by
 cases m with
 |append=>exact PySem.F.type_list_append
 |extend=>exact PySem.F.type_list_extend
 |pop=>exact PySem.F.type_list_pop
 |join=>exact PySem.F.type_str_join
theorem Me.attrs(m:Me):PlainAttrs m.on:=by
 cases m with
 |join=>exact PySem.F.plainAttrs_str
 |_=>exact PySem.F.plainAttrs_list
section
variable {c:Cx}{A:Around}{q:Bool}{d:Nat}{φ:List Addr}{H H':Hp}{s:Shared}
theorem zmt(S:Sim c φ H s){i:Nat}{a:Addr}{xs:List V}{vs:Array Value}{n:Nat}{f:Array Value->Array Value}{v:V}{r:Value}{t:Nat}(ha:φ[i]?=some a)(ho:s.heap.get? a=some (lobj vs n))
  (hr:RepL c φ s.heap xs (f vs).toList) (hz:xs.length<=sizeLine) (hv:Rep c φ s.heap v r):Out c φ s (fun x H'=>x=v/\H'=H.set i xs) r { s with heap:=s.heap.update a (Obj.mapSeq f),toks:=t }:=by
 obtain⟨e,S'⟩:=S.put (h':=s.heap.update a (Obj.mapSeq f)) ha (Heap.SameBut.update ..) (IsL.update (n:=n) ho f) hr hz
 exact⟨φ,_,v,e.trans (Ext.of_heap rfl rfl),S'.tok t,Rep.mono e.toKp OwnX.nil hv,rfl,rfl⟩
theorem RepL.eraseIdx{h:Heap}:∀{l:List V}{rs:List Value},RepL c φ h l rs->∀i:Nat,RepL c φ h (l.eraseIdx i) (rs.eraseIdx i)
 |[],_,q,_=>by rw[q.nil_inv];rfl
 |x::xs,_,q,i=>by
  obtain⟨r,rs,rfl,h1,h2⟩:=q.uncons
  cases i with
  |zero=>exact h2
  |succ i=>exact⟨h1,RepL.eraseIdx h2 i⟩
theorem zgj(vs:Array Value)(k:Nat):(vs.eraseIdxIfInBounds k).toList=vs.toList.eraseIdx k:=by
 unfold Array.eraseIdxIfInBounds
 split
 ·simp
 ·rename_i h
  rw[List.eraseIdx_of_length_le]
  simpa using h
noncomputable def HasM (c:Cx) (A:Around) (φ:List Addr) (s:Shared) (m:Me) (x:Value) (rs:List Value) (p:V×Hp):Prop:=Does c A φ s (call (.builtin m.id) (x::rs)) p.1 p.2
theorem zue (S:Sim c φ H s) {i:Nat} {w:V} {x r:Value} {xs:List V} (R1:Rep c φ s.heap (.lst i) x) (Rw:Rep c φ s.heap w r) (e1:H[i]?=some xs) (hz:xs.length<sizeLine):HasM c A φ s .append x [r] (.none,H.set i (xs++[w])):=by
 intro E
 have hsl:sizeLine=2^24:=rfl
 obtain⟨a,us,n,rfl,ha,ho,hr,hz1,z⟩:=S.getP R1 e1
 refine wpAny_call_entry slot_list_append ⟨_,ho,rfl⟩ entry_list_append ?_ (args_list_append _ _)
 show wpAny _ _ (updateSeq a (·.push r) >>=fun _=>ret .none) _ _ s
 refine wpAny_bind (wpAny_updateSeq ho rfl (wpAny_pure ⟨.none,rfl,?_⟩) (by exact Ar.ar2 [_,_,_] [] 0x294a000c20000610040308040 (Y0 V0 V1) (Y1 V2 V1) (Y2 V0 V2) hz z) (by simp;exact Ar.ar2 [_,_,_] [] 0x294a000c20000610040308040 (Y0 V0 V1) (Y1 V2 V1) (Y2 V0 V2) hz z))
 exact zmt (t:=s.toks) S ha ho (by rw[Array.toList_push];exact hr.append (show RepL c φ s.heap [w] [r] from⟨Rw,rfl⟩)) (by rw[zao];exact hz) rN
theorem zv2(S:Sim c φ H s){i j:Nat}{x r:Value}{xs ys:List V}(R1:Rep c φ s.heap (.lst i) x)(Rw:Rep c φ s.heap (.lst j) r)(e1:H[i]?=some xs)(e2:H[j]?=some ys)(hz:xs.length+ys.length<=sizeLine):HasM c A φ s .extend x [r] (.none,H.set i (xs++ys)):=by
 intro E
 have hsl:sizeLine=2^24:=rfl
 obtain⟨a,us,n,rfl,ha,ho,hr,hz1,z⟩:=S.getP R1 e1
 obtain⟨a2,us2,n2,rfl,ha2,ho2,hr2,hz2,z2⟩:=S.getP Rw e2
 refine call_meets PySem.F.slot_list_extend ⟨_,ho,rfl⟩ PySem.F.entry_list_extend (PySem.F.args_list_extend_2 _ _) (PySem.AutoSeq1.list_extend_list_list_0 a us n a2 us2 n2 ?_ (by exact Ar.ar2 [_,_,_] [] 0x294a000c20000610040308040 (Y0 V0 V1) (Y0 V2 V1) (Y2 V0 V2) hz1 z) (by exact Ar.ar4 [_,_,_,_,_] [] 0x294a528003080001840100c201006100c0308080 (Y0 (Y0 V0 V1) (.l 16777217)) (Y0 (Y0 V2 V3) V4) (Y2 V4 (.l 16777216)) (Y2 V0 V2) (Y2 V1 V3) hz hsl z z2)) ⟨ho,ho2,?_⟩
 ·simp[Builtin.List.listTooLong];lia
 ·exact zmt (f:=fun x=>x++us2) S ha ho (by rw[Array.toList_append];exact hr.append hr2) (by rw[zao];exact hz) rN
theorem do_pop0(S:Sim c φ H s){i:Nat}{u:V}{x:Value}{xs:List V}(R1:Rep c φ s.heap (.lst i) x)(e1:H[i]?=some xs)(e2:xs.getLast?=some u):HasM c A φ s .pop x [] (u,H.set i xs.dropLast):=by
 intro E
 have hsl:sizeLine=2^24:=rfl
 obtain⟨a,us,n,rfl,ha,ho,hr,hz1,z⟩:=S.getP R1 e1
 have hne:xs≠[]:=by intro h;rw[h] at e2;cases e2
 have hlen:0<xs.length:=List.length_pos_iff.mpr hne
 have e3:xs[xs.length-1]?=some u:=by rw[<- List.getLast?_eq_getElem?];exact e2
 obtain⟨y,hy1,hy2⟩:=hr.get e3
 refine call_meets PySem.F.slot_list_pop ⟨_,ho,rfl⟩ PySem.F.entry_list_pop (PySem.F.args_list_pop_1 _) (PySem.MeetsSeq.list_pop_last a us n y (by rw[z,<-zcb];exact hy1) (by exact Ar.ar2 [_,_,_] [] 0x294a000c20000610040308040 (Y0 V0 V1) (Y0 V2 V1) (Y2 V0 V2) hz1 z)) ⟨ho,?_⟩
 refine zmt (t:=s.toks) S ha ho ?_ (by simp;exact Ar.ar2 [_,_] [] 0x294a000c20000610040308040 (Y0 V0 (.l 16777217)) (Y2 V1 (.l 16777216)) (Y0 V0 V1) hsl hz1) hy2
 rw[zgj,z,<-List.eraseIdx_length_sub_one]
 exact hr.eraseIdx _
theorem do_popi(S:Sim c φ H s){i:Nat}{ii:Int}{u:V}{x r:Value}{xs:List V}(R1:Rep c φ s.heap (.lst i) x)(Rw:Rep c φ s.heap (.int ii) r)(e1:H[i]?=some xs)(h0:0<=ii)(e2:xs[ii.toNat]?=some u):HasM c A φ s .pop x [r] (u,H.set i (xs.eraseIdx ii.toNat)):=by
 intro E
 have hsl:sizeLine=2^24:=rfl
 obtain⟨a,us,n,rfl,ha,ho,hr,hz1,z⟩:=S.getP R1 e1
 obtain⟨t,rfl⟩:=Rw
 have hlt:=(zbi.mp e2).1
 obtain⟨y,hy1,hy2⟩:=hr.get e2
 refine call_meets PySem.F.slot_list_pop ⟨_,ho,rfl⟩ PySem.F.entry_list_pop (PySem.F.args_list_pop_2 _ _) (PySem.MeetsSeq.list_pop_at a us n ii t ii.toNat y (by simp[Builtin.List.listFitsIndex];exact Ar.ar5 [_,_,_] [_] 0x6610a50006100c0308000000a5294a000c202006101403080c01840101020000a5000610080308000 (Y6 (Y3 (Y3 (.l 9223372036854775808) J0) V0) (Y4 V0 (.l 9223372036854775808))) (Y3 J0 V0) (Y2 V0 (.l 16777216)) (Y0 V1 V0) (Y1 V2 V1) (Y7 (Y5 (Y4 V2 J0) V0) (Y6 (Y3 V0 J0) (Y2 V2 J0))) h0 hsl hz1 hlt (Ar.tn _)) ?_ (by rw[<- zcb];exact hy1) (by exact Ar.ar2 [_,_,_] [] 0x294a000c20000610040308040 (Y0 V0 V1) (Y0 V2 V1) (Y2 V0 V2) hz1 z)) ⟨ho,?_⟩
 ·have:ix ii us.size=some ii.toNat:=by unfold ix;rw[if_pos h0,if_pos (by exact Ar.ar3 [_,_,_] [_] 0x490a5294001840301020200610140308000000a52940018401010201006100c0408000 (Y4 V0 (Y4 V0 J0)) (Y2 V0 V1) (Y1 V2 V1) (Y7 (Y5 (Y4 V2 J0) V0) (Y6 (Y3 V0 J0) (Y2 V2 J0))) z hlt (Ar.tn _))]
  exact let⟨_,_,h⟩:=zmv this;h
 ·refine zmt (t:=s.toks) S ha ho ?_ (by have:=List.length_eraseIdx_le xs ii.toNat;exact Ar.ar2 [_,_,_] [] 0x294a000c20000610040308040 (Y0 V0 V1) (Y0 V2 V1) (Y0 V0 V2) hz1 this) hy2
  rw[zgj]
  exact hr.eraseIdx _
inductive LstI(H:Hp){β:Type}(v:V)(f:Nat->List V->Option β)(r:β):Prop
 |mk (i:Nat)(xs:List V)(h:v=.lst i)(e:H[i]?=some xs)(g:f i xs=some r):LstI H v f r
theorem lstI{β:Type}{v:V}{f:Nat->List V->Option β}{r:β}(h:((zle v).bind fun a=>(H[a]?).bind fun xs=>f a xs)=some r):LstI H v f r:=by
 obtain⟨i,hi,g⟩:=zad.mp h
 obtain⟨xs,e,g⟩:=zad.mp g
 exact⟨i,xs,zgk hi,e,g⟩
set_option maxRecDepth 100000
theorem zps{rs:List Value}{l:List Str}(h:StrsAre rs l):∃ps:List (Str×Tok),rs=strValues ps/\ps.map (·.1)=l:=by
 induction h with
 |nil=>exact⟨[],rfl,rfl⟩
 |cons=>
  rename_i ih
  obtain⟨ps,h1,h2⟩:=ih
  exact⟨(_,_)::ps,by rw[h1];rfl,by rw[<- h2];rfl⟩
theorem zj0:∀(l:List Str)(acc:Array Nat),(l.foldl (fun acc p=>acc++(#[]:Array Nat)++p.cps) acc).toList=acc.toList++l.flatMap fun x=>x.cps.toList
 |[],acc=>by simp
 |x::l,acc=>by
  rw[List.foldl_cons,zj0 l,zb4,Array.toList_append,Array.toList_append,zbd,zbd];rfl
theorem znt:∀(l:List Str),Builtin.Str.glued ⟨#[]⟩ l=⟨(l.flatMap fun x=>x.cps.toList).toArray⟩
 |[]=>rfl
 |x::l=>by
  show(⟨l.foldl (fun acc p=>acc++#[]++p.cps) x.cps⟩:Str)=_
  rw[<- Array.toArray_toList (xs:=l.foldl (fun acc p=>acc++(#[]:Array Nat)++p.cps) x.cps),zj0];rfl
theorem join_sum:∀(l:List Str)(k:Nat),l.toArray.foldl (fun a p=>a+p.length+(⟨#[]⟩:Str).length) k=k+(l.map Str.length).sum:=by
 intro l k
 rw[List.foldl_toArray]
 induction l generalizing k with
 |nil=>rfl
 |cons x l ih=>rw[List.foldl_cons,ih,zbg,List.sum_cons,<-Nat.add_assoc];rfl
noncomputable def joinMade(ps:List (Str×Tok)):Made:=match ps with
 |[p]=>.val (.str p.1 p.2)
 |_=>.str (Builtin.Str.glued ⟨#[]⟩ (ps.map (·.1)))
theorem zta(ps:List (Str×Tok))(t:Tok)(a:Addr)(us:Array Value)(n:Nat)(d:Option Addr)(sl:Array (Option Value))(hu:us.toList=strValues ps)(hz:(ps.map fun p=>p.1.length).sum<=sizeLine) :
  Meets (Builtin.«str.join» ⟨[.str ⟨#[]⟩ t,.ref a],[]⟩) (fun A R s=>s.heap.get? a=some { cls:=.type "list",dict:=d,data:=.seq us n,slots:=sl } /\
   (joinMade ps).post (fun v s'=>R (.ok (.ret v)) s') s):=fun prog w A R s h=>by
 obtain⟨ho,h⟩:=h
 obtain⟨other,e⟩:=PySem.join_tree ⟨#[]⟩ t a
 rw[e]
 refine wpAny_bind (wpAny_typeOf (T:="list") ⟨_,ho,rfl⟩ ?_)
 rw[if_pos (by decide)]
 refine wpAny_bind (wpAny_seqItems ho rfl ?_)
 show wpAny _ _ (PySem.joinTail ⟨#[]⟩ us.toList) _ _ _
 rw[hu]
 have ht:Builtin.Str.tooLong ((ps.map (·.1)).toArray.foldl (· + ·.length+(⟨#[]⟩:Str).length) 0)=false:=by
  refine decide_eq_false (Nat.not_lt.mpr ?_)
  rw[join_sum,za0,Nat.zero_add]
  exact hz
 refine PySem.gives_joinTail ⟨#[]⟩ ps ht prog w A R s ?_
 cases ps with
 |nil=>exact h
 |cons p r=>cases r with
  |nil=>exact h
  |cons q r=>exact h
theorem do_join(S:Sim c φ H s){i:Nat}{x r:Value}{xs:List V}{l:List Str}(R0:Rep c φ s.heap (.str ⟨#[]⟩) x)(R1:Rep c φ s.heap (.lst i) r)(e3:H[i]?=some xs)(e4:zh5 xs=some l)(hz:(l.map Str.length).sum<=sizeLine) :
  DoesP c A φ s (call (.builtin "str.join") [x,r]) (.str ⟨(l.flatMap fun x=>x.cps.toList).toArray⟩,H):=by
 intro E
 obtain⟨t,rfl⟩:=R0
 obtain⟨a,us,n,rfl,ha,ho,hr,hz1,z⟩:=S.getP R1 e3
 obtain⟨ps,hu,rfl⟩:=zps (zik hr e4)
 rw[za0] at hz
 refine call_meets PySem.F.slot_str_join (typeIs_str s _ t) PySem.F.entry_str_join (PySem.F.args_str_join_2 _ _) (zta ps t a us n none #[] hu hz) ⟨ho,?_⟩
 rw[<- znt]
 match ps with
 |[p]=>exact Out.same' S ⟨p.2,by show Value.str p.1 p.2=Value.str (Builtin.Str.glued ⟨#[]⟩ [p.1]) p.2;rfl⟩
 |[]=>exact⟨by decide,Out.same S rS⟩
 |p::q::ps=>
  refine⟨?_,Out.same S rS⟩
  rw[znt]
  show(List.flatMap _ _).toArray.size<=sizeLine
  rw[List.size_toArray,List.length_flatMap,za0]
  exact hz
theorem do_meth(S:Sim c φ H s){m:Me}{v:V}{vs:List V}{p:V×Hp}{x:Value}{rs:List Value}(R1:Rep c φ s.heap v x)(R2:RepL c φ s.heap vs rs)(e:ztx H m v vs=some p) :
  DoesP c A φ s (call (.builtin m.id) (x::rs)) p:=by
 cases m with
 |append=>
  obtain⟨i,xs,rfl,e1,g⟩:=lstI e
  obtain⟨w,rfl,k⟩:=zeu g
  obtain⟨r,rfl,Rw⟩:=R2.one
  obtain⟨hz,rfl⟩:=iteS k
  exact zue S R1 Rw e1 hz
 |extend=>
  obtain⟨i,xs,rfl,e1,g⟩:=lstI e
  obtain⟨w,rfl,k⟩:=zeu g
  obtain⟨j,ys,rfl,e2,k2⟩:=zgt k
  obtain⟨r,rfl,Rw⟩:=R2.one
  obtain⟨hz,rfl⟩:=iteS k2
  exact zv2 S R1 Rw e1 e2 hz
 |pop=>
  obtain⟨i,xs,rfl,e1,g⟩:=lstI e
  obtain⟨l,hl,k⟩:=zad.mp g
  have hi:=zfs R2 hl
  cases l with
  |nil=>
   obtain⟨w,e2,rfl⟩:=zaj.mp k
   cases hi
   exact do_pop0 S R1 e1 e2
  |cons ii r=>
   obtain⟨hz,k2⟩:=iteO k
   obtain⟨w,e2,rfl⟩:=zaj.mp k2
   obtain rfl:=hz.2
   obtain⟨t,rfl⟩:=ints1 hi
   exact do_popi S R1 rI e1 hz.1 e2
 |join=>
  obtain⟨t,ht,g⟩:=zad.mp e
  obtain rfl:=zfp ht
  obtain⟨w,rfl,k⟩:=zeu g
  obtain⟨r,rfl,Rw⟩:=R2.one
  obtain⟨i,xs,rfl,e3,k1⟩:=zgt k
  obtain⟨l,e4,k2⟩:=zad.mp k1
  obtain⟨hz,rfl⟩:=iteS k2
  obtain⟨rfl,hz⟩:=hz
  exact do_join S R1 Rw e3 e4 hz
end
end Bn
namespace Bn
open PySem PyProof.Rows
noncomputable def zv5:Expr->Bool
 |.Name ..=>true
 |.Constant ..=>true
 |.Subscript ..=>true
 |_=>false
theorem base_of{o:Expr}{name:Str}{env:Env}(h:zv5 o=true):attributeBase o name env (eval o env)=eval o env:=by
 cases o<;>first |rfl |cases h
theorem zok{M:Model}{A:Around}{E:Value->Shared->Prop}{s:Shared}{f:Value}{Q:Args->Shared->Prop}(h:Q ⟨[],[]⟩ s):wpAny M A (evalArgs f true [] []) Q E s:=by
 unfold evalArgs
 show wpAny M A (spliced [] >>=_) Q E s
 refine wpAny_bind (wpAny_pure (wpAny_bind (wpAny_pure ?_)))
 refine wpAny_holding ?_
 exact wpAny_bind (wpAny_pure (wpAny_bind (wpAny_pure (wpAny_pure h))))
theorem pick_rev(items:Array Value):slicePick items none none (some (-1))=items.toList.reverse.toArray:=by
 have hr:sliceRange ((items.size:Int)-1) (-1) (-1)=(List.range items.size).map fun k=>items.size-1-k:=by
  unfold sliceRange
  by_cases h:(items.size:Int)-1 > -1
  ·have e:((items.size:Int)-1 - -1 - -1-1)/(- -1)=(items.size:Int):=by
    rw[show(- -1:Int)=1 from rfl,Int.ediv_one];exact Ar.ar0 [_] [] 0x628003080002800308000 (Y5 (Y2 (Y2 (Y2 (Y2 (Y4 V0 J0) J1) (Y3 J1 J0)) (Y3 J1 J0)) J1) (Y4 V0 J0))
   simp only[show ¬((-1:Int)>0) by decide,if_false,h,if_true,e,Int.toNat_natCast]
   exact zby fun k hk=>by have:=za4.mp hk;lia
  ·simp[show items.size=0 by exact Ar.ar1 [_] [] 0x18a50006100803080002800308000 (Y2 V0 J0) (Y8 (Y4 (Y3 J1 J0) (Y2 (Y4 V0 J0) J1)) J0) h]
 have hb:sliceBounds none none (some (-1)) items.size=((items.size:Int)-1,-1,-1):=by simp[sliceBounds]
 unfold slicePick
 rw[hb]
 congr 1
 show(sliceRange ((items.size:Int)-1) (-1) (-1)).filterMap (items[·]?)=_
 rw[hr,List.filterMap_map]
 have:∀k∈List.range items.size,((items[·]?)∘fun k=>items.size-1-k) k=some (items.toList.reverse.getD k Value.none):=by
  intro k hk
  have hk:=za4.mp hk
  show items[items.size-1-k]?=_
  rw[zas,List.getElem?_reverse (by simpa using hk),zbe,zcb,zcc (by exact Ar.ar1 [_,_] [] 0x68190a5294001840900c20500610080308020180a10942000465294001840700c201806100005084a10002508001 (Y1 (Y2 (Y2 V0 J1) V1) V0) (Y1 V1 V0) hk)];rfl
 have fm:∀(f:Nat->Option Value) (g:Nat->Value) (l:List Nat),(∀k∈l,f k=some (g k))->l.filterMap f=l.map g:=by
  intro f g l
  induction l with
  |nil=>intro _;rfl
  |cons x r ih=>intro h;rw[List.filterMap_cons_some (h x zae),ih fun k hk=>h k (zai _ hk),zbg]
 rw[fm _ _ _ this]
 apply List.ext_getElem
 ·simp
 ·intro i h1 h2
  have:i<items.size:=by simpa using h2
  simp[this]
section
variable {c:Cx}{env:Env}{res:Res}
theorem args_any{es:List Expr}{xs:List Ex}(h:zfr c env res es xs){f:Value} {A q d k loc φ H s Q E}{pos:Pos}(hA:OkF c A q d φ s.heap)(hF:FSim c env res k loc φ s.heap)(hS:Sim c φ H s)(hw:wpL (Calls c) q d k xs loc Q E H) :
  wpAny (model c.prog c.w) A (evalArgs f true (backTo pos (starEach es env)) []) (fun a s'=>OutA c φ s (fun vs H=>vs.length=xs.length/\Q vs H) a s') (OutX c φ s E) s:=by
 cases es with
 |cons e es=>exact zkd h (by simp) hA hF hS hw
 |nil=>
  have hx:xs=[]:=zbw.mp h.1.2.symm
  subst hx
  exact zok ⟨[],rfl,φ,H,[],Ext.refl,hS,rL,rfl,hw⟩
theorem few_args{es:List Expr}{pos:Pos}(h:es.all zcz=true)(hes:es.length<20):((backTo pos (starEach es env)).all (fun x=>!x.1)&&(backToKw pos (keywordEach [] env)).all (fun x=>x.1.isSome)
   && decide (es.length+([]:List Keyword).length+(if([]:List Keyword).isEmpty then 0 else 1)<30))=true:=by
 have h3:(backTo pos (starEach es env)).all (fun x=>!x.1)=true:=by
  rw[za5]
  intro x hx
  have:=List.any_eq_false.mp (zjl (env:=env) (pos:=pos) h) x hx
  rw[Bool.not_eq_true] at this
  rw[this];rfl
 exact zag.mpr ⟨zag.mpr ⟨h3,rfl⟩,decide_eq_true (zar hes (by decide))⟩
theorem meth_on{A:Around}{φ:List Addr}{H:Hp}{s:Shared}(S:Sim c φ H s){m:Me}{v:V}{r:Value}(R:Rep c φ s.heap v r)(h:zvx m v=true):s.TypeIs r m.on/\(∀a,r=.ref a->∃ob,s.heap.get? a=some ob/\ob.dict=none):=by
 have lst:∀{v},isLst v=true->Rep c φ s.heap v r->s.TypeIs r "list"/\(∀a,r=.ref a->∃ob,s.heap.get? a=some ob/\ob.dict=none):=fun{v} h R=>by
  cases v with
  |lst i=>
   have R0:=R
   obtain⟨a,_,ha⟩:=R0
   obtain⟨a,us,n,rfl,_,ho,_⟩:=S.getP R (zam (S.len▸(zbi.mp ha).1))
   exact⟨⟨_,ho,rfl⟩,fun a h=>by cases h;exact⟨_,ho,rfl⟩⟩
  |_=>cases h
 cases m with
 |join=>
  cases v with
  |str x=>obtain⟨t,rfl⟩:=R;exact⟨typeIs_str _ _ _,fun a h=>by cases h⟩
  |_=>cases h
 |_=>exact lst h R
theorem zsk{m:Me}{o:Expr}{x:Ex}{es:List Expr}{xs:List Ex}{apos pos:Pos}(hb:zv5 o=true)(hl:(apos.endLine==pos.line)=true)(hes:es.length<20)(h1:zch c env res o x)(h2:zfr c env res es xs) :
  zch c env res (.Call (.Attribute o m.nm apos) es [] pos) (.meth m x xs):=fun A q d k loc φ H s Q E hA hF hS hw=>by
 refine wpAny_Call_method (base_of hb) (few_args h2.1.1 hes) hl m.attrs m.slot m.ty (wpAny_mono (h1 A q d k loc φ H s _ E hA hF hS hw) ?_ fun _ _ h=>h)
 rintro r s₁ ⟨φ₁,H₁,v₁,e₁,S₁,R₁,hok,w₁⟩
 obtain⟨t1,t2⟩:=meth_on (A:=A) S₁ R₁ hok
 refine⟨t1,t2,zeh (by intro a h;cases h) (zjl h2.1.1) (wpAny_mono (args_any h2 (hA.mono e₁) (hF.mono e₁) S₁ w₁) ?_ fun _ _ h=>OutX.lift e₁ S₁ h)⟩
 rintro _ s₂ ⟨rs,rfl,φ₂,H₂,vs,e₂,S₂,R₂,l₂,w₂⟩
 obtain⟨p,e,w₂⟩:=Opt.inv w₂
 exact(do_meth S₂ (Rep.mono e₂.toKp OwnX.nil R₁) R₂ e).use (e₁.trans e₂) w₂
theorem clip_eq(n:Nat)(i:Int):clipAt n i=zkb i n:=by
 have h:=clipAt_cast n i
 unfold zkb
 split at h<;>rename_i hi
 ·rw[if_pos hi];exact Ar.ar5 [_,_,_] [_,_,_] 0x3298e214a000c20380610040001084294a528003081801840900c202006100803080002006010085294001840700c202006100000031c4294001840700c2008000210a5294a000c205006101c04080c01840200c200004008085294001840700c202006100000028852800308060184010000c71085294a528003081202040a00c20380610180408040204000080101085294a50008102803080e0184060102010081000020040e210a5294001840900c203006100c040800010020210a5294001840700c203006100c040800010020 (Y2 V0 V1) (Y4 V0 J0) (Y5 (Y4 V0 J0) V1) (Y7 (Y5 (Y4 V1 J0) (Y0 V0 (Y4 V2 J0))) (Y6 (Y3 (Y0 V0 (Y4 V2 J0)) J0) (Y2 V1 J0))) (Y7 (Y6 (Y5 V1 J0) (Y3 V2 J0)) (Y6 (Y5 V1 V2) (Y3 J0 V2))) (Y7 (Y6 (Y5 V2 (Y0 V0 (Y4 V2 J0))) (Y3 (Y0 V0 (Y4 V2 J0)) (Y4 V2 J0))) (Y6 (Y5 V2 (Y4 V2 J0)) (Y3 (Y4 V2 J0) (Y0 V0 (Y4 V2 J0))))) hi h (Ar.tn _) (Ar.zx _ _) (Ar.zn _ _)
 ·rw[if_neg hi];exact Ar.ar4 [_,_,_] [_,_,_] 0x192b69084294a5294001840b00c204806101003080401840000c20080801804021085294a50006102c03081201840400c20100610000400c02010a528003080c01840400c20000005b468210a5294a000c206806102c04080801840200c20000c028084294a5294a000c206806102c04081402040400c20100610000308020300a04082108d04214a5294a000c206806102c04080801840200c20000610040601404214a5294a000c206806102c04081402040400c2010061000060140810421214a50006101803080801840000009190a528003080c01840200c2008060408210ada3210a5294a0010206006102803080a02040201020000a02010208423210a5294a50008103003081401840900c2020081008040800028080408210b464214a528003081401840500c201808100005010081042119085294a50006102803081201840400c2018081000050100810421 (Y2 V0 (Y5 V1 V2)) (Y5 (Y4 V0 J0) V0) (Y7 (Y5 (Y4 V1 J0) V1) (Y6 (Y3 V1 J0) (Y2 V1 J0))) (Y7 (Y6 (Y5 V0 J0) (Y3 V2 J0)) (Y6 (Y5 V0 V2) (Y3 J0 V2))) (Y7 (Y6 (Y5 V2 V1) (Y3 V1 (Y4 V2 J0))) (Y6 (Y5 V2 (Y4 V2 J0)) (Y3 (Y4 V2 J0) V1))) h (Ar.tn _) (Ar.zx _ _) (Ar.zn _ _)
theorem RepL.drop{h:Heap}{φ:List Addr}:∀{l:List V}{rs:List Value},RepL c φ h l rs->∀i:Nat,RepL c φ h (l.drop i) (rs.drop i)
 |_,_,h,0=>h
 |[],_,h,_+1=>by rw[h.nil_inv];rfl
 |x::xs,_,h,i+1=>by
  obtain⟨r,rs,rfl,_,h2⟩:=h.uncons
  exact RepL.drop h2 i
theorem RepL.take{h:Heap}{φ:List Addr}:∀{l:List V}{rs:List Value},RepL c φ h l rs->∀i:Nat,RepL c φ h (l.take i) (rs.take i)
 |_,_,_,0=>rfl
 |[],_,h,_+1=>by rw[h.nil_inv];rfl
 |x::xs,_,h,i+1=>by
  obtain⟨r,rs,rfl,h1,h2⟩:=h.uncons
  exact⟨h1,RepL.take h2 i⟩
theorem RepL.reverse{h:Heap}{φ:List Addr}{l:List V}{rs:List Value}(hr:RepL c φ h l rs):RepL c φ h l.reverse rs.reverse:=by
 have hlen:=hr.length
 refine RepL.of_get (by simp[hlen]) fun i v r h1 h2=>?_
 have hi:i<l.length:=by have:=(zbi.mp h1).1;simpa using this
 rw[List.getElem?_reverse hi] at h1
 rw[List.getElem?_reverse (by exact Ar.ar2 [_,_,_] [] 0x294a000c20000810040308040 (Y1 V0 V1) (Y2 V1 V2) (Y1 V0 V2) hlen hi),hlen] at h2
 obtain⟨r',h3,h4⟩:=hr.get h1
 rw[h2] at h3;cases h3;exact h4
noncomputable def zrc(c:Cx)(env:Env)(res:Res)(e:Option Expr)(x:Ex):Prop:=
 match e with
 |none=>x=.lit .none
 |some e=>zch c env res e x
theorem zvf{e:Option Expr}{x:Ex}(h:zrc c env res e x) {A q d k loc φ H s Q E}(hA:OkF c A q d φ s.heap)(hF:FSim c env res k loc φ s.heap)(hS:Sim c φ H s)(hw:wpE (Calls c) q d k x loc Q E H) :
  wpAny (model c.prog c.w) A (evalPart e env) (Out c φ s Q) (OutX c φ s E) s:=by
 cases e with
 |none=>
  obtain rfl:x=.lit .none:=h
  rw[evalPart_none]
  exact wpAny_pure (Out.at' hS rN hw)
 |some e=>
  rw[evalPart_some]
  exact h A q d k loc φ H s Q E hA hF hS hw
inductive PartI(r:Value)(n dflt k:Nat):Prop
 |mk (o:Option Int)(h1:IsPart r o)(h2:o.elim dflt (clipAt n)=k):PartI r n dflt k
theorem znw{h:Heap}{φ:List Addr}{v:V}{r:Value}{n dflt k:Nat}(R:Rep c φ h v r)(hb:bound? n dflt v=some k):PartI r n dflt k:=by
 cases v with
 |none=>obtain rfl:=R;obtain rfl:=zaa hb;exact⟨none,.none,rfl⟩
 |int i=>obtain⟨t,rfl⟩:=R;obtain rfl:=zaa hb;exact⟨some _,.int _ _,clip_eq _ _⟩
 |_=>cases hb
theorem do_slice{A:Around}{φ:List Addr}{H:Hp}{s:Shared}{o:Expr}{lo hi:Option Expr}{p:Pos}(S:Sim c φ H s){v vl vu:V}{r rl ru:Value}(R:Rep c φ s.heap v r)(Rl:Rep c φ s.heap vl rl)(Ru:Rep c φ s.heap vu ru){u:V×Hp}(e:zo5 H v vl vu=some u) {E} :
  wpAny (model c.prog c.w) A (subscriptTail o (.Slice lo hi none p) r (.ref s.heap.objs.size)) (Out c φ s fun x H'=>x=u.1/\H'=u.2) E { s with heap:=s.heap.push { cls:=.type "slice",data:=.fields #[rl,ru,.none] } }:=by
 have hsl:sizeLine=2^24:=rfl
 obtain⟨i,xs,rfl,ex,g⟩:=lstI e
 obtain⟨i,ei,g⟩:=zad.mp g
 obtain⟨j,ej,rfl⟩:=zaj.mp g
 obtain⟨b,us,n,rfl,hb,hob,hr,hz,zz⟩:=S.getP R ex
 obtain⟨ol,pl,el⟩:=znw Rl ei
 obtain⟨ou,pu,eu⟩:=znw Ru ej
 obtain⟨ops,hops⟩:=zk9 (.Slice lo hi none p) (.ref b) (.ref s.heap.objs.size)
 have hL:=zdi hob
 refine tail_any (hL.push _).typeIs slot_list_getitem.lookup (wpAny_getItem_list_slice (hL.push _) (Heap.IsSliceOf.new ..) pl pu .none (by simp) ?_ (by exact Ar.ar2 [_,_,_] [] 0x294a000c20000610040308040 (Y0 V0 V1) (Y0 V2 V1) (Y2 V0 V2) hz zz)) hops
 have S₄:=S.push { cls:=.type "slice",data:=.fields #[rl,ru,.none] }
 have e₄:Ext [] φ s φ { s with heap:=s.heap.push { cls:=.type "slice",data:=.fields #[rl,ru,.none] } }:=Ext.push
 refine Out.lift e₄ (zfa S₄ ?_ ?_)
 ·rw[slicePick_plain,zz,el,eu]
  exact RepL.mono e₄.toKp OwnX.nil ((hr.drop i).take (j-i))
 ·rw[zbj,zbr];exact zab (Nat.min_le_right _ _) (zab (Nat.sub_le _ _) hz)
theorem do_rev{A:Around}{φ:List Addr}{H:Hp}{s:Shared}{o:Expr}{p p' p'':Pos}{n:Nat}{t:Tok}(S:Sim c φ H s){v:V}{r:Value}(R:Rep c φ s.heap v r){u:V×Hp}(e:revV H v=some u) {E} :
  wpAny (model c.prog c.w) A (subscriptTail o (.Slice none none (some (.UnaryOp .USub (.Constant (.int 1) n p) p')) p'') r (.ref s.heap.objs.size)) (Out c φ s fun x H'=>x=u.1/\H'=u.2) E { s with heap:=s.heap.push { cls:=.type "slice",data:=.fields #[.none,.none,.int (-1) t] } }:=by
 have hsl:sizeLine=2^24:=rfl
 obtain⟨i,hi,g⟩:=zad.mp e
 obtain rfl:=zgk hi
 obtain⟨xs,ex,rfl⟩:=zaj.mp g
 obtain⟨b,us,m,rfl,hb,hob,hr,hz,zz⟩:=S.getP R ex
 obtain⟨ops,hops⟩:=zk9 (.Slice none none (some (.UnaryOp .USub (.Constant (.int 1) n p) p')) p'') (.ref b) (.ref s.heap.objs.size)
 have hL:=zdi hob
 refine tail_any (hL.push _).typeIs slot_list_getitem.lookup (wpAny_getItem_list_slice (hL.push _) (Heap.IsSliceOf.new ..) .none .none (.int (-1) _) (by simp) ?_ (by exact Ar.ar2 [_,_,_] [] 0x294a000c20000610040308040 (Y0 V0 V1) (Y0 V2 V1) (Y2 V0 V2) hz zz)) hops
 have S₄:=S.push { cls:=.type "slice",data:=.fields #[.none,.none,.int (-1) t] }
 have e₄:Ext [] φ s φ { s with heap:=s.heap.push { cls:=.type "slice",data:=.fields #[.none,.none,.int (-1) t] } }:=Ext.push
 refine Out.lift e₄ (zfa S₄ ?_ (by rw[List.length_reverse];exact hz))
 rw[pick_rev]
 exact RepL.mono e₄.toKp OwnX.nil hr.reverse
theorem zp9{o:Expr}{x y z:Ex}{lo hi:Option Expr}{p pos:Pos}(h1:zch c env res o x)(h2:zrc c env res lo y)(h3:zrc c env res hi z):zch c env res (.Subscript o (.Slice lo hi none p) pos) (.slice x y z):=fun A q d k loc φ H s Q E hA hF hS hw=>by
 refine Subscript_ (wpAny_mono (h1 A q d k loc φ H s _ E hA hF hS hw) ?_ fun _ _ h=>h)
 rintro r s₁ ⟨φ₁,H₁,v₁,e₁,S₁,R₁,w₁⟩
 refine wpAny_Slice (wpAny_mono (zvf h2 (hA.mono e₁) (hF.mono e₁) S₁ w₁) ?_ fun _ _ h=>OutX.lift e₁ S₁ h)
 rintro rl s₂ ⟨φ₂,H₂,v₂,e₂,S₂,R₂,w₂⟩
 have e12:=e₁.trans e₂
 refine wpAny_mono (zvf h3 (hA.mono e12) (hF.mono e12) S₂ w₂) ?_ fun _ _ h=>OutX.lift e12 S₂ h
 rintro ru s₃ ⟨φ₃,H₃,v₃,e₃,S₃,R₃,w₃⟩
 obtain⟨u,e,w₃⟩:=Opt.inv w₃
 rw[evalPart_none]
 exact wpAny_pure (wpAny_mono (do_slice S₃ (Rep.mono (e₂.trans e₃).toKp OwnX.nil R₁) (Rep.mono e₃.toKp OwnX.nil R₂) R₃ e) (fun _ _ h=>Out.lift (e12.trans e₃) (h.eq w₃)) fun _ _ h=>h)
theorem zvp{o:Expr}{x:Ex}{p p' p'' pos:Pos}{n:Nat}(h1:zch c env res o x):zch c env res (.Subscript o (.Slice none none (some (.UnaryOp .USub (.Constant (.int 1) n p) p')) p'') pos) (.rev x):=fun A q d k loc φ H s Q E hA hF hS hw=>by
 refine Subscript_ (wpAny_mono (h1 A q d k loc φ H s _ E hA hF hS hw) ?_ fun _ _ h=>h)
 rintro r s₁ ⟨φ₁,H₁,v₁,e₁,S₁,R₁,w₁⟩
 obtain⟨u,e,w₁⟩:=Opt.inv w₁
 refine wpAny_Slice ?_
 rw[evalPart_none]
 refine wpAny_pure (wpAny_pure ?_)
 rw[evalPart_some]
 refine wpAny_UnaryOp (wpAny_Constant_int (PyProof.Rows.neg_int ?_))
 have et:Ext [] φ₁ s₁ φ₁ { s₁ with toks:=s₁.toks+1+1 }:=Ext.of_heap rfl rfl
 exact wpAny_mono (do_rev (S₁.tok (s₁.toks+1+1)) R₁ e) (fun _ _ h=>Out.lift (e₁.trans et) (h.eq w₁)) fun _ _ h=>h
end
end Bn
set_option maxRecDepth 100000
namespace Bn
open PySem PyProof.Rows
noncomputable def rvT:String:="list_reverseiterator"
noncomputable def rvO(l:Addr)(i:Int):Obj:={ cls:=.type rvT,data:=.fields #[.ref l,rawInt i] }
inductive RvAt(h:Heap)(I l:Addr)(i:Int):Prop
 |mk (o:Obj)(ho:h.get? I=some o)(hc:o.cls=.type rvT)(hd:o.data=.fields #[.ref l,rawInt i])
theorem rv_sig:Manifest.owners.lookup (String.ofList ['r','o','t','a','r','e','t','i','e','s','r','e','v','e','r','_','t','s','i','l'].reverse)=some Manifest.sig_list_reverseiterator:=by kernel_rfl
theorem zm8:Slot rvT "__next__" "list_reverseiterator.__next__":=
 .of (owner:=rvT) (n:="__next__") (by rw[typeLookup_type,builtinLookup_eq_fast];kernel_rfl) (by decide +kernel) (by decide +kernel) (by decide +kernel) (.inl (by decide +kernel)) (by rw[isSubtype_type];kernel_rfl)
theorem zwn:Slot rvT "__iter__" "list_reverseiterator.__iter__":=
 .of (owner:=rvT) (n:="__iter__") (by rw[typeLookup_type,builtinLookup_eq_fast];kernel_rfl) (by decide +kernel) (by decide +kernel) (by decide +kernel) (.inl (by decide +kernel)) (by rw[isSubtype_type];kernel_rfl)
theorem zjf(a:Value):argsOk "list_reverseiterator.__next__" ⟨[a],[]⟩:=by
 unfold argsOk
 rw[signature?_of (id:="list_reverseiterator.__next__") (n:=['_','_','t','x','e','n','_','_']) (o:=['r','o','t','a','r','e','t','i','e','s','r','e','v','e','r','_','t','s','i','l']) (by kernel_rfl) rv_sig]
 kernel_rfl
theorem znv(a:Value):argsOk "list_reverseiterator.__iter__" ⟨[a],[]⟩:=by
 unfold argsOk
 rw[signature?_of (id:="list_reverseiterator.__iter__") (n:=['_','_','r','e','t','i','_','_']) (o:=['r','o','t','a','r','e','t','i','e','s','r','e','v','e','r','_','t','s','i','l']) (by kernel_rfl) rv_sig]
 kernel_rfl
theorem zif:entryFor table "list_reverseiterator.__next__"=some Builtin.«list_reverseiterator.__next__»:=entryFor_of_tree (by kernel_rfl)
theorem znl:entryFor table "list_reverseiterator.__iter__"=some Builtin.«dict_keyiterator.__iter__»:=
 entryFor_alias (id':="dict_keyiterator.__iter__") (by kernel_rfl) (by first |rfl |decide +kernel |(unfold String.splitOn;simp +decide [String.splitOnAux])) (by decide +kernel) (by kernel_rfl)
theorem rd_mro:mroOf (.type "reversed")=pure [.type "reversed",.type "object"]:=by rw[mroOf_type];kernel_rfl
theorem rd_made:Bind.madeBy (.type "reversed")=pure (some "reversed.__new__"):=
 madeBy_type rd_mro (by rw[typeLookup_type,builtinLookup_eq_fast];kernel_rfl) (by decide +kernel)
theorem rd_entry:entryFor table "reversed.__new__"=some Builtin.«reversed.__new__»:=entryFor_of_tree (by kernel_rfl)
theorem zq4:plainId "reversed.__new__"=true:=by decide +kernel
section
variable {prog:Program}{w:World}{A:Around}{E:Value->Shared->Prop}{s:Shared}
theorem RvAt.ty{I l:Addr}{i:Int}(h:RvAt s.heap I l i):s.TypeIs (.ref I) rvT:=let⟨o,ho,hc,_⟩:=h;⟨o,ho,hc⟩
theorem rv_start {l : Addr} {xs : Array Value} {Q : Value -> Shared -> Prop} (hl : s.heap.IsList l xs)
  (h : Q (.ref s.heap.objs.size) { s with heap := s.heap.push (rvO l ((xs.size : Int) - 1)) }) : wpAny (model prog w) A (call (.type "reversed") [.ref l]) Q E s := by
 obtain ⟨o, ho, hc, n, hd⟩ := id hl
 refine wpAny_call (codeAny_of_tree ?_)
 show wpAny _ _ (callAny (.type "reversed") _) _ _ _
 refine wpAny_pure ⟨Code.quiet_builtin _ (by decide +kernel), codeAny_builtin F.entry_type_call ?_⟩
 rw [Around.under_plain (weight_type_call_type "reversed" [.ref l] []) rfl]
 have h1 : (Value.type "reversed" == Value.type "type") = false := by decide +kernel
 have h2 : ((Manifest.find? "reversed").bind (·.mro.findSome? fun t => (Manifest.find? t).bind fun b => if b.noNew then some true else if b.attrs.any (·.1 == "__new__") then some false else none)).getD false = false := by decide +kernel
 have h3 := rd_made
 have h4 : isSubtype (.type rvT) (.type "reversed") = pure false := by rw [isSubtype_type]; kernel_rfl
 have h5 : checkTypeCall "reversed" ⟨[Value.ref l], []⟩ = pure () := by kernel_rfl
 have h6 := rd_mro
 repeat (any_goals (first | assumption | wp_step))
 refine codeAny_mono (R := fun r s' => r = .ok (.ret (.ref s.heap.objs.size)) /\ s' = { s with heap := s.heap.push (rvO l ((xs.size : Int) - 1)) }) ?_ ?_
 ·refine codeAny_of_tree ?_
  show wpAny _ A.in1.in1 (do checkBuiltinCall "reversed.__new__" ⟨[.type "reversed", .ref l], []⟩; again (.builtin "reversed.__new__" ⟨[.type "reversed", .ref l], []⟩)) _ _ s
  refine wpAny_bind (wpAny_of_eq (a := ()) (by kernel_rfl) (wpAny_pure ⟨plainId_quiet zq4 _, codeAny_builtin rd_entry ?_⟩))
  rw [Around.under_plainId zq4 _]
  unfold Builtin.«reversed.__new__»
  have hself : isSubtype (.type "reversed") (.type "reversed") = pure true := by rw [isSubtype_type]; kernel_rfl
  refine wpAny_bind (wpAny_of_eq (a := (Value.type "reversed", [Value.ref l])) ?_ ?_)
  ·unfold Builtin.SmallTypes.newClass
   simp only [isType, hself, pure_bind, Bool.not_true, zbx, if_false]
  refine wpAny_bind (wpAny_of_eq (a := ()) (by first | rfl | kernel_rfl) ?_)
  refine wpAny_bind (wpAny_of_eq (a := ()) (by first | rfl | kernel_rfl) ?_)
  dsimp only
  refine wpAny_bind (wpAny_specialOf hl.typeIs F.slot_list_reversed.lookup ?_)
  dsimp only
  refine wpAny_bind (wpAny_of_eq (F.slot_list_reversed.bind _) ?_)
  show wpAny _ _ (if (Value.builtin "list.__reversed__" == Value.none) = true then _ else _) _ _ _
  rw [if_neg (show ¬ ((Value.builtin "list.__reversed__" == Value.none) = true) from Bool.false_ne_true)]
  refine wpAny_bind (wpAny_rule ?_)
  refine wpAny_bind (m := runValue (.call (.builtin "list.__reversed__") ⟨[.ref l], []⟩)) (show wpAny _ _ (call (.builtin "list.__reversed__") [.ref l]) _ _ _ from ?_)
  refine wpAny_call_entry F.slot_list_reversed hl.typeIs F.entry_list_reversed ?_ (F.args_list_reversed_1 _)
  unfold Builtin.«list.__reversed__»
  refine wpAny_bind (wpAny_of_eq (a := Value.ref l) rfl ?_)
  refine wpAny_bind (wpAny_listItems ho hd ?_)
  refine wpAny_bind (wpAny_newObj_type (wpAny_pure ⟨_, rfl, ?_⟩))
  exact wpAny_pure ⟨rfl, rfl⟩
 ·rintro r s' ⟨rfl, rfl⟩
  have hT : ({ s with heap := s.heap.push (rvO l ((xs.size : Int) - 1)) } : Shared).TypeIs (.ref s.heap.objs.size) rvT := ⟨_, Heap.get?_push_size _ rfl, rfl⟩
  repeat (any_goals (first | assumption | wp_step))
theorem rv_item {I l : Addr} {i : Nat} {xs : Array Value} {x : Value} {Q : Option Value -> Shared -> Prop} (hI : RvAt s.heap I l (i : Int)) (hl : s.heap.IsList l xs) (hx : xs[i]? = some x)
  (hQ : ∀ h', RvAt h' I l ((i : Int) - 1) -> Heap.SameBut I s.heap h' -> Q (some x) { s with heap := h' }) : wpAny (model prog w) A (pyNext (.ref I)) Q E s := by
 obtain ⟨ol, hol, _, nl, hdl⟩ := hl
 have hT := hI.ty
 obtain ⟨o, ho, hc, hd⟩ := hI
 unfold pyNext
 refine wpAny_bind (wpAny_attempt (wpAny_callSpecial?_slot (name := Str.ofString "__next__") hT zm8 (wpAny_call_entry zm8 hT zif ?_ (zjf _))))
 unfold Builtin.«list_reverseiterator.__next__»
 refine wpAny_bind (wpAny_of_eq (a := (Value.ref I, [])) rfl ?_)
 refine wpAny_bind (wpAny_field ho hd (x := rawInt (i : Int)) rfl ?_)
 show wpAny _ _ (if (i : Int) < 0 then _ else _) _ _ s
 rw [if_neg (Int.not_lt.mpr (zbf i))]
 show wpAny _ _ (field (.ref I) 0 >>= _) _ _ s
 refine wpAny_bind (wpAny_field ho hd (x := .ref l) rfl ?_)
 show wpAny _ _ (seqItems? (.ref l) >>= _) _ _ s
 refine wpAny_bind (wpAny_seqItems hol hdl ?_)
 simp only [Int.toNat_natCast, hx]
 refine wpAny_bind (wpAny_setField ho hd (by simp) ?_)
 first
  | refine wpAny_pure ⟨x, rfl, wpAny_pure (hQ _ ?_ (Heap.SameBut.update ..))⟩
  | refine wpAny_bind (wpAny_pure (wpAny_pure ⟨x, rfl, wpAny_pure (hQ _ ?_ (Heap.SameBut.update ..))⟩))
 exact ⟨_, Heap.get?_update_self _ ho (Obj.isFreed_of_fields (Obj.data_mapFields hd _)), (Obj.cls_mapFields ..).trans hc, by rw [Obj.data_mapFields hd]; simp⟩
theorem rv_done{I l:Addr}{Q:Option Value->Shared->Prop}(hh:A.handled=none)(hI:RvAt s.heap I l (-1))
  (hQ:∀h',Heap.ExtBut I s.heap h'->Q none { s with heap:=h' }):wpAny (model prog w) A (pyNext (.ref I)) Q E s:=by
 have hT:=hI.ty
 obtain⟨o,ho,hc,hd⟩:=hI
 unfold pyNext
 refine wpAny_bind (wpAny_attempt (wpAny_callSpecial?_slot (name:=Str.ofString "__next__") hT zm8 (wpAny_call_entry zm8 hT zif ?_ (zjf _))))
 unfold Builtin.«list_reverseiterator.__next__»
 refine wpAny_bind (wpAny_of_eq (a:=(Value.ref I,[])) rfl ?_)
 refine wpAny_bind (wpAny_field ho hd (x:=rawInt (-1)) rfl ?_)
 show wpAny _ _ (if(-1:Int)<0 then _ else _) _ _ s
 rw[if_pos (by decide)]
 refine wpAny_bind (wpAny_rule ?_)
 refine wpAny_bind ?_
 show wpAny _ _ (newExc (.type "StopIteration") [] >>=_) _ _ _
 refine wpAny_bind ?_
 simp only[newExc,newTuple]
 refine wpAny_bind (wpAny_newObj_type ?_ (by size_fits))
 refine wpAny_bind (m:=firstArgMember _ _) (wpAny_of_eq (a:=Value.none) (by first |rfl |(simp only[firstArgMember];rfl)) ?_)
 refine wpAny_newObj_type ?_ (by size_fits)
 unfold raiseNew
 refine wpAny_bind (wpAny_handled ?_)
 first |rw[show A.in1.handled=none from hh] |rw[hh]
 refine wpAny_bind (wpAny_pure (wpAny_throw ?_))
 refine wpAny_bind (wpAny_isInstance (T:="StopIteration") (b:=true) ⟨_,Heap.get?_push_size _ rfl,rfl⟩ isSubtype_stop ?_)
 exact wpAny_pure (hQ _ (((Heap.ExtBut.refl _ _).push _).push _))
theorem zw3{I l:Addr}{i:Int}{Q:Value->Shared->Prop}(hI:RvAt s.heap I l i)(h:Q (.ref I) s):wpAny (model prog w) A (pyIter (.ref I)) Q E s:=by
 refine wpAny_pyIter_slot hI.ty zwn (wpAny_call_entry zwn hI.ty znl ?_ (znv _))
 show wpAny _ _ (ret (.ref I)) _ _ s
 exact wpAny_pure ⟨_,rfl,rvT,_,hI.ty,zm8.lookup,h⟩
end
end Bn
namespace Bn
open PySem PyProof.Rows
noncomputable def Kept(wr:List Addr)(s s':Shared):Prop:=(∀b o,b∉wr->s.heap.get? b=some o->s'.heap.get? b=some o)/\s'.gens=s.gens/\s'.os=s.os
noncomputable def itc:Value->Bool
 |.type t=>["list_iterator","tuple_iterator","range_iterator","longrange_iterator","str_iterator","str_ascii_iterator","enumerate","zip","list_reverseiterator"].contains t
 |_=>false
theorem itc_hid{v:Value}(h:itc v=true):hid v=true:=by
 cases v with
 |type t=>exact List.contains_iff_mem.mpr (.tail _ (.tail _ (.tail _ (List.contains_iff_mem.mp h))))
 |_=>cases h
theorem zkq{v w:Value}(h:itc v=true)(hw:itc w=false):v≠w:=fun q=>by rw[q,hw] at h;cases h
theorem itN{ps:Array Value}(h:itc (tabO ps).cls=true):False:=nomatch h
inductive ItAt(c:Cx)(φ:List Addr)(h:Heap)(b:Addr):Prop
 |mk (h1:b∉φ)(h2:c.h0.get? b=none)(o:Obj)(h3:h.get? b=some o)(h4:itc o.cls=true)(h5:∀es n,o.data≠.dict es n):ItAt c φ h b
theorem ItAt.out{c:Cx}{φ:List Addr}{h:Heap}{b:Addr}(q:ItAt c φ h b):b∉φ/\c.h0.get? b=none:=let⟨h1,h2,_,_,_,_⟩:=q;⟨h1,h2⟩
noncomputable def Its(c:Cx)(wr φ:List Addr)(h:Heap):Prop:=∀b∈wr,ItAt c φ h b
theorem Kept.kp{c:Cx}{wr φ:List Addr}{s s':Shared}(h:Kept wr s s')(x:Its c wr φ s.heap):Kp wr φ s.heap φ s'.heap:=
 ⟨List.prefix_rfl,fun b o hb _ hX _=>h.1 b o hX hb,fun _ h=>.inl h,fun b o es n hb _ hd=>⟨o,es,n,h.1 b o (fun hw=>by
  obtain⟨_,_,o',h1,_,h2⟩:=x b hw
  rw[hb] at h1;cases h1;exact h2 _ _ hd) hb,hd,rfl⟩,fun b o vs C hb _ hc hd=>⟨vs,by
  rw[<- hd]
  refine h.1 b o (fun hw=>?_) hb
  obtain⟨_,_,o',h1,h2,_⟩:=x b hw
  rw[hb] at h1;cases h1;rw[hc] at h2;cases h2⟩⟩
theorem Its.own{c:Cx}{wr φ:List Addr}{h:Heap}(x:Its c wr φ h):OwnX c wr h:=fun b hb o ho=>by
 obtain⟨_,_,o',h1,h2,_⟩:=x b hb
 rw[ho] at h1;cases h1;exact .inl (itc_hid h2)
theorem Its.kp{c:Cx}{wr φ X φ':List Addr}{h h':Heap}(x:Its c wr φ h)(e:Kp X φ h φ' h')(hX:∀b∈wr,b∉X):Its c wr φ' h':=fun b hb=>by
 obtain⟨h1,h2,o,h3,h4,h5⟩:=x b hb
 exact⟨e.notin h3 h1,h2,o,e.keep b o h3 h1 (hX b hb) (fix_ne (zkq h4 rfl) (zkq h4 rfl)),h4,h5⟩
theorem Sim.kept{c:Cx}{wr φ:List Addr}{H:Hp}{s s':Shared}(S:Sim c φ H s)(h:Kept wr s s')(x:Its c wr φ s.heap):Sim c φ H s':=
 S.mono (h.kp x) x.own (fun b hb=>(x b hb).out.2) (fun a ha o ho=>h.1 a o (fun hw=>(x a hw).out.1 ha) ho) (fun b o hb _=>h.1 b o (fun hw=>by rw[(x b hw).out.2] at hb;cases hb) (S.stays b o hb)) (h.2.1.trans S.gens) fun b _ hb=>h.1 b _ (fun hw=>by obtain⟨_,_,o1,h1,h2,_⟩:=x b hw;rw[hb] at h1;cases h1;exact itN h2) hb
theorem Ext.kept{X φ φ₁ wr:List Addr}{s s₁ s₂:Shared}(e:Ext X φ s φ₁ s₁)(h:Kept wr s₁ s₂)(hn:∀b∈wr,s.heap.get? b=none):Ext X φ s φ₁ s₂:=
 have out:∀{b o},s.heap.get? b=some o->b∉wr:=fun hb q=>by rw[hn _ q] at hb;cases hb
 { pre:=e.pre
   keep:=fun b o hb hφ hX hc=>h.1 b o (out hb) (e.keep b o hb hφ hX hc)
   new:=e.new
   frame:=fun b o hb hφ hX hc=>let⟨sl,h₁⟩:=e.frame b o hb hφ hX hc;⟨sl,h.1 b _ (out hb) h₁⟩
   tabs:=fun b o hb hφ hX hc=>let⟨o',h₁,c₁⟩:=e.tabs b o hb hφ hX hc;⟨o',h.1 b _ (out hb) h₁,c₁⟩
   dict:=fun b o es n hb hφ hd=>let⟨o₁,es₁,n₁,h₁,d₁⟩:=e.dict b o es n hb hφ hd;⟨o₁,es₁,n₁,h.1 b _ (out hb) h₁,d₁⟩
   exc:=fun b o vs C hb hφ hc hd=>let⟨vs₁,h₁⟩:=e.exc b o vs C hb hφ hc hd;⟨vs₁,h.1 b _ (out hb) h₁⟩
   alive:=fun b o hb hX=>let⟨o',h'⟩:=e.alive b o hb hX;⟨o',h.1 b o' (out hb) h'⟩
   os:=h.2.2.trans e.os }
inductive Nexts(c:Cx)(A:Around)(it:Value)(tg:Expr)(wr:List Addr)(s:Shared)(P:Heap->Value->Prop)(E:Value->Shared->Prop)(r:Option Value)(s₁:Shared):Prop
 |mk (v:Value)(h:r=some v)(g:wpAny (model c.prog c.w) A (letOwnedTupleGo tg it v) (fun _ s₂=>Kept wr s s₂/\P s₂.heap v) E s₁):Nexts c A it tg wr s P E r s₁
structure Itr(c:Cx)(A:Around)(it:Value)(tg:Expr)(wr:List Addr)(items:List V)(ok:Hp->Prop)(St:Nat->List Addr->Heap->Prop):Prop where
 seen:∀i φ h,St i φ h->Its c wr φ h
 frame:∀i X φ φ' h h',St i φ h->Kp X φ h φ' h'->OwnX c X h->(∀b∈wr,b∉X)->St i φ' h'
 item:∀i x φ H s E,items[i]?=some x->St i φ s.heap->Sim c φ H s->ok H->
  wpAny (model c.prog c.w) A (pyNext it) (Nexts c A it tg wr s (fun h v=>St (i+1) φ h/\Rep c φ h x v) E) E s
 done:∀φ H s E,St items.length φ s.heap->Sim c φ H s->ok H->wpAny (model c.prog c.w) A (pyNext it) (fun r s₁=>r=none/\Kept wr s s₁) E s
 self:∀i φ s Q E,St i φ s.heap->Q it s->wpAny (model c.prog c.w) A (pyIter it) Q E s
theorem zpf{I:Addr}{s:Shared}{h':Heap}{t:Nat}(hs:Heap.SameBut I s.heap h'):Kept [I] s { s with heap:=h',toks:=t }:=
 ⟨fun b o hb ho=>(hs.2 b (by simpa using hb)).trans ho,rfl,rfl⟩
theorem zgy{I:Addr}{s:Shared}{h':Heap}{t:Nat}(hs:Heap.ExtBut I s.heap h'):Kept [I] s { s with heap:=h',toks:=t }:=
 ⟨fun b o hb ho=>hs b o (by simpa using hb) ho,rfl,rfl⟩
theorem zlg{M:Model}{A:Around}{E:Value->Shared->Prop}{s:Shared}{tg:Expr}{I:Addr}{v:Value}{o:Obj}{Q:Unit->Shared->Prop}{t:String}(ho:s.heap.get? I=some o)(hc:o.cls=.type t)(ht:["enumerate","zip","dict_itemiterator","dict_reverseitemiterator","odict_iterator","itertools.zip_longest","itertools.pairwise"].contains t=false)
  (h:Q () s):wpAny M A (letOwnedTupleGo tg (.ref I) v) Q E s:=by
 have key:wpAny M A (do
  let(.ref r,.ref a):=(Value.ref I,v) |return
  let o<-load r
  match o.cls,o.data with
  |.type n,.fields vs=>
   if["enumerate","zip","dict_itemiterator","dict_reverseitemiterator","odict_iterator","itertools.zip_longest","itertools.pairwise"].contains n&&vs[0]?==some (rawInt a) then
    rule "for.unpacks-the-owned-tuple"
    updateField r 0 .none
  |_,_=>pure ()) Q E s:=by
  cases v<;>first |exact wpAny_pure h |skip
  refine wpAny_bind (wpAny_load ho ?_)
  rw[hc]
  cases o.data<;>first |exact wpAny_pure h |skip
  dsimp only
  rw[ht]
  exact wpAny_pure h
 cases tg<;>first |exact wpAny_pure h |exact key
section
variable {c:Cx}{A:Around}{φ:List Addr}{H:Hp}{s:Shared}
inductive OneIt(h:Heap)(I:Addr)(t:String):Prop
 |mk (o:Obj)(h1:h.get? I=some o)(h2:o.cls=.type t)(vs:Array Value)(h3:o.data=.fields vs):OneIt h I t
theorem Its.one{I:Addr}{t:String}(hφ:I∉φ)(h0:c.h0.get? I=none){h:Heap}(ho:OneIt h I t)(ht:itc (.type t)=true):Its c [I] φ h:=fun b hb=>by
 rw[zah.mp hb]
 obtain⟨o,h1,h2,vs,h3⟩:=ho
 exact⟨hφ,h0,o,h1,by rw[h2];exact ht,fun es n q=>by rw[h3] at q;cases q⟩
theorem Its.keepOne{I:Addr}{X φ φ':List Addr}{h h':Heap}(x:Its c [I] φ h)(e:Kp X φ h φ' h')(hX:∀b∈[I],b∉X){o:Obj}(ho:h.get? I=some o):h'.get? I=some o:=by
 obtain⟨h1,_,o',h3,h4,_⟩:=x I zae
 obtain rfl:=zaa (ho.symm.trans h3)
 exact e.keep I o ho h1 (hX I zae) (fix_ne (zkq h4 rfl) (zkq h4 rfl))
theorem zgx{I:Addr}{t:String}{tg:Expr}{x:V}{v:Value}{h':Heap}{tk:Nat}{P:Heap->Prop}{E:Value->Shared->Prop}(its:Its c [I] φ s.heap)(hs:Heap.SameBut I s.heap h')(ho:OneIt h' I t)(ht:["enumerate","zip","dict_itemiterator","dict_reverseitemiterator","odict_iterator","itertools.zip_longest","itertools.pairwise"].contains t=false)
  (hP:P h') (R:Rep c φ s.heap x v):Nexts c A (.ref I) tg [I] s (fun h v=>P h/\Rep c φ h x v) E (some v) { s with heap:=h',toks:=tk }:=by
 obtain⟨o,h1,h2,_,_⟩:=ho
 have k:=zpf (t:=tk) hs
 exact⟨v,rfl,zlg h1 h2 ht ⟨k,hP,Rep.mono (k.kp its) its.own R⟩⟩
inductive LIt(φ:List Addr)(h:Heap)(I a:Addr)(j i:Nat):Prop
 |mk (it:h.IsListIter I a i)(ha:φ[j]?=some a)(hI:I∉φ):LIt φ h I a j i
theorem LIt.one{φ:List Addr}{h:Heap}{I a:Addr}{j i:Nat}(q:LIt φ h I a j i):OneIt h I "list_iterator":=let⟨⟨o,h1,h2,h3⟩,_,_⟩:=q;⟨o,h1,h2,_,h3⟩
theorem LIt.its{h:Heap}{I a:Addr}{j i:Nat}(h0:c.h0.get? I=none)(q:LIt φ h I a j i):Its c [I] φ h:=Its.one (let⟨_,_,h⟩:=q;h) h0 q.one rfl
theorem itr_list(hh:A.handled=none){I a:Addr}{j:Nat}{items:List V}{tg:Expr}(h0:c.h0.get? I=none) :
  Itr c A (.ref I) tg [I] items (fun H=>H[j]?=some items) (fun i φ h=>LIt φ h I a j i) where
 seen i φ h st:=st.its h0
 frame i X φ φ' h h' st e hX hw:=by
  have it:=st.its h0
  obtain⟨⟨o,ho,r⟩,h2,h3⟩:=st
  exact⟨⟨o,it.keepOne e hw ho,r⟩,zfv e.pre h2,e.notin ho h3⟩
 item i x φ H s E hx st S hok:=by
  have it:=st.its h0
  obtain⟨st1,ha,hI⟩:=st
  obtain⟨b,o,vs,n,h1,h2,h3,h4,h5,_⟩:=S.lists j items hok
  obtain rfl:=zaa (ha.symm.trans h1)
  obtain⟨v,hv,hr⟩:=RepL.get h5 hx
  exact wpAny_pyNext_list_item st1 ⟨o,h2,h3,n,h4⟩ (x:=v) (zjd hv) fun h' hit hs=>zgx (tk:=s.toks) it hs (LIt.one ⟨hit,ha,hI⟩) (by decide) ⟨hit,ha,hI⟩ hr
 done φ H s E st S hok:=by
  obtain⟨st1,ha,hI⟩:=st
  obtain⟨b,o,vs,n,h1,h2,h3,h4,h5,_⟩:=S.lists j items hok
  obtain rfl:=zaa (ha.symm.trans h1)
  refine wpAny_pyNext_list_end hh st1 ⟨o,h2,h3,n,h4⟩ ?_ fun h' hs=>⟨rfl,zgy hs⟩
  rw[<- RepL.length h5,zbe];exact Array.getElem?_eq_none (zaf _)
 self i φ s Q E st hq:=let⟨h,_,_⟩:=st;wpAny_pyIter_listiter h hq
inductive TIt(c:Cx)(φ:List Addr)(h:Heap)(I:Addr)(r:Value)(items:List V)(i:Nat):Prop
 |mk (a:Addr)(hr:r=.ref a)(it:h.IsTupleIter I a i)(R:Rep c φ h (.tup items) r)(hI:I∉φ):TIt c φ h I r items i
theorem TIt.its{h:Heap}{I:Addr}{r:Value}{items:List V}{i:Nat}(h0:c.h0.get? I=none)(q:TIt c φ h I r items i):Its c [I] φ h:=let⟨_,_,⟨o,h1,h2,h3⟩,_,h4⟩:=q;Its.one h4 h0 ⟨o,h1,h2,_,h3⟩ rfl
theorem zvj(hh:A.handled=none){I:Addr}{r:Value}{items:List V}{tg:Expr}(h0:c.h0.get? I=none) :
  Itr c A (.ref I) tg [I] items (fun _=>True) (fun i φ h=>TIt c φ h I r items i) where
 seen i φ h st:=st.its h0
 frame i X φ φ' h h' st e hX hw:=by
  have it:=st.its h0
  obtain⟨a,hr,⟨o,h1,h2,h3⟩,h4,h5⟩:=st
  exact⟨a,hr,⟨o,it.keepOne e hw h1,h2,h3⟩,Rep.mono e hX h4,e.notin h1 h5⟩
 item i x φ H s E hx st S hok:=by
  have its:=st.its h0
  obtain⟨a,hr,hit,hR,hI⟩:=st
  have hR':=hR
  obtain⟨a',o,vs,n,rfl,ha,ho,hc,hd,hz,hl⟩:=hR
  cases hr
  obtain⟨v,hv,hrv⟩:=RepL.get hl hx
  exact wpAny_pyNext_tuple_item hit ⟨o,ho,hc,n,hd⟩ (x:=v) (zjd hv) fun h' hit' hs=>zgx (tk:=s.toks) its hs (let⟨o,h1,h2,h3⟩:=hit';⟨o,h1,h2,_,h3⟩) (by decide) ⟨_,rfl,hit',Rep.mono ((zpf (t:=s.toks) hs).kp its) its.own hR',hI⟩ hrv
 done φ H s E st S hok:=by
  obtain⟨a,hr,hit,hR,hI⟩:=st
  obtain⟨a',o,vs,n,rfl,ha,ho,hc,hd,hz,hl⟩:=hR
  cases hr
  refine wpAny_pyNext_tuple_end hh hit ⟨o,ho,hc,n,hd⟩ ?_ fun h' hs=>⟨rfl,zgy hs⟩
  rw[<- RepL.length hl,zbe];exact Array.getElem?_eq_none (zaf _)
 self i φ s Q E st hq:=let⟨_,_,h,_,_⟩:=st;wpAny_pyIter_tupleiter h hq
inductive RIt(φ:List Addr)(h:Heap)(I:Addr)(lo st:Int)(n i:Nat):Prop
 |mk (hi:i<=n)(it:IsRangeIter h I (lo+(i:Int)*st) ((n:Int)-i) st)(hI:I∉φ):RIt φ h I lo st n i
theorem RIt.its{h:Heap}{I:Addr}{lo st:Int}{n i:Nat}(h0:c.h0.get? I=none)(q:RIt φ h I lo st n i):Its c [I] φ h:=let⟨_,h1,h2⟩:=q;Its.one (t:="range_iterator") h2 h0 ⟨_,h1,rfl,_,rfl⟩ rfl
theorem zus(hh:A.handled=none){I:Addr}{lo st:Int}{n:Nat}{tg:Expr}(h0:c.h0.get? I=none) :
  Itr c A (.ref I) tg [I] ((List.range n).map fun(i:Nat)=>V.int (lo+(i:Int)*st)) (fun _=>True) (fun i φ h=>RIt φ h I lo st n i) where
 seen i φ h q:=q.its h0
 frame i X φ φ' h h' q e hX hw:=by
  have it:=q.its h0
  obtain⟨q1,q2,q3⟩:=q
  exact⟨q1,it.keepOne e hw q2,e.notin q2 q3⟩
 item i x φ H s E hx q S hok:=by
  have its:=q.its h0
  obtain⟨_,q2,q3⟩:=q
  have hi:i<n:=by
   have:=(zbi.mp hx).1
   rw[zac,zap] at this;exact this
  rw[zan,zbl hi] at hx
  obtain rfl:=zaa hx
  refine wpAny_pyNext_range_item q2 (by exact Ar.ar1 [_,_] [] 0xa5000610000308020 (Y4 J0 (Y2 (Y4 V0 J0) (Y4 V1 J0))) (Y1 V1 V0) hi) fun h' hit hs=>zgx its hs ⟨_,hit,rfl,_,rfl⟩ (by decide) ⟨hi,?_,q3⟩ rI
  have e1:lo+((i+1:Nat):Int)*st=lo+(i:Int)*st+st:=by rw[Int.natCast_succ,Int.add_mul,Int.one_mul,Int.add_assoc]
  have e2:(n:Int)-((i+1:Nat):Int)=(n:Int)-i-1:=by exact Ar.ar0 [_,_] [] 0x628003080002800308000 (Y5 (Y2 (Y4 V0 J0) (Y4 (Y0 V1 J1) J0)) (Y2 (Y2 (Y4 V0 J0) (Y4 V1 J0)) J1))
  rw[e1,e2];exact hit
 done φ H s E q S hok:=by
  rw[zac,zap] at q
  obtain⟨_,q2,_⟩:=q
  exact wpAny_pyNext_range_end hh q2 (by exact Ar.ar0 [_] [] 171801870336 (Y3 (Y2 (Y4 V0 J0) (Y4 V0 J0)) J0)) fun h' hs=>⟨rfl,zgy hs⟩
 self i φ s Q E q hq:=let⟨_,h,_⟩:=q;wpAny_pyIter_rangeiter h hq
theorem itr_str(hh:A.handled=none){I:Addr}{x:Str}{t:Tok}{tg:Expr}(h0:c.h0.get? I=none) :
  Itr c A (.ref I) tg [I] (x.cps.toList.map fun c=>.str ⟨#[c]⟩) (fun _=>True) (fun i φ h=>h.IsStrIter I "str_ascii_iterator" x t i/\I∉φ) where
 seen i φ h q:=Its.one q.2 h0 (let⟨o,h1,h2,h3⟩:=q.1;⟨o,h1,h2,_,h3⟩) rfl
 frame i X φ φ' h h' q e hX hw:=by
  have it:=Its.one (c:=c) (t:="str_ascii_iterator") q.2 h0 (let⟨o,h1,h2,h3⟩:=q.1;⟨o,h1,h2,_,h3⟩) rfl
  obtain⟨⟨o,ho,r⟩,h3⟩:=q
  exact⟨⟨o,it.keepOne e hw ho,r⟩,e.notin ho h3⟩
 item i y φ H s E hx q S hok:=by
  rw[zan] at hx
  cases hc:x.cps[i]? with
  |none=>simp[hc] at hx
  |some k=>
   simp[hc] at hx;subst hx
   exact wpAny_pyNext_ascii_item q.1 hc fun h' hit hs=>zgx (Its.one (t:="str_ascii_iterator") q.2 h0 (let⟨o,h1,h2,h3⟩:=q.1;⟨o,h1,h2,_,h3⟩) rfl) hs (let⟨o,h1,h2,h3⟩:=hit;⟨o,h1,h2,_,h3⟩) (by decide) ⟨hit,q.2⟩ rS
 done φ H s E q S hok:=by
  simp only[zac,zbe] at q
  exact wpAny_pyNext_ascii_end hh q.1 (by simp) fun h' hs=>⟨rfl,zgy hs⟩
 self i φ s Q E q hq:=wpAny_pyIter_striter_ascii q.1 hq
inductive VIt(φ:List Addr)(h:Heap)(I a:Addr)(j n i:Nat):Prop
 |mk (it:RvAt h I a ((n:Int)-1-i))(ha:φ[j]?=some a)(hI:I∉φ):VIt φ h I a j n i
theorem VIt.its{h:Heap}{I a:Addr}{j n i:Nat}(h0:c.h0.get? I=none)(q:VIt φ h I a j n i):Its c [I] φ h:=let⟨⟨o,h1,h2,h3⟩,_,h4⟩:=q;Its.one h4 h0 ⟨o,h1,h2,_,h3⟩ rfl
theorem itr_rev(hh:A.handled=none){I a:Addr}{j:Nat}{items:List V}{tg:Expr}(h0:c.h0.get? I=none) :
  Itr c A (.ref I) tg [I] items.reverse (fun H=>H[j]?=some items) (fun i φ h=>VIt φ h I a j items.length i) where
 seen i φ h st:=st.its h0
 frame i X φ φ' h h' st e hX hw:=by
  have it:=st.its h0
  obtain⟨⟨o,ho,r1,r2⟩,h2,h3⟩:=st
  exact⟨⟨o,it.keepOne e hw ho,r1,r2⟩,zfv e.pre h2,e.notin ho h3⟩
 item i x φ H s E hx st S hok:=by
  have its:=st.its h0
  obtain⟨st1,ha,hI⟩:=st
  obtain⟨b,o,vs,n,h1,h2,h3,h4,h5,_⟩:=S.lists j items hok
  obtain rfl:=zaa (ha.symm.trans h1)
  have hi:i<items.length:=by have:=(zbi.mp hx).1;rw[List.length_reverse] at this;exact this
  rw[List.getElem?_reverse hi] at hx
  obtain⟨v,hv,hr⟩:=RepL.get h5 hx
  have e0:(items.length:Int)-1-i=((items.length-1-i:Nat):Int):=by exact Ar.ar1 [_,_] [] 0x618ca528003080c01840400c20080a100025084a100023410a528003081001840600c20080001a085294a000c206006102803080e01840100005294001840800c202006100005080012842508001 (Y5 (Y2 (Y2 (Y4 V0 J0) J1) (Y4 V1 J0)) (Y4 (Y2 (Y2 V0 J1) V1) J0)) (Y1 V1 V0) hi
  rw[e0] at st1
  refine rv_item st1 ⟨o,h2,h3,n,h4⟩ (zjd hv) fun h' hit hs=>zgx (t:=rvT) (tk:=s.toks) its hs (let⟨o,h1,h2,h3⟩:=hit;⟨o,h1,h2,_,h3⟩) (by decide) ⟨?_,ha,hI⟩ hr
  have:(items.length:Int)-1-((i+1:Nat):Int)=((items.length-1-i:Nat):Int)-1:=by exact Ar.ar1 [_,_] [] 0x6294001840200c20000a5000810080308000 (Y5 (Y2 (Y2 (Y4 V0 J0) J1) (Y4 (Y0 V1 J1) J0)) (Y2 (Y4 (Y2 (Y2 V0 J1) V1) J0) J1)) (Y5 (Y2 (Y2 (Y4 V0 J0) J1) (Y4 V1 J0)) (Y4 (Y2 (Y2 V0 J1) V1) J0)) e0
  rw[this];exact hit
 done φ H s E st S hok:=by
  rw[List.length_reverse] at st
  obtain⟨st1,_,_⟩:=st
  have:(items.length:Int)-1-(items.length:Int) = -1:=by exact Ar.ar0 [_] [] 0x628003080002800308000 (Y5 (Y2 (Y2 (Y4 V0 J0) J1) (Y4 V0 J0)) (Y3 J1 J0))
  rw[this] at st1
  exact rv_done hh st1 fun h' hs=>⟨rfl,zgy hs⟩
 self i φ s Q E st hq:=let⟨h,_,_⟩:=st;zw3 h hq
theorem zos{items:List V}:∀{i:Nat}{n:Int}{x:V},(zf3 n items)[i]?=some x->∃v,items[i]?=some v/\x=.tup [.int (n+i),v]:=by
 induction items with
 |nil=>exact fun h=>nomatch h
 |cons y ys ih=>
  intro i n x h
  cases i with
  |zero=>obtain rfl:=zaa h;exact⟨y,rfl,by rw[show n+((0:Nat):Int)=n from Int.add_zero n]⟩
  |succ i=>
   obtain⟨v,h1,h2⟩:=ih (n:=n+1) (i:=i) h
   exact⟨v,h1,by rw[h2,Int.add_assoc,Int.add_comm 1];rfl⟩
theorem zk0{items:List V}:∀{n:Int},(zf3 n items).length=items.length:=by
 induction items with
 |nil=>intro n;rfl
 |cons y ys ih=>exact fun{n}=>congrArg (· + 1) (ih (n:=n+1))
inductive EIt(φ:List Addr)(h:Heap)(e I a:Addr)(j i:Nat):Prop
 |mk (old:Value)(he:IsEnum h e I (i:Int) old)(it:h.IsListIter I a i)(ha:φ[j]?=some a)(hI:I∉φ)(hE:e∉φ):EIt φ h e I a j i
theorem EIt.its{h:Heap}{e I a:Addr}{j i:Nat}(h0:c.h0.get? I=none)(h0':c.h0.get? e=none)(q:EIt φ h e I a j i):Its c [e,I] φ h:=fun b hb=>by
 obtain⟨old,he,⟨o,h1,h2,hd⟩,h3,h4,h5⟩:=q
 rcases zal.mp hb with rfl |hb
 ·exact⟨h5,h0',_,he,rfl,fun es n q=>by cases q⟩
 ·rw[zah.mp hb]
  exact⟨h4,h0,o,h1,by rw[h2];rfl,fun es n q=>by rw[hd] at q;cases q⟩
theorem itr_enum(hh:A.handled=none){e I a:Addr}{j:Nat}{items:List V}{es:List Expr} {x1}{pos:Pos}(h0:c.h0.get? I=none)(h0':c.h0.get? e=none)(hne:e≠I) :
  Itr c A (.ref e) (.Tuple es x1 pos) [e,I] (zf3 0 items) (fun H=>H[j]?=some items) (fun i φ h=>EIt φ h e I a j i) where
 seen i φ h st:=st.its h0 h0'
 frame i X φ φ' h h' st k hX hw:=by
  obtain⟨old,he,⟨o,h1,h2,hd⟩,h3,h4,h5⟩:=st
  exact⟨old,k.keep e _ he h5 (hw e zae) rfl,⟨o,k.keep I o h1 h4 (hw I (zai _ zae)) (by rw[h2];decide),h2,hd⟩,zfv k.pre h3,k.notin h1 h4,k.notin he h5⟩
 item i x φ H s E hx st S hok:=by
  have its:=st.its h0 h0'
  obtain⟨old,he,hit,h3,h4,h5⟩:=st
  obtain⟨b,o,vs,n,h1,h2,h3',h4',h5',_⟩:=S.lists j items hok
  obtain rfl:=zaa (h3.symm.trans h1)
  obtain⟨v0,hv0,rfl⟩:=zos hx
  obtain⟨v,hv,hr⟩:=RepL.get h5' hv0
  refine wpAny_pyNext_enum_item he hit ⟨o,h2,h3',n,h4'⟩ (x:=v) (zjd hv) hne fun h' heo hit' ht hz hk=>⟨_,rfl,?_⟩
  refine wpAny_letOwnedTupleGo_enum heo fun h'' he'' hs''=>?_
  have heT:e≠s.heap.objs.size:=za3 (Heap.lt_size he)
  have kept:Kept [e,I] s { s with heap:=h'',toks:=s.toks+1 }:=
   ⟨fun b o hb ho=>(hs''.2 b (fun q=>hb (by rw[q];exact zae))).trans (hk b o (fun q=>hb (by rw[q];exact zae)) (fun q=>hb (by rw[q];exact zai _ zae)) ho),rfl,rfl⟩
  refine⟨kept,⟨_,he'',hit'.extBut hs''.extBut (Ne.symm hne),h3,h4,h5⟩,?_⟩
  exact TupAt.mk s.heap.objs.size _ _ _ rfl S.new ((hs''.2 _ (Ne.symm heT)).trans ht) rfl rfl (by show 2<=sizeLine;decide) ⟨⟨s.toks,by rw[Int.zero_add]⟩,Rep.mono (kept.kp its) its.own hr,rfl⟩
 done φ H s E st S hok:=by
  obtain⟨old,he,hit,h3,h4,h5⟩:=st
  obtain⟨b,o,vs,n,h1,h2,h3',h4',h5',_⟩:=S.lists j items hok
  obtain rfl:=zaa (h3.symm.trans h1)
  rw[zk0] at he hit
  refine wpAny_pyNext_enum_end hh he hit ⟨o,h2,h3',n,h4'⟩ ?_ fun h' hs=>⟨rfl,fun b o hb ho=>hs b o (fun q=>hb (by rw[q];exact zai _ zae)) ho,rfl,rfl⟩
  rw[<- RepL.length h5',zbe];exact Array.getElem?_eq_none (zaf _)
 self i φ s Q E st hq:=let⟨_,he,_,_,_,_⟩:=st;wpAny_pyIter_enum he hq
end
end Bn
namespace Bn
open PySem PyProof.Rows
theorem zxr(M:Model)(Γ:Ctx)(E:Value->Pos->Shared->Prop)(p:Pos)(s:Shared){a:Addr} {m}{o:Obj}(hn:s.heap.Ns a m)(hoo:s.heap.get? a=some o)(name:Str)(v:Value)(Q:Unit->Pos->Shared->Prop)
  (hQ:∀h',h'.Ns a (fun x=>if x=name then some v else m x)->Heap.SameBut a s.heap h'->(∃o',h'.get? a=some o'/\o'.cls=o.cls)->
   Q () p { s with heap:=h',toks:=s.toks+1 }):Sem.wp M Γ (nsSet a name v) Q E p s:=by
 obtain⟨o1,es,ep,ho,hd,hk,hm⟩:=hn
 rw[hoo] at ho;cases ho
 have ho:=hoo
 simp only[nsSet,strHash,Sem.wp_bind',Sem.wp_cmd_ask,Sem.wp_pure',Sem.wp_cmd_mkText]
 rw[Sem.wp_loadPart_of M Γ E p { s with toks:=s.toks+1 } (o:=o) _ ho]
 have hany:es.any (·.refKey)=false:=by
  rw[Array.any_eq_false'];intro e he;obtain⟨n,t,h⟩:=hk e he;simp[DictEntry.refKey,h]
 simp only[hd,aRefKeyMayBeTheName_eq,aRefKeyMayBeTheNameByArray,hany,Bool.and_false,zbx,if_false,Sem.wp_cmd_updatePart]
 refine⟨by rw[ho];rfl,hQ _ ?_ (Heap.SameBut.update ..) ?_⟩
 ·obtain⟨c,d,dt,sl⟩:=o
  subst hd
  cases hi:es.findIdx? (·.key.isStr name) with
  |some i=>
   refine⟨_,_,ep,Heap.get?_update_self _ ho (by simp only[Obj.putName_eq,Obj.putNameByArray,hi];rfl),by simp only[Obj.putName_eq,Obj.putNameByArray,hi];rfl,hk.modify _ _,fun x=>?_⟩
   show _=if x=name then some v else m x
   rw[<- hm];exact findBy_modify (fun n v=>v.isStr n) Value.isStr_inj es name x v i hi
  |none=>
   refine⟨_,_,ep+1,Heap.get?_update_self _ ho (by simp only[Obj.putName_eq,Obj.putNameByArray,hi];rfl),by simp only[Obj.putName_eq,Obj.putNameByArray,hi];rfl,hk.push _ _ _ _,fun x=>?_⟩
   show _=if x=name then some v else m x
   rw[<- hm]
   exact findBy_push (fun n v=>v.isStr n) es name x _ _ v (fun y=>by
    show(name==y)=decide (y=name)
    by_cases h:y=name
    ·subst h;simp
    ·have:¬name=y:=fun e=>h e.symm
     simp[h,this]) hi
 ·obtain⟨c,d,dt,sl⟩:=o
  subst hd
  cases hi:es.findIdx? (·.key.isStr name) with
  |some i=>exact⟨_,Heap.get?_update_self _ ho (by simp only[Obj.putName_eq,Obj.putNameByArray,hi];rfl),by simp only[Obj.putName_eq,Obj.putNameByArray,hi]⟩
  |none=>exact⟨_,Heap.get?_update_self _ ho (by simp only[Obj.putName_eq,Obj.putNameByArray,hi];rfl),by simp only[Obj.putName_eq,Obj.putNameByArray,hi]⟩
theorem zlx{M:Model}{A:Around}{E:Value->Shared->Prop}{s:Shared}{env:Env}{name:Str} {m}{o:Obj}{v:Value}{Q:Unit->Shared->Prop}(hl:env.kindOf name=some .local)(hf:env.scope.kind=.function)
  (hn:s.heap.Ns env.locals m) (ho:s.heap.get? env.locals=some o)
  (h:∀h',h'.Ns env.locals (fun x=>if x=name then some v else m x)->Heap.SameBut env.locals s.heap h'->(∃o',h'.get? env.locals=some o'/\o'.cls=o.cls)->Q () { s with heap:=h',toks:=s.toks+1 }):wpAny M A (storeName env name v) Q E s:=by
 rw[storeName_local hl (by rw[hf];rfl)]
 exact fun Γ p _=>zxr M Γ _ p s hn ho name v _ h
theorem zun{M:Model}{A:Around}{E:Value->Shared->Prop}{s:Shared}{env:Env}{name:Str}{ca:Addr}{o:Obj}{r:Option Value}{v:Value}{Q:Unit->Shared->Prop}(hf:env.scope.kind=.function)(hl:env.kindOf name=some .cell)
  (hc:env.cells.lookup name=some ca) (ho:s.heap.get? ca=some o) (hd:o.data=.cell r)
  (h:∀h',h'.get? ca=some { o with data:=.cell (some v) }->Heap.SameBut ca s.heap h'->Q () { s with heap:=h' }):wpAny M A (storeName env name v) Q E s:=by
 unfold storeName
 rw[hl,hf]
 change wpAny M A (cellOf env name >>=_) Q E s
 refine wpAny_bind (wpAny_cellOf hc ?_)
 unfold cellSet
 refine wpAny_bind (wpAny_load ho ?_)
 rw[hd]
 exact wpAny_update ho (h _ (Heap.get?_update_self _ ho rfl) (Heap.SameBut.update ..))
section
variable {c:Cx}{env:Env}{res:Res}{k:Clo}{loc:Loc}{φ:List Addr}{H:Hp}{s:Shared}
theorem zmx(F:FSim c env res k loc φ s.heap){o:Obj}(ho:s.heap.get? env.locals=some o):own c env.locals o:=by
 obtain⟨m,⟨⟨o1,es,ep,h1,h2,_,h3⟩,o2,h4,h5⟩,_,_⟩:=F.ns
 obtain rfl:=zaa (ho.symm.trans h1)
 obtain rfl:=zaa (ho.symm.trans h4)
 rcases h5 with h5 |h5
 ·exact .inl (by rw[h5.1];decide)
 ·exact .inr (.inr (.inl ⟨h5.1,es,ep,h2,(h3 _).trans h5.2.1⟩))
theorem zmn(F:FSim c env res k loc φ s.heap){x:Str}{ca:Addr}(hx:env.cells.lookup x=some ca){o:Obj}(ho:s.heap.get? ca=some o):own c ca o:=by
 obtain⟨_,_,o',h1,h2⟩:=F.cells x ca hx
 obtain rfl:=zaa (ho.symm.trans h1)
 exact .inl (by rw[h2];decide)
theorem zxf{i:Nat}{o:Option V}(h:i<loc.length):(loc.set i o).getD i none=o:=by rw[zas,zb0 h];rfl
theorem zmp{i j:Nat}{o:Option V}(h:j≠i):(loc.set i o).getD j none=loc.getD j none:=by rw[zas,zb1 (Ne.symm h),zas]
theorem zlv{a:Addr}{h':Heap}(keep:∀b o,b≠a->s.heap.get? b=some o->h'.get? b=some o)
  (hd:∀o es n,s.heap.get? a=some o->o.data=.dict es n->∃o' es' n',h'.get? a=some o'/\o'.data=.dict es' n'/\o'.cls=o.cls) (hx:∀o vs,s.heap.get? a=some o->o.data≠.fields vs):Kp [a] φ s.heap φ h' where
 pre:=List.prefix_rfl
 keep b o hb _ hX _:=keep b o (fun e=>hX (by rw[e];exact zae)) hb
 new _ h:=.inl h
 dict b o es n hb _ hdd:=by
  by_cases e:b=a
  ·subst e;exact hd o es n hb hdd
  ·exact⟨o,es,n,keep b o e hb,hdd,rfl⟩
 exc b o vs _ hb _ _ hdd:=by
  by_cases e:b=a
  ·subst e;exact absurd hdd (hx o vs hb)
  ·exact⟨vs,by rw[<- hdd];exact keep b o e hb⟩
inductive Stored(c:Cx)(env:Env)(res:Res)(k:Clo)(loc:Loc)(φ:List Addr)(H:Hp)(X:List Addr)(s:Shared)(s':Shared):Prop
 |mk (F:FSim c env res k loc φ s'.heap)(S:Sim c φ H s')(e:Ext X φ s φ s')(kp:Kept X s s'):Stored c env res k loc φ H X s s'
structure SlotPut(res res':Res)(x:Str)(i:Nat):Prop where
 n:res'.n=res.n
 fr:res'.fr=res.fr
 sub:∀y j,res'.lookup y=some j->(y=x/\j=i)\/(y≠x/\res.lookup y=some j/\j≠i)
 lt:i<res.n
 nj:x≠zcj
 na:x≠Str.ofString "at"\/res.fr=true
theorem zwa{a:Addr}{h':Heap}{t:Nat}{X:List Addr}{res':Res}{x:Str}{i:Nat}{ov:Option V}{m:Str->Option Value}(F:FSim c env res k loc φ s.heap)(S:Sim c φ H s)(P:SlotPut res res' x i)(hs':Heap.SameBut a s.heap h')
  (hd:∀o es n,s.heap.get? a=some o->o.data=.dict es n->∃o' es' n',h'.get? a=some o'/\o'.data=.dict es' n'/\o'.cls=o.cls) (hx:∀o vs,s.heap.get? a=some o->o.data≠.fields vs) (hal:∃o,h'.get? a=some o)
  (ow:∀o,s.heap.get? a=some o->own c a o) (ha0:c.h0.get? a=none) (haφ:a∉φ) (haX:a∈X) (room:RoomAt env res'.fr h' m)
  (sx:zhc c φ h' env m x ov) (sy:∀y j,y≠x->res.lookup y=some j->Kp [a] φ s.heap φ h'->OwnX c [a] s.heap->zhc c φ h' env m y (loc.getD j none))
  (clo:∀kk z,k=some (kk,z)->Kp [a] φ s.heap φ h'->OwnX c [a] s.heap->JoinAt c env m kk z φ h') (cells:∀y ca,env.cells.lookup y=some ca->CellAt c φ h' ca) :
  Stored c env res' k (loc.set i ov) φ H X s { s with heap:=h',toks:=t }:=by
 have keep:∀b o,b≠a->s.heap.get? b=some o->h'.get? b=some o:=fun b o hb ho=>(hs'.2 b hb).trans ho
 have kp:=zlv (φ:=φ) keep hd hx
 have owx:OwnX c [a] s.heap:=fun b hb o ho=>by rw[zah.mp hb] at ho ⊢;exact ow o ho
 refine⟨⟨F.fn,F.gl,F.bl,⟨m,room,fun y j hy=>?_,fun kk z hz=>clo kk z hz kp owx⟩,by rw[P.n,zbm];exact F.len,F.Lφ,F.L0,cells⟩,?_,?_,fun b o hb ho=>keep b o (fun q=>hb (q▸haX)) ho,rfl,rfl⟩
 ·rcases P.sub y j hy with⟨rfl,rfl⟩|⟨e,hy,hji⟩
  ·rw[zxf (zay P.lt F.len)];exact sx
  ·rw[zmp hji];exact sy y j e hy kp owx
 ·exact S.mono (s':={ s with heap:=h',toks:=t }) kp owx (fun b hb=>by rw[zah.mp hb];exact ha0) (fun b hb o ho=>keep b o (fun q=>haφ (q▸hb)) ho) (fun b o hb _=>keep b o (fun q=>by rw[q,ha0] at hb;cases hb) (S.stays b o hb)) S.gens fun b ps hb=>keep b _ (fun q=>hx _ ps (q▸hb) rfl) hb
 ·exact Ext.of_own (s':={ s with heap:=h',toks:=t }) hs' haX hd hal rfl hx
theorem zpp{A:Around}{E:Value->Shared->Prop}{res':Res}{x:Str}{i:Nat}{v:V}{r:Value}{X:List Addr}(F:FSim c env res k loc φ s.heap)(S:Sim c φ H s)(P:SlotPut res res' x i)(hXL:env.locals∈X)(hk:env.kindOf x=some .local)(R:Rep c φ s.heap v r) :
  wpAny (model c.prog c.w) A (storeName env x r) (fun _ s'=>Stored c env res' k (loc.set i (some v)) φ H X s s') E s:=by
 obtain⟨m,⟨hn,oL,hoL,hcL⟩,hsl,hjo⟩:=F.ns
 refine zlx hk F.fn hn hoL fun h' hn' hs' hc'=>?_
 obtain⟨o',ho',hcls'⟩:=hc'
 have hnf:∀o vs,s.heap.get? env.locals=some o->o.data≠.fields vs:=fun o vs ho hd=>by
  obtain⟨o1,es1,n1,h1,h2,_⟩:=hn
  obtain rfl:=zaa (ho.symm.trans h1)
  rw[h2] at hd;cases hd
 have hdd:∀o es n,s.heap.get? env.locals=some o->o.data=.dict es n->∃o' es' n',h'.get? env.locals=some o'/\o'.data=.dict es' n'/\o'.cls=o.cls:=fun o es n ho _=>by
  obtain⟨o1,es1,n1,h1,h2,_⟩:=hn'
  obtain rfl:=zaa (ho'.symm.trans h1)
  obtain rfl:=zaa (hoL.symm.trans ho)
  exact⟨o',es1,n1,ho',h2,hcls'⟩
 have hcL':∀y ca,env.cells.lookup y=some ca->ca≠env.locals:=fun y ca hy q=>by
  obtain⟨_,_,o1,h1,h2⟩:=F.cells y ca hy
  rw[q] at h1
  obtain rfl:=zaa (hoL.symm.trans h1)
  rcases hcL with h |h
  ·rw[h2] at h;exact absurd h.1 (by decide)
  ·rw[h2] at h;exact absurd h.1 (by decide)
 have cs:∀z ca,env.cells.lookup z=some ca->ca∉[env.locals]/\CellAt c φ s.heap ca:=fun z ca hz=>⟨fun q=>hcL' z ca hz (zah.mp q),F.cells z ca hz⟩
 have kp:=zlv (φ:=φ) (fun b o hb ho=>(hs'.2 b hb).trans ho) hdd hnf
 have ow:OwnX c [env.locals] s.heap:=fun b hb o ho=>by rw[zah.mp hb] at ho ⊢;exact zmx F ho
 refine zwa (m:=fun y=>if y=x then some r else m y) F S P hs' hdd hnf ⟨o',ho'⟩ (fun o ho=>zmx F ho) F.L0 F.Lφ hXL ⟨hn',o',ho',?_⟩ ?_ (fun y j hy hj kp ow=>?_) (fun kk z hz kp ow=>?_) fun y ca hy=>?_
 ·rcases hcL with h |h
  ·exact .inl ⟨hcls'.trans h.1,P.fr.trans h.2⟩
  ·refine .inr ⟨hcls'.trans h.1,?_,P.fr.trans h.2.2⟩
   rcases P.na with hat |h2
   ·rw[if_neg (Ne.symm hat)];exact h.2.1
   ·rw[h.2.2] at h2;cases h2
 ·unfold zhc
  rw[hk]
  exact .yes v r (if_pos rfl) (Rep.mono kp ow R)
 ·have hsy:=(hsl y j hj).mono (s:=s) (s':={ s with heap:=h' }) kp ow cs
  exact zsn.imp hsy (fun _ h=>by show SlotL _ _ _ (if y=x then _ else _) _;rw[if_neg hy];exact h) id
 ·obtain⟨h3,fv,h4,h5⟩:=hjo kk z hz
  exact⟨h3,fv,by rw[if_neg (Ne.symm P.nj)];exact h4,h5.mono (s:=s) (s':={ s with heap:=h' }) kp ow fun ca o ho _ hlt q=>absurd (zah.mp q) (za3 hlt)⟩
 ·obtain⟨h1,h2,o1,h3,h4,h5⟩:=F.cells y ca hy
  exact⟨h1,h2,o1,(hs'.2 ca (hcL' y ca hy)).trans h3,h4,h5⟩
inductive OwnCell(env:Env)(X:List Addr)(h:Heap)(x:Str):Prop
 |mk (ca:Addr)(r:Option Value)(h1:env.cells.lookup x=some ca)(h2:h.IsCell ca r)(h3:env.locals<ca)(h4:ca∈X)(h5:∀y,env.cells.lookup y=some ca->y=x):OwnCell env X h x
theorem zte{A:Around}{E:Value->Shared->Prop}{res':Res}{x:Str}{i:Nat}{v:V}{r:Value}{X:List Addr}(F:FSim c env res k loc φ s.heap)(S:Sim c φ H s)(P:SlotPut res res' x i)(hk:env.kindOf x=some .cell)(hc:OwnCell env X s.heap x)(R:Rep c φ s.heap v r) :
  wpAny (model c.prog c.w) A (storeName env x r) (fun _ s'=>Stored c env res' k (loc.set i (some v)) φ H X s s') E s:=by
 obtain⟨m,⟨hn,oL,hoL,hcL⟩,hsl,hjo⟩:=F.ns
 obtain⟨ca,r0,hca,⟨oc,hoc,hdc⟩,hlt0,hcX,hap⟩:=hc
 obtain⟨hcφ,hc0,oc',hoc',hcc⟩:=F.cells x ca hca
 obtain rfl:=zaa (hoc.symm.trans hoc')
 refine zun F.fn hk hca hoc hdc fun h' ho' hs'=>?_
 have hLc:env.locals≠ca:=za3 hlt0
 have no:∀{P:Prop} o,s.heap.get? ca=some o->(∀r,o.data≠.cell r)->P:=fun o ho h=>by
  obtain rfl:=zaa (hoc.symm.trans ho)
  exact absurd hdc (h _)
 have hdd:∀o es n,s.heap.get? ca=some o->o.data=.dict es n->∃o' es' n',h'.get? ca=some o'/\o'.data=.dict es' n'/\o'.cls=o.cls:=fun o es n ho hd=>no o ho fun r q=>by rw[hd] at q;cases q
 have hnf:∀o vs,s.heap.get? ca=some o->o.data≠.fields vs:=fun o vs ho hd=>no o ho fun r q=>by rw[hd] at q;cases q
 have kp:=zlv (φ:=φ) (fun b o hb ho=>(hs'.2 b hb).trans ho) hdd hnf
 have ow:OwnX c [ca] s.heap:=fun b hb o ho=>by rw[zah.mp hb] at ho ⊢;exact zmn F hca ho
 have cell:∀{y cy r},y≠x->env.cells.lookup y=some cy->s.heap.IsCell cy r->h'.IsCell cy r:=fun{y cy r} e h1 ⟨o1,h2,h2'⟩=>⟨o1,(hs'.2 cy fun q=>e (hap y (q▸h1))).trans h2,h2'⟩
 refine zwa (m:=m) (t:=s.toks) F S P hs' hdd hnf ⟨_,ho'⟩ (fun o ho=>zmn F hca ho) hc0 hcφ hcX ⟨hn.sameBut hs' hLc,oL,(hs'.2 _ hLc).trans hoL,P.fr▸hcL⟩ ?_ (fun y j hy hj kp ow=>?_) (fun kk z hz kp ow=>?_) fun y cy hy=>?_
 ·unfold zhc
  rw[hk]
  exact .yes v ca r hca ⟨_,ho',rfl⟩ (Rep.mono kp ow R)
 ·exact zsn.imp (hsl y j hj) (fun _ h=>SlotL.mono (s:=s) (s':={ s with heap:=h' }) kp ow h) (SlotC.imp (fun cy ry h1 h2=>cell hy h1 h2) fun v r h=>Rep.mono kp ow h)
 ·obtain⟨h3,fv,h4,h5⟩:=hjo kk z hz
  exact⟨h3,fv,h4,h5.mono (s:=s) (s':={ s with heap:=h' }) kp ow fun cb o ho _ hlt q=>absurd (zah.mp q) (za3 (zar hlt hlt0))⟩
 ·obtain⟨h1,h2,o1,h3,h4,h5⟩:=F.cells y cy hy
  by_cases q:cy=ca
  ·subst q
   obtain rfl:=zaa (hoc.symm.trans h3)
   exact⟨h1,h2,_,ho',h4,_,rfl⟩
  ·exact⟨h1,h2,o1,(hs'.2 cy q).trans h3,h4,h5⟩
end
end Bn
namespace Bn
open PySem PyProof.Rows
section
variable {c:Cx}{A:Around}{φ:List Addr}{H:Hp}{s:Shared}
theorem itr_strw(hh:A.handled=none){I:Addr}{x:Str}{t:Tok}{tg:Expr}(h0:c.h0.get? I=none) :
  Itr c A (.ref I) tg [I] (x.cps.toList.map fun c=>.str ⟨#[c]⟩) (fun _=>True) (fun i φ h=>h.IsStrIter I "str_iterator" x t i/\I∉φ) where
 seen i φ h q:=Its.one q.2 h0 (let⟨o,h1,h2,h3⟩:=q.1;⟨o,h1,h2,_,h3⟩) rfl
 frame i X φ φ' h h' q e hX hw:=by
  have it:=Its.one (c:=c) (t:="str_iterator") q.2 h0 (let⟨o,h1,h2,h3⟩:=q.1;⟨o,h1,h2,_,h3⟩) rfl
  obtain⟨⟨o,ho,r⟩,h3⟩:=q
  exact⟨⟨o,it.keepOne e hw ho,r⟩,e.notin ho h3⟩
 item i y φ H s E hx q S hok:=by
  rw[zan] at hx
  cases hc:x.cps[i]? with
  |none=>simp[hc] at hx
  |some k=>
   simp[hc] at hx;subst hx
   exact wpAny_pyNext_wide_item q.1 hc fun h' hit hs=>zgx (Its.one (t:="str_iterator") q.2 h0 (let⟨o,h1,h2,h3⟩:=q.1;⟨o,h1,h2,_,h3⟩) rfl) hs (let⟨o,h1,h2,h3⟩:=hit;⟨o,h1,h2,_,h3⟩) (by decide) ⟨hit,q.2⟩ rS
 done φ H s E q S hok:=by
  simp only[zac,zbe] at q
  exact wpAny_pyNext_wide_end hh q.1 (by simp) fun h' hs=>⟨rfl,zgy hs⟩
 self i φ s Q E q hq:=wpAny_pyIter_striter_wide q.1 hq
inductive Went(c:Cx)(A:Around)(φ:List Addr)(s:Shared)(tg:Expr)(items:List V)(ok:Hp->Prop)(H:Hp)(it:Value)(s':Shared):Prop
 |mk (wr:List Addr)(St:Nat->List Addr->Heap->Prop)(e:Ext [] φ s φ s')(S:Sim c φ H s')(I:Itr c A it tg wr items ok St)(st:St 0 φ s'.heap)(hn:∀b∈wr,s.heap.get? b=none):Went c A φ s tg items ok H it s'
theorem zgm{I:Addr}{tg:Expr}{items:List V}{ok:Hp->Prop}{St:Nat->List Addr->Heap->Prop}{o:Obj}(S:Sim c φ H s)(hI:I=s.heap.objs.size)(h:Itr c A (.ref I) tg [I] items ok St)(hst:St 0 φ (s.heap.push o)):Went c A φ s tg items ok H (.ref I) { s with heap:=s.heap.push o }:=by
 subst hI
 exact⟨_,_,Ext.push,S.push o,h,hst,fun b hb=>by rw[zah.mp hb];exact Heap.get?_none_of_le (zaf _)⟩
theorem zqv(hh:A.handled=none)(S:Sim c φ H s){v:V}{r:Value}(R:Rep c φ s.heap v r){items:List V}(hs:srcV H v=some items){tg:Expr}{E:Value->Shared->Prop} :
  wpAny (model c.prog c.w) A (pyIter r) (Went c A φ s tg items (okV v items) H) E s:=by
 have h0:=S.h0_new (zaf s.heap.objs.size)
 cases v with
 |str x=>
  obtain rfl:=zaa hs
  obtain⟨t,rfl⟩:=R
  cases ha:x.cps.all (· < 128) with
  |true=>exact wpAny_pyIter_ascii ha (zgm S rfl (itr_str hh (t:=t) h0) ⟨⟨_,Heap.get?_push_size _ rfl,rfl,rfl⟩,S.new⟩)
  |false=>exact wpAny_pyIter_wide ha (zgm S rfl (itr_strw hh (t:=t) h0) ⟨⟨_,Heap.get?_push_size _ rfl,rfl,rfl⟩,S.new⟩)
 |tup l=>
  obtain rfl:=zaa hs
  have R':=R
  obtain⟨a,o,vs,n,rfl,ha,ho,hc,hd,hz,hl⟩:=R
  exact wpAny_pyIter_tuple ⟨o,ho,hc,n,hd⟩ (zgm S rfl (zvj hh (r:=.ref a) h0) ⟨a,rfl,⟨_,Heap.get?_push_size _ rfl,rfl,rfl⟩,Rep.mono (Ext.push (X:=[]) (s:=s)).toKp OwnX.nil R',S.new⟩)
 |lst j=>
  obtain⟨a,vs,n,rfl,ha,ho,_⟩:=S.getP R hs
  exact wpAny_pyIter_list (zdi ho) (zgm S rfl (itr_list hh (a:=a) (j:=j) h0) ⟨⟨_,Heap.get?_push_size _ rfl,rfl,rfl⟩,ha,S.new⟩)
 |rng lo hi st=>
  obtain rfl:=zaa hs
  obtain⟨a,t,u,v,rfl,ha,hr,hb⟩:=R
  refine wpAny_pyIter_range hr (zla hb) ?_
  rw[zgf lo hi st hb.2.2.1]
  have e:zdw lo hi st=(List.range (zdw lo hi st).length).map fun(i:Nat)=>V.int (lo+(i:Int)*st):=by
   rw[zf8];rfl
  generalize(zdw lo hi st).length=n at e ⊢
  rw[e]
  refine zgm S rfl (zus hh (lo:=lo) (st:=st) (n:=n) h0) ⟨za2 _,?_,S.new⟩
  have:=Heap.get?_push_size (h:=s.heap) (o:={ cls:=.type "range_iterator",data:=.fields #[rawInt lo,rawInt (n:Int),rawInt st] }) rfl
  simpa using this
 |_=>cases hs
end
end Bn
namespace Bn
open PySem PyProof.Rows
section
variable {prog:Program}{w:World}{A:Around}{E:Value->Shared->Prop}{R:Result->Shared->Prop}{s:Shared}
theorem znu{elt target iter:Expr}{ifs:List Expr}{scope:Scope}{pos:Pos}{it acc:Value}{env:Env}(I:Nat->Shared->Prop)
  (turn:∀n s,I n s->wpAny (model prog w) A (pyNext it) (fun r s₁=>match r with
   |none=>R (.ok .next) s₁
   |some v=>wpAny (model prog w) A (letOwnedTupleGo target it v) (fun _ s₁'=>wpAny (model prog w) A (assign target env v) (fun _ s₂=>
     wpAny (model prog w) A (forIn ifs true fun c r=>if r=true then do let ok<-isTrue c env (eval c env);pure (ForInStep.yield ok) else pure (ForInStep.yield r)) (fun ok s₃=>
      if ok=true then wpAny (model prog w) A (eval elt env) (fun x s₄=>
       wpAny (model prog w) A (call (.builtin "list.append") [acc,x]) (fun _ s₅=>∃m,m<n/\I m s₅) (fun _ _=>False) s₄) (fun _ _=>False) s₃
      else ∃m,m<n/\I m s₃) (fun _ _=>False) s₂) (fun _ _=>False) s₁') (fun _ _=>False) s₁) (fun _ _=>False) s)
  (n:Nat) (h:I n s) :
  codeAny (model prog w) A (.compLoop (.ListComp elt [⟨target,iter,ifs,0⟩] scope pos) 0 it acc env) R s:=by
 refine codeAny_loop rfl I (fun n s hI=>?_) n h
 show wpAny _ A ((compTurn (.ListComp elt [⟨target,iter,ifs,0⟩] scope pos) 0 it acc env).onRaise (fun x=>do noteFrame x env;theTreesLotGoes x)) _ _ s
 refine wpAny_noted ?_
 rw[compTurn_list]
 refine wpAny_bind (wpAny_standAt (wpAny_bind (wpAny_mono (turn n s hI) (fun r s₁ h₁=>?_) fun _ _ h'=>h'.elim)))
 cases r with
 |none=>exact wpAny_pure h₁
 |some v=>
  refine wpAny_bind (wpAny_mono h₁ (fun _ s₁' h₁'=>?_) fun _ _ h'=>h'.elim)
  refine wpAny_bind (wpAny_mono h₁' (fun _ s₂ h₂=>wpAny_bind (wpAny_mono h₂ (fun ok s₃ h₃=>?_) fun _ _ h'=>h'.elim)) fun _ _ h'=>h'.elim)
  cases ok with
  |false=>exact wpAny_pure ⟨rfl,h₃⟩
  |true=>
   exact wpAny_bind (wpAny_bind (wpAny_mono h₃ (fun x s₄ h₄=>wpAny_bind (wpAny_mono h₄ (fun _ s₅ h₅=>wpAny_pure (wpAny_pure ⟨rfl,h₅⟩)) fun _ _ h'=>h'.elim)) fun _ _ h'=>h'.elim))
end
noncomputable def zfg(env:Env):List (Str×NameKind)->List (Str×Addr)->List (Str×Addr)
 |[],acc=>acc
 |(n,k)::r,acc=>if k==.free then zfg env r ((n,(env.cells.lookup n).getD 0)::acc) else zfg env r acc
theorem zio{env:Env}{n:Str}{k:NameKind}{r:List (Str×NameKind)}{acc:List (Str×Addr)}:zfg env ((n,k)::r) acc=if k==.free then zfg env r ((n,(env.cells.lookup n).getD 0)::acc) else zfg env r acc:=rfl
theorem zry{env:Env}(f:Str×NameKind->List (Str×Addr)->Sem (ForInStep (List (Str×Addr))))
  (hf:∀n k cs,f (n,k) cs=if k==.free then(do let a<-cellOf env n;pure (.yield ((n,a)::cs))) else pure (.yield cs)) :
  ∀(names:List (Str×NameKind)) (acc:List (Str×Addr)),(∀n,(n,NameKind.free)∈names->∃ca,env.cells.lookup n=some ca)->forIn names acc f=pure (zfg env names acc)
 |[],acc,_=>List.forIn_nil
 |(n,k)::r,acc,h=>by
  have ih:=fun acc=>zry f hf r acc fun n hn=>h n (zai _ hn)
  rw[List.forIn_cons,hf]
  rw[zio]
  by_cases hk:(k==NameKind.free)=true
  ·rw[if_pos hk,if_pos hk]
   have hk':k=.free:=by simpa using hk
   subst hk'
   obtain⟨ca,hca⟩:=h n zae
   simp only[cellOf,hca,Option.getD_some]
   simp only[pure_bind]
   exact ih _
  ·rw[if_neg hk,if_neg hk]
   simp only[pure_bind]
   exact ih _
theorem zm0{scope:Scope}{env:Env}(h:∀n,(n,NameKind.free)∈scope.names->∃ca,env.cells.lookup n=some ca):closureFor scope env=pure (zfg env scope.names []):=by
 unfold closureFor
 have:=zry (env:=env) (fun x r=>match x with
  |(name,kind)=>if(kind==NameKind.free)=true then(do let a<-cellOf env name;pure (.yield ((name,a)::r))) else pure (.yield r)) (fun n k cs=>rfl) scope.names [] h
 simp only[bind_pure] at this ⊢
 exact this
theorem zd4{env:Env}:∀{names:List (Str×NameKind)}{acc:List (Str×Addr)}{x:Str}{ca:Addr},(zfg env names acc).lookup x=some ca->
  acc.lookup x=some ca\/((x,NameKind.free)∈names/\ca=(env.cells.lookup x).getD 0)
 |[],acc,x,ca,h=>.inl h
 |(n,k)::r,acc,x,ca,h=>by
  rw[zio] at h
  split at h
  ·rename_i hk
   have hk':k=.free:=by simpa using hk
   subst hk'
   rcases zd4 h with h |h
   ·rw[za1] at h
    cases hb:x==n with
    |true=>
     rw[hb] at h
     have:=beq_iff_eq.mp hb;subst this
     cases h
     exact .inr ⟨zae,rfl⟩
    |false=>rw[hb] at h;exact .inl h
   ·exact .inr ⟨zai _ h.1,h.2⟩
  ·rcases zd4 h with h |h
   ·exact .inl h
   ·exact .inr ⟨zai _ h.1,h.2⟩
theorem zin{env:Env}:∀{names:List (Str×NameKind)}{acc:List (Str×Addr)}{x:Str},((x,NameKind.free)∈names\/(acc.lookup x).isSome)->((zfg env names acc).lookup x).isSome
 |[],acc,x,h=>by
  rcases h with h |h
  ·cases h
  ·exact h
 |(n,k)::r,acc,x,h=>by
  rw[zio]
  split
  ·rename_i hk
   refine zin ?_
   rcases h with h |h
   ·rcases zal.mp h with e |h
    ·cases e
     right;simp[za1]
    ·exact .inl h
   ·right
    rw[za1]
    cases x==n<;>simp[h]
  ·rename_i hk
   refine zin ?_
   rcases h with h |h
   ·rcases zal.mp h with e |h
    ·cases e;exact absurd rfl hk
    ·exact .inl h
   ·exact .inr h
theorem ztg{M:Model}{A:Around}{E:Value->Shared->Prop}{s:Shared}{scope:Scope}{globals:Addr}{closure:List (Str×Addr)}{qual:Str}{func:Option Addr}{code:Value}{outer:Env}{Q:Env->Shared->Prop}
  (hQ:Q { scope,locals:=s.heap.objs.size,globals,cells:=cellsFrom (s.heap.objs.size+1) scope.names closure,qual,func,code:=outer.code,frame:=outer.frame,builtins:=outer.builtins } { s with heap:=pushCells (s.heap.push { cls:=.type "dict",data:=.dict #[] }) scope.names }) :
  wpAny M A (newFunctionEnv scope globals closure [] qual func code (some outer)) Q E s:=by
 simp only[newFunctionEnv,Option.isSome_some,if_true]
 refine wpAny_bind (wpAny_alloc ?_)
 refine wpAny_bind (wpAny_layCells _ (fun name kind cells=>by cases hkc:kind==NameKind.cell<;>simp[hkc]) _ _ _ _ ?_)
 rw[show({ s with heap:=s.heap.push { cls:=.type "dict",data:=.dict #[] } }:Shared).heap.objs.size=s.heap.objs.size+1 from Heap.size_push ..]
 rw[List.forIn_nil]
 exact wpAny_bind (wpAny_pure (wpAny_pure hQ))
section
variable {c:Cx}{env:Env}{res:Res}
theorem zrb:∀{es:List Expr}{xs:List Ex},zeq c env res es xs->∀A q d k loc φ H s Q (E:Value->Shared->Prop),OkF c A q d φ s.heap->FSim c env res k loc φ s.heap->Sim c φ H s->wpI (Calls c) q d k xs loc Q H->
  wpAny (model c.prog c.w) A (forIn es true fun c r=>if r=true then do let ok<-isTrue c env (eval c env);pure (ForInStep.yield ok) else pure (ForInStep.yield r)) (OutB c φ s Q) E s
 |[],xs,h=>fun A q d k loc φ H s Q E hA hF hS hw=>by
  obtain rfl:xs=[]:=h
  rw[List.forIn_nil]
  exact wpAny_pure ⟨φ,H,Ext.refl,hS,hw⟩
 |e::es,xs,h=>fun A q d k loc φ H s Q E hA hF hS hw=>by
  obtain⟨x,xs',rfl,h1,h2⟩:=h.uncons
  rw[List.forIn_cons]
  refine wpAny_bind (wpAny_bind (wpAny_mono (h1 A q d k loc φ H s _ noX hA hF hS hw) ?_ fun _ _ h=>OutX.no h))
  rintro b s₁ ⟨φ₁,H₁,e₁,S₁,w₁⟩
  refine wpAny_pure ?_
  cases b with
  |true=>exact wpAny_mono (zrb h2 A q d k loc φ₁ H₁ s₁ Q E (hA.mono e₁) (hF.mono e₁) S₁ w₁) (fun _ _ h=>OutB.lift e₁ h) fun _ _ h=>h
  |false=>
   have:∀es:List Expr,(forIn es false fun c r=>if r=true then do let ok<-isTrue c env (eval c env);pure (ForInStep.yield ok) else pure (ForInStep.yield r):Sem Bool)=pure false:=by
    intro es
    induction es with
    |nil=>rfl
    |cons e es ih=>rw[List.forIn_cons];exact ih
   show wpAny _ _ (forIn es false _) _ _ _
   rw[this]
   exact wpAny_pure ⟨φ₁,H₁,e₁,S₁,w₁⟩
theorem FSim.sub{res':Res}{k:Clo}{loc loc':Loc}{φ:List Addr}{h:Heap}(F:FSim c env res k loc φ h)(hn:res'.n<=loc'.length)(hff:res'.fr=res.fr)(hs:∀x i,res'.lookup x=some i->res.lookup x=some i/\loc'.getD i none=loc.getD i none):FSim c env res' none loc' φ h where
 fn:=F.fn
 gl:=F.gl
 bl:=F.bl
 ns:=by
  obtain⟨m,h1,h2,h3⟩:=F.ns
  exact⟨m,by rw[hff];exact h1,fun x i hx=>by rw[(hs x i hx).2];exact h2 x i (hs x i hx).1,fun kk z hz=>nomatch hz⟩
 len:=hn
 Lφ:=F.Lφ
 L0:=F.L0
 cells:=F.cells
end
end Bn
namespace Bn
open PySem PyProof.Rows
structure StoreOk(al:Str->Bool)(env:Env)(res res':Res)(x:Str)(i:Nat):Prop extends SlotPut res res' x i where
 kind:env.kindOf x=some .local\/(al x=true/\env.kindOf x=some .cell)
inductive StoresC(al:Str->Bool)(env:Env)(res:Res)(e:Expr)(i:Nat)(P:Res->Prop):Prop
 |mk (x:Str)(p:Pos)(res1:Res)(h:e=.Name x p)(h1:StoreOk al env res res1 x i)(h2:P res1):StoresC al env res e i P
noncomputable def zf5(al:Str->Bool)(env:Env):Res->Res->List Expr->List Nat->Prop
 |res,res',[],is=>res'=res/\is=[]
 |res,res',e::es,is=>match is with
  |[]=>False
  |i::is=>StoresC al env res e i fun res1=>zf5 al env res1 res' es is
noncomputable def TgOk(al:Str->Bool)(env:Env)(res res':Res)(e:Expr)(t:Tg):Prop:=match t with
 |.one i=>∃x p,e=.Name x p/\StoreOk al env res res' x i
 |.two i j=>∃es x p,e=.Tuple es x p/\zf5 al env res res' es [i,j]
inductive MyCell(env:Env)(X:List Addr)(x:Str):Prop
 |mk (ca:Addr)(h1:env.cells.lookup x=some ca)(h2:env.locals<ca)(h3:ca∈X)(h4:∀y,env.cells.lookup y=some ca->y=x):MyCell env X x
noncomputable def allY:Str->Bool:=fun _=>true
structure EnvX(al:Str->Bool)(env:Env)(X:List Addr):Prop where
 loc:env.locals∈X
 cell:∀x,al x=true->env.kindOf x=some .cell->MyCell env X x
 only:∀b∈X,b=env.locals\/∃x,env.cells.lookup x=some b
section
variable {c:Cx}{env:Env}{res:Res}{k:Clo}{loc loc':Loc}{φ:List Addr}{H:Hp}{s:Shared}{al:Str->Bool}{X:List Addr}
theorem FSim.ownX(F:FSim c env res k loc φ s.heap)(hX:EnvX al env X):OwnX c X s.heap:=fun b hb o ho=>by
 rcases hX.only b hb with rfl |⟨x,hx⟩
 ·exact zmx F ho
 ·exact zmn F hx ho
theorem FSim.outX(F:FSim c env res k loc φ s.heap)(hX:EnvX al env X):∀b∈X,b∉φ/\c.h0.get? b=none:=fun b hb=>by
 rcases hX.only b hb with rfl |⟨x,hx⟩
 ·exact⟨F.Lφ,F.L0⟩
 ·exact(F.cells x b hx).out
theorem Kept.trans{X:List Addr}{s s₁ s₂:Shared}(a:Kept X s s₁)(b:Kept X s₁ s₂):Kept X s s₂:=
 ⟨fun y o hy ho=>b.1 y o hy (a.1 y o hy ho),b.2.1.trans a.2.1,b.2.2.trans a.2.2⟩
theorem zgu{A:Around}{E:Value->Shared->Prop}{res':Res}{x:Str}{i:Nat}{v:V}{r:Value}(F:FSim c env res k loc φ s.heap)(S:Sim c φ H s)(h:StoreOk al env res res' x i)(hX:EnvX al env X)(R:Rep c φ s.heap v r) :
  wpAny (model c.prog c.w) A (storeName env x r) (fun _ s'=>Stored c env res' k (loc.set i (some v)) φ H X s s') E s:=by
 rcases h.kind with h5 |⟨ha,hk⟩
 ·exact zpp F S h.toSlotPut hX.loc h5 R
 ·refine zte F S h.toSlotPut hk ?_ R
  obtain⟨ca,g1,g2,g3,g4⟩:=hX.cell x ha hk
  obtain⟨_,_,o,h3,_,r,h5⟩:=F.cells x ca g1
  exact⟨ca,r,g1,⟨o,h3,h5⟩,g2,g3,g4⟩
theorem zny{A:Around}{E:Value->Shared->Prop}(hX:EnvX al env X):∀{es:List Expr}{is:List Nat}{vs:List V}{rs:List Value}{res res':Res}{loc loc':Loc}{s:Shared},
  zf5 al env res res' es is->zsz is vs loc=some loc'->FSim c env res k loc φ s.heap->Sim c φ H s->RepL c φ s.heap vs rs->
  wpAny (model c.prog c.w) A (assignInOrder ((assignEach es env).map (·.2)) rs) (fun _ s'=>Stored c env res' k loc' φ H X s s') E s
 |[],is,vs,rs,res,res',loc,loc',s,h,hb,F,S,R=>by
  obtain⟨rfl,rfl⟩:=h
  cases vs with
  |nil=>
   obtain rfl:=zaa hb
   obtain rfl:=R.nil_inv
   exact wpAny_pure ⟨F,S,Ext.refl,fun _ _ _ h=>h,rfl,rfl⟩
  |cons=>cases hb
 |e::es,[],vs,rs,res,res',loc,loc',s,h,hb,F,S,R=>h.elim
 |e::es,i::is,[],rs,res,res',loc,loc',s,h,hb,F,S,R=>nomatch hb
 |e::es,i::is,v::vs,rs,res,res',loc,loc',s,h,hb,F,S,R=>by
  obtain⟨x,p,res1,rfl,h1,h2⟩:=h
  obtain⟨r,rs,rfl,R1,R2⟩:=R.uncons
  show wpAny _ _ (do holding rs (assign (.Name x p) env r);assignInOrder ((assignEach es env).map (·.2)) rs) _ _ s
  refine wpAny_bind (wpAny_holding (wpAny_assign_Name (wpAny_mono (zgu F S h1 hX R1) ?_ fun _ _ h=>h)))
  rintro _ s₁ ⟨F₁,S₁,e₁,k₁⟩
  refine wpAny_mono (zny hX h2 hb F₁ S₁ (RepL.mono e₁.toKp (F.ownX hX) R2)) ?_ fun _ _ h=>h
  rintro _ s₂ ⟨F₂,S₂,e₂,k₂⟩
  exact⟨F₂,S₂,e₁.trans e₂,k₁.trans k₂⟩
theorem zgl{al:Str->Bool}:∀{es:List Expr}{is:List Nat}{res res':Res},zf5 al env res res' es is->(assignEach es env).length=is.length/\(assignEach es env).findIdx? (·.1)=none
 |[],is,_,_,h=>by obtain⟨rfl,rfl⟩:=h;exact⟨rfl,rfl⟩
 |e::es,[],_,_,h=>h.elim
 |e::es,i::is,_,_,h=>by
  obtain⟨x,p,res1,rfl,_,h2⟩:=h
  obtain⟨h3,h4⟩:=zgl h2
  refine⟨congrArg (· + 1) h3,?_⟩
  show(((false,assign (.Name x p) env)::assignEach es env).findIdx? (·.1))=none
  rw[List.findIdx?_cons,h4];rfl
theorem zoz:∀{is:List Nat}{vs:List V}{loc loc':Loc},zsz is vs loc=some loc'->vs.length=is.length
 |[],[],_,_,_=>rfl
 |_::_,_::_,_,_,h=>congrArg (· + 1) (zoz (by exact h))
 |[],_::_,_,_,h=>nomatch h
 |_::_,[],_,_,h=>nomatch h
theorem zns{A:Around}{E:Value->Shared->Prop}(hh:A.handled=none)(hX:EnvX al env X){es:List Expr}{is:List Nat} {x1}{pos:Pos}{vs:List V}{r:Value}{res res':Res}{loc loc':Loc}{s:Shared}
  (h:zf5 al env res res' es is) (hb:zsz is vs loc=some loc') (F:FSim c env res k loc φ s.heap) (S:Sim c φ H s) (R:Rep c φ s.heap (.tup vs) r) :
  wpAny (model c.prog c.w) A (assign (.Tuple es x1 pos) env r) (fun _ s'=>Stored c env res' k loc' φ H X s s') E s:=by
 obtain⟨a,o,us,n,rfl,ha,ho,hc,hd,hz,hl⟩:=R
 have hlen:us.size=is.length:=by rw[<- zoz hb,<-RepL.length hl,zbe]
 refine wpAny_assign_Tuple hh ⟨o,ho,hc,n,hd⟩ ((zgl h).1.trans hlen.symm) (zgl h).2 fun h' hx=>?_
 have keep:∀b o,s.heap.get? b=some o->h'.get? b=some o:=fun b o hb=>hx b o (za3 (Heap.lt_size hb)) hb
 have e:Ext [] φ s φ { s with heap:=h' }:=Ext.of_keeps keep rfl
 refine wpAny_mono (zny hX h hb (F.mono e) (S.keeps (s':={ s with heap:=h' }) keep rfl) (RepL.mono e.toKp OwnX.nil hl)) ?_ fun _ _ h=>h
 rintro _ s₂ ⟨F₂,S₂,e₂,k₂⟩
 exact⟨F₂,S₂,(e.weaken (fun _ h=>nomatch h) fun b hb=>(F.outX hX b hb).1).trans e₂,fun b o hb ho=>k₂.1 b o hb (keep b o ho),k₂.2⟩
theorem zq8{A:Around}{E:Value->Shared->Prop}(hh:A.handled=none)(hX:EnvX al env X){tg:Expr}{t:Tg}{v:V}{r:Value}{res res':Res}{loc loc':Loc}{s:Shared}
  (h:TgOk al env res res' tg t) (hb:zgq t v loc=some loc') (F:FSim c env res k loc φ s.heap) (S:Sim c φ H s) (R:Rep c φ s.heap v r) :
  wpAny (model c.prog c.w) A (assign tg env r) (fun _ s'=>Stored c env res' k loc' φ H X s s') E s:=by
 cases t with
 |one i=>
  obtain⟨x,p,rfl,h⟩:=h
  obtain rfl:=zaa hb
  exact wpAny_assign_Name (zgu F S h hX R)
 |two i j=>
  obtain⟨es,x,p,rfl,h⟩:=h
  obtain⟨vs,h1,g⟩:=zad.mp hb
  obtain rfl:=zgi h1
  cases LV.of vs with
  |two a b=>exact zns hh hX h (show zsz [i,j] [a,b] loc=some loc' from g) F S R
  |_=>cases g
end
end Bn
namespace Bn
open PySem PyProof.Rows
inductive NsK(T:Value)(h:Heap)(C:Addr)(m:Str->Option Value):Prop
 |mk (ns:h.Ns C m)(o:Obj)(ho:h.get? C=some o)(hc:o.cls=T):NsK T h C m
abbrev NsD (h:Heap) (C:Addr) (m:Str->Option Value):Prop:=NsK (.type "dict") h C m
theorem NsD.ns{h:Heap}{C:Addr}{m:Str->Option Value}(q:NsD h C m):h.Ns C m:=let⟨n,_,_,_⟩:=q;n
inductive HasK(T:Value)(h:Heap)(C:Addr)(m₀:Str->Option Value)(n:Str):Prop
 |mk (m:Str->Option Value)(d:NsK T h C m)(same:∀y,y≠n->m y=m₀ y):HasK T h C m₀ n
theorem zhu{α:Type}{p q:α->Bool}(hpq:∀e,p e=true->q e=false):∀(l:List α)(i:Nat),l.findIdx? p=some i->(l.eraseIdx i).find? q=l.find? q
 |[],_,h=>nomatch h
 |e::l,i,h=>by
  rw[List.findIdx?_cons] at h
  cases hp:p e with
  |true=>
   rw[hp] at h
   obtain rfl:=zaa h
   rw[List.eraseIdx_cons_zero,List.find?_cons,hpq e hp]
  |false=>
   rw[hp] at h
   obtain⟨j,hj,rfl⟩:=zaj.mp h
   rw[List.eraseIdx_cons_succ,List.find?_cons,List.find?_cons,zhu hpq l j hj]
theorem zv1{es:Array DictEntry}{n y:Str}{i:Nat}(hi:es.findIdx? (fun e=>e.key.isStr n)=some i)(hy:y≠n):nsFind (es.eraseIdxIfInBounds i) y=nsFind es y:=by
 obtain⟨l⟩:=es
 simp only[nsFind,findBy,List.eraseIdxIfInBounds_toArray,List.find?_toArray,List.findIdx?_toArray] at hi ⊢
 rw[zhu (fun e he=>?_) l i hi]
 cases hq:e.key.isStr y with
 |false=>rfl
 |true=>exact absurd (Value.isStr_inj _ _ _ he hq).symm hy
section
variable {M:Model}{A:Around}{E:Value->Shared->Prop}{s:Shared}{env:Env}
theorem nsDelK{T:Value}{a:Addr} {m}{name:Str}{Q:Bool->Shared->Prop}(hD:NsK T s.heap a m)
  (hQ:∀h' m',NsK T h' a m'->(∀y,y≠name->m' y=m y)->Heap.SameBut a s.heap h'->Q (m name).isSome { s with heap:=h' }):wpAny M A (nsDel a name) Q E s:=by
 obtain⟨hn,o2,ho2,hc2⟩:=id hD
 obtain⟨o,es,ep,ho,hd,hk,hm⟩:=id hn
 replace hc2:o.cls=T:=by rw[ho] at ho2;cases ho2;exact hc2
 have hany:es.any (·.refKey)=false:=by
  rw[Array.any_eq_false'];intro e he;obtain⟨n,t,h⟩:=hk e he;simp[DictEntry.refKey,h]
 have hsome:(m name).isSome=es.any (·.key.isStr name):=by
  rw[<- hm name];simp only[nsFind,findBy,Option.isSome_map]
  rw[Bool.eq_iff_iff];simp only[Array.find?_isSome,Array.any_eq_true]
  constructor
  ·rintro⟨x,hx,hp⟩;obtain⟨i,hi,rfl⟩:=Array.mem_iff_getElem.mp hx;exact⟨i,hi,hp⟩
  ·rintro⟨i,hi,hp⟩;exact⟨_,Array.getElem_mem hi,hp⟩
 have hhas:nsHas name o=pure (es.any (·.key.isStr name)):=by
  rw[nsHas_eq];unfold nsHasByArray;rw[hd]
  show(if(es.any fun x=>x.key.isStr name)=true then _ else _)=_
  generalize(es.any fun x=>x.key.isStr name)=b
  cases b<;>simp[hany]
 unfold nsDel
 refine wpAny_bind (wpAny_loadPart ho ?_)
 rw[hhas]
 refine wpAny_bind (wpAny_pure ?_)
 rw[<- hsome]
 cases hmn:(m name).isSome
 ·have:=hQ s.heap m hD (fun _ _=>rfl) (.refl ..)
  rw[hmn] at this
  exact wpAny_pure this
 ·refine wpAny_bind (wpAny_updatePart ho (wpAny_pure ?_))
  have key:HasK T (s.heap.update a (Obj.dropName name)) a m name:=by
   obtain⟨cl,d,dt,sl⟩:=o
   subst hd
   cases hi:es.findIdx? (·.key.isStr name) with
   |some i=>exact⟨_,⟨⟨_,_,ep+1,Heap.get?_update_self _ ho (by simp only[Obj.dropName_eq,Obj.dropNameByArray,hi]<;>rfl),(by simp only[Obj.dropName_eq,Obj.dropNameByArray,hi]<;>rfl),hk.erase i,fun _=>rfl⟩,_,Heap.get?_update_self _ ho (by simp only[Obj.dropName_eq,Obj.dropNameByArray,hi]<;>rfl),(by simp only[Obj.dropName_eq,Obj.dropNameByArray,hi];exact hc2)⟩,fun y hy=>(zv1 hi hy).trans (hm y)⟩
   |none=>exact⟨_,⟨⟨_,_,ep,Heap.get?_update_self _ ho (by simp only[Obj.dropName_eq,Obj.dropNameByArray,hi]<;>rfl),(by simp only[Obj.dropName_eq,Obj.dropNameByArray,hi]<;>rfl),hk,fun _=>rfl⟩,_,Heap.get?_update_self _ ho (by simp only[Obj.dropName_eq,Obj.dropNameByArray,hi]<;>rfl),(by simp only[Obj.dropName_eq,Obj.dropNameByArray,hi];exact hc2)⟩,fun y _=>hm y⟩
  obtain⟨m',hm',hsm⟩:=key
  have:=hQ _ m' hm' hsm (Heap.SameBut.update ..)
  rw[hmn] at this
  exact this
theorem nsDelD{a:Addr} {m}{name:Str}{Q:Bool->Shared->Prop}(hD:NsD s.heap a m)
  (hQ:∀h' m',NsD h' a m'->Heap.SameBut a s.heap h'->Q (m name).isSome { s with heap:=h' }):wpAny M A (nsDel a name) Q E s:=nsDelK hD fun h' m' h1 _ h2=>hQ h' m' h1 h2
theorem letGoD{cenv:Env}{cellsOf:List (Str×NameKind)->List Value}(hkind:cenv.scope.kind=.function){Q:Unit->Shared->Prop} :
  ∀(vs:List (Str×NameKind)) (s:Shared) (m:Str->Option Value),(∀x∈vs,x.2=.local->cenv.kindOf x.1=some .local)->NsD s.heap cenv.locals m->
   (∀h' m',NsD h' cenv.locals m'->Heap.SameBut cenv.locals s.heap h'->Q () { s with heap:=h' })->wpAny M A (comprehension.letGo cenv cellsOf vs) Q E s:=by
 intro vs
 induction vs with
 |nil=>intro s m _ hn hQ;exact wpAny_pure (hQ s.heap m hn (.refl ..))
 |cons x r ih=>
  intro s m hv hn hQ
  obtain⟨n,k⟩:=x
  rw[comprehension.letGo]
  have hr:∀y∈r,y.2=.local->cenv.kindOf y.1=some .local:=fun y hy=>hv y (zai _ hy)
  refine wpAny_bind (wpAny_holding ?_)
  by_cases hk:k=.local
  ·subst hk
   have hkn:cenv.kindOf n=some .local:=hv (n,.local) zae rfl
   simp only[beq_self_eq_true,if_true]
   refine wpAny_bind (wpAny_nsGet hn.ns ?_)
   cases hmn:(m n).isSome
   ·simp only[zbx,if_false]
    exact wpAny_pure (ih s m hr hn hQ)
   ·simp only[if_true]
    unfold unbindName deleteName
    refine wpAny_bind (wpAny_point (wpAny_bind ?_))
    simp only[hkn,hkind]
    refine wpAny_bind (m:=nsDel cenv.locals n) (nsDelD hn fun h' m' hn' hs'=>?_)
    rw[hmn]
    refine wpAny_pure (wpAny_point ?_)
    exact ih { s with heap:=h' } m' hr hn' fun h'' m'' hn'' hs''=>hQ h'' m'' hn'' (hs'.trans hs'')
  ·have hb:(k==NameKind.local)=false:=by simpa using hk
   simp only[hb,zbx,if_false]
   exact wpAny_point (ih s m hr hn hQ)
inductive EndD(P:Heap->Prop)(C:Addr)(h:Heap):Prop
 |mk (m:Str->Option Value)(hn:NsD h C m)(g:∀h' m',NsD h' C m'->Heap.SameBut C h h'->P h'):EndD P C h
noncomputable def endD(M:Model)(A:Around)(E:Value->Shared->Prop)(use:Option (Value->Sem Unit))(Q:Value->Shared->Prop)(acc:Value)(C:Addr)(r:Result)(s':Shared):Prop:=
 match r with
 |.ok _=>(match use with
  |none=>EndD (fun h'=>Q acc { s' with heap:=h' }) C s'.heap
  |some u=>wpAny M A (u acc) (fun _ s''=>EndD (fun h'=>Q .none { s'' with heap:=h' }) C s''.heap) E s')
 |.error _=>False
theorem zli {e : Expr} {scope : Scope} {pos : Pos} {newAcc first : Sem Value} {g : Comprehension} {gs : List Comprehension} {cl : List (Str × Addr)} {use : Option (Value -> Sem Unit)}
  {Q : Value -> Shared -> Prop}
  (hcl : clausesOf e = g :: gs) (hs : ∀ x, foldedSetIterable g.iter env x = pure x) (hclos : closureFor scope env = pure cl)
  (hkind : scope.kind = .function) (hnames : ∀ x ∈ scope.names, x.2 = .local -> scope.names.lookup x.1 = some .local)
  (h : wpAny M A first (fun x s₁ => wpAny M A (pyIter x) (fun it s₂ => wpAny M A newAcc (fun acc s₃ =>
   wpAny M A (newFunctionEnv scope env.globals cl [] env.qual none .none (some env)) (fun cenv s₄ =>
    codeAny M A (.compStart e 0 it acc { cenv with scope := relabel scope env }) (endD M A E use Q acc cenv.locals) s₄) E s₃) E s₂) E s₁) E s) :
  wpAny M A (comprehension e scope env pos newAcc false first use) Q E s := by
 unfold comprehension
 rw [hclos, hcl]
 refine wpAny_bind (wpAny_mono h (fun x s₁ h₁ => wpAny_bind (wpAny_standAt (wpAny_bind (wpAny_of_eq (hs x) (wpAny_bind (wpAny_holding (wpAny_mono h₁ (fun it s₂ h₂ =>
  wpAny_standIf (wpAny_bind (wpAny_mono h₂ (fun acc s₃ h₃ => wpAny_bind (wpAny_pure (wpAny_bind (wpAny_mono h₃ (fun cenv s₄ h₄ => ?_) fun _ _ h' => h')))) fun _ _ h' => h')))
   fun _ _ h' => h'))))))) fun _ _ h' => h')
 dsimp only
 have hv : ∀ x ∈ (scope.names.filter fun x => (x.2 == .local || x.2 == .cell) && x.1 != (".0" : Str)).reverse, x.2 = .local ->
   Env.kindOf { cenv with scope := relabel scope env } x.1 = some .local := fun x hx hl => lookup_relabel_local (hnames x (List.mem_filter.mp (List.mem_reverse.mp hx)).1 hl)
 have hv' : ∀ x ∈ (scope.names.filter fun x => (x.2 == .local || x.2 == .cell) && x.1 != (".0" : Str)).reverse.drop 1 ++ (scope.names.filter fun x => (x.2 == .local || x.2 == .cell) && x.1 != (".0" : Str)).reverse.take 1,
   x.2 = .local -> Env.kindOf { cenv with scope := relabel scope env } x.1 = some .local := fun x hx hl => by
  rcases zau.mp hx with h1 | h1
  ·exact hv x (List.mem_of_mem_drop h1) hl
  ·exact hv x (List.mem_of_mem_take h1) hl
 refine wpAny_holding (wpAny_bind (wpAny_attempt (wpAny_holding (wpAny_run (codeAny_mono h₄ fun r s' hr => ?_)))))
 cases r with
 | ok f =>
  cases use with
  | none =>
   obtain ⟨m, hn, hr⟩ := hr
   exact wpAny_bind (wpAny_holding (letGoD (cenv := { cenv with scope := relabel scope env }) hkind _ s' m hv hn fun h' m' hn' hs' => wpAny_pure (hr h' m' hn' hs')))
  | some u =>
   refine wpAny_bind (wpAny_rule (wpAny_bind (wpAny_holding (wpAny_mono hr (fun _ s'' hr' => ?_) fun _ _ h' => h'))))
   obtain ⟨m, hn, hr'⟩ := hr'
   exact wpAny_bind (letGoD (cenv := { cenv with scope := relabel scope env }) hkind _ s'' m hv' hn fun h' m' hn' hs' => wpAny_pure (hr' h' m' hn' hs'))
 | error x => exact hr.elim
end
noncomputable def Tg.out:Tg->Nat->Prop
 |.one k,i=>i≠k
 |.two k l,i=>i≠k/\i≠l
theorem zn2{t:Tg}{x:V}{loc loc':Loc}(h:zgq t x loc=some loc'):loc'.length=loc.length/\∀{i:Nat},t.out i->loc'.getD i none=loc.getD i none:=by
 cases t with
 |one k=>
  obtain rfl:=zaa h
  exact⟨zbm,fun hi=>zmp hi⟩
 |two k l=>
  obtain⟨vs,h1,g⟩:=zad.mp h
  cases LV.of vs with
  |two a b=>
   obtain rfl:=zaa g
   exact⟨by rw[zbm,zbm],fun hi=>(zmp hi.2).trans (zmp hi.1)⟩
  |_=>cases g
section
variable {c:Cx}{env:Env}{res:Res}
structure Sub0(res res':Res)(scope:Scope)(t:Tg)(x:Str)(i:Nat):Prop where
 up:res.lookup x=some i
 mem:(x,NameKind.free)∈scope.names
 free:scope.names.lookup x=some .free
 dn:res'.lookup x=some i
 out:t.out i
noncomputable def ownY(scope:Scope):Str->Bool:=fun x=>scope.names.lookup x==some .cell
structure CompOk(c:Cx)(env:Env)(res res0 res':Res)(scope:Scope)(tgt:Expr)(t:Tg):Prop where
 kind:scope.kind=.function
 cell:∀n n',(n,NameKind.cell)∈scope.names->(n',NameKind.cell)∈scope.names->n'=n
 nocell:∀n,(n,NameKind.free)∈scope.names->(n,NameKind.cell)∉scope.names
 names:∀y∈scope.names,y.2=.local->scope.names.lookup y.1=some .local
 free:∀n,(n,NameKind.free)∈scope.names->(env.kindOf n=some .cell\/env.kindOf n=some .free)/\∃i,res.lookup n=some i
 n0:res0.n=res.n
 fr0:res0.fr=false
 sub0:∀x i,res0.lookup x=some i->Sub0 res res' scope t x i
 n':res'.n=res.n/\res'.fr=false
 tgt:∀cenv:Env,cenv.scope=relabel scope env->TgOk (ownY scope) cenv res0 res' tgt t
theorem zfh{env:Env}{x:Str}{k:NameKind}:∀{names:List (Str×NameKind)},names.lookup x=some k->
  (names.map fun(n,k)=>if(k==NameKind.free&&env.scope.kind==.function&&env.kindOf n==some .cell) then(n,NameKind.cell) else(n,k)).lookup x =
   some (if(k==NameKind.free&&env.scope.kind==.function&&env.kindOf x==some .cell) then .cell else k)
 |[],h=>by simp at h
 |(n,k')::r,h=>by
  have ih:=@zfh env x k r
  show List.lookup x ((if(k'==NameKind.free&&env.scope.kind==.function&&env.kindOf n==some .cell)=true then(n,NameKind.cell) else(n,k'))::_)=_
  cases hx:x==n with
  |true=>
   simp only[za1,hx] at h
   cases h
   have:=beq_iff_eq.mp hx;subst this
   split<;>simp[za1]
  |false=>
   simp only[za1,hx] at h
   split
   ·simp only[za1,hx];exact ih h
   ·simp only[za1,hx];exact ih h
theorem zjw{k:Clo}{loc:Loc}{φ:List Addr}{h:Heap}(F:FSim c env res k loc φ h){x:Str}(hk:env.kindOf x=some .cell\/env.kindOf x=some .free){i:Nat}(hi:res.lookup x=some i):SlotC c φ h env x (loc.getD i none):=by
 obtain⟨m,_,hs,_⟩:=F.ns
 have h5:=hs x i hi
 unfold zhc at h5
 rcases hk with hk |hk<;>rw[hk] at h5<;>exact h5
theorem SlotC.addr{φ:List Addr}{h:Heap}{x:Str}{ov:Option V}:SlotC c φ h env x ov->∃ca,env.cells.lookup x=some ca
 |.yes _ ca _ h1 _ _=>⟨ca,h1⟩
 |.no ca h1 _=>⟨ca,h1⟩
theorem closL_at{x:Str}{ca:Addr}{names:List (Str×NameKind)}(h:(x,NameKind.free)∈names)(hc:env.cells.lookup x=some ca):(zfg env names []).lookup x=some ca:=by
 obtain⟨ca',hca'⟩:=zb7.mp (zin (env:=env) (acc:=[]) (x:=x) (.inl h))
 rcases zd4 hca' with q |⟨_,q⟩
 ·cases q
 ·rw[hc] at q;obtain rfl:ca'=ca:=q;exact hca'
theorem SlotC.recell{φ:List Addr}{h:Heap}{env':Env}{x:Str}{ov:Option V}(he:∀ca,env.cells.lookup x=some ca->env'.cells.lookup x=some ca):SlotC c φ h env x ov->SlotC c φ h env' x ov
 |.yes v ca r h1 h2 h3=>.yes v ca r (he ca h1) h2 h3
 |.no ca h1 h2=>.no ca (he ca h1) h2
theorem zsn.cell{k:Option NameKind}{L C:Prop}(hk:k=some .cell\/k=some .free)(h:C):zsn k L C:=by
 rcases hk with rfl |rfl<;>exact h
noncomputable def zga:Obj:={ cls:=.type "cell",data:=.cell none }
theorem zid:∀{names:List (Str×NameKind)} {h:Heap} {acc:List (Str×Addr)} {x:Str} {ca:Addr},(cellsFrom h.objs.size names acc).lookup x=some ca ->
  acc.lookup x=some ca\/(h.objs.size<=ca/\(pushCells h names).get? ca=some zga/\(x,NameKind.cell)∈names)
 |[],h,acc,x,ca,e=>.inl e
 |(n,kd)::r,h,acc,x,ca,e=>by
  unfold cellsFrom at e
  unfold pushCells
  cases hk:(kd==NameKind.cell) with
  |true=>
   rw[hk,if_pos rfl] at e
   obtain rfl:=beq_iff_eq.mp hk
   rw[if_pos rfl]
   have:=zid (names:=r) (h:=h.push zga) (acc:=(n,h.objs.size)::acc) (x:=x) (ca:=ca) (by rw[Heap.size_push];exact e)
   rcases this with q |⟨q1,q2,q3⟩
   ·rw[za1] at q
    cases hx:x==n with
    |true=>
     rw[hx] at q
     obtain rfl:=beq_iff_eq.mp hx
     obtain rfl:=zaa q
     exact .inr ⟨zaf _,pushCells_keeps _ _ _ _ (Heap.get?_push_size _ rfl),zae⟩
    |false=>rw[hx] at q;exact .inl q
   ·rw[Heap.size_push] at q1
    exact .inr ⟨Nat.le_of_succ_le q1,q2,zai _ q3⟩
  |false=>
   rw[hk,if_neg (by decide)] at e
   rw[if_neg (by decide)]
   rcases zid (names:=r) e with q |⟨q1,q2,q3⟩
   ·exact .inl q
   ·exact .inr ⟨q1,q2,zai _ q3⟩
theorem ziy:∀{names:List (Str×NameKind)} {k:Nat} {acc:List (Str×Addr)} {x:Str},(x,NameKind.cell)∉names->(cellsFrom k names acc).lookup x=acc.lookup x
 |[],_,_,_,_=>rfl
 |(n,kd)::r,k,acc,x,hn=>by
  unfold cellsFrom
  cases hk:(kd==NameKind.cell) with
  |true=>
   obtain rfl:=beq_iff_eq.mp hk
   rw[if_pos rfl,ziy fun q=>hn (zai _ q),za1,beq_eq_false_iff_ne.mpr fun(q:x=n)=>hn (q▸zae)]
  |false=>rw[if_neg (by decide)];exact ziy fun q=>hn (zai _ q)
theorem zk5:∀{names:List (Str×NameKind)} {k:Nat} {acc:List (Str×Addr)} {x:Str},((x,NameKind.cell)∈names\/(acc.lookup x).isSome)->((cellsFrom k names acc).lookup x).isSome
 |[],_,acc,x,h=>by
  rcases h with h |h
  ·cases h
  ·exact h
 |(n,kd)::r,k,acc,x,h=>by
  unfold cellsFrom
  split
  ·rename_i hk
   refine zk5 ?_
   rcases h with h |h
   ·rcases zal.mp h with e |h
    ·cases e
     right;simp
    ·exact .inl h
   ·right
    rw[za1]
    cases x==n<;>simp[h]
  ·rename_i hk
   refine zk5 ?_
   rcases h with h |h
   ·rcases zal.mp h with e |h
    ·cases e;exact absurd rfl hk
    ·exact .inl h
   ·exact .inr h
noncomputable def XC (env:Env):List Addr:=env.locals::env.cells.filterMap fun p=>(env.cells.lookup p.1).filter fun a=>decide (env.locals<a)
theorem zvu{env:Env}{b:Addr}(h:b∈XC env):b=env.locals\/((∃x,env.cells.lookup x=some b)/\env.locals<b):=by
 rcases zal.mp h with h |h
 ·exact .inl h
 ·obtain⟨p,_,hp⟩:=List.mem_filterMap.mp h
  obtain⟨h1,h2⟩:=Option.filter_eq_some_iff.mp hp
  exact .inr ⟨⟨p.1,h1⟩,of_decide_eq_true h2⟩
theorem XC_mem{env:Env}{x:Str}{b:Addr}(h:env.cells.lookup x=some b)(hb:env.locals<b):b∈XC env:=
 zai _ (List.mem_filterMap.mpr ⟨(x,b),mem_of_lookup h,Option.filter_eq_some_iff.mpr ⟨h,decide_eq_true hb⟩⟩)
theorem ztd{k:Clo}{loc:Loc}{φ:List Addr}{h:Heap}{res0 res':Res}{scope:Scope}{tgt:Expr}{t:Tg}(K:CompOk c env res res0 res' scope tgt t){C:Addr}(hz:h.objs.size=C+1)(F:FSim c env res k loc φ (pushCells h scope.names))(hC:h.get? C=some { cls:=.type "dict",data:=.dict #[] })(hnew:∀b,C<=b->b∉φ/\c.h0.get? b=none) :
  FSim c (compEnvC scope (cellsFrom (C+1) scope.names (zfg env scope.names [])) C env) res0 none loc φ (pushCells h scope.names) where
 fn:=K.kind
 gl:=F.gl
 bl:=F.bl
 ns:=by
  have hC':=pushCells_keeps scope.names h C _ hC
  refine⟨fun _=>none,⟨⟨_,_,_,hC',rfl,by intro e he;simp at he,fun _=>by simp[nsFind,findBy]⟩,_,hC',.inr ⟨rfl,rfl,K.fr0⟩⟩,fun x i hx=>?_,fun kk z hz=>nomatch hz⟩
  have q:=K.sub0 x i hx
  have hkind:(compEnvC scope (cellsFrom (C+1) scope.names (zfg env scope.names [])) C env).kindOf x=some .cell\/(compEnvC scope (cellsFrom (C+1) scope.names (zfg env scope.names [])) C env).kindOf x=some .free:=by
   show List.lookup x (relabel scope env).names=_\/List.lookup x (relabel scope env).names=_
   rw[show List.lookup x (relabel scope env).names=_ from zfh q.free]
   split
   ·exact .inl rfl
   ·exact .inr rfl
  exact zsn.cell hkind ((zjw F (K.free x q.mem).1 q.up).recell fun ca h=>(ziy (K.nocell x q.mem)).trans (closL_at q.mem h))
 len:=by rw[K.n0];exact F.len
 Lφ:=(hnew C (zaf _)).1
 L0:=(hnew C (zaf _)).2
 cells x ca hx:=by
  rcases zid (h:=h) (by rw[hz];exact hx) with q |⟨q1,q2,_⟩
  ·rcases zd4 q with q |⟨h1,q⟩
   ·cases q
   ·obtain⟨hk,i,hi⟩:=K.free x h1
    obtain⟨ca',h6⟩:=(zjw F hk hi).addr
    rw[h6] at q;obtain rfl:ca=ca':=q
    exact F.cells x ca h6
  ·rw[hz] at q1
   exact⟨(hnew ca (Nat.le_of_succ_le q1)).1,(hnew ca (Nat.le_of_succ_le q1)).2,_,q2,rfl,_,rfl⟩
theorem comp_env{k:Clo}{loc:Loc}{φ:List Addr}{h h':Heap}{res0 res':Res}{scope:Scope}{tgt:Expr}{t:Tg}(K:CompOk c env res res0 res' scope tgt t){C:Addr}(hz:h.objs.size=C+1)(F:FSim c env res k loc φ h')(hlt:∀b o,h'.get? b=some o->b<C) :
  EnvX (ownY scope) (compEnvC scope (cellsFrom (C+1) scope.names (zfg env scope.names [])) C env) (XC (compEnvC scope (cellsFrom (C+1) scope.names (zfg env scope.names [])) C env)) where
 loc:=zae
 cell x ha _:=by
  have hm:=mem_of_lookup (beq_iff_eq.mp ha)
  obtain⟨ca,hca⟩:=zb7.mp (zk5 (k:=C+1) (acc:=zfg env scope.names []) (x:=x) (.inl hm))
  have old:∀{y cb},(zfg env scope.names []).lookup y=some cb->cb<C:=fun{y cb} q=>by
   rcases zd4 q with q |⟨h1,q⟩
   ·cases q
   ·obtain⟨hk,i,hi⟩:=K.free y h1
    obtain⟨ca',h6⟩:=(zjw F hk hi).addr
    rw[h6] at q;obtain rfl:cb=ca':=q
    obtain⟨_,_,o,ho,_⟩:=F.cells y cb h6
    exact hlt cb o ho
  have hnf:(x,NameKind.free)∉scope.names:=fun q=>K.nocell x q hm
  have hgt:C<ca:=by
   rcases zid (h:=h) (by rw[hz];exact hca) with q |⟨q1,_,_⟩
   ·rcases zd4 q with q |⟨h1,_⟩
    ·cases q
    ·exact absurd h1 hnf
   ·rw[hz] at q1;exact q1
  refine⟨ca,hca,hgt,XC_mem (env:=compEnvC scope (cellsFrom (C+1) scope.names (zfg env scope.names [])) C env) hca hgt,fun y hy=>?_⟩
  rcases zid (h:=h) (by rw[hz];exact hy) with q |⟨_,_,q3⟩
  ·exact absurd (old q) (Nat.not_lt.mpr (zav hgt))
  ·exact K.cell x y hm q3
 only b hb:=(zvu hb).imp id fun h=>h.1
end
end Bn
namespace Bn
open PySem PyProof.Rows
section
variable {c:Cx}{env:Env}{res:Res}
inductive AccAt(c:Cx)(φ:List Addr)(h:Heap)(D:Addr)(av:List V):Prop
 |mk (vs:Array Value)(n:Nat)(ho:h.get? D=some (lobj vs n))(hr:RepL c φ h av vs.toList)(hD:D∉φ):AccAt c φ h D av
structure Turn(c:Cx)(cenv:Env)(res0:Res)(loc:Loc)(φ₀:List Addr)(s₀:Shared)(D:Addr)(wr:List Addr)(St:Nat->List Addr->Heap->Prop)(i:Nat)(av:List V)(φ:List Addr)(H:Hp)(s:Shared):Prop where
 ext:Ext [] φ₀ s₀ φ s
 sim:Sim c φ H s
 fr:FSim c cenv res0 none loc φ s.heap
 st:St i φ s.heap
 acc:AccAt c φ s.heap D av
theorem AccAt.keep{φ φ':List Addr}{h h':Heap}{D:Addr}{av:List V}{X:List Addr}(T:AccAt c φ h D av)(e:Kp X φ h φ' h')(hX:OwnX c X h)(hD:D∉X):AccAt c φ' h' D av:=by
 obtain⟨vs,n,h1,h2,h3⟩:=T
 exact⟨vs,n,e.keep D _ h1 h3 hD rfl,RepL.mono e hX h2,e.notin h1 h3⟩
theorem AccAt.out{φ:List Addr}{h:Heap}{D:Addr}{av:List V}{wr:List Addr}(T:AccAt c φ h D av)(its:Its c wr φ h):D∉wr:=fun hm=>by
 obtain⟨_,_,o,h1,h2,_⟩:=its D hm
 obtain⟨vs,n,h3,_,_⟩:=T
 obtain rfl:=zaa (h3.symm.trans h1)
 exact absurd h2 (by show itc (Value.type "list")≠true;decide)
theorem Off.of{c:Cx}{env:Env}{res:Res}{k:Clo}{loc:Loc}{φ X:List Addr}{s:Shared}(F:FSim c env res k loc φ s.heap)(h:∀b∈X,∀o,s.heap.get? b=some o->o.cls≠.type "frame"/\o.cls≠.type "dict"/\o.cls≠.type "cell"):Off env X s where
 loc hm:=by
  obtain⟨m,⟨_,o,h3,h4⟩,_,_⟩:=F.ns
  obtain⟨g1,g2,g3⟩:=h _ hm o h3
  rcases h4 with h4 |h4
  ·exact g1 h4.1
  ·exact g2 h4.1
 cells x ca hx hm:=by
  obtain⟨_,_,o,h3,h4⟩:=F.cells x ca hx
  exact(h _ hm o h3).2.2 h4
 clo ca o ho hc _ hm:=(h _ hm o ho).2.2 hc
theorem Off.its{c:Cx}{env:Env}{res:Res}{k:Clo}{loc:Loc}{φ wr:List Addr}{s:Shared}(F:FSim c env res k loc φ s.heap)(h:Its c wr φ s.heap):Off env wr s:=Off.of F fun b hb o ho=>by
 obtain⟨_,_,o',h1,h2,_⟩:=h b hb
 obtain rfl:=zaa (ho.symm.trans h1)
 exact⟨zkq h2 rfl,zkq h2 rfl,zkq h2 rfl⟩
theorem FSim.kept{c:Cx}{env:Env}{res:Res}{k:Clo}{loc:Loc}{φ wr:List Addr}{s s':Shared}(F:FSim c env res k loc φ s.heap)(h:Its c wr φ s.heap)(hk:Kept wr s s'):FSim c env res k loc φ s'.heap:=
 F.off (hk.kp h) h.own (Off.its F h) fun o ho=>⟨o.slots,hk.1 _ o (Off.its F h).loc ho⟩
theorem grow{c:Cx}{φ:List Addr}{H:Hp}{s:Shared}{D:Addr}{vs:Array Value}{n:Nat}{h':Heap}(S:Sim c φ H s)(ho:s.heap.get? D=some (lobj vs n))(hD:D∉φ)(h0:c.h0.get? D=none)(hs:Heap.SameBut D s.heap h') :
  Kp [D] φ s.heap φ h'/\OwnX c [D] s.heap/\Sim c φ H { s with heap:=h' }:=by
 have keep:∀b o,b≠D->s.heap.get? b=some o->h'.get? b=some o:=fun b o hb ho=>(hs.2 b hb).trans ho
 have kp:=zlv (φ:=φ) keep (fun o es n h hd=>by obtain rfl:=zaa (ho.symm.trans h);cases hd) (fun o vs h hd=>by obtain rfl:=zaa (ho.symm.trans h);cases hd)
 have ow:OwnX c [D] s.heap:=fun b hb o ho'=>by
  rw[zah.mp hb] at ho' ⊢
  obtain rfl:=zaa (ho.symm.trans ho')
  exact .inr (.inl ⟨rfl,h0⟩)
 exact⟨kp,ow,S.mono (s':={ s with heap:=h' }) kp ow (fun b hb=>by rw[zah.mp hb];exact h0) (fun a ha o ho=>keep a o (fun q=>hD (q▸ha)) ho) (fun b o hb _=>keep b o (fun q=>by rw[q,h0] at hb;cases hb) (S.stays b o hb)) S.gens fun b ps hb=>keep b _ (fun q=>by rw[q,ho] at hb;cases hb) hb⟩
theorem Off.list{c:Cx}{env:Env}{res:Res}{k:Clo}{loc:Loc}{φ:List Addr}{s:Shared}{D:Addr}{vs:Array Value}{n:Nat}(F:FSim c env res k loc φ s.heap)(ho:s.heap.get? D=some (lobj vs n)):Off env [D] s:=Off.of F fun b hb o ho'=>by
 rw[zah.mp hb] at ho'
 obtain rfl:=zaa (ho.symm.trans ho')
 exact⟨show Value.type "list"≠_ by decide,show Value.type "list"≠_ by decide,show Value.type "list"≠_ by decide⟩
abbrev compStep (c:Cx) (d:Nat) (t:Tg) (xifs:List Ex) (xelt:Ex) (loc:Loc):V->List V->(List V->Hp->Prop)->Hp->Prop:=
 zkf (fun l' Q H=>wpI (Calls c) true d none xifs l' Q H) (fun l' Q H=>wpE (Calls c) true d none xelt l' Q noX H) t loc
structure CompL(c:Cx)(A:Around)(d:Nat)(φ₀:List Addr)(s₀:Shared)(env:Env)(res res0 res':Res)(scope:Scope)(tgt:Expr)(t:Tg)(cenv:Env)(D:Addr)(it:Value)(wr:List Addr)(items:List V)(ok:Hp->Prop)(St:Nat->List Addr->Heap->Prop):Prop where
 hA:OkF c A true d φ₀ s₀.heap
 K:CompOk c env res res0 res' scope tgt t
 hcs:cenv.scope=relabel scope env
 I:Itr c A it tgt wr items ok St
 EX:EnvX (ownY scope) cenv (XC cenv)
 hX0:∀b∈XC cenv,s₀.heap.get? b=none
 hD0:s₀.heap.get? D=none
 hw0:∀b∈wr,s₀.heap.get? b=none
 hDX:D∉XC cenv
 hDh:c.h0.get? D=none
inductive CompI(c:Cx)(cenv:Env)(res0:Res)(loc:Loc)(φ₀:List Addr)(s₀:Shared)(D:Addr)(wr:List Addr)(St:Nat->List Addr->Heap->Prop)(items:List V)(ok:Hp->Prop)(f:V->List V->(List V->Hp->Prop)->Hp->Prop)(QQ:List V->Hp->Prop)(k:Nat)(s:Shared):Prop
 |mk (i:Nat)(av:List V)(φ:List Addr)(H:Hp)(hk:k=items.length-i+1)(hi:i<=items.length)(hav:av.length<=i)(T:Turn c cenv res0 loc φ₀ s₀ D wr St i av φ H s)(hok:ok H)(hw:zey ok f (items.drop i) av QQ H):CompI c cenv res0 loc φ₀ s₀ D wr St items ok f QQ k s
section
variable {A:Around}{d:Nat}{φ₀ φ:List Addr}{s₀ s:Shared}{res0 res':Res}{scope:Scope}{tgt elt:Expr}{ifs:List Expr}{t:Tg}{xelt:Ex}{xifs:List Ex}{cenv:Env}{D:Addr}{it:Value}{wr:List Addr}{items:List V}{ok:Hp->Prop}
 {St:Nat->List Addr->Heap->Prop} {loc l':Loc} {QQ:List V->Hp->Prop} {H:Hp} {i:Nat} {av:List V} {x:V}
theorem zv0(L:CompL c A d φ₀ s₀ env res res0 res' scope tgt t cenv D it wr items ok St)(T:Turn c cenv res0 loc φ₀ s₀ D wr St i av φ H s)(hx:items[i]?=some x)(hok:ok H)(hb:zgq t x loc=some l'){Q:Shared->Prop}
  (h:∀s₃,FSim c cenv res' none l' φ s₃.heap->Turn c cenv res0 loc φ₀ s₀ D wr St (i+1) av φ H s₃->Q s₃) :
  wpAny (model c.prog c.w) A (pyNext it) (fun r s₁=>match r with
   |none=>False
   |some v=>wpAny (model c.prog c.w) A (letOwnedTupleGo tgt it v) (fun _ s₁'=>wpAny (model c.prog c.w) A (assign tgt cenv v) (fun _ s₂=>Q s₂) (fun _ _=>False) s₁') (fun _ _=>False) s₁) (fun _ _=>False) s:=by
 have its:=L.I.seen i φ s.heap T.st
 have hEX:=L.EX
 refine wpAny_mono (L.I.item i x φ H s _ hx T.st T.sim hok) ?_ fun _ _ h=>h
 rintro r s₁ ⟨v,rfl,h₁⟩
 refine wpAny_mono h₁ ?_ fun _ _ h=>h
 rintro _ s₂ ⟨k₂,st₂,R₂⟩
 have F₂:=T.fr.kept its k₂
 refine wpAny_mono (zq8 (L.hA.hd rfl) hEX (L.K.tgt cenv L.hcs) hb F₂ (T.sim.kept k₂ its) R₂) ?_ fun _ _ h=>h
 rintro _ s₃ ⟨F₃,S₃,e₃,k₃⟩
 have ow₃:=F₂.ownX hEX
 have hwC:∀b∈wr,b∉XC cenv:=fun b hb hm=>by
  have off:=Off.its F₂ (L.I.seen _ _ _ st₂)
  rcases hEX.only b hm with rfl |⟨y,hy⟩
  ·exact off.loc hb
  ·exact off.cells y b hy hb
 exact h s₃ F₃ ⟨(T.ext.kept k₂ L.hw0).kept k₃ L.hX0,S₃,F₃.sub (by rw[L.K.n0,<-L.K.n'.1,<-(zn2 hb).1];exact F₃.len) (L.K.fr0.trans L.K.n'.2.symm) fun y j hy=>⟨(L.K.sub0 y j hy).dn,((zn2 hb).2 (L.K.sub0 y j hy).out).symm⟩,
  L.I.frame _ _ _ _ _ _ st₂ e₃.toKp ow₃ hwC,(T.acc.keep (k₂.kp its) its.own (T.acc.out its)).keep e₃.toKp ow₃ L.hDX⟩
theorem Turn.mono{φ':List Addr}{H':Hp}{s':Shared}(L:CompL c A d φ₀ s₀ env res res0 res' scope tgt t cenv D it wr items ok St)(T:Turn c cenv res0 loc φ₀ s₀ D wr St i av φ H s)(e:Ext [] φ s φ' s')(S:Sim c φ' H' s'):Turn c cenv res0 loc φ₀ s₀ D wr St i av φ' H' s':=
 ⟨T.ext.trans e,S,T.fr.mono e,L.I.frame _ _ _ _ _ _ T.st e.toKp OwnX.nil (fun _ _ h=>nomatch h),T.acc.keep e.toKp OwnX.nil (fun h=>nomatch h)⟩
theorem zwh(L:CompL c A d φ₀ s₀ env res res0 res' scope tgt t cenv D it wr items ok St)(T:Turn c cenv res0 loc φ₀ s₀ D wr St i av φ H s){v:V}{r:Value}(R:Rep c φ s.heap v r)(hsz:av.length<sizeLine){Q:Shared->Prop}{E:Value->Shared->Prop}
  (h:∀s',Turn c cenv res0 loc φ₀ s₀ D wr St i (av++[v]) φ H s'->Q s'):wpAny (model c.prog c.w) A (call (.builtin "list.append") [.ref D,r]) (fun _ s'=>Q s') E s:=by
 have hDw:=T.acc.out (L.I.seen _ _ _ T.st)
 obtain⟨vs,n,ho,hr,hD⟩:=T.acc
 refine wpAny_list_append_plain (l:=D) (items:=vs) ⟨n,ho⟩ (fun h' hp hs=>?_) (by rw[<- zbe,hr.length];exact zav hsz)
 obtain⟨kp,ow,S'⟩:=grow T.sim ho hD L.hDh hs
 obtain⟨n',ho'⟩:=hp
 refine h _ ⟨?_,S',T.fr.off (s':={ s with heap:=h' }) kp ow (Off.list T.fr ho) fun o ho1=>⟨o.slots,(hs.2 _ (fun q=>(Off.list T.fr ho).loc (by rw[q];exact zae))).trans ho1⟩,
  L.I.frame _ _ _ _ _ _ T.st kp ow fun b hb hm=>hDw (zah.mp hm▸hb),⟨_,n',ho',?_,hD⟩⟩
 ·exact T.ext.kept (wr:=[D]) ⟨fun b o hb ho=>(hs.2 b fun q=>hb (by rw[q];exact zae)).trans ho,rfl,rfl⟩ fun b hb=>by rw[zah.mp hb];exact L.hD0
 ·rw[Array.toList_push]
  exact RepL.append (RepL.mono kp ow hr) (show RepL c φ h' [v] [r] from⟨Rep.mono kp ow R,rfl⟩)
theorem zwl{iter:Expr}{R:Result->Shared->Prop}{pos:Pos}(L:CompL c A d φ₀ s₀ env res res0 res' scope tgt t cenv D it wr items ok St)(helt:zch c cenv res' elt xelt)(hifs:zeq c cenv res' ifs xifs)(hlen:items.length<=sizeLine)
  (T:Turn c cenv res0 loc φ₀ s₀ D wr St 0 [] φ H s) (hok:ok H) (hw:zey ok (compStep c d t xifs xelt loc) items [] QQ H)
  (hR:∀av φ' H' s',Ext [] φ₀ s₀ φ' s'->Sim c φ' H' s'->FSim c cenv res0 none loc φ' s'.heap->AccAt c φ' s'.heap D av->av.length<=sizeLine->QQ av H'->R (.ok .next) s') :
  codeAny (model c.prog c.w) A (.compLoop (.ListComp elt [⟨tgt,iter,ifs,0⟩] scope pos) 0 it (.ref D) cenv) R s:=by
 refine znu (CompI c cenv res0 loc φ₀ s₀ D wr St items ok (compStep c d t xifs xelt loc) QQ) ?_ (items.length+1) ⟨0,[],φ,H,rfl,za2 _,zaf _,T,hok,hw⟩
 rintro k s ⟨i,av,φ,H,rfl,hi,hav,T,hok,hw⟩
 by_cases hlt:i<items.length
 ·have hx:items[i]?=some items[i]:=zam hlt
  rw[zb8 hlt] at hw
  generalize items[i]=x at hx hw
  obtain⟨l',hb,hw⟩:=Opt.inv (show Opt (zgq t x loc) _ from hw)
  have hm:items.length-(i+1)+1<items.length-i+1:=by exact Ar.ar1 [_,_] [] 0xd03214a528003081201840a00c2018061004030142100465294001840700c2018061004050840128c2008401 (Y1 (Y0 (Y2 V0 (Y0 V1 J1)) J1) (Y0 (Y2 V0 V1) J1)) (Y1 V1 V0) hlt
  refine wpAny_mono (zv0 L T hx hok hb (Q:=fun s₂=>wpAny (model c.prog c.w) A (forIn ifs true fun c r=>if r=true then do let ok<-isTrue c cenv (eval c cenv);pure (ForInStep.yield ok) else pure (ForInStep.yield r)) (fun ok' s₃=>
      if ok'=true then wpAny (model c.prog c.w) A (eval elt cenv) (fun x s₄=>
       wpAny (model c.prog c.w) A (call (.builtin "list.append") [.ref D,x]) (fun _ s₅=>∃m,m<items.length-i+1/\CompI c cenv res0 loc φ₀ s₀ D wr St items ok (compStep c d t xifs xelt loc) QQ m s₅) (fun _ _=>False) s₄) (fun _ _=>False) s₃
      else ∃m,m<items.length-i+1/\CompI c cenv res0 loc φ₀ s₀ D wr St items ok (compStep c d t xifs xelt loc) QQ m s₃) (fun _ _=>False) s₂) fun s₃ F₃ T₃=>?_) (fun r _ h=>by cases r with |none=>exact h.elim |some v=>exact h) fun _ _ h=>h
  refine wpAny_mono (zrb hifs A true d none l' φ H s₃ _ _ (L.hA.mono T₃.ext) F₃ T₃.sim hw) ?_ fun _ _ h=>h
  rintro b s₄ ⟨φ₄,H₄,e₄,S₄,w₄⟩
  have T₄:=T₃.mono L e₄ S₄
  cases b with
  |false=>exact⟨_,hm,⟨i+1,av,φ₄,H₄,rfl,hlt,zbk hav,T₄,w₄.1,w₄.2⟩⟩
  |true=>
   refine wpAny_mono (helt A true d none l' φ₄ H₄ s₄ _ _ (L.hA.mono T₄.ext) (F₃.mono e₄) S₄ w₄) ?_ fun _ _ h=>OutX.no h
   rintro r s₅ ⟨φ₅,H₅,v₅,e₅,S₅,R₅,w₅⟩
   exact zwh L (T₄.mono L e₅ S₅) R₅ (zaw hav (zay hlt hlen)) fun s' T'=>⟨_,hm,⟨i+1,av++[v₅],φ₅,H₅,rfl,hlt,by rw[zao];exact zb3 hav,T',w₅.1,w₅.2⟩⟩
 ·obtain rfl:i=items.length:=Nat.le_antisymm hi (zba hlt)
  rw[List.drop_length] at hw
  have its:=L.I.seen _ φ s.heap T.st
  refine wpAny_mono (L.I.done φ H s _ T.st T.sim hok) ?_ fun _ _ h=>h
  rintro r s₁ ⟨rfl,k₁⟩
  exact hR av φ H s₁ (T.ext.kept k₁ L.hw0) (T.sim.kept k₁ its) (T.fr.kept its k₁) (T.acc.keep (k₁.kp its) its.own (T.acc.out its)) (zab hav hlen) hw
end
end
end Bn
namespace Bn
open PySem PyProof.Rows
section
variable {c:Cx}{env:Env}{res:Res}
structure Gone(c:Cx)(φ:List Addr)(H:Hp)(s:Shared)(C:Addr)(h':Heap):Prop where
 kp:Kp [C] φ s.heap φ h'
 ow:OwnX c [C] s.heap
 sim:Sim c φ H { s with heap:=h' }
 kept:Kept [C] s { s with heap:=h' }
theorem gone{φ:List Addr}{H:Hp}{s:Shared}{C:Addr}{m m':Str->Option Value}{h':Heap}(S:Sim c φ H s)(hn:NsD s.heap C m)(hat:m (Str.ofString "at")=none)(hφ:C∉φ)(h0:c.h0.get? C=none)(hn':NsD h' C m')(hs:Heap.SameBut C s.heap h'):Gone c φ H s C h':=by
 obtain⟨⟨o,es,n,ho,hd,_,hm⟩,o1,ho1,hc1⟩:=hn
 obtain rfl:=zaa (ho.symm.trans ho1)
 obtain⟨⟨o',es',n',ho',hd',_⟩,o1',ho1',hc1'⟩:=hn'
 obtain rfl:=zaa (ho'.symm.trans ho1')
 have keep:∀b o,b≠C->s.heap.get? b=some o->h'.get? b=some o:=fun b o hb ho=>(hs.2 b hb).trans ho
 have kp:=zlv (φ:=φ) keep (fun ob es1 k hb _=>by obtain rfl:=zaa (ho.symm.trans hb);exact⟨o',es',n',ho',hd',hc1'.trans hc1.symm⟩) (fun ob vs hb hd1=>by obtain rfl:=zaa (ho.symm.trans hb);rw[hd] at hd1;cases hd1)
 have ow:OwnX c [C] s.heap:=fun b hb ob hob=>by
  rw[zah.mp hb] at hob ⊢
  obtain rfl:=zaa (ho.symm.trans hob)
  exact .inr (.inr (.inl ⟨hc1,es,n,hd,(hm _).trans hat⟩))
 exact⟨kp,ow,S.mono (s':={ s with heap:=h' }) kp ow (fun b hb=>by rw[zah.mp hb];exact h0) (fun a ha o ho=>keep a o (fun q=>hφ (q▸ha)) ho) (fun b o hb _=>keep b o (fun q=>by rw[q,h0] at hb;cases hb) (S.stays b o hb)) S.gens fun b ps hb=>keep b _ (fun q=>by rw[q,ho] at hb;cases hb;cases hd) hb,
  fun b o hb ho=>keep b o (fun q=>hb (by rw[q];exact zae)) ho,rfl,rfl⟩
inductive Made(c:Cx)(φ:List Addr)(s:Shared)(Q:V->Hp->Prop)(D C:Addr)(s':Shared):Prop
 |mk (φ':List Addr)(H':Hp)(a:Nat)(e:Ext [] φ s φ' s')(S:Sim c φ' H' s')(R:Rep c φ' s'.heap (.lst a) (.ref D))(q:Q (.lst a) H')(hC:C∉φ')(m:Str->Option Value)(hm:NsD s'.heap C m)(hat:m (Str.ofString "at")=none)(C0:s.heap.get? C=none)(Ch:c.h0.get? C=none):Made c φ s Q D C s'
theorem zq7{res0 res':Res}{scope:Scope}{tgt iter elt:Expr}{ifs:List Expr}{t:Tg}{xelt xsrc:Ex}{xifs:List Ex}{pos pos':Pos}(K:CompOk c env res res0 res' scope tgt t)(hfold:∀x,foldedSetIterable iter env x=pure x)(hsrc:zch c env res iter xsrc)
  (helt:∀cenv:Env,cenv.scope=relabel scope env->zch c cenv res' elt xelt) (hifs:∀cenv:Env,cenv.scope=relabel scope env->zeq c cenv res' ifs xifs)
  {A q d k loc φ H s Q} {E:XPost} {use:Option (Value->Sem Unit)} {Q':Value->Shared->Prop} (hA:OkF c A q d φ s.heap) (hF:FSim c env res k loc φ s.heap) (hS:Sim c φ H s) (hw:wpE (Calls c) q d k (.comp xelt t xsrc xifs) loc Q E H)
  (hend:∀D C s',Made c φ s Q D C s'->endD (model c.prog c.w) A (OutX c φ s E) use Q' (.ref D) C (.ok .next) s') :
  wpAny (model c.prog c.w) A (comprehension (.ListComp elt [⟨tgt,iter,ifs,0⟩] scope pos) scope env pos' (newList []) false (eval iter env) use) Q' (OutX c φ s E) s:=by
 have hcells:∀n,(n,NameKind.free)∈scope.names->∃ca,env.cells.lookup n=some ca:=fun n hn=>by
  obtain⟨hk,i,hi⟩:=K.free n hn
  exact(zjw hF hk hi).addr
 refine zli rfl hfold (zm0 hcells) K.kind K.names (wpAny_mono (hsrc A q d k loc φ H s _ E hA hF hS hw) ?_ fun _ _ h=>h)
 rintro sv s₁ ⟨φ₁,H₁,v₁,e₁,S₁,R₁,w₁⟩
 obtain⟨items,hit,hlen,w₂⟩:=Opt.inv w₁
 clear w₁
 obtain⟨rfl,hitems⟩:=zuo hit
 have hh:A.handled=none:=hA.hd rfl
 refine wpAny_mono (zqv hh S₁ R₁ hitems (tg:=tgt)) ?_ fun _ _ h=>h
 rintro it s₂ ⟨wr,St,e₂,S₂,I,st₂,hw₂⟩
 have e₁₂:=e₁.trans e₂
 refine wpAny_newObj_type ?_ (by size_fits)
 refine ztg ?_
 dsimp only
 generalize hs₃:({ s₂ with heap:=s₂.heap.push { cls:=.type "list",dict:=none,data:=.seq ([]:List Value).toArray } }:Shared)=s₃
 have hh₃:s₃.heap=s₂.heap.push { cls:=.type "list",dict:=none,data:=.seq ([]:List Value).toArray }:=by rw[<- hs₃]
 have keep₄:∀b o,s₃.heap.get? b=some o->(pushCells (s₃.heap.push { cls:=.type "dict",data:=.dict #[] }) scope.names).get? b=some o:=fun b o hb=>pushCells_keeps _ _ _ _ (Heap.get?_push_of_some _ hb)
 have hz₅:(s₃.heap.push { cls:=.type "dict",data:=.dict #[] }).objs.size=s₃.heap.objs.size+1:=Heap.size_push ..
 generalize hs₄:({ s₃ with heap:=pushCells (s₃.heap.push { cls:=.type "dict",data:=.dict #[] }) scope.names }:Shared)=s₄
 have hz₃:s₃.heap.objs.size=s₂.heap.objs.size+1:=by rw[hh₃,Heap.size_push]
 have e₃:Ext [] φ₁ s₂ φ₁ s₃:=by rw[<- hs₃];exact Ext.push
 have S₃:Sim c φ₁ H₁ s₃:=by rw[<- hs₃];exact S₂.push _
 have e₄:Ext [] φ₁ s₃ φ₁ s₄:=by rw[<- hs₄];exact Ext.of_keeps keep₄ rfl
 have S₄:Sim c φ₁ H₁ s₄:=by rw[<- hs₄];exact S₃.keeps (s':={ s₃ with heap:=_ }) keep₄ rfl
 have hD₃:s₃.heap.get? s₂.heap.objs.size=some (lobj #[] 0):=by rw[hh₃];exact Heap.get?_push_size _ rfl
 have hD₄:s₄.heap.get? s₂.heap.objs.size=some (lobj #[] 0):=by rw[<- hs₄];exact keep₄ _ _ hD₃
 have hC₅:(s₃.heap.push { cls:=.type "dict",data:=.dict #[] }).get? s₃.heap.objs.size=some { cls:=.type "dict",data:=.dict #[] }:=Heap.get?_push_size _ rfl
 have e₀₄:Ext [] φ s φ₁ s₄:=(e₁₂.trans e₃).trans e₄
 have hD0:s.heap.get? s₂.heap.objs.size=none:=e₁₂.fresh S₂ (Heap.get?_none_of_le (zaf _))
 have hC0:s.heap.get? s₃.heap.objs.size=none:=(e₁₂.trans e₃).fresh S₃ (Heap.get?_none_of_le (zaf _))
 have hw0:∀b∈wr,s.heap.get? b=none:=fun b hb=>e₁.fresh S₁ (hw₂ b hb)
 have hDC:s₂.heap.objs.size≠s₃.heap.objs.size:=by rw[hz₃];exact za3 (Nat.lt_succ_self _)
 have hDh:=S₂.h0_new (zaf s₂.heap.objs.size)
 have hCh:=S₃.h0_new (zaf s₃.heap.objs.size)
 have hDφ:s₂.heap.objs.size∉φ₁:=S₂.new
 have hCφ:s₃.heap.objs.size∉φ₁:=S₃.new
 have hnew:∀b,s₃.heap.objs.size<=b->b∉φ₁/\c.h0.get? b=none:=fun b hb=>⟨fun hm=>Nat.not_lt.mpr hb (S₃.lt hm),S₃.h0_new hb⟩
 have F₃:=hF.mono e₀₄
 rw[<- hs₄] at F₃
 have F₄:=ztd K hz₅ F₃ hC₅ hnew
 have EX:=comp_env K hz₅ (hF.mono (e₁₂.trans e₃)) (fun b o hb=>Heap.lt_size hb)
 have hX0:∀b∈XC (compEnvC scope (cellsFrom (s₃.heap.objs.size+1) scope.names (zfg env scope.names [])) s₃.heap.objs.size env),s.heap.get? b=none:=fun b hb=>
  (e₁₂.trans e₃).fresh S₃ (Heap.get?_none_of_le ((zvu hb).elim (fun h=>zbc h.symm) fun h=>zav h.2))
 have hDX:s₂.heap.objs.size∉XC (compEnvC scope (cellsFrom (s₃.heap.objs.size+1) scope.names (zfg env scope.names [])) s₃.heap.objs.size env):=fun h=>by
  have hlt:s₂.heap.objs.size<s₃.heap.objs.size:=by rw[hz₃];exact Nat.lt_succ_self _
  exact(zvu h).elim (fun h=>za3 hlt h) fun h=>Nat.lt_asymm hlt h.2
 have st₄:=I.frame _ _ _ _ _ _ (I.frame _ _ _ _ _ _ st₂ e₃.toKp OwnX.nil fun _ _ h=>nomatch h) e₄.toKp OwnX.nil fun _ _ h=>nomatch h
 have hok:okV v₁ items H₁:=by
  cases v₁ with
  |lst a=>exact hitems
  |_=>trivial
 have loop:codeAny (model c.prog c.w) A (.compLoop (.ListComp elt [⟨tgt,iter,ifs,0⟩] scope pos) 0 it (.ref s₂.heap.objs.size) (compEnvC scope (cellsFrom (s₃.heap.objs.size+1) scope.names (zfg env scope.names [])) s₃.heap.objs.size env))
   (endD (model c.prog c.w) A (OutX c φ s E) use Q' (.ref s₂.heap.objs.size) s₃.heap.objs.size) s₄:=by
  refine zwl (c:=c) (env:=env) (res:=res) (loc:=loc) (QQ:=fun acc H'=>Q (.lst H'.length) (H'++[acc])) ⟨hA,K,rfl,I,EX,hX0,hD0,hw0,hDX,hDh⟩ (helt _ rfl) (hifs _ rfl) hlen
   ⟨e₀₄,S₄,hs₄▸F₄,st₄,⟨#[],0,hD₄,rL,hDφ⟩⟩ hok w₂ ?_
  intro av φ' H' s' e' S' F' hacc hav hq
  obtain⟨vs,n,ho,hr,hD'⟩:=hacc
  obtain⟨m,⟨hn,o,h1,h2⟩,_,_⟩:=F'.ns
  have h2':o.cls=.type "dict"/\m (Str.ofString "at")=none:=by
   rcases h2 with h2 |h2
   ·rw[K.fr0] at h2;cases h2.2
   ·exact⟨h2.1,h2.2.1⟩
  refine hend _ _ s' ⟨φ'++[s₂.heap.objs.size],H'++[av],H'.length,?_,S'.adopt hD' hDh ho rfl rfl ⟨rfl,rfl⟩ hr hav,LstAt.mk _ rfl (by rw[zbv (zbc S'.len)];simp[S'.len]),hq,fun hm=>?_,m,⟨hn,o,h1,h2'.1⟩,h2'.2,hC0,hCh⟩
  ·exact{ e' with
    pre:=e'.pre.trans (List.prefix_append _ _)
    new:=fun a ha=>(zau.mp ha).elim (e'.new a) fun h=>.inr (by rw[zah.mp h];exact hD0) }
  ·rcases zau.mp hm with h |h
   ·exact F'.Lφ h
   ·exact hDC (zah.mp h).symm
 subst hs₄
 subst hs₃
 exact codeAny_compStart_list loop (I.self 0 φ₁ _ _ _ st₄ loop)
theorem zt0{res0 res':Res}{scope:Scope}{tgt iter elt:Expr}{ifs:List Expr}{t:Tg}{xelt xsrc:Ex}{xifs:List Ex}{pos:Pos}(K:CompOk c env res res0 res' scope tgt t)(hfold:∀x,foldedSetIterable iter env x=pure x)(hsrc:zch c env res iter xsrc)
  (helt:∀cenv:Env,cenv.scope=relabel scope env->zch c cenv res' elt xelt) (hifs:∀cenv:Env,cenv.scope=relabel scope env->zeq c cenv res' ifs xifs) :
  zch c env res (.ListComp elt [⟨tgt,iter,ifs,0⟩] scope pos) (.comp xelt t xsrc xifs):=fun A q d k loc φ H s Q E hA hF hS hw=>by
 rw[eval_ListComp]
 refine zq7 K hfold hsrc helt hifs hA hF hS hw ?_
 rintro D C s' ⟨φ',H',a,e,S,R,hq,hC,m,hm,hat,hC0,hCh⟩
 refine⟨m,hm,fun h' m' hn' hs'=>?_⟩
 have g:=gone S hm hat hC hCh hn' hs'
 exact⟨φ',H',.lst a,e.kept g.kept fun b hb=>by rw[zah.mp hb];exact hC0,g.sim,Rep.mono g.kp g.ow R,hq⟩
end
end Bn
namespace Bn
open PySem PyProof.Rows
inductive RetI(c:Cx)(φ:List Addr)(h:Heap)(r:Value)(P:V->Prop):Prop
 |mk (v:V)(R:Rep c φ h v r)(q:P v):RetI c φ h r P
noncomputable def FlowQ(c:Cx)(φ:List Addr)(h:Heap)(f:Flow)(P:Fl->Prop):Prop:=match f with
 |.next=>P .next
 |.ret r=>RetI c φ h r fun v=>P (.ret v)
 |_=>False
inductive OutS(c:Cx)(env:Env)(res:Res)(k:Clo)(φ:List Addr)(s:Shared)(X:List Addr)(Q:SPost)(f:Flow)(s':Shared):Prop
 |mk (φ':List Addr)(H':Hp)(loc':Loc)(e:Ext X φ s φ' s')(S:Sim c φ' H' s')(F:FSim c env res k loc' φ' s'.heap)(q:FlowQ c φ' s'.heap f fun f=>Q f loc' H'):OutS c env res k φ s X Q f s'
inductive OutSX(c:Cx)(env:Env)(res:Res)(k:Clo)(φ:List Addr)(s:Shared)(X:List Addr)(E:SX)(e:Value)(s':Shared):Prop
 |mk (φ':List Addr)(H':Hp)(loc':Loc)(x:V)(ex:Ext X φ s φ' s')(S:Sim c φ' H' s')(F:FSim c env res k loc' φ' s'.heap)(R:XRep c φ' s s'.heap x e)(q:E x loc' H'):OutSX c env res k φ s X E e s'
noncomputable def HeadF(A:Around)(env:Env):Prop:=∃outer,A.frames=some (env::outer)
noncomputable def ze5(c:Cx)(env:Env)(res:Res)(X:List Addr)(st:Stmt)(x:St):Prop:=
 ∀A q d k loc φ H s Q E,OkF c A q d φ s.heap->HeadF A env->FSim c env res k loc φ s.heap->Sim c φ H s->wpS (Calls c) q d k x Q E loc H->
  wpAny (model c.prog c.w) A (exec st env) (OutS c env res k φ s X Q) (OutSX c env res k φ s X E) s
noncomputable def ze7(c:Cx)(env:Env)(res:Res)(X:List Addr)(sts:List Stmt)(xs:List St):Prop:=
 ∀A q d k loc φ H s Q E,OkF c A q d φ s.heap->HeadF A env->FSim c env res k loc φ s.heap->Sim c φ H s->wpSs (Calls c) q d k xs Q E loc H->
  wpAny (model c.prog c.w) A (execs sts env) (OutS c env res k φ s X Q) (OutSX c env res k φ s X E) s
section
variable {c:Cx}{env:Env}{res:Res}{k:Clo}{loc:Loc}{φ φ₁:List Addr}{H:Hp}{s s₁ s₂:Shared}{X:List Addr}{Q:SPost}{E:SX}
theorem OutS.lift{f:Flow}(e:Ext X φ s φ₁ s₁)(h:OutS c env res k φ₁ s₁ X Q f s₂):OutS c env res k φ s X Q f s₂:=
 let⟨φ',H',l,e',S,F,q⟩:=h;⟨φ',H',l,e.trans e',S,F,q⟩
theorem OutSX.lift{x:Value}(e:Ext X φ s φ₁ s₁)(S₁:Sim c φ₁ H s₁)(h:OutSX c env res k φ₁ s₁ X E x s₂):OutSX c env res k φ s X E x s₂:=
 let⟨φ',H',l,v,e',S,F,R,hq⟩:=h;⟨φ',H',l,v,e.trans e',S,F,R.lift e S₁,hq⟩
theorem FSim.weak{al:Str->Bool}{φ':List Addr}{s':Shared}(F:FSim c env res k loc φ s.heap)(hX:EnvX al env X)(e:Ext [] φ s φ' s'):Ext X φ s φ' s':=
 e.weaken (fun _ h=>nomatch h) fun b hb=>(F.outX hX b hb).1
theorem OutX.toS{al:Str->Bool}{x:Value}(F:FSim c env res k loc φ s.heap)(hX:EnvX al env X)(h:OutX c φ s (fun x H=>E x loc H) x s₁):OutSX c env res k φ s X E x s₁:=
 let⟨φ',H',v,e',S,R,hq⟩:=h;⟨φ',H',loc,v,F.weak hX e',S,F.mono e',R,hq⟩
theorem OutSX.no{x:Value}{P:Prop}(h:OutSX c env res k φ s X (fun _ _ _=>False) x s₁):P:=let⟨_,_,_,_,_,_,_,_,h⟩:=h;h.elim
theorem OkF.monoX{A:Around}{q:Bool}{d:Nat}{φ':List Addr}{s':Shared}(h:OkF c A q d φ s.heap)(e:Ext X φ s φ' s'):OkF c A q d φ' s'.heap:=h.mono e
theorem zw5{A:Around}{q:Bool}{d:Nat}{x:Value}(_:OkF c A q d φ s.heap)(_:HeadF A env)(h:OutSX c env res k φ s X E x s₁):notedBy (model c.prog c.w) A env (fun e s'=>cameBackBy (model c.prog c.w) A env (OutSX c env res k φ s X E) e s') x s₁:=let⟨_,_,_,_,_,_,_,R,_⟩:=h;nomatch R
theorem zkc:ze7 c env res X [] []:=fun A q d k loc φ H s Q E hA hh hF hS hw=>by
 exact wpAny_execs_nil ⟨φ,H,loc,Ext.refl,hS,hF,hw⟩
theorem zg5 {st:Stmt} {x:St} {sts:List Stmt} {xs:List St} (h1:ze5 c env res X st x) (h2:ze7 c env res X sts xs):ze7 c env res X (st::sts) (x::xs):=fun A q d k loc φ H s Q E hA hh hF hS hw=>by
 refine wpAny_execs_cons (wpAny_mono (h1 A q d k loc φ H s _ E hA hh hF hS hw) ?_ fun _ _ h=>h)
 rintro f s₁ ⟨φ₁,H₁,l₁,e₁,S₁,F₁,w₁⟩
 cases f with
 |next=>exact wpAny_mono (h2 A q d k l₁ φ₁ H₁ s₁ Q E (hA.monoX e₁) hh F₁ S₁ w₁) (fun _ _ h=>h.lift e₁) fun _ _ h=>h.lift e₁ S₁
 |ret r=>exact⟨φ₁,H₁,l₁,e₁,S₁,F₁,w₁⟩
 |_=>exact w₁.elim
theorem zpa {e:Expr} {x:Ex} {pos:Pos} (hX:EnvX allY env X) (h:zch c env res e x):ze5 c env res X (.Return (some e) pos) (.ret x):=fun A q d k loc φ H s Q E hA hh hF hS hw=>by
 refine wpAny_Return_some (wpAny_mono (h A q d k loc φ H s _ _ hA hF hS hw) ?_ fun _ _ h=>OutX.toS hF hX h)
 rintro r s₁ ⟨φ₁,H₁,v,e₁,S₁,R₁,w₁⟩
 exact⟨φ₁,H₁,loc,hF.weak hX e₁,S₁,hF.mono e₁,⟨v,R₁,w₁⟩⟩
theorem zsj{e:Expr}{x:Ex}{pos:Pos}(hX:EnvX allY env X)(h:zch c env res e x)(hs:swapsWith e none pos.line env=pure false):ze5 c env res X (.Expr e pos) (.expr x):=fun A q d k loc φ H s Q E hA hh hF hS hw=>by
 refine wpAny_Expr_any (wpAny_mono (h A q d k loc φ H s _ _ hA hF hS hw) ?_ fun _ _ h=>OutX.toS hF hX h) (by simp[interactive,hF.fn]) hs
 rintro r s₁ ⟨φ₁,H₁,v,e₁,S₁,R₁,w₁⟩
 exact⟨φ₁,H₁,loc,hF.weak hX e₁,S₁,hF.mono e₁,w₁⟩
theorem zov{e:Expr}{x:Ex}{y:Str}{i:Nat}{py pos:Pos}(hX:EnvX allY env X)(h:zch c env res e x)(hs:swapsWith e (some (.Name y py)) pos.line env=pure false)(hy:StoreOk allY env res res y i) :
  ze5 c env res X (.Assign [.Name y py] e pos) (.set i x):=fun A q d k loc φ H s Q E hA hh hF hS hw=>by
 refine wpAny_Assign_Name (wpAny_mono (h A q d k loc φ H s _ _ hA hF hS hw) ?_ fun _ _ h=>OutX.toS hF hX h) hs
 rintro r s₁ ⟨φ₁,H₁,v,e₁,S₁,R₁,w₁⟩
 refine wpAny_mono (zgu (hF.mono e₁) S₁ hy hX R₁) ?_ fun _ _ h=>h
 rintro _ s₂ ⟨F₂,S₂,e₂,_⟩
 exact⟨φ₁,H₁,_,(hF.weak hX e₁).trans e₂,S₂,F₂,w₁⟩
theorem zuj{e:Expr}{x:Ex}{es:List Expr}{is:List Nat} {x1}{py pos:Pos}(hX:EnvX allY env X)(h:zch c env res e x)(hs:swapsWithSole [.Tuple es x1 py] e pos.line env=pure false)(hw':swappedStores [.Tuple es x1 py] e env=pure none)(hy:zf5 allY env res res es is) :
  ze5 c env res X (.Assign [.Tuple es x1 py] e pos) (.unp is x):=fun A q d k loc φ H s Q E hA hh hF hS hw=>by
 obtain⟨rfl,hw⟩:=hw
 refine PyProof.Rows.Assign_Tuple (wpAny_mono (h A true d k loc φ H s _ _ hA hF hS hw) ?_ fun _ _ h=>OutX.toS hF hX h) hs hw'
 rintro r s₁ ⟨φ₁,H₁,v,e₁,S₁,R₁,w₁⟩
 obtain⟨l',hu,w₂⟩:=Opt.inv w₁
 obtain⟨vs,hv,hb⟩:=zad.mp hu
 obtain rfl:=zgi hv
 refine wpAny_mono (zns (hA.hd rfl) hX hy hb (hF.mono e₁) S₁ R₁) ?_ fun _ _ h=>h
 rintro _ s₂ ⟨F₂,S₂,e₂,_⟩
 exact⟨φ₁,H₁,_,(hF.weak hX e₁).trans e₂,S₂,F₂,w₂⟩
theorem do_put{A:Around}{E:Value->Shared->Prop}{H':Hp}(S:Sim c φ H s){v w u:V}{x y r:Value}(R1:Rep c φ s.heap v x)(R2:Rep c φ s.heap w y)(R3:Rep c φ s.heap u r)(e:putV H v w u=some H') :
  wpAny (model c.prog c.w) A (setItem x y r) (fun _ s'=>Ext [] φ s φ s'/\Sim c φ H' s') E s:=by
 obtain⟨i,hi,f⟩:=zad.mp e
 clear e
 obtain rfl:=zgk hi
 obtain⟨k,hk',f2⟩:=zad.mp f
 obtain rfl:=zd8 hk'
 obtain⟨xs,e1,f3⟩:=zad.mp f2
 obtain⟨hk,rfl⟩:=iteS f3
 obtain⟨l,us,n,rfl,ha,ho,hr,hz,z⟩:=S.getP R1 e1
 obtain⟨t,rfl⟩:=R2
 have hl:=zdi ho
 have hsl:sizeLine=2^24:=rfl
 unfold setItem
 try with_reducible refine wpAny_holding ?_
 first |refine wpAny_bind (wpAny_pure ?_) |skip
 refine wpAny_bind (wpAny_sequenceKey hl.typeIs (by decide) ?_)
 refine wpAny_bind (wpAny_callSpecial?_slot (name:=Str.ofString "__setitem__") hl.typeIs slot_list_setitem
  (wpAny_call_entry slot_list_setitem hl.typeIs entry_list_setitem ?_ (args_list_setitem _ _ _)))
 show wpAny _ _ (Builtin.List.listSubscript? (.int k t) >>=_) _ _ s
 refine wpAny_bind (wpAny_listSubscript_int (fitsIndex_of hk.1 (by exact Ar.ar4 [_,_] [_,_] 0x294a528003080001840100c201006100c0408080 (Y4 V0 V1) (Y4 V0 (Y4 V0 J0)) (Y0 V0 V1) (Y2 V1 (.l 16777216)) (Y5 V1 (.l 9223372036854775808)) hk.2 hz hsl (Ar.p63))) ?_)
 obtain⟨h0,hlt⟩:=hk
 obtain⟨j,rfl⟩:=Int.eq_ofNat_of_zero_le h0
 have hj:j<us.size:=by rw[z];exact zaq.mp hlt
 have hx':us[j]?=some us[j]:=zcc hj
 show wpAny _ _ ((seqItemAt l j >>=fun r=>pure (r.map (j,·))) >>=_) _ _ s
 refine wpAny_bind (wpAny_bind (wpAny_seqItemAt ho rfl (wpAny_pure ?_)))
 rw[hx']
 show wpAny _ _ (setSeqItemAt l j r >>=_) _ _ s
 have hfin:Ext [] φ s φ { s with heap:=s.heap.update l (Obj.mapSeq (·.setIfInBounds j r)) }/\Sim c φ (H.set i (xs.set j u)) { s with heap:=s.heap.update l (Obj.mapSeq (·.setIfInBounds j r)) }:=
  S.put (h':=s.heap.update l (Obj.mapSeq (·.setIfInBounds j r))) ha (Heap.SameBut.update ..) (IsL.update (n:=n) ho _) (by rw[Array.toList_setIfInBounds];exact hr.set j R3) (by rw[zbm];exact hz)
 refine wpAny_bind (wpAny_setSeqItemAt ho rfl ?_)
 first
  |exact wpAny_bind (wpAny_pure (wpAny_pure ⟨.none,rfl,wpAny_pure hfin⟩))
  |exact wpAny_pure ⟨.none,rfl,wpAny_pure hfin⟩
theorem zv8{o i e:Expr}{xo xi xe:Ex}{py pos:Pos}(hX:EnvX allY env X)(h1:zch c env res o xo)(h2:zch c env res i xi)(h3:zch c env res e xe)(hs:swapsWith e (some (.Subscript o i py)) pos.line env=pure false) :
  ze5 c env res X (.Assign [.Subscript o i py] e pos) (.put xo xi xe):=fun A q d k loc φ H s Q E hA hh hF hS hw=>by
 refine wpAny_Assign_Subscript (wpAny_mono (h3 A q d k loc φ H s _ _ hA hF hS hw) ?_ fun _ _ h=>OutX.toS hF hX h) hs
 rintro r s₁ ⟨φ₁,H₁,v₁,e₁,S₁,R₁,w₁⟩
 refine wpAny_mono (h1 A q d k loc φ₁ H₁ s₁ _ _ (hA.mono e₁) (hF.mono e₁) S₁ w₁) ?_ fun _ _ h=>OutX.toS hF hX (h.lift e₁ S₁)
 rintro ro s₂ ⟨φ₂,H₂,v₂,e₂,S₂,R₂,w₂⟩
 have e12:=e₁.trans e₂
 refine wpAny_mono (h2 A q d k loc φ₂ H₂ s₂ _ _ (hA.mono e12) (hF.mono e12) S₂ w₂) ?_ fun _ _ h=>OutX.toS hF hX (h.lift e12 S₂)
 rintro ri s₃ ⟨φ₃,H₃,v₃,e₃,S₃,R₃,w₃⟩
 obtain⟨H',hp,w₃⟩:=Opt.inv w₃
 refine wpAny_mono (do_put S₃ (Rep.mono e₃.toKp OwnX.nil R₂) R₃ (Rep.mono (e₂.trans e₃).toKp OwnX.nil R₁) hp) ?_ fun _ _ h=>h
 rintro _ s₄ ⟨e₄,S₄⟩
 have e14:=(e12.trans e₃).trans e₄
 exact⟨φ₃,_,loc,hF.weak hX e14,S₄,hF.mono e14,w₃⟩
theorem zna{res0 res':Res}{scope:Scope}{tgt iter elt:Expr}{ifs:List Expr}{t:Tg}{xelt xsrc:Ex}{xifs:List Ex}{y:Str}{i:Nat}{py pos cpos:Pos}(hX:EnvX allY env X)(K:CompOk c env res res0 res' scope tgt t)(hfold:∀x,foldedSetIterable iter env x=pure x)(hsrc:zch c env res iter xsrc)
  (helt:∀cenv:Env,cenv.scope=relabel scope env->zch c cenv res' elt xelt) (hifs:∀cenv:Env,cenv.scope=relabel scope env->zeq c cenv res' ifs xifs)
  (hs:swapsWith (.ListComp elt [⟨tgt,iter,ifs,0⟩] scope cpos) (some (.Name y py)) pos.line env=pure true) (hy:StoreOk allY env res res y i) :
  ze5 c env res X (.Assign [.Name y py] (.ListComp elt [⟨tgt,iter,ifs,0⟩] scope cpos) pos) (.set i (.comp xelt t xsrc xifs)):=fun A q d k loc φ H s Q E hA hh hF hS hw=>by
 replace hw:wpE (Calls c) q d k (.comp xelt t xsrc xifs) loc (fun v H=>Q .next (loc.set i (some v)) H) (fun x H=>E x loc H) H:=hw
 rw[exec_Assign_Name_used _ _ _ _ hs]
 refine wpAny_bind (wpAny_standAt (wpAny_bind ?_))
 show wpAny _ A (do let _<-comprehension (.ListComp elt [⟨tgt,iter,ifs,0⟩] scope cpos) scope env _ (newList []) false (eval iter env) (some (assign (.Name y py) env))) _ _ s
 refine wpAny_bind (wpAny_mono (zq7 (use:=some (assign (.Name y py) env)) (Q':=fun _ s'=>OutS c env res k φ s X Q .next s') K hfold hsrc helt hifs hA hF hS hw ?_) (fun _ s' hq=>wpAny_pure (wpAny_pure hq)) fun _ _ h=>OutX.toS hF hX h)
 rintro D C s' ⟨φ',H',a,e,S,R,hq,hC,m,hm,hat,hC0,hCh⟩
 show wpAny _ A (assign (.Name y py) env (.ref D)) _ _ _
 have F:=hF.mono e
 have hCX:C∉X:=fun hm=>by
  rcases hX.only C hm with q |⟨x,hx⟩
  ·obtain⟨_,⟨_,o,ho,_⟩,_,_⟩:=hF.ns
   rw[<- q,hC0] at ho;cases ho
  ·obtain⟨_,_,o,ho,_⟩:=hF.cells x C hx
   rw[hC0] at ho;cases ho
 refine wpAny_assign_Name (wpAny_mono (zgu F S hy hX R) ?_ fun _ _ h=>h)
 rintro _ s₂ ⟨F₂,S₂,e₂,k₂⟩
 obtain⟨hn,o,ho,hc⟩:=hm
 have hm₂:NsD s₂.heap C m:=⟨hn.at' fun o' ho'=>k₂.1 C o' hCX ho',o,k₂.1 C o hCX ho,hc⟩
 refine⟨m,hm₂,fun h' m' hn' hs'=>?_⟩
 have g:=gone S₂ hm₂ hat hC hCh hn' hs'
 have off:Off env [C] s₂:=⟨fun q=>hCX (by rw[<- zah.mp q];exact hX.loc),(fun x ca hx q=>by
   obtain⟨_,_,o,ho,_⟩:=hF.cells x ca hx
   rw[zah.mp q,hC0] at ho;cases ho),fun ca oc hoc hcc _ q=>by
   rw[zah.mp q] at hoc
   obtain rfl:=zaa ((k₂.1 C o hCX ho).symm.trans hoc)
   rw[hcc] at hc;exact absurd hc (by decide)⟩
 exact⟨φ',H',_,((hF.weak hX e).trans e₂).kept g.kept fun b hb=>by rw[zah.mp hb];exact hC0,g.sim,F₂.off (s':={ s₂ with heap:=h' }) g.kp g.ow off fun o ho=>⟨o.slots,g.kept.1 _ o off.loc ho⟩,hq⟩
theorem zuq{t:Expr}{xt:Ex}{a b:List Stmt}{xa xb:List St}{pos:Pos}(hX:EnvX allY env X)(ht:zgn c env res t xt)(ha:ze7 c env res X a xa)(hb:ze7 c env res X b xb):ze5 c env res X (.If t a b pos) (.ite xt xa xb):=fun A q d k loc φ H s Q E hA hh hF hS hw=>by
 refine wpAny_If (wpAny_mono (ht A q d k loc φ H s _ _ hA hF hS hw) ?_ fun _ _ h=>OutX.toS hF hX h)
 rintro t s₁ ⟨φ₁,H₁,e₁,S₁,w₁⟩
 have e₁':=hF.weak hX e₁
 cases t with
 |true=>exact wpAny_mono (ha A q d k loc φ₁ H₁ s₁ Q E (hA.mono e₁) hh (hF.mono e₁) S₁ w₁) (fun _ _ h=>h.lift e₁') fun _ _ h=>h.lift e₁' S₁
 |false=>exact wpAny_mono (hb A q d k loc φ₁ H₁ s₁ Q E (hA.mono e₁) hh (hF.mono e₁) S₁ w₁) (fun _ _ h=>h.lift e₁') fun _ _ h=>h.lift e₁' S₁
inductive WhilI(c:Cx)(env:Env)(res:Res)(k:Clo)(φ:List Addr)(s:Shared)(X:List Addr)(I:Nat->Loc->Hp->Prop)(n:Nat)(s':Shared):Prop
 |mk (φ':List Addr)(H':Hp)(l':Loc)(e:Ext X φ s φ' s')(S:Sim c φ' H' s')(F:FSim c env res k l' φ' s'.heap)(hI:I n l' H'):WhilI c env res k φ s X I n s'
theorem zqg{t:Expr}{xt:Ex}{b:List Stmt}{xb:List St}{pos:Pos}(hX:EnvX allY env X)(ht:zgn c env res t xt)(hb:ze7 c env res X b xb):ze5 c env res X (.While t b [] pos) (.whil xt xb):=fun A q d k loc φ H s Q E hA hh hF hS hw=>by
 obtain⟨rfl,I,n₀,h₀,step⟩:=hw
 refine wpAny_While (codeAny_whileLoop (WhilI c env res k φ s X I) ?_ n₀ ⟨φ,H,loc,Ext.refl,hS,hF,h₀⟩)
 rintro n s₁ ⟨φ₁,H₁,l₁,e₁,S₁,F₁,hI⟩
 refine wpAny_mono (ht A true d k l₁ φ₁ H₁ s₁ _ _ (hA.monoX e₁) F₁ S₁ (step n l₁ H₁ hI)) ?_ fun _ _ h=>OutX.no h
 rintro t s₂ ⟨φ₂,H₂,e₂,S₂,w₂⟩
 have e₁₂:=e₁.trans (F₁.weak hX e₂)
 cases t with
 |true=>
  refine wpAny_mono (hb A true d k l₁ φ₂ H₂ s₂ _ _ (hA.monoX e₁₂) hh (F₁.mono e₂) S₂ w₂) ?_ fun _ _ h=>OutSX.no h
  rintro f s₃ ⟨φ₃,H₃,l₃,e₃,S₃,F₃,w₃⟩
  cases f with
  |next=>
   obtain⟨m,hm,hI'⟩:=w₃
   exact⟨m,hm,φ₃,H₃,l₃,e₁₂.trans e₃,S₃,F₃,hI'⟩
  |ret r=>exact⟨φ₃,H₃,l₃,e₁₂.trans e₃,S₃,F₃,w₃⟩
  |_=>exact w₃.elim
 |false=>exact wpAny_execs_nil ⟨φ₂,H₂,l₁,e₁₂,S₂,F₁.mono e₂,w₂⟩
inductive Goes(c:Cx)(A:Around)(tg:Expr)(φ:List Addr)(s:Shared)(Q:List V->(Hp->Prop)->Hp->Prop)(it:Value)(s₂:Shared):Prop
 |mk (φ₁:List Addr)(H₁:Hp)(items:List V)(ok:Hp->Prop)(wr:List Addr)(St:Nat->List Addr->Heap->Prop)(e:Ext [] φ s φ₁ s₂)(S:Sim c φ₁ H₁ s₂)(I:Itr c A it tg wr items ok St)(st:St 0 φ₁ s₂.heap)
   (hn:∀b∈wr,s.heap.get? b=none) (hok:ok H₁) (q:Q items ok H₁):Goes c A tg φ s Q it s₂
noncomputable def ziz(c:Cx)(env:Env)(res:Res)(tg:Expr)(iter:Expr)(x:Sr):Prop:=
 ∀A d k loc φ H s (Q:List V->(Hp->Prop)->Hp->Prop) E,OkF c A true d φ s.heap->FSim c env res k loc φ s.heap->Sim c φ H s->wpSr (Calls c) true d k x loc Q E H->
  wpAny (model c.prog c.w) A (eval iter env) (fun x s₁=>wpAny (model c.prog c.w) A (pyIter x) (Goes c A tg φ s Q) (OutX c φ s E) s₁) (OutX c φ s E) s
theorem sr_val{tg iter:Expr}{x:Ex}(h:zch c env res iter x):ziz c env res tg iter (.val x):=fun A d k loc φ H s Q E hA hF hS hw=>by
 refine wpAny_mono (h A true d k loc φ H s _ E hA hF hS hw) ?_ fun _ _ h=>h
 rintro r s₁ ⟨φ₁,H₁,v₁,e₁,S₁,R₁,w₁⟩
 obtain⟨items,hi,w₁⟩:=Opt.inv w₁
 refine wpAny_mono (zqv (hA.hd rfl) S₁ R₁ hi (tg:=tg)) ?_ fun _ _ h=>h
 rintro it s₂ ⟨wr,St,e₂,S₂,I,st,hn⟩
 refine⟨φ₁,H₁,items,_,wr,St,e₁.trans e₂,S₂,I,st,fun b hb=>e₁.fresh S₁ (hn b hb),?_,w₁⟩
 cases v₁ with
 |lst a=>exact hi
 |_=>trivial
inductive ForI(c:Cx)(env:Env)(res:Res)(k:Clo)(φ:List Addr)(s:Shared)(X:List Addr)(items:List V)(St:Nat->List Addr->Heap->Prop)(ok:Hp->Prop)(P:List V->Loc->Hp->Prop)(n:Nat)(s':Shared):Prop
 |mk (i:Nat)(φ':List Addr)(H':Hp)(l':Loc)(hk:n=items.length-i+1)(hi:i<=items.length)(e:Ext X φ s φ' s')(S:Sim c φ' H' s')(F:FSim c env res k l' φ' s'.heap)(st:St i φ' s'.heap)(hok:ok H')(w:P (items.drop i) l' H'):ForI c env res k φ s X items St ok P n s'
theorem zw1{tg iter:Expr}{t:Tg}{sr:Sr}{b:List Stmt}{xb:List St}{pos:Pos}(hX:EnvX allY env X)(hs:∀x,foldedSetIterable iter env x=pure x)(hsr:ziz c env res tg iter sr)(htg:TgOk allY env res res tg t)(hb:ze7 c env res X b xb) :
  ze5 c env res X (.For tg iter b [] pos) (.loop t sr xb):=fun A q d k loc φ H s Q E hA hh hF hS hw=>by
 obtain⟨rfl,hw⟩:=hw
 refine wpAny_For (wpAny_mono (hsr A d k loc φ H s _ _ hA hF hS hw) (fun x s₁ h₁=>wpAny_mono h₁ ?_ fun _ _ h=>OutX.toS hF hX h) fun _ _ h=>OutX.toS hF hX h) hs
 rintro it s₂ ⟨φ₁,H₁,items,ok,wr,St,e₁,S₁,I,st₁,hn,hok,w₁⟩
 refine codeAny_forLoop_any (ForI c env res k φ s X items St ok fun xs l H=>zi3 ok (fun x l Q H=>Opt (zgq t x l) fun l'=>wpSs (Calls c) true d k xb Q E l' H) xs Q l H) ?_ (items.length+1) ⟨0,φ₁,H₁,loc,rfl,za2 _,hF.weak hX e₁,S₁,hF.mono e₁,st₁,hok,w₁⟩
 rintro n s₃ ⟨i,φ₃,H₃,l₃,rfl,hi,e₃,S₃,F₃,st₃,hok₃,w₃⟩
 have its:=I.seen _ _ _ st₃
 by_cases hlt:i<items.length
 ·have hx:items[i]?=some items[i]:=zam hlt
  rw[zb8 hlt] at w₃
  generalize items[i]=x at hx w₃
  obtain⟨l',hbt,w₃⟩:=Opt.inv (show Opt (zgq t x l₃) _ from w₃)
  refine wpAny_mono (I.item i x φ₃ H₃ s₃ _ hx st₃ S₃ hok₃) ?_ fun _ _ h=>h
  rintro r s₄ ⟨v,rfl,h₄⟩
  refine wpAny_mono h₄ ?_ fun _ _ h=>h
  rintro _ s₅ ⟨k₅,st₅,R₅⟩
  have F₅:=F₃.kept its k₅
  refine wpAny_mono (zq8 (hA.hd rfl) hX htg hbt F₅ (S₃.kept k₅ its) R₅) ?_ fun _ _ h=>h
  rintro _ s₆ ⟨F₆,S₆,e₆,k₆⟩
  have hwX:∀b∈wr,b∉X:=fun b hb hm=>by
   have off:=Off.its F₅ (I.seen _ _ _ st₅)
   rcases hX.only b hm with rfl |⟨y,hy⟩
   ·exact off.loc hb
   ·exact off.cells y b hy hb
  have st₆:=I.frame _ _ _ _ _ _ st₅ e₆.toKp (F₅.ownX hX) hwX
  have e₀₆:=(e₃.kept k₅ hn).trans e₆
  refine wpAny_mono (hb A true d k l' φ₃ H₃ s₆ _ _ (hA.monoX e₀₆) hh F₆ S₆ w₃) ?_ fun _ _ h=>zw5 hA hh (h.lift e₀₆ S₆)
  rintro f s₇ ⟨φ₇,H₇,l₇,e₇,S₇,F₇,w₇⟩
  cases f with
  |next=>exact⟨items.length-(i+1)+1,by exact Ar.ar1 [_,_] [] 0xd03214a528003081201840a00c2018061004030142100465294001840700c2018061004050840128c2008401 (Y1 (Y0 (Y2 V0 (Y0 V1 J1)) J1) (Y0 (Y2 V0 V1) J1)) (Y1 V1 V0) hlt,i+1,φ₇,H₇,l₇,rfl,hlt,e₀₆.trans e₇,S₇,F₇,I.frame _ _ _ _ _ _ st₆ e₇.toKp (F₆.ownX hX) hwX,w₇.1,w₇.2⟩
  |ret r=>exact⟨φ₇,H₇,l₇,e₀₆.trans e₇,S₇,F₇,w₇⟩
  |_=>exact w₇.elim
 ·obtain rfl:i=items.length:=Nat.le_antisymm hi (zba hlt)
  rw[List.drop_length] at w₃
  refine wpAny_mono (I.done φ₃ H₃ s₃ _ st₃ S₃ hok₃) ?_ fun _ _ h=>h
  rintro r s₄ ⟨rfl,k₄⟩
  exact wpAny_execs_nil ⟨φ₃,H₃,l₃,e₃.kept k₄ hn,S₃.kept k₄ its,F₃.kept its k₄,w₃⟩
end
end Bn
namespace Bn
open PySem PyProof.Rows
theorem zij:∀(names:List (Str×NameKind)) (h:Heap) (acc:List (Str×Addr)),(∀n ca,(n,ca)∈acc->h.get? ca=some zga) ->
  ∀n ca,(n,ca)∈cellsFrom h.objs.size names acc->(pushCells h names).get? ca=some zga
 |[],_,_,x,n,ca,hm=>x n ca hm
 |(name,kind)::r,h,acc,x,n,ca,hm=>by
  unfold cellsFrom at hm
  unfold pushCells
  split
  ·rename_i hk
   rw[if_pos hk] at hm
   have:=zij r (h.push zga) ((name,h.objs.size)::acc) (fun n' c' hm'=>by
    rcases zal.mp hm' with e |hm'
    ·cases e;exact Heap.get?_push_size _ rfl
    ·exact Heap.get?_push_of_some _ (x n' c' hm')) n ca (by rw[Heap.size_push];exact hm)
   exact this
  ·rename_i hk
   rw[if_neg hk] at hm
   exact zij r h acc x n ca hm
theorem zg7:∀{names:List (Str×NameKind)} {k:Nat} {acc:List (Str×Addr)} {x:Str},((x,NameKind.cell)∈names\/(acc.lookup x).isSome)->((cellsFrom k names acc).lookup x).isSome
 |[],_,acc,x,h=>by
  rcases h with h |h
  ·cases h
  ·exact h
 |(n,kd)::r,k,acc,x,h=>by
  unfold cellsFrom
  split
  ·rename_i hk
   refine zg7 ?_
   rcases h with h |h
   ·rcases zal.mp h with e |h
    ·cases e
     right;simp
    ·exact .inl h
   ·right
    rw[za1]
    cases x==n<;>simp[h]
  ·rename_i hk
   refine zg7 ?_
   rcases h with h |h
   ·rcases zal.mp h with e |h
    ·cases e;exact absurd rfl hk
    ·exact .inl h
   ·exact .inr h
noncomputable def XS (env:Env):List Addr:=env.locals::env.cells.filterMap fun p=>env.cells.lookup p.1
noncomputable def ziq(env:Env)(res:Res):List Str->Nat->Prop
 |[],_=>True
 |x::r,i=>StoreOk allY env res res x i/\ziq env res r (i+1)
noncomputable def zpd:Nat->List V->Loc->Loc
 |_,[],l=>l
 |i,v::vs,l=>zpd (i+1) vs (l.set i (some v))
theorem zs3{i:Nat}{v:V}{vs:List V}{l:Loc}:zpd i (v::vs) l=zpd (i+1) vs (l.set i (some v)):=rfl
theorem zmy:∀(vs:List V)(p:Loc)(k:Nat),zpd p.length vs (p++List.replicate (vs.length+k) none)=p++vs.map some++List.replicate k none
 |[],p,k=>by rw[List.map_nil,za9,List.length_nil,Nat.zero_add];rfl
 |v::vs,p,k=>by
  have ih:=zmy vs (p++[some v]) k
  rw[zs3,show(v::vs).length+k=(vs.length+k)+1 by simp;exact Ar.ar0 [_,_] [] 0x628003080002800308000 (Y2 (Y0 (Y0 V0 J1) V1) (Y0 (Y0 V0 V1) J1)),List.replicate_succ]
  rw[List.set_append_right _ _ (zaf _)]
  simp only[Nat.sub_self,List.set_cons_zero]
  simp only[zao,zbh,List.length_nil] at ih
  rw[show p++some v::List.replicate (vs.length+k) none=p++[some v]++List.replicate (vs.length+k) none by simp]
  rw[ih];simp
section
variable {c:Cx}
theorem zja{A:Around}{E:Value->Shared->Prop}{env:Env}{res:Res}{φ:List Addr}{H:Hp}{X:List Addr}(hX:EnvX allY env X)(f:Str×Value->PUnit->Sem (ForInStep PUnit))(hf:∀n v u,f (n,v) u=(do storeName env n v;pure (.yield ⟨⟩))) :
  ∀{ps:List Str} {i:Nat} {vs:List V} {rs:List Value} {loc:Loc} {s:Shared} {Q:PUnit->Shared->Prop},ziq env res ps i->vs.length=ps.length->FSim c env res none loc φ s.heap->Sim c φ H s->RepL c φ s.heap vs rs->
   (∀s',FSim c env res none (zpd i vs loc) φ s'.heap->Sim c φ H s'->Ext X φ s φ s'->Q ⟨⟩ s')->wpAny (model c.prog c.w) A (forIn (ps.zip rs) ⟨⟩ f) Q E s
 :=by
 intro ps
 induction ps with
 |nil=>
  intro _ vs _ _ s Q _ hl F S _ hQ
  obtain rfl:=zbw.mp hl
  rw[List.zip_nil_left,List.forIn_nil];exact wpAny_pure (hQ s F S Ext.refl)
 |cons x ps ih=>
  intro i vs rs loc s Q hp hl F S R hQ
  cases vs with
  |nil=>exact nomatch hl
  |cons v vs=>
  obtain⟨r,rs,rfl,R1,R2⟩:=R.uncons
  rw[List.zip_cons_cons,List.forIn_cons,hf]
  refine wpAny_bind (wpAny_bind (wpAny_mono (zgu F S hp.1 hX R1) ?_ fun _ _ h=>h))
  rintro _ s₁ ⟨F₁,S₁,e₁,_⟩
  exact wpAny_pure (ih hp.2 (Nat.succ.inj hl) F₁ S₁ (RepL.mono e₁.toKp (F.ownX hX) R2) fun s₂ F₂ S₂ e₂=>hQ s₂ F₂ S₂ (e₁.trans e₂))
structure FunOk(c:Cx)(f:Str)(a:Addr)(o:Obj)(fd:FuncData)(body:List Stmt)(ps pa:List Str)(res:Res):Prop where
 g:c.g f=some (.ref a)
 ho:c.h0.get? a=some o
 hd:o.data=.func fd
 code:c.h0.CodeRec fd.code fd.qualname
 hbody:fd.body=.stmts body
 clo:fd.closure=[]
 gl:fd.globals=mainGlobals
 bl:fd.builtins=builtinsNs
 kind:fd.scope.kind=.function
 co:fd.scope.isCoroutine=false
 gen:fd.scope.isGenerator=false
 bind:∀vals:List Value,vals.length=pa.length->bindArgs fd ⟨vals,[]⟩=pure (pa.zip vals)
 fr:res.fr=true
 hres:∀x i,res.lookup x=some i->fd.scope.names.lookup x=some .local\/fd.scope.names.lookup x=some .cell
 par:∀L,ziq (callEnvC fd L a) res ps 0
 np:ps.length<=res.n
theorem zoc(fd:FuncData)(L a:Addr)(h:Heap)(hL:h.objs.size=L+1):EnvX allY (callEnvC fd L a) (XS (callEnvC fd L a)) where
 loc:=by simp[XS]
 cell x _ hk:=by
  have ok:=cellsFrom_ok fd.scope.names h (L+1) [] ⟨fun _ _ hm=>(nomatch hm),List.Pairwise.nil⟩ (by rw[hL];exact zaf _)
  rw[hL] at ok
  obtain⟨ca,hx⟩:=zb7.mp (zg7 (k:=L+1) (acc:=[]) (x:=x) (.inl (mem_of_lookup hk)))
  have hm:=mem_of_lookup hx
  refine⟨ca,hx,(ok.empty x ca hm).2,?_,fun y hy=>name_of_addr ok.apart (mem_of_lookup hy) hm⟩
  simp only[XS,zal,List.mem_filterMap]
  exact .inr ⟨(x,ca),hm,hx⟩
 only b hb:=by
  simp only[XS,zal,List.mem_filterMap] at hb
  rcases hb with rfl |⟨p,_,hp⟩
  ·exact .inl rfl
  ·exact .inr ⟨p.1,hp⟩
theorem zpe{f:Str}{a:Addr}{o:Obj}{fd:FuncData}{body:List Stmt}{ps pa:List Str}{res:Res}(K:FunOk c f a o fd body ps pa res){φ:List Addr}{H:Hp}{s:Shared}(S:Sim c φ H s){h:Heap}(hL:h.get? s.heap.objs.size=some { cls:=.type "frame",data:=.dict #[] })
  (cellok:∀x ca,(cellsFrom (s.heap.objs.size+1) fd.scope.names []).lookup x=some ca->h.get? ca=some zga/\s.heap.objs.size<ca) (newφ:∀b,s.heap.objs.size<=b->b∉φ/\c.h0.get? b=none/\s.heap.get? b=none) :
  FSim c (callEnvC fd s.heap.objs.size a) res none (List.replicate res.n none) φ h where
 fn:=K.kind
 gl:=K.gl
 bl:=K.bl
 len:=by rw[List.length_replicate];exact zaf _
 Lφ:=(newφ _ (zaf _)).1
 L0:=(newφ _ (zaf _)).2.1
 ns:=by
  refine⟨fun _=>none,⟨⟨_,_,_,hL,rfl,by intro e he;simp at he,fun _=>by simp[nsFind,findBy]⟩,_,hL,.inl ⟨rfl,K.fr⟩⟩,fun x i hx=>?_,fun kk z hz=>nomatch hz⟩
  have hget:(List.replicate res.n (none:Option V)).getD i none=none:=by
   rw[zas,List.getElem?_replicate]
   split<;>rfl
  rw[hget]
  show zsn (fd.scope.names.lookup x) _ _
  rcases K.hres x i hx with h |h<;>rw[h]
  ·exact .no
  ·obtain⟨ca,hca⟩:=zb7.mp (zg7 (k:=s.heap.objs.size+1) (acc:=[]) (x:=x) (.inl (mem_of_lookup h)))
   exact .no ca hca ⟨_,(cellok x ca hca).1,rfl⟩
 cells x ca hx:=by
  obtain⟨h1,h2⟩:=cellok x ca hx
  exact⟨(newφ ca (zav h2)).1,(newφ ca (zav h2)).2.1,_,h1,rfl,_,rfl⟩
theorem zsb{f:Str}{a:Addr}{o:Obj}{fd:FuncData}{body:List Stmt}{ps:List Str}{res:Res}{xs:List St}(O:c.Ok)(K:FunOk c f a o fd body ps ps res)
  (hbod:∀L,EnvX allY (callEnvC fd L a) (XS (callEnvC fd L a))->ze7 c (callEnvC fd L a) res (XS (callEnvC fd L a)) body xs)
  {q:Bool} {d:Nat} {vs:List V} {Q:V->Hp->Prop} {E:XPost} {H:Hp} (hlen:vs.length=ps.length)
  (hw:wpSs (Calls c) q d none xs (EndQ Q) (EndX E) (vs.map some++List.replicate (res.n-vs.length) none) H):Calls c q (d+1) f vs none Q E H:=by
 refine⟨a,o,fd,K.g,K.ho,K.hd,fun A φ s args extra hA S R hex=>?_⟩
 obtain rfl:extra=[]:=hex
 rw[za9]
 have hdep:=hA.dep
 have hun:=hA.un
 refine codeAny_call_function (by show _<1000;exact Ar.ar1 [_,_] [] 0xa5000610000308020 (Y1 V0 (.l 1000)) (Y0 (Y0 V0 (Y0 V1 J1)) (.l 890)) hdep) (S.stays a o K.ho) K.hd K.co K.gen K.hbody (K.code.keeps S.stays) ?_
 rw[K.bind args (by rw[RepL.length R,hlen]),K.clo]
 refine wpAny_pure ?_
 simp only[newFunctionEnv,Option.isSome_none,zbx,if_false]
 refine wpAny_bind (wpAny_alloc ?_)
 refine wpAny_bind (wpAny_layCells _ (fun name kind cells=>by cases hkc:kind==NameKind.cell<;>simp[hkc]) _ _ _ _ ?_)
 generalize hs₁:s.heap.push { cls:=.type "frame",data:=.dict #[] }=h₁
 have hz₁:h₁.objs.size=s.heap.objs.size+1:=by rw[<- hs₁,Heap.size_push]
 rw[show({ s with heap:=h₁ }:Shared).heap.objs.size=s.heap.objs.size+1 from hz₁]
 have keep:∀b o,s.heap.get? b=some o->(pushCells h₁ fd.scope.names).get? b=some o:=fun b o hb=>pushCells_keeps _ _ b o (by rw[<- hs₁];exact Heap.get?_push_of_some _ hb)
 have hX:=zoc fd s.heap.objs.size a h₁ hz₁
 have e₁:Ext [] φ s φ { s with heap:=pushCells h₁ fd.scope.names }:=Ext.of_keeps keep rfl
 have cellok:∀x ca,(cellsFrom (s.heap.objs.size+1) fd.scope.names []).lookup x=some ca->(pushCells h₁ fd.scope.names).get? ca=some zga/\s.heap.objs.size<ca:=fun x ca hx=>by
  have hm:=mem_of_lookup hx
  rw[<- hz₁] at hm
  have ok:=cellsFrom_ok fd.scope.names h₁ (s.heap.objs.size+1) [] ⟨fun _ _ hm=>(nomatch hm),List.Pairwise.nil⟩ (by rw[hz₁];exact zaf _)
  exact⟨zij fd.scope.names h₁ [] (fun _ _ hm=>nomatch hm) x ca hm,(ok.empty x ca hm).2⟩
 have newφ:∀b,s.heap.objs.size<=b->b∉φ/\c.h0.get? b=none/\s.heap.get? b=none:=fun b hb=>
  ⟨fun hm=>zbb _ (zay (S.lt hm) hb),S.h0_new hb,Heap.get?_none_of_le hb⟩
 have F₁:=zpe K S (pushCells_keeps _ _ _ _ (by rw[<- hs₁];exact Heap.get?_push_size _ rfl)) cellok newφ
 refine wpAny_bind (zja (c:=c) (env:=callEnvC fd s.heap.objs.size a) (X:=XS (callEnvC fd s.heap.objs.size a)) (s:={ s with heap:=pushCells h₁ fd.scope.names }) hX _ (fun _ _ _=>rfl) (K.par _) hlen F₁ (S.keeps (s':={ s with heap:=pushCells h₁ fd.scope.names }) keep rfl) (RepL.mono e₁.toKp OwnX.nil R) fun s₂ F₂ S₂ e₂=>?_)
 refine wpAny_pure ⟨O.lim.keeps S₂.stays,codeAny_func ?_⟩
 have hXn:∀b∈XS (callEnvC fd s.heap.objs.size a),s.heap.get? b=none:=fun b hb=>by
  rcases hX.only b hb with rfl |⟨x,hx⟩
  ·exact(newφ _ (zaf _)).2.2
  ·exact(newφ b (zav (cellok x b hx).2)).2.2
 have e₀₂:=(e₁.weaken (Y:=XS (callEnvC fd s.heap.objs.size a)) (fun _ h=>nomatch h) fun b hb=>(FSim.outX (s:={ s with heap:=pushCells h₁ fd.scope.names }) F₁ hX b hb).1).trans e₂
 have hloc:zpd 0 vs (List.replicate res.n none)=vs.map some++List.replicate (res.n-vs.length) none:=by
  have:=zmy vs [] (res.n-vs.length)
  rw[Nat.add_sub_cancel' (hlen▸K.np)] at this
  exact this
 rw[hloc] at F₂
 obtain⟨fr,hfr,hfrs⟩:=(hA.mono e₀₂).fr
 have hEnv:EnvOk c φ s₂.heap (callEnvC fd s.heap.objs.size a):=by
  obtain⟨m,⟨⟨o1,es,n,ho1,hd1,_⟩,o2,ho2,hc2⟩,_,_⟩:=F₂.ns
  obtain rfl:=zaa (ho1.symm.trans ho2)
  rcases hc2 with hc2 |hc2
  ·exact⟨⟨by rw[show(callEnvC fd s.heap.objs.size a).scope.kind=fd.scope.kind from rfl,K.kind];decide,K.gen,K.co,K.bl,K.gl⟩,s.heap.objs.size,o1,es,n,rfl,F₂.L0,F₂.Lφ,ho1,hd1,hc2.1⟩
  ·rw[K.fr] at hc2;cases hc2.2.2
 have hfr2:(A.deeper (callEnvC fd s.heap.objs.size a)).frames=some (callEnvC fd s.heap.objs.size a::fr):=by show A.frames.map _=_;rw[hfr];rfl
 have hA₂:OkF c (A.deeper (callEnvC fd s.heap.objs.size a)) q d φ s₂.heap:=
  ⟨⟨by show A.depth+1+d<=890;exact Ar.ar1 [_,_] [] 0xa5000610000308020 (Y0 (Y0 (Y0 V0 J1) V1) (.l 890)) (Y0 (Y0 V0 (Y0 V1 J1)) (.l 890)) hdep,by show A.units+3+10*d<=9000;exact Ar.ar1 [_,_] [] 0xa5000610000308020 (Y0 (Y0 (Y0 V0 (.l 3)) (Y1 (.l 10) V1)) (.l 9000)) (Y0 (Y0 V0 (Y1 (.l 10) (Y0 V1 J1))) (.l 9000)) hun,hA.hd,_,hfr2,fun env he=>by
   rcases zal.mp he with rfl |he
   ·exact hEnv
   ·exact hfrs env he⟩,by rw[hfr2];exact fun h=>nomatch h⟩
 refine wpAny_mono (hbod _ hX _ q d none _ φ H s₂ _ _ hA₂ ⟨fr,hfr2⟩ F₂ S₂ hw) ?_ ?_
 ·rintro f s₃ ⟨φ₃,H₃,l₃,e₃,S₃,F₃,w₃⟩
  have e₀₃:=(e₀₂.trans e₃).drop hXn
  cases f with
  |next=>exact⟨φ₃,H₃,.none,e₀₃,S₃,rN,w₃⟩
  |ret r=>obtain⟨v,Rv,w⟩:=w₃;exact⟨φ₃,H₃,v,e₀₃,S₃,Rv,w⟩
  |_=>exact w₃.elim
 ·intro x s₃ h
  obtain⟨_,_,_,_,_,_,_,R,_⟩:=h
  exact nomatch R
end
end Bn
namespace Bn
open PySem PyProof.Rows
section
variable {c:Cx}{env:Env}{res:Res}
theorem zr0{f:Str}{p pos:Pos}{e:Expr}{x:Ex}{F:Value}(O:c.Ok)(hF':∀a,F≠.ref a)(hk:env.kindOf f=some .globalImplicit)(hg:c.g f=none)(hb:c.b f=some F)(hx:(f==("__debug__":Str))=false)(hn:zcz e=true)(h:zch c env res e x)
  {A q d k loc φ H s Q} {E:XPost} {R:Value->Shared->Prop} (hA:OkF c A q d φ s.heap) (hF:FSim c env res k loc φ s.heap) (hS:Sim c φ H s) (hw:wpE (Calls c) q d k x loc Q E H)
  (hR:∀r s₁,Out c φ s Q r s₁->wpAny (model c.prog c.w) A (call F [r]) R (OutX c φ s E) s₁):wpAny (model c.prog c.w) A (eval (.Call (.Name f p) [e] [] pos) env) R (OutX c φ s E) s:=by
 show wpAny _ _ (eval (.Name f p) env >>=fun fv=>callWith pos fv [] (backTo pos (starEach [e] env)) []) _ _ _
 refine wpAny_bind (Calls.Name_function_global hF.fn hk (Calls.loadGlobal_builtin (by rw[hF.gl];exact O.gl.keeps hS.stays) hg (by rw[hF.bl];exact O.bl.keeps hS.stays) hb ?_) hx)
 have hl:zfr c env res [e] [x]:=ze6 hn h zi4
 have hw':wpL (Calls c) q d k [x] loc (fun vs H=>match vs with |[v]=>Q v H |_=>False) E H:=hw
 refine zeh hF' (zjl hl.1.1) (wpAny_mono (zkd hl (by simp) hA hF hS hw') ?_ fun _ _ h=>h)
 rintro _ s₁ ⟨rs,rfl,φ₁,H₁,vs,e₁,S₁,R₁,l₁,w₁⟩
 match vs,l₁ with
 |[v],_=>
  obtain⟨r,rfl,Rr⟩:=R₁.one
  exact hR r s₁ ⟨φ₁,H₁,v,e₁,S₁,Rr,w₁⟩
theorem zqy{H:Hp}{v:V}{items:List V}(h:lstV H v=some items):∃i,v=.lst i/\H[i]?=some items:=
 let⟨i,h1,h2⟩:=zad.mp h;⟨i,zgk h1,h2⟩
theorem sr_rev{tg:Expr}{f:Str}{p pos:Pos}{e:Expr}{x:Ex}(O:c.Ok)(hk:env.kindOf f=some .globalImplicit)(hg:c.g f=none)(hb:c.b f=some (.type "reversed"))(hx:(f==("__debug__":Str))=false)(hn:zcz e=true)(h:zch c env res e x) :
  ziz c env res tg (.Call (.Name f p) [e] [] pos) (.rev x):=fun A d k loc φ H s Q E hA hF hS hw=>by
 refine zr0 O (by intro a h;cases h) hk hg hb hx hn h hA hF hS hw ?_
 rintro r s₁ ⟨φ₁,H₁,v₁,e₁,S₁,R₁,w₁⟩
 have hh:A.handled=none:=hA.hd rfl
 obtain⟨items,hi,w₂⟩:=Opt.inv w₁
 obtain⟨i,rfl,hi⟩:=zqy hi
 obtain⟨a,us,n,rfl,ha,ho,hr,hz,z⟩:=S₁.getP R₁ hi
 refine rv_start (zdi ho) ?_
 have hit:RvAt (s₁.heap.push (rvO a ((us.size:Int)-1))) s₁.heap.objs.size a ((items.length:Int)-1-(0:Nat)):=⟨_,Heap.get?_push_size _ rfl,rfl,by
  rw[z,Int.natCast_zero,Int.sub_zero];rfl⟩
 refine zw3 (s:={ s₁ with heap:=s₁.heap.push (rvO a ((us.size:Int)-1)) }) hit ?_
 have e₂:Ext [] φ₁ s₁ φ₁ { s₁ with heap:=s₁.heap.push (rvO a ((us.size:Int)-1)) }:=Ext.push
 exact⟨φ₁,H₁,_,_,[s₁.heap.objs.size],_,e₁.trans e₂,S₁.push _,itr_rev hh (a:=a) (j:=i) (S₁.h0_new (zaf s₁.heap.objs.size)),⟨hit,ha,S₁.new⟩,fun b hb=>by rw[zah.mp hb];exact e₁.fresh S₁ (Heap.get?_none_of_le (zaf _)),hi,w₂⟩
theorem sr_enum{es:List Expr} {x1}{tp:Pos}{f:Str}{p pos:Pos}{e:Expr}{x:Ex}(O:c.Ok)(hk:env.kindOf f=some .globalImplicit)(hg:c.g f=none)(hb:c.b f=some (.type "enumerate"))(hx:(f==("__debug__":Str))=false)(hn:zcz e=true)(h:zch c env res e x) :
  ziz c env res (.Tuple es x1 tp) (.Call (.Name f p) [e] [] pos) (.enum x):=fun A d k loc φ H s Q E hA hF hS hw=>by
 refine zr0 O (by intro a h;cases h) hk hg hb hx hn h hA hF hS hw ?_
 rintro r s₁ ⟨φ₁,H₁,v₁,e₁,S₁,R₁,w₁⟩
 have hh:A.handled=none:=hA.hd rfl
 obtain⟨items,hi,w₂⟩:=Opt.inv w₁
 obtain⟨i,rfl,hi⟩:=zqy hi
 obtain⟨a,us,n,rfl,ha,ho,hr,hz,z⟩:=S₁.getP R₁ hi
 refine call_enumerate_list (zdi ho) fun h' he hit hsz hk'=>?_
 refine wpAny_pyIter_enum (s:={ s₁ with heap:=h' }) he ?_
 have e₂:Ext [] φ₁ s₁ φ₁ { s₁ with heap:=h' }:=Ext.of_keeps hk' rfl
 have h0:=S₁.h0_new (zaf s₁.heap.objs.size)
 have h0':=S₁.h0_new (Nat.le_succ s₁.heap.objs.size)
 refine⟨φ₁,H₁,_,_,[s₁.heap.objs.size+1,s₁.heap.objs.size],_,e₁.trans e₂,S₁.keeps (s':={ s₁ with heap:=h' }) hk' rfl,itr_enum hh (a:=a) (j:=i) h0 h0' (Nat.succ_ne_self _),⟨.none,he,hit,ha,S₁.new,fun hm=>?_⟩,fun b hb=>?_,hi,w₂⟩
 ·exact zbb _ (zar (Nat.lt_succ_self _) (S₁.lt hm))
 ·rcases zal.mp hb with rfl |hb
  ·exact e₁.fresh S₁ (Heap.get?_none_of_le (Nat.le_succ _))
  ·rw[zah.mp hb]
   exact e₁.fresh S₁ (Heap.get?_none_of_le (zaf _))
theorem zqp{pos:Pos}:zch c env res (.Dict [] [] pos) .dict0:=fun A q d k loc φ H s Q E hA hF hS hw=>
 wpAny_Dict_empty ⟨φ,H,.dict0,Ext.push,hS.push _,DictAt.mk _ _ _ _ rfl hS.new (Heap.get?_push_size _ rfl) rfl rfl,hw⟩
end
end Bn
namespace Bn
open PySem PyProof.Rows
noncomputable def zhr:Str:=Str.ofString "put_together"
noncomputable def pick{α:Type}(x y z:α)(i:Nat):α:=if i=0 then x else if i=1 then y else z
inductive LamF (kk : Nat) (fd : FuncData) (nm : Str) : Prop
 | mk (p1 p2 : Str) (q0 q1 q2 pf pos : Pos) (bind : ∀ x y : Value, bindArgs fd ⟨[x, y], []⟩ = pure [(p1, x), (p2, y)])
   (hbody : fd.body = .expr (.Call (.Name zhr pf) [.Name (pick p1 p2 nm (kk / 9)) q0, .Name (pick p1 p2 nm (kk / 3 % 3)) q1, .Name (pick p1 p2 nm (kk % 3)) q2] [] pos))
   (k1 : fd.scope.names.lookup p1 = some .local) (k2 : fd.scope.names.lookup p2 = some .local) (k3 : fd.scope.names.lookup nm = some .free) (k4 : fd.scope.names.lookup zhr = some .globalImplicit)
   (nc : fd.scope.names.all (fun p => !(p.2 == NameKind.cell)) = true) (ok : (p1 != zcj && p2 != zcj && p1 != p2 && p1 != nm && p2 != nm) = true)
   (dbg : [p1, p2, nm].all (fun x => !(x == ("__debug__" : Str)) && !(x == ("__classdict__" : Str))) = true)
   (gl : fd.globals = mainGlobals) (bl : fd.builtins = builtinsNs) (kind : fd.scope.kind = .function) (co : fd.scope.isCoroutine = false) (gen : fd.scope.isGenerator = false) : LamF kk fd nm
theorem znn:∀{names:List (Str×NameKind)} {k:Nat} {acc:List (Str×Addr)} {h:Heap},names.all (fun p=>!(p.2==NameKind.cell))=true->cellsFrom k names acc=acc/\pushCells h names=h
 |[],_,_,_,_=>⟨rfl,rfl⟩
 |(n,kd)::r,k,acc,h,q=>by
  obtain⟨q1,q2⟩:=zag.mp q
  have e:(kd==NameKind.cell)=false:=(zbp _).mp q1
  unfold cellsFrom pushCells
  rw[e]
  exact znn q2
section
variable {prog:Program}{w:World}{A:Around}{R:Result->Shared->Prop}{s:Shared}
theorem zvk{e:Expr}{env:Env}(h:wpAny (model prog w) (A.deeper env) (eval e env) (fun v s'=>R (.ok (.ret v)) s') (fun _ _=>False) s):codeAny (model prog w) A (.expr e env) R s:=
 codeAny_of_tree (wpAny_bind (wpAny_point (wpAny_bind (wpAny_onRaise (wpAny_mono h (fun _ _ h'=>wpAny_pure h') fun _ _ h'=>h'.elim)))))
theorem zvc{a:Addr}{args:Args}{o:Obj}{fd:FuncData}{body:Expr}{cc:Addr}(hroom:A.depth<recursionLimit)(ho:s.heap.get? a=some o)(hd:o.data=.func fd)(hco:fd.scope.isCoroutine=false)(hgen:fd.scope.isGenerator=false)
  (hbody:fd.body=.expr body) (hcd:fd.code=.ref cc) (hc:CodeO s.heap cc fd.qualname)
  (h:wpAny (model prog w) A.in1 (bindArgs fd args) (fun binds s₁=>wpAny (model prog w) A.in1 (newFunctionEnv fd.scope fd.globals fd.closure binds (fd.qualname++".<locals>.") (some a) fd.code none fd.builtins)
   (fun env s₂=>s₂.heap.NoLimit/\codeAny (model prog w) A (.expr body env) R s₂) (fun e s'=>R (.error e) s') s₁) (fun e s'=>R (.error e) s') s) :
  codeAny (model prog w) A (.call (.ref a) args) R s:=by
 refine codeAny_of_tree ?_
 show wpAny _ A.in1 (callAny (.ref a) args) _ _ s
 unfold callAny
 refine wpAny_bind (wpAny_load ho ?_)
 obtain⟨oc,vs,t,h1,_,h3,h4⟩:=hc
 rw[hcd] at h
 simp only[hd,callFunction,hco,hgen,hbody,hcd]
 refine wpAny_bind (m:=field (.ref cc) 1) (wpAny_field h1 h3 h4 (wpAny_bind (wpAny_pure ?_)))
 exact wpAny_bind (wpAny_mono h (fun _ _ h₁=>wpAny_bind (wpAny_mono h₁ (fun _ _ h₂=>wpAny_bind (wpAny_enterFrame h₂.1 hroom (wpAny_pure ⟨rfl,h₂.2⟩))) fun _ _ q=>q)) fun _ _ q=>q)
end
section
variable {c:Cx}
abbrev lamEnv (fd:FuncData) (L a ca:Addr) (nm:Str):Env:=newEnv fd.scope L fd.globals [(nm,ca)] (fd.qualname++".<locals>.") (some a) fd.code none fd.builtins
abbrev lamRes (p1 p2 nm:Str):Res:=⟨true,3,[(p1,0),(p2,1),(nm,2)]⟩
theorem look3{p1 p2 nm x:Str}{i:Nat}(h:(lamRes p1 p2 nm).lookup x=some i):(x=p1/\i=0)\/(x≠p1/\x=p2/\i=1)\/(x≠p1/\x≠p2/\x=nm/\i=2):=by
 replace h:List.lookup x [(p1,0),(p2,1),(nm,2)]=some i:=h
 rw[za1] at h
 cases h1:x==p1 with
 |true=>rw[h1] at h;exact .inl ⟨eq_of_beq h1,(zaa h).symm⟩
 |false=>
  rw[h1] at h
  replace h:List.lookup x [(p2,1),(nm,2)]=some i:=h
  rw[za1] at h
  have n1:x≠p1:=ne_of_beq_false h1
  cases h2:x==p2 with
  |true=>rw[h2] at h;exact .inr (.inl ⟨n1,eq_of_beq h2,(zaa h).symm⟩)
  |false=>
   rw[h2] at h
   replace h:List.lookup x [(nm,2)]=some i:=h
   rw[za1] at h
   have n2:x≠p2:=ne_of_beq_false h2
   cases h3:x==nm with
   |true=>rw[h3] at h;exact .inr (.inr ⟨n1,n2,eq_of_beq h3,(zaa h).symm⟩)
   |false=>rw[h3] at h;exact nomatch h
theorem store3 {p1 p2 nm : Str} {fd : FuncData} {L a ca : Addr} (h : (p1 != zcj && p2 != zcj && p1 != p2 && p1 != nm && p2 != nm) = true) (k1 : fd.scope.names.lookup p1 = some .local) (k2 : fd.scope.names.lookup p2 = some .local) :
  ziq (lamEnv fd L a ca nm) (lamRes p1 p2 nm) [p1, p2] 0 := by
 obtain ⟨h, h5⟩ := zag.mp h
 obtain ⟨h, h4⟩ := zag.mp h
 obtain ⟨h, h3⟩ := zag.mp h
 obtain ⟨h1, h2⟩ := zag.mp h
 refine ⟨⟨⟨rfl, rfl, fun y j hy => ?_, by show 0 < 3; decide, bne_iff_ne.mp h1, .inr rfl⟩, .inl k1⟩, ⟨⟨rfl, rfl, fun y j hy => ?_, by show 1 < 3; decide, bne_iff_ne.mp h2, .inr rfl⟩, .inl k2⟩, trivial⟩
 ·rcases look3 hy with ⟨e, e'⟩ | ⟨n, e, e'⟩ | ⟨n, n', e, e'⟩
  ·exact .inl ⟨e, e'⟩
  ·exact .inr ⟨n, hy, by rw [e']; decide⟩
  ·exact .inr ⟨n, hy, by rw [e']; decide⟩
 ·rcases look3 hy with ⟨e, e'⟩ | ⟨n, e, e'⟩ | ⟨n, n', e, e'⟩
  ·exact .inr ⟨by rw [e]; exact bne_iff_ne.mp h3, hy, by rw [e']; decide⟩
  ·exact .inl ⟨e, e'⟩
  ·exact .inr ⟨n', hy, by rw [e']; decide⟩
theorem zux{p1 p2 nm:Str}{fd:FuncData}{a ca:Addr}{φ:List Addr}{H:Hp}{s:Shared}{oc:Obj}{rv:Value}{z:V}(S:Sim c φ H s)(hca:ca∉φ)(h0:c.h0.get? ca=none)(hoc:s.heap.get? ca=some oc)(hcc:oc.cls=.type "cell")(hdc:oc.data=.cell (some rv))(hx:Rep c φ s.heap z rv)
  (k1:fd.scope.names.lookup p1=some .local) (k2:fd.scope.names.lookup p2=some .local) (k3:fd.scope.names.lookup nm=some .free)
  (gl:fd.globals=mainGlobals) (bl:fd.builtins=builtinsNs) (kind:fd.scope.kind=.function) :
  FSim c (lamEnv fd s.heap.objs.size a ca nm) (lamRes p1 p2 nm) none [none,none,some z] φ (s.heap.push { cls:=.type "frame",data:=.dict #[] }) where
 fn:=kind
 gl:=gl
 bl:=bl
 len:=zaf 3
 Lφ:=S.new
 L0:=S.h0_new (zaf _)
 ns:=by
  have hL:(s.heap.push { cls:=.type "frame",data:=.dict #[] }).get? s.heap.objs.size=some { cls:=.type "frame",data:=.dict #[] }:=Heap.get?_push_size _ rfl
  refine⟨fun _=>none,⟨⟨_,_,_,hL,rfl,by intro e he;simp at he,fun _=>by simp[nsFind,findBy]⟩,_,hL,.inl ⟨rfl,rfl⟩⟩,fun x i hx'=>?_,fun kk z hz=>nomatch hz⟩
  show zsn (fd.scope.names.lookup x) _ _
  rcases look3 hx' with⟨e,e'⟩|⟨n,e,e'⟩|⟨n,n',e,e'⟩
  ·rw[e,k1,e'];exact .no
  ·rw[e,k2,e'];exact .no
  ·rw[e,k3,e']
   refine .yes z ca rv ?_ ⟨oc,Heap.get?_push_of_some _ hoc,hdc⟩ (Rep.mono (Ext.push (X:=[]) (φ:=φ) (s:=s)).toKp OwnX.nil hx)
   show List.lookup nm [(nm,ca)]=some ca
   rw[za1,beq_self_eq_true]
 cells x ca' hx':=by
  replace hx':List.lookup x [(nm,ca)]=some ca':=hx'
  rw[za1] at hx'
  cases e:x==nm with
  |false=>rw[e] at hx';exact nomatch hx'
  |true=>
   rw[e] at hx'
   obtain rfl:=zaa hx'
   exact⟨hca,h0,oc,Heap.get?_push_of_some _ hoc,hcc,_,hdc⟩
theorem lam_body {p1 p2 nm : Str} {fd : FuncData} {L a ca : Addr} {pf pos : Pos} {i j k : Nat} {q0 q1 q2 : Pos} {af : Addr} {of : Obj} {fdf : FuncData} (O : c.Ok) (k4 : fd.scope.names.lookup zhr = some .globalImplicit) (hg : c.g zhr = some (.ref af)) (ho : c.h0.get? af = some of) (hd : of.data = .func fdf)
  (ok : (p1 != zcj && p2 != zcj && p1 != p2 && p1 != nm && p2 != nm) = true) (dbg : [p1, p2, nm].all (fun x => !(x == ("__debug__" : Str)) && !(x == ("__classdict__" : Str))) = true) :
  zch c (lamEnv fd L a ca nm) (lamRes p1 p2 nm) (.Call (.Name zhr pf) [.Name (pick p1 p2 nm i) q0, .Name (pick p1 p2 nm j) q1, .Name (pick p1 p2 nm k) q2] [] pos) (.call zhr [.var (pick 0 1 2 i), .var (pick 0 1 2 j), .var (pick 0 1 2 k)]) := by
 obtain ⟨h, h5⟩ := zag.mp ok
 obtain ⟨h, h4⟩ := zag.mp h
 obtain ⟨h, h3⟩ := zag.mp h
 have n1 := bne_iff_ne.mp h3
 have n2 := bne_iff_ne.mp h4
 have n3 := bne_iff_ne.mp h5
 have v : ∀ i q, zch c (lamEnv fd L a ca nm) (lamRes p1 p2 nm) (.Name (pick p1 p2 nm i) q) (.var (pick 0 1 2 i)) := fun i q => by
  have look : (lamRes p1 p2 nm).lookup (pick p1 p2 nm i) = some (pick 0 1 2 i) := by
   show List.lookup (pick p1 p2 nm i) [(p1, 0), (p2, 1), (nm, 2)] = _
   unfold pick
   by_cases e0 : i = 0
   ·rw [if_pos e0, if_pos e0, za1, beq_self_eq_true]
   ·rw [if_neg e0, if_neg e0]
    by_cases e1 : i = 1
    ·rw [if_pos e1, if_pos e1, za1, beq_false_of_ne (Ne.symm n1), za1, beq_self_eq_true]
    ·rw [if_neg e1, if_neg e1, za1, beq_false_of_ne (Ne.symm n2), za1, beq_false_of_ne (Ne.symm n3), za1, beq_self_eq_true]
  have hm : pick p1 p2 nm i ∈ [p1, p2, nm] := by
   unfold pick
   by_cases e0 : i = 0
   ·rw [if_pos e0]; exact zae
   ·rw [if_neg e0]
    by_cases e1 : i = 1
    ·rw [if_pos e1]; exact zai _ zae
    ·rw [if_neg e1]; exact zai _ (zai _ zae)
  obtain ⟨d1, d2⟩ := zag.mp (za5.mp dbg _ hm)
  exact znq look ((zbp _).mp d1) ((zbp _).mp d2)
 exact zls O k4 hg ho hd (by decide) (ze6 rfl (v i q0) (ze6 rfl (v j q1) (ze6 rfl (v k q2) zi4))) (fun h => nomatch h)
theorem pickV{x y z:V}(i:Nat):([some x,some y,some z]:Loc).getD (pick 0 1 2 i) none=some (pick x y z i):=by
 unfold pick
 by_cases e0:i=0
 ·rw[if_pos e0,if_pos e0];rfl
 ·rw[if_neg e0,if_neg e0]
  by_cases e1:i=1
  ·rw[if_pos e1,if_pos e1];rfl
  ·rw[if_neg e1,if_neg e1];rfl
theorem call_lam{A:Around}{q:Bool}{d:Nat}{φ:List Addr}{H:Hp}{s:Shared}{B kk:Nat}{z x y:V}{fv rx ry:Value}{Q:V->Hp->Prop}(O:c.Ok)(LO:∀kk fd nm,c.lam kk fd nm->LamF kk fd nm)(hA:OkA c A q (d+1) φ s.heap)(S:Sim c φ H s)(K:CloRep c φ s.heap B kk z fv)
  (R1:Rep c φ s.heap x rx) (R2:Rep c φ s.heap y ry) (hw:Calls c q d zhr (zi0 kk x y z) none Q noX H):codeAny (model c.prog c.w) A (.call fv ⟨[rx,ry],[]⟩) (Ends c φ s Q noX) s:=by
 obtain⟨a,o,fd,nm,ca,oc,rv,rfl,ha,ho,hc,hd,hk,hcl,hca,hlt,hoc,hcc,hdc,hx,h0,cc,hcd,hco,hcφ⟩:=K
 obtain⟨p1,p2,q0,q1,q2,pf,pos,bind,hbody,k1,k2,k3,k4,nc,ok,dbg,gl,bl,kind,co,gen⟩:=LO kk fd nm hk
 have hdep:=hA.dep
 have hun:=hA.un
 refine zvc (by show _<1000;exact Ar.ar1 [_,_] [] 0xa5000610000308020 (Y1 V0 (.l 1000)) (Y0 (Y0 V0 (Y0 V1 J1)) (.l 890)) hdep) ho hd co gen hbody hcd hco ?_
 rw[bind,hcl]
 refine wpAny_pure ?_
 simp only[newFunctionEnv,Option.isSome_none,zbx,if_false]
 refine wpAny_bind (wpAny_alloc ?_)
 refine wpAny_bind (wpAny_layCells _ (fun name kind cells=>by cases hkc:kind==NameKind.cell<;>simp[hkc]) _ _ _ _ ?_)
 rw[(znn (h:=s.heap) nc).1,(znn (k:=0) (acc:=[]) nc).2]
 have F₁:=zux (p1:=p1) (p2:=p2) (a:=a) S hca h0 hoc hcc hdc hx k1 k2 k3 gl bl kind
 generalize hs₁:s.heap.push { cls:=.type "frame",data:=.dict #[] }=h₁ at F₁
 have keep:∀b o,s.heap.get? b=some o->h₁.get? b=some o:=fun b o hb=>by rw[<- hs₁];exact Heap.get?_push_of_some _ hb
 have e₁:Ext [] φ s φ { s with heap:=h₁ }:=Ext.of_keeps keep rfl
 have hX:EnvX allY (lamEnv fd s.heap.objs.size a ca nm) [s.heap.objs.size]:=⟨zae,fun x _ hx=>by
  have:=za5.mp nc _ (mem_of_lookup (show fd.scope.names.lookup x=some .cell from hx))
  exact(nomatch this),fun b hb=>.inl (zah.mp hb)⟩
 have S₁:Sim c φ H { s with heap:=h₁ }:=S.keeps (s':={ s with heap:=h₁ }) keep rfl
 refine wpAny_bind (zja (c:=c) (env:=lamEnv fd s.heap.objs.size a ca nm) (X:=[s.heap.objs.size]) (s:={ s with heap:=h₁ }) (vs:=[x,y]) (rs:=[rx,ry]) hX _ (fun _ _ _=>rfl) (store3 ok k1 k2) rfl F₁ S₁ (RepL.mono e₁.toKp OwnX.nil ⟨R1,R2,rL⟩) fun s₂ F₂ S₂ e₂=>?_)
 refine wpAny_pure ⟨O.lim.keeps S₂.stays,zvk ?_⟩
 have hXn:∀b∈[s.heap.objs.size],s.heap.get? b=none:=fun b hb=>by rw[zah.mp hb];exact Heap.get?_none_of_le (zaf _)
 have e₀₂:=(e₁.weaken (Y:=[s.heap.objs.size]) (fun _ h=>nomatch h) fun b hb=>by rw[zah.mp hb];exact S.new).trans e₂
 obtain⟨fr,hfr,hfrs⟩:=(hA.mono e₀₂).fr
 have hEnv:EnvOk c φ s₂.heap (lamEnv fd s.heap.objs.size a ca nm):=by
  obtain⟨m,⟨⟨o1,es,n,ho1,hd1,_⟩,o2,ho2,hc2⟩,_,_⟩:=F₂.ns
  obtain rfl:=zaa (ho1.symm.trans ho2)
  rcases hc2 with hc2 |hc2
  ·exact⟨⟨by rw[show(lamEnv fd s.heap.objs.size a ca nm).scope.kind=fd.scope.kind from rfl,kind];decide,gen,co,bl,gl⟩,s.heap.objs.size,o1,es,n,rfl,F₂.L0,F₂.Lφ,ho1,hd1,hc2.1⟩
  ·exact nomatch hc2.2.2
 have hfr2:(A.deeper (lamEnv fd s.heap.objs.size a ca nm)).frames=some (lamEnv fd s.heap.objs.size a ca nm::fr):=by show A.frames.map _=_;rw[hfr];rfl
 have hA₂:OkF c (A.deeper (lamEnv fd s.heap.objs.size a ca nm)) q d φ s₂.heap:=
  ⟨⟨by show A.depth+1+d<=890;exact Ar.ar1 [_,_] [] 0xa5000610000308020 (Y0 (Y0 (Y0 V0 J1) V1) (.l 890)) (Y0 (Y0 V0 (Y0 V1 J1)) (.l 890)) hdep,by show A.units+3+10*d<=9000;exact Ar.ar1 [_,_] [] 0xa5000610000308020 (Y0 (Y0 (Y0 V0 (.l 3)) (Y1 (.l 10) V1)) (.l 9000)) (Y0 (Y0 V0 (Y1 (.l 10) (Y0 V1 J1))) (.l 9000)) hun,hA.hd,_,hfr2,fun env he=>by
   rcases zal.mp he with rfl |he
   ·exact hEnv
   ·exact hfrs env he⟩,by rw[hfr2];exact fun h=>nomatch h⟩
 obtain⟨af,of,fdf,g1,g2,g3,g4⟩:=id hw
 have hw':wpE (Calls c) q d none (.call zhr [.var (pick 0 1 2 (kk/9)),.var (pick 0 1 2 (kk/3%3)),.var (pick 0 1 2 (kk%3))]) [some x,some y,some z] Q noX H:=by
  refine Opt.mk (pickV _) (Opt.mk (pickV _) (Opt.mk (pickV _) ?_))
  exact hw
 refine wpAny_mono (lam_body O k4 g1 g2 g3 ok dbg _ q d none _ φ H s₂ _ _ hA₂ F₂ S₂ hw') ?_ fun _ _ h=>h.no
 rintro v s₃ ⟨φ₃,H₃,v',e₃,S₃,R₃,w₃⟩
 exact⟨φ₃,H₃,v',(e₀₂.trans (e₃.weaken (fun _ h=>nomatch h) fun b hb=>by rw[zah.mp hb];exact F₂.Lφ)).drop hXn,S₃,R₃,w₃⟩
theorem zsx{A:Around}{E:Value->Shared->Prop}{env:Env}{res:Res}{loc:Loc}{φ:List Addr}{H:Hp}{s:Shared}{X:List Addr}{kk:Nat}{z:V}{fv:Value}{Q:PUnit->Shared->Prop}(F:FSim c env res none loc φ s.heap)(S:Sim c φ H s)(hfr:res.fr=true)(hk:env.kindOf zcj=some .local)
  (hr:res.lookup zcj=none) (hXL:env.locals∈X) (K:CloRep c φ s.heap env.locals kk z fv) (hQ:∀s',FSim c env res (some (kk,z)) loc φ s'.heap->Sim c φ H s'->Ext X φ s φ s'->Q ⟨⟩ s'):wpAny (model c.prog c.w) A (storeName env zcj fv) Q E s:=by
 obtain⟨m,⟨hn,oL,hoL,hcL⟩,hsl,hjo⟩:=F.ns
 have hcL:=hcL.elim id fun h=>by rw[hfr] at h;exact nomatch h.2.2
 refine zlx hk F.fn hn hoL fun h' hn' hs' hc'=>?_
 obtain⟨o',ho',hcls'⟩:=hc'
 have hnf:∀o vs,s.heap.get? env.locals=some o->o.data≠.fields vs:=fun o vs ho hd=>by
  obtain⟨o1,es1,n1,h1,h2,_⟩:=hn
  obtain rfl:=zaa (ho.symm.trans h1)
  rw[h2] at hd;cases hd
 have hdd:∀o es n,s.heap.get? env.locals=some o->o.data=.dict es n->∃o' es' n',h'.get? env.locals=some o'/\o'.data=.dict es' n'/\o'.cls=o.cls:=fun o es n ho _=>by
  obtain⟨o1,es1,n1,h1,h2,_⟩:=hn'
  obtain rfl:=zaa (ho'.symm.trans h1)
  obtain rfl:=zaa (hoL.symm.trans ho)
  exact⟨o',es1,n1,ho',h2,hcls'⟩
 have keep:∀b o,b≠env.locals->s.heap.get? b=some o->h'.get? b=some o:=fun b o hb ho=>(hs'.2 b hb).trans ho
 have hcN:∀y ca,env.cells.lookup y=some ca->ca≠env.locals:=fun y ca hy q=>by
  obtain⟨_,_,o1,h1,h2⟩:=F.cells y ca hy
  rw[q] at h1
  obtain rfl:=zaa (hoL.symm.trans h1)
  rw[h2] at hcL;exact absurd hcL.1 (by decide)
 have cs:∀z ca,env.cells.lookup z=some ca->ca∉[env.locals]/\CellAt c φ s.heap ca:=fun z ca hz=>⟨fun q=>hcN z ca hz (zah.mp q),F.cells z ca hz⟩
 have kp:=zlv (φ:=φ) keep hdd hnf
 have ow:OwnX c [env.locals] s.heap:=fun b hb o ho=>by rw[zah.mp hb] at ho ⊢;exact zmx F ho
 refine hQ _ ⟨F.fn,F.gl,F.bl,⟨_,⟨hn',o',ho',.inl ⟨hcls'.trans hcL.1,hfr⟩⟩,fun y j hy=>?_,fun kk' z' hz=>?_⟩,F.len,F.Lφ,F.L0,fun y ca hy=>?_⟩ ?_ (Ext.of_own (s':={ s with heap:=h',toks:=s.toks+1 }) hs' hXL hdd ⟨o',ho'⟩ rfl hnf)
 ·have hsy:=(hsl y j hy).mono (s:=s) (s':={ s with heap:=h' }) kp ow cs
  refine zsn.imp hsy (fun _ h=>?_) id
  show SlotL _ _ _ (if y=zcj then _ else _) _
  rw[if_neg fun q=>by rw[q,hr] at hy;cases hy];exact h
 ·obtain⟨rfl,rfl⟩:=Prod.mk.inj (zaa hz)
  exact⟨hk,fv,if_pos rfl,K.mono (s:=s) (s':={ s with heap:=h' }) kp ow fun ca o ho _ hlt q=>absurd (zah.mp q) (za3 hlt)⟩
 ·obtain⟨h1,h2,o1,h3,h4,h5⟩:=F.cells y ca hy
  exact⟨h1,h2,o1,(hs'.2 ca (hcN y ca hy)).trans h3,h4,h5⟩
 ·exact S.mono (s':={ s with heap:=h',toks:=s.toks+1 }) kp ow (fun b hb=>by rw[zah.mp hb];exact F.L0) (fun b hb o ho=>keep b o (fun q=>F.Lφ (q▸hb)) ho) (fun b o hb _=>keep b o (fun q=>by rw[q,F.L0] at hb;cases hb) (S.stays b o hb)) S.gens fun b ps hb=>keep b _ (fun q=>hnf _ ps (q▸hb) rfl) hb
theorem cloV_inv{k:Clo}{d:Nat}{vs:List V}{p:Nat×List V}(h:cloV k d vs=some p):∃kk z x y,k=some (kk,z)/\vs=[x,y]/\d=p.1+1/\p.2=zi0 kk x y z:=by
 obtain⟨⟨kk,z⟩,rfl,h⟩:=zad.mp h
 cases d with
 |zero=>cases h
 |succ d=>
  cases vs with
  |nil=>cases h
  |cons x vs=>
   cases vs with
   |nil=>cases h
   |cons y vs=>
    cases vs with
    |nil=>obtain rfl:=zaa h;exact⟨kk,z,x,y,rfl,rfl,rfl,rfl⟩
    |cons _ _=>cases h
theorem zqb{env:Env}{res:Res}{p pos:Pos}{es:List Expr}{xs:List Ex}(O:c.Ok)(LO:∀kk fd nm,c.lam kk fd nm->LamF kk fd nm)(h:zfr c env res es xs)(hne:es≠[]):zch c env res (.Call (.Name zcj p) es [] pos) (.callv xs):=fun A q d k loc φ H s Q E hA hF hS hw=>by
 obtain⟨⟨kk,z⟩,rfl,hw⟩:=Opt.inv hw
 obtain⟨m,hn,h1,h2⟩:=id hF.ns
 obtain⟨g1,fv,g2,g3⟩:=h2 kk z rfl
 show wpAny _ _ (eval (.Name zcj p) env >>=fun fv=>callWith pos fv [] (backTo pos (starEach es env)) []) _ _ _
 refine wpAny_bind (wpAny_Name (wpAny_loadName_local hF.fn g1 hn.ns g2 ?_) (by decide))
 obtain⟨a,o,fd,nm,ca,oc,rv,rfl,ha,ho,hc,hd,_⟩:=id g3
 refine Calls.callWith_function (o:=o) (fd:=fd) (wpAny_mono (zkd h hne hA hF hS hw) ?_ fun _ _ h=>h)
 rintro _ s₁ ⟨rs,rfl,φ₁,H₁,vs,e₁,S₁,R₁,l₁,w₁⟩
 refine⟨⟨zp0 (c:=c) e₁.toKp OwnX.nil ho ha (zlm hc rfl),hd⟩,wpAny_call ?_⟩
 obtain⟨⟨d',vs'⟩,hp,w₁⟩:=Opt.inv w₁
 obtain⟨kk',z',x,y,ek,rfl,ed,ev⟩:=cloV_inv hp
 obtain⟨rfl,rfl⟩:=Prod.mk.inj (zaa ek)
 dsimp only at ed ev w₁
 subst ed ev
 obtain⟨rx,rs',rfl,Rx,R₂⟩:=R₁.uncons
 obtain⟨ry,rs'',rfl,Ry,R₃⟩:=R₂.uncons
 obtain rfl:rs''=[]:=R₃
 refine codeAny_mono (call_lam O LO (hA.mono e₁).toOkA S₁ (g3.mono e₁.toKp OwnX.nil fun _ _ _ _ _ q=>nomatch q) Rx Ry w₁) ?_
 intro r s' hr
 cases r with
 |error e=>exact(OutX.no hr:False).elim
 |ok f=>cases f with
  |ret v=>exact Out.lift e₁ hr
  |_=>exact hr.elim
theorem zh4{A:Around}{E:Value->Shared->Prop}{env:Env}{res:Res}{φ:List Addr}{H:Hp}{X:List Addr}(hX:EnvX allY env X)(f:Str×Value->PUnit->Sem (ForInStep PUnit))(hf:∀n v u,f (n,v) u=(do storeName env n v;pure (.yield ⟨⟩))){r:List (Str×Value)} :
  ∀{ps:List Str} {i:Nat} {vs:List V} {rs:List Value} {loc:Loc} {s:Shared} {Q:PUnit->Shared->Prop},ziq env res ps i->vs.length=ps.length->FSim c env res none loc φ s.heap->Sim c φ H s->RepL c φ s.heap vs rs->
   (∀s',FSim c env res none (zpd i vs loc) φ s'.heap->Sim c φ H s'->Ext X φ s φ s'->wpAny (model c.prog c.w) A (forIn r ⟨⟩ f) Q E s')->wpAny (model c.prog c.w) A (forIn (ps.zip rs++r) ⟨⟩ f) Q E s
 |[],_,vs,_,_,s,Q,_,hl,F,S,_,hQ=>by
  obtain rfl:=zbw.mp hl
  rw[List.zip_nil_left];exact hQ s F S Ext.refl
 |x::ps,i,[],rs,loc,s,Q,hp,hl,F,S,R,hQ=>nomatch hl
 |x::ps,i,v::vs,rs,loc,s,Q,hp,hl,F,S,R,hQ=>by
  obtain⟨r,rs,rfl,R1,R2⟩:=R.uncons
  rw[List.zip_cons_cons,List.cons_append,List.forIn_cons,hf]
  refine wpAny_bind (wpAny_bind (wpAny_mono (zgu F S hp.1 hX R1) ?_ fun _ _ h=>h))
  rintro _ s₁ ⟨F₁,S₁,e₁,_⟩
  exact wpAny_pure (zh4 hX f hf hp.2 (Nat.succ.inj hl) F₁ S₁ (RepL.mono e₁.toKp (F.ownX hX) R2) fun s₂ F₂ S₂ e₂=>hQ s₂ F₂ S₂ (e₁.trans e₂))
theorem zxp{f:Str}{a:Addr}{o:Obj}{fd:FuncData}{body:List Stmt}{ps:List Str}{res:Res}{xs:List St}(O:c.Ok)(K:FunOk c f a o fd body ps (ps++[zcj]) res)(hj:fd.scope.names.lookup zcj=some .local)(hr:res.lookup zcj=none)
  (hbod:∀L,EnvX allY (callEnvC fd L a) (XS (callEnvC fd L a))->ze7 c (callEnvC fd L a) res (XS (callEnvC fd L a)) body xs)
  {q:Bool} {d kk:Nat} {z:V} {vs:List V} {Q:V->Hp->Prop} {E:XPost} {H:Hp} (hlen:vs.length=ps.length)
  (hw:wpSs (Calls c) q d (some (kk,z)) xs (EndQ Q) (EndX E) (vs.map some++List.replicate (res.n-vs.length) none) H):Calls c q (d+1) f vs (some (kk,z)) Q E H:=by
 refine⟨a,o,fd,K.g,K.ho,K.hd,fun A φ s args extra hA S R hex=>?_⟩
 obtain⟨fv,rfl,CR⟩:=hex
 have hal:args.length=ps.length:=by rw[RepL.length R,hlen]
 have hdep:=hA.dep
 have hun:=hA.un
 refine codeAny_call_function (by show _<1000;exact Ar.ar1 [_,_] [] 0xa5000610000308020 (Y1 V0 (.l 1000)) (Y0 (Y0 V0 (Y0 V1 J1)) (.l 890)) hdep) (S.stays a o K.ho) K.hd K.co K.gen K.hbody (K.code.keeps S.stays) ?_
 rw[K.bind (args++[fv]) (by rw[zao,zao,hal];rfl),K.clo,List.zip_append hal.symm]
 refine wpAny_pure ?_
 simp only[newFunctionEnv,Option.isSome_none,zbx,if_false]
 refine wpAny_bind (wpAny_alloc ?_)
 refine wpAny_bind (wpAny_layCells _ (fun name kind cells=>by cases hkc:kind==NameKind.cell<;>simp[hkc]) _ _ _ _ ?_)
 generalize hs₁:s.heap.push { cls:=.type "frame",data:=.dict #[] }=h₁
 have hz₁:h₁.objs.size=s.heap.objs.size+1:=by rw[<- hs₁,Heap.size_push]
 rw[show({ s with heap:=h₁ }:Shared).heap.objs.size=s.heap.objs.size+1 from hz₁]
 have keep:∀b o,s.heap.get? b=some o->(pushCells h₁ fd.scope.names).get? b=some o:=fun b o hb=>pushCells_keeps _ _ b o (by rw[<- hs₁];exact Heap.get?_push_of_some _ hb)
 have hX:=zoc fd s.heap.objs.size a h₁ hz₁
 have e₁:Ext [] φ s φ { s with heap:=pushCells h₁ fd.scope.names }:=Ext.of_keeps keep rfl
 have cellok:∀x ca,(cellsFrom (s.heap.objs.size+1) fd.scope.names []).lookup x=some ca->(pushCells h₁ fd.scope.names).get? ca=some zga/\s.heap.objs.size<ca:=fun x ca hx=>by
  have hm:=mem_of_lookup hx
  rw[<- hz₁] at hm
  have ok:=cellsFrom_ok fd.scope.names h₁ (s.heap.objs.size+1) [] ⟨fun _ _ hm=>(nomatch hm),List.Pairwise.nil⟩ (by rw[hz₁];exact zaf _)
  exact⟨zij fd.scope.names h₁ [] (fun _ _ hm=>nomatch hm) x ca hm,(ok.empty x ca hm).2⟩
 have newφ:∀b,s.heap.objs.size<=b->b∉φ/\c.h0.get? b=none/\s.heap.get? b=none:=fun b hb=>
  ⟨fun hm=>zbb _ (zay (S.lt hm) hb),S.h0_new hb,Heap.get?_none_of_le hb⟩
 have F₁:=zpe K S (pushCells_keeps _ _ _ _ (by rw[<- hs₁];exact Heap.get?_push_size _ rfl)) cellok newφ
 have far:∀b∈XS (callEnvC fd s.heap.objs.size a),s.heap.objs.size<=b:=fun b hb=>by
  rcases hX.only b hb with rfl |⟨x,hx⟩
  ·exact zaf _
  ·exact zav (cellok x b hx).2
 refine wpAny_bind (zh4 (c:=c) (env:=callEnvC fd s.heap.objs.size a) (X:=XS (callEnvC fd s.heap.objs.size a)) (s:={ s with heap:=pushCells h₁ fd.scope.names }) hX _ (fun _ _ _=>rfl) (K.par _) hlen F₁ (S.keeps (s':={ s with heap:=pushCells h₁ fd.scope.names }) keep rfl) (RepL.mono e₁.toKp OwnX.nil R) fun s₁ F₁' S₁ e₁'=>?_)
 have CR₁:CloRep c φ s₁.heap s.heap.objs.size kk z fv:=(CR.mono (s':={ s with heap:=pushCells h₁ fd.scope.names }) e₁.toKp OwnX.nil fun _ _ _ _ _ q=>nomatch q).mono (s:={ s with heap:=pushCells h₁ fd.scope.names }) e₁'.toKp (FSim.ownX (s:={ s with heap:=pushCells h₁ fd.scope.names }) F₁ hX)
  fun ca o _ _ hlt q=>zbb _ (zay hlt (far ca q))
 rw[List.zip_cons_cons,List.zip_nil_left,List.forIn_cons]
 refine wpAny_bind (wpAny_bind (zsx F₁' S₁ K.fr hj hr hX.loc CR₁ fun s₂ F₂ S₂ e₂'=>wpAny_pure ?_))
 have e₂:=e₁'.trans e₂'
 dsimp only;rw[List.forIn_nil]
 refine wpAny_pure (wpAny_pure ⟨O.lim.keeps S₂.stays,codeAny_func ?_⟩)
 have hXn:∀b∈XS (callEnvC fd s.heap.objs.size a),s.heap.get? b=none:=fun b hb=>(newφ b (far b hb)).2.2
 have e₀₂:=(e₁.weaken (Y:=XS (callEnvC fd s.heap.objs.size a)) (fun _ h=>nomatch h) fun b hb=>(FSim.outX (s:={ s with heap:=pushCells h₁ fd.scope.names }) F₁ hX b hb).1).trans e₂
 have hloc:zpd 0 vs (List.replicate res.n none)=vs.map some++List.replicate (res.n-vs.length) none:=by
  have:=zmy vs [] (res.n-vs.length)
  rw[Nat.add_sub_cancel' (hlen▸K.np)] at this
  exact this
 rw[hloc] at F₂
 obtain⟨fr,hfr,hfrs⟩:=(hA.mono e₀₂).fr
 have hEnv:EnvOk c φ s₂.heap (callEnvC fd s.heap.objs.size a):=by
  obtain⟨m,⟨⟨o1,es,n,ho1,hd1,_⟩,o2,ho2,hc2⟩,_,_⟩:=F₂.ns
  obtain rfl:=zaa (ho1.symm.trans ho2)
  rcases hc2 with hc2 |hc2
  ·exact⟨⟨by rw[show(callEnvC fd s.heap.objs.size a).scope.kind=fd.scope.kind from rfl,K.kind];decide,K.gen,K.co,K.bl,K.gl⟩,s.heap.objs.size,o1,es,n,rfl,F₂.L0,F₂.Lφ,ho1,hd1,hc2.1⟩
  ·rw[K.fr] at hc2;cases hc2.2.2
 have hfr2:(A.deeper (callEnvC fd s.heap.objs.size a)).frames=some (callEnvC fd s.heap.objs.size a::fr):=by show A.frames.map _=_;rw[hfr];rfl
 have hA₂:OkF c (A.deeper (callEnvC fd s.heap.objs.size a)) q d φ s₂.heap:=
  ⟨⟨by show A.depth+1+d<=890;exact Ar.ar1 [_,_] [] 0xa5000610000308020 (Y0 (Y0 (Y0 V0 J1) V1) (.l 890)) (Y0 (Y0 V0 (Y0 V1 J1)) (.l 890)) hdep,by show A.units+3+10*d<=9000;exact Ar.ar1 [_,_] [] 0xa5000610000308020 (Y0 (Y0 (Y0 V0 (.l 3)) (Y1 (.l 10) V1)) (.l 9000)) (Y0 (Y0 V0 (Y1 (.l 10) (Y0 V1 J1))) (.l 9000)) hun,hA.hd,_,hfr2,fun env he=>by
   rcases zal.mp he with rfl |he
   ·exact hEnv
   ·exact hfrs env he⟩,by rw[hfr2];exact fun h=>nomatch h⟩
 refine wpAny_mono (hbod _ hX _ q d _ _ φ H s₂ _ _ hA₂ ⟨fr,hfr2⟩ F₂ S₂ hw) ?_ ?_
 ·rintro f s₃ ⟨φ₃,H₃,l₃,e₃,S₃,F₃,w₃⟩
  have e₀₃:=(e₀₂.trans e₃).drop hXn
  cases f with
  |next=>exact⟨φ₃,H₃,.none,e₀₃,S₃,rN,w₃⟩
  |ret r=>obtain⟨v,Rv,w⟩:=w₃;exact⟨φ₃,H₃,v,e₀₃,S₃,Rv,w⟩
  |_=>exact w₃.elim
 ·intro x s₃ h
  obtain⟨_,_,_,_,_,_,_,R,_⟩:=h
  exact nomatch R
end
end Bn
namespace Bn
open PySem PyProof.Rows
inductive CdHd(h:Heap)(c P:Addr):Prop
 |mk (o:Obj)(vs:Array Value)(file:Str)(tf:Tok)(flags:Int)(tg:Tok)(inF:Bool)(text:Int)(tt:Tok)(h1:h.get? c=some o)(h2:o.cls=.type "code")(h3:o.data=.fields vs)(h4:vs[11]?=some (.ref P))(h5:vs.getD 11 .none=.ref P)
   (h6:vs.getD 18 .none=.str file tf) (h7:vs.getD 7 .none=.int flags tg) (h8:vs.getD 9 .none=.bool inF) (h9:vs.getD 10 .none=.int text tt) (ne:c≠P):CdHd h c P
theorem CdHd.keeps{h h':Heap}{c P:Addr}(k:∀b o,h.get? b=some o->h'.get? b=some o):CdHd h c P->CdHd h' c P
 |.mk o vs file tf flags tg inF text tt h1 h2 h3 h4 h5 h6 h7 h8 h9 ne=>.mk o vs file tf flags tg inF text tt (k _ _ h1) h2 h3 h4 h5 h6 h7 h8 h9 ne
theorem CdHd.code{h:Heap}{c P:Addr}{ps:Array Value}(hP:h.get? P=some (tabO ps))(ht:TriplesOk ps.toList):CdHd h c P->h.IsCode c P ps
 |.mk o vs file tf flags tg inF text tt h1 _ h3 _ h5 h6 h7 h8 h9 ne=>⟨o,vs,file,tf,flags,tg,inF,text,tt,_,h1,h3,h5,h6,h7,h8,h9,hP,rfl,ht,ne⟩
theorem CdHd.tab{h:Heap}{c P:Addr}{ps:Array Value}(hP:h.get? P=some (tabO ps)):CdHd h c P->h.TableAt c P ps
 |.mk o vs _ _ _ _ _ _ _ h1 h2 h3 h4 _ _ _ _ _ _=>⟨⟨o,vs,h1,h2,h3,h4⟩,hP⟩
inductive BMain(c:Cx):Prop
 |mk (bm:Addr)(ob:Obj)(b1:c.g "__builtins__"=some (.ref bm))(b2:bm≠builtinsNs)(b3:c.h0.get? bm=some ob)(b4:ob.cls=.type "module")(b5:ob.dict=some builtinsNs)(b6:ob.data=.plain):BMain c
section
variable {c:Cx}
abbrev lamFd (qual:Str) (params:Arguments) (body:Expr) (scope:Scope) (cl:List (Str×Addr)) (pm code ct:Value):FuncData:=
 { name:="<lambda>",qualname:=qual,params,body:=.expr body,scope,globals:=mainGlobals,closure:=cl,defaults:=.none,kwdefaults:=.none,doc:=.none,pyModule:=pm,annotations:=none,code,closureTuple:=ct,builtins:=builtinsNs }
abbrev lamO (fd:FuncData):Obj:={ cls:=.type "function",data:=.func fd }
theorem lam_tail{A:Around}{E:Value->Shared->Prop}{s:Shared}{env:Env}{qual:Str}{params:Arguments}{body:Expr}{scope:Scope}{pos:Pos}{fl:Nat}{cl:Str×Addr}{Q:Value->Shared->Prop}{h0:Heap}(BM:BMain c)(hg:h0.Ns mainGlobals c.g)(hb:∀b o,c.h0.get? b=some o->h0.get? b=some o)
  (hcl:closureFor scope env=pure [cl]) (hgl:env.globals=mainGlobals)
  (h:∀its,wpAny (model c.prog c.w) A (functionCode env pos fl "<lambda>" qual params scope (.expr body)) (fun cv s'=>(∀b o,h0.get? b=some o->s'.heap.get? b=some o)/\∀pm ct,Q (.ref s'.heap.objs.size) { s' with heap:=s'.heap.push (lamO (lamFd qual params body scope [cl] pm cv ct)) }) E
   { s with heap:=s.heap.push { cls:=.type "tuple",data:=.seq its } }) :
  wpAny (model c.prog c.w) A (makeFunction "<lambda>" qual params (.expr body) scope env [] [] [] pos fl) Q E s:=by
 obtain⟨bm,ob,b1,b2,b3,b4,b5,b6⟩:=BM
 rw[makeFunction_eq]
 simp only[List.zip_nil_right,List.filterMap_nil,List.isEmpty_nil,if_true,pure_bind]
 unfold makeTail
 rw[hcl,hgl]
 refine wpAny_bind (wpAny_pure ?_)
 simp only[List.isEmpty_cons,zbx,if_false]
 refine wpAny_bind (wpAny_newTextTuple ?_)
 refine wpAny_bind (wpAny_mono (h _) ?_ fun _ _ q=>q)
 rintro cv s' ⟨k,q⟩
 have hg':=hg.keeps k
 refine wpAny_bind (wpAny_builtinsFor hg' b1 b2 (k _ _ (hb _ _ b3)) b4 b5 b6 ?_)
 refine wpAny_bind (wpAny_nsGet hg' ?_)
 exact wpAny_bind (wpAny_pure (wpAny_newObj_type (q _ _) (by size_fits)))
theorem zqf{scope:Scope}{env:Env}{p1 p2 nm f:Str}{ca:Addr}(hs:scope.names=[(p1,.local),(p2,.local),(nm,.free),(f,.globalImplicit)])(hc:env.cells.lookup nm=some ca):closureFor scope env=pure [(nm,ca)]:=by
 unfold closureFor
 rw[hs]
 simp[cellOf,hc]
theorem Ext.table {φ : List Addr} {s s' : Shared} {P : Addr} {ps ps' : Array Value} (hP : s.heap.get? P = some (tabO ps)) (hP' : s'.heap.get? P = some (tabO ps')) (hk : ∀ b o, b ≠ P -> s.heap.get? b = some o -> s'.heap.get? b = some o) (ho : s'.os = s.os) : Ext [] φ s φ s' := by
 have ne : ∀ b o, s.heap.get? b = some o -> o.cls ≠ .none -> b ≠ P := fun b o hb hc q => by rw [q, hP] at hb; cases hb; exact hc rfl
 exact { pre := List.prefix_rfl
         keep := fun b o hb _ _ hf => hk b o (ne b o hb fun q => by rw [q] at hf; exact nomatch hf) hb
         new := fun _ h => .inl h
         frame := fun b o hb _ _ hc => ⟨o.slots, hk b o (ne b o hb hc) hb⟩
         dict := fun b o es n hb _ hd => ⟨o, es, n, hk b o (fun q => by rw [q, hP] at hb; cases hb; cases hd) hb, hd, rfl⟩
         exc := fun b o vs C hb _ hc hd => ⟨vs, by rw [<- hd]; exact hk b o (ne b o hb (by rw [hc]; exact fun q => nomatch q)) hb⟩
         alive := fun _ _ _ h => nomatch h
         tabs := fun b o hb _ _ hc => (Classical.em (b = P)).elim (fun q => ⟨_, q ▸ hP', rfl⟩) fun q => ⟨o, hk b o q hb, hc⟩
         os := ho }
theorem Sim.table {φ : List Addr} {H : Hp} {s s' : Shared} {x : Addr × (Nat × Nat) × Str} {ps ps' : Array Value} (S : Sim c φ H s) (hP : s.heap.get? x.1 = some (tabO ps)) (hP' : s'.heap.get? x.1 = some (tabO ps')) (hk : ∀ b o, b ≠ x.1 -> s.heap.get? b = some o -> s'.heap.get? b = some o) (ho : s'.os = s.os) (hg : s'.gens = s.gens)
  (h0 : c.h0.get? x.1 = none) (hone : ∀ y ∈ c.tabs, y.1 = x.1 -> y = x) (hy : TabSt s'.heap x) : Sim c φ H s' where
 stays b o h := hk b o (fun q => by rw [q, h0] at h; cases h) (S.stays b o h)
 fresh := S.fresh
 nodup := S.nodup
 len := S.len
 lists i xs h := by
  obtain ⟨a, o, vs, n, h1, h2, h3, h4, h5, h6⟩ := S.lists i xs h
  exact ⟨a, o, vs, n, h1, hk a o (fun q => by rw [q, hP] at h2; cases h2; cases h3) h2, h3, h4, RepL.mono (Ext.table hP hP' hk ho).toKp OwnX.nil h5, h6⟩
 gens := hg.trans S.gens
 tab y hm := (Classical.em (y.1 = x.1)).elim (fun q => by rw [hone y hm q]; exact hy) fun q => by
  have k : ∀ b o, s.heap.get? b = some o -> o.cls = .type "code" -> s'.heap.get? b = some o := fun b o hb hc => hk b o (fun q => by rw [q, hP] at hb; cases hb; cases hc) hb
  rcases S.tab y hm with h1 | ⟨cc, h1, h2⟩
  ·exact .no (hk _ _ q h1)
  ·exact .yes cc (hk _ _ q h1) (h2.mono k)
theorem zq5{φ:List Addr}{H:Hp}{s s₂:Shared}{fd:FuncData}{ca cc:Addr}{nm:Str}{kk:Nat}{z:V}{rv:Value}{Q:Value->Shared->Prop}(e:Ext [] φ s φ s₂)(S₂:Sim c φ H s₂)(CA:CellAt c φ s.heap ca)(hoc:s.heap.IsCell ca (some rv))(Rz:Rep c φ s.heap z rv)(hl:c.lam kk fd nm)(hcl:fd.closure=[(nm,ca)])(hcd:fd.code=.ref cc)(hco:CodeO s₂.heap cc fd.qualname)(hn:cc∉φ)
  (hQ:∀fv s',Ext [] φ s φ s'->Sim c φ H s'->CloRep c φ s'.heap s'.heap.objs.size kk z fv->Q fv s'):Q (.ref s₂.heap.objs.size) { s₂ with heap:=s₂.heap.push (lamO fd) }:=by
 have e₃:Ext [] φ s φ { s₂ with heap:=s₂.heap.push (lamO fd) }:=e.trans Ext.push
 obtain⟨o1,g1,g2⟩:=hoc
 obtain⟨h1,h2,o,h3,h4,h5⟩:=CA
 obtain rfl:=zaa (g1.symm.trans h3)
 have hc:=e₃.keep ca o1 g1 h1 (fun q=>nomatch q) (by rw[h4];decide)
 exact hQ _ _ e₃ (S₂.push _) ⟨s₂.heap.objs.size,lamO fd,fd,nm,ca,o1,rv,rfl,S₂.new,Heap.get?_push_size _ rfl,rfl,rfl,hl,hcl,h1,Heap.lt_size hc,hc,h4,g2,Rep.mono e₃.toKp OwnX.nil Rz,h2,cc,hcd,hco.mono fun _ _ q _=>Heap.get?_push_of_some _ q,hn⟩
theorem lam_made{A:Around}{E:Value->Shared->Prop}{env:Env}{φ:List Addr}{H:Hp}{s:Shared}{x:Addr×(Nat×Nat)×Str}{params:Arguments}{body:Expr}{scope:Scope}{pos:Pos}{cc ca:Addr}{kk:Nat}{z:V}{rv:Value}{p1 p2 nm f:Str}{Q:Value->Shared->Prop}(O:c.Ok)(BM:BMain c)
  (hx:x∈c.tabs) (hone:∀y∈c.tabs,y.1=x.1->y=x) (h0:c.h0.get? x.1=none) (CH:CdHd c.h0 cc x.1) (hcode:env.code=.ref cc) (hl:x.2.1=(pos.line,pos.col)) (hq:x.2.2=env.qual++"<lambda>") (hd1:params.defaults=[]) (hd2:params.kw_defaults=[])
  (hs:scope.names=[(p1,.local),(p2,.local),(nm,.free),(f,.globalImplicit)]) (hgl:env.globals=mainGlobals) (S:Sim c φ H s) (hca:env.cells.lookup nm=some ca) (CA:CellAt c φ s.heap ca) (hoc:s.heap.IsCell ca (some rv)) (Rz:Rep c φ s.heap z rv)
  (hLam:∀pm cv ct,c.lam kk (lamFd (env.qual++"<lambda>") params body scope [(nm,ca)] pm cv ct) nm) (hQ:∀fv s',Ext [] φ s φ s'->Sim c φ H s'->CloRep c φ s'.heap s'.heap.objs.size kk z fv->Q fv s') :
  wpAny (model c.prog c.w) A (eval (.Lambda params body scope pos) env) Q E s:=by
 have hdef:defaultsOf params env=([],[]):=by
  obtain⟨_,_,_,_,_,_,_⟩:=params
  dsimp only at hd1 hd2
  subst hd1 hd2;rfl
 rw[arm_eval_Lambda,hdef]
 show wpAny _ _ (do let dv<-evalAll [];let kdv<-holding dv (evalAllOpt []);makeFunction "<lambda>" (env.qual++"<lambda>") params (.expr body) scope env dv kdv [] pos pos.line) Q E s
 refine wpAny_bind (wpAny_pure (wpAny_bind (wpAny_holding (wpAny_pure ?_))))
 refine lam_tail (h0:=c.h0) BM O.gl (fun _ _ h=>h) (zqf hs hca) hgl fun its=>?_
 have S₁:=S.push { cls:=.type "tuple",data:=.seq its }
 have e₁:Ext [] φ s φ { s with heap:=s.heap.push { cls:=.type "tuple",data:=.seq its } }:=Ext.push
 have C₁:=CH.keeps S₁.stays
 rcases S₁.tab x hx with hP |⟨c',hP,hC⟩
 ·refine wpAny_functionCodeX hcode (C₁.code hP trivial) (C₁.tab hP) rfl fun c' h' tk hk hge hlt _ hrec htb hc2=>?_
  obtain⟨P',_,_,⟨o2,vs2,g1,g2,g3,_⟩,_⟩:=hc2
  obtain⟨c2,o3,vs3,t3,q1,q2,q3,q4⟩:=hrec
  obtain rfl:=Value.ref.inj q1
  obtain rfl:=zaa (g1.symm.trans q2)
  have hP':h'.get? x.1=some (tabO #[rawInt pos.line,rawInt pos.col,.ref c']):=by
   have:=htb.2
   rw[Array.empty_append] at this;exact this
  have hco:CodeO h' c' (env.qual++"<lambda>"):=⟨o2,vs3,t3,g1,g2,q3,q4⟩
  have S₂:Sim c φ H { s with heap:=h',toks:=tk }:=S₁.table (x:=x) (s':={ s with heap:=h',toks:=tk }) hP hP' (fun b o hb ho=>hk b o hb ho) rfl rfl h0 hone (.yes c' (by rw[hl];exact hP') (by rw[hq];exact hco))
  have e₂:Ext [] φ s φ { s with heap:=h',toks:=tk }:=e₁.trans (Ext.table (s':={ s with heap:=h',toks:=tk }) hP hP' (fun b o hb ho=>hk b o hb ho) rfl)
  have hn:c'∉φ:=fun hm=>zbb _ (zay (S₁.lt hm) hge)
  exact⟨fun b o hb=>S₂.stays b o hb,fun pm ct=>zq5 (fd:=lamFd (env.qual++"<lambda>") params body scope [(nm,ca)] pm (.ref c') ct) e₂ S₂ CA hoc Rz (hLam _ _ _) rfl rfl hco hn hQ⟩
 ·rw[hl] at hP
  have hn:c'∉φ:=fun hm=>by
   obtain⟨o1,g1,g2⟩:=S₁.isList hm
   obtain⟨o2,_,_,q1,q2,_,_⟩:=hC
   obtain rfl:=zaa (g1.symm.trans q1)
   rw[g2] at q2;exact absurd q2 (by decide)
  refine wpAny_functionCode_hit hcode (C₁.code hP trivial) (c':=.ref c') ?_ ⟨S₁.stays,fun pm ct=>zq5 (fd:=lamFd (env.qual++"<lambda>") params body scope [(nm,ca)] pm (.ref c') ct) e₁ S₁ CA hoc Rz (hLam _ _ _) rfl rfl (hq▸hC) hn hQ⟩
  show(if((pos.line:Int)==(pos.line:Int)&&(pos.col:Int)==(pos.col:Int))=true then some (Value.ref c') else _)=_
  rw[beq_self_eq_true,beq_self_eq_true];rfl
theorem zqq{env:Env}{res:Res}{f:Str}{p pos pl:Pos}{e1 e2 body:Expr}{y1 y2:Ex}{params:Arguments}{scope:Scope}{x:Addr×(Nat×Nat)×Str}{kk i:Nat}{p1 p2 nm g:Str}{cc a:Addr}{o:Obj}{fd:FuncData}(O:c.Ok)(BM:BMain c)(hk:env.kindOf f=some .globalImplicit)(hg:c.g f=some (.ref a))(ho:c.h0.get? a=some o)(hd:o.data=.func fd)
  (hx:(f==("__debug__":Str))=false) (n1:zcz e1=true) (n2:zcz e2=true) (h1:zch c env res e1 y1) (h2:zch c env res e2 y2)
  (hm:x∈c.tabs) (hone:∀y∈c.tabs,y.1=x.1->y=x) (h0:c.h0.get? x.1=none) (CH:CdHd c.h0 cc x.1) (hcode:env.code=.ref cc) (hl:x.2.1=(pl.line,pl.col)) (hq:x.2.2=env.qual++"<lambda>") (hd1:params.defaults=[]) (hd2:params.kw_defaults=[])
  (hs:scope.names=[(p1,.local),(p2,.local),(nm,.free),(g,.globalImplicit)]) (hn:env.kindOf nm=some .cell) (hi:res.lookup nm=some i)
  (hLam:∀ca pm cv ct,c.lam kk (lamFd (env.qual++"<lambda>") params body scope [(nm,ca)] pm cv ct) nm) :
  zch c env res (.Call (.Name f p) [e1,e2,.Lambda params body scope pl] [] pos) (.callL f [y1,y2] kk i):=fun A q d k loc φ H s Q E hA hF hS hw=>by
 show wpAny _ _ (eval (.Name f p) env >>=fun fv=>callWith pos fv [] (backTo pos (starEach [e1,e2,.Lambda params body scope pl] env)) []) _ _ _
 refine wpAny_bind (Calls.Name_function_global hF.fn hk (Calls.loadGlobal_global (by rw[hF.gl];exact O.gl.keeps hS.stays) hg ?_) hx)
 rw[zdd n1,zdd n2,zdd rfl]
 refine Calls.callWith_function (o:=o) (fd:=fd) (Calls.evalArgs_plain ?_)
 refine Calls.spliced_cons (wpAny_mono (h1 A q d k loc φ H s _ E hA hF hS hw) ?_ fun _ _ h=>h)
 rintro r₁ s₁ ⟨φ₁,H₁,v₁,e₁,S₁,R₁,w₁⟩
 refine Calls.spliced_cons (wpAny_mono (h2 A q d k loc φ₁ H₁ s₁ _ E (hA.mono e₁) (hF.mono e₁) S₁ w₁) ?_ fun _ _ h=>OutX.lift e₁ S₁ h)
 rintro r₂ s₂ ⟨φ₂,H₂,v₂,e₂,S₂,R₂,w₂⟩
 obtain⟨z,hz,w₂⟩:=Opt.inv w₂
 have F₂:=(hF.mono e₁).mono e₂
 obtain⟨m,hns,sl,_⟩:=id F₂.ns
 have h3:=sl nm i hi
 rw[hz] at h3
 unfold zhc at h3
 rw[hn] at h3
 obtain⟨_,ca,rv,g1,g2,g3⟩:=h3
 refine Calls.spliced_cons (lam_made O BM hm hone h0 CH hcode hl hq hd1 hd2 hs hF.gl S₂ g1 (F₂.cells nm ca g1) g2 g3 (hLam ca) fun fv s₃ e₃ S₃ CR=>Calls.spliced_nil ?_)
 refine⟨⟨S₃.stays a o ho,hd⟩,wpAny_call ?_⟩
 obtain⟨a',o',fd',q1,q2,q3,q4⟩:=w₂
 rw[hg] at q1;cases q1
 have e₀:=(e₁.trans e₂).trans e₃
 refine codeAny_mono (q4 A φ₂ s₃ [r₁,r₂] [fv] ((hA.mono e₀)).toOkA S₃ ⟨Rep.mono (e₂.trans e₃).toKp OwnX.nil R₁,Rep.mono e₃.toKp OwnX.nil R₂,rL⟩ ⟨fv,rfl,CR⟩) ?_
 intro r s' hr
 cases r with
 |error e=>exact OutX.lift e₀ S₃ hr
 |ok f=>cases f with
  |ret v=>exact Out.lift e₀ hr
  |_=>exact hr.elim
end
end Bn
namespace Bn
open PySem PyProof.Rows
inductive Gk |fn |val (v:V) |blt (b:Bl) |isi |enum |rev
structure Tab where
 g:List (Str×Gk)
 t:List (Str×Tc)
inductive EV(e:Expr):Type
 |name (x:Str)(p:Pos)(h:e=.Name x p)
 |tup (es:List Expr)(k:Nat)(p:Pos)(h:e=.Tuple es k p)
 |attr (o:Expr)(m:Str)(p:Pos)(h:e=.Attribute o m p)
 |slice (q:Option Expr×Option Expr×Option Expr)(p:Pos)(h:e=.Slice q.1 q.2.1 q.2.2 p)
 |sub (o i:Expr)(p:Pos)(h:e=.Subscript o i p)
 |call (f:Expr)(es:List Expr)(kw:List Keyword)(p:Pos)(h:e=.Call f es kw p)
 |un (o:UnaryOp)(l:Expr)(p:Pos)(h:e=.UnaryOp o l p)
 |const (k:Const)(n:Nat)(p:Pos)(h:e=.Constant k n p)
 |lam (a:Arguments)(b:Expr)(s:Scope)(p:Pos)(h:e=.Lambda a b s p)
 |other
noncomputable def ev(e:Expr):EV e:=match e with
 |.Name x p=>.name x p rfl
 |.Tuple es k p=>.tup es k p rfl
 |.Attribute o m p=>.attr o m p rfl
 |.Slice a b c p=>.slice (a,b,c) p rfl
 |.Subscript o i p=>.sub o i p rfl
 |.Call f es kw p=>.call f es kw p rfl
 |.UnaryOp o l p=>.un o l p rfl
 |.Constant k n p=>.const k n p rfl
 |.Lambda a b s p=>.lam a b s p rfl
 |_=>.other
noncomputable def zww(x:Str):Bool:=!(x==("__debug__":Str))&&!(x==("__classdict__":Str))
theorem zmg{x:Str}(h:zww x=true):(x==("__debug__":Str))=false/\(x==("__classdict__":Str))=false:=by
 obtain⟨h1,h2⟩:=zag.mp h
 exact⟨zbp _ |>.mp h1,zbp _ |>.mp h2⟩
noncomputable def opOf:Operator->Option Op
 |.Add=>some .add |.Sub=>some .sub |.Mult=>some .mul |.FloorDiv=>some .div |.Mod=>some .mod
 |_=>none
theorem zub{o:Operator}{p:Op}(h:opOf o=some p):o=p.real:=by
 cases o<;>first |(cases h;done) |(obtain rfl:=zaa h;rfl)
noncomputable def cmOf:CmpOp->Option Cm
 |.Lt=>some .lt |.LtE=>some .le |.Gt=>some .gt |.GtE=>some .ge |.Eq=>some .eq |.NotEq=>some .ne |.In=>some .isIn
 |.NotIn=>some .notIn
 |.Is=>some .is
 |_=>none
theorem zt2{o:CmpOp}{p:Cm}(h:cmOf o=some p):o=p.real:=by
 cases o<;>first |(cases h;done) |(obtain rfl:=zaa h;rfl)
theorem zmk:∀{os:List CmpOp}{ps:List Cm},mapO cmOf os=some ps->os=ps.map Cm.real
 |[],ps,h=>by obtain rfl:=zaa h;rfl
 |o::os,ps,h=>by
  obtain⟨p,ps',h1,h2,rfl⟩:=zdj h
  rw[zt2 h1,zmk h2];rfl
noncomputable def meAll:List Me:=[Me.append]
 ++ [Me.extend]
 ++ [Me.pop]
 ++ [Me.join]
noncomputable def meOf(x:Str):Option Me:=meAll.find? fun m=>m.nm==x
theorem meOf_nm{x:Str}{m:Me}(h:meOf x=some m):x=m.nm:=by
 have:=List.find?_some (show meAll.find? (fun m=>m.nm==x)=some m from h)
 exact(beq_iff_eq.mp this).symm
noncomputable def zo0(res:Res)(names:List (Str×NameKind)):Res:=⟨false,res.n,names.filterMap fun p=>(if p.2=.free then res.lookup p.1 else none).map fun i=>(p.1,i)⟩
noncomputable def below(o:Option Nat)(n:Nat):Bool:=match o with
 |some i=>decide (i<n)
 |none=>false
theorem zu7{o:Option Nat}{n:Nat}(h:below o n=true):∃i,o=some i/\i<n:=by
 cases o with
 |none=>cases h
 |some i=>exact⟨i,rfl,of_decide_eq_true h⟩
noncomputable def cOk1(nm names:List (Str×NameKind))(res:Res)(nx:Nat)(p:Str×NameKind):Bool:=match p.2 with
 |.cell=>names.lookup p.1==some .cell
 |.local=>names.lookup p.1==some .local
 |.free=>names.lookup p.1==some .free&&(nm.lookup p.1==some .cell||nm.lookup p.1==some .free)&&below (res.lookup p.1) nx
 |_=>true
noncomputable def cOk(nm names:List (Str×NameKind))(res:Res)(nx:Nat):Bool:=names.all (cOk1 nm names res nx)&&decide ((names.filter fun p=>p.2==.cell).length<=1)
theorem cOk_free{nm names:List (Str×NameKind)}{res:Res}{nx:Nat}{n:Str}(h:cOk1 nm names res nx (n,.free)=true):names.lookup n=some .free/\(nm.lookup n=some .cell\/nm.lookup n=some .free)/\∃i,res.lookup n=some i/\i<nx:=by
 obtain⟨h1,h2⟩:=zag.mp h
 obtain⟨h0,h1⟩:=zag.mp h1
 exact⟨beq_iff_eq.mp h0,(zb2.mp h1).imp beq_iff_eq.mp beq_iff_eq.mp,zu7 h2⟩
theorem zpg{nm names:List (Str×NameKind)}{res:Res}{nx:Nat}{p:Str×NameKind}(h:cOk1 nm names res nx p=true):(p.2=.cell->names.lookup p.1=some .cell)/\(p.2=.local->names.lookup p.1=some .local):=by
 obtain⟨n,k⟩:=p
 refine⟨fun q=>?_,fun q=>?_⟩
 ·obtain rfl:k=.cell:=q;exact beq_iff_eq.mp h
 ·obtain rfl:k=.local:=q;exact beq_iff_eq.mp h
theorem one_cell{names:List (Str×NameKind)}(h:(names.filter fun p=>p.2==NameKind.cell).length<=1){n n':Str}(h1:(n,NameKind.cell)∈names)(h2:(n',NameKind.cell)∈names):n'=n:=by
 have m1:(n,NameKind.cell)∈names.filter fun p=>p.2==NameKind.cell:=List.mem_filter.mpr ⟨h1,beq_self_eq_true NameKind.cell⟩
 have m2:(n',NameKind.cell)∈names.filter fun p=>p.2==NameKind.cell:=List.mem_filter.mpr ⟨h2,beq_self_eq_true NameKind.cell⟩
 generalize(names.filter fun p=>p.2==NameKind.cell)=l at h m1 m2
 cases l with
 |nil=>exact nomatch m1
 |cons p r=>
  obtain rfl:r=[]:=zbw.mp (Nat.le_zero.mp (Nat.le_of_succ_le_succ h))
  exact(Prod.mk.inj ((zah.mp m2).trans (zah.mp m1).symm)).1
noncomputable def tOk (names : List (Str × NameKind)) (x : Str) : Bool := (names.lookup x == some .local || names.lookup x == some .cell) && x != zcj && x != Str.ofString "at"
noncomputable def zfq(e:Expr):Option Str:=match ev e with
 |.name x _ _=>some x
 |_=>none
noncomputable def tupOf(e:Expr):Option (List Expr):=match ev e with
 |.tup es _ _ _=>some es
 |_=>none
theorem zc2{i:Expr}{x:Str}(h:zfq i=some x):∃p,i=.Name x p:=by
 unfold zfq at h
 generalize ev i=v at h
 cases v with
 |name y p e=>obtain rfl:=zaa h;exact⟨p,e⟩
 |_=>cases h
theorem zu4{i:Expr}{es:List Expr}(h:tupOf i=some es):∃x p,i=.Tuple es x p:=by
 unfold tupOf at h
 generalize ev i=v at h
 cases v with
 |tup y k p e=>obtain rfl:=zaa h;exact⟨k,p,e⟩
 |_=>cases h
noncomputable def tgT(names:List (Str×NameKind))(r0:Res)(nx:Nat)(x y:Str):Option (Res×Tg×Nat):=
 if tOk names x=true/\tOk names y=true/\nx+1<r0.n then some (⟨false,r0.n,(y,nx+1)::(x,nx)::r0.t⟩,.two nx (nx+1),nx+2) else none
noncomputable def tgOf(names:List (Str×NameKind))(r0:Res)(nx:Nat)(e:Expr):Option (Res×Tg×Nat):=match zfq e with
 |some x=>if tOk names x=true/\nx<r0.n then some (⟨false,r0.n,(x,nx)::r0.t⟩,.one nx,nx+1) else none
 |none=>(tupOf e).bind fun es=>(mapO zfq es).bind fun xs=>match xs with
  |[x,y]=>tgT names r0 nx x y
  |_=>none
noncomputable def relN(nm names:List (Str×NameKind)):List (Str×NameKind):=names.map fun(n,k)=>if(k==NameKind.free&&nm.lookup n==some .cell) then(n,NameKind.cell) else(n,k)
noncomputable def zkw(nm:List (Str×NameKind))(f:Str):Bool:=zww f&&nm.lookup f==some .globalImplicit
noncomputable def constE:Const->Option Ex
 |.int i=>some (.lit (.int i))
 |.str s=>some (.lit (.str s))
 |.bool b=>some (.lit (.bool b))
 |.none=>some (.lit .none)
 |_=>none
noncomputable def gkVal:Gk->Option V
 |.val v=>some v
 |_=>none
noncomputable def nameE(T:Tab)(nm:List (Str×NameKind))(res:Res)(x:Str):Option Ex:=
 if zww x=true then
  match res.lookup x with
  |some i=>some (.var i)
  |none=>if(nm.lookup x==some .globalImplicit)=true then((T.g.lookup x).bind gkVal).map .lit else none
 else none
noncomputable def unE:UnaryOp->Option (Ex->Ex)
 |.USub=>some .neg
 |.Not=>some .not
 |_=>none
noncomputable def boE:BoolOp->List Ex->Ex
 |.And=>.and
 |.Or=>.or
noncomputable def slOf(e:Expr):Option (Option Expr×Option Expr×Option Expr):=match ev e with
 |.slice q _ _=>some q
 |_=>none
theorem slOf_inv{i:Expr}{q:Option Expr×Option Expr×Option Expr}(h:slOf i=some q):∃p,i=.Slice q.1 q.2.1 q.2.2 p:=by
 unfold slOf at h
 generalize ev i=v at h
 cases v with
 |slice y p e=>obtain rfl:=zaa h;exact⟨p,e⟩
 |_=>cases h
noncomputable def zxa(e:Expr):Bool:=match ev e with
 |.const k _ _ _=>k==.int 1
 |_=>false
noncomputable def zt5(e:Expr):Bool:=match ev e with
 |.un o e _ _=>o==.USub&&zxa e
 |_=>false
theorem ztk{e:Expr}(h:zxa e=true):∃k p,e=.Constant (.int 1) k p:=by
 unfold zxa at h
 generalize ev e=v at h
 cases v with
 |const k n p e=>exact⟨n,p,by rw[e,beq_iff_eq.mp h]⟩
 |_=>cases h
theorem zto{e:Expr}(h:zt5 e=true):∃k p p',e=.UnaryOp .USub (.Constant (.int 1) k p) p':=by
 unfold zt5 at h
 generalize ev e=v at h
 cases v with
 |un o l p' e=>
  obtain⟨h1,h2⟩:=zag.mp h
  obtain⟨k,p,rfl⟩:=ztk h2
  exact⟨k,p,p',by rw[e,beq_iff_eq.mp h1]⟩
 |_=>cases h
noncomputable def optE(r:Expr->Option Ex):Option Expr->Option Ex
 |none=>some (.lit .none)
 |some e=>r e
noncomputable def cutE(r:Expr->Option Ex)(a:Ex)(lo hi st:Option Expr):Option Ex:=match st with
 |none=>(optE r lo).bind fun x=>(optE r hi).map fun y=>.slice a x y
 |some s=>if zt5 s=true/\lo=none/\hi=none then some (.rev a) else none
noncomputable def subE(r:Expr->Option Ex)(l i:Expr):Option Ex:=(r l).bind fun a=>match slOf i with
 |none=>(r i).map fun x=>.idx a x
 |some q=>cutE r a q.1 q.2.1 q.2.2
noncomputable def isiE(T:Tab)(nm:List (Str×NameKind))(r:Expr->Option Ex)(es:List Expr):Option Ex:=match es with
 |[e,t]=>(zfq t).bind fun t=>(T.t.lookup t).bind fun tc=>(r e).bind fun x=>if zkw nm t=true/\zcz e=true then some (.isi x tc) else none
 |_=>none
noncomputable def gkE(T:Tab)(nm:List (Str×NameKind))(r:Expr->Option Ex)(f:Str)(es:List Expr):Gk->Option Ex
 |.fn=>(mapO r es).bind fun xs=>if es.all zcz=true/\es≠[] then some (.call f xs) else none
 |.blt b=>(mapO r es).bind fun xs=>if es.all zcz=true/\es≠[] then some (.blt b xs) else none
 |.isi=>isiE T nm r es
 |_=>none
noncomputable def methE(r:Expr->Option Ex)(o:Expr)(m:Str)(apos pos:Pos)(es:List Expr):Option Ex:=
 (meOf m).bind fun me=>(r o).bind fun x=>(mapO r es).bind fun xs=>if(es.all zcz=true/\zv5 o=true)/\(apos.endLine==pos.line)=true/\es.length<20 then some (.meth me x xs) else none
noncomputable def zxh(e:Expr):Option (Expr×Str×Pos):=match ev e with
 |.attr o m p _=>some (o,m,p)
 |_=>none
theorem ztc{i:Expr}{q:Expr×Str×Pos}(h:zxh i=some q):i=.Attribute q.1 q.2.1 q.2.2:=by
 unfold zxh at h
 generalize ev i=v at h
 cases v with
 |attr y k p e=>obtain rfl:=zaa h;exact e
 |_=>cases h
noncomputable def callE(T:Tab)(nm:List (Str×NameKind))(r:Expr->Option Ex)(f:Expr)(es:List Expr)(pos:Pos):Option Ex:=match zfq f with
 |some f=>if f=zcj then(mapO r es).bind fun xs=>if es.all zcz=true/\es≠[] then some (.callv xs) else none else if zkw nm f=true then(T.g.lookup f).bind (gkE T nm r f es) else none
 |none=>(zxh f).bind fun q=>methE r q.1 q.2.1 q.2.2 pos es
noncomputable def genOf:List Comprehension->Option (Expr×Expr×List Expr)
 |[g]=>if g.is_async=0 then some (g.target,g.iter,g.ifs) else none
 |_=>none
noncomputable def eE(T:Tab):Nat->List (Str×NameKind)->Res->Nat->Expr->Option Ex
 |0,_,_,_,_=>none
 |n+1,nm,res,nx,e=>match e with
  |.Constant k _ _=>constE k
  |.Name x _=>nameE T nm res x
  |.Tuple es _ _=>(mapO (eE T n nm res nx) es).bind fun xs=>if es.all zcz=true/\xs.length<=1000 then some (.tup xs) else none
  |.List es _=>(mapO (eE T n nm res nx) es).bind fun xs=>if es.all zcz=true/\xs.length<=1000 then some (.list xs) else none
  |.Dict ks vs _=>if ks=[]/\vs=[] then some .dict0 else none
  |.BinOp l op r _=>(opOf op).bind fun p=>(eE T n nm res nx l).bind fun a=>(eE T n nm res nx r).map fun b=>.bin p a b
  |.UnaryOp o l _=>(unE o).bind fun f=>(eE T n nm res nx l).map f
  |.BoolOp o es _=>(mapO (eE T n nm res nx) es).map (boE o)
  |.Compare l ops es _=>(mapO cmOf ops).bind fun ps=>(eE T n nm res nx l).bind fun a=>(mapO (eE T n nm res nx) es).bind fun xs=>if es.all zjc=true/\ps.length=es.length then some (.cmp a ps xs) else none
  |.Subscript l i _=>subE (eE T n nm res nx) l i
  |.Call f es kw pos=>if kw=[] then callE T nm (eE T n nm res nx) f es pos else none
  |.ListComp elt gs scope _=>(genOf gs).bind fun g=>(if(cOk nm scope.names res nx=true/\scope.kind=.function)/\zjc g.2.1=true then
    tgOf scope.names (zo0 res scope.names) nx g.1 else none).bind fun q=>(eE T n nm res nx g.2.1).bind fun xs=>
     (eE T n (relN nm scope.names) q.1 q.2.2 elt).bind fun x=>(mapO (eE T n (relN nm scope.names) q.1 q.2.2) g.2.2).map fun ys=>.comp x q.2.1 xs ys
  |_=>none
inductive FnAt(c:Cx)(x:Str):Prop
 |mk (a:Addr)(o:Obj)(fd:FuncData)(h1:c.g x=some (.ref a))(h2:c.h0.get? a=some o)(h3:o.data=.func fd):FnAt c x
inductive TyAt(c:Cx)(x:Str)(t:Tc):Prop
 |mk (S:String)(h1:t.real=some S)(h2:x=Str.ofString S)(h3:c.g x=none)(h4:c.b x=some (.type S)):TyAt c x t
structure TabOk(c:Cx)(T:Tab):Prop where
 fn:∀x,T.g.lookup x=some .fn->FnAt c x
 val:∀x v,T.g.lookup x=some (.val v)->∃r,c.g x=some r/\Rep c [] c.h0 v r
 blt:∀x b,T.g.lookup x=some (.blt b)->c.g x=none/\c.b x=some b.real
 isi:∀x,T.g.lookup x=some .isi->x=Str.ofString "isinstance"/\c.g x=none/\c.b x=some (.builtin "isinstance")
 enum:∀x,T.g.lookup x=some .enum->c.g x=none/\c.b x=some (.type "enumerate")
 rev:∀x,T.g.lookup x=some .rev->c.g x=none/\c.b x=some (.type "reversed")
 ty:∀x t,T.t.lookup x=some t->TyAt c x t
 lam:∀kk fd nm,c.lam kk fd nm->LamF kk fd nm
noncomputable def Both(c:Cx)(env:Env)(res:Res)(e:Expr)(x:Ex):Prop:=zch c env res e x/\zgn c env res e x
section
variable {c:Cx}{env:Env}{res:Res}{r:Expr->Option Ex}
theorem zej(ih:∀e x,r e=some x->Both c env res e x):∀{es:List Expr}{xs:List Ex},mapO r es=some xs->zfk c env res es xs
 |[],_,h=>by obtain rfl:=zaa h;rfl
 |e::es,_,h=>by
  obtain⟨x,xs,h1,h2,rfl⟩:=zdj h
  exact⟨(ih _ _ h1).1,zej ih h2⟩
theorem zek(ih:∀e x,r e=some x->Both c env res e x):∀{es:List Expr}{xs:List Ex},mapO r es=some xs->zeq c env res es xs
 |[],_,h=>by obtain rfl:=zaa h;rfl
 |e::es,_,h=>by
  obtain⟨x,xs,h1,h2,rfl⟩:=zdj h
  exact⟨(ih _ _ h1).2,zek ih h2⟩
theorem zdz(ih:∀e x,r e=some x->Both c env res e x):∀{es:List Expr}{xs:List Ex},mapO r es=some xs->es.all zcz=true->zfr c env res es xs
 |[],_,h,_=>by obtain rfl:=zaa h;exact zi4
 |e::es,_,h,hn=>by
  obtain⟨x,xs,h1,h2,rfl⟩:=zdj h
  obtain⟨n1,n2⟩:=zag.mp hn
  exact ze6 n1 (ih _ _ h1).1 (zdz ih h2 n2)
end
end Bn
namespace Bn
open PySem PyProof.Rows
section
variable {c:Cx}{T:Tab}
theorem zcp{env:Env}{res:Res}{e:Expr}{x:Ex}(h:zch c env res e x)(hp:zj4 e=true):Both c env res e x:=⟨h,zor h hp⟩
theorem zh6{scope:Scope}{env:Env}{nm:List (Str×NameKind)}(h:env.scope.names=nm)(hk:env.scope.kind=.function):(relabel scope env).names=relN nm scope.names:=by
 unfold relabel relN
 simp only
 refine zby fun p _=>?_
 obtain⟨n,k⟩:=p
 have:env.kindOf n=nm.lookup n:=by rw[<- h];rfl
 simp only[this,hk]
 cases k<;>simp
theorem zdl{α β:Type}{f:Str×α->Option β}:∀{l:List (Str×α)}{x:Str}{i:β},(l.filterMap fun p=>(f p).map fun i=>(p.1,i)).lookup x=some i->∃p∈l,p.1=x/\f p=some i
 |p::l,x,i,h=>by
  rw[List.filterMap_cons] at h
  cases hp:f p with
  |none=>rw[hp] at h;obtain⟨q,hq,hq'⟩:=zdl h;exact⟨q,zai _ hq,hq'⟩
  |some r=>
   rw[hp] at h
   change List.lookup x ((p.1,r)::_)=_ at h
   rw[za1] at h
   cases hb:x==p.1 with
   |true=>
    rw[hb] at h
    exact⟨p,zae,(beq_iff_eq.mp hb).symm,by rw[<- h];exact hp⟩
   |false=>
    rw[hb] at h
    obtain⟨q,hq,hq'⟩:=zdl h;exact⟨q,zai _ hq,hq'⟩
theorem zwu{res:Res}{names:List (Str×NameKind)}{x:Str}{i:Nat}(h:(zo0 res names).lookup x=some i):(x,NameKind.free)∈names/\res.lookup x=some i:=by
 obtain⟨⟨n,k⟩,hp,rfl,hp'⟩:=zdl (f:=fun p:Str×NameKind=>if p.2=.free then res.lookup p.1 else none) h
 obtain⟨hk,hl⟩:=iteO hp'
 obtain rfl:k=.free:=hk
 exact⟨hp,hl⟩
theorem zkj{x y:Str}{nx j:Nat}{l:List (Str×Nat)}(h:List.lookup y ((x,nx)::l)=some j):(y=x/\j=nx)\/(y≠x/\l.lookup y=some j):=by
 rw[za1] at h
 cases hb:y==x with
 |true=>rw[hb] at h;exact .inl ⟨beq_iff_eq.mp hb,(zaa h).symm⟩
 |false=>rw[hb] at h;exact .inr ⟨beq_eq_false_iff_ne.mp hb,h⟩
theorem zpu{names:List (Str×NameKind)}{x:Str}(h:tOk names x=true):(names.lookup x=some .local\/names.lookup x=some .cell)/\x≠zcj/\x≠Str.ofString "at":=by
 obtain⟨h1,h2⟩:=zag.mp h
 obtain⟨h0,h1⟩:=zag.mp h1
 exact⟨(zb2.mp h0).imp beq_iff_eq.mp beq_iff_eq.mp,bne_iff_ne.mp h1,bne_iff_ne.mp h2⟩
theorem zk8{al:Str->Bool}{cenv:Env}{r0:Res}{x:Str}{nx:Nat}(hk:cenv.kindOf x=some .local\/(al x=true/\cenv.kindOf x=some .cell))(hj:x≠zcj/\x≠Str.ofString "at")(hlt:nx<r0.n)(hb:∀y j,r0.lookup y=some j->j<nx) :
  StoreOk al cenv r0 ⟨r0.fr,r0.n,(x,nx)::r0.t⟩ x nx:=
 ⟨⟨rfl,rfl,fun y j hy=>(zkj hy).imp id fun h=>⟨h.1,h.2,za3 (hb y j h.2)⟩,hlt,hj.1,.inl hj.2⟩,hk⟩
structure FreeOk(nm:List (Str×NameKind))(res:Res)(nx:Nat)(names:List (Str×NameKind))(n:Str):Prop where
 free:names.lookup n=some .free
 kind:nm.lookup n=some .cell\/nm.lookup n=some .free
 slot:∃i,res.lookup n=some i/\i<nx
structure TgtOk(r0 res':Res)(scope:Scope)(env:Env)(tgt:Expr)(t:Tg):Prop where
 n:res'.n=r0.n/\res'.fr=false
 tg:∀cenv:Env,cenv.scope=relabel scope env->TgOk (ownY scope) cenv r0 res' tgt t
 sub:∀y i,r0.lookup y=some i->(y,NameKind.free)∈scope.names->res'.lookup y=some i/\t.out i
theorem zhn{x y:Str}{nx:Nat}{l:List (Str×Nat)}{o:Option Nat}(h:y≠x)(hl:l.lookup y=o):List.lookup y ((x,nx)::l)=o:=by
 rw[za1,beq_eq_false_iff_ne.mpr h];exact hl
theorem tgt_ok{r0 res':Res}{nx nx':Nat}{scope:Scope}{env:Env}{tgt:Expr}{t:Tg}(hfr:r0.fr=false)(hfree:∀n,(n,NameKind.free)∈scope.names->scope.names.lookup n=some .free)(hb:∀y j,r0.lookup y=some j->j<nx)
  (ht:tgOf scope.names r0 nx tgt=some (res',t,nx')):TgtOk r0 res' scope env tgt t:=by
 have hloc:∀cenv:Env,cenv.scope=relabel scope env->∀x,(scope.names.lookup x=some .local\/scope.names.lookup x=some .cell)->cenv.kindOf x=some .local\/(ownY scope x=true/\cenv.kindOf x=some .cell):=fun cenv hcs x hx=>by
  show List.lookup x cenv.scope.names=_\/_/\List.lookup x cenv.scope.names=_
  rw[hcs]
  rcases hx with hx |hx
  ·exact .inl (lookup_relabel_local hx)
  ·exact .inr ⟨by rw[ownY,hx];rfl,(zfh hx).trans rfl⟩
 have ne:∀{x y:Str},(scope.names.lookup x=some .local\/scope.names.lookup x=some .cell)->(y,NameKind.free)∈scope.names->y≠x:=fun{x y} hx hy q=>by
  subst q
  rcases hx with hx |hx<;>(rw[hfree y hy] at hx;cases hx)
 obtain⟨fr,n,l⟩:=r0
 obtain rfl:fr=false:=hfr
 unfold tgOf at ht
 cases hn:zfq tgt with
 |some x=>
  rw[hn] at ht
  obtain⟨p,rfl⟩:=zc2 hn
  obtain⟨⟨h1,h2⟩,e⟩:=iteS ht
  obtain⟨t1,t2⟩:=zpu h1
  cases e
  exact⟨⟨rfl,rfl⟩,fun cenv hcs=>⟨x,p,rfl,zk8 (hloc cenv hcs x t1) t2 h2 hb⟩,fun y i hy hm=>⟨zhn (ne t1 hm) hy,za3 (hb y i hy)⟩⟩
 |none=>
  rw[hn] at ht
  obtain⟨es,h1,ht1⟩:=zad.mp ht
  clear ht
  obtain⟨k,p,rfl⟩:=zu4 h1
  obtain⟨xs,h2,ht2⟩:=zad.mp ht1
  clear ht1
  match xs,ht2,h2 with
  |[x,y],ht3,h2=>
   obtain⟨⟨h3,h4,h5⟩,e⟩:=iteS ht3
   obtain⟨t1,t2⟩:=zpu h3
   obtain⟨u1,u2⟩:=zpu h4
   cases e
   match es,h2 with
   |e1::es,h2=>
    obtain⟨_,_,a1,a2,a3⟩:=zdj h2
    clear h2
    cases a3
    obtain⟨p1,rfl⟩:=zc2 a1
    match es,a2 with
    |e2::es,a2=>
     obtain⟨_,_,b1,b2,b3⟩:=zdj a2
     clear a2
     cases b3
     obtain⟨p2,rfl⟩:=zc2 b1
     match es,b2 with
     |[],_=>
      refine⟨⟨rfl,rfl⟩,fun cenv hcs=>⟨_,_,_,rfl,x,p1,⟨false,n,(x,nx)::l⟩,rfl,zk8 (hloc cenv hcs x t1) t2 (Nat.lt_of_succ_lt h5) hb,y,p2,_,rfl,zk8 (r0:=⟨false,n,(x,nx)::l⟩) (hloc cenv hcs y u1) u2 h5 fun z j hz=>?_,rfl,rfl⟩,
       fun z i hz hm=>⟨zhn (ne u1 hm) (zhn (ne t1 hm) hz),za3 (hb z i hz),za3 (Nat.lt_succ_of_lt (hb z i hz))⟩⟩
      rcases zkj hz with⟨_,rfl⟩|⟨_,h⟩
      ·exact Nat.lt_succ_self _
      ·exact Nat.lt_succ_of_lt (hb z j h)
     |_::_,b2=>
      obtain⟨_,_,_,_,b4⟩:=zdj b2
      cases b4
theorem zkz{env:Env}{res res':Res}{nm:List (Str×NameKind)}{nx nx':Nat}{scope:Scope}{tgt:Expr}{t:Tg}(hnm:env.scope.names=nm)(hc:cOk nm scope.names res nx=true)(hkind:scope.kind=.function)
  (ht:tgOf scope.names (zo0 res scope.names) nx tgt=some (res',t,nx')):CompOk c env res (zo0 res scope.names) res' scope tgt t:=by
 obtain⟨hc,h1c⟩:=zag.mp hc
 have hall:=za5.mp hc
 have hfree:∀n,(n,NameKind.free)∈scope.names->FreeOk nm res nx scope.names n:=fun n hn=>by
  obtain⟨h1,h2,i,hi,h3⟩:=cOk_free (hall _ hn)
  exact⟨h1,h2,i,hi,h3⟩
 have hb:∀y j,(zo0 res scope.names).lookup y=some j->j<nx:=fun y j hy=>by
  obtain⟨h1,h2⟩:=zwu hy
  obtain⟨i,h3,h4⟩:=(hfree y h1).slot
  obtain rfl:=zaa (h2.symm.trans h3)
  exact h4
 have b:=tgt_ok (env:=env) rfl (fun n hn=>(hfree n hn).free) hb ht
 refine⟨hkind,fun n n' h1 h2=>one_cell (of_decide_eq_true h1c) h1 h2,fun n hn hm=>(nomatch ((zpg (hall _ hm)).1 rfl).symm.trans (hfree n hn).free),fun y hy q=>(zpg (hall y hy)).2 q,fun n hn=>?_,rfl,rfl,fun x i hx=>?_,b.n,b.tg⟩
 ·have:env.kindOf n=nm.lookup n:=by rw[<- hnm];rfl
  rw[this]
  obtain⟨i,h3,_⟩:=(hfree n hn).slot
  exact⟨(hfree n hn).kind,i,h3⟩
 ·obtain⟨h1,h2⟩:=zwu hx
  exact⟨h2,h1,(hfree x h1).free,(b.sub x i hx h1).1,(b.sub x i hx h1).2⟩
theorem zk4{nm:List (Str×NameKind)}{f:Str}{env:Env}(hnm:env.scope.names=nm)(h:zkw nm f=true):env.kindOf f=some .globalImplicit/\(f==("__debug__":Str))=false:=by
 obtain⟨h1,h2⟩:=zag.mp h
 refine⟨?_,(zmg h1).1⟩
 show List.lookup f env.scope.names=_
 rw[hnm];exact beq_iff_eq.mp h2
theorem zp6{iter:Expr}{env:Env}(h:zjc iter=true):∀x,foldedSetIterable iter env x=pure x:=fun x=>by
 cases iter<;>first |rfl |cases h
theorem zn9{gs:List Comprehension}{g:Expr×Expr×List Expr}(h:genOf gs=some g):gs=[⟨g.1,g.2.1,g.2.2,0⟩]:=by
 match gs,h with
 |[⟨a,b,c,d⟩],h=>
  obtain⟨h0,rfl⟩:=iteS h
  obtain rfl:d=0:=h0
  rfl
section
variable {env:Env}{nm:List (Str×NameKind)}{res:Res}{r:Expr->Option Ex}
theorem zvv{k:Const}{n:Nat}{p:Pos}{x:Ex}(h:constE k=some x):Both c env res (.Constant k n p) x:=by
 cases k with
 |int=>obtain rfl:=zaa h;exact zcp zvz rfl
 |str=>obtain rfl:=zaa h;exact zcp zwy rfl
 |bool=>obtain rfl:=zaa h;exact zcp zsl rfl
 |none=>obtain rfl:=zaa h;exact zcp zsu rfl
 |_=>cases h
theorem nameE_ok(O:c.Ok)(TO:TabOk c T)(hnm:env.scope.names=nm){y:Str}{p:Pos}{x:Ex}(h:nameE T nm res y=some x):Both c env res (.Name y p) x:=by
 obtain⟨h1,h⟩:=iteO h
 obtain⟨n1,n2⟩:=zmg h1
 cases h2:res.lookup y with
 |some i=>
  rw[h2] at h
  obtain rfl:=zaa h
  exact zcp (znq h2 n1 n2) rfl
 |none=>
  rw[h2] at h
  obtain⟨h2,h⟩:=iteO h
  obtain⟨v,h3,rfl⟩:=zaj.mp h
  obtain⟨g,h4,h5⟩:=zad.mp h3
  cases g with
  |val w=>
   obtain rfl:=zaa h5
   obtain⟨q,hr,hR⟩:=TO.val _ _ h4
   refine zcp (zso O ?_ hr hR n1) rfl
   show List.lookup _ env.scope.names=_
   rw[hnm];exact beq_iff_eq.mp h2
  |_=>cases h5
theorem zup(ih:∀e x,r e=some x->Both c env res e x){o:Option Expr}{y:Ex}(q:optE r o=some y):zrc c env res o y:=by
 cases o with
 |none=>exact(zaa q).symm
 |some e=>exact(ih _ _ q).1
theorem subE_ok(ih:∀e x,r e=some x->Both c env res e x){l i:Expr}{p:Pos}{x:Ex}(h:subE r l i=some x):Both c env res (.Subscript l i p) x:=by
 obtain⟨a,h1,h2⟩:=zad.mp h
 cases hs:slOf i with
 |none=>
  rw[hs] at h2
  obtain⟨y,h3,rfl⟩:=zaj.mp h2
  exact zcp (zxo (ih _ _ h1).1 (ih _ _ h3).1) rfl
 |some q=>
  rw[hs] at h2
  obtain⟨lo,hi,st⟩:=q
  obtain⟨p',rfl⟩:=slOf_inv hs
  cases st with
  |none=>
   obtain⟨y,h3,h4⟩:=zad.mp (show(optE r lo).bind _=some x from h2)
   obtain⟨z,h5,rfl⟩:=zaj.mp h4
   exact zcp (zp9 (ih _ _ h1).1 (zup ih h3) (zup ih h5)) rfl
  |some s=>
   obtain⟨⟨h3,h4,h5⟩,rfl⟩:=iteS h2
   obtain⟨k,q,q',rfl⟩:=zto h3
   obtain rfl:lo=none:=h4
   obtain rfl:hi=none:=h5
   exact zcp (zvp (ih _ _ h1).1) rfl
theorem isiE_ok(O:c.Ok)(TO:TabOk c T)(hnm:env.scope.names=nm)(ih:∀e x,r e=some x->Both c env res e x){f:Str}{es:List Expr}{p p':Pos}{x:Ex}(h1:zkw nm f=true)(h2:T.g.lookup f=some .isi)(h:isiE T nm r es=some x):Both c env res (.Call (.Name f p) es [] p') x:=by
 match es,h with
 |[e,t],h=>
  obtain⟨t,ht,k⟩:=zad.mp h
  obtain⟨q,rfl⟩:=zc2 ht
  obtain⟨tc,h4,k⟩:=zad.mp k
  obtain⟨y,h5,k6⟩:=zad.mp k
  obtain⟨⟨h6,h7⟩,rfl⟩:=iteS k6
  obtain⟨rfl,g1,g2⟩:=TO.isi _ h2
  obtain⟨k1,_⟩:=zk4 hnm h1
  obtain⟨k2,k3⟩:=zk4 hnm h6
  cases TO.ty _ _ h4 with
  |mk S s1 s2 s3 s4=>subst s2;exact zcp (zvm O s1 k1 k2 g1 g2 s3 s4 k3 h7 (ih _ _ h5).1) rfl
theorem callE_ok(O:c.Ok)(TO:TabOk c T)(hnm:env.scope.names=nm)(ih:∀e x,r e=some x->Both c env res e x){f:Expr}{es:List Expr}{p:Pos}{x:Ex}(h:callE T nm r f es p=some x):Both c env res (.Call f es [] p) x:=by
 unfold callE at h
 cases hf:zfq f with
 |some f'=>
  rw[hf] at h
  obtain⟨p',rfl⟩:=zc2 hf
  by_cases hj:f'=zcj
  ·replace h:=(if_pos hj).symm.trans h
   obtain⟨xs,m3,h4⟩:=zad.mp h
   obtain⟨h5,rfl⟩:=iteS h4
   rw[hj];exact zcp (zqb O TO.lam (zdz ih m3 h5.1) h5.2) rfl
  replace h:=(if_neg hj).symm.trans h
  obtain⟨h1,h⟩:=iteO h
  obtain⟨k1,k2⟩:=zk4 hnm h1
  obtain⟨g,h2,h3⟩:=zad.mp h
  cases g with
  |fn=>
   obtain⟨xs,m3,h4⟩:=zad.mp (show(mapO r es).bind _=some x from h3)
   obtain⟨h5,rfl⟩:=iteS h4
   obtain⟨a,o,fd,g1,g2,g3⟩:=TO.fn _ h2
   exact zcp (zls O k1 g1 g2 g3 k2 (zdz ih m3 h5.1) h5.2) rfl
  |blt b=>
   obtain⟨xs,m3,h4⟩:=zad.mp (show(mapO r es).bind _=some x from h3)
   obtain⟨h5,rfl⟩:=iteS h4
   obtain⟨g1,g2⟩:=TO.blt _ _ h2
   exact zcp (zut O k1 g1 g2 k2 (zdz ih m3 h5.1) h5.2) rfl
  |isi=>exact isiE_ok O TO hnm ih h1 h2 h3
  |_=>cases h3
 |none=>
  rw[hf] at h
  obtain⟨q,ha,h'⟩:=zad.mp h
  clear h
  obtain rfl:=ztc ha
  obtain⟨me,h1,k⟩:=zad.mp h'
  obtain⟨y,h2,k2⟩:=zad.mp k
  obtain⟨xs,h3,k3⟩:=zad.mp k2
  obtain⟨h4,rfl⟩:=iteS k3
  rw[meOf_nm h1]
  exact zcp (zsk h4.1.2 h4.2.1 h4.2.2 (ih _ _ h2).1 (zdz ih h3 h4.1.1)) rfl
end
theorem zdy(O:c.Ok)(TO:TabOk c T):∀n {nm:List (Str×NameKind)}{res:Res}{nx:Nat}{e:Expr}{x:Ex}{env:Env},eE T n nm res nx e=some x->env.scope.names=nm->env.scope.kind=.function->Both c env res e x
 |0,_,_,_,_,_,_,h,_,_=>nomatch h
 |n+1,nm,res,nx,e,x,env,h,hnm,hef=>by
  have ih:∀e x,eE T n nm res nx e=some x->Both c env res e x:=fun e x h=>zdy O TO n h hnm hef
  cases e with
  |Constant k i p=>exact zvv h
  |Name y p=>exact nameE_ok O TO hnm h
  |Tuple es k p=>
   obtain⟨xs,h1,h2⟩:=zad.mp (show(mapO _ es).bind _=some x from h)
   obtain⟨h3,rfl⟩:=iteS h2
   exact zcp (zwo (zdz ih h1 h3.1) h3.2) rfl
  |List es p=>
   obtain⟨xs,h1,h2⟩:=zad.mp (show(mapO _ es).bind _=some x from h)
   obtain⟨h3,rfl⟩:=iteS h2
   exact zcp (ztr (zdz ih h1 h3.1) h3.2) rfl
  |Dict ks vs p=>
   obtain⟨h3,rfl⟩:=iteS h
   obtain rfl:ks=[]:=h3.1
   obtain rfl:vs=[]:=h3.2
   exact zcp zqp rfl
  |BinOp l op r p=>
   obtain⟨o,h1,h2⟩:=zad.mp (show(opOf op).bind _=some x from h)
   obtain⟨a,h3,h4⟩:=zad.mp h2
   obtain⟨b,h5,rfl⟩:=zaj.mp h4
   rw[zub h1]
   exact zcp (zvt O (ih _ _ h3).1 (ih _ _ h5).1) rfl
  |UnaryOp o l p=>
   obtain⟨f,h1,h2⟩:=zad.mp (show(unE o).bind _=some x from h)
   obtain⟨a,h3,rfl⟩:=zaj.mp h2
   cases o with
   |USub=>obtain rfl:=zaa h1;exact zcp (zvq (ih _ _ h3).1) rfl
   |Not=>obtain rfl:=zaa h1;exact⟨zwz (ih _ _ h3).1,zs5 (ih _ _ h3).2⟩
   |_=>cases h1
  |BoolOp o es p=>
   obtain⟨xs,h1,rfl⟩:=zaj.mp (show(mapO _ es).map _=some x from h)
   cases o with
   |And=>exact⟨zve (zej ih h1),zsy (zek ih h1)⟩
   |Or=>exact⟨sound_or (zej ih h1),zxi (zek ih h1)⟩
  |Compare l ops es p=>
   obtain⟨ps,h1,h2⟩:=zad.mp (show(mapO _ ops).bind _=some x from h)
   obtain⟨a,h3,h4⟩:=zad.mp h2
   obtain⟨xs,h5,h6⟩:=zad.mp h4
   obtain⟨h7,rfl⟩:=iteS h6
   rw[zmk h1]
   exact⟨zt6 (ih _ _ h3).1 (zej ih h5) h7.2 h7.1,ztf (ih _ _ h3).1 (zej ih h5) h7.2 h7.1⟩
  |Subscript l i p=>exact subE_ok ih h
  |Call f es kw p=>
   obtain⟨h3,h2⟩:=iteO h
   obtain rfl:kw=[]:=h3
   exact callE_ok O TO hnm ih h2
  |ListComp elt gs scope p=>
   obtain⟨g,h1,h2⟩:=zad.mp (show(genOf gs).bind _=some x from h)
   obtain⟨q,h3,h4⟩:=zad.mp h2
   obtain⟨h5,h6⟩:=iteO h3
   obtain⟨xs,h7,h8⟩:=zad.mp h4
   obtain⟨y,h9,h10⟩:=zad.mp h8
   obtain⟨ys,h11,rfl⟩:=zaj.mp h10
   obtain rfl:=zn9 h1
   have sub:∀cenv:Env,cenv.scope=relabel scope env->∀e x,eE T n (relN nm scope.names) q.1 q.2.2 e=some x->Both c cenv q.1 e x:=fun cenv hcs e x h=>zdy O TO n h (by rw[hcs];exact zh6 hnm hef) (by rw[hcs];exact h5.1.2)
   exact zcp (zt0 (zkz (c:=c) hnm h5.1.1 h5.1.2 h6) (zp6 h5.2) (ih _ _ h7).1 (fun cenv hcs=>(sub cenv hcs _ _ h9).1) fun cenv hcs=>zek (sub cenv hcs) h11) rfl
  |_=>cases h
end
end Bn
namespace Bn
open PySem PyProof.Rows
noncomputable def stIx(nm:List (Str×NameKind))(res:Res)(y:Str):Option Nat:=
 (res.lookup y).bind fun i=>if(nm.lookup y=some .local\/nm.lookup y=some .cell)/\y≠zcj/\res.fr=true then some i else none
noncomputable def znh(res:Res):Bool:=decide ((res.t.map (·.2)).Nodup)&&res.t.all fun p=>decide (p.2<res.n)
noncomputable def stE(nm:List (Str×NameKind))(res:Res)(e:Expr):Option Nat:=(zfq e).bind (stIx nm res)
noncomputable def tg2(nm:List (Str×NameKind))(res:Res)(e:Expr):Option Tg:=match ev e with
 |.name x _ _=>(stIx nm res x).map .one
 |.tup es _ _ _=>(mapO (stE nm res) es).bind fun l=>match l with
  |[i,j]=>some (.two i j)
  |_=>none
 |_=>none
noncomputable def isTup:Expr->Bool
 |.Tuple ..=>true
 |_=>false
noncomputable def zwp:Expr->Bool
 |.ListComp .. |.SetComp .. |.DictComp ..=>true
 |_=>false
noncomputable def one1{α β:Type}(l:List α)(f:α->Option β):Option β:=match l with
 |[]=>none
 |x::r=>match r with
  |[]=>f x
  |_::_=>none
theorem zrr{α β:Type}{l:List α}{f:α->Option β}{r:β}(h:one1 l f=some r):∃x,l=[x]/\f x=some r:=by
 cases l with
 |nil=>cases h
 |cons x l=>cases l with
  |nil=>exact⟨x,rfl,h⟩
  |cons=>cases h
noncomputable def srOf(e:Expr):Option (Str×Expr):=match ev e with
 |.call f es kw _ _=>(zfq f).bind fun x=>one1 es fun e=>if kw=[] then some (x,e) else none
 |_=>none
theorem zsa{i e:Expr}{f:Str}(h:srOf i=some (f,e)):∃p p',i=.Call (.Name f p) [e] [] p':=by
 unfold srOf at h
 generalize ev i=v at h
 cases v with
 |call g es kw p' q=>
  obtain⟨x,h1,k⟩:=zad.mp h
  obtain⟨e',rfl,k2⟩:=zrr k
  obtain⟨h2,k3⟩:=iteS k2
  obtain⟨p,rfl⟩:=zc2 h1
  cases k3
  obtain rfl:kw=[]:=h2
  exact⟨p,p',q⟩
 |_=>cases h
noncomputable def srK(r:Expr->Option Ex)(tg:Expr)(e:Expr)(dflt:Option Sr)(g:Gk):Option Sr:=match g with
 |.enum=>if isTup tg=true then(r e).map .enum else none
 |.rev=>(r e).map .rev
 |_=>dflt
noncomputable def eSr(T:Tab)(n:Nat)(nm:List (Str×NameKind))(res:Res)(nx:Nat)(tg:Expr)(iter:Expr):Option Sr:=
 match(srOf iter).bind fun q=>if zkw nm q.1=true/\zcz q.2=true then(T.g.lookup q.1).map fun g=>(q,g) else none with
 |some q=>srK (eE T n nm res nx) tg q.1.2 ((eE T n nm res nx iter).map .val) q.2
 |none=>(eE T n nm res nx iter).map .val
noncomputable def asgE(T:Tab)(n:Nat)(nm:List (Str×NameKind))(res:Res)(nx:Nat)(e:Expr)(t:Expr):Option St:=match ev t with
 |.name y _ _=>(stIx nm res y).bind fun i=>(eE T n nm res nx e).map fun x=>.set i x
 |.tup es _ _ _=>(mapO (stE nm res) es).bind fun is=>(eE T n nm res nx e).bind fun x=>if isTup e=false then some (.unp is x) else none
 |.sub o i _ _=>(eE T n nm res nx o).bind fun a=>(eE T n nm res nx i).bind fun j=>(eE T n nm res nx e).map fun x=>.put a j x
 |_=>none
noncomputable def eS(T:Tab):Nat->List (Str×NameKind)->Res->Nat->Stmt->Option St
 |0,_,_,_,_=>none
 |n+1,nm,res,nx,st=>match st with
  |.Assign ts e _=>one1 ts (asgE T n nm res nx e)
  |.Expr e _=>if zwp e=false then(eE T n nm res nx e).map .expr else none
  |.Return o _=>o.bind fun e=>(eE T n nm res nx e).map .ret
  |.If t a b _=>(eE T n nm res nx t).bind fun x=>(mapO (eS T n nm res nx) a).bind fun xa=>(mapO (eS T n nm res nx) b).map fun xb=>.ite x xa xb
  |.While t b els _=>if els=[] then(eE T n nm res nx t).bind fun x=>(mapO (eS T n nm res nx) b).map fun xb=>.whil x xb else none
  |.For tg iter b els _=>if zjc iter=true/\els=[] then(tg2 nm res tg).bind fun t=>(eSr T n nm res nx tg iter).bind fun sr=>(mapO (eS T n nm res nx) b).map fun xb=>.loop t sr xb else none
  |.Raise ..=>some .stuck
  |.Try ..=>some .stuck
  |_=>none
section
variable {c:Cx}{T:Tab}{env:Env}{res:Res}{X:List Addr}{nm:List (Str×NameKind)}
theorem zjg:∀{l:List (Str×Nat)},(l.map (·.2)).Nodup->∀{x y:Str} {i:Nat},l.lookup x=some i->l.lookup y=some i->x=y
 |[],_,_,_,_,h,_=>by simp at h
 |(k,v)::l,hn,x,y,i,hx,hy=>by
  rw[zbg,zb5] at hn
  rw[za1] at hx hy
  have notin:∀{z:Str},l.lookup z=some i->v≠i:=fun{z} hz q=>hn.1 (by
   rw[zak];exact⟨(z,i),mem_of_lookup hz,q.symm⟩)
  cases h1:x==k with
  |true=>
   rw[h1] at hx;simp at hx
   cases h2:y==k with
   |true=>rw[beq_iff_eq.mp h1,beq_iff_eq.mp h2]
   |false=>rw[h2] at hy;exact absurd hx (notin hy)
  |false=>
   rw[h1] at hx
   cases h2:y==k with
   |true=>rw[h2] at hy;simp at hy;exact absurd hy (notin hx)
   |false=>rw[h2] at hy;exact zjg hn.2 hx hy
theorem zne (hr:znh res=true) (hnm:env.scope.names=nm) {y:Str} {i:Nat} (h:stIx nm res y=some i):StoreOk allY env res res y i:=by
 obtain⟨j,hj,h⟩:=zad.mp h
 obtain⟨hc,rfl⟩:=iteS h
 obtain⟨r1,r2⟩:=zag.mp hr
 have hk:env.kindOf y=nm.lookup y:=by rw[<- hnm];rfl
 refine⟨⟨rfl,rfl,fun z k hz=>?_,of_decide_eq_true (za5.mp r2 _ (mem_of_lookup hj)),hc.2.1,.inr hc.2.2⟩,?_⟩
 ·by_cases q:z=y
  ·subst q;exact .inl ⟨rfl,zaa (hz.symm.trans hj)⟩
  ·exact .inr ⟨q,hz,fun e=>q (zjg (of_decide_eq_true r1) hz (e▸hj))⟩
 ·rw[hk]
  exact hc.1.imp id fun h=>⟨rfl,h⟩
theorem zkx(hr:znh res=true)(hnm:env.scope.names=nm):∀{es:List Expr}{is:List Nat},mapO (stE nm res) es=some is->zf5 allY env res res es is
 |[],is,h=>by obtain rfl:=zaa h;exact⟨rfl,rfl⟩
 |e::es,is,h=>by
  obtain⟨i,is,h1,h2,rfl⟩:=zdj h
  obtain⟨x,h3,h4⟩:=zad.mp h1
  obtain⟨p,rfl⟩:=zc2 h3
  exact⟨x,p,res,rfl,zne hr hnm h4,zkx hr hnm h2⟩
theorem tg2_ok(hr:znh res=true)(hnm:env.scope.names=nm){tg:Expr}{t:Tg}(h:tg2 nm res tg=some t):TgOk allY env res res tg t:=by
 unfold tg2 at h
 generalize ev tg=v at h
 cases v with
 |name x p e=>
  obtain⟨i,h1,rfl⟩:=zaj.mp h
  exact⟨x,p,e,zne hr hnm h1⟩
 |tup es k p e=>
  obtain⟨l,h1,k2⟩:=zad.mp h
  match l,k2,h1 with
  |[i,j],k2,h1=>
   obtain rfl:=zaa k2
   exact⟨es,k,p,e,zkx hr hnm h1⟩
 |_=>cases h
theorem zkr{st:Stmt}:ze5 c env res X st .stuck:=fun A q d k loc φ H s Q E hA hh hF hS hw=>False.elim hw
theorem zr7{e:Expr}{t:Option Expr}{l:Nat}(h:zwp e=false):swapsWith e t l env=pure false:=by
 cases e<;>first |rfl |cases h
theorem znf{es:List Expr}{k:Nat}{p:Pos}{e:Expr}{l:Nat}:swapsWithSole [.Tuple es k p] e l env=pure false:=by cases e<;>rfl
theorem zom{es:List Expr}{k:Nat}{p:Pos}{e:Expr}(h:isTup e=false):swappedStores [.Tuple es k p] e env=pure none:=by cases e<;>first |rfl |cases h
theorem zwc{o i e:Expr}{p:Pos}{l:Nat}:swapsWith e (some (.Subscript o i p)) l env=pure false:=by cases e<;>rfl
theorem zwb(O:c.Ok)(TO:TabOk c T){n nx:Nat}{tg iter:Expr}{sr:Sr}(h:eSr T n nm res nx tg iter=some sr)(hnm:env.scope.names=nm)(hef:env.scope.kind=.function):ziz c env res tg iter sr:=by
 have val:(eE T n nm res nx iter).map .val=some sr->ziz c env res tg iter sr:=fun h=>by
  obtain⟨x,h1,rfl⟩:=zaj.mp h
  exact sr_val (zdy O TO n h1 hnm hef).1
 unfold eSr at h
 cases hs:((srOf iter).bind fun q=>if zkw nm q.1=true/\zcz q.2=true then(T.g.lookup q.1).map fun g=>(q,g) else none) with
 |none=>rw[hs] at h;exact val h
 |some q=>
  rw[hs] at h
  obtain⟨⟨f,e⟩,h1,h2⟩:=zad.mp hs
  obtain⟨h3,h4⟩:=iteO h2
  obtain⟨g,h5,rfl⟩:=zaj.mp h4
  obtain⟨k1,k2⟩:=zk4 hnm h3.1
  cases g with
  |enum=>
   obtain⟨p,p',rfl⟩:=zsa h1
   obtain⟨g1,g2⟩:=TO.enum _ h5
   obtain⟨ht,h⟩:=iteO h
   obtain⟨x,h6,rfl⟩:=zaj.mp h
   cases tg with
   |Tuple=>exact sr_enum O k1 g1 g2 k2 h3.2 (zdy O TO n h6 hnm hef).1
   |_=>cases ht
  |rev=>
   obtain⟨p,p',rfl⟩:=zsa h1
   obtain⟨g1,g2⟩:=TO.rev _ h5
   obtain⟨x,h6,rfl⟩:=zaj.mp h
   exact sr_rev O k1 g1 g2 k2 h3.2 (zdy O TO n h6 hnm hef).1
  |_=>exact val h
theorem zwm(O:c.Ok)(TO:TabOk c T){n nx:Nat}{y:Str}{py pos:Pos}{i:Nat}{e:Expr}{x:Ex}(hX:EnvX allY env X)(hy:StoreOk allY env res res y i)(h:eE T n nm res nx e=some x)(hnm:env.scope.names=nm)(hef:env.scope.kind=.function) :
  ze5 c env res X (.Assign [.Name y py] e pos) (.set i x):=by
 cases hc:zwp e with
 |false=>exact zov hX (zdy O TO n h hnm hef).1 (zr7 hc) hy
 |true=>
  cases n with
  |zero=>cases h
  |succ n=>
   cases e with
   |ListComp elt gs scope cpos=>
    cases hb:(env.blockKind==.function&&env.kindOf y==some .local&&py.line==cpos.line&&!(scope.names.any fun(n,k)=>n==y&&(k==.local||k==.cell))) with
    |false=>
     refine zov hX (zdy O TO (n+1) h hnm hef).1 ?_ hy
     show(pure _:Sem Bool)=pure false
     rw[<- hb];rfl
    |true=>
     obtain⟨g,h1,h2⟩:=zad.mp (show(genOf gs).bind _=some x from h)
     obtain⟨q,h3,h4⟩:=zad.mp h2
     obtain⟨h5,h6⟩:=iteO h3
     obtain⟨xs,h7,h8⟩:=zad.mp h4
     obtain⟨z,h9,h10⟩:=zad.mp h8
     obtain⟨ys,h11,rfl⟩:=zaj.mp h10
     obtain rfl:=zn9 h1
     have sub:∀cenv:Env,cenv.scope=relabel scope env->∀e x,eE T n (relN nm scope.names) q.1 q.2.2 e=some x->Both c cenv q.1 e x:=fun cenv hcs e x h=>zdy O TO n h (by rw[hcs];exact zh6 hnm hef) (by rw[hcs];exact h5.1.2)
     refine zna hX (zkz (c:=c) hnm h5.1.1 h5.1.2 h6) (zp6 h5.2) (zdy O TO n h7 hnm hef).1 (fun cenv hcs=>(sub cenv hcs _ _ h9).1) (fun cenv hcs=>zek (sub cenv hcs) h11) ?_ hy
     show(pure _:Sem Bool)=pure true
     rw[<- hb];rfl
   |_=>first |(cases hc;done) |(cases h;done)
theorem zjs(O:c.Ok)(TO:TabOk c T)(hX:EnvX allY env X)(hr:znh res=true)(hnm:env.scope.names=nm)(hef:env.scope.kind=.function):∀n {nx:Nat}{st:Stmt}{x:St},eS T n nm res nx st=some x->ze5 c env res X st x
 |0,_,_,_,h=>nomatch h
 |n+1,nx,st,x,h=>by
  have ih:=@zjs O TO hX hr hnm hef n
  have list:∀{ss:List Stmt} {xs:List St},mapO (eS T n nm res nx) ss=some xs->ze7 c env res X ss xs:=fun{ss}=>by
   induction ss with
   |nil=>intro xs h;obtain rfl:=zaa h;exact zkc
   |cons s ss ihs=>
    intro xs h
    obtain⟨y,ys,h1,h2,rfl⟩:=zdj h
    exact zg5 (ih h1) (ihs h2)
  have es:∀{e:Expr} {x:Ex},eE T n nm res nx e=some x->Both c env res e x:=fun h=>zdy O TO n h hnm hef
  cases st with
  |Assign ts e p=>
   obtain⟨t,rfl,k⟩:=zrr (show one1 ts _=some x from h)
   clear h
   unfold asgE at k
   generalize ev t=v at k
   cases v with
   |name y p q=>
    obtain⟨i,h1,k⟩:=zad.mp k
    obtain⟨z,h2,rfl⟩:=zaj.mp k
    rw[q]
    exact zwm O TO hX (zne hr hnm h1) h2 hnm hef
   |tup es' y p q=>
    obtain⟨is,h1,k⟩:=zad.mp k
    obtain⟨z,h2,k⟩:=zad.mp k
    obtain⟨h3,rfl⟩:=iteS k
    rw[q]
    exact zuj hX (es h2).1 znf (zom h3) (zkx hr hnm h1)
   |sub o i p q=>
    obtain⟨a,h1,k⟩:=zad.mp k
    obtain⟨j,h2,k⟩:=zad.mp k
    obtain⟨z,h3,rfl⟩:=zaj.mp k
    rw[q]
    exact zv8 hX (es h1).1 (es h2).1 (es h3).1 zwc
   |_=>cases k
  |Expr e p=>
   obtain⟨h1,k⟩:=iteO h
   obtain⟨y,h2,rfl⟩:=zaj.mp k
   exact zsj hX (es h2).1 (zr7 h1)
  |Return o p=>
   obtain⟨e,rfl,k⟩:=zad.mp (show o.bind _=some x from h)
   obtain⟨y,h2,rfl⟩:=zaj.mp k
   exact zpa hX (es h2).1
  |If t a b p=>
   obtain⟨y,h1,k⟩:=zad.mp (show(eE T n nm res nx t).bind _=some x from h)
   obtain⟨xa,h2,k⟩:=zad.mp k
   obtain⟨xb,h3,rfl⟩:=zaj.mp k
   exact zuq hX (es h1).2 (list h2) (list h3)
  |While t b els p=>
   obtain⟨h0,k⟩:=iteO h
   obtain rfl:els=[]:=h0
   obtain⟨y,h1,k⟩:=zad.mp k
   obtain⟨xb,h2,rfl⟩:=zaj.mp k
   exact zqg hX (es h1).2 (list h2)
  |For tg iter b els p=>
   obtain⟨h0,k⟩:=iteO h
   obtain rfl:els=[]:=h0.2
   obtain⟨t,h2,k⟩:=zad.mp k
   obtain⟨sr,h3,k⟩:=zad.mp k
   obtain⟨xb,h4,rfl⟩:=zaj.mp k
   exact zw1 hX (zp6 h0.1) (zwb O TO h3 hnm hef) (tg2_ok hr hnm h2) (list h4)
  |Raise _ _ _=>obtain rfl:=zaa h;exact zkr
  |Try _ _ _ _ _=>obtain rfl:=zaa h;exact zkr
  |_=>cases h
end
end Bn
namespace Bn
open PySem PyProof.Rows
theorem zgr:∀{ps:List Str}{vals:List Value},vals.length=ps.length->∀n∈ps,((ps.zip vals).lookup n).isSome=true
 |[],_,_,n,hn=>by cases hn
 |p::ps,v::vals,hl,n,hn=>by
  rw[List.zip_cons_cons,za1]
  cases hb:n==p with
  |true=>rfl
  |false=>
   rcases zal.mp hn with rfl |hn
   ·simp at hb
   ·exact zgr (by simpa using hl) n hn
 |_::_,[],hl,_,_=>by simp at hl
theorem zhb{α β:Type}{f g:α->Option β}:∀{l:List α},(∀a∈l,f a=g a)->l.filterMap f=l.filterMap g
 |[],_=>rfl
 |a::l,h=>by
  rw[List.filterMap_cons,List.filterMap_cons,h a zae,zhb fun b hb=>h b (zai _ hb)]
theorem zil:∀{ps:List Str}{vals:List Value},ps.Nodup->vals.length=ps.length->ps.filterMap (fun n=>((ps.zip vals).lookup n).map (n,·))=ps.zip vals
 |[],_,_,_=>by simp
 |p::ps,v::vals,hn,hl=>by
  rw[zb5] at hn
  rw[List.zip_cons_cons,List.filterMap_cons]
  simp only[List.lookup_cons_self,Option.map_some]
  congr 1
  have ih:=zil hn.2 (show vals.length=ps.length by simpa using hl)
  rw[<- ih]
  refine zhb fun n hm=>?_
  have hne:(n==p)=false:=by
   rw[beq_eq_false_iff_ne];rintro rfl;exact hn.1 hm
  rw[za1,hne,ih]
 |_::_,[],_,hl=>by simp at hl
theorem zgw{fd:FuncData}(hdv:fd.defaults=.none)(hkv:fd.kwdefaults=.none)(h1:fd.params.posonlyargs=[])(h2:fd.params.kwonlyargs=[])(h3:fd.params.vararg=none)(h4:fd.params.kwarg=none)
  (hn:(fd.params.args.map (·.arg)).Nodup) (vals:List Value) (hl:vals.length=(fd.params.args.map (·.arg)).length):bindArgs fd ⟨vals,[]⟩=pure ((fd.params.args.map (·.arg)).zip vals):=by
 obtain⟨_,_,⟨pos,args,va,ko,kd,ka,df⟩,_,_,_,_,dv,kv,_,_,_,_,_,_⟩:=fd
 dsimp only at hdv hkv h1 h2 h3 h4 hn hl ⊢
 subst hdv hkv h1 h2 h3 h4
 generalize hg:args.map (·.arg)=l at hn hl ⊢
 have hmiss:¬((!((l.take (l.length-(List.drop (0-l.length) ([]:List Value)).length)).filter (fun n=>((l.zip vals).lookup n).isNone)).isEmpty)=true):=by
  rw[List.drop_nil,List.length_nil,Nat.sub_zero,List.take_length,List.filter_eq_nil_iff.mpr]
  ·exact fun h=>nomatch h
  ·intro n hm h
   have:=zgr hl n hm
   rw[zcd.mp h] at this
   cases this
 subst hg
 refine(if_neg (c:=(decide (vals.length>(args.map (·.arg)).length)&&true)=true) ?_).trans ((if_neg hmiss).trans ?_)
 ·rw[hl,decide_eq_false (zbb _)];exact fun h=>nomatch h
 ·have e:∀{α:Type} (k:Nat) (m:List (Str×Value)->Sem α) (f:Str×Value->List (Str×Value)->Sem (ForInStep (List (Str×Value)))) (s:List (Str×Value)),(forIn (((args.map (·.arg)).drop k).zip (List.drop (0-(args.map (·.arg)).length) ([]:List Value))) s f >>=m)=m s:=fun k m f s=>by
   rw[List.drop_nil,List.zip_nil_right,List.forIn_nil,pure_bind]
  refine(e _ _ _ _).trans ?_
  show(pure ((args.map (fun x=>Arg.arg x)++[]).filterMap _):Sem (List (Str×Value)))=_
  rw[za9]
  exact congrArg pure (zil hn hl)
noncomputable def slots(names:List (Str×NameKind)):List Str:=(names.filter fun p=>(p.2==.local||p.2==.cell)&&p.1!=zcj).map (·.1)
noncomputable def zgo(names:List (Str×NameKind))(r:Nat):Res:=⟨true,(slots names).length+r,(slots names).zip (List.range (slots names).length)⟩
noncomputable def zjq(names:List (Str×NameKind))(x:Str):Bool:=names.lookup x==some .local||names.lookup x==some .cell
noncomputable def zth(nm:List (Str×NameKind))(res:Res):List Str->Nat->Bool
 |[],i=>decide (i<=res.n)
 |x::r,i=>stIx nm res x==some i&&zth nm res r (i+1)
structure FunC(e:DefItem)(r:Nat):Prop where
 p1:e.params.posonlyargs=[]
 p2:e.params.kwonlyargs=[]
 p3:e.params.vararg=none
 p4:e.params.kwarg=none
 p5:(e.params.args.map (·.arg)).Nodup
 p6:e.scope.kind=.function
 p7:e.scope.isCoroutine=false
 p8:e.scope.isGenerator=false
 p10:znh (zgo e.scope.names r)=true
 p11:(slots e.scope.names).all (zjq e.scope.names)=true
 p12:zth e.scope.names (zgo e.scope.names r) (e.params.args.map (·.arg)) 0=true
noncomputable def funOk(e:DefItem)(r:Nat):Bool:=
 e.params.posonlyargs.isEmpty&&(e.params.kwonlyargs.isEmpty&&(e.params.vararg.isNone&&(e.params.kwarg.isNone&&(decide ((e.params.args.map (·.arg)).Nodup) &&
 (e.scope.kind==.function&&(!e.scope.isCoroutine&&(!e.scope.isGenerator&&(znh (zgo e.scope.names r)&&((slots e.scope.names).all (zjq e.scope.names)&&zth e.scope.names (zgo e.scope.names r) (e.params.args.map (·.arg)) 0)))))))))
theorem zph{e:DefItem}{r:Nat}(h:funOk e r=true):FunC e r:=by
 obtain⟨p1,h⟩:=zag.mp h
 obtain⟨p2,h⟩:=zag.mp h
 obtain⟨p3,h⟩:=zag.mp h
 obtain⟨p4,h⟩:=zag.mp h
 obtain⟨p5,h⟩:=zag.mp h
 obtain⟨p6,h⟩:=zag.mp h
 obtain⟨p7,h⟩:=zag.mp h
 obtain⟨p8,h⟩:=zag.mp h
 obtain⟨p10,h⟩:=zag.mp h
 obtain⟨p11,p12⟩:=zag.mp h
 exact⟨zbn.mp p1,zbn.mp p2,zcd.mp p3,zcd.mp p4,of_decide_eq_true p5,beq_iff_eq.mp p6,(zbp _).mp p7,(zbp _).mp p8,p10,p11,p12⟩
noncomputable def eFun(T:Tab)(fuel r:Nat)(e:DefItem):Option (List St):=
 if funOk e r=true then mapO (eS T fuel e.scope.names (zgo e.scope.names r) (slots e.scope.names).length) e.body else none
section
variable {c:Cx}{T:Tab}
theorem ze2{env:Env}{nm:List (Str×NameKind)}{res:Res}(hr:znh res=true)(hnm:env.scope.names=nm):∀{ps:List Str}{i:Nat},zth nm res ps i=true->ziq env res ps i/\i+ps.length<=res.n
 |[],_,h=>⟨trivial,of_decide_eq_true h⟩
 |x::ps,i,h=>by
  obtain⟨h1,h2⟩:=zag.mp h
  obtain⟨h3,h4⟩:=ze2 hr hnm h2
  refine⟨⟨zne hr hnm (beq_iff_eq.mp h1),h3⟩,?_⟩
  rw[zbh,Nat.add_comm ps.length 1,<-Nat.add_assoc];exact h4
theorem zqe{env:Env}{res:Res}{X:List Addr}{f:Stmt->Option St}(hf:∀st x,f st=some x->ze5 c env res X st x):∀{ss:List Stmt}{xs:List St},mapO f ss=some xs->ze7 c env res X ss xs
 |[],_,h=>by obtain rfl:=zaa h;exact zkc
 |s::ss,_,h=>by
  obtain⟨y,ys,h1,h2,rfl⟩:=zdj h
  exact zg5 (hf _ _ h1) (zqe hf h2)
inductive DefAt(c:Cx)(e:DefItem):Prop
 |mk (a cc:Addr)(o:Obj)(pm doc:Value)(g1:c.g e.name=some (.ref a))(g2:c.h0.get? a=some o)(g3:o.data=.func (Calls.docDef e.name e.params e.body e.scope pm (.ref cc) doc))(g4:c.h0.CodeRec (.ref cc) e.name):DefAt c e
theorem zwf(O:c.Ok)(TO:TabOk c T){e:DefItem}(hat:DefAt c e){fuel r:Nat}{xs:List St}(he:eFun T fuel r e=some xs)
  {q:Bool} {d:Nat} {vs:List V} {Q:V->Hp->Prop} {E:XPost} {H:Hp} (hlen:vs.length=e.params.args.length)
  (hw:wpSs (Calls c) q d none xs (EndQ Q) (EndX E) (vs.map some++List.replicate ((slots e.scope.names).length+r-vs.length) none) H):Calls c q (d+1) e.name vs none Q E H:=by
 obtain⟨hok,he⟩:=iteO he
 have P:=zph hok
 obtain⟨a,cc,o,pm,doc,g1,g2,g3,g4⟩:=hat
 have K:FunOk c e.name a o (Calls.docDef e.name e.params e.body e.scope pm (.ref cc) doc) e.body (e.params.args.map (·.arg)) (e.params.args.map (·.arg)) (zgo e.scope.names r):=by
  refine⟨g1,g2,g3,g4,rfl,rfl,rfl,rfl,P.p6,P.p7,P.p8,fun vals hl=>zgw rfl rfl P.p1 P.p2 P.p3 P.p4 P.p5 vals hl,rfl,fun x i hx=>?_,fun L=>(ze2 P.p10 rfl P.p12).1,?_⟩
  ·exact(zb2.mp (za5.mp P.p11 x (List.of_mem_zip (mem_of_lookup (show List.lookup x _=some i from hx))).1)).imp beq_iff_eq.mp beq_iff_eq.mp
  ·have:=(ze2 (env:=callEnvC (Calls.docDef e.name e.params e.body e.scope pm (.ref cc) doc) 0 a) P.p10 rfl P.p12).2
   rw[Nat.zero_add] at this;exact this
 exact zsb O K (xs:=xs) (fun L hX=>zqe (fun _ _ h=>zjs O TO hX P.p10 rfl P.p6 fuel h) he) (by rw[hlen,zac]) hw
end
end Bn
namespace Bn
open PySem PyProof.Rows
structure FunJ(e:DefItem)(r:Nat)(ps:List Str):Prop where
 p1:e.params.posonlyargs=[]
 p2:e.params.kwonlyargs=[]
 p3:e.params.vararg=none
 p4:e.params.kwarg=none
 p5:(e.params.args.map (·.arg)).Nodup
 p6:e.scope.kind=.function
 p7:e.scope.isCoroutine=false
 p8:e.scope.isGenerator=false
 p10:znh (zgo e.scope.names r)=true
 p11:(slots e.scope.names).all (zjq e.scope.names)=true
 p12:zth e.scope.names (zgo e.scope.names r) ps 0=true
 p13:e.params.args.map (·.arg)=ps++[zcj]
 p14:e.scope.names.lookup zcj=some .local
noncomputable def funOkJ(e:DefItem)(r:Nat)(ps:List Str):Bool:=
 e.params.posonlyargs.isEmpty&&(e.params.kwonlyargs.isEmpty&&(e.params.vararg.isNone&&(e.params.kwarg.isNone&&(decide ((e.params.args.map (·.arg)).Nodup) &&
 (e.scope.kind==.function&&(!e.scope.isCoroutine&&(!e.scope.isGenerator&&(znh (zgo e.scope.names r)&&((slots e.scope.names).all (zjq e.scope.names)&&(zth e.scope.names (zgo e.scope.names r) ps 0 &&
 (decide (e.params.args.map (·.arg)=ps++[zcj])&&e.scope.names.lookup zcj==some .local)))))))))))
theorem zsv{e:DefItem}{r:Nat}{ps:List Str}(h:funOkJ e r ps=true):FunJ e r ps:=by
 obtain⟨p1,h⟩:=zag.mp h
 obtain⟨p2,h⟩:=zag.mp h
 obtain⟨p3,h⟩:=zag.mp h
 obtain⟨p4,h⟩:=zag.mp h
 obtain⟨p5,h⟩:=zag.mp h
 obtain⟨p6,h⟩:=zag.mp h
 obtain⟨p7,h⟩:=zag.mp h
 obtain⟨p8,h⟩:=zag.mp h
 obtain⟨p10,h⟩:=zag.mp h
 obtain⟨p11,h⟩:=zag.mp h
 obtain⟨p12,h⟩:=zag.mp h
 obtain⟨p13,p14⟩:=zag.mp h
 exact⟨zbn.mp p1,zbn.mp p2,zcd.mp p3,zcd.mp p4,of_decide_eq_true p5,beq_iff_eq.mp p6,(zbp _).mp p7,(zbp _).mp p8,p10,p11,p12,of_decide_eq_true p13,beq_iff_eq.mp p14⟩
noncomputable def eFunJ(T:Tab)(fuel r:Nat)(ps:List Str)(e:DefItem):Option (List St):=
 if funOkJ e r ps=true then mapO (eS T fuel e.scope.names (zgo e.scope.names r) (slots e.scope.names).length) e.body else none
theorem ztn{names:List (Str×NameKind)}{r:Nat}:(zgo names r).lookup zcj=none:=by
 cases h:(zgo names r).lookup zcj with
 |none=>rfl
 |some i=>
  have hm:=(List.of_mem_zip (mem_of_lookup (show List.lookup zcj _=some i from h))).1
  obtain⟨p,hp,e⟩:=zak.mp hm
  have:=(zag.mp (List.mem_filter.mp hp).2).2
  rw[e] at this
  exact absurd rfl (bne_iff_ne.mp this)
section
variable {c:Cx}{T:Tab}
theorem ztt(O:c.Ok)(TO:TabOk c T){e:DefItem}(hat:DefAt c e){fuel r:Nat}{ps:List Str}{xs:List St}(he:eFunJ T fuel r ps e=some xs)
  {q:Bool} {d kk:Nat} {z:V} {vs:List V} {Q:V->Hp->Prop} {E:XPost} {H:Hp} (hlen:vs.length=ps.length)
  (hw:wpSs (Calls c) q d (some (kk,z)) xs (EndQ Q) (EndX E) (vs.map some++List.replicate ((slots e.scope.names).length+r-vs.length) none) H):Calls c q (d+1) e.name vs (some (kk,z)) Q E H:=by
 obtain⟨hok,he⟩:=iteO he
 have P:=zsv hok
 obtain⟨a,cc,o,pm,doc,g1,g2,g3,g4⟩:=hat
 have K:FunOk c e.name a o (Calls.docDef e.name e.params e.body e.scope pm (.ref cc) doc) e.body ps (ps++[zcj]) (zgo e.scope.names r):=by
  refine⟨g1,g2,g3,g4,rfl,rfl,rfl,rfl,P.p6,P.p7,P.p8,fun vals hl=>?_,rfl,fun x i hx=>?_,fun L=>(ze2 P.p10 rfl P.p12).1,?_⟩
  ·rw[<- P.p13];exact zgw rfl rfl P.p1 P.p2 P.p3 P.p4 P.p5 vals (by show _=(e.params.args.map (·.arg)).length;rw[P.p13];exact hl)
  ·exact(zb2.mp (za5.mp P.p11 x (List.of_mem_zip (mem_of_lookup (show List.lookup x _=some i from hx))).1)).imp beq_iff_eq.mp beq_iff_eq.mp
  ·have:=(ze2 (env:=callEnvC (Calls.docDef e.name e.params e.body e.scope pm (.ref cc) doc) 0 a) P.p10 rfl P.p12).2
   rw[Nat.zero_add] at this;exact this
 exact zxp O K (xs:=xs) P.p14 ztn (fun L hX=>zqe (fun _ _ h=>zjs O TO hX P.p10 rfl P.p6 fuel h) he) hlen hw
noncomputable def lamOf(e:Expr):Option (Arguments×Expr×Scope×Pos):=match ev e with
 |.lam a b s p _=>some (a,b,s,p)
 |_=>none
theorem zv3{e:Expr}{q:Arguments×Expr×Scope×Pos}(h:lamOf e=some q):e=.Lambda q.1 q.2.1 q.2.2.1 q.2.2.2:=by
 unfold lamOf at h
 generalize ev e=v at h
 cases v with
 |lam a b s p e=>obtain rfl:=zaa h;exact e
 |_=>cases h
noncomputable def zn7(e:Expr):Option (Expr×List Expr×List Keyword×Pos):=match ev e with
 |.call f es kw p _=>some (f,es,kw,p)
 |_=>none
theorem zma{e:Expr}{q:Expr×List Expr×List Keyword×Pos}(h:zn7 e=some q):e=.Call q.1 q.2.1 q.2.2.1 q.2.2.2:=by
 unfold zn7 at h
 generalize ev e=v at h
 cases v with
 |call a b s p e=>obtain rfl:=zaa h;exact e
 |_=>cases h
noncomputable def retOf(st:Stmt):Option (Expr×Pos):=match st with
 |.Return (some e) p=>some (e,p)
 |_=>none
theorem zw2{st:Stmt}{q:Expr×Pos}(h:retOf st=some q):st=.Return (some q.1) q.2:=by
 cases st with
 |Return o p=>cases o with
  |none=>cases h
  |some e=>obtain rfl:=zaa h;rfl
 |_=>cases h
noncomputable def oneN:Str:=Str.ofString "one"
noncomputable def zf9:Str:=Str.ofString "other"
noncomputable def zg8:Str:=Str.ofString "kind"
noncomputable def lamNames:List (Str×NameKind):=[(oneN,.local),(zf9,.local),(zg8,.free),(zhr,.globalImplicit)]
noncomputable def lamB (kk:Nat) (b:Expr):Bool:=match zn7 b with
 |some q=>decide (zfq q.1=some zhr)&&q.2.2.1.isEmpty&&decide (q.2.1.map zfq=[some (pick oneN zf9 zg8 (kk/9)),some (pick oneN zf9 zg8 (kk/3%3)),some (pick oneN zf9 zg8 (kk%3))])
 |none=>false
inductive LamBI(kk:Nat)(b:Expr):Prop
 |mk (pf q0 q1 q2 pos:Pos)(h:b=.Call (.Name zhr pf) [.Name (pick oneN zf9 zg8 (kk/9)) q0,.Name (pick oneN zf9 zg8 (kk/3%3)) q1,.Name (pick oneN zf9 zg8 (kk%3)) q2] [] pos):LamBI kk b
theorem lamB_inv{kk:Nat}{b:Expr}(h:lamB kk b=true):LamBI kk b:=by
 unfold lamB at h
 cases hq:zn7 b with
 |none=>rw[hq] at h;cases h
 |some q=>
  rw[hq] at h
  obtain⟨h,h3⟩:=zag.mp h
  obtain⟨h1,h2⟩:=zag.mp h
  obtain⟨pf,hf⟩:=zc2 (of_decide_eq_true h1)
  have k:=of_decide_eq_true h3
  clear h3 h
  have e:=zma hq
  clear hq
  obtain⟨f,es,kw,pos⟩:=q
  dsimp only at e h2 k hf
  obtain rfl:=zbn.mp h2
  subst hf
  cases es with
  |nil=>exact nomatch k
  |cons a es=>
   obtain⟨k1,k⟩:=List.cons.inj k
   cases es with
   |nil=>exact nomatch k
   |cons b es=>
    obtain⟨k2,k⟩:=List.cons.inj k
    cases es with
    |nil=>exact nomatch k
    |cons c es=>
     obtain⟨k3,k⟩:=List.cons.inj k
     cases es with
     |cons _ _=>exact nomatch k
     |nil=>
      obtain⟨q0,rfl⟩:=zc2 k1
      obtain⟨q1,rfl⟩:=zc2 k2
      obtain⟨q2,rfl⟩:=zc2 k3
      exact⟨pf,q0,q1,q2,pos,e⟩
noncomputable def parB(a:Arguments):Bool:=a.posonlyargs.isEmpty&&(a.kwonlyargs.isEmpty&&(a.vararg.isNone&&(a.kwarg.isNone&&(a.defaults.isEmpty&&(a.kw_defaults.isEmpty&&decide (a.args.map (·.arg)=[oneN,zf9]))))))
noncomputable def scoB(s:Scope):Bool:=decide (s.names=lamNames)&&(s.kind==.function&&(!s.isCoroutine&&!s.isGenerator))
theorem lamF_of{kk:Nat}{a:Arguments}{b:Expr}{s:Scope}{qual:Str}{ca:Addr}{pm cv ct:Value}(h1:parB a=true)(h2:scoB s=true)(h3:lamB kk b=true):LamF kk (lamFd qual a b s [(zg8,ca)] pm cv ct) zg8:=by
 obtain⟨a1,h1⟩:=zag.mp h1
 obtain⟨a2,h1⟩:=zag.mp h1
 obtain⟨a3,h1⟩:=zag.mp h1
 obtain⟨a4,h1⟩:=zag.mp h1
 obtain⟨a5,h1⟩:=zag.mp h1
 obtain⟨a6,a7⟩:=zag.mp h1
 have a7:=of_decide_eq_true a7
 obtain⟨s1,h2⟩:=zag.mp h2
 have s1:=of_decide_eq_true s1
 obtain⟨s2,h2⟩:=zag.mp h2
 obtain⟨s3,s4⟩:=zag.mp h2
 obtain⟨pf,q0,q1,q2,pos,rfl⟩:=lamB_inv h3
 refine⟨oneN,zf9,q0,q1,q2,pf,pos,fun x y=>?_,rfl,?_,?_,?_,?_,?_,by decide +kernel,by decide +kernel,rfl,rfl,beq_iff_eq.mp s2,(zbp _).mp s3,(zbp _).mp s4⟩
 ·have:=zgw (fd:=lamFd qual a (.Call (.Name zhr pf) [.Name (pick oneN zf9 zg8 (kk/9)) q0,.Name (pick oneN zf9 zg8 (kk/3%3)) q1,.Name (pick oneN zf9 zg8 (kk%3)) q2] [] pos) s [(zg8,ca)] pm cv ct) rfl rfl (zbn.mp a1) (zbn.mp a2) (zcd.mp a3) (zcd.mp a4) (by show(a.args.map (·.arg)).Nodup;rw[a7];decide +kernel) [x,y] (by show 2=(a.args.map (·.arg)).length;rw[a7];rfl)
  refine this.trans ?_
  show(pure ((a.args.map (·.arg)).zip [x,y]):Sem _)=_
  rw[a7];rfl
 ·show s.names.lookup _=_;rw[s1];decide +kernel
 ·show s.names.lookup _=_;rw[s1];decide +kernel
 ·show s.names.lookup _=_;rw[s1];decide +kernel
 ·show s.names.lookup _=_;rw[s1];decide +kernel
 ·show s.names.all _=_;rw[s1];decide +kernel
noncomputable def isFn:Option Gk->Bool
 |some .fn=>true
 |_=>false
theorem isFn_inv{o:Option Gk}(h:isFn o=true):o=some .fn:=by
 cases o with
 |none=>cases h
 |some g=>cases g<;>first |rfl |cases h
noncomputable def lamK(T:Tab)(nm:List (Str×NameKind))(kk:Nat)(q:Expr×List Expr×List Keyword×Pos)(f:Str)(e1 e2:Expr)(m:Arguments×Expr×Scope×Pos):Bool:=
 q.2.2.1.isEmpty&&(zkw nm f&&(isFn (T.g.lookup f)&&(zcz e1&&(zcz e2&&(nm.lookup zg8==some .cell&&(parB m.1&&(scoB m.2.2.1&&lamB kk m.2.1)))))))
noncomputable def lamR(T:Tab)(n:Nat)(nm:List (Str×NameKind))(res:Res)(nx kk:Nat)(st:Stmt):Option (St×Nat×Nat):=
 (retOf st).bind fun r=>(zn7 r.1).bind fun q=>(zfq q.1).bind fun f=>match q.2.1 with
  |[e1,e2,l]=>(lamOf l).bind fun m=>(eE T n nm res nx e1).bind fun x1=>(eE T n nm res nx e2).bind fun x2=>(res.lookup zg8).bind fun i=>
   if lamK T nm kk q f e1 e2 m=true then some (.ret (.callL f [x1,x2] kk i),m.2.2.2.line,m.2.2.2.col) else none
  |_=>none
inductive TabEnv(c:Cx)(env:Env)(lc:Nat×Nat):Prop
 |mk (x:Addr×(Nat×Nat)×Str)(cc:Addr)(hm:x∈c.tabs)(hone:∀y∈c.tabs,y.1=x.1->y=x)(h0:c.h0.get? x.1=none)(CH:CdHd c.h0 cc x.1)(hcode:env.code=.ref cc)(hl:x.2.1=lc)(hq:x.2.2=env.qual++"<lambda>"):TabEnv c env lc
theorem ztl{env:Env}{nm:List (Str×NameKind)}{res:Res}{X:List Addr}{n nx kk:Nat}{st:Stmt}{y:St×Nat×Nat}(O:c.Ok)(TO:TabOk c T)(BM:BMain c)(LO:∀kk fd nm,LamF kk fd nm->c.lam kk fd nm)(hX:EnvX allY env X)(hnm:env.scope.names=nm)(hef:env.scope.kind=.function)
  (TE:TabEnv c env y.2) (h:lamR T n nm res nx kk st=some y):ze5 c env res X st y.1:=by
 obtain⟨⟨e,pr⟩,hr,h'⟩:=zad.mp h
 clear h
 obtain⟨⟨f,es,kw,pos⟩,hc,h''⟩:=zad.mp h'
 clear h'
 obtain⟨fn,hf,h⟩:=zad.mp h''
 clear h''
 obtain rfl:=zw2 hr
 obtain rfl:=zma hc
 obtain⟨pf,rfl⟩:=zc2 hf
 dsimp only at h
 split at h
 ·rename_i e1 e2 l
  obtain⟨m,hm,h⟩:=zad.mp h
  obtain⟨x1,h1,h⟩:=zad.mp h
  obtain⟨x2,h2,h⟩:=zad.mp h
  obtain⟨i,hi,h⟩:=zad.mp h
  obtain⟨hk,rfl⟩:=iteS h
  obtain rfl:=zv3 hm
  obtain⟨k1,hk⟩:=zag.mp hk
  obtain⟨k2,hk⟩:=zag.mp hk
  obtain⟨k3,hk⟩:=zag.mp hk
  obtain⟨k4,hk⟩:=zag.mp hk
  obtain⟨k5,hk⟩:=zag.mp hk
  obtain⟨k6,hk⟩:=zag.mp hk
  obtain⟨k7,hk⟩:=zag.mp hk
  obtain⟨k8,k9⟩:=zag.mp hk
  obtain rfl:kw=[]:=zbn.mp k1
  obtain⟨g1,g2⟩:=zk4 hnm k2
  obtain⟨a,o,fd,f1,f2,f3⟩:=TO.fn _ (isFn_inv k3)
  obtain⟨x,cc,t1,t2,t3,t4,t5,t6,t7⟩:=TE
  obtain⟨a5,a6⟩:m.1.defaults=[]/\m.1.kw_defaults=[]:=by
   obtain⟨_,h⟩:=zag.mp k7
   obtain⟨_,h⟩:=zag.mp h
   obtain⟨_,h⟩:=zag.mp h
   obtain⟨_,h⟩:=zag.mp h
   obtain⟨a5,h⟩:=zag.mp h
   exact⟨zbn.mp a5,zbn.mp (zag.mp h).1⟩
  exact zpa hX (zqq O BM g1 f1 f2 f3 g2 k4 k5 (zdy O TO n h1 hnm hef).1 (zdy O TO n h2 hnm hef).1 t1 t2 t3 t4 t5 t6 t7 a5 a6 (of_decide_eq_true (zag.mp k8).1) (by show env.scope.names.lookup zg8=_;rw[hnm];exact beq_iff_eq.mp k6) hi fun ca pm cv ct=>LO _ _ _ (lamF_of k7 k8 k9))
 ·cases h
noncomputable def eFunL(T:Tab)(n r kk:Nat)(e:DefItem):Option (List St×Nat×Nat):=
 if funOk e r=true then match e.body with
  |[s1,st]=>(eS T n e.scope.names (zgo e.scope.names r) (slots e.scope.names).length s1).bind fun y1=>(lamR T n e.scope.names (zgo e.scope.names r) (slots e.scope.names).length kk st).map fun y=>([y1,y.1],y.2)
  |_=>none
 else none
inductive DefTab(c:Cx)(e:DefItem)(lc:Nat×Nat):Prop
 |mk (a cc:Addr)(o:Obj)(pm doc:Value)(x:Addr×(Nat×Nat)×Str)(g1:c.g e.name=some (.ref a))(g2:c.h0.get? a=some o)(g3:o.data=.func (Calls.docDef e.name e.params e.body e.scope pm (.ref cc) doc))(g4:c.h0.CodeRec (.ref cc) e.name)
   (hm:x∈c.tabs) (hone:∀y∈c.tabs,y.1=x.1->y=x) (h0:c.h0.get? x.1=none) (CH:CdHd c.h0 cc x.1) (hl:x.2.1=lc) (hq:x.2.2=e.name++".<locals>."++"<lambda>"):DefTab c e lc
theorem zs6(O:c.Ok)(TO:TabOk c T)(BM:BMain c)(LO:∀kk fd nm,LamF kk fd nm->c.lam kk fd nm){e:DefItem}{fuel r kk:Nat}{y:List St×Nat×Nat}(hat:DefTab c e y.2)(he:eFunL T fuel r kk e=some y)
  {q:Bool} {d:Nat} {vs:List V} {Q:V->Hp->Prop} {E:XPost} {H:Hp} (hlen:vs.length=e.params.args.length)
  (hw:wpSs (Calls c) q d none y.1 (EndQ Q) (EndX E) (vs.map some++List.replicate ((slots e.scope.names).length+r-vs.length) none) H):Calls c q (d+1) e.name vs none Q E H:=by
 obtain⟨hok,he⟩:=iteO he
 have P:=zph hok
 obtain⟨a,cc,o,pm,doc,x,g1,g2,g3,g4,t1,t2,t3,t4,t5,t6⟩:=hat
 have K:FunOk c e.name a o (Calls.docDef e.name e.params e.body e.scope pm (.ref cc) doc) e.body (e.params.args.map (·.arg)) (e.params.args.map (·.arg)) (zgo e.scope.names r):=by
  refine⟨g1,g2,g3,g4,rfl,rfl,rfl,rfl,P.p6,P.p7,P.p8,fun vals hl=>zgw rfl rfl P.p1 P.p2 P.p3 P.p4 P.p5 vals hl,rfl,fun x i hx=>?_,fun L=>(ze2 P.p10 rfl P.p12).1,?_⟩
  ·exact(zb2.mp (za5.mp P.p11 x (List.of_mem_zip (mem_of_lookup (show List.lookup x _=some i from hx))).1)).imp beq_iff_eq.mp beq_iff_eq.mp
  ·have:=(ze2 (env:=callEnvC (Calls.docDef e.name e.params e.body e.scope pm (.ref cc) doc) 0 a) P.p10 rfl P.p12).2
   rw[Nat.zero_add] at this;exact this
 refine zsb O K (xs:=y.1) (fun L hX=>?_) (by rw[hlen,zac]) hw
 split at he
 ·rename_i s1 st hb
  obtain⟨y1,h1,he⟩:=zad.mp he
  obtain⟨y2,h2,rfl⟩:=zaj.mp he
  rw[hb]
  exact zg5 (zjs O TO hX P.p10 rfl P.p6 fuel h1) (zg5 (ztl O TO BM LO hX rfl P.p6 ⟨x,cc,t1,t2,t3,t4,rfl,t5,t6⟩ h2) zkc)
 ·cases he
end
end Bn
namespace Bn
abbrev Net:=List (List (Nat×Nat))
noncomputable def zdr(n:Nat):Nat->List (Nat×Nat)->Prop
 |_,[]=>True
 |lo,(l,h)::r=>l<h/\h<n/\lo<=h/\zdr n (h+1) r
noncomputable def zcs(n:Nat)(layer:List (Nat×Nat)):Prop:=layer≠[]/\zdr n 0 layer
noncomputable def zhe(n:Nat)(net:Net):Prop:=net.length<=80/\∀layer∈net,zcs n layer
theorem zg3{n:Nat}:∀{layer:List (Nat×Nat)}{lo:Nat},zdr n lo layer->layer≠[]->layer.length+lo<=n/\(0<lo\/layer.length<n)
 |[],_,_,hn=>absurd rfl hn
 |(l,h)::r,lo,hr,_=>by
  obtain⟨h1,h2,h3,h4⟩:=hr
  by_cases hn:r=[]
  ·subst hn;simp only[zbh,List.length_nil];exact Ar.ar3 [_,_,_,_] [] 0x310a528003080801840500c2008000294a000c20180610100308000 (Y6 (Y0 (Y0 J1 V0) V1) (Y7 (Y1 J0 V0) (Y1 J1 V1))) (Y1 V2 V3) (Y1 V3 V1) (Y0 V0 V3) h1 h2 h3
  ·have:=zg3 h4 hn
   simp only[zbh]
   exact Ar.ar3 [_,_,_,_,_] [] 0x310a528003080801840600c2008000294a000c20180610100308000 (Y6 (Y0 (Y0 (Y0 V0 J1) V1) V2) (Y7 (Y1 J0 V1) (Y1 (Y0 V0 J1) V2))) (Y1 V3 V4) (Y0 V1 V4) (Y0 (Y0 V0 (Y0 V4 J1)) V2) h1 h3 this.1
noncomputable def zm6(n:Nat)(lays:Net):Net:=lays++List.replicate (n-lays.length) []
noncomputable def zlt(lays:Net)(i:Nat)(p:Nat×Nat):Net:=(zm6 (i+1) lays).set i ((zm6 (i+1) lays).getD i []++[p])
noncomputable def g0(xs:List Nat)(i:Nat):Nat:=xs.getD i 0
noncomputable def zds(done read:List Nat)(l h:Nat):Nat:=max (max (g0 done l) (g0 done h)) (g0 read h)
end Bn
namespace Bn
noncomputable def zco{α:Type}(f:α->α->α)(layer:List (Nat×Nat))(σ:Nat->α):Nat->α:=fun x=>match layer.find? (fun p=>p.2==x) with
 |some p=>f (σ p.1) (σ x)
 |none=>σ x
noncomputable def runN{α:Type}(f:α->α->α):List (List (Nat×Nat))->(Nat->α)->Nat->α
 |[],σ=>σ
 |layer::r,σ=>runN f r (zco f layer σ)
noncomputable def zwr{α:Type}(f:α->α->α)(l h:Nat)(σ:Nat->α):Nat->α:=fun x=>if x=h then f (σ l) (σ h) else σ x
noncomputable def run1{α:Type}(f:α->α->α):List (Nat×Nat)->(Nat->α)->Nat->α
 |[],σ=>σ
 |p::r,σ=>run1 f r (zwr f p.1 p.2 σ)
section
variable {α:Type}{f:α->α->α}
theorem zf7{σ:Nat->α}:runN f [] σ=σ:=rfl
theorem zc8{y:List (Nat×Nat)}{r:List (List (Nat×Nat))}{σ:Nat->α}:runN f (y::r) σ=runN f r (zco f y σ):=rfl
theorem zt4{p:Nat×Nat}{r:List (Nat×Nat)}{σ:Nat->α}:run1 f (p::r) σ=run1 f r (zwr f p.1 p.2 σ):=rfl
theorem zcy:∀(a b:List (List (Nat×Nat)))(σ:Nat->α),runN f (a++b) σ=runN f b (runN f a σ)
 |[],_,_=>rfl
 |_::a,b,_=>zcy a b _
theorem zlb:∀(a b:List (Nat×Nat))(σ:Nat->α),run1 f (a++b) σ=run1 f b (run1 f a σ)
 |[],_,_=>rfl
 |_::a,b,_=>zlb a b _
theorem zk1{layer:List (Nat×Nat)}{σ:Nat->α}{x:Nat}(h:∀p∈layer,p.2≠x):zco f layer σ x=σ x:=by
 unfold zco
 have:layer.find? (fun p=>p.2==x)=none:=by
  rw[List.find?_eq_none]
  intro p hp
  simpa using h p hp
 rw[this]
theorem zhx:∀{net:List (List (Nat×Nat))} {σ:Nat->α} {x:Nat},(∀layer∈net,∀p∈layer,p.2≠x)->runN f net σ x=σ x
 |[],_,_,_=>rfl
 |layer::r,σ,x,h=>by
  simp only[zf7,zc8]
  rw[zhx fun l hl=>h l (zai _ hl),zk1 (h layer zae)]
theorem zpw {layer:List (Nat×Nat)} {σ τ:Nat->α} {h:Nat} (ha:∀x,x≠h->σ x=τ x) (hr:∀p∈layer,p.1≠h/\p.2≠h):∀x,x≠h->zco f layer σ x=zco f layer τ x:=by
 intro x hx
 unfold zco
 cases hf:layer.find? (fun p=>p.2==x) with
 |none=>exact ha x hx
 |some p=>
  have hp:=zb9 hf
  simp only
  rw[ha p.1 (hr p hp).1,ha x hx]
theorem zly:∀{net:List (List (Nat×Nat))} {σ τ:Nat->α} {h:Nat},(∀x,x≠h->σ x=τ x)->(∀layer∈net,∀p∈layer,p.1≠h/\p.2≠h)->∀x,x≠h->runN f net σ x=runN f net τ x
 |[],_,_,_,ha,_=>ha
 |layer::r,σ,τ,h,ha,hr=>by
  simp only[zf7,zc8]
  exact zly (net:=r) (zpw ha (hr layer zae)) fun l hl=>hr l (zai _ hl)
theorem zts {pre post:List (List (Nat×Nat))} {layer layer':List (Nat×Nat)} {l h:Nat} (hperm:∀p,p∈layer'↔p=(l,h)\/p∈layer) (hnd:∀p∈layer,∀q∈layer,p.2=q.2->p=q)
  (h1:∀p∈layer,p.2≠h/\p.2≠l) (h2:∀lay∈post,∀p∈lay,p.1≠h/\p.2≠h/\p.2≠l) (hlh:l≠h) (σ:Nat->α) :
  runN f (pre++layer'::post) σ=zwr f l h (runN f (pre++layer::post) σ):=by
 rw[zcy,zcy]
 generalize runN f pre σ=τ
 simp only[zf7,zc8]
 have find_eq:∀x,x≠h->(layer'.find? (fun p=>p.2==x))=layer.find? (fun p=>p.2==x):=by
  intro x hx
  cases hf:layer.find? (fun p=>p.2==x) with
  |none=>
   rw[List.find?_eq_none] at hf ⊢
   intro p hp
   rcases(hperm p).mp hp with rfl |hp
   ·simpa using Ne.symm hx
   ·exact hf p hp
  |some p=>
   have hp:=zb9 hf
   have hpx:p.2=x:=by have:=List.find?_some hf;simpa using this
   cases hf':layer'.find? (fun p=>p.2==x) with
   |none=>
    rw[List.find?_eq_none] at hf'
    exact absurd (by simpa using hpx) (hf' p ((hperm p).mpr (.inr hp)))
   |some p'=>
    have hp':=zb9 hf'
    have hpx':p'.2=x:=by have:=List.find?_some hf';simpa using this
    rcases(hperm p').mp hp' with rfl |hp'
    ·exact absurd hpx' (Ne.symm hx)
    ·rw[hnd p hp p' hp' (hpx.trans hpx'.symm)]
 have agree:∀x,x≠h->zco f layer' τ x=zco f layer τ x:=by
  intro x hx
  unfold zco
  rw[find_eq x hx]
 have athigh:zco f layer' τ h=f (τ l) (τ h):=by
  unfold zco
  cases hf:layer'.find? (fun p=>p.2==h) with
  |none=>
   rw[List.find?_eq_none] at hf
   exact absurd (by simp) (hf (l,h) ((hperm _).mpr (.inl rfl)))
  |some p=>
   have hp:=zb9 hf
   have hpx:p.2=h:=by have:=List.find?_some hf;simpa using this
   rcases(hperm p).mp hp with rfl |hp
   ·rfl
   ·exact absurd hpx (h1 p hp).1
 funext x
 unfold zwr
 by_cases hx:x=h
 ·subst hx
  rw[if_pos rfl,zhx (fun lay hl p hp=>(h2 lay hl p hp).2.1),athigh]
  rw[zhx (fun lay hl p hp=>(h2 lay hl p hp).2.2),zhx (fun lay hl p hp=>(h2 lay hl p hp).2.1)]
  rw[zk1 (fun p hp=>(h1 p hp).2),zk1 (fun p hp=>(h1 p hp).1)]
 ·rw[if_neg hx]
  exact zly agree (fun lay hl p hp=>⟨(h2 lay hl p hp).1,(h2 lay hl p hp).2.1⟩) x hx
end
end Bn
namespace Bn
theorem lt900{a s k:Nat}(h:a<=s+k)(hs:s<=800)(hk:k<=64):a<900:=zaw (zab h (Nat.add_le_add hs hk)) (by decide)
theorem ltA2{a b:Nat}(ha:a<=80)(hb:b<=80):a+b<10000:=zaw (Nat.add_le_add ha hb) (by decide)
theorem ltA3{a b:Nat}(ha:a<=80)(hb:b<=80):a+1+b<10000:=zaw (Nat.add_le_add (zb3 ha) hb) (by decide)
theorem mid_len{i n:Nat}(h:i+1<n):n-1=min i n+(n-(i+2)+1):=by
 obtain⟨k,rfl⟩:=Nat.exists_eq_add_of_le' (show i+2<=n from h)
 rw[Nat.min_eq_left (zab (za8 i 2) (zbt ..)),Nat.add_sub_cancel]
 exact Nat.add_left_comm k i 1
theorem zva{x y:Int}(h:0<y):∃n:Nat,x%y=(n:Int):=⟨_,(Int.toNat_of_nonneg (Int.emod_nonneg _ (Int.ne_of_gt h))).symm⟩
theorem pos1{k:Nat}:(0:Int)<1+(k:Int):=Int.add_pos_of_pos_of_nonneg (by decide) (zbf k)
structure PS where
 lays:Net
 done:List Nat
 read:List Nat
noncomputable def PS.put(s:PS)(p:Nat×Nat):PS:=
 ⟨zlt s.lays (zds s.done s.read p.1 p.2) p,s.done.set p.2 (zds s.done s.read p.1 p.2+1),s.read.set p.1 (max (g0 s.read p.1) (zds s.done s.read p.1 p.2))⟩
noncomputable def PS.puts(s:PS)(js:List (Nat×Nat)):PS:=js.foldl PS.put s
noncomputable def PS.init(n:Nat):PS:=⟨[],List.replicate n 0,List.replicate n 0⟩
theorem PS.puts_append(s:PS)(a b:List (Nat×Nat)):s.puts (a++b)=(s.puts a).puts b:=List.foldl_append
theorem zo4{lays:Net}{i:Nat}{p:Nat×Nat}(h:i<=lays.length):zlt lays i p=lays.take i++(lays.getD i []++[p])::lays.drop (i+1):=by
 unfold zlt
 by_cases hi:i<lays.length
 ·have e:zm6 (i+1) lays=lays:=by unfold zm6;rw[Nat.sub_eq_zero_of_le hi,List.replicate_zero,za9]
  rw[e,List.set_eq_take_append_cons_drop,if_pos hi]
 ·obtain rfl:=Nat.le_antisymm h (zba hi)
  have e:zm6 (lays.length+1) lays=lays++[[]]:=by unfold zm6;rw[zce];rfl
  rw[e,List.set_append_right _ _ (zaf _)]
  simp[zas]
theorem zv7{α:Type}{f:α->α->α}{σ:Nat->α}:zco f [] σ=σ:=rfl
theorem zv6{α:Type}{f:α->α->α}{σ:Nat->α}{lays:Net}{i:Nat}(h:i<=lays.length):runN f lays σ=runN f (lays.take i++lays.getD i []::lays.drop (i+1)) σ:=by
 by_cases hi:i<lays.length
 ·have:lays.take i++lays.getD i []::lays.drop (i+1)=lays:=by
   rw[zas,zam hi]
   simp
  rw[this]
 ·obtain rfl:=Nat.le_antisymm h (zba hi)
  rw[zcy,List.drop_eq_nil_of_le (Nat.le_succ _)]
  simp[zf7,zc8,zv7,zas]
theorem zqz{xs:List Nat}{i v x:Nat}(hi:i<xs.length):g0 (xs.set i v) x=if x=i then v else g0 xs x:=by
 unfold g0
 rw[zas,List.getElem?_set,zas]
 by_cases h:x=i
 ·subst h;simp[hi]
 ·rw[if_neg (Ne.symm h),if_neg h]
structure Laid(n:Nat)(s:PS)(js:List (Nat×Nat)):Prop where
 dl:s.done.length=n
 rl:s.read.length=n
 hi:∀i y,s.lays[i]?=some y->∀p∈y,i<g0 s.done p.2/\i<=g0 s.read p.1/\p.1<p.2/\p.2<n
 ne:∀y∈s.lays,y≠[]
 nd:∀y∈s.lays,(y.map (·.2)).Nodup
 dm:∀x,g0 s.done x<=s.lays.length/\g0 s.read x<=s.lays.length
 run:∀{α:Type} (f:α->α->α) (σ:Nat->α),runN f s.lays σ=run1 f js σ
theorem g0_zero(n x:Nat):g0 (List.replicate n 0) x=0:=by
 unfold g0;rw[zas,List.getElem?_replicate];split<;>rfl
theorem Laid.init(n:Nat):Laid n (PS.init n) [] where
 dl:=by simp[PS.init]
 rl:=by simp[PS.init]
 hi:=by simp[PS.init]
 ne:=by simp[PS.init]
 nd:=by simp[PS.init]
 dm:=by intro x;simp[PS.init,g0_zero]
 run:=by intros;rfl
theorem zow{y:List (Nat×Nat)}(h:(y.map (·.2)).Nodup):∀p∈y,∀q∈y,p.2=q.2->p=q:=by
 induction y with
 |nil=>intro p hp;cases hp
 |cons a r ih=>
  simp only[zbg,zb5,zak,not_exists,not_and] at h
  intro p hp q hq e
  rcases zal.mp hp with hp1 |hp1<;>rcases zal.mp hq with hq1 |hq1
  ·rw[hp1,hq1]
  ·exact absurd (e.symm.trans (by rw[hp1])) (h.1 q hq1)
  ·exact absurd (e.trans (by rw[hq1])) (h.1 p hp1)
  ·exact ih h.2 p hp1 q hq1 e
theorem Laid.at_le{n:Nat}{s:PS}{js:List (Nat×Nat)}(L:Laid n s js)(l h:Nat):zds s.done s.read l h<=s.lays.length:=Nat.max_le.mpr ⟨Nat.max_le.mpr ⟨(L.dm l).1,(L.dm h).1⟩,(L.dm h).2⟩
theorem zwx{k n:Nat}(h:k<=n):k+(n-(k+1)+1)=max n (k+1):=by
 rcases Nat.lt_or_ge k n with h' |h'
 ·exact((Nat.succ_add k _).symm.trans (Nat.add_sub_cancel' h')).trans (Nat.max_eq_left h').symm
 ·obtain rfl:=Nat.le_antisymm h h'
  rw[Nat.sub_eq_zero_of_le (Nat.le_succ k)]
  exact(Nat.max_eq_right (Nat.le_succ k)).symm
theorem Laid.put{n:Nat}{s:PS}{js:List (Nat×Nat)}(L:Laid n s js){l h:Nat}(hlh:l<h)(hn:h<n):Laid n (s.put (l,h)) (js++[(l,h)]):=by
 have hat:=L.at_le l h
 have e1:g0 s.done l<=zds s.done s.read l h:=zab (Nat.le_max_left ..) (Nat.le_max_left ..)
 have e2:g0 s.done h<=zds s.done s.read l h:=zab (Nat.le_max_right ..) (Nat.le_max_left ..)
 have e3:g0 s.read h<=zds s.done s.read l h:=Nat.le_max_right ..
 generalize hk:zds s.done s.read l h=k at hat e1 e2 e3
 have hput:s.put (l,h)=⟨s.lays.take k++(s.lays.getD k []++[(l,h)])::s.lays.drop (k+1),s.done.set h (k+1),s.read.set l (max (g0 s.read l) k)⟩:=by
  simp only[PS.put,hk,zo4 hat]
 rw[hput]
 have dl:=L.dl;have rl:=L.rl
 have hgd:∀x,g0 (s.done.set h (k+1)) x=if x=h then k+1 else g0 s.done x:=fun x=>zqz (dl▸hn)
 have hgr:∀x,g0 (s.read.set l (max (g0 s.read l) k)) x=if x=l then max (g0 s.read l) k else g0 s.read x:=fun x=>zqz (rl▸zar hlh hn)
 have hlen:(s.lays.take k++(s.lays.getD k []++[(l,h)])::s.lays.drop (k+1)).length=max s.lays.length (k+1):=by rw[zao,zbj,zbh,zbr,Nat.min_eq_left hat,zwx hat]
 have hlt:(s.lays.take k).length=k:=by rw[zbj,Nat.min_eq_left hat]
 have old:∀i y,s.lays[i]?=some y->∀p∈y,i<g0 (s.done.set h (k+1)) p.2/\i<=g0 (s.read.set l (max (g0 s.read l) k)) p.1/\p.1<p.2/\p.2<n:=by
  intro i y hy p hp
  obtain⟨a1,a2,a3,a4⟩:=L.hi i y hy p hp
  rw[hgd,hgr]
  refine⟨?_,?_,a3,a4⟩
  ·split
   ·rename_i e;rw[e] at a1;exact Nat.lt_succ_of_le (zab (zav a1) e2)
   ·exact a1
  ·split
   ·rename_i e;rw[e] at a2;exact zab a2 (Nat.le_max_left ..)
   ·exact a2
 have hgetk:∀p,p∈s.lays.getD k []->∃y,s.lays[k]?=some y/\p∈y:=by
  intro p hp
  rw[zas] at hp
  cases hy:s.lays[k]? with
  |none=>rw[hy] at hp;cases hp
  |some y=>rw[hy] at hp;exact⟨y,rfl,hp⟩
 have hidx:∀i,(s.lays.take k++(s.lays.getD k []++[(l,h)])::s.lays.drop (k+1))[i]?=if i=k then some (s.lays.getD k []++[(l,h)]) else s.lays[i]?:=by
  intro i
  rcases Nat.lt_trichotomy i k with hi |hi |hi
  ·rw[zbu (Nat.lt_of_lt_of_eq hi hlt.symm),List.getElem?_take,if_pos hi,if_neg (za3 hi)]
  ·subst hi;rw[zbv (zbc hlt),hlt,Nat.sub_self,if_pos rfl];rfl
  ·rw[zbv (zab (zbc hlt) (zav hi)),if_neg (Nat.ne_of_gt hi),hlt]
   obtain⟨j,rfl⟩:=Nat.exists_eq_add_of_le (show k+1<=i from hi)
   rw[show k+1+j-k=j+1 by rw[Nat.add_assoc,zce,Nat.add_comm],List.getElem?_cons_succ,List.getElem?_drop]
 have hmem:∀y,y∈(s.lays.take k++(s.lays.getD k []++[(l,h)])::s.lays.drop (k+1))->y=s.lays.getD k []++[(l,h)]\/y∈s.lays:=by
  intro y hy
  rcases zau.mp hy with hy |hy
  ·exact .inr (List.mem_of_mem_take hy)
  ·rcases zal.mp hy with hy |hy
   ·exact .inl hy
   ·exact .inr (List.mem_of_mem_drop hy)
 have hkh:∀p∈s.lays.getD k [],p.2≠h/\p.2≠l:=by
  intro p hp
  obtain⟨y,hy,hp⟩:=hgetk p hp
  obtain⟨a1,_⟩:=L.hi k y hy p hp
  constructor
  ·intro e;rw[e] at a1;exact zbb _ (zay a1 e2)
  ·intro e;rw[e] at a1;exact zbb _ (zay a1 e1)
 have hknd:((s.lays.getD k []).map (·.2)).Nodup:=by
  rw[zas]
  cases hy:s.lays[k]? with
  |none=>exact List.nodup_nil
  |some y=>exact L.nd y (zax hy)
 exact{
  dl:=(zbm ..).trans dl
  rl:=(zbm ..).trans rl
  hi:=by
   intro i y hy p hp
   rw[hidx] at hy
   split at hy
   ·rename_i e;subst e
    cases hy
    rcases zau.mp hp with hp |hp
    ·obtain⟨y,hy,hp⟩:=hgetk p hp
     exact old _ y hy p hp
    ·rw[zah.mp hp,hgd,hgr,if_pos rfl,if_pos rfl]
     exact⟨Nat.lt_succ_self _,Nat.le_max_right ..,hlh,hn⟩
   ·exact old _ y hy p hp
  ne:=by
   intro y hy
   rcases hmem y hy with rfl |hy
   ·exact List.append_ne_nil_of_right_ne_nil _ (List.cons_ne_nil _ _)
   ·exact L.ne y hy
  nd:=by
   intro y hy
   rcases hmem y hy with rfl |hy
   ·rw[zat,List.nodup_append]
    refine⟨hknd,List.pairwise_singleton ..,?_⟩
    intro a ha b hb
    obtain⟨p,hp,rfl⟩:=zak.mp ha
    rw[show b=h from zah.mp hb]
    exact(hkh p hp).1
   ·exact L.nd y hy
  dm:=by
   intro x
   rw[hlen,hgd,hgr]
   have d1:=L.dm x;have d2:=L.dm l
   constructor<;>split
   ·exact Nat.le_max_right ..
   ·exact zab d1.1 (Nat.le_max_left ..)
   ·exact Nat.max_le.mpr ⟨zab d2.2 (Nat.le_max_left ..),zab (Nat.le_succ k) (Nat.le_max_right ..)⟩
   ·exact zab d1.2 (Nat.le_max_left ..)
  run:=by
   intro α f σ
   rw[zlb,<-L.run f σ,zv6 hat]
   refine zts (l:=l) (h:=h) ?_ (zow hknd) hkh ?_ (za3 hlh) σ
   ·intro p;exact zau.trans (Or.comm.trans (or_congr_left zah))
   ·intro lay hlay p hp
    obtain⟨i,hi,e⟩:=zca.mp hlay
    have hy:s.lays[k+1+i]?=some lay:=by
     rw[<- List.getElem?_drop,zam hi,e]
    obtain⟨a1,a2,a3,a4⟩:=L.hi _ lay hy p hp
    refine⟨?_,?_,?_⟩<;>intro e
    ·rw[e] at a2;exact Nat.not_succ_le_self k (zab (za8 ..) (zab a2 e3))
    ·rw[e] at a1;exact Nat.not_succ_le_self k (zab (za8 ..) (zab (zav a1) e2))
    ·rw[e] at a1;exact Nat.not_succ_le_self k (zab (za8 ..) (zab (zav a1) e1)) }
theorem Laid.puts{n:Nat}:∀{ks:List (Nat×Nat)}{s:PS}{js:List (Nat×Nat)},Laid n s js->(∀p∈ks,p.1<p.2/\p.2<n)->Laid n (s.puts ks) (js++ks)
 |[],s,js,L,_=>by simpa[PS.puts] using L
 |(l,h)::r,s,js,L,hk=>by
  have hp:=hk (l,h) zae
  have:=Laid.puts (ks:=r) (L.put hp.1 hp.2) fun p hp=>hk p (zai _ hp)
  rw[zbd] at this
  exact this
noncomputable def batch:List Nat->List Nat->List (Nat×Nat)->Prop
 |_,_,[]=>True
 |wr,rd,(l,h)::r=>l∉wr/\h∉wr/\h∉rd/\batch (h::wr) (l::rd) r
theorem zur {s:PS} {n:Nat} {js:List (Nat×Nat)} (L:Laid n s js) (l h:Nat):(s.put (l,h)).lays.length=max s.lays.length (zds s.done s.read l h+1):=by
 simp only[PS.put,zo4 (L.at_le l h)]
 rw[zao,zbj,zbh,zbr,Nat.min_eq_left (L.at_le l h),zwx (L.at_le l h)]
theorem zo7{n M:Nat}:∀{ks:List (Nat×Nat)}{s:PS}{js:List (Nat×Nat)}{wr rd:List Nat},Laid n s js->(∀p∈ks,p.1<p.2/\p.2<n)->batch wr rd ks->
  (∀x,(x∉wr->g0 s.done x<=M)/\(x∉wr->x∉rd->g0 s.read x<=M))->s.lays.length<=M+1->(s.puts ks).lays.length<=M+1
 |[],s,js,wr,rd,L,_,_,_,hs=>hs
 |(l,h)::r,s,js,wr,rd,L,hk,hb,hx,hs=>by
  have hp:=hk (l,h) zae
  obtain⟨b1,b2,b3,b4⟩:=hb
  have x1:=(hx l).1 b1
  have x2:=(hx h).1 b2
  have x3:=(hx h).2 b2 b3
  have hat:zds s.done s.read l h<=M:=Nat.max_le.mpr ⟨Nat.max_le.mpr ⟨x1,x2⟩,x3⟩
  refine zo7 (ks:=r) (L.put hp.1 hp.2) (fun p hp=>hk p (zai _ hp)) b4 ?_ ?_
  ·intro x
   show(_->g0 (s.done.set _ _) x<=M)/\(_->_->g0 (s.read.set _ _) x<=M)
   rw[zqz (L.dl▸hp.2),zqz (L.rl▸zar hp.1 hp.2)]
   constructor
   ·intro hw
    have:x≠h:=fun e=>hw (e▸zae)
    rw[if_neg this]
    exact(hx x).1 fun hw'=>hw (zai _ hw')
   ·intro hw hr
    have:x≠l:=fun e=>hr (e▸zae)
    rw[if_neg this]
    exact(hx x).2 (fun hw'=>hw (zai _ hw')) (fun hr'=>hr (zai _ hr'))
  ·rw[zur L];exact Nat.max_le.mpr ⟨hs,zb3 hat⟩
theorem Laid.batch{n:Nat}{ks:List (Nat×Nat)}{s:PS}{js:List (Nat×Nat)}(L:Laid n s js)(hk:∀p∈ks,p.1<p.2/\p.2<n)(hb:Bn.batch [] [] ks):(s.puts ks).lays.length<=s.lays.length+1:=
 zo7 L hk hb (fun x=>⟨fun _=>(L.dm x).1,fun _ _=>(L.dm x).2⟩) (Nat.le_succ _)
end Bn
namespace Bn
noncomputable def upd(B:Nat->Nat)(h v:Nat):Nat->Nat:=fun x=>if x=h then v else B x
theorem zhz{B:Nat->Nat}{h v x:Nat}(e:x≠h):upd B h v x=B x:=if_neg e
theorem zwv{B:Nat->Nat}{h v:Nat}:upd B h v h=v:=if_pos rfl
noncomputable def zhd(B:Nat->Nat):List (Nat×Nat)->(Nat->Nat)->Prop
 |[],B'=>B=B'
 |(l,h)::r,B'=>l+1=B h/\zhd (upd B h (B l)) r B'
theorem zhd.append:∀{a b:List (Nat×Nat)}{B B1 B2:Nat->Nat},zhd B a B1->zhd B1 b B2->zhd B (a++b) B2
 |[],b,B,B1,B2,h1,h2=>by cases h1;exact h2
 |(l,h)::r,b,B,B1,B2,h1,h2=>⟨h1.1,h1.2.append h2⟩
noncomputable def ran(b x:Nat):List Nat:=List.range' b (x+1-b)
theorem zr2{b l h:Nat}(h1:b<=l)(h2:l<h):ran b l++ran (l+1) h=ran b h:=by
 unfold ran
 have e:l+1=b+1*(l+1-b):=by exact Ar.ar1 [_,_] [] 0x6194a000c2018061004050846100023410a5000610200308000000a50006101003080002842308001 (Y2 (Y0 V0 J1) (Y0 V1 (Y1 J1 (Y2 (Y0 V0 J1) V1)))) (Y0 V1 V0) h1
 rw[show List.range' (l+1) (h+1-(l+1))=List.range' (b+1*(l+1-b)) (h+1-(l+1)) by rw[<- e],List.range'_append]
 congr 1;exact Ar.ar3 [_,_,_] [] 0x61a08528003081201840000003294a50008102c03080e01840300c20080a108c20104a3080011840208d04294a000c2040061024030800000065294a000c205806101c0308060184010146100023080412842308041 (Y2 (Y0 (Y2 (Y0 V0 J1) V1) (Y2 (Y0 V2 J1) (Y0 V0 J1))) (Y2 (Y0 V2 J1) V1)) (Y0 V1 V0) (Y1 V0 V2) (Y2 (Y0 V0 J1) (Y0 V1 (Y1 J1 (Y2 (Y0 V0 J1) V1)))) h1 h2 e
theorem zgb:∀{js:List (Nat×Nat)} {B B':Nat->Nat},zhd B js B'->(∀x,B x<=x)->(∀x,B' x<=x)/\run1 (·++·) js (fun x=>ran (B x) x)=fun x=>ran (B' x) x
 |[],B,B',h,hb=>by cases h;exact⟨hb,rfl⟩
 |(l,h)::r,B,B',hp,hb=>by
  obtain⟨h1,h2⟩:=hp
  have hlh:l<h:=by have:=hb h;exact Ar.ar2 [_,_,_] [] 0x294a000c20000610040308040 (Y1 V0 V1) (Y2 (Y0 V0 J1) V2) (Y0 V2 V1) h1 this
  have hb':∀x,upd B h (B l) x<=x:=by
   intro x;unfold upd;split
   ·have:=hb l;exact Ar.ar3 [_,_,_,_] [] 0xa5294001840000c200808100c0308040 (Y0 V0 V1) (Y1 V2 V3) (Y0 V0 V2) (Y2 V1 V3) hlh this (by assumption)
   ·exact hb x
  obtain⟨i1,i2⟩:=zgb h2 hb'
  refine⟨i1,?_⟩
  rw[<- i2]
  simp only[zt4]
  congr 1
  funext x
  unfold zwr
  by_cases e:x=h
  ·subst e;rw[if_pos rfl,zwv];show ran (B l) l++ran (B x) x=_;rw[<- h1,zr2 (hb l) hlh]
  ·rw[if_neg e,zhz e]
theorem zjo:∀{js:List (Nat×Nat)} {B B':Nat->Nat},zhd B js B'->(∀x,B x<=x)->∀p∈js,p.1<p.2
 |[],_,_,_,_,p,hp=>by cases hp
 |(l,h)::r,B,B',hp,hb,p,hm=>by
  obtain⟨h1,h2⟩:=hp
  have hlh:l<h:=by have:=hb h;exact Ar.ar2 [_,_,_] [] 0x294a000c20000610040308040 (Y1 V0 V1) (Y2 (Y0 V0 J1) V2) (Y0 V2 V1) h1 this
  rcases zal.mp hm with rfl |hm
  ·exact hlh
  ·refine zjo h2 ?_ p hm
   intro x;unfold upd;split
   ·have:=hb l;exact Ar.ar3 [_,_,_,_] [] 0xa5294001840000c200808100c0308040 (Y0 V0 V1) (Y1 V2 V3) (Y0 V0 V2) (Y2 V1 V3) hlh this (by assumption)
   ·exact hb x
noncomputable def zng (B:Nat->Nat):Nat->List Nat->Prop
 |_,[]=>True
 |s,x::r=>B x=s/\s<=x/\zng B (x+1) r
theorem zng.ge{B:Nat->Nat}:∀{xs:List Nat}{s:Nat},zng B s xs->∀x∈xs,s<=x
 |[],_,_,x,hx=>by cases hx
 |y::r,s,h,x,hx=>by
  rcases zal.mp hx with rfl |hx
  ·exact h.2.1
  ·have:=h.2.2.ge x hx;have:=h.2.1;exact Ar.ar2 [_,_,_] [] 0x294a000c20000610080308020 (Y0 V0 V1) (Y0 V0 V2) (Y0 (Y0 V2 J1) V1) this (by assumption)
theorem zng.congr{B B':Nat->Nat}:∀{xs:List Nat}{s:Nat},zng B s xs->(∀x∈xs,B' x=B x)->zng B' s xs
 |[],_,_,_=>trivial
 |y::r,s,h,hx=>⟨(hx y zae).trans h.1,h.2.1,h.2.2.congr fun x hm=>hx x (zai _ hm)⟩
noncomputable def thin(cond:Nat->Bool):Nat->Nat->List Nat->List (Nat×Nat)×List (Nat×Nat)×List Nat
 |_,_,[]=>([],[],[])
 |_,_,[x]=>([],[],[x])
 |k,s,x::y::r=>if cond k then((x,y)::(thin cond (k+2) (y+1) r).1,(if s=0 then[] else[(s-1,x)])++(thin cond (k+2) (y+1) r).2.1,y::(thin cond (k+2) (y+1) r).2.2)
  else((thin cond (k+1) (x+1) (y::r)).1,(thin cond (k+1) (x+1) (y::r)).2.1,x::(thin cond (k+1) (x+1) (y::r)).2.2)
theorem thin_nil{cond:Nat->Bool}{k s:Nat}:thin cond k s []=([],[],[]):=rfl
theorem znb{cond:Nat->Bool}{k s x y:Nat}{r:List Nat}:thin cond k s (x::y::r)=if cond k then((x,y)::(thin cond (k+2) (y+1) r).1,(if s=0 then[] else[(s-1,x)])++(thin cond (k+2) (y+1) r).2.1,y::(thin cond (k+2) (y+1) r).2.2)
  else((thin cond (k+1) (x+1) (y::r)).1,(thin cond (k+1) (x+1) (y::r)).2.1,x::(thin cond (k+1) (x+1) (y::r)).2.2):=rfl
structure ThinOk(B:Nat->Nat)(s:Nat)(rest:List Nat)(t:List (Nat×Nat)×List (Nat×Nat)×List Nat)(B1:Nat->Nat):Prop where
 plays:zhd B t.1 B1
 same:∀x,x∉rest->B1 x=B x
 chain:zng B1 s t.2.2
 sub:∀x∈t.2.2,x∈rest
 mem:∀p∈t.1,p.1∈rest/\p.2∈rest
 lmem:∀p∈t.2.1,(p.1∈rest\/p.1+1=s)/\p.2∈rest
 batch:∀wr rd:List Nat,(∀z∈wr,z<s)->(∀z∈rd,z<s)->batch wr rd t.1
 len:t.2.2.length+t.1.length=rest.length/\t.2.1.length<=t.1.length
 fill:∀B2,(∀x∈t.2.2,B2 x=0)->(∀x∈rest,x∉t.2.2->B2 x=B1 x)->(s=0\/B2 (s-1)=0)->∃B3,zhd B2 t.2.1.reverse B3/\(∀x∈rest,B3 x=0)/\∀x,x∉rest->B3 x=B2 x
theorem mem2{x y z:Nat}{r:List Nat}(h:z∈x::y::r){P:Nat->Prop}(hx:P x)(hy:P y)(hr:∀z∈r,P z):P z:=za7.mpr ⟨hx,za7.mpr ⟨hy,hr⟩⟩ z h
theorem ThinOk.two{B B1:Nat->Nat}{s x y:Nat}{r:List Nat}{a b:List (Nat×Nat)}{c:List Nat}(c1:B x=s)(c2:s<=x)(c3:x+1=B y)(c4:x<y)(hr:∀z∈r,y<z)(T:ThinOk (upd B y (B x)) (y+1) r (a,b,c) B1) :
  ThinOk B s (x::y::r) ((x,y)::a,(if s=0 then[] else[(s-1,x)])++b,y::c) B1:=by
 have hyr:y∉r:=fun h=>zbb _ (hr y h)
 have hxr:x∉r:=fun h=>Nat.lt_asymm c4 (hr x h)
 have hx1:B1 x=s:=(T.same x hxr).trans ((zhz (za3 c4)).trans c1)
 exact{
  plays:=⟨c3,T.plays⟩
  same:=fun z hz=>(T.same z fun h=>hz (.tail _ (.tail _ h))).trans (zhz fun e=>hz (e▸.tail _ (.head _)))
  chain:=⟨(T.same y hyr).trans (zwv.trans c1),zab c2 (zav c4),T.chain⟩
  sub:=za7.mpr ⟨.tail _ (.head _),fun z hz=>.tail _ (.tail _ (T.sub z hz))⟩
  mem:=za7.mpr ⟨⟨.head _,.tail _ (.head _)⟩,fun p hp=>⟨.tail _ (.tail _ (T.mem p hp).1),.tail _ (.tail _ (T.mem p hp).2)⟩⟩
  lmem:=List.forall_mem_append.mpr ⟨fun p hp=>by
   by_cases hs:s=0
   ·rw[if_pos hs] at hp;cases hp
   ·rw[if_neg hs] at hp
    rw[zah.mp hp]
    exact⟨.inr (zb6 (Nat.pos_of_ne_zero hs)),.head _⟩,fun p hp=>⟨.inl ((T.lmem p hp).1.elim (fun h=>.tail _ (.tail _ h)) fun h=>Nat.succ.inj h▸.tail _ (.head _)),.tail _ (.tail _ (T.lmem p hp).2)⟩⟩
  batch:=fun wr rd hw hrd=>⟨fun h=>Nat.not_lt.mpr c2 (hw _ h),fun h=>Nat.not_lt.mpr (zab c2 (zav c4)) (hw _ h),fun h=>Nat.not_lt.mpr (zab c2 (zav c4)) (hrd _ h),
   T.batch _ _ (za7.mpr ⟨Nat.lt_succ_self y,fun z hz=>zay (hw z hz) (zab c2 (zbk (zav c4)))⟩) (za7.mpr ⟨Nat.lt_succ_of_lt c4,fun z hz=>zay (hrd z hz) (zab c2 (zbk (zav c4)))⟩)⟩
  len:=by
   refine⟨?_,?_⟩
   ·have:=T.len.1;show c.length+1+(a.length+1)=r.length+1+1;have:c.length+a.length=r.length:=this;exact Ar.ar1 [_,_,_] [] 0x6294001840200c20000a5000810080308000 (Y2 (Y0 (Y0 V0 J1) (Y0 V1 J1)) (Y0 (Y0 V2 J1) J1)) (Y2 (Y0 V0 V1) V2) (by assumption)
   ·have:b.length<=a.length:=T.len.2
    show((if s=0 then[] else[(s-1,x)])++b).length<=a.length+1
    by_cases hs:s=0
    ·rw[if_pos hs];exact zbk this
    ·rw[if_neg hs];exact zb3 this
  fill:=fun B2 h0 h1 hs=>by
   have hB2x:B2 x=s:=(h1 x (.head _) fun h=>(zal.mp h).elim (za3 c4) fun h=>hxr (T.sub x h)).trans hx1
   obtain⟨B3,P3,Z3,S3⟩:=T.fill B2 (fun z hz=>h0 z (.tail _ hz)) (fun z hzr hz=>h1 z (.tail _ (.tail _ hzr)) fun h=>(zal.mp h).elim (fun e=>hyr (e▸hzr)) hz) (.inr (h0 y (.head _)))
   have h3y:B3 y=0:=(S3 y hyr).trans (h0 y (.head _))
   have h3x:B3 x=s:=(S3 x hxr).trans hB2x
   by_cases e0:s=0
   ·rw[if_pos e0]
    exact⟨B3,P3,fun z hz=>mem2 (P:=fun z=>B3 z=0) hz (h3x.trans e0) h3y Z3,fun z hz=>S3 z fun h=>hz (.tail _ (.tail _ h))⟩
   ·have h30:B3 (s-1)=0:=(S3 _ fun h=>Nat.lt_asymm (hr _ h) (zay (Nat.sub_lt (Nat.pos_of_ne_zero e0) Nat.one_pos) (zab c2 (zav c4)))).trans (hs.resolve_left e0)
    rw[if_neg e0]
    refine⟨upd B3 x (B3 (s-1)),?_,fun z hz=>?_,fun z hz=>(zhz fun e:z=x=>hz (e▸.head _)).trans (S3 z fun h=>hz (.tail _ (.tail _ h)))⟩
    ·show zhd B2 ((s-1,x)::b).reverse _
     rw[List.reverse_cons]
     exact P3.append ⟨(zb6 (Nat.pos_of_ne_zero e0)).trans h3x.symm,rfl⟩
    ·by_cases e:z=x
     ·rw[e,zwv,h30]
     ·rw[zhz e];exact mem2 (P:=fun z=>z≠x->B3 z=0) hz (fun h=>absurd rfl h) (fun _=>h3y) (fun z h _=>Z3 z h) e }
theorem ThinOk.one {B B1:Nat->Nat} {s x:Nat} {r:List Nat} {a b:List (Nat×Nat)} {c:List Nat} (c1:B x=s) (c2:s<=x) (hr:∀z∈r,x<z) (T:ThinOk B (x+1) r (a,b,c) B1):ThinOk B s (x::r) (a,b,x::c) B1:=by
 have hxr:x∉r:=fun h=>zbb _ (hr x h)
 exact{
  plays:=T.plays
  same:=fun z hz=>T.same z fun h=>hz (.tail _ h)
  chain:=⟨(T.same x hxr).trans c1,c2,T.chain⟩
  sub:=za7.mpr ⟨.head _,fun z hz=>.tail _ (T.sub z hz)⟩
  mem:=fun p hp=>⟨.tail _ (T.mem p hp).1,.tail _ (T.mem p hp).2⟩
  lmem:=fun p hp=>⟨.inl ((T.lmem p hp).1.elim (fun h=>.tail _ h) fun h=>Nat.succ.inj h▸.head _),.tail _ (T.lmem p hp).2⟩
  batch:=fun wr rd hw hrd=>T.batch _ _ (fun z hz=>zay (hw z hz) (zbk c2)) (fun z hz=>zay (hrd z hz) (zbk c2))
  len:=⟨by have:c.length+a.length=r.length:=T.len.1;show c.length+1+a.length=r.length+1;exact Ar.ar1 [_,_,_] [] 0x6294001840200c20000a5000810080308000 (Y2 (Y0 (Y0 V0 J1) V1) (Y0 V2 J1)) (Y2 (Y0 V0 V1) V2) this,T.len.2⟩
  fill:=fun B2 h0 h1 hs=>by
   obtain⟨B3,P3,Z3,S3⟩:=T.fill B2 (fun z hz=>h0 z (.tail _ hz)) (fun z hzr hz=>h1 z (.tail _ hzr) fun h=>(zal.mp h).elim (fun e=>hxr (e▸hzr)) hz) (.inr (h0 x (.head _)))
   exact⟨B3,P3,za7.mpr ⟨(S3 x hxr).trans (h0 x (.head _)),Z3⟩,fun z hz=>S3 z fun h=>hz (.tail _ h)⟩ }
theorem zqr (cond:Nat->Bool):∀(k s:Nat) (rest:List Nat) (B:Nat->Nat),zng B s rest->∃B1,ThinOk B s rest (thin cond k s rest) B1
 |k,s,[],B,_=>⟨B,{ plays:=rfl,same:=fun _ _=>rfl,chain:=trivial,sub:=fun _ h=>(nomatch h),mem:=fun _ h=>(nomatch h),lmem:=fun _ h=>(nomatch h),batch:=fun _ _ _ _=>trivial,len:=⟨rfl,zaf _⟩,fill:=fun B2 _ _ _=>⟨B2,rfl,fun _ h=>(nomatch h),fun _ _=>rfl⟩ }⟩
 |k,s,[x],B,hc=>⟨B,{ plays:=rfl,same:=fun _ _=>rfl,chain:=hc,sub:=fun x hx=>hx,mem:=fun _ h=>(nomatch h),lmem:=fun _ h=>(nomatch h),batch:=fun _ _ _ _=>trivial,len:=⟨rfl,zaf _⟩,fill:=fun B2 h _ _=>⟨B2,rfl,h,fun _ _=>rfl⟩ }⟩
 |k,s,x::y::r,B,hc=>by
  rw[znb]
  have hr:∀z∈r,y<z:=fun z hz=>hc.2.2.2.2.ge z hz
  by_cases hk:cond k=true
  ·rw[if_pos hk]
   obtain⟨B1,T⟩:=zqr cond (k+2) (y+1) r (upd B y (B x)) (hc.2.2.2.2.congr fun z hz=>zhz (Nat.ne_of_gt (hr z hz)))
   exact⟨B1,.two hc.1 hc.2.1 hc.2.2.1.symm hc.2.2.2.1 hr T⟩
  ·rw[if_neg hk]
   obtain⟨B1,T⟩:=zqr cond (k+1) (x+1) (y::r) B hc.2.2
   exact⟨B1,.one hc.1 hc.2.1 (za7.mpr ⟨hc.2.2.2.1,fun z hz=>zar hc.2.2.2.1 (hr z hz)⟩) T⟩
noncomputable def zii(B:Nat->Nat):Nat->List (List Nat)->Prop
 |_,[]=>True
 |s,g::r=>(∀x∈g,B x=s/\s<=x)/\g.Pairwise (· < ·)/\∃m,g.getLast?=some m/\zii B (m+1) r
theorem zis:∀{g:List Nat}{m:Nat},g.Pairwise (· < ·)->g.getLast?=some m->∀x∈g,x<=m
 |[],_,_,h,_,_=>by cases h
 |[a],m,_,h,x,hx=>by simp at h hx;exact Ar.ar2 [_,_,_] [] 0x294a000c20000610040308040 (Y0 V0 V1) (Y2 V2 V1) (Y2 V0 V2) h hx
 |a::b::r,m,hp,h,x,hx=>by
  rw[List.pairwise_cons] at hp
  have hm:(b::r).getLast?=some m:=by rw[<- h];simp[List.getLast?_cons]
  rcases zal.mp hx with rfl |hx
  ·have:=hp.1 b zae
   have:=zis hp.2 hm b zae
   exact Ar.ar2 [_,_,_] [] 0x294a000c20000610080308020 (Y0 V0 V1) (Y0 V2 V1) (Y1 V0 V2) this (by assumption)
  ·exact zis hp.2 hm x hx
theorem zii.ge{B:Nat->Nat}:∀{gs:List (List Nat)}{s:Nat},zii B s gs->∀g∈gs,∀x∈g,s<=x
 |[],_,_,g,hg,_,_=>by cases hg
 |g::r,s,h,g',hg,x,hx=>by
  obtain⟨h1,h2,m,h3,h4⟩:=h
  rcases zal.mp hg with rfl |hg
  ·exact(h1 x hx).2
  ·have:=h4.ge g' hg x hx
   have hm:m∈g:=List.mem_of_getLast? h3
   have:=(h1 m hm).2
   exact Ar.ar2 [_,_,_] [] 0x294a000c20000610080308020 (Y0 V0 V1) (Y0 V0 V2) (Y0 (Y0 V2 J1) V1) this (by assumption)
theorem zii.congr{B B':Nat->Nat}:∀{gs:List (List Nat)}{s:Nat},zii B s gs->(∀g∈gs,∀x∈g,B' x=B x)->zii B' s gs
 |[],_,_,_=>trivial
 |g::r,s,hG,hx=>⟨fun x hm=>by rw[hx g zae x hm];exact hG.1 x hm,hG.2.1,hG.2.2.elim fun m h=>⟨m,h.1,h.2.congr fun g' hg=>hx g' (zai _ hg)⟩⟩
theorem zii.of{B:Nat->Nat}:∀{xs:List Nat}{s:Nat},zng B s xs->zii B s (xs.map fun x=>[x])
 |[],_,_=>trivial
 |x::r,s,h=>⟨fun y hy=>by rw[zah.mp hy];exact⟨h.1,h.2.1⟩,List.pairwise_singleton _ _,x,rfl,zii.of h.2.2⟩
theorem zkn{m:Nat}:∀{h:List Nat}{B:Nat->Nat},(∀x∈h,B x=m+1)->m∉h->h.Nodup->∃B',zhd B (h.map fun y=>(m,y)) B'/\(∀x∈h,B' x=B m)/\∀x,x∉h->B' x=B x
 |[],B,_,_,_=>⟨B,rfl,fun x hx=>(by cases hx),fun _ _=>rfl⟩
 |y::r,B,hB,hm,hnd=>by
  rw[zb5] at hnd
  simp only[zal,not_or] at hm
  obtain⟨B',h1,h2,h3⟩:=zkn (h:=r) (B:=upd B y (B m)) (fun x hx=>by
   have hxy:x≠y:=fun e=>hnd.1 (e▸hx)
   rw[zhz hxy];exact hB x (zai _ hx)) hm.2 hnd.2
  have hmm:upd B y (B m) m=B m:=zhz hm.1
  refine⟨B',⟨(hB y zae).symm,h1⟩,?_,?_⟩
  ·intro x hx
   rcases zal.mp hx with rfl |hx
   ·rw[h3 x hnd.1,zwv]
   ·rw[h2 x hx,hmm]
  ·intro x hx
   simp only[zal,not_or] at hx
   rw[h3 x hx.2,zhz hx.1]
theorem zkl{m:Nat}:∀{h:List Nat}{wr rd:List Nat},h.Nodup->m∉h->m∉wr->(∀x∈h,x∉wr/\x∉rd)->batch wr rd (h.map fun y=>(m,y))
 |[],_,_,_,_,_,_=>trivial
 |y::r,wr,rd,hnd,hm,hw,hx=>by
  rw[zb5] at hnd
  simp only[zal,not_or] at hm
  have h1:=hx y zae
  refine⟨hw,h1.1,h1.2,zkl hnd.2 hm.2 ?_ ?_⟩
  ·simp only[zal,not_or];exact⟨hm.1,hw⟩
  ·intro x hxr
   have h2:=hx x (zai _ hxr)
   simp only[zal,not_or]
   exact⟨⟨fun e=>hnd.1 (e▸hxr),h2.1⟩,fun e=>hm.2 (e▸hxr),h2.2⟩
theorem zm9{g:List Nat}(h:g.Pairwise (· < ·)):g.Nodup:=h.imp (fun h=>by exact Ar.ar1 [_,_] [] 0x429400184020102000000 (Y8 (Y2 V0 V1) J0) (Y1 V0 V1) h)
theorem zrj{a b:List Nat}:∀{pre post:List (List Nat)}{s:Nat}{B:Nat->Nat},zii B s (pre++a::b::post)->∃m,a.getLast?=some m/\m∉b/\b.Nodup/\∃B',zhd B (b.map fun y=>(m,y)) B' /\
  zii B' s (pre++(a++b)::post)/\∀x,x∉b->B' x=B x
 |[],post,s,B,hG=>by
  obtain⟨h1,h2,m,h3,h4,h5,m',h6,h7⟩:=hG
  have hm:=(h1 m (List.mem_of_getLast? h3))
  have hmb:m∉b:=fun h=>by have:=(h4 m h).2;exact Ar.ar1 [_] [] 171801870368 J0 (Y0 (Y0 V0 J1) V0) this
  obtain⟨B',p1,p2,p3⟩:=zkn (B:=B) (m:=m) (fun x hx=>(h4 x hx).1) hmb (zm9 h5)
  refine⟨m,h3,hmb,zm9 h5,B',p1,⟨?_,?_,m',?_,h7.congr fun g hg x hx=>p3 x fun hb=>?_⟩,p3⟩
  ·intro x hx
   rcases zau.mp hx with hx |hx
   ·rw[p3 x fun hb=>?_]
    ·exact h1 x hx
    ·have:=zis h2 h3 x hx
     have:=(h4 x hb).2
     exact Ar.ar2 [_,_] [] 0xa5000610080308020 J0 (Y0 (Y0 V0 J1) V1) (Y0 V1 V0) this (by assumption)
   ·rw[p2 x hx]
    have:=(h4 x hx).2
    exact⟨hm.1,by exact Ar.ar2 [_,_,_] [] 0x294a000c20000610040308040 (Y0 V0 V1) (Y0 V0 V2) (Y0 (Y0 V2 J1) V1) hm.2 this⟩
  ·rw[List.pairwise_append]
   refine⟨h2,h5,fun x hx y hy=>?_⟩
   have:=zis h2 h3 x hx
   have:=(h4 y hy).2
   exact Ar.ar2 [_,_,_] [] 0x294a000c20000610080308020 (Y1 V0 V1) (Y0 (Y0 V2 J1) V1) (Y0 V0 V2) this (by assumption)
  ·rw[List.getLast?_append,h6];rfl
  ·have:=h7.ge g hg x hx
   have:=zis h5 h6 x hb
   exact Ar.ar2 [_,_] [] 0xa5000610080308020 J0 (Y0 V0 V1) (Y0 (Y0 V1 J1) V0) this (by assumption)
 |g::pre,post,s,B,hG=>by
  obtain⟨h1,h2,m,h3,h4⟩:=hG
  obtain⟨m',a1,a2,a3,B',a4,a5,a6⟩:=zrj h4
  refine⟨m',a1,a2,a3,B',a4,⟨?_,h2,m,h3,a5⟩,a6⟩
  intro x hx
  rw[a6 x fun hb=>?_]
  ·exact h1 x hx
  ·have:=h4.ge b (by simp) x hb
   have:=zis h2 h3 x hx
   exact Ar.ar2 [_,_] [] 0xa5000610080308020 J0 (Y0 V0 V1) (Y0 (Y0 V1 J1) V0) this (by assumption)
end Bn
namespace Bn
noncomputable def zc9(B:Nat->Nat)(y:List (Nat×Nat)):Bool:=y.all fun p=>p.1+1==B p.2
noncomputable def zc1:Net->(Nat->Nat)->Option (Nat->Nat)
 |[],B=>some B
 |y::r,B=>if zc9 B y then zc1 r (zco (fun l _=>l) y B) else none
theorem zix {y:List (Nat×Nat)} {r:Net} {B:Nat->Nat}:zc1 (y::r) B=if zc9 B y then zc1 r (zco (fun l _=>l) y B) else none:=rfl
theorem zgv{y:List (Nat×Nat)}{r:Net}{B B':Nat->Nat}(h:zc1 (y::r) B=some B'):zc9 B y=true/\zc1 r (zco (fun l _=>l) y B)=some B':=by
 by_cases c:zc9 B y=true
 ·exact⟨c,((if_pos c).symm.trans h:zc1 r _=_)⟩
 ·exact absurd (((if_neg c).symm.trans h:none=some B')) (fun e=>nomatch e)
theorem znk{y:List (Nat×Nat)}{r:Net}{B:Nat->Nat}{o:Option (Nat->Nat)}(h:zc9 B y=true)(h2:zc1 r (zco (fun l _=>l) y B)=o):zc1 (y::r) B=o:=(if_pos h).trans h2
noncomputable def zdx(n:Nat)(net:Net):Bool:=match zc1 net id with
 |none=>false
 |some B=>(List.range n).all fun x=>B x==0
noncomputable def zhl(net:Net):Nat->List Nat:=runN (·++·) net fun x=>[x]
noncomputable def Fair(n:Nat)(net:Net):Prop:=∀y∈net,(∀p∈y,p.1<p.2/\p.2<n)/\(y.map (·.2)).Nodup
theorem zcx{α:Type}(f:α->α->α)(y:List (Nat×Nat))(σ:Nat->α)(x:Nat):(∃p∈y,p.2=x/\zco f y σ x=f (σ p.1) (σ x))\/zco f y σ x=σ x:=by
 unfold zco
 cases h:y.find? (fun p=>p.2==x) with
 |none=>exact .inr rfl
 |some p=>
  have:=List.find?_some h
  exact .inl ⟨p,zb9 h,by simpa using this,rfl⟩
theorem zd7{α:Type}(f:α->α->α){y:List (Nat×Nat)}(σ:Nat->α)(hn:(y.map (·.2)).Nodup){p:Nat×Nat}(hp:p∈y):zco f y σ p.2=f (σ p.1) (σ p.2):=by
 unfold zco
 cases h:y.find? (fun q=>q.2==p.2) with
 |none=>
  rw[List.find?_eq_none] at h
  exact absurd (by simp) (h p hp)
 |some q=>
  have:=List.find?_some h
  have:=zow hn q (zb9 h) p hp (by simpa using this)
  rw[this]
theorem zl6:∀(net:Net)(σ:Nat->List Nat)(x:Nat),∃pre,runN (·++·) net σ x=pre++σ x
 |[],σ,x=>⟨[],rfl⟩
 |y::r,σ,x=>by
  obtain⟨pre,h⟩:=zl6 r (zco (·++·) y σ) x
  rw[zc8,h]
  rcases zcx (·++·) y σ x with⟨p,_,_,e⟩|e
  ·rw[e];exact⟨pre++σ p.1,by simp⟩
  ·rw[e];exact⟨pre,rfl⟩
theorem zrw{n:Nat}{y:List (Nat×Nat)}{B:Nat->Nat}(hb:∀x,B x<=x)(hy:∀p∈y,p.1<p.2/\p.2<n)(ht:zc9 B y=true) :
  (∀x,zco (fun l _=>l) y B x<=x)/\zco (·++·) y (fun x=>ran (B x) x)=fun x=>ran (zco (fun l _=>l) y B x) x:=by
 constructor
 ·intro x
  rcases zcx (fun l _=>l) y B x with⟨p,hp,hx,e⟩|e
  ·rw[e];have:=hy p hp;have:=hb p.1;exact Ar.ar3 [_,_,_,_,_] [] 0x4294a50006100803080601840400c2000060 (Y0 V0 V1) (Y2 V2 V1) (Y0 V0 V3) (Y6 (Y1 V3 V2) (Y1 V2 V4)) hx this (by assumption)
  ·rw[e];exact hb x
 ·funext x
  unfold zco
  cases h:y.find? (fun p=>p.2==x) with
  |none=>rfl
  |some p=>
   have hp:=zb9 h
   have hx:p.2=x:=by simpa using List.find?_some h
   have h1:p.1+1=B p.2:=by
    have:=za5.mp ht p hp
    simpa using this
   subst hx
   show ran (B p.1) p.1++ran (B p.2) p.2=ran (B p.1) p.2
   rw[<- h1,zr2 (hb p.1) (hy p hp).1]
theorem zmc{n:Nat}:∀{net:Net}{B B':Nat->Nat},Fair n net->(∀x,B x<=x)->zc1 net B=some B'->(∀x,B' x<=x)/\runN (·++·) net (fun x=>ran (B x) x)=fun x=>ran (B' x) x
 |[],B,B',_,hb,h=>by cases h;exact⟨hb,rfl⟩
 |y::r,B,B',hf,hb,h=>by
  obtain⟨ht,h⟩:=zgv h
  obtain⟨s1,s2⟩:=zrw hb (hf y zae).1 ht
  have:=zmc (fun z hz=>hf z (zai _ hz)) s1 h
  refine⟨this.1,?_⟩
  rw[zc8,s2];exact this.2
theorem zs8{P S:List Nat}{a b m:Nat}(h:P++a::b::S=List.range m):b=a+1:=by
 have h1:(P++a::b::S)[P.length]?=some a:=by simp
 have h2:(P++a::b::S)[P.length+1]?=some b:=by simp
 rw[h,zbl] at h1 h2
 ·cases h1;cases h2;rfl
 all_goals
  have:=congrArg List.length h
  simp at this
  (first |exact Ar.ar1 [_,_,_] [] 0xa5000610000308020 (Y1 (Y0 V0 J1) V1) (Y2 (Y0 V0 (Y0 (Y0 V2 J1) J1)) V1) this |exact Ar.ar1 [_,_,_] [] 0xa5000610000308020 (Y1 V0 V1) (Y2 (Y0 V0 (Y0 (Y0 V2 J1) J1)) V1) this)
theorem zln{n:Nat}:∀{net:Net}{B:Nat->Nat},Fair n net->(∀x,B x<=x)->zc1 net B=none->∃x,x<n/\runN (·++·) net (fun x=>ran (B x) x) x≠List.range (x+1)
 |[],B,_,hb,h=>by cases h
 |y::r,B,hf,hb,h=>by
  rw[zix] at h
  split at h
  ·rename_i ht
   obtain⟨s1,s2⟩:=zrw hb (hf y zae).1 ht
   have:=zln (fun z hz=>hf z (zai _ hz)) s1 h
   rw[zc8,s2];exact this
  ·rename_i ht
   have hfy:=hf y zae
   have:∃p∈y,p.1+1≠B p.2:=by
    refine Classical.byContradiction fun hno=>ht ?_
    simp only[zc9,za5,beq_iff_eq]
    exact fun p hp=>Classical.byContradiction fun hne=>hno ⟨p,hp,hne⟩
   obtain⟨p,hp,hne⟩:=this
   refine⟨p.2,(hfy.1 p hp).2,fun hr=>hne ?_⟩
   obtain⟨pre,hs⟩:=zl6 r (zco (·++·) y fun x=>ran (B x) x) p.2
   rw[zc8,hs,zd7 _ _ hfy.2 hp] at hr
   have e1:ran (B p.1) p.1=List.range' (B p.1) (p.1-B p.1)++[p.1]:=by
    unfold ran
    have:=hb p.1
    rw[show p.1+1-B p.1=(p.1-B p.1)+1 by exact Ar.ar1 [_,_] [] 0x30d04294001840800c2000000194a50006101c03080601840101421004a108c2000468190a5294001840b00c204806100c0308020180a108c2000465294001840700c201806100405084610002508401 (Y2 (Y2 (Y0 V0 J1) V1) (Y0 (Y2 V0 V1) J1)) (Y0 V1 V0) this,List.range'_concat]
    congr 2;exact Ar.ar1 [_,_] [] 0x61a085294001840800c203006100400014a000c20200610000500421194a000c20180610040500421 (Y2 (Y0 V0 (Y1 J1 (Y2 V1 V0))) V1) (Y0 V0 V1) this
   have e2:ran (B p.2) p.2=B p.2::List.range' (B p.2+1) (p.2-B p.2):=by
    unfold ran
    have:=hb p.2
    rw[show p.2+1-B p.2=(p.2-B p.2)+1 by exact Ar.ar1 [_,_] [] 0x30d04294001840800c2000000194a50006101c03080601840101421004a108c2000468190a5294001840b00c204806100c0308020180a108c2000465294001840700c201806100405084610002508401 (Y2 (Y2 (Y0 V0 J1) V1) (Y0 (Y2 V0 V1) J1)) (Y0 V1 V0) this,List.range'_succ]
   simp only[e1,e2] at hr
   have hr':(pre++List.range' (B p.1) (p.1-B p.1))++p.1::B p.2::List.range' (B p.2+1) (p.2-B p.2)=List.range (p.2+1):=by
    rw[<- hr];simp
   exact(zs8 hr').symm
theorem zlc{b x:Nat}(hb:b<=x):ran b x=List.range (x+1)↔b=0:=by
 constructor
 ·intro h
  have:=congrArg List.length h
  simp[ran] at this
  exact Ar.ar2 [_,_] [] 0x30d04294001840800c2000000294a00102038061010030800028023080212800308000 (Y2 V0 J0) (Y0 V0 V1) (Y2 (Y2 (Y0 V1 J1) V0) (Y0 V1 J1)) hb this
 ·rintro rfl;simp[ran,List.range_eq_range']
theorem zjr{n:Nat}{net:Net}(hf:Fair n net):zdx n net=true↔∀x,x<n->zhl net x=List.range (x+1):=by
 have e0:(fun x:Nat=>[x])=fun x=>ran (id x) x:=by funext x;simp[ran]
 have hb:∀x:Nat,id x<=x:=fun x=>zaf _
 unfold zdx zhl
 rw[e0]
 cases h:zc1 net id with
 |none=>
  obtain⟨x,hx,hne⟩:=zln hf hb h
  simp only[zbx,false_iff]
  exact fun hall=>hne (hall x hx)
 |some B=>
  obtain⟨s1,s2⟩:=zmc hf hb h
  rw[s2]
  simp only[za5,za4,beq_iff_eq]
  exact⟨fun h x hx=>(zlc (s1 x)).mpr (h x hx),fun h x hx=>(zlc (s1 x)).mp (h x hx)⟩
theorem ze0{n:Nat}:∀{y:List (Nat×Nat)}{lo:Nat},zdr n lo y->(∀p∈y,p.1<p.2/\p.2<n/\lo<=p.2)/\(y.map (·.2)).Nodup
 |[],_,_=>⟨fun p hp=>(by cases hp),List.nodup_nil⟩
 |(l,h)::r,lo,⟨h1,h2,h3,h4⟩=>by
  obtain⟨i1,i2⟩:=ze0 h4
  refine⟨fun p hp=>?_,?_⟩
  ·rcases zal.mp hp with rfl |hp
   ·exact⟨h1,h2,h3⟩
   ·have:=i1 p hp;exact Ar.ar4 [_,_,_,_,_] [] 0xc6294a000c20180610180308000294001840500c20000a50006100c0308000 (Y6 (Y1 V0 V1) (Y6 (Y1 V1 V2) (Y0 V3 V1))) (Y0 V3 V4) (Y1 V0 V1) (Y1 V1 V2) (Y0 (Y0 V4 J1) V1) h3 this.1 this.2.1 this.2.2
  ·rw[zbg,zb5]
   refine⟨fun hm=>?_,i2⟩
   obtain⟨p,hp,e⟩:=zak.mp hm
   have:=i1 p hp
   simp only at e
   exact Ar.ar2 [_,_] [] 0xa5000610040308040 J0 (Y2 V0 V1) (Y0 (Y0 V1 J1) V0) e this.2.2
theorem zhe.fair{n:Nat}{net:Net}(h:zhe n net):Fair n net:=fun y hy=>by
 have:=ze0 (h.2 y hy).2
 exact⟨fun p hp=>⟨(this.1 p hp).1,(this.1 p hp).2.1⟩,this.2⟩
theorem ztb{α:Type}(f:α->α->α){y z:List (Nat×Nat)}(σ:Nat->α)(hn:(y.map (·.2)).Nodup)(hp:y.Perm z):zco f z σ=zco f y σ:=by
 have hz:(z.map (·.2)).Nodup:=(hp.map _).nodup_iff.mp hn
 funext x
 rcases zcx f y σ x with⟨p,h1,h2,e⟩|e
 ·subst h2
  rw[e,zd7 f σ hz (hp.mem_iff.mp h1)]
 ·rcases zcx f z σ x with⟨p,h1,h2,e'⟩|e'
  ·subst h2
   rw[e',zd7 f σ hn (hp.mem_iff.mpr h1)]
  ·rw[e,e']
theorem zo2{α:Type}(f:α->α->α){s:List (Nat×Nat)->List (Nat×Nat)}:∀{a:Net}(σ:Nat->α),(∀y∈a,(y.map (·.2)).Nodup)->(∀y∈a,y.Perm (s y))->runN f (a.map s) σ=runN f a σ
 |[],σ,_,_=>rfl
 |y::r,σ,hn,hp=>by
  rw[zbg,zc8,zc8,ztb f σ (hn y zae) (hp y zae)]
  exact zo2 f _ (fun y hy=>hn y (zai _ hy)) (fun y hy=>hp y (zai _ hy))
theorem zc3:∀(a b:Net)(B:Nat->Nat),zc1 (a++b) B=(zc1 a B).bind (zc1 b)
 |[],b,B=>rfl
 |y::r,b,B=>by
  simp only[List.cons_append,zix]
  split
  ·exact zc3 r b _
  ·rfl
theorem zf1{B:Nat->Nat}{y:List (Nat×Nat)}:zc9 B y=true↔∀p∈y,p.1+1=B p.2:=by
 simp only[zc9,za5,beq_iff_eq]
end Bn
namespace Bn
noncomputable def hiLe(a b:Nat×Nat):Bool:=decide (a.2<b.2)||(decide (a.2=b.2)&&decide (a.1<=b.1))
noncomputable def zit(y:List (Nat×Nat)):List (Nat×Nat):=y.mergeSort hiLe
theorem zfo(y:List (Nat×Nat)):y.Perm (zit y):=(List.mergeSort_perm y hiLe).symm
theorem hiLe_iff{a b:Nat×Nat}:hiLe a b=true↔a.2<b.2\/(a.2=b.2/\a.1<=b.1):=by simp only[hiLe,Bool.or_eq_true,Bool.and_eq_true,decide_eq_true_eq]
theorem hi3{a b c d e f:Nat}(h1:b<d\/(b=d/\a<=c))(h2:d<f\/(d=f/\c<=e)):b<f\/(b=f/\a<=e):=by exact Ar.ar2 [_,_,_,_,_,_] [] 0x7490e4214a5000610100308060184010140401884294a000c20200610080308000300a0294001840000c2010040210a528003080801840200c200006010124214a50006101403080401840000802010a528003080601840200c2000040 (Y7 (Y1 V0 V1) (Y6 (Y2 V0 V1) (Y0 V2 V3))) (Y7 (Y1 V0 V4) (Y6 (Y2 V0 V4) (Y0 V2 V5))) (Y7 (Y1 V4 V1) (Y6 (Y2 V4 V1) (Y0 V5 V3))) h1 h2
theorem hi1(a b c d:Nat):(b<d\/(b=d/\a<=c))\/(d<b\/(d=b/\c<=a)):=by exact Ar.ar0 [_,_,_,_] [] 0x84390e5280030806018400018a50006100003080a0294001840000c2010080310a5000610080308000280a500061000030804000000 (Y7 (Y7 (Y1 V0 V1) (Y6 (Y2 V0 V1) (Y0 V2 V3))) (Y7 (Y1 V1 V0) (Y6 (Y2 V1 V0) (Y0 V3 V2))))
theorem zlf(y:List (Nat×Nat)):(zit y).Pairwise fun a b=>hiLe a b=true:=by
 refine List.pairwise_mergeSort ?_ ?_ y
 ·exact fun a b c h1 h2=>hiLe_iff.mpr (hi3 (hiLe_iff.mp h1) (hiLe_iff.mp h2))
 ·exact fun a b=>zb2.mpr ((hi1 a.1 a.2 b.1 b.2).imp hiLe_iff.mpr hiLe_iff.mpr)
theorem zpm{n:Nat}:∀{y:List (Nat×Nat)}{lo:Nat},(y.Pairwise fun a b=>hiLe a b=true)->(y.map (·.2)).Nodup->(∀p∈y,p.1<p.2/\p.2<n/\lo<=p.2)->zdr n lo y
 |[],_,_,_,_=>trivial
 |(l,h)::r,lo,hp,hn,hy=>by
  have h1:=hy (l,h) zae
  rw[List.pairwise_cons] at hp
  rw[zbg,zb5] at hn
  refine⟨h1.1,h1.2.1,h1.2.2,zpm hp.2 hn.2 fun p hm=>?_⟩
  have h2:=hy p (zai _ hm)
  have h3:=hp.1 p hm
  have h4:p.2≠h:=fun e=>hn.1 (zak.mpr ⟨p,hm,e⟩)
  simp only[hiLe,Bool.or_eq_true,Bool.and_eq_true,decide_eq_true_eq] at h3
  exact⟨h2.1,h2.2.1,by exact Ar.ar2 [_,_,_,_] [] 0x1ca5000610040308000490a50006100c0308000000a5000610040308000 (Y0 (Y0 V0 J1) V1) (Y8 (Y2 V1 V0) J0) (Y7 (Y1 V0 V1) (Y6 (Y2 V0 V1) (Y0 V2 V3))) h4 h3⟩
theorem zn1{n:Nat}{y:List (Nat×Nat)}(hn:(y.map (·.2)).Nodup)(hy:∀p∈y,p.1<p.2/\p.2<n):zdr n 0 (zit y):=by
 refine zpm (zlf y) (((zfo y).map _).nodup_iff.mp hn) fun p hp=>?_
 have:=hy p ((zfo y).mem_iff.mpr hp)
 exact⟨this.1,this.2,za2 _⟩
theorem sortL_ne{y:List (Nat×Nat)}(h:y≠[]):zit y≠[]:=by
 intro e
 have:=(zfo y).length_eq
 rw[e] at this
 exact h (zbw.mp this)
theorem zgd:∀{n:Nat}{xs:List Nat},xs.Nodup->(∀x∈xs,x<n)->xs.length<=n
 |0,[],_,_=>zaf _
 |0,x::_,_,h=>absurd (h x zae) (by exact Ar.ar0 [_] [] 4679524742594560 (Y8 (Y1 V0 J0) J0))
 |n+1,xs,hn,h=>by
  by_cases hm:n∈xs
  ·have:=zgd (n:=n) (xs:=xs.erase n) (hn.erase n) fun x hx=>by
    rw[hn.mem_erase_iff] at hx
    have:=h x hx.2
    exact Ar.ar2 [_,_] [] 0x7294001840300c20000a5000610040308000 (Y1 V0 V1) (Y8 (Y2 V0 V1) J0) (Y1 V0 (Y0 V1 J1)) hx.1 this
   rw[List.length_erase_of_mem hm] at this
   exact Ar.ar1 [_,_] [] 0x65294001840300c20200610040508001 (Y0 V0 (Y0 V1 J1)) (Y0 (Y2 V0 J1) V1) this
  ·have:=zgd (n:=n) hn fun x hx=>by
    have:=h x hx
    have:x≠n:=fun e=>hm (e▸hx)
    exact Ar.ar2 [_,_] [] 0x7294001840300c20000a5000610040308000 (Y1 V0 V1) (Y8 (Y2 V0 V1) J0) (Y1 V0 (Y0 V1 J1)) this (by assumption)
   exact Ar.ar1 [_,_] [] 0xa5000610000308020 (Y0 V0 (Y0 V1 J1)) (Y0 V0 V1) this
theorem Laid.wide{n:Nat}{s:PS}{js:List (Nat×Nat)}(L:Laid n s js):∀y∈s.lays,y.length<=n:=by
 intro y hy
 obtain⟨i,hi,e⟩:=zca.mp hy
 have hiy:s.lays[i]?=some y:=by rw[zam hi,e]
 have:=zgd (L.nd y hy) fun x hx=>by
  obtain⟨p,hp,rfl⟩:=zak.mp hx
  exact(L.hi i y hiy p hp).2.2.2
 simpa using this
theorem zgz{n:Nat}:∀{ks:List (Nat×Nat)}{s:PS}{js:List (Nat×Nat)},Laid n s js->(∀p∈ks,p.1<p.2/\p.2<n)->(s.puts ks).lays.length<=s.lays.length+ks.length
 |[],s,js,_,_=>zaf _
 |(l,h)::r,s,js,L,hk=>by
  have hp:=hk (l,h) zae
  have:=zgz (ks:=r) (L.put hp.1 hp.2) fun p hp=>hk p (zai _ hp)
  rw[zur L] at this
  have:=L.at_le l h
  simp only[PS.puts,List.foldl_cons,zbh] at *
  exact Ar.ar3 [_,_,_,_,_] [] 0x9214a528003080601840500c202006100000010a528003080601840500c2000000 (Y0 V0 (Y0 V1 (Y0 V2 J1))) (Y0 V3 V1) (Y0 V0 (Y0 V4 V2)) (Y7 (Y6 (Y2 V4 V1) (Y0 (Y0 V3 J1) V1)) (Y6 (Y2 V4 (Y0 V3 J1)) (Y0 V1 (Y0 V3 J1)))) this (by assumption) (by exact Ar.mx _ _)
structure Told(n:Nat)(net:Net):Prop where
 ok:∀y∈net,zcs n y
 len:net.length<=n+3
 whole:∀x,x<n->zhl net x=List.range (x+1)
theorem told_of{n:Nat}{s:PS}{js:List (Nat×Nat)}{B:Nat->Nat}(L:Laid n s js)(P:zhd id js B)(h0:∀x,x<n->B x=0)(hl:s.lays.length<=n+3):Told n (s.lays.map zit) where
 ok:=by
  intro y hy
  obtain⟨z,hz,rfl⟩:=zak.mp hy
  obtain⟨i,hi,e⟩:=zca.mp hz
  have hiz:s.lays[i]?=some z:=by rw[zam hi,e]
  exact⟨sortL_ne (L.ne z hz),zn1 (L.nd z hz) fun p hp=>(L.hi i z hiz p hp).2.2⟩
 len:=by simpa using hl
 whole:=by
  intro x hx
  unfold zhl
  rw[zo2 _ _ L.nd fun y _=>zfo y,L.run]
  have e0:(fun x:Nat=>[x])=fun x=>ran (id x) x:=by funext x;simp[ran]
  have:=(zgb P fun x=>zaf _)
  rw[e0,this.2]
  exact(zlc (this.1 x)).mpr (h0 x hx)
noncomputable def FillOk(n:Nat)(B:Nat->Nat)(A:List Nat)(left:List (Nat×Nat)):Prop:=
 ∀B2,(∀x∈A,B2 x=0)->(∀x,x∉A->B2 x=B x)->∃B3,zhd B2 left.reverse B3/\∀x,x<n->B3 x=0
structure TurnInv(n t:Nat)(s:PS)(left:List (Nat×Nat))(active:List Nat):Prop where
 ex:∃js B,Laid n s js/\zhd id js B/\zng B 0 active/\FillOk n B active left
 lt:∀x∈active,x<n
 llt:∀p∈left,p.1<n/\p.2<n
 len:active.length+left.length<=n
 lay:s.lays.length<=t
theorem zr8:∀(k s:Nat),zng id s (List.range' s k)
 |0,_=>trivial
 |k+1,s=>⟨rfl,zaf _,zr8 k (s+1)⟩
theorem TurnInv.init(n:Nat):TurnInv n 0 (PS.init n) [] (List.range n) where
 ex:=⟨[],id,Laid.init n,rfl,by rw[List.range_eq_range'];exact zr8 n 0,fun B2 h _=>⟨B2,rfl,fun x hx=>h x (by simpa using hx)⟩⟩
 lt:=by simp
 llt:=by simp
 len:=by simp
 lay:=by simp[PS.init]
theorem TurnInv.thin{n t:Nat}{s:PS}{left:List (Nat×Nat)}{active:List Nat}(I:TurnInv n t s left active)(cond:Nat->Bool) :
  TurnInv n (t+1) (s.puts (thin cond 0 0 active).1) (left++(Bn.thin cond 0 0 active).2.1) (Bn.thin cond 0 0 active).2.2/\∀p∈(Bn.thin cond 0 0 active).1,p.1<p.2/\p.2<n:=by
 obtain⟨js,B,L,P,C,F⟩:=I.ex
 obtain⟨B1,T⟩:=zqr cond 0 0 active B C
 generalize Bn.thin cond 0 0 active=th at T
 have hb:=(zgb P fun x=>zaf _).1
 have hlt:∀p∈th.1,p.1<p.2/\p.2<n:=fun p hp=>⟨zjo T.plays hb p hp,I.lt _ (T.mem p hp).2⟩
 refine⟨⟨⟨js++th.1,B1,L.puts hlt,P.append T.plays,T.chain,?_⟩,fun x hx=>I.lt x (T.sub x hx),?_,?_,?_⟩,hlt⟩
 ·intro B2 h0 h1
  obtain⟨B3,P3,Z3,S3⟩:=T.fill B2 h0 (fun x _ hx=>h1 x hx) (.inl rfl)
  obtain⟨B4,P4,Z4⟩:=F B3 Z3 fun x hx=>by rw[S3 x hx,h1 x fun h=>hx (T.sub x h),T.same x hx]
  exact⟨B4,by rw[List.reverse_append];exact P3.append P4,Z4⟩
 ·intro p hp
  rcases zau.mp hp with hp |hp
  ·exact I.llt p hp
  ·have:=T.lmem p hp
   exact⟨I.lt _ (this.1.resolve_right (by exact Ar.ar0 [_] [] 4679524742594560 (Y8 (Y2 (Y0 V0 J1) J0) J0))),I.lt _ this.2⟩
 ·have:=I.len;have:=T.len;simp;exact Ar.ar3 [_,_,_,_,_,_] [] 0xa5294001840000c20180610040308040 (Y0 (Y0 V0 (Y0 V1 V2)) V3) (Y2 (Y0 V0 V4) V5) (Y0 V2 V4) (Y0 (Y0 V5 V1) V3) this.1 this.2 (by assumption)
 ·have:=L.batch hlt (T.batch [] [] (by simp) (by simp))
  have:=I.lay
  exact Ar.ar2 [_,_,_] [] 0x294a000c20000610080308020 (Y0 V0 (Y0 V1 J1)) (Y0 V2 V1) (Y0 V0 (Y0 V2 J1)) this (by assumption)
structure GInv(n M:Nat)(s:PS)(left:List (Nat×Nat))(gs:List (List Nat)):Prop where
 ex:∃js B,Laid n s js/\zhd id js B/\zii B 0 gs/\FillOk n B gs.flatten left
 lt:∀g∈gs,∀x∈g,x<n
 llt:∀p∈left,p.1<n/\p.2<n
 lay:s.lays.length+gs.length+left.length<=M
theorem GInv.of{n t:Nat}{s:PS}{left:List (Nat×Nat)}{active:List Nat}(I:TurnInv n t s left active):GInv n (n+t) s left (active.map fun x=>[x]):=by
 obtain⟨js,B,L,P,C,F⟩:=I.ex
 refine⟨⟨js,B,L,P,zii.of C,?_⟩,?_,I.llt,?_⟩
 ·have:∀l:List Nat,(l.map fun x=>[x]).flatten=l:=by intro l;induction l<;>simp_all
  rw[this];exact F
 ·intro g hg x hx
  obtain⟨y,hy,rfl⟩:=zak.mp hg
  rw[zah.mp hx];exact I.lt y hy
 ·have:=I.len;have:=I.lay;simp;exact Ar.ar2 [_,_,_,_,_] [] 0x294a000c20000610080308020 (Y0 (Y0 (Y0 V0 V1) V2) (Y0 V3 V4)) (Y0 V0 V4) (Y0 (Y0 V1 V2) V3) this (by assumption)
theorem GInv.merge{n M:Nat}{s:PS}{left:List (Nat×Nat)}{pre post:List (List Nat)}{a b:List Nat}(I:GInv n M s left (pre++a::b::post)) :
  ∃m,a.getLast?=some m/\GInv n M (s.puts (b.map fun y=>(m,y))) left (pre++(a++b)::post)/\(∀p∈b.map (fun y=>(m,y)),p.1<p.2/\p.2<n):=by
 obtain⟨js,B,L,P,C,F⟩:=I.ex
 obtain⟨m,h1,h2,h3,B',h4,h5,h6⟩:=zrj C
 have hb:=(zgb P fun x=>zaf _).1
 have hlt:∀p∈b.map (fun y=>(m,y)),p.1<p.2/\p.2<n:=fun p hp=>⟨zjo h4 hb p hp,by
  obtain⟨y,hy,rfl⟩:=zak.mp hp
  exact I.lt b (by simp) y hy⟩
 refine⟨m,h1,⟨⟨js++_,B',L.puts hlt,P.append h4,h5,?_⟩,?_,I.llt,?_⟩,hlt⟩
 ·have e:(pre++(a++b)::post).flatten=(pre++a::b::post).flatten:=by simp
  rw[e]
  intro B2 z0 z1
  refine F B2 z0 fun x hx=>?_
  rw[z1 x hx,h6 x fun hb=>hx ?_]
  simp[hb]
 ·intro g hg x hx
  simp only[zau,zal] at hg
  rcases hg with hg |rfl |hg
  ·exact I.lt g (by simp[hg]) x hx
  ·rcases zau.mp hx with hx |hx
   ·exact I.lt a (by simp) x hx
   ·exact I.lt b (by simp) x hx
  ·exact I.lt g (by simp[hg]) x hx
 ·have:=L.batch hlt (zkl h3 h2 (by simp) (by simp))
  have:=I.lay
  simp only[zao,zbh] at *
  exact Ar.ar2 [_,_,_,_,_,_] [] 0x294a000c20000610080308020 (Y0 (Y0 (Y0 V0 (Y0 V1 (Y0 V2 J1))) V3) V4) (Y0 (Y0 (Y0 V5 (Y0 V1 (Y0 (Y0 V2 J1) J1))) V3) V4) (Y0 V0 (Y0 V5 J1)) this (by assumption)
theorem GInv.fin{n M:Nat}{s:PS}{left:List (Nat×Nat)}{gs:List (List Nat)}(I:GInv n M s left gs)(h1:gs.length<=1)(hM:M<=n+3) :
  Told n ((s.puts left.reverse).lays.map zit)/\(∃js,Laid n s js)/\(∀p∈left.reverse,p.1<p.2/\p.2<n):=by
 obtain⟨js,B,L,P,C,F⟩:=I.ex
 have hz:∀x∈gs.flatten,B x=0:=by
  cases gs with
  |nil=>exact fun x hx=>nomatch hx
  |cons g r=>
   obtain rfl:r=[]:=zbw.mp (Nat.le_zero.mp (Nat.le_of_succ_le_succ h1))
   exact fun x hx=>(C.1 x (by simpa using hx)).1
 obtain⟨B3,P3,Z3⟩:=F B hz fun _ _=>rfl
 have hb:=(zgb P fun x=>zaf _).1
 have hlt:∀p∈left.reverse,p.1<p.2/\p.2<n:=fun p hp=>⟨zjo P3 hb p hp,(I.llt p (by simpa using hp)).2⟩
 refine⟨told_of (L.puts hlt) (P.append P3) Z3 ?_,⟨js,L⟩,hlt⟩
 have:=zgz L hlt
 have:=I.lay
 simp at *
 exact Ar.ar3 [_,_,_,_,_,_] [] 0xa5294001840000c200806100c0308040 (Y0 V0 (Y0 V1 (.l 3))) (Y0 V2 (Y0 V1 (.l 3))) (Y0 V0 (Y0 V3 V4)) (Y0 (Y0 (Y0 V3 V5) V4) V2) hM this (by assumption)
end Bn
namespace Bn
theorem zec{n:Nat}{y:List (Nat×Nat)}{lo lo':Nat}(h:lo<=lo')(hr:zdr n lo' y):zdr n lo y:=by
 cases y with
 |nil=>trivial
 |cons p r=>obtain⟨a,b,c,d⟩:=hr;exact⟨a,b,by exact Ar.ar2 [_,_,_] [] 0x294a000c20000610040308040 (Y0 V0 V1) (Y0 V0 V2) (Y0 V2 V1) h c,d⟩
noncomputable def tri:Nat->Nat
 |0=>0
 |n+1=>(n+1)+tri n
theorem tri_succ{n:Nat}:tri (n+1)=(n+1)+tri n:=rfl
theorem tri_le:∀n,n<=11->tri n<=66:=by decide
theorem ok_one{n l h:Nat}(h1:l<h)(h2:h<n):zcs n [(l,h)]:=⟨by simp,h1,h2,za2 _,trivial⟩
end Bn
namespace Bn
end Bn
namespace Bn
noncomputable def zlk(n:Nat)(net:Net):Prop:=∃B,zc1 net id=some B/\∀x,x<n->B x=0
theorem zlk.whole{n:Nat}{net:Net}(hf:Fair n net)(h:zlk n net):∀x,x<n->zhl net x=List.range (x+1):=by
 refine(zjr hf).mp ?_
 obtain⟨B,h1,h2⟩:=h
 unfold zdx
 rw[h1]
 simpa using h2
theorem zlk.of{n:Nat}{net:Net}(hf:Fair n net)(h:∀x,x<n->zhl net x=List.range (x+1)):zlk n net:=by
 have:=(zjr hf).mpr h
 unfold zdx at this
 cases e:zc1 net id with
 |none=>rw[e] at this;cases this
 |some B=>rw[e] at this;exact⟨B,e,by simpa using this⟩
theorem Told.tells{n:Nat}{net:Net}(T:Told n net):zlk n net:=zlk.of (fun y hy=>by
 have:=ze0 (T.ok y hy).2
 exact⟨fun p hp=>⟨(this.1 p hp).1,(this.1 p hp).2.1⟩,this.2⟩) T.whole
theorem zfu{B B':Nat->Nat}{y:List (Nat×Nat)}(hn:(y.map (·.2)).Nodup)(ht:∀p∈y,p.1+1=B p.2)(h1:∀p∈y,B' p.2=B p.1)(h2:∀x,(∀p∈y,p.2≠x)->B' x=B x):zc1 [y] B=some B':=by
 have:zc9 B y=true:=by
  simp only[zc9,za5,beq_iff_eq];exact ht
 rw[zix,if_pos this]
 refine congrArg some ?_
 funext x
 rcases zcx (fun l _=>l) y B x with⟨p,hp,rfl,e⟩|e
 ·rw[e,h1 p hp]
 ·by_cases hx:∀p∈y,p.2≠x
  ·rw[e,h2 x hx]
  ·have:∃p∈y,p.2=x:=Classical.byContradiction fun hno=>hx fun p hp e=>hno ⟨p,hp,e⟩
   obtain⟨p,hp,rfl⟩:=this
   rw[zd7 _ _ hn hp,h1 p hp]
noncomputable def zfb(n:Nat):Net:=(List.range (n-1)).map fun i=>[(i,i+1)]
theorem zqt{f:Nat->List (Nat×Nat)}{S:Nat->Nat->Nat}(k:Nat)(step:∀i,i<k->zc1 [f i] (S i)=some (S (i+1))):zc1 ((List.range k).map f) (S 0)=some (S k):=by
 induction k with
 |zero=>rfl
 |succ k ih=>
  rw[List.range_succ,zat,zc3,ih fun i hi=>step i (by exact Ar.ar1 [_,_] [] 0xa5000610000308020 (Y1 V0 (Y0 V1 J1)) (Y1 V0 V1) hi)]
  exact step k (by exact Ar.ar0 [_] [] 171801870336 (Y1 V0 (Y0 V0 J1)))
theorem zlj(n:Nat):zlk n (zfb n):=by
 have:=zqt (f:=fun i=>[(i,i+1)]) (S:=fun k x=>if x<=k then 0 else x) (n-1) fun i hi=>by
  refine zfu (by simp) ?_ ?_ ?_
  ·intro p hp;rw[zah.mp hp];show i+1=if i+1<=i then 0 else i+1;rw[if_neg (by exact Ar.ar0 [_] [] 4679524742594560 (Y8 (Y0 (Y0 V0 J1) V0) J0))]
  ·intro p hp;rw[zah.mp hp];simp
  ·intro x hx
   have:=hx _ zae
   simp only at this
   show(if x<=i+1 then 0 else x)=if x<=i then 0 else x
   repeat' split
   all_goals(first |exact Ar.ar0 [] [] 0x628003080002800308000 (Y2 J0 J0) |exact Ar.ar3 [_,_] [] 0x7294001840400c20000a50006100c0308000 (Y2 J0 V0) (Y8 (Y2 (Y0 V1 J1) V0) J0) (Y0 V0 (Y0 V1 J1)) (Y8 (Y0 V0 V1) J0) this (by assumption) (by assumption) |exact Ar.ar2 [_,_] [] 0xa5000610040308040 (Y2 V0 J0) (Y8 (Y0 V0 (Y0 V1 J1)) J0) (Y0 V0 V1) (by assumption) (by assumption) |exact Ar.ar0 [_] [] 0x628003080002800308000 (Y2 V0 V0))
 have e0:(fun x:Nat=>if x<=0 then 0 else x)=id:=by funext x;show(if x<=0 then 0 else x)=x;split<;>(first |exact Ar.ar1 [_] [] 0x18a000c20000a5000610080308000 (Y2 J0 V0) (Y0 V0 J0) (by assumption) |exact Ar.ar0 [_] [] 0x628003080002800308000 (Y2 V0 V0))
 rw[e0] at this
 exact⟨_,this,fun x hx=>by simp;lia⟩
theorem zpz(n:Nat):∀y∈zfb n,zcs n y:=by
 intro y hy
 obtain⟨i,hi,rfl⟩:=zak.mp hy
 rw[za4] at hi
 exact ok_one (by exact Ar.ar0 [_] [] 171801870336 (Y1 V0 (Y0 V0 J1))) (by exact Ar.ar1 [_,_] [] 0x1a08528003080e01840100005294001840400c20280610000508021 (Y1 (Y0 V0 J1) V1) (Y1 V0 (Y2 V1 J1)) hi)
noncomputable def zet(n s:Nat):List (Nat×Nat):=(List.range (n-s)).map fun i=>(i,i+s)
theorem dbl_step{n s:Nat}(hs:1<=s):zc1 [zet n s] (fun x=>if x<n then x+1-s else x)=some (fun x=>if x<n then x+1-2*s else x):=by
 have hmem:∀p∈zet n s,p.2=p.1+s/\p.2<n:=by
  intro p hp
  obtain⟨i,hi,rfl⟩:=zak.mp hp
  rw[za4] at hi
  exact⟨rfl,by show i+s<n;exact Ar.ar1 [_,_,_] [] 0x1a08528003080e01840100005294001840400c20280610000508441 (Y1 (Y0 V0 V1) V2) (Y1 V0 (Y2 V2 V1)) hi⟩
 refine zfu ?_ ?_ ?_ ?_
 ·unfold zet
  rw[za0]
  have:((fun p:Nat×Nat=>p.2)∘fun i=>(i,i+s))=fun i=>i+s:=rfl
  rw[this]
  exact List.Pairwise.map _ (fun a b (h:a≠b)=>by exact Ar.ar1 [_,_,_] [] 0x1c852800308020184000040429400184010102000020 (Y8 (Y2 (Y0 V0 V1) (Y0 V2 V1)) J0) (Y8 (Y2 V0 V2) J0) h) List.nodup_range
 ·intro p hp
  obtain⟨h1,h2⟩:=hmem p hp
  rw[if_pos h2,h1,Nat.add_right_comm,Nat.add_sub_cancel]
 ·intro p hp
  obtain⟨h1,h2⟩:=hmem p hp
  rw[if_pos h2,if_pos (zaw (h1▸za8 ..) h2),h1,Nat.two_mul,Nat.add_right_comm,Nat.add_sub_add_right]
 ·intro x hx
  by_cases hxn:x<n
  ·rw[if_pos hxn,if_pos hxn]
   by_cases hxs:s<=x
   ·exact absurd (zb6 hxs) (hx (x-s,x-s+s) (zak.mpr ⟨x-s,za4.mpr (Nat.sub_lt_sub_right hxs hxn),rfl⟩))
   ·have hxs:=Nat.lt_of_not_le hxs
    rw[Nat.sub_eq_zero_of_le hxs,Nat.sub_eq_zero_of_le (zab hxs (Nat.le_mul_of_pos_left s (by decide)))]
  ·rw[if_neg hxn,if_neg hxn]
theorem dbl_ok{n s:Nat}(hs:1<=s)(hsn:s<n):zcs n (zet n s):=by
 refine⟨?_,?_⟩
 ·unfold zet;intro h;have:=congrArg List.length h;simp at this;exact Ar.ar2 [_,_] [] 0x65294001840400c20280610040500421 J0 (Y1 V0 V1) (Y2 (Y2 V1 V0) J0) hsn this
 ·unfold zet
  have:∀(k a:Nat),a+k+s<=n->zdr n (a+s) ((List.range' a k).map fun i=>(i,i+s)):=by
   intro k
   induction k with
   |zero=>intro a _;trivial
   |succ k ih=>
    intro a h
    refine⟨by exact Ar.ar1 [_,_] [] 0xa5000610000308020 (Y1 V0 (Y0 V0 V1)) (Y0 J1 V1) hs,by exact Ar.ar1 [_,_,_,_] [] 0xa5000610000308020 (Y1 (Y0 V0 V1) V2) (Y0 (Y0 (Y0 V0 (Y0 V3 J1)) V1) V2) h,zaf _,?_⟩
    have:=ih (a+1) (by exact Ar.ar1 [_,_,_,_] [] 0xa5000610000308020 (Y0 (Y0 (Y0 (Y0 V0 J1) V1) V2) V3) (Y0 (Y0 (Y0 V0 (Y0 V1 J1)) V2) V3) h)
    rw[show a+1+s=a+s+1 by exact Ar.ar0 [_,_] [] 0x628003080002800308000 (Y2 (Y0 (Y0 V0 J1) V1) (Y0 (Y0 V0 V1) J1))] at this
    exact this
  have:=this (n-s) 0 (by exact Ar.ar1 [_,_] [] 0x68214a000c203806100000014a000c20200610000508401 (Y0 (Y0 (Y0 J0 (Y2 V0 V1)) V1) V0) (Y1 V1 V0) hsn)
  rw[<- List.range_eq_range'] at this
  exact zec (by exact Ar.ar0 [_] [] 171801870336 (Y0 J0 (Y0 J0 V0))) this
noncomputable def zc6(m:Nat)(y:List (Nat×Nat)):List (Nat×Nat):=y.map fun p=>(p.1+m,p.2+m)
noncomputable def zer:Net->Net->Net
 |[],b=>b
 |a,[]=>a
 |x::a,y::b=>(x++y)::zer a b
theorem zsm{b:Net}:zer [] b=b:=rfl
theorem zfz {x y:List (Nat×Nat)} {a b:Net}:zer (x::a) (y::b)=(x++y)::zer a b:=rfl
noncomputable def zuy (m:Nat) (Ba Bb B:Nat->Nat):Prop:=(∀x,x<m->B x=Ba x)/\∀y,B (m+y)=m+Bb y
theorem zki{m n:Nat}{Ba Bb B:Nat->Nat}(h:zuy m Ba Bb B){x y:List (Nat×Nat)}(hx:∀p∈x,p.1<p.2/\p.2<m)(hy:∀p∈y,p.1<p.2/\p.2<n)(nx:(x.map (·.2)).Nodup)(ny:(y.map (·.2)).Nodup)(tx:zc9 Ba x=true)(ty:zc9 Bb y=true) :
  zc9 B (x++zc6 m y)=true/\zuy m (zco (fun l _=>l) x Ba) (zco (fun l _=>l) y Bb) (zco (fun l _=>l) (x++zc6 m y) B):=by
 rw[zf1] at tx ty
 have hmem:∀p∈x++zc6 m y,p∈x\/∃q∈y,p=(q.1+m,q.2+m):=by
  intro p hp
  rcases zau.mp hp with hp |hp
  ·exact .inl hp
  ·obtain⟨q,hq,rfl⟩:=zak.mp hp;exact .inr ⟨q,hq,rfl⟩
 have nd:((x++zc6 m y).map (·.2)).Nodup:=by
  rw[zat,List.nodup_append]
  refine⟨nx,?_,?_⟩
  ·unfold zc6
   rw[za0]
   have:((fun p:Nat×Nat=>p.2)∘fun p:Nat×Nat=>(p.1+m,p.2+m))=(fun k=>k+m)∘fun p:Nat×Nat=>p.2:=rfl
   rw[this,<-za0]
   exact List.Pairwise.map _ (fun a b (h:a≠b)=>by exact Ar.ar1 [_,_,_] [] 0x1c852800308020184000040429400184010102000020 (Y8 (Y2 (Y0 V0 V1) (Y0 V2 V1)) J0) (Y8 (Y2 V0 V2) J0) h) ny
  ·intro a ha b hb
   obtain⟨p,hp,rfl⟩:=zak.mp ha
   obtain⟨q,hq,rfl⟩:=zak.mp hb
   obtain⟨r,hr,rfl⟩:=zak.mp hq
   have:=(hx p hp).2
   show p.2≠r.2+m
   exact Ar.ar1 [_,_,_] [] 0x429400184020102000000 (Y8 (Y2 V0 (Y0 V1 V2)) J0) (Y1 V0 V2) this
 refine⟨?_,?_,?_⟩
 ·rw[zf1]
  intro p hp
  rcases hmem p hp with hp |⟨q,hq,rfl⟩
  ·rw[h.1 _ (hx p hp).2];exact tx p hp
  ·show q.1+m+1=B (q.2+m)
   rw[Nat.add_comm q.2 m,h.2]
   have:=ty q hq
   exact Ar.ar1 [_,_,_] [] 0x6294001840200c20000a5000810080308000 (Y2 (Y0 (Y0 V0 V1) J1) (Y0 V1 V2)) (Y2 (Y0 V0 J1) V2) this
 ·intro z hz
  rcases zcx (fun l _=>l) x Ba z with⟨p,hp,rfl,e⟩|e
  ·rw[e,zd7 _ _ nd (List.mem_append_left _ hp)]
   exact h.1 _ (by have:=hx p hp;exact Ar.ar2 [_,_,_] [] 0x294a000c20000610040308040 (Y1 V0 V1) (Y1 V2 V1) (Y1 V0 V2) hz this.1)
  ·rw[e]
   rcases zcx (fun l _=>l) (x++zc6 m y) B z with⟨p,hp,rfl,e'⟩|e'
   ·rcases hmem p hp with hp |⟨q,hq,rfl⟩
    ·rw[zd7 _ _ nx hp] at e
     rw[e',h.1 _ (by have:=hx p hp;exact Ar.ar2 [_,_,_] [] 0x294a000c20000610040308040 (Y1 V0 V1) (Y1 V2 V1) (Y1 V0 V2) hz this.1),e]
    ·exact absurd hz (by show ¬q.2+m<m;exact Ar.ar0 [_,_] [] 4679524742594560 (Y8 (Y1 (Y0 V0 V1) V1) J0))
   ·rw[e',h.1 z hz]
 ·intro z
  rcases zcx (fun l _=>l) y Bb z with⟨p,hp,rfl,e⟩|e
  ·rw[e,show m+p.2=((p.1+m,p.2+m):Nat×Nat).2 by show m+p.2=p.2+m;exact Ar.ar0 [_,_] [] 0x628003080002800308000 (Y2 (Y0 V0 V1) (Y0 V1 V0)),zd7 _ _ nd (zbz _ (zak.mpr ⟨p,hp,rfl⟩))]
   show B (p.1+m)=_
   rw[Nat.add_comm p.1 m,h.2]
  ·rw[e]
   rcases zcx (fun l _=>l) (x++zc6 m y) B (m+z) with⟨p,hp,e0,e'⟩|e'
   ·rcases hmem p hp with hp |⟨q,hq,rfl⟩
    ·have:=(hx p hp).2;exact Ar.ar2 [_,_,_,_,_] [] 0xa5000810040308040 (Y2 V0 (Y0 V1 V2)) (Y2 V3 (Y0 V1 V4)) (Y1 V3 V1) e0 this
    ·have hqz:q.2=z:=by simp only at e0;exact Ar.ar1 [_,_,_] [] 0x6294001840200c20000a5000810080308000 (Y2 V0 V1) (Y2 (Y0 V0 V2) (Y0 V2 V1)) e0
     subst hqz
     rw[zd7 _ _ ny hq] at e
     rw[e']
     show B (q.1+m)=_
     rw[Nat.add_comm q.1 m,h.2,e]
   ·rw[e',h.2]
theorem Fair.tail{n:Nat}{y:List (Nat×Nat)}{r:Net}(h:Fair n (y::r)):Fair n r:=fun z hz=>h z (zai _ hz)
inductive BothN(m:Nat)(Ba Bb B:Nat->Nat)(net:Net):Prop
 |mk (B':Nat->Nat)(h1:zc1 net B=some B')(h2:zuy m Ba Bb B'):BothN m Ba Bb B net
theorem zr4{m n:Nat}{Ba:Nat->Nat}:∀{b:Net}{Bb B Bb':Nat->Nat},zuy m Ba Bb B->Fair n b->zc1 b Bb=some Bb'->BothN m Ba Bb' B (b.map (zc6 m))
 |[],Bb,B,_,h,_,hb=>by obtain rfl:=zaa hb;exact⟨B,rfl,h⟩
 |y::b,Bb,B,Bb',h,fb,hb=>by
  obtain⟨ty,hb⟩:=zgv hb
  have hy:=fb y zae
  have st:=zki (x:=[]) h (fun _ h=>nomatch h) hy.1 List.nodup_nil hy.2 rfl ty
  obtain⟨B',h1,h2⟩:=zr4 st.2 fb.tail hb
  exact⟨B',znk st.1 h1,h2⟩
theorem zvo:∀a:Net,zer a []=a
 |[]=>rfl
 |_::_=>rfl
theorem znj{m n:Nat}:∀{a b:Net}{Ba Bb B Ba' Bb':Nat->Nat},zuy m Ba Bb B->Fair m a->Fair n b->zc1 a Ba=some Ba'->zc1 b Bb=some Bb'->BothN m Ba' Bb' B (zer a (b.map (zc6 m)))
 |[],_,_,_,_,_,_,h,_,fb,ha,hb=>by obtain rfl:=zaa ha;exact zr4 h fb hb
 |x::a,[],Ba,Bb,B,Ba',Bb',h,fa,fb,ha,hb=>by
  obtain⟨tx,ha⟩:=zgv ha
  have hx:=fa x zae
  have st:=zki (y:=[]) (n:=n) h hx.1 (fun _ h=>nomatch h) hx.2 List.nodup_nil tx rfl
  rw[show x++zc6 m []=x from za9 x] at st
  obtain⟨B',h1,h2⟩:=znj (b:=[]) st.2 fa.tail fb ha hb
  exact⟨B',znk st.1 ((congrArg (fun z=>zc1 z _) (zvo a)).symm.trans h1),h2⟩
 |x::a,y::b,Ba,Bb,B,Ba',Bb',h,fa,fb,ha,hb=>by
  obtain⟨tx,ha⟩:=zgv ha
  obtain⟨ty,hb⟩:=zgv hb
  have hx:=fa x zae
  have hy:=fb y zae
  have st:=zki h hx.1 hy.1 hx.2 hy.2 tx ty
  obtain⟨B',h1,h2⟩:=znj st.2 fa.tail fb.tail ha hb
  exact⟨B',znk st.1 h1,h2⟩
noncomputable def zda(m n:Nat):List (Nat×Nat):=(List.range n).map fun i=>(m-1,m+i)
noncomputable def zdu(m:Nat)(a:Net)(n:Nat)(b:Net):Net:=zer a (b.map (zc6 m))++[zda m n]
theorem zpc{m n:Nat}{a b:Net}(hm:1<=m)(fa:Fair m a)(fb:Fair n b)(ta:zlk m a)(tb:zlk n b):zlk (m+n) (zdu m a n b):=by
 obtain⟨Ba,a1,a2⟩:=ta
 obtain⟨Bb,b1,b2⟩:=tb
 obtain⟨B,h1,h2⟩:=znj (m:=m) (n:=n) (Ba:=id) (Bb:=id) (B:=id) ⟨fun _ _=>rfl,fun _=>rfl⟩ fa fb a1 b1
 refine⟨fun x=>if m<=x/\x<m+n then 0 else B x,?_,?_⟩
 ·unfold zdu
  rw[zc3,h1]
  show zc1 [zda m n] B=_
  have hmem:∀p∈zda m n,∃i,i<n/\p=(m-1,m+i):=by
   intro p hp
   obtain⟨i,hi,rfl⟩:=zak.mp hp
   exact⟨i,by simpa using hi,rfl⟩
  refine zfu ?_ ?_ ?_ ?_
  ·unfold zda
   rw[za0]
   have:((fun p:Nat×Nat=>p.2)∘fun i=>(m-1,m+i))=fun i=>m+i:=rfl
   rw[this]
   exact List.Pairwise.map _ (fun a b (h:a≠b)=>by exact Ar.ar1 [_,_,_] [] 0x1c852800308020184000040429400184010102000020 (Y8 (Y2 (Y0 V0 V1) (Y0 V0 V2)) J0) (Y8 (Y2 V1 V2) J0) h) List.nodup_range
  ·intro p hp
   obtain⟨i,hi,rfl⟩:=hmem p hp
   show m-1+1=B (m+i)
   rw[h2.2,b2 i hi];exact Ar.ar1 [_] [] 0x61a085294001840800c203006100400014a000c20200610000508001194a000c20180610040508001 (Y2 (Y0 (Y2 V0 J1) J1) (Y0 V0 J0)) (Y0 J1 V0) hm
  ·intro p hp
   obtain⟨i,hi,rfl⟩:=hmem p hp
   show(if m<=m+i/\m+i<m+n then 0 else B (m+i))=B (m-1)
   rw[if_pos ⟨by exact Ar.ar0 [_,_] [] 171801870336 (Y0 V0 (Y0 V0 V1)),by exact Ar.ar1 [_,_,_] [] 0xa5000610000308020 (Y1 (Y0 V0 V1) (Y0 V0 V2)) (Y1 V1 V2) hi⟩,h2.1 _ (by exact Ar.ar1 [_] [] 0x1a085294001840600c203806100400014a000c20200610000508001 (Y1 (Y2 V0 J1) V0) (Y0 J1 V0) hm),a2 _ (by exact Ar.ar1 [_] [] 0x1a085294001840600c203806100400014a000c20200610000508001 (Y1 (Y2 V0 J1) V0) (Y0 J1 V0) hm)]
  ·intro x hx
   rw[if_neg]
   intro h
   exact hx (m-1,m+(x-m)) (zak.mpr ⟨x-m,by simp;exact Ar.ar2 [_,_,_] [] 0x1a085294a000c203006101c03081001840100005294001840400c20300610000508401 (Y1 (Y2 V0 V1) V2) (Y0 V1 V0) (Y1 V0 (Y0 V1 V2)) h.1 h.2,rfl⟩) (by show m+(x-m)=x;exact Ar.ar1 [_,_] [] 0x61a085294001840800c203006100400014a000c20200610000500421194a000c20180610040500421 (Y2 (Y0 V0 (Y2 V1 V0)) V1) (Y0 V0 V1) h.1)
 ·intro x hx
  by_cases h:m<=x
  ·simp only[h,hx,and_self,if_true]
  ·simp only[h,false_and,if_false]
   rw[h2.1 x (by exact Ar.ar1 [_,_] [] 0xa5000610000308020 (Y1 V0 V1) (Y8 (Y0 V1 V0) J0) h),a2 x (by exact Ar.ar1 [_,_] [] 0xa5000610000308020 (Y1 V0 V1) (Y8 (Y0 V1 V0) J0) h)]
noncomputable def oddL(y:List (Nat×Nat)):List (Nat×Nat):=y.map fun p=>(2*p.1+1,2*p.2+1)
noncomputable def Odd(k:Nat)(Bn B:Nat->Nat):Prop:=(∀i,i<k->B (2*i+1)=2*Bn i)/\∀i,B (2*i)=2*i
theorem zu2{k:Nat}:∀{a:Net}{Bn B Bn':Nat->Nat},Odd k Bn B->Fair k a->zc1 a Bn=some Bn'->∃B',zc1 (a.map oddL) B=some B'/\Odd k Bn' B'
 |[],Bn,B,_,h,_,ht=>by cases ht;exact⟨B,rfl,h⟩
 |y::r,Bn,B,Bn',h,hf,ht=>by
  obtain⟨hl,ht⟩:=zgv ht
  ·have hy:=hf y zae
   rw[zf1] at hl
   have nd:((oddL y).map (·.2)).Nodup:=by
    unfold oddL
    rw[za0]
    have:((fun p:Nat×Nat=>p.2)∘fun p:Nat×Nat=>(2*p.1+1,2*p.2+1))=(fun k=>2*k+1)∘fun p:Nat×Nat=>p.2:=rfl
    rw[this,<-za0]
    exact List.Pairwise.map _ (fun a b (h:a≠b)=>by exact Ar.ar1 [_,_] [] 0x1c852800310020184000040429400188010102000020 (Y8 (Y2 (Y0 (Y1 J2 V0) J1) (Y0 (Y1 J2 V1) J1)) J0) (Y8 (Y2 V0 V1) J0) h) hy.2
   have t1:zc9 B (oddL y)=true:=by
    rw[zf1]
    intro p hp
    obtain⟨q,hq,rfl⟩:=zak.mp hp
    show 2*q.1+1+1=B (2*q.2+1)
    rw[h.1 _ (hy.1 q hq).2]
    have:=hl q hq
    exact Ar.ar1 [_,_] [] 0x6294001880200c20000a5000820080308000 (Y2 (Y0 (Y0 (Y1 J2 V0) J1) J1) (Y1 J2 V1)) (Y2 (Y0 V0 J1) V1) this
   have st:Odd k (zco (fun l _=>l) y Bn) (zco (fun l _=>l) (oddL y) B):=by
    constructor
    ·intro i hi
     rcases zcx (fun l _=>l) y Bn i with⟨p,hp,rfl,e⟩|e
     ·rw[e,show 2*p.2+1=((2*p.1+1,2*p.2+1):Nat×Nat).2 from rfl,zd7 _ _ nd (zak.mpr ⟨p,hp,rfl⟩)]
      exact h.1 _ (by have:=hy.1 p hp;exact Ar.ar2 [_,_,_] [] 0x294a000c20000610040308040 (Y1 V0 V1) (Y1 V2 V1) (Y1 V0 V2) hi this.1)
     ·rw[e]
      rcases zcx (fun l _=>l) (oddL y) B (2*i+1) with⟨p,hp,e0,e'⟩|e'
      ·obtain⟨q,hq,rfl⟩:=zak.mp hp
       have hqi:q.2=i:=by simp only at e0;exact Ar.ar1 [_,_] [] 0x6294001840200c40000a5000810080310000 (Y2 V0 V1) (Y2 (Y0 (Y1 J2 V0) J1) (Y0 (Y1 J2 V1) J1)) e0
       subst hqi
       rw[zd7 _ _ hy.2 hq] at e
       rw[e']
       show B (2*q.1+1)=_
       rw[h.1 _ (by have:=hy.1 q hq;exact Ar.ar2 [_,_,_] [] 0x294a000c20000610040308040 (Y1 V0 V1) (Y1 V2 V1) (Y1 V0 V2) hi this.1),e]
      ·rw[e',h.1 i hi]
    ·intro i
     rcases zcx (fun l _=>l) (oddL y) B (2*i) with⟨p,hp,e0,e'⟩|e'
     ·obtain⟨q,hq,rfl⟩:=zak.mp hp
      simp only at e0;exact Ar.ar2 [_,_,_] [] 0x8294001840200c40000a5000810080310000 (Y2 V0 (Y1 J2 V1)) (Y2 (Y0 (Y1 J2 V2) J1) (Y1 J2 V1)) (Y7 (Y1 V2 V1) (Y0 V1 V2)) e0 (Nat.lt_or_ge _ _)
     ·rw[e',h.2]
   obtain⟨B',h1,h2⟩:=zu2 st (fun z hz=>hf z (zai _ hz)) ht
   exact⟨B',znk t1 h1,h2⟩
noncomputable def ztu(n:Nat):List (Nat×Nat):=(List.range (n/2)).map fun i=>(2*i,2*i+1)
noncomputable def endL(n:Nat):List (Nat×Nat):=(List.range ((n-1)/2)).map fun i=>(2*i+1,2*i+2)
noncomputable def zed(n:Nat)(a:Net):Net:=[ztu n]++a.map oddL++(if 2<n then[endL n] else[])
theorem zod{n:Nat}{a:Net}(fa:Fair (n/2) a)(ta:zlk (n/2) a):zlk n (zed n a):=by
 obtain⟨Ba,a1,a2⟩:=ta
 have h0:zc1 [ztu n] id=some (fun x=>if x%2=1/\x<2*(n/2) then x-1 else x):=by
  have hmem:∀p∈ztu n,∃i,i<n/2/\p=(2*i,2*i+1):=by
   intro p hp
   obtain⟨i,hi,rfl⟩:=zak.mp hp
   exact⟨i,by simpa using hi,rfl⟩
  refine zfu ?_ ?_ ?_ ?_
  ·unfold ztu
   rw[za0]
   have:((fun p:Nat×Nat=>p.2)∘fun i=>(2*i,2*i+1))=fun i=>2*i+1:=rfl
   rw[this]
   exact List.Pairwise.map _ (fun a b (h:a≠b)=>by exact Ar.ar1 [_,_] [] 0x1c852800310020184000040429400188010102000020 (Y8 (Y2 (Y0 (Y1 J2 V0) J1) (Y0 (Y1 J2 V1) J1)) J0) (Y8 (Y2 V0 V1) J0) h) List.nodup_range
  ·intro p hp;obtain⟨i,hi,rfl⟩:=hmem p hp;rfl
  ·intro p hp
   obtain⟨i,hi,rfl⟩:=hmem p hp
   show(if(2*i+1)%2=1/\2*i+1<2*(n/2) then 2*i+1-1 else 2*i+1)=2*i
   rw[if_pos ⟨by exact Ar.ar1 [_] [] 0xc3294001840200c20080e200c202002202065294001840300c40100810000710061010011006528003100401840001c401840400440 (Y2 (Y4 (Y0 (Y1 J2 V0) J1) J2) J1) (Y7 (Y1 V0 (Y3 (Y0 (Y1 J2 V0) J1) J2)) (Y0 (Y3 (Y0 (Y1 J2 V0) J1) J2) V0)) (Nat.lt_or_ge _ _),by exact Ar.ar1 [_,_] [] 0xa5000610000310020 (Y1 (Y0 (Y1 J2 V0) J1) (Y1 J2 (Y3 V1 J2))) (Y1 V0 (Y3 V1 J2)) hi⟩];exact Ar.ar0 [_] [] 0x1868214a000c203006100400014a000c202006100005080610100110065280030806018401014201840400440 (Y2 (Y2 (Y0 (Y1 J2 V0) J1) J1) (Y1 J2 V0))
  ·intro x hx
   rw[if_neg];rfl
   intro h
   exact hx (2*(x/2),2*(x/2)+1) (zak.mpr ⟨x/2,by simp;exact Ar.ar1 [_,_] [] 0x65294001880200c20180610000710001 (Y1 (Y3 V0 J2) (Y3 V1 J2)) (Y1 V0 (Y1 J2 (Y3 V1 J2))) h.2,rfl⟩) (by show 2*(x/2)+1=x;exact Ar.ar1 [_] [] 0x6194a50008101003080401840001c4000465294001840400c20100810000710001 (Y2 (Y0 (Y1 J2 (Y3 V0 J2)) J1) V0) (Y2 (Y4 V0 J2) J1) h.1)
 obtain⟨B,h1,h2⟩:=zu2 (k:=n/2) (Bn:=id) (B:=fun x=>if x%2=1/\x<2*(n/2) then x-1 else x) ⟨fun i hi=>by
  show(if(2*i+1)%2=1/\2*i+1<2*(n/2) then 2*i+1-1 else 2*i+1)=2*i
  rw[if_pos ⟨by exact Ar.ar1 [_] [] 0xc3294001840200c20080e200c202002202065294001840300c40100810000710061010011006528003100401840001c401840400440 (Y2 (Y4 (Y0 (Y1 J2 V0) J1) J2) J1) (Y7 (Y1 V0 (Y3 (Y0 (Y1 J2 V0) J1) J2)) (Y0 (Y3 (Y0 (Y1 J2 V0) J1) J2) V0)) (Nat.lt_or_ge _ _),by exact Ar.ar1 [_,_] [] 0xa5000610000310020 (Y1 (Y0 (Y1 J2 V0) J1) (Y1 J2 (Y3 V1 J2))) (Y1 V0 (Y3 V1 J2)) hi⟩];exact Ar.ar0 [_] [] 0x1868214a000c203006100400014a000c202006100005080610100110065280030806018401014201840400440 (Y2 (Y2 (Y0 (Y1 J2 V0) J1) J1) (Y1 J2 V0)),fun i=>by
  show(if(2*i)%2=1/\2*i<2*(n/2) then 2*i-1 else 2*i)=2*i
  rw[if_neg (by exact Ar.ar1 [_,_] [] 0x719085294001880500c20180810000000c071008008803294a000c401008100003080203880400440 (Y8 (Y6 (Y2 (Y4 (Y1 J2 V0) J2) J1) (Y1 (Y1 J2 V0) (Y1 J2 (Y3 V1 J2)))) J0) (Y7 (Y1 (Y3 (Y1 J2 V0) J2) V0) (Y0 V0 (Y3 (Y1 J2 V0) J2))) (Nat.lt_or_ge _ _))]⟩ fa a1
 have hodd:∀x,x%2=1->x<n->B x=0:=by
  intro x h3 h4
  have:=h2.1 (x/2) (by exact Ar.ar2 [_,_] [] 0x18ca5294a000c402008101403080c01840200c20080c20042710001 (Y1 (Y3 V0 J2) (Y3 V1 J2)) (Y2 (Y4 V0 J2) J1) (Y1 V0 V1) h3 h4)
  rw[show 2*(x/2)+1=x by exact Ar.ar1 [_] [] 0x6194a50008101003080401840001c4000465294001840400c20100810000710001 (Y2 (Y0 (Y1 J2 (Y3 V0 J2)) J1) V0) (Y2 (Y4 V0 J2) J1) h3,a2 _ (by exact Ar.ar2 [_,_] [] 0x18ca5294a000c402008101403080c01840200c20080c20042710001 (Y1 (Y3 V0 J2) (Y3 V1 J2)) (Y2 (Y4 V0 J2) J1) (Y1 V0 V1) h3 h4)] at this
  exact this
 have heven:∀x,x%2=0->B x=x:=by
  intro x h3
  have:=h2.2 (x/2)
  rw[show 2*(x/2)=x by exact Ar.ar1 [_] [] 0x186528003080401840001c4000465294001840400c20100810000710001 (Y2 (Y1 J2 (Y3 V0 J2)) V0) (Y2 (Y4 V0 J2) J0) h3] at this
  exact this
 by_cases hn:2<n
 ·refine⟨fun x=>if x<n then 0 else B x,?_,fun x hx=>by simp only[hx,if_true]⟩
  unfold zed
  rw[if_pos hn,zc3,zc3,h0]
  show(zc1 (a.map oddL) _).bind (zc1 [endL n])=_
  rw[h1]
  show zc1 [endL n] B=_
  have hmem:∀p∈endL n,∃i,i<(n-1)/2/\p=(2*i+1,2*i+2):=by
   intro p hp
   obtain⟨i,hi,rfl⟩:=zak.mp hp
   exact⟨i,by simpa using hi,rfl⟩
  refine zfu ?_ ?_ ?_ ?_
  ·unfold endL
   rw[za0]
   have:((fun p:Nat×Nat=>p.2)∘fun i=>(2*i+1,2*i+2))=fun i=>2*i+2:=rfl
   rw[this]
   exact List.Pairwise.map _ (fun a b (h:a≠b)=>by exact Ar.ar1 [_,_] [] 0x1c852800310020184000040429400188010102000020 (Y8 (Y2 (Y0 (Y1 J2 V0) J2) (Y0 (Y1 J2 V1) J2)) J0) (Y8 (Y2 V0 V1) J0) h) List.nodup_range
  ·intro p hp
   obtain⟨i,hi,rfl⟩:=hmem p hp
   show 2*i+1+1=B (2*i+2)
   rw[heven _ (by exact Ar.ar1 [_] [] 0xc8194a50006100c03100401840001c401880400440194a50006200804080001840101c4018804004402800308000 (Y2 (Y4 (Y0 (Y1 J2 V0) J2) J2) J0) (Y7 (Y1 (Y3 (Y0 (Y1 J2 V0) J2) J2) (Y0 V0 J1)) (Y0 (Y0 V0 J1) (Y3 (Y0 (Y1 J2 V0) J2) J2))) (Nat.lt_or_ge _ _))]
  ·intro p hp
   obtain⟨i,hi,rfl⟩:=hmem p hp
   show(if 2*i+2<n then 0 else B (2*i+2))=B (2*i+1)
   rw[if_pos (by exact Ar.ar2 [_,_] [] 0xd04294001840700c2000000194a528003080c01880800c201006100006100a10042508021 (Y1 (Y0 (Y1 J2 V0) J2) V1) (Y1 J2 V1) (Y1 V0 (Y3 (Y2 V1 J1) J2)) hn hi),hodd _ (by exact Ar.ar1 [_] [] 0xc3294001840200c20080e200c202002202065294001840300c40100810000710061010011006528003100401840001c401840400440 (Y2 (Y4 (Y0 (Y1 J2 V0) J1) J2) J1) (Y7 (Y1 V0 (Y3 (Y0 (Y1 J2 V0) J1) J2)) (Y0 (Y3 (Y0 (Y1 J2 V0) J1) J2) V0)) (Nat.lt_or_ge _ _)) (by exact Ar.ar1 [_,_] [] 0x3194a528003080a01880600c201806100005080213080508021 (Y1 (Y0 (Y1 J2 V0) J1) V1) (Y1 V0 (Y3 (Y2 V1 J1) J2)) hi)]
  ·intro x hx
   by_cases hxn:x<n
   ·rw[if_pos hxn]
    by_cases h3:x%2=1
    ·rw[hodd x h3 hxn]
    ·by_cases h4:x=0
     ·rw[h4,heven 0 rfl]
     ·exact absurd (show 2*(x/2-1)+2=x by exact Ar.ar3 [_] [] 0x940ca5000610080308020388000a865294a000c402006100c03080402040001c40004a000c20000e340c85294a000c40480610200308040188010080610001194a50006101803100401840001840004a10184000523294001840200c20080e200023194a528003080c018405010201806200405080c20002710001 (Y2 (Y0 (Y1 J2 (Y2 (Y3 V0 J2) J1)) J2) V0) (Y8 (Y2 (Y4 V0 J2) J1) J0) (Y8 (Y2 V0 J0) J0) (Y7 (Y1 J0 (Y3 V0 J2)) (Y0 (Y3 V0 J2) J0)) h3 h4 (Nat.lt_or_ge _ _)) (hx (2*(x/2-1)+1,2*(x/2-1)+2) (zak.mpr ⟨x/2-1,by simp;exact Ar.ar2 [_,_] [] 0xd03190a5294a000c405806103003080c01840300c40080a028401098402840108c63294a5294001880b00c206806201c03080a01840400c20080a100426100a100426100012840610001 (Y1 (Y2 (Y3 V0 J2) J1) (Y3 (Y2 V1 J1) J2)) (Y1 J2 V1) (Y1 V0 V1) hn hxn,rfl⟩))
   ·rw[if_neg hxn]
 ·refine⟨B,?_,?_⟩
  ·unfold zed
   rw[if_neg hn,za9,zc3,h0]
   exact h1
  ·intro x hx
   by_cases h3:x%2=1
   ·exact hodd x h3 hx
   ·rw[heven x (by exact Ar.ar1 [_] [] 0x3206528003080401840101c40004a50006100403080002800308000 (Y2 (Y4 V0 J2) J0) (Y8 (Y2 (Y4 V0 J2) J1) J0) h3)];exact Ar.ar4 [_,_] [] 0x1943294001840200c20080e20002c194a528003080801840300c40100810000710001194a528003080c01840700c401006100007100012800308000 (Y2 V0 J0) (Y8 (Y1 J2 V1) J0) (Y1 V0 V1) (Y8 (Y2 (Y4 V0 J2) J1) J0) (Y7 (Y1 J0 (Y3 V0 J2)) (Y0 (Y3 V0 J2) J0)) hn hx h3 (Nat.lt_or_ge _ _)
end Bn
namespace Bn
theorem zi6{m N:Nat}(hN:m<=N):∀{x z:List (Nat×Nat)}{lo:Nat},lo<=m->zdr m lo x->zdr N m z->zdr N lo (x++z)
 |[],z,lo,h,_,hz=>zec h hz
 |(l,k)::r,z,lo,h,q,hz=>⟨q.1,zay q.2.1 hN,q.2.2.1,zi6 hN q.2.1 q.2.2.2 hz⟩
theorem zgg{m n:Nat}:∀{y:List (Nat×Nat)}{lo:Nat},zdr n lo y->zdr (m+n) (m+lo) (zc6 m y)
 |[],_,_=>trivial
 |(l,k)::r,lo,⟨a,b,c,d⟩=>⟨by exact Ar.ar1 [_,_,_] [] 0xa5000610000308020 (Y1 (Y0 V0 V1) (Y0 V2 V1)) (Y1 V0 V2) a,by exact Ar.ar1 [_,_,_] [] 0xa5000610000308020 (Y1 (Y0 V0 V1) (Y0 V1 V2)) (Y1 V0 V2) b,by exact Ar.ar1 [_,_,_] [] 0xa5000610000308020 (Y0 (Y0 V0 V1) (Y0 V2 V0)) (Y0 V1 V2) c,by
  have:=zgg (m:=m) d
  rw[show m+(k+1)=k+m+1 by exact Ar.ar0 [_,_] [] 0x628003080002800308000 (Y2 (Y0 V0 (Y0 V1 J1)) (Y0 (Y0 V1 V0) J1))] at this
  exact this⟩
theorem zhw:∀(a b:Net),(zer a b).length=max a.length b.length
 |[],b=>(Nat.zero_max b.length).symm
 |x::a,[]=>(Nat.max_zero (x::a).length).symm
 |x::a,y::b=>by simp only[zfz,zbh,zhw a b];exact Ar.ar2 [_,_,_,_] [] 0x190a210a528003080c018402010200004008084294a50006101803080402040000c200804008144214a528003080c01840201020000610040200404214a5000610180308040204000080102144214a5000610180408040184000080101085294a000c20300810080308060184000080102884294a50006101804080401840300c200004008084294a000c2030081008030800010020 (Y2 (Y0 V0 J1) V1) (Y7 (Y6 (Y2 V0 V2) (Y0 V3 V2)) (Y6 (Y2 V0 V3) (Y0 V2 V3))) (Y7 (Y6 (Y2 V1 (Y0 V2 J1)) (Y0 (Y0 V3 J1) (Y0 V2 J1))) (Y6 (Y2 V1 (Y0 V3 J1)) (Y0 (Y0 V2 J1) (Y0 V3 J1)))) (Ar.mx _ _) (Ar.mx _ _)
theorem zn0{m n:Nat}:∀{a b:Net},(∀y∈a,zcs m y)->(∀y∈b,zcs n y)->∀y∈zer a (b.map (zc6 m)),zcs (m+n) y
 |[],b,_,hb,y,hy=>by
  simp only[zsm,zak] at hy
  obtain⟨z,hz,rfl⟩:=hy
  obtain⟨h1,h2⟩:=hb z hz
  refine⟨by simp[zc6,h1],zec (za2 _) (zgg h2)⟩
 |x::a,[],ha,_,y,hy=>by
  have:y∈x::a:=hy
  obtain⟨h1,h2⟩:=ha y this
  refine⟨h1,?_⟩
  have:=zi6 (m:=m) (N:=m+n) (z:=[]) (by exact Ar.ar0 [_,_] [] 171801870336 (Y0 V0 (Y0 V0 V1))) (za2 _) h2 trivial
  simpa using this
 |x::a,z::b,ha,hb,y,hy=>by
  simp only[zbg,zfz] at hy
  rcases zal.mp hy with rfl |hy
  ·obtain⟨h1,h2⟩:=ha x zae
   obtain⟨h3,h4⟩:=hb z zae
   refine⟨by simp[h1],zi6 (by exact Ar.ar0 [_,_] [] 171801870336 (Y0 V0 (Y0 V0 V1))) (za2 _) h2 (zgg h4)⟩
  ·exact zn0 (fun y h=>ha y (zai _ h)) (fun y h=>hb y (zai _ h)) y hy
theorem zi7{N:Nat}(f g:Nat->Nat)(hfg:∀i,f i<g i)(hg:∀i,g i<g (i+1)):∀(k a:Nat),(∀i,i<a+k->g i<N)->zdr N (g a) ((List.range' a k).map fun i=>(f i,g i))
 |0,_,_=>trivial
 |k+1,a,h=>⟨hfg a,h a (by exact Ar.ar0 [_,_] [] 171801870336 (Y1 V0 (Y0 V0 (Y0 V1 J1)))),zaf _,zec (hg a) (zi7 f g hfg hg k (a+1) fun i hi=>h i (by exact Ar.ar1 [_,_,_] [] 0xa5000610000308020 (Y1 V0 (Y0 V1 (Y0 V2 J1))) (Y1 V0 (Y0 (Y0 V1 J1) V2)) hi))⟩
theorem zml{N:Nat}(f g:Nat->Nat)(hfg:∀i,f i<g i)(hg:∀i,g i<g (i+1)){k:Nat}(hk:0<k)(h:∀i,i<k->g i<N):zcs N ((List.range k).map fun i=>(f i,g i)):=by
 refine⟨fun e=>?_,?_⟩
 ·have:=congrArg List.length e;simp at this;exact Ar.ar2 [_] [] 0xa5000610040308040 J0 (Y1 J0 V0) (Y2 V0 J0) hk this
 ·have:=zi7 f g hfg hg k 0 (N:=N) (fun i hi=>h i (by exact Ar.ar1 [_,_] [] 0xa5000610000308020 (Y1 V0 V1) (Y1 V0 (Y0 J0 V1)) hi))
  rw[<- List.range_eq_range'] at this
  exact zec (za2 _) this
theorem last_ok{m n:Nat}(hm:1<=m)(hn:1<=n):zcs (m+n) (zda m n):=
 zml (fun _=>m-1) (fun i=>m+i) (fun i=>by exact Ar.ar1 [_,_] [] 0x1a085294001840600c203806100400014a000c20200610000508001 (Y1 (Y2 V0 J1) (Y0 V0 V1)) (Y0 J1 V0) hm) (fun i=>by exact Ar.ar0 [_,_] [] 171801870336 (Y1 (Y0 V0 V1) (Y0 V0 (Y0 V1 J1)))) hn (fun i hi=>by exact Ar.ar1 [_,_,_] [] 0xa5000610000308020 (Y1 (Y0 V0 V1) (Y0 V0 V2)) (Y1 V1 V2) hi)
theorem zxd{m n:Nat}{a b:Net}(hm:1<=m)(hn:1<=n)(ha:∀y∈a,zcs m y)(hb:∀y∈b,zcs n y):∀y∈zdu m a n b,zcs (m+n) y:=by
 intro y hy
 rcases zau.mp hy with hy |hy
 ·exact zn0 ha hb y hy
 ·rw[zah.mp hy];exact last_ok hm hn
theorem zg6(m n:Nat)(a b:Net):(zdu m a n b).length=max a.length b.length+1:=by
 simp[zdu,zhw]
theorem zlu{k:Nat}:∀{y:List (Nat×Nat)}{lo:Nat},zdr k lo y->zdr (2*k) (2*lo) (oddL y)
 |[],_,_=>trivial
 |(l,h)::r,lo,⟨a,b,c,d⟩=>⟨by exact Ar.ar1 [_,_] [] 0xa5000610000310020 (Y1 (Y0 (Y1 J2 V0) J1) (Y0 (Y1 J2 V1) J1)) (Y1 V0 V1) a,by exact Ar.ar1 [_,_] [] 0xa5000610000310020 (Y1 (Y0 (Y1 J2 V0) J1) (Y1 J2 V1)) (Y1 V0 V1) b,by exact Ar.ar1 [_,_] [] 0xa5000610000310020 (Y0 (Y1 J2 V0) (Y0 (Y1 J2 V1) J1)) (Y0 V0 V1) c,zec (by exact Ar.ar0 [_] [] 171801870336 (Y0 (Y0 (Y0 (Y1 J2 V0) J1) J1) (Y1 J2 (Y0 V0 J1)))) (zlu d)⟩
theorem znp{m N:Nat}(h:m<=N):∀{y:List (Nat×Nat)}{lo:Nat},zdr m lo y->zdr N lo y
 |[],_,_=>trivial
 |(l,k)::r,lo,⟨a,b,c,d⟩=>⟨a,by exact Ar.ar2 [_,_,_] [] 0x294a000c20000610040308040 (Y1 V0 V1) (Y0 V2 V1) (Y1 V0 V2) h b,c,znp h d⟩
theorem zv9{n:Nat}{a:Net}(hn:2<=n)(ha:∀y∈a,zcs (n/2) y):∀y∈zed n a,zcs n y:=by
 intro y hy
 unfold zed at hy
 rcases zau.mp hy with hy |hy
 ·rcases zau.mp hy with hy |hy
  ·rw[zah.mp hy]
   exact zml (fun i=>2*i) (fun i=>2*i+1) (fun i=>by exact Ar.ar0 [_] [] 171801870336 (Y1 (Y1 J2 V0) (Y0 (Y1 J2 V0) J1))) (fun i=>by exact Ar.ar0 [_] [] 171801870336 (Y1 (Y0 (Y1 J2 V0) J1) (Y0 (Y1 J2 (Y0 V0 J1)) J1))) (by exact Ar.ar1 [_] [] 0x65294001880200c20180610040610001 (Y1 J0 (Y3 V0 J2)) (Y0 J2 V0) hn) (fun i hi=>by exact Ar.ar1 [_,_] [] 0x65294001840200c40180610000610021 (Y1 (Y0 (Y1 J2 V0) J1) V1) (Y1 V0 (Y3 V1 J2)) hi)
  ·obtain⟨z,hz,rfl⟩:=zak.mp hy
   obtain⟨h1,h2⟩:=ha z hz
   exact⟨by simp[oddL,h1],znp (by exact Ar.ar0 [_] [] 0x194a000c20100610000610001 (Y0 (Y1 J2 (Y3 V0 J2)) V0)) (zlu h2)⟩
 ·split at hy
  ·rw[zah.mp hy]
   exact zml (fun i=>2*i+1) (fun i=>2*i+2) (fun i=>by exact Ar.ar0 [_] [] 171801870336 (Y1 (Y0 (Y1 J2 V0) J1) (Y0 (Y1 J2 V0) J2))) (fun i=>by exact Ar.ar0 [_] [] 171801870336 (Y1 (Y0 (Y1 J2 V0) J2) (Y0 (Y1 J2 (Y0 V0 J1)) J2))) (by exact Ar.ar1 [_] [] 0x3194a528003100a01840600c202006100405080013080508001 (Y1 J0 (Y3 (Y2 V0 J1) J2)) (Y1 J2 V0) (by assumption)) (fun i hi=>by exact Ar.ar2 [_,_] [] 0xd04294001840700c2000000194a528003080c01880800c201006100006100a10042508021 (Y1 (Y0 (Y1 J2 V0) J2) V1) (Y0 J2 V1) (Y1 V0 (Y3 (Y2 V1 J1) J2)) hn hi)
  ·cases hy
theorem ztw(n:Nat)(a:Net):(zed n a).length=1+a.length+(if 2<n then 1 else 0):=by
 unfold zed;split<;>simp<;>exact Ar.ar0 [_] [] 0x628003080002800308000 (Y2 (Y0 V0 J1) (Y0 J1 V0))
theorem zkg{n:Nat}{net:Net}(h:∀y∈net,zcs n y):Fair n net:=fun y hy=>by
 have:=ze0 (h y hy).2
 exact⟨fun p hp=>⟨(this.1 p hp).1,(this.1 p hp).2.1⟩,this.2⟩
structure Fine(n:Nat)(net:Net):Prop where
 ok:∀y∈net,zcs n y
 tells:zlk n net
theorem Fine.whole{n:Nat}{net:Net}(F:Fine n net):∀x,x<n->zhl net x=List.range (x+1):=F.tells.whole (zkg F.ok)
theorem Told.fine{n:Nat}{net:Net}(T:Told n net):Fine n net:=⟨T.ok,T.tells⟩
theorem zhi{m n:Nat}{a b:Net}(hm:1<=m)(hn:1<=n)(ha:Fine m a)(hb:Fine n b):Fine (m+n) (zdu m a n b):=
 ⟨zxd hm hn ha.ok hb.ok,zpc hm (zkg ha.ok) (zkg hb.ok) ha.tells hb.tells⟩
theorem zp1{n:Nat}{a:Net}(hn:2<=n)(ha:Fine (n/2) a):Fine n (zed n a):=⟨zv9 hn ha.ok,zod (zkg ha.ok) ha.tells⟩
theorem fine_one(n:Nat):Fine n (zfb n):=⟨zpz n,zlj n⟩
theorem zjt:Fine 1 []:=⟨fun y hy=>(by cases hy),⟨id,rfl,fun x hx=>(by show x=0;exact Ar.ar1 [_] [] 0x18a50006100803080002800308000 (Y2 V0 J0) (Y1 V0 J1) hx)⟩⟩
theorem fine_dbl{n:Nat}{s:Nat}{a:Net}(ha:∀y∈a,zcs n y)(hs:zc1 a id=some (fun x=>if x<n then x+1-s else x))(h1:1<=s)(h:n<=s):Fine n a:=
 ⟨ha,_,hs,fun x hx=>by simp only[hx,if_true];exact Ar.ar2 [_,_,_] [] 0xc3410a5000610180308020000a5294001840600c2038061010030800028423080012800308000 (Y2 (Y2 (Y0 V0 J1) V1) J0) (Y0 V2 V1) (Y1 V0 V2) h hx⟩
theorem dbl_next{n s:Nat}{a:Net}(hs:zc1 a id=some (fun x=>if x<n then x+1-s else x))(h1:1<=s):zc1 (a++[zet n s]) id=some (fun x=>if x<n then x+1-2*s else x):=by
 rw[zc3,hs];exact dbl_step h1
theorem dbl_zero(n:Nat):zc1 [] id=some (fun x=>if x<n then x+1-1 else x):=by
 show some id=_
 congr 1;funext x;simp
end Bn
namespace Bn
noncomputable def zkh:Nat->Nat->Net
 |0,_=>[]
 |f+1,n=>if n<=1 then[] else zdu ((n+1)/2) (zkh f ((n+1)/2)) (n-(n+1)/2) (zkh f (n-(n+1)/2))
noncomputable def zrk:Nat->Nat->Net
 |0,_=>[]
 |f+1,n=>if n<=1 then[] else zed n (zrk f (n/2))
noncomputable def zfm(n:Nat):Net:=zkh n n
noncomputable def zi8(n:Nat):Net:=zrk n n
inductive Half(n N:Nat):Prop
 |mk (m k:Nat)(hn:n=m+k)(hm:(n+1)/2=m)(h1:1<=m)(h2:1<=k)(h3:m<=N)(h4:k<=N)(h5:n/2=k)(h6:n-m=k)(h7:k<=m):Half n N
theorem zgh{n N:Nat}(h0:1<=n)(h1:n≠1)(h:n<=N+1):Half n N:=⟨(n+1)/2,n/2,by exact Ar.ar0 [_] [] 0x1863294a000c402006100c030802030800098401840008c65294001880400c201006100006100013080308001 (Y2 V0 (Y0 (Y3 (Y0 V0 J1) J2) (Y3 V0 J2))),rfl,by exact Ar.ar1 [_] [] 0x3294a000c401006100c03080203080308001 (Y0 J1 (Y3 (Y0 V0 J1) J2)) (Y0 J1 V0) h0,by exact Ar.ar2 [_] [] 0x8194a50006200c03080401840101840004a5000610080308000 (Y0 J1 (Y3 V0 J2)) (Y0 J1 V0) (Y8 (Y2 V0 J1) J0) h0 h1,by exact Ar.ar3 [_,_] [] 0x103294a50006200c03100c01840200c20000c200c20004a5000610080308000 (Y0 (Y3 (Y0 V0 J1) J2) V1) (Y0 J1 V0) (Y8 (Y2 V0 J1) J0) (Y0 V0 (Y0 V1 J1)) h0 h1 h,by exact Ar.ar1 [_,_] [] 0x65294001880200c20180610000610001 (Y0 (Y3 V0 J2) V1) (Y0 V0 (Y0 V1 J1)) h,rfl,by exact Ar.ar0 [_] [] 0x61a08528003080c01840100003194a528003101001880400c20180610040610001308030800129840184000802318ca5294001880700c40280610080308000308000984018400094c200c2000401 (Y2 (Y2 V0 (Y3 (Y0 V0 J1) J2)) (Y3 V0 J2)),by exact Ar.ar0 [_] [] 0xc65294001880400c201006100406100610002610001 (Y0 (Y3 V0 J2) (Y3 (Y0 V0 J1) J2))⟩
theorem zg1:∀(f g n:Nat),1<=n->n<=f->n<=g->zkh f n=zkh g n
 |0,_,_,h1,h,_=>absurd (zab h1 h) (by decide)
 |_+1,0,_,h1,_,h=>absurd (zab h1 h) (by decide)
 |f+1,g+1,n,h1,hf,hg=>by
  show(if n<=1 then[] else _)=(if n<=1 then[] else _)
  by_cases h:n<=1
  ·rw[if_pos h,if_pos h]
  ·obtain⟨m,k,_,e,a1,a2,a3,a4,_,e2,_⟩:=zgh h1 (fun e=>h (zbc e)) hf
   obtain⟨m',k',_,e',_,_,b3,b4,_,e2',_⟩:=zgh h1 (fun e=>h (zbc e)) hg
   obtain rfl:=e.symm.trans e'
   obtain rfl:=e2.symm.trans e2'
   rw[if_neg h,if_neg h,e,e2,zg1 f g m a1 a3 b3,zg1 f g k a2 a4 b4]
theorem znr:∀(f g n:Nat),1<=n->n<=f->n<=g->zrk f n=zrk g n
 |0,_,_,h1,h,_=>absurd (zab h1 h) (by decide)
 |_+1,0,_,h1,_,h=>absurd (zab h1 h) (by decide)
 |f+1,g+1,n,h1,hf,hg=>by
  show(if n<=1 then[] else _)=(if n<=1 then[] else _)
  by_cases h:n<=1
  ·rw[if_pos h,if_pos h]
  ·obtain⟨m,k,_,e,a1,a2,a3,a4,e2,_,_⟩:=zgh h1 (fun e=>h (zbc e)) hf
   obtain⟨m',k',_,e',_,_,b3,b4,e2',_,_⟩:=zgh h1 (fun e=>h (zbc e)) hg
   obtain rfl:=e2.symm.trans e2'
   rw[if_neg h,if_neg h,e2,znr f g k a2 a4 b4]
theorem zi9{n m k:Nat}(h1:1<=m)(h2:1<=k)(e:n=m+k)(em:(n+1)/2=m):zfm n=zdu m (zfm m) k (zfm k):=by
 obtain⟨j,rfl⟩:=Nat.exists_eq_add_of_le' h1
 subst e
 have hk:j+1+k-(j+1)=k:=zce ..
 have e2:j+1+k=(j+k)+1:=Nat.add_right_comm ..
 unfold zfm
 rw[e2] at em hk ⊢
 show(if j+k+1<=1 then[] else _)=_
 rw[if_neg (Nat.not_le.mpr (Nat.succ_lt_succ (zay h2 (zbt ..)))),em,hk,zg1 (j+k) (j+1) (j+1) h1 (Nat.add_le_add_left h2 j) (zaf _),zg1 (j+k) k k h2 (zbt ..) (zaf _)]
theorem zj5{n m k:Nat}(h1:1<=m)(h2:1<=k)(e:n=m+k)(em:n/2=k):zi8 n=zed n (zi8 k):=by
 obtain⟨j,rfl⟩:=Nat.exists_eq_add_of_le' h1
 subst e
 have e2:j+1+k=(j+k)+1:=Nat.add_right_comm ..
 unfold zi8
 rw[e2] at em ⊢
 show(if j+k+1<=1 then[] else _)=_
 rw[if_neg (Nat.not_le.mpr (Nat.succ_lt_succ (zay h2 (zbt ..)))),em,znr (j+k) k k h2 (zbt ..) (zaf _)]
theorem zrx{a b m k:Nat}(ha:a<=m-1)(hb:b<=k-1)(hm:1<=m)(hk:1<=k):max a b+1<=m+k-1:=by exact Ar.ar5 [_,_,_,_,_] [] 0xb1a064214a5294a50006103003081c01840f00c208006101403080401840101407014201882108c85294a528003081401840c00c206806101403080601840001c050806208425080411a064214a5294a50006103003081a01840f00c208006101403080401840101407014201882108c85294a528003081401840b00c207006101403080601840001c05080620842508021 (Y0 (Y0 V0 J1) (Y2 (Y0 V1 V2) J1)) (Y0 V3 (Y2 V1 J1)) (Y0 V4 (Y2 V2 J1)) (Y0 J1 V1) (Y0 J1 V2) (Y7 (Y6 (Y2 V0 V3) (Y0 V4 V3)) (Y6 (Y2 V0 V4) (Y0 V3 V4))) ha hb hm hk (Ar.mx _ _)
theorem pair_len{x m k:Nat}(hx:x<=k-1)(hm:k<=m)(hk:1<=k):1+x+(if 2<m+k then 1 else 0)<=m+k-1:=by split<;>(first |exact Ar.ar3 [_,_,_] [] 0x68190a5294a000c204806102803081801840300c20080602840310421194a5294a000c403806202003081201840a00c401806200405080620842508041 (Y0 (Y0 (Y0 J1 V0) J1) (Y2 (Y0 V1 V2) J1)) (Y0 V0 (Y2 V2 J1)) (Y0 V2 V1) (Y1 J2 (Y0 V1 V2)) hx hm (by assumption) |exact Ar.ar3 [_,_,_] [] 0x68190a5294a50006102403081401840b00c406006100c0308020180a100c4108465294a50006101c03101001840900c401806100405080620842508041 (Y0 (Y0 (Y0 J1 V0) J0) (Y2 (Y0 V1 V2) J1)) (Y0 V0 (Y2 V2 J1)) (Y0 V2 V1) (Y0 J1 V2) hx hm hk)
theorem zgc:∀(N:Nat){n:Nat},1<=n->n<=N->Fine n (zfm n)/\(zfm n).length<=n-1
 |0,_,h1,h=>absurd (zab h1 h) (by decide)
 |N+1,n,h,hN=>by
  by_cases h1:n=1
  ·subst h1;exact⟨zjt,zaf _⟩
  ·obtain⟨m,k,e,em,a1,a2,a3,a4,_,_,_⟩:=zgh h h1 hN
   rw[zi9 a1 a2 e em,e]
   have A:=zgc N a1 a3
   have B:=zgc N a2 a4
   exact⟨zhi a1 a2 A.1 B.1,by rw[zg6];exact zrx A.2 B.2 a1 a2⟩
theorem zka:∀(N:Nat){n:Nat},1<=n->n<=N->Fine n (zi8 n)/\(zi8 n).length<=n-1
 |0,_,h1,h=>absurd (zab h1 h) (by decide)
 |N+1,n,h,hN=>by
  by_cases h1:n=1
  ·subst h1;exact⟨zjt,zaf _⟩
  ·obtain⟨m,k,e,_,a1,a2,_,a4,em,_,a7⟩:=zgh h h1 hN
   rw[zj5 a1 a2 e em]
   have B:=zka N a2 a4
   refine⟨zp1 (e▸Nat.add_le_add a1 a2) (em.symm▸B.1),?_⟩
   rw[ztw,e]
   exact pair_len B.2 a7 a2
theorem zfx(n:Nat)(h:1<=n):Fine n (zfm n)/\(zfm n).length<=n-1:=zgc n h (zaf n)
theorem zl8(n:Nat)(h:1<=n):Fine n (zi8 n)/\(zi8 n).length<=n-1:=zka n h (zaf n)
end Bn
namespace Bn
noncomputable def lenN(net:Net):Nat->Nat:=runN (· + ·) net fun _=>1
theorem zug{α β:Type}{f:α->α->α}{g:β->β->β}{k:α->β}(hk:∀a b,k (f a b)=g (k a) (k b)):∀(net:Net)(σ:Nat->α)(x:Nat),k (runN f net σ x)=runN g net (fun y=>k (σ y)) x
 |[],σ,x=>rfl
 |y::r,σ,x=>by
  rw[zc8,zug hk r]
  have:(fun z=>k (zco f y σ z))=zco g y fun z=>k (σ z):=by
   funext z
   unfold zco
   cases y.find? fun p=>p.2==z with
   |none=>rfl
   |some p=>exact hk _ _
  rw[this];rfl
theorem rows_len(net:Net)(x:Nat):(zhl net x).length=lenN net x:=by
 unfold zhl lenN
 exact zug (k:=List.length) (fun a b=>zao) net _ x
theorem zse{C:Nat}{y:List (Nat×Nat)}{σ τ:Nat->Nat}(h:∀x,σ x<=C*τ x):∀x,zco (· + ·) y σ x<=C*zco (· + ·) y τ x:=by
 intro x
 unfold zco
 cases y.find? fun p=>p.2==x with
 |none=>exact h x
 |some p=>
  have:=h p.1;have:=h x
  show σ p.1+σ x<=C*(τ p.1+τ x)
  rw[Nat.mul_add];exact Ar.ar2 [_,_,_,_] [] 0x294a000c20000610080308020 (Y0 (Y0 V0 V1) (Y0 V2 V3)) (Y0 V1 V3) (Y0 V0 V2) this (by assumption)
theorem zk6{C:Nat}:∀{net:Net}{σ τ:Nat->Nat},(∀x,σ x<=C*τ x)->∀x,runN (· + ·) net σ x<=C*runN (· + ·) net τ x
 |[],σ,τ,h,x=>h x
 |y::r,σ,τ,h,x=>zk6 (net:=r) (zse h) x
theorem step_ge{y:List (Nat×Nat)}{σ:Nat->Nat}(x:Nat):σ x<=zco (· + ·) y σ x:=by
 unfold zco
 cases y.find? fun p=>p.2==x with
 |none=>exact zaf _
 |some p=>show σ x<=σ p.1+σ x;exact Ar.ar0 [_,_] [] 171801870336 (Y0 V0 (Y0 V1 V0))
theorem zo9:∀{net:Net}{σ:Nat->Nat}(x:Nat),σ x<=runN (· + ·) net σ x
 |[],_,_=>zaf _
 |y::r,σ,x=>zab (step_ge x) (zo9 (net:=r) x)
theorem ziu{y:List (Nat×Nat)}{σ:Nat->Nat}{M:Nat}(h:∀x,σ x<=M)(x:Nat):zco (· + ·) y σ x<=2*M:=by
 unfold zco
 cases y.find? fun p=>p.2==x with
 |none=>have:=h x;show σ x<=2*M;exact Ar.ar1 [_,_] [] 0xa5000610000310020 (Y0 V0 (Y1 J2 V1)) (Y0 V0 V1) this
 |some p=>have:=h x;have:=h p.1;show σ p.1+σ x<=2*M;exact Ar.ar2 [_,_,_] [] 0x294a000c20000610080308020 (Y0 (Y0 V0 V1) (Y1 J2 V2)) (Y0 V0 V2) (Y0 V1 V2) this (by assumption)
theorem zri{net:Net}{N:Nat}(h:∀x,lenN net x<=N)(i x:Nat):lenN (net.take i) x<=N:=by
 have:=h x
 unfold lenN at this ⊢
 rw[<- List.take_append_drop i net,zcy] at this
 exact zab (zo9 x) this
theorem near_len{N:Nat}{pre mid mid' post:Net}(h:∀x,lenN (pre++mid++post) x<=N)(hm:mid'.length<=2)(x:Nat):lenN (pre++mid'++post) x<=4*N*N:=by
 have h1:∀y,lenN pre y<=N:=fun y=>by
  have:=zri h pre.length y
  rw[zbd,List.take_left] at this
  exact this
 unfold lenN at h h1 ⊢
 rw[zcy,zcy]
 have e:∀y,runN (· + ·) (pre++mid++post) (fun _=>1) y=runN (· + ·) post (runN (· + ·) mid (runN (· + ·) pre fun _=>1)) y:=fun y=>by rw[zcy,zcy]
 have h2:∀y,runN (· + ·) mid' (runN (· + ·) pre fun _=>1) y<=4*N:=by
  intro y
  cases mid' with
  |nil=>have:=h1 y;simp only[zf7];exact Ar.ar1 [_,_] [] 0xa5000610000320020 (Y0 V0 (Y1 (.l 4) V1)) (Y0 V0 V1) this
  |cons a r=>cases r with
   |nil=>have:=ziu (y:=a) h1 y;simp only[zf7,zc8];exact Ar.ar1 [_,_] [] 0xa5000610000310020 (Y0 V0 (Y1 (.l 4) V1)) (Y0 V0 (Y1 J2 V1)) this
   |cons b r=>cases r with
    |nil=>have:=ziu (y:=b) (ziu (y:=a) h1) y;simp only[zf7,zc8];exact Ar.ar1 [_,_] [] 0xa5000610000308020 (Y0 V0 (Y1 (.l 4) V1)) (Y0 V0 (Y1 J2 (Y1 J2 V1))) this
    |cons _ _=>exact absurd hm (Nat.not_le.mpr (zbt 3 _))
 have h3:∀y,1<=runN (· + ·) mid (runN (· + ·) pre fun _=>1) y:=fun y=>by
  have a1:1<=runN (· + ·) pre (fun _=>1) y:=zo9 (net:=pre) (σ:=fun _=>1) y
  exact zab a1 (zo9 y)
 have:=zk6 (C:=4*N) (net:=post) (σ:=runN (· + ·) mid' (runN (· + ·) pre fun _=>1)) (τ:=runN (· + ·) mid (runN (· + ·) pre fun _=>1)) (fun y=>zab (h2 y) (Nat.le_mul_of_pos_right _ (h3 y))) x
 refine zab this ?_
 have:=h x
 rw[e] at this
 exact Nat.mul_le_mul_left _ this
theorem zrt{n:Nat}{net:Net}(hf:Fair n net)(hn:1<=n)(hw:∀x,x<n->zhl net x=List.range (x+1))(x:Nat):lenN net x<=n:=by
 by_cases h:x<n
 ·rw[<- rows_len,hw x h,zap];exact Ar.ar1 [_,_] [] 0xa5000610000308020 (Y0 (Y0 V0 J1) V1) (Y1 V0 V1) h
 ·unfold lenN
  rw[zhx (fun y hy p hp=>by have:=((hf y hy).1 p hp).2;exact Ar.ar2 [_,_,_] [] 0x10a52800308040184030102000000 (Y8 (Y2 V0 V1) J0) (Y8 (Y1 V1 V2) J0) (Y1 V0 V2) h this)]
  exact hn
theorem zq3{net:Net}{i:Nat}{y:List (Nat×Nat)}(h:net[i]?=some y):net=net.take i++[y]++net.drop (i+1):=by
 obtain⟨h1,h2⟩:=zbi.mp h
 rw[zbd]
 show net=net.take i++y::net.drop (i+1)
 rw[<- h2,<-zb8 h1,List.take_append_drop]
noncomputable def ze1(p:Nat×List Nat):Net:=p.2.map fun l=>[(l,p.1)]
theorem zot{h:Nat}:∀{ls:List Nat}{σ:Nat->Nat},(∀l∈ls,l<h)->(∀y,y<h->σ y=1)->∀x,runN (· + ·) (ze1 (h,ls)) σ x=if x=h then ls.length+σ h else σ x
 |[],σ,_,_,x=>by
  show σ x=if x=h then 0+σ h else σ x
  split
  ·rename_i e;rw[e];exact Ar.ar0 [_] [] 0x628003080002800308000 (Y2 V0 (Y0 J0 V0))
  ·rfl
 |l::r,σ,hl,hs,x=>by
  have hlh:=hl l zae
  have st:∀y,zco (· + ·) [(l,h)] σ y=if y=h then 1+σ h else σ y:=by
   intro y
   rcases zcx (· + ·) [(l,h)] σ y with⟨p,hp,rfl,e⟩|e
   ·rw[zah.mp hp] at e ⊢
    rw[if_pos rfl,e,hs l hlh]
   ·by_cases hy:y=h
    ·subst hy
     rw[if_pos rfl,show y=((l,y):Nat×Nat).2 from rfl,zd7 (· + ·) σ (by simp) zae,hs l hlh]
    ·rw[if_neg hy,e]
  show runN (· + ·) (ze1 (h,r)) (zco (· + ·) [(l,h)] σ) x=_
  rw[zot (ls:=r) (fun l hm=>hl l (zai _ hm)) (fun y hy=>by rw[st,if_neg (by exact Ar.ar1 [_,_] [] 0x429400184020102000000 (Y8 (Y2 V0 V1) J0) (Y1 V0 V1) hy)];exact hs y hy) x,st,st]
  rw[if_pos rfl]
  by_cases e:x=h
  ·rw[if_pos e,if_pos e,zbh];exact Ar.ar0 [_,_] [] 0x628003080002800308000 (Y2 (Y0 V0 (Y0 J1 V1)) (Y0 (Y0 V0 J1) V1))
  ·rw[if_neg e,if_neg e,if_neg e]
theorem zrs{M:Nat}:∀{bs:List (Nat×List Nat)}{h:Nat}{σ:Nat->Nat},(∀(i:Nat)(p:Nat×List Nat),bs[i]?=some p->p.1+i+1=h/\∀l∈p.2,l<p.1)->(∀(i:Nat)(p:Nat×List Nat),bs[i]?=some p->p.2.length<=M)->(∀y,y<h->σ y=1)->(∀y,σ y<=M+1)->∀x,runN (· + ·) (bs.flatMap ze1) σ x<=M+1
 |[],_,σ,_,_,_,hb,x=>hb x
 |p::r,h,σ,h1,h2,h3,hb,x=>by
  rw[zb4,zcy]
  obtain⟨a1,a2⟩:=h1 0 p rfl
  have a3:=h2 0 p rfl
  have br:=zot (h:=p.1) (ls:=p.2) (σ:=σ) a2 (fun y hy=>h3 y (by exact Ar.ar2 [_,_,_] [] 0x294a000c20000610040308040 (Y1 V0 V1) (Y2 (Y0 (Y0 V2 J0) J1) V1) (Y1 V0 V2) a1 hy))
  refine zrs (bs:=r) (h:=p.1) (fun i q hq=>?_) (fun i q hq=>h2 (i+1) q (by simpa using hq)) (fun y hy=>?_) (fun y=>?_) x
  ·obtain⟨b1,b2⟩:=h1 (i+1) q (by simpa using hq)
   exact⟨by exact Ar.ar2 [_,_,_,_] [] 0x6294a0010201006100c0308000294a000c201008100c0308000 (Y2 (Y0 (Y0 V0 V1) J1) V2) (Y2 (Y0 (Y0 V2 J0) J1) V3) (Y2 (Y0 (Y0 V0 (Y0 V1 J1)) J1) V3) a1 b1,b2⟩
  ·rw[show p=(p.1,p.2) from rfl,br,if_neg (by exact Ar.ar1 [_,_] [] 0x429400184020102000000 (Y8 (Y2 V0 V1) J0) (Y1 V0 V1) hy)];exact h3 y (by exact Ar.ar2 [_,_,_] [] 0x294a000c20000610040308040 (Y1 V0 V1) (Y2 (Y0 (Y0 V2 J0) J1) V1) (Y1 V0 V2) a1 hy)
  ·rw[show p=(p.1,p.2) from rfl,br]
   split
   ·rw[h3 p.1 (by exact Ar.ar1 [_,_] [] 0xa5000610000308020 (Y1 V0 V1) (Y2 (Y0 (Y0 V0 J0) J1) V1) a1)];exact Ar.ar1 [_,_] [] 0xa5000610000308020 (Y0 (Y0 V0 J1) (Y0 V1 J1)) (Y0 V0 V1) a3
   ·exact hb y
end Bn
namespace Bn
end Bn
namespace Bn
end Bn
namespace Bn
noncomputable def ze8(m k:Nat):Nat:=(List.range k).foldl (fun f j=>f*(m-j)/(j+1)) 1
noncomputable def jfor(L:Nat):Nat->Nat->Nat->Nat->Nat×Nat
 |0,left,found,_=>(left,found)
 |k+1,left,found,cost=>if left=0 then(left,found) else jfor L k (left-min left (ze8 L cost)) (found+cost*min left (ze8 L cost)) (cost+1)
theorem jfor_s{L k left found cost:Nat}:jfor L (k+1) left found cost=if left=0 then(left,found) else jfor L k (left-min left (ze8 L cost)) (found+cost*min left (ze8 L cost)) (cost+1):=rfl
noncomputable def zkk(n L:Nat):Option Nat:=if(jfor L L (n-1) 0 1).1=0 then some (jfor L L (n-1) 0 1).2 else none
noncomputable def ffor(L:Nat):Nat->Nat->Nat->Nat->Option Nat
 |0,left,first,_=>if left=0 then some first else none
 |k+1,left,first,cost=>if left=0 then some first else ffor L k (left-min left (ze8 L cost)) (first+min (min left (ze8 L cost)) (ze8 (L-1) cost)) (cost+1)
theorem ffor_0{L left first cost:Nat}:ffor L 0 left first cost=if left=0 then some first else none:=rfl
theorem ffor_s{L k left first cost:Nat}:ffor L (k+1) left first cost=if left=0 then some first else ffor L k (left-min left (ze8 L cost)) (first+min (min left (ze8 L cost)) (ze8 (L-1) cost)) (cost+1):=rfl
noncomputable def zl0(n L:Nat):Option Nat:=ffor L (L-1) (n-1-min (n-1) L) (min (n-1) L) 2
noncomputable def zhf:Nat->Nat->Option Net
 |0,n=>if n=1 then some [] else none
 |L+1,n=>if n=1 then some [] else(zl0 n (L+1)).bind fun m=>if 1<=m/\m<n then(zhf L m).bind fun x=>(zhf L (n-m)).map fun y=>zdu m x (n-m) y else none
theorem zqj{n:Nat}:zhf 0 n=if n=1 then some [] else none:=rfl
theorem zmo{L n:Nat}:zhf (L+1) n=if n=1 then some [] else(zl0 n (L+1)).bind fun m=>if 1<=m/\m<n then(zhf L m).bind fun x=>(zhf L (n-m)).map fun y=>zdu m x (n-m) y else none:=rfl
noncomputable def zm2:Nat->Nat->Option Nat
 |0,n=>if n=1 then some 0 else none
 |L+1,n=>if n=1 then some 0 else(zl0 n (L+1)).bind fun m=>if 1<=m/\m<n then(zm2 L m).bind fun x=>(zm2 L (n-m)).map fun y=>x+y+(n-m) else none
theorem sizeM_0{n:Nat}:zm2 0 n=if n=1 then some 0 else none:=rfl
theorem zvr{L n:Nat}:zm2 (L+1) n=if n=1 then some 0 else(zl0 n (L+1)).bind fun m=>if 1<=m/\m<n then(zm2 L m).bind fun x=>(zm2 L (n-m)).map fun y=>x+y+(n-m) else none:=rfl
inductive Step(L n:Nat)(net:Net):Prop
 |mk (m:Nat)(x y:Net)(h1:zl0 n (L+1)=some m)(h2:1<=m)(h3:m<n)(hx:zhf L m=some x)(hy:zhf L (n-m)=some y)(e:net=zdu m x (n-m) y):Step L n net
theorem zh1{L n:Nat}{net:Net}(h:zhf L n=some net):(n=1/\net=[])\/(n≠1/\∃L',L=L'+1/\Step L' n net):=by
 cases L with
 |zero=>
  by_cases e:n=1
  ·rw[zqj,if_pos e] at h;exact .inl ⟨e,(zaa h).symm⟩
  ·rw[zqj,if_neg e] at h;cases h
 |succ L=>
  by_cases e:n=1
  ·rw[zmo,if_pos e] at h;exact .inl ⟨e,(zaa h).symm⟩
  ·rw[zmo,if_neg e] at h
   obtain⟨m,h1,h⟩:=zad.mp h
   by_cases hm:1<=m/\m<n
   ·rw[if_pos hm] at h
    obtain⟨x,hx,h⟩:=zad.mp h
    obtain⟨y,hy,h⟩:=zaj.mp h
    exact .inr ⟨e,L,rfl,m,x,y,h1,hm.1,hm.2,hx,hy,h.symm⟩
   ·rw[if_neg hm] at h;cases h
noncomputable def zia(net:Net):Nat:=(net.map fun y=>y.length).sum
theorem zke:∀a b:Net,zia (zer a b)=zia a+zia b
 |[],b=>(Nat.zero_add _).symm
 |x::a,[]=>rfl
 |x::a,y::b=>by
  have:=zke a b
  unfold zia at *
  simp only[zfz,zbg,List.sum_cons,zao,this];exact Ar.ar0 [_,_,_,_] [] 0x628003080002800308000 (Y2 (Y0 (Y0 V0 V1) (Y0 V2 V3)) (Y0 (Y0 V0 V2) (Y0 V1 V3)))
theorem zqa(m:Nat)(b:Net):zia (b.map (zc6 m))=zia b:=by
 unfold zia
 rw[za0]
 exact congrArg List.sum (zby fun y _=>by simp[zc6])
theorem zoy(m k:Nat)(x y:Net):zia (zdu m x k y)=zia x+zia y+k:=by
 have h1:=zke x (y.map (zc6 m))
 rw[zqa] at h1
 rw[<- h1]
 unfold zia zdu
 rw[zat,List.sum_append]
 simp[zda]
inductive Ru:Nat->Nat->Net->Prop
 |one (f:Nat):Ru f (f+1) []
 |two (f m b:Nat)(x y:Net)(hf:f<m)(hb:m<b)(hx:Ru f m x)(hy:Ru m b y):Ru f b (zer x y++[zda m (b-m)])
theorem zky(s:Nat):∀a b:Net,(zer a b).map (zc6 s)=zer (a.map (zc6 s)) (b.map (zc6 s))
 |[],b=>rfl
 |x::a,[]=>rfl
 |x::a,y::b=>by simp only[zfz,zbg,zky s a b,zc6,zat]
theorem Ru.shift{f b:Nat}{net:Net}(s:Nat)(h:Ru f b net):Ru (f+s) (b+s) (net.map (zc6 s)):=by
 induction h with
 |one f=>rw[Nat.add_right_comm];exact .one _
 |two f m b x y hf hb _ _ ihx ihy=>
  have e:zc6 s (zda m (b-m))=zda (m+s) (b+s-(m+s)):=by
   rw[zc6,zda,zda,za0,Nat.add_sub_add_right]
   refine zby fun i _=>?_
   show(m-1+s,m+i+s)=(m+s-1,m+s+i)
   rw[Nat.add_right_comm m i s,show m-1+s=m+s-1 by exact Ar.ar1 [_,_,_] [] 0x30d03214a528003081601840900c201806100403014201842008ca528003080e01840300c20080a100c21004a100023410a500061018030802000065294001840700c201806100405080012840308401 (Y2 (Y0 (Y2 V0 J1) V1) (Y2 (Y0 V0 V1) J1)) (Y1 V2 V0) hf]
  rw[zat,zky,List.map_singleton,e]
  exact .two _ _ _ _ _ (by exact Ar.ar1 [_,_,_] [] 0xa5000610000308020 (Y1 (Y0 V0 V1) (Y0 V2 V1)) (Y1 V0 V2) hf) (by exact Ar.ar1 [_,_,_] [] 0xa5000610000308020 (Y1 (Y0 V0 V1) (Y0 V2 V1)) (Y1 V0 V2) hb) ihx ihy
structure LaidOk(L n:Nat)(net:Net):Prop where
 fine:Fine n net
 len:net.length<=L
 lenn:net.length<=n-1
 ru:Ru 0 n net
 size:zm2 L n=some (zia net)
theorem zqd:∀{L n:Nat}{net:Net},zhf L n=some net->LaidOk L n net:=by
 intro L
 induction L with
 |zero=>
  intro n net h
  rcases zh1 h with⟨rfl,rfl⟩|⟨_,L',hL,_⟩
  ·exact⟨zjt,zaf _,zaf _,.one 0,rfl⟩
  ·cases hL
 |succ L ih=>
  intro n net h
  rcases zh1 h with⟨rfl,rfl⟩|⟨hn,L',hL,m,x,y,h1,h2,h3,hx,hy,rfl⟩
  ·exact⟨zjt,za2 _,zaf _,.one 0,rfl⟩
  ·cases hL
   obtain⟨k,rfl⟩:∃k,n=m+k:=⟨n-m,by exact Ar.ar1 [_,_] [] 0x18652800308060184010142100468214a000c204006100000014a000c20200610000508401 (Y2 V0 (Y0 V1 (Y2 V0 V1))) (Y1 V1 V0) h3⟩
   rw[zce] at hy ⊢
   have hk:1<=k:=by exact Ar.ar1 [_,_] [] 0xa5000610000308020 (Y0 J1 V0) (Y1 V1 (Y0 V1 V0)) h3
   have X:=ih hx
   have Y:=ih hy
   refine⟨zhi h2 hk X.fine Y.fine,?_,?_,?_,?_⟩
   ·rw[zg6];have:=X.len;have:=Y.len;exact Ar.ar3 [_,_,_,_] [] 0x2085294001840300c202006100000010a528003080601840600c2000000 (Y0 (Y0 V0 J1) (Y0 V1 J1)) (Y0 V2 V1) (Y7 (Y6 (Y2 V0 V3) (Y0 V2 V3)) (Y6 (Y2 V0 V2) (Y0 V3 V2))) (Y0 V3 V1) this (Ar.mx _ _) (by assumption)
   ·rw[zg6];exact zrx X.lenn Y.lenn h2 hk
   ·have:=Ru.two 0 m (m+k) x (y.map (zc6 m)) h2 (by exact Ar.ar1 [_,_] [] 0xa5000610000308020 (Y1 V0 (Y0 V0 V1)) (Y1 V0 (Y0 V0 V1)) h3) X.ru (by have:=Y.ru.shift m;rw[Nat.zero_add,Nat.add_comm k m] at this;exact this)
    rw[zce] at this
    exact this
   ·rw[zvr,if_neg hn,h1]
    show(if 1<=m/\m<m+k then _ else _)=_
    rw[if_pos ⟨h2,h3⟩,zce,X.size,Y.size]
    show some (zia x+zia y+k)=_
    rw[zoy]
theorem zol:∀{L n s:Nat},zm2 L n=some s->∃net,zhf L n=some net:=by
 intro L
 induction L with
 |zero=>
  intro n s h
  by_cases e:n=1
  ·exact⟨[],by rw[zqj,if_pos e]⟩
  ·rw[sizeM_0,if_neg e] at h;cases h
 |succ L ih=>
  intro n s h
  by_cases e:n=1
  ·exact⟨[],by rw[zmo,if_pos e]⟩
  ·rw[zvr,if_neg e] at h
   obtain⟨m,h1,h⟩:=zad.mp h
   by_cases hm:1<=m/\m<n
   ·rw[if_pos hm] at h
    obtain⟨sx,hx,h⟩:=zad.mp h
    obtain⟨sy,hy,h⟩:=zaj.mp h
    obtain⟨x,hx⟩:=ih hx
    obtain⟨y,hy⟩:=ih hy
    refine⟨zdu m x (n-m) y,?_⟩
    rw[zmo,if_neg e,h1]
    show(if 1<=m/\m<n then _ else _)=_
    rw[if_pos hm,hx]
    show(zhf L (n-m)).map _=_
    rw[hy];rfl
   ·rw[if_neg hm] at h;cases h
end Bn
namespace Bn
open PySem
theorem zd3{ok:Hp->Prop}{body:V->Loc->SPost->Hp->Prop}{Q:SPost}(I:Nat->Loc->Hp->Prop){items:List V}
  (step:∀i x l H (K:SPost),items[i]?=some x->I i l H->(∀l' H',ok H'->I (i+1) l' H'->K .next l' H')->(∀v l' H',Q (.ret v) l' H'->K (.ret v) l' H')->body x l K H)
  (hend:∀l H,I items.length l H->Q .next l H) {l:Loc} {H:Hp} (h0:I 0 l H):zi3 ok body items Q l H:=by
 have key:∀(n i:Nat),n+i=items.length->∀l H,I i l H->zi3 ok body (items.drop i) Q l H:=by
  intro n
  induction n with
  |zero=>
   intro i hi l H hI
   have:i=items.length:=by exact Ar.ar1 [_,_] [] 0x6294001840200c20000a5000810080308000 (Y2 V0 V1) (Y2 (Y0 J0 V0) V1) hi
   subst this
   rw[List.drop_length]
   exact hend l H hI
  |succ n ih=>
   intro i hi l H hI
   have hlt:i<items.length:=by exact Ar.ar1 [_,_,_] [] 0xa5000610000308020 (Y1 V0 V1) (Y2 (Y0 (Y0 V2 J1) V0) V1) hi
   rw[zb8 hlt]
   refine step i _ l H _ (zam hlt) hI (fun l' H' hok hI'=>⟨hok,ih (i+1) (by exact Ar.ar1 [_,_,_] [] 0x6294001840200c20000a5000810080308000 (Y2 (Y0 V0 (Y0 V1 J1)) V2) (Y2 (Y0 (Y0 V0 J1) V1) V2) hi) l' H' hI'⟩) fun v l' H' hq=>hq
 exact key items.length 0 rfl l H h0
theorem zea{σ:Type}{ok:Hp->Prop}{f:V->σ->(σ->Hp->Prop)->Hp->Prop}{Q:σ->Hp->Prop}(I:Nat->σ->Hp->Prop){items:List V}
  (step:∀i x a H (K:σ->Hp->Prop),items[i]?=some x->I i a H->(∀a' H',ok H'->I (i+1) a' H'->K a' H')->f x a K H)
  (hend:∀a H,I items.length a H->Q a H) {a:σ} {H:Hp} (h0:I 0 a H):zey ok f items a Q H:=by
 have key:∀(n i:Nat),n+i=items.length->∀a H,I i a H->zey ok f (items.drop i) a Q H:=by
  intro n
  induction n with
  |zero=>
   intro i hi a H hI
   have:i=items.length:=by exact Ar.ar1 [_,_] [] 0x6294001840200c20000a5000810080308000 (Y2 V0 V1) (Y2 (Y0 J0 V0) V1) hi
   subst this
   rw[List.drop_length]
   exact hend a H hI
  |succ n ih=>
   intro i hi a H hI
   have hlt:i<items.length:=by exact Ar.ar1 [_,_,_] [] 0xa5000610000308020 (Y1 V0 V1) (Y2 (Y0 (Y0 V2 J1) V0) V1) hi
   rw[zb8 hlt]
   exact step i _ a H _ (zam hlt) hI fun a' H' hok hI'=>⟨hok,ih (i+1) (by exact Ar.ar1 [_,_,_] [] 0x6294001840200c20000a5000810080308000 (Y2 (Y0 V0 (Y0 V1 J1)) V2) (Y2 (Y0 (Y0 V0 J1) V1) V2) hi) a' H' hI'⟩
 exact key items.length 0 rfl a H h0
theorem zeb{α:Type}{g:α->V}{ok:Hp->Prop}{body:V->Loc->SPost->Hp->Prop}{Q:SPost}(I:List α->Loc->Hp->Prop)
  (step:∀x r l H (K:SPost),I (x::r) l H->(∀l' H',ok H'->I r l' H'->K .next l' H')->(∀v l' H',Q (.ret v) l' H'->K (.ret v) l' H')->body (g x) l K H)
  (hend:∀l H,I [] l H->Q .next l H):∀{xs:List α} {l:Loc} {H:Hp},I xs l H->zi3 ok body (xs.map g) Q l H
 |[],l,H,h=>hend l H h
 |x::r,l,H,h=>step x r l H _ h (fun _ _ hok hI=>⟨hok,zeb I step hend hI⟩) fun _ _ _ hq=>hq
theorem zlo{α:Type}{g:α->V}{ok:Hp->Prop}{body:V->Loc->SPost->Hp->Prop}{Q:SPost}(I:List α->Loc->Hp->Prop)
  (step:∀k x r l H (K:SPost),I (x::r) l H->(∀l' H',ok H'->I r l' H'->K .next l' H')->(∀v l' H',Q (.ret v) l' H'->K (.ret v) l' H')->body (.tup [.int k,g x]) l K H)
  (hend:∀l H,I [] l H->Q .next l H):∀{xs:List α} {k:Int} {l:Loc} {H:Hp},I xs l H->zi3 ok body (zf3 k (xs.map g)) Q l H
 |[],_,l,H,h=>hend l H h
 |x::r,k,l,H,h=>step k x r l H _ h (fun _ _ hok hI=>⟨hok,zlo I step hend hI⟩) fun _ _ _ hq=>hq
def Has(c:Cx)(f:String)(np n:Nat)(xs:List St):Prop:=
 ∀q d vs Q E H,vs.length=np->wpSs (Calls c) q d none xs (EndQ Q) (EndX E) (vs.map some++List.replicate (n-np) none) H->Calls c q (d+1) (Str.ofString f) vs none Q E H
theorem has_of{c:Cx}{T:Tab}(O:c.Ok)(TO:TabOk c T){e:PyProof.Rows.DefItem}(hat:DefAt c e){fuel r:Nat}{xs:List St}(he:eFun T fuel r e=some xs){f:String}(hf:e.name=Str.ofString f){np n:Nat}(hnp:e.params.args.length=np)(hn:(slots e.scope.names).length+r=n):Has c f np n xs:=by
 intro q d vs Q E H hl hw
 rw[<- hf]
 refine zwf O TO hat he (by rw[hl,hnp]) ?_
 rw[hn,hl];exact hw
section
variable {C:CallT}{q:Bool}{d:Nat}{k:Clo}{l:Loc}{H:Hp}
theorem E_lit{v:V} {Q E}:wpE C q d k (.lit v) l Q E H=Q v H:=rfl
theorem E_var{i:Nat} {Q E}:wpE C q d k (.var i) l Q E H=Opt (l.getD i none) fun v=>Q v H:=rfl
theorem E_tup{es:List Ex} {Q E}:wpE C q d k (.tup es) l Q E H=wpL C q d k es l (fun vs H=>Q (.tup vs) H) E H:=rfl
theorem E_list{es:List Ex} {Q E}:wpE C q d k (.list es) l Q E H=wpL C q d k es l (fun vs H=>Q (.lst H.length) (H++[vs])) E H:=rfl
theorem E_bin{op:Op}{a b:Ex} {Q E}:wpE C q d k (.bin op a b) l Q E H=wpE C q d k a l (fun x H=>wpE C q d k b l (fun y H=>Opt (binV H op x y) fun p=>Q p.1 p.2) E H) E H:=rfl
theorem E_neg{a:Ex} {Q E}:wpE C q d k (.neg a) l Q E H=wpE C q d k a l (fun x H=>Opt (zjk x) fun i=>Q (.int (-i)) H) E H:=rfl
theorem E_not{a:Ex} {Q E}:wpE C q d k (.not a) l Q E H=wpE C q d k a l (zen fun b H=>Q (.bool !b) H) E H:=rfl
theorem E_cmp{a:Ex}{os:List Cm}{bs:List Ex} {Q E}:wpE C q d k (.cmp a os bs) l Q E H=wpE C q d k a l (fun x H=>wpC C q d k x os bs l (fun b H=>Q (.bool b) H) E H) E H:=rfl
theorem E_and{es:List Ex} {Q E}:wpE C q d k (.and es) l Q E H=ztq C q d k es l (fun b H=>Q (.bool b) H) E H:=rfl
theorem E_or{es:List Ex} {Q E}:wpE C q d k (.or es) l Q E H=wpOr C q d k es l (fun b H=>Q (.bool b) H) E H:=rfl
theorem E_idx{a b:Ex} {Q E}:wpE C q d k (.idx a b) l Q E H=wpE C q d k a l (fun x H=>wpE C q d k b l (fun y H=>Opt (idxV H x y) fun v=>Q v H) E H) E H:=rfl
theorem E_slice{a b c:Ex} {Q E}:wpE C q d k (.slice a b c) l Q E H=wpE C q d k a l (fun x H=>wpE C q d k b l (fun y H=>wpE C q d k c l (fun z H=>Opt (zo5 H x y z) fun p=>Q p.1 p.2) E H) E H) E H:=rfl
theorem E_rev{a:Ex} {Q E}:wpE C q d k (.rev a) l Q E H=wpE C q d k a l (fun x H=>Opt (revV H x) fun p=>Q p.1 p.2) E H:=rfl
theorem E_call{f:Str}{es:List Ex} {Q E}:wpE C q d k (.call f es) l Q E H=wpL C q d k es l (fun vs H=>C q d f vs none Q E H) E H:=rfl
theorem E_blt{b:Bl}{es:List Ex} {Q E}:wpE C q d k (.blt b es) l Q E H=wpL C q d k es l (fun vs H=>Opt (onQ q (bltV H b vs)) fun p=>Q p.1 p.2) E H:=rfl
theorem E_meth{m:Me}{o:Ex}{es:List Ex} {Q E}:wpE C q d k (.meth m o es) l Q E H=wpE C q d k o l (fun x H=>zvx m x=true/\wpL C q d k es l (fun vs H=>Opt (ztx H m x vs) fun p=>Q p.1 p.2) E H) E H:=rfl
theorem E_isi{a:Ex}{t:Tc} {Q E}:wpE C q d k (.isi a t) l Q E H=wpE C q d k a l (fun x H=>Opt (isiV x t) fun b=>Q (.bool b) H) E H:=rfl
theorem E_comp{elt src:Ex}{t:Tg}{ifs:List Ex} {Q E}:wpE C q d k (.comp elt t src ifs) l Q E H=wpE C q d k src l (fun sv H=>Opt (onQ q (srcV H sv)) fun items=>items.length<=sizeLine /\
   zey (okV sv items) (zkf (fun l' Q H=>wpI C q d none ifs l' Q H) (fun l' Q H=>wpE C q d none elt l' Q noX H) t l) items [] (fun acc H'=>Q (.lst H'.length) (H'++[acc])) H) E H:=rfl
theorem L_nil{Q E}:wpL C q d k [] l Q E H=Q [] H:=rfl
theorem L_cons{e:Ex}{es:List Ex} {Q E}:wpL C q d k (e::es) l Q E H=wpE C q d k e l (fun v H=>wpL C q d k es l (fun vs H=>Q (v::vs) H) E H) E H:=rfl
theorem A_cons{e:Ex}{es:List Ex}{Q:Bool->Hp->Prop} {E}:ztq C q d k (e::es) l Q E H=wpE C q d k e l (zen fun b H=>zig es (Q b H) (zfn b (ztq C q d k es l Q E H) (Q false H))) E H:=rfl
theorem O_cons{e:Ex}{es:List Ex}{Q:Bool->Hp->Prop} {E}:wpOr C q d k (e::es) l Q E H=wpE C q d k e l (zen fun b H=>zig es (Q b H) (zfn b (Q true H) (wpOr C q d k es l Q E H))) E H:=rfl
theorem C_cons {x:V} {o:Cm} {os:List Cm} {e:Ex} {es:List Ex} {Q:Bool->Hp->Prop} {E}:wpC C q d k x (o::os) (e::es) l Q E H=wpE C q d k e l (fun y H=>Opt (cmpV H o x y) fun b=>zig es (Q b H) (zfn b (wpC C q d k y os es l Q E H) (Q false H))) E H:=rfl
theorem I_nil {Q:Bool->Hp->Prop}:wpI C q d k [] l Q H=Q true H:=rfl
theorem I_cons{e:Ex}{es:List Ex}{Q:Bool->Hp->Prop}:wpI C q d k (e::es) l Q H=wpE C q d k e l (zen fun b H=>zfn b (wpI C q d k es l Q H) (Q false H)) noX H:=rfl
theorem Opt_some{α:Type}{a:α}{K:α->Prop}:Opt (some a) K=K a:=rfl
theorem truthP_bool{b:Bool}{Q:Bool->Hp->Prop}:zen Q (.bool b) H=Q b H:=rfl
theorem CondP_true{A B:Prop}:zfn true A B=A:=rfl
theorem CondP_false{A B:Prop}:zfn false A B=B:=rfl
theorem lastOr_nil{A B:Prop}:zig [] A B=A:=rfl
theorem lastOr_cons{e:Ex}{es:List Ex}{A B:Prop}:zig (e::es) A B=B:=rfl
theorem asInt_int{i:Int}:zjk (.int i)=some i:=rfl
theorem onQ_true{α:Type}{o:Option α}:onQ true o=o:=rfl
theorem bin_addi{a b:Int}:binV H .add (.int a) (.int b)=some (.int (a+b),H):=rfl
theorem bin_subi{a b:Int}:binV H .sub (.int a) (.int b)=some (.int (a-b),H):=rfl
theorem cmp_lt{a b:Int}:cmpV H .lt (.int a) (.int b)=some (decide (a<b)):=rfl
theorem cmp_le{a b:Int}:cmpV H .le (.int a) (.int b)=some (decide (a<=b)):=rfl
theorem cmp_gt{a b:Int}:cmpV H .gt (.int a) (.int b)=some (decide (a>b)):=rfl
theorem cmp_ge{a b:Int}:cmpV H .ge (.int a) (.int b)=some (decide (a>=b)):=rfl
theorem cmp_eqi{a b:Int}:cmpV H .eq (.int a) (.int b)=some (decide (a=b)):=rfl
theorem cmp_nei{a b:Int}:cmpV H .ne (.int a) (.int b)=some (!decide (a=b)):=rfl
theorem isi_ii{i:Int}:isiV (.int i) .int=some true:=rfl
theorem isi_ib{i:Int}:isiV (.int i) .bool=some false:=rfl
theorem isi_bb{b:Bool}:isiV (.bool b) .bool=some true:=rfl
theorem isi_tt{l:List V}:isiV (.tup l) .tuple=some true:=rfl
theorem isi_ll{a:Nat}:isiV (.lst a) .list=some true:=rfl
theorem not_t:(!true)=false:=rfl
theorem not_f:(!false)=true:=rfl
theorem dec_22:decide ((2:Int)=2)=true:=rfl
theorem len_tup {x y:V}:bltV H .len [.tup [x,y]]=some (.int 2,H):=rfl
theorem len_scr{l:List Int}:bltV H .len [.scr l]=some (.int l.length,H):=rfl
theorem idx_t0{x y:V}:idxV H (.tup [x,y]) (.int 0)=some x:=rfl
theorem idx_t1{x y:V}:idxV H (.tup [x,y]) (.int 1)=some y:=rfl
theorem zci{p:Prop} [Decidable p]{A B:Prop}(h1:p->A)(h2:¬p->B):zfn (decide p) A B:=by
 by_cases h:p
 ·rw[decide_eq_true h];exact h1 h
 ·rw[decide_eq_false h];exact h2 h
theorem zh7{p:Prop} [Decidable p]{A B:Prop}(h1:¬p->A)(h2:p->B):zfn (!decide p) A B:=by
 by_cases h:p
 ·rw[decide_eq_true h];exact h2 h
 ·rw[decide_eq_false h];exact h1 h
theorem znc{p:Prop} [Decidable p]{A B:Prop}(h:p)(h1:A):zfn (decide p) A B:=by rw[decide_eq_true h];exact h1
theorem zh0{p:Prop} [Decidable p]{A B:Prop}(h:¬p)(h1:B):zfn (decide p) A B:=by rw[decide_eq_false h];exact h1
theorem S_set{i:Nat}{e:Ex}{Q:SPost}{E:SX}:wpS C q d k (.set i e) Q E l H=wpE C q d k e l (fun v H=>Q .next (l.set i (some v)) H) (fun x H=>E x l H) H:=rfl
theorem S_unp{is:List Nat}{e:Ex}{Q:SPost}{E:SX}:wpS C q d k (.unp is e) Q E l H=(q=true/\wpE C q d k e l (fun v H=>Opt (unpV is v l) fun l'=>Q .next l' H) (fun x H=>E x l H) H):=rfl
theorem S_put{o i e:Ex}{Q:SPost}{E:SX}:wpS C q d k (.put o i e) Q E l H=wpE C q d k e l (fun v H=>wpE C q d k o l (fun a H=>wpE C q d k i l (fun j H=>Opt (putV H a j v) fun H'=>Q .next l H') (fun x H=>E x l H) H) (fun x H=>E x l H) H) (fun x H=>E x l H) H:=rfl
theorem S_expr{e:Ex}{Q:SPost}{E:SX}:wpS C q d k (.expr e) Q E l H=wpE C q d k e l (fun _ H=>Q .next l H) (fun x H=>E x l H) H:=rfl
theorem S_ret{e:Ex}{Q:SPost}{E:SX}:wpS C q d k (.ret e) Q E l H=wpE C q d k e l (fun v H=>Q (.ret v) l H) (fun x H=>E x l H) H:=rfl
theorem S_ite{t:Ex}{a b:List St}{Q:SPost}{E:SX}:wpS C q d k (.ite t a b) Q E l H=wpE C q d k t l (zen fun c H=>zfn c (wpSs C q d k a Q E l H) (wpSs C q d k b Q E l H)) (fun x H=>E x l H) H:=rfl
theorem S_whil{t:Ex}{b:List St}{Q:SPost}{E:SX}:wpS C q d k (.whil t b) Q E l H=(q=true/\wpWhile (fun l Q H=>wpT C q d k t l Q noX H) (fun l Q H=>wpSs C q d k b Q (fun _ _ _=>False) l H) l Q H):=rfl
theorem S_rais{cn:Str}{es:List Ex}{Q:SPost}{E:SX}:wpS C q d k (.rais cn es) Q E l H=(q=true/\wpL C q d k es l (fun vs H=>E (.exc cn (atOf cn vs)) l H) noX H):=rfl
theorem S_tri{b:List St}{i:Nat}{h:List St}{Q:SPost}{E:SX}:wpS C q d k (.tri b i h) Q E l H=(q=true/\wpSs C q d k b Q (fun x l' H=>kidX x=true/\wpSs C false d k h (fun f l'' H=>Q f (l''.set i none) H) (fun _ _ _=>False) (l'.set i (some x)) H) l H):=rfl
theorem S_loop{t:Tg}{s:Sr}{b:List St}{Q:SPost}{E:SX}:wpS C q d k (.loop t s b) Q E l H=(q=true/\wpSr C q d k s l (fun items ok H=>zi3 ok (fun x l Q H=>Opt (zgq t x l) fun l'=>wpSs C q d k b Q E l' H) items Q l H) (fun x H=>E x l H) H):=rfl
theorem T_eq{t:Ex}{Q:Bool->Hp->Prop} {E}:wpT C q d k t l Q E H=wpE C q d k t l (zen Q) E H:=rfl
theorem End_ret{v:V}{Q:V->Hp->Prop}:EndQ Q (.ret v) l H=Q v H:=rfl
theorem End_next{Q:V->Hp->Prop}:EndQ Q .next l H=Q .none H:=rfl
theorem Then_ret{N:Loc->Hp->Prop}{Q:SPost}{v:V}:Then N Q (.ret v) l H=Q (.ret v) l H:=rfl
theorem bind_one{i:Nat}{x:V}:zgq (.one i) x l=some (l.set i (some x)):=rfl
theorem bind_two{i j:Nat}{a b:V}:zgq (.two i j) (.tup [a,b]) l=some ((l.set i (some a)).set j (some b)):=rfl
theorem CompS_eq{I:Loc->(Bool->Hp->Prop)->Hp->Prop}{W:Loc->(V->Hp->Prop)->Hp->Prop}{t:Tg}{x:V}{acc:List V}{K:List V->Hp->Prop}:zkf I W t l x acc K H=Opt (zgq t x l) fun l'=>I l' (fun b H=>zfn b (W l' (fun v H=>K (acc++[v]) H) H) (K acc H)) H:=rfl
theorem getD_0{x:Option V}{r:Loc}:(x::r).getD 0 none=x:=rfl
theorem getD_s{x:Option V}{r:Loc}{i:Nat}:(x::r).getD (i+1) none=r.getD i none:=rfl
theorem set_0{x y:Option V}{r:Loc}:List.set (x::r) 0 y=y::r:=rfl
theorem set_s{x y:Option V}{r:Loc}{i:Nat}:List.set (x::r) (i+1) y=x::List.set r i y:=rfl
theorem map_c{x:V}{r:List V}:List.map some (x::r)=some x::List.map some r:=rfl
theorem map_n:List.map some ([]:List V)=[]:=rfl
theorem app_c{x:Option V}{r s:Loc}:(x::r)++s=x::(r++s):=rfl
theorem app_n{s:Loc}:[]++s=s:=rfl
theorem rep_s {n:Nat}:List.replicate (n+1) (none:Option V)=none::List.replicate n none:=rfl
theorem rep_n:List.replicate 0 (none:Option V)=[]:=rfl
theorem Then_go{N:Loc->Hp->Prop}{Q:SPost}(h:N l H):Then N Q .next l H:=h
theorem Ss_go{s:St}{ss:List St}{Q:SPost}{E:SX}(h:wpS C q d k s (Then (wpSs C q d k ss Q E) Q) E l H):wpSs C q d k (s::ss) Q E l H:=h
theorem Ss_end{Q:SPost}{E:SX}(h:Q .next l H):wpSs C q d k [] Q E l H:=h
theorem zfc{e:Ex}{items:List V}{Q:List V->(Hp->Prop)->Hp->Prop} {E}{v:V}(hv:∀(K:V->Hp->Prop) E',K v H->wpE C q d k e l K E' H)(h:srcV H v=some items)(hq:Q items (okV v items) H):wpSr C q d k (.val e) l Q E H:=hv _ _ (Opt.mk h hq)
end
end Bn
local macro_rules | `(tactic| walk_at "wpd")=>do
 let a:=("Bn.E_lit Bn.E_var Bn.E_tup Bn.E_list Bn.E_bin Bn.E_neg Bn.E_not Bn.E_cmp Bn.E_and Bn.E_or Bn.E_idx Bn.E_slice Bn.E_rev Bn.E_call Bn.E_blt Bn.E_meth Bn.E_isi Bn.E_comp Bn.L_nil Bn.L_cons Bn.A_cons Bn.O_cons Bn.C_cons Bn.I_nil Bn.I_cons Bn.Opt_some Bn.truthP_bool Bn.CondP_true Bn.CondP_false Bn.lastOr_nil Bn.lastOr_cons Bn.asInt_int Bn.onQ_true Bn.bin_addi Bn.bin_subi Bn.isi_ii Bn.isi_ib Bn.isi_bb Bn.isi_tt Bn.isi_ll Bn.len_tup Bn.len_scr Bn.idx_t0 Bn.idx_t1 Bn.cmp_lt Bn.cmp_le Bn.cmp_gt Bn.cmp_ge Bn.cmp_eqi Bn.cmp_nei Bn.S_set Bn.S_unp Bn.S_put Bn.S_expr Bn.S_ret Bn.S_ite Bn.S_whil Bn.S_loop Bn.S_rais Bn.S_tri Bn.T_eq Bn.End_ret Bn.End_next Bn.Then_ret Bn.bind_one Bn.bind_two Bn.CompS_eq Bn.getD_0 Bn.getD_s Bn.set_0 Bn.set_s Bn.map_c Bn.map_n Bn.app_c Bn.app_n Bn.rep_s Bn.rep_n Nat.reduceSub Nat.sub_self Bn.not_t Bn.not_f Bn.dec_22".splitOn " ").toArray.map fun s=>Lean.mkIdent s.toName
 `(tactic| dsimp only[$[$a:ident],*])
local macro_rules | `(tactic| walk_at "wpg")=>`(tactic| first |with_reducible refine Bn.Then_go ?_ |with_reducible refine Bn.Ss_go ?_ |with_reducible refine Bn.Ss_end ?_)
local macro_rules | `(tactic| walk_at "wps")=>`(tactic| ((try walk_at "wpd");(repeat(walk_at "wpg";(try walk_at "wpd")))))
namespace Bn
open PySem
noncomputable def zdp:List St:=[.ret (.and [(.isi (.var 0) .int),(.not (.isi (.var 0) .bool)),(.cmp (.var 1) [.le,.le] [(.var 0),(.var 2)])])]
noncomputable def zjb:List St:=[.ite (.not (.call "is_among" [(.var 0),(.lit (.int 1)),(.lit (.int 64))])) [.stuck] []]
noncomputable def zi2:List St:=[.ite (.or [(.not (.isi (.var 0) .tuple)),(.cmp (.blt .len [(.var 0)]) [.ne] [(.lit (.int 2))])]) [.ret (.lit (.bool false))] [],.ite (.or [(.not (.call "is_among" [(.idx (.var 0) (.lit (.int 0))),(.lit (.int 0)),(.bin .sub (.var 1) (.lit (.int 1)))])),(.not (.call "is_among" [(.idx (.var 0) (.lit (.int 1))),(.lit (.int 0)),(.bin .sub (.var 1) (.lit (.int 1)))]))]) [.ret (.lit (.bool false))] [],.ret (.cmp (.idx (.var 0) (.lit (.int 0))) [.lt] [(.idx (.var 0) (.lit (.int 1)))])]
noncomputable def zlr:List St:=[.ite (.or [(.not (.isi (.var 0) .list)),(.not (.cmp (.lit (.int 1)) [.le,.le] [(.blt .len [(.var 0)]),(.lit (.int 63))]))]) [.ret (.lit (.bool false))] [],.set 2 (.neg (.lit (.int 1))),.loop (.one 3) (.val (.var 0)) [.ite (.or [(.not (.call "is_joint" [(.var 3),(.var 1)])),(.cmp (.idx (.var 3) (.lit (.int 1))) [.le] [(.var 2)])]) [.ret (.lit (.bool false))] [],.set 2 (.idx (.var 3) (.lit (.int 1)))],.ret (.lit (.bool true))]
noncomputable def ztj:List St:=[.expr (.call "need_lines" [(.var 0)]),.ite (.or [(.not (.isi (.var 1) .list)),(.cmp (.blt .len [(.var 1)]) [.gt] [(.lit (.int 80))])]) [.stuck] [],.loop (.two 2 3) (.enum (.var 1)) [.ite (.not (.call "is_layer" [(.var 3),(.var 0)])) [.stuck] []]]
noncomputable def zho:List St:=[.set 2 (.blt .list [(.blt .range [(.var 0)])]),.loop (.one 3) (.val (.var 1)) [.set 4 (.blt .list [(.var 2)]),.loop (.two 5 6) (.val (.var 3)) [.ite (.cmp (.bin .add (.var 5) (.lit (.int 1))) [.ne] [(.idx (.var 2) (.var 6))]) [.ret (.lit (.bool false))] [],.put (.var 4) (.var 6) (.idx (.var 2) (.var 5))],.set 2 (.var 4)],.ret (.blt .all [(.comp (.cmp (.var 7) [.eq] [(.lit (.int 0))]) (.one 7) (.var 2) [])])]
noncomputable def zt8:List St:=[.expr (.call "need_net" [(.var 0),(.var 1)]),.ret (.call "does_tell" [(.var 0),(.var 1)])]
noncomputable def zg9:List St:=[.ite (.cmp (.var 1) [.lt] [(.blt .len [(.var 0)])]) [.ret (.idx (.var 0) (.var 1))] [],.ret (.lit (.int 0))]
noncomputable def zfd:List St:=[.ret (.and [(.isi (.var 0) .int),(.not (.isi (.var 0) .bool))])]
noncomputable def zc4:List St:=[.set 5 (.blt .max [(.idx (.var 3) (.var 1)),(.idx (.var 3) (.var 2)),(.idx (.var 4) (.var 2))]),.whil (.cmp (.blt .len [(.var 0)]) [.le] [(.var 5)]) [.expr (.meth .append (.var 0) [(.list [])])],.expr (.meth .append (.idx (.var 0) (.var 5)) [(.tup [(.var 2),(.var 1)])]),.put (.var 4) (.var 1) (.blt .max [(.idx (.var 4) (.var 1)),(.var 5)]),.put (.var 3) (.var 2) (.bin .add (.var 5) (.lit (.int 1)))]
noncomputable def zei:List St:=[.set 6 (.list []),.set 7 (.lit (.int 0)),.whil (.cmp (.var 7) [.lt] [(.blt .len [(.var 1)])]) [.ite (.and [(.cmp (.bin .add (.var 7) (.lit (.int 1))) [.lt] [(.blt .len [(.var 1)])]),(.cmp (.bin .mod (.bin .div (.var 2) (.bin .add (.lit (.int 1)) (.var 7))) (.lit (.int 4))) [.gt] [(.lit (.int 0))])]) [.expr (.call "_law_place" [(.var 0),(.idx (.var 1) (.var 7)),(.idx (.var 1) (.bin .add (.var 7) (.lit (.int 1)))),(.var 3),(.var 4)]),.ite (.cmp (.var 6) [.ne] [(.list [])]) [.expr (.meth .append (.var 5) [(.tup [(.idx (.var 6) (.neg (.lit (.int 1)))),(.idx (.var 1) (.var 7))])])] [],.set 7 (.bin .add (.var 7) (.lit (.int 1)))] [],.expr (.meth .append (.var 6) [(.idx (.var 1) (.var 7))]),.set 7 (.bin .add (.var 7) (.lit (.int 1)))],.ret (.var 6)]
noncomputable def zfi:List St:=[.set 0 (.bin .mod (.bin .mul (.var 0) (.lit (.int 48271))) (.lit (.int 2147483647))),.set 2 (.list []),.set 3 (.list []),.set 4 (.bin .mul (.list [(.lit (.int 0))]) (.var 1)),.set 5 (.bin .mul (.list [(.lit (.int 0))]) (.var 1)),.set 6 (.blt .list [(.blt .range [(.var 1)])]),.loop (.one 7) (.val (.blt .range [(.bin .mod (.var 0) (.lit (.int 4)))])) [.set 6 (.call "_law_thinner" [(.var 2),(.var 6),(.bin .div (.bin .div (.var 0) (.lit (.int 4))) (.bin .add (.lit (.int 1)) (.var 7))),(.var 4),(.var 5),(.var 3)])],.set 8 (.comp (.list [(.var 13)]) (.one 13) (.var 6) []),.whil (.cmp (.blt .len [(.var 8)]) [.gt] [(.lit (.int 1))]) [.set 0 (.bin .mod (.bin .mul (.var 0) (.lit (.int 16807))) (.lit (.int 2147483647))),.set 9 (.idx (.list [(.bin .mod (.bin .div (.var 0) (.lit (.int 3))) (.bin .sub (.blt .len [(.var 8)]) (.lit (.int 1)))),(.lit (.int 0)),(.bin .sub (.blt .len [(.var 8)]) (.lit (.int 2)))]) (.bin .mod (.var 0) (.lit (.int 3)))),.loop (.one 10) (.val (.idx (.var 8) (.bin .add (.var 9) (.lit (.int 1))))) [.expr (.call "_law_place" [(.var 2),(.idx (.idx (.var 8) (.var 9)) (.neg (.lit (.int 1)))),(.var 10),(.var 4),(.var 5)])],.set 11 (.bin .add (.idx (.var 8) (.var 9)) (.idx (.var 8) (.bin .add (.var 9) (.lit (.int 1))))),.set 8 (.bin .add (.bin .add (.slice (.var 8) (.lit .none) (.var 9)) (.list [(.var 11)])) (.slice (.var 8) (.bin .add (.var 9) (.lit (.int 2))) (.lit .none)))],.loop (.two 12 10) (.rev (.var 3)) [.expr (.call "_law_place" [(.var 2),(.var 12),(.var 10),(.var 4),(.var 5)])],.ret (.comp (.comp (.tup [(.var 15),(.var 14)]) (.two 14 15) (.blt .sorted [(.var 13)]) []) (.one 13) (.var 2) [])]
noncomputable def zgp:List St:=[.set 1 (.bin .add (.lit (.int 1)) (.bin .mod (.var 0) (.lit (.int 12)))),.ite (.cmp (.bin .mod (.bin .div (.var 0) (.lit (.int 12))) (.lit (.int 9))) [.eq] [(.lit (.int 1))]) [.set 1 (.bin .add (.lit (.int 13)) (.bin .mod (.bin .div (.var 0) (.lit (.int 108))) (.lit (.int 20))))] [],.ret (.var 1)]
noncomputable def zld:List St:=[.set 2 (.list []),.loop (.one 3) (.val (.blt .range [(.bin .sub (.var 0) (.lit (.int 1)))])) [.set 4 (.bin .sub (.bin .sub (.var 0) (.lit (.int 1))) (.var 3)),.set 5 (.rev (.blt .list [(.blt .range [(.var 4)])])),.ite (.and [(.cmp (.bin .mod (.bin .div (.var 1) (.bin .add (.lit (.int 1)) (.var 4))) (.lit (.int 4))) [.eq] [(.lit (.int 1))]),(.cmp (.var 4) [.gt] [(.lit (.int 1))])]) [.set 6 (.bin .mod (.bin .div (.var 1) (.bin .add (.lit (.int 4)) (.var 4))) (.bin .sub (.var 4) (.lit (.int 1)))),.set 5 (.bin .add (.bin .add (.slice (.var 5) (.lit .none) (.var 6)) (.list [(.idx (.var 5) (.bin .add (.var 6) (.lit (.int 1)))),(.idx (.var 5) (.var 6))])) (.slice (.var 5) (.bin .add (.var 6) (.lit (.int 2))) (.lit .none)))] [],.set 2 (.bin .add (.var 2) (.comp (.list [(.tup [(.var 7),(.var 4)])]) (.one 7) (.var 5) []))],.ret (.var 2)]
section
variable {c:Cx}{q:Bool}{d:Nat}{Q:V->Hp->Prop}{E:XPost}{H:Hp}
theorem zi5(P:Has c "is_among" 3 3 zdp){v lo hi:Int}(h1:lo<=v)(h2:v<=hi)(hq:Q (.bool true) H):Calls c q (d+1) "is_among" [.int v,.int lo,.int hi] none Q E H:=by
 refine P q d _ Q E H rfl (Ss_go ?_)
 walk_at "wps"
 refine znc h1 ?_
 walk_at "wps"
 rw[decide_eq_true h2]
 exact hq
theorem zd5(P1:Has c "is_among" 3 3 zdp)(P:Has c "need_lines" 1 1 zjb){n:Int}(h1:1<=n)(h2:n<=64)(hq:Q .none H):Calls c q (d+2) "need_lines" [.int n] none Q E H:=by
 refine P q (d+1) _ Q E H rfl (Ss_go ?_)
 walk_at "wps"
 refine zi5 P1 h1 h2 ?_
 walk_at "wps"
 exact hq
theorem zty(P1:Has c "is_among" 3 3 zdp)(P:Has c "is_joint" 2 2 zi2){l h:Nat}{n:Int}(h1:l<h)(h2:h<n)(hc:q=true)(hq:Q (.bool true) H):Calls c q (d+2) "is_joint" [.tup [.int l,.int h],.int n] none Q E H:=by
 subst hc
 have h3:(l:Int)<h:=zaq.mpr h1
 refine P true (d+1) _ Q E H rfl (Ss_go ?_)
 walk_at "wps"
 refine zi5 P1 (zbf l) (Int.le_sub_one_of_lt (Int.lt_trans h3 h2)) ?_
 walk_at "wps"
 refine zi5 P1 (zbf h) (Int.le_sub_one_of_lt h2) ?_
 walk_at "wps"
 rw[decide_eq_true h3]
 exact hq
end
noncomputable def pr(p:Nat×Nat):V:=.tup [.int p.1,.int p.2]
inductive LayerInv(a n:Nat)(H:Hp):List (Nat×Nat)->Loc->Hp->Prop
 |mk (r:List (Nat×Nat))(last:Int)(lo:Nat)(z:Option V)(hr:zdr n lo r)(hl:∀h:Nat,lo<=h->last<h):LayerInv a n H r [some (.lst a),some (.int n),some (.int last),z] H
section
variable {c:Cx}{q:Bool}{d:Nat}{Q:V->Hp->Prop}{E:XPost}{H:Hp}
theorem zdk{a:Nat}{xs:List V}(h:H[a]?=some xs):onQ true (bltV H .len [.lst a])=some (.int xs.length,H):=by
 show(H[a]?).map _=_
 rw[h];rfl
theorem zsr(P1:Has c "is_among" 3 3 zdp)(P2:Has c "is_joint" 2 2 zi2)(P:Has c "is_layer" 2 4 zlr){a n:Nat}{layer:List (Nat×Nat)}(ha:H[a]?=some (layer.map pr))(hn:n<=64)(hok:zcs n layer)(hc:q=true)(hq:Q (.bool true) H):Calls c q (d+3) "is_layer" [.lst a,.int n] none Q E H:=by
 subst hc
 refine P true (d+2) _ Q E H rfl (Ss_go ?_)
 walk_at "wps"
 refine Opt.mk (zdk ha) ?_
 rw[zac]
 walk_at "wps"
 have hl:=zg3 hok.2 hok.1
 refine znc (zaz.mpr (Nat.pos_of_ne_zero fun h=>hok.1 (List.eq_nil_of_length_eq_zero h))) ?_
 walk_at "wps"
 rw[decide_eq_true (show(layer.length:Int)<=63 by exact Ar.ar2 [_,_] [] 0x8294a000c200806100803080002800308000 (Y3 (Y4 V0 J0) (.l 63)) (Y0 V1 (.l 64)) (Y7 (Y1 J0 J0) (Y1 V0 V1)) hn hl.2)]
 walk_at "wps"
 refine⟨rfl,zfc (v:=.lst a) (fun K E' h=>h) ha ?_⟩
 refine zeb (LayerInv a n H) ?_ ?_ (.mk _ _ 0 _ hok.2 fun h _=>Int.lt_of_lt_of_le (by decide) (zbf h))
 ·rintro x r l H' K hI hnext hret
  obtain⟨last,lo,z,hr,hl⟩:=hI
  obtain⟨h1,h2,h3,h4⟩:=hr
  refine Opt.mk rfl (Ss_go ?_)
  walk_at "wps"
  refine zty P1 P2 h1 (zaq.mpr h2) rfl ?_
  walk_at "wps"
  refine zh0 (fun q=>Int.not_lt.mpr q (hl _ h3)) ?_
  walk_at "wps"
  exact hnext _ _ ha (.mk _ _ _ _ h4 fun h hh=>zaq.mpr hh)
 ·rintro l H' ⟨⟩
  walk_at "wps"
  exact hq
end
end Bn
namespace Bn
open PySem
structure NetAt(H:Hp)(a:Nat)(bs:List Nat)(net:Net):Prop where
 top:H[a]?=some (bs.map .lst)
 len:bs.length=net.length
 lay:∀(i b:Nat) (layer:List (Nat×Nat)),bs[i]?=some b->net[i]?=some layer->H[b]?=some (layer.map pr)
theorem NetAt.each{H:Hp}{a:Nat}{bs:List Nat}{net:Net}(h:NetAt H a bs net){b:Nat}(hb:b∈bs):∃layer∈net,H[b]?=some (layer.map pr):=by
 obtain⟨i,hi,e⟩:=zca.mp hb
 have hi':i<net.length:=h.len▸hi
 exact⟨_,List.getElem_mem hi',h.lay i b _ (e▸zam hi) (zam hi')⟩
section
variable {c:Cx}{q:Bool}{d:Nat}{Q:V->Hp->Prop}{E:XPost}{H:Hp}{C:CallT}{k:Clo}{l:Loc}
theorem zro{a:Nat}{items:List V}(h:H[a]?=some items):lstV H (.lst a)=some items:=h
theorem Sr_enum{e:Ex}{a:Nat}{items:List V}{Q:List V->(Hp->Prop)->Hp->Prop} {E}(hv:∀(K:V->Hp->Prop) E',K (.lst a) H->wpE C q d k e l K E' H)(h:H[a]?=some items)(hq:Q (zf3 0 items) (okV (.lst a) items) H):wpSr C q d k (.enum e) l Q E H:=hv _ _ (Opt.mk (zro h) hq)
theorem Sr_rev{e:Ex}{a:Nat}{items:List V}{Q:List V->(Hp->Prop)->Hp->Prop} {E}(hv:∀(K:V->Hp->Prop) E',K (.lst a) H->wpE C q d k e l K E' H)(h:H[a]?=some items)(hq:Q items.reverse (okV (.lst a) items) H):wpSr C q d k (.rev e) l Q E H:=hv _ _ (Opt.mk (zro h) hq)
structure Checks(c:Cx):Prop where
 among:Has c "is_among" 3 3 zdp
 lines:Has c "need_lines" 1 1 zjb
 joint:Has c "is_joint" 2 2 zi2
 layer:Has c "is_layer" 2 4 zlr
 net:Has c "need_net" 2 4 ztj
inductive NetInv(a n:Nat)(bs:List Nat)(H:Hp):List Nat->Loc->Hp->Prop
 |mk (r:List Nat)(x y:Option V)(hr:∀b∈r,b∈bs):NetInv a n bs H r [some (.int n),some (.lst a),x,y] H
theorem zg2(P:Checks c){n a:Nat}{bs:List Nat}{net:Net}(hn:1<=n/\n<=64)(hN:NetAt H a bs net)(hok:zhe n net)(hc:q=true)(hq:Q .none H):Calls c q (d+4) "need_net" [.int n,.lst a] none Q E H:=by
 subst hc
 refine P.net true (d+3) _ Q E H rfl (Ss_go ?_)
 walk_at "wps"
 refine zd5 (d:=d+1) P.among P.lines (zaz.mpr hn.1) (zaz.mpr hn.2) ?_
 walk_at "wps"
 refine Opt.mk (zdk hN.top) ?_
 rw[zac,hN.len]
 walk_at "wps"
 refine zh0 (Int.not_lt.mpr (zaz.mpr hok.1)) ?_
 walk_at "wps"
 refine⟨rfl,Sr_enum (a:=a) (fun K E' h=>h) hN.top ?_⟩
 refine zlo (NetInv a n bs H) ?_ ?_ (.mk _ _ _ fun _ h=>h)
 ·rintro k b r l H' K hI hnext hret
  obtain⟨x,y,hr⟩:=hI
  refine Opt.mk rfl (Ss_go ?_)
  walk_at "wps"
  obtain⟨layer,hm,hb⟩:=hN.each (hr b zae)
  refine zsr P.among P.joint P.layer hb hn.2 (hok.2 _ hm) rfl ?_
  walk_at "wps"
  exact hnext _ _ hN.top (.mk _ _ _ fun b h=>hr b (zai _ h))
 ·rintro l H' ⟨⟩
  walk_at "wps"
  exact hq
end
end Bn
namespace Bn
open PySem PyProof.Rows
noncomputable def zh3:List (Str×Gk):=[("len",.blt .len),("max",.blt .max),("min",.blt .min),("range",.blt .range),("list",.blt .list),("all",.blt .all),
 ("tuple",.blt .tuple),
 ("sorted",.blt .sorted),
 ("int",.blt .int),
 ("enumerate",.enum),
 ("reversed",.rev),
 ("isinstance",.isi)]
noncomputable def zrv:List (Str×Tc):=[("int",.int),("bool",.bool),("list",.list),
 ("str",.str),
 ("tuple",.tuple)]
noncomputable def zuv (fs:List Str) (vals:List (Str×V)):Tab:=⟨fs.map (fun f=>(f,Gk.fn))++vals.map (fun p=>(p.1,Gk.val p.2))++zh3,zrv⟩
noncomputable def freeB(p:Program)(loose:List Str)(x:Str):Bool:=!(startupNames.contains x)&&!(loose.contains x)&&!(((recsOf p).map (·.name)).contains x)&&!(((litsOf p).map (·.1)).contains x)&&!(((clssOf p loose).map (·.name)).contains x)
noncomputable def pdInt:PyData->Option Int
 |.int i=>some i
 |_=>none
noncomputable def valI(p:Program)(x:Str)(v:V):Option Unit:=(zjk v).bind fun j=>(valOf p x).bind fun w=>(pdInt w).bind fun i=>if i=j then some () else none
noncomputable def pdStr:PyData->Option Str
 |.str i=>some i
 |_=>none
noncomputable def valS(p:Program)(x:Str)(v:V):Option Unit:=(zsf v).bind fun j=>(valOf p x).bind fun w=>(pdStr w).bind fun i=>if i=j then some () else none
noncomputable def valT(p:Program)(x:Str)(v:V):Option Unit:=(zs2 v).bind fun l=>(zh5 l).bind fun ss=>(tupStrsOf p x).bind fun ts=>if ts=ss then some () else none
noncomputable def valB(p:Program)(x:Str)(v:V):Bool:=(valI p x v).isSome||((valS p x v).isSome||(valT p x v).isSome)
noncomputable def meanG:Gk->Option Value
 |.blt b=>some b.real
 |.isi=>some (.builtin "isinstance")
 |.enum=>some (.type "enumerate")
 |.rev=>some (.type "reversed")
 |_=>none
inductive Boot(p:Str×Gk):Prop
 |mk (h1:p.1≠"__name__")(h2:bootBuiltins p.1=meanG p.2)(h3:p.2=.isi->p.1=Str.ofString "isinstance")(h4:∀v,p.2≠.val v)(h5:p.2≠.fn):Boot p
inductive BootT(p:Str×Tc):Prop
 |mk (S:String)(h1:p.1≠"__name__")(h2:p.2.real=some S)(h3:p.1=Str.ofString S)(h4:bootBuiltins p.1=some (.type S)):BootT p
theorem zu6{α:Type}{P:α->Prop}:∀p∈([]:List α),P p:=fun _ h=>nomatch h
theorem all_cons{α:Type}{P:α->Prop}{x:α}{l:List α}(h:P x)(t:∀p∈l,P p):∀p∈x::l,P p:=za7.mpr ⟨h,t⟩
theorem boot_blt{x:Str}{b:Bl}(h1:x≠"__name__")(h2:bootBuiltins x=some b.real):Boot (x,.blt b):=⟨h1,h2,(fun h=>nomatch h),(fun _ h=>nomatch h),(fun h=>nomatch h)⟩
theorem zua:∀p∈zh3,Boot p:=by
 repeat(refine all_cons ?_ ?_;first |refine boot_blt (by decide +kernel) (by kernel_rfl) |refine⟨by decide +kernel,by kernel_rfl,by(intro h;first |rfl |cases h),by(intro v h;cases h),by(intro h;cases h)⟩)
 exact zu6
theorem bootsT:∀p∈zrv,BootT p:=by
 repeat(refine all_cons ?_ ?_;exact⟨_,by decide +kernel,rfl,rfl,by kernel_rfl⟩)
 exact zu6
section
variable {p:Program}{loose:List Str}{mean:ExcName->Option Value}{mg mb:Str->Option Value}{h:Heap}
noncomputable def Hid(h:Heap)(c:Cx):Prop:=∀b o,h.get? b=some o->(∀ps,o≠tabO ps)->c.h0.get? b=some o
theorem DefAt.of{c:Cx}{e:DefItem}(hh:Hid h c)(hat:e.At c.g h):DefAt c e:=by
 obtain⟨a,cc,P,o,pm,doc,g1,g2,g3,g4,B⟩:=hat
 obtain⟨⟨o1,vs1,t1,t2,t3,t4⟩,_⟩:=B.tab
 obtain⟨c2,o2,vs2,t,q1,q2,q3,q4⟩:=g4
 obtain rfl:=Value.ref.inj q1
 obtain rfl:=zaa (t1.symm.trans q2)
 exact⟨a,cc,o,pm,doc,g1,hh a o g2 (fun ps q=>by rw[q] at g3;cases g3),g3,cc,o1,vs2,t,rfl,hh cc o1 q2 (fun ps q=>by rw[q] at t2;cases t2),q3,q4⟩
theorem zt7(T:Top p loose mean mg mb h){x:Str}(hx:freeB p loose x=true):mg x=none:=by
 simp only[freeB,Bool.and_eq_true,zbp,List.contains_eq_mem,decide_eq_false_iff_not] at hx
 exact T.free x hx.1.1.1.1 hx.1.1.1.2 hx.1.1.2 hx.1.2 hx.2
inductive GkAt(fs:List Str)(vals:List (Str×V))(x:Str)(k:Gk):Prop
 |fn (h:k=.fn)(hm:x∈fs)
 |val (v:V)(h:k=.val v)(hm:(x,v)∈vals)
 |blt (h:(x,k)∈zh3)
theorem gkAt{fs:List Str}{vals:List (Str×V)}{x:Str}{k:Gk}(hx:(zuv fs vals).g.lookup x=some k):GkAt fs vals x k:=by
 rcases zau.mp (mem_of_lookup hx) with h |h
 ·rcases zau.mp h with h |h
  ·obtain⟨f,hf,e⟩:=zak.mp h
   obtain⟨e1,e2⟩:=Prod.mk.inj e
   exact .fn e2.symm (e1▸hf)
  ·obtain⟨q,hq,e⟩:=zak.mp h
   obtain⟨e1,e2⟩:=Prod.mk.inj e
   exact .val q.2 e2.symm (e1▸hq)
 ·exact .blt h
theorem valI_rep(T:Top p loose mean mg mb h){c:Cx}{x:Str}{v:V}(hv:(valI p x v).isSome=true):∃r,mg x=some r/\Rep c [] c.h0 v r:=by
 obtain⟨u,hu⟩:=zb7.mp hv
 obtain⟨j,hj,hu⟩:=zad.mp hu
 obtain⟨w,hw,hu⟩:=zad.mp hu
 obtain⟨i,hi,hu⟩:=zad.mp hu
 obtain rfl:=(iteO hu).1
 obtain rfl:=zd8 hj
 obtain⟨r,hr,hR⟩:=T.const _ _ hw
 cases w with
 |int k=>
  obtain rfl:=zaa hi
  cases hR c.h0
  exact⟨_,hr,rI⟩
 |_=>cases hi
theorem valS_rep(T:Top p loose mean mg mb h){c:Cx}{x:Str}{v:V}(hv:(valS p x v).isSome=true):∃r,mg x=some r/\Rep c [] c.h0 v r:=by
 obtain⟨u,hu⟩:=zb7.mp hv
 obtain⟨j,hj,hu⟩:=zad.mp hu
 obtain⟨w,hw,hu⟩:=zad.mp hu
 obtain⟨i,hi,hu⟩:=zad.mp hu
 obtain rfl:=(iteO hu).1
 obtain rfl:=zfp hj
 obtain⟨r,hr,hR⟩:=T.const _ _ hw
 cases w with
 |str k=>
  obtain rfl:=zaa hi
  obtain⟨t,rfl,_⟩:=reads_str_inv (hR c.h0)
  exact⟨_,hr,rS⟩
 |_=>cases hi
theorem zre{c:Cx}{h:Heap}:∀{l:List V}{vs:List Value}{ss:List Str},zh5 l=some ss->StrsAre vs ss->RepL c [] h l vs
 |[],_,_,e,S=>by
  obtain rfl:=zaa e
  cases S
  exact rL
 |v::l,_,_,e,S=>by
  obtain⟨i,h1,f⟩:=zad.mp e
  obtain⟨l',h2,rfl⟩:=zaj.mp f
  obtain rfl:=zfp h1
  cases S with
  |cons y t S=>exact⟨rS,zre h2 S⟩
theorem valT_rep{c:Cx}{w:World}(hh:Hid h c)(B:Tables p w mg h){x:Str}{v:V}(hv:(valT p x v).isSome=true)(hz:∀l,v=.tup l->l.length<=sizeLine):∃r,mg x=some r/\Rep c [] c.h0 v r:=by
 obtain⟨u,hu⟩:=zb7.mp hv
 obtain⟨l,hl,hu⟩:=zad.mp hu
 obtain⟨ss,hs,hu⟩:=zad.mp hu
 obtain⟨ts,ht,hu⟩:=zad.mp hu
 obtain rfl:=(iteO hu).1
 obtain rfl:=zgi hl
 obtain⟨a,vs,h1,⟨o,h2,h3,n,h4⟩,h5⟩:=B.tupS x ts ht
 exact⟨_,h1,TupAt.mk a o vs.toArray n rfl zbo (hh a o h2 fun ps q=>by rw[q] at h3;cases h3) h3 h4 (hz l rfl) (zre hs h5)⟩
noncomputable def shortV(v:V):Bool:=match v with
 |.tup l=>decide (l.length<=100)
 |_=>true
theorem val_rep(T:Top p loose mean mg mb h){c:Cx}{w:World}(hh:Hid h c)(B:Tables p w mg h){x:Str}{v:V}(hv:(valB p x v&&shortV v)=true):∃r,mg x=some r/\Rep c [] c.h0 v r:=by
 obtain⟨hv,hs⟩:=zag.mp hv
 rcases zb2.mp hv with hv |hv
 ·exact valI_rep T hv
 ·rcases zb2.mp hv with hv |hv
  ·exact valS_rep T hv
  ·exact valT_rep hh B hv fun l e=>by subst e;exact zab (of_decide_eq_true hs) (by decide)
theorem tab_ok(T:Top p loose mean mg mb h){w:World}(B:Tables p w mg h){c:Cx}(hg:c.g=mg)(hb:c.b=mb)(hh:Hid h c){fs:List Str}{vals:List (Str×V)}(h1:fs.all (fun f=>((recsOf p).map (·.name)).contains f)=true)(h2:vals.all (fun q=>valB p q.1 q.2&&shortV q.2)=true)
  (h3:(zh3.map (·.1)++zrv.map (·.1)).all (freeB p loose)=true)
  (LO:∀kk fd nm,c.lam kk fd nm->LamF kk fd nm)
  :TabOk c (zuv fs vals):=by
 subst hg hb
 have h1:=za5.mp h1
 have h2:=za5.mp h2
 have h3:=za5.mp h3
 have bl:∀{x:Str} {k:Gk},(x,k)∈zh3->c.g x=none/\c.b x=meanG k:=fun{x k} hx=>
  ⟨zt7 T (h3 x (List.mem_append_left _ (zak.mpr ⟨_,hx,rfl⟩))),(T.builtins x (zua _ hx).1).trans (zua _ hx).2⟩
 have bk:∀{x:Str} {k:Gk},k≠.fn->(∀v,k≠.val v)->(zuv fs vals).g.lookup x=some k->(x,k)∈zh3:=fun n1 n2 hx=>by
  rcases gkAt hx with⟨hk,_⟩|⟨v,hk,_⟩|hm
  ·exact absurd hk n1
  ·exact absurd hk (n2 v)
  ·exact hm
 refine⟨fun x hx=>?_,fun x v hx=>?_,fun x b hx=>bl (bk (k:=.blt b) (fun h=>nomatch h) (fun _ h=>nomatch h) hx),fun x hx=>?_,fun x hx=>bl (bk (k:=.enum) (fun h=>nomatch h) (fun _ h=>nomatch h) hx),fun x hx=>bl (bk (k:=.rev) (fun h=>nomatch h) (fun _ h=>nomatch h) hx),fun x t hx=>?_
  ,LO
  ⟩
 ·rcases gkAt hx with⟨_,hm⟩|⟨v,hk,_⟩|hm
  ·obtain⟨dd,hd,rfl⟩:=zak.mp (List.contains_iff_mem.mp (h1 x hm))
   obtain⟨a,o,pm,code,doc,g1,g2,g3,_⟩:=T.fn dd hd
   exact⟨a,o,_,g1,hh a o g2 (fun ps q=>by rw[q] at g3;cases g3),g3⟩
  ·cases hk
  ·exact absurd rfl (zua _ hm).5
 ·rcases gkAt hx with⟨hk,_⟩|⟨v',hk,hm⟩|hm
  ·cases hk
  ·cases hk
   exact val_rep T hh B (h2 _ hm)
  ·exact absurd rfl ((zua _ hm).4 v)
 ·have hm:=bk (k:=.isi) (fun h=>nomatch h) (fun _ h=>nomatch h) hx
  exact⟨(zua _ hm).3 rfl,bl hm⟩
 ·have hm:=mem_of_lookup hx
  obtain⟨S,b1,b2,b3,b4⟩:=bootsT _ hm
  exact .mk S b2 b3 (zt7 T (h3 x (zbz _ (zak.mpr ⟨_,hm,rfl⟩)))) ((T.builtins x b1).trans b4)
theorem ints_of:∀{vs:List Value}{l:List Int},IntsAre vs l->zxn l vs:=by
 intro vs l h
 induction h with
 |nil=>trivial
 |cons _ _ _ ih=>exact⟨⟨_,rfl⟩,ih⟩
theorem zcm{c:Cx}{Tb:Tab}(TA:∀e∈(recsOf p).map W.itemOf,e.params.defaults=[]->DefAt c e)(O:c.Ok)(TO:TabOk c Tb)(j fuel r:Nat){f:String}{np n:Nat}{xs:List St}
  (hj:(((recsOf p).map W.itemOf)[j]?.bind fun e=>if e.params.defaults.isEmpty=true/\e.name=Str.ofString f/\e.params.args.length=np/\(slots e.scope.names).length+r=n then eFun Tb fuel r e else none)=some xs):Has c f np n xs:=by
 obtain⟨e,he,hx⟩:=zad.mp hj
 obtain⟨⟨h0,h1,h2,h3⟩,hx⟩:=iteO hx
 exact has_of O TO (TA e (zax he) (zbn.mp h0)) hx h1 h2 h3
end
end Bn
namespace Bn
open PySem PyProof.Rows
section
variable {p:Program}{loose:List Str}{mean:ExcName->Option Value}{mg mb:Str->Option Value}{h:Heap}
theorem zra{c:Cx}{P:Addr}{ps:Array Value}(hc:c.h0=h.hide P)(hP:h.get? P=some (tabO ps)):Hid h c:=fun b o hb hn=>by
 rw[hc,Heap.hide_ne h fun q=>by rw[q,hP] at hb;exact hn ps (zaa hb).symm];exact hb
theorem zks{c:Cx}(hh:Hid h c){a:Addr}{m:Str->Option Value}(n:h.Ns a m):c.h0.Ns a m:=
 let⟨o,es,ep,e,hd,r⟩:=n;⟨o,es,ep,hh a o e (fun ps q=>by rw[q] at hd;cases hd),hd,r⟩
theorem ok_hid (T : Top p loose mean mg mb h) {c : Cx} (hh : Hid h c) (hg : c.g = mg) (hb : c.b = mb) (hs : h.NoSeer) (ht : c.prog.given.tree = none) : c.Ok := by
 subst hg hb
 exact { lim := let ⟨mc, a, r⟩ := T.nolimit; ⟨mc, zks hh a, r⟩
         gl := zks hh T.g
         bl := zks hh T.b
         tree := ht
         seer := { statics := let ⟨mc, a, r⟩ := hs.statics; ⟨mc, zks hh a, r⟩
                   mods := let ⟨mc, a, r⟩ := hs.mods; ⟨mc, zks hh a, r⟩
                   imp := let ⟨mc, a, r⟩ := hs.imp; ⟨mc, zks hh a, r⟩
                   main := let ⟨mg, bm, ob, a, b, c, d, e⟩ := hs.main; ⟨mg, bm, ob, zks hh a, b, hh bm ob c (fun ps q => by rw [q] at d; cases d), d, e⟩ } }
theorem bm_hid (T : Top p loose mean mg mb h) {c : Cx} (hh : Hid h c) (hg : c.g = mg) : BMain c := by
 subst hg
 obtain ⟨bm, ob, b1, b2, b3, b4, b5, b6⟩ := T.bmain
 exact ⟨bm, ob, b1, b2, hh bm ob b3 (fun ps q => by rw [q] at b4; cases b4), b4, b5, b6⟩
theorem cdHd_of{c P:Addr}(hc:h.IsCode c P #[])(ht:h.TableAt c P #[]):CdHd h c P:=by
 obtain⟨⟨o,vs,e1,e2,e3,e4⟩,_⟩:=ht
 obtain⟨o',vs',file,tf,flags,tg,inF,text,tt,op,f1,f2,f3,f4,f5,f6,f7,_,_,_,f11⟩:=hc
 obtain rfl:=zaa (e1.symm.trans f1)
 obtain rfl:=Data.fields.inj (e3.symm.trans f2)
 exact⟨o,vs,file,tf,flags,tg,inF,text,tt,e1,e2,e3,e4,f3,f4,f5,f6,f7,f11⟩
inductive AtP(e:DefItem)(mg:Str->Option Value)(h:Heap)(P:Addr):Prop
 |mk (a cc:Addr)(o:Obj)(pm doc:Value)(g1:mg e.name=some (.ref a))(g2:h.get? a=some o)(g3:o.data=.func (Calls.docDef e.name e.params e.body e.scope pm (.ref cc) doc))(g4:h.CodeRec (.ref cc) e.name)(g5:CdHd h cc P)(g6:h.get? P=some (tabO #[])):AtP e mg h P
theorem atP{e:DefItem}(hat:e.At mg h):∃P,AtP e mg h P:=by
 obtain⟨a,cc,P,o,pm,doc,g1,g2,g3,g4,B⟩:=hat
 exact⟨P,a,cc,o,pm,doc,g1,g2,g3,g4,cdHd_of B.code B.tab,B.tab.2⟩
theorem DefTab.of{c:Cx}{e:DefItem}{P:Addr}{lc:Nat×Nat}(hh:Hid h c)(q:AtP e c.g h P)(h0:c.h0.get? P=none)(ht:c.tabs=[(P,lc,e.name++".<locals>."++"<lambda>")]):DefTab c e lc:=by
 obtain⟨a,cc,o,pm,doc,g1,g2,g3,g4,g5,g6⟩:=q
 obtain⟨o1,vs,file,tf,flags,tg,inF,text,tt,e1,e2,e3,e4,f3,f4,f5,f6,f7,f11⟩:=g5
 obtain⟨c2,o2,vs2,t,q1,q2,q3,q4⟩:=g4
 obtain rfl:=Value.ref.inj q1
 obtain rfl:=zaa (e1.symm.trans q2)
 have k:=hh cc o1 e1 (fun ps q=>by rw[q] at e2;cases e2)
 exact⟨a,cc,o,pm,doc,(P,lc,e.name++".<locals>."++"<lambda>"),g1,hh a o g2 (fun ps q=>by rw[q] at g3;cases g3),g3,⟨cc,o1,vs2,t,rfl,k,q3,q4⟩,by rw[ht];exact zae,fun y hy _=>by rw[ht] at hy;exact zah.mp hy,h0,⟨o1,vs,file,tf,flags,tg,inF,text,tt,k,e2,e3,e4,f3,f4,f5,f6,f7,f11⟩,rfl,rfl⟩
noncomputable def HasJ(c:Cx)(f:String)(np n:Nat)(xs:List St):Prop:=
 ∀q d kk z vs Q E H,vs.length=np->wpSs (Calls c) q d (some (kk,z)) xs (EndQ Q) (EndX E) (vs.map some++List.replicate (n-np) none) H->Calls c q (d+1) (Str.ofString f) vs (some (kk,z)) Q E H
theorem has_atJ{c:Cx}{Tb:Tab}(TA:∀e∈(recsOf p).map W.itemOf,e.params.defaults=[]->DefAt c e)(O:c.Ok)(TO:TabOk c Tb)(j fuel r:Nat)(ps:List Str){f:String}{np n:Nat}{xs:List St}
  (hj:(((recsOf p).map W.itemOf)[j]?.bind fun e=>if e.params.defaults.isEmpty=true/\e.name=Str.ofString f/\ps.length=np/\(slots e.scope.names).length+r=n then eFunJ Tb fuel r ps e else none)=some xs):HasJ c f np n xs:=by
 obtain⟨e,he,hx⟩:=zad.mp hj
 obtain⟨⟨h0,h1,h2,h3⟩,hx⟩:=iteO hx
 intro q d kk z vs Q E H hl hw
 rw[<- h1]
 refine ztt O TO (TA e (zax he) (zbn.mp h0)) hx (by rw[hl,h2]) ?_
 rw[h3,hl];exact hw
inductive Led(p:Program)(Tb:Tab)(f:String)(np n kk:Nat)(y:List St×Nat×Nat)(e:DefItem):Prop
 |mk (fuel r:Nat)(hm:e∈(recsOf p).map W.itemOf)(h0:e.params.defaults=[])(h1:e.name=Str.ofString f)(h2:e.params.args.length=np)(h3:(slots e.scope.names).length+r=n)(he:eFunL Tb fuel r kk e=some y):Led p Tb f np n kk y e
theorem led_of(TA:∀e∈(recsOf p).map W.itemOf,e.params.defaults=[]->e.At mg h){Tb:Tab}(j fuel r kk:Nat){f:String}{np n:Nat}{y:List St×Nat×Nat}
  (hj:(((recsOf p).map W.itemOf)[j]?.bind fun e=>if e.params.defaults.isEmpty=true/\e.name=Str.ofString f/\e.params.args.length=np/\(slots e.scope.names).length+r=n then eFunL Tb fuel r kk e else none)=some y):∃e P,Led p Tb f np n kk y e/\AtP e mg h P:=by
 obtain⟨e,he,hx⟩:=zad.mp hj
 obtain⟨⟨h0,h1,h2,h3⟩,hx⟩:=iteO hx
 obtain⟨P,hP⟩:=atP (TA e (zax he) (zbn.mp h0))
 exact⟨e,P,⟨fuel,r,zax he,zbn.mp h0,h1,h2,h3,hx⟩,hP⟩
theorem AtP.tab{e:DefItem}{P:Addr}(q:AtP e mg h P):h.get? P=some (tabO #[]):=let⟨_,_,_,_,_,_,_,_,_,_,g⟩:=q;g
theorem oldK_of{e:DefItem}{h':Heap}{P:Addr}(q:AtP e mg h P)(k:∀b o,b≠P->h.get? b=some o->h'.get? b=some o)(hg:∃ps,h'.get? P=some (tabO ps)):OldK h h':=by
 have hP:=q.tab
 obtain⟨_,cc,_,_,_,_,_,_,_,g5,_⟩:=q
 obtain⟨o1,vs,_,_,_,_,_,_,_,e1,e2,e3,e4,_,_,_,_,_,_⟩:=g5
 obtain⟨ps,hg⟩:=hg
 refine⟨fun b o e=>?_,fun b o e=>?_⟩
 ·by_cases hb:b=P
  ·subst hb
   obtain rfl:=zaa (hP.symm.trans e)
   exact .inr (.inl ⟨⟨cc,o1,vs,e1,e2,e3,e4⟩,rfl,#[],ps,rfl,by rw[Array.empty_append];exact hg⟩)
  ·exact .inl (k b o hb e)
 ·by_cases hb:b=P
  ·subst hb;exact⟨_,hg⟩
  ·exact⟨o,k b o hb e⟩
theorem has_led{c:Cx}{Tb:Tab}{f:String}{np n kk:Nat}{y:List St×Nat×Nat}{e:DefItem}(O:c.Ok)(TO:TabOk c Tb)(BM:BMain c)(LO:∀kk fd nm,LamF kk fd nm->c.lam kk fd nm)(hl:Led p Tb f np n kk y e)(hat:DefTab c e y.2):Has c f np n y.1:=by
 obtain⟨fuel,r,hm,h0,h1,h2,h3,he⟩:=hl
 intro q d vs Q E H hl hw
 rw[<- h1]
 refine zs6 O TO BM LO hat he (by rw[hl,h2]) ?_
 rw[h3,hl];exact hw
theorem law_endL{c:Cx}{d:Nat}{fa a P:Addr}{lc:Nat×Nat}{nm:Str}{l:List Int}{A:Around}{s:Shared}{R:Result->Shared->Prop}(hA:OkA c A true d [] s.heap)(h0:c.h0=s.heap.hide P)(hP:s.heap.get? P=some (tabO #[]))(ht:c.tabs=[(P,lc,nm)])(hgens:s.gens = #[])(hg:c.g (Str.ofString "law")=some (.ref fa)){vs:List Value}(hL:s.heap.IsList a vs.toArray)(hI:IntsAre vs l)(hl:l.length<=sizeLine)
  (hc:Calls c true d (Str.ofString "law") [.scr l] none (fun v _=>v=.bool true) noX [])
  (hR:∀s',(∀b o,b≠P->s.heap.get? b=some o->s'.heap.get? b=some o)->(∃ps,s'.heap.get? P=some (tabO ps))->s'.os=s.os->s'.gens = #[]->R (.ok (.ret (.bool true))) s'):codeAny (model c.prog c.w) A (.call (.ref fa) ⟨[.ref a],[]⟩) R s:=by
 obtain⟨a',o',fd',g1,g2,g3,g4⟩:=hc
 rw[hg] at g1;cases g1
 have hh:Hid s.heap c:=zra h0 hP
 have S:Sim c [] [] s:=⟨fun b o h=>Heap.of_hide (h0▸h),(fun _ h=>nomatch h),List.nodup_nil,rfl,(fun _ _ h=>nomatch h),hgens,fun x hx=>by
  rw[ht] at hx;rw[zah.mp hx];exact .no hP⟩
 obtain⟨ol,ho,hcl,n,hd⟩:=hL
 have R1:RepL c [] s.heap [.scr l] [.ref a]:=⟨⟨a,ol,vs.toArray,n,rfl,zbo,hh a ol ho (fun ps q=>by rw[q] at hcl;cases hcl),ho,hcl,hd,hl,ints_of hI⟩,rfl⟩
 have:=g4 A [] s [.ref a] [] hA S R1 rfl
 refine codeAny_mono this ?_
 intro r s' hr
 cases r with
 |error e=>
  obtain⟨_,_,_,_,_,_,hq⟩:=hr
  exact hq.elim
 |ok f=>cases f with
  |ret v=>
   obtain⟨φ',H',v,e,S',Rv,hv⟩:=hr
   subst hv
   cases(show _=_ from Rv)
   refine hR s' (fun b o hb ho=>S'.stays b o (by rw[h0,Heap.hide_ne _ hb];exact ho)) ?_ e.os S'.gens
   rcases S'.tab _ (ht▸zae) with h1 |⟨cc,h1,_⟩
   ·exact⟨_,h1⟩
   ·exact⟨_,h1⟩
  |_=>exact hr.elim
end
end Bn
namespace Bn
open PySem
section
variable {c:Cx}{q:Bool}{d:Nat}{Q:V->Hp->Prop}{E:XPost}{H:Hp}{C:CallT}{k:Clo}{l:Loc}
theorem zqw{i n:Nat}(h:i<n):ix (i:Int) n=some i:=by
 refine(if_pos (zbf i)).trans ((if_pos (zaq.mpr h)).trans ?_)
 rw[Int.toNat_natCast]
theorem zcl{α:Type}{xs:List α}{i:Nat}{x:α}(h:xs[i]?=some x):i<xs.length:=(zbi.mp h).1
theorem idx_scr{xs:List Int}{i:Nat}{x:Int}(h:xs[i]?=some x):idxV H (.scr xs) (.int i)=some (.int x):=by
 show(ix i xs.length).bind _=_
 rw[zqw (zcl h)]
 show(xs[i]?).map _=_
 rw[h];rfl
theorem zc5{a i:Nat}{xs:List V}{x:V}(ha:H[a]?=some xs)(h:xs[i]?=some x):idxV H (.lst a) (.int i)=some x:=by
 show(H[a]?).bind _=_
 rw[ha]
 show(ix i xs.length).bind _=_
 rw[zqw (zcl h)]
 exact h
theorem zr9{a:Nat}{xs:List V}{x:V}(ha:H[a]?=some xs)(h:xs.getLast?=some x):idxV H (.lst a) (.int (-1))=some x:=by
 show(H[a]?).bind _=_
 rw[ha]
 show(ix (-1) xs.length).bind _=_
 rw[List.getLast?_eq_getElem?] at h
 have hlen:=Nat.pos_of_lt_add_left (n:=0) (k:=xs.length) (by have:=zcl h;exact Ar.ar1 [_] [] 0xa5000610000308020 (Y1 J0 (Y0 V0 J0)) (Y1 (Y2 V0 J1) V0) this)
 have e:ix (-1) xs.length=some (xs.length-1):=by
  refine(if_neg (by decide)).trans ((if_pos (by exact Ar.ar1 [_] [] 0xa5000610000308020 (Y3 (Y3 (Y4 V0 J0) J0) (Y3 J1 J0)) (Y1 J0 V0) hlen)).trans ?_)
  rw[show((-1:Int)+xs.length).toNat=xs.length-1 by exact Ar.ar1 [_,_] [] 0x6410a50006100c030802000065294001840400c2018061004050802140d04294001840700c2008000214a50006101c03080401840001005080211a08528003080e01840100005294001840501020200610000508021 (Y2 V0 (Y2 V1 J1)) (Y7 (Y5 (Y4 V0 J0) (Y0 (Y3 J1 J0) (Y4 V1 J0))) (Y6 (Y3 (Y0 (Y3 J1 J0) (Y4 V1 J0)) J0) (Y2 V0 J0))) (Ar.tn _)]
 rw[e]
 exact h
theorem zih(P:Has c "_law_cell_at" 2 2 zg9){xs:List Int}{i:Nat}(hc:q=true)(hq:Q (.int (xs.getD i 0)) H):Calls c q (d+1) "_law_cell_at" [.scr xs,.int i] none Q E H:=by
 subst hc
 refine P true d _ Q E H rfl (Ss_go ?_)
 walk_at "wps"
 refine zci (fun h=>?_) (fun h=>?_)
 ·walk_at "wps"
  have hg:=zam (zaq.mp h)
  refine Opt.mk (idx_scr hg) ?_
  rw[zas,hg] at hq
  exact hq
 ·walk_at "wps"
  rw[zas,zbq (zba fun q=>h (zaq.mpr q))] at hq
  exact hq
theorem bin_mod{a b:Int}(hb:0<b):binV H .mod (.int a) (.int b)=some (.int (a%b),H):=by
 refine(if_neg (Int.ne_of_gt hb)).trans ?_
 rw[Int.fmod_eq_emod_of_nonneg _ (Int.le_of_lt hb)]
theorem bin_div{a b:Int}(hb:0<b):binV H .div (.int a) (.int b)=some (.int (a/b),H):=by
 refine(if_neg (Int.ne_of_gt hb)).trans ?_
 rw[Int.fdiv_eq_ediv_of_nonneg _ (Int.le_of_lt hb)]
theorem zcn{a b:Int}{K:V×Hp->Prop}(hb:0<b)(h:K (.int (a%b),H)):Opt (binV H .mod (.int a) (.int b)) K:=Opt.mk (bin_mod hb) h
theorem zdv{a b:Int}{K:V×Hp->Prop}(hb:0<b)(h:K (.int (a/b),H)):Opt (binV H .div (.int a) (.int b)) K:=Opt.mk (bin_div hb) h
noncomputable def zhm(x:Int):Int:=if x/12%9=1 then 13+x/108%20 else 1+x%12
theorem zsq(x:Int):1<=zhm x/\zhm x<=32:=by unfold zhm;split<;>(first |exact Ar.ar1 [] [_,_,_] 0x6210a500061010030802008040210a500061010030800008040 (Y6 (Y3 J1 (Y0 (.l 13) V0)) (Y3 (Y0 (.l 13) V0) (.l 32))) (Y6 (Y5 (Y0 (Y1 (.l 20) V1) V0) V2) (Y6 (Y3 J0 V0) (Y4 V0 (.l 20)))) (Ar.zd _ (k:=20) (by decide)) |exact Ar.ar1 [] [_,_,_] 0x6210a500061010030802008040210a500061010030800008040 (Y6 (Y3 J1 (Y0 J1 V0)) (Y3 (Y0 J1 V0) (.l 32))) (Y6 (Y5 (Y0 (Y1 (.l 12) V1) V0) V2) (Y6 (Y3 J0 V0) (Y4 V0 (.l 12)))) (Ar.zd _ (k:=12) (by decide)))
theorem ztv(P:Has c "_law_lines_by" 1 2 zgp){x:Int}(hq:Q (.int (zhm x)) H):Calls c q (d+1) "_law_lines_by" [.int x] none Q E H:=by
 refine P q d _ Q E H rfl (Ss_go ?_)
 walk_at "wps"
 refine zcn (by decide) ?_
 walk_at "wps"
 refine zdv (by decide) ?_
 walk_at "wps"
 refine zcn (by decide) ?_
 walk_at "wps"
 refine zci (fun h=>?_) (fun h=>?_)
 ·walk_at "wps"
  refine zdv (by decide) ?_
  walk_at "wps"
  refine zcn (by decide) ?_
  walk_at "wps"
  rw[zhm,if_pos h] at hq
  exact hq
 ·walk_at "wps"
  rw[zhm,if_neg h] at hq
  exact hq
theorem zui(P:Has c "_law_whole" 1 1 zfd){i:Int}(hq:Q (.bool true) H):Calls c q (d+1) "_law_whole" [.int i] none Q E H:=by
 refine P q d _ Q E H rfl (Ss_go ?_)
 walk_at "wps"
 exact hq
end
end Bn
namespace Bn
open PySem
noncomputable def nat(n:Nat):V:=.int n
noncomputable def fl(p:Nat×Nat):V:=.tup [.int p.2,.int p.1]
structure Apart(f dn rd:Nat)(bs:List Nat):Prop where
 n1:f≠dn
 n2:f≠rd
 n3:f∉bs
 n4:dn≠rd
 n5:dn∉bs
 n6:rd∉bs
 n7:bs.Nodup
structure Build(H:Hp)(f dn rd:Nat)(bs:List Nat)(lays:Net)(done read:List Nat):Prop where
 F:H[f]?=some (bs.map .lst)
 len:bs.length=lays.length
 L:∀(i b:Nat) (y:List (Nat×Nat)),bs[i]?=some b->lays[i]?=some y->H[b]?=some (y.map fl)
 D:H[dn]?=some (done.map nat)
 R:H[rd]?=some (read.map nat)
 ap:Apart f dn rd bs
structure Stay(S:List Nat)(H H':Hp):Prop where
 len:H.length<=H'.length
 same:∀x,x<H.length->x∉S->H'[x]?=H[x]?
theorem Stay.refl{S:List Nat}{H:Hp}:Stay S H H:=⟨zaf _,fun _ _ _=>rfl⟩
section
variable {c:Cx}{q:Bool}{d:Nat}{Q:V->Hp->Prop}{E:XPost}{H:Hp}
theorem zc7{x:Nat}{y:List V}(h:H[x]?=some y):x<H.length:=zcl h
theorem zee{x:Nat}{y xs:List V}(h:H[x]?=some y):(H++[xs])[x]?=some y:=(zbu (zc7 h)).trans h
theorem zcf{xs:List V}:(H++[xs])[H.length]?=some xs:=List.getElem?_concat_length
theorem zc0{x a:Nat}{y xs:List V}(h:H[x]?=some y)(hn:x≠a):(H.set a xs)[x]?=some y:=(zb1 (Ne.symm hn)).trans h
theorem zff{a:Nat}{y xs:List V}(h:H[a]?=some y):(H.set a xs)[a]?=some xs:=zb0 (zc7 h)
variable {f dn rd:Nat}{bs:List Nat}{lays:Net}{done read:List Nat}
theorem Build.lt(B:Build H f dn rd bs lays done read){i b:Nat}(hb:bs[i]?=some b):b<H.length/\i<lays.length:=
 have hi:i<lays.length:=B.len▸zcl hb
 ⟨zc7 (B.L i b _ hb (zam hi)),hi⟩
theorem Build.ltm(B:Build H f dn rd bs lays done read){b:Nat}(hb:b∈bs):b<H.length:=by
 obtain⟨i,hi⟩:=List.mem_iff_getElem?.mp hb
 exact(B.lt hi).1
theorem zeg{α:Type}{l:List α}{x y:α}{i:Nat}(h:(l++[x])[i]?=some y):l[i]?=some y\/(i=l.length/\x=y):=by
 by_cases hi:i<l.length
 ·exact .inl ((zbu hi).symm.trans h)
 ·have hlt:=zcl h
  rw[zao] at hlt
  have e:i=l.length:=Nat.le_antisymm (Nat.le_of_lt_succ hlt) (zba hi)
  rw[e,List.getElem?_concat_length] at h
  exact .inr ⟨e,zaa h⟩
theorem Build.grow(B:Build H f dn rd bs lays done read):Build ((H++[[]]).set f (bs.map V.lst++[V.lst H.length])) f dn rd (bs++[H.length]) (lays++[[]]) done read:=by
 have hf:=zc7 B.F
 have A:=B.ap
 have keep:∀{x:Nat} {y:List V},x≠f->H[x]?=some y->((H++[[]]).set f (bs.map V.lst++[V.lst H.length]))[x]?=some y:=fun hx h=>zc0 (zee h) hx
 have out:∀{x:Nat},x<H.length->x∉bs->x∉bs++[H.length]:=fun hx hn hm=>(zau.mp hm).elim hn fun e=>za3 hx (zah.mp e)
 refine⟨?_,?_,fun i b y hb hy=>?_,keep (Ne.symm A.n1) B.D,keep (Ne.symm A.n2) B.R,⟨A.n1,A.n2,out hf A.n3,A.n4,out (zc7 B.D) A.n5,out (zc7 B.R) A.n6,?_⟩⟩
 ·rw[zat];exact zff (zee B.F)
 ·rw[zao,zao,B.len];rfl
 ·rcases zeg hb with hb |⟨e,rfl⟩
  ·rcases zeg hy with hy |⟨e,rfl⟩
   ·exact keep (fun q=>A.n3 (q▸zax hb)) (B.L i b y hb hy)
   ·exact absurd (zcl hb) (by rw[e,B.len];exact zbb _)
  ·rcases zeg hy with hy |⟨_,rfl⟩
   ·exact absurd (zcl hy) (by rw[e,B.len];exact zbb _)
   ·exact zc0 zcf (Nat.ne_of_gt hf)
 ·refine List.nodup_append.mpr ⟨A.n7,zb5.mpr ⟨zbo,List.nodup_nil⟩,fun x hx y hy=>?_⟩
  rw[zah.mp hy]
  exact za3 (B.ltm hx)
theorem Build.putL(B:Build H f dn rd bs lays done read){i b:Nat}{y:List (Nat×Nat)}(hb:bs[i]?=some b):Build (H.set b (y.map fl)) f dn rd bs (lays.set i y) done read:=by
 have A:=B.ap
 have hm:=zax hb
 obtain⟨hlt,hi⟩:=B.lt hb
 refine⟨zc0 B.F (fun q=>A.n3 (q▸hm)),B.len.trans zbm.symm,fun j b' y' hb' hy'=>?_,zc0 B.D (fun q=>A.n5 (q▸hm)),zc0 B.R (fun q=>A.n6 (q▸hm)),A⟩
 by_cases hij:j=i
 ·subst hij
  obtain rfl:=zaa (hb.symm.trans hb')
  obtain rfl:=zaa ((zb0 hi).symm.trans hy')
  exact zb0 hlt
 ·rw[zb1 (Ne.symm hij)] at hy'
  exact zc0 (B.L j b' y' hb' hy') (fun q=>hij (zoh A.n7 (q▸hb') hb))
theorem Build.putD{done':List Nat}(B:Build H f dn rd bs lays done read):Build (H.set dn (done'.map nat)) f dn rd bs lays done' read:=
 have A:=B.ap
 ⟨zc0 B.F A.n1,B.len,fun j b y hb hy=>zc0 (B.L j b y hb hy) (fun q=>A.n5 (q▸zax hb)),zff B.D,zc0 B.R (Ne.symm A.n4),A⟩
theorem Build.putR{read':List Nat}(B:Build H f dn rd bs lays done read):Build (H.set rd (read'.map nat)) f dn rd bs lays done read':=
 have A:=B.ap
 ⟨zc0 B.F A.n2,B.len,fun j b y hb hy=>zc0 (B.L j b y hb hy) (fun q=>A.n6 (q▸zax hb)),zc0 B.D A.n4,zff B.R,A⟩
theorem Stay.set{S:List Nat}{H H':Hp}{a:Nat}{xs:List V}(h:Stay S H H')(ha:a∈S\/H.length<=a):Stay S H (H'.set a xs):=
 ⟨by rw[zbm];exact h.len,fun x hx hn=>(zb1 (fun q:a=x=>ha.elim (fun m=>hn (q▸m)) fun m=>Nat.not_lt.mpr m (q▸hx))).trans (h.same x hx hn)⟩
theorem Stay.app{S:List Nat}{H H':Hp}{xs:List V}(h:Stay S H H'):Stay S H (H'++[xs]):=
 ⟨by rw[zao];exact Nat.le_add_right_of_le h.len,fun x hx hn=>(zbu (zay hx h.len)).trans (h.same x hx hn)⟩
end
end Bn
namespace Bn
open PySem
section
variable {c:Cx}{q:Bool}{d:Nat}{Q:V->Hp->Prop}{E:XPost}{H:Hp}
theorem zpv(a b:Nat):(if(a:Int)<b then(b:Int) else a)=((max a b:Nat):Int):=by
 by_cases h:a<b
 ·rw[if_pos (zaq.mpr h),Nat.max_eq_right (zav h)]
 ·rw[if_neg (fun q=>h (zaq.mp q)),Nat.max_eq_left (zba h)]
theorem zno{a b:Nat}:onQ true (bltV H .max [.int a,.int b])=some (.int (max a b:Nat),H):=by
 rw[<- zpv];rfl
theorem blt_max3{a b e:Nat}:onQ true (bltV H .max [.int a,.int b,.int e])=some (.int (max (max a b) e:Nat),H):=by
 rw[<- zpv,<-zpv];rfl
theorem zk2{α:Type}{g:α->V}{xs:List α}{i:Nat}{x:α}(h:xs[i]?=some x):(xs.map g)[i]?=some (g x):=by rw[zan,h];rfl
theorem zeo{a i x:Nat}{xs:List Nat}(ha:H[a]?=some (xs.map nat))(h:xs[i]?=some x):idxV H (.lst a) (.int i)=some (.int x):=zc5 ha (zk2 h)
theorem put_at{a i:Nat}{v:V}{xs:List V}(ha:H[a]?=some xs)(h:i<xs.length):putV H (.lst a) (.int i) v=some (H.set a (xs.set i v)):=by
 show(H[a]?).bind _=_
 rw[ha]
 refine(if_pos ⟨zbf i,zaq.mpr h⟩).trans ?_
 rw[Int.toNat_natCast]
theorem zpt{a i x:Nat}{xs:List Nat}(ha:H[a]?=some (xs.map nat))(h:i<xs.length):putV H (.lst a) (.int i) (.int x)=some (H.set a ((xs.set i x).map nat)):=by
 rw[List.map_set]
 exact put_at ha (by rw[zac];exact h)
theorem zdm{a:Nat}{xs:List V}{v:V}(ha:H[a]?=some xs)(hz:xs.length<10000):ztx H .append (.lst a) [v]=some (.none,H.set a (xs++[v])):=by
 show(H[a]?).bind _=_
 rw[ha]
 exact if_pos (zar hz (by decide))
structure Placed(H:Hp)(f dn rd:Nat)(bs:List Nat)(lays:Net)(done read:List Nat)(l h:Nat)(bs':List Nat)(H':Hp):Prop where
 build:Build H' f dn rd bs' (zlt lays (zds done read l h) (l,h)) (done.set h (zds done read l h+1)) (read.set l (max (g0 read l) (zds done read l h)))
 stay:Stay (f::dn::rd::bs) H H'
 new:∀b∈bs',b∈bs\/H.length<=b
theorem zsh{n m k L b:Nat}(hnm:n+m=k+1-L)(hlen:b=L+m)(hle:b<=k):n-1<n/\n-1+(m+1)=k+1-L:=by exact Ar.ar3 [_,_,_,_,_] [] 0xc61a064294a528004081a01840e00c204806100c0308020180a308c20104a528003080e01840400c20000a100023294a0010203006100c03080202840008d04294a00102048061028030800000068214a5294a0010206008103403081c01840a010203006100400014a000c2040061000050800128c2308041 (Y6 (Y1 (Y2 V0 J1) V0) (Y2 (Y0 (Y2 V0 J1) (Y0 V1 J1)) (Y2 (Y0 V2 J1) V3))) (Y2 (Y0 V0 V1) (Y2 (Y0 V2 J1) V3)) (Y2 V4 (Y0 V3 V1)) (Y0 V4 V2) hnm hlen hle
theorem zws{n m k L b:Nat}(hnm:n+m=k+1-L)(hlen:b=L+m)(hle:¬b<=k):m=k+1-L:=by exact Ar.ar3 [_,_,_,_,_] [] 0x314a000c201006100003410a5000610180308020000a5294001840700c204006101003080002882308021 (Y2 V0 (Y2 (Y0 V1 J1) V2)) (Y2 (Y0 V3 V0) (Y2 (Y0 V1 J1) V2)) (Y2 V4 (Y0 V2 V0)) (Y8 (Y0 V4 V1) J0) hnm hlen hle
inductive GrowInv(H:Hp)(f dn rd:Nat)(bs:List Nat)(lays:Net)(done read:List Nat)(l h k n:Nat):Loc->Hp->Prop
 |mk (bs':List Nat)(m:Nat)(H':Hp)(hn:n+m=k+1-lays.length)(B:Build H' f dn rd bs' (lays++List.replicate m []) done read)(st:Stay (f::dn::rd::bs) H H')(new:∀b∈bs',b∈bs\/H.length<=b) :
   GrowInv H f dn rd bs lays done read l h k n [some (.lst f),some (.int l),some (.int h),some (.lst dn),some (.lst rd),some (.int k)] H'
theorem zvw{xs:List Nat}{i:Nat}(h:i<xs.length):xs[i]?=some (g0 xs i):=by
 rw[g0,zas,zam h];rfl
theorem s_place(P:Has c "_law_place" 5 6 zc4){f dn rd:Nat}{bs:List Nat}{lays:Net}{done read:List Nat}{l h:Nat}(B:Build H f dn rd bs lays done read)(hl:l<done.length)(hh:h<done.length)(hrl:read.length=done.length)(hc:q=true)
  (hsz:zds done read l h<1000) (hlz:lays.length<1000) (hyz:∀y∈lays,y.length<1000) (hq:∀bs' H',Placed H f dn rd bs lays done read l h bs' H'->Q .none H') :
  Calls c q (d+1) "_law_place" [.lst f,.int l,.int h,.lst dn,.lst rd] none Q E H:=by
 subst hc
 refine P true d _ Q E H rfl (Ss_go ?_)
 have gR:∀{x:Nat},x<done.length->read[x]?=some (g0 read x):=fun hx=>zvw (hrl▸hx)
 walk_at "wps"
 refine Opt.mk (zeo B.D (zvw hl)) ?_
 walk_at "wps"
 refine Opt.mk (zeo B.D (zvw hh)) ?_
 walk_at "wps"
 refine Opt.mk (zeo B.R (gR hh)) ?_
 walk_at "wps"
 refine Opt.mk blt_max3 ?_
 walk_at "wps"
 rw[show max (max (g0 done l) (g0 done h)) (g0 read h)=zds done read l h from rfl]
 generalize hat:zds done read l h=k at hsz
 refine⟨rfl,.mk (GrowInv H f dn rd bs lays done read l h k) (k+1-lays.length) (.mk bs 0 _ rfl (by rw[List.replicate_zero,za9];exact B) Stay.refl fun b hb=>.inl hb) ?_⟩
 rintro n l' H' hI
 obtain⟨bs',m,_,hnm,B',st,hnew⟩:=hI
 have hlen:=B'.len
 rw[zao,List.length_replicate] at hlen
 walk_at "wps"
 refine Opt.mk (zdk B'.F) ?_
 walk_at "wps"
 rw[zac]
 refine zci (fun hle=>?_) (fun hle=>?_)
 ·have hle:=zaz.mp hle
  walk_at "wps"
  refine⟨rfl,?_⟩
  walk_at "wps"
  refine Opt.mk (zdm (zee B'.F) (by rw[zac];exact zaw hle (zar hsz (by decide)))) ?_
  walk_at "wps"
  have hst:=zsh hnm hlen hle
  refine⟨n-1,hst.1,.mk (bs'++[H'.length]) (m+1) _ hst.2 ?_ ((st.app).set (.inl zae)) fun b hb=>?_⟩
  ·have:=B'.grow
   rw[zbd,<-List.replicate_succ'] at this
   exact this
  ·rcases zau.mp hb with hb |hb
   ·exact hnew b hb
   ·rw[zah.mp hb];exact .inr st.len
 ·have hle:¬bs'.length<=k:=fun q=>hle (zaz.mpr q)
  walk_at "wps"
  have hm:m=k+1-lays.length:=zws hnm hlen hle
  rw[hm] at B'
  rw[show lays++List.replicate (k+1-lays.length) []=zm6 (k+1) lays from rfl] at B'
  have hb:=zam (Nat.lt_of_not_le hle)
  generalize bs'[k]=b at hb
  obtain⟨hblt,hkl⟩:=B'.lt hb
  have hy:=zam hkl
  generalize hyy:(zm6 (k+1) lays)[k]=y at hy
  have hyl:y.length<1000:=by
   rcases zau.mp (zax hy) with h1 |h1
   ·exact hyz y h1
   ·rw[(List.mem_replicate.mp h1).2];decide
  refine Opt.mk (zc5 B'.F (zk2 hb)) ⟨rfl,?_⟩
  walk_at "wps"
  refine Opt.mk (zdm (B'.L k b y hb hy) (by rw[zac];exact zar hyl (by decide))) ?_
  rw[show y.map fl++[.tup [.int h,.int l]]=(y++[(l,h)]).map fl by rw[zat];rfl]
  have B2:=B'.putL (y:=y++[(l,h)]) hb
  walk_at "wps"
  refine Opt.mk (zeo B2.R (gR hl)) ?_
  walk_at "wps"
  refine Opt.mk zno ?_
  walk_at "wps"
  refine Opt.mk (zpt B2.R (hrl▸hl)) ?_
  have B3:=B2.putR (read':=read.set l (max (g0 read l) k))
  walk_at "wps"
  refine Opt.mk (zpt (x:=k+1) B3.D hh) ?_
  have B4:=B3.putD (done':=done.set h (k+1))
  refine hq bs' _ ⟨?_,((st.set ?_).set (.inl (zai _ (zai _ zae)))).set (.inl (zai _ zae)),hnew⟩
  ·rw[hat]
   have e2:(zm6 (k+1) lays).set k (y++[(l,h)])=zlt lays k (l,h):=by
    rw[zlt,zas,hy];rfl
   rw[<- e2];exact B4
  ·exact(hnew b (zax hb)).imp (fun h1=>zai _ (zai _ (zai _ h1))) id
end
end Bn
namespace Bn
open PySem
theorem Stay.trans{S S':List Nat}{H H' H'':Hp}(h:Stay S H H')(h':Stay S' H' H'')(hs:∀x∈S',x∈S\/H.length<=x):Stay S H H'':=
 ⟨zab h.len h'.len,fun x hx hn=>(h'.same x (zay hx h.len) fun hm=>(hs x hm).elim hn fun hl=>Nat.not_lt.mpr hl hx).trans (h.same x hx hn)⟩
structure KeptB(H:Hp)(f dn rd:Nat)(bs:List Nat)(X:List Nat)(s:PS)(bs':List Nat)(H':Hp):Prop where
 build:Build H' f dn rd bs' s.lays s.done s.read
 stay:Stay (X++f::dn::rd::bs) H H'
 new:∀b∈bs',b∈bs\/H.length<=b
theorem mem4{P:Nat->Prop}{f dn rd:Nat}{bs:List Nat}(h1:P f)(h2:P dn)(h3:P rd)(h4:∀b∈bs,P b):∀x∈f::dn::rd::bs,P x:=
 za7.mpr ⟨h1,za7.mpr ⟨h2,za7.mpr ⟨h3,h4⟩⟩⟩
theorem m1{f dn rd:Nat}{bs:List Nat}:f∈f::dn::rd::bs:=zae
theorem m2{f dn rd:Nat}{bs:List Nat}:dn∈f::dn::rd::bs:=zai _ zae
theorem m3{f dn rd:Nat}{bs:List Nat}:rd∈f::dn::rd::bs:=zai _ (zai _ zae)
theorem m4{f dn rd x:Nat}{bs:List Nat}(h:x∈bs):x∈f::dn::rd::bs:=zai _ (zai _ (zai _ h))
theorem not4{f dn rd x:Nat}{bs:List Nat}(h1:x≠f)(h2:x≠dn)(h3:x≠rd)(h4:x∉bs):x∉f::dn::rd::bs:=fun hm=>by
 rcases zal.mp hm with h |hm
 ·exact h1 h
 rcases zal.mp hm with h |hm
 ·exact h2 h
 rcases zal.mp hm with h |hm
 ·exact h3 h
 exact h4 hm
section
variable {c:Cx}{q:Bool}{d:Nat}{Q:V->Hp->Prop}{E:XPost}{H:Hp}
theorem s_put(P:Has c "_law_place" 5 6 zc4){f dn rd:Nat}{bs bs0 X:List Nat}{s:PS}{js:List (Nat×Nat)}{n l h:Nat}{H0:Hp}(K:KeptB H0 f dn rd bs0 X s bs H)(L:Laid n s js)(hn:n<=64)(hz:s.lays.length<900)(hlh:l<h)(hhn:h<n)(hc:q=true)
  (hq:∀bs' H',KeptB H0 f dn rd bs0 X (s.put (l,h)) bs' H'->Stay (f::dn::rd::bs) H H'->(∀b∈bs',b∈bs\/H.length<=b)->Q .none H') :
  Calls c q (d+1) "_law_place" [.lst f,.int l,.int h,.lst dn,.lst rd] none Q E H:=by
 have dl:=L.dl;have rl:=L.rl
 refine s_place P K.build (dl▸zar hlh hhn) (dl▸hhn) (rl.trans dl.symm) hc ?_ (zar hz (by decide)) (fun y hy=>zaw (zab (L.wide y hy) hn) (by decide)) ?_
 ·exact zaw (L.at_le l h) (zar hz (by decide))
 ·intro bs' H' Pl
  exact hq bs' H' ⟨Pl.build,K.stay.trans Pl.stay (mem4 (.inl (zbz _ m1)) (.inl (zbz _ m2)) (.inl (zbz _ m3)) fun b hb=>(K.new b hb).imp (fun h=>zbz _ (m4 h)) id),
   fun b hb=>(Pl.new b hb).elim (K.new b) fun h=>.inr (zab K.stay.len h)⟩ Pl.stay Pl.new
noncomputable def zhq(cell:Int)(k:Nat):Bool:=decide (cell/(1+k)%4>0)
theorem Stay.at{S:List Nat}{H H':Hp}(h:Stay S H H'){x:Nat}{y:List V}(hx:H[x]?=some y)(hn:x∉S):H'[x]?=some y:=(h.same x (zcl hx) hn).trans hx
end
end Bn
namespace Bn
open PySem
structure EqP{α:Type} [DecidableEq α](f:α->PyData):Prop where
 eq:∀a b,PyData.eqv (f a) (f b)=decide (a=b)
 lay:∀a,PyData.canLay0 (f a)=true
theorem and_dec{α:Type} [DecidableEq α]{x y:α}{xs ys:List α}:(decide (x=y)&&decide (xs=ys))=decide (x::xs=y::ys):=by
 rw[<- Bool.decide_and]
 exact decide_eq_decide.mpr (List.cons.injEq ..).symm.to_iff
theorem EqP.all{α:Type} [DecidableEq α]{f:α->PyData}(h:EqP f):∀xs ys:List α,PyData.eqvAll (xs.map f) (ys.map f)=decide (xs=ys)
 |[],[]=>rfl
 |[],_::_=>rfl
 |_::_,[]=>rfl
 |x::xs,y::ys=>by
  refine(show _=(PyData.eqv (f x) (f y)&&PyData.eqvAll (xs.map f) (ys.map f)) from rfl).trans ?_
  rw[h.eq,h.all xs ys,and_dec]
theorem EqP.layAll{α:Type} [DecidableEq α]{f:α->PyData}(h:EqP f):∀xs:List α,PyData.canLayAll0 (xs.map f)=true
 |[]=>rfl
 |x::xs=>zag.mpr ⟨h.lay x,h.layAll xs⟩
noncomputable def zou{α:Type}(f:α->PyData)(xs:List α):PyData:=.list (xs.map f)
theorem EqP.list{α:Type} [DecidableEq α]{f:α->PyData}(h:EqP f):EqP (zou f):=⟨h.all,h.layAll⟩
noncomputable def tupP{α:Type}(f:α->PyData)(xs:List α):PyData:=.tuple (xs.map f)
theorem EqP.tup{α:Type} [DecidableEq α]{f:α->PyData}(h:EqP f):EqP (tupP f):=⟨h.all,h.layAll⟩
noncomputable def natP(n:Nat):PyData:=.int n
theorem zku{a b:Nat}:decide ((a:Int)=b)=decide (a=b):=decide_eq_decide.mpr zbs
theorem eqP_nat:EqP natP:=⟨fun _ _=>zku,fun _=>rfl⟩
noncomputable def zrn(p:Nat×Nat):PyData:=.tuple [.int p.1,.int p.2]
theorem eqP_joint:EqP zrn:=⟨fun a b=>by
 refine(show _=(decide ((a.1:Int)=b.1)&&(decide ((a.2:Int)=b.2)&&true)) from rfl).trans ?_
 rw[zku,zku,Bool.and_true,<-Bool.decide_and]
 exact decide_eq_decide.mpr Prod.ext_iff.symm,fun _=>rfl⟩
theorem zqs{α:Type}{g:α->V}{f:α->PyData}{F:V->Option PyData}:∀{xs:List α},(∀x∈xs,F (g x)=some (f x))->mapO F (xs.map g)=some (xs.map f)
 |[],_=>rfl
 |x::r,h=>by
  show(F (g x)).bind _=_
  rw[h x zae]
  show(mapO F (r.map g)).map _=_
  rw[zqs fun y hy=>h y (zai _ hy)];rfl
theorem mapO_idx{β:Type}{f:β->PyData}{F:V->Option PyData}:∀{bs:List V}{ys:List β},bs.length=ys.length->(∀(i:Nat) b y,bs[i]?=some b->ys[i]?=some y->F b=some (f y))->mapO F bs=some (ys.map f)
 :=by
 intro bs
 induction bs with
 |nil=>exact fun h _=>by rw[zbw.mp h.symm];rfl
 |cons b bs ih=>
  intro ys h hh
  cases ys with
  |nil=>exact nomatch h
  |cons y ys=>
  show(F b).bind _=_
  rw[hh 0 b y rfl rfl]
  show(mapO F bs).map _=_
  rw[ih (Nat.succ.inj h) fun i b y h1 h2=>hh (i+1) b y h1 h2];rfl
section
variable {H:Hp}
theorem zoa{n a:Nat}{xs:List V}{ys:List PyData}(ha:H[a]?=some xs)(h:mapO (toP n H) xs=some ys):toP (n+1) H (.lst a)=some (.list ys):=by
 show((H[a]?).bind _).map _=_
 rw[ha]
 show(mapO (toP n H) xs).map _=_
 rw[h];rfl
theorem zhs{n a:Nat}{α:Type}{g:α->V}{f:α->PyData}{xs:List α}(ha:H[a]?=some (xs.map g))(h:∀x∈xs,toP n H (g x)=some (f x)):toP (n+1) H (.lst a)=some (zou f xs):=zoa ha (zqs h)
theorem zvg{n a:Nat}{β:Type}{f:β->PyData}{bs:List V}{ys:List β}(ha:H[a]?=some bs)(hl:bs.length=ys.length)(h:∀(i:Nat) b y,bs[i]?=some b->ys[i]?=some y->toP n H b=some (f y)):toP (n+1) H (.lst a)=some (zou f ys):=zoa ha (mapO_idx hl h)
theorem toP_nat{n:Nat}(x:Nat):toP n H (nat x)=some (natP x):=by cases n<;>rfl
theorem toP_pr{n:Nat}(p:Nat×Nat):toP (n+1) H (pr p)=some (zrn p):=by cases n<;>rfl
theorem zwi{n a:Nat}{xs:List Nat}(ha:H[a]?=some (xs.map nat)):toP (n+1) H (.lst a)=some (zou natP xs):=zhs ha fun x _=>toP_nat x
theorem zxc{n a:Nat}{y:List (Nat×Nat)}(ha:H[a]?=some (y.map pr)):toP (n+2) H (.lst a)=some (zou zrn y):=zhs ha fun x _=>toP_pr x
theorem zt9{n a:Nat}{bs:List Nat}{net:Net}(N:NetAt H a bs net):toP (n+3) H (.lst a)=some (zou (zou zrn) net):=by
 refine zvg N.top (zac .. |>.trans N.len) fun i b y h1 h2=>?_
 rw[zan] at h1
 obtain⟨b',hb,rfl⟩:=zaj.mp h1
 exact zxc (N.lay i b' y hb h2)
theorem zw4{v w:V}{α:Type} [DecidableEq α]{f:α->PyData}(h:EqP f){x y:α}(h1:toP 9 H v=some (f x))(h2:toP 9 H w=some (f y)):eqV H v w=some (decide (x=y)):=by
 show(toP 9 H v).bind _=_
 rw[h1]
 show(toP 9 H w).bind _=_
 rw[h2,<-h.eq]
 exact if_pos (zag.mpr ⟨h.lay x,h.lay y⟩)
theorem eq_row{a b:Nat}{xs ys:List Nat}(ha:H[a]?=some (xs.map nat))(hb:H[b]?=some (ys.map nat)):eqV H (.lst a) (.lst b)=some (decide (xs=ys)):=zw4 eqP_nat.list (zwi ha) (zwi hb)
theorem zum{a b:Nat}{bs cs:List Nat}{xs ys:Net}(ha:NetAt H a bs xs)(hb:NetAt H b cs ys):eqV H (.lst a) (.lst b)=some (decide (xs=ys)):=zw4 eqP_joint.list.list (zt9 ha) (zt9 hb)
theorem zu8{v w:V}{b:Bool}(h:eqV H v w=some b):cmpV H .eq v w=some b:=h
theorem zlz{v w:V}{b:Bool}(h:eqV H v w=some b):cmpV H .ne v w=some (!b):=by
 show(eqV H v w).map _=_
 rw[h];rfl
end
end Bn
namespace Bn
open PySem
section
variable {c:Cx}{q:Bool}{d:Nat}{Q:V->Hp->Prop}{E:XPost}{H:Hp}
theorem Build.below{f dn rd:Nat}{bs:List Nat}{lays:Net}{done read:List Nat}(B:Build H f dn rd bs lays done read):∀b∈f::dn::rd::bs,b<H.length:=mem4 (zc7 B.F) (zc7 B.D) (zc7 B.R) fun _ h=>B.ltm h
theorem Build.keep{f dn rd:Nat}{bs:List Nat}{lays:Net}{done read:List Nat}(B:Build H f dn rd bs lays done read){H':Hp}(h:∀x∈f::dn::rd::bs,H'[x]?=H[x]?):Build H' f dn rd bs lays done read:=
 ⟨(h f m1).trans B.F,B.len,fun i b y hb hy=>(h b (m4 (zax hb))).trans (B.L i b y hb hy),(h dn m2).trans B.D,(h rd m3).trans B.R,B.ap⟩
theorem KeptB.set{H0:Hp}{f dn rd:Nat}{bs bs0 X:List Nat}{s:PS}(K:KeptB H0 f dn rd bs0 X s bs H){a:Nat}{xs:List V}(hn:a∉f::dn::rd::bs)(hx:a∈X\/H0.length<=a):KeptB H0 f dn rd bs0 X s bs (H.set a xs):=
 ⟨K.build.keep fun x hx=>zb1 fun e:a=x=>hn (e▸hx),K.stay.set (hx.imp (List.mem_append_left _) id),K.new⟩
theorem KeptB.app{H0:Hp}{f dn rd:Nat}{bs bs0 X:List Nat}{s:PS}(K:KeptB H0 f dn rd bs0 X s bs H){xs:List V}:KeptB H0 f dn rd bs0 X s bs (H++[xs]):=
 ⟨K.build.keep fun x hx=>zbu (K.build.below x hx),K.stay.app,K.new⟩
end
structure ThinSt(H:Hp)(f dn rd lf la fw:Nat)(bs:List Nat)(s:PS)(left:List (Nat×Nat))(act:List Nat)(fwx:List Nat)(H0:Hp)(bs0:List Nat):Prop where
 kept:KeptB H0 f dn rd bs0 [lf] s bs H
 hact:H[la]?=some (act.map nat)
 hleft:H[lf]?=some (left.map pr)
 hfw:H[fw]?=some (fwx.map nat)
 nla:la∉f::dn::rd::bs
 nlf:lf∉f::dn::rd::bs
 nfw:fw∉f::dn::rd::bs
 d1:la≠lf
 d2:la≠fw
 d3:lf≠fw
 new:H0.length<=fw
section
variable {c:Cx}{q:Bool}{d:Nat}{Q:V->Hp->Prop}{E:XPost}{H:Hp}{f dn rd lf la fw:Nat}{bs bs':List Nat}{s s':PS}{left:List (Nat×Nat)}{act fwx:List Nat}{H0 H':Hp}{bs0:List Nat}
theorem ThinSt.push(T:ThinSt H f dn rd lf la fw bs s left act fwx H0 bs0){x:Nat}:ThinSt (H.set fw (fwx.map nat++[.int x])) f dn rd lf la fw bs s left act (fwx++[x]) H0 bs0:=
 ⟨T.kept.set T.nfw (.inr T.new),zc0 T.hact T.d2,zc0 T.hleft T.d3,(by rw[zat];exact zff T.hfw),T.nla,T.nlf,T.nfw,T.d1,T.d2,T.d3,T.new⟩
theorem ThinSt.leave(T:ThinSt H f dn rd lf la fw bs s left act fwx H0 bs0){p:Nat×Nat}:ThinSt (H.set lf (left.map pr++[pr p])) f dn rd lf la fw bs s (left++[p]) act fwx H0 bs0:=
 ⟨T.kept.set T.nlf (.inl zae),zc0 T.hact T.d1,(by rw[zat];exact zff T.hleft),zc0 T.hfw (Ne.symm T.d3),T.nla,T.nlf,T.nfw,T.d1,T.d2,T.d3,T.new⟩
theorem ThinSt.more(T:ThinSt H f dn rd lf la fw bs s left act fwx H0 bs0){xs:List V}:ThinSt (H++[xs]) f dn rd lf la fw bs s left act fwx H0 bs0:=
 ⟨T.kept.app,zee T.hact,zee T.hleft,zee T.hfw,T.nla,T.nlf,T.nfw,T.d1,T.d2,T.d3,T.new⟩
theorem out4{x:Nat}(hx:x<H.length)(hn:x∉f::dn::rd::bs)(hnew:∀b∈bs',b∈bs\/H.length<=b):x∉f::dn::rd::bs':=
 not4 (fun e=>hn (e▸m1)) (fun e=>hn (e▸m2)) (fun e=>hn (e▸m3)) fun h=>(hnew x h).elim (fun h=>hn (m4 h)) fun h=>Nat.not_lt.mpr h hx
theorem ThinSt.place(T:ThinSt H f dn rd lf la fw bs s left act fwx H0 bs0)(K:KeptB H0 f dn rd bs0 [lf] s' bs' H')(st:Stay (f::dn::rd::bs) H H')(hnew:∀b∈bs',b∈bs\/H.length<=b):ThinSt H' f dn rd lf la fw bs' s' left act fwx H0 bs0:=
 ⟨K,st.at T.hact T.nla,st.at T.hleft T.nlf,st.at T.hfw T.nfw,out4 (zc7 T.hact) T.nla hnew,out4 (zc7 T.hleft) T.nlf hnew,out4 (zc7 T.hfw) T.nfw hnew,T.d1,T.d2,T.d3,T.new⟩
inductive ThinInv(H:Hp)(f dn rd la lf:Nat)(bs:List Nat)(s:PS)(left:List (Nat×Nat))(act:List Nat)(cell:Int)(m:Nat):Loc->Hp->Prop
 |mk (k sp:Nat)(pl lfx:List (Nat×Nat))(fwx bs':List Nat)(H':Hp)(hmk:m+k=act.length)
   (hth:thin (zhq cell) 0 0 act=(pl++(thin (zhq cell) k sp (act.drop k)).1,lfx++(thin (zhq cell) k sp (act.drop k)).2.1,fwx++(thin (zhq cell) k sp (act.drop k)).2.2))
   (hf0:fwx=[]->sp=0) (hf1:fwx≠[]->fwx.getLast?=some (sp-1)/\sp≠0) (hll:lfx.length<=k) (hpl:pl.length<=k) (hfl:fwx.length<=k)
   (T:ThinSt H' f dn rd lf la H.length bs' (s.puts pl) (left++lfx) act fwx H bs) :
   ThinInv H f dn rd la lf bs s left act cell m [some (.lst f),some (.lst la),some (.int cell),some (.lst dn),some (.lst rd),some (.lst lf),some (.lst H.length),some (.int (k:Nat))] H'
theorem zwq{m n k m':Nat}(hm:m=n-k)(hlt:k<n)(h:m<=m'):m-1<m'/\m-1+(k+1)=n:=by exact Ar.ar3 [_,_,_,_] [] 0x31868214a000c20500610000000d04294a000c20700610280308020000a5294001840b00c20400610100308000284000944118463294a50008102403080c01840400c20080a100025104611a08528003081201840000003410a5294a50008103003081a01840e00c20500810180308020000a528003081801840800c20000a10002510461 (Y6 (Y1 (Y2 V0 J1) V1) (Y2 (Y0 (Y2 V0 J1) (Y0 V2 J1)) V3)) (Y2 V0 (Y2 V3 V2)) (Y1 V2 V3) (Y0 V0 V1) hm hlt h
theorem zh8{cell:Int}{m kk x:Nat}{pl lfx:List (Nat×Nat)}{H3:Hp}{Qx:SPost}{Ex:SX}(hm:m=act.length-kk)(hx:act[kk]?=some x)
  (hth:thin (zhq cell) 0 0 act=(pl++(thin (zhq cell) (kk+1) (x+1) (act.drop (kk+1))).1,lfx++(thin (zhq cell) (kk+1) (x+1) (act.drop (kk+1))).2.1,fwx++x::(thin (zhq cell) (kk+1) (x+1) (act.drop (kk+1))).2.2))
  (hll:lfx.length<=kk+1) (hpl:pl.length<=kk+1) (hfl:fwx.length<=kk) (hz:act.length<=64) (T:ThinSt H3 f dn rd lf la H.length bs' (s.puts pl) (left++lfx) act fwx H bs) {m':Nat} (hm':m<=m') :
  wpSs (Calls c) true d none [.expr (.meth .append (.var 6) [(.idx (.var 1) (.var 7))]),.set 7 (.bin .add (.var 7) (.lit (.int 1)))] (Then (fun l' H''=>∃m,m<m'/\ThinInv H f dn rd la lf bs s left act cell m l' H'') Qx) Ex
   [some (.lst f),some (.lst la),some (.int cell),some (.lst dn),some (.lst rd),some (.lst lf),some (.lst H.length),some (.int (kk:Nat))] H3:=by
 have hlt:=zcl hx
 refine Ss_go ?_
 walk_at "wps"
 refine⟨rfl,?_⟩
 walk_at "wps"
 refine Opt.mk (zeo T.hact hx) ?_
 walk_at "wps"
 refine Opt.mk (zdm T.hfw (by rw[zac];exact zaw hfl (zay hlt (zab hz (by decide))))) ?_
 walk_at "wps"
 have hts:=zwq hm hlt hm'
 refine⟨m-1,hts.1,.mk (kk+1) (x+1) pl lfx (fwx++[x]) bs' _ hts.2 (hth.trans (by rw[zbd];rfl)) (fun h=>absurd h (List.append_ne_nil_of_right_ne_nil _ (List.cons_ne_nil _ _)))
  (fun _=>⟨List.getLast?_concat,Nat.succ_ne_zero _⟩) hll hpl (by rw[zao];exact zb3 hfl) T.push⟩
theorem zu5(P:Has c "_law_thinner" 6 8 zei)(PP:Has c "_law_place" 5 6 zc4){js:List (Nat×Nat)}{n:Nat}{cell:Int}
  (B:Build H f dn rd bs s.lays s.done s.read) (L:Laid n s js) (hn:n<=64) (ha:H[la]?=some (act.map nat)) (hlf:H[lf]?=some (left.map pr)) (nla:la∉f::dn::rd::bs) (nlf:lf∉f::dn::rd::bs) (hal:la≠lf)
  (hlt:∀p∈(thin (zhq cell) 0 0 act).1,p.1<p.2/\p.2<n) (hz:act.length<=64) (hlz:left.length+act.length<=200) (hsz:s.lays.length<=800) (hc:q=true)
  (hq:∀bs' H' fw,ThinSt H' f dn rd lf la fw bs' (s.puts (thin (zhq cell) 0 0 act).1) (left++(thin (zhq cell) 0 0 act).2.1) act (thin (zhq cell) 0 0 act).2.2 H bs->Q (.lst fw) H') :
  Calls c q (d+2) "_law_thinner" [.lst f,.lst la,.int cell,.lst dn,.lst rd,.lst lf] none Q E H:=by
 subst hc
 refine P true (d+1) _ Q E H rfl (Ss_go ?_)
 walk_at "wps"
 have hbs:=B.below
 have n0:H.length∉f::dn::rd::bs:=fun h=>zbb _ (hbs _ h)
 refine⟨rfl,.mk (ThinInv H f dn rd la lf bs s left act cell) act.length (.mk 0 0 [] [] [] bs _ (Nat.add_zero _) rfl (fun _=>rfl) (fun h=>absurd rfl h) (zaf _) (zaf _) (zaf _)
  ⟨⟨B.keep fun x hx=>zbu (hbs x hx),Stay.refl.app,fun b hb=>.inl hb⟩,zee ha,(by rw[za9];exact zee hlf),zcf,nla,nlf,n0,hal,za3 (zc7 ha),za3 (zc7 hlf),zaf _⟩) ?_⟩
 intro m l' H' hI
 obtain⟨k,sp,pl,lfx,fwx,bs',_,hmk,hth,hf0,hf1,hll,hpl,hfl,T⟩:=hI
 walk_at "wps"
 refine Opt.mk (zdk T.hact) ?_
 walk_at "wps"
 rw[zac]
 refine zci (fun hk=>?_) (fun hk=>?_)
 ·have hk:=zaq.mp hk
  have hx:=zam hk
  have hm0:act.length-k<=m:=Nat.sub_le_of_le_add (zbc hmk.symm)
  have hm1:act.length-(k+1)<=m:=zab (Nat.sub_le_sub_left (Nat.le_succ k) _) hm0
  have hdr:=zb8 hk
  generalize act[k]=x at hx hdr
  refine Ss_go ?_
  walk_at "wps"
  refine Opt.mk (zdk T.hact) ?_
  walk_at "wps"
  rw[zac]
  refine zci (fun hk1=>?_) (fun hk1=>?_)
  ·have hk1:k+1<act.length:=zaq.mp hk1
   have hy:=zam hk1
   have hdr2:=zb8 hk1
   generalize act[k+1]=y at hy hdr2
   walk_at "wps"
   refine zdv pos1 ?_
   walk_at "wps"
   refine zcn (by decide) ?_
   walk_at "wps"
   refine zci (fun hcn=>?_) (fun hcn=>?_)
   ·have hct:zhq cell k=true:=decide_eq_true hcn
    refine Ss_go ?_
    walk_at "wps"
    refine Opt.mk (zeo T.hact hx) ?_
    walk_at "wps"
    refine Opt.mk (zeo (i:=k+1) T.hact hy) ?_
    walk_at "wps"
    rw[hdr,hdr2,znb,if_pos hct] at hth
    have hplt:∀p∈pl,p.1<p.2/\p.2<n:=fun p hp=>hlt p (by rw[hth];exact List.mem_append_left _ hp)
    have hxy:=hlt (x,y) (by rw[hth];exact zbz _ zae)
    have hpz:=zgz L hplt
    refine s_put PP T.kept (L.puts hplt) hn (lt900 hpz hsz (zab hpl (zab (zav hk) hz))) hxy.1 hxy.2 rfl fun bs'' H'' K'' st'' new''=>?_
    have T1:=T.place K'' st'' new''
    rw[show(s.puts pl).put (x,y)=s.puts (pl++[(x,y)]) by rw[PS.puts_append];rfl] at T1
    have T2:=T1.more (xs:=[])
    refine Then_go (Ss_go ?_)
    walk_at "wps"
    refine Opt.mk (zlz (eq_row T2.hfw (ys:=[]) zcf)) ?_
    have hpl':(pl++[(x,y)]).length<=k+1+1:=by rw[zao];exact zbk (zb3 hpl)
    refine zh7 (fun hfw=>?_) (fun hfw=>?_)
    ·obtain⟨hlast,hs0⟩:=hf1 hfw
     refine Ss_go ?_
     walk_at "wps"
     refine⟨rfl,?_⟩
     walk_at "wps"
     refine Opt.mk (zr9 T2.hfw (by rw[List.getLast?_map,hlast];rfl)) ?_
     walk_at "wps"
     refine Opt.mk (zeo T2.hact hx) ?_
     walk_at "wps"
     refine Opt.mk (zdm T2.hleft (by rw[zac,zao];exact zaw (Nat.add_le_add_left (zab hll (zav hk)) _) (zaw hlz (by decide)))) ?_
     have T3:=T2.leave (p:=(sp-1,x))
     rw[zbd] at T3
     walk_at "wps"
     refine zh8 (kk:=k+1) rfl hy ?_ (by rw[zao];exact zbk (zb3 hll)) hpl' (zbk hfl) hz T3 hm1
     rw[hth,if_neg hs0,zbd,zbd];rfl
    ·have hs0:=hf0 hfw
     walk_at "wps"
     refine zh8 (kk:=k+1) rfl hy ?_ (zab hll (za8 _ 2)) hpl' (zbk hfl) hz T2 hm1
     rw[hth,hs0,zbd];rfl
   ·have hct:¬zhq cell k=true:=fun h=>hcn (of_decide_eq_true h)
    walk_at "wps"
    refine zh8 rfl hx ?_ (zbk hll) (zbk hpl) hfl hz T hm0
    rw[hth,hdr,hdr2,znb,if_neg hct]
  ·have hk1:¬k+1<act.length:=fun h=>hk1 (zaq.mpr h)
   walk_at "wps"
   refine zh8 rfl hx ?_ (zbk hll) (zbk hpl) hfl hz T hm0
   rw[hth,hdr,List.drop_eq_nil_of_le (zba hk1)]
   rfl
 ·have hk:=zba fun h=>hk (zaq.mpr h)
  walk_at "wps"
  rw[List.drop_eq_nil_of_le hk] at hth
  have hth:_=(pl,lfx,fwx):=hth.trans (by rw[thin_nil,za9,za9,za9])
  rw[hth] at hq
  exact hq bs' _ _ T
end
end Bn
namespace Bn
open PySem
section
variable {c:Cx}{q:Bool}{d:Nat}{Q:V->Hp->Prop}{E:XPost}{H:Hp}
theorem zdt{a b:Int}{K:V×Hp->Prop}(hb:small b=true)(h:K (.int (a*b),H)):Opt (binV H .mul (.int a) (.int b)) K:=
 Opt.mk (if_pos (by rw[hb,Bool.or_true])) h
theorem zdn(n:Nat):zdw 0 (n:Int) 1=(List.range n).map nat:=by
 have:(if 0<(1:Int)/\0<(n:Int) then(((n:Int)-0-1)/1+1).toNat else 0)=n:=by
  split<;>(first |exact Ar.ar2 [_,_] [_,_] 0x1904294001840300c2008000210a5294001840500c202006100803080000808041084294a50006101c04080801840200c200806010080210a529400184050102020081008030802008080 (Y2 V0 V1) (Y7 (Y5 (Y4 V0 J0) (Y0 V0 J1)) (Y6 (Y3 (Y0 V0 J1) J0) (Y2 V0 J0))) (Y6 (Y5 (Y0 (Y1 J1 V0) V1) (Y2 (Y2 (Y4 V1 J0) J0) J1)) (Y6 (Y3 J0 V1) (Y4 V1 J1))) (Ar.tn _) (Ar.zd _ (k:=1) (by decide)) |exact Ar.ar1 [_] [] 0x3140018400020a50006100403080002800308000 (Y2 J0 V0) (Y8 (Y6 (Y4 J0 J1) (Y4 J0 (Y4 V0 J0))) J0) (by assumption))
 rw[zdw,this]
 refine zby fun i _=>?_
 rw[Int.mul_one,Int.zero_add];rfl
theorem zcv{n:Nat}(h:n<100000):onQ true (bltV H .range [.int n])=some (.rng 0 n 1,H):=if_pos (show(n:Int).natAbs<2^31 by exact Ar.ar1 [_] [] 0xa5000610000308020 (Y1 V0 (.l 2147483648)) (Y1 V0 (.l 100000)) h)
theorem ziv{n:Nat}(h:n<100000):onQ true (bltV H .list [.rng 0 n 1])=some (.lst H.length,H++[(List.range n).map nat]):=by
 rw[<- zdn]
 exact if_pos (by rw[zdn,zac,zap];exact zav (zar h (by decide)))
theorem zgs{a:Nat}{xs:List V}(h:H[a]?=some xs):onQ true (bltV H .list [.lst a])=some (.lst H.length,H++[xs]):=by
 show(H[a]?).map _=_
 rw[h];rfl
theorem zu1{α:Type}(x:α):∀n,rep [x] n=List.replicate n x
 |0=>rfl
 |n+1=>congrArg (x::·) (zu1 x n)
theorem mul_zero{a n:Nat}(h:H[a]?=some [V.int 0])(hn:n<100000):binV H .mul (.lst a) (.int n)=some (.lst H.length,H++[(List.replicate n 0).map nat]):=by
 show(H[a]?).bind _=_
 rw[h]
 have h2:(n:Int).toNat*[V.int 0].length<=sizeLine:=by
  rw[Int.toNat_natCast]
  exact zab (zbc (Nat.mul_one n)) (zav (zar hn (by decide)))
 refine(if_pos ⟨zbf n,zaz.mpr (zab (zav hn) (by decide)),h2⟩).trans ?_
 ·rw[Int.toNat_natCast,zu1,List.map_replicate];rfl
theorem zef{a b:Nat}{xs ys:List V}(ha:H[a]?=some xs)(hb:H[b]?=some ys)(hz:xs.length+ys.length<100000):binV H .add (.lst a) (.lst b)=some (.lst H.length,H++[xs++ys]):=by
 show(H[a]?).bind _=_
 rw[ha]
 show(H[b]?).bind _=_
 rw[hb]
 exact if_pos (zav (zar hz (by decide)))
theorem znx{i n:Nat}:zkb (i:Int) n=min i n:=by
 rw[zkb,if_neg (Int.not_lt.mpr (zbf i)),Int.toNat_natCast]
theorem zh9{a i:Nat}{xs:List V}(ha:H[a]?=some xs):zo5 H (.lst a) .none (.int i)=some (.lst H.length,H++[xs.take i]):=by
 show(H[a]?).bind _=_
 rw[ha,List.take_eq_take_min,<-znx];rfl
theorem zg4{a i:Nat}{xs:List V}(ha:H[a]?=some xs):zo5 H (.lst a) (.int i) .none=some (.lst H.length,H++[xs.drop i]):=by
 show(H[a]?).bind _=_
 rw[ha]
 show some (V.lst H.length,H++[(xs.drop (zkb i xs.length)).take (xs.length-zkb i xs.length)])=_
 rw[znx,List.take_of_length_le (by rw[zbr];exact zaf _)]
 by_cases h:i<=xs.length
 ·rw[Nat.min_eq_left h]
 ·have h:=Nat.le_of_not_le h
  rw[Nat.min_eq_right h,List.drop_of_length_le (zaf _),List.drop_of_length_le h]
end
structure Rows(H H':Hp)(cs:List Nat)(ys:List (List V)):Prop where
 st:Stay [] H H'
 len:cs.length=ys.length
 hold:∀(i b:Nat) (y:List V),cs[i]?=some b->ys[i]?=some y->H'[b]?=some y
 fr:∀b∈cs,H.length<=b/\b<H'.length
 nd:cs.Nodup
theorem Rows.nil{H:Hp}:Rows H H [] []:=⟨Stay.refl,rfl,(fun _ _ _ h=>nomatch h),(fun _ h=>nomatch h),List.nodup_nil⟩
theorem at0{H H':Hp}(st:Stay [] H H'){a:Nat}{xs:List V}(h:H[a]?=some xs):H'[a]?=some xs:=st.at h zbo
theorem Stay.trans0{H H' H'':Hp}(h:Stay [] H H')(h':Stay [] H' H''):Stay [] H H'':=h.trans h' fun _ m=>nomatch m
theorem Rows.snoc{H H' H'':Hp}{cs:List Nat}{ys:List (List V)}{b:Nat}{y:List V}(R:Rows H H' cs ys)(st:Stay [] H' H'')(hb:H''[b]?=some y)(hn:H'.length<=b):Rows H H'' (cs++[b]) (ys++[y]):=by
 refine⟨R.st.trans0 st,?_,fun i b' y' h1 h2=>?_,fun b' hb'=>?_,?_⟩
 ·rw[zao,zao,R.len];rfl
 ·rcases zeg h1 with h1 |⟨e,rfl⟩
  ·rcases zeg h2 with h2 |⟨e,rfl⟩
   ·exact at0 st (R.hold i b' y' h1 h2)
   ·exact absurd (zcl h1) (by rw[e,R.len];exact zbb _)
  ·rcases zeg h2 with h2 |⟨_,rfl⟩
   ·exact absurd (zcl h2) (by rw[e,R.len];exact zbb _)
   ·exact hb
 ·rcases zau.mp hb' with h |h
  ·exact⟨(R.fr b' h).1,zay (R.fr b' h).2 st.len⟩
  ·rw[zah.mp h];exact⟨zab R.st.len hn,zc7 hb⟩
 ·refine List.nodup_append.mpr ⟨R.nd,zb5.mpr ⟨zbo,List.nodup_nil⟩,fun x hx z hz=>?_⟩
  rw[zah.mp hz]
  exact za3 (zay (R.fr x hx).2 hn)
theorem zd1{ok:Hp->Prop}{f:V->List V->(List V->Hp->Prop)->Hp->Prop}{items:List V}{Q:List V->Hp->Prop}{H:Hp}(ys:List (List V))(hlen:items.length=ys.length)
  (step:∀(i:Nat) x y acc H' (K:List V->Hp->Prop),items[i]?=some x->ys[i]?=some y->Stay [] H H'->(∀b H'',Stay [] H' H''->H''[b]?=some y->H'.length<=b->K (acc++[.lst b]) H'')->f x acc K H')
  (hok:∀H',Stay [] H H'->ok H') (hend:∀cs H',Rows H H' cs ys->Q (cs.map .lst) H'):zey ok f items [] Q H:=by
 refine zea (I:=fun i acc H'=>∃cs,acc=cs.map V.lst/\Rows H H' cs (ys.take i)) (fun i x acc H' K hx hI hK=>?_) (fun acc H' hI=>?_) ⟨[],rfl,Rows.nil⟩
 ·obtain⟨cs,rfl,R⟩:=hI
  have hi:i<ys.length:=hlen▸zcl hx
  have hy:=zam hi
  refine step i x _ _ H' K hx hy R.st fun b H'' st hb hn=>?_
  have R':=R.snoc st hb hn
  refine hK _ _ (hok _ R'.st) ⟨cs++[b],by rw[zat];rfl,?_⟩
  rw[List.take_add_one,hy];exact R'
 ·obtain⟨cs,rfl,R⟩:=hI
  rw[hlen,List.take_length] at R
  exact hend cs H' R
theorem Rows.net{H H':Hp}{cs:List Nat}{net:Net}(R:Rows H H' cs (net.map fun y=>y.map pr)):NetAt (H'++[cs.map .lst]) H'.length cs net:=
 ⟨zcf,R.len.trans (zac ..),fun i b y h1 h2=>zee (R.hold i b _ h1 (by rw[zan,h2];rfl))⟩
end Bn
namespace Bn
open PySem
structure TelSt(H0 H:Hp)(f dn rd lf:Nat)(bs:List Nat)(s:PS)(left:List (Nat×Nat)):Prop where
 build:Build H f dn rd bs s.lays s.done s.read
 hleft:H[lf]?=some (left.map pr)
 nlf:lf∉f::dn::rd::bs
 stay:Stay [] H0 H
 fresh:∀b∈f::dn::rd::bs,H0.length<=b
 freshL:H0.length<=lf
structure GrAt(H:Hp)(g:Nat)(rs:List Nat)(gs:List (List Nat)):Prop where
 top:H[g]?=some (rs.map .lst)
 len:rs.length=gs.length
 gr:∀(i r:Nat) (y:List Nat),rs[i]?=some r->gs[i]?=some y->H[r]?=some (y.map nat)
section
variable {H H0 H':Hp}{f dn rd lf:Nat}{bs bs':List Nat}{s s':PS}{left left':List (Nat×Nat)}
theorem TelSt.freshB(T:TelSt H0 H f dn rd lf bs s left)(hnew:∀b∈bs',b∈bs\/H.length<=b):∀b∈f::dn::rd::bs',H0.length<=b:=
 mem4 (T.fresh _ m1) (T.fresh _ m2) (T.fresh _ m3) fun b hb=>(hnew b hb).elim (fun h=>T.fresh _ (m4 h)) fun h=>zab T.stay.len h
theorem TelSt.place(T:TelSt H0 H f dn rd lf bs s left)(B:Build H' f dn rd bs' s'.lays s'.done s'.read)(st:Stay (f::dn::rd::bs) H H')(hnew:∀b∈bs',b∈bs\/H.length<=b):TelSt H0 H' f dn rd lf bs' s' left:=
 ⟨B,st.at T.hleft T.nlf,out4 (zc7 T.hleft) T.nlf hnew,T.stay.trans st fun x hx=>.inr (T.fresh x hx),T.freshB hnew,T.freshL⟩
theorem TelSt.thin{la fw:Nat}{act fwx:List Nat}(T:TelSt H0 H f dn rd lf bs s left)(K:ThinSt H' f dn rd lf la fw bs' s' left' act fwx H bs):TelSt H0 H' f dn rd lf bs' s' left':=
 ⟨K.kept.build,K.hleft,K.nlf,T.stay.trans K.kept.stay fun x hx=>.inr ((zal.mp hx).elim (fun e=>e▸T.freshL) (T.fresh x)),T.freshB K.kept.new,T.freshL⟩
noncomputable def OffB(f dn rd:Nat)(bs rs:List Nat):Prop:=∀r∈rs,r∉f::dn::rd::bs
theorem GrAt.lt{g:Nat}{rs:List Nat}{gs:List (List Nat)}(G:GrAt H g rs gs):∀r∈rs,r<H.length:=by
 intro r hr
 obtain⟨i,hi,rfl⟩:=zca.mp hr
 exact zc7 (G.gr i _ _ (zam hi) (zam (G.len▸hi)))
theorem GrAt.stay{g:Nat}{rs:List Nat}{gs:List (List Nat)}(G:GrAt H g rs gs)(st:Stay (f::dn::rd::bs) H H')(ap:OffB f dn rd bs (g::rs)):GrAt H' g rs gs:=
 ⟨st.at G.top (ap g zae),G.len,fun i r y h1 h2=>st.at (G.gr i r y h1 h2) (ap r (zai _ (zax h1)))⟩
end
noncomputable def tel3:List St:=[.ret (.comp (.comp (.tup [(.var 15),(.var 14)]) (.two 14 15) (.blt .sorted [(.var 13)]) []) (.one 13) (.var 2) [])]
noncomputable def tel2:List St:=.loop (.two 12 10) (.rev (.var 3)) [.expr (.call "_law_place" [(.var 2),(.var 12),(.var 10),(.var 4),(.var 5)])]::tel3
noncomputable def telW:List St:=[.set 0 (.bin .mod (.bin .mul (.var 0) (.lit (.int 16807))) (.lit (.int 2147483647))),.set 9 (.idx (.list [(.bin .mod (.bin .div (.var 0) (.lit (.int 3))) (.bin .sub (.blt .len [(.var 8)]) (.lit (.int 1)))),(.lit (.int 0)),(.bin .sub (.blt .len [(.var 8)]) (.lit (.int 2)))]) (.bin .mod (.var 0) (.lit (.int 3)))),.loop (.one 10) (.val (.idx (.var 8) (.bin .add (.var 9) (.lit (.int 1))))) [.expr (.call "_law_place" [(.var 2),(.idx (.idx (.var 8) (.var 9)) (.neg (.lit (.int 1)))),(.var 10),(.var 4),(.var 5)])],.set 11 (.bin .add (.idx (.var 8) (.var 9)) (.idx (.var 8) (.bin .add (.var 9) (.lit (.int 1))))),.set 8 (.bin .add (.bin .add (.slice (.var 8) (.lit .none) (.var 9)) (.list [(.var 11)])) (.slice (.var 8) (.bin .add (.var 9) (.lit (.int 2))) (.lit .none)))]
noncomputable def tel1:List St:=.whil (.cmp (.blt .len [(.var 8)]) [.gt] [(.lit (.int 1))]) telW::tel2
noncomputable def tel0:List St:=.set 8 (.comp (.list [(.var 13)]) (.one 13) (.var 6) [])::tel1
noncomputable def telT:List St:=.loop (.one 7) (.val (.blt .range [(.bin .mod (.var 0) (.lit (.int 4)))])) [.set 6 (.call "_law_thinner" [(.var 2),(.var 6),(.bin .div (.bin .div (.var 0) (.lit (.int 4))) (.bin .add (.lit (.int 1)) (.var 7))),(.var 4),(.var 5),(.var 3)])]::tel0
theorem tel_eq:zfi=.set 0 (.bin .mod (.bin .mul (.var 0) (.lit (.int 48271))) (.lit (.int 2147483647)))::.set 2 (.list [])::.set 3 (.list [])::.set 4 (.bin .mul (.list [(.lit (.int 0))]) (.var 1))::.set 5 (.bin .mul (.list [(.lit (.int 0))]) (.var 1))::.set 6 (.blt .list [(.blt .range [(.var 1)])])::telT:=rfl
section
variable {c:Cx}{d:Nat}{R:SPost}{E:SX}{H H0:Hp}
noncomputable def sw(p:Nat×Nat):Int×Int:=(p.2,p.1)
theorem zrg:∀z:List (Nat×Nat),zlq (z.map fl)=some (z.map sw)
 |[]=>rfl
 |p::r=>by
  show(zlq (r.map fl)).map _=_
  rw[zrg r];rfl
theorem zt1 {a b:Nat}:decide ((a:Int)<b)=decide (a<b):=decide_eq_decide.mpr zaq
theorem zsd{a b:Nat}:decide ((a:Int)<=b)=decide (a<=b):=decide_eq_decide.mpr zaz
theorem sw_le(a b:Nat×Nat):hiLe a b=zft (sw a) (sw b):=by
 refine Eq.symm ((show _=(decide ((a.2:Int)<b.2)||(decide ((a.2:Int)=b.2)&&decide ((a.1:Int)<=b.1))) from rfl).trans ?_)
 rw[zt1,zku,zsd];rfl
theorem zv4{b n:Nat}{y:List (Nat×Nat)}(hb:H[b]?=some (y.map fl))(hy:∀p∈y,p.1<p.2/\p.2<n)(hn:n<=64)(hnd:(y.map (·.2)).Nodup):onQ true (bltV H .sorted [.lst b])=some (.lst H.length,H++[(zit y).map fl]):=by
 have hlt:y.length<64:=by
  have:=zgd (n:=n-1) (xs:=y.map fun p=>p.2-1) ?_ ?_
  ·rw[zac] at this
   cases y with
   |nil=>decide
   |cons p r=>have:=hy p zae;exact Ar.ar2 [_,_] [] 0x68214a528003080c01840800c201806100000014a528003080801840500c20300610000508021 (Y1 V0 (.l 64)) (Y0 V1 (.l 64)) (Y0 V0 (Y2 V1 J1)) hn (by assumption)
  ·refine List.pairwise_map.mpr ((List.pairwise_map.mp hnd).imp_of_mem ?_)
   intro a b ha hb hne
   have:=hy a ha;have:=hy b hb
   exact Ar.ar3 [_,_,_,_,_] [] 0x38d03210a5294a000c206806102803080801840200c2008080400a100023214a528003081001840400c20100610000801420004a10042340c84214a5294001840c00c20300810100308040184010180c0200508021190a5294001840800c20200610080408000400a10042508001 (Y8 (Y2 (Y2 V0 J1) (Y2 V1 J1)) J0) (Y8 (Y2 V0 V1) J0) (Y1 V2 V1) (Y6 (Y1 V3 V0) (Y1 V0 V4)) hne this.1 (by assumption)
  ·intro x hx
   obtain⟨p,hp,rfl⟩:=zak.mp hx
   have:=hy p hp
   exact Ar.ar2 [_,_,_] [] 0x1a064294a528003081201840a00c205806100c0308020180a100423294a50006101c03081201840300c20080a10042508001 (Y1 (Y2 V0 J1) (Y2 V1 J1)) (Y1 V2 V0) (Y1 V0 V1) this.1 this.2
 have e2:zn8 (y.map sw)=true:=by
  refine zag.mpr ⟨zag.mpr ⟨decide_eq_true (by rw[zac];exact hlt),decide_eq_true ?_⟩,za5.mpr ?_⟩
  ·exact List.pairwise_map.mpr ((List.pairwise_map.mp hnd).imp fun hne e=>hne (zbs.mp (congrArg Prod.fst e)))
  ·intro x hx
   obtain⟨p,hp,rfl⟩:=zak.mp hx
   have h2:=zay (hy p hp).2 hn
   exact zag.mpr ⟨decide_eq_true (zar h2 (by decide)),decide_eq_true (zar (zar (hy p hp).1 h2) (by decide))⟩
 have e3:((y.map sw).mergeSort zft).map zko=(zit y).map fl:=by
  rw[<- List.map_mergeSort (r:=hiLe) (s:=zft) (f:=sw) (l:=y) (fun a _ b _=>sw_le a b),za0]
  rfl
 show(H[b]?).bind _=_
 rw[hb]
 show(zlq (y.map fl)).bind _=_
 rw[zrg,<-e3]
 exact if_pos e2
theorem ze4{a:Nat}{xs:List V}(h:H[a]?=some xs):onQ true (srcV H (.lst a))=some xs:=h
theorem zck{n:Nat}(h:n<100000):n<=sizeLine:=zav (zar h (by decide))
theorem tel3_ok{f dn rd n:Nat}{bs:List Nat}{s:PS}{js:List (Nat×Nat)}{l0 l1 l3 l4 l5 l6 l7 l8 l9 l10 l11 l12 l13 l14 l15:Option V}(B:Build H f dn rd bs s.lays s.done s.read)(L:Laid n s js)(hn:n<=64)(hz:s.lays.length<=900)
  (hq:∀a bs' H' l',NetAt H' a bs' (s.lays.map zit)->Stay [] H H'->(∀b∈a::bs',H.length<=b)->(a::bs').Nodup->R (.ret (.lst a)) l' H') :
  wpSs (Calls c) true d none tel3 R E [l0,l1,some (.lst f),l3,l4,l5,l6,l7,l8,l9,l10,l11,l12,l13,l14,l15] H:=by
 refine Ss_go ?_
 walk_at "wps"
 refine Opt.mk (ze4 B.F) ⟨zck (by rw[zac,B.len];exact Ar.ar1 [_] [] 0xa5000610000308020 (Y1 V0 (.l 100000)) (Y0 V0 (.l 900)) hz),?_⟩
 refine zd1 ((s.lays.map zit).map fun y=>y.map pr) ?_ ?_ (fun H' st=>at0 st B.F) ?_
 ·rw[zac,zac,zac,B.len]
 ·intro i x y' acc H' K hx hy' st hK
  rw[za0,zan] at hy'
  obtain⟨y,hy,rfl⟩:=zaj.mp hy'
  rw[zan] at hx
  obtain⟨b,hb,rfl⟩:=zaj.mp hx
  have hm:=zax hy
  have hyz:=L.wide y hm
  walk_at "wps"
  refine Opt.mk (zv4 (at0 st (B.L i b y hb hy)) (fun p hp=>(L.hi i y hy p hp).2.2) hn (L.nd y hm)) ?_
  walk_at "wps"
  refine Opt.mk (ze4 zcf) ⟨zck (by rw[zac,<-(zfo y).length_eq];exact Ar.ar2 [_,_] [] 0x294a000c20000610040308040 (Y1 V0 (.l 100000)) (Y0 V1 (.l 64)) (Y0 V0 V1) hn hyz),?_⟩
  refine zea (I:=fun j acc2 H2=>H2=H'++[(zit y).map fl]/\acc2=((zit y).take j).map pr) ?_ ?_ ⟨rfl,rfl⟩
  ·rintro j x2 acc2 H2 K2 hx2 ⟨rfl,rfl⟩ hK2
   rw[zan] at hx2
   obtain⟨p,hp,rfl⟩:=zaj.mp hx2
   unfold fl
   walk_at "wps"
   refine hK2 _ _ zcf ⟨rfl,?_⟩
   rw[List.take_add_one,hp,zat];rfl
  ·rintro acc2 H2 ⟨rfl,rfl⟩
   rw[zac,List.take_length]
   exact hK _ _ Stay.refl.app.app zcf (Stay.refl (S:=[])).app.len
 ·intro cs H' RR
  exact hq _ cs _ _ RR.net RR.st.app (za7.mpr ⟨RR.st.len,fun b hb=>(RR.fr b hb).1⟩) (zb5.mpr ⟨fun h=>zbb _ (RR.fr _ h).2,RR.nd⟩)
end
end Bn
namespace Bn
open PySem
structure New(H:Hp)(a:Nat)(xs:List V)(H':Hp):Prop where
 st:Stay [] H H'
 hold:H'[a]?=some xs
 lo:H.length<=a
theorem New.mk0{H:Hp}{xs:List V}:New H H.length xs (H++[xs]):=⟨Stay.refl.app,zcf,zaf _⟩
theorem zcq{H:Hp}{o:Option (V×Hp)}{xs:List V}{K:V×Hp->Prop}(h:o=some (.lst H.length,H++[xs]))(k:∀a H',New H a xs H'->K (.lst a,H')):Opt o K:=Opt.mk h (k _ _ .mk0)
section
variable {c:Cx}{d:Nat}{R:SPost}{E:SX}{H H0 H':Hp}{f dn rd lf g:Nat}{bs bs' rs:List Nat}{s:PS}{left:List (Nat×Nat)}{gs:List (List Nat)}
theorem TelSt.grow(T:TelSt H0 H f dn rd lf bs s left)(st:Stay [] H H'):TelSt H0 H' f dn rd lf bs s left:=
 ⟨T.build.keep fun x hx=>st.same x (T.build.below x hx) zbo,at0 st T.hleft,T.nlf,T.stay.trans0 st,T.fresh,T.freshL⟩
inductive Tel2Inv(H0:Hp)(f dn rd lf:Nat)(s:PS)(left:List (Nat×Nat))(l0 l1 l6 l7 l8 l9 l11 l13 l14 l15:Option V):List (Nat×Nat)->Loc->Hp->Prop
 |mk (r ks:List (Nat×Nat))(v10 v12:Option V)(bs:List Nat)(H:Hp)(he:ks++r=left.reverse)(T:TelSt H0 H f dn rd lf bs (s.puts ks) left) :
   Tel2Inv H0 f dn rd lf s left l0 l1 l6 l7 l8 l9 l11 l13 l14 l15 r [l0,l1,some (.lst f),some (.lst lf),some (.lst dn),some (.lst rd),l6,l7,l8,l9,v10,l11,v12,l13,l14,l15] H
theorem tel2_ok(PP:Has c "_law_place" 5 6 zc4){n:Nat}{js:List (Nat×Nat)}{l0 l1 l6 l7 l8 l9 l10 l11 l12 l13 l14 l15:Option V}(T:TelSt H0 H f dn rd lf bs s left)(L:Laid n s js)(hn:n<=64)(hz:s.lays.length+left.length<=800)
  (hlt:∀p∈left.reverse,p.1<p.2/\p.2<n)
  (hq:∀a bs' H' l',NetAt H' a bs' ((s.puts left.reverse).lays.map zit)->Stay [] H0 H'->(∀b∈a::bs',H0.length<=b)->(a::bs').Nodup->R (.ret (.lst a)) l' H') :
  wpSs (Calls c) true (d+1) none tel2 R E [l0,l1,some (.lst f),some (.lst lf),some (.lst dn),some (.lst rd),l6,l7,l8,l9,l10,l11,l12,l13,l14,l15] H:=by
 refine Ss_go ?_
 walk_at "wps"
 refine⟨rfl,Sr_rev (a:=lf) (items:=left.map pr) (fun K E' h=>h) T.hleft ?_⟩
 rw[<- List.map_reverse]
 refine zeb (Tel2Inv H0 f dn rd lf s left l0 l1 l6 l7 l8 l9 l11 l13 l14 l15) ?_ ?_ (.mk _ [] _ _ bs _ rfl T)
 ·intro p r l' H' K hI hnext hret
  obtain⟨ks,v10,v12,bs,_,he,T⟩:=hI
  have hpm:=hlt p (by rw[<- he];exact zbz _ zae)
  have htk:∀p∈ks,p.1<p.2/\p.2<n:=fun p hp=>hlt p (by rw[<- he];exact List.mem_append_left _ hp)
  have hlen:=zgz L htk
  have hl:=congrArg List.length he
  rw[zao,List.length_reverse] at hl
  refine Opt.mk rfl (Ss_go ?_)
  walk_at "wps"
  refine s_put PP (H0:=H') (bs0:=bs) (X:=[]) ⟨T.build,Stay.refl,fun b hb=>.inl hb⟩ (L.puts htk) hn (by exact Ar.ar3 [_,_,_,_,_] [] 0xa5294001840000c20080610080308060 (Y1 V0 (.l 900)) (Y0 (Y0 V1 V2) (.l 800)) (Y0 V0 (Y0 V1 V3)) (Y2 (Y0 V3 V4) V2) hz hlen hl) hpm.1 hpm.2 rfl fun bs'' H'' K'' st'' new''=>?_
  have T2:=T.place K''.build st'' new''
  rw[show(s.puts ks).put (p.1,p.2)=s.puts (ks++[p]) by rw[PS.puts_append];rfl] at T2
  exact hnext _ _ T2.hleft (.mk _ (ks++[p]) _ _ bs'' _ (by rw[zbd];exact he) T2)
 ·intro l' H' hI
  obtain⟨ks,v10,v12,bs,_,he,T⟩:=hI
  rw[za9] at he
  subst he
  have hlen:=zgz L hlt
  rw[List.length_reverse] at hlen
  exact tel3_ok T.build (L.puts hlt) hn (by exact Ar.ar2 [_,_,_] [] 0x294a000c20000610040308040 (Y0 V0 (.l 900)) (Y0 (Y0 V1 V2) (.l 800)) (Y0 V0 (Y0 V1 V2)) hz hlen) fun a cs H'' l'' N st fr nd=>hq a cs H'' l'' N (T.stay.trans0 st) (fun b hb=>zab T.stay.len (fr b hb)) nd
structure GrSt(H:Hp)(f dn rd g:Nat)(bs rs:List Nat)(gs:List (List Nat)):Prop where
 gr:GrAt H g rs gs
 apart:OffB f dn rd bs (g::rs)
theorem GrAt.grow(G:GrAt H g rs gs)(st:Stay [] H H'):GrAt H' g rs gs:=⟨at0 st G.top,G.len,fun i r y h1 h2=>at0 st (G.gr i r y h1 h2)⟩
theorem GrSt.grow(G:GrSt H f dn rd g bs rs gs)(st:Stay [] H H'):GrSt H' f dn rd g bs rs gs:=⟨G.gr.grow st,G.apart⟩
theorem GrSt.place(G:GrSt H f dn rd g bs rs gs)(st:Stay (f::dn::rd::bs) H H')(hnew:∀b∈bs',b∈bs\/H.length<=b):GrSt H' f dn rd g bs' rs gs:=
 ⟨G.gr.stay st G.apart,fun r hr=>out4 ((zal.mp hr).elim (fun e=>e▸zc7 G.gr.top) (G.gr.lt r)) (G.apart r hr) hnew⟩
inductive GrIt(H:Hp)(g i:Nat)(rs:List Nat)(y:List Nat):Prop
 |mk (r:Nat)(hr:rs[i]?=some r)(hold:H[r]?=some (y.map nat))(ix:idxV H (.lst g) (.int i)=some (.lst r)):GrIt H g i rs y
theorem GrAt.at{i:Nat}(G:GrAt H g rs gs){y:List Nat}(h:gs[i]?=some y):GrIt H g i rs y:=
 have hr:=zam (show i<rs.length from G.len▸zcl h)
 ⟨_,hr,G.gr i _ y hr h,zc5 G.top (zk2 hr)⟩
theorem GrAt.merge{g' i M:Nat}{y:List Nat}(G:GrAt H g rs gs)(hi:i+1<gs.length)(hM:H[M]?=some (y.map nat))(top:H[g']?=some ((rs.take i++M::rs.drop (i+2)).map V.lst)) :
  GrAt H g' (rs.take i++M::rs.drop (i+2)) (gs.take i++y::gs.drop (i+2)):=by
 have hl:=G.len
 have hle:=zav (Nat.lt_of_succ_lt hi)
 have l1:(rs.take i).length=i:=List.length_take_of_le (zab hle (zbc hl.symm))
 have l2:(gs.take i).length=i:=List.length_take_of_le hle
 refine⟨top,?_,fun j r z h1 h2=>?_⟩
 ·rw[zao,zao,l1,l2,zbh,zbh,zbr,zbr,hl]
 rcases Nat.lt_trichotomy j i with h |h |h
 ·rw[zbu (by rw[l1];exact h),List.getElem?_take,if_pos h] at h1
  rw[zbu (by rw[l2];exact h),List.getElem?_take,if_pos h] at h2
  exact G.gr j r z h1 h2
 ·subst h
  rw[zbv (by rw[l1];exact zaf _),l1,Nat.sub_self] at h1
  rw[zbv (by rw[l2];exact zaf _),l2,Nat.sub_self] at h2
  cases h1;cases h2
  exact hM
 ·rw[zbv (by rw[l1];exact zav h),l1,show j-i=(j-i-1)+1 from(zb6 (Nat.sub_pos_of_lt h)).symm,List.getElem?_cons_succ,List.getElem?_drop] at h1
  rw[zbv (by rw[l2];exact zav h),l2,show j-i=(j-i-1)+1 from(zb6 (Nat.sub_pos_of_lt h)).symm,List.getElem?_cons_succ,List.getElem?_drop] at h2
  exact G.gr _ r z h1 h2
theorem lt3c{t:Nat}(h:t<3):t=0\/t=1\/t=2:=(Nat.lt_succ_iff_lt_or_eq.mp h).elim (fun h=>(Nat.lt_succ_iff_lt_or_eq.mp h).elim (fun h=>.inl (Nat.lt_one_iff.mp h)) fun h=>.inr (.inl h)) fun h=>.inr (.inr h)
theorem pick3{cl:Int}{m:Nat}(hcl:0<=cl)(hm:2<=m):∃i:Nat,i+1<m/\idxV (H++[[V.int (cl/3%((m:Int)-1)),V.int 0,V.int ((m:Int)-2)]]) (.lst H.length) (.int (cl%3))=some (.int i):=by
 obtain⟨t,h⟩:=zva (x:=cl) (y:=3) (by decide)
 have ht:t<3:=zaq.mp (h▸Int.emod_lt_of_pos cl (by decide))
 have hp:(0:Int)<(m:Int)-1:=Int.sub_pos_of_lt (zaq.mpr hm)
 rw[h]
 rcases lt3c ht with rfl |rfl |rfl
 ·skip
  have a1:0<=cl/3%((m:Int)-1):=Int.emod_nonneg _ (Int.ne_of_gt hp)
  have a2:cl/3%((m:Int)-1)<(m:Int)-1:=Int.emod_lt_of_pos _ hp
  refine⟨(cl/3%((m:Int)-1)).toNat,by exact Ar.ar3 [_,_] [_] 0x490a528003080601840400c2008000294a000c200806100c0308000 (Y1 (Y0 V0 J1) V1) (Y0 J2 V1) (Y4 V0 (Y2 (Y4 V1 J0) J1)) (Y7 (Y5 (Y4 V0 J0) V0) (Y6 (Y3 V0 J0) (Y2 V0 J0))) hm a2 (Ar.tn _),?_⟩
  rw[Int.toNat_of_nonneg a1]
  exact zc5 zcf rfl
 ·exact⟨0,hm,zc5 zcf rfl⟩
 ·refine⟨m-2,Nat.lt_of_lt_of_eq (Nat.lt_succ_self _) (zb6 hm),?_⟩
  rw[show((m-2:Nat):Int)=(m:Int)-2 from Int.ofNat_sub hm]
  exact zc5 zcf rfl
theorem zon{B:Nat->Nat}:∀{gs:List (List Nat)}{s:Nat},zii B s gs->∀g∈gs,g.Nodup
 |[],_,_,_,hg=>nomatch hg
 |_::_,_,h,g',hg'=>(zal.mp hg').elim (fun e=>e▸zm9 h.2.1) (h.2.2.elim fun _ q=>zon q.2 g')
theorem GInv.short{n M:Nat}(I:GInv n M s left gs){y:List Nat}(hg:y∈gs):y.length<=n:=by
 obtain⟨_,B1,_,_,C1,_⟩:=I.ex
 exact zgd (zon C1 y hg) (I.lt y hg)
inductive Tel1Inv(H0:Hp)(f dn rd lf n:Nat)(left:List (Nat×Nat))(l1 l6 l7 l12 l13 l14 l15:Option V)(m:Nat):Loc->Hp->Prop
 |mk (cl:Int)(g:Nat)(bs rs:List Nat)(s:PS)(gs:List (List Nat))(v9 v10 v11:Option V)(H:Hp)(hm:m=gs.length)(hcl:0<=cl)(T:TelSt H0 H f dn rd lf bs s left)(G:GrSt H f dn rd g bs rs gs)(I:GInv n (n+3) s left gs) :
   Tel1Inv H0 f dn rd lf n left l1 l6 l7 l12 l13 l14 l15 m [some (.int cl),l1,some (.lst f),some (.lst lf),some (.lst dn),some (.lst rd),l6,l7,some (.lst g),v9,v10,v11,l12,l13,l14,l15] H
inductive Tel1For(H0:Hp)(f dn rd lf g:Nat)(rs:List Nat)(s:PS)(left:List (Nat×Nat))(gs:List (List Nat))(mm:Nat)(b:List Nat)(l0 l1 l6 l7 l9 l11 l12 l13 l14 l15:Option V):List Nat->Loc->Hp->Prop
 |mk (r ks:List Nat)(v10:Option V)(bs:List Nat)(H:Hp)(he:ks++r=b)(T:TelSt H0 H f dn rd lf bs (s.puts (ks.map fun y=>(mm,y))) left)(G:GrSt H f dn rd g bs rs gs) :
   Tel1For H0 f dn rd lf g rs s left gs mm b l0 l1 l6 l7 l9 l11 l12 l13 l14 l15 r [l0,l1,some (.lst f),some (.lst lf),some (.lst dn),some (.lst rd),l6,l7,some (.lst g),l9,v10,l11,l12,l13,l14,l15] H
end
end Bn
namespace Bn
open PySem
section
variable {c:Cx}{d:Nat}{R:SPost}{E:SX}{H H0 H':Hp}{f dn rd lf g:Nat}{bs bs' rs:List Nat}{s:PS}{left:List (Nat×Nat)}{gs:List (List Nat)}
theorem split2{α:Type}{gs:List α}{i:Nat}{a b:α}(ha:gs[i]?=some a)(hb:gs[i+1]?=some b):gs=gs.take i++a::b::gs.drop (i+2):=by
 obtain⟨h1,rfl⟩:=zbi.mp ha
 obtain⟨h2,rfl⟩:=zbi.mp hb
 rw[<- zb8 h2,<-zb8 h1,List.take_append_drop]
theorem tel1_ok(PP:Has c "_law_place" 5 6 zc4){n:Nat}{cl:Int}{l1 l6 l7 l9 l10 l11 l12 l13 l14 l15:Option V}(hn:n<=64)(hcl:0<=cl)(T:TelSt H0 H f dn rd lf bs s left)(G:GrSt H f dn rd g bs rs gs)(I:GInv n (n+3) s left gs)
  (hq:∀a bs' H' l' net,Told n net->NetAt H' a bs' net->Stay [] H0 H'->(∀b∈a::bs',H0.length<=b)->(a::bs').Nodup->R (.ret (.lst a)) l' H') :
  wpSs (Calls c) true (d+1) none tel1 R E [some (.int cl),l1,some (.lst f),some (.lst lf),some (.lst dn),some (.lst rd),l6,l7,some (.lst g),l9,l10,l11,l12,l13,l14,l15] H:=by
 refine Ss_go ?_
 walk_at "wps"
 refine⟨rfl,.mk (Tel1Inv H0 f dn rd lf n left l1 l6 l7 l12 l13 l14 l15) gs.length (.mk cl g bs rs s gs _ _ _ _ rfl hcl T G I) ?_⟩
 clear T G I hcl
 intro m l' H' hI
 obtain⟨cl,g,bs,rs,s,gs,v9,v10,v11,_,rfl,hcl,T,G,I⟩:=hI
 walk_at "wps"
 refine Opt.mk (zdk G.gr.top) ?_
 walk_at "wps"
 rw[zac,G.gr.len]
 refine zci (fun h1=>?_) (fun h1=>?_)
 ·have h1:2<=gs.length:=zaq.mp h1
  refine Ss_go ?_
  walk_at "wps"
  refine zdt (by decide) ?_
  walk_at "wps"
  refine zcn (by decide) ?_
  walk_at "wps"
  generalize hcell:cl*16807%2147483647=cl'
  have hcl':0<=cl':=hcell▸Int.emod_nonneg _ (by decide)
  refine zdv (by decide) ?_
  walk_at "wps"
  refine Opt.mk (zdk G.gr.top) ?_
  walk_at "wps"
  rw[zac,G.gr.len]
  refine zcn (Int.sub_pos_of_lt (zaq.mpr h1)) ?_
  walk_at "wps"
  refine Opt.mk (zdk G.gr.top) ?_
  walk_at "wps"
  rw[zac,G.gr.len]
  refine zcn (by decide) ?_
  walk_at "wps"
  obtain⟨i,hi,hidx⟩:=pick3 (H:=H') (m:=gs.length) hcl' h1
  refine Opt.mk hidx ?_
  clear hidx hcell
  walk_at "wps"
  generalize hH1:H'++[[V.int (cl'/3%((gs.length:Int)-1)),V.int 0,V.int ((gs.length:Int)-2)]]=H1
  have st1:Stay [] H' H1:=hH1▸Stay.refl.app
  clear hH1
  have T1:=T.grow st1
  have G1:=G.grow st1
  have ha:=zam (Nat.lt_of_succ_lt hi)
  have hb:=zam hi
  generalize gs[i]=a at ha
  generalize gs[i+1]=b at hb
  have I2:=I
  rw[split2 ha hb] at I2
  obtain⟨mm,hmm,I3,hlt⟩:=I2.merge
  clear I2
  obtain⟨js,B0,L,_⟩:=I.ex
  obtain⟨rb,hrb,hrbH,hrbI⟩:=G1.gr.at hb
  have hbz:=I.short (zax hb)
  have hlayz:=zab I.lay (zab (Nat.add_le_add_right hn 3) (show 64+3<=80 by decide))
  have hgz:gs.length<=80:=zab (zab (zbt ..) (za8 ..)) hlayz
  have hsz:s.lays.length<=800:=zab (zab (za8 ..) (za8 ..)) (zab hlayz (by decide))
  have hn80:=zab hn (show 64<=80 by decide)
  refine⟨rfl,zfc (v:=.lst rb) (fun K E' h=>Opt.mk hrbI h) hrbH ?_⟩
  refine zeb (Tel1For H0 f dn rd lf g rs s left gs mm b (some (.int cl')) l1 l6 l7 (some (.int i)) v11 l12 l13 l14 l15) ?_ ?_ (.mk _ [] _ bs _ rfl T1 G1)
  ·clear T1 G1 st1 hrbH hrbI T G
   intro y r l' H2 K hI hnext hret
   obtain⟨ks,v10,bs,_,he,T,G⟩:=hI
   obtain⟨ra,hra,hraH,hraI⟩:=G.gr.at ha
   walk_at "wps"
   refine Opt.mk hraI ?_
   walk_at "wps"
   refine Opt.mk (zr9 hraH (by rw[List.getLast?_map,hmm];rfl)) ?_
   walk_at "wps"
   have htk:∀p∈ks.map fun y=>(mm,y),p.1<p.2/\p.2<n:=fun p hp=>hlt p (by rw[<- he,zat];exact List.mem_append_left _ hp)
   have hpm:=hlt (mm,y) (by rw[<- he,zat];exact zbz _ zae)
   have hl2:=zgz L htk
   have hkz:=congrArg List.length he
   rw[zao] at hkz
   rw[zac] at hl2
   refine s_put PP (H0:=H2) (bs0:=bs) (X:=[]) ⟨T.build,Stay.refl,fun b hb=>.inl hb⟩ (L.puts htk) hn (lt900 hl2 hsz (zab (hkz▸za8 ..) (zab hbz hn))) hpm.1 hpm.2 rfl fun bs'' H'' K'' st'' new''=>?_
   have T3:=T.place K''.build st'' new''
   have G3:=G.place st'' new''
   rw[show(s.puts (ks.map fun y=>(mm,y))).put (mm,y)=s.puts ((ks++[y]).map fun y=>(mm,y)) by rw[zat,PS.puts_append];rfl] at T3
   obtain⟨rb',hrb',hrbH',_⟩:=G3.gr.at hb
   obtain rfl:=zaa (hrb.symm.trans hrb')
   exact hnext _ _ hrbH' (.mk _ (ks++[y]) _ bs'' _ (by rw[zbd];exact he) T3 G3)
  ·clear T1 G1 st1 hrbH hrbI T G
   intro l' H2 hI
   obtain⟨ks,v10,bs,_,he,T,G⟩:=hI
   rw[za9] at he
   subst he
   obtain⟨ra,hra,hraH,hraI⟩:=G.gr.at ha
   obtain⟨rb',hrb',hrbH,hrbI⟩:=G.gr.at hb
   have haz:=I.short (zax ha)
   have hrl:=G.gr.len
   refine Then_go (Ss_go ?_)
   walk_at "wps"
   refine Opt.mk hraI ?_
   walk_at "wps"
   refine Opt.mk hrbI ?_
   walk_at "wps"
   refine zcq (zef hraH hrbH (by rw[zac,zac];exact zar (ltA2 (zab haz hn80) (zab hbz hn80)) (by decide))) fun M h1 N1=>?_
   walk_at "wps"
   have G1:=G.grow N1.st
   refine zcq (zh9 G1.gr.top) fun A h2 N2=>?_
   walk_at "wps"
   refine zcq (zef (zee N2.hold) zcf (by rw[zbj,zac];exact zar (ltA3 (b:=0) (zab (Nat.min_le_right ..) (hrl▸hgz)) (by decide)) (by decide))) fun A3 h3 N3=>?_
   walk_at "wps"
   have st3:=(N2.st.app).trans0 N3.st
   have G3:=G1.grow st3
   refine zcq (zg4 (i:=i+2) G3.gr.top) fun A4 h4 N4=>?_
   walk_at "wps"
   refine zcq (zef (at0 N4.st N3.hold) N4.hold (by rw[zao,zbj,zbr,zac];exact zar (ltA3 (zab (Nat.min_le_right ..) (hrl▸hgz)) (zab (Nat.sub_le ..) (hrl▸hgz))) (by decide))) fun A5 h5 N5=>?_
   have st5:=N4.st.trans0 N5.st
   have T5:=T.grow (N1.st.trans0 (st3.trans0 st5))
   refine⟨gs.length-1,Nat.sub_lt (Nat.zero_lt_of_lt hi) (by decide),.mk cl' _ bs (rs.take i++M::rs.drop (i+2)) _ (gs.take i++(a++ks)::gs.drop (i+2)) _ _ _ _ ?_ hcl' T5 ⟨?_,?_⟩ I3⟩
   ·rw[zao,zbj,zbh,zbr];exact mid_len hi
   ·refine(G3.gr.grow st5).merge hi ?_ ?_
    ·rw[zat];exact at0 (st3.trans0 st5) N1.hold
    ·rw[N5.hold,zat,zbg,List.map_take,List.map_drop,zbd];rfl
   ·have big:∀{x:Nat},H2.length<=x->x∉f::dn::rd::bs:=fun hx hm=>Nat.not_lt.mpr hx (T.build.below _ hm)
    intro r hr
    rcases zal.mp hr with rfl |hr
    ·exact big (zab N1.st.len (zab st3.len (zab N4.st.len N5.lo)))
    ·rcases zau.mp hr with hr |hr
     ·exact G.apart r (zai _ (List.mem_of_mem_take hr))
     ·rcases zal.mp hr with rfl |hr
      ·exact big N1.lo
      ·exact G.apart r (zai _ (List.mem_of_mem_drop hr))
 ·have h1:gs.length<=1:=zba fun h=>h1 (zaq.mpr h)
  obtain⟨F1,⟨js,L⟩,F3⟩:=I.fin h1 (zaf _)
  exact tel2_ok PP T L hn (zab (Nat.add_le_add_right (za8 ..) _) (zab I.lay (zab (Nat.add_le_add_right hn 3) (by decide)))) F3 fun a bs' H' l' N st fr nd=>hq a bs' H' l' _ F1 N st fr nd
end
end Bn
namespace Bn
open PySem
section
variable {H H':Hp}{ok:Hp->Prop}
theorem zni{l:Loc}{i:Nat}{v:V}(hi:i<l.length):(l.set i (some v)).getD i none=some v:=by
 rw[zas,zb0 hi];rfl
theorem zuh{i:Nat}{l:Loc}{xs:List Nat}{Q:List V->Hp->Prop}(hi:i<l.length)(hok:∀H',Stay [] H H'->ok H')(hq:∀cs H',Rows H H' cs (xs.map fun x=>[nat x])->Q (cs.map .lst) H') :
  zey ok (zkf (fun l' Q H=>Q true H) (fun l' Q H=>Opt (l'.getD i none) fun v=>Q (.lst H.length) (H++[[v]])) (.one i) l) (xs.map nat) [] Q H:=by
 refine zd1 (xs.map fun x=>[nat x]) (by rw[zac,zac]) ?_ hok hq
 intro j x y acc H' K hx hy st hK
 rw[zan] at hx hy
 obtain⟨z,hz,rfl⟩:=zaj.mp hx
 rw[hz] at hy
 obtain rfl:=zaa hy
 walk_at "wps"
 exact Opt.mk (zni hi) (hK _ _ Stay.refl.app zcf (zaf _))
theorem zpn{i:Nat}{l:Loc}{rs:List Nat}{ys:List (List V)}{Q:List V->Hp->Prop}(hi:i<l.length)(hlen:rs.length=ys.length)(hr:∀(i b:Nat)(y:List V),rs[i]?=some b->ys[i]?=some y->H[b]?=some y)(hok:∀H',Stay [] H H'->ok H')(hq:∀cs H',Rows H H' cs ys->Q (cs.map .lst) H') :
  zey ok (zkf (fun l' Q H=>Q true H) (fun l' Q H=>Opt (l'.getD i none) fun v=>Opt (bltV H .list [v]) fun p=>Q p.1 p.2) (.one i) l) (rs.map .lst) [] Q H:=by
 refine zd1 ys (by rw[zac];exact hlen) ?_ hok hq
 intro j x y acc H' K hx hy st hK
 rw[zan] at hx
 obtain⟨b,hb,rfl⟩:=zaj.mp hx
 walk_at "wps"
 exact Opt.mk (zni hi) (Opt.mk (zgs (at0 st (hr j b y hb hy))) (hK _ _ Stay.refl.app zcf (zaf _)))
theorem Rows.grat{cs:List Nat}{gs:List (List Nat)}(R:Rows H H' cs (gs.map fun y=>y.map nat)):GrAt (H'++[cs.map .lst]) H'.length cs gs:=
 ⟨zcf,R.len.trans (zac ..),fun i b y h1 h2=>zee (R.hold i b _ h1 (by rw[zan,h2];rfl))⟩
theorem ones_eq{xs:List Nat}:(xs.map fun x=>[nat x])=(xs.map fun x=>[x]).map fun y=>y.map nat:=by rw[za0];rfl
theorem Rows.top{cs:List Nat}{ys:List (List V)}(R:Rows H H' cs ys):∀b∈H'.length::cs,H.length<=b:=za7.mpr ⟨R.st.len,fun b hb=>(R.fr b hb).1⟩
end
section
variable {c:Cx}{d:Nat}{R:SPost}{E:SX}{H H0:Hp}{f dn rd lf la n:Nat}{bs:List Nat}{s:PS}{left:List (Nat×Nat)}{act:List Nat}{cl:Int}
theorem tel0_ok(PP:Has c "_law_place" 5 6 zc4){l1 l7 l8 l9 l10 l11 l12 l13 l14 l15:Option V}(hn:n<=64)(hcl:0<=cl)(T:TelSt H0 H f dn rd lf bs s left)(ha:H[la]?=some (act.map nat))(I:TurnInv n 3 s left act)
  (hq:∀a bs' H' l' net,Told n net->NetAt H' a bs' net->Stay [] H0 H'->(∀b∈a::bs',H0.length<=b)->(a::bs').Nodup->R (.ret (.lst a)) l' H') :
  wpSs (Calls c) true (d+1) none tel0 R E [some (.int cl),l1,some (.lst f),some (.lst lf),some (.lst dn),some (.lst rd),some (.lst la),l7,l8,l9,l10,l11,l12,l13,l14,l15] H:=by
 have hal:=I.len
 refine Ss_go ?_
 walk_at "wps"
 refine Opt.mk (ze4 ha) ⟨zck (by rw[zac];exact zaw (zab (za8 ..) (zab hal hn)) (by decide)),?_⟩
 refine zuh (Nat.le_of_ble_eq_true rfl) (fun H' st=>at0 st ha) fun rs H' RR=>?_
 rw[ones_eq] at RR
 refine tel1_ok PP hn hcl (T.grow RR.st.app) ⟨RR.grat,fun r hr hm=>?_⟩ (GInv.of I) hq
 exact Nat.not_lt.mpr (RR.top r hr) (T.build.below r hm)
theorem TurnInv.mono{t t':Nat}(I:TurnInv n t s left act)(h:t<=t'):TurnInv n t' s left act:={ I with lay:=zab I.lay h }
inductive TelTInv(H0:Hp)(f dn rd lf n:Nat)(cl:Int)(l1 l8 l9 l10 l11 l12 l13 l14 l15:Option V)(i:Nat):Loc->Hp->Prop
 |mk (v7:Option V)(la:Nat)(bs:List Nat)(s:PS)(left:List (Nat×Nat))(act:List Nat)(H:Hp)(T:TelSt H0 H f dn rd lf bs s left)(ha:H[la]?=some (act.map nat))(nla:la∉f::dn::rd::bs)(hal:la≠lf)(I:TurnInv n i s left act) :
   TelTInv H0 f dn rd lf n cl l1 l8 l9 l10 l11 l12 l13 l14 l15 i [some (.int cl),l1,some (.lst f),some (.lst lf),some (.lst dn),some (.lst rd),some (.lst la),v7,l8,l9,l10,l11,l12,l13,l14,l15] H
theorem telT_ok(PT:Has c "_law_thinner" 6 8 zei)(PP:Has c "_law_place" 5 6 zc4){l1 l7 l8 l9 l10 l11 l12 l13 l14 l15:Option V}(hn:n<=64)(hcl:0<=cl)(T:TelSt H0 H f dn rd lf bs s left)(ha:H[la]?=some (act.map nat))(nla:la∉f::dn::rd::bs)(hal:la≠lf)(I:TurnInv n 0 s left act)
  (hq:∀a bs' H' l' net,Told n net->NetAt H' a bs' net->Stay [] H0 H'->(∀b∈a::bs',H0.length<=b)->(a::bs').Nodup->R (.ret (.lst a)) l' H') :
  wpSs (Calls c) true (d+2) none telT R E [some (.int cl),l1,some (.lst f),some (.lst lf),some (.lst dn),some (.lst rd),some (.lst la),l7,l8,l9,l10,l11,l12,l13,l14,l15] H:=by
 refine Ss_go ?_
 walk_at "wps"
 obtain⟨t,ht,ht3⟩:∃t:Nat,cl%4=t/\t<=3:=⟨(cl%4).toNat,(Int.toNat_of_nonneg (Int.emod_nonneg _ (by decide))).symm,Int.toNat_le.mpr (Int.le_of_lt_add_one (Int.emod_lt_of_pos _ (by decide)))⟩
 refine⟨rfl,zfc (v:=.rng 0 t 1) (items:=(List.range t).map nat) (fun K E' h=>by walk_at "wps";refine zcn (by decide) ?_;walk_at "wps";rw[ht];exact Opt.mk (zcv (zaw ht3 (by decide))) h) (congrArg some (zdn t)) ?_⟩
 refine zd3 (TelTInv H0 f dn rd lf n cl l1 l8 l9 l10 l11 l12 l13 l14 l15) ?_ ?_ (.mk _ la bs s left act _ T ha nla hal I)
 ·clear T ha nla hal I
  intro i x l' H' K hx hI hnext hret
  obtain⟨v7,la,bs,s,left,act,_,T,ha,nla,hal,I⟩:=hI
  have hit:=zcl hx
  rw[zac,zap] at hit
  rw[zan,zbl hit] at hx
  obtain rfl:=zaa hx
  unfold nat
  walk_at "wps"
  refine zdv (by decide) ?_
  walk_at "wps"
  refine zdv pos1 ?_
  walk_at "wps"
  obtain⟨js,B,L,_⟩:=I.ex
  have hln:=I.len
  have hly:=I.lay
  have st:=I.thin (zhq (cl/4/(1+(i:Int))))
  refine zu5 PT PP T.build L hn ha T.hleft nla T.nlf hal st.2 (zab (za8 ..) (zab hln hn)) (zab (zbc (Nat.add_comm ..)) (zab hln (zab hn (by decide)))) (zab hly (zab (zav hit) (zab ht3 (by decide)))) rfl fun bs' H'' fw K'=>?_
  exact hnext _ _ trivial (.mk _ fw bs' _ _ _ _ (T.thin K') K'.hfw K'.nfw (Ne.symm K'.d3) st.1)
 ·clear T ha nla hal I
  intro l' H' hI
  obtain⟨v7,la,bs,s,left,act,_,T,ha,nla,hal,I⟩:=hI
  rw[zac,zap] at I
  exact tel0_ok (d:=d+1) PP hn hcl T ha (I.mono ht3) hq
end
section
variable {c:Cx}{q:Bool}{d:Nat}{Q:V->Hp->Prop}{E:XPost}{H:Hp}
theorem zoj(P:Has c "_law_telling" 2 16 zfi)(PT:Has c "_law_thinner" 6 8 zei)(PP:Has c "_law_place" 5 6 zc4){cell:Int}{n:Nat}(hn1:1<=n)(hn:n<=64)(hc:q=true)
  (hq:∀a bs net H',Told n net->NetAt H' a bs net->Stay [] H H'->(∀b∈a::bs,H.length<=b)->(a::bs).Nodup->Q (.lst a) H') :
  Calls c q (d+3) "_law_telling" [.int cell,.int n] none Q E H:=by
 subst hc
 refine P true (d+2) _ Q E H rfl ?_
 rw[tel_eq]
 refine Ss_go ?_
 walk_at "wps"
 refine zdt (by decide) ?_
 walk_at "wps"
 refine zcn (by decide) ?_
 have hcl:0<=cell*48271%2147483647:=Int.emod_nonneg _ (by decide)
 walk_at "wps"
 generalize cell*48271%2147483647=cl at hcl
 refine zcq (mul_zero zcf (zaw hn (by decide))) fun dn H1 N1=>?_
 walk_at "wps"
 refine zcq (mul_zero zcf (zaw hn (by decide))) fun rd H2 N2=>?_
 walk_at "wps"
 refine Opt.mk (zcv (zaw hn (by decide))) ?_
 walk_at "wps"
 refine zcq (ziv (zaw hn (by decide))) fun la H3 N3=>?_
 have a1:Stay [] (H++[[]]) H1:=Stay.refl.app.app.trans0 N1.st
 have a2:Stay [] H1 H3:=Stay.refl.app.trans0 (N2.st.trans0 N3.st)
 have b1:=(Stay.refl (S:=[]) (H:=H)).app (xs:=[])
 have g1:H.length<(H++[[]]).length:=zc7 zcf
 have g2:(H++[[]]).length<(H++[[]]++[[]]).length:=zc7 zcf
 have g3:(H++[[]]).length<dn:=zay g2 (zab (Stay.refl (S:=[])).app.len N1.lo)
 have g4:dn<rd:=zay (zc7 N1.hold) (zab (Stay.refl (S:=[])).app.len N2.lo)
 have g5:rd<la:=zay (zc7 N2.hold) N3.lo
 have T:TelSt H H3 H.length dn rd (H++[[]]).length [] (PS.init n) []:=
  ⟨⟨at0 (a1.trans0 a2) zcf,rfl,(fun _ _ _ h=>nomatch h),at0 a2 N1.hold,at0 N3.st N2.hold,
   ⟨by exact Ar.ar2 [_,_,_] [] 0x10a52800308040184030102000000 (Y8 (Y2 V0 V1) J0) (Y1 V0 V2) (Y1 V2 V1) g1 g3,by exact Ar.ar3 [_,_,_,_] [] 0x4294a5000610080308060184040102000000 (Y8 (Y2 V0 V1) J0) (Y1 V0 V2) (Y1 V2 V3) (Y1 V3 V1) g1 g3 g4,zbo,by exact Ar.ar1 [_,_] [] 0x429400184020102000000 (Y8 (Y2 V0 V1) J0) (Y1 V0 V1) g4,zbo,zbo,List.nodup_nil⟩⟩,
   at0 a2 (at0 (Stay.refl.app.trans0 N1.st) zcf),not4 (by exact Ar.ar1 [_,_] [] 0x4294001840200c2000000 (Y8 (Y2 V0 V1) J0) (Y1 V1 V0) g1) (by exact Ar.ar1 [_,_] [] 0x429400184020102000000 (Y8 (Y2 V0 V1) J0) (Y1 V0 V1) g3) (by exact Ar.ar2 [_,_,_] [] 0x10a52800308040184030102000000 (Y8 (Y2 V0 V1) J0) (Y1 V0 V2) (Y1 V2 V1) g3 g4) zbo,b1.trans0 (a1.trans0 a2),mem4 (zaf _) (by exact Ar.ar2 [_,_,_] [] 0x294a000c20000610040308040 (Y0 V0 V1) (Y1 V0 V2) (Y1 V2 V1) g1 g3) (by exact Ar.ar3 [_,_,_,_] [] 0xa5294001840000c20080610080308060 (Y0 V0 V1) (Y1 V0 V2) (Y1 V2 V3) (Y1 V3 V1) g1 g3 g4) (fun _ h=>nomatch h),by exact Ar.ar1 [_,_] [] 0xa5000610000308020 (Y0 V0 V1) (Y1 V0 V1) g1⟩
 exact telT_ok (d:=d) PT PP hn hcl T N3.hold (not4 (by exact Ar.ar4 [_,_,_,_,_] [] 0x10a5294a000c201006100c03080801840500c2000000 (Y8 (Y2 V0 V1) J0) (Y1 V1 V2) (Y1 V2 V3) (Y1 V3 V4) (Y1 V4 V0) g1 g3 g4 g5) (by exact Ar.ar2 [_,_,_] [] 0x10a528003080401840300c2000000 (Y8 (Y2 V0 V1) J0) (Y1 V1 V2) (Y1 V2 V0) g4 g5) (by exact Ar.ar1 [_,_] [] 0x4294001840200c2000000 (Y8 (Y2 V0 V1) J0) (Y1 V1 V0) g5) zbo) (by exact Ar.ar3 [_,_,_,_] [] 0x4294a50006100803080601840400c2000000 (Y8 (Y2 V0 V1) J0) (Y1 V1 V2) (Y1 V2 V3) (Y1 V3 V0) g3 g4 g5) (TurnInv.init n) fun a bs' H' l' net Tn N s2 fr nd=>hq a bs' net H' Tn N s2 fr nd
end
end Bn
namespace Bn
open PySem
theorem zo8{α:Type}(f:α->α->α){y:List (Nat×Nat)}{l h:Nat}(hn:((y++[(l,h)]).map (·.2)).Nodup)(σ:Nat->α):zco f (y++[(l,h)]) σ=fun x=>if x=h then f (σ l) (σ h) else zco f y σ x:=by
 funext x
 rw[zat,List.nodup_append] at hn
 have hnh:∀p∈y,p.2≠h:=fun p hp e=>hn.2.2 p.2 (zak.mpr ⟨p,hp,rfl⟩) h zae e
 unfold zco
 rw[List.find?_append]
 by_cases e:x=h
 ·subst e
  rw[List.find?_eq_none.mpr fun p hp q=>hnh p hp (beq_iff_eq.mp q),if_pos rfl,List.find?_cons_of_pos (p:=fun p:Nat×Nat=>p.2==x) (a:=(l,x)) (beq_iff_eq.mpr rfl)];rfl
 ·rw[if_neg e,List.find?_cons_of_neg (p:=fun p:Nat×Nat=>p.2==x) (a:=(l,h)) (fun q=>e (beq_iff_eq.mp q).symm)]
  cases y.find? (fun p=>p.2==x)<;>rfl
section
variable {c:Cx}{q:Bool}{d:Nat}{Q:V->Hp->Prop}{E:XPost}{H H0 H':Hp}
theorem NetAt.stay{S:List Nat}{a:Nat}{bs:List Nat}{net:Net}(N:NetAt H a bs net)(st:Stay S H H')(h:∀b∈a::bs,b∉S):NetAt H' a bs net:=
 ⟨st.at N.top (h a zae),N.len,fun i b y h1 h2=>st.at (N.lay i b y h1 h2) (h b (zai _ (zax h1)))⟩
theorem NetAt.grow{a:Nat}{bs:List Nat}{net:Net}(N:NetAt H a bs net)(st:Stay [] H H'):NetAt H' a bs net:=N.stay st fun _ _=>zbo
inductive NetIt(H:Hp)(a i:Nat)(bs:List Nat)(y:List (Nat×Nat)):Prop
 |mk (b:Nat)(hb:bs[i]?=some b)(hold:H[b]?=some (y.map pr))(ix:idxV H (.lst a) (.int i)=some (.lst b)):NetIt H a i bs y
theorem NetAt.at{a i:Nat}{bs:List Nat}{net:Net}(N:NetAt H a bs net){y:List (Nat×Nat)}(h:net[i]?=some y):NetIt H a i bs y:=
 have hr:=zam (show i<bs.length from N.len▸zcl h)
 ⟨_,hr,N.lay i _ y hr h,zc5 N.top (zk2 hr)⟩
theorem NetAt.get{a i b:Nat}{bs:List Nat}{net:Net}(N:NetAt H a bs net)(h:bs[i]?=some b):∃y,net[i]?=some y/\H[b]?=some (y.map pr):=
 have hr:=zam (show i<net.length from N.len▸zcl h)
 ⟨_,hr,N.lay i _ _ h hr⟩
theorem NetAt.lt{a:Nat}{bs:List Nat}{net:Net}(N:NetAt H a bs net):∀b∈a::bs,b<H.length:=by
 refine za7.mpr ⟨zc7 N.top,fun b hb=>?_⟩
 obtain⟨_,_,h⟩:=N.each hb
 exact zc7 h
theorem zhp{n:Nat}:onQ true (srcV H (.rng 0 n 1))=some ((List.range n).map nat):=congrArg some (zdn n)
end
end Bn
namespace Bn
open PySem
section
variable {c:Cx}{q:Bool}{d:Nat}{Q:V->Hp->Prop}{E:XPost}{H:Hp}
end
end Bn
namespace Bn
open PySem
noncomputable def natL(n:Nat)(σ:Nat->Nat):List Nat:=(List.range n).map σ
theorem zib{n:Nat}{σ:Nat->Nat}:(natL n σ).length=n:=by rw[natL,zac,zap]
theorem zjm{n x:Nat}{σ:Nat->Nat}(h:x<n):(natL n σ)[x]?=some (σ x):=by
 rw[natL,zan,zbl h];rfl
theorem natL_set{n h:Nat}{σ:Nat->Nat}{v:Nat}:(natL n σ).set h v=natL n (fun x=>if x=h then v else σ x):=by
 apply List.ext_getElem?
 intro i
 by_cases hi:i<n
 ·rw[zjm hi]
  by_cases e:i=h
  ·subst e;rw[zb0 (by rw[zib];exact hi),if_pos rfl]
  ·rw[zb1 (Ne.symm e),zjm hi,if_neg e]
 ·have hi:=zba hi
  rw[zbq (by rw[zbm,zib];exact hi),zbq (by rw[zib];exact hi)]
theorem zn6{y:List (Nat×Nat)}{r:Net}{B:Nat->Nat}:zc1 (y::r) B=if zc9 B y then zc1 r (zco (fun l _=>l) y B) else none:=rfl
theorem zs9{net:Net}{i:Nat}{y:List (Nat×Nat)}{B:Nat->Nat}(h:zc1 (net.take i) id=some B)(hy:net[i]?=some y)(hn:zc9 B y=false):zc1 net id=none:=by
 rw[zq3 hy,zbd,zc3,h]
 refine(zn6 (y:=y)).trans ?_
 rw[hn];rfl
theorem zst{net:Net}{i:Nat}{y:List (Nat×Nat)}{B:Nat->Nat}(h:zc1 (net.take i) id=some B)(hy:net[i]?=some y)(hn:zc9 B y=true):zc1 (net.take (i+1)) id=some (zco (fun l _=>l) y B):=by
 rw[List.take_add_one,hy,zc3,h]
 refine(zn6 (y:=y)).trans ?_
 rw[hn];rfl
section
variable {c:Cx}{q:Bool}{d:Nat}{Q:V->Hp->Prop}{E:XPost}{H:Hp}
inductive BegInv(H:Hp)(n a:Nat)(net:Net)(i:Nat):Loc->Hp->Prop
 |mk (v3 v4 v5 v6:Option V)(g:Nat)(B:Nat->Nat)(H':Hp)(hg:H'[g]?=some ((natL n B).map nat))(ht:zc1 (net.take i) id=some B)(st:Stay [] H H'):BegInv H n a net i [some (.int n),some (.lst a),some (.lst g),v3,v4,v5,v6,none] H'
inductive BegFor(H:Hp)(n a b g g':Nat)(B:Nat->Nat)(y:List (Nat×Nat)):List (Nat×Nat)->Loc->Hp->Prop
 |mk (r ks:List (Nat×Nat))(v5 v6:Option V)(H':Hp)(he:ks++r=y)(g1:H'[g]?=some ((natL n B).map nat))(g2:H'[g']?=some ((natL n (zco (fun l _=>l) ks B)).map nat))(hl:zc9 B ks=true)(st:Stay [] H H') :
   BegFor H n a b g g' B y r [some (.int n),some (.lst a),some (.lst g),some (.lst b),some (.lst g'),v5,v6,none] H'
theorem zru{α:Type}{f:α->Bool}:∀zs:List α,zkt (zs.map fun x=>V.bool (f x))=some (zs.map f)
 |[]=>rfl
 |z::r=>by
  show(zkt (r.map fun x=>V.bool (f x))).map _=_
  rw[zru r];rfl
theorem zir{a:Nat}{α:Type}{f:α->Bool}{zs:List α}(h:H[a]?=some (zs.map fun x=>V.bool (f x))):onQ true (bltV H .all [.lst a])=some (.bool (zs.all f),H):=by
 show(H[a]?).bind _=_
 rw[h]
 show(zkt (zs.map fun x=>V.bool (f x))).map _=_
 rw[zru]
 show some (V.bool ((zs.map f).all id),H)=_
 rw[List.all_map];rfl
theorem zpr(P:Has c "does_tell" 2 8 zho){a n:Nat}{bs:List Nat}{net:Net}(A:NetAt H a bs net)(hn:n<=64)(hf:Fair n net)(hc:q=true)
  (hq:∀H',Stay [] H H'->Q (.bool (zdx n net)) H'):Calls c q (d+1) "does_tell" [.int n,.lst a] none Q E H:=by
 subst hc
 refine P true d _ Q E H rfl (Ss_go ?_)
 walk_at "wps"
 refine Opt.mk (zcv (zaw hn (by decide))) ?_
 walk_at "wps"
 refine zcq (ziv (zaw hn (by decide))) fun g H1 N1=>?_
 walk_at "wps"
 refine⟨rfl,zfc (v:=.lst a) (fun K E' h=>h) (at0 N1.st A.top) ?_⟩
 refine zd3 (BegInv H n a net) ?_ ?_ (.mk _ _ _ _ g id _ (by rw[natL,List.map_id];exact N1.hold) rfl N1.st)
 ·clear N1
  intro i x l' H' K hx hI hnext hret
  obtain⟨v3,v4,v5,v6,g,B,_,hg,ht,st⟩:=hI
  rw[zan] at hx
  obtain⟨b,hb,rfl⟩:=zaj.mp hx
  obtain⟨y,hy,hby⟩:=(A.grow st).get hb
  have hfy:=hf y (zax hy)
  walk_at "wps"
  refine zcq (zgs hg) fun g' H'' N=>?_
  walk_at "wps"
  have hgg:g≠g':=za3 (zay (zc7 hg) N.lo)
  have hgl:H.length<=g':=zab st.len N.lo
  refine⟨rfl,zfc (v:=.lst b) (fun K E' h=>h) (at0 N.st hby) ?_⟩
  refine zeb (BegFor H n a b g g' B y) ?_ ?_ (.mk _ [] _ _ _ rfl (at0 N.st hg) N.hold rfl (st.trans0 N.st))
  ·clear N hg st hby
   intro p r l' H2 K2 hI hnext2 hret2
   obtain⟨ks,v5,v6,_,he,g1,g2,hl,st⟩:=hI
   obtain⟨pl,ph⟩:=p
   have hpy:(pl,ph)∈y:=by rw[<- he];exact zbz _ zae
   have hpm:=hfy.1 _ hpy
   have he':(ks++[(pl,ph)])++r=y:=by rw[zbd];exact he
   have hnd:=hfy.2
   rw[<- he',zat] at hnd
   have hnd:=(List.nodup_append.mp hnd).1
   refine Opt.mk rfl (Ss_go ?_)
   walk_at "wps"
   refine Opt.mk (zeo g1 (zjm hpm.2)) ?_
   walk_at "wps"
   refine zh7 (fun hne=>?_) (fun heq=>?_)
   ·have hne:¬pl+1=B ph:=fun e=>hne (zbs.mpr e)
    refine Ss_go ?_
    walk_at "wps"
    refine hret2 _ _ _ (hret _ _ _ ?_)
    have hly:zc9 B y=false:=Bool.eq_false_iff.mpr fun e=>hne (zf1.mp e _ hpy)
    have:=hq H2 st
    unfold zdx at this
    rw[zs9 ht hy hly] at this
    exact this
   ·have heq:pl+1=B ph:=zbs.mp heq
    walk_at "wps"
    refine Opt.mk (zeo g1 (zjm (zar hpm.1 hpm.2))) ?_
    walk_at "wps"
    refine Opt.mk (zpt g2 (by rw[zib];exact hpm.2)) ?_
    have st3:=st.set (a:=g') (xs:=((natL n (zco (fun l _=>l) ks B)).set ph (B pl)).map nat) (.inr hgl)
    refine hnext2 _ _ ((A.grow st3).lay i b y hb hy) (.mk _ (ks++[(pl,ph)]) _ _ _ he' (zc0 g1 hgg) ?_ ?_ st3)
    ·rw[zff g2,zo8 _ hnd,natL_set]
    ·refine zf1.mpr fun p hp=>(zau.mp hp).elim (zf1.mp hl p) fun h=>?_
     rw[zah.mp h];exact heq
  ·clear N hg st hby
   intro l' H2 hI
   obtain⟨ks,v5,v6,_,he,g1,g2,hl,st⟩:=hI
   rw[za9] at he
   subst he
   refine Then_go (Ss_go ?_)
   walk_at "wps"
   exact hnext _ _ (A.grow st).top (.mk _ _ _ _ _ _ _ g2 (zst ht hy hl) st)
 ·clear N1
  intro l' H' hI
  obtain⟨v3,v4,v5,v6,g,B,_,hg,ht,st⟩:=hI
  rw[zac,A.len,List.take_length] at ht
  refine Then_go (Ss_go ?_)
  walk_at "wps"
  refine Opt.mk (ze4 hg) ⟨zck (by rw[zac,zib];exact zaw hn (by decide)),?_⟩
  refine zea (I:=fun j acc H2=>H2=H'/\acc=((natL n B).take j).map fun x=>V.bool (decide (x=0))) ?_ ?_ ⟨rfl,rfl⟩
  ·rintro j x acc H2 K hx ⟨rfl,rfl⟩ hK
   rw[zan] at hx
   obtain⟨z,hz,rfl⟩:=zaj.mp hx
   unfold nat
   walk_at "wps"
   refine hK _ _ hg ⟨rfl,?_⟩
   rw[List.take_add_one,hz,zat]
   exact congrArg (fun b=>List.map _ _++[V.bool b]) (zku (a:=z) (b:=0))
  ·rintro acc H2 ⟨rfl,rfl⟩
   rw[zac,List.take_length]
   refine Opt.mk (zir zcf) ?_
   have e:zdx n net=(natL n B).all fun x=>decide (x=0):=by
    unfold zdx natL
    rw[ht,List.all_map];rfl
   rw[<- e]
   exact hq _ st.app
theorem s_tells(P:Has c "tells" 2 2 zt8)(PD:Has c "does_tell" 2 8 zho)(C:Checks c){a n:Nat}{bs:List Nat}{net:Net}(A:NetAt H a bs net)(hn1:1<=n)(hn:n<=64)(ho:zhe n net)(hc:q=true)
  (hq:∀H',Stay [] H H'->Q (.bool (zdx n net)) H'):Calls c q (d+5) "tells" [.int n,.lst a] none Q E H:=by
 subst hc
 refine P true (d+4) _ Q E H rfl (Ss_go ?_)
 walk_at "wps"
 refine zg2 C ⟨hn1,hn⟩ A ho rfl ?_
 walk_at "wps"
 exact zpr PD A hn ho.fair rfl hq
end
end Bn
namespace Bn
open PySem
section
variable {H:Hp}{ok:Hp->Prop}{l:Loc}{i:Nat}{Q:List V->Hp->Prop}
theorem zp4{g:Nat}{rs:List Nat}{gs:Net}(G:NetAt H g rs gs)(hi:i<l.length)(hok:∀H',Stay [] H H'->ok H')(hq:∀cs H',Rows H H' cs (gs.map fun y=>y.map pr)->Q (cs.map .lst) H') :
  zey ok (zkf (fun l' Q H=>Q true H) (fun l' Q H=>Opt (l'.getD i none) fun v=>Opt (bltV H .list [v]) fun p=>Q p.1 p.2) (.one i) l) (rs.map .lst) [] Q H:=by
 refine zpn hi (by rw[zac];exact G.len) (fun j b y h1 h2=>?_) hok hq
 rw[zan] at h2
 obtain⟨z,hz,rfl⟩:=zaj.mp h2
 exact G.lay j b z h1 hz
theorem zcu{α:Type}{W:Loc->(V->Hp->Prop)->Hp->Prop}{t:Tg}{f g:α->V}{xs:List α}(hok:ok H)(he:∀x∈xs,∀K:V->Hp->Prop,K (g x) H->Opt (zgq t (f x) l) fun l'=>W l' K H)(hq:Q (xs.map g) H) :
  zey ok (zkf (fun l' Q H=>Q true H) W t l) (xs.map f) [] Q H:=by
 refine zea (I:=fun j acc H2=>H2=H/\acc=(xs.take j).map g) ?_ ?_ ⟨rfl,rfl⟩
 ·rintro j x acc H2 K hx ⟨rfl,rfl⟩ hK
  rw[zan] at hx
  obtain⟨z,hz,rfl⟩:=zaj.mp hx
  refine he z (zax hz) _ (hK _ _ hok ⟨rfl,?_⟩)
  rw[List.take_add_one,hz,zat];rfl
 ·rintro acc H2 ⟨rfl,rfl⟩
  rw[zac,List.take_length]
  exact hq
end
end Bn
namespace Bn
open PySem
section
variable {c:Cx}{q:Bool}{d:Nat}{Q:V->Hp->Prop}{E:XPost}{H H':Hp}
end
end Bn
namespace Bn
open PySem
section
variable {c:Cx}{q:Bool}{d:Nat}{Q:V->Hp->Prop}{E:XPost}{H:Hp}
theorem zdg{a b:Nat}{K:V×Hp->Prop}(hb:0<b)(h:K (.int (a%b:Nat),H)):Opt (binV H .mod (.int a) (.int b)) K:=zcn (zaq.mpr hb) (Int.natCast_emod a b▸h)
theorem zdq{a b:Nat}{K:V×Hp->Prop}(hb:0<b)(h:K (.int (a/b:Nat),H)):Opt (binV H .div (.int a) (.int b)) K:=zdv (zaq.mpr hb) (Int.natCast_ediv a b▸h)
theorem NetAt.ofz{a:Nat}{zs:List (Nat×List (Nat×Nat))}(top:H[a]?=some ((zs.map (·.1)).map V.lst))(h:∀p∈zs,H[p.1]?=some (p.2.map pr)):NetAt H a (zs.map (·.1)) (zs.map (·.2)):=by
 refine⟨top,by rw[zac,zac],fun i b y h1 h2=>?_⟩
 rw[zan] at h1 h2
 obtain⟨p,hp,rfl⟩:=zaj.mp h1
 rw[hp] at h2
 obtain rfl:=zaa h2
 exact h p (zax hp)
theorem NetAt.zs{a:Nat}{bs:List Nat}{net:Net}(N:NetAt H a bs net):∃zs:List (Nat×List (Nat×Nat)),zs.map (·.1)=bs/\zs.map (·.2)=net/\∀p∈zs,H[p.1]?=some (p.2.map pr):=by
 refine⟨bs.zip net,List.map_fst_zip (zbc N.len),List.map_snd_zip (zbc N.len.symm),fun p hp=>?_⟩
 obtain⟨i,hi⟩:=List.mem_iff_getElem?.mp hp
 have h1:=List.getElem?_zip_eq_some.mp hi
 exact N.lay i p.1 p.2 h1.1 h1.2
end
end Bn
namespace Bn
open PySem
section
variable {c:Cx}{q:Bool}{d:Nat}{Q:V->Hp->Prop}{E:XPost}{H:Hp}
theorem NetAt.append{a b a':Nat}{bs cs:List Nat}{x y:Net}(N:NetAt H a bs x)(M:NetAt H b cs y)(top:H[a']?=some (bs.map V.lst++cs.map .lst)):NetAt H a' (bs++cs) (x++y):=by
 obtain⟨zs,z1,z2,z3⟩:=N.zs
 obtain⟨ws,w1,w2,w3⟩:=M.zs
 have:NetAt H a' ((zs++ws).map (·.1)) ((zs++ws).map (·.2)):=by
  refine NetAt.ofz ?_ fun p hp=>(zau.mp hp).elim (z3 p) (w3 p)
  rw[top,<-z1,<-w1,zat,zat]
 rw[zat,zat,z1,z2,w1,w2] at this
 exact this
theorem block_eq{h:Nat}{ls:List Nat}:((ze1 (h,ls)).map fun y=>y.map pr)=ls.map fun x=>[pr (x,h)]:=by rw[ze1,za0];rfl
theorem zs0{i j h:Nat}{ls:List Nat}{l:Loc}{ok:Hp->Prop}{Q:List V->Hp->Prop}(hi:i<l.length)(hij:j≠i)(hj:l.getD j none=some (.int h))(hok:∀H',Stay [] H H'->ok H')(hq:∀cs H',Rows H H' cs ((ze1 (h,ls)).map fun y=>y.map pr)->Q (cs.map .lst) H') :
  zey ok (zkf (fun l' Q H=>Q true H) (fun l' Q H=>Opt (l'.getD i none) fun v=>Opt (l'.getD j none) fun w=>Q (.lst H.length) (H++[[.tup [v,w]]])) (.one i) l) (ls.map nat) [] Q H:=by
 rw[block_eq] at hq
 refine zd1 (ls.map fun x=>[pr (x,h)]) (by rw[zac,zac]) ?_ hok hq
 intro k x y acc H' K hx hy st hK
 rw[zan] at hx hy
 obtain⟨z,hz,rfl⟩:=zaj.mp hx
 rw[hz] at hy
 obtain rfl:=zaa hy
 walk_at "wps"
 refine Opt.mk (zni hi) (Opt.mk (a:=.int h) ?_ (hK _ _ Stay.refl.app zcf (zaf _)))
 rw[zas,zb1 (Ne.symm hij),<-zas];exact hj
theorem rev_lst{a:Nat}{xs:List V}(h:H[a]?=some xs):revV H (.lst a)=some (.lst H.length,H++[xs.reverse]):=by
 show(H[a]?).map _=_
 rw[h];rfl
structure Blocks(n k:Nat)(bl:List (Nat×List Nat)):Prop where
 len:bl.length=k
 at':∀(i:Nat) (p:Nat×List Nat),bl[i]?=some p->p.1+i+1=n/\p.2.length=p.1/\∀l∈p.2,l<p.1
 tot:(bl.flatMap ze1).length+tri (n-1-k)=tri (n-1)
theorem Blocks.ok{n k:Nat}{bl:List (Nat×List Nat)}(B:Blocks n k bl)(hn:n<=12):zhe n (bl.flatMap ze1):=by
 refine⟨by have:=B.tot;have:=tri_le (n-1) (by exact Ar.ar1 [_] [] 0x68214a50006101803080601840000005294001840400c20280610000508001 (Y0 (Y2 V0 J1) (.l 11)) (Y0 V0 (.l 12)) hn);exact Ar.ar2 [_,_,_] [] 0x294a000c20000610080308020 (Y0 V0 (.l 80)) (Y0 V1 (.l 66)) (Y2 (Y0 V0 V2) V1) this (by assumption),fun y hy=>?_⟩
 obtain⟨p,hp,hy⟩:=List.mem_flatMap.mp hy
 obtain⟨l,hl,rfl⟩:=zak.mp hy
 obtain⟨i,hi⟩:=List.mem_iff_getElem?.mp hp
 obtain⟨h1,h2,h3⟩:=B.at' i p hi
 exact ok_one (h3 l hl) (by exact Ar.ar1 [_,_,_] [] 0xa5000610000308020 (Y1 V0 V1) (Y2 (Y0 (Y0 V0 V2) J1) V1) h1)
theorem Blocks.long{n k:Nat}{bl:List (Nat×List Nat)}(B:Blocks n k bl)(hn:n<=12)(x:Nat):lenN (bl.flatMap ze1) x<=12:=
 zrs (M:=11) (bs:=bl) (h:=n) (σ:=fun _=>1) (fun i p hp=>⟨(B.at' i p hp).1,(B.at' i p hp).2.2⟩) (fun i p hp=>by have:=B.at' i p hp;exact Ar.ar3 [_,_,_,_] [] 0xa5294001840000c20080610080308060 (Y0 V0 (.l 11)) (Y0 V1 (.l 12)) (Y2 (Y0 (Y0 V2 V3) J1) V1) (Y2 V0 V2) hn this.1 this.2.1) (fun _ _=>rfl) (fun _=>by exact Ar.ar0 [] [] 171801870336 (Y0 J1 (.l 12))) x
theorem zrp{p:Nat×List Nat}:[p].flatMap ze1=ze1 p:=by rw[zb4,List.flatMap_nil,za9]
theorem Blocks.snoc{n k h:Nat}{bl:List (Nat×List Nat)}{ls:List Nat}(B:Blocks n k bl)(hk:k<n-1)(hh:n-1-k=h)(hl:ls.length=h)(hls:∀x∈ls,x<h):Blocks n (k+1) (bl++[(h,ls)]):=by
 refine⟨by rw[zao,B.len];rfl,fun i p hp=>?_,?_⟩
 ·rcases zeg hp with hp |⟨e,rfl⟩
  ·exact B.at' i p hp
  ·have:=B.len
   exact⟨by show h+i+1=n;exact Ar.ar4 [_,_,_,_,_] [] 0x1868214a000c20400610040000d04294001840c00c2000000294a5294002040b00c206006103403081001840400c20000a309420104a100823194a5294a000c204808102804081601840600c202006100405184a10082508041 (Y2 (Y0 (Y0 V0 V1) J1) V2) (Y1 V3 (Y2 V2 J1)) (Y2 (Y2 (Y2 V2 J1) V3) V0) (Y2 V1 V4) (Y2 V4 V3) hk hh e this,hl,hls⟩
 ·have:=B.tot
  rw[List.flatMap_append,zao,zrp,ze1,zac,hl]
  rw[show n-1-k=(n-1-(k+1))+1 by exact Ar.ar1 [_,_] [] 0x30d04294001840800c2000000194a50006101c03080601840101461004250800128425080011a064294a50006102c03081201840300c20080602842508001194a50006101c0308060184010142128400094610042508001 (Y2 (Y2 (Y2 V0 J1) V1) (Y0 (Y2 (Y2 V0 J1) (Y0 V1 J1)) J1)) (Y1 V1 (Y2 V0 J1)) hk,tri_succ] at this
  exact Ar.ar3 [_,_,_,_,_,_] [] 0x30d04294001840800c2000000194a5294002040a00c205806101c0308060184010146101025080a129025080a11a064294a5294001840b00c206008103403081201840300c200806029025080a1194a5294001840a010205806101c03080601840101481284050946101025080a1 (Y2 (Y0 (Y0 V0 V1) V2) V3) (Y1 V4 (Y2 V5 J1)) (Y2 (Y2 (Y2 V5 J1) V4) V1) (Y2 (Y0 V0 (Y0 (Y0 (Y2 (Y2 V5 J1) (Y0 V4 J1)) J1) V2)) V3) hk hh this
inductive SlowInv(H:Hp)(n cell k:Nat):Loc->Hp->Prop
 |mk (v3 v4 v5 v6:Option V)(nt:Nat)(bs:List Nat)(bl:List (Nat×List Nat))(H':Hp)(N:NetAt H' nt bs (bl.flatMap ze1))(B:Blocks n k bl)(st:Stay [] H H'):SlowInv H n cell k [some (.int n),some (.int cell),some (.lst nt),v3,v4,v5,v6,none] H'
theorem zj3{n cell k h nt v5:Nat}{bs:List Nat}{bl:List (Nat×List Nat)}{ls:List Nat}{v3 v6:Option V}{K:SPost}{EE:SX}{H2:Hp}(hn:n<=12)(hk:k<n-1)(hh:n-1-k=h)(hv:H2[v5]?=some (ls.map nat))(hl:ls.length=h)(hls:∀x∈ls,x<h)(N:NetAt H2 nt bs (bl.flatMap ze1))(B:Blocks n k bl)(st:Stay [] H H2)
  (hK:∀l' H',SlowInv H n cell (k+1) l' H'->K .next l' H') :
  wpSs (Calls c) true d none [.set 2 (.bin .add (.var 2) (.comp (.list [(.tup [(.var 7),(.var 4)])]) (.one 7) (.var 5) []))] K EE [some (.int n),some (.int cell),some (.lst nt),v3,some (.int h),some (.lst v5),v6,none] H2:=by
 refine Ss_go ?_
 walk_at "wps"
 refine Opt.mk (ze4 hv) ⟨zck (by rw[zac];exact Ar.ar3 [_,_,_,_] [] 0x3194a5294a000c203006101c04081001840900c201806100005104a10042508021 (Y1 V0 (.l 100000)) (Y0 V1 (.l 12)) (Y2 (Y2 (Y2 V1 J1) V2) V3) (Y2 V0 V3) hn hh hl),?_⟩
 refine zs0 (Nat.le_of_ble_eq_true rfl) (by decide) rfl (fun H' st=>at0 st hv) fun cs H3 RR=>?_
 have N3:=RR.net
 have st3:=RR.st.app (xs:=cs.map .lst)
 generalize H3++[cs.map .lst]=H3' at N3 st3
 generalize H3.length=a3 at N3
 clear RR
 have N2:=N.grow st3
 have htot:=B.tot
 have ht:=tri_le (n-1) (by exact Ar.ar1 [_] [] 0x68214a50006101803080601840000005294001840400c20280610000508001 (Y0 (Y2 V0 J1) (.l 11)) (Y0 V0 (.l 12)) hn)
 have hz2:=N.len
 have hz3:cs.length=h:=by rw[N3.len,ze1,zac,hl]
 walk_at "wps"
 refine zcq (zef N2.top N3.top (by rw[zac,zac];exact Ar.ar6 [_,_,_,_,_,_,_,_] [] 0xc65294a5294a50006101803080e02040800c204806102803081601840c00c201806100005184a10082508041 (Y1 (Y0 V0 V1) (.l 100000)) (Y0 V2 (.l 12)) (Y2 (Y2 (Y2 V2 J1) V3) V4) (Y2 (Y0 V5 V6) (.v 7)) (Y0 (.v 7) (.l 66)) (Y2 V0 V5) (Y2 V1 V4) hn hh htot ht hz2 hz3)) fun a4 H4 N4=>?_
 walk_at "wps"
 refine hK _ _ (.mk _ _ _ _ a4 (bs++cs) (bl++[(h,ls)]) _ ?_ (B.snoc hk hh hl hls) (st.trans0 (st3.trans0 N4.st)))
 rw[List.flatMap_append,zrp]
 exact(N2.grow N4.st).append (N3.grow N4.st) N4.hold
theorem s_slow(P:Has c "_law_slow" 2 8 zld){n cell:Nat}(hn1:1<=n)(hn:n<=12)(hc:q=true)
  (hq:∀a bs H' net,NetAt H' a bs net->zhe n net->(∀x,lenN net x<=12)->Stay [] H H'->Q (.lst a) H'):Calls c q (d+1) "_law_slow" [.int n,.int cell] none Q E H:=by
 subst hc
 refine P true d _ Q E H rfl (Ss_go ?_)
 have en:((n:Int)-1)=((n-1:Nat):Int):=by exact Ar.ar1 [_] [] 0x6194a000c201806100405080011a085294001840800c203006100400014a000c20200610000508001 (Y5 (Y2 (Y4 V0 J0) J1) (Y4 (Y2 V0 J1) J0)) (Y0 J1 V0) hn1
 walk_at "wps"
 refine⟨rfl,zfc (v:=.rng 0 ((n-1:Nat):Int) 1) (items:=(List.range (n-1)).map nat) (fun K E' h=>by walk_at "wps";rw[en];exact Opt.mk (zcv (by exact Ar.ar2 [_] [] 0x294a000c20000610040408040 (Y1 (Y2 V0 J1) (.l 100000)) (Y0 V0 (.l 12)) (Y5 (Y2 (Y4 V0 J0) J1) (Y4 (Y2 V0 J1) J0)) hn en)) h) (congrArg some (zdn _)) ?_⟩
 refine zd3 (SlowInv H n cell) ?_ ?_ (.mk _ _ _ _ H.length [] [] _ ⟨zcf,rfl,fun _ _ _ h=>nomatch h⟩ ⟨rfl,(fun _ _ h=>nomatch h),Nat.zero_add _⟩ Stay.refl.app)
 ·intro k x l' H' K hx hI hnext hret
  obtain⟨v3,v4,v5,v6,nt,bs,bl,_,N,B,st⟩:=hI
  have hk:=zcl hx
  rw[zac,zap] at hk
  rw[zan,zbl hk] at hx
  obtain rfl:=zaa hx
  have hnext:=fun l' H' h=>hnext l' H' trivial h
  unfold nat
  walk_at "wps"
  rw[show((n:Int)-1-(k:Int))=((n-1-k:Nat):Int) by exact Ar.ar2 [_,_] [] 0x6194a500061014030806018401014212840008d04294001840900c2000000294a0010203006101003080002842508001 (Y5 (Y2 (Y2 (Y4 V0 J0) J1) (Y4 V1 J0)) (Y4 (Y2 (Y2 V0 J1) V1) J0)) (Y5 (Y2 (Y4 V0 J0) J1) (Y4 (Y2 V0 J1) J0)) (Y1 V1 (Y2 V0 J1)) en hk]
  generalize hh:n-1-k=h
  refine Opt.mk (zcv (by exact Ar.ar3 [_,_,_] [] 0x3294a5280030806018404010202808101803080002882508021 (Y1 V0 (.l 100000)) (Y0 V1 (.l 12)) (Y5 (Y2 (Y4 V1 J0) J1) (Y4 (Y2 V1 J1) J0)) (Y2 (Y2 (Y2 V1 J1) V2) V0) hn en hh)) ?_
  walk_at "wps"
  refine zcq (ziv (by exact Ar.ar3 [_,_,_] [] 0x3294a5280030806018404010202808101803080002882508021 (Y1 V0 (.l 100000)) (Y0 V1 (.l 12)) (Y5 (Y2 (Y4 V1 J0) J1) (Y4 (Y2 V1 J1) J0)) (Y2 (Y2 (Y2 V1 J1) V2) V0) hn en hh)) fun a1 H1 N1=>?_
  walk_at "wps"
  refine zcq (rev_lst N1.hold) fun a2 H2 N2=>?_
  have hv:H2[a2]?=some (((List.range h).reverse).map nat):=by rw[List.map_reverse];exact N2.hold
  have hLl:(List.range h).reverse.length=h:=by rw[List.length_reverse,zap]
  have hLm:∀x∈(List.range h).reverse,x<h:=fun x hx=>za4.mp (List.mem_reverse.mp hx)
  generalize(List.range h).reverse=L at hv hLl hLm
  have st2:=N1.st.trans0 N2.st
  have NN:=N.grow st2
  have st3:=st.trans0 st2
  clear N1 N2 st2
  walk_at "wps"
  refine zdv (by exact Ar.ar0 [_] [] 171801870336 (Y4 J0 (Y0 J1 (Y4 V0 J0)))) ?_
  walk_at "wps"
  refine zcn (by decide) ?_
  walk_at "wps"
  refine zci (fun _=>?_) (fun _=>?_)
  ·walk_at "wps"
   refine zci (fun c2=>?_) (fun _=>?_)
   ·have c2:1<h:=zaq.mp c2
    refine Ss_go ?_
    walk_at "wps"
    rw[show(h:Int)-1=((h-1:Nat):Int) by exact Ar.ar1 [_] [] 0x18652800308060184010142000468214a000c204006100000014a000c20200610000508001 (Y5 (Y2 (Y4 V0 J0) J1) (Y4 (Y2 V0 J1) J0)) (Y1 J1 V0) c2]
    refine zdq (b:=4+h) (by exact Ar.ar0 [_] [] 171801870336 (Y1 J0 (Y0 (.l 4) V0))) ?_
    walk_at "wps"
    refine zdg (by exact Ar.ar1 [_] [] 0x65294001840300c20200610040508001 (Y1 J0 (Y2 V0 J1)) (Y1 J1 V0) c2) ?_
    walk_at "wps"
    have hi:cell/(4+h)%(h-1)<h-1:=Nat.mod_lt _ (by exact Ar.ar1 [_] [] 0x65294001840300c20200610040508001 (Y1 J0 (Y2 V0 J1)) (Y1 J1 V0) c2)
    generalize cell/(4+h)%(h-1)=i at hi
    have hx1:=zam (show i+1<L.length by exact Ar.ar3 [_,_,_] [] 0x68214a000c204006100000014a528003080802040500c20380610000508041 (Y1 (Y0 V0 J1) V1) (Y2 V1 V2) (Y1 J1 V2) (Y1 V0 (Y2 V2 J1)) hLl c2 hi)
    have hx0:=zam (show i<L.length by exact Ar.ar2 [_,_,_] [] 0x194a528003080602040400c20280610000508041 (Y1 V0 V1) (Y2 V1 V2) (Y1 V0 (Y2 V2 J1)) hLl hi)
    generalize L[i+1]=x1 at hx1
    generalize L[i]=x0 at hx0
    refine zcq (zh9 hv) fun a3 H3 N3=>?_
    walk_at "wps"
    have hv3:=at0 N3.st hv
    refine Opt.mk (zeo (i:=i+1) hv3 hx1) ?_
    walk_at "wps"
    refine Opt.mk (zeo hv3 hx0) ?_
    walk_at "wps"
    refine zcq (zef (zee N3.hold) zcf (by rw[zbj,zac];show _+2<_;exact Ar.ar4 [_,_,_,_,_] [] 0xc63294a5294a50006102403081402040b010206006103403080c01840300c2000101080250808128c2508041 (Y1 (Y0 (Y5 V0 V1) J2) (.l 100000)) (Y0 V2 (.l 12)) (Y5 (Y2 (Y4 V2 J0) J1) (Y4 (Y2 V2 J1) J0)) (Y2 (Y2 (Y2 V2 J1) V3) V4) (Y1 V0 (Y2 V4 J1)) hn en hh hi)) fun a4 H4 N4=>?_
    walk_at "wps"
    have st4:=Stay.refl.app.trans0 N4.st
    refine zcq (zg4 (i:=i+2) (at0 st4 hv3)) fun a5 H5 N5=>?_
    walk_at "wps"
    refine zcq (zef (at0 N5.st N4.hold) N5.hold (by rw[zao,zbj,zbr,zac];show _+2+_<_;exact Ar.ar5 [_,_,_,_,_] [] 0x18c63294a5294a5294001840c00c406808203804101e01841000c208806202403080c01840300c20000a31000108501080250808128c2508041 (Y1 (Y0 (Y0 (Y5 V0 V1) J2) (Y2 V1 (Y0 V0 J2))) (.l 100000)) (Y0 V2 (.l 12)) (Y5 (Y2 (Y4 V2 J0) J1) (Y4 (Y2 V2 J1) J0)) (Y2 (Y2 (Y2 V2 J1) V3) V4) (Y2 V1 V4) (Y1 V0 (Y2 V4 J1)) hn en hh hLl hi)) fun a6 H6 N6=>?_
    have st6:=N3.st.trans0 (st4.trans0 (N5.st.trans0 N6.st))
    refine zj3 (ls:=L.take i++[x1,x0]++L.drop (i+2)) hn hk hh ?_ ?_ ?_ (NN.grow st6) B (st3.trans0 st6) hnext
    ·rw[N6.hold,zat,zat,List.map_take,List.map_drop];rfl
    ·rw[zao,zao,zbj,zbr];show _+2+_=_;exact Ar.ar5 [_,_,_,_,_] [] 0x1868214a000c20580610000000d03214a5294001841300c206806102403080401840100c0808401194a528003081e01840b00c2018061000080840128c40004212840208d03214a5294002040b010206006103803080401840000c05204a100c2340ca5294a0010207806104404080601840000c20200a100823294a50008103c03081602040300c20080a310001085010802508061 (Y2 (Y0 (Y0 (Y5 V0 V1) J2) (Y2 V1 (Y0 V0 J2))) V2) (Y5 (Y2 (Y4 V3 J0) J1) (Y4 (Y2 V3 J1) J0)) (Y2 (Y2 (Y2 V3 J1) V4) V2) (Y2 V1 V2) (Y1 J1 V2) (Y1 V0 (Y2 V2 J1)) en hh hLl c2 hi
    ·intro x hx
     rcases zau.mp hx with hx |hx
     ·rcases zau.mp hx with hx |hx
      ·exact hLm x (List.mem_of_mem_take hx)
      ·rcases zal.mp hx with rfl |hx
       ·exact hLm _ (zax hx1)
       ·rw[zah.mp hx];exact hLm _ (zax hx0)
     ·exact hLm x (List.mem_of_mem_drop hx)
   ·exact zj3 hn hk hh hv hLl hLm NN B st3 hnext
  ·exact zj3 hn hk hh hv hLl hLm NN B st3 hnext
 ·intro l' H' hI
  obtain⟨v3,v4,v5,v6,nt,bs,bl,_,N,B,st⟩:=hI
  refine Then_go (Ss_go ?_)
  walk_at "wps"
  exact hq nt bs H' _ N (B.ok hn) (B.long hn) st
end
end Bn
namespace Bn
open PySem
section
variable {c:Cx}{q:Bool}{d:Nat}{Q:V->Hp->Prop}{E:XPost}{H H':Hp}
end
section
variable {c:Cx}{d:Nat}{R:SPost}{E:SX}{H:Hp}
end
end Bn
namespace Bn
open PySem
noncomputable def zju:List St:=[.ret (.comp (.comp (.tup [(.bin .add (.var 3) (.var 1)),(.bin .add (.var 4) (.var 1))]) (.two 3 4) (.var 2) []) (.one 2) (.var 0) [])]
noncomputable def zd9:List St:=[.set 2 (.list []),.loop (.one 3) (.val (.blt .range [(.blt .max [(.blt .len [(.var 0)]),(.blt .len [(.var 1)])])])) [.set 4 (.list []),.loop (.one 5) (.val (.tup [(.var 0),(.var 1)])) [.ite (.cmp (.var 3) [.lt] [(.blt .len [(.var 5)])]) [.expr (.meth .extend (.var 4) [(.idx (.var 5) (.var 3))])] []],.expr (.meth .append (.var 2) [(.var 4)])],.ret (.var 2)]
noncomputable def zk3:List St:=[.set 4 (.call "side_by_side" [(.var 1),(.call "moved" [(.var 3),(.var 0)])]),.expr (.meth .append (.var 4) [(.comp (.tup [(.bin .sub (.var 0) (.lit (.int 1))),(.var 5)]) (.one 5) (.blt .range [(.var 0),(.bin .add (.var 0) (.var 2))]) [])]),.ret (.var 4)]
noncomputable def zoo:List St:=[.set 2 (.list [(.comp (.tup [(.var 3),(.bin .add (.var 3) (.lit (.int 1)))]) (.one 3) (.blt .range [(.lit (.int 0)),(.bin .sub (.var 0) (.lit (.int 1))),(.lit (.int 2))]) [])]),.expr (.meth .extend (.var 2) [(.comp (.comp (.tup [(.bin .add (.bin .mul (.lit (.int 2)) (.var 4)) (.lit (.int 1))),(.bin .add (.bin .mul (.lit (.int 2)) (.var 5)) (.lit (.int 1)))]) (.two 4 5) (.var 3) []) (.one 3) (.var 1) [])]),.ite (.cmp (.var 0) [.gt] [(.lit (.int 2))]) [.expr (.meth .append (.var 2) [(.comp (.tup [(.var 3),(.bin .add (.var 3) (.lit (.int 1)))]) (.one 3) (.blt .range [(.lit (.int 1)),(.bin .sub (.var 0) (.lit (.int 1))),(.lit (.int 2))]) [])])] [],.ret (.var 2)]
noncomputable def zh2:List St:=[.expr (.call "need_lines" [(.var 0)]),.ret (.comp (.list [(.tup [(.var 1),(.bin .add (.var 1) (.lit (.int 1)))])]) (.one 1) (.blt .range [(.bin .sub (.var 0) (.lit (.int 1)))]) [])]
noncomputable def zmd:List St:=[.expr (.call "need_lines" [(.var 0)]),.set 1 (.list []),.set 2 (.lit (.int 1)),.whil (.cmp (.var 2) [.lt] [(.var 0)]) [.expr (.meth .append (.var 1) [(.comp (.tup [(.bin .sub (.var 3) (.var 2)),(.var 3)]) (.one 3) (.blt .range [(.var 2),(.var 0)]) [])]),.set 2 (.bin .mul (.lit (.int 2)) (.var 2))],.ret (.var 1)]
noncomputable def zof:List St:=[.expr (.call "need_lines" [(.var 0)]),.ite (.cmp (.var 0) [.eq] [(.lit (.int 1))]) [.ret (.list [])] [],.set 1 (.bin .div (.bin .add (.var 0) (.lit (.int 1))) (.lit (.int 2))),.ret (.call "parted" [(.var 1),(.call "by_halves" [(.var 1)]),(.bin .sub (.var 0) (.var 1)),(.call "by_halves" [(.bin .sub (.var 0) (.var 1))])])]
noncomputable def zql:List St:=[.expr (.call "need_lines" [(.var 0)]),.ite (.cmp (.var 0) [.eq] [(.lit (.int 1))]) [.ret (.list [])] [],.ret (.call "paired" [(.var 0),(.call "by_pairs" [(.bin .div (.var 0) (.lit (.int 2)))])])]
noncomputable def zpk:List St:=[.expr (.call "need_net" [(.var 0),(.var 1)]),.expr (.call "need_net" [(.var 2),(.var 3)]),.ite (.cmp (.bin .add (.var 0) (.var 2)) [.gt] [(.lit (.int 64))]) [.stuck] [],.ite (.cmp (.bin .add (.blt .max [(.blt .len [(.var 1)]),(.blt .len [(.var 3)])]) (.lit (.int 1))) [.gt] [(.lit (.int 80))]) [.stuck] [],.ret (.call "parted" [(.var 0),(.var 1),(.var 2),(.var 3)])]
end Bn
namespace Bn
open PySem
section
variable {c:Cx}{q:Bool}{d:Nat}{Q:V->Hp->Prop}{E:XPost}{H:Hp}
theorem Fine.short{n:Nat}{net:Net}(F:∀y∈net,zcs n y)(hn:n<=64):∀y∈net,y.length<1000:=fun y hy=>by
 have:=zg3 (F y hy).2 (F y hy).1
 exact Ar.ar2 [_,_] [] 0x294a000c20000610040308040 (Y1 V0 (.l 1000)) (Y0 V1 (.l 64)) (Y0 (Y0 V0 J0) V1) hn this.1
end
end Bn
namespace Bn
open PySem
section
variable {c:Cx}{q:Bool}{d:Nat}{Q:V->Hp->Prop}{E:XPost}{H:Hp}
theorem map_pr(g:Nat×Nat->Nat×Nat)(y:List (Nat×Nat)):(y.map fun p=>pr (g p))=(y.map g).map pr:=by rw[za0];rfl
theorem s_moved(P:Has c "moved" 2 5 zju){a m:Nat}{bs:List Nat}{net:Net}(A:NetAt H a bs net)(hz:net.length<1000)(hyz:∀y∈net,y.length<1000)(hc:q=true)
  (hq:∀a' bs' H',NetAt H' a' bs' (net.map (zc6 m))->Stay [] H H'->Q (.lst a') H'):Calls c q (d+1) "moved" [.lst a,.int m] none Q E H:=by
 subst hc
 refine P true d _ Q E H rfl (Ss_go ?_)
 walk_at "wps"
 refine Opt.mk (ze4 A.top) ⟨zck (by rw[zac,A.len];exact Ar.ar1 [_] [] 0xa5000610000308020 (Y1 V0 (.l 100000)) (Y1 V0 (.l 1000)) hz),?_⟩
 refine zd1 ((net.map (zc6 m)).map fun y=>y.map pr) (by rw[zac,zac,zac,A.len]) ?_ (fun H' st=>at0 st A.top) ?_
 ·intro i x y' acc H' K hx hy' st hK
  rw[zan] at hx
  obtain⟨b,hb,rfl⟩:=zaj.mp hx
  obtain⟨y,hy,hby⟩:=(A.grow st).get hb
  rw[zan,zan,hy] at hy'
  obtain rfl:=zaa hy'
  have hl:=hyz y (zax hy)
  walk_at "wps"
  refine Opt.mk (ze4 hby) ⟨zck (by rw[zac];exact Ar.ar1 [_] [] 0xa5000610000308020 (Y1 V0 (.l 100000)) (Y1 V0 (.l 1000)) hl),?_⟩
  refine zcu (g:=fun p:Nat×Nat=>pr (p.1+m,p.2+m)) hby (fun p hp K hK=>hK) ?_
  exact hK _ _ Stay.refl.app (zcf.trans (congrArg some (map_pr (fun p=>(p.1+m,p.2+m)) y))) (zaf _)
 ·intro cs H' RR
  exact hq _ cs _ RR.net RR.st.app
end
end Bn
namespace Bn
open PySem
theorem zpl:∀{a b:Net} {k:Nat},k<max a.length b.length->(zer a b)[k]?=some (a.getD k []++b.getD k [])
 |[],b,k,h=>by
  have h:k<b.length:=by rw[List.length_nil,Nat.zero_max] at h;exact h
  show b[k]?=some ([]++b.getD k [])
  rw[List.nil_append,zas,zam h];rfl
 |x::a,[],k,h=>by
  have h:k<(x::a).length:=by rw[List.length_nil,Nat.max_zero] at h;exact h
  show(x::a)[k]?=some ((x::a).getD k []++[])
  rw[za9,zas,zam h];rfl
 |x::a,y::b,0,_=>rfl
 |x::a,y::b,k+1,h=>zpl (a:=a) (b:=b) (k:=k) (by rw[zbh,zbh] at h;exact Ar.ar3 [_,_,_,_,_] [] 0x2144214a528003080c01840701020100610000200404214a5294001840600c20380810080308060184000080102884294a528003080c018407010201006100c030800010020210a5294001840600c2038081008030800010020 (Y1 V0 V1) (Y1 (Y0 V0 J1) V2) (Y7 (Y6 (Y2 V1 V3) (Y0 V4 V3)) (Y6 (Y2 V1 V4) (Y0 V3 V4))) (Y7 (Y6 (Y2 V2 (Y0 V3 J1)) (Y0 (Y0 V4 J1) (Y0 V3 J1))) (Y6 (Y2 V2 (Y0 V4 J1)) (Y0 (Y0 V3 J1) (Y0 V4 J1)))) h (Ar.mx _ _) (Ar.mx _ _))
section
variable {c:Cx}{q:Bool}{d:Nat}{Q:V->Hp->Prop}{E:XPost}{H:Hp}
theorem F_cons{ok:Hp->Prop}{body:V->Loc->SPost->Hp->Prop}{x:V}{xs:List V}{Q:SPost}{l:Loc}(h:body x l (Then (fun l' H'=>ok H'/\zi3 ok body xs Q l' H') Q) H):zi3 ok body (x::xs) Q l H:=h
theorem F_nil{ok:Hp->Prop}{body:V->Loc->SPost->Hp->Prop}{Q:SPost}{l:Loc}(h:Q .next l H):zi3 ok body [] Q l H:=h
theorem zj9{a b:Nat}{xs ys:List V}(ha:H[a]?=some xs)(hb:H[b]?=some ys)(hz:xs.length+ys.length<10000):ztx H .extend (.lst a) [.lst b]=some (.none,H.set a (xs++ys)):=by
 show(H[a]?).bind _=_
 rw[ha]
 show(H[b]?).bind _=_
 rw[hb]
 exact if_pos (zav (zar hz (by decide)))
theorem NetAt.push{a e:Nat}{bs:List Nat}{net:Net}{y:List (Nat×Nat)}(N:NetAt H a bs net)(hab:a∉bs)(he:H[e]?=some (y.map pr))(hne:e≠a):NetAt (H.set a (bs.map .lst++[.lst e])) a (bs++[e]) (net++[y]):=by
 refine⟨by rw[zat];exact zff N.top,by rw[zao,zao,N.len];rfl,fun i b z h1 h2=>?_⟩
 rcases zeg h1 with h1 |⟨e,rfl⟩
 ·rcases zeg h2 with h2 |⟨e,rfl⟩
  ·exact zc0 (N.lay i b z h1 h2) fun e=>hab (e▸zax h1)
  ·exact absurd (zcl h1) (by rw[e,N.len];exact zbb _)
 ·rcases zeg h2 with h2 |⟨_,rfl⟩
  ·exact absurd (zcl h2) (by rw[e,N.len];exact zbb _)
  ·exact zc0 he hne
theorem zq1{a k ly:Nat}{bs:List Nat}{net:Net}{xs:List (Nat×Nat)}{l0 l1 l2:Option V}{K:SPost}{EE:SX}(A:NetAt H a bs net)(hl:H[ly]?=some (xs.map pr))(hx:xs.length<2000)(hyz:∀y∈net,y.length<1000)
  (hK:∀H',H'[ly]?=some ((xs++net.getD k []).map pr)->Stay [ly] H H'->K .next [l0,l1,l2,some (.int k),some (.lst ly),some (.lst a)] H') :
  wpSs (Calls c) true d none [.ite (.cmp (.var 3) [.lt] [(.blt .len [(.var 5)])]) [.expr (.meth .extend (.var 4) [(.idx (.var 5) (.var 3))])] []] K EE [l0,l1,l2,some (.int k),some (.lst ly),some (.lst a)] H:=by
 refine Ss_go ?_
 walk_at "wps"
 refine Opt.mk (zdk A.top) ?_
 walk_at "wps"
 rw[zac,A.len]
 refine zci (fun h=>?_) (fun h=>?_)
 ·have hy:=zam (zaq.mp h)
  obtain⟨b,hb,hbH,hbI⟩:=A.at hy
  have hyl:=hyz _ (zax hy)
  have hd:net.getD k []=net[k]'(zaq.mp h):=by rw[zas,hy];rfl
  refine Ss_go ?_
  walk_at "wps"
  refine⟨rfl,?_⟩
  walk_at "wps"
  refine Opt.mk hbI ?_
  walk_at "wps"
  refine Opt.mk (zj9 hl hbH (by rw[zac,zac];exact Ar.ar2 [_,_] [] 0x294a000c20000610040308040 (Y1 (Y0 V0 V1) (.l 10000)) (Y1 V0 (.l 2000)) (Y1 V1 (.l 1000)) hx hyl)) ?_
  walk_at "wps"
  exact hK _ (by rw[hd,zat];exact zff hl) (Stay.refl.set (.inl zae))
 ·walk_at "wps"
  have hd:net.getD k []=[]:=by rw[zas,zbq (zba fun q=>h (zaq.mpr q))];rfl
  exact hK _ (by rw[hd,za9];exact hl) Stay.refl
end
end Bn
namespace Bn
open PySem
section
variable {c:Cx}{q:Bool}{d:Nat}{Q:V->Hp->Prop}{E:XPost}{H:Hp}
inductive SideInv(H:Hp)(a b ls:Nat)(M:Net)(k:Nat):Loc->Hp->Prop
 |mk (v3 v4 v5:Option V)(ds:List Nat)(H':Hp)(N:NetAt H' ls ds (M.take k))(st:Stay [] H H')(ap:ls∉ds):SideInv H a b ls M k [some (.lst a),some (.lst b),some (.lst ls),v3,v4,v5] H'
theorem s_side(P:Has c "side_by_side" 2 6 zd9){a b:Nat}{bs cs:List Nat}{x y:Net}(A:NetAt H a bs x)(B:NetAt H b cs y)(hx:x.length<1000)(hy:y.length<1000)(hxz:∀z∈x,z.length<1000)(hyz:∀z∈y,z.length<1000)(hc:q=true)
  (hq:∀a' bs' H',NetAt H' a' bs' (zer x y)->Stay [] H H'->H.length<=a'->a'∉bs'->Q (.lst a') H'):Calls c q (d+1) "side_by_side" [.lst a,.lst b] none Q E H:=by
 subst hc
 refine P true d _ Q E H rfl (Ss_go ?_)
 walk_at "wps"
 have st1:=(Stay.refl (S:=[]) (H:=H)).app (xs:=[])
 have hmx:max x.length y.length<1000:=Nat.max_lt.mpr ⟨hx,hy⟩
 refine⟨rfl,zfc (v:=.rng 0 (max x.length y.length:Nat) 1) (items:=(List.range (max x.length y.length)).map nat) (fun K E' h=>?_) (congrArg some (zdn _)) ?_⟩
 ·walk_at "wps"
  refine Opt.mk (zdk (at0 st1 A.top)) ?_
  walk_at "wps"
  refine Opt.mk (zdk (at0 st1 B.top)) ?_
  walk_at "wps"
  rw[zac,zac,A.len,B.len]
  refine Opt.mk zno ?_
  walk_at "wps"
  exact Opt.mk (zcv (by exact Ar.ar1 [_] [] 0xa5000610000308020 (Y1 V0 (.l 100000)) (Y1 V0 (.l 1000)) hmx)) h
 refine zd3 (SideInv H a b H.length (zer x y)) ?_ ?_ (.mk _ _ _ [] _ ⟨zcf,rfl,fun _ _ _ h=>nomatch h⟩ st1 zbo)
 ·intro k v l' H' K hv hI hnext hret
  obtain⟨v3,v4,v5,ds,_,N,st,ap⟩:=hI
  have hk:=zcl hv
  rw[zac,zap] at hk
  rw[zan,zbl hk] at hv
  obtain rfl:=zaa hv
  unfold nat
  walk_at "wps"
  have st2:=st.app (xs:=[])
  refine⟨rfl,zfc (v:=.tup [.lst a,.lst b]) (fun K E' h=>h) rfl (F_cons ?_)⟩
  walk_at "wps"
  refine zq1 (xs:=[]) (A.grow st2) zcf (by decide) hxz fun H3 h3 st3=>?_
  refine Then_go ⟨trivial,F_cons ?_⟩
  walk_at "wps"
  have lo:∀{S:List Nat},(∀z∈S,z<H.length)->∀z∈S,z∉[H'.length]:=fun hS z hz hm=>Nat.not_lt.mpr st.len ((zah.mp hm)▸hS z hz)
  have B3:=(B.grow st2).stay st3 (lo fun z hz=>B.lt z hz)
  refine zq1 (xs:=[]++x.getD k []) B3 h3 ?_ hyz fun H4 h4 st4=>?_
  ·rw[List.nil_append,zas]
   cases e:x[k]? with
   |none=>decide
   |some z=>exact zar (hxz z (zax e)) (by decide)
  refine Then_go ⟨trivial,F_nil ?_⟩
  have lo2:∀z∈H.length::ds,z∉[H'.length]:=fun z hz hm=>zbb _ ((zah.mp hm)▸N.lt z hz)
  have N4:=((N.grow (Stay.refl.app (xs:=[]))).stay st3 lo2).stay st4 lo2
  have hne:H'.length≠H.length:=Nat.ne_of_gt (N.lt _ zae)
  have hds:(ds.map V.lst).length<10000:=by rw[zac,N.len,zbj];exact Ar.ar2 [_,_,_] [] 0x194a528003080601840400c20280610000808401 (Y1 (Y5 V0 V1) (.l 10000)) (Y1 V2 (.l 1000)) (Y1 V0 V2) hmx hk
  refine Then_go (Ss_go ?_)
  walk_at "wps"
  refine⟨rfl,?_⟩
  walk_at "wps"
  refine Opt.mk (zdm N4.top hds) ?_
  walk_at "wps"
  have N5:=N4.push ap h4 hne
  rw[List.nil_append] at N5
  have stZ:Stay [] H H4:=(st2.trans st3 fun z hz=>.inr (by rw[zah.mp hz];exact st.len)).trans st4 fun z hz=>.inr (by rw[zah.mp hz];exact st.len)
  refine hnext _ _ trivial (.mk _ _ _ _ _ ?_ (stZ.set (.inr (zaf _))) fun hm=>(zau.mp hm).elim ap fun e=>hne (zah.mp e).symm)
  rw[List.take_add_one,zpl hk];exact N5
 ·intro l' H' hI
  obtain⟨v3,v4,v5,ds,_,N,st,ap⟩:=hI
  rw[zac,zap,<-zhw,List.take_length] at N
  refine Then_go (Ss_go ?_)
  walk_at "wps"
  exact hq _ ds _ N st (zaf _) ap
end
end Bn
namespace Bn
open PySem
section
variable {c:Cx}{q:Bool}{d:Nat}{Q:V->Hp->Prop}{E:XPost}{H:Hp}
theorem range2{m n:Nat}(hm:m<1000)(hn:n<1000):onQ true (bltV H .range [.int m,.int n])=some (.rng m n 1,H):=if_pos (show(m:Int).natAbs<2^31/\(n:Int).natAbs<2^31 by exact Ar.ar2 [_,_] [] 0x6294001840300c20000a5000610080308000 (Y6 (Y1 V0 (.l 2147483648)) (Y1 V1 (.l 2147483648))) (Y1 V0 (.l 1000)) (Y1 V1 (.l 1000)) hm hn)
theorem zqi (m n:Nat):zdw (m:Int) (n:Int) 1=(List.range (n-m)).map fun i=>nat (m+i):=by
 have:(if 0<(1:Int)/\(m:Int)<(n:Int) then(((n:Int)-m-1)/1+1).toNat else 0)=n-m:=by
  split<;>(first |exact Ar.ar2 [_,_,_] [_,_] 0x1904294001840300c200800019085294a50006102003080e01840500c20100610000101c051042140d04294001840700c200800021085294a50006102c03080c02040400c201006100403018080144108468214a000c20380610040001085294a5000610240408100184040102010061004010200510421 (Y2 V0 (Y2 V1 V2)) (Y7 (Y5 (Y4 V0 J0) (Y0 V0 J1)) (Y6 (Y3 (Y0 V0 J1) J0) (Y2 V0 J0))) (Y6 (Y5 (Y0 (Y1 J1 V0) V1) (Y2 (Y2 (Y4 V1 J0) (Y4 V2 J0)) J1)) (Y6 (Y3 J0 V1) (Y4 V1 J1))) (Ar.tn _) (Ar.zd _ (k:=1) (by decide)) |exact Ar.ar1 [_,_] [] 0xc500061000081a08528003080e01840100005294001840500c202006100005084012800308000 (Y2 J0 (Y2 V0 V1)) (Y8 (Y6 (Y4 J0 J1) (Y4 (Y4 V1 J0) (Y4 V0 J0))) J0) (by assumption))
 rw[zdw,this]
 refine zby fun i _=>?_
 rw[Int.mul_one];rfl
theorem zqx {m n:Nat}:onQ true (srcV H (.rng m n 1))=some ((List.range (n-m)).map fun i=>nat (m+i)):=congrArg some (zqi m n)
theorem znm(P:Has c "parted" 4 6 zk3)(PS:Has c "side_by_side" 2 6 zd9)(PM:Has c "moved" 2 5 zju){a b m n:Nat}{bs cs:List Nat}{x y:Net}(A:NetAt H a bs x)(B:NetAt H b cs y)(hm:1<=m)(hmz:m<=64)(hnz:n<=64)(hx:x.length<1000)(hy:y.length<1000)(hxz:∀z∈x,z.length<1000)(hyz:∀z∈y,z.length<1000)(hc:q=true)
  (hq:∀a' bs' H',NetAt H' a' bs' (zdu m x n y)->Stay [] H H'->Q (.lst a') H'):Calls c q (d+2) "parted" [.int m,.lst a,.int n,.lst b] none Q E H:=by
 subst hc
 refine P true (d+1) _ Q E H rfl (Ss_go ?_)
 walk_at "wps"
 refine s_moved PM B hy hyz rfl fun b1 cs1 H1 B1 st1=>?_
 walk_at "wps"
 refine s_side PS (A.grow st1) B1 hx (by rw[zac];exact hy) hxz (fun z hz=>?_) rfl fun a2 ds H2 N2 st2 hlo ap=>?_
 ·obtain⟨w,hw,rfl⟩:=zak.mp hz
  rw[zc6,zac];exact hyz w hw
 have st3:=st1.trans0 st2
 walk_at "wps"
 refine⟨rfl,?_⟩
 walk_at "wps"
 refine Opt.mk (range2 (n:=m+n) (by exact Ar.ar1 [_] [] 0xa5000610000308020 (Y1 V0 (.l 1000)) (Y0 V0 (.l 64)) hmz) (by exact Ar.ar2 [_,_] [] 0x294a000c20000610040308040 (Y1 (Y0 V0 V1) (.l 1000)) (Y0 V0 (.l 64)) (Y0 V1 (.l 64)) hmz hnz)) ?_
 walk_at "wps"
 refine Opt.mk (zqx (H:=H2) (m:=m) (n:=m+n)) ⟨zck (by rw[zac,zap];exact Ar.ar2 [_,_] [] 0xca5294001840300c202006101403080002802308401 (Y1 (Y2 (Y0 V0 V1) V0) (.l 100000)) (Y0 V0 (.l 64)) (Y0 V1 (.l 64)) hmz hnz),?_⟩
 refine zcu (g:=fun i=>pr (m-1,m+i)) trivial (fun i hi K hK=>?_) ?_
 ·walk_at "wps"
  unfold nat
  rw[show(m:Int)-1=((m-1:Nat):Int) by exact Ar.ar1 [_] [] 0x6194a000c201806100405080011a085294001840800c203006100400014a000c20200610000508001 (Y5 (Y2 (Y4 V0 J0) J1) (Y4 (Y2 V0 J1) J0)) (Y0 J1 V0) hm]
  exact hK
 have hy2:(H2++[(List.range (m+n-m)).map fun i=>pr (m-1,m+i)])[H2.length]?=some ((zda m n).map pr):=by
  rw[zcf,zda,za0,zce];rfl
 have st4:=(Stay.refl (S:=[]) (H:=H2)).app (xs:=(List.range (m+n-m)).map fun i=>pr (m-1,m+i))
 have N3:=N2.grow st4
 walk_at "wps"
 refine Opt.mk (zdm N3.top (by rw[zac,N2.len,zhw,zac];exact Ar.ar3 [_,_,_] [] 0x2485294001840300c202806100000010a528003080601840400c2000000 (Y1 V0 (.l 10000)) (Y1 V1 (.l 1000)) (Y1 V2 (.l 1000)) (Y7 (Y6 (Y2 V0 V1) (Y0 V2 V1)) (Y6 (Y2 V0 V2) (Y0 V1 V2))) hx hy (Ar.mx _ _))) ?_
 walk_at "wps"
 exact hq _ _ _ (N3.push ap hy2 (Nat.ne_of_gt (N2.lt _ zae))) ((st3.trans0 st4).set (.inr (zab st1.len hlo)))
end
end Bn
namespace Bn
open PySem
section
variable {c:Cx}{q:Bool}{d:Nat}{Q:V->Hp->Prop}{E:XPost}{H:Hp}
theorem range3{a b:Int}(ha:a.natAbs<1000)(hb:b.natAbs<1000):onQ true (bltV H .range [.int a,.int b,.int 2])=some (.rng a b 2,H):=if_pos (show a.natAbs<2^31/\b.natAbs<2^31/\(0:Int)<2/\(2:Int)<2^31 by exact Ar.ar3 [_,_] [_] 0x6318a50008101803080002800308000294001840400c20000a5000610080308000 (Y6 (Y1 V0 (.l 2147483648)) (Y6 (Y1 V1 (.l 2147483648)) (Y6 (Y4 J0 J2) (Y4 J2 V0)))) (Y1 V0 (.l 1000)) (Y1 V1 (.l 1000)) (Y5 V0 (.l 2147483648)) ha hb (Ar.p31))
theorem zl7(m n k:Nat)(h:(if(m:Int)<(n:Int)-1 then(((n:Int)-1-m-1)/2+1).toNat else 0)=k):zdw (m:Int) ((n:Int)-1) 2=(List.range k).map fun i=>nat (m+i*2):=by
 have:(if 0<(2:Int)/\(m:Int)<(n:Int)-1 then(((n:Int)-1-m-1)/2+1).toNat else 0)=k:=by
  rw[<- h];split<;>split<;>(first |exact Ar.ar0 [_] [] 0x628003080002800308000 (Y2 V0 V0) |exact Ar.ar2 [_,_,_] [] 0x4294001840400c2008020 (Y2 V0 J0) (Y6 (Y4 J0 J2) (Y4 (Y4 V1 J0) (Y2 (Y4 V2 J0) J1))) (Y8 (Y4 (Y4 V1 J0) (Y2 (Y4 V2 J0) J1)) J0) (by assumption) (by assumption) |exact Ar.ar2 [_,_,_] [] 0x1ca50006100c03080002800308000 (Y2 J0 V0) (Y8 (Y6 (Y4 J0 J2) (Y4 (Y4 V1 J0) (Y2 (Y4 V2 J0) J1))) J0) (Y4 (Y4 V1 J0) (Y2 (Y4 V2 J0) J1)) (by assumption) (by assumption) |exact Ar.ar0 [] [] 0x628003080002800308000 (Y2 J0 J0))
 rw[zdw,this]
 refine zby fun i _=>?_
 rfl
theorem src_even{n k:Nat}(hk:k=n/2):onQ true (srcV H (.rng 0 ((n:Int)-1) 2))=some ((List.range k).map fun i=>nat (0+i*2)):=congrArg some (zl7 0 n k (by split<;>(first |exact Ar.ar3 [_,_,_] [_,_] 0x6490a50006100c030802000064214a5294a0010404806201c03100c01840500c20100610000101c061004148c84214a5294a000c405806202403080c02040400c401006100403010070184010464214a5294a000c404806201c04100c01840401020100610040101c0610041 (Y2 V0 V1) (Y2 V1 (Y3 V2 J2)) (Y7 (Y5 (Y4 V0 J0) (Y0 V0 J1)) (Y6 (Y3 (Y0 V0 J1) J0) (Y2 V0 J0))) (Y6 (Y5 (Y0 (Y1 J2 V0) V1) (Y2 (Y2 (Y2 (Y4 V2 J0) J1) (Y4 J0 J0)) J1)) (Y6 (Y3 J0 V1) (Y4 V1 J2))) hk (Ar.tn _) (Ar.zd _ (k:=2) (by decide)) |exact Ar.ar2 [_,_] [] 0x62800308000194a528003100801840500c40100610000610021 (Y2 J0 V0) (Y2 V0 (Y3 V1 J2)) (Y8 (Y4 (Y4 J0 J0) (Y2 (Y4 V1 J0) J1)) J0) hk (by assumption))))
theorem src_odd{n k:Nat}(hk:k=(n-1)/2):onQ true (srcV H (.rng 1 ((n:Int)-1) 2))=some ((List.range k).map fun i=>nat (1+i*2)):=congrArg some (zl7 1 n k (by split<;>(first |exact Ar.ar3 [_,_,_] [_,_] 0xc9214a000c20180610040000c64214a5294a50008203003101401880900c20400610140308040184000040a01420104c2014201052340c85294a50006202c03101201840200c202806100002018402840208c84214a5294a50006203c03101a01840800c203008101003100401840100c0802c06100a100825080411a064294a50006202c03101201840200c2008040308050804119085294a5294001880d00c405808202803080c01840401020100610040102c06100a10082508041 (Y2 V0 V1) (Y2 V1 (Y3 (Y2 V2 J1) J2)) (Y7 (Y5 (Y4 V0 J0) (Y0 V0 J1)) (Y6 (Y3 (Y0 V0 J1) J0) (Y2 V0 J0))) (Y6 (Y5 (Y0 (Y1 J2 V0) V1) (Y2 (Y2 (Y2 (Y4 V2 J0) J1) (Y4 J1 J0)) J1)) (Y6 (Y3 J0 V1) (Y4 V1 J2))) hk (Ar.tn _) (Ar.zd _ (k:=2) (by decide)) |exact Ar.ar2 [_,_] [] 0x628003080001a064294a528003101401880800c20100610140308000100c20142008465294a50006202003081201880600c201006100006100a10042508021 (Y2 J0 V0) (Y2 V0 (Y3 (Y2 V1 J1) J2)) (Y8 (Y4 (Y4 J1 J0) (Y2 (Y4 V1 J0) J1)) J0) hk (by assumption))))
theorem zjx{a b:Int}{K:V×Hp->Prop}(ha:small a=true)(h:K (.int (a*b),H)):Opt (binV H .mul (.int a) (.int b)) K:=Opt.mk (if_pos (by rw[ha,Bool.true_or])) h
theorem NetAt.extend{a b:Nat}{bs cs:List Nat}{x y:Net}(N:NetAt H a bs x)(M:NetAt H b cs y)(h1:a∉bs)(h2:a∉cs):NetAt (H.set a (bs.map .lst++cs.map .lst)) a (bs++cs) (x++y):=by
 obtain⟨zs,z1,z2,z3⟩:=N.zs
 obtain⟨ws,w1,w2,w3⟩:=M.zs
 have:NetAt (H.set a (bs.map .lst++cs.map .lst)) a ((zs++ws).map (·.1)) ((zs++ws).map (·.2)):=by
  refine NetAt.ofz ?_ fun p hp=>(zau.mp hp).elim (fun hp=>zc0 (z3 p hp) fun e=>h1 (z1▸e▸zak.mpr ⟨p,hp,rfl⟩)) fun hp=>zc0 (w3 p hp) fun e=>h2 (w1▸e▸zak.mpr ⟨p,hp,rfl⟩)
  rw[zff N.top,<-z1,<-w1,zat,zat]
 rw[zat,zat,z1,z2,w1,w2] at this
 exact this
theorem s_paired(P:Has c "paired" 2 6 zoo){a n:Nat}{bs:List Nat}{net:Net}(A:NetAt H a bs net)(hn1:1<=n)(hn:n<=64)(hz:net.length<1000)(hyz:∀z∈net,z.length<1000)(hc:q=true)
  (hq:∀a' bs' H',NetAt H' a' bs' (zed n net)->Stay [] H H'->Q (.lst a') H'):Calls c q (d+1) "paired" [.int n,.lst a] none Q E H:=by
 subst hc
 refine P true d _ Q E H rfl (Ss_go ?_)
 walk_at "wps"
 refine Opt.mk (range3 (by decide) (by exact Ar.ar2 [_,_] [] 0x8214a000c201806100000010a528003080601840400c2000000 (Y1 V0 (.l 1000)) (Y0 V1 (.l 64)) (Y7 (Y6 (Y5 (Y4 V0 J0) (Y2 (Y4 V1 J0) J1)) (Y3 J0 (Y2 (Y4 V1 J0) J1))) (Y6 (Y5 (Y4 V0 J0) (Y3 (Y2 (Y4 V1 J0) J1) J0)) (Y3 (Y2 (Y4 V1 J0) J1) J0))) hn (Ar.na _))) ?_
 walk_at "wps"
 refine Opt.mk (src_even (H:=H) (n:=n) rfl) ⟨zck (by rw[zac,zap];exact Ar.ar1 [_] [] 0x65294001880200c20180610000610001 (Y1 (Y3 V0 J2) (.l 100000)) (Y0 V0 (.l 64)) hn),?_⟩
 refine zcu (g:=fun i=>pr (2*i,2*i+1)) trivial (fun i hi K hK=>?_) ?_
 ·walk_at "wps"
  rw[Nat.zero_add,Nat.mul_comm]
  exact hK
 walk_at "wps"
 have N2:NetAt (H++[(List.range (n/2)).map fun i=>pr (2*i,2*i+1)]++[[.lst H.length]]) (H++[(List.range (n/2)).map fun i=>pr (2*i,2*i+1)]).length [H.length] [ztu n]:=by
  refine⟨zcf,rfl,fun i b y h1 h2=>?_⟩
  cases i with
  |zero=>
   obtain rfl:=zaa h1
   obtain rfl:=zaa h2
   rw[zee zcf,ztu,za0];rfl
  |succ i=>cases h1
 have st2:Stay [] H (H++[(List.range (n/2)).map fun i=>pr (2*i,2*i+1)]++[[.lst H.length]]):=Stay.refl.app.app
 have lo2:H.length<(H++[(List.range (n/2)).map fun i=>pr (2*i,2*i+1)]).length:=zc7 zcf
 generalize H++[(List.range (n/2)).map fun i=>pr (2*i,2*i+1)]++[[.lst H.length]]=H2 at N2 st2
 generalize(H++[(List.range (n/2)).map fun i=>pr (2*i,2*i+1)]).length=ls at N2 lo2
 refine⟨rfl,?_⟩
 walk_at "wps"
 have A2:=A.grow st2
 refine Opt.mk (ze4 A2.top) ⟨zck (by rw[zac,A2.len];exact Ar.ar1 [_] [] 0xa5000610000308020 (Y1 V0 (.l 100000)) (Y1 V0 (.l 1000)) hz),?_⟩
 refine zd1 ((net.map oddL).map fun y=>y.map pr) (by rw[zac,zac,zac,A2.len]) ?_ (fun H' st=>at0 st A2.top) ?_
 ·intro i x y' acc H' K hx hy' st hK
  rw[zan] at hx
  obtain⟨b,hb,rfl⟩:=zaj.mp hx
  obtain⟨y,hy,hby⟩:=(A2.grow st).get hb
  rw[zan,zan,hy] at hy'
  obtain rfl:=zaa hy'
  have hl:=hyz y (zax hy)
  walk_at "wps"
  refine Opt.mk (ze4 hby) ⟨zck (by rw[zac];exact Ar.ar1 [_] [] 0xa5000610000308020 (Y1 V0 (.l 100000)) (Y1 V0 (.l 1000)) hl),?_⟩
  refine zcu (g:=fun p:Nat×Nat=>pr (2*p.1+1,2*p.2+1)) hby (fun p hp K hK=>?_) ?_
  ·unfold pr
   walk_at "wps"
   refine zjx (by decide) ?_
   walk_at "wps"
   refine zjx (by decide) ?_
   exact hK
  exact hK _ _ Stay.refl.app (zcf.trans (congrArg some (map_pr (fun p=>(2*p.1+1,2*p.2+1)) y))) (zaf _)
 intro cs H3 RR
 have N3:=RR.net
 have st3:=RR.st.app (xs:=cs.map .lst)
 have hlc:ls∉cs:=fun h=>Nat.not_lt.mpr (RR.fr ls h).1 (N2.lt ls zae)
 generalize H3++[cs.map .lst]=H3' at N3 st3
 generalize H3.length=a3 at N3
 clear RR
 have N2':=N2.grow st3
 have hce:cs.length=net.length:=by rw[N3.len,zac]
 walk_at "wps"
 refine Opt.mk (zj9 N2'.top N3.top (by rw[zac,zac,hce];show 1+_<_;exact Ar.ar1 [_] [] 0xa5000610000308020 (Y1 (Y0 J1 V0) (.l 10000)) (Y1 V0 (.l 1000)) hz)) ?_
 have N4:=N2'.extend N3 (fun h=>Nat.ne_of_gt lo2 (zah.mp h)) hlc
 have st4:=(st2.trans0 st3).set (a:=ls) (xs:=[H.length].map .lst++cs.map .lst) (.inr (zav lo2))
 generalize H3'.set ls ([H.length].map .lst++cs.map .lst)=H4 at N4 st4
 have ap4:ls∉[H.length]++cs:=fun h=>(zau.mp h).elim (fun h=>Nat.ne_of_gt lo2 (zah.mp h)) hlc
 walk_at "wps"
 refine zci (fun h=>?_) (fun h=>?_)
 ·have h2:2<n:=zaq.mp h
  refine Ss_go ?_
  walk_at "wps"
  refine⟨rfl,?_⟩
  walk_at "wps"
  refine Opt.mk (range3 (by decide) (by exact Ar.ar2 [_,_] [] 0x8214a000c201806100000010a528003080601840400c2000000 (Y1 V0 (.l 1000)) (Y0 V1 (.l 64)) (Y7 (Y6 (Y5 (Y4 V0 J0) (Y2 (Y4 V1 J0) J1)) (Y3 J0 (Y2 (Y4 V1 J0) J1))) (Y6 (Y5 (Y4 V0 J0) (Y3 (Y2 (Y4 V1 J0) J1) J0)) (Y3 (Y2 (Y4 V1 J0) J1) J0))) hn (Ar.na _))) ?_
  walk_at "wps"
  refine Opt.mk (src_odd (H:=H4) (n:=n) rfl) ⟨zck (by rw[zac,zap];exact Ar.ar1 [_] [] 0x3194a528003100a01840600c201806100005080013080508001 (Y1 (Y3 (Y2 V0 J1) J2) (.l 100000)) (Y0 V0 (.l 64)) hn),?_⟩
  refine zcu (g:=fun i=>pr (2*i+1,2*i+2)) trivial (fun i hi K hK=>?_) ?_
  ·walk_at "wps"
   rw[Nat.add_comm,Nat.mul_comm]
   exact hK
  have st5:=(Stay.refl (S:=[]) (H:=H4)).app (xs:=(List.range ((n-1)/2)).map fun i=>pr (2*i+1,2*i+2))
  have N5:=N4.grow st5
  walk_at "wps"
  refine Opt.mk (zdm N5.top (by rw[zac,zao,hce];show 1+_<_;exact Ar.ar1 [_] [] 0xa5000610000308020 (Y1 (Y0 J1 V0) (.l 10000)) (Y1 V0 (.l 1000)) hz)) ?_
  walk_at "wps"
  have N6:=N5.push (y:=endL n) ap4 (by rw[zcf,endL,za0];rfl) (Nat.ne_of_gt (N4.lt _ zae))
  refine hq _ ([H.length]++cs++[H4.length]) _ ?_ ((st4.trans0 st5).set (.inr (zav lo2)))
  unfold zed
  rw[if_pos h2];exact N6
 ·walk_at "wps"
  refine hq _ ([H.length]++cs) _ ?_ st4
  unfold zed
  rw[if_neg (fun q=>h (zaq.mpr q)),za9];exact N4
end
end Bn
namespace Bn
open PySem
section
variable {c:Cx}{q:Bool}{d:Nat}{Q:V->Hp->Prop}{E:XPost}{H:Hp}
theorem zpj(P:Has c "one_by_one" 1 2 zh2)(C:Checks c){n:Nat}(hn1:1<=n)(hn:n<=64)(hc:q=true)
  (hq:∀a' bs' H',NetAt H' a' bs' (zfb n)->Stay [] H H'->Q (.lst a') H'):Calls c q (d+3) "one_by_one" [.int n] none Q E H:=by
 subst hc
 refine P true (d+2) _ Q E H rfl (Ss_go ?_)
 walk_at "wps"
 refine zd5 (d:=d) C.among C.lines (zaz.mpr hn1) (zaz.mpr hn) ?_
 walk_at "wps"
 rw[show(n:Int)-1=((n-1:Nat):Int) by exact Ar.ar1 [_] [] 0x6194a000c201806100405080011a085294001840800c203006100400014a000c20200610000508001 (Y5 (Y2 (Y4 V0 J0) J1) (Y4 (Y2 V0 J1) J0)) (Y0 J1 V0) hn1]
 refine Opt.mk (zcv (by exact Ar.ar1 [_] [] 0x65294001840300c20200610000508001 (Y1 (Y2 V0 J1) (.l 100000)) (Y0 V0 (.l 64)) hn)) ?_
 walk_at "wps"
 refine Opt.mk (zhp (H:=H)) ⟨zck (by rw[zac,zap];exact Ar.ar1 [_] [] 0x65294001840300c20200610000508001 (Y1 (Y2 V0 J1) (.l 100000)) (Y0 V0 (.l 64)) hn),?_⟩
 refine zd1 ((zfb n).map fun y=>y.map pr) (by rw[zfb,zac,zac,zac]) ?_ (fun _ _=>trivial) ?_
 ·intro i x y acc H' K hx hy st hK
  rw[zfb,za0,zan] at hy
  rw[zan] at hx
  obtain⟨z,hz,rfl⟩:=zaj.mp hx
  rw[hz] at hy
  obtain rfl:=zaa hy
  exact hK _ _ Stay.refl.app zcf (zaf _)
 ·intro cs H' RR
  exact hq _ cs _ RR.net RR.st.app
structure FnsM(c:Cx):Prop where
 chk:Checks c
 moved:Has c "moved" 2 5 zju
 side:Has c "side_by_side" 2 6 zd9
 parted:Has c "parted" 4 6 zk3
 paired:Has c "paired" 2 6 zoo
 halves:Has c "by_halves" 1 2 zof
 pairs:Has c "by_pairs" 1 1 zql
theorem zf2{n:Nat}{net:Net}(F:∀y∈net,zcs n y)(hn:n<=64):∀z∈net,z.length<1000:=Fine.short F hn
theorem zox{x n:Nat}(h:x<=n-1)(hn:n<=64):x<1000:=zaw (zab h (zab (Nat.sub_le ..) hn)) (by decide)
theorem sub_of{n m k:Nat}(h:n=m+k):(n:Int)-(m:Int)=(k:Int):=by exact Ar.ar1 [_,_,_] [] 0x6294001840200c20000a5000810080308000 (Y5 (Y2 (Y4 V0 J0) (Y4 V1 J0)) (Y4 V2 J0)) (Y2 V0 (Y0 V1 V2)) h
theorem zl3(M:FnsM c):∀(N:Nat){n:Nat}{H:Hp}{d:Nat}{Q:V->Hp->Prop}{E:XPost},1<=n->n<=N->N<=64->(∀a' bs' H',NetAt H' a' bs' (zi8 n)->Stay [] H H'->Q (.lst a') H')->Calls c true (d+N+2) "by_pairs" [.int n] none Q E H
 |0,_,_,_,_,_,h1,h2,_,_=>absurd (zab h1 h2) (by decide)
 |N+1,n,H,d,Q,E,hn1,hn,hN,hq=>by
  have hN':=Nat.le_of_succ_le hN
  refine M.pairs true (d+N+2) _ Q E H rfl (Ss_go ?_)
  walk_at "wps"
  refine zd5 (d:=d+N) M.chk.among M.chk.lines (zaz.mpr hn1) (zaz.mpr (zab hn hN)) ?_
  walk_at "wps"
  refine zci (fun h=>?_) (fun h=>?_)
  ·have h:n=1:=zbs.mp h
   subst h
   refine Ss_go ?_
   walk_at "wps"
   exact hq _ [] _ ⟨zcf,rfl,fun _ _ _ h=>nomatch h⟩ Stay.refl.app
  ·have h:n≠1:=fun e=>h (zbs.mpr e)
   walk_at "wps"
   refine zdq (b:=2) (by decide) ?_
   walk_at "wps"
   obtain⟨m,k,e1,_,h1,h2,_,h4,e2,_,_⟩:=zgh hn1 h hn
   have hp:=zj5 h1 h2 e1 e2
   rw[e2]
   have F:=zl8 k h2
   have hk:=zab h4 hN'
   refine zl3 M N h2 h4 hN' fun a1 bs1 H1 N1 st1=>?_
   walk_at "wps"
   refine s_paired M.paired N1 hn1 (zab hn hN) (zox F.2 hk) (zf2 F.1.ok hk) rfl fun a2 bs2 H2 N2 st2=>?_
   refine hq _ bs2 _ ?_ (st1.trans0 st2)
   rw[hp];exact N2
theorem zf0(M:FnsM c):∀(N:Nat){n:Nat}{H:Hp}{d:Nat}{Q:V->Hp->Prop}{E:XPost},1<=n->n<=N->N<=64->(∀a' bs' H',NetAt H' a' bs' (zfm n)->Stay [] H H'->Q (.lst a') H')->Calls c true (d+N+2) "by_halves" [.int n] none Q E H
 |0,_,_,_,_,_,h1,h2,_,_=>absurd (zab h1 h2) (by decide)
 |N+1,n,H,d,Q,E,hn1,hn,hN,hq=>by
  have hN':=Nat.le_of_succ_le hN
  refine M.halves true (d+N+2) _ Q E H rfl (Ss_go ?_)
  walk_at "wps"
  refine zd5 (d:=d+N) M.chk.among M.chk.lines (zaz.mpr hn1) (zaz.mpr (zab hn hN)) ?_
  walk_at "wps"
  refine zci (fun h=>?_) (fun h=>?_)
  ·have h:n=1:=zbs.mp h
   subst h
   refine Ss_go ?_
   walk_at "wps"
   exact hq _ [] _ ⟨zcf,rfl,fun _ _ _ h=>nomatch h⟩ Stay.refl.app
  ·have h:n≠1:=fun e=>h (zbs.mpr e)
   walk_at "wps"
   refine zdq (a:=n+1) (b:=2) (by decide) ?_
   walk_at "wps"
   obtain⟨m,k,e1,e2,h1,h2,h3,h4,_,_,_⟩:=zgh hn1 h hn
   have hp:=zi9 h1 h2 e1 e2
   rw[e2,sub_of e1]
   have F1:=zfx m h1
   have F2:=zfx k h2
   have hm:=zab h3 hN'
   have hk:=zab h4 hN'
   refine zf0 M N h1 h3 hN' fun a1 bs1 H1 N1 st1=>?_
   walk_at "wps"
   refine zf0 M N h2 h4 hN' fun a2 bs2 H2 N2 st2=>?_
   walk_at "wps"
   refine znm M.parted M.side M.moved (N1.grow st2) N2 h1 hm hk (zox F1.2 hm) (zox F2.2 hk) (zf2 F1.1.ok hm) (zf2 F2.1.ok hk) rfl fun a3 bs3 H3 N3 st3=>?_
   refine hq _ bs3 _ ?_ (st1.trans0 (st2.trans0 st3))
   rw[hp];exact N3
end
end Bn
namespace Bn
open PySem
section
variable {c:Cx}{q:Bool}{d:Nat}{Q:V->Hp->Prop}{E:XPost}{H:Hp}
inductive DblInv(H:Hp)(n ls m:Nat):Loc->Hp->Prop
 |mk (s:Nat)(net:Net)(bs:List Nat)(v3:Option V)(H':Hp)(h1:1<=s)(hm:m+s=2*n)(hok:∀y∈net,zcs n y)(ht:zc1 net id=some (fun x=>if x<n then x+1-s else x))(hl:2*net.length<=s+1)(hl2:net.length<s)(N:NetAt H' ls bs net)(ap:ls∉bs)(st:Stay [] H H') :
   DblInv H n ls m [some (.int n),some (.lst ls),some (.int s),v3] H'
theorem zvb(P:Has c "doubled" 1 4 zmd)(C:Checks c){n:Nat}(hn1:1<=n)(hn:n<=64)(hc:q=true)
  (hq:∀a' bs' H' net,Fine n net->net.length<=80->NetAt H' a' bs' net->Stay [] H H'->Q (.lst a') H'):Calls c q (d+3) "doubled" [.int n] none Q E H:=by
 subst hc
 refine P true (d+2) _ Q E H rfl (Ss_go ?_)
 walk_at "wps"
 refine zd5 (d:=d) C.among C.lines (zaz.mpr hn1) (zaz.mpr hn) ?_
 walk_at "wps"
 refine⟨rfl,.mk (DblInv H n H.length) (2*n-1) (.mk 1 [] [] _ _ (zaf _) (by exact Ar.ar1 [_] [] 0x61a08528003101001840000005280030808018400014202002200ca50006100c03080202840400440 (Y2 (Y0 (Y2 (Y1 J2 V0) J1) J1) (Y1 J2 V0)) (Y0 J1 V0) hn1) (fun _ h=>nomatch h) (dbl_zero n) (by decide) (by decide) ⟨zcf,rfl,fun _ _ _ h=>nomatch h⟩ zbo Stay.refl.app) ?_⟩
 intro m l' H' hI
 obtain⟨s,net,bs,v3,_,h1,hm,hok,ht,hl,hl2,N,ap,st⟩:=hI
 walk_at "wps"
 refine zci (fun h=>?_) (fun h=>?_)
 ·have h:s<n:=zaq.mp h
  refine Ss_go ?_
  walk_at "wps"
  refine⟨rfl,?_⟩
  walk_at "wps"
  refine Opt.mk (range2 (by exact Ar.ar2 [_,_] [] 0x294a000c20000610040308040 (Y1 V0 (.l 1000)) (Y0 V1 (.l 64)) (Y1 V0 V1) hn h) (by exact Ar.ar1 [_] [] 0xa5000610000308020 (Y1 V0 (.l 1000)) (Y0 V0 (.l 64)) hn)) ?_
  walk_at "wps"
  refine Opt.mk (zqx (H:=H') (m:=s) (n:=n)) ⟨zck (by rw[zac,zap];exact Ar.ar1 [_,_] [] 0x65294001840300c20200610000508401 (Y1 (Y2 V0 V1) (.l 100000)) (Y0 V0 (.l 64)) hn),?_⟩
  refine zcu (g:=fun i=>pr (i,i+s)) trivial (fun i hi K hK=>?_) ?_
  ·unfold nat
   walk_at "wps"
   rw[show((s+i:Nat):Int)-(s:Int)=((i:Nat):Int) by exact Ar.ar0 [_,_] [] 0x628003080002800308000 (Y5 (Y2 (Y4 (Y0 V0 V1) J0) (Y4 V0 J0)) (Y4 V1 J0)),Nat.add_comm s i]
   exact hK
  have st5:=(Stay.refl (S:=[]) (H:=H')).app (xs:=(List.range (n-s)).map fun i=>pr (i,i+s))
  have N5:=N.grow st5
  walk_at "wps"
  refine Opt.mk (zdm N5.top (by rw[zac,N.len];exact Ar.ar3 [_,_,_] [] 0xa5294001880000c20080610080308060 (Y1 V0 (.l 10000)) (Y0 V1 (.l 64)) (Y0 (Y1 J2 V0) (Y0 V2 J1)) (Y1 V2 V1) hn hl h)) ?_
  walk_at "wps"
  refine zjx (by decide) ?_
  walk_at "wps"
  refine⟨2*n-2*s,by exact Ar.ar3 [_,_,_] [] 0x1a08528003101201840000005294a000c202006101404080c018400014810880400440 (Y1 (Y2 (Y1 J2 V0) (Y1 J2 V1)) V2) (Y0 J1 V1) (Y2 (Y0 V2 V1) (Y1 J2 V0)) (Y1 V1 V0) h1 hm h,.mk (2*s) (net++[zet n s]) (bs++[H'.length]) _ _ (by exact Ar.ar1 [_] [] 0xa5000610000310020 (Y0 J1 (Y1 J2 V0)) (Y0 J1 V0) h1) (by exact Ar.ar1 [_,_] [] 0x1868214a000c404006100000014a000c202006100005204220100110065280030806018401014810880400440 (Y2 (Y0 (Y2 (Y1 J2 V0) (Y1 J2 V1)) (Y1 J2 V1)) (Y1 J2 V0)) (Y1 V1 V0) h) (fun y hy=>(zau.mp hy).elim (hok y) fun hy=>?_) (dbl_next ht h1) (by rw[zao];show 2*(net.length+1)<=_;exact Ar.ar1 [_,_] [] 0xa5000610000310020 (Y0 (Y1 J2 (Y0 V0 J1)) (Y0 (Y1 J2 V1) J1)) (Y1 V0 V1) hl2) (by rw[zao];show net.length+1<_;exact Ar.ar1 [_,_] [] 0xa5000610000310020 (Y1 (Y0 V0 J1) (Y1 J2 V1)) (Y1 V0 V1) hl2)
   (N5.push ap (by rw[zcf,zet,za0];rfl) (Nat.ne_of_gt (N.lt _ zae))) (fun hm=>(zau.mp hm).elim ap fun e=>za3 (N.lt _ zae) (zah.mp e)) ((st.trans0 st5).set (.inr (zaf _)))⟩
  rw[zah.mp hy];exact dbl_ok h1 h
 ·have h:n<=s:=zba fun q=>h (zaq.mpr q)
  walk_at "wps"
  exact hq _ bs _ net (fine_dbl hok ht h1 h) (by exact Ar.ar3 [_,_,_,_] [] 0xa5294001880000c40080610080308060 (Y0 V0 (.l 80)) (Y0 V1 (.l 64)) (Y2 (Y0 V2 V3) (Y1 J2 V1)) (Y0 (Y1 J2 V0) (Y0 V3 J1)) hn hm hl) N st
end
end Bn
namespace Bn
open PySem
section
variable {c:Cx}{q:Bool}{d:Nat}{Q:V->Hp->Prop}{E:XPost}{H:Hp}
theorem s_beside(P:Has c "beside" 4 4 zpk)(M:FnsM c){a b m n:Nat}{bs cs:List Nat}{x y:Net}(A:NetAt H a bs x)(B:NetAt H b cs y)(hm:1<=m)(hn:1<=n)(hmn:m+n<=64)(hx:x.length<=79)(hy:y.length<=79)(fx:∀z∈x,zcs m z)(fy:∀z∈y,zcs n z)(hc:q=true)
  (hq:∀a' bs' H',NetAt H' a' bs' (zdu m x n y)->Stay [] H H'->Q (.lst a') H'):Calls c q (d+5) "beside" [.int m,.lst a,.int n,.lst b] none Q E H:=by
 subst hc
 refine P true (d+4) _ Q E H rfl (Ss_go ?_)
 walk_at "wps"
 refine zg2 M.chk ⟨hm,by exact Ar.ar1 [_,_] [] 0xa5000610000308020 (Y0 V0 (.l 64)) (Y0 (Y0 V0 V1) (.l 64)) hmn⟩ A ⟨by exact Ar.ar1 [_] [] 0xa5000610000308020 (Y0 V0 (.l 80)) (Y0 V0 (.l 79)) hx,fx⟩ rfl ?_
 walk_at "wps"
 refine zg2 M.chk ⟨hn,by exact Ar.ar1 [_,_] [] 0xa5000610000308020 (Y0 V0 (.l 64)) (Y0 (Y0 V1 V0) (.l 64)) hmn⟩ B ⟨by exact Ar.ar1 [_] [] 0xa5000610000308020 (Y0 V0 (.l 80)) (Y0 V0 (.l 79)) hy,fy⟩ rfl ?_
 walk_at "wps"
 refine zh0 (by exact Ar.ar1 [_,_] [] 0x4294001840200c2000000 (Y8 (Y4 (.l 64) (Y0 (Y4 V0 J0) (Y4 V1 J0))) J0) (Y0 (Y0 V0 V1) (.l 64)) hmn) ?_
 walk_at "wps"
 refine Opt.mk (zdk A.top) ?_
 walk_at "wps"
 refine Opt.mk (zdk B.top) ?_
 walk_at "wps"
 rw[zac,zac,A.len,B.len]
 refine Opt.mk zno ?_
 walk_at "wps"
 refine zh0 (by exact Ar.ar3 [_,_,_] [] 0x9210a528003080c01840200c200002008084294a000c2028061008030800008020 (Y8 (Y4 (.l 80) (Y0 (Y4 V0 J0) J1)) J0) (Y0 V1 (.l 79)) (Y0 V2 (.l 79)) (Y7 (Y6 (Y2 V0 V1) (Y0 V2 V1)) (Y6 (Y2 V0 V2) (Y0 V1 V2))) hx hy (Ar.mx _ _)) ?_
 walk_at "wps"
 exact znm (d:=d+2) M.parted M.side M.moved A B hm (by exact Ar.ar1 [_,_] [] 0xa5000610000308020 (Y0 V0 (.l 64)) (Y0 (Y0 V0 V1) (.l 64)) hmn) (by exact Ar.ar1 [_,_] [] 0xa5000610000308020 (Y0 V0 (.l 64)) (Y0 (Y0 V1 V0) (.l 64)) hmn) (by exact Ar.ar1 [_] [] 0xa5000610000308020 (Y1 V0 (.l 1000)) (Y0 V0 (.l 79)) hx) (by exact Ar.ar1 [_] [] 0xa5000610000308020 (Y1 V0 (.l 1000)) (Y0 V0 (.l 79)) hy) (zf2 fx (by exact Ar.ar1 [_,_] [] 0xa5000610000308020 (Y0 V0 (.l 64)) (Y0 (Y0 V0 V1) (.l 64)) hmn)) (zf2 fy (by exact Ar.ar1 [_,_] [] 0xa5000610000308020 (Y0 V0 (.l 64)) (Y0 (Y0 V1 V0) (.l 64)) hmn)) rfl hq
end
end Bn
namespace Bn
open PySem
section
variable {c:Cx}{q:Bool}{d:Nat}{Q:V->Hp->Prop}{E:XPost}{H:Hp}
end
end Bn
namespace Bn
open PySem
section
variable {c:Cx}{q:Bool}{d:Nat}{Q:V->Hp->Prop}{E:XPost}{H:Hp}
end
end Bn
namespace Bn
open PySem
section
variable {c:Cx}{q:Bool}{d:Nat}{Q:V->Hp->Prop}{E:XPost}{H:Hp}
theorem len80{n k x:Nat}(h:x<=k+3)(hk:k<=n)(hn:n<=64):x<=79:=by exact Ar.ar3 [_,_,_] [] 0xa5294001840000c20080610080308060 (Y0 V0 (.l 79)) (Y0 V0 (Y0 V1 (.l 3))) (Y0 V1 V2) (Y0 V2 (.l 64)) h hk hn
end
end Bn
namespace Bn
open PySem
/- is_among ['thing','least','most'] r=0 -/
/- is_text ['thing'] r=1 -/
noncomputable def zmi:List St:=[.ret (.and [(.isi (.var 0) .str),(.cmp (.blt .len [(.var 0)]) [.le] [(.lit (.int 1000))]),(.blt .all [(.comp (.cmp (.var 1) [.isIn] [(.lit (.str "abcdefghijklmnopqrstuvwxyz"))]) (.one 1) (.var 0) [])])])]
/- is_map ['thing'] r=1 -/
noncomputable def zog:List St:=[.ite (.or [(.not (.isi (.var 0) .tuple)),(.not (.cmp (.lit (.int 1)) [.le,.le] [(.blt .len [(.var 0)]),(.lit (.int 8))]))]) [.ret (.lit (.bool false))] [],.ret (.blt .all [(.comp (.call "is_among" [(.var 1),(.lit (.int 0)),(.bin .sub (.blt .len [(.var 0)]) (.lit (.int 1)))]) (.one 1) (.var 0) [])])]
/- is_step ['thing'] r=1 -/
noncomputable def zl5:List St:=[.ret (.and [(.isi (.var 0) .tuple),(.cmp (.blt .len [(.var 0)]) [.eq] [(.lit (.int 2))]),(.blt .all [(.comp (.call "is_among" [(.var 1),(.lit (.int 0)),(.bin .sub (.lit (.int 1000003)) (.lit (.int 1)))]) (.one 1) (.var 0) [])])])]
/- need_kind ['kind'] r=0 -/
/- is_thing ['kind','thing'] r=0 -/
noncomputable def zpq:List St:=[.ite (.cmp (.var 0) [.eq] [(.lit (.str "text"))]) [.ret (.call "is_text" [(.var 1)])] [],.ite (.cmp (.var 0) [.eq] [(.lit (.str "map"))]) [.ret (.call "is_map" [(.var 1)])] [],.ite (.cmp (.var 0) [.eq] [(.lit (.str "step"))]) [.ret (.call "is_step" [(.var 1)])] [],.ret (.call "is_among" [(.var 1),(.bin .sub (.lit (.int 0)) (.lit (.int 1000000000000))),(.lit (.int 1000000000000))])]
/- need_thing ['kind','thing'] r=0 -/
/- need_alike ['kind','things'] r=1 -/
/- put_together ['kind','one','other'] r=1 -/
noncomputable def zj1:List St:=[.ite (.cmp (.var 0) [.eq] [(.lit (.str "most"))]) [.ret (.blt .max [(.var 1),(.var 2)])] [],.ite (.cmp (.var 0) [.eq] [(.lit (.str "map"))]) [.ret (.blt .tuple [(.comp (.idx (.var 2) (.var 3)) (.one 3) (.var 1) [])])] [],.ite (.cmp (.var 0) [.eq] [(.lit (.str "step"))]) [.ret (.tup [(.bin .mod (.bin .mul (.idx (.var 1) (.lit (.int 0))) (.idx (.var 2) (.lit (.int 0)))) (.lit (.int 1000003))),(.bin .mod (.bin .add (.bin .mul (.idx (.var 1) (.lit (.int 1))) (.idx (.var 2) (.lit (.int 0)))) (.idx (.var 2) (.lit (.int 1)))) (.lit (.int 1000003)))])] [],.ret (.bin .add (.var 1) (.var 2))]
/- joined ['kind','one','other'] r=0 -/
/- _law_cell_at ['_law_script','_law_k'] r=0 -/
/- _law_whole ['_law_found'] r=0 -/
/- _law_join ['_law_kind','_law_one','_law_other'] r=1 -/
noncomputable def zje:List St:=[.ite (.cmp (.var 0) [.eq] [(.lit (.str "sum"))]) [.ret (.bin .add (.var 1) (.var 2))] [],.ite (.cmp (.var 0) [.eq] [(.lit (.str "most"))]) [.ret (.idx (.list [(.var 1),(.var 2)]) (.blt .int [(.cmp (.var 2) [.gt] [(.var 1)])]))] [],.ite (.cmp (.var 0) [.eq] [(.lit (.str "text"))]) [.ret (.meth .join (.lit (.str "")) [(.list [(.var 1),(.var 2)])])] [],.ite (.cmp (.var 0) [.eq] [(.lit (.str "map"))]) [.ret (.blt .tuple [(.comp (.idx (.var 2) (.idx (.var 1) (.var 3))) (.one 3) (.blt .range [(.blt .len [(.var 1)])]) [])])] [],.ret (.tup [(.bin .mod (.bin .mul (.idx (.var 1) (.lit (.int 0))) (.idx (.var 2) (.lit (.int 0)))) (.lit (.int 1000003))),(.bin .mod (.bin .add (.bin .mul (.idx (.var 1) (.lit (.int 1))) (.idx (.var 2) (.lit (.int 0)))) (.idx (.var 2) (.lit (.int 1)))) (.lit (.int 1000003)))])]
/- _law_alike ['_law_found','_law_due'] r=1 -/
noncomputable def zf4:List St:=[.ite (.isi (.var 1) .tuple) [.ite (.or [(.not (.isi (.var 0) .tuple)),(.cmp (.blt .len [(.var 0)]) [.ne] [(.blt .len [(.var 1)])])]) [.ret (.lit (.bool false))] [],.ret (.and [(.blt .all [(.comp (.call "_law_whole" [(.var 2)]) (.one 2) (.var 0) [])]),(.cmp (.var 0) [.eq] [(.var 1)])])] [],.ite (.isi (.var 1) .str) [.ret (.and [(.isi (.var 0) .str),(.cmp (.var 0) [.eq] [(.var 1)])])] [],.ret (.and [(.call "_law_whole" [(.var 0)]),(.cmp (.var 0) [.eq] [(.var 1)])])]
/- _law_thing ['_law_kind','_law_cell','_law_long','_law_some'] r=1 -/
noncomputable def zdo:List St:=[.set 1 (.bin .mod (.bin .mul (.var 1) (.lit (.int 48271))) (.lit (.int 2147483647))),.ite (.or [(.cmp (.var 0) [.eq] [(.lit (.str "sum"))]),(.cmp (.var 0) [.eq] [(.lit (.str "most"))])]) [.ite (.cmp (.bin .mod (.var 1) (.lit (.int 4))) [.eq] [(.lit (.int 0))]) [.ret (.idx (.list [(.lit (.int 1000000000000)),(.neg (.lit (.int 1000000000000))),(.lit (.int 0)),(.neg (.lit (.int 1)))]) (.bin .mod (.bin .div (.var 1) (.lit (.int 4))) (.lit (.int 4))))] [],.ret (.idx (.list [(.bin .sub (.bin .mod (.bin .div (.var 1) (.lit (.int 4))) (.lit (.int 21))) (.lit (.int 10))),(.bin .sub (.bin .mod (.bin .mul (.var 1) (.lit (.int 977))) (.lit (.int 2000000000001))) (.lit (.int 1000000000000)))]) (.bin .mod (.bin .div (.var 1) (.lit (.int 4))) (.lit (.int 2))))] [],.ite (.cmp (.var 0) [.eq] [(.lit (.str "text"))]) [.set 3 (.lit (.str "abcdefghijklmnopqrstuvwxyz")),.ret (.meth .join (.lit (.str "")) [(.comp (.idx (.var 3) (.bin .mod (.bin .add (.bin .div (.var 1) (.lit (.int 7))) (.bin .mul (.var 4) (.bin .add (.lit (.int 1)) (.bin .mod (.bin .div (.var 1) (.lit (.int 31))) (.lit (.int 25)))))) (.lit (.int 26)))) (.one 4) (.blt .range [(.bin .mod (.var 1) (.lit (.int 7)))]) [])])] [],.ite (.cmp (.var 0) [.eq] [(.lit (.str "map"))]) [.ret (.blt .tuple [(.comp (.bin .mod (.bin .div (.var 1) (.bin .add (.lit (.int 1)) (.bin .mul (.lit (.int 7)) (.var 4)))) (.var 2)) (.one 4) (.blt .range [(.var 2)]) [])])] [],.ret (.tup [(.bin .mod (.var 1) (.lit (.int 1000003))),(.idx (.list [(.bin .mod (.bin .div (.var 1) (.lit (.int 7))) (.lit (.int 1000003))),(.lit (.int 1000002)),(.lit (.int 0))]) (.bin .mod (.bin .div (.var 1) (.lit (.int 5))) (.lit (.int 3))))])]
/- _law_odd ['_law_kind','_law_cell','_law_long','_law_some'] r=0 -/
/- _law_word ['_law_e','_law_mine'] r=0 -/
/- _law_tried ['_law_kind','_law_one','_law_other','_law_e'] r=0 -/
/- _law_needed ['_law_kind','_law_thing_here','_law_e'] r=0 -/
/- law ['_law_script','_law_kind','_law_long','_law_things','_law_cell','_law_odd_here','_law_pair','_law_bad','_law_alone','_law_found','_law_due','_law_left','_law_again'] r=1 -/
end Bn
namespace Bn
open PySem
inductive Kd |sum |most |text |map |step
 deriving DecidableEq
noncomputable def kS:Kd->Str
 |.sum=>"sum" |.most=>"most" |.text=>"text" |.map=>"map" |.step=>"step"
noncomputable def zsc:Str:="abcdefghijklmnopqrstuvwxyz"
section
variable {c:Cx}{q:Bool}{d:Nat}{Q:V->Hp->Prop}{E:XPost}{H:Hp}{C:CallT}{k:Clo}{l:Loc}
theorem zvi{a b:Str}(ha:PyData.strOk a=true)(hb:PyData.strOk b=true):eqV H (.str a) (.str b)=some (decide (a=b)):=by
 refine(if_pos (show(PyData.strOk a&&PyData.strOk b)=true by rw[ha,hb];rfl)).trans ?_
 show some (a==b)=_
 congr 1
theorem kS_ok(k:Kd):PyData.strOk (kS k)=true:=by cases k<;>decide +kernel
theorem zcg{k k':Kd}:cmpV H .eq (.str (kS k)) (.str (kS k'))=some (decide (k=k')):=by
 refine(zvi (kS_ok k) (kS_ok k')).trans ?_
 congr 1
 refine decide_eq_decide.mpr ⟨fun h=>?_,fun h=>by rw[h]⟩
 revert h;cases k<;>cases k'<;>decide +kernel
noncomputable def zes(lo hi:Int)(v:V):Bool:=match v with
 |.int i=>decide (lo<=i/\i<=hi)
 |_=>false
theorem zkv(P:Has c "is_among" 3 3 zdp){v:V}{lo hi:Int}(hk:(kd v).isSome=true)(hq:Q (.bool (zes lo hi v)) H):Calls c q (d+1) "is_among" [v,.int lo,.int hi] none Q E H:=by
 refine P q d _ Q E H rfl (Ss_go ?_)
 walk_at "wps"
 cases v with
 |int i=>
  walk_at "wps"
  refine zci (fun h=>?_) (fun h=>?_)
  ·walk_at "wps"
   refine cast ?_ hq
   show Q (.bool (decide (lo<=i/\i<=hi))) H=_
   congr 2
   exact decide_eq_decide.mpr ⟨fun h=>h.2,fun h2=>⟨h,h2⟩⟩
  ·walk_at "wps"
   refine cast ?_ hq
   show Q (.bool (decide (lo<=i/\i<=hi))) H=_
   rw[decide_eq_false (fun h2=>h h2.1)]
 |bool b=>walk_at "wps";exact hq
 |none=>walk_at "wps";exact hq
 |str s=>walk_at "wps";exact hq
 |tup l=>walk_at "wps";exact hq
 |lst a=>walk_at "wps";exact hq
 |dict0=>walk_at "wps";exact hq
 |_=>cases hk
end
end Bn
namespace Bn
open PySem
noncomputable def zr3:V->Bool
 |.str s=>decide (s.length<=1000)&&s.cps.toList.all fun x=>decide (x∈zsc.cps.toList)
 |_=>false
noncomputable def isMap:V->Bool
 |.tup l=>decide (1<=l.length/\l.length<=8)&&l.all (zes 0 (l.length-1))
 |_=>false
noncomputable def zq6:V->Bool
 |.tup l=>decide (l.length=2)&&l.all (zes 0 1000002)
 |_=>false
noncomputable def isG:Kd->V->Bool
 |.text,v=>zr3 v
 |.map,v=>isMap v
 |.step,v=>zq6 v
 |_,v=>zes (-1000000000000) 1000000000000 v
noncomputable def zkp:V->Prop
 |.str s=>s.length<=10000
 |.tup l=>l.length<=20/\∀x∈l,(kd x).isSome=true
 |.none=>True |.bool _=>True |.int _=>True |.lst _=>True |.dict0=>True
 |_=>False
theorem zrh{v:V}(h:zkp v):(kd v).isSome=true:=by cases v<;>first |rfl |exact h.elim
section
variable {c:Cx}{q:Bool}{d:Nat}{Q:V->Hp->Prop}{E:XPost}{H:Hp}{C:CallT}{k:Clo}{l:Loc}
theorem src_str{s:Str}:srcV H (.str s)=some (s.cps.toList.map fun x=>V.str ⟨#[x]⟩):=rfl
theorem zxl{l:List V}:srcV H (.tup l)=some (l.map id):=congrArg some (List.map_id l).symm
theorem len_str{s:Str}(h:s.length<=10000):lenV H (.str s)=some (.int s.length,H):=if_pos (zab h (by decide))
theorem Opt_lenS{s:Str}{K:V×Hp->Prop}(h:s.length<=10000)(k:K (.int s.length,H)):Opt (bltV H .len [.str s]) K:=Opt.mk (len_str h) k
theorem zvy(P:Has c "is_text" 1 2 zmi){v:V}(hp:zkp v)(hc:q=true)(hq:∀H',Stay [] H H'->Q (.bool (zr3 v)) H'):Calls c q (d+1) "is_text" [v] none Q E H:=by
 subst hc
 refine P true d _ Q E H rfl (Ss_go ?_)
 walk_at "wps"
 cases v with
 |str s=>
  walk_at "wps"
  refine Opt_lenS hp ?_
  walk_at "wps"
  refine zci (fun h=>?_) (fun h=>?_)
  ·have h:s.length<=1000:=zaz.mp h
   walk_at "wps"
   refine Opt.mk (src_str (H:=H)) ⟨zck (by rw[zac];exact zaw (show s.cps.toList.length<=1000 by rw[zbe];exact h) (by decide)),?_⟩
   refine zcu (g:=fun x=>V.bool (decide (x∈zsc.cps.toList))) trivial (fun x hx K hK=>?_) ?_
   ·walk_at "wps"
    exact hK
   walk_at "wps"
   refine Opt.mk (zir zcf) ?_
   walk_at "wps"
   have:=hq _ (Stay.refl.app (xs:=s.cps.toList.map fun x=>V.bool (decide (x∈zsc.cps.toList))))
   rw[show zr3 (.str s)=s.cps.toList.all fun x=>decide (x∈zsc.cps.toList) by show(decide _&&_)=_;rw[decide_eq_true h,Bool.true_and]] at this
   exact this
  ·have h:¬s.length<=1000:=fun q=>h (zaz.mpr q)
   walk_at "wps"
   have:=hq _ Stay.refl
   rw[show zr3 (.str s)=false by show(decide _&&_)=_;rw[decide_eq_false h,Bool.false_and]] at this
   exact this
 |bool b=>walk_at "wps";exact hq _ Stay.refl
 |none=>walk_at "wps";exact hq _ Stay.refl
 |int s=>walk_at "wps";exact hq _ Stay.refl
 |tup l=>walk_at "wps";exact hq _ Stay.refl
 |lst a=>walk_at "wps";exact hq _ Stay.refl
 |dict0=>walk_at "wps";exact hq _ Stay.refl
 |_=>exact hp.elim
end
end Bn
namespace Bn
open PySem
section
variable {c:Cx}{q:Bool}{d:Nat}{Q:V->Hp->Prop}{E:XPost}{H:Hp}{C:CallT}{k:Clo}{l:Loc}
theorem s_is_map(P:Has c "is_map" 1 2 zog)(PA:Has c "is_among" 3 3 zdp){v:V}(hp:zkp v)(hc:q=true)(hq:∀H',Stay [] H H'->Q (.bool (isMap v)) H'):Calls c q (d+2) "is_map" [v] none Q E H:=by
 subst hc
 refine P true (d+1) _ Q E H rfl (Ss_go ?_)
 walk_at "wps"
 cases v with
 |tup l=>
  walk_at "wps"
  have no:¬(1<=l.length/\l.length<=8)->isMap (.tup l)=false:=fun h=>by show(decide _&&_)=_;rw[decide_eq_false h,Bool.false_and]
  refine zci (fun h1=>?_) (fun h1=>?_)
  ·have h1:1<=l.length:=zaz.mp h1
   walk_at "wps"
   refine zh7 (fun h2=>?_) (fun h2=>?_)
   ·refine Ss_go ?_
    walk_at "wps"
    have:=hq _ Stay.refl
    rw[no (fun q=>h2 (zaz.mpr q.2))] at this
    exact this
   ·have h2:l.length<=8:=zaz.mp h2
    walk_at "wps"
    refine Opt.mk (zxl (H:=H)) ⟨zck (by rw[zac];exact zaw h2 (by decide)),?_⟩
    refine zcu (g:=fun x=>V.bool (zes 0 (l.length-1) x)) trivial (fun x hx K hK=>?_) ?_
    ·walk_at "wps"
     exact zkv PA (hp.2 x hx) hK
    walk_at "wps"
    refine Opt.mk (zir zcf) ?_
    walk_at "wps"
    have:=hq _ (Stay.refl.app (xs:=l.map fun x=>V.bool (zes 0 (l.length-1) x)))
    rw[show isMap (.tup l)=l.all (zes 0 (l.length-1)) by show(decide _&&_)=_;rw[decide_eq_true ⟨h1,h2⟩,Bool.true_and]] at this
    exact this
  ·walk_at "wps"
   have:=hq _ Stay.refl
   rw[no (fun q=>h1 (zaz.mpr q.1))] at this
   exact this
 |bool b=>walk_at "wps";refine Ss_go ?_;walk_at "wps";exact hq _ Stay.refl
 |none=>walk_at "wps";refine Ss_go ?_;walk_at "wps";exact hq _ Stay.refl
 |int s=>walk_at "wps";refine Ss_go ?_;walk_at "wps";exact hq _ Stay.refl
 |str l=>walk_at "wps";refine Ss_go ?_;walk_at "wps";exact hq _ Stay.refl
 |lst a=>walk_at "wps";refine Ss_go ?_;walk_at "wps";exact hq _ Stay.refl
 |dict0=>walk_at "wps";refine Ss_go ?_;walk_at "wps";exact hq _ Stay.refl
 |_=>exact hp.elim
theorem zxg(P:Has c "is_step" 1 2 zl5)(PA:Has c "is_among" 3 3 zdp){v:V}(hp:zkp v)(hc:q=true)(hq:∀H',Stay [] H H'->Q (.bool (zq6 v)) H'):Calls c q (d+2) "is_step" [v] none Q E H:=by
 subst hc
 refine P true (d+1) _ Q E H rfl (Ss_go ?_)
 walk_at "wps"
 cases v with
 |tup l=>
  walk_at "wps"
  refine zci (fun h=>?_) (fun h=>?_)
  ·have h:l.length=2:=zbs.mp h
   walk_at "wps"
   refine Opt.mk (zxl (H:=H)) ⟨zck (by rw[zac,h];decide),?_⟩
   refine zcu (g:=fun x=>V.bool (zes 0 1000002 x)) trivial (fun x hx K hK=>?_) ?_
   ·walk_at "wps"
    exact zkv PA (hp.2 x hx) hK
   walk_at "wps"
   refine Opt.mk (zir zcf) ?_
   walk_at "wps"
   have:=hq _ (Stay.refl.app (xs:=l.map fun x=>V.bool (zes 0 1000002 x)))
   rw[show zq6 (.tup l)=l.all (zes 0 1000002) by show(decide _&&_)=_;rw[decide_eq_true h,Bool.true_and]] at this
   exact this
  ·have h:¬l.length=2:=fun q=>h (zbs.mpr q)
   walk_at "wps"
   have:=hq _ Stay.refl
   rw[show zq6 (.tup l)=false by show(decide _&&_)=_;rw[decide_eq_false h,Bool.false_and]] at this
   exact this
 |bool b=>walk_at "wps";exact hq _ Stay.refl
 |none=>walk_at "wps";exact hq _ Stay.refl
 |int s=>walk_at "wps";exact hq _ Stay.refl
 |str l=>walk_at "wps";exact hq _ Stay.refl
 |lst a=>walk_at "wps";exact hq _ Stay.refl
 |dict0=>walk_at "wps";exact hq _ Stay.refl
 |_=>exact hp.elim
structure FnsK(c:Cx):Prop where
 among:Has c "is_among" 3 3 zdp
 text:Has c "is_text" 1 2 zmi
 map:Has c "is_map" 1 2 zog
 step:Has c "is_step" 1 2 zl5
 thing:Has c "is_thing" 2 2 zpq
 put:Has c "put_together" 3 4 zj1
theorem zsi(F:FnsK c){kk:Kd}{v:V}(hp:zkp v)(hc:q=true)(hq:∀H',Stay [] H H'->Q (.bool (isG kk v)) H'):Calls c q (d+3) "is_thing" [.str (kS kk),v] none Q E H:=by
 subst hc
 refine F.thing true (d+2) _ Q E H rfl (Ss_go ?_)
 walk_at "wps"
 refine Opt.mk (zcg (k':=.text)) ?_
 walk_at "wps"
 cases kk with
 |text=>walk_at "wps";refine Ss_go ?_;walk_at "wps";exact zvy F.text hp rfl hq
 |map=>
  walk_at "wps"
  refine Opt.mk (zcg (k:=.map) (k':=.map)) ?_
  walk_at "wps"
  refine Ss_go ?_
  walk_at "wps"
  exact s_is_map F.map F.among hp rfl hq
 |step=>
  walk_at "wps"
  refine Opt.mk (zcg (k:=.step) (k':=.map)) ?_
  walk_at "wps"
  refine Opt.mk (zcg (k:=.step) (k':=.step)) ?_
  walk_at "wps"
  refine Ss_go ?_
  walk_at "wps"
  exact zxg F.step F.among hp rfl hq
 |sum=>
  walk_at "wps"
  refine Opt.mk (zcg (k:=.sum) (k':=.map)) ?_
  walk_at "wps"
  refine Opt.mk (zcg (k:=.sum) (k':=.step)) ?_
  walk_at "wps"
  exact zkv F.among (zrh hp) (hq _ Stay.refl)
 |most=>
  walk_at "wps"
  refine Opt.mk (zcg (k:=.most) (k':=.map)) ?_
  walk_at "wps"
  refine Opt.mk (zcg (k:=.most) (k':=.step)) ?_
  walk_at "wps"
  exact zkv F.among (zrh hp) (hq _ Stay.refl)
end
end Bn
namespace Bn
open PySem
noncomputable def kindsL:List Str:=["sum","most","text","map","step"]
theorem kS_mem(k:Kd):kS k∈kindsL:=by cases k<;>decide +kernel
section
variable {c:Cx}{q:Bool}{d:Nat}{Q:V->Hp->Prop}{E:XPost}{H:Hp}{C:CallT}{k:Clo}{l:Loc}
theorem zoe{s:Str}:cmpV H .notIn (.str s) (.tup [.str "sum",.str "most",.str "text",.str "map",.str "step"])=some (!decide (s∈kindsL)):=rfl
end
end Bn
namespace Bn
open PySem
inductive Th
 |int (i:Int) |text (s:Str) |map (ns:List Nat) |step (a b:Int)
noncomputable def Th.v:Th->V
 |.int i=>.int i
 |.text s=>.str s
 |.map ns=>.tup (ns.map nat)
 |.step a b=>.tup [.int a,.int b]
noncomputable def lets(s:Str):Prop:=s.length<=9000/\∀x∈s.cps.toList,x∈zsc.cps.toList
noncomputable def mapOk(ns:List Nat):Prop:=(1<=ns.length/\ns.length<=8)/\∀n∈ns,n<ns.length
noncomputable def stepOk(a b:Int):Prop:=(0<=a/\a<=1000002)/\0<=b/\b<=1000002
noncomputable def Sh:Kd->Th->Prop
 |.sum,.int _=>True
 |.most,.int i=>-1000000000000<=i/\i<=1000000000000
 |.text,.text s=>lets s
 |.map,.map ns=>mapOk ns
 |.step,.step a b=>stepOk a b
 |_,_=>False
theorem zd2{t:Th}(h:Sh .sum t):∃i,t=.int i:=by cases t<;>first |exact⟨_,rfl⟩|exact h.elim
theorem zdh{t:Th}(h:Sh .most t):∃i,t=.int i:=by cases t<;>first |exact⟨_,rfl⟩|exact h.elim
theorem zde{t:Th}(h:Sh .text t):∃s,t=.text s:=by cases t<;>first |exact⟨_,rfl⟩|exact h.elim
theorem zd0{t:Th}(h:Sh .map t):∃ns,t=.map ns:=by cases t<;>first |exact⟨_,rfl⟩|exact h.elim
theorem zdf{t:Th}(h:Sh .step t):∃a b,t=.step a b:=by cases t<;>first |exact⟨_,_,rfl⟩|exact h.elim
noncomputable def zcw:Kd->Th->Th->Th
 |.sum,.int a,.int b=>.int (a+b)
 |.most,.int a,.int b=>.int (if a<b then b else a)
 |.text,.text a,.text b=>.text (a++b)
 |.map,.map a,.map b=>.map (a.map fun n=>b.getD n 0)
 |.step,.step a b,.step e f=>.step (a*e%1000003) ((b*e+f)%1000003)
 |_,t,_=>t
noncomputable def zpy:Th->Th->Prop
 |.map a,.map b=>a.length=b.length
 |_,_=>True
section
variable {c:Cx}{q:Bool}{d:Nat}{Q:V->Hp->Prop}{E:XPost}{H:Hp}{C:CallT}{k:Clo}{l:Loc}
theorem zkm{a:Nat}{xs:List V}(h:H[a]?=some xs):onQ true (bltV H .tuple [.lst a])=some (.tup xs,H):=by
 show(H[a]?).map _=_
 rw[h];rfl
theorem zqc{xs:List V}{i:Nat}{x:V}(h:xs[i]?=some x):idxV H (.tup xs) (.int i)=some x:=by
 show(ix i xs.length).bind _=_
 rw[zqw (zcl h)]
 exact h
theorem zr6{a b:Str}(h:a.length+b.length<=20000):binV H .add (.str a) (.str b)=some (.str (a++b),H):=if_pos (zab h (by decide))
theorem znd{ms:List Nat}{n:Nat}(h:n<ms.length):(ms.map nat)[n]?=some (nat (ms.getD n 0)):=by
 rw[zan,zas,zam h];rfl
theorem zg0{a:Int}(h:0<=a/\a<=1000002):small a=true:=decide_eq_true (by exact Ar.ar3 [_] [_] 0x2485294001840300c202006100000010a528003080601840500c2000000 (Y1 V0 (.l 9223372036854775808)) (Y3 J0 V0) (Y3 V0 (.l 1000002)) (Y7 (Y6 (Y5 (Y4 V0 J0) V0) (Y3 J0 V0)) (Y6 (Y5 (Y4 V0 J0) (Y3 V0 J0)) (Y3 V0 J0))) h.1 h.2 (Ar.na _))
theorem s_puts(F:FnsK c){kk:Kd}{x y:Th}(hx:Sh kk x)(hy:Sh kk y)(hl:zpy x y)(hc:q=true)(hq:∀H',Stay [] H H'->Q (zcw kk x y).v H'):Calls c q (d+1) "put_together" [.str (kS kk),x.v,y.v] none Q E H:=by
 subst hc
 refine F.put true d _ Q E H rfl (Ss_go ?_)
 walk_at "wps"
 refine Opt.mk (zcg (k':=.most)) ?_
 walk_at "wps"
 cases kk with
 |most=>
  obtain⟨a,rfl⟩:=zdh hx
  obtain⟨b,rfl⟩:=zdh hy
  walk_at "wps"
  refine Ss_go ?_
  unfold Th.v
  walk_at "wps"
  refine Opt.mk (a:=(.int (if a<b then b else a),H)) rfl ?_
  walk_at "wps"
  exact hq _ Stay.refl
 |map=>
  obtain⟨ns,rfl⟩:=zd0 hx
  obtain⟨ms,rfl⟩:=zd0 hy
  walk_at "wps"
  refine Opt.mk (zcg (k:=.map) (k':=.map)) ?_
  walk_at "wps"
  refine Ss_go ?_
  unfold Th.v
  walk_at "wps"
  refine Opt.mk (a:=ns.map nat) rfl ⟨zck (by rw[zac];exact zaw hx.1.2 (by decide)),?_⟩
  refine zcu (g:=fun n=>nat (ms.getD n 0)) trivial (fun n hn K hK=>?_) ?_
  ·have hlt:n<ms.length:=Nat.lt_of_lt_of_eq (hx.2 n hn) hl
   unfold nat
   walk_at "wps"
   refine Opt.mk (zqc (znd hlt)) ?_
   exact hK
  walk_at "wps"
  refine Opt.mk (zkm zcf) ?_
  walk_at "wps"
  have:=hq _ (Stay.refl.app (xs:=ns.map fun n=>nat (ms.getD n 0)))
  rw[show(zcw .map (.map ns) (.map ms)).v=.tup (ns.map fun n=>nat (ms.getD n 0)) by show V.tup ((ns.map _).map nat)=_;rw[za0];rfl] at this
  exact this
 |step=>
  obtain⟨a,b,rfl⟩:=zdf hx
  obtain⟨e,f,rfl⟩:=zdf hy
  walk_at "wps"
  refine Opt.mk (zcg (k:=.step) (k':=.map)) ?_
  walk_at "wps"
  refine Opt.mk (zcg (k:=.step) (k':=.step)) ?_
  walk_at "wps"
  refine Ss_go ?_
  unfold Th.v
  walk_at "wps"
  refine zdt (zg0 hy.1) ?_
  walk_at "wps"
  refine zcn (by decide) ?_
  walk_at "wps"
  refine zdt (zg0 hy.1) ?_
  walk_at "wps"
  refine zcn (by decide) ?_
  walk_at "wps"
  exact hq _ Stay.refl
 |sum=>
  obtain⟨a,rfl⟩:=zd2 hx
  obtain⟨b,rfl⟩:=zd2 hy
  walk_at "wps"
  refine Opt.mk (zcg (k:=.sum) (k':=.map)) ?_
  walk_at "wps"
  refine Opt.mk (zcg (k:=.sum) (k':=.step)) ?_
  unfold Th.v
  walk_at "wps"
  exact hq _ Stay.refl
 |text=>
  obtain⟨a,rfl⟩:=zde hx
  obtain⟨b,rfl⟩:=zde hy
  walk_at "wps"
  refine Opt.mk (zcg (k:=.text) (k':=.map)) ?_
  walk_at "wps"
  refine Opt.mk (zcg (k:=.text) (k':=.step)) ?_
  unfold Th.v
  walk_at "wps"
  refine Opt.mk (zr6 (zab (Nat.add_le_add hx.1 hy.1) (by decide))) ?_
  exact hq _ Stay.refl
end
end Bn
namespace Bn
open PySem
section
variable {c:Cx}{q:Bool}{d:Nat}{Q:V->Hp->Prop}{E:XPost}{H:Hp}{C:CallT}{k:Clo}{l:Loc}
theorem zj2{l:List Str}{xs:List V}{a:Nat}(h:H[a]?=some xs)(hs:zh5 xs=some l)(hz:(l.map Str.length).sum<=20000):ztx H .join (.str "") [.lst a]=some (.str ⟨(l.flatMap fun x=>x.cps.toList).toArray⟩,H):=by
 show(H[a]?).bind _=_
 rw[h]
 show(zh5 xs).bind _=_
 rw[hs]
 exact if_pos ⟨rfl,zab hz (by decide)⟩
theorem join2(a b:Str):(⟨([a,b].flatMap fun x=>x.cps.toList).toArray⟩:Str)=a++b:=by
 obtain⟨a⟩:=a
 obtain⟨b⟩:=b
 show(⟨(a.toList++(b.toList++[])).toArray⟩:Str)=⟨a++b⟩
 rw[za9,<-Array.toList_append,Array.toArray_toList]
theorem zxe{ns:List Nat}{f:Nat->V}:(List.range ns.length).map (fun k=>f (ns.getD k 0))=ns.map f:=by
 refine List.ext_getElem? fun i=>?_
 rw[zan,zan]
 by_cases h:i<ns.length
 ·rw[zbl h,zam h]
  show some (f (ns.getD i 0))=_
  rw[zas,zam h];rfl
 ·rw[zbq (by rw[zap];exact zba h),zbq (zba h)];rfl
theorem s_join(P:Has c "_law_join" 3 4 zje){kk:Kd}{x y:Th}(hx:Sh kk x)(hy:Sh kk y)(hl:zpy x y)(hc:q=true)(hq:∀H',Stay [] H H'->Q (zcw kk x y).v H'):Calls c q (d+1) "_law_join" [.str (kS kk),x.v,y.v] none Q E H:=by
 subst hc
 refine P true d _ Q E H rfl (Ss_go ?_)
 walk_at "wps"
 refine Opt.mk (zcg (k':=.sum)) ?_
 walk_at "wps"
 cases kk with
 |sum=>
  obtain⟨a,rfl⟩:=zd2 hx
  obtain⟨b,rfl⟩:=zd2 hy
  walk_at "wps"
  refine Ss_go ?_
  unfold Th.v
  walk_at "wps"
  exact hq _ Stay.refl
 |most=>
  obtain⟨a,rfl⟩:=zdh hx
  obtain⟨b,rfl⟩:=zdh hy
  walk_at "wps"
  refine Opt.mk (zcg (k:=.most) (k':=.most)) ?_
  walk_at "wps"
  refine Ss_go ?_
  unfold Th.v
  walk_at "wps"
  have hn:(H++[[V.int a,.int b]])[H.length]?=some [V.int a,.int b]:=zcf
  have st:=Stay.refl (S:=[]) (H:=H) |>.app (xs:=[V.int a,.int b])
  refine Opt.mk (a:=(.int (if decide (b>a) then 1 else 0),H++[[V.int a,.int b]])) rfl ?_
  walk_at "wps"
  by_cases h:a<b
  ·rw[decide_eq_true (show b>a from h)]
   refine Opt.mk (zc5 (i:=1) hn rfl) ?_
   have:=hq _ st
   rw[show zcw .most (.int a) (.int b)=.int b by show Th.int (if a<b then b else a)=_;rw[if_pos h]] at this
   exact this
  ·rw[decide_eq_false (show ¬b>a from h)]
   refine Opt.mk (zc5 (i:=0) hn rfl) ?_
   have:=hq _ st
   rw[show zcw .most (.int a) (.int b)=.int a by show Th.int (if a<b then b else a)=_;rw[if_neg h]] at this
   exact this
 |text=>
  obtain⟨a,rfl⟩:=zde hx
  obtain⟨b,rfl⟩:=zde hy
  walk_at "wps"
  refine Opt.mk (zcg (k:=.text) (k':=.most)) ?_
  walk_at "wps"
  refine Opt.mk (zcg (k:=.text) (k':=.text)) ?_
  walk_at "wps"
  refine Ss_go ?_
  unfold Th.v
  walk_at "wps"
  refine⟨rfl,?_⟩
  walk_at "wps"
  refine Opt.mk (zj2 (l:=[a,b]) zcf rfl ?_) ?_
  ·show a.length+(b.length+0)<=_
   exact zab (Nat.add_le_add hx.1 hy.1) (by decide)
  ·rw[join2]
   exact hq _ (Stay.refl.app (xs:=[V.str a,.str b]))
 |map=>
  obtain⟨ns,rfl⟩:=zd0 hx
  obtain⟨ms,rfl⟩:=zd0 hy
  walk_at "wps"
  refine Opt.mk (zcg (k:=.map) (k':=.most)) ?_
  walk_at "wps"
  refine Opt.mk (zcg (k:=.map) (k':=.text)) ?_
  walk_at "wps"
  refine Opt.mk (zcg (k:=.map) (k':=.map)) ?_
  walk_at "wps"
  refine Ss_go ?_
  unfold Th.v
  walk_at "wps"
  refine Opt.mk (a:=(.int (ns.map nat).length,H)) rfl ?_
  walk_at "wps"
  rw[zac]
  refine Opt.mk (zcv (zaw hx.1.2 (by decide))) ?_
  walk_at "wps"
  refine Opt.mk (zhp (H:=H)) ⟨zck (by rw[zac,zap];exact zaw hx.1.2 (by decide)),?_⟩
  refine zcu (g:=fun k=>nat (ms.getD (ns.getD k 0) 0)) trivial (fun n hn K hK=>?_) ?_
  ·have hn:=za4.mp hn
   have hlt:ns.getD n 0<ms.length:=Nat.lt_of_lt_of_eq (hx.2 _ (by rw[zas,zam hn];exact List.getElem_mem hn)) hl
   unfold nat
   walk_at "wps"
   refine Opt.mk (zqc (znd hn)) ?_
   unfold nat
   walk_at "wps"
   refine Opt.mk (zqc (znd hlt)) ?_
   exact hK
  rw[zxe (f:=fun n=>nat (ms.getD n 0))]
  walk_at "wps"
  refine Opt.mk (zkm zcf) ?_
  walk_at "wps"
  have:=hq _ (Stay.refl.app (xs:=ns.map fun n=>nat (ms.getD n 0)))
  rw[show(zcw .map (.map ns) (.map ms)).v=.tup (ns.map fun n=>nat (ms.getD n 0)) by show V.tup ((ns.map _).map nat)=_;rw[za0];rfl] at this
  exact this
 |step=>
  obtain⟨a,b,rfl⟩:=zdf hx
  obtain⟨e,f,rfl⟩:=zdf hy
  walk_at "wps"
  refine Opt.mk (zcg (k:=.step) (k':=.most)) ?_
  walk_at "wps"
  refine Opt.mk (zcg (k:=.step) (k':=.text)) ?_
  walk_at "wps"
  refine Opt.mk (zcg (k:=.step) (k':=.map)) ?_
  unfold Th.v
  walk_at "wps"
  refine zdt (zg0 hy.1) ?_
  walk_at "wps"
  refine zcn (by decide) ?_
  walk_at "wps"
  refine zdt (zg0 hy.1) ?_
  walk_at "wps"
  refine zcn (by decide) ?_
  walk_at "wps"
  exact hq _ Stay.refl
end
end Bn
namespace Bn
open PySem
section
variable {c:Cx}{q:Bool}{d:Nat}{Q:V->Hp->Prop}{E:XPost}{H:Hp}{C:CallT}{k:Clo}{l:Loc}
end
end Bn
namespace Bn
open PySem
noncomputable def intP(i:Int):PyData:=.int i
theorem eqP_int:EqP intP:=⟨fun _ _=>rfl,fun _=>rfl⟩
theorem zhj{s:Str}(h:lets s):PyData.strOk s=true:=by
 have hl:∀x∈zsc.cps.toList,x<0x110000:=by decide +kernel
 refine Array.all_eq_true_iff_forall_mem.mpr fun x hx=>decide_eq_true (hl x (h.2 x (Array.mem_toList_iff.mpr hx)))
theorem zmr(ns:List Nat):ns.map nat=(ns.map Int.ofNat).map V.int:=by rw[za0];rfl
section
variable {c:Cx}{q:Bool}{d:Nat}{Q:V->Hp->Prop}{E:XPost}{H:Hp}{C:CallT}{k:Clo}{l:Loc}
theorem zjy{n:Nat}{is:List Int}:toP (n+2) H (.tup (is.map V.int))=some (tupP intP is):=by
 show(mapO (toP (n+1) H) (is.map V.int)).map _=_
 rw[zqs (f:=intP) fun x _=>rfl];rfl
theorem zqh{is js:List Int}:eqV H (.tup (is.map V.int)) (.tup (js.map V.int))=some (decide (is=js)):=zw4 eqP_int.tup zjy zjy
theorem eq_self {kk:Kd} {t:Th} (h:Sh kk t):eqV H t.v t.v=some true:=by
 cases kk with
 |sum=>obtain⟨i,rfl⟩:=zd2 h;show some (decide (i=i))=_;rw[decide_eq_true rfl]
 |most=>obtain⟨i,rfl⟩:=zdh h;show some (decide (i=i))=_;rw[decide_eq_true rfl]
 |text=>obtain⟨s,rfl⟩:=zde h;rw[Th.v,zvi (zhj h) (zhj h),decide_eq_true rfl]
 |map=>obtain⟨ns,rfl⟩:=zd0 h;rw[Th.v,zmr,zqh,decide_eq_true rfl]
 |step=>obtain⟨a,b,rfl⟩:=zdf h;exact(zqh (is:=[a,b]) (js:=[a,b])).trans (by rw[decide_eq_true rfl])
theorem zmf (P:Has c "_law_alike" 2 3 zf4) (PW:Has c "_law_whole" 1 1 zfd) {is:List Int} (hz:is.length<=20) (hc:q=true) (hq:∀H',Stay [] H H'->Q (.bool true) H'):Calls c q (d+2) "_law_alike" [.tup (is.map V.int),.tup (is.map V.int)] none Q E H:=by
 subst hc
 refine P true (d+1) _ Q E H rfl (Ss_go ?_)
 walk_at "wps"
 refine Opt.mk (a:=(.int (is.map V.int).length,H)) rfl ?_
 walk_at "wps"
 refine Opt.mk (a:=(.int (is.map V.int).length,H)) rfl ?_
 walk_at "wps"
 rw[decide_eq_true rfl]
 walk_at "wps"
 refine Opt.mk (a:=is.map V.int) rfl ⟨zck (by rw[zac];exact zaw hz (by decide)),?_⟩
 refine zcu (g:=fun _=>V.bool true) trivial (fun x hx K hK=>?_) ?_
 ·walk_at "wps"
  exact zui PW hK
 walk_at "wps"
 refine Opt.mk (zir (f:=fun _=>true) zcf) ?_
 rw[show(is.all fun _=>true)=true from za5.mpr fun _ _=>rfl]
 walk_at "wps"
 refine Opt.mk (zu8 zqh) ?_
 rw[decide_eq_true rfl]
 walk_at "wps"
 exact hq _ (Stay.refl.app (xs:=is.map fun _=>V.bool true))
theorem s_alike(P:Has c "_law_alike" 2 3 zf4)(PW:Has c "_law_whole" 1 1 zfd){kk:Kd}{t:Th}(h:Sh kk t)(hc:q=true)(hq:∀H',Stay [] H H'->Q (.bool true) H'):Calls c q (d+2) "_law_alike" [t.v,t.v] none Q E H:=by
 have int:∀i:Int,Calls c q (d+2) "_law_alike" [.int i,.int i] none Q E H:=fun i=>by
  subst hc
  refine P true (d+1) _ Q E H rfl (Ss_go ?_)
  walk_at "wps"
  refine zui PW ?_
  walk_at "wps"
  rw[decide_eq_true rfl]
  exact hq _ Stay.refl
 cases kk with
 |sum=>obtain⟨i,rfl⟩:=zd2 h;exact int i
 |most=>obtain⟨i,rfl⟩:=zdh h;exact int i
 |map=>
  obtain⟨ns,rfl⟩:=zd0 h
  rw[Th.v,zmr]
  exact zmf P PW (by rw[zac];exact zab h.1.2 (show 8<=20 by decide)) hc hq
 |step=>obtain⟨a,b,rfl⟩:=zdf h;exact zmf (is:=[a,b]) P PW (show 2<=20 by decide) hc hq
 |text=>
  obtain⟨s,rfl⟩:=zde h
  subst hc
  refine P true (d+1) _ Q E H rfl (Ss_go ?_)
  unfold Th.v
  walk_at "wps"
  refine Opt.mk (a:=false) rfl ?_
  walk_at "wps"
  refine Opt.mk (a:=true) rfl ?_
  walk_at "wps"
  refine Opt.mk (a:=true) rfl ?_
  walk_at "wps"
  refine Opt.mk (zu8 (zvi (zhj h) (zhj h))) ?_
  rw[decide_eq_true rfl]
  exact hq _ Stay.refl
end
end Bn
namespace Bn
open PySem
theorem zxq{lo hi i:Int}(h:lo<=i/\i<=hi):zes lo hi (.int i)=true:=decide_eq_true h
section
variable {c:Cx}{q:Bool}{d:Nat}{Q:V->Hp->Prop}{E:XPost}{H:Hp}{C:CallT}{k:Clo}{l:Loc}
inductive Pick(H:Hp)(a:Nat)(xs:List V)(i:Int):Prop
 |mk (j:Nat)(x:V)(hi:i=j)(hx:xs[j]?=some x)(h:idxV H (.lst a) (.int i)=some x):Pick H a xs i
theorem zmz{a:Nat}{xs:List V}{i:Int}(ha:H[a]?=some xs)(h0:0<=i)(h1:i<xs.length):Pick H a xs i:=by
 obtain⟨j,rfl⟩:=Int.eq_ofNat_of_zero_le h0
 have hj:=zam (zaq.mp h1)
 exact⟨j,_,rfl,hj,zc5 ha hj⟩
theorem zdb{a b:Int}(h:0<b):0<=a%b/\a%b<b:=⟨Int.emod_nonneg _ (Int.ne_of_gt h),Int.emod_lt_of_pos _ h⟩
noncomputable def mid(i:Int):Prop:=-1000000000000<=i/\i<=1000000000000
theorem zpi(P:Has c "_law_thing" 3 5 zdo){kk:Kd}(hk:kk=.sum\/kk=.most){cell:Int}{long:Nat}(hc:q=true)(hq:∀i H',mid i->Stay [] H H'->Q (.int i) H'):Calls c q (d+1) "_law_thing" [.str (kS kk),.int cell,.int long] none Q E H:=by
 subst hc
 refine P true d _ Q E H rfl (Ss_go ?_)
 walk_at "wps"
 refine zdt (by decide) ?_
 walk_at "wps"
 refine zcn (by decide) ?_
 generalize cell*48271%2147483647=cl
 walk_at "wps"
 refine Opt.mk (zcg (k':=.sum)) ?_
 have body:∀l0:Option V,wpSs (Calls c) true d none ((zdo.drop 1).headD .stuck |> fun s=>match s with |.ite _ a _=>a |_=>[]) (Then (fun l H=>wpSs (Calls c) true d none (zdo.drop 2) (EndQ Q) (EndX E) l H) (EndQ Q)) (EndX E) [l0,some (.int cl),some (.int long),none,none] H:=fun l0=>by
  refine Ss_go ?_
  walk_at "wps"
  refine zcn (by decide) ?_
  walk_at "wps"
  refine zci (fun _=>?_) (fun _=>?_)
  ·refine Ss_go ?_
   walk_at "wps"
   refine zdv (by decide) ?_
   walk_at "wps"
   refine zcn (by decide) ?_
   walk_at "wps"
   obtain⟨j,x,hj,hx,h⟩:=zmz (H:=H++[[V.int 1000000000000,.int (-1000000000000),.int 0,.int (-1)]]) (i:=cl/4%4) zcf (zdb (by decide)).1 (zdb (by decide)).2
   refine Opt.mk h ?_
   have st:=Stay.refl (S:=[]) (H:=H) |>.app (xs:=[V.int 1000000000000,.int (-1000000000000),.int 0,.int (-1)])
   match j,hx with
   |0,hx=>obtain rfl:=zaa hx;exact hq _ _ ⟨by decide,by decide⟩ st
   |1,hx=>obtain rfl:=zaa hx;exact hq _ _ ⟨by decide,by decide⟩ st
   |2,hx=>obtain rfl:=zaa hx;exact hq _ _ ⟨by decide,by decide⟩ st
   |3,hx=>obtain rfl:=zaa hx;exact hq _ _ ⟨by decide,by decide⟩ st
  ·walk_at "wps"
   refine zdv (by decide) ?_
   walk_at "wps"
   refine zcn (by decide) ?_
   walk_at "wps"
   refine zdt (by decide) ?_
   walk_at "wps"
   refine zcn (by decide) ?_
   walk_at "wps"
   refine zdv (by decide) ?_
   walk_at "wps"
   refine zcn (by decide) ?_
   walk_at "wps"
   have b1:=zdb (a:=cl/4) (b:=21) (by decide)
   have b2:=zdb (a:=cl*977) (b:=2000000000001) (by decide)
   generalize cl/4%21=y at b1
   generalize cl*977%2000000000001=z at b2
   obtain⟨j,x,hj,hx,h⟩:=zmz (H:=H++[[V.int (y-10),.int (z-1000000000000)]]) (i:=cl/4%2) zcf (zdb (by decide)).1 (zdb (by decide)).2
   refine Opt.mk h ?_
   have st:=Stay.refl (S:=[]) (H:=H) |>.app (xs:=[V.int (y-10),.int (z-1000000000000)])
   match j,hx with
   |0,hx=>obtain rfl:=zaa hx;exact hq _ _ (by unfold mid;exact Ar.ar2 [] [_] 0x6294001840300c20000a5000610080308000 (Y6 (Y3 (Y3 (.l 1000000000000) J0) (Y2 V0 (.l 10))) (Y3 (Y2 V0 (.l 10)) (.l 1000000000000))) (Y3 J0 V0) (Y4 V0 (.l 21)) b1.1 b1.2) st
   |1,hx=>obtain rfl:=zaa hx;exact hq _ _ (by unfold mid;exact Ar.ar2 [] [_] 0x6294001840300c20000a5000610080308000 (Y6 (Y3 (Y3 (.l 1000000000000) J0) (Y2 V0 (.l 1000000000000))) (Y3 (Y2 V0 (.l 1000000000000)) (.l 1000000000000))) (Y3 J0 V0) (Y4 V0 (.l 2000000000001)) b2.1 b2.2) st
 rcases hk with rfl |rfl
 ·walk_at "wps"
  exact body _
 ·walk_at "wps"
  refine Opt.mk (zcg (k:=.most) (k':=.most)) ?_
  walk_at "wps"
  exact body _
end
end Bn
namespace Bn
open PySem
noncomputable def zfw(i:Int):Nat:=zsc.cps.toList.getD i.toNat 0
theorem zwg:zsc.cps.toList.length=26:=by decide +kernel
theorem zqn{i:Int}(h0:0<=i)(h:i<26):zfw i∈zsc.cps.toList:=by
 have:i.toNat<zsc.cps.toList.length:=by rw[zwg];exact Ar.ar2 [_] [_] 0x104294001840300c2008000294a000c20080610080308000 (Y1 V0 (.l 26)) (Y4 V0 (.l 26)) (Y7 (Y5 (Y4 V0 J0) V0) (Y6 (Y3 V0 J0) (Y2 V0 J0))) h (Ar.tn _)
 unfold zfw
 rw[zas,zam this]
 exact List.getElem_mem this
theorem zmj:∀l:List Nat,zh5 (l.map fun x=>V.str ⟨#[x]⟩)=some (l.map fun x=>⟨#[x]⟩)
 |[]=>rfl
 |x::l=>by
  show(zh5 (l.map fun x=>V.str ⟨#[x]⟩)).map _=_
  rw[zmj l];rfl
theorem zmb:∀l:List Nat,((l.map fun x=>(⟨#[x]⟩:Str)).flatMap fun x=>x.cps.toList)=l
 |[]=>rfl
 |x::l=>by
  rw[zbg,zb4,zmb l];rfl
theorem zpb:∀l:List Nat,((l.map fun x=>(⟨#[x]⟩:Str)).map Str.length).sum=l.length
 |[]=>rfl
 |x::l=>by
  rw[zbg,zbg,List.sum_cons,zpb l,zbh,Nat.add_comm];rfl
section
variable {c:Cx}{q:Bool}{d:Nat}{Q:V->Hp->Prop}{E:XPost}{H:Hp}{C:CallT}{k:Clo}{l:Loc}
theorem zp2{i:Int}(h0:0<=i)(h:i<26):idxV H (.str zsc) (.int i)=some (.str ⟨#[zfw i]⟩):=by
 obtain⟨j,rfl⟩:=Int.eq_ofNat_of_zero_le h0
 have hj:j<zsc.cps.size:=by rw[<- zbe,zwg];exact zaq.mp h
 show(zu9 zsc.cps.size (ix (j:Int) zsc.cps.size)).bind (strAt zsc)=_
 rw[zqw hj,zu9,if_pos (by decide +kernel)]
 show zsc.cps[j]?.map _=_
 rw[zcc hj]
 have e:zfw (j:Int)=zsc.cps[j]:=by
  show zsc.cps.toList.getD j 0=_
  rw[zas,zcb,zcc hj];rfl
 rw[e];rfl
theorem zti(P:Has c "_law_thing" 3 5 zdo){cell:Int}{long:Nat}(hc:q=true)(hq:∀s H',s.length<=6->lets s->Stay [] H H'->Q (.str s) H'):Calls c q (d+1) "_law_thing" [.str (kS .text),.int cell,.int long] none Q E H:=by
 subst hc
 refine P true d _ Q E H rfl (Ss_go ?_)
 walk_at "wps"
 refine zdt (by decide) ?_
 walk_at "wps"
 refine zcn (by decide) ?_
 generalize cell*48271%2147483647=cl
 walk_at "wps"
 refine Opt.mk (zcg (k:=.text) (k':=.sum)) ?_
 walk_at "wps"
 refine Opt.mk (zcg (k:=.text) (k':=.most)) ?_
 walk_at "wps"
 refine Opt.mk (zcg (k:=.text) (k':=.text)) ?_
 walk_at "wps"
 refine Ss_go ?_
 walk_at "wps"
 refine⟨rfl,?_⟩
 walk_at "wps"
 refine zcn (by decide) ?_
 walk_at "wps"
 obtain⟨n,hn⟩:=zva (x:=cl) (y:=7) (by decide)
 have hn7:n<7:=zaq.mp (hn▸(zdb (by decide)).2)
 rw[hn]
 refine Opt.mk (zcv (zar hn7 (by decide))) ?_
 walk_at "wps"
 refine Opt.mk (zhp (H:=H)) ⟨zck (by rw[zac,zap];exact zar hn7 (by decide)),?_⟩
 refine zcu (g:=fun(k:Nat)=>V.str ⟨#[zfw ((cl/7+(k:Int)*(1+cl/31%25))%26)]⟩) trivial (fun k hk K hK=>?_) ?_
 ·have hk:=za4.mp hk
  have b:=zdb (a:=cl/31) (b:=25) (by decide)
  unfold nat
  walk_at "wps"
  refine zdv (by decide) ?_
  walk_at "wps"
  refine zdv (by decide) ?_
  walk_at "wps"
  refine zcn (by decide) ?_
  walk_at "wps"
  refine zdt (decide_eq_true (by exact Ar.ar4 [_] [_,_,_] 0x9214a000c202006100000010a528003080601840500c2000000 (Y1 V0 (.l 9223372036854775808)) (Y3 J0 V0) (Y4 V0 (.l 25)) (Y7 (Y6 (Y5 (Y4 V0 J0) (Y0 J1 V0)) (Y3 J0 (Y0 J1 V0))) (Y6 (Y5 (Y4 V0 J0) (Y3 (Y0 J1 V0) J0)) (Y3 (Y0 J1 V0) J0))) (Y6 (Y5 (Y0 (Y1 (.l 25) V1) V0) V2) (Y6 (Y3 J0 V0) (Y4 V0 (.l 25)))) b.1 b.2 (Ar.na _) (Ar.zd _ (k:=25) (by decide)))) ?_
  walk_at "wps"
  refine zcn (by decide) ?_
  walk_at "wps"
  refine Opt.mk (zp2 (zdb (by decide)).1 (zdb (by decide)).2) ?_
  exact hK
 walk_at "wps"
 have hn2:(H++[(List.range n).map fun(k:Nat)=>V.str ⟨#[zfw ((cl/7+(k:Int)*(1+cl/31%25))%26)]⟩])[H.length]?=some (((List.range n).map fun(k:Nat)=>zfw ((cl/7+(k:Int)*(1+cl/31%25))%26)).map fun x=>V.str ⟨#[x]⟩):=by
  rw[zcf,za0];rfl
 have hlm:∀x∈(List.range n).map fun(k:Nat)=>zfw ((cl/7+(k:Int)*(1+cl/31%25))%26),x∈zsc.cps.toList:=fun x hx=>by
  obtain⟨k,_,rfl⟩:=zak.mp hx
  exact zqn (zdb (by decide)).1 (zdb (by decide)).2
 have hll:((List.range n).map fun(k:Nat)=>zfw ((cl/7+(k:Int)*(1+cl/31%25))%26)).length=n:=by rw[zac,zap]
 have st:=Stay.refl (S:=[]) (H:=H) |>.app (xs:=(List.range n).map fun(k:Nat)=>V.str ⟨#[zfw ((cl/7+(k:Int)*(1+cl/31%25))%26)]⟩)
 generalize H++[(List.range n).map fun(k:Nat)=>V.str ⟨#[zfw ((cl/7+(k:Int)*(1+cl/31%25))%26)]⟩]=H2 at hn2 st
 generalize((List.range n).map fun(k:Nat)=>zfw ((cl/7+(k:Int)*(1+cl/31%25))%26))=ch at hn2 hlm hll
 refine Opt.mk (zj2 hn2 (zmj ch) (by rw[zpb,hll];exact zav (zar hn7 (by decide)))) ?_
 rw[zmb]
 have hlen:(⟨ch.toArray⟩:Str).length=n:=by show ch.toArray.size=n;rw[List.size_toArray,hll]
 exact hq _ _ (hlen▸Nat.le_of_lt_succ hn7) ⟨hlen▸zav (zar hn7 (by decide)),hlm⟩ st
theorem zuf(P:Has c "_law_thing" 3 5 zdo){cell:Int}{long:Nat}(h1:1<=long)(h8:long<=8)(hc:q=true)(hq:∀ns H',mapOk ns->ns.length=long->Stay [] H H'->Q (.tup (ns.map nat)) H'):Calls c q (d+1) "_law_thing" [.str (kS .map),.int cell,.int long] none Q E H:=by
 subst hc
 refine P true d _ Q E H rfl (Ss_go ?_)
 walk_at "wps"
 refine zdt (by decide) ?_
 walk_at "wps"
 refine zcn (by decide) ?_
 obtain⟨cl,hcl⟩:=zva (x:=cell*48271) (y:=2147483647) (by decide)
 rw[hcl]
 walk_at "wps"
 refine Opt.mk (zcg (k:=.map) (k':=.sum)) ?_
 walk_at "wps"
 refine Opt.mk (zcg (k:=.map) (k':=.most)) ?_
 walk_at "wps"
 refine Opt.mk (zcg (k:=.map) (k':=.text)) ?_
 walk_at "wps"
 refine Opt.mk (zcg (k:=.map) (k':=.map)) ?_
 walk_at "wps"
 refine Ss_go ?_
 walk_at "wps"
 refine Opt.mk (zcv (zaw h8 (by decide))) ?_
 walk_at "wps"
 refine Opt.mk (zhp (H:=H)) ⟨zck (by rw[zac,zap];exact zaw h8 (by decide)),?_⟩
 refine zcu (g:=fun k=>nat (cl/(1+7*k)%long)) trivial (fun k hk K hK=>?_) ?_
 ·unfold nat
  walk_at "wps"
  refine zdt (decide_eq_true (by have:=za4.mp hk;exact Ar.ar2 [_,_] [] 0x294a000c20000610040308040 (Y1 V0 (.l 9223372036854775808)) (Y0 V1 (.l 8)) (Y1 V0 V1) h8 this)) ?_
  walk_at "wps"
  rw[show(1:Int)+7*(k:Int)=((1+7*k:Nat):Int) by exact Ar.ar0 [_] [] 0x628003080002800308000 (Y5 (Y0 J1 (Y1 (.l 7) (Y4 V0 J0))) (Y4 (Y0 J1 (Y1 (.l 7) V0)) J0))]
  refine zdq (by exact Ar.ar0 [_] [] 171801870336 (Y1 J0 (Y0 J1 (Y1 (.l 7) V0)))) ?_
  walk_at "wps"
  refine zdg (by exact Ar.ar1 [_] [] 0xa5000610000308020 (Y1 J0 V0) (Y0 J1 V0) h1) ?_
  exact hK
 walk_at "wps"
 refine Opt.mk (zkm zcf) ?_
 walk_at "wps"
 have:=hq ((List.range long).map fun k=>cl/(1+7*k)%long) _ ?_ (by rw[zac,zap]) (Stay.refl.app (xs:=(List.range long).map fun k=>nat (cl/(1+7*k)%long)))
 ·rw[za0] at this;exact this
 ·have hl:((List.range long).map fun k=>cl/(1+7*k)%long).length=long:=by rw[zac,zap]
  refine⟨by rw[hl];exact⟨h1,h8⟩,fun n hn=>?_⟩
  obtain⟨k,_,rfl⟩:=zak.mp hn
  rw[hl];exact Nat.mod_lt _ h1
theorem zs1(P:Has c "_law_thing" 3 5 zdo){cell:Int}{long:Nat}(hc:q=true)(hq:∀a b H',stepOk a b->Stay [] H H'->Q (.tup [.int a,.int b]) H'):Calls c q (d+1) "_law_thing" [.str (kS .step),.int cell,.int long] none Q E H:=by
 subst hc
 refine P true d _ Q E H rfl (Ss_go ?_)
 walk_at "wps"
 refine zdt (by decide) ?_
 walk_at "wps"
 refine zcn (by decide) ?_
 generalize cell*48271%2147483647=cl
 walk_at "wps"
 refine Opt.mk (zcg (k:=.step) (k':=.sum)) ?_
 walk_at "wps"
 refine Opt.mk (zcg (k:=.step) (k':=.most)) ?_
 walk_at "wps"
 refine Opt.mk (zcg (k:=.step) (k':=.text)) ?_
 walk_at "wps"
 refine Opt.mk (zcg (k:=.step) (k':=.map)) ?_
 walk_at "wps"
 refine zh0 (p:=Kd.step=Kd.map) (by decide) ?_
 walk_at "wps"
 refine zcn (by decide) ?_
 walk_at "wps"
 refine zdv (by decide) ?_
 walk_at "wps"
 refine zcn (by decide) ?_
 walk_at "wps"
 refine zdv (by decide) ?_
 walk_at "wps"
 refine zcn (by decide) ?_
 walk_at "wps"
 have b1:=zdb (a:=cl) (b:=1000003) (by decide)
 have b2:=zdb (a:=cl/7) (b:=1000003) (by decide)
 generalize cl%1000003=y at b1
 generalize cl/7%1000003=z at b2
 obtain⟨j,x,hj,hx,h⟩:=zmz (H:=H++[[V.int z,.int 1000002,.int 0]]) (i:=cl/5%3) zcf (zdb (a:=cl/5) (b:=3) (by decide)).1 (zdb (a:=cl/5) (b:=3) (by decide)).2
 refine Opt.mk h ?_
 have st:=Stay.refl (S:=[]) (H:=H) |>.app (xs:=[V.int z,.int 1000002,.int 0])
 match j,hx with
 |0,hx=>obtain rfl:=zaa hx;exact hq _ _ _ ⟨by exact Ar.ar2 [] [_] 0x6294001840300c20000a5000610080308000 (Y6 (Y3 J0 V0) (Y3 V0 (.l 1000002))) (Y3 J0 V0) (Y4 V0 (.l 1000003)) b1.1 b1.2,by exact Ar.ar2 [] [_] 0x6294001840300c20000a5000610080308000 (Y6 (Y3 J0 V0) (Y3 V0 (.l 1000002))) (Y3 J0 V0) (Y4 V0 (.l 1000003)) b2.1 b2.2⟩ st
 |1,hx=>obtain rfl:=zaa hx;exact hq _ _ _ ⟨by exact Ar.ar2 [] [_] 0x6294001840300c20000a5000610080308000 (Y6 (Y3 J0 V0) (Y3 V0 (.l 1000002))) (Y3 J0 V0) (Y4 V0 (.l 1000003)) b1.1 b1.2,by exact Ar.ar0 [] [] 0x628003080002800308000 (Y6 (Y3 J0 (.l 1000002)) (Y3 (.l 1000002) (.l 1000002)))⟩ st
 |2,hx=>obtain rfl:=zaa hx;exact hq _ _ _ ⟨by exact Ar.ar2 [] [_] 0x6294001840300c20000a5000610080308000 (Y6 (Y3 J0 V0) (Y3 V0 (.l 1000002))) (Y3 J0 V0) (Y4 V0 (.l 1000003)) b1.1 b1.2,by exact Ar.ar0 [] [] 0x628003080002800308000 (Y6 (Y3 J0 J0) (Y3 J0 (.l 1000002)))⟩ st
end
end Bn
namespace Bn
open PySem
noncomputable def tlen:Th->Nat
 |.text s=>s.length
 |_=>0
noncomputable def mlen:Th->Nat
 |.map ns=>ns.length
 |_=>0
theorem zhk(a b:Str):(a++b).length=a.length+b.length:=by
 obtain⟨a⟩:=a
 obtain⟨b⟩:=b
 exact Array.size_append
theorem zqm(a b:Str):(a++b).cps.toList=a.cps.toList++b.cps.toList:=by
 obtain⟨a⟩:=a
 obtain⟨b⟩:=b
 exact Array.toList_append
theorem zr5{a:Int}:0<=a%1000003/\a%1000003<=1000002:=⟨(zdb (by decide)).1,Int.le_of_lt_add_one (zdb (by decide)).2⟩
theorem Sh.join{k:Kd}{x y:Th}(hx:Sh k x)(hy:Sh k y)(hl:mlen x=mlen y)(ht:tlen x+tlen y<=9000):Sh k (zcw k x y):=by
 cases k with
 |sum=>
  obtain⟨a,rfl⟩:=zd2 hx
  obtain⟨b,rfl⟩:=zd2 hy
  trivial
 |most=>
  obtain⟨a,rfl⟩:=zdh hx
  obtain⟨b,rfl⟩:=zdh hy
  show _<=(if a<b then b else a)/\(if a<b then b else a)<=_
  by_cases h:a<b
  ·rw[if_pos h];exact hy
  ·rw[if_neg h];exact hx
 |text=>
  obtain⟨a,rfl⟩:=zde hx
  obtain⟨b,rfl⟩:=zde hy
  refine⟨by rw[zhk];exact ht,fun z hz=>?_⟩
  rw[zqm] at hz
  exact(zau.mp hz).elim (hx.2 z) (hy.2 z)
 |map=>
  obtain⟨a,rfl⟩:=zd0 hx
  obtain⟨b,rfl⟩:=zd0 hy
  have e:(a.map fun n=>b.getD n 0).length=a.length:=zac ..
  refine⟨by rw[e];exact hx.1,fun z hz=>?_⟩
  obtain⟨n,hn,rfl⟩:=zak.mp hz
  have hlt:n<b.length:=Nat.lt_of_lt_of_eq (hx.2 n hn) hl
  rw[e,show a.length=b.length from hl,zas,zam hlt]
  exact hy.2 _ (List.getElem_mem hlt)
 |step=>
  obtain⟨a,b,rfl⟩:=zdf hx
  obtain⟨e,f,rfl⟩:=zdf hy
  exact⟨zr5,zr5⟩
theorem zob{k:Kd}{x y:Th}(hx:Sh k x)(hy:Sh k y):mlen (zcw k x y)=mlen x:=by
 cases k with
 |sum=>obtain⟨a,rfl⟩:=zd2 hx;obtain⟨b,rfl⟩:=zd2 hy;rfl
 |most=>obtain⟨a,rfl⟩:=zdh hx;obtain⟨b,rfl⟩:=zdh hy;rfl
 |text=>obtain⟨a,rfl⟩:=zde hx;obtain⟨b,rfl⟩:=zde hy;rfl
 |map=>obtain⟨a,rfl⟩:=zd0 hx;obtain⟨b,rfl⟩:=zd0 hy;exact zac ..
 |step=>obtain⟨a,b,rfl⟩:=zdf hx;obtain⟨e,f,rfl⟩:=zdf hy;rfl
theorem zn4{k:Kd}{x y:Th}(hx:Sh k x)(hy:Sh k y):tlen (zcw k x y)=tlen x+tlen y:=by
 cases k with
 |sum=>obtain⟨a,rfl⟩:=zd2 hx;obtain⟨b,rfl⟩:=zd2 hy;rfl
 |most=>obtain⟨a,rfl⟩:=zdh hx;obtain⟨b,rfl⟩:=zdh hy;rfl
 |text=>obtain⟨a,rfl⟩:=zde hx;obtain⟨b,rfl⟩:=zde hy;exact zhk a b
 |map=>obtain⟨a,rfl⟩:=zd0 hx;obtain⟨b,rfl⟩:=zd0 hy;rfl
 |step=>obtain⟨a,b,rfl⟩:=zdf hx;obtain⟨e,f,rfl⟩:=zdf hy;rfl
theorem zqu{x y:Th}(h:mlen x=mlen y):zpy x y:=by
 match x,y with
 |.map a,.map b=>exact h
 |.int _,_=>trivial
 |.text _,_=>trivial
 |.step _ _,_=>trivial
 |.map _,.int _=>trivial
 |.map _,.text _=>trivial
 |.map _,.step _ _=>trivial
theorem plain_sh{k:Kd}{x:Th}(hx:Sh k x):zkp x.v:=by
 cases k with
 |sum=>obtain⟨a,rfl⟩:=zd2 hx;trivial
 |most=>obtain⟨a,rfl⟩:=zdh hx;trivial
 |text=>obtain⟨a,rfl⟩:=zde hx;exact zab hx.1 (by decide)
 |map=>
  obtain⟨ns,rfl⟩:=zd0 hx
  refine⟨by rw[zac];exact zab hx.1.2 (by decide),fun z hz=>?_⟩
  obtain⟨n,_,rfl⟩:=zak.mp hz
  rfl
 |step=>
  obtain⟨a,b,rfl⟩:=zdf hx
  refine⟨show 2<=20 by decide,fun z hz=>?_⟩
  rcases zal.mp hz with rfl |hz
  ·rfl
  ·rw[zah.mp hz];rfl
noncomputable def zqk:Kd->Th->Prop
 |.sum,.int i=>mid i
 |_,_=>True
theorem good_sh{k:Kd}{x:Th}(hx:Sh k x)(h:zqk k x)(hz:tlen x<=1000):isG k x.v=true:=by
 cases k with
 |sum=>obtain⟨a,rfl⟩:=zd2 hx;exact decide_eq_true h
 |most=>obtain⟨a,rfl⟩:=zdh hx;exact decide_eq_true hx
 |text=>obtain⟨a,rfl⟩:=zde hx;exact zag.mpr ⟨decide_eq_true hz,za5.mpr fun z hz=>decide_eq_true (hx.2 z hz)⟩
 |map=>
  obtain⟨ns,rfl⟩:=zd0 hx
  refine zag.mpr ⟨decide_eq_true (by rw[zac];exact hx.1),za5.mpr fun z hz=>?_⟩
  obtain⟨n,hn,rfl⟩:=zak.mp hz
  have:=hx.2 n hn
  exact decide_eq_true (by rw[zac];exact⟨zbf n,by exact Ar.ar1 [_,_] [] 0xa5000610000308020 (Y3 (Y4 V0 J0) (Y2 (Y4 V1 J0) J1)) (Y1 V0 V1) this⟩)
 |step=>
  obtain⟨a,b,rfl⟩:=zdf hx
  show(decide (2=2)&&([V.int a,.int b].all (zes 0 1000002)))=true
  rw[decide_eq_true rfl,Bool.true_and]
  show(zes 0 1000002 (.int a)&&(zes 0 1000002 (.int b)&&true))=true
  rw[zxq hx.1,zxq hx.2];rfl
theorem mul_l(x g:Int):x%1000003*g%1000003=x*g%1000003:=by
 rw[Int.mul_emod,Int.emod_emod_of_dvd x (Int.dvd_refl _),<-Int.mul_emod]
theorem mul_r(g x:Int):g*(x%1000003)%1000003=g*x%1000003:=by
 rw[Int.mul_emod,Int.emod_emod_of_dvd x (Int.dvd_refl _),<-Int.mul_emod]
theorem add_r(x y:Int):(x+y%1000003)%1000003=(x+y)%1000003:=by lia
theorem zrm(x y:Int):(x+y)%1000003=(x%1000003+y)%1000003:=by lia
noncomputable def Sv:Kd->Th->Prop
 |.sum,.int _=>True
 |.most,.int _=>True
 |.text,.text _=>True
 |.map,.map ns=>mapOk ns
 |.step,.step _ _=>True
 |_,_=>False
theorem Sh.sv{k:Kd}{x:Th}(hx:Sh k x):Sv k x:=by
 cases k with
 |sum=>obtain⟨a,rfl⟩:=zd2 hx;trivial
 |most=>obtain⟨a,rfl⟩:=zdh hx;trivial
 |text=>obtain⟨a,rfl⟩:=zde hx;trivial
 |map=>obtain⟨a,rfl⟩:=zd0 hx;exact hx
 |step=>obtain⟨a,b,rfl⟩:=zdf hx;trivial
theorem zfl{k:Kd}{t:Th}(e:k=.sum\/k=.most)(h:Sv k t):∃i,t=.int i:=by
 cases t with
 |int i=>exact⟨i,rfl⟩
 |_=>rcases e with rfl |rfl<;>exact h.elim
theorem zic{t:Th}(h:Sv .text t):∃s,t=.text s:=by cases t<;>first |exact⟨_,rfl⟩|exact h.elim
theorem zj6{t:Th}(h:Sv .map t):∃ns,t=.map ns:=by cases t<;>first |exact⟨_,rfl⟩|exact h.elim
theorem zhv{t:Th}(h:Sv .step t):∃a b,t=.step a b:=by cases t<;>first |exact⟨_,_,rfl⟩|exact h.elim
theorem zs7{k:Kd}{x y z:Th}(hx:Sv k x)(hy:Sv k y)(hz:Sv k z)(h1:mlen x=mlen y):zcw k x (zcw k y z)=zcw k (zcw k x y) z:=by
 cases k with
 |sum=>
  obtain⟨a,rfl⟩:=zfl (.inl rfl) hx;obtain⟨b,rfl⟩:=zfl (.inl rfl) hy;obtain⟨e,rfl⟩:=zfl (.inl rfl) hz
  exact congrArg Th.int (Int.add_assoc a b e).symm
 |most=>
  obtain⟨a,rfl⟩:=zfl (.inr rfl) hx;obtain⟨b,rfl⟩:=zfl (.inr rfl) hy;obtain⟨e,rfl⟩:=zfl (.inr rfl) hz
  show Th.int (if a<(if b<e then e else b) then(if b<e then e else b) else a)=.int (if(if a<b then b else a)<e then e else(if a<b then b else a))
  congr 1
  repeat' split
  all_goals(first |exact Ar.ar0 [] [_] 0x628003080002800308000 (Y5 V0 V0) |exact Ar.ar3 [] [_,_,_] 0x294a000c20080610080308060 (Y5 V0 V1) (Y4 V2 V1) (Y8 (Y4 V0 V1) J0) (Y4 V0 V2) (by assumption) (by assumption) (by assumption) |exact Ar.ar3 [] [_,_,_] 0x294a000c20080610080308060 (Y5 V0 V1) (Y8 (Y4 V2 V1) J0) (Y8 (Y4 V0 V2) J0) (Y4 V0 V1) (by assumption) (by assumption) (by assumption))
 |text=>
  obtain⟨⟨a⟩,rfl⟩:=zic hx;obtain⟨⟨b⟩,rfl⟩:=zic hy;obtain⟨⟨e⟩,rfl⟩:=zic hz
  exact congrArg (fun z=>Th.text ⟨z⟩) Array.append_assoc.symm
 |map=>
  obtain⟨a,rfl⟩:=zj6 hx;obtain⟨b,rfl⟩:=zj6 hy;obtain⟨e,rfl⟩:=zj6 hz
  show Th.map (a.map fun n=>(b.map fun m=>e.getD m 0).getD n 0)=.map ((a.map fun n=>b.getD n 0).map fun m=>e.getD m 0)
  rw[za0]
  refine congrArg Th.map (zby fun n hn=>?_)
  have hlt:n<b.length:=Nat.lt_of_lt_of_eq (hx.2 n hn) h1
  show _=e.getD (b.getD n 0) 0
  rw[zas,zan,zas (l:=b),zam hlt];rfl
 |step=>
  obtain⟨a,b,rfl⟩:=zhv hx;obtain⟨e,f,rfl⟩:=zhv hy;obtain⟨g,h,rfl⟩:=zhv hz
  show Th.step (a*(e*g%1000003)%1000003) ((b*(e*g%1000003)+(f*g+h)%1000003)%1000003)=.step (a*e%1000003*g%1000003) (((b*e+f)%1000003*g+h)%1000003)
  rw[mul_r,mul_l,Int.mul_assoc]
  congr 1
  rw[add_r,zrm,mul_r,<-zrm,zrm ((b*e+f)%1000003*g),mul_l,<-zrm,Int.add_mul,Int.mul_assoc,Int.add_assoc]
end Bn
namespace Bn
open PySem
noncomputable def wide(kk:Kd)(long:Nat):Nat:=if kk=.map then long else 0
section
variable {c:Cx}{q:Bool}{d:Nat}{Q:V->Hp->Prop}{E:XPost}{H:Hp}{C:CallT}{k:Clo}{l:Loc}
theorem s_thing(P:Has c "_law_thing" 3 5 zdo){kk:Kd}{cell:Int}{long:Nat}(h1:1<=long)(h8:long<=8)(hc:q=true)(hq:∀t H',Sh kk t->zqk kk t->tlen t<=6->mlen t=wide kk long->Stay [] H H'->Q t.v H'):Calls c q (d+1) "_law_thing" [.str (kS kk),.int cell,.int long] none Q E H:=by
 cases kk with
 |sum=>exact zpi P (.inl rfl) hc fun i H' hi st=>hq (.int i) H' trivial hi (za2 _) rfl st
 |most=>exact zpi P (.inr rfl) hc fun i H' hi st=>hq (.int i) H' hi trivial (za2 _) rfl st
 |text=>exact zti P hc fun s H' hs hl st=>hq (.text s) H' hl trivial hs rfl st
 |map=>exact zuf P h1 h8 hc fun ns H' hm hl st=>hq (.map ns) H' hm trivial (za2 _) hl st
 |step=>exact zs1 P hc fun a b H' hs st=>hq (.step a b) H' hs trivial (za2 _) rfl st
noncomputable def kdL:List V:=[.str "sum",.str "most",.str "text",.str "map",.str "step"]
theorem kd_at{j:Nat}{x:V}(h:kdL[j]?=some x):∃kk,x=.str (kS kk):=by
 match j,h with
 |0,h=>exact⟨.sum,(zaa h).symm⟩
 |1,h=>exact⟨.most,(zaa h).symm⟩
 |2,h=>exact⟨.text,(zaa h).symm⟩
 |3,h=>exact⟨.map,(zaa h).symm⟩
 |4,h=>exact⟨.step,(zaa h).symm⟩
 |n+5,h=>cases h
end
end Bn
namespace Bn
open PySem
/- need_lines ['lines'] r=0 -/
/- need_both ['lines','layers'] r=0 -/
/- ways_of ['many','some','found','k'] r=0 -/
noncomputable def zim:List St:=[.set 2 (.lit (.int 1)),.loop (.one 3) (.val (.blt .range [(.var 1)])) [.set 2 (.bin .div (.bin .mul (.var 2) (.bin .sub (.var 0) (.var 3))) (.bin .add (.var 3) (.lit (.int 1))))],.ret (.var 2)]
/- joints_for ['lines','layers','left','found','cost','some'] r=0 -/
noncomputable def zht:List St:=[.set 2 (.bin .sub (.var 0) (.lit (.int 1))),.set 3 (.lit (.int 0)),.set 4 (.lit (.int 1)),.whil (.and [(.cmp (.var 2) [.gt] [(.lit (.int 0))]),(.cmp (.var 4) [.le] [(.var 1)])]) [.set 5 (.blt .min [(.var 2),(.call "ways_of" [(.var 1),(.var 4)])]),.set 3 (.bin .add (.var 3) (.bin .mul (.var 4) (.var 5))),.set 2 (.bin .sub (.var 2) (.var 5)),.set 4 (.bin .add (.var 4) (.lit (.int 1)))],.ite (.cmp (.var 2) [.gt] [(.lit (.int 0))]) [.ret (.lit .none)] [],.ret (.var 3)]
/- first_lines ['lines','layers','left','first','cost','some'] r=0 -/
noncomputable def zha:List St:=[.set 2 (.bin .sub (.bin .sub (.var 0) (.lit (.int 1))) (.blt .min [(.bin .sub (.var 0) (.lit (.int 1))),(.var 1)])),.set 3 (.blt .min [(.bin .sub (.var 0) (.lit (.int 1))),(.var 1)]),.set 4 (.lit (.int 2)),.whil (.cmp (.var 2) [.gt] [(.lit (.int 0))]) [.set 5 (.blt .min [(.var 2),(.call "ways_of" [(.var 1),(.var 4)])]),.set 3 (.bin .add (.var 3) (.blt .min [(.var 5),(.call "ways_of" [(.bin .sub (.var 1) (.lit (.int 1))),(.var 4)])])),.set 2 (.bin .sub (.var 2) (.var 5)),.set 4 (.bin .add (.var 4) (.lit (.int 1)))],.ret (.var 3)]
/- laid ['lines','layers','first'] r=0 -/
noncomputable def zwe:List St:=[.ite (.cmp (.var 0) [.eq] [(.lit (.int 1))]) [.ret (.list [])] [],.set 2 (.call "first_lines" [(.var 0),(.var 1)]),.ret (.call "parted" [(.var 2),(.call "laid" [(.var 2),(.bin .sub (.var 1) (.lit (.int 1)))]),(.bin .sub (.var 0) (.var 2)),(.call "laid" [(.bin .sub (.var 0) (.var 2)),(.bin .sub (.var 1) (.lit (.int 1)))])])]
/- fewest ['lines','layers'] r=0 -/
/- thrifty ['lines','layers'] r=0 -/
/- _law_tried ['_law_which','_law_lines','_law_layers','_law_e'] r=0 -/
/- _law_least ['_law_lines','_law_layers','_law_table','_law_deep','_law_row','_law_many','_law_some','_law_ahead'] r=1 -/
/- _law_reach ['_law_layers','_law_reach_here','_law_layer'] r=0 -/
/- _law_is_net ['_law_net','_law_lines','_law_layer','_law_last','_law_joint'] r=0 -/
/- _law_parts ['_law_first','_law_middle','_law_behind','_law_layers','_law_found','_law_low','_law_high','_law_part'] r=2 -/
/- _law_by_rule ['_law_net','_law_lines','_law_waiting','_law_first','_law_behind','_law_layers','_law_middle','_law_parts_here'] r=1 -/
/- _law_rows ['_law_net','_law_lines','_law_now','_law_layer','_law_ahead','_law_low','_law_high'] r=1 -/
/- law ['_law_script','_law_lines','_law_layers','_law_cell','_law_pair','_law_due','_law_found','_law_net'] r=1 -/
end Bn
namespace Bn
open PySem
section
variable {c:Cx}{q:Bool}{d:Nat}{Q:V->Hp->Prop}{E:XPost}{H:Hp}
structure Fns6b(c:Cx):Prop where
 ways:Has c "ways_of" 2 4 zim
 joints:Has c "joints_for" 2 6 zht
 first:Has c "first_lines" 2 6 zha
 laid:Has c "laid" 2 3 zwe
 moved:Has c "moved" 2 5 zju
 side:Has c "side_by_side" 2 6 zd9
 parted:Has c "parted" 4 6 zk3
theorem zvn(m i:Nat):ze8 m (i+1)=ze8 m i*(m-i)/(i+1):=by
 unfold ze8
 rw[List.range_succ,List.foldl_append];rfl
inductive WaysInv(m k:Nat)(H:Hp)(i:Nat):Loc->Hp->Prop
 |mk (v3:Option V):WaysInv m k H i [some (.int m),some (.int k),some (.int (ze8 m i)),v3] H
theorem zvl{m i:Nat}(h:m<=100)(hi:i<=m):small ((m:Int)-i)=true:=decide_eq_true (by exact Ar.ar3 [_,_,_] [] 0x2485294001840300c202806100000010a528003080601840400c2000000 (Y1 V0 (.l 9223372036854775808)) (Y0 V1 (.l 100)) (Y0 V2 V1) (Y7 (Y6 (Y5 (Y4 V0 J0) (Y2 (Y4 V1 J0) (Y4 V2 J0))) (Y3 J0 (Y2 (Y4 V1 J0) (Y4 V2 J0)))) (Y6 (Y5 (Y4 V0 J0) (Y3 (Y2 (Y4 V1 J0) (Y4 V2 J0)) J0)) (Y3 (Y2 (Y4 V1 J0) (Y4 V2 J0)) J0))) h hi (Ar.na _))
theorem Opt_mulr{a b:Int}{K:V×Hp->Prop}(hb:small b=true)(h:K (.int (a*b),H)):Opt (binV H .mul (.int a) (.int b)) K:=zdt hb h
theorem zul(P:Has c "ways_of" 2 4 zim){m k:Nat}(hm:m<=100)(hk:k<=m+1)(hc:q=true)(hq:Q (.int (ze8 m k)) H):Calls c q (d+1) "ways_of" [.int m,.int k] none Q E H:=by
 subst hc
 refine P true d _ Q E H rfl (Ss_go ?_)
 walk_at "wps"
 refine⟨rfl,zfc (v:=.rng 0 k 1) (items:=(List.range k).map nat) (fun K E' h=>?_) (congrArg some (zdn _)) ?_⟩
 ·walk_at "wps"
  exact Opt.mk (zcv (by exact Ar.ar2 [_,_] [] 0x294a000c20000610040308040 (Y1 V0 (.l 100000)) (Y0 V1 (.l 100)) (Y0 V0 (Y0 V1 J1)) hm hk)) h
 refine zd3 (WaysInv m k H) ?_ ?_ (.mk _)
 ·intro i v l' H' K hv hI hnext hret
  obtain⟨v3⟩:=hI
  have hi:=zcl hv
  rw[zac,zap] at hi
  rw[zan,zbl hi] at hv
  obtain rfl:=zaa hv
  unfold nat
  walk_at "wps"
  refine Opt_mulr (zvl hm (by exact Ar.ar2 [_,_,_] [] 0x294a000c20000610040308040 (Y0 V0 V1) (Y0 V2 (Y0 V1 J1)) (Y1 V0 V2) hk hi)) ?_
  walk_at "wps"
  refine zdv (by exact Ar.ar0 [_] [] 171801870336 (Y4 J0 (Y0 (Y4 V0 J0) J1))) ?_
  walk_at "wps"
  have e:((ze8 m i:Nat):Int)*((m:Int)-(i:Int))/((i:Int)+1)=(ze8 m (i+1):Nat):=by
   rw[zvn,Int.natCast_ediv,Int.natCast_mul,Int.ofNat_sub (show i<=m by exact Ar.ar2 [_,_,_] [] 0x294a000c20000610040308040 (Y0 V0 V1) (Y0 V2 (Y0 V1 J1)) (Y1 V0 V2) hk hi)];rfl
  rw[e]
  exact hnext _ _ trivial (.mk _)
 ·rintro l' H' ⟨v3⟩
  rw[zac,zap]
  walk_at "wps"
  exact hq
theorem zie{a b:Nat}:onQ true (bltV H .min [.int a,.int b])=some (.int (min a b:Nat),H):=by
 show some (V.int (if(b:Int)<a then b else a),H)=_
 have:(if(b:Int)<a then(b:Int) else a)=(min a b:Nat):=by split<;>(first |exact Ar.ar1 [_,_] [] 0xc3414a000c202008100005294001840600c20200810000800421194a000c20180610040800421 (Y5 (Y4 V0 J0) (Y4 (Y5 V1 V0) J0)) (Y4 (Y4 V0 J0) (Y4 V1 J0)) (by assumption) |exact Ar.ar1 [_,_] [] 0xc3414a500061018030808020400014a000c20200810000808401194a000c20180610000808401 (Y5 (Y4 V0 J0) (Y4 (Y5 V0 V1) J0)) (Y8 (Y4 (Y4 V1 J0) (Y4 V0 J0)) J0) (by assumption))
 rw[this]
inductive JInv(n L:Nat)(H:Hp)(r:Nat×Nat)(k:Nat):Loc->Hp->Prop
 |mk (left found cost:Nat)(v5:Option V)(hk:k+cost=L+1)(hc:1<=cost)(hr:jfor L k left found cost=r):JInv n L H r k [some (.int n),some (.int L),some (.int left),some (.int found),some (.int cost),v5] H
noncomputable def optI:Option Nat->V
 |none=>.none
 |some x=>.int x
theorem zn3(F:Fns6b c){n L:Nat}(hn:1<=n)(hL:L<=80)(hc:q=true)(hq:Q (optI (zkk n L)) H):Calls c q (d+2) "joints_for" [.int n,.int L] none Q E H:=by
 subst hc
 refine F.joints true (d+1) _ Q E H rfl (Ss_go ?_)
 walk_at "wps"
 rw[show(n:Int)-1=((n-1:Nat):Int) by exact Ar.ar1 [_] [] 0x6194a000c201806100405080011a085294001840800c203006100400014a000c20200610000508001 (Y5 (Y2 (Y4 V0 J0) J1) (Y4 (Y2 V0 J1) J0)) (Y0 J1 V0) hn]
 refine⟨rfl,.mk (JInv n L H (jfor L L (n-1) 0 1)) L (.mk _ 0 1 _ rfl (zaf _) rfl) ?_⟩
 intro k l' H' hI
 obtain⟨left,found,cost,v5,hk,hc1,hr⟩:=hI
 have fin:jfor L k left found cost=(left,found)->wpSs (Calls c) true (d+1) none [.ite (.cmp (.var 2) [.gt] [(.lit (.int 0))]) [.ret (.lit .none)] [],.ret (.var 3)] (EndQ Q) (EndX E) [some (.int n),some (.int L),some (.int left),some (.int found),some (.int cost),v5] H:=by
  intro e
  rw[e] at hr
  unfold zkk at hq
  rw[<- hr] at hq
  refine Ss_go ?_
  walk_at "wps"
  refine zci (fun h=>?_) (fun h=>?_)
  ·rw[if_neg (show ¬left=0 by exact Ar.ar1 [_] [] 0x4294001840200c2000000 (Y8 (Y2 V0 J0) J0) (Y4 J0 (Y4 V0 J0)) h)] at hq
   walk_at "wps"
   exact hq
  ·rw[if_pos (show left=0 by exact Ar.ar1 [_] [] 0x18a50006100803080002800308000 (Y2 V0 J0) (Y8 (Y4 J0 (Y4 V0 J0)) J0) h)] at hq
   walk_at "wps"
   exact hq
 walk_at "wps"
 refine zci (fun h=>?_) (fun h=>?_)
 ·have h:left≠0:=by exact Ar.ar1 [_] [] 0x4294001840200c2000000 (Y8 (Y2 V0 J0) J0) (Y4 J0 (Y4 V0 J0)) h
  walk_at "wps"
  refine zci (fun h2=>?_) (fun h2=>?_)
  ·have h2:cost<=L:=zaz.mp h2
   obtain⟨k',rfl⟩:∃k',k=k'+1:=⟨k-1,by exact Ar.ar2 [_,_,_] [] 0x18652800308060184010142000468214a528004081001840900c203006100400014a000c20200610000508001 (Y2 V0 (Y0 (Y2 V0 J1) J1)) (Y2 (Y0 V0 V1) (Y0 V2 J1)) (Y0 V1 V2) hk h2⟩
   rw[jfor_s,if_neg h] at hr
   refine Ss_go ?_
   walk_at "wps"
   refine zul F.ways (by exact Ar.ar1 [_] [] 0xa5000610000308020 (Y0 V0 (.l 100)) (Y0 V0 (.l 80)) hL) (by exact Ar.ar1 [_,_] [] 0xa5000610000308020 (Y0 V0 (Y0 V1 J1)) (Y0 V0 V1) h2) rfl ?_
   walk_at "wps"
   refine Opt.mk zie ?_
   have hs:min left (ze8 L cost)<=left:=Nat.min_le_left ..
   generalize min left (ze8 L cost)=sm at hr hs
   walk_at "wps"
   refine zjx (decide_eq_true (by exact Ar.ar2 [_,_] [] 0x294a000c20000610040308040 (Y1 V0 (.l 9223372036854775808)) (Y0 V1 (.l 80)) (Y0 V0 V1) hL h2)) ?_
   walk_at "wps"
   rw[show(left:Int)-(sm:Int)=((left-sm:Nat):Int) by exact Ar.ar1 [_,_] [] 0x6194a000c201806100405084011a085294001840800c203006100400014a000c20200610000508401 (Y5 (Y2 (Y4 V0 J0) (Y4 V1 J0)) (Y4 (Y2 V0 V1) J0)) (Y0 V1 V0) hs]
   exact⟨k',Nat.lt_succ_self _,.mk (left-sm) (found+cost*sm) (cost+1) _ (by exact Ar.ar1 [_,_,_] [] 0x6294001840200c20000a5000810080308000 (Y2 (Y0 V0 (Y0 V1 J1)) (Y0 V2 J1)) (Y2 (Y0 (Y0 V0 J1) V1) (Y0 V2 J1)) hk) (by exact Ar.ar0 [_] [] 171801870336 (Y0 J1 (Y0 V0 J1))) hr⟩
  ·have:k=0:=by exact Ar.ar2 [_,_,_] [] 0x6294a000c201006100c03080002800308000 (Y2 V0 J0) (Y2 (Y0 V0 V1) (Y0 V2 J1)) (Y8 (Y3 (Y4 V1 J0) (Y4 V2 J0)) J0) hk h2
   subst this
   exact fin rfl
 ·have h:left=0:=by exact Ar.ar1 [_] [] 0x18a50006100803080002800308000 (Y2 V0 J0) (Y8 (Y4 J0 (Y4 V0 J0)) J0) h
  refine fin ?_
  subst h
  cases k with
  |zero=>rfl
  |succ k=>rw[jfor_s,if_pos rfl]
inductive FInv(n L:Nat)(H:Hp)(r:Nat)(k:Nat):Loc->Hp->Prop
 |mk (left first cost:Nat)(v5:Option V)(hk:k+cost=L+1)(hc:2<=cost)(hr:ffor L k left first cost=some r):FInv n L H r k [some (.int n),some (.int L),some (.int left),some (.int first),some (.int cost),v5] H
theorem zm7(F:Fns6b c){n L m:Nat}(hn:1<=n)(hL1:1<=L)(hL:L<=80)(hm:zl0 n L=some m)(hc:q=true)(hq:Q (.int m) H):Calls c q (d+2) "first_lines" [.int n,.int L] none Q E H:=by
 subst hc
 refine F.first true (d+1) _ Q E H rfl (Ss_go ?_)
 walk_at "wps"
 rw[show(n:Int)-1=((n-1:Nat):Int) by exact Ar.ar1 [_] [] 0x6194a000c201806100405080011a085294001840800c203006100400014a000c20200610000508001 (Y5 (Y2 (Y4 V0 J0) J1) (Y4 (Y2 V0 J1) J0)) (Y0 J1 V0) hn]
 refine Opt.mk zie ?_
 walk_at "wps"
 rw[show(n:Int)-1=((n-1:Nat):Int) by exact Ar.ar1 [_] [] 0x6194a000c201806100405080011a085294001840800c203006100400014a000c20200610000508001 (Y5 (Y2 (Y4 V0 J0) J1) (Y4 (Y2 V0 J1) J0)) (Y0 J1 V0) hn]
 refine Opt.mk zie ?_
 walk_at "wps"
 rw[show((n-1:Nat):Int)-((min (n-1) L:Nat):Int)=((n-1-min (n-1) L:Nat):Int) by exact Ar.ar0 [_,_] [] 0x30ca50006100c03080202a021284000942000468190a528003081201840200c20080604042508001294001840400c20000a8084a10002508001 (Y5 (Y2 (Y4 (Y2 V0 J1) J0) (Y4 (Y5 (Y2 V0 J1) V1) J0)) (Y4 (Y2 (Y2 V0 J1) (Y5 (Y2 V0 J1) V1)) J0))]
 refine⟨rfl,.mk (FInv n L H m) (L-1) (.mk _ _ 2 _ (by exact Ar.ar1 [_] [] 0x61a085294001840800c203006100400014a000c20200610000508001194a000c20180610040508001 (Y2 (Y0 (Y2 V0 J1) J2) (Y0 V0 J1)) (Y0 J1 V0) hL1) (zaf _) hm) ?_⟩
 intro k l' H' hI
 obtain⟨left,first,cost,v5,hk,hc2,hr⟩:=hI
 walk_at "wps"
 refine zci (fun h=>?_) (fun h=>?_)
 ·have h:left≠0:=by exact Ar.ar1 [_] [] 0x4294001840200c2000000 (Y8 (Y2 V0 J0) J0) (Y4 J0 (Y4 V0 J0)) h
  cases k with
  |zero=>rw[ffor_0,if_neg h] at hr;cases hr
  |succ k=>
   rw[ffor_s,if_neg h] at hr
   refine Ss_go ?_
   walk_at "wps"
   refine zul F.ways (by exact Ar.ar1 [_] [] 0xa5000610000308020 (Y0 V0 (.l 100)) (Y0 V0 (.l 80)) hL) (by exact Ar.ar1 [_,_,_] [] 0xa5000610000308020 (Y0 V0 (Y0 V1 J1)) (Y2 (Y0 (Y0 V2 J1) V0) (Y0 V1 J1)) hk) rfl ?_
   walk_at "wps"
   refine Opt.mk zie ?_
   have hs:min left (ze8 L cost)<=left:=Nat.min_le_left ..
   generalize min left (ze8 L cost)=sm at hr hs
   walk_at "wps"
   rw[show(L:Int)-1=((L-1:Nat):Int) by exact Ar.ar1 [_] [] 0x6194a000c201806100405080011a085294001840800c203006100400014a000c20200610000508001 (Y5 (Y2 (Y4 V0 J0) J1) (Y4 (Y2 V0 J1) J0)) (Y0 J1 V0) hL1]
   refine zul F.ways (by exact Ar.ar1 [_] [] 0x65294001840300c20200610000508001 (Y0 (Y2 V0 J1) (.l 100)) (Y0 V0 (.l 80)) hL) (by exact Ar.ar1 [_,_,_] [] 0x65294001840300c20200610040508021 (Y0 V0 (Y0 (Y2 V1 J1) J1)) (Y2 (Y0 (Y0 V2 J1) V0) (Y0 V1 J1)) hk) rfl ?_
   walk_at "wps"
   refine Opt.mk zie ?_
   walk_at "wps"
   rw[show(left:Int)-(sm:Int)=((left-sm:Nat):Int) by exact Ar.ar1 [_,_] [] 0x6194a000c201806100405084011a085294001840800c203006100400014a000c20200610000508401 (Y5 (Y2 (Y4 V0 J0) (Y4 V1 J0)) (Y4 (Y2 V0 V1) J0)) (Y0 V1 V0) hs]
   exact⟨k,Nat.lt_succ_self _,.mk (left-sm) (first+min sm (ze8 (L-1) cost)) (cost+1) _ (by exact Ar.ar1 [_,_,_] [] 0x6294001840200c20000a5000810080308000 (Y2 (Y0 V0 (Y0 V1 J1)) (Y0 V2 J1)) (Y2 (Y0 (Y0 V0 J1) V1) (Y0 V2 J1)) hk) (by exact Ar.ar1 [_] [] 0xa5000610000308020 (Y0 J2 (Y0 V0 J1)) (Y0 J2 V0) hc2) hr⟩
 ·have h:left=0:=by exact Ar.ar1 [_] [] 0x18a50006100803080002800308000 (Y2 V0 J0) (Y8 (Y4 J0 (Y4 V0 J0)) J0) h
  have e:first=m:=by
   subst h
   cases k with
   |zero=>rw[ffor_0,if_pos rfl] at hr;exact zaa hr
   |succ k=>rw[ffor_s,if_pos rfl] at hr;exact zaa hr
  subst e
  walk_at "wps"
  exact hq
end
end Bn
namespace Bn
open PySem
section
variable {c:Cx}{q:Bool}{d:Nat}{Q:V->Hp->Prop}{E:XPost}{H:Hp}
theorem zxm(F:Fns6b c):∀(N:Nat){n L:Nat}{net:Net}{H:Hp}{d:Nat}{Q:V->Hp->Prop}{E:XPost},n<=N->N<=64->L<=80->zhf L n=some net->(∀a' bs' H',NetAt H' a' bs' net->Stay [] H H'->Q (.lst a') H')->Calls c true (d+N+3) "laid" [.int n,.int L] none Q E H
 |0,n,L,net,H,d,Q,E,hn,hN,hL,hl,hq=>by
  rcases zh1 hl with⟨e,_⟩|⟨_,_,_,m,_,_,_,_,h3,_⟩
  ·exact absurd (e▸hn) (by decide)
  ·exact absurd (zay h3 hn) (Nat.not_lt_zero _)
 |N+1,n,L,net,H,d,Q,E,hn,hN,hL,hl,hq=>by
  refine F.laid true (d+N+3) _ Q E H rfl (Ss_go ?_)
  walk_at "wps"
  refine zci (fun h=>?_) (fun h=>?_)
  ·have h:n=1:=zbs.mp h
   rcases zh1 hl with⟨_,rfl⟩|⟨h',_⟩
   ·refine Ss_go ?_
    walk_at "wps"
    exact hq _ [] _ ⟨zcf,rfl,fun _ _ _ h=>nomatch h⟩ Stay.refl.app
   ·exact absurd h h'
  ·have h:n≠1:=fun e=>h (zbs.mpr e)
   rcases zh1 hl with⟨h',_⟩|⟨_,L',rfl,m,x,y,h1,h2,h3,hx,hy,rfl⟩
   ·exact absurd h' h
   ·have hN':=Nat.le_of_succ_le hN
    have hm:m<=N:=by exact Ar.ar2 [_,_,_] [] 0x294a000c20000610040308040 (Y0 V0 V1) (Y0 V2 (Y0 V1 J1)) (Y1 V0 V2) hn h3
    have hk:n-m<=N:=by exact Ar.ar3 [_,_,_] [] 0x68214a000c204806100000014a528003080801840500c20300610000508401 (Y0 (Y2 V0 V1) V2) (Y0 V0 (Y0 V2 J1)) (Y0 J1 V1) (Y1 V1 V0) hn h2 h3
    have X:=zqd hx
    have Y:=zqd hy
    refine Ss_go ?_
    walk_at "wps"
    refine zm7 (d:=d+N+1) (n:=n) (L:=L'+1) F (by exact Ar.ar1 [_,_] [] 0xa5000610000308020 (Y0 J1 V0) (Y1 V1 V0) h3) (by exact Ar.ar0 [_] [] 171801870336 (Y0 J1 (Y0 V0 J1))) hL h1 rfl ?_
    walk_at "wps"
    rw[show((L'+1:Nat):Int)-1=(L':Int) by exact Ar.ar0 [_] [] 0x628003080002800308000 (Y5 (Y2 (Y4 (Y0 V0 J1) J0) J1) (Y4 V0 J0))]
    refine zxm F N (n:=m) (L:=L') hm hN' (by exact Ar.ar1 [_] [] 0xa5000610000308020 (Y0 V0 (.l 80)) (Y0 (Y0 V0 J1) (.l 80)) hL) hx fun a1 bs1 H1 N1 st1=>?_
    walk_at "wps"
    rw[show(n:Int)-(m:Int)=((n-m:Nat):Int) by exact Ar.ar1 [_,_] [] 0x18652800308060184010142100468214a000c204006100000014a000c20200610000508401 (Y5 (Y2 (Y4 V0 J0) (Y4 V1 J0)) (Y4 (Y2 V0 V1) J0)) (Y1 V1 V0) h3]
    refine zxm F N (n:=n-m) (L:=L') hk hN' (by exact Ar.ar1 [_] [] 0xa5000610000308020 (Y0 V0 (.l 80)) (Y0 (Y0 V0 J1) (.l 80)) hL) hy fun a2 bs2 H2 N2 st2=>?_
    walk_at "wps"
    refine znm (d:=d+N+1) F.parted F.side F.moved (N1.grow st2) N2 h2 (zab hm hN') (zab hk hN') (zox X.lenn (zab hm hN')) (zox Y.lenn (zab hk hN')) (zf2 X.fine.ok (zab hm hN')) (zf2 Y.fine.ok (zab hk hN')) rfl fun a3 bs3 H3 N3 st3=>?_
    exact hq _ bs3 _ N3 (st1.trans0 (st2.trans0 st3))
theorem am_nat{lo hi n:Nat}(h1:lo<=n)(h2:n<=hi):zes lo hi (.int n)=true:=decide_eq_true ⟨zaz.mpr h1,zaz.mpr h2⟩
end
end Bn
namespace Bn
open PySem
noncomputable def zi1:List St:=[.set 2 (.blt .list [(.var 1)]),.loop (.one 3) (.val (.var 0)) [.set 4 (.blt .list [(.var 2)]),.loop (.two 5 6) (.val (.var 3)) [.put (.var 4) (.var 6) (.callv [(.idx (.var 2) (.var 5)),(.idx (.var 2) (.var 6))])],.set 2 (.var 4)],.ret (.var 2)]
noncomputable def zem:List St:=[.ite (.or [(.not (.isi (.var 0) .str)),(.cmp (.var 0) [.notIn] [(.lit (.tup [(.str "sum"),(.str "most"),(.str "text"),(.str "map"),(.str "step")]))])]) [.stuck] []]
noncomputable def zev:List St:=[.expr (.call "need_kind" [(.var 0)]),.ite (.not (.call "is_thing" [(.var 0),(.var 1)])) [.stuck] []]
noncomputable def zew:List St:=[.ite (.and [(.cmp (.var 0) [.eq] [(.lit (.str "map"))]),(.not (.blt .all [(.comp (.cmp (.blt .len [(.var 2)]) [.eq] [(.blt .len [(.idx (.var 1) (.lit (.int 0)))])]) (.one 2) (.var 1) [])]))]) [.stuck] []]
noncomputable def zfj:List St:=[.ite (.or [(.not (.isi (.var 2) .list)),(.not (.cmp (.lit (.int 1)) [.le,.le] [(.blt .len [(.var 2)]),(.lit (.int 64))]))]) [.stuck] [],.expr (.call "need_net" [(.blt .len [(.var 2)]),(.var 0)]),.expr (.call "need_kind" [(.var 1)]),.loop (.one 3) (.val (.var 2)) [.expr (.call "need_thing" [(.var 1),(.var 3)])],.expr (.call "need_alike" [(.var 1),(.var 2)])]
noncomputable def zu3:List St:=[.expr (.call "need_things" [(.var 0),(.var 1),(.var 2)]),.ret (.callL "carried" [(.var 0),(.var 2)] 19 1)]
noncomputable def thL(n:Nat)(σ:Nat->Th):List V:=(List.range n).map fun x=>(σ x).v
theorem zf6{n:Nat}{σ:Nat->Th}:(thL n σ).length=n:=by rw[thL,zac,zap]
theorem zez{n x:Nat}{σ:Nat->Th}(h:x<n):(thL n σ)[x]?=some (σ x).v:=by
 rw[thL,zan,zbl h];rfl
theorem thL_set{n h:Nat}{σ:Nat->Th}{t:Th}:(thL n σ).set h t.v=thL n fun x=>if x=h then t else σ x:=by
 refine List.ext_getElem? fun i=>?_
 by_cases hi:i<n
 ·rw[zez hi]
  by_cases e:i=h
  ·subst e
   rw[zb0 (by rw[zf6];exact hi),if_pos rfl]
  ·rw[zb1 (Ne.symm e),zez hi,if_neg e]
 ·rw[zbq (by rw[zbm,zf6];exact zba hi),zbq (by rw[zf6];exact zba hi)]
noncomputable def Ths(kk:Kd)(w n:Nat)(B:Nat->Nat)(σ:Nat->Th):Prop:=∀x,x<n->Sh kk (σ x)/\mlen (σ x)=w/\tlen (σ x)<=B x
noncomputable def stT(kk:Kd)(net:Net)(σ:Nat->Th)(i:Nat):Nat->Th:=runN (zcw kk) (net.take i) σ
theorem stT_succ{kk:Kd}{net:Net}{σ:Nat->Th}{i:Nat}{y:List (Nat×Nat)}(h:net[i]?=some y):stT kk net σ (i+1)=zco (zcw kk) y (stT kk net σ i):=by
 unfold stT
 rw[List.take_add_one,h,zcy];rfl
theorem zuk{kk:Kd}{net:Net}{σ:Nat->Th}:stT kk net σ net.length=runN (zcw kk) net σ:=by unfold stT;rw[List.take_length]
theorem step_ths{kk:Kd}{w n M:Nat}{B:Nat->Nat}{σ:Nat->Th}{y:List (Nat×Nat)}(h:Ths kk w n B σ)(hy:∀p∈y,p.1<p.2/\p.2<n)(hM:∀x,zco (· + ·) y B x<=9000):Ths kk w n (zco (· + ·) y B) (zco (zcw kk) y σ):=fun x hx=>by
 have hM:=hM x
 unfold zco at hM ⊢
 cases e:y.find? (fun p=>p.2==x) with
 |none=>exact h x hx
 |some p=>
  rw[e] at hM
  have hp:=hy p (zb9 e)
  have hpx:p.2=x:=beq_iff_eq.mp (List.find?_some (p:=fun p:Nat×Nat=>p.2==x) e)
  obtain⟨a1,a2,a3⟩:=h p.1 (zar hp.1 hp.2)
  obtain⟨b1,b2,b3⟩:=h x hx
  refine⟨a1.join b1 (a2.trans b2.symm) (zab (Nat.add_le_add a3 b3) hM),(zob a1 b1).trans a2,?_⟩
  rw[zn4 a1 b1];exact Nat.add_le_add a3 b3
theorem zwk{kk:Kd}{w n:Nat}:∀{net:Net}{B:Nat->Nat}{σ:Nat->Th},Fair n net->Ths kk w n B σ->(∀x,runN (· + ·) net B x<=9000)->Ths kk w n (runN (· + ·) net B) (runN (zcw kk) net σ)
 |[],_,_,_,h,_=>h
 |y::net,B,σ,hf,h,hM=>by
  refine zwk (net:=net) (fun z hz=>hf z (zai _ hz)) (step_ths (M:=0) h (hf y zae).1 fun x=>?_) hM
  exact zab (zo9 (net:=net) x) (hM x)
theorem zuu{kk:Kd}{w n b N:Nat}{net:Net}{σ:Nat->Th}(hf:Fair n net)(h:Ths kk w n (fun _=>b) σ)(hN:∀x,lenN net x<=N)(hb:b*N<=9000)(i:Nat):Ths kk w n (fun _=>9000) (stT kk net σ i):=by
 have key:∀x,runN (· + ·) (net.take i) (fun _=>b) x<=9000:=fun x=>
  zab (zk6 (C:=b) (τ:=fun _=>1) (fun _=>zbc (Nat.mul_one b).symm) x) (zab (Nat.mul_le_mul_left b (zri hN i x)) hb)
 intro x hx
 obtain⟨a,b,d⟩:=zwk (fun z hz=>hf z (List.mem_of_mem_take hz)) h key x hx
 exact⟨a,b,zab d (key x)⟩
end Bn
namespace Bn
open PySem
section
variable {c:Cx}{q:Bool}{d:Nat}{Q:V->Hp->Prop}{E:XPost}{H:Hp}{C:CallT}{k:Clo}{l:Loc}
theorem clo19{x y z:V}:zi0 19 x y z=[z,x,y]:=by simp[zi0]
theorem go_callv{es:List Ex}{z:Nat×V}(hk:k=some z)(h:wpL C q d k es l (fun vs H=>Opt (cloV k d vs) fun p=>C q p.1 zhr p.2 none Q noX H) E H):wpE C q d k (.callv es) l Q E H:=Opt.mk hk h
inductive ThInv(H:Hp)(kk:Kd)(n tg sr:Nat)(σ:Nat->Th)(y:List (Nat×Nat))(L:Option V->Option V->Loc):List (Nat×Nat)->Loc->Hp->Prop
 |mk (r ks:List (Nat×Nat))(u v:Option V)(H2:Hp)(he:ks++r=y)(ht:H2[tg]?=some (thL n (zco (zcw kk) ks σ)))(hs:H2[sr]?=some (thL n σ))(st:Stay [] H H2):ThInv H kk n tg sr σ y L r (L u v) H2
theorem th_loop{kk:Kd}{n tg sr tv il ih:Nat}{σ:Nat->Th}{y:List (Nat×Nat)}{ok:Hp->Prop}{u v:Option V}{H2:Hp}{QQ:SPost}{EE:SX}{e:Ex}(L:Option V->Option V->Loc)(hset:∀u v x w,((L u v).set il x).set ih w=L x w)(gh:∀u v,(L u v).getD ih none=v)
  (gt:∀u v,(L u v).getD tv none=some (.lst tg)) (hts:tg≠sr) (ht:H2[tg]?=some (thL n σ)) (hs:H2[sr]?=some (thL n σ)) (st:Stay [] H H2) (hg:H.length<=tg) (hok:∀H',Stay [] H H'->ok H')
  (hy:∀p∈y,p.1<p.2/\p.2<n) (hnd:(y.map (·.2)).Nodup)
  (he:∀a b H' (K:V->Hp->Prop) E',a<n->b<n->H'[sr]?=some (thL n σ)->(∀H'',Stay [] H' H''->K (zcw kk (σ a) (σ b)).v H'')->wpE (Calls c) true d k e (L (some (.int a)) (some (.int b))) K E' H')
  (hq:∀u v H3,H3[tg]?=some (thL n (zco (zcw kk) y σ))->Stay [] H H3->QQ .next (L u v) H3) :
  zi3 ok (fun x l Q H=>Opt (zgq (.two il ih) x l) fun l'=>wpSs (Calls c) true d k [.put (.var tv) (.var ih) e] Q EE l' H) (y.map pr) QQ (L u v) H2:=by
 refine zeb (ThInv H kk n tg sr σ y L) ?_ ?_ (.mk _ [] _ _ _ rfl ht hs st)
 ·clear ht hs st
  intro p r l' H2 K hI hnext hret
  obtain⟨ks,u,v,_,hk,ht,hs,st⟩:=hI
  obtain⟨pl,ph⟩:=p
  have hpm:=hy (pl,ph) (by rw[<- hk];exact zbz _ zae)
  have hk':(ks++[(pl,ph)])++r=y:=by rw[zbd];exact hk
  have hn:((ks++[(pl,ph)]).map (·.2)).Nodup:=by rw[<- hk',zat] at hnd;exact(List.nodup_append.mp hnd).1
  refine Opt.mk (congrArg some (hset u v (some (.int pl)) (some (.int ph)))) (Ss_go ?_)
  refine he pl ph H2 _ _ (zar hpm.1 hpm.2) hpm.2 hs fun H3 st3=>?_
  refine Opt.mk (gt _ _) (Opt.mk (gh _ _) ?_)
  have ht3:=at0 st3 ht
  refine Opt.mk (put_at ht3 (by rw[zf6];exact hpm.2)) ?_
  rw[thL_set,<-zo8 (zcw kk) hn σ]
  have st4:=(st.trans0 st3).set (a:=tg) (xs:=thL n (zco (zcw kk) (ks++[(pl,ph)]) σ)) (.inr hg)
  exact hnext _ _ (hok _ st4) (.mk _ (ks++[(pl,ph)]) _ _ _ hk' (zff ht3) (zc0 (at0 st3 hs) (Ne.symm hts)) st4)
 ·clear ht hs st
  intro l' H2 hI
  obtain⟨ks,u,v,_,hk,ht,hs,st⟩:=hI
  rw[za9] at hk
  subst hk
  exact hq u v H2 ht st
inductive CarInv(H:Hp)(kk:Kd)(n a t:Nat)(net:Net)(σ:Nat->Th)(i:Nat):Loc->Hp->Prop
 |mk (g:Nat)(v3 v4 v5 v6:Option V)(H':Hp)(hg:H'[g]?=some (thL n (stT kk net σ i)))(st:Stay [] H H')(lo:H.length<=g):CarInv H kk n a t net σ i [some (.lst a),some (.lst t),some (.lst g),v3,v4,v5,v6] H'
theorem zw8(P:HasJ c "carried" 2 7 zi1)(F:FnsK c){kk:Kd}{w a t n:Nat}{bs:List Nat}{net:Net}{σ:Nat->Th}(A:NetAt H a bs net)(ht:H[t]?=some (thL n σ))(hn:n<=64)(hf:Fair n net)(hT:∀i,Ths kk w n (fun _=>9000) (stT kk net σ i))(hc:q=true)
  (hq:∀g H',New H g (thL n (runN (zcw kk) net σ)) H'->Q (.lst g) H'):Calls c q (d+3) "carried" [.lst a,.lst t] (some (19,.str (kS kk))) Q E H:=by
 subst hc
 refine P true (d+2) 19 _ _ Q E H rfl (Ss_go ?_)
 walk_at "wps"
 refine zcq (zgs ht) fun g H1 N=>?_
 walk_at "wps"
 refine⟨rfl,zfc (v:=.lst a) (fun K E' h=>h) (at0 N.st A.top) ?_⟩
 refine zd3 (CarInv H kk n a t net σ) ?_ ?_ (.mk g _ _ _ _ _ N.hold N.st N.lo)
 ·clear N
  intro i x l' H' K hx hI hnext hret
  obtain⟨g,v3,v4,v5,v6,_,hg,st,lo⟩:=hI
  rw[zan] at hx
  obtain⟨b,hb,rfl⟩:=zaj.mp hx
  obtain⟨y,hy,hby⟩:=(A.grow st).get hb
  have hfy:=hf y (zax hy)
  walk_at "wps"
  refine zcq (zgs hg) fun g' H'' N=>?_
  walk_at "wps"
  have st2:=st.trans0 N.st
  refine⟨rfl,zfc (v:=.lst b) (fun K E' h=>h) (at0 N.st hby) ?_⟩
  have hng:g'≠g:=Nat.ne_of_gt (zay (zc7 hg) N.lo)
  refine th_loop (kk:=kk) (sr:=g) (fun u v=>[some (.lst a),some (.lst t),some (.lst g),some (.lst b),some (.lst g'),u,v]) (fun _ _ _ _=>rfl) (fun _ _=>rfl) (fun _ _=>rfl) hng N.hold (at0 N.st hg) st2 (zab st.len N.lo) (fun H' st'=>(A.grow st').lay i b y hb hy) hfy.1 hfy.2 (fun x y H' K E' hx hy hs hK=>?_) fun u v H3 ht3 st3=>?_
  ·obtain⟨a1,a2,a3⟩:=hT i x hx
   obtain⟨b1,b2,b3⟩:=hT i y hy
   refine go_callv rfl ?_
   walk_at "wps"
   refine Opt.mk (zc5 hs (zez hx)) ?_
   walk_at "wps"
   refine Opt.mk (zc5 hs (zez hy)) ?_
   refine Opt.mk rfl ?_
   show Calls c true (d+1) zhr (zi0 19 (stT kk net σ i x).v (stT kk net σ i y).v (.str (kS kk))) none K noX H'
   rw[clo19]
   exact s_puts F a1 b1 (zqu (a2.trans b2.symm)) rfl fun H'' st''=>hK H'' st''
  ·walk_at "wps"
   exact hnext _ _ (A.grow st3).top (.mk g' _ _ _ _ _ (by rw[stT_succ hy];exact ht3) st3 (zab st.len N.lo))
 ·clear N
  intro l' H' hI
  obtain⟨g,v3,v4,v5,v6,_,hg,st,lo⟩:=hI
  rw[zac,A.len,zuk] at hg
  walk_at "wps"
  exact hq g H' ⟨st,hg,lo⟩
end
end Bn
namespace Bn
open PySem
section
variable {c:Cx}{q:Bool}{d:Nat}{Q:V->Hp->Prop}{E:XPost}{H:Hp}{C:CallT}{k:Clo}{l:Loc}
theorem sh_map{t:Th}(h:Sh .map t):∃ns,t=.map ns:=match t,h with
 |.map ns,_=>⟨ns,rfl⟩
theorem s_alikeN(P:Has c "need_alike" 2 3 zew){kk:Kd}{w n t:Nat}{B:Nat->Nat}{σ:Nat->Th}(ht:H[t]?=some (thL n σ))(hn1:1<=n)(hn:n<=64)(hT:Ths kk w n B σ)(hc:q=true)(hq:∀H',Stay [] H H'->Q .none H') :
  Calls c q (d+1) "need_alike" [.str (kS kk),.lst t] none Q E H:=by
 subst hc
 refine P true d _ Q E H rfl (Ss_go ?_)
 walk_at "wps"
 refine Opt.mk (zcg (k':=.map)) ?_
 refine zci (fun h=>?_) (fun h=>?_)
 ·subst h
  walk_at "wps"
  refine Opt.mk (ze4 ht) ⟨zck (by rw[zf6];exact zaw hn (by decide)),?_⟩
  have ml:∀x,x<n->∃xs:List V,(σ x).v=.tup xs/\xs.length=w:=fun x hx=>by
   obtain⟨a,b,_⟩:=hT x hx
   obtain⟨ns,e⟩:=sh_map a
   exact⟨ns.map nat,by rw[e];rfl,by rw[<- b,e,zac];rfl⟩
  refine zcu (f:=fun x=>(σ x).v) (xs:=List.range n) (g:=fun _=>V.bool true) ht (fun x hx K hK=>?_) ?_
  ·obtain⟨xs,e,hl⟩:=ml x (za4.mp hx)
   obtain⟨ys,e0,hl0⟩:=ml 0 hn1
   rw[e]
   walk_at "wps"
   refine Opt.mk (a:=(.int xs.length,H)) rfl ?_
   walk_at "wps"
   refine Opt.mk (zc5 (i:=0) ht ((zez hn1).trans (congrArg some e0))) ?_
   walk_at "wps"
   refine Opt.mk (a:=(.int ys.length,H)) rfl ?_
   walk_at "wps"
   rw[hl,hl0,decide_eq_true rfl]
   exact hK
  walk_at "wps"
  refine Opt.mk (zir (f:=fun _:Nat=>true) (zs:=List.range n) zcf) ?_
  walk_at "wps"
  rw[show((List.range n).all fun _=>true)=true from za5.mpr fun _ _=>rfl]
  walk_at "wps"
  exact hq _ Stay.refl.app
 ·walk_at "wps"
  exact hq H Stay.refl
theorem zvd(P:Has c "need_kind" 1 1 zem){kk:Kd}(hc:q=true)(hq:Q .none H):Calls c q (d+1) "need_kind" [.str (kS kk)] none Q E H:=by
 subst hc
 refine P true d _ Q E H rfl (Ss_go ?_)
 walk_at "wps"
 refine Opt.mk (a:=true) rfl ?_
 walk_at "wps"
 refine Opt.mk zoe ?_
 walk_at "wps"
 rw[decide_eq_true (kS_mem kk)]
 walk_at "wps"
 exact hq
theorem s_thing3(P:Has c "need_thing" 2 2 zev)(PK:Has c "need_kind" 1 1 zem)(F:FnsK c){kk:Kd}{v:V}(hp:zkp v)(hg:isG kk v=true)(hc:q=true)(hy:∀H',Stay [] H H'->Q .none H'):Calls c q (d+4) "need_thing" [.str (kS kk),v] none Q E H:=by
 subst hc
 refine P true (d+3) _ Q E H rfl (Ss_go ?_)
 walk_at "wps"
 refine zvd PK rfl ?_
 walk_at "wps"
 refine zsi F hp rfl fun H1 st1=>?_
 walk_at "wps"
 rw[hg]
 walk_at "wps"
 exact hy H1 st1
inductive NtInv(H:Hp)(a t:Nat)(kk:Kd)(n:Nat)(σ:Nat->Th):List Nat->Loc->Hp->Prop
 |mk (r:List Nat)(v:Option V)(H':Hp)(st:Stay [] H H')(hr:∀x∈r,x<n):NtInv H a t kk n σ r [some (.lst a),some (.str (kS kk)),some (.lst t),v] H'
theorem zm1(P:Has c "need_things" 3 4 zfj)(PK:Has c "need_kind" 1 1 zem)(PT:Has c "need_thing" 2 2 zev)(PA:Has c "need_alike" 2 3 zew)(C:Checks c)(F:FnsK c){kk:Kd}{w a t n b:Nat}{bs:List Nat}{net:Net}{σ:Nat->Th}(A:NetAt H a bs net)(ht:H[t]?=some (thL n σ))(hn1:1<=n)(hn:n<=64)(ho:zhe n net)(hb:b<=1000)(hT:Ths kk w n (fun _=>b) σ)(hS:∀x,x<n->zqk kk (σ x))(hc:q=true)
  (hq:∀H',Stay [] H H'->Q .none H'):Calls c q (d+5) "need_things" [.lst a,.str (kS kk),.lst t] none Q E H:=by
 subst hc
 refine P true (d+4) _ Q E H rfl (Ss_go ?_)
 walk_at "wps"
 refine Opt.mk (zdk ht) ?_
 walk_at "wps"
 rw[zf6]
 refine znc (zaz.mpr hn1) ?_
 refine zh7 (fun h=>absurd (zaz.mpr hn) h) (fun _=>?_)
 walk_at "wps"
 refine Opt.mk (zdk ht) ?_
 rw[zf6]
 walk_at "wps"
 refine zg2 C ⟨hn1,hn⟩ A ho rfl ?_
 walk_at "wps"
 refine zvd (d:=d+3) PK rfl ?_
 walk_at "wps"
 refine⟨rfl,zfc (v:=.lst t) (fun K E' h=>h) ht ?_⟩
 refine zeb (g:=fun x=>(σ x).v) (NtInv H a t kk n σ) ?_ ?_ (xs:=List.range n) (.mk _ _ _ Stay.refl fun x hx=>za4.mp hx)
 ·intro x r l' H' K hI hnext hret
  obtain⟨v,_,st,hr⟩:=hI
  have hx:=hr x zae
  obtain⟨a1,a2,a3⟩:=hT x hx
  refine Opt.mk rfl (Ss_go ?_)
  walk_at "wps"
  refine s_thing3 PT PK F (plain_sh a1) (good_sh a1 (hS x hx) (zab a3 hb)) rfl fun H2 st2=>?_
  walk_at "wps"
  exact hnext _ _ (at0 (st.trans0 st2) ht) (.mk _ _ _ (st.trans0 st2) fun y hy=>hr y (zai _ hy))
 ·intro l' H' hI
  obtain⟨v,_,st,hr⟩:=hI
  walk_at "wps"
  refine s_alikeN (d:=d+3) PA (at0 st ht) hn1 hn hT rfl fun H2 st2=>?_
  walk_at "wps"
  exact hq H2 (st.trans0 st2)
theorem go_callL{f:Str}{es:List Ex}{kk i:Nat}{z:V}(hz:l.getD i none=some z)(h:wpL C q d k es l (fun vs H=>C q d f vs (some (kk,z)) Q E H) E H):wpE C q d k (.callL f es kk i) l Q E H:=by
 have e:wpE C q d k (.callL f es kk i) l Q E H=wpL C q d k es l (fun vs H=>Opt (l.getD i none) fun v=>C q d f vs (some (kk,v)) Q E H) E H:=rfl
 rw[e,hz];exact h
theorem s_led(P:Has c "led" 3 3 zu3)(PN:Has c "need_things" 3 4 zfj)(PK:Has c "need_kind" 1 1 zem)(PT:Has c "need_thing" 2 2 zev)(PA:Has c "need_alike" 2 3 zew)(PC:HasJ c "carried" 2 7 zi1)(C:Checks c)(F:FnsK c){kk:Kd}{w a t n b N:Nat}{bs:List Nat}{net:Net}{σ:Nat->Th}(A:NetAt H a bs net)(ht:H[t]?=some (thL n σ))(hn1:1<=n)(hn:n<=64)(ho:zhe n net)(hN:∀x,lenN net x<=N)(hb:b<=1000)(hbN:b*N<=9000)(hT:Ths kk w n (fun _=>b) σ)(hS:∀x,x<n->zqk kk (σ x))(hc:q=true)
  (hq:∀g H',New H g (thL n (runN (zcw kk) net σ)) H'->Q (.lst g) H'):Calls c q (d+6) "led" [.lst a,.str (kS kk),.lst t] none Q E H:=by
 subst hc
 refine P true (d+5) _ Q E H rfl (Ss_go ?_)
 walk_at "wps"
 refine zm1 PN PK PT PA C F A ht hn1 hn ho hb hT hS rfl fun H1 st1=>?_
 walk_at "wps"
 refine go_callL rfl ?_
 walk_at "wps"
 exact zw8 (d:=d+2) PC F (A.grow st1) (at0 st1 ht) hn ho.fair (zuu ho.fair hT hN hbN) rfl fun g H2 N=>hq g H2 ⟨st1.trans0 N.st,N.hold,zab st1.len N.lo⟩
end
end Bn
namespace Bn
open PySem
theorem zsw{n:Nat}:∀{y:List (Nat×Nat)}{lo i l l' h:Nat},zdr n lo y->y[i]?=some (l,h)->l'<h->zdr n lo (y.set i (l',h))
 :=by
 intro y
 induction y with
 |nil=>exact fun _ e=>nomatch e
 |cons p r ih=>
  intro lo i l l' h q e hl
  cases i with
  |zero=>obtain rfl:=zaa e;exact⟨hl,q.2⟩
  |succ i=>exact⟨q.1,q.2.1,q.2.2.1,ih q.2.2.2 e hl⟩
theorem zp5{n i l l' h:Nat}{y:List (Nat×Nat)}(ho:zcs n y)(e:y[i]?=some (l,h))(hl:l'<h):zcs n (y.set i (l',h)):=
 ⟨fun q=>ho.1 (by cases y with |nil=>rfl |cons a r=>cases i<;>exact nomatch q),zsw ho.2 e hl⟩
theorem zu0{n k:Nat}{net:Net}{y:List (Nat×Nat)}(ho:zhe n net)(h:zcs n y):zhe n (net.set k y):=
 ⟨by rw[zbm];exact ho.1,fun z hz=>(List.mem_or_eq_of_mem_set hz).elim (ho.2 z) fun e=>e▸h⟩
section
variable {c:Cx}{q:Bool}{d:Nat}{Q:V->Hp->Prop}{E:XPost}{H:Hp}
end
end Bn
namespace Bn
open PySem
structure SelfP(P:PyData):Prop where
 lay:PyData.canLay0 P=true
 self:PyData.eqv P P=true
theorem EqP.self{α:Type} [DecidableEq α]{f:α->PyData}(h:EqP f)(a:α):SelfP (f a):=⟨h.lay a,by rw[h.eq,decide_eq_true rfl]⟩
theorem zmu:∀{l:List PyData},(∀P∈l,SelfP P)->PyData.canLayAll0 l=true/\PyData.eqvAll l l=true
 |[],_=>⟨rfl,rfl⟩
 |P::l,h=>by
  obtain⟨h1,h2⟩:=zmu fun Q hQ=>h Q (zai _ hQ)
  have hP:=h P zae
  exact⟨zag.mpr ⟨hP.lay,h1⟩,(show _=(PyData.eqv P P&&PyData.eqvAll l l) from rfl).trans (by rw[hP.self,h2];rfl)⟩
theorem SelfP.list{l:List PyData}(h:∀P∈l,SelfP P):SelfP (.list l):=⟨(zmu h).1,(zmu h).2⟩
noncomputable def thP:Th->PyData
 |.int i=>.int i
 |.text s=>.str s
 |.map ns=>tupP intP (ns.map Int.ofNat)
 |.step a b=>tupP intP [a,b]
theorem thP_self{kk:Kd}{t:Th}(h:Sh kk t):SelfP (thP t):=by
 match kk,t,h with
 |.sum,.int i,_=>exact eqP_int.self i
 |.most,.int i,_=>exact eqP_int.self i
 |.text,.text s,h=>exact⟨zhj h,beq_self_eq_true s⟩
 |.map,.map ns,_=>exact eqP_int.tup.self _
 |.step,.step a b,_=>exact eqP_int.tup.self _
section
variable {c:Cx}{q:Bool}{d:Nat}{Q:V->Hp->Prop}{E:XPost}{H:Hp}
theorem toP_th{n:Nat}(t:Th):toP (n+2) H t.v=some (thP t):=by
 cases t with
 |int i=>rfl
 |text s=>rfl
 |map ns=>rw[Th.v,zmr];exact zjy
 |step a b=>exact zjy (is:=[a,b])
theorem eqV_self{v w:V}{P:PyData}(h:SelfP P)(h1:toP 9 H v=some P)(h2:toP 9 H w=some P):eqV H v w=some true:=by
 show(toP 9 H v).bind _=_
 rw[h1]
 show(toP 9 H w).bind _=_
 rw[h2]
 refine(if_pos (zag.mpr ⟨h.lay,h.lay⟩)).trans ?_
 rw[h.self]
theorem zvh{n m t:Nat}{σ:Nat->Th}(ht:H[t]?=some (thL n σ)):toP (m+3) H (.lst t)=some (zou (fun x=>thP (σ x)) (List.range n)):=zhs (g:=fun x=>(σ x).v) ht fun x _=>toP_th (σ x)
theorem Opt_mulL{a b:Int}{K:V×Hp->Prop}(ha:small a=true)(h:K (.int (a*b),H)):Opt (binV H .mul (.int a) (.int b)) K:=Opt.mk (if_pos (by rw[ha];rfl)) h
inductive MadeInv(H:Hp)(kk:Kd)(w j:Nat)(acc:List V)(H':Hp):Prop
 |mk (ts:List Th)(ha:acc=ts.map Th.v)(hl:ts.length=j)(hs:∀t∈ts,Sh kk t/\zqk kk t/\tlen t<=6/\mlen t=w)(st:Stay [] H H'):MadeInv H kk w j acc H'
theorem zp3{kk:Kd}{w n:Nat}{t:Tg}{l:Loc}{W:Loc->(V->Hp->Prop)->Hp->Prop}{K:List V->Hp->Prop}{v:V}(hv:∀xs H,okV v xs H)(hW:∀i H' (K:V->Hp->Prop),(∀t H'',Sh kk t->zqk kk t->tlen t<=6->mlen t=w->Stay [] H' H''->K t.v H'')->Opt (zgq t (nat i) l) fun l'=>W l' K H')
  (hq:∀σ H',(∀x,x<n->zqk kk (σ x))->Ths kk w n (fun _=>6) σ->Stay [] H H'->K (thL n σ) H') :
  zey (okV v ((List.range n).map nat)) (zkf (fun _ Q H=>Q true H) W t l) ((List.range n).map nat) [] K H:=by
 refine zea (I:=MadeInv H kk w) ?_ ?_ ⟨[],rfl,rfl,(fun _ h=>nomatch h),Stay.refl⟩
 ·rintro j x acc H' K' hx ⟨ts,rfl,hlen,hs,st⟩ hK
  rw[zan] at hx
  obtain⟨i,hi,rfl⟩:=zaj.mp hx
  have key:=hW i H' (fun v H=>K' (ts.map Th.v++[v]) H) fun t H2 sh ok tl ml st2=>by
   refine hK _ _ (hv _ _) ⟨ts++[t],by rw[zat];rfl,by rw[zao,hlen];rfl,fun u hu=>?_,st.trans0 st2⟩
   rcases zau.mp hu with hu |hu
   ·exact hs u hu
   ·rw[zah.mp hu];exact⟨sh,ok,tl,ml⟩
  obtain⟨l',hb,hw⟩:=Opt.inv key
  exact Opt.mk hb hw
 ·rintro acc H' ⟨ts,rfl,hlen,hs,st⟩
  rw[zac,zap] at hlen
  have e:ts.map Th.v=thL n (fun x=>ts.getD x (.int 0)):=by
   refine List.ext_getElem? fun i=>?_
   by_cases hi:i<n
   ·rw[zez hi,zan,zas,zam (by rw[hlen];exact hi)];rfl
   ·rw[zbq (by rw[zac,hlen];exact zba hi),zbq (by rw[zf6];exact zba hi)]
  have m:∀x,x<n->ts.getD x (.int 0)∈ts:=fun x hx=>by
   rw[zas,zam (by rw[hlen];exact hx)];exact List.getElem_mem _
  rw[e]
  exact hq _ H' (fun x hx=>(hs _ (m x hx)).2.1) (fun x hx=>⟨(hs _ (m x hx)).1,(hs _ (m x hx)).2.2.2,(hs _ (m x hx)).2.2.1⟩) st
end
end Bn
namespace Bn
open PySem
theorem Sv.join{k:Kd}{x y:Th}(hx:Sv k x)(hy:Sv k y)(hl:mlen x=mlen y):Sv k (zcw k x y)/\mlen (zcw k x y)=mlen x:=by
 cases k with
 |sum=>obtain⟨a,rfl⟩:=zfl (.inl rfl) hx;obtain⟨b,rfl⟩:=zfl (.inl rfl) hy;exact⟨trivial,rfl⟩
 |most=>obtain⟨a,rfl⟩:=zfl (.inr rfl) hx;obtain⟨b,rfl⟩:=zfl (.inr rfl) hy;exact⟨trivial,rfl⟩
 |text=>obtain⟨a,rfl⟩:=zic hx;obtain⟨b,rfl⟩:=zic hy;exact⟨trivial,rfl⟩
 |map=>
  obtain⟨a,rfl⟩:=zj6 hx;obtain⟨b,rfl⟩:=zj6 hy
  have e:(a.map fun n=>b.getD n 0).length=a.length:=zac ..
  refine⟨⟨by rw[e];exact hx.1,fun z hz=>?_⟩,e⟩
  obtain⟨n,hn,rfl⟩:=zak.mp hz
  have hlt:n<b.length:=Nat.lt_of_lt_of_eq (hx.2 n hn) hl
  rw[e,show a.length=b.length from hl,zas,zam hlt]
  exact hy.2 _ (List.getElem_mem hlt)
 |step=>obtain⟨a,b,rfl⟩:=zhv hx;obtain⟨e,f,rfl⟩:=zhv hy;exact⟨trivial,rfl⟩
section
variable {k:Kd}{w:Nat}
noncomputable def Wd1(k:Kd)(w:Nat)(t:Th):Prop:=Sv k t/\mlen t=w
theorem Wd1.join{x y:Th}(hx:Wd1 k w x)(hy:Wd1 k w y):Wd1 k w (zcw k x y):=let⟨a,b⟩:=hx.1.join hy.1 (hx.2.trans hy.2.symm);⟨a,b.trans hx.2⟩
theorem zwj:∀{l:List Th}{g:Th},Wd1 k w g->(∀t∈l,Wd1 k w t)->Wd1 k w (l.foldl (zcw k) g)
 |[],_,hg,_=>hg
 |t::l,_,hg,h=>zwj (l:=l) (hg.join (h t zae)) fun u hu=>h u (zai _ hu)
theorem zmh:∀{l:List Th}{F g:Th},Wd1 k w F->Wd1 k w g->(∀t∈l,Wd1 k w t)->zcw k F (l.foldl (zcw k) g)=l.foldl (zcw k) (zcw k F g)
 |[],_,_,_,_,_=>rfl
 |t::l,F,g,hF,hg,h=>by
  have ht:=h t zae
  have:=zmh (l:=l) hF (hg.join ht) fun u hu=>h u (zai _ hu)
  refine this.trans ?_
  rw[zs7 hF.1 hg.1 ht.1 (hF.2.trans hg.2.symm)];rfl
noncomputable def ze9(k:Kd)(σ:Nat->Th):List Nat->Th
 |[]=>.int 0
 |a::l=>(l.map σ).foldl (zcw k) (σ a)
theorem zoq{n:Nat}{σ:Nat->Th}(hσ:∀x,x<n->Wd1 k w (σ x)){a b:List Nat}(ha:a≠[])(hb:b≠[])(h1:∀x∈a,x<n)(h2:∀x∈b,x<n):ze9 k σ (a++b)=zcw k (ze9 k σ a) (ze9 k σ b)/\Wd1 k w (ze9 k σ a):=by
 cases a with
 |nil=>exact absurd rfl ha
 |cons x a=>
  cases b with
  |nil=>exact absurd rfl hb
  |cons y b=>
   have m1:∀t∈a.map σ,Wd1 k w t:=fun t ht=>by obtain⟨z,hz,rfl⟩:=zak.mp ht;exact hσ z (h1 z (zai _ hz))
   have m2:∀t∈b.map σ,Wd1 k w t:=fun t ht=>by obtain⟨z,hz,rfl⟩:=zak.mp ht;exact hσ z (h2 z (zai _ hz))
   have F:=zwj (hσ x (h1 x zae)) m1
   refine⟨?_,F⟩
   show((a++y::b).map σ).foldl (zcw k) (σ x)=zcw k ((a.map σ).foldl (zcw k) (σ x)) ((b.map σ).foldl (zcw k) (σ y))
   rw[zat,List.foldl_append,zmh F (hσ y (h2 y zae)) m2];rfl
inductive RowOf(k:Kd)(n:Nat)(σ:Nat->Th)(t:Th)(r:List Nat):Prop
 |mk (e:t=ze9 k σ r)(ne:r≠[])(lt:∀y∈r,y<n):RowOf k n σ t r
theorem zrf{n:Nat}{σ:Nat->Th}(hσ:∀x,x<n->Wd1 k w (σ x)):∀{net:Net}{τ:Nat->Th}{ρ:Nat->List Nat},Fair n net->(∀x,x<n->RowOf k n σ (τ x) (ρ x))->∀x,x<n->RowOf k n σ (runN (zcw k) net τ x) (runN (·++·) net ρ x)
 |[],_,_,_,h=>h
 |y::net,τ,ρ,hf,h=>zrf hσ (net:=net) (fun z hz=>hf z (zai _ hz)) fun x hx=>by
  unfold zco
  cases e:y.find? (fun p=>p.2==x) with
  |none=>exact h x hx
  |some p=>
   have hp:=(hf y zae).1 p (zb9 e)
   obtain⟨e1,n1,l1⟩:=h p.1 (zar hp.1 hp.2)
   obtain⟨e2,n2,l2⟩:=h x hx
   refine⟨?_,fun q=>n1 (List.append_eq_nil_iff.mp q).1,fun z hz=>(zau.mp hz).elim (l1 z) (l2 z)⟩
   show zcw k (τ p.1) (τ x)=ze9 k σ (ρ p.1++ρ x)
   rw[(zoq hσ n1 n2 l1 l2).1,e1,e2]
theorem zo3{n:Nat}{σ:Nat->Th}{net:Net}(hσ:∀x,x<n->Wd1 k w (σ x))(hf:Fair n net){x:Nat}(hx:x<n):RowOf k n σ (runN (zcw k) net σ x) (zhl net x):=
 zrf hσ (ρ:=fun x=>[x]) hf (fun x hx=>⟨rfl,(fun h=>nomatch h),fun y hy=>by rw[zah.mp hy];exact hx⟩) x hx
theorem ztz{σ:Nat->Th}(i:Nat):ze9 k σ (List.range (i+2))=zcw k (ze9 k σ (List.range (i+1))) (σ (i+1)):=by
 have r:∀j,ze9 k σ (List.range (j+1))=(((List.range j).map (· + 1)).map σ).foldl (zcw k) (σ 0):=fun j=>by rw[List.range_succ_eq_map];rfl
 rw[r (i+1),r i,List.range_succ,zat,zat,List.foldl_append];rfl
noncomputable def zhh(i j:Nat):List Nat:=(List.range (j+1)).map fun t=>i-j+t
theorem zxb{i j:Nat}(h:j+1<=i):zhh i (j+1)=(i-1-j)::zhh i j:=by
 unfold zhh
 rw[List.range_succ_eq_map,zbg,za0]
 refine List.cons_eq_cons.mpr ⟨by exact Ar.ar0 [_,_] [] 0x61a08528003080c01840100003194a528003081401840600c20200610040508001284250800128c20084011a08528003080c01840100003410a528003081401840700c2008000194a528003081601840700c2018061004051840108025080012842508001 (Y2 (Y0 (Y2 V0 (Y0 V1 J1)) J0) (Y2 (Y2 V0 J1) V1)),zby fun t _=>?_⟩
 show i-(j+1)+(t+1)=i-j+t
 exact Ar.ar1 [_,_,_] [] 0x61a064294a50006102c03081201840300c20080602842008ca528003080e01840300c20080a1080251840108023410a500061020030800000065294001840700c201806100405184010802508401 (Y2 (Y0 (Y2 V0 (Y0 V1 J1)) (Y0 V2 J1)) (Y0 (Y2 V0 V1) V2)) (Y0 (Y0 V1 J1) V0) h
theorem zt3{n i j:Nat}{σ:Nat->Th}(hσ:∀x,x<n->Wd1 k w (σ x))(hi:i<n)(h:j+1<=i):ze9 k σ (zhh i (j+1))=zcw k (σ (i-1-j)) (ze9 k σ (zhh i j)):=by
 rw[zxb h]
 refine(zoq hσ (a:=[i-1-j]) (b:=zhh i j) (fun h=>nomatch h) (fun q=>?_) (fun x hx=>by rw[zah.mp hx];exact Ar.ar1 [_,_,_] [] 0x3194a528003080c01840700c201806100005080012842508001 (Y1 (Y2 (Y2 V0 J1) V1) V2) (Y1 V0 V2) hi) fun x hx=>?_).1
 ·unfold zhh at q;rw[List.range_succ_eq_map,zbg] at q;exact nomatch q
 ·obtain⟨t,ht,rfl⟩:=zak.mp hx
  have:=za4.mp ht
  exact Ar.ar3 [_,_,_,_] [] 0x68214a000c204006100000014a528003080801840500c20380610000508401 (Y1 (Y0 (Y2 V0 V1) V2) V3) (Y1 V0 V3) (Y0 (Y0 V1 J1) V0) (Y1 V2 (Y0 V1 J1)) hi h this
theorem back_all(i:Nat):zhh i i=List.range (i+1):=by
 unfold zhh
 rw[Nat.sub_self]
 exact(zby fun t _=>Nat.zero_add t).trans (List.map_id _)
end
theorem zrd{f:Nat->List Nat}{n:Nat}(hl:∀x,x<n->(f x).length=2)(hi:∀x y,x<n->y<n->f x=f y->x=y):∀{a b:List Nat},(∀x∈a,x<n)->(∀x∈b,x<n)->a.flatMap f=b.flatMap f->a=b
 |[],[],_,_,_=>rfl
 |[],y::b,_,h2,e=>by
  have:=congrArg List.length e
  rw[zb4,zao,hl y (h2 y zae)] at this
  simp only[List.flatMap_nil,List.length_nil] at this
  exact False.elim (Ar.ar1 [_] [] 171802918944 J0 (Y2 J0 (Y0 J2 V0)) this)
 |x::a,[],h1,_,e=>by
  have:=congrArg List.length e
  rw[zb4,zao,hl x (h1 x zae)] at this
  simp only[List.flatMap_nil,List.length_nil] at this
  exact False.elim (Ar.ar1 [_] [] 171801870368 J0 (Y2 (Y0 J2 V0) J0) this)
 |x::a,y::b,h1,h2,e=>by
  rw[zb4,zb4] at e
  obtain⟨e1,e2⟩:=List.append_inj e ((hl x (h1 x zae)).trans (hl y (h2 y zae)).symm)
  rw[hi x y (h1 x zae) (h2 y zae) e1,zrd hl hi (fun z hz=>h1 z (zai _ hz)) (fun z hz=>h2 z (zai _ hz)) e2]
theorem zn5{W:Nat->Str}:∀{l:List Nat}{s:Str},∃r,((l.map fun x=>Th.text (W x)).foldl (zcw .text) (.text s))=.text r/\r.cps.toList=s.cps.toList++l.flatMap fun x=>(W x).cps.toList
 |[],s=>⟨s,rfl,by rw[List.flatMap_nil,za9]⟩
 |x::l,s=>by
  obtain⟨r,e,h⟩:=zn5 (W:=W) (l:=l) (s:=s++W x)
  exact⟨r,e,by rw[h,zqm,zb4,zbd]⟩
theorem ztp{W:Nat->Str}{l:List Nat}(hne:l≠[]):∃r,ze9 .text (fun x=>.text (W x)) l=.text r/\r.cps.toList=l.flatMap fun x=>(W x).cps.toList:=by
 cases l with
 |nil=>exact absurd rfl hne
 |cons x l=>
  obtain⟨r,e,h⟩:=zn5 (W:=W) (l:=l) (s:=W x)
  exact⟨r,e,by rw[h,zb4]⟩
end Bn
namespace Bn
open PySem
noncomputable def zge:List St:=[.expr (.call "need_lines" [(.var 0)]),.ite (.not (.call "is_among" [(.var 1),(.lit (.int 0)),(.lit (.int 80))])) [.stuck] []]
noncomputable def zl1:List St:=[.expr (.call "need_both" [(.var 0),(.var 1)]),.ite (.cmp (.call "joints_for" [(.var 0),(.var 1)]) [.is] [(.lit .none)]) [.stuck] [],.ret (.call "laid" [(.var 0),(.var 1)])]
noncomputable def zo6:List St:=[.ite (.cmp (.var 0) [.eq] [(.lit (.int 0))]) [.ret (.call "one_by_one" [(.var 2)])] [],.ite (.cmp (.var 0) [.eq] [(.lit (.int 1))]) [.ret (.call "doubled" [(.var 2)])] [],.ite (.cmp (.var 0) [.eq] [(.lit (.int 2))]) [.ret (.call "by_halves" [(.var 2)])] [],.ite (.cmp (.var 0) [.eq] [(.lit (.int 3))]) [.ret (.call "by_pairs" [(.var 2)])] [],.ite (.and [(.cmp (.var 0) [.eq] [(.lit (.int 4))]),(.cmp (.var 2) [.lt] [(.lit (.int 13))])]) [.ret (.call "thrifty" [(.var 2),(.bin .add (.lit (.int 4)) (.bin .mod (.var 1) (.lit (.int 9))))])] [],.ite (.and [(.cmp (.var 0) [.eq] [(.lit (.int 5))]),(.cmp (.var 2) [.gt] [(.lit (.int 1))])]) [.set 3 (.bin .add (.lit (.int 1)) (.bin .mod (.var 1) (.bin .sub (.var 2) (.lit (.int 1))))),.ret (.call "beside" [(.var 3),(.call "_law_telling" [(.bin .div (.var 1) (.lit (.int 64))),(.var 3)]),(.bin .sub (.var 2) (.var 3)),(.call "by_halves" [(.bin .sub (.var 2) (.var 3))])])] [],.ret (.call "_law_telling" [(.var 1),(.var 2)])]
noncomputable def zji:List St:=[.ite (.cmp (.var 0) [.eq] [(.list [])]) [.ret (.var 0)] [],.set 2 (.bin .mod (.var 1) (.blt .len [(.var 0)])),.set 3 (.bin .mod (.bin .div (.var 1) (.lit (.int 64))) (.blt .len [(.idx (.var 0) (.var 2))])),.set 4 (.idx (.idx (.idx (.var 0) (.var 2)) (.var 3)) (.lit (.int 1))),.ret (.bin .add (.bin .add (.slice (.var 0) (.lit .none) (.var 2)) (.list [(.bin .add (.bin .add (.slice (.idx (.var 0) (.var 2)) (.lit .none) (.var 3)) (.list [(.tup [(.bin .mod (.bin .div (.var 1) (.lit (.int 4096))) (.var 4)),(.var 4)])])) (.slice (.idx (.var 0) (.var 2)) (.bin .add (.var 3) (.lit (.int 1))) (.lit .none)))])) (.slice (.var 0) (.bin .add (.var 2) (.lit (.int 1))) (.lit .none)))]
noncomputable def p7_law:List St:=[.set 1 (.call "_law_lines_by" [(.call "_law_cell_at" [(.var 0),(.lit (.int 0))])]),.set 2 (.bin .mod (.bin .mul (.call "_law_cell_at" [(.var 0),(.lit (.int 2))]) (.lit (.int 48271))) (.lit (.int 2147483647))),.set 3 (.call "_law_made" [(.bin .mod (.var 2) (.lit (.int 9))),(.bin .mod (.bin .mul (.call "_law_cell_at" [(.var 0),(.lit (.int 1))]) (.lit (.int 48271))) (.lit (.int 2147483647))),(.var 1)]),.ite (.cmp (.bin .mod (.var 2) (.lit (.int 9))) [.eq] [(.lit (.int 8))]) [.set 1 (.bin .add (.lit (.int 1)) (.bin .mod (.var 1) (.lit (.int 12)))),.set 3 (.call "_law_slow" [(.var 1),(.bin .div (.var 2) (.lit (.int 9)))])] [],.ite (.cmp (.bin .mod (.bin .div (.var 2) (.lit (.int 9))) (.lit (.int 4))) [.eq] [(.lit (.int 1))]) [.set 3 (.call "_law_bent" [(.var 3),(.bin .div (.var 2) (.lit (.int 36)))])] [],.set 4 (.comp (.blt .list [(.var 16)]) (.one 16) (.var 3) []),.set 5 (.call "tells" [(.var 1),(.var 4)]),.ite (.or [(.not (.isi (.var 5) .bool)),(.cmp (.var 4) [.ne] [(.var 3)])]) [.ret (.lit (.bool false))] [],.ite (.not (.var 5)) [.set 6 (.lit (.str "abcdefghijklmnopqrstuvwxyz")),.set 8 (.comp (.bin .add (.idx (.var 6) (.bin .mod (.var 16) (.lit (.int 26)))) (.idx (.var 6) (.bin .div (.var 16) (.lit (.int 26))))) (.one 16) (.blt .range [(.var 1)]) []),.ret (.cmp (.call "led" [(.var 4),(.lit (.str "text")),(.blt .list [(.var 8)])]) [.ne] [(.comp (.meth .join (.lit (.str "")) [(.slice (.var 8) (.lit .none) (.bin .add (.var 16) (.lit (.int 1))))]) (.one 16) (.blt .range [(.var 1)]) [])])] [],.set 9 (.idx (.list [(.lit (.str "sum")),(.lit (.str "most")),(.lit (.str "text")),(.lit (.str "map")),(.lit (.str "step"))]) (.bin .mod (.bin .div (.var 2) (.lit (.int 36))) (.lit (.int 5)))),.set 10 (.bin .add (.lit (.int 1)) (.bin .mod (.bin .div (.var 2) (.lit (.int 180))) (.lit (.int 8)))),.set 8 (.comp (.call "_law_thing" [(.var 9),(.bin .add (.call "_law_cell_at" [(.var 0),(.bin .add (.lit (.int 3)) (.bin .mod (.var 16) (.lit (.int 40))))]) (.bin .mul (.lit (.int 7919)) (.var 16))),(.var 10)]) (.one 16) (.blt .range [(.var 1)]) []),.set 11 (.blt .list [(.var 8)]),.set 12 (.call "led" [(.var 4),(.var 9),(.var 11)]),.ite (.or [(.not (.isi (.var 12) .list)),(.cmp (.blt .len [(.var 12)]) [.ne] [(.var 1)]),(.cmp (.var 11) [.ne] [(.var 8)]),(.cmp (.var 4) [.ne] [(.var 3)])]) [.ret (.lit (.bool false))] [],.set 13 (.idx (.var 8) (.lit (.int 0))),.loop (.one 7) (.val (.blt .range [(.var 1)])) [.ite (.cmp (.var 7) [.gt] [(.lit (.int 0))]) [.set 13 (.call "_law_join" [(.var 9),(.var 13),(.idx (.var 8) (.var 7))])] [],.set 14 (.idx (.var 8) (.var 7)),.loop (.one 15) (.val (.blt .range [(.var 7)])) [.set 14 (.call "_law_join" [(.var 9),(.idx (.var 8) (.bin .sub (.bin .sub (.var 7) (.lit (.int 1))) (.var 15))),(.var 14)])],.ite (.or [(.not (.call "_law_alike" [(.idx (.var 12) (.var 7)),(.var 13)])),(.cmp (.var 14) [.ne] [(.var 13)])]) [.ret (.lit (.bool false))] []],.ret (.lit (.bool true))]
theorem zpx{α:Type}{xs:List α}{i:Nat}{v:α}(h:i<xs.length):xs.take i++[v]++xs.drop (i+1)=xs.set i v:=by
 rw[List.set_eq_take_append_cons_drop,if_pos h,zbd];rfl
theorem len_set1{N k:Nat}{net:Net}{y y':List (Nat×Nat)}(hN:∀x,lenN net x<=N)(hy:net[k]?=some y)(x:Nat):lenN (net.set k y') x<=4*N*N:=by
 rw[<- zpx (zcl hy)]
 exact near_len (mid:=[y]) (mid':=[y']) (fun z=>by rw[<- zq3 hy];exact hN z) (by show 1<=2;decide) x
section
variable {c:Cx}{q:Bool}{d:Nat}{Q:V->Hp->Prop}{E:XPost}{H:Hp}
theorem s_bent7(P:Has c "_law_bent" 2 5 zji){a n cell N:Nat}{bs:List Nat}{net:Net}(A:NetAt H a bs net)(hn:n<50000)(ho:zhe n net)(hN:∀x,lenN net x<=N)(hN1:1<=N)(hc:q=true)
  (hq:∀a' bs' net' H',NetAt H' a' bs' net'->zhe n net'->(∀x,lenN net' x<=4*N*N)->Stay [] H H'->Q (.lst a') H'):Calls c q (d+1) "_law_bent" [.lst a,.int cell] none Q E H:=by
 subst hc
 refine P true d _ Q E H rfl (Ss_go ?_)
 walk_at "wps"
 have st1:=(Stay.refl (S:=[]) (H:=H)).app (xs:=[])
 have A1:=A.grow st1
 refine Opt.mk (zu8 (zum A1 (cs:=[]) (ys:=[]) ⟨zcf,rfl,fun _ _ _ h=>nomatch h⟩)) ?_
 generalize H++[[]]=H1 at st1 A1
 refine zci (fun h0=>?_) (fun h0=>?_)
 ·walk_at "wps"
  refine hq a bs net H1 A1 ho (fun x=>zab (hN x) ?_) st1
  have:N*1<=4*N*N:=Nat.mul_le_mul (by exact Ar.ar0 [_] [] 171801870336 (Y0 V0 (Y1 (.l 4) V0))) hN1
  exact Ar.ar1 [_,_] [] 0xa5000610000308020 (Y0 V0 V1) (Y0 (Y1 V0 J1) V1) this
 ·have hnl:0<net.length:=List.length_pos_iff.mpr h0
  walk_at "wps"
  refine Opt.mk (zdk A1.top) ?_
  walk_at "wps"
  rw[zac,A1.len]
  refine zdg hnl ?_
  walk_at "wps"
  have hat:cell%net.length<net.length:=Nat.mod_lt _ hnl
  generalize cell%net.length=i at hat
  have hy:=zam hat
  generalize net[i]=y at hy
  obtain⟨b,hb,hbH,hbI⟩:=A1.at hy
  refine zdq (b:=64) (by decide) ?_
  walk_at "wps"
  refine Opt.mk hbI ?_
  walk_at "wps"
  refine Opt.mk (zdk hbH) ?_
  walk_at "wps"
  have hyo:=ho.2 y (zax hy)
  have hyl:0<y.length:=List.length_pos_iff.mpr hyo.1
  rw[zac]
  refine zdg hyl ?_
  walk_at "wps"
  have hsp:cell/64%y.length<y.length:=Nat.mod_lt _ hyl
  generalize cell/64%y.length=k at hsp
  have hp:=zam hsp
  generalize y[k]=p at hp
  obtain⟨lo,hi⟩:=p
  have hpm:lo<hi/\hi<n/\0<=hi:=(ze0 hyo.2).1 _ (zax hp)
  have hi0:0<hi:=zaw (za2 _) hpm.1
  refine Opt.mk hbI ?_
  walk_at "wps"
  refine Opt.mk (zc5 hbH (zk2 hp)) ?_
  refine Opt.mk (a:=V.int hi) rfl ?_
  walk_at "wps"
  refine zcq (zh9 A1.top) fun a2 H2 N2=>?_
  walk_at "wps"
  refine Opt.mk (by rw[show idxV H2 (.lst a) (.int i)=some (.lst b) from zc5 (at0 N2.st A1.top) (by rw[zan,hb];rfl)]) ?_
  walk_at "wps"
  have ny:y.length<50000:=zaw (zab (za8 _ _) (zg3 hyo.2 hyo.1).1) hn
  refine zcq (zh9 (at0 N2.st hbH)) fun e1 H3 N3=>?_
  walk_at "wps"
  refine zdq (b:=4096) (by decide) ?_
  walk_at "wps"
  refine zdg hi0 ?_
  walk_at "wps"
  have hlt:cell/4096%hi<hi:=Nat.mod_lt _ hi0
  generalize cell/4096%hi=l' at hlt
  have s4:=(Stay.refl (S:=[]) (H:=H3)).app (xs:=[pr (l',hi)])
  refine zcq (zef (at0 s4 N3.hold) zcf (by rw[zbj,zac];show _+1<_;exact Ar.ar2 [_,_] [] 0x194a528003080601840400c20280610000808401 (Y1 (Y0 (Y5 V0 V1) J1) (.l 100000)) (Y1 V0 V1) (Y1 V1 (.l 50000)) hsp ny)) fun e3 H5 N5=>?_
  walk_at "wps"
  have s5:=N2.st.trans0 (N3.st.trans0 (s4.trans0 N5.st))
  refine Opt.mk (show idxV H5 (.lst a) (.int i)=some (.lst b) from zc5 (at0 s5 A1.top) (by rw[zan,hb];rfl)) ?_
  refine zcq (zg4 (i:=k+1) (at0 s5 hbH)) fun e4 H6 N6=>?_
  walk_at "wps"
  refine zcq (zef (at0 N6.st N5.hold) N6.hold (by rw[zao,zbj,zbr,zac];show _+1+_<_;exact Ar.ar2 [_,_] [] 0xc65294a50006101803080e01880800c201806100005184000842808401 (Y1 (Y0 (Y0 (Y5 V0 V1) J1) (Y2 V1 (Y0 V0 J1))) (.l 100000)) (Y1 V0 V1) (Y1 V1 (.l 50000)) hsp ny)) fun e5 H7 N7=>?_
  have hl5:H7[e5]?=some ((y.set k (l',hi)).map pr):=by
   rw[N7.hold,List.map_set,<-zpx (by rw[zac];exact hsp)];rfl
  have s7:=s5.trans0 (N6.st.trans0 N7.st)
  have s8:=(Stay.refl (S:=[]) (H:=H7)).app (xs:=[V.lst e5])
  have h2:=at0 (N3.st.trans0 (s4.trans0 (N5.st.trans0 (N6.st.trans0 N7.st)))) N2.hold
  walk_at "wps"
  refine zcq (zef (at0 s8 h2) zcf (by rw[zbj,zac,A1.len];show _+1<_;have:=ho.1;exact Ar.ar2 [_,_] [] 0x194a528003080601840400c20280610000808401 (Y1 (Y0 (Y5 V0 V1) J1) (.l 100000)) (Y1 V0 V1) (Y0 V1 (.l 80)) hat this)) fun e6 H9 N9=>?_
  walk_at "wps"
  have s9:=s7.trans0 (s8.trans0 N9.st)
  refine zcq (zg4 (i:=i+1) (at0 s9 A1.top)) fun e7 H10 N10=>?_
  walk_at "wps"
  refine zcq (zef (at0 N10.st N9.hold) N10.hold (by rw[zao,zbj,zbr,zac,A1.len];show _+1+_<_;have:=ho.1;exact Ar.ar2 [_,_] [] 0xc65294a50006101803080e01880800c201806100005184000842808401 (Y1 (Y0 (Y0 (Y5 V0 V1) J1) (Y2 V1 (Y0 V0 J1))) (.l 100000)) (Y1 V0 V1) (Y0 V1 (.l 80)) hat this)) fun e8 H11 N11=>?_
  have top:H11[e8]?=some ((bs.set i e5).map .lst):=by
   rw[N11.hold,List.map_set,<-zpx (by rw[zac,A1.len];exact hat)]
  have s11:=s9.trans0 (N10.st.trans0 N11.st)
  have s711:=s8.trans0 (N9.st.trans0 (N10.st.trans0 N11.st))
  refine hq e8 (bs.set i e5) (net.set i (y.set k (l',hi))) H11 ⟨top,by rw[zbm,zbm];exact A1.len,fun j r z h1 h2=>?_⟩ (zu0 ho (zp5 hyo hp hlt)) (len_set1 hN hy) (st1.trans0 s11)
  by_cases e:j=i
  ·subst e
   rw[zb0 (by rw[A1.len];exact hat)] at h1
   rw[zb0 hat] at h2
   obtain rfl:=zaa h1
   obtain rfl:=zaa h2
   exact at0 s711 hl5
  ·rw[zb1 (Ne.symm e)] at h1 h2
   exact at0 s11 (A1.lay j r z h1 h2)
end
end Bn
namespace Bn
open PySem
theorem thr_all:((List.range 12).all fun i=>(List.range 9).all fun j=>(zm2 (j+4) (i+1)).isSome&&(zkk (i+1) (j+4)).isSome)=true:=by decide +kernel
theorem thr_some{n L:Nat}(hn1:1<=n)(hn:n<=12)(hL4:4<=L)(hL:L<=12):∃x net,zkk n L=some x/\zhf L n=some net:=by
 have h:=za5.mp (za5.mp thr_all (n-1) (za4.mpr (by exact Ar.ar1 [_] [] 0x68214a50006101803080601840000005294001840400c20280610000508001 (Y1 (Y2 V0 J1) (.l 12)) (Y0 V0 (.l 12)) hn))) (L-4) (za4.mpr (by exact Ar.ar1 [_] [] 0x68214a50006101803080601840000005294001840400c20280610000520001 (Y1 (Y2 V0 (.l 4)) (.l 9)) (Y0 V0 (.l 12)) hL))
 rw[zb6 hn1,zb6 hL4] at h
 obtain⟨h1,h2⟩:=zag.mp h
 obtain⟨s,hs⟩:=zb7.mp h1
 obtain⟨x,hx⟩:=zb7.mp h2
 obtain⟨net,hl⟩:=zol hs
 exact⟨x,net,hx,hl⟩
section
variable {c:Cx}{q:Bool}{d:Nat}{Q:V->Hp->Prop}{E:XPost}{H:Hp}
theorem s_both7(P:Has c "need_both" 2 2 zge)(C:Checks c){n L:Nat}(hn1:1<=n)(hn:n<=64)(hL:L<=80)(hc:q=true)(hq:Q .none H):Calls c q (d+3) "need_both" [.int n,.int L] none Q E H:=by
 subst hc
 refine P true (d+2) _ Q E H rfl (Ss_go ?_)
 walk_at "wps"
 refine zd5 (d:=d) C.among C.lines (zaz.mpr hn1) (zaz.mpr hn) ?_
 walk_at "wps"
 refine zkv (d:=d+1) C.among rfl ?_
 rw[show zes 0 80 (.int L)=true from am_nat (lo:=0) (hi:=80) (za2 _) hL]
 walk_at "wps"
 exact hq
theorem zsg(P:Has c "thrifty" 2 2 zl1)(PB:Has c "need_both" 2 2 zge)(C:Checks c)(F:Fns6b c){n L x:Nat}{net:Net}(hn1:1<=n)(hn:n<=12)(hL:L<=80)(hj:zkk n L=some x)(hl:zhf L n=some net)(hc:q=true)
  (hq:∀a' bs' H',NetAt H' a' bs' net->Stay [] H H'->Q (.lst a') H'):Calls c q (d+30) "thrifty" [.int n,.int L] none Q E H:=by
 subst hc
 refine P true (d+29) _ Q E H rfl (Ss_go ?_)
 walk_at "wps"
 refine s_both7 (d:=d+26) PB C hn1 (zab hn (by decide)) hL rfl ?_
 walk_at "wps"
 refine zn3 (d:=d+27) F hn1 hL rfl ?_
 rw[hj]
 walk_at "wps"
 refine Opt.mk (a:=false) rfl ?_
 walk_at "wps"
 exact zxm (d:=d+10) F 16 (zab hn (by decide)) (by decide) hL hl hq
structure Fns7a(c:Cx):Prop extends FnsM c where
 one:Has c "one_by_one" 1 2 zh2
 dbl:Has c "doubled" 1 4 zmd
 beside:Has c "beside" 4 4 zpk
 ways:Has c "ways_of" 2 4 zim
 joints:Has c "joints_for" 2 6 zht
 first:Has c "first_lines" 2 6 zha
 laid:Has c "laid" 2 3 zwe
 both:Has c "need_both" 2 2 zge
 thrifty:Has c "thrifty" 2 2 zl1
 place:Has c "_law_place" 5 6 zc4
 thinner:Has c "_law_thinner" 6 8 zei
 telling:Has c "_law_telling" 2 16 zfi
 made:Has c "_law_made" 3 4 zo6
theorem s_made7(F:Fns7a c){w cell n:Nat}(hn1:1<=n)(hn:n<=32)(hc:q=true)
  (hq:∀a bs H' net,Fine n net->net.length<=80->NetAt H' a bs net->Stay [] H H'->Q (.lst a) H'):Calls c q (d+40) "_law_made" [.int w,.int cell,.int n] none Q E H:=by
 subst hc
 have h64:n<=64:=zab hn (by decide)
 have short:∀{x:Nat},x<=n-1->x<=80:=fun h=>zab h (zab (Nat.sub_le ..) (zab hn (by decide)))
 refine F.made true (d+39) _ Q E H rfl (Ss_go ?_)
 walk_at "wps"
 refine zci (fun _=>?_) (fun _=>?_)
 ·walk_at "wps"
  exact zpj (d:=d+36) F.one F.chk hn1 h64 rfl fun a bs H' N st=>hq a bs H' _ (fine_one n) (by rw[zfb,zac,zap];exact short (zaf _)) N st
 walk_at "wps"
 refine zci (fun _=>?_) (fun _=>?_)
 ·walk_at "wps"
  exact zvb (d:=d+36) F.dbl F.chk hn1 h64 rfl fun a bs H' net f l N st=>hq a bs H' net f l N st
 walk_at "wps"
 refine zci (fun _=>?_) (fun _=>?_)
 ·walk_at "wps"
  have f:=zfx n hn1
  exact zf0 (d:=d+5) F.toFnsM 32 hn1 hn (by decide) fun a bs H' N st=>hq a bs H' _ f.1 (short f.2) N st
 walk_at "wps"
 refine zci (fun _=>?_) (fun _=>?_)
 ·walk_at "wps"
  have f:=zl8 n hn1
  exact zl3 (d:=d+5) F.toFnsM 32 hn1 hn (by decide) fun a bs H' N st=>hq a bs H' _ f.1 (short f.2) N st
 walk_at "wps"
 have rest2:wpSs (Calls c) true (d+39) none (zo6.drop 6) (EndQ Q) (EndX E) [some (.int w),some (.int cell),some (.int n),none] H:=by
  refine Ss_go ?_
  walk_at "wps"
  exact zoj (d:=d+36) F.telling F.thinner F.place hn1 h64 rfl fun a bs net H' T N st _ _=>hq _ _ _ _ T.fine (zbk (len80 T.len (zaf _) h64)) N st
 have rest:wpSs (Calls c) true (d+39) none (zo6.drop 5) (EndQ Q) (EndX E) [some (.int w),some (.int cell),some (.int n),none] H:=by
  refine Ss_go ?_
  walk_at "wps"
  refine zci (fun _=>zci (fun h=>?_) (fun _=>?_)) (fun _=>?_)
  ·have h:1<n:=zaq.mp h
   walk_at "wps"
   rw[show(n:Int)-1=((n-1:Nat):Int) from(Int.ofNat_sub hn1).symm]
   refine zdg (by exact Ar.ar1 [_] [] 0x65294001840300c20200610040508001 (Y1 J0 (Y2 V0 J1)) (Y1 J1 V0) h) ?_
   walk_at "wps"
   have hx:=Nat.mod_lt cell (show 0<n-1 by exact Ar.ar1 [_] [] 0x65294001840300c20200610040508001 (Y1 J0 (Y2 V0 J1)) (Y1 J1 V0) h)
   rw[show(1:Int)+((cell%(n-1):Nat):Int)=((1+cell%(n-1):Nat):Int) from(Int.natCast_add ..).symm]
   obtain⟨k,hk1,e⟩:∃k,1<=k/\n=1+cell%(n-1)+k:=⟨n-(1+cell%(n-1)),by exact Ar.ar2 [_,_] [] 0xd04294001840700c2000000194a528003080e01840900c201806100405184210002508001 (Y0 J1 (Y2 V0 (Y0 J1 V1))) (Y1 J1 V0) (Y1 V1 (Y2 V0 J1)) h hx,by exact Ar.ar1 [_,_] [] 0x1865280030806018401014610840008d03214a528003081601840900c20100610040301420004a500061010030800028c2108001 (Y2 V0 (Y0 (Y0 J1 V1) (Y2 V0 (Y0 J1 V1)))) (Y1 V1 (Y2 V0 J1)) hx⟩
   have hm1:1<=1+cell%(n-1):=za8 ..
   generalize 1+cell%(n-1)=m at e hm1
   clear hx
   have hmn:m<=n:=e▸za8 ..
   have hkn:k<=n:=e▸zbt ..
   refine zdq (b:=64) (by decide) ?_
   walk_at "wps"
   refine zoj (n:=m) (d:=d+36) F.telling F.thinner F.place hm1 (zab hmn h64) rfl fun a1 bs1 net1 H1 T1 N1 st1 _ _=>?_
   walk_at "wps"
   rw[sub_of e]
   have f:=zfx k hk1
   refine zf0 (d:=d+5) F.toFnsM 32 hk1 (zab hkn hn) (by decide) fun a2 bs2 H2 N2 st2=>?_
   walk_at "wps"
   have hl1:=len80 T1.len hmn h64
   have hl2:(zfm k).length<=79:=len80 (k:=k) (zab f.2 (zab (Nat.sub_le ..) (za8 ..))) hkn h64
   refine s_beside (d:=d+34) F.beside F.toFnsM (N1.grow st2) N2 hm1 hk1 (e▸h64) hl1 hl2 T1.ok f.1.ok rfl fun a' bs' H' N' st'=>?_
   exact hq _ _ _ _ (e▸zhi hm1 hk1 T1.fine f.1) (by rw[zg6];exact zb3 (Nat.max_le.mpr ⟨hl1,hl2⟩)) N' (st1.trans0 (st2.trans0 st'))
  ·walk_at "wps"
   exact rest2
  ·walk_at "wps"
   exact rest2
 refine zci (fun _=>zci (fun h=>?_) (fun _=>?_)) (fun _=>?_)
 ·have h:n<13:=zaq.mp h
  walk_at "wps"
  refine zdg (b:=9) (by decide) ?_
  walk_at "wps"
  have h9:=Nat.mod_lt cell (show 0<9 by decide)
  rw[show(4:Int)+((cell%9:Nat):Int)=((4+cell%9:Nat):Int) from(Int.natCast_add ..).symm]
  obtain⟨x,net,hj,hl⟩:=thr_some hn1 (Nat.le_of_lt_succ h) (za8 4 (cell%9)) (by exact Ar.ar1 [_] [] 0xa5000610000308020 (Y0 (Y0 (.l 4) (Y4 V0 (.l 9))) (.l 12)) (Y1 (Y4 V0 (.l 9)) (.l 9)) h9)
  have X:=zqd hl
  exact zsg (d:=d+9) F.thrifty F.both F.chk ⟨F.ways,F.joints,F.first,F.laid,F.moved,F.side,F.parted⟩ hn1 (Nat.le_of_lt_succ h) (by exact Ar.ar1 [_] [] 0xa5000610000308020 (Y0 (Y0 (.l 4) (Y4 V0 (.l 9))) (.l 80)) (Y1 (Y4 V0 (.l 9)) (.l 9)) h9) hj hl rfl fun a bs H' N st=>hq a bs H' net X.fine (short X.lenn) N st
 ·walk_at "wps"
  exact rest
 ·walk_at "wps"
  exact rest
end
end Bn
namespace Bn
open PySem
theorem zud{kk:Kd}{w:Nat}:∀{l:List Th}{g:Th}{m:Nat},Sh kk g->mlen g=w->tlen g<=m->(∀t∈l,Sh kk t/\mlen t=w/\tlen t<=6)->m+6*l.length<=9000->Sh kk (l.foldl (zcw kk) g)/\mlen (l.foldl (zcw kk) g)=w
 |[],_,_,h1,h2,_,_,_=>⟨h1,h2⟩
 |t::l,g,m,h1,h2,h3,h,hm=>by
  obtain⟨t1,t2,t3⟩:=h t zae
  have e:m+6*(l.length+1)<=9000:=hm
  refine zud (l:=l) (m:=m+6) (h1.join t1 (h2.trans t2.symm) (zab (Nat.add_le_add h3 t3) (by exact Ar.ar1 [_,_] [] 0xa5000610000308020 (Y0 (Y0 V0 (.l 6)) (.l 9000)) (Y0 (Y0 V0 (Y1 (.l 6) (Y0 V1 J1))) (.l 9000)) e))) ((zob h1 t1).trans h2) ?_ (fun u hu=>h u (zai _ hu)) (by exact Ar.ar1 [_,_] [] 0xa5000610000308020 (Y0 (Y0 (Y0 V0 (.l 6)) (Y1 (.l 6) V1)) (.l 9000)) (Y0 (Y0 V0 (Y1 (.l 6) (Y0 V1 J1))) (.l 9000)) e)
  rw[zn4 h1 t1];exact Nat.add_le_add h3 t3
theorem zjn{kk:Kd}{w n:Nat}{σ:Nat->Th}(hT:Ths kk w n (fun _=>6) σ){a:List Nat}(hne:a≠[])(h:∀x∈a,x<n)(hl:a.length<=1000):Sh kk (ze9 kk σ a)/\mlen (ze9 kk σ a)=w:=by
 cases a with
 |nil=>exact absurd rfl hne
 |cons x a=>
  have hx:=hT x (h x zae)
  have hl:a.length+1<=1000:=hl
  refine zud (m:=6) hx.1 hx.2.1 hx.2.2 (fun t ht=>?_) (by rw[zac];exact Ar.ar1 [_] [] 0xa5000610000330020 (Y0 (Y0 (.l 6) (Y1 (.l 6) V0)) (.l 9000)) (Y0 (Y0 V0 J1) (.l 1000)) hl)
  obtain⟨y,hy,rfl⟩:=zak.mp ht
  exact hT y (h y (zai _ hy))
noncomputable def zdc(x:Nat):Str:=(⟨#[zfw ((x%26:Nat):Int)]⟩:Str)++⟨#[zfw ((x/26:Nat):Int)]⟩
theorem zjp(x:Nat):(zdc x).cps.toList=[zfw ((x%26:Nat):Int),zfw ((x/26:Nat):Int)]:=zqm _ _
theorem zmm(x:Nat):(zdc x).length=2:=zhk _ _
theorem zxk{x:Nat}(hx:x<64):lets (zdc x):=by
 refine⟨by rw[zmm];decide,fun z hz=>?_⟩
 rw[zjp] at hz
 rcases zal.mp hz with rfl |hz
 ·exact zqn (zbf _) (zaq.mpr (Nat.mod_lt _ (by decide)))
 ·rw[zah.mp hz];exact zqn (zbf _) (by exact Ar.ar1 [_] [] 0x65294001e80200c201806100006d0001 (Y4 (Y4 (Y3 V0 (.l 26)) J0) (.l 26)) (Y1 V0 (.l 64)) hx)
theorem zoi:((List.range 64).all fun x=>(List.range 64).all fun y=>(decide (x=y))||!(decide ([zfw ((x%26:Nat):Int),zfw ((x/26:Nat):Int)]=[zfw ((y%26:Nat):Int),zfw ((y/26:Nat):Int)])))=true:=by decide +kernel
theorem word_inj{x y:Nat}(hx:x<64)(hy:y<64)(h:(zdc x).cps.toList=(zdc y).cps.toList):x=y:=by
 have:=za5.mp (za5.mp zoi x (za4.mpr hx)) y (za4.mpr hy)
 rw[zjp,zjp] at h
 rw[decide_eq_true h] at this
 exact of_decide_eq_true (by revert this;cases decide (x=y)<;>decide)
noncomputable def allW(l:List Nat):Str:=⟨(l.flatMap fun x=>(zdc x).cps.toList).toArray⟩
theorem Str_ext{a b:Str}(h:a.cps.toList=b.cps.toList):a=b:=by
 obtain⟨a⟩:=a
 obtain⟨b⟩:=b
 exact congrArg Str.mk (Array.toList_inj.mp h)
theorem zlw{l:List Nat}(hne:l≠[]):ze9 .text (fun x=>.text (zdc x)) l=.text (allW l):=by
 obtain⟨r,e,h⟩:=ztp (W:=zdc) hne
 rw[e];exact congrArg Th.text (Str_ext (h.trans List.toList_toArray.symm))
theorem allW_inj{n:Nat}(hn:n<=64){a b:List Nat}(h1:∀x∈a,x<n)(h2:∀x∈b,x<n)(h:allW a=allW b):a=b:=
 zrd (f:=fun x=>(zdc x).cps.toList) (n:=n) (fun x _=>by rw[zjp];rfl) (fun x y hx hy e=>word_inj (zay hx hn) (zay hy hn) e) h1 h2 (by
  have:=congrArg (fun s:Str=>s.cps.toList) h
  exact this)
theorem strs_ne{f g:Nat->Str}:∀{l:List Nat},(∀x∈l,PyData.strOk (f x)=true/\PyData.strOk (g x)=true)->(∃x∈l,f x≠g x)->(PyData.canLayAll0 (l.map fun x=>.str (f x))=true/\PyData.canLayAll0 (l.map fun x=>.str (g x))=true)/\PyData.eqvAll (l.map fun x=>.str (f x)) (l.map fun x=>.str (g x))=false:=by
 have lay:∀{h:Nat->Str} (l:List Nat),(∀x∈l,PyData.strOk (h x)=true)->PyData.canLayAll0 (l.map fun x=>.str (h x))=true:=fun{h} l=>by
  induction l with
  |nil=>exact fun _=>rfl
  |cons x l ih=>exact fun k=>zag.mpr ⟨k x zae,ih fun z hz=>k z (zai _ hz)⟩
 intro l h1 h2
 refine⟨⟨lay l fun x hx=>(h1 x hx).1,lay l fun x hx=>(h1 x hx).2⟩,?_⟩
 clear h1
 induction l with
 |nil=>obtain⟨_,h,_⟩:=h2;exact nomatch h
 |cons x l ih=>
  show((f x==g x)&&PyData.eqvAll (l.map fun x=>.str (f x)) (l.map fun x=>.str (g x)))=false
  by_cases e:f x=g x
  ·obtain⟨y,hy,ne⟩:=h2
   rcases zal.mp hy with rfl |hy
   ·exact absurd e ne
   ·rw[ih ⟨y,hy,ne⟩,Bool.and_false]
  ·rw[beq_eq_false_iff_ne.mpr e,Bool.false_and]
end Bn
namespace Bn
open PySem
theorem zlp:∀l:List Nat,zh5 (l.map fun x=>V.str (zdc x))=some (l.map zdc)
 |[]=>rfl
 |x::l=>by
  show(zh5 (l.map fun x=>V.str (zdc x))).map _=_
  rw[zlp l];rfl
theorem zo1:∀l:List Nat,((l.map zdc).map Str.length).sum=2*l.length
 |[]=>rfl
 |x::l=>by
  show(zdc x).length+((l.map zdc).map Str.length).sum=2*(l.length+1)
  rw[zo1 l,zmm];exact Ar.ar0 [_] [] 0x628003080002800308000 (Y2 (Y0 J2 (Y1 J2 V0)) (Y1 J2 (Y0 V0 J1)))
theorem zs4(l:List Nat):(⟨((l.map zdc).flatMap fun x=>x.cps.toList).toArray⟩:Str)=allW l:=by
 unfold allW
 rw[List.flatMap_map]
section
variable {c:Cx}{q:Bool}{d:Nat}{Q:V->Hp->Prop}{E:XPost}{H:Hp}
structure Fns7(c:Cx):Prop where
 k:FnsK c
 a:Fns7a c
 nkind:Has c "need_kind" 1 1 zem
 nthing:Has c "need_thing" 2 2 zev
 alike:Has c "need_alike" 2 3 zew
 things:Has c "need_things" 3 4 zfj
 led:Has c "led" 3 3 zu3
 car:HasJ c "carried" 2 7 zi1
 cell:Has c "_law_cell_at" 2 2 zg9
 whole:Has c "_law_whole" 1 1 zfd
 ljoin:Has c "_law_join" 3 4 zje
 lalike:Has c "_law_alike" 2 3 zf4
 lthing:Has c "_law_thing" 3 5 zdo
 lines:Has c "_law_lines_by" 1 2 zgp
 slow:Has c "_law_slow" 2 8 zld
 bent:Has c "_law_bent" 2 5 zji
 tells:Has c "tells" 2 2 zt8
 does:Has c "does_tell" 2 8 zho
 law:Has c "law" 1 17 p7_law
theorem comp_gr{n:Nat}{t:Tg}{l:Loc}{W:Loc->(V->Hp->Prop)->Hp->Prop}{K:List V->Hp->Prop}{v:V}{g:Nat->V}(hv:∀xs H,okV v xs H)(hW:∀i H' (K:V->Hp->Prop),i<n->Stay [] H H'->(∀H'',Stay [] H' H''->K (g i) H'')->Opt (zgq t (nat i) l) fun l'=>W l' K H')
  (hq:∀H',Stay [] H H'->K ((List.range n).map g) H'):zey (okV v ((List.range n).map nat)) (zkf (fun _ Q H=>Q true H) W t l) ((List.range n).map nat) [] K H:=by
 refine zea (I:=fun j acc H'=>acc=(List.range j).map g/\Stay [] H H') ?_ ?_ ⟨rfl,Stay.refl⟩
 ·rintro j x acc H' K' hx ⟨rfl,st⟩ hK
  rw[zan] at hx
  obtain⟨i,hi,rfl⟩:=zaj.mp hx
  have hi':=zcl hi
  rw[zap] at hi'
  rw[zbl hi'] at hi
  obtain rfl:=zaa hi
  obtain⟨l',hb,hw⟩:=Opt.inv (hW j H' (fun v H=>K' (((List.range j).map g)++[v]) H) hi' st fun H'' s=>hK _ _ (hv _ _) ⟨by rw[List.range_succ,zat];rfl,st.trans0 s⟩)
  exact Opt.mk hb hw
 ·rintro acc H' ⟨rfl,st⟩
  rw[zac,zap]
  exact hq H' st
theorem ne_words{n a b:Nat}{f g:Nat->Str}(ha:H[a]?=some ((List.range n).map fun x=>V.str (f x)))(hb:H[b]?=some ((List.range n).map fun x=>V.str (g x)))(hok:∀x,x<n->PyData.strOk (f x)=true/\PyData.strOk (g x)=true)(hne:∃x,x<n/\f x≠g x):eqV H (.lst a) (.lst b)=some false:=by
 obtain⟨x,hx,ne⟩:=hne
 obtain⟨⟨l1,l2⟩,e⟩:=strs_ne (f:=f) (g:=g) (l:=List.range n) (fun x hx=>hok x (za4.mp hx)) ⟨x,za4.mpr hx,ne⟩
 show(toP 9 H (.lst a)).bind _=_
 rw[zhs (n:=8) (f:=fun x=>PyData.str (f x)) ha fun x _=>rfl]
 show(toP 9 H (.lst b)).bind _=_
 rw[zhs (n:=8) (f:=fun x=>PyData.str (g x)) hb fun x _=>rfl]
 refine(if_pos (zag.mpr ⟨l1,l2⟩)).trans ?_
 exact congrArg some e
noncomputable def no7:List St:=[.set 6 (.lit (.str "abcdefghijklmnopqrstuvwxyz")),.set 8 (.comp (.bin .add (.idx (.var 6) (.bin .mod (.var 16) (.lit (.int 26)))) (.idx (.var 6) (.bin .div (.var 16) (.lit (.int 26))))) (.one 16) (.blt .range [(.var 1)]) []),.ret (.cmp (.call "led" [(.var 4),(.lit (.str "text")),(.blt .list [(.var 8)])]) [.ne] [(.comp (.meth .join (.lit (.str "")) [(.slice (.var 8) (.lit .none) (.bin .add (.var 16) (.lit (.int 1))))]) (.one 16) (.blt .range [(.var 1)]) [])])]
theorem law7_no(F:Fns7 c){xs:List Int}{n nt cell hd:Nat}{hs:List Nat}{net:Net}{EE:SX}(hn1:1<=n)(hn:n<=32)(A:NetAt H hd hs net)(ho:zhe n net)(hN:∀x,lenN net x<=4096)(hd':zdx n net=false) :
  wpSs (Calls c) true (d+49) none no7 (EndQ fun v _=>v=.bool true) EE [some (.scr xs),some (.int n),some (.int cell),some (.lst nt),some (.lst hd),some (.bool false),none,none,none,none,none,none,none,none,none,none,none] H:=by
 have hnb:n<64:=zaw hn (by decide)
 unfold no7
 refine Ss_go ?_
 walk_at "wps"
 refine Opt.mk (zcv (zar hnb (by decide))) ?_
 walk_at "wps"
 refine Opt.mk (zhp (H:=H)) ⟨zck (by rw[zac,zap];exact zar hnb (by decide)),?_⟩
 refine zcu (g:=fun x=>V.str (zdc x)) trivial (fun x hx K hK=>?_) ?_
 ·have hx:=za4.mp hx
  unfold nat
  walk_at "wps"
  refine zdg (b:=26) (by decide) ?_
  walk_at "wps"
  refine Opt.mk (zp2 (zbf _) (zaq.mpr (Nat.mod_lt _ (by decide)))) ?_
  walk_at "wps"
  refine zdq (b:=26) (by decide) ?_
  walk_at "wps"
  refine Opt.mk (zp2 (zbf _) (by exact Ar.ar2 [_,_] [] 0x194a528003d00401840300c202006100006d0001 (Y4 (Y4 (Y3 V0 (.l 26)) J0) (.l 26)) (Y0 V1 (.l 32)) (Y1 V0 V1) hn hx)) ?_
  walk_at "wps"
  refine Opt.mk (zr6 (by show 1+1<=20000;decide)) ?_
  exact hK
 walk_at "wps"
 have ht:(H++[(List.range n).map fun x=>V.str (zdc x)])[H.length]?=some (thL n fun x=>.text (zdc x)):=zcf
 have st1:=(Stay.refl (S:=[]) (H:=H)).app (xs:=(List.range n).map fun x=>V.str (zdc x))
 generalize H++[(List.range n).map fun x=>V.str (zdc x)]=H1 at ht st1
 generalize H.length=t at ht
 refine zcq (zgs ht) fun t2 H2 N2=>?_
 walk_at "wps"
 have A2:=A.grow (st1.trans0 N2.st)
 have hT:Ths .text 0 n (fun _=>2) (fun x=>.text (zdc x)):=fun x hx=>⟨zxk (zar hx hnb),rfl,zbc (zmm x)⟩
 refine s_led (d:=d+43) (kk:=.text) (w:=0) (b:=2) (N:=4096) F.led F.things F.nkind F.nthing F.alike F.car F.a.chk F.k A2 N2.hold hn1 (zav hnb) ho hN (by decide) (by decide) hT (fun _ _=>trivial) rfl fun fd H3 N3=>?_
 walk_at "wps"
 refine Opt.mk (zcv (zar hnb (by decide))) ?_
 walk_at "wps"
 refine Opt.mk (zhp (H:=H3)) ⟨zck (by rw[zac,zap];exact zar hnb (by decide)),?_⟩
 have ht3:=at0 (N2.st.trans0 N3.st) ht
 refine comp_gr (g:=fun x=>V.str (allW (List.range (x+1)))) (fun _ _=>trivial) (fun k H' K hk s hK=>?_) fun H4 s4=>?_
 ·refine Opt.mk rfl ?_
  walk_at "wps"
  refine⟨rfl,?_⟩
  walk_at "wps"
  unfold nat
  walk_at "wps"
  rw[show(k:Int)+1=((k+1:Nat):Int) from rfl]
  refine zcq (zh9 (i:=k+1) (at0 s ht3)) fun sl H5 N5=>?_
  walk_at "wps"
  have e:(thL n fun x=>.text (zdc x)).take (k+1)=(List.range (k+1)).map fun x=>V.str (zdc x):=by
   rw[thL,<-List.map_take,List.take_range,Nat.min_eq_left hk];rfl
  have h5:=N5.hold
  rw[e] at h5
  refine Opt.mk (zj2 h5 (zlp _) (by rw[zo1,zap];exact Ar.ar2 [_,_] [] 0x294a000c20000620040310040 (Y0 (Y1 J2 (Y0 V0 J1)) (.l 20000)) (Y0 V1 (.l 32)) (Y1 V0 V1) hn hk)) ?_
  rw[zs4]
  exact hK _ N5.st
 walk_at "wps"
 have s5:=s4.app (xs:=(List.range n).map fun x=>V.str (allW (List.range (x+1))))
 have hfd:=at0 s5 N3.hold
 have hdu:(H4++[(List.range n).map fun x=>V.str (allW (List.range (x+1)))])[H4.length]?=some ((List.range n).map fun x=>V.str (allW (List.range (x+1)))):=zcf
 generalize H4++[(List.range n).map fun x=>V.str (allW (List.range (x+1)))]=H5 at hfd hdu
 have hwd:∀x,x<n->Wd1 .text 0 (.text (zdc x)):=fun x _=>⟨trivial,rfl⟩
 have hR:∀x,x<n->runN (zcw .text) net (fun x=>.text (zdc x)) x=.text (allW (zhl net x))/\∀y∈zhl net x,y<n:=fun x hx=>by
  obtain⟨e,ne,lt⟩:=zo3 hwd ho.fair hx
  exact⟨e.trans (zlw ne),lt⟩
 have hTh:=zuu ho.fair hT hN (by decide) net.length
 rw[zuk] at hTh
 have hfd':H5[fd]?=some ((List.range n).map fun x=>V.str (allW (zhl net x))):=by
  rw[hfd]
  exact congrArg some (zby fun x hx=>by rw[(hR x (za4.mp hx)).1];rfl)
 have hne:∃x,x<n/\zhl net x≠List.range (x+1):=Classical.byContradiction fun h=>by
  rw[(zjr ho.fair).mpr fun x hx=>Classical.byContradiction fun q=>h ⟨x,hx,q⟩] at hd'
  exact nomatch hd'
 obtain⟨x,hx,ne⟩:=hne
 have low:∀x,x<n->∀y∈List.range (x+1),y<n:=fun x hx y hy=>zay (za4.mp hy) hx
 refine Opt.mk (zlz (ne_words hfd' hdu (fun x hx=>?_) ⟨x,hx,fun q=>ne (allW_inj (zav hnb) (hR x hx).2 (low x hx) q)⟩)) ?_
 ·have h1:=(hTh x hx).1
  rw[(hR x hx).1] at h1
  refine⟨zhj h1,zhj (s:=allW (List.range (x+1))) ?_⟩
  have:=zjn (kk:=.text) (w:=0) (n:=n) (σ:=fun x=>.text (zdc x)) (fun y hy=>⟨(hT y hy).1,rfl,zab (hT y hy).2.2 (show 2<=6 by decide)⟩) (a:=List.range (x+1)) (fun q=>nomatch (List.range_eq_nil.mp q)) (low x hx) (by rw[zap];exact Ar.ar2 [_,_] [] 0x294a000c20000610040308040 (Y0 (Y0 V0 J1) (.l 1000)) (Y0 V1 (.l 32)) (Y1 V0 V1) hn hx)
  rw[zlw (l:=List.range (x+1)) (fun q=>nomatch (List.range_eq_nil.mp q))] at this
  exact this.1
 walk_at "wps"
end
end Bn
namespace Bn
open PySem
section
variable {c:Cx}{q:Bool}{d:Nat}{Q:V->Hp->Prop}{E:XPost}{H:Hp}
theorem eq_ths{t t' n w:Nat}{B:Nat->Nat}{σ:Nat->Th}{kk:Kd}(hT:Ths kk w n B σ)(ht:H[t]?=some (thL n σ))(ht':H[t']?=some (thL n σ)):eqV H (.lst t) (.lst t')=some true:=by
 refine eqV_self (SelfP.list fun R hR=>?_) (zvh ht) (zvh ht')
 obtain⟨x,hx,rfl⟩:=zak.mp hR
 exact thP_self (hT x (za4.mp hx)).1
theorem back_lt{i j:Nat}(h:j<=i):∀x∈zhh i j,x<i+1:=fun x hx=>by
 obtain⟨t,ht,rfl⟩:=zak.mp hx
 have:=za4.mp ht
 exact Ar.ar2 [_,_,_] [] 0x1a085294a000c203006101c03081001840100005294001840400c20300610000508401 (Y1 (Y0 (Y2 V0 V1) V2) (Y0 V0 J1)) (Y0 V1 V0) (Y1 V2 (Y0 V1 J1)) h this
theorem back_ne(i j:Nat):zhh i j≠[]:=fun q=>by
 have:=congrArg List.length q
 unfold zhh at this
 rw[zac,zap] at this
 exact nomatch this
theorem back_len(i j:Nat):(zhh i j).length=j+1:=by unfold zhh;rw[zac,zap]
theorem zq0(i:Nat):List.range (i+1)≠[]:=fun q=>nomatch (List.range_eq_nil.mp q)
inductive BackInv(H:Hp)(xs:List Int)(n cell nt hd lg t g fd i:Nat)(now:Th)(kk:Kd)(σ:Nat->Th)(j:Nat):Loc->Hp->Prop
 |mk (v15:Option V)(H':Hp)(st:Stay [] H H'):BackInv H xs n cell nt hd lg t g fd i now kk σ j [some (.scr xs),some (.int n),some (.int cell),some (.lst nt),some (.lst hd),some (.bool true),none,some (nat i),some (.lst t),some (.str (kS kk)),some (.int lg),some (.lst g),some (.lst fd),some now.v,some (ze9 kk σ (zhh i j)).v,v15,none] H'
inductive YesInv(H:Hp)(xs:List Int)(n cell nt hd lg t g fd:Nat)(kk:Kd)(σ:Nat->Th)(i:Nat):Loc->Hp->Prop
 |mk (v7 v14 v15:Option V)(H':Hp)(st:Stay [] H H'):YesInv H xs n cell nt hd lg t g fd kk σ i [some (.scr xs),some (.int n),some (.int cell),some (.lst nt),some (.lst hd),some (.bool true),none,v7,some (.lst t),some (.str (kS kk)),some (.int lg),some (.lst g),some (.lst fd),some (ze9 kk σ (List.range (i-1+1))).v,v14,v15,none] H'
noncomputable def body7:List St:=[.ite (.cmp (.var 7) [.gt] [(.lit (.int 0))]) [.set 13 (.call "_law_join" [(.var 9),(.var 13),(.idx (.var 8) (.var 7))])] [],.set 14 (.idx (.var 8) (.var 7)),.loop (.one 15) (.val (.blt .range [(.var 7)])) [.set 14 (.call "_law_join" [(.var 9),(.idx (.var 8) (.bin .sub (.bin .sub (.var 7) (.lit (.int 1))) (.var 15))),(.var 14)])],.ite (.or [(.not (.call "_law_alike" [(.idx (.var 12) (.var 7)),(.var 13)])),(.cmp (.var 14) [.ne] [(.var 13)])]) [.ret (.lit (.bool false))] []]
theorem loop7(F:Fns7 c){xs:List Int}{n cell nt hd lg t g fd w:Nat}{kk:Kd}{σ ρ:Nat->Th}{l7 l14 l15:Option V}{QQ:SPost}{EE:SX}(hn:n<=32)(ht:H[t]?=some (thL n σ))(hf:H[fd]?=some (thL n ρ))(hT:Ths kk w n (fun _=>6) σ)(hρ:∀x,x<n->ρ x=ze9 kk σ (List.range (x+1)))
  (hq:∀l' H',QQ .next l' H'):zi3 (okV (.rng 0 (n:Nat) 1) ((List.range n).map nat)) (fun x l Q H=>Opt (zgq (.one 7) x l) fun l'=>wpSs (Calls c) true (d+49) none body7 Q EE l' H) ((List.range n).map nat) QQ [some (.scr xs),some (.int n),some (.int cell),some (.lst nt),some (.lst hd),some (.bool true),none,l7,some (.lst t),some (.str (kS kk)),some (.int lg),some (.lst g),some (.lst fd),some (σ 0).v,l14,l15,none] H:=by
 have hW:∀x,x<n->Wd1 kk w (σ x):=fun x hx=>⟨(hT x hx).1.sv,(hT x hx).2.1⟩
 refine zd3 (YesInv H xs n cell nt hd lg t g fd kk σ) ?_ (fun l' H' _=>hq l' H') (.mk _ _ _ _ Stay.refl)
 intro i z l' H' K hz hI hnext hret
 obtain⟨v7,v14,v15,_,st⟩:=hI
 rw[zan] at hz
 obtain⟨i',hi,rfl⟩:=zaj.mp hz
 have hin:=zcl hi
 rw[zap] at hin
 rw[zbl hin] at hi
 obtain rfl:=zaa hi
 have low:∀x∈List.range (i+1),x<n:=fun y hy=>zay (za4.mp hy) hin
 have hnow:=zjn hT (zq0 i) low (by rw[zap];exact Ar.ar2 [_,_] [] 0x294a000c20000610040308040 (Y0 (Y0 V0 J1) (.l 1000)) (Y0 V1 (.l 32)) (Y1 V0 V1) hn hin)
 have rest:∀H2,Stay [] H H2->wpSs (Calls c) true (d+49) none (body7.drop 1) (fun o l' H'=>K o l' H') EE [some (.scr xs),some (.int n),some (.int cell),some (.lst nt),some (.lst hd),some (.bool true),none,some (nat i),some (.lst t),some (.str (kS kk)),some (.int lg),some (.lst g),some (.lst fd),some (ze9 kk σ (List.range (i+1))).v,v14,v15,none] H2:=fun H2 st2=>by
  refine Ss_go ?_
  walk_at "wps"
  refine Opt.mk (zc5 (at0 st2 ht) (zez hin)) ?_
  walk_at "wps"
  refine⟨rfl,zfc (v:=.rng 0 (i:Nat) 1) (items:=(List.range i).map nat) (fun K E' h=>by walk_at "wps";exact Opt.mk (zcv (zay hin (zab hn (by decide)))) h) (congrArg some (zdn i)) ?_⟩
  refine zd3 (BackInv H xs n cell nt hd lg t g fd i (ze9 kk σ (List.range (i+1))) kk σ) ?_ ?_ (.mk _ _ st2)
  ·intro j z l' H' K hz hI hnext hret
   obtain⟨v15,_,st⟩:=hI
   rw[zan] at hz
   obtain⟨j',hj,rfl⟩:=zaj.mp hz
   have hji:=zcl hj
   rw[zap] at hji
   rw[zbl hji] at hj
   obtain rfl:=zaa hj
   unfold nat
   walk_at "wps"
   rw[show(i:Int)-1-(j:Int)=((i-1-j:Nat):Int) by exact Ar.ar1 [_,_] [] 0x618ca528003080c01840400c20080a100025084a100023410a528003081001840600c20080001a085294a000c206006102803080e01840100005294001840800c202006100005080012842508001 (Y5 (Y2 (Y2 (Y4 V0 J0) J1) (Y4 V1 J0)) (Y4 (Y2 (Y2 V0 J1) V1) J0)) (Y1 V1 V0) hji]
   have hk:i-1-j<n:=by exact Ar.ar1 [_,_,_] [] 0x3194a528003080c01840700c201806100005080012842508001 (Y1 (Y2 (Y2 V0 J1) V1) V2) (Y1 V0 V2) hin
   refine Opt.mk (zc5 (at0 st ht) (zez hk)) ?_
   have b:=zjn hT (back_ne i j) (fun x hx=>zay (back_lt (zav hji) x hx) hin) (by rw[back_len];exact Ar.ar3 [_,_,_] [] 0xa5294001840000c20080610080308060 (Y0 (Y0 V0 J1) (.l 1000)) (Y0 V1 (.l 32)) (Y1 V2 V1) (Y1 V0 V2) hn hin hji)
   refine s_join F.ljoin (hT _ hk).1 b.1 (zqu ((hT _ hk).2.1.trans b.2.symm)) rfl fun H'' s=>?_
   rw[<- zt3 hW hin hji]
   walk_at "wps"
   exact hnext _ _ trivial (.mk _ _ (st.trans0 s))
  ·intro l' H' hI
   rw[zac,zap] at hI
   obtain⟨v15,_,st⟩:=hI
   rw[back_all]
   unfold nat
   walk_at "wps"
   refine Opt.mk (zc5 (at0 st hf) (zez hin)) ?_
   rw[hρ i hin]
   refine s_alike F.lalike F.whole hnow.1 rfl fun H'' s=>?_
   walk_at "wps"
   refine Opt.mk (zlz (eq_self hnow.1)) ?_
   walk_at "wps"
   exact hnext _ _ trivial (.mk _ _ _ _ (st.trans0 s))
 refine Opt.mk rfl ?_
 unfold body7
 refine Ss_go ?_
 unfold nat
 walk_at "wps"
 cases i with
 |zero=>
  refine zci (fun h=>absurd h (by decide)) (fun _=>?_)
  walk_at "wps"
  exact rest _ st
 |succ i=>
  refine zci (fun _=>?_) (fun h=>absurd (by exact Ar.ar1 [_] [] 171801870336 (Y4 J0 (Y4 (Y0 V0 J1) J0)) (Y8 (Y4 J0 (Y4 (Y0 V0 J1) J0)) J0) h) h)
  walk_at "wps"
  refine Opt.mk (zc5 (at0 st ht) (zez hin)) ?_
  have b:=zjn hT (zq0 i) (fun x hx=>low x (za4.mpr (Nat.lt_succ_of_lt (za4.mp hx)))) (by rw[zap];exact Ar.ar2 [_,_] [] 0x294a000c20000610040308040 (Y0 (Y0 V0 J1) (.l 1000)) (Y0 V1 (.l 32)) (Y1 (Y0 V0 J1) V1) hn hin)
  refine s_join F.ljoin b.1 (hT _ hin).1 (zqu (b.2.trans (hT _ hin).2.1.symm)) rfl fun H'' s=>?_
  rw[show zcw kk (ze9 kk σ (List.range (i+1-1+1))) (σ (i+1))=ze9 kk σ (List.range (i+1+1)) from(ztz i).symm]
  walk_at "wps"
  exact rest _ (st.trans0 s)
end
end Bn
namespace Bn
open PySem
section
variable {c:Cx}{q:Bool}{d:Nat}{Q:V->Hp->Prop}{E:XPost}{H:Hp}
noncomputable def yes7:List St:=p7_law.drop 9
theorem law7_yes(F:Fns7 c){xs:List Int}{n nt cell hd:Nat}{hs bs:List Nat}{net:Net}{EE:SX}(hn1:1<=n)(hn:n<=32)(A:NetAt H hd hs net)(B:NetAt H nt bs net)(ho:zhe n net)(hd':zdx n net=true) :
  wpSs (Calls c) true (d+49) none yes7 (EndQ fun v _=>v=.bool true) EE [some (.scr xs),some (.int n),some (.int cell),some (.lst nt),some (.lst hd),some (.bool true),none,none,none,none,none,none,none,none,none,none,none] H:=by
 have hrow:=(zjr ho.fair).mp hd'
 have hN:=fun x=>zab (zrt ho.fair hn1 hrow x) hn
 have hnb:n<64:=zaw hn (by decide)
 refine Ss_go ?_
 walk_at "wps"
 refine zdq (b:=36) (by decide) ?_
 walk_at "wps"
 refine zdg (b:=5) (by decide) ?_
 have hk5:cell/36%5<5:=Nat.mod_lt _ (by decide)
 obtain⟨j,kv,hi,hj,hb⟩:=zmz (H:=H++[kdL]) (xs:=kdL) (i:=((cell/36%5:Nat):Int)) zcf (zbf _) (zaq.mpr hk5)
 refine Opt.mk hb ?_
 obtain⟨kk,rfl⟩:=kd_at hj
 walk_at "wps"
 have st1:=(Stay.refl (S:=[]) (H:=H)).app (xs:=kdL)
 clear hb
 refine zdq (b:=180) (by decide) ?_
 walk_at "wps"
 refine zdg (b:=8) (by decide) ?_
 walk_at "wps"
 rw[show(1:Int)+((cell/180%8:Nat):Int)=((1+cell/180%8:Nat):Int) from(Int.natCast_add ..).symm]
 have h1:1<=1+cell/180%8:=za8 ..
 have h8:1+cell/180%8<=8:=by have:=Nat.mod_lt (cell/180) (show 0<8 by decide);exact Ar.ar1 [_] [] 0xa5000610000308020 (Y0 (Y0 J1 (Y4 (Y3 V0 (.l 180)) (.l 8))) (.l 8)) (Y1 (Y4 (Y3 V0 (.l 180)) (.l 8)) (.l 8)) this
 generalize 1+cell/180%8=long at h1 h8
 refine Opt.mk (zcv (zar hnb (by decide))) ?_
 walk_at "wps"
 refine Opt.mk (zhp (H:=H++[kdL])) ⟨zck (by rw[zac,zap];exact zar hnb (by decide)),?_⟩
 refine zp3 (kk:=kk) (w:=wide kk long) (fun _ _=>trivial) (fun i H' K hK=>?_) fun σ H2 hS hT st2=>?_
 ·refine Opt.mk rfl ?_
  walk_at "wps"
  refine zdg (b:=40) (by decide) ?_
  walk_at "wps"
  rw[show(3:Int)+((i%40:Nat):Int)=((3+i%40:Nat):Int) by rw[Int.natCast_add];rfl]
  refine zih F.cell rfl ?_
  refine Opt_mulL (a:=7919) (b:=i) (by decide) ?_
  walk_at "wps"
  exact s_thing F.lthing h1 h8 rfl fun t H2 sh ok tl ml st2=>hK t H2 sh ok tl ml st2
 walk_at "wps"
 have ht:(H2++[thL n σ])[H2.length]?=some (thL n σ):=zcf
 have st3:=(st1.trans0 (show Stay [] (H++[kdL]) H2 from st2)).app (xs:=thL n σ)
 generalize H2++[thL n σ]=H3 at ht st3
 generalize H2.length=t at ht
 refine zcq (zgs ht) fun g H4 N4=>?_
 walk_at "wps"
 have st4:=st3.trans0 N4.st
 refine s_led (d:=d+43) (kk:=kk) (b:=6) (N:=32) F.led F.things F.nkind F.nthing F.alike F.car F.a.chk F.k (A.grow st4) N4.hold hn1 (zav hnb) ho hN (by decide) (by decide) hT hS rfl fun fd H5 N5=>?_
 walk_at "wps"
 have st5:=st4.trans0 N5.st
 refine Opt.mk (zdk N5.hold) ?_
 rw[zf6]
 walk_at "wps"
 refine zh7 (fun h=>absurd rfl h) fun _=>?_
 have ht5:=at0 (N4.st.trans0 N5.st) ht
 refine Opt.mk (zlz (eq_ths hT (at0 N5.st N4.hold) ht5)) ?_
 walk_at "wps"
 refine Opt.mk (zlz (zum (A.grow st5) (B.grow st5))) ?_
 rw[decide_eq_true rfl]
 walk_at "wps"
 refine Opt.mk (zc5 (i:=0) ht5 (zez hn1)) ?_
 walk_at "wps"
 refine⟨rfl,zfc (v:=.rng 0 (n:Nat) 1) (items:=(List.range n).map nat) (fun K E' h=>by walk_at "wps";exact Opt.mk (zcv (zar hnb (by decide))) h) (congrArg some (zdn n)) ?_⟩
 have hW:∀x,x<n->Wd1 kk (wide kk long) (σ x):=fun x hx=>⟨(hT x hx).1.sv,(hT x hx).2.1⟩
 refine loop7 F hn ht5 N5.hold hT (fun x hx=>?_) fun l' H'=>?_
 ·obtain⟨e,_,_⟩:=zo3 hW ho.fair hx
  rw[e,hrow x hx]
 walk_at "wps"
noncomputable def b7:List St:=p7_law.drop 5
theorem law7_b(F:Fns7 c){xs:List Int}{n nt cell:Nat}{bs:List Nat}{net:Net}{EE:SX}(hn1:1<=n)(hn:n<=32)(B:NetAt H nt bs net)(ho:zhe n net)(hN:∀x,lenN net x<=4096) :
  wpSs (Calls c) true (d+49) none b7 (EndQ fun v _=>v=.bool true) EE [some (.scr xs),some (.int n),some (.int cell),some (.lst nt),none,none,none,none,none,none,none,none,none,none,none,none,none] H:=by
 refine Ss_go ?_
 walk_at "wps"
 refine Opt.mk (ze4 B.top) ⟨zck (by rw[zac,B.len];exact zaw ho.1 (by decide)),?_⟩
 refine zp4 B (Nat.le_of_ble_eq_true rfl) (fun H' st=>at0 st B.top) fun ts H2 RR=>?_
 have A2:=RR.net
 have st2:=RR.st.app (xs:=ts.map .lst)
 generalize H2++[ts.map .lst]=H2' at A2 st2
 generalize H2.length=a2 at A2
 clear RR
 walk_at "wps"
 refine s_tells (d:=d+44) F.tells F.does F.a.chk A2 hn1 (zab hn (by decide)) ho rfl fun H3 st3=>?_
 have A3:=A2.grow st3
 have B3:=B.grow (st2.trans0 st3)
 walk_at "wps"
 refine Opt.mk (zlz (zum A3 B3)) ?_
 rw[decide_eq_true rfl]
 walk_at "wps"
 cases e:zdx n net with
 |false=>
  walk_at "wps"
  exact law7_no F hn1 hn A3 ho hN e
 |true=>
  walk_at "wps"
  exact law7_yes F hn1 hn A3 B3 ho e
theorem law7_c(F:Fns7 c){xs:List Int}{n nt cell:Nat}{bs:List Nat}{net:Net}{EE:SX}(hn1:1<=n)(hn:n<=32)(B:NetAt H nt bs net)(ho:zhe n net)(hN:∀x,lenN net x<=32) :
  wpSs (Calls c) true (d+49) none (p7_law.drop 4) (EndQ fun v _=>v=.bool true) EE [some (.scr xs),some (.int n),some (.int cell),some (.lst nt),none,none,none,none,none,none,none,none,none,none,none,none,none] H:=by
 refine Ss_go ?_
 walk_at "wps"
 refine zdq (b:=9) (by decide) ?_
 walk_at "wps"
 refine zdg (b:=4) (by decide) ?_
 walk_at "wps"
 refine zci (fun _=>?_) (fun _=>?_)
 ·walk_at "wps"
  refine zdq (b:=36) (by decide) ?_
  walk_at "wps"
  refine s_bent7 (d:=d+48) F.bent B (zaw hn (by decide)) ho hN (by decide) rfl fun a' bs' net' H' A' ho' hN' st'=>?_
  walk_at "wps"
  exact law7_b F hn1 hn A' ho' hN'
 ·walk_at "wps"
  exact law7_b F hn1 hn B ho fun x=>zab (hN x) (by decide)
theorem law7_ok(F:Fns7 c){xs:List Int}:Calls c true (d+50) "law" [.scr xs] none (fun v _=>v=.bool true) E H:=by
 refine F.law true (d+49) _ _ _ _ rfl ?_
 refine Ss_go ?_
 walk_at "wps"
 refine zih F.cell (i:=0) rfl ?_
 walk_at "wps"
 refine ztv F.lines ?_
 have hl:=zsq (xs.getD 0 0)
 obtain⟨n,hn⟩:∃n:Nat,zhm (xs.getD 0 0)=(n:Int):=⟨_,(Int.toNat_of_nonneg (Int.le_trans (by decide) hl.1)).symm⟩
 rw[hn] at hl ⊢
 have hn1:1<=n:=zaz.mp hl.1
 have hn2:n<=32:=zaz.mp hl.2
 clear hn hl
 walk_at "wps"
 refine zih F.cell (i:=2) rfl ?_
 walk_at "wps"
 generalize xs.getD 2 0=x2
 obtain⟨cell,hcell⟩:∃cell:Nat,x2*48271%2147483647=(cell:Int):=⟨_,(Int.toNat_of_nonneg (zdb (by decide)).1).symm⟩
 refine zdt (by decide) ?_
 walk_at "wps"
 refine zcn (by decide) ?_
 walk_at "wps"
 rw[hcell]
 clear hcell
 refine zdg (b:=9) (by decide) ?_
 walk_at "wps"
 refine zih F.cell (i:=1) rfl ?_
 walk_at "wps"
 generalize xs.getD 1 0=x1
 obtain⟨cel,hcel⟩:∃cell:Nat,x1*48271%2147483647=(cell:Int):=⟨_,(Int.toNat_of_nonneg (zdb (by decide)).1).symm⟩
 refine zdt (by decide) ?_
 walk_at "wps"
 refine zcn (by decide) ?_
 walk_at "wps"
 rw[hcel]
 clear hcel
 refine s_made7 (d:=d+9) F.a hn1 hn2 rfl fun nt bs H1 net X hz B st=>?_
 walk_at "wps"
 refine zdg (b:=9) (by decide) ?_
 walk_at "wps"
 refine zci (fun _=>?_) (fun _=>?_)
 ·walk_at "wps"
  refine zdg (b:=12) (by decide) ?_
  walk_at "wps"
  rw[show(1:Int)+((n%12:Nat):Int)=((1+n%12:Nat):Int) from(Int.natCast_add ..).symm]
  have h12:1+n%12<=12:=by have:=Nat.mod_lt n (show 0<12 by decide);exact Ar.ar1 [_] [] 0xa5000610000308020 (Y0 (Y0 J1 (Y4 V0 (.l 12))) (.l 12)) (Y1 (Y4 V0 (.l 12)) (.l 12)) this
  refine zdq (b:=9) (by decide) ?_
  walk_at "wps"
  refine s_slow (d:=d+48) F.slow (za8 ..) h12 rfl fun a' bs' H' net' A' ho' hN' st'=>?_
  walk_at "wps"
  exact law7_c F (za8 ..) (zab h12 (by decide)) A' ho' fun x=>zab (hN' x) (by decide)
 ·walk_at "wps"
  exact law7_c F hn1 hn2 B ⟨hz,X.ok⟩ fun x=>zab (zrt (zkg X.ok) hn1 X.whole x) hn2
end
end Bn
open PySem PySem.W PyProof.Rows Bn
set_option maxRecDepth 100000
set_option maxHeartbeats 8000000
namespace Bn
noncomputable def fs07:List Str:=(["is_among","is_text","is_map","is_step","need_kind","is_thing","need_thing","need_alike","put_together","need_lines","is_joint","is_layer","need_net","does_tell","tells","carried","need_things","led","moved","side_by_side","parted","paired","need_both"]:List Str)++(["ways_of","joints_for","first_lines","laid","thrifty","one_by_one","doubled","by_halves","by_pairs","beside","_law_cell_at","_law_whole","_law_join","_law_alike","_law_thing","_law_place","_law_thinner","_law_telling","_law_lines_by","_law_made","_law_slow","_law_bent","law"]:List Str)
noncomputable def vals07:List (Str×V):=[("KINDS",.tup [.str "sum",.str "most",.str "text",.str "map",.str "step"]),("MOST_NUMBER",.int 1000000000000),("MOST_SIGNS",.int 1000),("MOST_PLACES",.int 8),("WHOLE",.int 1000003),("LETTERS",.str "abcdefghijklmnopqrstuvwxyz"),("MOST_LINES",.int 64),("MOST_LAYERS",.int 80),("MOST_JOINTS",.int 63)]
end Bn
theorem PySem.Challenge.cw_uf020024_07_holds : PySem.Challenge.rw_uf020024_07.Holds := by
 w_on;(refine PySem.W.holds_law said07 fun said=>?_)
 (refine holds_open (q:=znz) (loose:=[]) (Xt:=fun s=>xlAt znz [] s&&recOk (RowW.records Challenge.rw_uf020024_07.row.toRowW) s) (XP:=XL znz []) (Yf:=Hook.obs Hook.none) (Ya:=Hook.val Hook.none) (YP:=Hook.says Hook.none) (N:=8000) left07 (Hook.of Hook.none) (Hook.keeps Hook.none) (fun s e=>xl_of s (zag.mp e).1) XL.keeps (by rfl) (by rfl) (by rfl) (fun s e=>recFacts_of (zag.mp e).2) (by rfl) (by first |assumption |decide +kernel) (by decide +kernel) ⟨rfl,rfl,rfl,rfl,rfl,by decide +kernel⟩ ?hw ?hc);(case hw=>w_witness2)
 intro w s₀ s₁ mg mb G Y fa o pm cd doc dV kV ho hd hcd hD hmg hg args vals as hpre hlay hrd hwl hlo
 refine Ground.open G ?_
 intro T B D TE TW
 have TA:=at_of_top T
 wrow_args hpre hlay hrd hwl hlo
 refine enter_call ?_
 rename_i l _ _ _ _ _ _ _ a vs _ hL _ _ _ hI _ hlen _
 obtain⟨e,P,LD,AP⟩:=led_of TA (Tb:=zuv fs07 vals07) 17 30 0 19 (f:="led") (np:=3) (n:=3) (y:=(zu3,120,32)) (by kernel_rfl)
 have hP:=AP.tab
 let c:Cx:=⟨Challenge.rw_uf020024_07.row.prog,w,s₁.heap.hide P,mg,mb,LamF,[(P,(120,32),e.name++".<locals>."++"<lambda>")]⟩
 have hh:Hid s₁.heap c:=zra rfl hP
 have O:c.Ok:=ok_hid T hh rfl rfl (T.seer (by decide +kernel)) rfl
 have TO:TabOk c (zuv fs07 vals07):=tab_ok T B rfl rfl hh (by kernel_rfl) (by kernel_rfl) (by kernel_rfl) (fun _ _ _ h=>h)
 have TD:∀e∈(recsOf Challenge.rw_uf020024_07.row.prog).map W.itemOf,e.params.defaults=[]->DefAt c e:=fun e he hd=>DefAt.of hh (TA e he hd)
 have F:Fns7 c:={
  k:={
  among:=zcm (c:=c) TD O TO 0 30 0 (by kernel_rfl)
  text:=zcm (c:=c) TD O TO 1 30 1 (by kernel_rfl)
  map:=zcm (c:=c) TD O TO 2 30 1 (by kernel_rfl)
  step:=zcm (c:=c) TD O TO 3 30 1 (by kernel_rfl)
  thing:=zcm (c:=c) TD O TO 5 30 0 (by kernel_rfl)
  put:=zcm (c:=c) TD O TO 8 30 1 (by kernel_rfl) }
  a:={
  chk:={
  among:=zcm (c:=c) TD O TO 0 30 0 (by kernel_rfl)
  lines:=zcm (c:=c) TD O TO 9 30 0 (by kernel_rfl)
  joint:=zcm (c:=c) TD O TO 10 30 0 (by kernel_rfl)
  layer:=zcm (c:=c) TD O TO 11 30 0 (by kernel_rfl)
  net:=zcm (c:=c) TD O TO 12 30 0 (by kernel_rfl) }
  moved:=zcm (c:=c) TD O TO 18 30 3 (by kernel_rfl)
  side:=zcm (c:=c) TD O TO 19 30 0 (by kernel_rfl)
  parted:=zcm (c:=c) TD O TO 20 30 1 (by kernel_rfl)
  paired:=zcm (c:=c) TD O TO 21 30 3 (by kernel_rfl)
  halves:=zcm (c:=c) TD O TO 30 30 0 (by kernel_rfl)
  pairs:=zcm (c:=c) TD O TO 31 30 0 (by kernel_rfl)
  one:=zcm (c:=c) TD O TO 28 30 1 (by kernel_rfl)
  dbl:=zcm (c:=c) TD O TO 29 30 1 (by kernel_rfl)
  beside:=zcm (c:=c) TD O TO 32 30 0 (by kernel_rfl)
  ways:=zcm (c:=c) TD O TO 23 30 0 (by kernel_rfl)
  joints:=zcm (c:=c) TD O TO 24 30 0 (by kernel_rfl)
  first:=zcm (c:=c) TD O TO 25 30 0 (by kernel_rfl)
  laid:=zcm (c:=c) TD O TO 26 30 0 (by kernel_rfl)
  both:=zcm (c:=c) TD O TO 22 30 0 (by kernel_rfl)
  thrifty:=zcm (c:=c) TD O TO 27 30 0 (by kernel_rfl)
  place:=zcm (c:=c) TD O TO 38 30 0 (by kernel_rfl)
  thinner:=zcm (c:=c) TD O TO 39 30 0 (by kernel_rfl)
  telling:=zcm (c:=c) TD O TO 40 30 3 (by kernel_rfl)
  made:=zcm (c:=c) TD O TO 42 30 0 (by kernel_rfl) }
  led:=has_led (c:=c) O TO (bm_hid T hh rfl) (fun _ _ _ h=>h) LD (DefTab.of hh AP (Heap.hide_self _ _) rfl)
  car:=has_atJ (c:=c) TD O TO 15 30 0 ["net","things"] (by kernel_rfl)
  nkind:=zcm (c:=c) TD O TO 4 30 0 (by kernel_rfl)
  nthing:=zcm (c:=c) TD O TO 6 30 0 (by kernel_rfl)
  alike:=zcm (c:=c) TD O TO 7 30 1 (by kernel_rfl)
  things:=zcm (c:=c) TD O TO 16 30 0 (by kernel_rfl)
  cell:=zcm (c:=c) TD O TO 33 30 0 (by kernel_rfl)
  whole:=zcm (c:=c) TD O TO 34 30 0 (by kernel_rfl)
  ljoin:=zcm (c:=c) TD O TO 35 30 1 (by kernel_rfl)
  lalike:=zcm (c:=c) TD O TO 36 30 1 (by kernel_rfl)
  lthing:=zcm (c:=c) TD O TO 37 30 1 (by kernel_rfl)
  lines:=zcm (c:=c) TD O TO 41 30 0 (by kernel_rfl)
  slow:=zcm (c:=c) TD O TO 43 30 1 (by kernel_rfl)
  bent:=zcm (c:=c) TD O TO 44 30 0 (by kernel_rfl)
  tells:=zcm (c:=c) TD O TO 14 30 0 (by kernel_rfl)
  does:=zcm (c:=c) TD O TO 13 30 1 (by kernel_rfl)
  law:=zcm (c:=c) TD O TO 45 30 1 (by kernel_rfl) }
 refine law_endL (c:=c) (d:=500) (vs:=vs) (l:=l) ⟨by decide,by decide,fun _=>rfl,[],rfl,by simp⟩ rfl hP rfl hg hmg hL hI (by have:sizeLine=2^24:=rfl;omega) ?_ ?_
 ·exact law7_ok (d:=450) F
 ·intro s' h1 h2 h3 h4
  refine⟨.inl ⟨.bool true,.bool true,[],rfl,fun _=>?_,.bool true,?_,fun h=>?_⟩,oldK_of AP h1 h2,h3,.of_eq h4⟩
  ·first |rfl |kernel_rfl
  ·first |rfl |kernel_rfl
  ·first |(cases h;done) |exact⟨List.nodup_nil,by simp⟩
