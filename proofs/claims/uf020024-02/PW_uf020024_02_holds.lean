import PyProof.Rows.All
import Wide.All
import Wide.FinOn
import Open.Line
import PyProof.TupleOfStr
import KE.KSortTup
import PyProof.ExcBaseAll.ValueError
import PyProof.ExcAttrAll.ValueError
import OpenK.KCls
import PyProof.ExcInit
import PyProof.InstStoreFacts
import PySem.Challenge.RW_uf020024_02
set_option Elab.async false
set_option linter.all false
set_option genSizeOf false
set_option genInjectivity false
set_option bootstrap.genMatcherCode false
open Option.some renaming inj -> zaa
open Option renaming bind_eq_some_iff -> zab
open Nat renaming le_trans -> zac
open Nat renaming le_refl -> zad
open List renaming mem_cons_self -> zae
open List renaming length_map -> zaf
open Bool renaming and_eq_true_iff -> zag
open Option renaming map_eq_some_iff -> zah
open List renaming mem_singleton -> zai
open List renaming mem_cons_of_mem -> zaj
open List renaming mem_cons -> zak
open List renaming getElem?_eq_getElem -> zal
open Int renaming ofNat_lt -> zam
open List renaming length_append -> zan
open Nat renaming ne_of_lt -> zao
open Nat renaming le_of_lt -> zap
open List renaming mem_append -> zaq
open Nat renaming lt_trans -> zar
open List renaming mem_map -> zas
open Nat renaming eq_of_beq_eq_true -> zat
open List renaming forall_mem_cons -> zau
open Nat renaming lt_of_lt_of_le -> zav
open List renaming mem_of_getElem? -> zaw
open List renaming getD_eq_getElem?_getD -> zax
open List renaming getElem?_map -> zay
open Nat renaming le_of_ble_eq_true -> zaz
open Nat renaming zero_le -> za0
open List renaming lookup_cons -> za1
open Nat renaming lt_irrefl -> za2
open Array renaming length_toList -> za3
open Nat renaming lt_of_le_of_lt -> za4
open List renaming not_mem_nil -> za5
open Int renaming ofNat_le -> za6
open Nat renaming le_add_right -> za7
open Nat renaming le_of_eq -> za8
open List renaming append_nil -> za9
open List renaming all_eq_true -> zba
open List renaming map_append -> zbb
open Nat renaming le_succ_of_le -> zbc
open List renaming append_assoc -> zbd
open Int renaming natCast_nonneg -> zbe
open List renaming map_cons -> zbf
open List renaming length_cons -> zbg
open Nat renaming le_of_not_lt -> zbh
open List renaming getElem?_append_left -> zbi
open List renaming getElem?_eq_some_iff -> zbj
open List renaming getElem?_append_right -> zbk
open List renaming length_take -> zbl
open List renaming length_eq_zero_iff -> zbm
open Bool renaming false_eq_true -> zbn
open List renaming length_drop -> zbo
open Bool renaming and_eq_true -> zbp
open Nat renaming lt_succ_self -> zbq
open List renaming nodup_cons -> zbr
open Int renaming emod_lt_of_pos -> zbs
open Array renaming getElem?_eq_getElem -> zbt
open List renaming mem_iff_getElem -> zbu
open Bool renaming or_eq_true_iff -> zbv
open Bool renaming false_ne_true -> zbw
open List renaming drop_eq_getElem_cons -> zbx
open List renaming mem_append_right -> zby
open Option renaming isSome_iff_exists -> zbz
open Option renaming isNone_iff_eq_none -> zb0
open List renaming mem_of_find?_eq_some -> zb1
section
open PySem PySem.W PySem.Calls PyProof.Rows
set_option maxRecDepth 100000
set_option maxHeartbeats 8000000
namespace Bn
noncomputable def kids : List Str := ["BadNet", "BadLines", "BadThing", "BadKind", "NoNet"]
noncomputable def vbm : List Value := [.type "ValueError", .type "Exception", .type "BaseException", .type "object"]
noncomputable def zc2 : List Str := ["__getattribute__", "__getattr__", "__class__", "at", "__setattr__"]
noncomputable def ownB (h : Heap) (name : Str) (bm : List Value) (ini : Bool) : Bool := match h.clsAt mainGlobals name with
 | some (C, o, cd) => decide (o.cls = .type "type") && (decide (cd.mro = .ref C :: bm) && (!cd.hasDel && (cd.hasDict && (decide (o.slots.size = 6) && (decide (o.slots[4]? = some (some (.builtin "ValueError.__new__"))) && (h.isNs cd.ns && (zc2.all (fun n => (h.nsMap cd.ns n).isNone) && (!ini || (h.nsMap cd.ns "__init__").isNone))))))))
 | none => false
noncomputable def refOf : Option Value -> Option Addr
 | some (.ref a) => some a
 | _ => none
noncomputable def zgu {α : Type} [DecidableEq α] : List α -> Bool
 | [] => true
 | x :: r => decide (x ∉ r) && zgu r
noncomputable def excB (h : Heap) : Bool := h.isNs mainGlobals && (match refOf (h.nsMap mainGlobals (Str.ofString "NetError")) with
 | some NE => ownB h (Str.ofString "NetError") vbm true && (kids.all (fun cn => ownB h cn (.ref NE :: vbm) (decide (cn ≠ Str.ofString "BadNet"))) && zgu (.ref NE :: kids.map fun cn => (h.nsMap mainGlobals cn).getD .none))
 | none => false)
noncomputable def zi8 (p1 apos p2 p3 pos p4 p5 p6 p7 p8 : Pos) (k : Nat) : List Stmt :=
 [.Expr (.Call (.Attribute (.Name "NetError" p1) "__init__" apos) [.Name "self" p2, .Constant (.str "no net") k p3] [] pos) p4, .Assign [.Attribute (.Name "self" p5) "at" p6] (.Name "at" p7) p8]
noncomputable def zg8 : List (Str × NameKind) := [(Str.ofString "self", .local), (Str.ofString "at", .local), (Str.ofString "NetError", .globalImplicit)]
noncomputable def zi0 (p : Program) : List Stmt := (p.main.body.findSome? fun st => match st with
 | .ClassDef nm _ _ body _ _ _ _ _ _ _ => if nm = Str.ofString "BadNet" then (match body with | .FunctionDef _ _ b _ _ _ _ _ _ _ :: _ => some b | _ => none) else none
 | _ => none).getD []
structure InitPos where
 p1 : Pos
 apos : Pos
 p2 : Pos
 p3 : Pos
 pos : Pos
 p4 : Pos
 p5 : Pos
 p6 : Pos
 p7 : Pos
 p8 : Pos
 k : Nat
noncomputable def zi2 : List Stmt -> Option InitPos
 | [.Expr (.Call (.Attribute (.Name _ p1) _ apos) [.Name _ p2, .Constant _ k p3] _ pos) p4, .Assign [.Attribute (.Name _ p5) _ p6] (.Name _ p7) p8] => some ⟨p1, apos, p2, p3, pos, p4, p5, p6, p7, p8, k⟩
 | _ => none
noncomputable def InitPos.body (q : InitPos) : List Stmt := zi8 q.p1 q.apos q.p2 q.p3 q.pos q.p4 q.p5 q.p6 q.p7 q.p8 q.k
noncomputable def zey (p : Program) : Option FuncBody := (zi2 (zi0 p)).map fun q => .stmts q.body
noncomputable def zn0 (p : Program) : Bool := ((zi2 (zi0 p)).map fun q => q.apos.endLine == q.pos.line).getD false
noncomputable def strIs (q : Str) (v : Option Value) : Bool := match v with
 | some (Value.str y _) => decide (y = q)
 | _ => false
noncomputable def fldB (q : Str) (o : Obj) : Bool := match o.data with
 | .fields vs => strIs q vs[1]?
 | _ => false
noncomputable def codeB (h : Heap) (cd : Value) (q : Str) : Bool := match cd with
 | .ref c => ((h.get? c).map (fldB q)).getD false
 | _ => false
noncomputable def isNoV : Value -> Bool
 | .none => true
 | _ => false
noncomputable def fdB (h : Heap) (o : Obj) (fd : FuncData) : Bool :=
 decide (o.cls = .type "function") && (codeB h fd.code fd.qualname && (decide (fd.closure = []) && (decide (fd.globals = mainGlobals /\ fd.builtins = builtinsNs /\ fd.scope.kind = .function /\ fd.scope.isCoroutine = false /\ fd.scope.isGenerator = false /\ fd.scope.names = zg8) &&
  (isNoV fd.defaults && (isNoV fd.kwdefaults && (fd.params.posonlyargs.isEmpty && (fd.params.kwonlyargs.isEmpty && (fd.params.vararg.isNone && (fd.params.kwarg.isNone && decide (fd.params.args.map (·.arg) = [Str.ofString "self", Str.ofString "at"]))))))))))
noncomputable def fnOf (h : Heap) (o : Obj) : Option FuncBody := match o.data with
 | .func fd => if fdB h o fd = true then some fd.body else none
 | _ => none
noncomputable def netB (h : Heap) : Option FuncBody := match h.clsAt mainGlobals (Str.ofString "BadNet") with
 | some (_, _, cd) => (refOf (h.nsMap cd.ns "__init__")).bind fun f => (h.get? f).bind fun o => if h.isNs cStatics = true /\ h.nsMap cStatics "thirdparty.any" = none then fnOf h o else none
 | none => none
noncomputable def zj1 : Program := { Challenge.rw_uf020024_02.row.prog with main := { Challenge.rw_uf020024_02.row.prog.main with body := ([1, 2, 3, 4, 5, 6, 8, 9, 10, 11, 12, 13, 14, 15, 16, 17, 18, 19, 20, 21, 22, 24, 25, 26, 27, 28, 29, 30, 31, 32, 33, 34, 35, 36, 37, 39, 40, 41, 42, 43, 44, 45, 46, 47, 48, 49, 50] : List Nat).filterMap fun i => Challenge.rw_uf020024_02.row.prog.main.body[i]? } }
theorem zkv : zn0 Challenge.rw_uf020024_02.row.prog = true := by kernel_rfl
theorem said02 : Challenge.rw_uf020024_02.wellSaid = true := by kernel_rfl
theorem left02 : LeftO Challenge.rw_uf020024_02.row.prog zj1 [] (fun s => xlAt zj1 [] s && recOk (RowW.records Challenge.rw_uf020024_02.row.toRowW) s) (fun s => (excB s.heap, netB s.heap)) (fun _ => (true, zey Challenge.rw_uf020024_02.row.prog)) 8000 := by intro w; kernel_rfl
end Bn
end

namespace Ar
inductive Nd where
 | l (k : Nat) | v (i : Nat) | b (t : Nat) (x y : Nd)
noncomputable def nthA {α : Type} (z : α) (l : List α) : Nat -> α := List.rec (fun _ => z) (fun x _ ih i => Nat.rec x (fun j _ => ih j) i) l
noncomputable def vN (c : List Nat) (e : Nd) : Nat :=
 (fun _ : Nat => Nd.rec (fun k => k) (fun i => List.rec (fun _ => 0) (fun x _ ih i => Nat.rec x (fun j _ => ih j) i) c i) (fun t _ _ X Y => cond (t.beq 0) (X + Y) (cond (t.beq 1) (X * Y) (cond (t.beq 2) (X - Y) (cond (t.beq 3) (X / Y) (cond (t.beq 4) (X % Y) (min X Y)))))) e) PySem.sizeLine
noncomputable def vZ (c : List Nat) (z : List Int) (e : Nd) : Int :=
 Nd.rec (fun k => (k : Int)) (fun i => nthA 0 z i) (fun t x _ X Y => cond (t.beq 0) (X + Y) (cond (t.beq 1) (X * Y) (cond (t.beq 2) (X - Y) (cond (t.beq 3) (-X) ((vN c x : Nat) : Int))))) e
noncomputable def vP (c : List Nat) (z : List Int) (e : Nd) : Prop :=
 Nd.rec (fun _ => False) (fun _ => False) (fun t x y X Y => cond (t.beq 0) (vN c x <= vN c y) (cond (t.beq 1) (vN c x < vN c y) (cond (t.beq 2) (vN c x = vN c y)
  (cond (t.beq 3) (vZ c z x <= vZ c z y) (cond (t.beq 4) (vZ c z x < vZ c z y) (cond (t.beq 5) (vZ c z x = vZ c z y)
  (cond (t.beq 6) (X /\ Y) (cond (t.beq 7) (X \/ Y) (¬ X))))))))) e
noncomputable def same (e : Nd) : Nd -> Bool :=
 Nd.rec (fun k f => Nd.rec (fun j => k.beq j) (fun _ => false) (fun _ _ _ _ _ => false) f) (fun k f => Nd.rec (fun _ => false) (fun j => k.beq j) (fun _ _ _ _ _ => false) f)
  (fun t _ _ X Y f => Nd.rec (fun _ => false) (fun _ => false) (fun u x y _ _ => cond (t.beq u) (cond (X x) (Y y) false) false) f) e
theorem zqp (e : Nd) : ∀ f, same e f = true -> e = f := by
 induction e with
 | l k => intro f h; cases f with
  | l j => rw [zat h]
  | v j => exact nomatch h
  | b t x y => exact nomatch h
 | v k => intro f h; cases f with
  | l j => exact nomatch h
  | v j => rw [zat h]
  | b t x y => exact nomatch h
 | b t x y ihx ihy => intro f h; cases f with
  | l j => exact nomatch h
  | v j => exact nomatch h
  | b u x' y' =>
   replace h : cond (t.beq u) (cond (same x x') (same y y') false) false = true := h
   cases h1 : t.beq u with
   | false => rw [h1] at h; exact nomatch h
   | true =>
    rw [h1] at h; replace h : cond (same x x') (same y y') false = true := h
    cases h2 : same x x' with
    | false => rw [h2] at h; exact nomatch h
    | true => rw [h2] at h; rw [zat h1, ihx _ h2, ihy _ h]
abbrev Lin := List (Int × Bool × Nd)
section
variable (c : List Nat) (z : List Int)
noncomputable def atV (s : Bool) (a : Nd) : Int := cond s (vN c a : Int) (vZ c z a)
noncomputable def val (l : Lin) : Int := List.rec 0 (fun p _ ih => p.1 * atV c z p.2.1 p.2.2 + ih) l
noncomputable def put (k : Int) (s : Bool) (a : Nd) (l : Lin) : Lin := List.rec [(k, s, a)] (fun p r ih => cond (cond (s == p.2.1) (same a p.2.2) false) ((k + p.1, s, a) :: r) (p :: ih)) l
theorem zd7 (k : Int) (s : Bool) (a : Nd) (l : Lin) : val c z (put k s a l) = k * atV c z s a + val c z l := by
 induction l with
 | nil => rfl
 | cons p r ih =>
  show val c z (cond (cond (s == p.2.1) (same a p.2.2) false) ((k + p.1, s, a) :: r) (p :: put k s a r)) = k * atV c z s a + (p.1 * atV c z p.2.1 p.2.2 + val c z r)
  cases h : cond (s == p.2.1) (same a p.2.2) false with
  | false =>
   show p.1 * atV c z p.2.1 p.2.2 + val c z (put k s a r) = _
   rw [ih]; exact Int.add_left_comm ..
  | true =>
   cases h1 : s == p.2.1 with
   | false => rw [h1] at h; exact nomatch h
   | true =>
    rw [h1] at h
    show (k + p.1) * atV c z s a + val c z r = _
    rw [<- eq_of_beq h1, <- zqp _ _ h, Int.add_mul, Int.add_assoc]
noncomputable def litN (e : Nd) : Option Nat := Nd.rec some (fun _ => none) (fun _ _ _ _ _ => none) e
theorem zk5 {e : Nd} {n : Nat} (h : litN e = some n) : e = .l n := by
 cases e with
 | l k => rw [zaa h]
 | v _ => exact nomatch h
 | b _ _ _ => exact nomatch h
noncomputable def linN (e : Nd) : Int -> Lin -> Lin :=
 Nd.rec (fun n k L => put (k * n) true (.l 1) L) (fun i k L => put k true (.v i) L)
  (fun t x y X Y k L => cond (t.beq 0) (X k (Y k L)) (cond (t.beq 1) (Option.rec (Option.rec (put k true (.b t x y) L) (fun n => X (k * n) L) (litN y)) (fun n => Y (k * n) L) (litN x)) (put k true (.b t x y) L))) e
theorem zjd (e : Nd) : ∀ k L, val c z (linN e k L) = k * (vN c e : Int) + val c z L := by
 induction e with
 | l n => intro k L; exact (zd7 c z _ _ _ _).trans (by show k * n * ((1 : Nat) : Int) + _ = _; rw [Int.natCast_one, Int.mul_one]; rfl)
 | v i => intro k L; exact zd7 c z _ _ _ _
 | b t x y X Y =>
  intro k L
  show val c z (cond (t.beq 0) (linN x k (linN y k L)) (cond (t.beq 1) (Option.rec (Option.rec (put k true (.b t x y) L) (fun n => linN x (k * n) L) (litN y)) (fun n => linN y (k * n) L) (litN x)) (put k true (.b t x y) L))) = _
  cases h0 : t.beq 0 with
  | true =>
   obtain rfl := zat h0
   show val c z (linN x k (linN y k L)) = k * ((vN c x + vN c y : Nat) : Int) + _
   rw [X, Y, Int.natCast_add, Int.mul_add, Int.add_assoc]
  | false =>
   cases h1 : t.beq 1 with
   | false => exact zd7 c z _ _ _ _
   | true =>
    obtain rfl := zat h1
    show val c z (Option.rec (Option.rec (put k true (.b 1 x y) L) (fun n => linN x (k * n) L) (litN y)) (fun n => linN y (k * n) L) (litN x)) = k * ((vN c x * vN c y : Nat) : Int) + _
    cases hx : litN x with
    | some n =>
     rw [zk5 hx]
     show val c z (linN y (k * n) L) = k * ((n * vN c y : Nat) : Int) + _
     rw [Y, Int.natCast_mul, Int.mul_assoc]
    | none =>
     cases hy : litN y with
     | some n =>
      rw [zk5 hy]
      show val c z (linN x (k * n) L) = k * ((vN c x * n : Nat) : Int) + _
      rw [X, Int.natCast_mul, Int.mul_assoc, Int.mul_comm (n : Int)]
     | none => exact zd7 c z _ _ _ _
noncomputable def linZ (e : Nd) : Int -> Lin -> Lin :=
 Nd.rec (fun n k L => put (k * n) true (.l 1) L) (fun i k L => put k false (.v i) L)
  (fun t x y X Y k L => cond (t.beq 0) (X k (Y k L)) (cond (t.beq 2) (X k (Y (-k) L)) (cond (t.beq 3) (X (-k) L) (cond (t.beq 4) (linN x k L)
   (cond (t.beq 1) (Option.rec (put k false (.b t x y) L) (fun n => Y (k * n) L) (litN x)) (put k false (.b t x y) L)))))) e
theorem zms (e : Nd) : ∀ k L, val c z (linZ e k L) = k * vZ c z e + val c z L := by
 induction e with
 | l n => intro k L; exact (zd7 c z _ _ _ _).trans (by show k * n * ((1 : Nat) : Int) + _ = _; rw [Int.natCast_one, Int.mul_one]; rfl)
 | v i => intro k L; exact zd7 c z _ _ _ _
 | b t x y X Y =>
  intro k L
  show val c z (cond (t.beq 0) (linZ x k (linZ y k L)) (cond (t.beq 2) (linZ x k (linZ y (-k) L)) (cond (t.beq 3) (linZ x (-k) L) (cond (t.beq 4) (linN x k L)
   (cond (t.beq 1) (Option.rec (put k false (.b t x y) L) (fun n => linZ y (k * n) L) (litN x)) (put k false (.b t x y) L)))))) = _
  cases h0 : t.beq 0 with
  | true =>
   obtain rfl := zat h0
   show val c z (linZ x k (linZ y k L)) = k * (vZ c z x + vZ c z y) + _
   rw [X, Y, Int.mul_add, Int.add_assoc]
  | false =>
  cases h2 : t.beq 2 with
  | true =>
   obtain rfl := zat h2
   show val c z (linZ x k (linZ y (-k) L)) = k * (vZ c z x - vZ c z y) + _
   rw [X, Y, Int.mul_sub, Int.sub_eq_add_neg, Int.neg_mul, Int.add_assoc]
  | false =>
  cases h3 : t.beq 3 with
  | true =>
   obtain rfl := zat h3
   show val c z (linZ x (-k) L) = k * (- vZ c z x) + _
   rw [X, Int.neg_mul, Int.mul_neg]
  | false =>
  cases h4 : t.beq 4 with
  | true =>
   obtain rfl := zat h4
   exact zjd c z x k L
  | false =>
  cases h1 : t.beq 1 with
  | false => exact zd7 c z _ _ _ _
  | true =>
   obtain rfl := zat h1
   show val c z (Option.rec (put k false (.b 1 x y) L) (fun n => linZ y (k * n) L) (litN x)) = k * (vZ c z x * vZ c z y) + _
   cases hx : litN x with
   | none => exact zd7 c z _ _ _ _
   | some n =>
    rw [zk5 hx]
    show val c z (linZ y (k * n) L) = k * ((n : Int) * vZ c z y) + _
    rw [Y, Int.mul_assoc]
noncomputable def addF (k : Int) (s : Bool) (d : Int) (x y : Nd) (L : Lin) : Lin := put (k * d) true (.l 1) (cond s (linN y k (linN x (-k) L)) (linZ y k (linZ x (-k) L)))
theorem zl8 (k : Int) (s : Bool) (d : Int) (x y : Nd) (L : Lin) : val c z (addF k s d x y L) = k * (d + (atV c z s y - atV c z s x)) + val c z L := by
 refine (zd7 c z _ _ _ _).trans ?_
 have e : val c z (cond s (linN y k (linN x (-k) L)) (linZ y k (linZ x (-k) L))) = k * (atV c z s y - atV c z s x) + val c z L := by
  rw [Int.mul_sub, Int.sub_eq_add_neg, <- Int.neg_mul, Int.add_assoc]
  cases s
  ·exact (zms c z _ _ _).trans (congrArg _ (zms c z _ _ _))
  ·exact (zjd c z _ _ _).trans (congrArg _ (zjd c z _ _ _))
 rw [e, show atV c z true (.l 1) = 1 from rfl, Int.mul_one, Int.mul_add, Int.add_assoc]
noncomputable def shape (f : Nd) : Option (Bool × Bool × Int × Nd × Nd) :=
 Nd.rec (fun _ => none) (fun _ => none) (fun t x y _ _ => cond (t.beq 0) (some (false, true, 0, x, y)) (cond (t.beq 1) (some (false, true, -1, x, y)) (cond (t.beq 2) (some (true, true, 0, x, y))
  (cond (t.beq 3) (some (false, false, 0, x, y)) (cond (t.beq 4) (some (false, false, -1, x, y)) (cond (t.beq 5) (some (true, false, 0, x, y)) (cond (t.beq 8)
   (Nd.rec (fun _ => none) (fun _ => none) (fun t x y _ _ => cond (t.beq 0) (some (false, true, -1, y, x)) (cond (t.beq 1) (some (false, true, 0, y, x)) (cond (t.beq 3) (some (false, false, -1, y, x)) (cond (t.beq 4) (some (false, false, 0, y, x)) none)))) x)
   none))))))) f
variable {c z} in
theorem zb5 {α : Type} {b : Bool} {x y : α} {P : Prop} {a : α} (h1 : b = true -> x = a -> P) (h2 : b = false -> y = a -> P) (h : cond b x y = a) : P := by
 cases b
 ·exact h2 rfl h
 ·exact h1 rfl h
def Sh (q s : Bool) (d : Int) (x y : Nd) : Prop := (q = true -> d + (atV c z s y - atV c z s x) = 0) /\ 0 <= d + (atV c z s y - atV c z s x)
theorem sh_le {s : Bool} {x y : Nd} (h : atV c z s x <= atV c z s y) : Sh c z false s 0 x y := ⟨nofun, by rw [Int.zero_add]; exact Int.sub_nonneg_of_le h⟩
theorem sh_lt {s : Bool} {x y : Nd} (h : atV c z s x < atV c z s y) : Sh c z false s (-1) x y := ⟨nofun, by rw [Int.add_comm]; exact Int.sub_nonneg_of_le (Int.sub_pos_of_lt h)⟩
theorem sh_eq {s : Bool} {x y : Nd} (h : atV c z s x = atV c z s y) : Sh c z true s 0 x y := ⟨fun _ => by rw [h, Int.sub_self]; rfl, by rw [h, Int.sub_self]; decide⟩
theorem shape_ok {f : Nd} {p : Bool × Bool × Int × Nd × Nd} (h : shape f = some p) (hf : vP c z f) : Sh c z p.1 p.2.1 p.2.2.1 p.2.2.2.1 p.2.2.2.2 := by
 cases f with
 | l _ => exact nomatch h
 | v _ => exact nomatch h
 | b t a b =>
  revert h
  refine zb5 (fun e h => ?_) fun _ => zb5 (fun e h => ?_) fun _ => zb5 (fun e h => ?_) fun _ => zb5 (fun e h => ?_) fun _ => zb5 (fun e h => ?_) fun _ => zb5 (fun e h => ?_) fun _ => zb5 (fun e h => ?_) fun _ h => nomatch h
  all_goals obtain rfl := zat e
  ·rw [<- zaa h]; exact sh_le c z (s := true) (za6.mpr hf)
  ·rw [<- zaa h]; exact sh_lt c z (s := true) (zam.mpr hf)
  ·rw [<- zaa h]; exact sh_eq c z (s := true) (congrArg Int.ofNat hf)
  ·rw [<- zaa h]; exact sh_le c z (s := false) hf
  ·rw [<- zaa h]; exact sh_lt c z (s := false) hf
  ·rw [<- zaa h]; exact sh_eq c z (s := false) hf
  ·cases a with
   | l _ => exact nomatch h
   | v _ => exact nomatch h
   | b t a b =>
    revert h
    refine zb5 (fun e h => ?_) fun _ => zb5 (fun e h => ?_) fun _ => zb5 (fun e h => ?_) fun _ => zb5 (fun e h => ?_) fun _ h => nomatch h
    all_goals obtain rfl := zat e
    ·rw [<- zaa h]; exact sh_lt c z (s := true) (zam.mpr (Nat.lt_of_not_le hf))
    ·rw [<- zaa h]; exact sh_le c z (s := true) (za6.mpr (zbh hf))
    ·rw [<- zaa h]; exact sh_lt c z (s := false) (Int.lt_of_not_ge hf)
    ·rw [<- zaa h]; exact sh_le c z (s := false) (Int.le_of_not_gt hf)
end
end Ar
namespace Ar
section
variable (c : List Nat) (z : List Int)
noncomputable def useF (g : Bool) (m : Nat) (f : Nd) (L : Lin) : Lin :=
 Option.rec L (fun p => cond g (cond p.1 (addF (-(m : Int)) p.2.1 p.2.2.1 p.2.2.2.1 p.2.2.2.2 L) L) (addF m p.2.1 p.2.2.1 p.2.2.2.1 p.2.2.2.2 L)) (shape f)
theorem useF_ok {g : Bool} {m : Nat} {f : Nd} {L : Lin} (hf : vP c z f) (h : 0 <= val c z L) : 0 <= val c z (useF g m f L) := by
 show 0 <= val c z (Option.rec L _ (shape f))
 cases e : shape f with
 | none => exact h
 | some p =>
  obtain ⟨h1, h2⟩ := shape_ok c z e hf
  cases g with
  | false =>
   show 0 <= val c z (addF m p.2.1 p.2.2.1 p.2.2.2.1 p.2.2.2.2 L)
   rw [zl8]; exact Int.add_nonneg (Int.mul_nonneg (zbe m) h2) h
  | true =>
   show 0 <= val c z (cond p.1 (addF (-(m : Int)) p.2.1 p.2.2.1 p.2.2.2.1 p.2.2.2.2 L) L)
   cases e : p.1 with
   | false => exact h
   | true =>
    show 0 <= val c z (addF (-(m : Int)) p.2.1 p.2.2.1 p.2.2.2.1 p.2.2.2.2 L)
    rw [zl8, h1 e, Int.mul_zero, Int.zero_add]; exact h
noncomputable def ub (L : Lin) : Option Int :=
 List.rec (some 0) (fun p _ ih => Option.rec none (fun u => cond (cond p.2.1 (same p.2.2 (.l 1)) false) (some (p.1 + u)) (cond (p.1 == 0) (some u) (cond p.2.1 (cond (decide (p.1 <= 0)) (some u) none) none))) ih) L
theorem ub_ok (L : Lin) : ∀ u, ub L = some u -> val c z L <= u := by
 induction L with
 | nil => intro u h; rw [<- zaa h]; exact Int.le_refl 0
 | cons p r ih =>
  intro u h
  obtain ⟨k, s, a⟩ := p
  replace h : Option.rec none (fun u => cond (cond s (same a (.l 1)) false) (some (k + u)) (cond (k == 0) (some u) (cond s (cond (decide (k <= 0)) (some u) none) none))) (ub r) = some u := h
  show k * atV c z s a + val c z r <= u
  cases e : ub r with
  | none => rw [e] at h; exact nomatch h
  | some w =>
   have hr := ih w e
   rw [e] at h
   revert h
   refine zb5 (fun e1 h => ?_) fun _ => zb5 (fun e1 h => ?_) fun _ h => ?_
   ·rw [<- zaa h]
    cases s with
    | false => exact nomatch e1
    | true =>
     rw [zqp _ _ e1]
     exact Int.add_le_add (Int.le_of_eq (Int.mul_one k)) hr
   ·rw [<- zaa h, eq_of_beq e1, Int.zero_mul, Int.zero_add]; exact hr
   ·cases s with
    | false => exact nomatch h
    | true =>
     replace h : cond (decide (k <= 0)) (some w) none = some u := h
     revert h
     refine zb5 (fun e1 h => ?_) fun _ h => nomatch h
     rw [<- zaa h]
     have := Int.mul_nonneg (Int.neg_nonneg_of_nonpos (of_decide_eq_true e1)) (zbe (vN c a))
     rw [Int.neg_mul] at this
     have h2 : k * atV c z true a <= 0 := Int.nonpos_of_neg_nonneg this
     exact Int.le_trans (Int.add_le_add h2 hr) (Int.le_of_eq (Int.zero_add w))
noncomputable def fin (L : Lin) : Bool := Option.rec false (fun u => decide (u < 0)) (ub L)
theorem fin_ok {L : Lin} (h : fin L = true) (h0 : 0 <= val c z L) : False := by
 replace h : Option.rec false (fun u => decide (u < 0)) (ub L) = true := h
 cases e : ub L with
 | none => rw [e] at h; exact nomatch h
 | some u => rw [e] at h; exact Int.not_lt.mpr (Int.le_trans h0 (ub_ok c z L u e)) (of_decide_eq_true h)
abbrev AllP (F : List Nd) : Prop := ∀ f ∈ F, vP c z f
noncomputable def nf (F : List Nd) (i : Nat) : Nd := nthA (.b 8 (.l 0) (.l 0)) F i
theorem nf_ok {F : List Nd} (h : AllP c z F) : ∀ i, vP c z (nf F i) := by
 induction F with
 | nil => exact fun _ (x : False) => x
 | cons f r ih =>
  intro i
  cases i with
  | zero => exact h f zae
  | succ i => exact ih (fun g hg => h g (zaj _ hg)) i
noncomputable def kid (e : Nd) : Nat := Nd.rec (fun k => k) (fun k => k) (fun _ _ _ _ _ => 0) e
noncomputable def comb (e : Nd) : List Nd -> Lin -> Lin :=
 Nd.rec (fun _ _ L => L) (fun _ _ L => L) (fun _ x _ _ Y F L => Y F (Nd.rec (fun _ => L) (fun _ => L) (fun s i m _ _ => useF (s.beq 1) (kid m) (nf F (kid i)) L) x)) e
theorem comb_ok (e : Nd) : ∀ F L, AllP c z F -> 0 <= val c z L -> 0 <= val c z (comb e F L) := by
 induction e with
 | l _ => exact fun _ _ _ h => h
 | v _ => exact fun _ _ _ h => h
 | b t x y _ Y =>
  intro F L hF h
  refine Y F _ hF ?_
  cases x with
  | l _ => exact h
  | v _ => exact h
  | b s i m => exact useF_ok c z (nf_ok c z hF _) h
noncomputable def lem (e : Nd) : List Nd :=
 Nd.rec (fun _ => []) (fun _ => []) (fun t x y _ _ => cond (t.beq 2) [.b 0 (.b 2 x y) x, .b 0 x (.b 0 (.b 2 x y) y), .b 7 (.b 2 (.b 0 (.b 2 x y) y) x) (.b 6 (.b 0 x y) (.b 2 (.b 2 x y) (.l 0)))]
  (cond (t.beq 5) [.b 0 (.b 5 x y) x, .b 0 (.b 5 x y) y, .b 7 (.b 2 (.b 5 x y) x) (.b 2 (.b 5 x y) y)]
  (Option.rec [] (fun k => cond (k.beq 0) [] (cond (t.beq 3) [.b 0 (.b 1 (.l k) (.b 3 x (.l k))) x, .b 1 x (.b 0 (.b 1 (.l k) (.b 3 x (.l k))) (.l k))]
   (cond (t.beq 4) [.b 2 (.b 0 (.b 1 (.l k) (.b 3 x (.l k))) (.b 4 x (.l k))) x, .b 1 (.b 4 x (.l k)) (.l k)] []))) (litN y)))) e
theorem all2 {p : Nd -> Prop} {a b : Nd} (h1 : p a) (h2 : p b) : ∀ f ∈ [a, b], p f := zau.mpr ⟨h1, zau.mpr ⟨h2, fun _ h => nomatch h⟩⟩
theorem all1 {p : Nd -> Prop} {a : Nd} (h1 : p a) : ∀ f ∈ [a], p f := zau.mpr ⟨h1, fun _ h => nomatch h⟩
theorem lem_ok (e : Nd) : AllP c z (lem e) := by
 cases e with
 | l _ => exact fun _ h => nomatch h
 | v _ => exact fun _ h => nomatch h
 | b t x y =>
  cases h2 : t.beq 2 with
  | true =>
   obtain rfl := zat h2
   refine zau.mpr ⟨Nat.sub_le (vN c x) (vN c y), all2 (p := vP c z) (Nat.le_add_of_sub_le (zad (vN c x - vN c y))) ?_⟩
   show vN c x - vN c y + vN c y = vN c x \/ (vN c x <= vN c y /\ vN c x - vN c y = 0)
   exact (Nat.le_total (vN c y) (vN c x)).elim (fun h => .inl (Nat.sub_add_cancel h)) fun h => .inr ⟨h, Nat.sub_eq_zero_of_le h⟩
  | false =>
   show ∀ f ∈ cond (t.beq 2) _ _, vP c z f
   rw [h2]
   show ∀ f ∈ cond (t.beq 5) _ _, vP c z f
   cases h5 : t.beq 5 with
   | true =>
    obtain rfl := zat h5
    refine zau.mpr ⟨Nat.min_le_left (vN c x) (vN c y), all2 (p := vP c z) (Nat.min_le_right (vN c x) (vN c y)) ?_⟩
    show min (vN c x) (vN c y) = vN c x \/ min (vN c x) (vN c y) = vN c y
    exact (Nat.le_total (vN c x) (vN c y)).elim (fun h => .inl (Nat.min_eq_left h)) fun h => .inr (Nat.min_eq_right h)
   | false =>
    cases hy : litN y with
    | none => exact fun _ h => nomatch h
    | some k =>
     show ∀ f ∈ cond (k.beq 0) _ _, vP c z f
     cases h0 : k.beq 0 with
     | true => exact fun _ h => nomatch h
     | false =>
      have k0 : 0 < k := Nat.pos_of_ne_zero fun e => Nat.ne_of_beq_eq_false h0 e
      show ∀ f ∈ cond (t.beq 3) _ _, vP c z f
      cases h3 : t.beq 3 with
      | true => exact all2 (p := vP c z) (Nat.mul_div_le (vN c x) k) (Nat.lt_mul_div_succ (vN c x) k0)
      | false =>
       show ∀ f ∈ cond (t.beq 4) _ _, vP c z f
       cases t.beq 4 with
       | false => exact fun _ h => nomatch h
       | true => exact all2 (p := vP c z) (Nat.div_add_mod (vN c x) k) (Nat.mod_lt (vN c x) k0)
noncomputable def neg (f : Nd) : Nd := .b 8 f (.l 0)
noncomputable def opn (f : Nd) : List Nd :=
 Nd.rec (fun _ => []) (fun _ => []) (fun t x y _ _ => cond (t.beq 6) [x, y] (cond (t.beq 8) (Nd.rec (fun _ => []) (fun _ => []) (fun t x y _ _ => cond (t.beq 7) [neg x, neg y] (cond (t.beq 8) [x] [])) x) [])) f
theorem opn_ok {f : Nd} (h : vP c z f) : AllP c z (opn f) := by
 cases f with
 | l _ => exact fun _ h => nomatch h
 | v _ => exact fun _ h => nomatch h
 | b t x y =>
  show ∀ f ∈ cond (t.beq 6) _ _, vP c z f
  cases h6 : t.beq 6 with
  | true => obtain rfl := zat h6; exact all2 (p := vP c z) h.1 h.2
  | false =>
   show ∀ f ∈ cond (t.beq 8) _ _, vP c z f
   cases h8 : t.beq 8 with
   | false => exact fun _ h => nomatch h
   | true =>
    obtain rfl := zat h8
    cases x with
    | l _ => exact fun _ h => nomatch h
    | v _ => exact fun _ h => nomatch h
    | b t x y =>
     show ∀ f ∈ cond (t.beq 7) _ _, vP c z f
     cases h7 : t.beq 7 with
     | true => obtain rfl := zat h7; exact all2 (p := vP c z) (fun q : vP c z x => h (Or.inl q)) (fun q : vP c z y => h (Or.inr q))
     | false =>
      show ∀ f ∈ cond (t.beq 8) _ _, vP c z f
      cases h8 : t.beq 8 with
      | false => exact fun _ h => nomatch h
      | true => obtain rfl := zat h8; exact all1 (p := vP c z) (Classical.not_not.mp h)
noncomputable def spl (g : Bool) (f : Nd) : List Nd :=
 Nd.rec (fun _ => []) (fun _ => []) (fun t x y _ _ => cond (t.beq 7) [cond g x y] (cond (t.beq 8) (Nd.rec (fun _ => []) (fun _ => []) (fun t x y _ _ => cond (t.beq 6) [neg (cond g x y)] (cond (t.beq 2) [.b 1 (cond g x y) (cond g y x)] (cond (t.beq 5) [.b 4 (cond g x y) (cond g y x)] []))) x) [])) f
theorem spl_ok {f : Nd} (h : vP c z f) : AllP c z (spl true f) \/ AllP c z (spl false f) := by
 cases f with
 | l _ => exact .inl fun _ h => nomatch h
 | v _ => exact .inl fun _ h => nomatch h
 | b t x y =>
  show (∀ f ∈ cond (t.beq 7) _ _, vP c z f) \/ ∀ f ∈ cond (t.beq 7) _ _, vP c z f
  cases h6 : t.beq 7 with
  | true => obtain rfl := zat h6; exact Or.imp (fun q => all1 q) (fun q => all1 q) h
  | false =>
   show (∀ f ∈ cond (t.beq 8) _ _, vP c z f) \/ ∀ f ∈ cond (t.beq 8) _ _, vP c z f
   cases h8 : t.beq 8 with
   | false => exact .inl fun _ h => nomatch h
   | true =>
    obtain rfl := zat h8
    cases x with
    | l _ => exact .inl fun _ h => nomatch h
    | v _ => exact .inl fun _ h => nomatch h
    | b t x y =>
     show (∀ f ∈ cond (t.beq 6) _ _, vP c z f) \/ ∀ f ∈ cond (t.beq 6) _ _, vP c z f
     cases h7 : t.beq 6 with
     | true => obtain rfl := zat h7; exact (Classical.not_and_iff_not_or_not.mp h).imp (fun q => all1 (p := vP c z) (a := neg x) q) (fun q => all1 (p := vP c z) (a := neg y) q)
     | false =>
      show (∀ f ∈ cond (t.beq 2) _ _, vP c z f) \/ ∀ f ∈ cond (t.beq 2) _ _, vP c z f
      cases h8 : t.beq 2 with
      | true => obtain rfl := zat h8; exact (Nat.lt_or_gt_of_ne h).imp (fun q => all1 (p := vP c z) (a := .b 1 x y) q) (fun q => all1 (p := vP c z) (a := .b 1 y x) q)
      | false =>
       show (∀ f ∈ cond (t.beq 5) _ _, vP c z f) \/ ∀ f ∈ cond (t.beq 5) _ _, vP c z f
       cases h8 : t.beq 5 with
       | true => obtain rfl := zat h8; exact (Int.lt_or_gt_of_ne h).imp (fun q => all1 (p := vP c z) (a := .b 4 x y) q) (fun q => all1 (p := vP c z) (a := .b 4 y x) q)
       | false => exact .inl fun _ h => nomatch h
noncomputable def run (e : Nd) : List Nd -> Bool :=
 Nd.rec (fun _ _ => false) (fun _ _ => false) (fun t x y X Y F => cond (t.beq 0) (Y (lem x ++ F)) (cond (t.beq 1) (Y (opn (nf F (kid x)) ++ F)) (cond (t.beq 2) (fin (comb (.b t x y) F []))
  (cond (X (spl true (nf F (t - 3)) ++ F)) (Y (spl false (nf F (t - 3)) ++ F)) false)))) e
theorem zji {F G : List Nd} (h : AllP c z F) (k : AllP c z G) : AllP c z (F ++ G) := List.forall_mem_append.mpr ⟨h, k⟩
theorem run_ok (e : Nd) : ∀ F, run e F = true -> AllP c z F -> False := by
 induction e with
 | l _ => exact fun _ h => nomatch h
 | v _ => exact fun _ h => nomatch h
 | b t x y X Y =>
  intro F
  refine zb5 (fun _ h hF => Y _ h (zji c z (lem_ok c z x) hF)) fun _ => zb5 (fun _ h hF => Y _ h (zji c z (opn_ok c z (nf_ok c z hF _)) hF)) fun _ =>
   zb5 (fun _ h hF => fin_ok c z h (comb_ok c z _ F [] hF (Int.le_refl 0))) fun _ => zb5 (fun e h hF => ?_) fun _ h => nomatch h
  exact (spl_ok c z (nf_ok c z hF (t - 3))).elim (fun q => X _ e (zji c z q hF)) fun q => Y _ h (zji c z q hF)
end
noncomputable def dec (f : Nat) : Nat -> List Nd -> List Nd :=
 Nat.rec (fun _ S => S) (fun _ ih n S => Nat.rec S (fun m _ =>
  cond (Nat.beq ((m + 1) % 32) 0) (ih ((m + 1) / 1024) (.l ((m + 1) / 32 % 32) :: S))
  (cond (Nat.beq ((m + 1) % 32) 1) (ih ((m + 1) / 1024) (.v ((m + 1) / 32 % 32) :: S))
  (cond (Nat.beq ((m + 1) % 32) 2) (ih ((m + 1) / 37778931862957161709568) (.l ((m + 1) / 32 % 1180591620717411303424) :: S))
  (List.rec S (fun y R _ => List.rec S (fun x R' _ => cond (Nat.beq ((m + 1) % 32) 31) (ih ((m + 1) / 1024) (.b ((m + 1) / 32 % 32) x y :: R')) (ih ((m + 1) / 32) (.b ((m + 1) % 32 - 3) x y :: R'))) R) S)))) n) f
noncomputable def crt (n : Nat) : Nd := nf (dec 2000 n []) 0
theorem mx (a b : Nat) : (max a b = a /\ b <= a) \/ (max a b = b /\ a <= b) := (Nat.le_total b a).imp (fun h => ⟨Nat.max_eq_left h, h⟩) fun h => ⟨Nat.max_eq_right h, h⟩
theorem tn (a : Int) : ((a.toNat : Nat) : Int) = a \/ (a <= 0 /\ a.toNat = 0) := (Int.le_total 0 a).imp Int.toNat_of_nonneg fun h => ⟨h, Int.toNat_of_nonpos h⟩
theorem zx (a b : Int) : (max a b = a /\ b <= a) \/ (max a b = b /\ a <= b) := (Int.le_total b a).imp (fun h => ⟨Int.max_eq_left h, h⟩) fun h => ⟨Int.max_eq_right h, h⟩
theorem zn (a b : Int) : (min a b = a /\ a <= b) \/ (min a b = b /\ b <= a) := (Int.le_total a b).imp (fun h => ⟨Int.min_eq_left h, h⟩) fun h => ⟨Int.min_eq_right h, h⟩
theorem na (a : Int) : (((a.natAbs : Nat) : Int) = a /\ 0 <= a) \/ (((a.natAbs : Nat) : Int) = -a /\ a <= 0) := (Int.le_total 0 a).imp (fun h => ⟨Int.natAbs_of_nonneg h, h⟩) fun h => ⟨Int.ofNat_natAbs_of_nonpos h, h⟩
theorem p63 : (2 : Int) ^ 63 = 9223372036854775808 := by decide
theorem zd (a : Int) {k : Int} (h : 0 < k) : k * (a / k) + a % k = a /\ 0 <= a % k /\ a % k < k := ⟨Int.mul_ediv_add_emod a k, Int.emod_nonneg a (Int.ne_of_gt h), zbs a h⟩
theorem al0 (c : List Nat) (z : List Int) : AllP c z [] := fun _ h => nomatch h
theorem al1 (c : List Nat) (z : List Int) {f : Nd} {F : List Nd} (h : vP c z f) (k : AllP c z F) : AllP c z (f :: F) := zau.mpr ⟨h, k⟩
theorem zhg {c : List Nat} {z : List Int} {e g : Nd} {F : List Nd} (h : run e (neg g :: F) = true) (k : AllP c z F) : vP c z g := Classical.not_not.mp fun q => run_ok c z _ _ h (al1 c z (f := neg g) q k)
noncomputable def ok0 (n : Nat) (g : Nd) : Bool := run (crt n) [neg g]
theorem ar0 (c : List Nat) (z : List Int) (n : Nat) (g : Nd) (e : ok0 n g = true := by kernel_rfl) : vP c z g := zhg e (al0 c z)
noncomputable def ok1 (n : Nat) (g f1 : Nd) : Bool := run (crt n) [neg g, f1]
theorem ar1 (c : List Nat) (z : List Int) (n : Nat) (g f1 : Nd) (h1 : vP c z f1) (e : ok1 n g f1 = true := by kernel_rfl) : vP c z g := zhg e (al1 c z h1 (al0 c z))
noncomputable def ok2 (n : Nat) (g f1 f2 : Nd) : Bool := run (crt n) [neg g, f1, f2]
theorem ar2 (c : List Nat) (z : List Int) (n : Nat) (g f1 f2 : Nd) (h1 : vP c z f1) (h2 : vP c z f2) (e : ok2 n g f1 f2 = true := by kernel_rfl) : vP c z g := zhg e (al1 c z h1 (al1 c z h2 (al0 c z)))
noncomputable def ok3 (n : Nat) (g f1 f2 f3 : Nd) : Bool := run (crt n) [neg g, f1, f2, f3]
theorem ar3 (c : List Nat) (z : List Int) (n : Nat) (g f1 f2 f3 : Nd) (h1 : vP c z f1) (h2 : vP c z f2) (h3 : vP c z f3) (e : ok3 n g f1 f2 f3 = true := by kernel_rfl) : vP c z g := zhg e (al1 c z h1 (al1 c z h2 (al1 c z h3 (al0 c z))))
noncomputable def ok4 (n : Nat) (g f1 f2 f3 f4 : Nd) : Bool := run (crt n) [neg g, f1, f2, f3, f4]
theorem ar4 (c : List Nat) (z : List Int) (n : Nat) (g f1 f2 f3 f4 : Nd) (h1 : vP c z f1) (h2 : vP c z f2) (h3 : vP c z f3) (h4 : vP c z f4) (e : ok4 n g f1 f2 f3 f4 = true := by kernel_rfl) : vP c z g := zhg e (al1 c z h1 (al1 c z h2 (al1 c z h3 (al1 c z h4 (al0 c z)))))
noncomputable def ok5 (n : Nat) (g f1 f2 f3 f4 f5 : Nd) : Bool := run (crt n) [neg g, f1, f2, f3, f4, f5]
theorem ar5 (c : List Nat) (z : List Int) (n : Nat) (g f1 f2 f3 f4 f5 : Nd) (h1 : vP c z f1) (h2 : vP c z f2) (h3 : vP c z f3) (h4 : vP c z f4) (h5 : vP c z f5) (e : ok5 n g f1 f2 f3 f4 f5 = true := by kernel_rfl) : vP c z g := zhg e (al1 c z h1 (al1 c z h2 (al1 c z h3 (al1 c z h4 (al1 c z h5 (al0 c z))))))
noncomputable def ok6 (n : Nat) (g f1 f2 f3 f4 f5 f6 : Nd) : Bool := run (crt n) [neg g, f1, f2, f3, f4, f5, f6]
theorem ar6 (c : List Nat) (z : List Int) (n : Nat) (g f1 f2 f3 f4 f5 f6 : Nd) (h1 : vP c z f1) (h2 : vP c z f2) (h3 : vP c z f3) (h4 : vP c z f4) (h5 : vP c z f5) (h6 : vP c z f6) (e : ok6 n g f1 f2 f3 f4 f5 f6 = true := by kernel_rfl) : vP c z g := zhg e (al1 c z h1 (al1 c z h2 (al1 c z h3 (al1 c z h4 (al1 c z h5 (al1 c z h6 (al0 c z)))))))
noncomputable def V0 : Nd := .v 0
noncomputable def V1 : Nd := .v 1
noncomputable def V2 : Nd := .v 2
noncomputable def V3 : Nd := .v 3
noncomputable def V4 : Nd := .v 4
noncomputable def V5 : Nd := .v 5
noncomputable def V6 : Nd := .v 6
noncomputable def J0 : Nd := .l 0
noncomputable def J1 : Nd := .l 1
noncomputable def J2 : Nd := .l 2
noncomputable def Y0 (x y : Nd) : Nd := .b 0 x y
noncomputable def Y1 (x y : Nd) : Nd := .b 1 x y
noncomputable def Y2 (x y : Nd) : Nd := .b 2 x y
noncomputable def Y3 (x y : Nd) : Nd := .b 3 x y
noncomputable def Y4 (x y : Nd) : Nd := .b 4 x y
noncomputable def Y5 (x y : Nd) : Nd := .b 5 x y
noncomputable def Y6 (x y : Nd) : Nd := .b 6 x y
noncomputable def Y7 (x y : Nd) : Nd := .b 7 x y
noncomputable def Y8 (x y : Nd) : Nd := .b 8 x y
end Ar
open Ar (V0 V1 V2 V3 V4 V5 V6 J0 J1 J2 Y0 Y1 Y2 Y3 Y4 Y5 Y6 Y7 Y8)

namespace Bn
open PySem PySem.W PyProof.Rows
noncomputable def ltK (key : Nat -> Int) (i j : Nat) : Bool := decide (key i < key j)
noncomputable def ge0 (p : Array Nat) (i : Nat) : Nat := p.getD i 0
theorem zda (p : Array Nat) (i : Nat) : ge0 p i = (p[i]?).getD 0 := by
 unfold ge0; rw [Array.getD_eq_getD_getElem?]
section
variable {key : Nat -> Int} {N : Nat}
noncomputable def zcw (N : Nat) (p : Array Nat) : Prop := p.toList.Perm (List.range N)
theorem zcw.size {p : Array Nat} (h : zcw N p) : p.size = N := by
 have := List.Perm.length_eq h
 simpa using this
theorem zcw.lt {p : Array Nat} (h : zcw N p) {x : Nat} (hx : x < N) : ge0 p x < N := by
 have hs := h.size
 have : ge0 p x ∈ p.toList := by rw [zda, zbt (by lia)]; simp
 simpa using h.mem_iff.mp this
theorem zcw.ne {p : Array Nat} (h : zcw N p) (hk : ∀ i j, i < N -> j < N -> key i = key j -> i = j) {i j : Nat} (hi : i < N) (hj : j < N) (hij : i ≠ j) : key (ge0 p i) ≠ key (ge0 p j) := by
 have hs := h.size
 have hn : p.toList.Nodup := h.nodup_iff.mpr List.nodup_range
 intro hc
 have := hk _ _ (h.lt hi) (h.lt hj) hc
 rw [zda, zda, zbt (by lia), zbt (by lia)] at this
 simp only [Option.getD_some] at this
 have h2 : p.toList[i]'(by simp; lia) = p.toList[j]'(by simp; lia) := by simpa using this
 exact hij ((List.getElem_inj hn).mp h2)
noncomputable def Up (key : Nat -> Int) (p : Array Nat) (m : Nat) : Prop := ∀ i j, i < j -> j < m -> key (ge0 p i) < key (ge0 p j)
noncomputable def Down (key : Nat -> Int) (p : Array Nat) (m : Nat) : Prop := ∀ i j, i < j -> j < m -> key (ge0 p j) < key (ge0 p i)
theorem Up.succ {p : Array Nat} {m : Nat} (h : Up key p m) (h1 : 1 <= m) (hl : key (ge0 p (m - 1)) < key (ge0 p m)) : Up key p (m + 1) := by
 intro i j hij hj
 by_cases e : j = m
 ·subst e
  by_cases e' : i = j - 1
  ·rw [e']; exact hl
  ·exact Int.lt_trans (h i (j - 1) (by exact Ar.ar2 [_,_] [] 0x8194a50006101403080601840101420084a5000610040308000 (Y1 V0 (Y2 V1 J1)) (Y1 V0 V1) (Y8 (Y2 V0 (Y2 V1 J1)) J0) hij e') (by exact Ar.ar1 [_] [] 0x1a085294001840600c203806100400014a000c20200610000508001 (Y1 (Y2 V0 J1) V0) (Y0 J1 V0) h1)) hl
 ·exact h i j hij (by exact Ar.ar2 [_,_] [] 0x8294001840200c20000a5000610040308000 (Y1 V0 V1) (Y1 V0 (Y0 V1 J1)) (Y8 (Y2 V0 V1) J0) hj e)
theorem Down.succ {p : Array Nat} {m : Nat} (h : Down key p m) (h1 : 1 <= m) (hl : key (ge0 p m) < key (ge0 p (m - 1))) : Down key p (m + 1) := by
 intro i j hij hj
 by_cases e : j = m
 ·subst e
  by_cases e' : i = j - 1
  ·rw [e']; exact hl
  ·exact Int.lt_trans hl (h i (j - 1) (by exact Ar.ar2 [_,_] [] 0x8194a50006101403080601840101420084a5000610040308000 (Y1 V0 (Y2 V1 J1)) (Y1 V0 V1) (Y8 (Y2 V0 (Y2 V1 J1)) J0) hij e') (by exact Ar.ar1 [_] [] 0x1a085294001840600c203806100400014a000c20200610000508001 (Y1 (Y2 V0 J1) V0) (Y0 J1 V0) h1))
 ·exact h i j hij (by exact Ar.ar2 [_,_] [] 0x8294001840200c20000a5000610040308000 (Y1 V0 V1) (Y1 V0 (Y0 V1 J1)) (Y8 (Y2 V0 V1) J0) hj e)
theorem zcw.rev {p : Array Nat} (hp : zcw N p) (i j : Nat) : zcw N (kas_rev p i j) := (Array.perm_iff_toList_perm.mp (mirror_perm p i j _)).trans hp
theorem zcw.bub {p : Array Nat} (hp : zcw N p) (i j : Nat) : zcw N (bubble p i j) := (Array.perm_iff_toList_perm.mp (bubble_perm p i j)).trans hp
theorem rev_at {p : Array Nat} {n : Nat} (h : n <= p.size) (k : Nat) : ge0 (kas_rev p 0 n) k = if k < n then ge0 p (n - 1 - k) else ge0 p k := by
 rw [zda, zda, zda]
 unfold kas_rev
 rw [getElem?_mirror_all h]
 simp only [za0, true_and]
 split
 ·congr 2; exact Ar.ar0 [_,_] [] 0x61a08528003080c01840100003410a528003081401840700c200800018ca5294a000c207006102803080c01840400c20080a100025084a1000250806008005084a100c0100068214a000c20300610040000d04294a000c2050061018030802000063294a528003081c01840a00c203006101003080202840300400284250806008005080012842508001 (Y2 (Y2 (Y2 (Y0 J0 V0) J1) V1) (Y2 (Y2 V0 J1) V1))
 ·rfl
theorem Down.rev {p : Array Nat} {n : Nat} (h : Down key p n) (hn : n <= p.size) : Up key (kas_rev p 0 n) n := by
 intro i j hij hj
 rw [rev_at hn, rev_at hn, if_pos (by exact Ar.ar2 [_,_,_] [] 0x294a000c20000610040308040 (Y1 V0 V1) (Y1 V0 V2) (Y1 V2 V1) hij hj), if_pos hj]
 exact h _ _ (by exact Ar.ar2 [_,_,_] [] 0x340c64294a5294001840c00c206806103803080c01840300c20080c028825080012840008ca5294001840700c204006100c030802028825080012842508001 (Y1 (Y2 (Y2 V0 J1) V1) (Y2 (Y2 V0 J1) V2)) (Y1 V2 V1) (Y1 V1 V0) hij hj) (by exact Ar.ar2 [_,_,_] [] 0xd04294a000c2038061020030800000065294001840700c201806100005084a10002508001 (Y1 (Y2 (Y2 V0 J1) V1) V0) (Y1 V1 V2) (Y1 V2 V0) hij hj)
noncomputable def KGo (key : Nat -> Int) (N : Nat) {α : Type} (R : α -> Prop) : KasT α -> Prop
 | .ret a => R a
 | .ask i j k => i < N /\ j < N /\ KGo key N R (k (ltK key i j))
theorem KGo.bind {α β : Type} {R : α -> Prop} {R' : β -> Prop} {f : α -> KasT β} (hf : ∀ a, R a -> KGo key N R' (f a)) : ∀ {t : KasT α}, KGo key N R t -> KGo key N R' (t.bind f)
 | .ret _, h => hf _ h
 | .ask _ _ _, h => ⟨h.1, h.2.1, KGo.bind hf h.2.2⟩
theorem KGo.wp {cmp : Nat -> Nat -> (Bool -> Shared -> Prop) -> Shared -> Prop} {s : Shared} (hc : ∀ i j C, i < N -> j < N -> C (ltK key i j) s -> cmp i j C s) {α : Type} {R : α -> Prop} {Q : α -> Shared -> Prop} (hq : ∀ a, R a -> Q a s) : ∀ t : KasT α, KGo key N R t -> t.kasWp cmp Q s
 | .ret a, h => hq a h
 | .ask i j k, h => hc i j _ h.1 h.2.1 (KGo.wp hc hq (k (ltK key i j)) h.2.2)
section
variable {p : Array Nat} (hp : zcw N p) (hk : ∀ i j, i < N -> j < N -> key i = key j -> i = j)
include hp in
theorem KGo.ask {α : Type} {R : α -> Prop} {i j : Nat} {k : Bool -> KasT α} (hi : i < N) (hj : j < N) (h1 : key (ge0 p i) < key (ge0 p j) -> KGo key N R (k true)) (h2 : ¬ key (ge0 p i) < key (ge0 p j) -> KGo key N R (k false)) : KGo key N R (.ask (ge0 p i) (ge0 p j) k) := by
 refine ⟨hp.lt hi, hp.lt hj, ?_⟩
 unfold ltK
 by_cases h : key (ge0 p i) < key (ge0 p j)
 ·rw [decide_eq_true h]; exact h1 h
 ·rw [decide_eq_false h]; exact h2 h
include hp hk
theorem zcw.gt {i j : Nat} (hi : i < N) (hj : j < N) (hij : i ≠ j) (h : ¬ key (ge0 p i) < key (ge0 p j)) : key (ge0 p j) < key (ge0 p i) := Int.lt_iff_le_and_ne.mpr ⟨Int.not_lt.mp h, fun e => hp.ne hk hi hj hij e.symm⟩
theorem asc_go {R : Nat -> Prop} (f : Nat) : ∀ n, 1 <= n -> n + f <= N -> Up key p n -> (∀ m, n <= m -> m <= n + f -> Up key p m -> (m = n + f \/ key (ge0 p m) < key (ge0 p (m - 1))) -> R m) -> KGo key N R (kas_asc p f n) := by
 induction f with
 | zero => exact fun n _ _ hu h => h n (zad _) (zad _) hu (.inl rfl)
 | succ f ih =>
  intro n h1 hn hu h
  have n1 : n < N := by exact Ar.ar1 [_,_,_] [] 0xa5000610000308020 (Y1 V0 V1) (Y0 (Y0 V0 (Y0 V2 J1)) V1) hn
  have n2 : n - 1 < N := by exact Ar.ar1 [_,_] [] 0x65294001840300c20200610000508001 (Y1 (Y2 V0 J1) V1) (Y1 V0 V1) n1
  refine KGo.ask hp n1 n2 (fun hl => h n (zad _) (za7 _ _) hu (.inr hl)) fun hl => ?_
  refine ih (n + 1) (Nat.le_add_left _ _) (by exact Ar.ar1 [_,_,_] [] 0xa5000610000308020 (Y0 (Y0 (Y0 V0 J1) V1) V2) (Y0 (Y0 V0 (Y0 V1 J1)) V2) hn) (hu.succ h1 (hp.gt hk n1 n2 (by exact Ar.ar1 [_] [] 0x68210a528003081001840200c2008020200852800308020184000100508001 (Y8 (Y2 V0 (Y2 V0 J1)) J0) (Y0 J1 V0) h1) hl)) fun m a b u o => h m (by exact Ar.ar1 [_,_] [] 0xa5000610000308020 (Y0 V0 V1) (Y0 (Y0 V0 J1) V1) a) (by exact Ar.ar1 [_,_,_] [] 0xa5000610000308020 (Y0 V0 (Y0 V1 (Y0 V2 J1))) (Y0 V0 (Y0 (Y0 V1 J1) V2)) b) u (o.imp (fun e => ?_) id)
  exact Ar.ar2 [_,_,_] [] 0x6294001840200c20000a50008100c0308000 (Y2 V0 (Y0 V1 (Y0 V2 J1))) (Y0 V0 (Y0 (Y0 V1 J1) V2)) (Y2 V0 (Y0 (Y0 V1 J1) V2)) b e
theorem desc_go {R : Array Nat × Nat × Nat -> Prop} (f : Nat) : ∀ n, 1 <= n -> n + f <= N -> Down key p n -> (∀ m, n <= m -> m <= n + f -> Down key p m -> R (p, m, 0)) -> KGo key N R (kas_desc f p n 0) := by
 induction f with
 | zero => exact fun n _ _ hu h => h n (zad _) (zad _) hu
 | succ f ih =>
  intro n h1 hn hu h
  have n1 : n < N := by exact Ar.ar1 [_,_,_] [] 0xa5000610000308020 (Y1 V0 V1) (Y0 (Y0 V0 (Y0 V2 J1)) V1) hn
  have n2 : n - 1 < N := by exact Ar.ar1 [_,_] [] 0x65294001840300c20200610000508001 (Y1 (Y2 V0 J1) V1) (Y1 V0 V1) n1
  refine KGo.ask hp n1 n2 (fun hl => ?_) fun hl => KGo.ask hp n2 n1 (fun _ => h n (zad _) (za7 _ _) hu) fun h' => absurd (hp.gt hk n1 n2 (by exact Ar.ar1 [_] [] 0x68210a528003081001840200c2008020200852800308020184000100508001 (Y8 (Y2 V0 (Y2 V0 J1)) J0) (Y0 J1 V0) h1) hl) h'
  exact ih (n + 1) (Nat.le_add_left _ _) (by exact Ar.ar1 [_,_,_] [] 0xa5000610000308020 (Y0 (Y0 (Y0 V0 J1) V1) V2) (Y0 (Y0 V0 (Y0 V1 J1)) V2) hn) (hu.succ h1 hl) fun m a b u => h m (by exact Ar.ar1 [_,_] [] 0xa5000610000308020 (Y0 V0 V1) (Y0 (Y0 V0 J1) V1) a) (by exact Ar.ar1 [_,_,_] [] 0xa5000610000308020 (Y0 V0 (Y0 V1 (Y0 V2 J1))) (Y0 V0 (Y0 (Y0 V1 J1) V2)) b) u
theorem count_go {R : Nat × Array Nat -> Prop} (hN : 2 <= N) (h : ∀ m p', 1 <= m -> m <= N -> zcw N p' -> Up key p' m -> R (m, p')) : KGo key N R (kas_count N p) := by
 refine KGo.bind (R := fun n => 1 <= n /\ n <= N /\ Up key p n /\ (n = N \/ key (ge0 p n) < key (ge0 p (n - 1)))) (fun n a => ?_) (asc_go hp hk (N - 1) 1 (zad _) (by exact Ar.ar1 [_] [] 0x68214a000c203806100000014a000c20200610000508001 (Y0 (Y0 J1 (Y2 V0 J1)) V0) (Y0 J2 V0) hN) (fun i j h1 h2 => absurd h2 (by exact Ar.ar2 [_,_] [] 0xa5000610040308040 (Y8 (Y1 V0 J1) J0) (Y1 V1 V0) (Y1 V0 J1) h1 h2)) fun m a b u o => ⟨a, by exact Ar.ar2 [_,_] [] 0x1a08528003080e01840000005294001840400c20300610000508021 (Y0 V0 V1) (Y0 J2 V1) (Y0 V0 (Y0 J1 (Y2 V1 J1))) hN b, u, o.imp (fun e => by exact Ar.ar3 [_,_] [] 0x1868214a000c204006100000014a50006101c0308080184000142008465294002040700c20180610040508021 (Y2 V0 V1) (Y0 J2 V1) (Y0 V0 (Y0 J1 (Y2 V1 J1))) (Y2 V0 (Y0 J1 (Y2 V1 J1))) hN b e) id⟩)
 obtain ⟨a1, a2, a3, a4⟩ := a
 by_cases e : n = N
 ·rw [if_pos (beq_iff_eq.mpr e)]; exact h n p a1 a2 hp a3
 ·rw [if_neg fun q => e (beq_iff_eq.mp q)]
  by_cases h1 : n > 1
  ·rw [if_pos h1]
   exact KGo.ask hp (by exact Ar.ar1 [_] [] 0xa5000610000308020 (Y1 J0 V0) (Y0 J2 V0) hN) (by exact Ar.ar2 [_,_] [] 0x8294001840200c2000065294001840400c20180610000508001 (Y1 (Y2 V0 J1) V1) (Y0 V0 V1) (Y8 (Y2 V0 V1) J0) a2 e) (fun _ => h n p a1 a2 hp a3) fun q => absurd (a3 0 (n - 1) (by exact Ar.ar1 [_] [] 0x65294001840300c20200610040508001 (Y1 J0 (Y2 V0 J1)) (Y1 J1 V0) h1) (by exact Ar.ar1 [_] [] 0x68214a000c203806100000014a000c20200610000508001 (Y1 (Y2 V0 J1) V0) (Y1 J1 V0) h1)) q
  ·rw [if_neg h1]
   obtain rfl : n = 1 := by exact Ar.ar2 [_] [] 0x6294001840300c20000a5000610080308000 (Y2 V0 J1) (Y0 J1 V0) (Y8 (Y1 J1 V0) J0) a1 h1
   have h10 := a4.resolve_left e
   have hs := hp.size
   refine KGo.bind (R := fun r => ∃ m, r = (p, m, 0) /\ 2 <= m /\ m <= N /\ Down key p m) (fun r b => ?_) (desc_go hp hk (N - 2) 2 (by decide) (by exact Ar.ar1 [_] [] 0x1a085294001840600c203806100400014a000c20200610000510001 (Y0 (Y0 J2 (Y2 V0 J2)) V0) (Y0 J2 V0) hN) (fun i j h1 h2 => ?_) fun m a b u => ⟨m, rfl, a, by exact Ar.ar2 [_,_] [] 0x1a085294a000c203006101c03081001840100005294001840400c20300610000510021 (Y0 V0 V1) (Y0 J2 V1) (Y0 V0 (Y0 J2 (Y2 V1 J2))) hN b, u⟩)
   ·obtain ⟨m, rfl, b2, b3, b4⟩ := b
    refine KGo.bind (R := fun k => m <= k /\ k <= N /\ Up key (kas_rev p 0 m) k) (fun k c => ?_) (asc_go (hp.rev 0 m) hk (N - m) m (by exact Ar.ar1 [_] [] 0xa5000610000308020 (Y0 J1 V0) (Y0 J2 V0) b2) (by exact Ar.ar1 [_,_] [] 0x1a085294001840600c203806100400014a000c20200610000500421 (Y0 (Y0 V0 (Y2 V1 V0)) V1) (Y0 V0 V1) b3) (b4.rev (by exact Ar.ar2 [_,_,_] [] 0x294a000c20000810040308040 (Y0 V0 V1) (Y2 V1 V2) (Y0 V0 V2) hs b3)) fun k a b u _ => ⟨a, by exact Ar.ar2 [_,_,_] [] 0x1a085294a000c203006101c03081001840100005294001840400c20300610000510421 (Y0 V0 V1) (Y0 V2 V1) (Y0 V0 (Y0 V2 (Y2 V1 V2))) b3 b, u⟩)
    exact h k _ (by exact Ar.ar2 [_,_] [] 0x294a000c20000610040308040 (Y0 J1 V0) (Y0 J2 V1) (Y0 V1 V0) b2 c.1) c.2.1 (hp.rev 0 m) c.2.2
   ·obtain rfl : i = 0 := by exact Ar.ar2 [_,_] [] 0x6294a000c201006100c03080002800308000 (Y2 V0 J0) (Y1 V0 V1) (Y1 V1 J2) h1 h2
    obtain rfl : j = 1 := by exact Ar.ar2 [_] [] 0x6294001840200c20000a50006100c0308000 (Y2 V0 J1) (Y1 V0 J2) (Y1 J0 V0) h2 h1
    exact h10
theorem place_go {R : Nat -> Prop} {k : Nat} (hkN : k < N) (hu : Up key p k) (h : ∀ m, m <= k -> (∀ i, i < m -> key (ge0 p i) < key (ge0 p k)) -> (∀ i, m <= i -> i < k -> key (ge0 p k) < key (ge0 p i)) -> R m) (f : Nat) :
  ∀ l r, r <= k -> l <= r -> r - l <= f -> (∀ i, i < l -> key (ge0 p i) < key (ge0 p k)) -> (∀ i, r <= i -> i < k -> key (ge0 p k) < key (ge0 p i)) -> KGo key N R (kas_place p k f l r) := by
 induction f with
 | zero =>
  intro l r h1 h2 h3 h4 h5
  obtain rfl : l = r := by exact Ar.ar2 [_,_] [] 0x6294001840200c2000065294001840600c20180610040500421 (Y2 V0 V1) (Y0 V0 V1) (Y0 (Y2 V1 V0) J0) h2 h3
  exact h l h1 h4 h5
 | succ f ih =>
  intro l r h1 h2 h3 h4 h5
  show KGo key N R (if l >= r then .ret l else .ask (ge0 p k) (ge0 p ((l + r) / 2)) fun c => if c = true then kas_place p k f l ((l + r) / 2) else kas_place p k f ((l + r) / 2 + 1) r)
  by_cases e : l >= r
  ·rw [if_pos e]
   obtain rfl : l = r := by exact Ar.ar2 [_,_] [] 0x6294001840200c20000a50006100c0308000 (Y2 V0 V1) (Y0 V0 V1) (Y0 V1 V0) h2 e
   exact h l h1 h4 h5
  ·rw [if_neg e]
   have hm : (l + r) / 2 < r /\ l <= (l + r) / 2 := by exact Ar.ar1 [_,_] [] 0x1865294001840400c4010061004061006108023294a000c202006200803080003080308401 (Y6 (Y1 (Y3 (Y0 V0 V1) J2) V1) (Y0 V0 (Y3 (Y0 V0 V1) J2))) (Y8 (Y0 V1 V0) J0) e
   generalize (l + r) / 2 = mid at hm
   have up : ∀ i j, i <= j -> j < k -> key (ge0 p i) <= key (ge0 p j) := fun i j hij hj => (Nat.eq_or_lt_of_le hij).elim (fun e => e ▸ Int.le_refl _) fun e => Int.le_of_lt (hu i j e hj)
   have mN : mid < N := by exact Ar.ar3 [_,_,_,_] [] 0xa5294001840000c20080610080308060 (Y1 V0 V1) (Y1 V2 V1) (Y0 V3 V2) (Y1 V0 V3) hkN h1 hm.1
   refine KGo.ask hp hkN mN (fun hl => ih l mid (by exact Ar.ar2 [_,_,_] [] 0x294a000c20000610040308040 (Y0 V0 V1) (Y0 V2 V1) (Y1 V0 V2) h1 hm.1) hm.2 (by exact Ar.ar2 [_,_,_,_] [] 0x68214a000c20300610040000ca5294a000c203806102003081201840300c20080a108c2508401 (Y0 (Y2 V0 V1) V2) (Y0 (Y2 V3 V1) (Y0 V2 J1)) (Y1 V0 V3) h3 hm.1) h4 fun i hi hik => Int.lt_of_lt_of_le hl (up mid i hi hik)) fun hl => ih (mid + 1) r h1 (by exact Ar.ar1 [_,_] [] 0xa5000610000308020 (Y0 (Y0 V0 J1) V1) (Y1 V0 V1) hm.1) (by exact Ar.ar2 [_,_,_,_] [] 0x3410a500061018030802000065294a50006101c03081001840900c2018061004051840128c2008401 (Y0 (Y2 V0 (Y0 V1 J1)) V2) (Y0 (Y2 V0 V3) (Y0 V2 J1)) (Y0 V3 V1) h3 hm.2) (fun i hi => Int.lt_of_le_of_lt (up i mid (Nat.le_of_lt_succ hi) (by exact Ar.ar2 [_,_,_] [] 0x294a000c20000610040308040 (Y1 V0 V1) (Y0 V2 V1) (Y1 V0 V2) h1 hm.1)) (hp.gt hk hkN mN (by exact Ar.ar2 [_,_,_] [] 0x10a528003080401840300c2000000 (Y8 (Y2 V0 V1) J0) (Y0 V2 V0) (Y1 V1 V2) h1 hm.1) hl)) h5
omit hp
theorem bin_go (f : Nat) : ∀ (k : Nat) (p : Array Nat), zcw N p -> k + f = N -> Up key p k -> KGo key N (fun p => zcw N p /\ Up key p N) (kas_bin f p k) := by
 induction f with
 | zero =>
  intro k p hp hf hu
  obtain rfl : k = N := hf
  exact ⟨hp, hu⟩
 | succ f ih =>
  intro k p hp hf hu
  have kN : k < N := by exact Ar.ar1 [_,_,_] [] 0xa5000610000308020 (Y1 V0 V1) (Y2 (Y0 V0 (Y0 V2 J1)) V1) hf
  refine KGo.bind (R := fun m => m <= k /\ (∀ i, i < m -> key (ge0 p i) < key (ge0 p k)) /\ ∀ i, m <= i -> i < k -> key (ge0 p k) < key (ge0 p i)) (fun m a => ih (k + 1) _ (hp.bub _ _) (by exact Ar.ar1 [_,_,_] [] 0x6294001840200c20000a5000810080308000 (Y2 (Y0 (Y0 V0 J1) V1) V2) (Y2 (Y0 V0 (Y0 V1 J1)) V2) hf) ?_) (place_go hp hk kN hu (fun m a b c => ⟨a, b, c⟩) k 0 k (zad _) (za0 _) (Nat.sub_le _ _) (fun i hi => absurd hi (Nat.not_lt_zero _)) fun i h1 h2 => absurd h2 (Nat.not_lt.mpr h1))
  obtain ⟨a2, a3, a4⟩ := a
  have hs := hp.size
  have at' : ∀ x, ge0 (bubble p k (k - m)) x = if x = m then ge0 p k else if m < x /\ x <= k then ge0 p (x - 1) else ge0 p x := by
   intro x
   rw [zda, zda, zda, zda, getElem?_bubble (by exact Ar.ar2 [_,_,_] [] 0x294a000c20000610040408040 (Y1 V0 V1) (Y1 V0 V2) (Y2 V1 V2) kN hs) _ (by exact Ar.ar0 [_,_] [] 0x194a000c20180610000508401 (Y0 (Y2 V0 V1) V0)), show k - (k - m) = m by exact Ar.ar1 [_,_] [] 0x30d04294001840600c2008000194a50006101c03080601840101421004a50840100468190a5294001840b00c204806100c0308020180a50840100465294001840700c201806100405284200802508401 (Y2 (Y2 V0 (Y2 V0 V1)) V1) (Y0 V1 V0) a2]
   repeat' split
   all_goals rfl
  intro i j hij hj
  rw [at', at']
  by_cases e1 : j = m
  ·rw [if_pos e1, if_neg (by exact Ar.ar2 [_,_,_] [] 0x10a52800308040184030102000000 (Y8 (Y2 V0 V1) J0) (Y1 V0 V2) (Y2 V2 V1) hij e1), if_neg (by exact Ar.ar2 [_,_,_,_] [] 0x84294a000c2020061014030800000000 (Y8 (Y6 (Y1 V0 V1) (Y0 V1 V2)) J0) (Y1 V1 V3) (Y2 V3 V0) hij e1)]
   exact a3 i (by exact Ar.ar2 [_,_,_] [] 0x294a000c20000610040308040 (Y1 V0 V1) (Y1 V0 V2) (Y2 V2 V1) hij e1)
  ·rw [if_neg e1]
   by_cases e2 : i = m
   ·rw [if_pos e2, if_pos (by exact Ar.ar3 [_,_,_,_] [] 0x18a50006100c0308000294a000c20100810100308000 (Y6 (Y1 V0 V1) (Y0 V1 V2)) (Y1 V3 V1) (Y1 V1 (Y0 V2 J1)) (Y2 V3 V0) hij hj e2)]
    exact a4 (j - 1) (by exact Ar.ar2 [_,_,_] [] 0x194a528003080601840401020280610040508021 (Y0 V0 (Y2 V1 J1)) (Y1 V2 V1) (Y2 V2 V0) hij e2) (by exact Ar.ar2 [_,_,_] [] 0x1a085294a000c203006101c03081001840100005294001840400c20300610000508001 (Y1 (Y2 V0 J1) V1) (Y1 V2 V0) (Y1 V0 (Y0 V1 J1)) hij hj)
   ·rw [if_neg e2]
    by_cases e3 : m < i
    ·rw [if_pos ⟨e3, by exact Ar.ar2 [_,_,_] [] 0x294a000c20000610040308040 (Y0 V0 V1) (Y1 V0 V2) (Y1 V2 (Y0 V1 J1)) hij hj⟩, if_pos ⟨by exact Ar.ar2 [_,_,_] [] 0x294a000c20000610040308040 (Y1 V0 V1) (Y1 V2 V1) (Y1 V0 V2) hij e3, by exact Ar.ar1 [_,_] [] 0xa5000610000308020 (Y0 V0 V1) (Y1 V0 (Y0 V1 J1)) hj⟩]
     exact hu _ _ (by exact Ar.ar2 [_,_,_] [] 0x1a064294a528003081201840a00c205806100c0308020180a100423294a50006101c03081001840300c20080a10042508001 (Y1 (Y2 V0 J1) (Y2 V1 J1)) (Y1 V0 V1) (Y1 V2 V0) hij e3) (by exact Ar.ar2 [_,_,_] [] 0x1a085294a000c203006101c03081001840100005294001840400c20300610000508001 (Y1 (Y2 V0 J1) V1) (Y1 V2 V0) (Y1 V0 (Y0 V1 J1)) hij hj)
    ·rw [if_neg (by exact Ar.ar1 [_,_,_] [] 0x210a500061010030800000000 (Y8 (Y6 (Y1 V0 V1) (Y0 V1 V2)) J0) (Y8 (Y1 V0 V1) J0) e3)]
     by_cases e4 : m < j
     ·rw [if_pos ⟨e4, by exact Ar.ar1 [_,_] [] 0xa5000610000308020 (Y0 V0 V1) (Y1 V0 (Y0 V1 J1)) hj⟩]
      exact Int.lt_trans (a3 i (by exact Ar.ar2 [_,_] [] 0x7294001840300c20000a5000610040308000 (Y1 V0 V1) (Y8 (Y2 V0 V1) J0) (Y8 (Y1 V1 V0) J0) e2 e3)) (a4 (j - 1) (by exact Ar.ar1 [_,_] [] 0x65294001840300c20200610040508021 (Y0 V0 (Y2 V1 J1)) (Y1 V0 V1) e4) (by exact Ar.ar2 [_,_,_] [] 0x1a085294a000c203006101c03081001840100005294001840400c20280610000508001 (Y1 (Y2 V0 J1) V1) (Y1 V0 (Y0 V1 J1)) (Y1 V2 V0) hj e4))
     ·rw [if_neg (by exact Ar.ar1 [_,_,_] [] 0x210a500061010030800000000 (Y8 (Y6 (Y1 V0 V1) (Y0 V1 V2)) J0) (Y8 (Y1 V0 V1) J0) e4)]
      exact hu _ _ hij (by exact Ar.ar3 [_,_,_] [] 0x20a5000610100308000294a000c20080610080308000 (Y1 V0 V1) (Y0 V2 V1) (Y8 (Y2 V0 V2) J0) (Y8 (Y1 V2 V0) J0) a2 e1 e4)
theorem sort_go (hN : 2 <= N) : KGo key N (fun p => zcw N p /\ Up key p N) (kas_sort N) := by
 have hp : zcw N (List.toArray (List.range N)) := List.Perm.refl _
 refine KGo.bind (R := fun r => 1 <= r.1 /\ r.1 <= N /\ zcw N r.2 /\ Up key r.2 r.1) (fun r a => ?_) (count_go hp hk hN fun m p' a b c d => ⟨a, b, c, d⟩)
 obtain ⟨a1, a2, a3, a4⟩ := a
 by_cases h : r.1 < N
 ·rw [if_pos h, Nat.max_eq_left a1]
  exact bin_go hk (N - r.1) r.1 r.2 a3 (Nat.add_sub_cancel' a2) a4
 ·rw [if_neg h]
  have e : r.1 = N := Nat.le_antisymm a2 (Nat.not_lt.mp h)
  rw [e] at a4
  exact ⟨a3, a4⟩
end
end
section
variable {prog : Program} {w : World} {A : Around} {E : Value -> Shared -> Prop} {s : Shared} {κ : SortKind} {vs : List Value} {key : Nat -> Int}
noncomputable def zo5 (prog : Program) (w : World) (A : Around) (s : Shared) (κ : SortKind) (vs : List Value) (key : Nat -> Int) (N : Nat) : Prop :=
 ∀ i j, i < N -> j < N -> ∀ (Q : Bool -> Shared -> Prop) (E : Value -> Shared -> Prop), Q (ltK key i j) s -> wpAny (model prog w) A (keyLt' κ (vs.getD i Value.none) (vs.getD j Value.none)) Q E s
inductive Sorts (s : Shared) (vs : List Value) (key : Nat -> Int) (st : SortSt) (s' : Shared) : Prop
 | mk (e : s' = s) (p : Array Nat) (hp : zcw vs.length p) (hu : Up key p vs.length) (ha : (arrOf st).map (·.2) = (p.toList.map fun i => vs.getD i Value.none).toArray) (hf : failedOf st = none) : Sorts s vs key st s'
theorem runs_ok (hc : zo5 prog w A s κ vs key vs.length) (hk : ∀ i j, i < vs.length -> j < vs.length -> key i = key j -> i = j) (h2 : 2 <= vs.length) (h64 : vs.length < 64) :
  wpAny (model prog w) A (sortRuns'.run (SortSt.mk' κ (vs.toArray.zip vs.toArray) #[] 7 none)) (fun r s' => Sorts s vs key r.2 s') E s :=
 kat_run (ks := vs) (G := fun p s' => s' = s /\ zcw vs.length p /\ Up key p vs.length) rfl h2 h64 (fun p _ _ _ ha hf g => ⟨g.1, p, g.2.1, g.2.2, kat_snds rfl ha, hf⟩)
  (KGo.wp (fun i j C hi hj h => hc i j hi hj C _ h) (fun p a => ⟨rfl, a.1, a.2⟩) _ (sort_go hk h2))
end
end Bn
namespace Bn
open PySem
inductive V where
 | none
 | bool (b : Bool)
 | int (i : Int)
 | str (s : Str)
 | tup (l : List V)
 | lst (a : Nat)
 | scr (l : List Int)
 | dict0 (a : Nat)
 | rng (lo hi st : Int)
 | exc (c : Str) (x : V)
 deriving Inhabited
abbrev Hp := List (List V)
abbrev Loc := List (Option V)
inductive LV {α : Type} : List α -> Prop
 | zero : LV []
 | one (a : α) : LV [a]
 | two (a b : α) : LV [a, b]
 | three (a b c : α) : LV [a, b, c]
 | more (a b c d : α) (l : List α) : LV (a :: b :: c :: d :: l)
theorem LV.of {α : Type} (l : List α) : LV l := by
 cases l with
 | nil => exact .zero
 | cons a l => cases l with
  | nil => exact .one a
  | cons b l => cases l with
   | nil => exact .two a b
   | cons c l => cases l with
    | nil => exact .three a b c
    | cons d l => exact .more a b c d l
noncomputable def zq1 : List Int -> List Value -> Prop
 | [], [] => True
 | i :: is, r :: rs => (∃ t, r = .int i t) /\ zq1 is rs
 | _, _ => False
structure Cx where
 prog : Program
 w : World
 h0 : Heap
 g : Str -> Option Value
 b : Str -> Option Value
 lam : Nat -> FuncData -> Str -> Prop
 tabs : List (Addr × (Nat × Nat) × Str)
abbrev tabO (ps : Array Value) : Obj := { cls := .none, data := .fields ps }
inductive CodeO (h : Heap) (cc : Addr) (q : Str) : Prop
 | mk (o : Obj) (vs : Array Value) (t : Tok) (h1 : h.get? cc = some o) (h2 : o.cls = .type "code") (h3 : o.data = .fields vs) (h4 : vs[1]? = some (.str q t)) : CodeO h cc q
inductive TabSt (h : Heap) (x : Addr × (Nat × Nat) × Str) : Prop
 | no (h1 : h.get? x.1 = some (tabO #[])) : TabSt h x
 | yes (cc : Addr) (h1 : h.get? x.1 = some (tabO #[rawInt x.2.1.1, rawInt x.2.1.2, .ref cc])) (h2 : CodeO h cc x.2.2) : TabSt h x
theorem CodeO.mono {h h' : Heap} {cc : Addr} {q : Str} (hk : ∀ b o, h.get? b = some o -> o.cls = .type "code" -> h'.get? b = some o) : CodeO h cc q -> CodeO h' cc q
 | .mk o vs t h1 h2 h3 h4 => .mk o vs t (hk _ _ h1 h2) h2 h3 h4
theorem TabSt.mono {h h' : Heap} {x : Addr × (Nat × Nat) × Str} (hn : ∀ b ps, h.get? b = some (tabO ps) -> h'.get? b = some (tabO ps)) (hk : ∀ b o, h.get? b = some o -> o.cls = .type "code" -> h'.get? b = some o) : TabSt h x -> TabSt h' x
 | .no h1 => .no (hn _ _ h1)
 | .yes cc h1 h2 => .yes cc (hn _ _ h1) (h2.mono hk)
inductive TupAt (φ : List Addr) (h : Heap) (r : Value) (k : Nat) (P : List Value -> Prop) : Prop
 | mk (a : Addr) (o : Obj) (vs : Array Value) (n : Nat) (hr : r = .ref a) (ha : a ∉ φ) (ho : h.get? a = some o) (hc : o.cls = .type "tuple") (hd : o.data = .seq vs n) (hz : k <= sizeLine) (hl : P vs.toList) : TupAt φ h r k P
inductive LstAt (φ : List Addr) (i : Nat) (r : Value) : Prop
 | mk (a : Addr) (hr : r = .ref a) (ha : φ[i]? = some a) : LstAt φ i r
inductive ScrAt (c : Cx) (φ : List Addr) (h : Heap) (l : List Int) (r : Value) : Prop
 | mk (a : Addr) (o : Obj) (vs : Array Value) (n : Nat) (hr : r = .ref a) (ha : a ∉ φ) (h0 : c.h0.get? a = some o) (ho : h.get? a = some o) (hc : o.cls = .type "list") (hd : o.data = .seq vs n) (hz : l.length <= sizeLine) (hl : zq1 l vs.toList) : ScrAt c φ h l r
noncomputable def keyS : Value -> Str
 | .str n _ => n
 | _ => ⟨#[]⟩
noncomputable def zm4 (es : Array DictEntry) : Prop := StrKeys es /\ (es.toList.map fun e => keyS e.key).Nodup
inductive DKo (o o' : Obj) : Prop
 | mk (h : o'.cls = o.cls) (g : ∀ es n es' n', o.data = .dict es n -> o'.data = .dict es' n' -> zm4 es -> zm4 es') : DKo o o'
theorem DKo.same {o o' : Obj} (h : o'.cls = o.cls) (hd : o'.data = o.data) : DKo o o' := .mk h fun es n es' n' h1 h2 g => by rw [hd, h1] at h2; cases h2; exact g
theorem DKo.rfl {o : Obj} : DKo o o := .same (Eq.refl _) (Eq.refl _)
theorem DKo.cls {o o' : Obj} (h : DKo o o') : o'.cls = o.cls := let ⟨h, _⟩ := h; h
theorem DKo.trans {o o₁ o₂ : Obj} {es : Array DictEntry} {n : Nat} (f : DKo o₁ o₂) (e : DKo o o₁) (d : o₁.data = .dict es n) : DKo o o₂ := let ⟨h, g⟩ := f; let ⟨h', g'⟩ := e; .mk (h.trans h') fun _ _ _ _ h1 h2 q => g _ _ _ _ d h2 (g' _ _ _ _ h1 d q)
inductive DictAt (φ : List Addr) (h : Heap) (a : Addr) (r : Value) : Prop
 | mk (o : Obj) (es : Array DictEntry) (n : Nat) (hr : r = .ref a) (ha : a ∉ φ) (ho : h.get? a = some o) (hc : o.cls = .type "dict") (hd : o.data = .dict es n) (hg : zm4 es /\ sysModules < a) : DictAt φ h a r
inductive RngAt (φ : List Addr) (h : Heap) (lo hi st : Int) (r : Value) : Prop
 | mk (a : Addr) (t u v : Tok) (hr : r = .ref a) (ha : a ∉ φ) (ho : IsRange h a lo hi st t u v) (hb : lo.natAbs < 2 ^ 31 /\ hi.natAbs < 2 ^ 31 /\ 0 < st /\ st < 2 ^ 31) : RngAt φ h lo hi st r
inductive AtAt (φ : List Addr) (h : Heap) (o : Obj) (P : Value -> Prop) : Prop
 | mk (d : Addr) (od : Obj) (es : Array DictEntry) (n : Nat) (ra : Value) (h1 : o.dict = some d) (h2 : d ∉ φ) (h3 : h.get? d = some od) (h4 : od.cls = .type "dict") (h5 : od.data = .dict es n) (h6 : nsFind es (Str.ofString "at") = some ra) (h7 : P ra) : AtAt φ h o P
inductive ExcAt (c : Cx) (φ : List Addr) (h : Heap) (cn : Str) (r : Value) (P : Value -> Prop) : Prop
 | mk (a : Addr) (o : Obj) (vs : Array Value) (hr : r = .ref a) (ha : a ∉ φ) (h0 : c.h0.get? a = none) (ho : h.get? a = some o) (hC : ∃ C, o.cls = .ref C) (hg : c.g cn = some o.cls) (hd : o.data = .fields vs) (hn : cn = Str.ofString "BadNet" -> AtAt φ h o P) : ExcAt c φ h cn r P
mutual
noncomputable def Rep (c : Cx) (φ : List Addr) (h : Heap) : V -> Value -> Prop
 | .none, r => r = .none
 | .bool b, r => r = .bool b
 | .int i, r => ∃ t, r = .int i t
 | .str s, r => ∃ t, r = .str s t
 | .tup l, r => TupAt φ h r l.length (fun vs => RepL c φ h l vs)
 | .lst i, r => LstAt φ i r
 | .scr l, r => ScrAt c φ h l r
 | .dict0 a, r => DictAt φ h a r
 | .rng lo hi st, r => RngAt φ h lo hi st r
 | .exc cn x, r => ExcAt c φ h cn r (fun ra => Rep c φ h x ra)
noncomputable def RepL (c : Cx) (φ : List Addr) (h : Heap) : List V -> List Value -> Prop
 | [], rs => rs = []
 | x :: xs, rs => match rs with
  | [] => False
  | r :: rs => Rep c φ h x r /\ RepL c φ h xs rs
end
inductive ListAt (c : Cx) (φ : List Addr) (h : Heap) (i : Nat) (xs : List V) : Prop
 | mk (a : Addr) (o : Obj) (vs : Array Value) (n : Nat) (h1 : φ[i]? = some a) (h2 : h.get? a = some o) (h3 : o.cls = .type "list") (h4 : o.data = .seq vs n) (h5 : RepL c φ h xs vs.toList) (h6 : xs.length <= sizeLine /\ o.dict = none /\ o.slots = #[]) : ListAt c φ h i xs
structure Sim (c : Cx) (φ : List Addr) (H : Hp) (s : Shared) : Prop where
 stays : ∀ b o, c.h0.get? b = some o -> s.heap.get? b = some o
 fresh : ∀ a ∈ φ, c.h0.get? a = none
 nodup : φ.Nodup
 len : φ.length = H.length
 lists : ∀ (i : Nat) xs, H[i]? = some xs -> ListAt c φ s.heap i xs
 gens : s.gens = #[]
 tab : ∀ x ∈ c.tabs, TabSt s.heap x
theorem rI {c : Cx} {φ : List Addr} {h : Heap} {i : Int} {t : Tok} : Rep c φ h (.int i) (.int i t) := ⟨t, rfl⟩
theorem rS {c : Cx} {φ : List Addr} {h : Heap} {i : Str} {t : Tok} : Rep c φ h (.str i) (.str i t) := ⟨t, rfl⟩
theorem rB {c : Cx} {φ : List Addr} {h : Heap} {b : Bool} : Rep c φ h (.bool b) (.bool b) := rfl
theorem rN {c : Cx} {φ : List Addr} {h : Heap} : Rep c φ h .none .none := rfl
theorem rL {c : Cx} {φ : List Addr} {h : Heap} : RepL c φ h [] [] := rfl
noncomputable def fix : Value -> Bool
 | .type t => t != "frame"
 | .none => false
 | _ => true
theorem fix_ne {v : Value} (h1 : v ≠ .type "frame") (h2 : v ≠ .none) : fix v = true := by
 cases v with
 | type t => exact bne_iff_ne.mpr fun e => h1 (by rw [e])
 | none => exact absurd rfl h2
 | _ => rfl
theorem fix_no {v : Value} (h : fix v = true) : v ≠ .type "frame" := fun e => by rw [e] at h; exact nomatch h
structure Kp (X φ : List Addr) (h : Heap) (φ' : List Addr) (h' : Heap) : Prop where
 pre : φ <+: φ'
 keep : ∀ b o, h.get? b = some o -> b ∉ φ -> b ∉ X -> fix o.cls = true -> h'.get? b = some o
 new : ∀ a ∈ φ', a ∈ φ \/ h.get? a = none
 dict : ∀ b o es n, h.get? b = some o -> b ∉ φ -> o.data = .dict es n -> ∃ o' es' n', h'.get? b = some o' /\ o'.data = .dict es' n' /\ DKo o o'
 exc : ∀ b o vs C, h.get? b = some o -> b ∉ φ -> o.cls = .ref C -> o.data = .fields vs -> ∃ vs', h'.get? b = some { o with data := .fields vs' }
structure Ext (X φ : List Addr) (s : Shared) (φ' : List Addr) (s' : Shared) : Prop extends Kp X φ s.heap φ' s'.heap where
 frame : ∀ b o, s.heap.get? b = some o -> b ∉ φ -> b ∉ X -> o.cls ≠ .none -> ∃ sl, s'.heap.get? b = some { o with slots := sl }
 alive : ∀ b o, s.heap.get? b = some o -> b ∈ X -> ∃ o', s'.heap.get? b = some o'
 tabs : ∀ b o, s.heap.get? b = some o -> b ∉ φ -> b ∉ X -> o.cls = .none -> ∃ o', s'.heap.get? b = some o' /\ o'.cls = .none
 os : s'.os = s.os
theorem Kp.notin {X φ φ' : List Addr} {h h' : Heap} (e : Kp X φ h φ' h') {b : Addr} {o : Obj} (hb : h.get? b = some o) (hn : b ∉ φ) : b ∉ φ' := fun hm =>
 (e.new b hm).elim hn fun hle => by rw [hle] at hb; cases hb
theorem Ext.refl {X φ} {s : Shared} : Ext X φ s φ s where
 pre := List.prefix_rfl
 keep := fun _ _ h _ _ _ => h
 new := fun _ h => .inl h
 frame := fun _ o h _ _ _ => ⟨o.slots, h⟩
 dict := fun _ o es n h _ hd => ⟨o, es, n, h, hd, .rfl⟩
 exc := fun _ o vs _ h _ _ hd => ⟨vs, by rw [<- hd]; exact h⟩
 alive := fun _ o h _ => ⟨o, h⟩
 tabs := fun _ o h _ _ hc => ⟨o, h, hc⟩
 os := rfl
theorem Ext.live {X φ φ' : List Addr} {s s' : Shared} (e : Ext X φ s φ' s') (b : Addr) (o : Obj) (h : s.heap.get? b = some o) (hφ : b ∉ φ) (hX : b ∉ X) : ∃ o', s'.heap.get? b = some o' :=
 (Classical.em (o.cls = .none)).elim (fun hc => let ⟨o', h', _⟩ := e.tabs b o h hφ hX hc; ⟨o', h'⟩) fun hc => let ⟨_, h'⟩ := e.frame b o h hφ hX hc; ⟨_, h'⟩
theorem Ext.trans {X φ φ₁ φ₂ : List Addr} {s s₁ s₂ : Shared} (e : Ext X φ s φ₁ s₁) (f : Ext X φ₁ s₁ φ₂ s₂) : Ext X φ s φ₂ s₂ where
 pre := e.pre.trans f.pre
 keep b o h hφ hX hc := f.keep b o (e.keep b o h hφ hX hc) (e.notin h hφ) hX hc
 frame b o h hφ hX hc := by
  obtain ⟨sl, h₁⟩ := e.frame b o h hφ hX hc
  obtain ⟨sl', h₂⟩ := f.frame b _ h₁ (e.notin h hφ) hX hc
  exact ⟨sl', h₂⟩
 tabs b o h hφ hX hc := by
  obtain ⟨o₁, h₁, c₁⟩ := e.tabs b o h hφ hX hc
  exact f.tabs b o₁ h₁ (e.notin h hφ) hX c₁
 dict b o es n h hφ hd := by
  obtain ⟨o₁, es₁, n₁, h₁, d₁, c₁⟩ := e.dict b o es n h hφ hd
  obtain ⟨o₂, es₂, n₂, h₂, d₂, c₂⟩ := f.dict b o₁ es₁ n₁ h₁ (e.notin h hφ) d₁
  exact ⟨o₂, es₂, n₂, h₂, d₂, c₂.trans c₁ d₁⟩
 exc b o vs C h hφ hc hd := by
  obtain ⟨vs₁, h₁⟩ := e.exc b o vs C h hφ hc hd
  obtain ⟨vs₂, h₂⟩ := f.exc b _ vs₁ C h₁ (e.notin h hφ) hc rfl
  exact ⟨vs₂, h₂⟩
 new a ha := (f.new a ha).elim (fun h => e.new a h) fun h => by
  cases ho : s.heap.get? a with
  | none => exact .inr rfl
  | some o =>
   by_cases hφ : a ∈ φ
   ·exact .inl hφ
   ·by_cases hX : a ∈ X
    ·obtain ⟨o', h'⟩ := e.alive a o ho hX
     rw [h] at h'; cases h'
    ·obtain ⟨o', h'⟩ := e.live a o ho hφ hX
     rw [h] at h'; cases h'
 alive b o h hX := by
  obtain ⟨o', h'⟩ := e.alive b o h hX
  exact f.alive b o' h' hX
 os := f.os.trans e.os
theorem Ext.weaken {X Y φ φ' : List Addr} {s s' : Shared} (e : Ext X φ s φ' s') (h : ∀ b ∈ X, b ∈ Y) (hY : ∀ b ∈ Y, b ∉ φ) : Ext Y φ s φ' s' where
 pre := e.pre
 keep b o hb hφ hY hc := e.keep b o hb hφ (fun hx => hY (h b hx)) hc
 new := e.new
 frame b o hb hφ hY hc := e.frame b o hb hφ (fun hx => hY (h b hx)) hc
 tabs b o hb hφ hY hc := e.tabs b o hb hφ (fun hx => hY (h b hx)) hc
 dict := e.dict
 exc := e.exc
 alive b o hb hm := by
  by_cases hX : b ∈ X
  ·exact e.alive b o hb hX
  ·exact e.live b o hb (hY b hm) hX
 os := e.os
theorem Ext.drop {X φ φ' : List Addr} {s s' : Shared} (e : Ext X φ s φ' s') (h : ∀ b ∈ X, s.heap.get? b = none) : Ext [] φ s φ' s' where
 pre := e.pre
 keep b o hb hφ _ hc := e.keep b o hb hφ (fun hx => by rw [h b hx] at hb; cases hb) hc
 new := e.new
 frame b o hb hφ _ hc := e.frame b o hb hφ (fun hx => by rw [h b hx] at hb; cases hb) hc
 tabs b o hb hφ _ hc := e.tabs b o hb hφ (fun hx => by rw [h b hx] at hb; cases hb) hc
 dict := e.dict
 exc := e.exc
 alive _ _ _ hx := nomatch hx
 os := e.os
theorem Ext.of_heap {X φ : List Addr} {s s' : Shared} (hh : s'.heap = s.heap) (ho : s'.os = s.os) : Ext X φ s φ s' where
 pre := List.prefix_rfl
 keep _ _ h _ _ _ := by rw [hh]; exact h
 new _ h := .inl h
 frame _ o h _ _ _ := ⟨o.slots, by rw [hh]; exact h⟩
 tabs _ o h _ _ hc := ⟨o, by rw [hh]; exact h, hc⟩
 dict _ o es n h _ hd := ⟨o, es, n, by rw [hh]; exact h, hd, .rfl⟩
 exc _ o vs _ h _ _ hd := ⟨vs, by rw [hh, <- hd]; exact h⟩
 alive _ o h _ := ⟨o, by rw [hh]; exact h⟩
 os := ho
theorem Ext.of_sameBut {X φ : List Addr} {s s' : Shared} {a : Addr} (hs : Heap.SameBut a s.heap s'.heap) (ha : a ∈ φ) (hX : a ∉ X) (ho : s'.os = s.os) : Ext X φ s φ s' where
 pre := List.prefix_rfl
 keep b o h hφ _ _ := (hs.2 b fun e => hφ (e ▸ ha)).trans h
 new _ h := .inl h
 frame b o h hφ _ _ := ⟨o.slots, (hs.2 b fun e => hφ (e ▸ ha)).trans h⟩
 tabs b o h hφ _ hc := ⟨o, (hs.2 b fun e => hφ (e ▸ ha)).trans h, hc⟩
 dict b o es n h hφ hd := ⟨o, es, n, (hs.2 b fun e => hφ (e ▸ ha)).trans h, hd, .rfl⟩
 exc b o vs _ h hφ _ hd := ⟨vs, by rw [<- hd]; exact (hs.2 b fun e => hφ (e ▸ ha)).trans h⟩
 alive b o h hb := ⟨o, (hs.2 b fun e => hX (e ▸ hb)).trans h⟩
 os := ho
theorem Ext.of_keeps {X φ : List Addr} {s s' : Shared} (hk : ∀ b o, s.heap.get? b = some o -> s'.heap.get? b = some o) (ho : s'.os = s.os) : Ext X φ s φ s' where
 pre := List.prefix_rfl
 keep b o h _ _ _ := hk b o h
 new _ h := .inl h
 frame b o h _ _ _ := ⟨o.slots, hk b o h⟩
 tabs b o h _ _ hc := ⟨o, hk b o h, hc⟩
 dict b o es n h _ hd := ⟨o, es, n, hk b o h, hd, .rfl⟩
 exc b o vs _ h _ _ hd := ⟨vs, by rw [<- hd]; exact hk b o h⟩
 alive b o h _ := ⟨o, hk b o h⟩
 os := ho
theorem Ext.of_own {X φ : List Addr} {s s' : Shared} {a : Addr} (hs : Heap.SameBut a s.heap s'.heap) (ha : a ∈ X) (hd : ∀ o es n, s.heap.get? a = some o -> o.data = .dict es n -> ∃ o' es' n', s'.heap.get? a = some o' /\ o'.data = .dict es' n' /\ DKo o o')
  (hal : ∃ o', s'.heap.get? a = some o') (ho : s'.os = s.os) (hf : ∀ o vs, s.heap.get? a = some o -> o.data ≠ .fields vs) : Ext X φ s φ s' where
 pre := List.prefix_rfl
 keep b o h _ hX _ := (hs.2 b fun e => hX (e ▸ ha)).trans h
 new _ h := .inl h
 frame b o h _ hX _ := ⟨o.slots, (hs.2 b fun e => hX (e ▸ ha)).trans h⟩
 tabs b o h _ hX hc := ⟨o, (hs.2 b fun e => hX (e ▸ ha)).trans h, hc⟩
 dict b o es n h _ hdd := by
  by_cases e : b = a
  ·subst e; exact hd o es n h hdd
  ·exact ⟨o, es, n, (hs.2 b e).trans h, hdd, .rfl⟩
 exc b o vs _ h _ _ hdd := by
  by_cases e : b = a
  ·subst e; exact absurd hdd (hf o vs h)
  ·exact ⟨vs, by rw [<- hdd]; exact (hs.2 b e).trans h⟩
 alive b o h _ := by
  by_cases e : b = a
  ·subst e; exact hal
  ·exact ⟨o, (hs.2 b e).trans h⟩
 os := ho
noncomputable def hid : Value -> Bool
 | .type t => ["frame", "cell", "traceback", "list_iterator", "tuple_iterator", "range_iterator", "longrange_iterator", "str_iterator", "str_ascii_iterator", "enumerate", "zip", "list_reverseiterator"].contains t
 | .none => true
 | _ => false
theorem fix_of {v : Value} (h : hid v = false) : fix v = true := by
 cases v with
 | type t => exact bne_iff_ne.mpr fun e => by rw [e] at h; exact nomatch h
 | none => exact nomatch h
 | _ => rfl
noncomputable def own (c : Cx) (b : Addr) (o : Obj) : Prop :=
 hid o.cls = true \/ (o.cls = .type "list" /\ c.h0.get? b = none) \/ (o.cls = .type "dict" /\ ∃ es n, o.data = .dict es n /\ nsFind es (Str.ofString "at") = none) \/ (∃ C, o.cls = .ref C)
noncomputable def plainT (T : String) : Bool := !hid (.type T) && T != "list" && T != "dict"
theorem zki {c : Cx} {b : Addr} {o : Obj} {T : String} (h0 : o.cls = .type T) (h1 : plainT T = true) : ¬ own c b o := fun h => by
 simp only [plainT, zbp, Bool.not_eq_true', bne_iff_ne] at h1
 rcases h with h | h | h | ⟨C, h⟩
 ·rw [h0, h1.1.1] at h; cases h
 ·rw [h0] at h; injection h.1 with h; exact h1.1.2 h
 ·rw [h0] at h; injection h.1 with h; exact h1.2 h
 ·rw [h0] at h; cases h
noncomputable def OwnX (c : Cx) (X : List Addr) (h : Heap) : Prop := ∀ b ∈ X, ∀ o, h.get? b = some o -> own c b o
theorem OwnX.nil {c : Cx} {h : Heap} : OwnX c [] h := fun _ hb => nomatch hb
theorem zdw {α : Type} {l l' : List α} (h : l <+: l') {i : Nat} {a : α} (e : l[i]? = some a) : l'[i]? = some a := by
 obtain ⟨t, rfl⟩ := h
 rw [zbi (zbj.mp e).1]; exact e
section
variable {c : Cx} {X φ φ' : List Addr} {s s' : Shared}
theorem znp {h h' : Heap} (e : Kp X φ h φ' h') (hX : OwnX c X h) {a : Addr} {o : Obj} (ho : h.get? a = some o) (ha : a ∉ φ) (hc : ¬ own c a o) : h'.get? a = some o :=
 e.keep a o ho ha (fun hx => hc (hX a hx o ho)) (fix_of (Bool.eq_false_iff.mpr fun q => hc (.inl q)))
theorem own_ref {c : Cx} {b : Addr} {o o' : Obj} (h0 : c.h0.get? b = some o') (hc : o.cls = .type "list") : ¬ own c b o := fun q => by
 rcases q with q | q | q | ⟨C, q⟩
 ·rw [hc] at q; revert q; decide
 ·rw [h0] at q; cases q.2
 ·rw [hc] at q; exact absurd q.1 (by decide)
 ·rw [hc] at q; cases q
theorem own_at {c : Cx} {b : Addr} {od : Obj} {es : Array DictEntry} {n : Nat} {ra : Value} (h4 : od.cls = .type "dict") (h5 : od.data = .dict es n) (h6 : nsFind es (Str.ofString "at") = some ra) : ¬ own c b od := fun q => by
 rcases q with q | q | ⟨_, es', n', q, q''⟩ | ⟨C', q⟩
 ·rw [h4] at q; revert q; decide
 ·rw [h4] at q; exact absurd q.1 (by decide)
 ·rw [h5] at q; cases q; rw [h6] at q''; cases q''
 ·rw [h4] at q; cases q
mutual
theorem Rep.mono {h h' : Heap} (e : Kp X φ h φ' h') (hX : OwnX c X h) : ∀ {v : V} {r : Value}, Rep c φ h v r -> Rep c φ' h' v r
 | .none, _, h => h
 | .bool _, _, h => h
 | .int _, _, h => h
 | .str _, _, h => h
 | .tup l, r, .mk a o vs n hr ha ho hc hd hz hl => TupAt.mk a o vs n hr (e.notin ho ha) (znp e hX ho ha (zki hc rfl)) hc hd hz (RepL.mono e hX hl)
 | .lst i, r, .mk a hr ha => LstAt.mk a hr (zdw e.pre ha)
 | .scr l, r, .mk a o vs n hr ha h0 ho hc hd hz hl => ScrAt.mk a o vs n hr (e.notin ho ha) h0 (znp e hX ho ha (own_ref h0 hc)) hc hd hz hl
 | .dict0 a, r, .mk o es n hr ha ho hc hd hg =>
  let ⟨o', es', n', h1, h2, h3, h4⟩ := e.dict a o es n ho ha hd
  DictAt.mk o' es' n' hr (e.notin ho ha) h1 (h3.trans hc) h2 ⟨h4 _ _ _ _ hd h2 hg.1, hg.2⟩
 | .rng lo hi st, r, .mk a t u v hr ha ho hb => RngAt.mk a t u v hr (e.notin ho ha) (znp e hX ho ha (zki (T := "range") rfl rfl)) hb
 | .exc cn x, r, .mk a o vs hr ha h0 ho ⟨C, hC⟩ hg hd hn =>
  let ⟨vs', ho'⟩ := e.exc a o vs C ho ha hC hd
  ExcAt.mk a _ vs' hr (e.notin ho ha) h0 ho' ⟨C, hC⟩ hg rfl fun q =>
   let ⟨d, od, es, n, ra, h1, h2, h3, h4, h5, h6, h7⟩ := hn q
   ⟨d, od, es, n, ra, h1, e.notin h3 h2, znp e hX h3 h2 (own_at h4 h5 h6), h4, h5, h6, Rep.mono e hX h7⟩
theorem RepL.mono {h h' : Heap} (e : Kp X φ h φ' h') (hX : OwnX c X h) : ∀ {l : List V} {rs : List Value}, RepL c φ h l rs -> RepL c φ' h' l rs
 | [], _, h => h
 | _ :: _, [], h => False.elim h
 | _ :: _, _ :: _, h => ⟨Rep.mono e hX h.1, RepL.mono e hX h.2⟩
end
section
variable {h : Heap} {a : Addr} {oa : Obj}
theorem zdh {b : Addr} {o : Obj} (ha : h.get? a = some oa) (hla : oa.cls = .type "list") (hb : h.get? b = some o) (hc : o.cls ≠ .type "list") (hn : b ∉ φ) : b ∉ φ ++ [a] := fun hm =>
 (zaq.mp hm).elim hn fun e => by
  rw [zai.mp e, ha] at hb; cases hb; exact hc hla
mutual
theorem Rep.adopt (ha : h.get? a = some oa) (hla : oa.cls = .type "list") (h0 : c.h0.get? a = none) : ∀ {v : V} {r : Value}, Rep c φ h v r -> Rep c (φ ++ [a]) h v r
 | .none, _, q => q
 | .bool _, _, q => q
 | .int _, _, q => q
 | .str _, _, q => q
 | .tup l, r, .mk b o vs n hr hb ho hc hd hz hl => TupAt.mk b o vs n hr (zdh ha hla ho (by rw [hc]; decide) hb) ho hc hd hz (RepL.adopt ha hla h0 hl)
 | .lst i, r, .mk b hr hb => LstAt.mk b hr (zdw (List.prefix_append _ _) hb)
 | .scr l, r, .mk b o vs n hr hb hb0 ho hc hd hz hl => ScrAt.mk b o vs n hr (fun hm => (zaq.mp hm).elim hb fun e => by rw [zai.mp e, h0] at hb0; cases hb0) hb0 ho hc hd hz hl
 | .dict0 b, r, .mk o es n hr hb ho hc hd hg => DictAt.mk o es n hr (zdh ha hla ho (by rw [hc]; decide) hb) ho hc hd hg
 | .rng lo hi st, r, .mk b t u v hr hb ho hs => RngAt.mk b t u v hr (zdh ha hla ho (show Value.type "range" ≠ _ by decide) hb) ho hs
 | .exc cn x, r, .mk b o vs hr hb hb0 ho ⟨C, hC⟩ hg hd hn =>
  ExcAt.mk b o vs hr (zdh ha hla ho (by rw [hC]; intro q; cases q) hb) hb0 ho ⟨C, hC⟩ hg hd fun q =>
   let ⟨d, od, es, n, ra, h1, h2, h3, h4, h5, h6, h7⟩ := hn q
   ⟨d, od, es, n, ra, h1, zdh ha hla h3 (by rw [h4]; decide) h2, h3, h4, h5, h6, Rep.adopt ha hla h0 h7⟩
theorem RepL.adopt (ha : h.get? a = some oa) (hla : oa.cls = .type "list") (h0 : c.h0.get? a = none) : ∀ {l : List V} {rs : List Value}, RepL c φ h l rs -> RepL c (φ ++ [a]) h l rs
 | [], _, q => q
 | _ :: _, [], q => False.elim q
 | _ :: _, _ :: _, q => ⟨Rep.adopt ha hla h0 q.1, RepL.adopt ha hla h0 q.2⟩
end
end
inductive RepC (c : Cx) (φ : List Addr) (h : Heap) (v : V) (l : List V) (rs : List Value) : Prop
 | mk (r : Value) (rs' : List Value) (e : rs = r :: rs') (hv : Rep c φ h v r) (hl : RepL c φ h l rs') : RepC c φ h v l rs
theorem RepL.uncons {φ : List Addr} {h : Heap} {v : V} {vs : List V} {rs : List Value} (R : RepL c φ h (v :: vs) rs) : RepC c φ h v vs rs := by
 cases rs with
 | nil => exact R.elim
 | cons r rs => exact ⟨r, rs, rfl, R.1, R.2⟩
theorem RepL.nil_inv {φ : List Addr} {h : Heap} {rs : List Value} (R : RepL c φ h [] rs) : rs = [] := R
theorem RepL.length {φ : List Addr} {h : Heap} : ∀ {l : List V} {rs : List Value}, RepL c φ h l rs -> rs.length = l.length
 | [], _, q => by rw [q.nil_inv]; rfl
 | _ :: _, _, q => by
  obtain ⟨r, rs', rfl, _, q2⟩ := q.uncons
  exact congrArg (· + 1) (RepL.length q2)
inductive RepG (c : Cx) (φ : List Addr) (h : Heap) (rs : List Value) (i : Nat) (v : V) : Prop
 | mk (r : Value) (e : rs[i]? = some r) (hv : Rep c φ h v r) : RepG c φ h rs i v
theorem RepL.get {φ : List Addr} {h : Heap} : ∀ {l : List V} {rs : List Value}, RepL c φ h l rs -> ∀ {i : Nat} {v : V}, l[i]? = some v -> RepG c φ h rs i v
 | [], _, _, _, _, e => nomatch e
 | x :: xs, _, q, i, v, e => by
  obtain ⟨r, rs', rfl, hv, q2⟩ := q.uncons
  cases i with
  | zero => cases e; exact ⟨r, rfl, hv⟩
  | succ i =>
   obtain ⟨r', e', h'⟩ := RepL.get q2 (i := i) (v := v) e
   exact ⟨r', e', h'⟩
theorem RepL.append {φ : List Addr} {h : Heap} : ∀ {l l' : List V} {rs rs' : List Value}, RepL c φ h l rs -> RepL c φ h l' rs' -> RepL c φ h (l ++ l') (rs ++ rs')
 | [], _, _, _, q, q' => by rw [q.nil_inv]; exact q'
 | _ :: _, _, _, _, q, q' => by
  obtain ⟨r, rs', rfl, hv, q2⟩ := q.uncons
  exact ⟨hv, RepL.append q2 q'⟩
theorem RepL.set {φ : List Addr} {h : Heap} : ∀ {l : List V} {rs : List Value}, RepL c φ h l rs -> ∀ (i : Nat) {v : V} {r : Value}, Rep c φ h v r -> RepL c φ h (l.set i v) (rs.set i r)
 | [], _, q, _, _, _, _ => by rw [q.nil_inv]; rfl
 | _ :: _, _, q, i, _, _, hv' => by
  obtain ⟨r, rs', rfl, hv, q2⟩ := q.uncons
  cases i with
  | zero => exact ⟨hv', q2⟩
  | succ i => exact ⟨hv, RepL.set q2 i hv'⟩
theorem Sim.lt {H : Hp} (S : Sim c φ H s) {a : Addr} (ha : a ∈ φ) : a < s.heap.objs.size := by
 obtain ⟨i, hi, rfl⟩ := zbu.mp ha
 have hi' : i < H.length := S.len ▸ hi
 obtain ⟨a, o, _, _, h1, h2, _⟩ := S.lists i H[i] (zal hi')
 rw [zal hi] at h1; cases h1
 exact Heap.lt_size h2
theorem Sim.isList {H : Hp} (S : Sim c φ H s) {a : Addr} (ha : a ∈ φ) : ∃ o, s.heap.get? a = some o /\ o.cls = .type "list" := by
 obtain ⟨i, hi, rfl⟩ := zbu.mp ha
 have hi' : i < H.length := S.len ▸ hi
 obtain ⟨a, o, _, _, h1, h2, h3, _⟩ := S.lists i H[i] (zal hi')
 rw [zal hi] at h1; cases h1
 exact ⟨o, h2, h3⟩
theorem Sim.new {H : Hp} (S : Sim c φ H s) : s.heap.objs.size ∉ φ := fun h => za2 _ (S.lt h)
theorem Sim.h0_new {H : Hp} (S : Sim c φ H s) {a : Addr} (ha : s.heap.objs.size <= a) : c.h0.get? a = none := by
 cases e : c.h0.get? a with
 | none => rfl
 | some o => exact absurd (Heap.lt_size (S.stays a o e)) (Nat.not_lt.mpr ha)
theorem Sim.mono {H : Hp} (S : Sim c φ H s) (e : Kp X φ s.heap φ s'.heap) (hX : OwnX c X s.heap) (hXb : ∀ b ∈ X, c.h0.get? b = none)
  (hl : ∀ a ∈ φ, ∀ o, s.heap.get? a = some o -> s'.heap.get? a = some o) (hst : ∀ b o, c.h0.get? b = some o -> fix o.cls = false -> s'.heap.get? b = some o) (hg : s'.gens = #[])
  (hn : ∀ b ps, s.heap.get? b = some (tabO ps) -> s'.heap.get? b = some (tabO ps)) : Sim c φ H s' where
 stays b o h := by
  cases hf : fix o.cls with
  | false => exact hst b o h hf
  | true => exact e.keep b o (S.stays b o h) (fun hm => by rw [S.fresh b hm] at h; cases h) (fun hm => by rw [hXb b hm] at h; cases h) hf
 fresh := S.fresh
 nodup := S.nodup
 len := S.len
 lists i xs h := by
  obtain ⟨a, o, vs, n, h1, h2, h3, h4, h5, h6⟩ := S.lists i xs h
  exact ⟨a, o, vs, n, h1, hl a (zaw h1) o h2, h3, h4, RepL.mono e hX h5, h6⟩
 gens := hg
 tab x hx := (S.tab x hx).mono hn fun b o hb hc => e.keep b o hb (fun hm => by
  obtain ⟨o', h1, h2⟩ := S.isList hm
  rw [hb] at h1; cases h1; rw [hc] at h2; exact absurd h2 (by decide)) (fun hm => zki hc rfl (hX b hm o hb)) (by rw [hc]; rfl)
theorem Sim.keeps {H : Hp} (S : Sim c φ H s) (hk : ∀ b o, s.heap.get? b = some o -> s'.heap.get? b = some o) (hg : s'.gens = s.gens) : Sim c φ H s' :=
 S.mono (X := []) ⟨List.prefix_rfl, fun b o h _ _ _ => hk b o h, fun _ h => .inl h, fun b o es n h _ hd => ⟨o, es, n, hk b o h, hd, .rfl⟩, fun b o vs _ h _ _ hd => ⟨vs, by rw [<- hd]; exact hk b o h⟩⟩ OwnX.nil (by simp) (fun a _ o h => hk a o h) (fun b o h _ => hk b o (S.stays b o h)) (hg.trans S.gens) fun b _ h => hk b _ h
theorem Sim.tok {H : Hp} (S : Sim c φ H s) (t : Nat) : Sim c φ H { s with toks := t } := ⟨S.stays, S.fresh, S.nodup, S.len, S.lists, S.gens, S.tab⟩
theorem Sim.push {H : Hp} (S : Sim c φ H s) (o : Obj) : Sim c φ H { s with heap := s.heap.push o } :=
 S.keeps (fun _ _ h => Heap.get?_push_of_some _ h) rfl
theorem Ext.push {o : Obj} : Ext X φ s φ { s with heap := s.heap.push o } :=
 Ext.of_keeps (fun _ _ h => Heap.get?_push_of_some _ h) rfl
theorem Sim.adopt {H : Hp} (S : Sim c φ H s) {a : Addr} {o : Obj} {vs : Array Value} {n : Nat} {xs : List V} (ha : a ∉ φ) (h0 : c.h0.get? a = none) (ho : s.heap.get? a = some o) (hc : o.cls = .type "list")
  (hd : o.data = .seq vs n) (hp : o.dict = none /\ o.slots = #[]) (hr : RepL c φ s.heap xs vs.toList) (hz : xs.length <= sizeLine) : Sim c (φ ++ [a]) (H ++ [xs]) s where
 stays := S.stays
 fresh b hb := by
  rcases zaq.mp hb with h | h
  ·exact S.fresh b h
  ·rw [zai.mp h]; exact h0
 nodup := by
  rw [List.nodup_append]
  refine ⟨S.nodup, by simp, fun x hx y hy => ?_⟩
  rw [zai.mp hy]; rintro rfl; exact ha hx
 len := by simp [S.len]
 lists i ys h := by
  by_cases hi : i < H.length
  ·rw [zbi hi] at h
   obtain ⟨b, o', vs', n', h1, h2, h3, h4, h5, h6⟩ := S.lists i ys h
   exact ⟨b, o', vs', n', by rw [zbi (S.len ▸ hi)]; exact h1, h2, h3, h4, RepL.adopt ho hc h0 h5, h6⟩
  ·have hlt : i < (H ++ [xs]).length := (zbj.mp h).1
   have : i = H.length := by simp at hlt; exact Ar.ar2 [_,_] [] 0x6294001840300c20000a5000610080308000 (Y2 V0 V1) (Y8 (Y1 V0 V1) J0) (Y1 V0 (Y0 V1 J1)) hi hlt
   subst this
   rw [zbk (zad _)] at h
   simp at h; subst h
   exact ⟨a, o, vs, n, by rw [zbk (za8 S.len)]; simp [S.len], ho, hc, hd, RepL.adopt ho hc h0 hr, hz, hp⟩
 gens := S.gens
 tab := S.tab
theorem Sim.newList {H : Hp} (S : Sim c φ H s) {xs : List V} {vs : List Value} (hr : RepL c φ s.heap xs vs) (hz : xs.length <= sizeLine) {o : Obj} (ho : o = { cls := .type "list", data := .seq vs.toArray }) :
  Ext [] φ s (φ ++ [s.heap.objs.size]) { s with heap := s.heap.push o } /\ Sim c (φ ++ [s.heap.objs.size]) (H ++ [xs]) { s with heap := s.heap.push o } := by
 subst ho
 have e : Ext [] φ s (φ ++ [s.heap.objs.size]) { s with heap := s.heap.push { cls := .type "list", data := .seq vs.toArray } } :=
  { (Ext.push (X := []) (φ := φ) (s := s) (o := { cls := .type "list", data := .seq vs.toArray })) with
   pre := List.prefix_append _ _
   new := fun a ha => (zaq.mp ha).elim .inl fun h => .inr (by rw [zai.mp h]; exact Heap.get?_none_of_le (zad _)) }
 refine ⟨e, ?_⟩
 have S' := S.push { cls := .type "list", data := .seq vs.toArray }
 refine S'.adopt (o := { cls := .type "list", data := .seq vs.toArray }) (vs := vs.toArray) (n := 0) S.new (S.h0_new (zad _)) (Heap.get?_push_size _ rfl) rfl rfl ⟨rfl, rfl⟩ ?_ hz
 have := RepL.mono (Ext.push (X := []) (φ := φ) (s := s) (o := { cls := .type "list", data := .seq vs.toArray })).toKp OwnX.nil hr
 simpa using this
end
end Bn
namespace Bn
open PySem
inductive Op | add | sub | mul | div | mod
 | pow
inductive Cm | lt | le | gt | ge | eq | ne | isIn
 | notIn
 | is
inductive Bl | len | max | min | range | list | all
 | tuple
 | sum
 | sorted
inductive Me | append
 | count
 | index
inductive Tc | int | bool | list | tuple
 | str
 | own (cn : Str)
inductive Tg | one (i : Nat) | two (i j : Nat)
inductive Ex where
 | lit (v : V)
 | var (i : Nat)
 | tup (es : List Ex)
 | list (es : List Ex)
 | dict0
 | bin (op : Op) (a b : Ex)
 | neg (a : Ex)
 | not (a : Ex)
 | cmp (a : Ex) (os : List Cm) (bs : List Ex)
 | and (es : List Ex)
 | or (es : List Ex)
 | idx (a i : Ex)
 | slice (a lo hi : Ex)
 | rev (a : Ex)
 | call (f : Str) (es : List Ex)
 | callL (f : Str) (es : List Ex) (k : Nat) (i : Nat)
 | callv (es : List Ex)
 | blt (b : Bl) (es : List Ex)
 | meth (m : Me) (o : Ex) (es : List Ex)
 | isi (a : Ex) (t : Tc)
 | comp (elt : Ex) (t : Tg) (src : Ex) (ifs : List Ex)
 | attr (a : Ex) (x : Str)
 deriving Inhabited
inductive Sr where
 | val (e : Ex)
 | enum (e : Ex)
 | rev (e : Ex)
 | zip (a b : Ex)
 deriving Inhabited
inductive St where
 | set (i : Nat) (e : Ex)
 | unp (is : List Nat) (e : Ex)
 | put (o i e : Ex)
 | expr (e : Ex)
 | ret (e : Ex)
 | ite (t : Ex) (a b : List St)
 | whil (t : Ex) (b : List St)
 | loop (t : Tg) (s : Sr) (b : List St)
 | rais (cn : Str) (es : List Ex)
 | tri (b : List St) (i : Nat) (h : List St)
 | stuck
 deriving Inhabited
inductive Fl where
 | next
 | ret (v : V)
noncomputable def zhz : V -> Option Bool
 | .bool b => some b
 | _ => none
noncomputable def mapO {α β : Type} (f : α -> Option β) : List α -> Option (List β)
 | [] => some []
 | x :: xs => (f x).bind fun y => (mapO f xs).map (y :: ·)
inductive MapO {α β : Type} (f : α -> Option β) (x : α) (xs : List α) (r : List β) : Prop
 | mk (y : β) (ys : List β) (h1 : f x = some y) (h2 : mapO f xs = some ys) (h3 : r = y :: ys) : MapO f x xs r
theorem zb9 {α β : Type} {f : α -> Option β} {x : α} {xs : List α} {r : List β} (h : mapO f (x :: xs) = some r) : MapO f x xs r := by
 obtain ⟨y, h1, h⟩ := zab.mp h
 obtain ⟨ys, h2, h⟩ := zah.mp h
 exact ⟨y, ys, h1, h2, h.symm⟩
noncomputable def atomP : V -> Option PyData
 | .none => some PyData.none
 | .bool b => some (PyData.bool b)
 | .int i => some (PyData.int i)
 | .str s => some (PyData.str s)
 | _ => none
noncomputable def toP : Nat -> Hp -> V -> Option PyData
 | 0, _, v => atomP v
 | n + 1, H, v => match v with
  | .tup l => (mapO (toP n H) l).map PyData.tuple
  | .lst a => (H[a]?.bind fun xs => mapO (toP n H) xs).map PyData.list
  | v => atomP v
noncomputable def eqV (H : Hp) (v w : V) : Option Bool := (toP 9 H v).bind fun a => (toP 9 H w).bind fun b => if a.canLay0 && b.canLay0 then some (PyData.eqv a b) else none
noncomputable def ix (i : Int) (n : Nat) : Option Nat :=
 if 0 <= i then (if i < n then some i.toNat else none) else (if -(n : Int) <= i then some (i + n).toNat else none)
noncomputable def strAt (s : Str) (j : Nat) : Option V := s.cps[j]?.map fun c => .str ⟨#[c]⟩
noncomputable def onLen (n : Nat) (o : Option Nat) : Option Nat := if n <= sizeLine then o else none
theorem onLe {n : Nat} {o : Option Nat} {j : Nat} (h : onLen n o = some j) : o = some j /\ n <= sizeLine := by
 unfold onLen at h
 by_cases hn : n <= sizeLine
 ·rw [if_pos hn] at h; exact ⟨h, hn⟩
 ·rw [if_neg hn] at h; cases h
noncomputable def zgm : V -> Option Int
 | .int i => some i
 | _ => none
noncomputable def zjs : V -> Option Nat
 | .lst a => some a
 | _ => none
noncomputable def zna : V -> Option (List V)
 | .tup l => some l
 | _ => none
theorem zcy {v : V} {i : Int} (h : zgm v = some i) : v = .int i := by cases v <;> cases h; rfl
theorem zff {v : V} {i : Nat} (h : zjs v = some i) : v = .lst i := by cases v <;> cases h; rfl
noncomputable def zo6 : V -> Option Str
 | .str s => some s
 | _ => none
theorem zeg {v : V} {l : Str} (h : zo6 v = some l) : v = .str l := by cases v <;> cases h; rfl
theorem iteS {α : Type} {p : Prop} [Decidable p] {a b : α} (h : (if p then some a else none) = some b) : p /\ a = b := by
 by_cases hp : p
 ·rw [if_pos hp] at h; exact ⟨hp, zaa h⟩
 ·rw [if_neg hp] at h; cases h
theorem iteO {α : Type} {p : Prop} [Decidable p] {o : Option α} {b : α} (h : (if p then o else none) = some b) : p /\ o = some b := by
 by_cases hp : p
 ·rw [if_pos hp] at h; exact ⟨hp, h⟩
 ·rw [if_neg hp] at h; cases h
theorem iteN {α : Type} {p : Prop} [Decidable p] {a b : α} (h : (if p then none else some a) = some b) : ¬ p /\ a = b := by
 by_cases hp : p
 ·rw [if_pos hp] at h; cases h
 ·rw [if_neg hp] at h; exact ⟨hp, zaa h⟩
theorem zei {v : V} {l : List V} (h : zna v = some l) : v = .tup l := by cases v <;> cases h; rfl
theorem zc6 {v : V} {b : Bool} (h : zhz v = some b) : v = .bool b := by cases v <;> cases h; rfl
noncomputable def zhn : List V -> Option (List Int)
 | [] => some []
 | x :: r => (zgm x).bind fun i => (zhn r).map (i :: ·)
noncomputable def zd9 : List V -> Option (List Bool)
 | [] => some []
 | x :: r => (zhz x).bind fun i => (zd9 r).map (i :: ·)
noncomputable def zny : List V -> Option (List Str)
 | [] => some []
 | x :: r => (zo6 x).bind fun i => (zny r).map (i :: ·)
noncomputable def idxV (H : Hp) (v w : V) : Option V := (zgm w).bind fun i => match v with
 | .str s => (onLen s.cps.size (ix i s.cps.size)).bind (strAt s)
 | .lst a => H[a]?.bind fun xs => (ix i xs.length).bind fun j => xs[j]?
 | .tup xs => (ix i xs.length).bind fun j => xs[j]?
 | .scr xs => (ix i xs.length).bind fun j => xs[j]?.map .int
 | _ => none
noncomputable def int2 {β : Type} (x y : V) (f : Int -> Int -> Option β) : Option β := (zgm x).bind fun a => (zgm y).bind fun b => f a b
theorem zdf {β : Type} {x y : V} {f : Int -> Int -> Option β} {r : β} (h : int2 x y f = some r) : ∃ a b, x = .int a /\ y = .int b /\ f a b = some r := by
 obtain ⟨a, h1, h⟩ := zab.mp h
 obtain ⟨b, h2, h⟩ := zab.mp h
 exact ⟨a, b, zcy h1, zcy h2, h⟩
noncomputable def lst1 {β : Type} (H : Hp) (x : V) (f : List V -> Option β) : Option β := (zjs x).bind fun a => (H[a]?).bind f
theorem zd6 {β : Type} {H : Hp} {x : V} {f : List V -> Option β} {r : β} (h : lst1 H x f = some r) : ∃ a xs, x = .lst a /\ H[a]? = some xs /\ f xs = some r := by
 obtain ⟨a, h1, h⟩ := zab.mp h
 obtain ⟨xs, h2, h⟩ := zab.mp h
 exact ⟨a, xs, zff h1, h2, h⟩
noncomputable def charOf (s : Str) : Option Nat := match s.cps.toList with
 | [k] => some k
 | _ => none
noncomputable def inS (s : Str) (y : V) : Option Bool := match y with
 | .str t => (charOf s).map fun k => decide (k ∈ t.cps.toList)
 | .tup l => (zny l).map fun l => decide (s ∈ l)
 | _ => none
noncomputable def inV (H : Hp) (x y : V) : Option Bool := match x with
 | .int k => lst1 H y fun xs => (zhn xs).map fun l => decide (k ∈ l)
 | .str s => inS s y
 | _ => none
noncomputable def ninV (x y : V) : Option Bool := (zo6 x).bind fun s => (zna y).bind fun l => (zny l).map fun l => !decide (s ∈ l)
noncomputable def isNone : V -> Option Bool
 | .none => some true
 | .int _ => some false
 | _ => none
noncomputable def isV (x y : V) : Option Bool := match y with
 | .none => isNone x
 | _ => none
noncomputable def sameD (x y : V) : Option Bool := match x with
 | .dict0 a => (match y with
  | .dict0 b => if a = b then some true else none
  | _ => none)
 | _ => none
noncomputable def cmpV (H : Hp) (o : Cm) (x y : V) : Option Bool := match o with
 | .lt => int2 x y fun a b => some (decide (a < b))
 | .le => int2 x y fun a b => some (decide (a <= b))
 | .gt => int2 x y fun a b => some (decide (a > b))
 | .ge => int2 x y fun a b => some (decide (a >= b))
 | .eq => (eqV H x y).or (sameD x y)
 | .ne => (eqV H x y).map (!·)
 | .isIn => inV H x y
 | .notIn => ninV x y
 | .is => isV x y
noncomputable def small (i : Int) : Bool := decide (i.natAbs < 2 ^ 63)
noncomputable def rep {α : Type} (l : List α) : Nat -> List α
 | 0 => []
 | n + 1 => l ++ rep l n
theorem zmi {α : Type} {l : List α} {n : Nat} : rep l (n + 1) = l ++ rep l n := rfl
noncomputable def addV (H : Hp) (x y : V) : Option (V × Hp) := match x with
 | .int a => (zgm y).map fun b => (.int (a + b), H)
 | .str a => (zo6 y).bind fun b => if a.length + b.length <= sizeLine then some (.str (a ++ b), H) else none
 | .lst a => (H[a]?).bind fun x => lst1 H y fun y => if x.length + y.length <= sizeLine then some (.lst H.length, H ++ [x ++ y]) else none
 | _ => none
noncomputable def mulV (H : Hp) (x y : V) : Option (V × Hp) := (zgm y).bind fun n => match x with
 | .int a => if small a || small n then some (.int (a * n), H) else none
 | .lst a => (H[a]?).bind fun x => if 0 <= n /\ n <= 1000000 /\ n.toNat * x.length <= sizeLine then some (.lst H.length, H ++ [rep x n.toNat]) else none
 | _ => none
noncomputable def binV (H : Hp) (op : Op) (x y : V) : Option (V × Hp) := match op with
 | .add => addV H x y
 | .sub => int2 x y fun a b => some (.int (a - b), H)
 | .mul => mulV H x y
 | .div => int2 x y fun a b => if b = 0 then none else some (.int (a.fdiv b), H)
 | .mod => int2 x y fun a b => if b = 0 then none else some (.int (a.fmod b), H)
 | .pow => int2 x y fun a b => if 0 <= b /\ b <= 100 /\ small a then some (.int (a ^ b.toNat), H) else none
noncomputable def zha (i : Int) (n : Nat) : Nat := if i < 0 then (i + n).toNat else min i.toNat n
noncomputable def bound? (n : Nat) (d : Nat) : V -> Option Nat
 | .none => some d
 | .int i => some (zha i n)
 | _ => none
noncomputable def zjm (H : Hp) (a lo hi : V) : Option (V × Hp) := (zjs a).bind fun a => (H[a]?).bind fun xs => (bound? xs.length 0 lo).bind fun i => (bound? xs.length xs.length hi).map fun j => (.lst H.length, H ++ [(xs.drop i).take (j - i)])
noncomputable def revV (H : Hp) (a : V) : Option (V × Hp) := (zjs a).bind fun a => (H[a]?).map fun xs => (.lst H.length, H ++ [xs.reverse])
noncomputable def zc4 (lo hi st : Int) : List V := (List.range (if 0 < st /\ lo < hi then ((hi - lo - 1) / st + 1).toNat else 0)).map fun (i : Nat) => V.int (lo + (i : Int) * st)
noncomputable def srcV (H : Hp) : V -> Option (List V)
 | .lst a => H[a]?
 | .rng lo hi st => some (zc4 lo hi st)
 | .str s => some (s.cps.toList.map fun c => .str ⟨#[c]⟩)
 | _ => none
noncomputable def okV (v : V) (items : List V) (H : Hp) : Prop := match v with
 | .lst a => H[a]? = some items
 | _ => True
noncomputable def pair1 (v : V) : Option (Int × Int) := (zna v).bind fun l => match l with
 | [x, y] => int2 x y fun a b => some (a, b)
 | _ => none
noncomputable def zh4 (xs : List V) : Option (List (Int × Int)) := mapO pair1 xs
noncomputable def zdu (a b : Int × Int) : Bool := decide (a.1 < b.1) || (decide (a.1 = b.1) && decide (a.2 <= b.2))
noncomputable def zjq (l : List (Int × Int)) : Bool := decide (l.length < 64) && decide l.Nodup && l.all fun p => decide (p.1.natAbs < 2 ^ 31) && decide (p.2.natAbs < 2 ^ 31)
noncomputable def zg7 (p : Int × Int) : V := .tup [.int p.1, .int p.2]
noncomputable def zdk (l : List Int) : Bool := l.all fun i => decide (i.natAbs < 2 ^ 31)
noncomputable def arg1 {β : Type} (vs : List V) (f : V -> Option β) : Option β := match vs with
 | [] => none
 | x :: r => match r with
  | [] => f x
  | _ :: _ => none
theorem zdc {β : Type} {vs : List V} {f : V -> Option β} {r : β} (h : arg1 vs f = some r) : ∃ x, vs = [x] /\ f x = some r := by
 cases vs with
 | nil => cases h
 | cons x l => cases l with
  | nil => exact ⟨x, rfl, h⟩
  | cons => cases h
noncomputable def lenV (H : Hp) (x : V) : Option (V × Hp) := match x with
 | .lst a => (H[a]?).map fun xs => (.int xs.length, H)
 | .tup l => some (.int l.length, H)
 | .scr l => some (.int l.length, H)
 | .str s => if s.length <= sizeLine then some (.int s.length, H) else none
 | _ => none
noncomputable def maxV (H : Hp) (vs : List V) : Option (V × Hp) := (zhn vs).bind fun l => match l with
 | [a, b] => some (.int (if a < b then b else a), H)
 | [a, b, c] => some (.int (if (if a < b then b else a) < c then c else (if a < b then b else a)), H)
 | _ => none
noncomputable def minV (H : Hp) (vs : List V) : Option (V × Hp) := (zhn vs).bind fun l => match l with
 | [a, b] => some (.int (if b < a then b else a), H)
 | _ => none
noncomputable def rngV (H : Hp) (vs : List V) : Option (V × Hp) := (zhn vs).bind fun l => match l with
 | [n] => if n.natAbs < 2 ^ 31 then some (.rng 0 n 1, H) else none
 | _ => none
noncomputable def listV (H : Hp) (x : V) : Option (V × Hp) := match x with
 | .lst a => (H[a]?).map fun xs => (.lst H.length, H ++ [xs])
 | .rng lo hi st => if (zc4 lo hi st).length <= sizeLine then some (.lst H.length, H ++ [zc4 lo hi st]) else none
 | _ => none
noncomputable def tupleV (H : Hp) (x : V) : Option (V × Hp) := match x with
 | .lst a => (H[a]?).map fun xs => (.tup xs, H)
 | _ => none
noncomputable def bltV (H : Hp) (b : Bl) (vs : List V) : Option (V × Hp) := match b with
 | .len => arg1 vs (lenV H)
 | .max => maxV H vs
 | .min => minV H vs
 | .range => rngV H vs
 | .list => arg1 vs (listV H)
 | .tuple => arg1 vs (tupleV H)
 | .sum => arg1 vs fun x => lst1 H x fun xs => (zhn xs).bind fun l => if zdk l then some (.int l.sum, H) else none
 | .all => arg1 vs fun x => lst1 H x fun xs => (zd9 xs).map fun l => (.bool (l.all id), H)
 | .sorted => arg1 vs fun x => lst1 H x fun xs => (zh4 xs).bind fun l => if zjq l = true then some (.lst H.length, H ++ [(l.mergeSort zdu).map zg7]) else none
noncomputable def zlu (v : V) : Option Unit := (zhz v).bind fun b => if b then some () else none
noncomputable def zoe (H : Hp) (m : Me) (x : V) (vs : List V) : Option (V × Hp) := match m with
 | .append => (zjs x).bind fun a => (H[a]?).bind fun xs => arg1 vs fun v => if xs.length < sizeLine then some (.none, H.set a (xs ++ [v])) else none
 | .count => lst1 H x fun xs => arg1 vs fun v => (zlu v).bind fun _ => (zd9 xs).map fun l => (.int (l.count true), H)
 | .index => lst1 H x fun xs => arg1 vs fun v => (zlu v).bind fun _ => (zd9 xs).bind fun l => if true ∈ l then some (.int (l.idxOf true), H) else none
noncomputable def isLst : V -> Bool
 | .lst _ => true
 | _ => false
noncomputable def isStr : V -> Bool
 | .str _ => true
 | _ => false
noncomputable def zpu (m : Me) (v : V) : Bool := match m with
 | .append => isLst v
 | .count => isLst v
 | .index => isLst v
noncomputable def kidX : V -> Bool
 | .exc c _ => decide (c ∈ kids)
 | _ => false
noncomputable def kd : V -> Option Nat
 | .none => some 0
 | .bool _ => some 1
 | .int _ => some 2
 | .tup _ => some 4
 | .lst _ => some 5
 | .str _ => some 3
 | .dict0 _ => some 6
 | _ => none
noncomputable def excOf : V -> Option Str
 | .exc c _ => some c
 | _ => none
noncomputable def isiV (v : V) (t : Tc) : Option Bool := match t with
 | .own p => (excOf v).bind fun e => if e ∈ kids /\ (p ∈ kids \/ p = Str.ofString "ValueError") then some (decide (e = p \/ p = Str.ofString "ValueError")) else none
 | .int => (kd v).map fun n => n == 1 || n == 2
 | .bool => (kd v).map (· == 1)
 | .tuple => (kd v).map (· == 4)
 | .list => (kd v).map (· == 5)
 | .str => (kd v).map (· == 3)
noncomputable def putV (H : Hp) (a i v : V) : Option Hp := (zjs a).bind fun a => (zgm i).bind fun i => (H[a]?).bind fun xs => if 0 <= i /\ i < xs.length then some (H.set a (xs.set i.toNat v)) else none
noncomputable def zfu (t : Tg) (x : V) (l : Loc) : Option Loc := match t with
 | .one i => some (l.set i (some x))
 | .two i j => (zna x).bind fun vs => match vs with
  | [a, b] => some ((l.set i (some a)).set j (some b))
  | _ => none
noncomputable def znd : List Nat -> List V -> Loc -> Option Loc
 | [], [], l => some l
 | i :: is, v :: vs, l => znd is vs (l.set i (some v))
 | _, _, _ => none
abbrev Clo := Option (Nat × V)
abbrev XPost := V -> Hp -> Prop
abbrev CallT := Bool -> Nat -> Str -> List V -> Clo -> (V -> Hp -> Prop) -> XPost -> Hp -> Prop
noncomputable def Opt {α : Type} (o : Option α) (K : α -> Prop) : Prop := match o with
 | some a => K a
 | none => False
inductive OptI {α : Type} (o : Option α) (K : α -> Prop) : Prop
 | mk (a : α) (h : o = some a) (k : K a) : OptI o K
theorem Opt.inv {α : Type} {o : Option α} {K : α -> Prop} (h : Opt o K) : OptI o K := by
 cases o with
 | none => exact h.elim
 | some a => exact ⟨a, rfl, h⟩
theorem Opt.mk {α : Type} {o : Option α} {K : α -> Prop} {a : α} (h : o = some a) (k : K a) : Opt o K := by subst h; exact k
noncomputable def zfc (es : List Ex) (A B : Prop) : Prop := match es with
 | [] => A
 | _ :: _ => B
noncomputable def zdi (b : Bool) (A B : Prop) : Prop := match b with
 | true => A
 | false => B
noncomputable def onQ {α : Type} (q : Bool) (o : Option α) : Option α := match q with
 | true => o
 | false => none
theorem zrn {α : Type} {q : Bool} {o : Option α} {a : α} (h : onQ q o = some a) : q = true /\ o = some a := by
 cases q with
 | true => exact ⟨rfl, h⟩
 | false => cases h
noncomputable def zd0 {σ : Type} (ok : Hp -> Prop) (step : V -> σ -> (σ -> Hp -> Prop) -> Hp -> Prop) : List V -> σ -> (σ -> Hp -> Prop) -> Hp -> Prop
 | [], a, Q, H => Q a H
 | x :: xs, a, Q, H => step x a (fun a' H' => ok H' /\ zd0 ok step xs a' Q H') H
noncomputable def noX : XPost := fun _ _ => False
noncomputable def cloArgs (k : Nat) (x y z : V) : List V :=
 let p := fun (i : Nat) => if i = 0 then x else if i = 1 then y else z
 [p (k / 9), p (k / 3 % 3), p (k % 3)]
noncomputable def cloV (k : Clo) (d : Nat) (vs : List V) : Option (Nat × List V) := k.bind fun z => match d with
 | 0 => none
 | d + 1 => match vs with
  | [x, y] => some (d, cloArgs z.1 x y z.2)
  | _ => none
noncomputable def lstV (H : Hp) (v : V) : Option (List V) := (zjs v).bind fun a => H[a]?
noncomputable def zjl : V -> Option V
 | .none => some .none
 | .int i => some (.int i)
 | _ => none
noncomputable def attrV (v : V) (x : Str) : Option V := match v with
 | .exc cn w => if x = Str.ofString "at" /\ cn = Str.ofString "BadNet" then zjl w else none
 | _ => none
noncomputable def unpV (is : List Nat) (v : V) (l : Loc) : Option Loc := (zna v).bind fun vs => znd is vs l
noncomputable def zc5 (Q : Bool -> Hp -> Prop) (v : V) (H : Hp) : Prop := Opt (zhz v) fun b => Q b H
noncomputable def zi5 (I : Loc -> (Bool -> Hp -> Prop) -> Hp -> Prop) (W : Loc -> (V -> Hp -> Prop) -> Hp -> Prop) (t : Tg) (l : Loc) (x : V) (acc : List V) (K : List V -> Hp -> Prop) (H : Hp) : Prop :=
 Opt (zfu t x l) fun l' => I l' (fun b H => zdi b (W l' (fun v H => K (acc ++ [v]) H) H) (K acc H)) H
mutual
noncomputable def wpE (C : CallT) (q : Bool) (d : Nat) (k : Clo) : Ex -> Loc -> (V -> Hp -> Prop) -> XPost -> Hp -> Prop
 | .lit v, _, Q, _, H => Q v H
 | .var i, l, Q, _, H => Opt (l.getD i none) fun v => Q v H
 | .tup es, l, Q, E, H => wpL C q d k es l (fun vs H => Q (.tup vs) H) E H
 | .list es, l, Q, E, H => wpL C q d k es l (fun vs H => Q (.lst H.length) (H ++ [vs])) E H
 | .dict0, _, Q, _, H => ∀ a, Q (.dict0 a) H
 | .bin op a b, l, Q, E, H => wpE C q d k a l (fun x H => wpE C q d k b l (fun y H => Opt (binV H op x y) fun p => Q p.1 p.2) E H) E H
 | .neg a, l, Q, E, H => wpE C q d k a l (fun x H => Opt (zgm x) fun i => Q (.int (-i)) H) E H
 | .not a, l, Q, E, H => wpE C q d k a l (zc5 fun b H => Q (.bool !b) H) E H
 | .cmp a os bs, l, Q, E, H => wpE C q d k a l (fun x H => wpC C q d k x os bs l (fun b H => Q (.bool b) H) E H) E H
 | .and es, l, Q, E, H => zoa C q d k es l (fun b H => Q (.bool b) H) E H
 | .or es, l, Q, E, H => wpOr C q d k es l (fun b H => Q (.bool b) H) E H
 | .idx a i, l, Q, E, H => wpE C q d k a l (fun x H => wpE C q d k i l (fun y H => Opt (idxV H x y) fun v => Q v H) E H) E H
 | .slice a lo hi, l, Q, E, H => wpE C q d k a l (fun x H => wpE C q d k lo l (fun y H => wpE C q d k hi l (fun z H => Opt (zjm H x y z) fun p => Q p.1 p.2) E H) E H) E H
 | .rev a, l, Q, E, H => wpE C q d k a l (fun x H => Opt (revV H x) fun p => Q p.1 p.2) E H
 | .call f es, l, Q, E, H => wpL C q d k es l (fun vs H => C q d f vs none Q E H) E H
 | .callL f es kk i, l, Q, E, H => wpL C q d k es l (fun vs H => Opt (l.getD i none) fun v => C q d f vs (some (kk, v)) Q E H) E H
 | .callv es, l, Q, E, H => Opt k fun _ => wpL C q d k es l (fun vs H => Opt (cloV k d vs) fun p => C q p.1 (Str.ofString "put_together") p.2 none Q noX H) E H
 | .blt b es, l, Q, E, H => wpL C q d k es l (fun vs H => Opt (onQ q (bltV H b vs)) fun p => Q p.1 p.2) E H
 | .meth m o es, l, Q, E, H => wpE C q d k o l (fun x H => zpu m x = true /\ wpL C q d k es l (fun vs H => Opt (zoe H m x vs) fun p => Q p.1 p.2) E H) E H
 | .isi a t, l, Q, E, H => wpE C q d k a l (fun x H => Opt (isiV x t) fun b => Q (.bool b) H) E H
 | .comp elt t src ifs, l, Q, E, H => wpE C q d k src l (fun sv H => Opt (onQ q (srcV H sv)) fun items => items.length <= sizeLine /\
   zd0 (okV sv items) (zi5 (fun l' Q H => wpI C q d none ifs l' Q H) (fun l' Q H => wpE C q d none elt l' Q noX H) t l) items [] (fun acc H' => Q (.lst H'.length) (H' ++ [acc])) H) E H
 | .attr a x, l, Q, E, H => wpE C q d k a l (fun v H => Opt (attrV v x) fun w => Q w H) E H
noncomputable def wpL (C : CallT) (q : Bool) (d : Nat) (k : Clo) : List Ex -> Loc -> (List V -> Hp -> Prop) -> XPost -> Hp -> Prop
 | [], _, Q, _, H => Q [] H
 | e :: es, l, Q, E, H => wpE C q d k e l (fun v H => wpL C q d k es l (fun vs H => Q (v :: vs) H) E H) E H
noncomputable def zoa (C : CallT) (q : Bool) (d : Nat) (k : Clo) : List Ex -> Loc -> (Bool -> Hp -> Prop) -> XPost -> Hp -> Prop
 | [], _, _, _, _ => False
 | e :: es, l, Q, E, H => wpE C q d k e l (zc5 fun b H => zfc es (Q b H) (zdi b (zoa C q d k es l Q E H) (Q false H))) E H
noncomputable def wpOr (C : CallT) (q : Bool) (d : Nat) (k : Clo) : List Ex -> Loc -> (Bool -> Hp -> Prop) -> XPost -> Hp -> Prop
 | [], _, _, _, _ => False
 | e :: es, l, Q, E, H => wpE C q d k e l (zc5 fun b H => zfc es (Q b H) (zdi b (Q true H) (wpOr C q d k es l Q E H))) E H
noncomputable def wpC (C : CallT) (q : Bool) (d : Nat) (k : Clo) : V -> List Cm -> List Ex -> Loc -> (Bool -> Hp -> Prop) -> XPost -> Hp -> Prop
 | x, os, e :: es, l, Q, E, H => Opt os.head? fun o => wpE C q d k e l (fun y H => Opt (cmpV H o x y) fun b => zfc es (Q b H) (zdi b (wpC C q d k y os.tail es l Q E H) (Q false H))) E H
 | _, _, [], _, _, _, _ => False
noncomputable def wpI (C : CallT) (q : Bool) (d : Nat) (k : Clo) : List Ex -> Loc -> (Bool -> Hp -> Prop) -> Hp -> Prop
 | [], _, Q, H => Q true H
 | e :: es, l, Q, H => wpE C q d k e l (zc5 fun b H => zdi b (wpI C q d k es l Q H) (Q false H)) noX H
end
noncomputable def wpT (C : CallT) (q : Bool) (d : Nat) (k : Clo) (e : Ex) (l : Loc) (Q : Bool -> Hp -> Prop) (E : XPost) (H : Hp) : Prop := wpE C q d k e l (zc5 Q) E H
abbrev SPost := Fl -> Loc -> Hp -> Prop
abbrev SX := V -> Loc -> Hp -> Prop
noncomputable def Then (N : Loc -> Hp -> Prop) (Q : SPost) : SPost := fun f l H => match f with
 | .next => N l H
 | .ret v => Q (.ret v) l H
noncomputable def zja (ok : Hp -> Prop) (body : V -> Loc -> SPost -> Hp -> Prop) : List V -> SPost -> Loc -> Hp -> Prop
 | [], Q, l, H => Q .next l H
 | x :: xs, Q, l, H => body x l (Then (fun l' H' => ok H' /\ zja ok body xs Q l' H') Q) H
inductive wpWhile (test : Loc -> (Bool -> Hp -> Prop) -> Hp -> Prop) (body : Loc -> SPost -> Hp -> Prop) (l : Loc) (Q : SPost) (H : Hp) : Prop
 | mk (I : Nat -> Loc -> Hp -> Prop) (n : Nat) (h0 : I n l H) (step : ∀ n l H, I n l H -> test l (fun b H' => zdi b (body l (Then (fun l' H'' => ∃ m, m < n /\ I m l' H'') Q) H') (Q .next l H')) H) : wpWhile test body l Q H
noncomputable def zde (n : Int) : List V -> List V
 | [] => []
 | x :: xs => .tup [.int n, x] :: zde (n + 1) xs
noncomputable def zipV : List V -> List V -> List V
 | x :: xs, y :: ys => .tup [x, y] :: zipV xs ys
 | _, _ => []
noncomputable def wpSr (C : CallT) (q : Bool) (d : Nat) (k : Clo) : Sr -> Loc -> (List V -> (Hp -> Prop) -> Hp -> Prop) -> XPost -> Hp -> Prop
 | .val e, l, Q, E, H => wpE C q d k e l (fun v H => Opt (srcV H v) fun items => Q items (okV v items) H) E H
 | .enum e, l, Q, E, H => wpE C q d k e l (fun v H => Opt (lstV H v) fun items => Q (zde 0 items) (okV v items) H) E H
 | .rev e, l, Q, E, H => wpE C q d k e l (fun v H => Opt (lstV H v) fun items => Q items.reverse (okV v items) H) E H
 | .zip a b, l, Q, E, H => wpE C q d k a l (fun v H => wpE C q d k b l (fun w H => Opt (lstV H v) fun x => Opt (lstV H w) fun y => Q (zipV x y) (fun H => okV v x H /\ okV w y H) H) E H) E H
noncomputable def atOf (cn : Str) (vs : List V) : V := if cn = Str.ofString "BadNet" then vs.headD .none else .none
mutual
noncomputable def wpS (C : CallT) (q : Bool) (d : Nat) (k : Clo) : St -> SPost -> SX -> Loc -> Hp -> Prop
 | .set i e, Q, E, l, H => wpE C q d k e l (fun v H => Q .next (l.set i (some v)) H) (fun x H => E x l H) H
 | .unp is e, Q, E, l, H => q = true /\ wpE C q d k e l (fun v H => Opt (unpV is v l) fun l' => Q .next l' H) (fun x H => E x l H) H
 | .put o i e, Q, E, l, H => wpE C q d k e l (fun v H => wpE C q d k o l (fun a H => wpE C q d k i l (fun j H => Opt (putV H a j v) fun H' => Q .next l H') (fun x H => E x l H) H) (fun x H => E x l H) H) (fun x H => E x l H) H
 | .expr e, Q, E, l, H => wpE C q d k e l (fun _ H => Q .next l H) (fun x H => E x l H) H
 | .ret e, Q, E, l, H => wpE C q d k e l (fun v H => Q (.ret v) l H) (fun x H => E x l H) H
 | .ite t a b, Q, E, l, H => wpE C q d k t l (zc5 fun c H => zdi c (wpSs C q d k a Q E l H) (wpSs C q d k b Q E l H)) (fun x H => E x l H) H
 | .whil t b, Q, _, l, H => q = true /\ wpWhile (fun l Q H => wpT C q d k t l Q noX H) (fun l Q H => wpSs C q d k b Q (fun _ _ _ => False) l H) l Q H
 | .loop t s b, Q, E, l, H => q = true /\ wpSr C q d k s l (fun items ok H => zja ok (fun x l Q H => Opt (zfu t x l) fun l' => wpSs C q d k b Q E l' H) items Q l H) (fun x H => E x l H) H
 | .rais cn es, _, E, l, H => q = true /\ wpL C q d k es l (fun vs H => E (.exc cn (atOf cn vs)) l H) noX H
 | .tri b i h, Q, _, l, H => q = true /\ wpSs C q d k b Q (fun x l' H => kidX x = true /\ wpSs C false d k h (fun f l'' H => Q f (l''.set i none) H) (fun _ _ _ => False) (l'.set i (some x)) H) l H
 | .stuck, _, _, _, _ => False
noncomputable def wpSs (C : CallT) (q : Bool) (d : Nat) (k : Clo) : List St -> SPost -> SX -> Loc -> Hp -> Prop
 | [], Q, _, l, H => Q .next l H
 | s :: ss, Q, E, l, H => wpS C q d k s (Then (wpSs C q d k ss Q E) Q) E l H
end
end Bn
namespace Bn
open PySem
structure Res where
 fr : Bool
 n : Nat
 t : List (Str × Nat)
noncomputable def Res.lookup (r : Res) (x : Str) : Option Nat := r.t.lookup x
structure PlainEnv (env : Env) : Prop where
 g0 : env.scope.kind ≠ .module
 g1 : env.scope.isGenerator = false
 g2 : env.scope.isCoroutine = false
 g3 : env.builtins = builtinsNs
 g4 : env.globals = mainGlobals
inductive EnvOk (c : Cx) (φ : List Addr) (h : Heap) (env : Env) : Prop
 | mk (pl : PlainEnv env) (L : Addr) (o : Obj) (es : Array DictEntry) (n : Nat) (h4 : env.frame = some L) (h5 : c.h0.get? L = none) (h6 : L ∉ φ) (h7 : h.get? L = some o) (h8 : o.data = .dict es n) (h9 : o.cls = .type "frame") : EnvOk c φ h env
structure OkA (c : Cx) (A : Around) (q : Bool) (d : Nat) (φ : List Addr) (h : Heap) : Prop where
 dep : A.depth + d <= 890
 un : A.units + 10 * d <= 9000
 hd : q = true -> A.handled = none
 fr : ∃ l, A.frames = some l /\ ∀ env ∈ l, EnvOk c φ h env
structure OkF (c : Cx) (A : Around) (q : Bool) (d : Nat) (φ : List Addr) (h : Heap) : Prop extends OkA c A q d φ h where
 ne : A.frames ≠ some []
theorem OkA.mono {c : Cx} {A : Around} {q : Bool} {d : Nat} {X φ φ' : List Addr} {s s' : Shared} (h : OkA c A q d φ s.heap) (e : Ext X φ s φ' s') : OkA c A q d φ' s'.heap where
 dep := h.dep
 un := h.un
 hd := h.hd
 fr := by
  obtain ⟨l, h1, h2⟩ := h.fr
  refine ⟨l, h1, fun env he => ?_⟩
  obtain ⟨h3, L, o, es, n, h4, h5, h6, h7, h8, h9⟩ := h2 env he
  obtain ⟨o', es', n', g1, g2, g3⟩ := e.dict L o es n h7 h6 h8
  exact ⟨h3, L, o', es', n', h4, h5, e.notin h7 h6, g1, g2, g3.cls.trans h9⟩
theorem OkF.mono {c : Cx} {A : Around} {q : Bool} {d : Nat} {X φ φ' : List Addr} {s s' : Shared} (h : OkF c A q d φ s.heap) (e : Ext X φ s φ' s') : OkF c A q d φ' s'.heap := ⟨h.toOkA.mono e, h.ne⟩
inductive SlotC (c : Cx) (φ : List Addr) (h : Heap) (env : Env) (x : Str) : Option V -> Prop
 | yes (v : V) (ca : Addr) (r : Value) (h1 : env.cells.lookup x = some ca) (h2 : h.IsCell ca (some r)) (h3 : Rep c φ h v r) : SlotC c φ h env x (some v)
 | no (ca : Addr) (h1 : env.cells.lookup x = some ca) (h2 : h.IsCell ca none) : SlotC c φ h env x none
inductive SlotL (c : Cx) (φ : List Addr) (h : Heap) (m : Option Value) : Option V -> Prop
 | yes (v : V) (r : Value) (h1 : m = some r) (h2 : Rep c φ h v r) : SlotL c φ h m (some v)
 | no : SlotL c φ h m none
noncomputable def zor (k : Option NameKind) (L C : Prop) : Prop := match k with
 | some .local => L
 | some .cell => C
 | some .free => C
 | _ => False
noncomputable def zef (c : Cx) (φ : List Addr) (h : Heap) (env : Env) (m : Str -> Option Value) (x : Str) (ov : Option V) : Prop := zor (env.kindOf x) (SlotL c φ h (m x) ov) (SlotC c φ h env x ov)
theorem zor.imp {k : Option NameKind} {L C L' C' : Prop} (h : zor k L C) (hL : k = some .local -> L -> L') (hC : C -> C') : zor k L' C' := by
 cases k with
 | none => exact h.elim
 | some k => cases k <;> first | exact hL rfl h | exact hC h | exact h.elim
inductive CloRep (c : Cx) (φ : List Addr) (h : Heap) (B : Nat) (kk : Nat) (z : V) (fv : Value) : Prop
 | mk (a : Addr) (o : Obj) (fd : FuncData) (nm : Str) (ca : Addr) (oc : Obj) (rv : Value) (hr : fv = .ref a) (ha : a ∉ φ) (ho : h.get? a = some o) (hc : o.cls = .type "function") (hd : o.data = .func fd) (hk : c.lam kk fd nm)
   (hcl : fd.closure = [(nm, ca)]) (hca : ca ∉ φ) (hlt : ca < B) (hoc : h.get? ca = some oc) (hcc : oc.cls = .type "cell") (hdc : oc.data = .cell (some rv)) (hx : Rep c φ h z rv)
   (h0 : c.h0.get? ca = none) (cc : Addr) (hcd : fd.code = .ref cc) (hco : CodeO h cc fd.qualname) (hcφ : cc ∉ φ) : CloRep c φ h B kk z fv
noncomputable def zdj : Str := Str.ofString "join"
inductive JoinAt (c : Cx) (env : Env) (m : Str -> Option Value) (kk : Nat) (z : V) (φ : List Addr) (h : Heap) : Prop
 | mk (h1 : env.kindOf zdj = some .local) (fv : Value) (h2 : m zdj = some fv) (h3 : CloRep c φ h env.locals kk z fv) : JoinAt c env m kk z φ h
inductive RoomAt (env : Env) (fr : Bool) (h : Heap) (m : Str -> Option Value) : Prop
 | mk (ns : h.Ns env.locals m) (o : Obj) (ho : h.get? env.locals = some o) (hc : (o.cls = .type "frame" /\ fr = true) \/ (o.cls = .type "dict" /\ m (Str.ofString "at") = none /\ fr = false)) : RoomAt env fr h m
theorem RoomAt.ns {env : Env} {fr : Bool} {h : Heap} {m : Str -> Option Value} (q : RoomAt env fr h m) : h.Ns env.locals m := let ⟨n, _, _, _⟩ := q; n
inductive NsAt (c : Cx) (env : Env) (res : Res) (k : Clo) (loc : Loc) (φ : List Addr) (h : Heap) : Prop
 | mk (m : Str -> Option Value) (room : RoomAt env res.fr h m) (slot : ∀ x i, res.lookup x = some i -> zef c φ h env m x (loc.getD i none)) (clo : ∀ kk z, k = some (kk, z) -> JoinAt c env m kk z φ h) : NsAt c env res k loc φ h
inductive CellAt (c : Cx) (φ : List Addr) (h : Heap) (ca : Addr) : Prop
 | mk (h1 : ca ∉ φ) (h2 : c.h0.get? ca = none) (o : Obj) (h3 : h.get? ca = some o) (h4 : o.cls = .type "cell") (h5 : ∃ r, o.data = .cell r) : CellAt c φ h ca
theorem CellAt.out {c : Cx} {φ : List Addr} {h : Heap} {ca : Addr} (q : CellAt c φ h ca) : ca ∉ φ /\ c.h0.get? ca = none := let ⟨h1, h2, _, _, _, _⟩ := q; ⟨h1, h2⟩
structure FSim (c : Cx) (env : Env) (res : Res) (k : Clo) (loc : Loc) (φ : List Addr) (h : Heap) : Prop where
 fn : env.scope.kind = .function
 gl : env.globals = mainGlobals
 bl : env.builtins = builtinsNs
 ns : NsAt c env res k loc φ h
 len : res.n <= loc.length
 Lφ : env.locals ∉ φ
 L0 : c.h0.get? env.locals = none
 cells : ∀ x ca, env.cells.lookup x = some ca -> CellAt c φ h ca
section
variable {c : Cx} {φ φ' : List Addr} {s s' : Shared}
theorem Ns_slots {h h' : Heap} {L : Addr} {m : Str -> Option Value} (hn : h.Ns L m) (hk : ∀ o, h.get? L = some o -> ∃ sl, h'.get? L = some { o with slots := sl }) : h'.Ns L m := by
 obtain ⟨o, es, ep, ho, hd, r⟩ := hn
 obtain ⟨sl, h1⟩ := hk o ho
 exact ⟨_, es, ep, h1, hd, r⟩
structure Off (env : Env) (X : List Addr) (s : Shared) : Prop where
 loc : env.locals ∉ X
 cells : ∀ x ca, env.cells.lookup x = some ca -> ca ∉ X
 clo : ∀ ca o, s.heap.get? ca = some o -> o.cls = .type "cell" -> ca < env.locals -> ca ∉ X
theorem Off.nil {env : Env} {s : Shared} : Off env [] s := ⟨by simp, by simp, by simp⟩
theorem znh {X : List Addr} {cc : Addr} {q : Str} {h h' : Heap} (e : Kp X φ h φ' h') (hX : OwnX c X h) (k : CodeO h cc q) (hn : cc ∉ φ) : CodeO h' cc q := by
 obtain ⟨o, vs, t, h1, h2, h3, h4⟩ := k
 exact ⟨o, vs, t, znp e hX h1 hn (zki h2 rfl), h2, h3, h4⟩
theorem CloRep.mono {X : List Addr} {B : Nat} {kk z fv} (e : Kp X φ s.heap φ' s'.heap) (hX : OwnX c X s.heap) (hB : ∀ ca o, s.heap.get? ca = some o -> o.cls = .type "cell" -> ca < B -> ca ∉ X) (h : CloRep c φ s.heap B kk z fv) : CloRep c φ' s'.heap B kk z fv := by
 obtain ⟨a, o, fd, nm, ca, oc, rv, hr, ha, ho, hc, hd, hk, hcl, hca, hlt, hoc, hcc, hdc, hx, h0, cc, hcd, hco, hcφ⟩ := h
 exact ⟨a, o, fd, nm, ca, oc, rv, hr, e.notin ho ha, znp e hX ho ha (zki hc rfl), hc, hd, hk, hcl, e.notin hoc hca, hlt,
  e.keep ca oc hoc hca (hB ca oc hoc hcc hlt) (by rw [hcc]; decide), hcc, hdc, Rep.mono e hX hx, h0, cc, hcd, znh e hX hco hcφ, let ⟨_, _, _, g1, _, _, _⟩ := hco; e.notin g1 hcφ⟩
theorem SlotL.mono {X : List Addr} {m : Option Value} {ov : Option V} (e : Kp X φ s.heap φ' s'.heap) (hX : OwnX c X s.heap) : SlotL c φ s.heap m ov -> SlotL c φ' s'.heap m ov
 | .yes v r h1 h2 => .yes v r h1 (Rep.mono e hX h2)
 | .no => .no
theorem zph {X : List Addr} {ca : Addr} {r : Option Value} (e : Kp X φ s.heap φ' s'.heap) (k0 : ca ∉ X) (k1 : CellAt c φ s.heap ca) (h : s.heap.IsCell ca r) : s'.heap.IsCell ca r := by
 obtain ⟨k1, k2, o', k3, k4⟩ := k1
 obtain ⟨o, h2, h2'⟩ := h
 cases zaa (h2.symm.trans k3)
 exact ⟨_, e.keep ca _ h2 k1 k0 (by rw [k4]; decide), h2'⟩
theorem SlotC.imp {h h' : Heap} {env : Env} {x : Str} {ov : Option V} (hc : ∀ ca r, env.cells.lookup x = some ca -> h.IsCell ca r -> h'.IsCell ca r) (hr : ∀ v r, Rep c φ h v r -> Rep c φ' h' v r) : SlotC c φ h env x ov -> SlotC c φ' h' env x ov
 | .yes v ca r h1 h2 h3 => .yes v ca r h1 (hc ca _ h1 h2) (hr v r h3)
 | .no ca h1 h2 => .no ca h1 (hc ca _ h1 h2)
theorem SlotC.mono {X : List Addr} {env : Env} {x : Str} {ov : Option V} (e : Kp X φ s.heap φ' s'.heap) (hX : OwnX c X s.heap) (hc : ∀ x ca, env.cells.lookup x = some ca -> ca ∉ X /\ CellAt c φ s.heap ca) (h : SlotC c φ s.heap env x ov) : SlotC c φ' s'.heap env x ov :=
 h.imp (fun ca _ h1 h2 => zph e (hc x ca h1).1 (hc x ca h1).2 h2) fun _ _ h => Rep.mono e hX h
theorem zef.mono {X : List Addr} {env : Env} {m : Str -> Option Value} {x : Str} {ov : Option V} (e : Kp X φ s.heap φ' s'.heap) (hX : OwnX c X s.heap) (hc : ∀ x ca, env.cells.lookup x = some ca -> ca ∉ X /\ CellAt c φ s.heap ca)
  (h : zef c φ s.heap env m x ov) : zef c φ' s'.heap env m x ov := zor.imp h (fun _ h => SlotL.mono e hX h) (SlotC.mono e hX hc)
theorem FSim.lcls {env : Env} {res : Res} {k : Clo} {loc : Loc} {h : Heap} (F : FSim c env res k loc φ h) {o : Obj} (ho : h.get? env.locals = some o) : o.cls ≠ .none := fun q => by
 obtain ⟨m, ⟨_, o', h3, h4⟩, _, _⟩ := F.ns
 obtain rfl := zaa (ho.symm.trans h3)
 rcases h4 with h4 | h4
 ·rw [h4.1] at q; cases q
 ·rw [h4.1] at q; cases q
theorem FSim.off {X : List Addr} {env : Env} {res : Res} {k : Clo} {loc : Loc} (F : FSim c env res k loc φ s.heap) (e : Kp X φ s.heap φ' s'.heap) (hX : OwnX c X s.heap) (hO : Off env X s)
  (hL : ∀ o, s.heap.get? env.locals = some o -> ∃ sl, s'.heap.get? env.locals = some { o with slots := sl }) : FSim c env res k loc φ' s'.heap where
 fn := F.fn
 gl := F.gl
 bl := F.bl
 len := F.len
 ns := by
  obtain ⟨m, ⟨hn, o, ho, hc⟩, h1, h2⟩ := F.ns
  obtain ⟨sl, h'⟩ := hL o ho
  refine ⟨m, ⟨Ns_slots hn hL, _, h', hc⟩, fun x i hx => (h1 x i hx).mono e hX fun x ca h => ⟨hO.cells x ca h, F.cells x ca h⟩, fun kk z hk => ?_⟩
  obtain ⟨h3, fv, h4, h5⟩ := h2 kk z hk
  exact ⟨h3, fv, h4, h5.mono e hX hO.clo⟩
 Lφ := by
  obtain ⟨m, ⟨_, o, ho, _⟩, _⟩ := F.ns
  exact e.notin ho F.Lφ
 L0 := F.L0
 cells x ca h := by
  obtain ⟨h1, h2, o, h3, h4, h5⟩ := F.cells x ca h
  exact ⟨e.notin h3 h1, h2, o, e.keep ca o h3 h1 (hO.cells x ca h) (by rw [h4]; decide), h4, h5⟩
theorem FSim.mono {env : Env} {res : Res} {k : Clo} {loc : Loc} (F : FSim c env res k loc φ s.heap) (e : Ext [] φ s φ' s') : FSim c env res k loc φ' s'.heap :=
 F.off e.toKp OwnX.nil Off.nil fun o ho => e.frame _ o ho F.Lφ (by simp) (F.lcls ho)
end
inductive Out (c : Cx) (φ : List Addr) (s : Shared) (Q : V -> Hp -> Prop) (r : Value) (s' : Shared) : Prop
 | mk (φ' : List Addr) (H' : Hp) (v : V) (e : Ext [] φ s φ' s') (S : Sim c φ' H' s') (R : Rep c φ' s'.heap v r) (q : Q v H') : Out c φ s Q r s'
inductive TbAt (c : Cx) (φ : List Addr) (s : Shared) (h : Heap) (vs : Array Value) : Prop
 | mk (T : Addr) (oT : Obj) (ts : Array Value) (h1 : vs[1]? = some (.ref T)) (h2 : s.heap.get? T = none) (h3 : T ∉ φ) (h4 : c.h0.get? T = none) (h5 : h.get? T = some oT) (h6 : oT.cls = .type "traceback") (h7 : oT.data = .fields ts) (h8 : 3 < ts.size) : TbAt c φ s h vs
inductive XRep (c : Cx) (φ : List Addr) (s : Shared) (h : Heap) (x : V) (e : Value) : Prop
 | mk (R : Rep c φ h x e) (hx : ∃ cn y, x = .exc cn y) (a : Addr) (o : Obj) (vs : Array Value) (h3 : e = .ref a) (h4 : s.heap.get? a = none) (h5 : h.get? a = some o) (h6 : o.data = .fields vs) (h7 : vs[1]? = some .none \/ TbAt c φ s h vs) : XRep c φ s h x e
inductive OutX (c : Cx) (φ : List Addr) (s : Shared) (E : XPost) (e : Value) (s' : Shared) : Prop
 | mk (φ' : List Addr) (H' : Hp) (x : V) (ex : Ext [] φ s φ' s') (S : Sim c φ' H' s') (R : XRep c φ' s s'.heap x e) (q : E x H') : OutX c φ s E e s'
theorem Ext.fresh {c : Cx} {X φ φ₁ : List Addr} {H : Hp} {s s₁ : Shared} (e : Ext X φ s φ₁ s₁) (S : Sim c φ₁ H s₁) {b : Addr} (hb : s₁.heap.get? b = none) : s.heap.get? b = none := by
 cases q : s.heap.get? b with
 | none => rfl
 | some o =>
  by_cases hφ : b ∈ φ
  ·obtain ⟨o', h1, _⟩ := S.isList (e.pre.subset hφ)
   rw [hb] at h1; cases h1
  ·by_cases hX : b ∈ X
   ·obtain ⟨o', h1⟩ := e.alive b o q hX
    rw [hb] at h1; cases h1
   ·obtain ⟨o', h1⟩ := e.live b o q hφ hX
    rw [hb] at h1; cases h1
theorem XRep.lift {c : Cx} {X φ φ₁ φ₂ : List Addr} {H : Hp} {s s₁ : Shared} {h : Heap} {x : V} {r : Value} (e : Ext X φ s φ₁ s₁) (S : Sim c φ₁ H s₁) (q : XRep c φ₂ s₁ h x r) : XRep c φ₂ s h x r := by
 obtain ⟨h1, h2, a, o, vs, h3, h4, h5, h6, h7⟩ := q
 exact ⟨h1, h2, a, o, vs, h3, e.fresh S h4, h5, h6, h7.imp id fun ⟨T, oT, ts, g1, g2, g3, g4, g5, g6, g7, g8⟩ => ⟨T, oT, ts, g1, e.fresh S g2, g3, g4, g5, g6, g7, g8⟩⟩
theorem Out.lift {c : Cx} {φ φ₁ : List Addr} {s s₁ s₂ : Shared} {Q : V -> Hp -> Prop} {r : Value} (e : Ext [] φ s φ₁ s₁) (h : Out c φ₁ s₁ Q r s₂) : Out c φ s Q r s₂ :=
 let ⟨φ', H', v, e', S, R, hq⟩ := h; ⟨φ', H', v, e.trans e', S, R, hq⟩
theorem OutX.lift {c : Cx} {φ φ₁ : List Addr} {H : Hp} {s s₁ s₂ : Shared} {E : XPost} {r : Value} (e : Ext [] φ s φ₁ s₁) (S₁ : Sim c φ₁ H s₁) (h : OutX c φ₁ s₁ E r s₂) : OutX c φ s E r s₂ :=
 let ⟨φ', H', v, e', S, R, hq⟩ := h; ⟨φ', H', v, e.trans e', S, R.lift e S₁, hq⟩
theorem Out.mono {c : Cx} {φ : List Addr} {s s₂ : Shared} {Q Q' : V -> Hp -> Prop} {r : Value} (hq : ∀ v H, Q v H -> Q' v H) (h : Out c φ s Q r s₂) : Out c φ s Q' r s₂ :=
 let ⟨φ', H', v, e', S, R, h⟩ := h; ⟨φ', H', v, e', S, R, hq _ _ h⟩
theorem OutX.mono {c : Cx} {φ : List Addr} {s s₂ : Shared} {Q Q' : XPost} {r : Value} (hq : ∀ v H, Q v H -> Q' v H) (h : OutX c φ s Q r s₂) : OutX c φ s Q' r s₂ :=
 let ⟨φ', H', v, e', S, R, h⟩ := h; ⟨φ', H', v, e', S, R, hq _ _ h⟩
theorem OutX.no {c : Cx} {φ : List Addr} {s s₂ : Shared} {P : Prop} {r : Value} (h : OutX c φ s noX r s₂) : P :=
 let ⟨_, _, _, _, _, _, h⟩ := h; h.elim
noncomputable def CloArg (c : Cx) (φ : List Addr) (h : Heap) : Clo -> List Value -> Prop
 | none, l => l = []
 | some (kk, z), l => ∃ fv, l = [fv] /\ CloRep c φ h h.objs.size kk z fv
noncomputable def Ends (c : Cx) (φ : List Addr) (s : Shared) (Q : V -> Hp -> Prop) (E : XPost) (r : Result) (s' : Shared) : Prop :=
 match r with
 | .ok (.ret v) => Out c φ s Q v s'
 | .ok _ => False
 | .error e => OutX c φ s E e s'
inductive CallsI (c : Cx) (q : Bool) (d : Nat) (f : Str) (vs : List V) (k : Clo) (Q : V -> Hp -> Prop) (E : XPost) (H : Hp) : Prop
 | mk (a : Addr) (o : Obj) (fd : FuncData) (g1 : c.g f = some (.ref a)) (g2 : c.h0.get? a = some o) (g3 : o.data = .func fd)
   (g4 : ∀ A φ s args extra, OkA c A q d φ s.heap -> Sim c φ H s -> RepL c φ s.heap vs args -> CloArg c φ s.heap k extra -> codeAny (model c.prog c.w) A (.call (.ref a) ⟨args ++ extra, []⟩) (Ends c φ s Q E) s) : CallsI c q d f vs k Q E H
noncomputable def Calls (c : Cx) : CallT := fun q d f vs k Q E H => CallsI c q d f vs k Q E H
noncomputable def EndQ (Q : V -> Hp -> Prop) : SPost := fun f _ H => match f with
 | .ret v => Q v H
 | .next => Q .none H
noncomputable def EndX (E : XPost) : SX := fun x _ H => E x H
noncomputable def zb3 (c : Cx) (env : Env) (res : Res) (e : Expr) (x : Ex) : Prop :=
 ∀ A q d k loc φ H s Q E, OkF c A q d φ s.heap -> FSim c env res k loc φ s.heap -> Sim c φ H s -> wpE (Calls c) q d k x loc Q E H ->
  wpAny (model c.prog c.w) A (eval e env) (Out c φ s Q) (OutX c φ s E) s
noncomputable def Does (c : Cx) (A : Around) (φ : List Addr) (s : Shared) (m : Sem Value) (v : V) (H' : Hp) : Prop :=
 ∀ E : Value -> Shared -> Prop, wpAny (model c.prog c.w) A m (Out c φ s fun x H => x = v /\ H = H') E s
theorem Does.use {c : Cx} {A : Around} {φ φ₀ : List Addr} {s s₀ : Shared} {m : Sem Value} {v : V} {H' : Hp} {Q : V -> Hp -> Prop} {E : Value -> Shared -> Prop} (h : Does c A φ s m v H') (e : Ext [] φ₀ s₀ φ s) (hq : Q v H') :
  wpAny (model c.prog c.w) A m (Out c φ₀ s₀ Q) E s :=
 wpAny_mono (h E) (fun _ _ h => Out.lift e (Out.mono (fun _ _ ⟨h1, h2⟩ => by rw [h1, h2]; exact hq) h)) fun _ _ h => h
theorem Out.at {c : Cx} {φ : List Addr} {H : Hp} {s : Shared} {v : V} {r : Value} {t : Nat} {Q : V -> Hp -> Prop} (S : Sim c φ H s) (R : Rep c φ s.heap v r) (hq : Q v H) : Out c φ s Q r { s with toks := t } :=
 ⟨φ, H, v, Ext.of_heap rfl rfl, S.tok t, R, hq⟩
theorem Out.at' {c : Cx} {φ : List Addr} {H : Hp} {s : Shared} {v : V} {r : Value} {Q : V -> Hp -> Prop} (S : Sim c φ H s) (R : Rep c φ s.heap v r) (hq : Q v H) : Out c φ s Q r s :=
 ⟨φ, H, v, Ext.refl, S, R, hq⟩
theorem Out.eq {c : Cx} {φ : List Addr} {s s' : Shared} {v : V} {H' : Hp} {r : Value} {Q : V -> Hp -> Prop} (h : Out c φ s (fun x H => x = v /\ H = H') r s') (hq : Q v H') : Out c φ s Q r s' :=
 Out.mono (fun _ _ h => by rw [h.1, h.2]; exact hq) h
theorem Out.same {c : Cx} {φ : List Addr} {H : Hp} {s : Shared} {v : V} {r : Value} {t : Nat} (S : Sim c φ H s) (R : Rep c φ s.heap v r) : Out c φ s (fun x H' => x = v /\ H' = H) r { s with toks := t } :=
 ⟨φ, H, v, Ext.of_heap rfl rfl, S.tok t, R, rfl, rfl⟩
theorem Out.same' {c : Cx} {φ : List Addr} {H : Hp} {s : Shared} {v : V} {r : Value} (S : Sim c φ H s) (R : Rep c φ s.heap v r) : Out c φ s (fun x H' => x = v /\ H' = H) r s :=
 ⟨φ, H, v, Ext.refl, S, R, rfl, rfl⟩
end Bn
namespace Bn
open PySem PyProof.Rows
structure Cx.Ok (c : Cx) : Prop where
 lim : c.h0.NoLimit
 gl : c.h0.Ns mainGlobals c.g
 bl : c.h0.Ns builtinsNs c.b
 seer : c.h0.NoSeer
 tree : c.prog.given.tree = none
noncomputable def Op.real : Op -> Operator
 | .add => .Add | .sub => .Sub | .mul => .Mult | .div => .FloorDiv | .mod => .Mod
 | .pow => .Pow
section
variable {c : Cx} {A : Around} {q : Bool} {d : Nat} {φ : List Addr} {H H' : Hp} {s : Shared}
theorem Sim.lim (S : Sim c φ H s) (O : c.Ok) : s.heap.NoLimit := O.lim.keeps S.stays
theorem OkF.seer (O : c.Ok) (hA : OkF c A q d φ s.heap) (S : Sim c φ H s) : SeerAt (model c.prog c.w) A s.heap := by
 obtain ⟨l, h1, h2⟩ := hA.fr
 cases l with
 | nil => exact absurd h1 hA.ne
 | cons env l =>
  obtain ⟨⟨_, g1, g2, g3, g4⟩, _⟩ := h2 env zae
  exact SeerAt.of (O.seer.keeps S.stays) O.tree h1 g1 g2 g3 g4
abbrev lobj (vs : Array Value) (n : Nat) : Obj := { cls := .type "list", data := .seq vs n }
inductive Got (c : Cx) (φ : List Addr) (h : Heap) (i : Nat) (xs : List V) (r : Value) : Prop
 | mk (a : Addr) (vs : Array Value) (n : Nat) (hr : r = .ref a) (ha : φ[i]? = some a) (ho : h.get? a = some (lobj vs n)) (hl : RepL c φ h xs vs.toList) (hz : xs.length <= sizeLine) (z : vs.size = xs.length) : Got c φ h i xs r
theorem Sim.getP (S : Sim c φ H s) {i : Nat} {r : Value} {xs : List V} (R : Rep c φ s.heap (.lst i) r) (h : H[i]? = some xs) : Got c φ s.heap i xs r := by
 obtain ⟨a, hr, ha⟩ := R
 obtain ⟨a', ⟨cls, dd, data, sl⟩, vs, n, h1, h2, h3, h4, h5, h6, h7, h8⟩ := S.lists i xs h
 obtain rfl := zaa (ha.symm.trans h1)
 dsimp only at h3 h4 h7 h8
 subst h3 h4 h7 h8
 exact ⟨a, vs, n, hr, ha, h2, h5, h6, za3.symm.trans h5.length⟩
theorem zce {a : Addr} {vs : Array Value} {n : Nat} {h : Heap} (ho : h.get? a = some (lobj vs n)) : h.IsList a vs := ⟨_, ho, rfl, n, rfl⟩
theorem zky {l : List Addr} (h : l.Nodup) {i j : Nat} {a : Addr} (hi : l[i]? = some a) (hj : l[j]? = some a) : i = j := by
 obtain ⟨h1, e1⟩ := zbj.mp hi
 obtain ⟨h2, e2⟩ := zbj.mp hj
 rcases Nat.lt_trichotomy i j with hlt | hlt | hlt
 ·exact absurd (e1.trans e2.symm) (List.pairwise_iff_getElem.mp h i j h1 h2 hlt)
 ·exact hlt
 ·exact absurd (e2.trans e1.symm) (List.pairwise_iff_getElem.mp h j i h2 h1 hlt)
theorem Sim.put (S : Sim c φ H s) {i : Nat} {a : Addr} {xs : List V} {vs : Array Value} {n : Nat} {h' : Heap} (ha : φ[i]? = some a) (hs : Heap.SameBut a s.heap h') (hn : h'.get? a = some (lobj vs n)) (hr : RepL c φ s.heap xs vs.toList) (hz : xs.length <= sizeLine) :
  Ext [] φ s φ { s with heap := h' } /\ Sim c φ (H.set i xs) { s with heap := h' } := by
 have ham : a ∈ φ := zaw ha
 have e : Ext [] φ s φ { s with heap := h' } := Ext.of_sameBut (s' := { s with heap := h' }) hs ham (by simp) rfl
 refine ⟨e, ⟨fun b o h => ?_, S.fresh, S.nodup, by simp [S.len], fun j ys h => ?_, S.gens, fun x hx => (S.tab x hx).mono (fun b ps hb => (hs.2 b fun q => by obtain ⟨o, h1, h2⟩ := S.isList ham; rw [q, h1] at hb; cases hb; cases h2).trans hb) fun b o hb hc => (hs.2 b fun q => by obtain ⟨o, h1, h2⟩ := S.isList ham; rw [q, h1] at hb; cases hb; rw [hc] at h2; exact absurd h2 (by decide)).trans hb⟩⟩
 ·exact (hs.2 b fun q => by rw [q, S.fresh a ham] at h; cases h).trans (S.stays b o h)
 ·by_cases hji : j = i
  ·subst hji
   have hlt : j < H.length := by rw [<- S.len]; exact (zbj.mp ha).1
   rw [List.getElem?_set_self hlt] at h
   cases h
   exact ⟨a, _, vs, n, ha, hn, rfl, rfl, RepL.mono e.toKp OwnX.nil hr, hz, rfl, rfl⟩
  ·rw [List.getElem?_set_ne (Ne.symm hji)] at h
   obtain ⟨b, o, us, k, h1, h2, h3, h4, h5, h6⟩ := S.lists j ys h
   refine ⟨b, o, us, k, h1, (hs.2 b fun q => hji (zky S.nodup (q ▸ h1) ha)).trans h2, h3, h4, RepL.mono e.toKp OwnX.nil h5, h6⟩
theorem zg2 (S : Sim c φ H s) {xs : List V} {vs : List Value} (hr : RepL c φ s.heap xs vs) (hz : xs.length <= sizeLine) :
  Out c φ s (fun x H' => x = .lst H.length /\ H' = H ++ [xs]) (.ref s.heap.objs.size) { s with heap := s.heap.push { cls := .type "list", data := .seq vs.toArray } } := by
 obtain ⟨e, S'⟩ := S.newList hr hz rfl
 refine ⟨_, _, .lst H.length, e, S', ?_, rfl, rfl⟩
 exact LstAt.mk _ rfl (by rw [zbk (za8 S.len)]; simp [S.len])
theorem zea (S : Sim c φ H s) {xs : List V} {vs : Array Value} (hr : RepL c φ s.heap xs vs.toList) (hz : xs.length <= sizeLine) :
  Out c φ s (fun x H' => x = .lst H.length /\ H' = H ++ [xs]) (.ref s.heap.objs.size) { s with heap := s.heap.push { cls := .type "list", data := .seq vs } } := by
 have := zg2 S hr hz
 simpa using this
theorem zgf (S : Sim c φ H s) {xs : List V} {vs : Array Value} (hr : RepL c φ s.heap xs vs.toList) (hz : xs.length <= sizeLine) {n : Nat} :
  Out c φ s (fun x H' => x = .tup xs /\ H' = H) (.ref s.heap.objs.size) { s with heap := s.heap.push { cls := .type "tuple", data := .seq vs n } } := by
 refine ⟨φ, H, .tup xs, Ext.push, S.push _, ?_, rfl, rfl⟩
 exact TupAt.mk _ _ vs n rfl S.new (Heap.get?_push_size _ rfl) rfl rfl hz (RepL.mono (Ext.push (X := [])).toKp OwnX.nil hr)
theorem zic {a : Int} (h : small a = true) : Builtin.Int.intBits a <= 64 := by
 simp only [small, decide_eq_true_eq] at h
 unfold Builtin.Int.intBits
 split
 ·exact za0 _
 ·rename_i h0
  have h1 : a ≠ 0 := by simpa using h0
  have : a.natAbs.log2 < 63 := (Nat.log2_lt (by exact Ar.ar2 [_] [_] 0x7490a50006100c030800000084294a000c202006100804080000804049085294001840400c20100810000100804294001840300c2000000 (Y8 (Y2 V0 J0) J0) (Y8 (Y5 V0 J0) J0) (Y7 (Y6 (Y5 (Y4 V0 J0) V0) (Y3 J0 V0)) (Y6 (Y5 (Y4 V0 J0) (Y3 V0 J0)) (Y3 V0 J0))) h1 (Ar.na _))).mpr h
  exact Ar.ar1 [_] [] 0xa5000610000308020 (Y0 (Y0 V0 J1) (.l 64)) (Y1 V0 (.l 63)) this
theorem zh8 {α : Type} (l : List α) (n : Nat) : (rep l n).length = n * l.length := by
 induction n with
 | zero => exact (Nat.zero_mul _).symm
 | succ n ih => rw [zmi, zan, ih, Nat.succ_mul, Nat.add_comm]
theorem RepL.rep {h : Heap} {l : List V} {rs : List Value} (hr : RepL c φ h l rs) : ∀ n, RepL c φ h (rep l n) (rep rs n)
 | 0 => rfl
 | n + 1 => hr.append (RepL.rep hr n)
theorem zqt (vs : Array Value) (n : Nat) : ∀ acc : Array Value, (List.foldl (fun x1 x2 => x1 ++ x2) acc (List.replicate n vs)).toList = acc.toList ++ rep vs.toList n := by
 induction n with
 | zero => exact fun acc => (za9 _).symm
 | succ n ih => intro acc; rw [List.replicate_succ, List.foldl_cons, ih, zmi]; simp
theorem add_lst (S : Sim c φ H s) {i j : Nat} {l1 l2 : List V} {x y : Value} {E} (R1 : Rep c φ s.heap (.lst i) x) (R2 : Rep c φ s.heap (.lst j) y) (e1 : H[i]? = some l1) (e2 : H[j]? = some l2) (hz : l1.length + l2.length <= sizeLine) :
  wpAny (model c.prog c.w) A (binaryOp .Add x y) (Out c φ s fun v H' => v = .lst H.length /\ H' = H ++ [l1 ++ l2]) E s := by
 have hsl : sizeLine = 2 ^ 24 := rfl
 obtain ⟨a1, vs, n, rfl, _, ho, hr, _, z1⟩ := S.getP R1 e1
 obtain ⟨a2, ws, n2, rfl, _, ho2, hr2, _, z2⟩ := S.getP R2 e2
 refine concat_meets ⟨_, ho, rfl⟩ ⟨_, ho2, rfl⟩ noFill_list_add seq_list_add PySem.F.slot_list_add PySem.F.entry_list_add (PySem.F.args_list_add_2 _ _) (list_addW a1 a2 vs ws n n2 none none #[] #[] (by exact Ar.ar3 [_,_,_,_,_] [] 0xa5294001840000c20080610080308060 (Y0 (Y0 V0 V1) V2) (Y0 (Y0 V3 V4) V2) (Y2 V0 V3) (Y2 V1 V4) hz z1 z2)) ⟨ho, ho2, ?_⟩
 exact zea S (by rw [Array.toList_append]; exact hr.append hr2) (by rw [zan]; exact hz)
abbrev DoesP (c : Cx) (A : Around) (φ : List Addr) (s : Shared) (m : Sem Value) (p : V × Hp) : Prop := Does c A φ s m p.1 p.2
theorem do_add (S : Sim c φ H s) {v w : V} {x y : Value} {p : V × Hp} (R1 : Rep c φ s.heap v x) (R2 : Rep c φ s.heap w y) (e : addV H v w = some p) : DoesP c A φ s (binaryOp .Add x y) p := by
 intro E
 cases v with
 | int a =>
  obtain ⟨b, hb, rfl⟩ := zah.mp e
  obtain rfl := zcy hb
  obtain ⟨t1, rfl⟩ := R1; obtain ⟨t2, rfl⟩ := R2
  exact add_int (Out.same S rI)
 | str a =>
  obtain ⟨b, hb, f⟩ := zab.mp e
  obtain rfl := zeg hb
  obtain ⟨hz, rfl⟩ := iteS f
  obtain ⟨t1, rfl⟩ := R1; obtain ⟨t2, rfl⟩ := R2
  exact PyProof.Rows.add_str (fun t' tk => Out.same S rS) hz
 | lst a =>
  obtain ⟨x1, e1, f⟩ := zab.mp e
  obtain ⟨_, x2, rfl, e2, g⟩ := zd6 f
  obtain ⟨hz, rfl⟩ := iteS g
  exact add_lst S R1 R2 e1 e2 hz
 | _ => cases e
theorem mul_lst (S : Sim c φ H s) {i : Nat} {nn : Int} {l : List V} {x y : Value} {E} (R1 : Rep c φ s.heap (.lst i) x) (R2 : Rep c φ s.heap (.int nn) y) (e1 : H[i]? = some l) (hz : 0 <= nn /\ nn <= 1000000 /\ nn.toNat * l.length <= sizeLine) :
  wpAny (model c.prog c.w) A (binaryOp .Mult x y) (Out c φ s fun v H' => v = .lst H.length /\ H' = H ++ [rep l nn.toNat]) E s := by
 obtain ⟨t2, rfl⟩ := R2
 obtain ⟨a1, vs, n, rfl, _, ho, hr, _, z1⟩ := S.getP R1 e1
 have hsz' : vs.size * nn.toNat <= 2 ^ 24 := by rw [z1, Nat.mul_comm]; exact hz.2.2
 refine wpAny_binaryOp_repeat_ref (T := "list") (U := "int") (by decide) ⟨_, ho, rfl⟩ (fun s' => typeIs_int s' nn t2) noFill_list_mul F.fills_int_mul F.slot_int_rmul repeat_list F.slot_int_index.lookup
  (call_meets F.slot_int_rmul (typeIs_int s nn t2) F.entry_int_rmul (F.args_int_rmul_2 _ _) (lm_int_rmul_list_any nn t2 a1 vs n none #[])
   ⟨ho, rfl, ⟨_, ho, rfl⟩, call_meets F.slot_list_mul ⟨_, ho, rfl⟩ F.entry_list_mul (F.args_list_mul_2 _ _)
    (lm_list_mul_any a1 vs n none #[] nn t2 (by simp [Builtin.List.listFitsIndex]; lia) (by lia) (by simp [Builtin.List.listTooLong, sizeLine]; lia))
    ⟨ho, ?_⟩⟩)
 refine zea S ?_ (by rw [zh8]; exact hz.2.2)
 rw [zqt]
 split
 ·rename_i hem
  obtain rfl : l = [] := zbm.mp (z1 ▸ by simpa using hem)
  have : ∀ k, rep ([] : List V) k = [] := fun k => zbm.mp (by rw [zh8]; simp)
  rw [this]; rfl
 ·simpa using hr.rep nn.toNat
theorem do_mul (S : Sim c φ H s) {v w : V} {x y : Value} {p : V × Hp} (R1 : Rep c φ s.heap v x) (R2 : Rep c φ s.heap w y) (e : mulV H v w = some p) : DoesP c A φ s (binaryOp .Mult x y) p := by
 intro E
 obtain ⟨nn, hb, f⟩ := zab.mp e
 clear e
 obtain rfl := zcy hb
 cases v with
 | int a =>
  obtain ⟨hs, rfl⟩ := iteS f
  obtain ⟨t1, rfl⟩ := R1; obtain ⟨t2, rfl⟩ := R2
  exact PyProof.Rows.mul_int (Out.same S rI) ((zbv.mp hs).elim (fun h => IntMulOk.of_left (zic h)) fun h => IntMulOk.of_right (zic h))
 | lst a =>
  obtain ⟨x1, e1, g⟩ := zab.mp f
  obtain ⟨hz, rfl⟩ := iteS g
  exact mul_lst S R1 R2 e1 hz
 | _ => cases f
theorem do_bin (O : c.Ok) (hA : OkF c A q d φ s.heap) (S : Sim c φ H s) {op : Op} {v w : V} {x y : Value} {p : V × Hp} (R1 : Rep c φ s.heap v x) (R2 : Rep c φ s.heap w y)
  (e : binV H op v w = some p) : DoesP c A φ s (binaryOp op.real x y) p := by
 cases op with
 | add => exact do_add S R1 R2 e
 | mul => exact do_mul S R1 R2 e
 | sub =>
  obtain ⟨a, b, rfl, rfl, f⟩ := zdf e
  obtain rfl := zaa f
  obtain ⟨t1, rfl⟩ := R1; obtain ⟨t2, rfl⟩ := R2
  exact fun E => PyProof.Rows.sub_int (Out.same S rI)
 | div =>
  obtain ⟨a, b, rfl, rfl, f⟩ := zdf e
  obtain ⟨hb, rfl⟩ := iteN f
  obtain ⟨t1, rfl⟩ := R1; obtain ⟨t2, rfl⟩ := R2
  exact fun E => floordiv_int hb (Out.same S rI) (Or.inr (PySem.PylongRoom.of (S.lim O) (by have := hA.dep; show _ + 100 < 1000; exact Ar.ar1 [_,_] [] 0xa5000610000308020 (Y1 (Y0 V0 (.l 100)) (.l 1000)) (Y0 (Y0 V0 V1) (.l 890)) this) (hA.seer O S)))
 | mod =>
  obtain ⟨a, b, rfl, rfl, f⟩ := zdf e
  obtain ⟨hb, rfl⟩ := iteN f
  obtain ⟨t1, rfl⟩ := R1; obtain ⟨t2, rfl⟩ := R2
  exact fun E => mod_int' hb (Out.same S rI)
 | pow =>
  obtain ⟨a, b, rfl, rfl, f⟩ := zdf e
  obtain ⟨h, rfl⟩ := iteS f
  obtain ⟨t1, rfl⟩ := R1; obtain ⟨t2, rfl⟩ := R2
  exact fun E => pow_int_small h.1 (by lia) (zar (of_decide_eq_true h.2.2) (by decide)) (Out.same S rI)
end
end Bn
namespace Bn
open PySem PyProof.Rows
section
variable {prog : Program} {w : World} {A : Around} {E : Value -> Shared -> Prop} {s : Shared}
theorem zqo {a : Addr} {o : Obj} {es : Array DictEntry} {n i : Nat} {k : Int} {Q : Option Nat -> Shared -> Prop} (ho : s.heap.get? a = some o) (hd : o.data = .dict es n) (g : zm4 es) (hi : i < es.size) (h : Q (some i) s) :
  wpAny (model prog w) A (dictFind a es[i].key k) Q E s := by
 obtain ⟨x, t, ex⟩ := g.1 es[i] (Array.getElem_mem hi)
 have hall : (es.all fun e => isExactStrKey e.key) = true := Array.all_eq_true_iff_forall_mem.mpr fun e he => by
  obtain ⟨y, u, ey⟩ := g.1 e he
  rw [ey]; rfl
 have hix : es.findIdx? (fun e => e.key.isStr x) = some i := by
  refine Array.findIdx?_eq_some_iff_getElem.mpr ⟨hi, by rw [ex]; exact beq_self_eq_true x, fun j hj hq => ?_⟩
  have hjs : j < es.size := zar hj hi
  obtain ⟨y, u, ey⟩ := g.1 es[j] (Array.getElem_mem hjs)
  rw [ey] at hq
  obtain rfl : y = x := eq_of_beq hq
  have l1 : i < (es.toList.map fun e => keyS e.key).length := by rw [zaf, za3]; exact hi
  have l2 : j < (es.toList.map fun e => keyS e.key).length := zar hj l1
  refine List.pairwise_iff_getElem.mp g.2 j i l2 l1 hj ?_
  rw [List.getElem_map, List.getElem_map, Array.getElem_toList, Array.getElem_toList, ex, ey]; rfl
 unfold dictFind
 rw [ex]
 refine wpAny_holding (wpAny_bind (wpAny_dictEntries ho hd ?_))
 dsimp only
 rw [if_pos hall]
 unfold foundByValue
 rw [hix]
 dsimp only
 rw [zbt hi]
 dsimp only
 refine wpAny_bind (wpAny_dictEpoch ho hd ?_)
 rw [ex]
 refine wpAny_bind (wpAny_eqBool_str ?_)
 rw [decide_eq_true rfl]
 refine wpAny_bind (wpAny_dictEpoch ho hd ?_)
 rw [if_neg (by rw [bne_self_eq_false]; exact zbw)]
 rw [if_pos rfl]
 exact wpAny_bind (wpAny_rule (wpAny_pure h))
theorem zrj {nm : String} {a : Addr} {o : Obj} {es : Array DictEntry} {n : Nat} {Q : Bool -> Shared -> Prop} (ho : s.heap.get? a = some o) (hd : o.data = .dict es n) (g : zm4 es) (hm : sysModules < a) (h : Q true s) :
  wpAny (model prog w) A (Builtin.Dict.samePairs nm a a) Q E s := by
 have hne : ¬ (a == sysModules) = true := fun e => za2 _ ((eq_of_beq e) ▸ hm)
 unfold Builtin.Dict.samePairs Builtin.Dict.showsAll
 rw [if_neg hne]
 refine wpAny_bind (wpAny_pure (wpAny_bind (wpAny_pure ?_)))
 refine wpAny_bind (wpAny_dictEntries ho hd ?_)
 refine wpAny_bind (wpAny_dictEntries ho hd ?_)
 rw [if_neg (by rw [bne_self_eq_false]; exact zbw)]
 refine wpAny_bind (wpAny_dictEpoch ho hd ?_)
 refine wpAny_bind ?_
 rw [Std.Legacy.Range.forIn_eq_forIn_range']
 refine wpAny_forIn_list _ (fun rest q s' => s' = s /\ q = (none, ()) /\ ∀ x ∈ rest, x < es.size) _ ?_ ?_ _ _ ⟨rfl, rfl, fun x hx => ?_⟩
 ·rintro i rest q s' ⟨rfl, rfl, hr⟩
  have hi : i < es.size := hr i zae
  refine wpAny_bind (wpAny_dictEntries ho hd ?_)
  rw [zbt hi]
  dsimp only
  refine wpAny_bind (wpAny_holding (wpAny_bind (zqo ho hd g hi ?_)))
  refine wpAny_bind (wpAny_dictEntries ho hd ?_)
  rw [zbt hi]
  dsimp only
  refine wpAny_holding ?_
  unfold eqBool
  refine wpAny_holding ?_
  rw [if_pos (beq_self_eq_true _)]
  refine wpAny_bind (wpAny_rule (wpAny_pure ?_))
  rw [if_neg (show ¬ (!true) = true from zbw)]
  refine wpAny_bind (wpAny_dictEpoch ho hd ?_)
  rw [if_neg (by rw [bne_self_eq_false]; exact zbw)]
  exact wpAny_pure ⟨rfl, rfl, fun x hx => hr x (zaj _ hx)⟩
 ·rintro q s' ⟨rfl, rfl, _⟩
  exact wpAny_pure h
 ·obtain ⟨j, hj, rfl⟩ := List.mem_range'.mp hx
  simpa [Std.Legacy.Range.size] using hj
theorem cmp_self {a : Addr} {o : Obj} {es : Array DictEntry} {n : Nat} {Q : Value -> Shared -> Prop} (ho : s.heap.get? a = some o) (hc : o.cls = .type "dict") (hd : o.data = .dict es n) (g : zm4 es) (hm : sysModules < a) (hu : A.units < cLine) (h : Q (.bool true) s) :
  wpAny (model prog w) A (compareOp .Eq (.ref a) (.ref a)) Q E s := by
 have hT : s.TypeIs (.ref a) "dict" := ⟨o, ho, hc⟩
 refine wpAny_richCompare_same_room (op := .Eq) hT hT PySem.F.slot_dict_eq (wpAny_call_entry PySem.F.slot_dict_eq hT PySem.F.entry_dict_eq ?_ (PySem.F.args_dict_eq_2 _ _)) hu
 show wpAny _ _ (Builtin.Dict.dictSlotArgs "__eq__" ⟨[.ref a, .ref a], []⟩ >>= _) _ _ s
 refine wpAny_bind ?_
 unfold Builtin.Dict.dictSlotArgs
 refine wpAny_bind (wpAny_notOrdered_dict hT ?_)
 show wpAny _ _ (pure (Value.ref a, Value.ref a)) _ _ s
 refine wpAny_pure ?_
 refine wpAny_bind (wpAny_isInstance (T := "dict") hT PySem.F.sub_dict_dict ?_)
 rw [if_neg (show ¬ (!true) = true from zbw)]
 refine wpAny_bind (wpAny_pure (wpAny_bind (wpAny_pure ?_)))
 refine wpAny_bind (zrj ho hd g hm ?_)
 exact wpAny_pure ⟨_, rfl, (fun x => nomatch x), h⟩
end
end Bn
namespace Bn
open PySem PyProof.Rows
noncomputable def Cm.real : Cm -> CmpOp
 | .lt => .Lt | .le => .LtE | .gt => .Gt | .ge => .GtE | .eq => .Eq | .ne => .NotEq | .isIn => .In
 | .notIn => .NotIn
 | .is => .Is
section
variable {c : Cx} {A : Around} {q : Bool} {d : Nat} {φ : List Addr} {H H' : Hp} {s : Shared}
inductive ReadsD (h : Heap) (r : Value) (p : PyData) (n : Nat) : Prop
 | mk (as : List Addr) (hr : Reads h r p as) (hd : p.depth <= n) : ReadsD h r p n
inductive ReadsL (h : Heap) (rs : List Value) (ps : List PyData) (n : Nat) : Prop
 | mk (as : List Addr) (hr : ReadsAll h rs ps as) (hd : PyData.depthAll ps <= n) : ReadsL h rs ps n
theorem ze7 {f : V -> Option PyData} {h : Heap} {n : Nat} (hf : ∀ v p r, f v = some p -> Rep c φ h v r -> ReadsD h r p n) :
  ∀ {xs : List V} {rs : List Value} {ps : List PyData}, mapO f xs = some ps -> RepL c φ h xs rs -> ReadsL h rs ps n
 | [], _, _, e, R => by
  obtain rfl := R.nil_inv
  obtain rfl := zaa e
  exact ⟨_, .nil, za0 _⟩
 | x :: xs, _, _, e, R => by
  obtain ⟨y, ys, h1, h2, rfl⟩ := zb9 e
  obtain ⟨r, rs, rfl, R1, R2⟩ := R.uncons
  obtain ⟨as, ra, da⟩ := hf x y r h1 R1
  obtain ⟨bs, rb, db⟩ := ze7 hf h2 R2
  exact ⟨_, .cons ra rb, Nat.max_le.mpr ⟨da, db⟩⟩
theorem zif {v : V} {p : PyData} {r : Value} {h : Heap} (n : Nat) (R : Rep c φ h v r) (e : atomP v = some p) : ReadsD h r p n := by
 cases v with
 | none => obtain rfl := zaa e; obtain rfl := R; exact ⟨_, by constructor, za0 _⟩
 | bool => obtain rfl := zaa e; obtain rfl := R; exact ⟨_, by constructor, za0 _⟩
 | int => obtain rfl := zaa e; obtain ⟨t, rfl⟩ := R; exact ⟨_, by constructor, za0 _⟩
 | str => obtain rfl := zaa e; obtain ⟨t, rfl⟩ := R; exact ⟨_, by constructor, za0 _⟩
 | _ => cases e
theorem zgs (S : Sim c φ H s) : ∀ (n : Nat) (v : V) (p : PyData) (r : Value), toP n H v = some p -> Rep c φ s.heap v r -> ReadsD s.heap r p n
 | 0, v, p, r, e, R => zif 0 R e
 | n + 1, v, p, r, e, R => by
  cases v with
  | tup l =>
   obtain ⟨ps, e1, rfl⟩ := zah.mp e
   obtain ⟨a, o, vs, m, rfl, _, ho, hc, hd, _, hl⟩ := R
   obtain ⟨as, ra, da⟩ := ze7 (zgs S n) e1 hl
   exact ⟨_, .tuple ho hc hd ra, Nat.succ_le_succ da⟩
  | lst i =>
   obtain ⟨ps, e1, rfl⟩ := zah.mp e
   obtain ⟨xs, e2, e3⟩ := zab.mp e1
   obtain ⟨a, vs, m, rfl, _, ho, hl, _⟩ := S.getP R e2
   obtain ⟨as, ra, da⟩ := ze7 (zgs S n) e3 hl
   exact ⟨_, .list ho rfl rfl ra, Nat.succ_le_succ da⟩
  | _ => exact zif _ R e
inductive EqI (h : Heap) (x y : Value) (b : Bool) : Prop
 | mk (p p' : PyData) (as bs : List Addr) (ra : Reads h x p as) (rb : Reads h y p' bs) (l : p.canLay0 = true) (l' : p'.canLay0 = true) (da : p.depth <= 9) (db : p'.depth <= 9) (e : PyData.eqv p p' = b) : EqI h x y b
theorem zm3 (S : Sim c φ H s) {v w : V} {x y : Value} {b : Bool} (R1 : Rep c φ s.heap v x) (R2 : Rep c φ s.heap w y) (e : eqV H v w = some b) : EqI s.heap x y b := by
 obtain ⟨p, e1, f⟩ := zab.mp e
 obtain ⟨p', e2, g⟩ := zab.mp f
 obtain ⟨h, rfl⟩ := iteS g
 obtain ⟨as, ra, da⟩ := zgs S 9 v p x e1 R1
 obtain ⟨bs, rb, db⟩ := zgs S 9 w p' y e2 R2
 exact ⟨p, p', as, bs, ra, rb, (zag.mp h).1, (zag.mp h).2, da, db, rfl⟩
theorem zdy {h : Heap} : ∀ {xs : List V} {rs : List Value} {l : List Int}, RepL c φ h xs rs -> zhn xs = some l -> IntsAre rs l
 | [], _, _, R, e => by
  obtain rfl := R.nil_inv
  obtain rfl := zaa e
  exact .nil
 | x :: xs, _, _, R, e => by
  obtain ⟨r, rs, rfl, R1, R2⟩ := R.uncons
  obtain ⟨i, h1, f⟩ := zab.mp e
  obtain ⟨l', h2, rfl⟩ := zah.mp f
  obtain rfl := zcy h1
  obtain ⟨t, rfl⟩ := R1
  exact .cons _ _ (zdy R2 h2)
theorem zg0 {h : Heap} : ∀ {xs : List V} {rs : List Value} {l : List Str}, RepL c φ h xs rs -> zny xs = some l -> StrsAre rs l
 | [], _, _, R, e => by
  obtain rfl := R.nil_inv
  obtain rfl := zaa e
  exact .nil
 | x :: xs, _, _, R, e => by
  obtain ⟨r, rs, rfl, R1, R2⟩ := R.uncons
  obtain ⟨i, h1, f⟩ := zab.mp e
  obtain ⟨l', h2, rfl⟩ := zah.mp f
  obtain rfl := zeg h1
  obtain ⟨t, rfl⟩ := R1
  exact .cons _ _ (zg0 R2 h2)
theorem zep {h : Heap} : ∀ {xs : List V} {rs : List Value} {l : List Bool}, RepL c φ h xs rs -> zd9 xs = some l -> rs = l.map Value.bool
 | [], _, _, R, e => by
  obtain rfl := R.nil_inv
  obtain rfl := zaa e
  rfl
 | x :: xs, _, _, R, e => by
  obtain ⟨r, rs, rfl, R1, R2⟩ := R.uncons
  obtain ⟨i, h1, f⟩ := zab.mp e
  obtain ⟨l', h2, rfl⟩ := zah.mp f
  obtain rfl := zc6 h1
  obtain rfl := R1
  rw [zep R2 h2]; rfl
noncomputable def isK (k : Int) : Value -> Bool
 | .int i _ => i == k
 | _ => false
theorem isK_any {k : Int} {rs : List Value} {l : List Int} (h : IntsAre rs l) : rs.any (isK k) = decide (k ∈ l) := by
 induction h with
 | nil => rfl
 | cons n t h ih =>
  rw [List.any_cons, ih]
  rw [Bool.eq_iff_iff, show isK k (.int n t) = (n == k) from rfl]; simp only [Bool.or_eq_true, beq_iff_eq, decide_eq_true_eq, zak]
  exact ⟨fun h => h.imp Eq.symm id, fun h => h.imp Eq.symm id⟩
theorem ints_mem {rs : List Value} {l : List Int} (h : IntsAre rs l) : ∀ r ∈ rs, ∃ i t, r = .int i t := by
 induction h with
 | nil => intro r hr; cases hr
 | cons n t h ih =>
  intro r hr
  rcases zak.mp hr with rfl | hr
  ·exact ⟨n, t, rfl⟩
  ·exact ih r hr
noncomputable def isS (k : Str) : Value -> Bool
 | .str i _ => i == k
 | _ => false
theorem zqq {k : Str} {rs : List Value} {l : List Str} (h : StrsAre rs l) : rs.any (isS k) = decide (k ∈ l) := by
 induction h with
 | nil => rfl
 | cons n t h ih =>
  rw [List.any_cons, ih]
  rw [Bool.eq_iff_iff, show isS k (.str n t) = (n == k) from rfl]; simp only [Bool.or_eq_true, beq_iff_eq, decide_eq_true_eq, zak]
  exact ⟨fun h => h.imp Eq.symm id, fun h => h.imp Eq.symm id⟩
theorem zly {rs : List Value} {l : List Str} (h : StrsAre rs l) : ∀ r ∈ rs, ∃ i t, r = .str i t := by
 induction h with
 | nil => intro r hr; cases hr
 | cons n t h ih =>
  intro r hr
  rcases zak.mp hr with rfl | hr
  ·exact ⟨n, t, rfl⟩
  ·exact ih r hr
noncomputable def Cmps (c : Cx) (A : Around) (s : Shared) (o : Cm) (x y : Value) (b : Bool) : Prop := ∀ {Q : Value -> Shared -> Prop} {E : Value -> Shared -> Prop}, Q (.bool b) s -> wpAny (model c.prog c.w) A (compareOp o.real x y) Q E s
theorem zn9 {s : Str} {k : Nat} (h : charOf s = some k) : s = ⟨#[k]⟩ := by
 obtain ⟨⟨l⟩⟩ := s
 match l, h with
 | [_], h => cases h; rfl
theorem do_inS {t : Str} {w : V} {x y : Value} {b : Bool} (R1 : Rep c φ s.heap (.str t) x) (R2 : Rep c φ s.heap w y) (e : inS t w = some b) : Cmps c A s .isIn x y b := by
 intro Q E hq
 obtain ⟨t1, rfl⟩ := R1
 cases w with
 | str u =>
  obtain ⟨k, hk, rfl⟩ := zah.mp e
  obtain rfl := zn9 hk
  obtain ⟨t2, rfl⟩ := R2
  refine P.in_str ?_
  rw [StrLaws.found_one]; exact hq
 | tup l =>
  obtain ⟨l, e', rfl⟩ := zah.mp e
  obtain ⟨a, o, vs, n, rfl, _, ho, hc, hd, _, hr⟩ := R2
  have hi := zg0 hr e'
  refine SeqAt.in_tupleAt (isS t) ⟨o, ho, hc, n, hd⟩ (fun r hr' => ?_) ?_
  ·obtain ⟨i, t, rfl⟩ := zly hi r (Array.mem_toList_iff.mpr hr')
   exact SeqAt.EqAt.str_str _ _ _ _
  ·rw [<- Array.any_toList, zqq hi]; exact hq
 | _ => cases e
theorem do_in (S : Sim c φ H s) {v w : V} {x y : Value} {b : Bool} (R1 : Rep c φ s.heap v x) (R2 : Rep c φ s.heap w y) (e : inV H v w = some b) : Cmps c A s .isIn x y b := by
 cases v with
 | int k =>
  intro Q E hq
  obtain ⟨bb, xs, rfl, e1, f⟩ := zd6 e
  obtain ⟨l, e2, rfl⟩ := zah.mp f
  obtain ⟨a, vs, n, rfl, _, ho, hr, _⟩ := S.getP R2 e1
  obtain ⟨t1, rfl⟩ := R1
  have hi := zdy hr e2
  refine SeqAt.in_listAt (isK k) (zce ho) (fun r hr' => ?_) ?_
  ·obtain ⟨i, t, rfl⟩ := ints_mem hi r (Array.mem_toList_iff.mpr hr')
   exact SeqAt.EqAt.int_int _ _ _ _
  ·rw [<- Array.any_toList, isK_any hi]; exact hq
 | str t => exact do_inS R1 R2 e
 | _ => cases e
theorem do_notIn {v w : V} {x y : Value} {b : Bool} (R1 : Rep c φ s.heap v x) (R2 : Rep c φ s.heap w y) (e : ninV v w = some b) : Cmps c A s .notIn x y b := by
 intro Q E hq
 obtain ⟨k, h1, f⟩ := zab.mp e
 obtain ⟨l0, h2, g⟩ := zab.mp f
 obtain rfl := zeg h1
 obtain rfl := zei h2
 obtain ⟨l, e', rfl⟩ := zah.mp g
 obtain ⟨t1, rfl⟩ := R1
 obtain ⟨a, o, vs, n, rfl, _, ho, hc, hd, _, hr⟩ := R2
 have hi := zg0 hr e'
 refine SeqAt.notIn_tupleAt (isS k) ⟨o, ho, hc, n, hd⟩ (fun r hr' => ?_) ?_
 ·obtain ⟨i, t, rfl⟩ := zly hi r (Array.mem_toList_iff.mpr hr')
  exact SeqAt.EqAt.str_str _ _ _ _
 ·rw [<- Array.any_toList, zqq hi]; exact hq
theorem do_is {v w : V} {x y : Value} {b : Bool} (R1 : Rep c φ s.heap v x) (R2 : Rep c φ s.heap w y) (e : isV v w = some b) : Cmps c A s .is x y b := by
 intro Q E hq
 cases w with
 | none =>
  obtain rfl := R2
  cases v with
  | none => obtain rfl := R1; obtain rfl := zaa e; exact wpAny_is_self rfl hq
  | int i => obtain ⟨t, rfl⟩ := R1; obtain rfl := zaa e; exact wpAny_is_other rfl (by intro h; cases h) hq
  | _ => cases e
 | _ => cases e
theorem do_same (hu : A.units + 100 < cLine) {v w : V} {x y : Value} {b : Bool} (R1 : Rep c φ s.heap v x) (R2 : Rep c φ s.heap w y) (e : sameD v w = some b) : Cmps c A s .eq x y b := by
 cases v with
 | dict0 i =>
  cases w with
  | dict0 j =>
   obtain ⟨rfl, rfl⟩ := iteS (show (if i = j then some true else none) = some b from e)
   obtain ⟨o, es, n, rfl, _, ho, hc, hd, hg⟩ := R1
   obtain ⟨_, _, _, rfl, _⟩ := R2
   exact cmp_self ho hc hd hg.1 hg.2 (za4 (za7 _ _) hu)
  | _ => cases e
 | _ => cases e
theorem do_cmp (hu : A.units + 100 < cLine) (S : Sim c φ H s) {o : Cm} {v w : V} {x y : Value} {b : Bool} (R1 : Rep c φ s.heap v x) (R2 : Rep c φ s.heap w y)
  (e : cmpV H o v w = some b) : Cmps c A s o x y b := by
 cases o with
 | lt =>
  obtain ⟨a, b, rfl, rfl, f⟩ := zdf e
  obtain rfl := zaa f
  obtain ⟨t1, rfl⟩ := R1; obtain ⟨t2, rfl⟩ := R2
  exact PyProof.Rows.lt_int
 | le =>
  obtain ⟨a, b, rfl, rfl, f⟩ := zdf e
  obtain rfl := zaa f
  obtain ⟨t1, rfl⟩ := R1; obtain ⟨t2, rfl⟩ := R2
  exact PyProof.Rows.le_int
 | gt =>
  obtain ⟨a, b, rfl, rfl, f⟩ := zdf e
  obtain rfl := zaa f
  obtain ⟨t1, rfl⟩ := R1; obtain ⟨t2, rfl⟩ := R2
  exact PyProof.Rows.gt_int
 | ge =>
  obtain ⟨a, b, rfl, rfl, f⟩ := zdf e
  obtain rfl := zaa f
  obtain ⟨t1, rfl⟩ := R1; obtain ⟨t2, rfl⟩ := R2
  exact PyProof.Rows.ge_int
 | eq =>
  rcases Option.or_eq_some_iff.mp (show (eqV H v w).or (sameD v w) = some b from e) with e | ⟨_, e⟩
  rotate_left
  ·exact do_same hu R1 R2 e
  obtain ⟨p, p', as, bs, ra, rb, l, l', da, db, rfl⟩ := zm3 S R1 R2 e
  exact SeqAt.compareEq_reads ra rb l l' (by exact Ar.ar2 [_,_,_,_] [] 0x194a528003080601840400c20280610000810421 (Y1 (Y0 V0 (Y5 V1 V2)) V3) (Y1 (Y0 V0 (.l 100)) V3) (Y0 V1 (.l 9)) hu da)
 | ne =>
  obtain ⟨b', e', rfl⟩ := zah.mp e
  obtain ⟨p, p', as, bs, ra, rb, l, l', da, db, rfl⟩ := zm3 S R1 R2 e'
  exact SeqAt.compareNe_reads ra rb l l' (by exact Ar.ar2 [_,_,_,_] [] 0x194a528003080601840400c20280610000810421 (Y1 (Y0 V0 (Y5 V1 V2)) V3) (Y1 (Y0 V0 (.l 100)) V3) (Y0 V1 (.l 9)) hu da)
 | isIn => exact do_in S R1 R2 e
 | notIn => exact do_notIn R1 R2 e
 | is => exact do_is R1 R2 e
end
end Bn
namespace Bn
open PySem PyProof.Rows
inductive SubOps (slice : Expr) (o i : Value) : Prop
 | mk (ops : List Value) (h : subscripted slice false o i = operate ops (getItem o i)) : SubOps slice o i
theorem zik (slice : Expr) (o i : Value) : SubOps slice o i := by
 cases slice with
 | Slice l u st p => cases st <;> exact ⟨_, rfl⟩
 | _ => exact ⟨_, rfl⟩
section
variable {c : Cx} {A : Around} {q : Bool} {d : Nat} {φ : List Addr} {H H' : Hp} {s : Shared}
theorem zq1.get {l : List Int} : ∀ {rs : List Value}, zq1 l rs -> ∀ {i : Nat} {v : Int}, l[i]? = some v -> ∃ t, rs[i]? = some (.int v t) := by
 induction l with
 | nil => exact fun _ _ _ e => nomatch e
 | cons x l ih =>
  intro rs h i v e
  cases rs with
  | nil => exact h.elim
  | cons r rs =>
   cases i with
   | zero => obtain rfl := zaa e; exact h.1.elim fun t e => ⟨t, congrArg some e⟩
   | succ i => exact ih h.2 e
theorem zq1.length {l : List Int} : ∀ {rs : List Value}, zq1 l rs -> rs.length = l.length := by
 induction l with
 | nil =>
  intro rs h
  cases rs with
  | nil => rfl
  | cons _ _ => exact h.elim
 | cons x l ih =>
  intro rs h
  cases rs with
  | nil => exact h.elim
  | cons r rs => exact congrArg (· + 1) (ih h.2)
inductive IxI (i : Int) (n j : Nat) : Prop
 | mk (hj : j < n) (hi : (0 <= i /\ i.toNat = j) \/ (i < 0 /\ -(n : Int) <= i /\ (i + n).toNat = j)) (hs : seqIndex? i n = some j) : IxI i n j
theorem zk9 {i : Int} {n j : Nat} (h : ix i n = some j) : IxI i n j := by
 unfold ix at h
 by_cases h0 : 0 <= i
 ·rw [if_pos h0] at h
  obtain ⟨h1, rfl⟩ := iteS h
  refine ⟨by exact Ar.ar3 [_,_] [_] 0x124294a50006100c03080801840500c2008000294a000c200806100c0308000 (Y1 V0 V1) (Y3 J0 V0) (Y4 V0 (Y4 V1 J0)) (Y7 (Y5 (Y4 V0 J0) V0) (Y6 (Y3 V0 J0) (Y2 V0 J0))) h0 h1 (Ar.tn _), .inl ⟨h0, rfl⟩, ?_⟩
  unfold seqIndex?
  simp only [Int.not_lt.mpr h0, if_false]
  rw [if_pos (by simp; exact Ar.ar2 [_] [_] 0x6294001840300c20000a5000610080308000 (Y6 (Y3 J0 V0) (Y4 V0 (Y4 V0 J0))) (Y3 J0 V0) (Y4 V0 (Y4 V0 J0)) h0 h1)]
 ·rw [if_neg h0] at h
  obtain ⟨h1, rfl⟩ := iteS h
  refine ⟨by exact Ar.ar3 [_,_] [_] 0x124294a50006100c03080801840500c2008000294a000c20080610080308000 (Y1 V0 V1) (Y8 (Y3 J0 V0) J0) (Y3 (Y3 (Y4 V1 J0) J0) V0) (Y7 (Y5 (Y4 V0 J0) (Y0 V0 (Y4 V1 J0))) (Y6 (Y3 (Y0 V0 (Y4 V1 J0)) J0) (Y2 V0 J0))) h0 h1 (Ar.tn _), .inr ⟨Int.not_le.mp h0, h1, rfl⟩, ?_⟩
  unfold seqIndex?
  simp only [Int.not_le.mp h0, if_true]
  rw [if_pos (by simp; exact Ar.ar2 [_] [_] 0x6294001840200c20000a50006100c0308000 (Y6 (Y3 J0 (Y0 V0 (Y4 V0 J0))) (Y4 (Y0 V0 (Y4 V0 J0)) (Y4 V0 J0))) (Y8 (Y3 J0 V0) J0) (Y3 (Y3 (Y4 V0 J0) J0) V0) h0 h1)]
theorem zfe {value slice : Expr} {l : Addr} {items : Array Value} {k : Int} {t : Tok} {x : Value} {Q : Value -> Shared -> Prop} {E : Value -> Shared -> Prop} {j : Nat} (hl : s.heap.IsList l items) (hj : ix k items.size = some j)
  (hz : items.size <= sizeLine) (hx : items[j]? = some x) (h : Q x s) : wpAny (model c.prog c.w) A (subscriptTail value slice (.ref l) (.int k t)) Q E s := by
 have hsl : sizeLine = 2 ^ 24 := rfl
 obtain ⟨h1, h2, _⟩ := zk9 hj
 obtain ⟨ops, hops⟩ := zik slice (.ref l) (.int k t)
 refine tail_any hl.typeIs slot_list_getitem.lookup ?_ hops
 rcases h2 with ⟨h3, rfl⟩ | ⟨h3, h4, rfl⟩
 ·exact wpAny_getItem_list hl h3 (by exact Ar.ar5 [_,_,_] [_,_] 0x164294a000c201808101c0308000000a5294a50006100403080401840300c20200810140408000 (Y4 V0 V1) (Y0 V0 V1) (Y2 V1 (.l 16777216)) (Y1 V2 V0) (Y5 V1 (.l 9223372036854775808)) (Y7 (Y5 (Y4 V2 J0) V0) (Y6 (Y3 V0 J0) (Y2 V2 J0))) hz hsl h1 (Ar.p63) (Ar.tn _)) hx h
 ·exact wpAny_getItem_list_neg hl h3 h4 (by exact Ar.ar4 [_,_] [_,_] 0x294a528003080001840100c201006100c0408080 (Y3 (Y3 V0 J0) V1) (Y0 V0 V1) (Y2 V1 (.l 16777216)) (Y3 (Y3 (Y4 V0 J0) J0) V1) (Y5 V0 (.l 9223372036854775808)) hz hsl h4 (Ar.p63)) hx h
theorem zg4 {vs : Array Value} {j : Nat} {r : Value} (h : vs.toList[j]? = some r) : vs[j]? = some r := by rw [<- Array.getElem?_toList]; exact h
theorem do_idx (S : Sim c φ H s) {value slice : Expr} {v w u : V} {x y : Value} (R1 : Rep c φ s.heap v x) (R2 : Rep c φ s.heap w y)
  (e : idxV H v w = some u) : Does c A φ s (subscriptTail value slice x y) u H := by
 have hsl : sizeLine = 2 ^ 24 := rfl
 intro E
 obtain ⟨i, hi, f⟩ := zab.mp e
 clear e
 obtain rfl := zcy hi
 obtain ⟨t2, rfl⟩ := R2
 cases v with
 | str st =>
  obtain ⟨j, e1, e2⟩ := zab.mp f
  obtain ⟨e1, hz⟩ := onLe e1
  obtain ⟨h1, h2, h3⟩ := zk9 e1
  obtain ⟨cc, e3, rfl⟩ := zah.mp e2
  obtain ⟨t1, rfl⟩ := R1
  obtain ⟨ops, hops⟩ := zik slice (.str st t1) (.int i t2)
  refine tail_any (typeIs_str s st t1) F.slot_str_getitem.lookup (P.getItem_str (c := cc) (by simp; exact Ar.ar5 [_,_,_,_,_] [_] 0x32c852800308060184000000d214a000c202006100000010a5294a50006101803080e01840800c2020081008030802008164214a528003080e01840800c20280610000100004294001840300c2000000 (Y6 (Y3 (Y3 (.l 9223372036854775808) J0) V0) (Y4 V0 (.l 9223372036854775808))) (Y2 V0 (.l 16777216)) (Y0 V1 V0) (Y1 V2 V1) (Y7 (Y6 (Y3 J0 V0) (Y2 V3 V2)) (Y6 (Y4 V0 J0) (Y6 (Y3 (Y3 (Y4 V1 J0) J0) V0) (Y2 V4 V2)))) (Y7 (Y5 (Y4 V3 J0) V0) (Y6 (Y3 V0 J0) (Y2 V3 J0))) hsl hz h1 h2 (Ar.tn _)) ?_ (Out.same S rS)) hops
  show (seqIndex? i st.cps.size).bind _ = _
  rw [h3]; exact e3
 | lst a =>
  obtain ⟨xs, e1, g⟩ := zab.mp f
  obtain ⟨j, e3, e4⟩ := zab.mp g
  obtain ⟨a, vs, n, rfl, _, ho, hr, hz, z⟩ := S.getP R1 e1
  obtain ⟨r, hr1, hr2⟩ := hr.get e4
  exact zfe (zce ho) (by rw [z]; exact e3) (by rw [z]; exact hz) (zg4 hr1) (Out.same' S hr2)
 | tup xs =>
  obtain ⟨j, e3, e4⟩ := zab.mp f
  obtain ⟨a, o, vs, n, rfl, _, ho, hc, hd, hz, hr⟩ := R1
  have z : vs.size = xs.length := za3.symm.trans hr.length
  obtain ⟨r, hr1, hr2⟩ := hr.get e4
  obtain ⟨h1, h2, h3⟩ := zk9 e3
  obtain ⟨ops, hops⟩ := zik slice (.ref a) (.int i t2)
  have hT : IsTup s.heap a vs := ⟨o, ho, hc, n, hd⟩
  exact tail_any hT.typeIs slot_tuple_getitem.lookup (getItem_tuple hT (by exact Ar.ar4 [_,_,_,_,_] [_,_] 0x124214a5294001840500c203006101c04081201840000400010a528003080602040700c2000000 (Y3 (Y3 V0 J0) V1) (Y2 V0 (.l 16777216)) (Y0 V1 V0) (Y7 (Y6 (Y3 J0 V1) (Y2 V2 V3)) (Y6 (Y4 V1 J0) (Y6 (Y3 (Y3 (Y4 V1 J0) J0) V1) (Y2 V4 V3)))) (Y5 V0 (.l 9223372036854775808)) hsl hz h2 (Ar.p63)) (by exact Ar.ar6 [_,_,_,_,_] [_,_] 0x28852940018403010204006100000034852940018404010204806100000010a5294a528003080801840500c203006101c04081202040200c2008020 (Y4 V0 V1) (Y2 V0 (.l 16777216)) (Y0 V1 V0) (Y1 V2 V1) (Y7 (Y6 (Y3 J0 V0) (Y2 V3 V2)) (Y6 (Y4 V0 J0) (Y6 (Y3 (Y3 (Y4 V1 J0) J0) V0) (Y2 V4 V2)))) (Y5 V1 (.l 9223372036854775808)) (Y7 (Y5 (Y4 V3 J0) V0) (Y6 (Y3 V0 J0) (Y2 V3 J0))) hsl hz h1 h2 (Ar.p63) (Ar.tn _)) (by rw [z]; exact h3) (zg4 hr1) (Out.same' S hr2)) hops
 | scr l =>
  obtain ⟨j, e3, g⟩ := zab.mp f
  obtain ⟨k, e5, rfl⟩ := zah.mp g
  obtain ⟨a, o, vs, n, rfl, _, _, ho, hc, hd, hz, hr⟩ := R1
  have z := za3.symm.trans hr.length
  obtain ⟨t, hr1⟩ := hr.get e5
  exact zfe ⟨o, ho, hc, n, hd⟩ (by rw [z]; exact e3) (by rw [z]; exact hz) (zg4 hr1) (Out.same' S rI)
 | _ => cases f
end
end Bn
namespace Bn
open PySem PySem.W PySem.Calls PyProof.Rows
section
variable {prog : Program} {w : World} {A : Around} {E : Value -> Shared -> Prop} {s : Shared}
inductive PairAt (h : Heap) (v : Value) (a b : Int) : Prop
 | mk (x : Addr) (o : Obj) (t u : Tok) (n : Nat) (hr : v = .ref x) (ho : h.get? x = some o) (hc : o.cls = .type "tuple") (hd : o.data = .seq #[.int a t, .int b u] n) : PairAt h v a b
theorem lex1 {a a' b b' : Int} (ha : a = a') (hb : b = b') : (decide (a < a') || (decide (a = a') && decide (b < b'))) = false := by rw [ha, hb, decide_eq_false (Int.lt_irrefl _), decide_eq_false (Int.lt_irrefl _), Bool.and_false]; rfl
theorem lex2 {a a' b b' : Int} (ha : a = a') : (decide (a < a') || (decide (a = a') && decide (b < b'))) = decide (b < b') := by rw [decide_eq_true ha, ha, decide_eq_false (Int.lt_irrefl _)]; rfl
theorem lex3 {a a' b b' : Int} (ha : a ≠ a') : (decide (a < a') || (decide (a = a') && decide (b < b'))) = decide (a < a') := by rw [decide_eq_false ha]; exact Bool.or_false _
theorem lt_pair {v v' : Value} {a b a' b' : Int} {Q : Bool -> Shared -> Prop} (hp : PairAt s.heap v a b) (hp' : PairAt s.heap v' a' b') (h : Q (decide (a < a') || (decide (a = a') && decide (b < b'))) s) : wpAny (model prog w) A (keyLt' (tuples' true) v v') Q E s := by
 obtain ⟨x, o, t, u, n, rfl, ho, hc, hd⟩ := hp
 obtain ⟨x', o', t', u', n', rfl, ho', hc', hd'⟩ := hp'
 refine kat_lt ho hd ho' hd' (kat_cons (wpAny_eqBool_int (kat_go (fun e => kat_yes (kat_cons (wpAny_eqBool_int (kat_go (fun e2 => kat_yes (kat_nil ?_)) fun e2 => kat_no ?_)))) fun e => kat_no ?_)))
 ·rw [lex1 (beq_iff_eq.mp e) (beq_iff_eq.mp e2)] at h; exact h
 ·rw [lex2 (beq_iff_eq.mp e)] at h
  show wpAny (model prog w) A (oneLt' false _ _) Q _ s
  rw [oneLt'_eq, if_neg zbw]
  exact wpAny_bind (wpAny_lt_int (wpAny_truthy_bool h))
 ·rw [lex3 (beq_eq_false_iff_ne.mp e)] at h; exact oneLt_int h
noncomputable def Pairs (h : Heap) : List Value -> List (Int × Int) -> Prop
 | [], [] => True
 | v :: vs, p :: ps => PairAt h v p.1 p.2 /\ Pairs h vs ps
 | _, _ => False
inductive Tups (h : Heap) (vs : List Value) (n : Nat) : Prop
 | mk (fs : List Value) (t : KatTups h vs fs) (l : fs.length = n) (a : ∀ v ∈ fs, ∃ i t, v = .int i t) : Tups h vs n
theorem tups_ok {h : Heap} {vs : List Value} : ∀ {ps : List (Int × Int)}, Pairs h vs ps -> Tups h vs ps.length := by
 induction vs with
 | nil =>
  intro ps t
  cases ps with
  | nil => exact ⟨[], trivial, rfl, fun _ h => nomatch h⟩
  | cons _ _ => exact t.elim
 | cons v vs ih =>
  intro ps t
  cases ps with
  | nil => exact t.elim
  | cons p ps =>
   obtain ⟨⟨x, o, tk, u, n, rfl, ho, hc, hd⟩, t⟩ := t
   obtain ⟨fs, k, l, a⟩ := ih t
   exact ⟨_, .cons ho hc hd rfl k, congrArg (· + 1) l, zau.mpr ⟨⟨_, _, rfl⟩, a⟩⟩
theorem kind_ok {vs : List Value} {ps : List (Int × Int)} {Q : SortKind -> Shared -> Prop} (t : Pairs s.heap vs ps) (hne : 0 < ps.length) (h : Q (tuples' true) s) : wpAny (model prog w) A (keyKind' vs.toArray) Q E s := by
 obtain ⟨fs, k, l, a⟩ := tups_ok t
 refine kat_kind (T := .type "int") k (l.symm ▸ hne) (fun v hv => ?_) (by decide +kernel) h
 obtain ⟨i, t, rfl⟩ := a v hv
 exact Looks.of_pure rfl
theorem zip_one {vs : List Value} (h : vs.length < 2) : (vs.toArray.zip vs.toArray).map (·.2) = ((List.toArray (List.range vs.length)).toList.map fun i => vs.getD i Value.none).toArray := by
 refine Array.toList_inj.mp ?_
 rw [Array.toList_map, Array.toList_zip]
 cases vs with
 | nil => rfl
 | cons x r =>
  cases r with
  | nil => rfl
  | cons y r => exact absurd h (Nat.not_lt.mpr (Nat.le_add_left 2 _))
theorem zhh {l : Addr} {vs : List Value} {κ : SortKind} {key : Nat -> Int} {Q : Value -> Shared -> Prop} (hl : s.heap.IsList l vs.toArray) (h64 : vs.length < 64)
  (inj : ∀ i j, i < vs.length -> j < vs.length -> key i = key j -> i = j)
  (hκ : 2 <= vs.length -> ∀ h', (∀ b o, s.heap.get? b = some o -> h'.get? b = some o) -> (∀ (Q : SortKind -> Shared -> Prop) E, Q κ { s with heap := h' } -> wpAny (model prog w) A.in1.in1 (keyKind' vs.toArray) Q E { s with heap := h' }) /\ zo5 prog w A.in1.in1 { s with heap := h' } κ vs key vs.length)
  (h : ∀ h' c' (p : Array Nat), (∀ b o, s.heap.get? b = some o -> h'.get? b = some o) -> h'.get? (s.heap.objs.size + 1) = some (seqObj "list" (p.toList.map fun i => vs.getD i Value.none).toArray c') -> zcw vs.length p -> Up key p vs.length -> Q (.ref (s.heap.objs.size + 1)) { s with heap := h' }) :
  wpAny (model prog w) A (call (.builtin "sorted") [.ref l]) Q E s := by
 refine Calls.call_function_entry kind_sorted plain_sorted entry_sorted (args_sorted1 _) ?_
 unfold Builtin.«sorted»
 refine wpAny_bind (m := checkCount "sorted" 1 1 _) (wpAny_pure ?_)
 refine wpAny_bind (collect_list hl ?_ (by rw [sizeLine_eq]; exact Ar.ar1 [_] [] 0xa5000610000308020 (Y0 V0 (.l 16777216)) (Y1 V0 (.l 64)) h64))
 refine wpAny_bind (wpAny_newList ?_ (by rw [sizeLine_eq]; exact Ar.ar1 [_] [] 0xa5000610000308020 (Y0 V0 (.l 16777216)) (Y1 V0 (.l 64)) h64))
 generalize hg1 : (s.heap.push (seqObj "list" #[] 0)).update s.heap.objs.size (Obj.mapSeq (· ++ vs.toArray)) = g1
 have hsz : g1.objs.size = s.heap.objs.size + 1 := by rw [<- hg1, Heap.size_update, size_push']
 have k1 : ∀ b o, s.heap.get? b = some o -> g1.get? b = some o := fun b o q => by
  have hlt := Heap.lt_size q
  rw [<- hg1, Heap.get?_update_ne _ _ _ _ (zao hlt), Heap.get?_push_ne _ _ _ (zao hlt)]
  exact q
 have hoL : (g1.push (seqObj "list" vs.toArray 0)).get? (s.heap.objs.size + 1) = some (seqObj "list" vs.toArray 0) := by
  rw [<- hsz]; exact Heap.get?_push_size _ rfl
 show wpAny _ _ _ _ _ { s with heap := g1.push (seqObj "list" vs.toArray 0) }
 rw [hsz]
 refine wpAny_bind (wpAny_holding (wpAny_call_entry slot_list_sort ⟨_, hoL, rfl⟩ entry_list_sort ?body (args_list_sort _)))
 case body =>
 generalize ha : s.heap.objs.size + 1 = a at *
 generalize hg2 : g1.push (seqObj "list" vs.toArray 0) = g2 at *
 have hz2 : g2.objs.size = a + 1 := by rw [<- hg2, size_push', hsz]
 have k2 : ∀ b o, s.heap.get? b = some o -> b ≠ a /\ g2.get? b = some o := fun b o q => by
  refine ⟨?_, ?_⟩
  ·rw [<- ha]; exact zao (Nat.lt_succ_of_lt (Heap.lt_size q))
  ·rw [<- hg2, Heap.get?_push_of_some _ (k1 b o q)]
 rw [list_sort_plain]
 refine wpAny_bind (listItems_at hoL rfl ?_)
 refine wpAny_bind (listUpdate_at hoL rfl ?_ (by rw [List.size_toArray, sizeLine_eq]; exact Ar.ar1 [_] [] 0xa5000610000308020 (Y0 V0 (.l 16777216)) (Y1 V0 (.l 64)) h64) (za0 _))
 obtain ⟨e1, ho1⟩ : ∃ e1, (g2.update a (Obj.mapSeq fun _ => (#[] : Array Value))).get? a = some (seqObj "list" #[] e1) := ⟨_, get?_update_seq hoL fun _ => #[]⟩
 refine wpAny_bind (seqEpoch_at ho1 rfl ?_)
 refine wpAny_bind (wpAny_newTuple ?_ (by show vs.length <= _; rw [sizeLine_eq]; exact Ar.ar1 [_] [] 0xa5000610000308020 (Y0 V0 (.l 16777216)) (Y1 V0 (.l 64)) h64))
 refine wpAny_bind (wpAny_newList ?_ (za0 _))
 refine wpAny_holding ?_
 generalize hg3 : ((g2.update a (Obj.mapSeq fun _ => (#[] : Array Value))).push (seqObj "tuple" vs.toArray 0)).push (seqObj "list" #[] 0) = g3
 have ho3 : g3.get? a = some (seqObj "list" #[] e1) := by
  rw [<- hg3]; exact Heap.get?_push_of_some _ (Heap.get?_push_of_some _ ho1)
 have k3 : ∀ b o, s.heap.get? b = some o -> b ≠ a /\ g3.get? b = some o := fun b o q => by
  obtain ⟨hne, q2⟩ := k2 b o q
  refine ⟨hne, ?_⟩
  rw [<- hg3]
  refine Heap.get?_push_of_some _ (Heap.get?_push_of_some _ ?_)
  rw [Heap.get?_update_ne _ _ _ _ hne]
  exact q2
 show wpAny (model prog w) A.in1.in1 _ _ _ { s with heap := g3 }
 dsimp only
 have fin : ∀ (o2 : Array Value) (p : Array Nat), o2 = (p.toList.map fun i => vs.getD i Value.none).toArray -> zcw vs.length p -> Up key p vs.length -> o2.size <= 2 ^ 24 /\ Q (.ref a) { s with heap := g3.update a (Obj.mapSeq fun _ => o2) } := by
  rintro _ p rfl hp hu
  obtain ⟨c2, hc2⟩ : ∃ c2, (g3.update a (Obj.mapSeq fun _ => (p.toList.map fun i => vs.getD i Value.none).toArray)).get? a = some (seqObj "list" (p.toList.map fun i => vs.getD i Value.none).toArray c2) := ⟨_, get?_update_seq ho3 fun _ => (p.toList.map fun i => vs.getD i Value.none).toArray⟩
  refine ⟨?_, h _ c2 p (fun b o q => ?_) hc2 hp hu⟩
  ·rw [List.size_toArray, zaf, za3, hp.size]; exact Ar.ar1 [_] [] 0xa5000610000308020 (Y0 V0 (.l 16777216)) (Y1 V0 (.l 64)) h64
  ·obtain ⟨hne, q3⟩ := k3 b o q
   rw [Heap.get?_update_ne _ _ _ _ hne]
   exact q3
 have hr : zcw vs.length (List.toArray (List.range vs.length)) := List.Perm.refl _
 by_cases h22 : vs.toArray.size < 2
 ·rw [if_pos h22, if_pos h22]
  refine wpAny_bind (wpAny_pure ?_)
  rw [StateT.run_pure]
  refine wpAny_bind (wpAny_pure ?_)
  dsimp only
  have hlt : vs.length < 2 := by simpa using h22
  obtain ⟨hz, hQ⟩ := fin _ _ (zip_one hlt) hr (fun i j h1 h2 => by exact Ar.ar3 [_,_,_] [_,_] 0x294a000c20080610080308060 (Y4 V0 V1) (Y1 V0 J2) (Y1 V1 V2) (Y1 V2 V0) hlt h1 h2)
  refine wpAny_bind (seqEpoch_at ho3 rfl ?_)
  refine wpAny_bind (listUpdate_at ho3 rfl ?_ (za0 _) (zac hz (by rw [sizeLine_eq]; decide)))
  simp only [bne_self_eq_false, zbn, if_false]
  exact wpAny_pure ⟨_, rfl, wpAny_pure ⟨_, rfl, hQ⟩⟩
 ·rw [if_neg h22, if_neg h22]
  have hge : 2 <= vs.length := by simpa using h22
  obtain ⟨hk1, hk2⟩ := hκ hge g3 fun b o q => (k3 b o q).2
  refine wpAny_bind (hk1 _ _ ?_)
  refine wpAny_bind (wpAny_mono (runs_ok hk2 inj hge h64) ?_ fun _ _ e => e)
  rintro ⟨⟨⟩, st'⟩ s' ⟨rfl, p, hp, hu, har, hf⟩
  dsimp only
  obtain ⟨hz, hQ⟩ := fin ((arrOf st').map (·.2)) p har hp hu
  refine wpAny_bind (seqEpoch_at ho3 rfl ?_)
  refine wpAny_bind (listUpdate_at ho3 rfl ?_ (za0 _) (zac hz (by rw [sizeLine_eq]; decide)))
  rw [hf]
  simp only [bne_self_eq_false, zbn, if_false]
  exact wpAny_pure ⟨_, rfl, wpAny_pure ⟨_, rfl, hQ⟩⟩
end
section
variable {c : Cx} {φ : List Addr}
inductive Rep1 (c : Cx) (φ : List Addr) (h : Heap) (v : V) (rs : List Value) : Prop
 | mk (r : Value) (e : rs = [r]) (h1 : Rep c φ h v r) : Rep1 c φ h v rs
theorem RepL.one {h : Heap} {v : V} {rs : List Value} (R : RepL c φ h [v] rs) : Rep1 c φ h v rs := by
 obtain ⟨r, rs', rfl, h1, R2⟩ := R.uncons
 obtain rfl := R2.nil_inv
 exact ⟨r, rfl, h1⟩
inductive Rep2 (c : Cx) (φ : List Addr) (h : Heap) (v w : V) (rs : List Value) : Prop
 | mk (r r' : Value) (e : rs = [r, r']) (h1 : Rep c φ h v r) (h2 : Rep c φ h w r') : Rep2 c φ h v w rs
theorem RepL.two {h : Heap} {v w : V} {rs : List Value} (R : RepL c φ h [v, w] rs) : Rep2 c φ h v w rs := by
 obtain ⟨r, rs', rfl, h1, R2⟩ := R.uncons
 obtain ⟨r', rfl, h2⟩ := R2.one
 exact ⟨r, r', rfl, h1, h2⟩
theorem RepL.of_get {h : Heap} : ∀ {l : List V} {rs : List Value}, rs.length = l.length -> (∀ (i : Nat) v r, l[i]? = some v -> rs[i]? = some r -> Rep c φ h v r) -> RepL c φ h l rs := by
 intro l
 induction l with
 | nil => intro rs h _; exact zbm.mp h
 | cons x xs ih =>
  intro rs h hh
  cases rs with
  | nil => exact nomatch h
  | cons r rs => exact ⟨hh 0 x r rfl rfl, ih (Nat.succ.inj h) fun i v r h1 h2 => hh (i + 1) v r h1 h2⟩
theorem zkm {α : Type} {R : α -> α -> Prop} (anti : ∀ x y, R x y -> R y x -> x = y) : ∀ {a b : List α}, a.Perm b -> a.Pairwise R -> b.Pairwise R -> a = b
 | [], b, h, _, _ => (List.nil_perm.mp h).symm
 | x :: a, [], h, _, _ => absurd h.length_eq (by simp)
 | x :: a, y :: b, h, ha, hb => by
  rw [List.pairwise_cons] at ha hb
  have e : x = y := by
   rcases zak.mp (h.mem_iff.mp zae) with e | hx
   ·exact e
   ·rcases zak.mp (h.mem_iff.mpr zae) with e | hy
    ·exact e.symm
    ·exact anti x y (ha.1 y hy) (hb.1 x hx)
  subst e
  rw [zkm anti h.cons_inv ha.2 hb.2]
theorem zrm {v : V} {p : Int × Int} (h : pair1 v = some p) : v = zg7 p := by
 obtain ⟨l, h1, f⟩ := zab.mp h
 obtain rfl := zei h1
 cases LV.of l with
 | two x y =>
  obtain ⟨a, b, rfl, rfl, g⟩ := zdf f
  obtain rfl := zaa g
  rfl
 | _ => cases f
theorem zh2 : ∀ {xs : List V} {l : List (Int × Int)}, zh4 xs = some l -> xs = l.map zg7
 | [], l, h => by obtain rfl := zaa h; rfl
 | x :: r, l, h => by
  obtain ⟨p, l', h1, h2, rfl⟩ := zb9 h
  rw [zh2 h2, zrm h1]; rfl
theorem lexK {a b c d : Int} (hb : -2147483648 < b /\ b < 2147483648) (hd : -2147483648 < d /\ d < 2147483648) : 4294967296 * a + b < 4294967296 * c + d ↔ a < c \/ (a = c /\ b < d) := ⟨fun h => by exact Ar.ar3 [] [_,_,_,_] 0x10e5294001840600c200006000000000800000000820314a528003080a01840600c203806000000000800000000800294001840000c2010000 (Y7 (Y4 V0 V1) (Y6 (Y5 V0 V1) (Y4 V2 V3))) (Y4 (Y3 (.l 2147483648) J0) V2) (Y4 V3 (.l 2147483648)) (Y4 (Y0 (Y1 (.l 4294967296) V0) V2) (Y0 (Y1 (.l 4294967296) V1) V3)) hb.1 hd.2 h, fun h => by exact Ar.ar3 [] [_,_,_,_] 0x490a52800308060180000000020000000020006100400014a528003080201840200c201806000000000800000000800 (Y4 (Y0 (Y1 (.l 4294967296) V0) V1) (Y0 (Y1 (.l 4294967296) V2) V3)) (Y4 V1 (.l 2147483648)) (Y4 (Y3 (.l 2147483648) J0) V3) (Y7 (Y4 V0 V2) (Y6 (Y5 V0 V2) (Y4 V1 V3))) hb.2 hd.1 h⟩
theorem injK {a b c d : Int} (hb : -2147483648 < b /\ b < 2147483648) (hd : -2147483648 < d /\ d < 2147483648) (h : 4294967296 * a + b = 4294967296 * c + d) : a = c /\ b = d := by
 have e : a = c := by exact Ar.ar5 [] [_,_,_,_] 0x18a5294001840200c20280610180300000000040000000040014a5280030806018404010203006000000000800000000800 (Y5 V0 V1) (Y4 (Y3 (.l 2147483648) J0) V2) (Y4 V2 (.l 2147483648)) (Y4 (Y3 (.l 2147483648) J0) V3) (Y4 V3 (.l 2147483648)) (Y5 (Y0 (Y1 (.l 4294967296) V0) V2) (Y0 (Y1 (.l 4294967296) V1) V3)) hb.1 hb.2 hd.1 hd.2 h
 exact ⟨e, by exact Ar.ar2 [] [_,_,_,_] 0x18a52800308040200000000020000000021806100005294002040200c0000000010000000010c0308000 (Y5 V0 V1) (Y5 (Y0 (Y1 (.l 4294967296) V2) V0) (Y0 (Y1 (.l 4294967296) V3) V1)) (Y5 V2 V3) h e⟩
theorem bndK {b : Int} (h : b.natAbs < 2147483648) : -2147483648 < b /\ b < 2147483648 := by exact Ar.ar2 [_] [_] 0x1924294001840300c2008000214a50006101403080602040000009214a50006101403080602040000004294001840300c2008000 (Y6 (Y4 (Y3 (.l 2147483648) J0) V0) (Y4 V0 (.l 2147483648))) (Y1 V0 (.l 2147483648)) (Y7 (Y6 (Y5 (Y4 V0 J0) V0) (Y3 J0 V0)) (Y6 (Y5 (Y4 V0 J0) (Y3 V0 J0)) (Y3 V0 J0))) h (Ar.na _)
theorem lt3 {a b c d e f : Int} (h1 : a < c \/ (a = c /\ b <= d)) (h2 : c < e \/ (c = e /\ d <= f)) : a < e \/ (a = e /\ b <= f) := by exact Ar.ar2 [] [_,_,_,_,_,_] 0x7490e4214a5000610100308060184010140401884294a000c20200610080308000300a0294001840000c2010040210a528003080801840200c200006010124214a50006101403080401840000802010a528003080601840200c2000040 (Y7 (Y4 V0 V1) (Y6 (Y5 V0 V1) (Y3 V2 V3))) (Y7 (Y4 V0 V4) (Y6 (Y5 V0 V4) (Y3 V2 V5))) (Y7 (Y4 V4 V1) (Y6 (Y5 V4 V1) (Y3 V5 V3))) h1 h2
theorem lt2 {a b c d : Int} (h1 : a < c \/ (a = c /\ b <= d)) (h2 : c < a \/ (c = a /\ d <= b)) : a = c /\ b = d := by
 have e : a = c := by exact Ar.ar2 [] [_,_,_,_] 0x6410a50006100c0308000000a5000610040308000490a50006100c0308000000a5000610040308000 (Y5 V0 V1) (Y7 (Y4 V0 V1) (Y6 (Y5 V0 V1) (Y3 V2 V3))) (Y7 (Y4 V1 V0) (Y6 (Y5 V1 V0) (Y3 V3 V2))) h1 h2
 exact ⟨e, by exact Ar.ar3 [] [_,_,_,_] 0x6410a50006100c0308020000a5000810140308000490a50006100c0308020000a5000610140308000 (Y5 V0 V1) (Y7 (Y4 V2 V3) (Y6 (Y5 V2 V3) (Y3 V0 V1))) (Y7 (Y4 V3 V2) (Y6 (Y5 V3 V2) (Y3 V1 V0))) (Y5 V2 V3) h1 h2 e⟩
theorem lt1 (a b c d : Int) : (a < c \/ (a = c /\ b <= d)) \/ (c < a \/ (c = a /\ d <= b)) := by exact Ar.ar0 [] [_,_,_,_] 0x84390e5280030806018400018a50006100003080a0294001840000c2010080310a5000610080308000280a500061000030804000000 (Y7 (Y7 (Y4 V0 V1) (Y6 (Y5 V0 V1) (Y3 V2 V3))) (Y7 (Y4 V1 V0) (Y6 (Y5 V1 V0) (Y3 V3 V2))))
theorem leP {x y : Int × Int} : zdu x y = true ↔ x.1 < y.1 \/ (x.1 = y.1 /\ x.2 <= y.2) := by simp [zdu]
theorem leP_anti {x y : Int × Int} (h1 : x.1 < y.1 \/ (x.1 = y.1 /\ x.2 <= y.2)) (h2 : y.1 < x.1 \/ (y.1 = x.1 /\ y.2 <= x.2)) : x = y := Prod.ext (lt2 h1 h2).1 (lt2 h1 h2).2
theorem zo4 {x y z : Int × Int} (h1 : x.1 < y.1 \/ (x.1 = y.1 /\ x.2 <= y.2)) (h2 : y.1 < z.1 \/ (y.1 = z.1 /\ y.2 <= z.2)) : x.1 < z.1 \/ (x.1 = z.1 /\ x.2 <= z.2) := lt3 h1 h2
theorem zpw (x y : Int × Int) : (zdu x y || zdu y x) = true := zbv.mpr ((lt1 x.1 x.2 y.1 y.2).imp leP.mpr leP.mpr)
noncomputable def pkey (l : List (Int × Int)) (i : Nat) : Int := 4294967296 * (l.getD i (0, 0)).1 + (l.getD i (0, 0)).2
theorem RepL.maps {h : Heap} {f : Nat -> V} {g : Nat -> Value} : ∀ {is : List Nat}, (∀ i ∈ is, Rep c φ h (f i) (g i)) -> RepL c φ h (is.map f) (is.map g)
 | [], _ => rfl
 | i :: r, hh => ⟨hh i zae, RepL.maps fun j hj => hh j (zaj _ hj)⟩
theorem zrr {h : Heap} {p : Int × Int} {v : Value} (R : Rep c φ h (zg7 p) v) : PairAt h v p.1 p.2 := by
 obtain ⟨x, o, ws, n, hr, _, ho, hc, hd, _, hR⟩ := R
 obtain ⟨r, r', e, ⟨t, rfl⟩, ⟨u, rfl⟩⟩ := hR.two
 refine ⟨x, o, t, u, n, hr, ho, hc, ?_⟩
 rw [hd]
 congr 1
 exact Array.toList_inj.mp e
theorem PairAt.mono {h h' : Heap} {v : Value} {a b : Int} (hk : ∀ b o, h.get? b = some o -> h'.get? b = some o) (p : PairAt h v a b) : PairAt h' v a b :=
 let ⟨x, o, t, u, n, h1, h2, h3, h4⟩ := p; ⟨x, o, t, u, n, h1, hk _ _ h2, h3, h4⟩
theorem zl1 {h h' : Heap} (hk : ∀ b o, h.get? b = some o -> h'.get? b = some o) : ∀ {l : List (Int × Int)} {vs : List Value}, RepL c φ h (l.map zg7) vs -> Pairs h' vs l
 | [], vs, R => by rw [R.nil_inv]; trivial
 | p :: l, vs, R => by
  rw [zbf] at R
  obtain ⟨r, rs, rfl, h1, h2⟩ := R.uncons
  exact ⟨(zrr h1).mono hk, zl1 hk h2⟩
theorem zfw {A : Around} {E : Value -> Shared -> Prop} {s : Shared} {a : Addr} {l : List (Int × Int)} {vs : List Value} {Q : Value -> Shared -> Prop} (R : RepL c φ s.heap (l.map zg7) vs) (hl : s.heap.IsList a vs.toArray) (hok : zjq l = true)
  (h : ∀ h' c' out, (∀ b o, s.heap.get? b = some o -> h'.get? b = some o) -> h'.get? (s.heap.objs.size + 1) = some (seqObj "list" (List.toArray out) c') -> RepL c φ s.heap ((l.mergeSort zdu).map zg7) out -> Q (.ref (s.heap.objs.size + 1)) { s with heap := h' }) :
  wpAny (model c.prog c.w) A (call (.builtin "sorted") [.ref a]) Q E s := by
 have hlen : vs.length = l.length := by rw [R.length, zaf]
 simp only [zjq, zbp, decide_eq_true_eq, zba] at hok
 obtain ⟨⟨h64, hnd⟩, hsm⟩ := hok
 have gl : ∀ {i : Nat}, i < l.length -> l[i]? = some (l.getD i (0, 0)) := fun {i} hi => by simp [zax, hi]
 have gm : ∀ {i : Nat}, i < l.length -> l.getD i (0, 0) ∈ l := fun {i} hi => zaw (gl hi)
 have at' : ∀ {i : Nat}, i < l.length -> Rep c φ s.heap (zg7 (l.getD i (0, 0))) (vs.getD i Value.none) := by
  intro i hi
  obtain ⟨r, h1, h2⟩ := R.get (i := i) (v := zg7 (l.getD i (0, 0))) (by rw [zay, gl hi]; rfl)
  have e : vs.getD i Value.none = r := by rw [zax, h1]; rfl
  rw [e]; exact h2
 have ob : ∀ {i : Nat}, i < l.length -> PairAt s.heap (vs.getD i Value.none) (l.getD i (0, 0)).1 (l.getD i (0, 0)).2 := fun {i} hi => zrr (at' hi)
 have key : ∀ i j, i < l.length -> j < l.length -> pkey l i = pkey l j -> i = j := by
  intro i j hi hj e
  have e0 := injK (bndK (hsm _ (gm hi)).2) (bndK (hsm _ (gm hj)).2) e
  have e3 : l.getD i (0, 0) = l.getD j (0, 0) := Prod.ext e0.1 e0.2
  have e4 : l[i] = l[j] := by simpa [zax, hi, hj] using e3
  exact (List.getElem_inj hnd).mp e4
 have lex : ∀ i j, i < l.length -> j < l.length -> (decide ((l.getD i (0, 0)).1 < (l.getD j (0, 0)).1) || (decide ((l.getD i (0, 0)).1 = (l.getD j (0, 0)).1) && decide ((l.getD i (0, 0)).2 < (l.getD j (0, 0)).2))) = ltK (pkey l) i j := by
  intro i j hi hj
  rw [Bool.eq_iff_iff, ltK, decide_eq_true_eq]
  simp only [Bool.or_eq_true, zbp, decide_eq_true_eq]
  exact (lexK (bndK (hsm _ (gm hi)).2) (bndK (hsm _ (gm hj)).2)).symm
 refine zhh (κ := tuples' true) (key := pkey l) hl (by exact Ar.ar2 [_,_] [] 0x294a000c20000610040308040 (Y1 V0 (.l 64)) (Y2 V0 V1) (Y1 V1 (.l 64)) hlen h64) (by rw [hlen]; exact key) (fun h2 h' hk => ⟨fun Q E hq => kind_ok (ps := l) ?_ (by exact Ar.ar2 [_,_] [] 0x294a000c20000610040308040 (Y1 J0 V0) (Y2 V1 V0) (Y0 J2 V1) hlen h2) hq, fun i j hi hj Q E hq => ?_⟩) fun h' c' p hk hg s1 s2 => ?_
 ·exact zl1 hk R
 ·rw [hlen] at hi hj
  exact lt_pair (PairAt.mono hk (ob hi)) (PairAt.mono hk (ob hj)) (by rw [lex i j hi hj]; exact hq)
 ·rw [hlen] at s1 s2
  have hlt : ∀ i ∈ p.toList, i < l.length := fun i hi => by simpa using s1.mem_iff.mp hi
  have hsort : l.mergeSort zdu = p.toList.map fun i => l.getD i (0, 0) := by
   refine zkm (R := fun a b => zdu a b = true) ?_ ?_ ?_ ?_
   ·intro x y h1 h2
    exact leP_anti (leP.mp h1) (leP.mp h2)
   ·have e0 : (List.range l.length).map (fun i => l.getD i (0, 0)) = l := by
     apply List.ext_getElem?
     intro i
     rw [zay]
     by_cases hi : i < l.length
     ·rw [List.getElem?_range hi, gl hi]; rfl
     ·rw [List.getElem?_eq_none (by simpa using hi), List.getElem?_eq_none (by simpa using hi)]; rfl
    have := (List.Perm.map (fun i => l.getD i (0, 0)) s1).symm
    rw [e0] at this
    exact (List.mergeSort_perm l zdu).trans this
   ·refine List.pairwise_mergeSort ?_ ?_ l
    ·exact fun a b c h1 h2 => leP.mpr (zo4 (leP.mp h1) (leP.mp h2))
    ·exact zpw
   ·rw [List.pairwise_map, List.pairwise_iff_getElem]
    intro i j hi hj hij
    have hsz := s1.size
    have := s2 i j hij (by simpa [hsz] using hj)
    have ei : ge0 p i = p.toList[i] := by rw [zda, <- Array.getElem?_toList, zal hi]; rfl
    have ej : ge0 p j = p.toList[j] := by rw [zda, <- Array.getElem?_toList, zal hj]; rfl
    rw [ei, ej] at this
    exact leP.mpr (((lexK (bndK (hsm _ (gm (hlt _ (List.getElem_mem hi)))).2) (bndK (hsm _ (gm (hlt _ (List.getElem_mem hj)))).2)).mp this).imp id fun h => ⟨h.1, Int.le_of_lt h.2⟩)
  refine h h' c' _ hk hg ?_
  rw [hsort, List.map_map]
  exact RepL.maps fun i hi => at' (hlt i hi)
end
end Bn
namespace Bn
open PySem PyProof.Rows
section
variable {c : Cx} {A : Around} {q : Bool} {d : Nat} {φ : List Addr} {H H' : Hp} {s : Shared}
theorem Out.kept {v : V} {r : Value} {h' : Heap} {t : Nat} (S : Sim c φ H s) (hk : ∀ b o, s.heap.get? b = some o -> h'.get? b = some o) (R : Rep c φ s.heap v r) : Out c φ s (fun x H' => x = v /\ H' = H) r { s with heap := h', toks := t } := by
 have e : Ext [] φ s φ { s with heap := h', toks := t } := Ext.of_keeps (s' := { s with heap := h', toks := t }) hk rfl
 exact ⟨φ, H, v, e, S.keeps (s' := { s with heap := h', toks := t }) hk rfl, Rep.mono e.toKp OwnX.nil R, rfl, rfl⟩
theorem zir (S : Sim c φ H s) {a : Addr} {xs : List V} {vs : Array Value} {n : Nat} {h' : Heap} {t : Nat} (hk : ∀ b o, s.heap.get? b = some o -> h'.get? b = some o) (ha : s.heap.get? a = none) (hn : h'.get? a = some (lobj vs n)) (hr : RepL c φ s.heap xs vs.toList) (hz : xs.length <= sizeLine) :
  Out c φ s (fun x H' => x = .lst H.length /\ H' = H ++ [xs]) (.ref a) { s with heap := h', toks := t } := by
 have e : Ext [] φ s φ { s with heap := h', toks := t } := Ext.of_keeps (s' := { s with heap := h', toks := t }) hk rfl
 have S' : Sim c φ H { s with heap := h', toks := t } := S.keeps (s' := { s with heap := h', toks := t }) hk rfl
 have haφ : a ∉ φ := fun hm => by obtain ⟨o, ho, _⟩ := S.isList hm; rw [ha] at ho; cases ho
 have h0 : c.h0.get? a = none := by
  cases hq : c.h0.get? a with
  | none => rfl
  | some o => have := S.stays a o hq; rw [ha] at this; cases this
 refine ⟨φ ++ [a], H ++ [xs], .lst H.length, ?_, S'.adopt (o := lobj vs n) haφ h0 hn rfl rfl ⟨rfl, rfl⟩ (RepL.mono e.toKp OwnX.nil hr) hz, ?_, rfl, rfl⟩
 ·exact { e with
   pre := List.prefix_append _ _
   new := fun b hb => (zaq.mp hb).elim .inl fun h => .inr (by rw [zai.mp h]; exact ha) }
 ·exact LstAt.mk a rfl (by rw [zbk (za8 S.len)]; simp [S.len])
noncomputable def Bl.real : Bl -> Value
 | .len => .builtin "len" | .max => .builtin "max" | .min => .builtin "min" | .range => .type "range" | .list => .type "list" | .all => .builtin "all"
 | .tuple => .type "tuple"
 | .sum => .builtin "sum"
 | .sorted => .builtin "sorted"
theorem zd2 (lo hi st : Int) : (zc4 lo hi st).length = if 0 < st /\ lo < hi then ((hi - lo - 1) / st + 1).toNat else 0 := by simp [zc4]
theorem znt (lo hi st : Int) {i : Nat} (h : i < (zc4 lo hi st).length) : (zc4 lo hi st)[i]? = some (.int (lo + i * st)) := by
 simp only [zc4, zay] at h ⊢
 rw [List.getElem?_range (by simpa using h)]; rfl
theorem zlf {h : Heap} {lo hi st : Int} {acc : Array Value} (hi' : ItemsOf (fun i v => ∃ t, v = .int (lo + i * st) t) acc (zc4 lo hi st).length) : RepL c φ h (zc4 lo hi st) acc.toList := by
 refine RepL.of_get (by rw [za3, hi'.1]) fun i v r h1 h2 => ?_
 have hlt := (zbj.mp h1).1
 rw [znt _ _ _ hlt] at h1
 cases h1
 obtain ⟨t, rfl⟩ := hi'.2 i r (zg4 h2)
 exact rI
theorem zeh (lo hi st : Int) (h : 0 < st) : Builtin.Range.rangeSize lo hi st = ((zc4 lo hi st).length : Nat) := by
 rw [zd2]
 unfold Builtin.Range.rangeSize
 rw [if_pos h]
 by_cases hl : lo < hi
 ·rw [if_pos hl, if_pos ⟨h, hl⟩]
  have : 0 <= (hi - lo - 1) / st := Int.ediv_nonneg (by exact Ar.ar1 [] [_,_] 0xa5000610000308020 (Y3 J0 (Y2 (Y2 V0 V1) J1)) (Y4 V1 V0) hl) (by exact Ar.ar1 [] [_] 0xa5000610000308020 (Y3 J0 V0) (Y4 J0 V0) h)
  exact Ar.ar2 [_] [_] 0x6490a5000610140308000000a5000610040408000490a5000610140308000000a5000610040308000 (Y5 (Y0 V0 J1) (Y4 V0 J0)) (Y3 J0 V0) (Y7 (Y5 (Y4 V0 J0) (Y0 V0 J1)) (Y6 (Y3 (Y0 V0 J1) J0) (Y2 V0 J0))) this (Ar.tn _)
 ·rw [if_neg hl, if_neg (fun q => hl q.2)]; rfl
theorem zhl {lo hi st : Int} (h : lo.natAbs < 2 ^ 31 /\ hi.natAbs < 2 ^ 31 /\ 0 < st /\ st < 2 ^ 31) : Builtin.Range.small lo hi st = true := by
 have hsz := zeh lo hi st h.2.2.1
 have hle : (zc4 lo hi st).length <= 2 ^ 33 := by
  rw [zd2]
  split
  ·rename_i hl
   have : (hi - lo - 1) / st <= hi - lo - 1 := Int.ediv_le_self _ (by exact Ar.ar1 [] [_,_] 0xa5000610000308020 (Y3 J0 (Y2 (Y2 V0 V1) J1)) (Y4 V1 V0) hl.2)
   exact Ar.ar6 [_,_,_] [_,_,_] 0xa214a000c201806100400031c4214a5294a000c203806102003081401840601020100610040200404214a5294a50006101c03081001840900c20500610180408040204000080103884294a528003080e01840a00c203006100c030802010020210a5294a50006101c03081201840a00c203006100c040800010020 (Y0 V0 (.l 8589934592)) (Y1 V1 (.l 2147483648)) (Y1 V2 (.l 2147483648)) (Y3 V0 (Y2 (Y2 V1 V2) J1)) (Y7 (Y5 (Y4 V0 J0) (Y0 V0 J1)) (Y6 (Y3 (Y0 V0 J1) J0) (Y2 V0 J0))) (Y7 (Y6 (Y5 (Y4 V1 J0) V2) (Y3 J0 V2)) (Y6 (Y5 (Y4 V1 J0) (Y3 V2 J0)) (Y3 V2 J0))) (Y7 (Y6 (Y5 (Y4 V2 J0) V1) (Y3 J0 V1)) (Y6 (Y5 (Y4 V2 J0) (Y3 V1 J0)) (Y3 V1 J0))) h.1 h.2.1 this (Ar.tn _) (Ar.na _) (Ar.na _)
  ·exact Ar.ar0 [] [] 171801870336 (Y0 J0 (.l 8589934592))
 unfold Builtin.Range.small Builtin.Range.rangeFitsLong
 rw [hsz]
 simp only [zbp, Bool.or_eq_true, decide_eq_true_eq, gt_iff_lt, h.2.2.1, if_true]
 refine ⟨⟨⟨⟨?_, ?_⟩, ?_⟩, ?_⟩, .inr ?_⟩ <;> first | omega | (constructor <;> omega)
theorem ze5 (ns : List Int) : ∀ j, j <= ns.length -> preSum (fun i => ns.getD i 0) j = (ns.take j).sum
 | 0, _ => by simp [preSum]
 | j + 1, h => by
  rw [preSum, ze5 ns j (by exact Ar.ar1 [_,_] [] 0xa5000610000308020 (Y0 V0 V1) (Y0 (Y0 V0 J1) V1) h), List.take_add_one, List.sum_append]
  have : ns[j]? = some (ns.getD j 0) := by rw [zax, zal (by exact Ar.ar1 [_,_] [] 0xa5000610000308020 (Y1 V0 V1) (Y0 (Y0 V0 J1) V1) h)]; rfl
  rw [this]; simp
theorem zjx : ∀ (ns : List Int), zdk ns = true -> ns.sum.natAbs <= ns.length * 2 ^ 31
 | [], _ => by simp
 | x :: xs, h => by
  simp only [zdk, List.all_cons, zbp, decide_eq_true_eq] at h
  have := zjx xs (by simpa [zdk] using h.2)
  rw [List.sum_cons, zbg, Nat.add_mul]
  omega
theorem zix {ns : List Int} (h : zdk ns = true) (j : Nat) : zdk (ns.take j) = true := by
 simp only [zdk, zba] at h ⊢
 exact fun x hx => h x (List.mem_of_mem_take hx)
theorem ints_get {rs : List Value} {l : List Int} (h : IntsAre rs l) : ∀ {i : Nat} {v : Value}, rs[i]? = some v -> ∃ t, v = .int (l.getD i 0) t := by
 induction h with
 | nil => intro i v e; simp at e
 | cons n t h ih =>
  intro i v e
  cases i with
  | zero => simp at e; exact ⟨t, by simp [<- e]⟩
  | succ i => simp at e; obtain ⟨t', h'⟩ := ih e; exact ⟨t', by simpa using h'⟩
theorem zow (ll : List Bool) : (List.range ll.length).all (fun i => (ll[i]?).getD true) = ll.all id := by
 rw [Bool.eq_iff_iff]
 simp only [zba, List.mem_range]
 constructor
 ·intro h x hx
  obtain ⟨i, hi, rfl⟩ := zbu.mp hx
  have := h i hi
  rw [zal hi] at this
  simpa using this
 ·intro h i hi
  rw [zal hi]
  exact h _ (List.getElem_mem hi)
noncomputable def HasB (c : Cx) (A : Around) (φ : List Addr) (s : Shared) (b : Bl) (rs : List Value) (p : V × Hp) : Prop := Does c A φ s (call b.real rs) p.1 p.2
theorem do_len (S : Sim c φ H s) {x : V} {p : V × Hp} {r : Value} (R : Rep c φ s.heap x r) (e : lenV H x = some p) : HasB c A φ s .len [r] p := by
 intro E
 have hsl : sizeLine = 2 ^ 24 := rfl
 cases x with
 | lst i =>
  obtain ⟨xs, e1, rfl⟩ := zah.mp e
  obtain ⟨a, ws, n, rfl, _, ho, hr, hz, z⟩ := S.getP R e1
  rw [<- z]
  exact len_list (zce ho) (by exact Ar.ar4 [_,_,_] [_] 0x294a528003080001840100c201006100c0408080 (Y4 (Y4 V0 J0) V0) (Y2 V1 (.l 16777216)) (Y0 V2 V1) (Y2 V0 V2) (Y5 V0 (.l 9223372036854775808)) hsl hz z (Ar.p63)) (Out.same S rI)
 | tup l =>
  obtain rfl := zaa e
  obtain ⟨a, o, ws, n, rfl, _, ho, hc, hd, hz, hr⟩ := R
  have z := hr.length; rw [za3] at z
  rw [<- z]
  exact PyProof.Rows.len_tuple ⟨o, ho, hc, n, hd⟩ (by exact Ar.ar4 [_,_,_] [_] 0x294a528003080001840100c201006100c0408080 (Y4 (Y4 V0 J0) V0) (Y2 V1 (.l 16777216)) (Y0 V2 V1) (Y2 V0 V2) (Y5 V0 (.l 9223372036854775808)) hsl hz z (Ar.p63)) (Out.same S rI)
 | scr l =>
  obtain rfl := zaa e
  obtain ⟨a, o, ws, n, rfl, _, _, ho, hc, hd, hz, hr⟩ := R
  have z := hr.length; rw [za3] at z
  rw [<- z]
  exact len_list ⟨o, ho, hc, n, hd⟩ (by exact Ar.ar4 [_,_,_] [_] 0x294a528003080001840100c201006100c0408080 (Y4 (Y4 V0 J0) V0) (Y2 V1 (.l 16777216)) (Y0 V2 V1) (Y2 V0 V2) (Y5 V0 (.l 9223372036854775808)) hsl hz z (Ar.p63)) (Out.same S rI)
 | str l =>
  obtain ⟨hz, rfl⟩ := iteS e
  obtain ⟨t, rfl⟩ := R
  exact P.len_str (by exact Ar.ar3 [_,_] [_] 0x4294a50006100803080602040400c2000000 (Y8 (Y3 V0 (Y4 V0 J0)) J0) (Y2 V1 (.l 16777216)) (Y0 V0 V1) (Y5 V0 (.l 9223372036854775808)) hsl hz (Ar.p63)) (Out.same S rI)
 | _ => cases e
theorem ints1 {rs : List Value} {a : Int} (h : IntsAre rs [a]) : ∃ t, rs = [.int a t] := by
 cases h with | cons _ t h => cases h; exact ⟨t, rfl⟩
theorem ints2 {rs : List Value} {a b : Int} (h : IntsAre rs [a, b]) : ∃ t u, rs = [.int a t, .int b u] := by
 cases h with | cons _ t h => obtain ⟨u, rfl⟩ := ints1 h; exact ⟨t, u, rfl⟩
theorem ints3 {rs : List Value} {a b d : Int} (h : IntsAre rs [a, b, d]) : ∃ t u v, rs = [.int a t, .int b u, .int d v] := by
 cases h with | cons _ t h => obtain ⟨u, v, rfl⟩ := ints2 h; exact ⟨t, u, v, rfl⟩
theorem zjj {h : Heap} {p : Prop} [Decidable p] {a b : Int} {t u : Tok} : Rep c φ h (.int (if p then a else b)) (if p then .int a t else .int b u) := by
 by_cases q : p
 ·rw [if_pos q, if_pos q]; exact rI
 ·rw [if_neg q, if_neg q]; exact rI
theorem do_max (hh : A.handled = none) (S : Sim c φ H s) {vs : List V} {p : V × Hp} {rs : List Value} (R : RepL c φ s.heap vs rs) (e : maxV H vs = some p) : HasB c A φ s .max rs p := by
 intro E
 obtain ⟨l, h1, f⟩ := zab.mp e
 have hi := zdy R h1
 cases LV.of l with
 | two a b =>
  obtain rfl := zaa f
  obtain ⟨t, u, rfl⟩ := ints2 hi
  exact max_two_ints hh fun h' tk hk => Out.kept S hk zjj
 | three a b d =>
  obtain rfl := zaa f
  obtain ⟨t, u, v, rfl⟩ := ints3 hi
  refine max_three_ints hh fun h' tk hk => Out.kept S hk ?_
  by_cases h : a < b
  ·rw [if_pos h, if_pos (show b > a from h)]; exact zjj
  ·rw [if_neg h, if_neg (show ¬ b > a from h)]; exact zjj
 | _ => cases f
theorem do_min (hh : A.handled = none) (S : Sim c φ H s) {vs : List V} {p : V × Hp} {rs : List Value} (R : RepL c φ s.heap vs rs) (e : minV H vs = some p) : HasB c A φ s .min rs p := by
 intro E
 obtain ⟨l, h1, f⟩ := zab.mp e
 have hi := zdy R h1
 cases LV.of l with
 | two a b =>
  obtain rfl := zaa f
  obtain ⟨t, u, rfl⟩ := ints2 hi
  exact min_two_ints hh fun h' tk hk => Out.kept S hk zjj
 | _ => cases f
theorem do_range (hpl : PySem.PylongRoom (model c.prog c.w) A s) (S : Sim c φ H s) {vs : List V} {p : V × Hp} {rs : List Value} (R : RepL c φ s.heap vs rs) (e : rngV H vs = some p) : HasB c A φ s .range rs p := by
 intro E
 obtain ⟨l, h1, f⟩ := zab.mp e
 have hi := zdy R h1
 cases LV.of l with
 | one n =>
  obtain ⟨hz, rfl⟩ := iteS f
  obtain ⟨t, rfl⟩ := ints1 hi
  exact call_range_1 ⟨φ, H, .rng 0 n 1, (Ext.push (o := { cls := .type "range", data := .fields #[.int 0 s.toks, .int _ t, .int 1 (s.toks + 1)] })).trans (Ext.of_heap rfl rfl), (S.push _).tok _, RngAt.mk _ _ _ _ rfl S.new (Heap.get?_push_size _ rfl) ⟨by decide, hz, by decide, by decide⟩, rfl, rfl⟩
 | _ => cases f
theorem do_list (hh : A.handled = none) (S : Sim c φ H s) {x : V} {p : V × Hp} {r : Value} (RR : Rep c φ s.heap x r) (e : listV H x = some p) : HasB c A φ s .list [r] p := by
 intro E
 have hsl : sizeLine = 2 ^ 24 := rfl
 cases x with
 | lst i =>
  obtain ⟨xs, e1, rfl⟩ := zah.mp e
  obtain ⟨a, ws, n, rfl, _, ho, hr, hz, z⟩ := S.getP RR e1
  refine call_list_seq a (.inl rfl) ho rfl rfl (fun h' c' hk hn => ?_) (by exact Ar.ar2 [_,_,_] [] 0x294a000c20000610040308040 (Y0 V0 V1) (Y0 V2 V1) (Y2 V0 V2) hz z)
  exact zir (t := s.toks) S hk (Heap.get?_none_of_le (zad _)) hn hr hz
 | rng lo hi st =>
  obtain ⟨hz, rfl⟩ := iteS e
  obtain ⟨a, t, u, v, rfl, _, hr, hb⟩ := RR
  exact call_list_range hh hr (zhl hb) (zeh lo hi st hb.2.2.1) hz fun h' tk acc' c' hk hn hi' => zir S hk (Heap.get?_none_of_le (zad _)) hn (zlf hi') hz
 | _ => cases e
theorem do_tuple (hh : A.handled = none) (S : Sim c φ H s) {x : V} {p : V × Hp} {r : Value} (RR : Rep c φ s.heap x r) (e : tupleV H x = some p) : HasB c A φ s .tuple [r] p := by
 intro E
 have hsl : sizeLine = 2 ^ 24 := rfl
 cases x with
 | lst i =>
  obtain ⟨xs, e1, rfl⟩ := zah.mp e
  obtain ⟨a, ws, n, rfl, _, ho, hr, hz, z⟩ := S.getP RR e1
  refine call_tuple_list (zce ho) (fun h' hk => ?_) (by exact Ar.ar2 [_,_,_] [] 0x294a000c20000610040308040 (Y0 V0 V1) (Y0 V2 V1) (Y2 V0 V2) hz z)
  have e1 : Ext [] φ s φ { s with heap := h' } := Ext.of_keeps (s' := { s with heap := h' }) hk rfl
  exact Out.lift e1 (zgf (S.keeps (s' := { s with heap := h' }) hk rfl) (RepL.mono e1.toKp OwnX.nil hr) hz)
 | _ => cases e
theorem do_sum (hh : A.handled = none) (S : Sim c φ H s) {ll : List Int} {xs : List V} {i : Nat} {r : Value} (RR : Rep c φ s.heap (.lst i) r) (e2 : H[i]? = some xs) (e3 : zhn xs = some ll) (hsm : zdk ll = true) : HasB c A φ s .sum [r] (.int ll.sum, H) := by
 intro E
 have hsl : sizeLine = 2 ^ 24 := rfl
 obtain ⟨a, ws, n, rfl, _, ho, hr, hz, z⟩ := S.getP RR e2
 have hL := zce ho
 have hi := zdy hr e3
 have hlt : a < s.heap.objs.size := Heap.lt_size ho
 have hlen : ll.length = ws.size := by rw [<- za3]; exact hi.length.symm
 have hb : ∀ j, j <= ll.length -> (preSum (fun i => ll.getD i 0) j).natAbs <= 2 ^ 60 := fun j hj => by
  rw [ze5 ll j hj]
  have h1 := zjx _ (zix hsm j)
  have h2 : (ll.take j).length <= 2 ^ 24 := by rw [zbl]; lia
  have h3 : (ll.take j).length * 2 ^ 31 <= 2 ^ 24 * 2 ^ 31 := Nat.mul_le_mul_right _ h2
  lia
 refine call_sum_walk (wpAny_pyIter_list hL ?_)
 refine ⟨s.heap.objs.size, [s.heap.objs.size, a], [s.heap.objs.size], ws.size, _, _, fun i => ll.getD i 0, rfl, Walks.list (A := A.in1) hh _ a (zao hlt) ws,
  ⟨⟨_, Heap.get?_push_size _ rfl, rfl, rfl⟩, hL.push _⟩, ?_, ?_, ?_, ?_⟩
 ·intro b hb
  show b < (s.heap.push _).objs.size
  rw [Heap.size_push]
  simp only [zak, za5, or_false] at hb
  rcases hb with h | h
  ·rw [h]; exact zbq _
  ·rw [h]; exact Nat.lt_succ_of_lt hlt
 ·intro i v hv
  exact ints_get hi (by rw [Array.getElem?_toList]; exact hv)
 ·intro j hj
  have h1 := hb (j + 1) (by lia)
  have h2 := hb j (by lia)
  rw [preSum] at h1
  refine ⟨⟨?_, ?_⟩, ⟨?_, ?_⟩⟩ <;> dsimp only [preSum] at * <;> lia
 ·intro h' tk t' hk
  rw [<- hlen, ze5 ll _ (zad _), List.take_length]
  refine Out.kept S (fun b o hb => hk b o ?_ (Heap.get?_push_of_some _ hb)) rI
  simp only [zai]
  exact zao (Heap.lt_size hb)
theorem do_all (hh : A.handled = none) (S : Sim c φ H s) {ll : List Bool} {xs : List V} {i : Nat} {r : Value} (RR : Rep c φ s.heap (.lst i) r) (e2 : H[i]? = some xs) (e3 : zd9 xs = some ll) : HasB c A φ s .all [r] (.bool (ll.all id), H) := by
 intro E
 obtain ⟨a, ws, n, rfl, _, ho, hr, hz, z⟩ := S.getP RR e2
 have hL := zce ho
 have hi := zep hr e3
 have hlt : a < s.heap.objs.size := Heap.lt_size ho
 refine call_all_walk (wpAny_pyIter_list hL ?_)
 refine ⟨s.heap.objs.size, [s.heap.objs.size, a], [s.heap.objs.size], ws.size, _, _, fun i => (ll[i]?).getD true, rfl, Walks.list (A := A.in1) hh _ a (zao hlt) ws,
  ⟨⟨_, Heap.get?_push_size _ rfl, rfl, rfl⟩, hL.push _⟩, ?_, ?_⟩
 ·intro i v s' Q E' hv hQ
  have h1 : ws.toList[i]? = some v := by rw [Array.getElem?_toList]; exact hv
  rw [hi, zay] at h1
  obtain ⟨bb, h2, rfl⟩ := zah.mp h1
  dsimp only at hQ
  rw [h2] at hQ
  exact wpAny_truthy_bool hQ
 ·intro h' tk hk
  have hlen : ws.size = ll.length := by rw [<- za3, hi]; simp
  have : (List.range ws.size).all (fun i => (ll[i]?).getD true) = ll.all id := by rw [hlen, zow]
  rw [this]
  refine Out.kept S (fun b o hb => hk b o ?_ (Heap.get?_push_of_some _ hb)) rB
  simp only [zai]
  exact zao (Heap.lt_size hb)
theorem zop (S : Sim c φ H s) {ll : List (Int × Int)} {xs : List V} {i : Nat} {r : Value} (RR : Rep c φ s.heap (.lst i) r) (e2 : H[i]? = some xs) (e3 : zh4 xs = some ll) (hok : zjq ll = true) : HasB c A φ s .sorted [r] (.lst H.length, H ++ [(ll.mergeSort zdu).map zg7]) := by
 intro E
 obtain ⟨a, ws, n, rfl, _, ho, hr, hz, z⟩ := S.getP RR e2
 obtain rfl := zh2 e3
 refine zfw (vs := ws.toList) hr (by rw [Array.toArray_toList]; exact zce ho) hok fun h' c' out hk hn hR => ?_
 exact zir (t := s.toks) S hk (Heap.get?_none_of_le (Nat.le_succ _)) hn hR (by rw [zaf, List.length_mergeSort]; rw [zaf] at hz; exact hz)
theorem do_blt (O : c.Ok) (hA : OkF c A true d φ s.heap) (S : Sim c φ H s) {b : Bl} {vs : List V} {p : V × Hp} {rs : List Value} (R : RepL c φ s.heap vs rs)
  (e : bltV H b vs = some p) : DoesP c A φ s (call b.real rs) p := by
 have hh := hA.hd rfl
 cases b with
 | len =>
  obtain ⟨x, rfl, f⟩ := zdc e
  obtain ⟨r, rfl, RR⟩ := R.one
  exact do_len S RR f
 | max => exact do_max hh S R e
 | min => exact do_min hh S R e
 | range => exact do_range (PySem.PylongRoom.of (S.lim O) (by have := hA.dep; show _ + 100 < 1000; exact Ar.ar1 [_,_] [] 0xa5000610000308020 (Y1 (Y0 V0 (.l 100)) (.l 1000)) (Y0 (Y0 V0 V1) (.l 890)) this) (hA.seer O S)) S R e
 | list =>
  obtain ⟨x, rfl, f⟩ := zdc e
  obtain ⟨r, rfl, RR⟩ := R.one
  exact do_list hh S RR f
 | tuple =>
  obtain ⟨x, rfl, f⟩ := zdc e
  obtain ⟨r, rfl, RR⟩ := R.one
  exact do_tuple hh S RR f
 | sum =>
  obtain ⟨x, rfl, f⟩ := zdc e
  obtain ⟨r, rfl, RR⟩ := R.one
  obtain ⟨a, xs, rfl, e2, g⟩ := zd6 f
  obtain ⟨l, e3, k⟩ := zab.mp g
  obtain ⟨hs, rfl⟩ := iteS k
  exact do_sum hh S RR e2 e3 hs
 | all =>
  obtain ⟨x, rfl, f⟩ := zdc e
  obtain ⟨r, rfl, RR⟩ := R.one
  obtain ⟨a, xs, rfl, e2, g⟩ := zd6 f
  obtain ⟨l, e3, rfl⟩ := zah.mp g
  exact do_all hh S RR e2 e3
 | sorted =>
  obtain ⟨x, rfl, f⟩ := zdc e
  obtain ⟨r, rfl, RR⟩ := R.one
  obtain ⟨a, xs, rfl, e2, g⟩ := zd6 f
  obtain ⟨l, e3, k⟩ := zab.mp g
  obtain ⟨hs, rfl⟩ := iteS k
  exact zop S RR e2 e3 hs
end
end Bn
namespace Bn
open PySem PyProof.Rows
noncomputable def zcb : Expr -> Bool
 | .Starred .. => false
 | _ => true
theorem zcx {e : Expr} {es : List Expr} {env : Env} (h : zcb e = true) : starEach (e :: es) env = (false, eval e env) :: starEach es env := by
 cases e <;> first | rfl | cases h
section
variable {c : Cx} {env : Env} {res : Res}
inductive OutL (c : Cx) (φ : List Addr) (s : Shared) (Q : List V -> Hp -> Prop) (rs : List Value) (s' : Shared) : Prop
 | mk (φ' : List Addr) (H' : Hp) (vs : List V) (e : Ext [] φ s φ' s') (S : Sim c φ' H' s') (R : RepL c φ' s'.heap vs rs) (q : Q vs H') : OutL c φ s Q rs s'
noncomputable def zdn (c : Cx) (env : Env) (res : Res) (es : List Expr) (xs : List Ex) : Prop :=
 (es.all zcb = true /\ es.length = xs.length) /\ ∀ A q d k loc φ H s Q E pos, OkF c A q d φ s.heap -> FSim c env res k loc φ s.heap -> Sim c φ H s -> wpL (Calls c) q d k xs loc Q E H ->
  wpAny (model c.prog c.w) A (spliced (backTo pos (starEach es env))) (OutL c φ s fun vs H => vs.length = xs.length /\ Q vs H) (OutX c φ s E) s
theorem zia : zdn c env res [] [] := ⟨⟨rfl, rfl⟩, fun A q d k loc φ H s Q E pos hA hF hS hw => by
 exact wpAny_pure ⟨φ, H, [], Ext.refl, hS, rL, rfl, hw⟩⟩
theorem zhk {e : Expr} {es : List Expr} {x : Ex} {xs : List Ex} (hn : zcb e = true) (h : zb3 c env res e x) (hs : zdn c env res es xs) : zdn c env res (e :: es) (x :: xs) :=
 ⟨⟨by simp [hn, hs.1.1], by simp [hs.1.2]⟩, fun A q d k loc φ H s Q E pos hA hF hS hw => by
 rw [zcx hn]
 show wpAny _ _ (spliced ((false, eval e env) :: backTo pos (starEach es env))) _ _ _
 refine Calls.spliced_cons (wpAny_mono (h A q d k loc φ H s _ E hA hF hS hw) ?_ fun _ _ h => h)
 rintro r s₁ ⟨φ₁, H₁, v₁, e₁, S₁, R₁, w₁⟩
 refine wpAny_mono (hs.2 A q d k loc φ₁ H₁ s₁ _ E pos (hA.mono e₁) (hF.mono e₁) S₁ w₁) ?_ fun _ _ h => OutX.lift e₁ S₁ h
 rintro rs s₂ ⟨φ₂, H₂, vs, e₂, S₂, R₂, l₂, w₂⟩
 exact ⟨φ₂, H₂, v₁ :: vs, e₁.trans e₂, S₂, ⟨Rep.mono e₂.toKp OwnX.nil R₁, R₂⟩, congrArg (· + 1) l₂, w₂⟩⟩
theorem zps {i : Int} {n : Nat} {pos : Pos} : zb3 c env res (.Constant (.int i) n pos) (.lit (.int i)) := fun A q d k loc φ H s Q E hA hF hS hw => by
 exact wpAny_Constant_int (Out.at hS rI hw)
theorem zq0 {i : Str} {n : Nat} {pos : Pos} : zb3 c env res (.Constant (.str i) n pos) (.lit (.str i)) := fun A q d k loc φ H s Q E hA hF hS hw => by
 exact Calls.Constant_str (Out.at hS rS hw)
theorem znf {i : Bool} {n : Nat} {pos : Pos} : zb3 c env res (.Constant (.bool i) n pos) (.lit (.bool i)) := fun A q d k loc φ H s Q E hA hF hS hw => by
 exact wpAny_pure (Out.at' hS rB hw)
theorem zne {n : Nat} {pos : Pos} : zb3 c env res (.Constant .none n pos) (.lit .none) := fun A q d k loc φ H s Q E hA hF hS hw => by
 exact wpAny_pure (Out.at' hS rN hw)
theorem zom {x : Str} {pos : Pos} {i : Nat} (hx : res.lookup x = some i) (hd : (x == ("__debug__" : Str)) = false) (hcd : (x == ("__classdict__" : Str)) = false) : zb3 c env res (.Name x pos) (.var i) := fun A q d k loc φ H s Q E hA hF hS hw => by
 obtain ⟨v, hv, hw⟩ := Opt.inv hw
 obtain ⟨m, hn, h1, h2⟩ := hF.ns
 have h3 := h1 x i hx
 refine wpAny_Name ?_ hd
 rw [hv] at h3
 unfold zef at h3
 cases hk : env.kindOf x with
 | none => rw [hk] at h3; exact h3.elim
 | some kd =>
  rw [hk] at h3
  cases kd with
  | «local» =>
   obtain ⟨_, r, h4, h5⟩ := h3
   exact wpAny_loadName_local hF.fn hk hn.ns h4 (Out.at' hS h5 hw)
  | cell =>
   obtain ⟨_, ca, r, h4, h5, h6⟩ := h3
   exact wpAny_loadName_cell hF.fn hk h4 h5 (Out.at' hS h6 hw)
  | free =>
   obtain ⟨_, ca, r, h4, h5, h6⟩ := h3
   exact wpAny_loadName_free hF.fn hk h4 h5 (Out.at' hS h6 hw) hcd
  | _ => exact h3.elim
theorem znx {x : Str} {pos : Pos} {v : V} {r : Value} (O : c.Ok) (hx : env.kindOf x = some .globalImplicit) (hg : c.g x = some r) (hr : Rep c [] c.h0 v r) (hd : (x == ("__debug__" : Str)) = false) : zb3 c env res (.Name x pos) (.lit v) := fun A q d k loc φ H s Q E hA hF hS hw => by
 refine Calls.Name_function_global hF.fn hx (Calls.loadGlobal_global (by rw [hF.gl]; exact O.gl.keeps hS.stays) hg ?_) hd
 refine Out.at' hS ?_ hw
 exact Rep.mono (X := []) ⟨List.nil_prefix, fun b o h _ _ _ => hS.stays b o h, fun a ha => .inr (hS.fresh a ha), fun b o es n h _ hd => ⟨o, es, n, hS.stays b o h, hd, .rfl⟩, fun b o vs _ h _ _ hd => ⟨vs, by rw [<- hd]; exact hS.stays b o h⟩⟩ OwnX.nil hr
theorem zp8 {es : List Expr} {xs : List Ex} {n : Nat} {pos : Pos} (h : zdn c env res es xs) (hz : xs.length <= 1000) : zb3 c env res (.Tuple es n pos) (.tup xs) := fun A q d k loc φ H s Q E hA hF hS hw => by
 refine Tuple_ (wpAny_mono (h.2 A q d k loc φ H s _ E pos hA hF hS hw) ?_ fun _ _ h => h)
 rintro rs s₁ ⟨φ₁, H₁, vs, e₁, S₁, R₁, l₁, w₁⟩
 have hz' : vs.length <= sizeLine := by rw [l₁]; exact zac hz (by decide)
 exact wpAny_newObj_type (Out.lift e₁ ((zgf S₁ R₁ hz').eq w₁)) (by show rs.toArray.size <= sizeLine; rw [List.size_toArray, R₁.length]; exact hz')
theorem zof {es : List Expr} {xs : List Ex} {pos : Pos} (h : zdn c env res es xs) (hz : xs.length <= 1000) : zb3 c env res (.List es pos) (.list xs) := fun A q d k loc φ H s Q E hA hF hS hw => by
 refine List_ (wpAny_mono (h.2 A q d k loc φ H s _ E pos hA hF hS hw) ?_ fun _ _ h => h)
 rintro rs s₁ ⟨φ₁, H₁, vs, e₁, S₁, R₁, l₁, w₁⟩
 have hz' : vs.length <= sizeLine := by rw [l₁]; exact zac hz (by decide)
 exact wpAny_newObj_type (Out.lift e₁ ((zg2 S₁ R₁ hz').eq w₁)) (by show rs.toArray.size <= sizeLine; rw [List.size_toArray, R₁.length]; exact hz')
theorem zpb {l : Expr} {a : Ex} {pos : Pos} (h1 : zb3 c env res l a) : zb3 c env res (.UnaryOp .USub l pos) (.neg a) := fun A q d k loc φ H s Q E hA hF hS hw => by
 refine wpAny_UnaryOp (wpAny_mono (h1 A q d k loc φ H s _ E hA hF hS hw) ?_ fun _ _ h => h)
 rintro x s₁ ⟨φ₁, H₁, v₁, e₁, S₁, R₁, w₁⟩
 obtain ⟨i, hi, w₁⟩ := Opt.inv w₁
 obtain rfl := zcy hi
 obtain ⟨t, rfl⟩ := R₁
 exact PyProof.Rows.neg_int (Out.lift e₁ (Out.at S₁ rI w₁))
theorem zo0 {l : Expr} {a : Ex} {pos : Pos} (h1 : zb3 c env res l a) : zb3 c env res (.UnaryOp .Not l pos) (.not a) := fun A q d k loc φ H s Q E hA hF hS hw => by
 refine wpAny_UnaryOp (wpAny_mono (h1 A q d k loc φ H s _ E hA hF hS hw) ?_ fun _ _ h => h)
 rintro x s₁ ⟨φ₁, H₁, v₁, e₁, S₁, R₁, w₁⟩
 obtain ⟨b, hb, w₁⟩ := Opt.inv w₁
 obtain rfl := zc6 hb
 obtain rfl := R₁
 exact not_of (wpAny_truthy_bool (Out.lift e₁ (Out.at' S₁ rB w₁)))
noncomputable def zdq (c : Cx) (env : Env) (res : Res) : List Expr -> List Ex -> Prop
 | [], xs => xs = []
 | e :: es, xs => match xs with
  | [] => False
  | x :: xs => zb3 c env res e x /\ zdq c env res es xs
inductive SoundsC (c : Cx) (env : Env) (res : Res) (e : Expr) (es : List Expr) (xs : List Ex) : Prop
 | mk (x : Ex) (xs' : List Ex) (h : xs = x :: xs') (h1 : zb3 c env res e x) (h2 : zdq c env res es xs') : SoundsC c env res e es xs
theorem zdq.uncons {e : Expr} {es : List Expr} {xs : List Ex} (h : zdq c env res (e :: es) xs) : SoundsC c env res e es xs := by
 cases xs with
 | nil => exact h.elim
 | cons x xs => exact ⟨x, xs, rfl, h.1, h.2⟩
noncomputable def wpBo (C : CallT) (q : Bool) (d : Nat) (k : Clo) (t : Bool) (xs : List Ex) (l : Loc) (Q : Bool -> Hp -> Prop) (E : XPost) (H : Hp) : Prop := match t with
 | true => zoa C q d k xs l Q E H
 | false => wpOr C q d k xs l Q E H
noncomputable def boR (t : Bool) : BoolOp := match t with
 | true => .And
 | false => .Or
theorem zk4 {C : CallT} {q : Bool} {d : Nat} {k : Clo} {t : Bool} {x : Ex} {xs : List Ex} {l : Loc} {Q : Bool -> Hp -> Prop} {E : XPost} {H : Hp} (h : wpBo C q d k t (x :: xs) l Q E H) :
  wpE C q d k x l (zc5 fun b H => zfc xs (Q b H) (zdi (b == t) (wpBo C q d k t xs l Q E H) (Q b H))) E H := by
 have e : ∀ {P P' : V -> Hp -> Prop} {E : XPost}, (∀ v H, P v H = P' v H) -> wpE C q d k x l P E H -> wpE C q d k x l P' E H := fun h w => by
  have : _ = _ := funext fun v => funext fun H => h v H
  exact this ▸ w
 cases t with
 | true =>
  refine e (fun v H => ?_) h
  unfold zc5
  cases zhz v with
  | none => rfl
  | some b => cases b <;> rfl
 | false =>
  refine e (fun v H => ?_) h
  unfold zc5
  cases zhz v with
  | none => rfl
  | some b => cases b <;> rfl
theorem zi4 {pos : Pos} {t : Bool} : ∀ {es : List Expr} {xs : List Ex}, zdq c env res es xs -> ∀ A q d k loc φ H s (Q : Bool -> Hp -> Prop) E, OkF c A q d φ s.heap -> FSim c env res k loc φ s.heap -> Sim c φ H s -> wpBo (Calls c) q d k t xs loc Q E H ->
  wpAny (model c.prog c.w) A (boolOp pos (boR t) (evalEach es env)) (Out c φ s fun v H => OptI (zhz v) fun b => Q b H) (OutX c φ s E) s
 | [], xs, h => fun A q d k loc φ H s Q E hA hF hS hw => by
  obtain rfl : xs = [] := h
  cases t <;> exact hw.elim
 | [e], xs, h => fun A q d k loc φ H s Q E hA hF hS hw => by
  obtain ⟨x, xs', rfl, h1, h2⟩ := h.uncons
  obtain rfl : xs' = [] := h2
  show wpAny _ _ (eval e env) _ _ _
  exact wpAny_mono (h1 A q d k loc φ H s _ E hA hF hS (zk4 hw)) (fun _ _ h => Out.mono (fun _ _ h => Opt.inv h) h) fun _ _ h => h
 | e :: e' :: es, xs, h => fun A q d k loc φ H s Q E hA hF hS hw => by
  obtain ⟨x, xs', rfl, h1, h2⟩ := h.uncons
  have ih := zi4 (pos := pos) (t := t) h2
  obtain ⟨x', xs'', rfl, _, _⟩ := h2.uncons
  show wpAny _ _ (eval e env >>= fun v => standAt pos >>= fun _ => holding [v] (truthy v) >>= fun tv => match boR t, tv with
   | .And, false | .Or, true => pure v
   | _, _ => boolOp pos (boR t) (evalEach (e' :: es) env)) _ _ _
  refine wpAny_bind (wpAny_mono (h1 A q d k loc φ H s _ E hA hF hS (zk4 hw)) ?_ fun _ _ h => h)
  rintro r s₁ ⟨φ₁, H₁, v₁, e₁, S₁, R₁, w₁⟩
  obtain ⟨b, hb, w₁⟩ := Opt.inv w₁
  obtain rfl := zc6 hb
  obtain rfl := R₁
  refine wpAny_bind (wpAny_standAt (wpAny_bind (wpAny_holding (wpAny_truthy_bool ?_))))
  have go : wpBo (Calls c) q d k t (x' :: xs'') loc Q E H₁ -> wpAny (model c.prog c.w) A (boolOp pos (boR t) (evalEach (e' :: es) env)) (Out c φ s fun v H => OptI (zhz v) fun b => Q b H) (OutX c φ s E) s₁ := fun w =>
   wpAny_mono (ih A q d k loc φ₁ H₁ s₁ Q E (hA.mono e₁) (hF.mono e₁) S₁ w) (fun _ _ h => Out.lift e₁ h) fun _ _ h => OutX.lift e₁ S₁ h
  have st : Q b H₁ -> wpAny (model c.prog c.w) A (pure (.bool b)) (Out c φ s fun v H => OptI (zhz v) fun b => Q b H) (OutX c φ s E) s₁ := fun w => wpAny_pure (Out.lift e₁ (Out.at' S₁ rB ⟨b, rfl, w⟩))
  cases t <;> cases b <;> first | exact st w₁ | exact go w₁
theorem zo2 {pos : Pos} {es : List Expr} {xs : List Ex} (h : zdq c env res es xs) : zb3 c env res (.BoolOp .And es pos) (.and xs) := fun A q d k loc φ H s Q E hA hF hS hw =>
 wpAny_mono (zi4 (t := true) h A q d k loc φ H s _ E hA hF hS hw) (fun _ _ h => Out.mono (fun _ _ ⟨_, hb, h⟩ => by rw [zc6 hb]; exact h) h) fun _ _ h => h
theorem sound_or {pos : Pos} {es : List Expr} {xs : List Ex} (h : zdq c env res es xs) : zb3 c env res (.BoolOp .Or es pos) (.or xs) := fun A q d k loc φ H s Q E hA hF hS hw =>
 wpAny_mono (zi4 (t := false) h A q d k loc φ H s _ E hA hF hS hw) (fun _ _ h => Out.mono (fun _ _ ⟨_, hb, h⟩ => by rw [zc6 hb]; exact h) h) fun _ _ h => h
theorem zpx {l r : Expr} {a b : Ex} {op : Op} {pos : Pos} (O : c.Ok) (h1 : zb3 c env res l a) (h2 : zb3 c env res r b) : zb3 c env res (.BinOp l op.real r pos) (.bin op a b) := fun A q d k loc φ H s Q E hA hF hS hw => by
 refine wpAny_BinOp (wpAny_mono (h1 A q d k loc φ H s _ E hA hF hS hw) ?_ fun _ _ h => h)
 rintro x s₁ ⟨φ₁, H₁, v₁, e₁, S₁, R₁, w₁⟩
 refine wpAny_mono (h2 A q d k loc φ₁ H₁ s₁ _ E (hA.mono e₁) (hF.mono e₁) S₁ w₁) ?_ fun _ _ h => OutX.lift e₁ S₁ h
 rintro y s₂ ⟨φ₂, H₂, v₂, e₂, S₂, R₂, w₂⟩
 obtain ⟨p, e, w₂⟩ := Opt.inv w₂
 exact (do_bin O (hA.mono (e₁.trans e₂)) S₂ (Rep.mono e₂.toKp OwnX.nil R₁) R₂ e).use (e₁.trans e₂) w₂
theorem zo7 {l r : Expr} {a b : Ex} {pos : Pos} (h1 : zb3 c env res l a) (h2 : zb3 c env res r b) : zb3 c env res (.Subscript l r pos) (.idx a b) := fun A q d k loc φ H s Q E hA hF hS hw => by
 refine Subscript_ (wpAny_mono (h1 A q d k loc φ H s _ E hA hF hS hw) ?_ fun _ _ h => h)
 rintro x s₁ ⟨φ₁, H₁, v₁, e₁, S₁, R₁, w₁⟩
 refine wpAny_mono (h2 A q d k loc φ₁ H₁ s₁ _ E (hA.mono e₁) (hF.mono e₁) S₁ w₁) ?_ fun _ _ h => OutX.lift e₁ S₁ h
 rintro y s₂ ⟨φ₂, H₂, v₂, e₂, S₂, R₂, w₂⟩
 obtain ⟨v, e, w₂⟩ := Opt.inv w₂
 exact (do_idx S₂ (Rep.mono e₂.toKp OwnX.nil R₁) R₂ e).use (e₁.trans e₂) w₂
end
end Bn
namespace Bn
open PySem PyProof.Rows
noncomputable def zgk : Expr -> Bool
 | .Set .. => false
 | _ => true
theorem marks_of {op : CmpOp} {e : Expr} (h : zgk e = true) (t : Sem Value) : markedBehindIn op e t = t := by
 refine markedBehindIn_of_false ?_
 cases e <;> first | rfl | cases h
theorem zdd {env : Env} : ∀ {ops : List CmpOp} {es : List Expr}, es.all zgk = true -> markedEach ops es (evalEach es env) = evalEach es env
 | [], es, _ => by cases es <;> rfl
 | [op], [], _ => rfl
 | [op], e :: es, h => by
  obtain ⟨h1, h2⟩ := zag.mp h
  cases es with
  | nil => exact congrArg (fun x => [x]) (marks_of h1 _)
  | cons e' es => exact congrArg (eval e env :: ·) (zdd (ops := []) h2)
 | op :: op' :: ops, [], _ => rfl
 | op :: op' :: ops, e :: es, h => congrArg (eval e env :: ·) (zdd (ops := op' :: ops) (zag.mp h).2)
section
variable {c : Cx} {env : Env} {res : Res}
theorem opr {M : Model} {A : Around} {vs : List Value} {m : Sem Value} {Q : Value -> Shared -> Prop} {E : Value -> Shared -> Prop} {s : Shared} (h : wpAny M A m Q E s) : wpAny M A (operate vs m) Q E s := fun Γ p hΓ => by rw [Sem.wp_operate]; exact h Γ p hΓ
theorem OkF.hu {A : Around} {q : Bool} {d : Nat} {φ : List Addr} {h : Heap} (hA : OkF c A q d φ h) : A.units + 100 < cLine := by have := hA.un; show _ < 9900; exact Ar.ar1 [_,_] [] 0xa5000610000308020 (Y1 (Y0 V0 (.l 100)) (.l 9900)) (Y0 (Y0 V0 (Y1 (.l 10) V1)) (.l 9000)) this
inductive OutB (c : Cx) (φ : List Addr) (s : Shared) (Q : Bool -> Hp -> Prop) (b : Bool) (s' : Shared) : Prop
 | mk (φ' : List Addr) (H' : Hp) (e : Ext [] φ s φ' s') (S : Sim c φ' H' s') (q : Q b H') : OutB c φ s Q b s'
theorem OutB.lift {φ φ₁ : List Addr} {s s₁ s₂ : Shared} {Q : Bool -> Hp -> Prop} {r : Bool} (e : Ext [] φ s φ₁ s₁) (h : OutB c φ₁ s₁ Q r s₂) : OutB c φ s Q r s₂ :=
 let ⟨φ', H', e', S, hq⟩ := h; ⟨φ', H', e.trans e', S, hq⟩
theorem ziw {α : Type} {go : Value -> List CmpOp -> List (Sem Value) -> Sem α} {fin : Value -> Value -> CmpOp -> Sem α} {no : Value -> Sem α} {pos : Pos} {R : (Bool -> Hp -> Prop) -> List Addr -> Shared -> α -> Shared -> Prop}
  (g1 : ∀ x o m, go x [o] [m] = (holding [x] m >>= fun rv => standAt pos >>= fun _ => fin x rv o))
  (g2 : ∀ x o o' os m m' ms, go x (o :: o' :: os) (m :: m' :: ms) = (holding [x] m >>= fun rv => standAt pos >>= fun _ => holding [x, rv] (compareOp o x rv) >>= fun cc => release [x, rv] [cc] >>= fun _ => holding [cc, rv] (truthy cc) >>= fun t =>
   if t then go rv (o' :: os) (m' :: ms) else no cc))
  (hfin : ∀ {A E s x rv o b} {P : α -> Shared -> Prop}, (∀ {Q E}, Q (.bool b) s -> wpAny (model c.prog c.w) A (compareOp o x rv) Q E s) -> (∀ a, (∀ φ H Q, Sim c φ H s -> Q b H -> R Q φ s a s) -> P a s) -> wpAny (model c.prog c.w) A (fin x rv o) P E s)
  (hno : ∀ {A E s} {P : α -> Shared -> Prop}, (∀ a, (∀ φ H Q, Sim c φ H s -> Q false H -> R Q φ s a s) -> P a s) -> wpAny (model c.prog c.w) A (no (.bool false)) P E s)
  (hlift : ∀ {Q φ s φ₁ s₁ a s₂}, Ext [] φ s φ₁ s₁ -> R Q φ₁ s₁ a s₂ -> R Q φ s a s₂) :
  ∀ {es : List Expr} {xs : List Ex} {os : List Cm}, zdq c env res es xs -> os.length = es.length -> ∀ A q d k loc φ H s (Q : Bool -> Hp -> Prop) E v x, OkF c A q d φ s.heap -> FSim c env res k loc φ s.heap -> Sim c φ H s -> Rep c φ s.heap v x ->
  wpC (Calls c) q d k v os xs loc Q E H -> wpAny (model c.prog c.w) A (go x (os.map Cm.real) (evalEach es env)) (R Q φ s) (OutX c φ s E) s
 | [], xs, os, h, hl => fun A q d k loc φ H s Q E v x hA hF hS hR hw => by
  obtain rfl : xs = [] := h
  exact hw.elim
 | _ :: _, _, [], h, hl => nomatch hl
 | [e], xs, o :: os, h, hl => fun A q d k loc φ H s Q E v x hA hF hS hR hw => by
  obtain ⟨y, ys, rfl, h1, h2⟩ := h.uncons
  obtain rfl : ys = [] := h2
  obtain rfl : os = [] := zbm.mp (Nat.succ.inj hl)
  show wpAny _ _ (go x [o.real] [eval e env]) _ _ _
  rw [g1]
  refine wpAny_bind (wpAny_holding (wpAny_mono (h1 A q d k loc φ H s _ E hA hF hS hw) ?_ fun _ _ h => h))
  rintro r s₁ ⟨φ₁, H₁, w, e₁, S₁, R₁, w₁⟩
  obtain ⟨b, hb, w₁⟩ := Opt.inv w₁
  exact wpAny_bind (wpAny_standAt (hfin (do_cmp hA.hu S₁ (Rep.mono e₁.toKp OwnX.nil hR) R₁ hb) fun a ha => hlift e₁ (ha φ₁ H₁ Q S₁ w₁)))
 | _ :: _ :: _, _, [_], h, hl => nomatch (Nat.succ.inj hl)
 | e :: e' :: es, xs, o :: o' :: os, h, hl => fun A q d k loc φ H s Q E v x hA hF hS hR hw => by
  obtain ⟨y, ys, rfl, h1, h2⟩ := h.uncons
  have ih := ziw g1 g2 hfin hno hlift h2 (os := o' :: os) (Nat.succ.inj hl)
  obtain ⟨y', ys', rfl, _, _⟩ := h2.uncons
  show wpAny _ _ (go x (o.real :: o'.real :: os.map Cm.real) (eval e env :: eval e' env :: evalEach es env)) _ _ _
  rw [g2]
  refine wpAny_bind (wpAny_holding (wpAny_mono (h1 A q d k loc φ H s _ E hA hF hS hw) ?_ fun _ _ h => h))
  rintro r s₁ ⟨φ₁, H₁, w, e₁, S₁, R₁, w₁⟩
  obtain ⟨b, hb, w₁⟩ := Opt.inv w₁
  refine wpAny_bind (wpAny_standAt (wpAny_bind (wpAny_holding (do_cmp hA.hu S₁ (Rep.mono e₁.toKp OwnX.nil hR) R₁ hb (wpAny_bind (wpAny_release (wpAny_bind (wpAny_holding (wpAny_truthy_bool ?_)))))))))
  cases b with
  | true => exact wpAny_mono (ih A q d k loc φ₁ H₁ s₁ Q E w r (hA.mono e₁) (hF.mono e₁) S₁ R₁ w₁) (fun _ _ h => hlift e₁ h) fun _ _ h => OutX.lift e₁ S₁ h
  | false => exact hno fun a ha => hlift e₁ (ha φ₁ H₁ Q S₁ w₁)
theorem zrs {l : Expr} {a : Ex} {es : List Expr} {xs : List Ex} {os : List Cm} {pos : Pos} (h1 : zb3 c env res l a) (h2 : zdq c env res es xs) (hl : os.length = es.length) (hn : es.all zgk = true) :
  zb3 c env res (.Compare l (os.map Cm.real) es pos) (.cmp a os xs) := fun A q d k loc φ H s Q E hA hF hS hw => by
 show wpAny _ _ (eval l env >>= fun v => compareChain pos v (os.map Cm.real) (markedEach (os.map Cm.real) es (evalEach es env))) _ _ _
 rw [zdd hn]
 refine wpAny_bind (wpAny_mono (h1 A q d k loc φ H s _ E hA hF hS hw) ?_ fun _ _ h => h)
 rintro x s₁ ⟨φ₁, H₁, v₁, e₁, S₁, R₁, w₁⟩
 exact wpAny_mono (ziw (go := compareChain pos) (fin := fun x rv o => operate [x, rv] (compareOp o x rv)) (no := fun cc => pure cc) (R := fun Q φ s => Out c φ s fun v H => OptI (zhz v) fun b => Q b H) (fun _ _ _ => rfl) (fun _ _ _ _ _ _ _ => rfl)
  (fun h hp => opr (h (hp _ fun φ H Q S hq => Out.at' S rB ⟨_, rfl, hq⟩))) (fun hp => wpAny_pure (hp _ fun φ H Q S hq => Out.at' S rB ⟨_, rfl, hq⟩)) (fun e h => Out.lift e h) h2 hl A q d k loc φ₁ H₁ s₁ _ E v₁ x (hA.mono e₁) (hF.mono e₁) S₁ R₁ w₁)
  (fun _ _ h => Out.lift e₁ (Out.mono (fun _ _ ⟨_, hb, h⟩ => by rw [zc6 hb]; exact h) h)) fun _ _ h => OutX.lift e₁ S₁ h
noncomputable def zej (c : Cx) (env : Env) (res : Res) (e : Expr) (x : Ex) : Prop :=
 ∀ A q d k loc φ H s Q E, OkF c A q d φ s.heap -> FSim c env res k loc φ s.heap -> Sim c φ H s -> wpE (Calls c) q d k x loc (zc5 Q) E H ->
  wpAny (model c.prog c.w) A (isTrue e env (eval e env)) (OutB c φ s Q) (OutX c φ s E) s
noncomputable def zhq : Expr -> Bool
 | .UnaryOp .Not _ _ => false
 | .BoolOp .. => false
 | .IfExp .. => false
 | .Compare .. => false
 | _ => true
theorem zgl {e : Expr} (h : zhq e = true) (whole : Sem Value) : isTrue e env whole = (do
  let v <- whole
  standAt e.pos
  holding [v] (truthy v)) := by
 cases e <;> first | rfl | (cases h; done) | skip
 rename_i op _ _
 cases op <;> first | rfl | cases h
theorem zj5 {e : Expr} {x : Ex} (h : zb3 c env res e x) (hp : zhq e = true) : zej c env res e x := fun A q d k loc φ H s Q E hA hF hS hw => by
 rw [zgl hp]
 refine wpAny_bind (wpAny_mono (h A q d k loc φ H s _ E hA hF hS hw) ?_ fun _ _ h => h)
 rintro r s₁ ⟨φ₁, H₁, v₁, e₁, S₁, R₁, w₁⟩
 obtain ⟨b, hb, w₁⟩ := Opt.inv w₁
 obtain rfl := zc6 hb
 obtain rfl := R₁
 exact wpAny_bind (wpAny_standAt (wpAny_holding (wpAny_truthy_bool ⟨φ₁, H₁, e₁, S₁, w₁⟩)))
theorem zn5 {l : Expr} {a : Ex} {pos : Pos} (h : zej c env res l a) : zej c env res (.UnaryOp .Not l pos) (.not a) := fun A q d k loc φ H s Q E hA hF hS hw =>
 wpAny_isTrue_Not (wpAny_mono (h A q d k loc φ H s (fun b H => Q (!b) H) E hA hF hS hw) (fun _ _ ⟨φ', H', e, S, h⟩ => ⟨φ', H', e, S, h⟩) fun _ _ h => h)
noncomputable def zc9 (c : Cx) (env : Env) (res : Res) : List Expr -> List Ex -> Prop
 | [], xs => xs = []
 | e :: es, xs => match xs with
  | [] => False
  | x :: xs => zej c env res e x /\ zc9 c env res es xs
inductive SoundTC (c : Cx) (env : Env) (res : Res) (e : Expr) (es : List Expr) (xs : List Ex) : Prop
 | mk (x : Ex) (xs' : List Ex) (h : xs = x :: xs') (h1 : zej c env res e x) (h2 : zc9 c env res es xs') : SoundTC c env res e es xs
theorem zc9.uncons {e : Expr} {es : List Expr} {xs : List Ex} (h : zc9 c env res (e :: es) xs) : SoundTC c env res e es xs := by
 cases xs with
 | nil => exact h.elim
 | cons x xs => exact ⟨x, xs, rfl, h.1, h.2⟩
theorem zhm {t : Bool} : ∀ {es : List Expr} {xs : List Ex}, zc9 c env res es xs -> ∀ A q d k loc φ H s (Q : Bool -> Hp -> Prop) E, OkF c A q d φ s.heap -> FSim c env res k loc φ s.heap -> Sim c φ H s -> wpBo (Calls c) q d k t xs loc Q E H ->
  wpAny (model c.prog c.w) A (allTrue (boR t) es env) (OutB c φ s Q) (OutX c φ s E) s
 | [], xs, h => fun A q d k loc φ H s Q E hA hF hS hw => by
  obtain rfl : xs = [] := h
  cases t <;> exact hw.elim
 | e :: es, xs, h => fun A q d k loc φ H s Q E hA hF hS hw => by
  obtain ⟨x, xs', rfl, h1, h2⟩ := h.uncons
  have key : wpAny (model c.prog c.w) A (isTrue e env (eval e env)) (fun b s₁ => zdi (b == t) (wpAny (model c.prog c.w) A (allTrue (boR t) es env) (OutB c φ s Q) (OutX c φ s E) s₁) (OutB c φ s Q b s₁)) (OutX c φ s E) s := by
   refine wpAny_mono (h1 A q d k loc φ H s _ E hA hF hS (zk4 hw)) ?_ fun _ _ h => h
   rintro b s₁ ⟨φ₁, H₁, e₁, S₁, w₁⟩
   cases es with
   | nil =>
    obtain rfl : xs' = [] := h2
    cases t <;> cases b <;> first | exact ⟨φ₁, H₁, e₁, S₁, w₁⟩ | exact wpAny_allTrue_And_nil ⟨φ₁, H₁, e₁, S₁, w₁⟩ | exact wpAny_allTrue_Or_nil ⟨φ₁, H₁, e₁, S₁, w₁⟩
   | cons e' es =>
    have ih := zhm (t := t) h2
    obtain ⟨x', xs'', rfl, _, _⟩ := h2.uncons
    have go : wpBo (Calls c) q d k t (x' :: xs'') loc Q E H₁ -> wpAny (model c.prog c.w) A (allTrue (boR t) (e' :: es) env) (OutB c φ s Q) (OutX c φ s E) s₁ := fun w =>
     wpAny_mono (ih A q d k loc φ₁ H₁ s₁ Q E (hA.mono e₁) (hF.mono e₁) S₁ w) (fun _ _ h => OutB.lift e₁ h) fun _ _ h => OutX.lift e₁ S₁ h
    cases t <;> cases b <;> first | exact go w₁ | exact ⟨φ₁, H₁, e₁, S₁, w₁⟩
  cases t with
  | true => exact wpAny_allTrue_And_cons (wpAny_mono key (fun b _ h => by cases b <;> exact h) fun _ _ h => h)
  | false => exact wpAny_allTrue_Or_cons (wpAny_mono key (fun b _ h => by cases b <;> exact h) fun _ _ h => h)
theorem zn1 {es : List Expr} {xs : List Ex} {pos : Pos} (h : zc9 c env res es xs) : zej c env res (.BoolOp .And es pos) (.and xs) := fun A q d k loc φ H s Q E hA hF hS hw =>
 wpAny_isTrue_BoolOp (zhm (t := true) h A q d k loc φ H s Q E hA hF hS hw)
theorem zqi {es : List Expr} {xs : List Ex} {pos : Pos} (h : zc9 c env res es xs) : zej c env res (.BoolOp .Or es pos) (.or xs) := fun A q d k loc φ H s Q E hA hF hS hw =>
 wpAny_isTrue_BoolOp (zhm (t := false) h A q d k loc φ H s Q E hA hF hS hw)
theorem znj {l : Expr} {a : Ex} {es : List Expr} {xs : List Ex} {os : List Cm} {pos : Pos} (h1 : zb3 c env res l a) (h2 : zdq c env res es xs) (hl : os.length = es.length) (hn : es.all zgk = true) :
  zej c env res (.Compare l (os.map Cm.real) es pos) (.cmp a os xs) := fun A q d k loc φ H s Q E hA hF hS hw => by
 show wpAny _ _ (eval l env >>= fun v => testChain pos v (os.map Cm.real) (markedEach (os.map Cm.real) es (evalEach es env))) _ _ _
 rw [zdd hn]
 refine wpAny_bind (wpAny_mono (h1 A q d k loc φ H s _ E hA hF hS hw) ?_ fun _ _ h => h)
 rintro x s₁ ⟨φ₁, H₁, v₁, e₁, S₁, R₁, w₁⟩
 exact wpAny_mono (ziw (go := testChain pos) (fin := fun x rv o => operate [x, rv] (compareOp o x rv) >>= fun cc => holding [cc] (truthy cc)) (no := fun _ => pure false) (R := fun Q φ s => OutB c φ s Q) (fun _ _ _ => rfl) (fun _ _ _ _ _ _ _ => rfl)
  (fun h hp => wpAny_bind (opr (h (wpAny_holding (wpAny_truthy_bool (hp _ fun φ H Q S hq => ⟨φ, H, Ext.refl, S, hq⟩)))))) (fun hp => wpAny_pure (hp _ fun φ H Q S hq => ⟨φ, H, Ext.refl, S, hq⟩)) (fun e h => OutB.lift e h) h2 hl A q d k loc φ₁ H₁ s₁ Q E v₁ x (hA.mono e₁) (hF.mono e₁) S₁ R₁ w₁)
  (fun _ _ h => OutB.lift e₁ h) fun _ _ h => OutX.lift e₁ S₁ h
end
end Bn
namespace Bn
open PySem PyProof.Rows
noncomputable def Tc.real : Tc -> Option String
 | .int => some "int" | .bool => some "bool" | .list => some "list" | .tuple => some "tuple"
 | .str => some "str"
 | .own _ => none
section
variable {c : Cx} {A : Around} {q : Bool} {d : Nat} {φ : List Addr} {H H' : Hp} {s : Shared}
inductive ListRef (h : Heap) (x : Value) : Prop
 | mk (a : Addr) (o : Obj) (e : x = .ref a) (ho : h.get? a = some o) (hc : o.cls = .type "list") : ListRef h x
inductive SubT (Tx : Option String) (T : String) (b : Bool) : Prop
 | mk (X : String) (e : Tx = some X) (h1 : typeOf (.type T) = pure (.type "type")) (h2 : isSubtype (.type X) (.type T) = pure b) (h3 : b = false -> (Value.type X == Value.type T) = false) : SubT Tx T b
theorem zb8 {X T : String} {b b' : Bool} (e : some b' = some b) (h1 : typeOf (.type T) = pure (.type "type")) (h2 : isSubtype (.type X) (.type T) = pure b') (h3 : (b' || !(Value.type X == Value.type T)) = true) : SubT (some X) T b := by
 obtain rfl := zaa e
 exact ⟨X, rfl, h1, h2, fun h => by rw [h] at h3; exact Bool.not_eq_eq_eq_not.mp h3⟩
noncomputable def tyN : V -> Option String
 | .none => some "NoneType" | .bool _ => some "bool" | .int _ => some "int" | .tup _ => some "tuple" | .lst _ => some "list"
 | .str _ => some "str"
 | .dict0 _ => some "dict"
 | _ => none
theorem isi_sub {v : V} {t : Tc} {T : String} {b : Bool} (hT : t.real = some T) (e : isiV v t = some b) : SubT (tyN v) T b := by
 cases t with
 | int =>
  obtain rfl := zaa hT
  cases v with
  | none => exact zb8 e F.isi_meta_int F.sub_NoneType_int (by decide +kernel)
  | bool => exact zb8 e F.isi_meta_int F.sub_bool_int (by decide +kernel)
  | int => exact zb8 e F.isi_meta_int F.sub_int_int (by decide +kernel)
  | tup => exact zb8 e F.isi_meta_int F.sub_tuple_int (by decide +kernel)
  | lst => exact zb8 e F.isi_meta_int F.sub_list_int (by decide +kernel)
  | str => exact zb8 e F.isi_meta_int F.sub_str_int (by decide +kernel)
  | dict0 => exact zb8 e F.isi_meta_int F.sub_dict_int (by decide +kernel)
  | _ => cases e
 | bool =>
  obtain rfl := zaa hT
  cases v with
  | none => exact zb8 e F.isi_meta_bool F.sub_NoneType_bool (by decide +kernel)
  | bool => exact zb8 e F.isi_meta_bool F.sub_bool_bool (by decide +kernel)
  | int => exact zb8 e F.isi_meta_bool F.sub_int_bool (by decide +kernel)
  | tup => exact zb8 e F.isi_meta_bool F.sub_tuple_bool (by decide +kernel)
  | lst => exact zb8 e F.isi_meta_bool F.sub_list_bool (by decide +kernel)
  | str => exact zb8 e F.isi_meta_bool F.sub_str_bool (by decide +kernel)
  | dict0 => exact zb8 e F.isi_meta_bool F.sub_dict_bool (by decide +kernel)
  | _ => cases e
 | list =>
  obtain rfl := zaa hT
  cases v with
  | none => exact zb8 e F.isi_meta_list F.sub_NoneType_list (by decide +kernel)
  | bool => exact zb8 e F.isi_meta_list F.sub_bool_list (by decide +kernel)
  | int => exact zb8 e F.isi_meta_list F.sub_int_list (by decide +kernel)
  | tup => exact zb8 e F.isi_meta_list F.sub_tuple_list (by decide +kernel)
  | lst => exact zb8 e F.isi_meta_list F.sub_list_list (by decide +kernel)
  | str => exact zb8 e F.isi_meta_list F.sub_str_list (by decide +kernel)
  | dict0 => exact zb8 e F.isi_meta_list F.sub_dict_list (by decide +kernel)
  | _ => cases e
 | tuple =>
  obtain rfl := zaa hT
  cases v with
  | none => exact zb8 e F.isi_meta_tuple F.sub_NoneType_tuple (by decide +kernel)
  | bool => exact zb8 e F.isi_meta_tuple F.sub_bool_tuple (by decide +kernel)
  | int => exact zb8 e F.isi_meta_tuple F.sub_int_tuple (by decide +kernel)
  | tup => exact zb8 e F.isi_meta_tuple F.sub_tuple_tuple (by decide +kernel)
  | lst => exact zb8 e F.isi_meta_tuple F.sub_list_tuple (by decide +kernel)
  | str => exact zb8 e F.isi_meta_tuple F.sub_str_tuple (by decide +kernel)
  | dict0 => exact zb8 e F.isi_meta_tuple F.sub_dict_tuple (by decide +kernel)
  | _ => cases e
 | str =>
  obtain rfl := zaa hT
  cases v with
  | none => exact zb8 e F.isi_meta_str F.sub_NoneType_str (by decide +kernel)
  | bool => exact zb8 e F.isi_meta_str F.sub_bool_str (by decide +kernel)
  | int => exact zb8 e F.isi_meta_str F.sub_int_str (by decide +kernel)
  | tup => exact zb8 e F.isi_meta_str F.sub_tuple_str (by decide +kernel)
  | lst => exact zb8 e F.isi_meta_str F.sub_list_str (by decide +kernel)
  | str => exact zb8 e F.isi_meta_str F.sub_str_str (by decide +kernel)
  | dict0 => exact zb8 e F.isi_meta_str F.sub_dict_str (by decide +kernel)
  | _ => cases e
 | own => cases hT
theorem do_isi (S : Sim c φ H s) {v : V} {x : Value} {t : Tc} {T : String} {b : Bool} (R : Rep c φ s.heap v x) (hT : t.real = some T) (e : isiV v t = some b) : Does c A φ s (call (.builtin "isinstance") [x, .type T]) (.bool b) H := by
 intro E
 have hlst : ∀ {i : Nat} {x : Value}, Rep c φ s.heap (.lst i) x -> ListRef s.heap x := fun R => by
  obtain ⟨a, rfl, ha⟩ := R
  obtain ⟨o, h1, h2⟩ := S.isList (zaw ha)
  exact ⟨a, o, rfl, h1, h2⟩
 obtain ⟨X, eX, h1, h2, h3⟩ := isi_sub hT e
 clear e hT t
 cases b with
 | true =>
  refine call_isinstance (isinstance_true (Tx := X) h1 h2) ⟨?_, Out.same' S rB⟩
  cases v with
  | none => obtain rfl := zaa eX; obtain rfl := R; exact rfl
  | bool => obtain rfl := zaa eX; obtain rfl := R; exact rfl
  | int => obtain rfl := zaa eX; obtain ⟨t1, rfl⟩ := R; exact rfl
  | tup => obtain rfl := zaa eX; obtain ⟨a, o, vs, n, rfl, _, ho, hc, _⟩ := R; exact ⟨o, ho, hc⟩
  | lst => obtain rfl := zaa eX; obtain ⟨a, o, rfl, ho, hc⟩ := hlst R; exact ⟨o, ho, hc⟩
  | str => obtain rfl := zaa eX; obtain ⟨t1, rfl⟩ := R; exact rfl
  | dict0 => obtain rfl := zaa eX; obtain ⟨o, es, n, rfl, _, ho, hc, _⟩ := R; exact ⟨o, ho, hc⟩
  | _ => cases eX
 | false =>
  have yes : ∀ {t : Nat}, Out c φ s (fun x H' => x = .bool false /\ H' = H) (.bool false) { s with toks := t } := Out.same S rB
  have h3 := h3 rfl
  cases v with
  | none => obtain rfl := zaa eX; obtain rfl := R; exact call_isinstance (isinstance_false_none h3 h1 h2) yes
  | bool => obtain rfl := zaa eX; obtain rfl := R; exact call_isinstance (isinstance_false_bool h3 h1 h2) yes
  | int => obtain rfl := zaa eX; obtain ⟨t1, rfl⟩ := R; exact call_isinstance (isinstance_false_int h3 h1 h2) yes
  | tup => obtain rfl := zaa eX; obtain ⟨a, o, vs, n, rfl, _, ho, hc, _⟩ := R; exact call_isinstance (isinstance_false_tuple h3 h1 h2) ⟨⟨o, ho, hc⟩, yes⟩
  | lst => obtain rfl := zaa eX; obtain ⟨a, o, rfl, ho, hc⟩ := hlst R; exact call_isinstance (isinstance_false_list h3 h1 h2) ⟨⟨o, ho, hc⟩, yes⟩
  | str => obtain rfl := zaa eX; obtain ⟨t1, rfl⟩ := R; exact call_isinstance (isinstance_false_str h3 h1 h2) yes
  | dict0 => obtain rfl := zaa eX; obtain ⟨o, es, n, rfl, _, ho, hc, _⟩ := R; exact call_isinstance (isinstance_false_dict h3 h1 h2) ⟨⟨o, ho, hc⟩, yes⟩
  | _ => cases eX
end
section
variable {c : Cx} {env : Env} {res : Res}
theorem zeq {es : List Expr} {pos : Pos} : es.all zcb = true -> (backTo pos (starEach es env)).any (·.1) = false := by
 induction es with
 | nil => intro _; rfl
 | cons e es ih =>
  intro h
  simp only [List.all_cons, zbp] at h
  rw [zcx h.1]
  show (false || (backTo pos (starEach es env)).any (·.1)) = false
  rw [ih h.2]; rfl
inductive OutA (c : Cx) (φ : List Addr) (s : Shared) (Q : List V -> Hp -> Prop) (a : Args) (s' : Shared) : Prop
 | mk (rs : List Value) (h : a = ⟨rs, []⟩) (φ' : List Addr) (H' : Hp) (vs : List V) (e : Ext [] φ s φ' s') (S : Sim c φ' H' s') (R : RepL c φ' s'.heap vs rs) (q : Q vs H') : OutA c φ s Q a s'
theorem zf2 {es : List Expr} {xs : List Ex} (h : zdn c env res es xs) (hne : es ≠ []) {f : Value} {A q d k loc φ H s Q E} {pos : Pos} (hA : OkF c A q d φ s.heap) (hF : FSim c env res k loc φ s.heap) (hS : Sim c φ H s) (hw : wpL (Calls c) q d k xs loc Q E H) :
  wpAny (model c.prog c.w) A (evalArgs f true (backTo pos (starEach es env)) []) (fun a s' => OutA c φ s (fun vs H => vs.length = xs.length /\ Q vs H) a s') (OutX c φ s E) s := by
 cases es with
 | nil => exact absurd rfl hne
 | cons e es =>
  have h2 := h.2 A q d k loc φ H s Q E pos hA hF hS hw
  have hn := h.1.1
  simp only [List.all_cons, zbp] at hn
  rw [zcx hn.1] at h2 ⊢
  exact Calls.evalArgs_plain (wpAny_mono h2 (fun rs s' ⟨φ', H', vs, e, S, R, q⟩ => ⟨rs, rfl, φ', H', vs, e, S, R, q⟩) fun _ _ h => h)
theorem znq {f : Str} {p pos : Pos} {es : List Expr} {xs : List Ex} {a : Addr} {o : Obj} {fd : FuncData} (O : c.Ok) (hk : env.kindOf f = some .globalImplicit) (hg : c.g f = some (.ref a)) (ho : c.h0.get? a = some o) (hd : o.data = .func fd)
  (hx : (f == ("__debug__" : Str)) = false) (h : zdn c env res es xs) (hne : es ≠ []) : zb3 c env res (.Call (.Name f p) es [] pos) (.call f xs) := fun A q d k loc φ H s Q E hA hF hS hw => by
 show wpAny _ _ (eval (.Name f p) env >>= fun fv => callWith pos fv [] (backTo pos (starEach es env)) []) _ _ _
 refine wpAny_bind (Calls.Name_function_global hF.fn hk (Calls.loadGlobal_global (by rw [hF.gl]; exact O.gl.keeps hS.stays) hg ?_) hx)
 refine Calls.callWith_function (o := o) (fd := fd) (wpAny_mono (zf2 h hne hA hF hS hw) ?_ fun _ _ h => h)
 rintro _ s₁ ⟨rs, rfl, φ₁, H₁, vs, e₁, S₁, R₁, l₁, w₁⟩
 refine ⟨⟨S₁.stays a o ho, hd⟩, wpAny_call ?_⟩
 obtain ⟨a', o', fd', g1, g2, g3, g4⟩ := w₁
 rw [hg] at g1; cases g1
 have := g4 A φ₁ s₁ rs [] (hA.mono e₁).toOkA S₁ R₁ rfl
 rw [za9] at this
 refine codeAny_mono this ?_
 intro r s' hr
 cases r with
 | error e => exact OutX.lift e₁ S₁ hr
 | ok f => cases f with
  | ret v => exact Out.lift e₁ hr
  | _ => exact hr.elim
theorem zcg {M : Model} {A : Around} {E : Value -> Shared -> Prop} {s : Shared} {pos : Pos} {f : Value} (hf : ∀ a, f ≠ .ref a) {first : List Value} {args : List (Bool × Sem Value)} {Q : Value -> Shared -> Prop} (hplain : args.any (·.1) = false)
  (h : wpAny M A (evalArgs f true args []) (fun a s₁ => wpAny M A (call f (first ++ a.pos) a.kw) Q E s₁) E s) : wpAny M A (callWith pos f first args []) Q E s := by
 unfold callWith
 refine wpAny_bind (wpAny_holding (wpAny_mono h (fun a s₁ h₁ => wpAny_bind (wpAny_standAt ?_)) fun _ _ x => x))
 rw [hplain]
 have hk : keeperOf f = pure .machine := by cases f <;> first | rfl | exact absurd rfl (hf _)
 rw [hk]
 refine wpAny_bind (wpAny_pure ?_)
 exact wpAny_bind (wpAny_mono h₁ (fun r s₂ hr => wpAny_bind (wpAny_holding (wpAny_point (wpAny_pure hr)))) fun _ _ x => x)
theorem Bl.noref (b : Bl) : ∀ a, b.real ≠ .ref a := by intro a; cases b <;> (intro h; cases h)
theorem zqc {f : Str} {p pos : Pos} {es : List Expr} {xs : List Ex} {b : Bl} (O : c.Ok) (hk : env.kindOf f = some .globalImplicit) (hg : c.g f = none) (hb : c.b f = some b.real)
  (hx : (f == ("__debug__" : Str)) = false) (h : zdn c env res es xs) (hne : es ≠ []) : zb3 c env res (.Call (.Name f p) es [] pos) (.blt b xs) := fun A q d k loc φ H s Q E hA hF hS hw => by
 show wpAny _ _ (eval (.Name f p) env >>= fun fv => callWith pos fv [] (backTo pos (starEach es env)) []) _ _ _
 refine wpAny_bind (Calls.Name_function_global hF.fn hk (Calls.loadGlobal_builtin (by rw [hF.gl]; exact O.gl.keeps hS.stays) hg (by rw [hF.bl]; exact O.bl.keeps hS.stays) hb ?_) hx)
 refine zcg b.noref (zeq h.1.1) (wpAny_mono (zf2 h hne hA hF hS hw) ?_ fun _ _ h => h)
 rintro _ s₁ ⟨rs, rfl, φ₁, H₁, vs, e₁, S₁, R₁, l₁, w₁⟩
 obtain ⟨p, e, w₂⟩ := Opt.inv w₁
 obtain ⟨rfl, e'⟩ := zrn e
 exact (do_blt O (hA.mono e₁) S₁ R₁ e').use e₁ w₂
theorem zrk {p p' pos : Pos} {e : Expr} {x : Ex} {t : Tc} {T : String} (O : c.Ok) (hT : t.real = some T) (hk : env.kindOf (Str.ofString "isinstance") = some .globalImplicit) (hk' : env.kindOf (Str.ofString T) = some .globalImplicit)
  (hg : c.g (Str.ofString "isinstance") = none) (hb : c.b (Str.ofString "isinstance") = some (.builtin "isinstance")) (hg' : c.g (Str.ofString T) = none) (hb' : c.b (Str.ofString T) = some (.type T))
  (hx : (Str.ofString T == ("__debug__" : Str)) = false) (hn : zcb e = true) (h : zb3 c env res e x) : zb3 c env res (.Call (.Name (Str.ofString "isinstance") p) [e, .Name (Str.ofString T) p'] [] pos) (.isi x t) := fun A q d k loc φ H s Q E hA hF hS hw => by
 show wpAny _ _ (eval (.Name (Str.ofString "isinstance") p) env >>= fun fv => callWith pos fv [] (backTo pos (starEach [e, .Name (Str.ofString T) p'] env)) []) _ _ _
 refine wpAny_bind (Calls.Name_function_global hF.fn hk (Calls.loadGlobal_builtin (by rw [hF.gl]; exact O.gl.keeps hS.stays) hg (by rw [hF.bl]; exact O.bl.keeps hS.stays) hb ?_))
 rw [zcx hn]
 refine zcg (by intro a h; cases h) rfl (Calls.evalArgs_plain (Calls.spliced_cons (wpAny_mono (h A q d k loc φ H s _ E hA hF hS hw) ?_ fun _ _ h => h)))
 rintro r s₁ ⟨φ₁, H₁, v₁, e₁, S₁, R₁, w₁⟩
 refine Calls.spliced_cons (Calls.Name_function_global hF.fn hk' (Calls.loadGlobal_builtin (by rw [hF.gl]; exact O.gl.keeps S₁.stays) hg' (by rw [hF.bl]; exact O.bl.keeps S₁.stays) hb' (Calls.spliced_nil ?_)) hx)
 obtain ⟨b, hb, w₁⟩ := Opt.inv w₁
 exact (do_isi S₁ R₁ hT hb).use e₁ w₁
end
end Bn
namespace Bn
open PySem PyProof.Rows
noncomputable def Me.on : Me -> String
 | _ => "list"
noncomputable def Me.nm : Me -> Str
 | .append => "append"
 | .count => "count"
 | .index => "index"
noncomputable def Me.id : Me -> String
 | .append => "list.append"
 | .count => "list.count"
 | .index => "list.index"
theorem Me.slot (m : Me) : Slot m.on m.nm m.id := by
 cases m with
 | append => exact PySem.F.slot_list_append
 | count => exact PySem.F.slot_list_count
 | index => exact PySem.F.slot_list_index
theorem Me.ty (m : Me) : typeOf (.builtin m.id) = pure (.type "method_descriptor") := by
 cases m with
 | append => exact PySem.F.type_list_append
 | count => exact PySem.F.type_list_count
 | index => exact PySem.F.type_list_index
theorem Me.attrs (m : Me) : PlainAttrs m.on := by
 cases m with
 | _ => exact PySem.F.plainAttrs_list
section
variable {c : Cx} {A : Around} {q : Bool} {d : Nat} {φ : List Addr} {H H' : Hp} {s : Shared}
theorem out_put (S : Sim c φ H s) {i : Nat} {a : Addr} {xs : List V} {vs : Array Value} {n : Nat} {f : Array Value -> Array Value} {v : V} {r : Value} {t : Nat} (ha : φ[i]? = some a) (ho : s.heap.get? a = some (lobj vs n))
  (hr : RepL c φ s.heap xs (f vs).toList) (hz : xs.length <= sizeLine) (hv : Rep c φ s.heap v r) : Out c φ s (fun x H' => x = v /\ H' = H.set i xs) r { s with heap := s.heap.update a (Obj.mapSeq f), toks := t } := by
 obtain ⟨e, S'⟩ := S.put (h' := s.heap.update a (Obj.mapSeq f)) ha (Heap.SameBut.update ..) (IsL.update (n := n) ho f) hr hz
 exact ⟨φ, _, v, e.trans (Ext.of_heap rfl rfl), S'.tok t, Rep.mono e.toKp OwnX.nil hv, rfl, rfl⟩
noncomputable def isT (v : Value) : Bool := v == .bool true
theorem isT_at {A : Around} {s : Shared} {l : List Bool} {vs : Array Value} (h : vs.toList = l.map Value.bool) : ∀ y, y ∈ vs -> SeqAt.EqAt A s y (.bool true) (isT y) := fun y hy => by
 have : y ∈ vs.toList := Array.mem_toList_iff.mpr hy
 rw [h] at this
 obtain ⟨b, _, rfl⟩ := zas.mp this
 have := SeqAt.EqAt.bool_bool (A := A) (s := s) b true
 have e : isT (Value.bool b) = (b == true) := by cases b <;> rfl
 rw [e]; exact this
theorem zj2 : ∀ l : List Bool, (l.map Value.bool).countP isT = l.count true
 | [] => rfl
 | b :: l => by
  rw [zbf, List.countP_cons, zj2 l, List.count_cons]
  cases b <;> rfl
noncomputable def HasM (c : Cx) (A : Around) (φ : List Addr) (s : Shared) (m : Me) (x : Value) (rs : List Value) (p : V × Hp) : Prop := Does c A φ s (call (.builtin m.id) (x :: rs)) p.1 p.2
theorem zoo (S : Sim c φ H s) {i : Nat} {w : V} {x r : Value} {xs : List V} (R1 : Rep c φ s.heap (.lst i) x) (Rw : Rep c φ s.heap w r) (e1 : H[i]? = some xs) (hz : xs.length < sizeLine) : HasM c A φ s .append x [r] (.none, H.set i (xs ++ [w])) := by
 intro E
 have hsl : sizeLine = 2 ^ 24 := rfl
 obtain ⟨a, us, n, rfl, ha, ho, hr, hz1, z⟩ := S.getP R1 e1
 refine wpAny_call_entry slot_list_append ⟨_, ho, rfl⟩ entry_list_append ?_ (args_list_append _ _)
 show wpAny _ _ (updateSeq a (·.push r) >>= fun _ => ret .none) _ _ s
 refine wpAny_bind (wpAny_updateSeq ho rfl (wpAny_pure ⟨.none, rfl, ?_⟩) (by exact Ar.ar2 [_,_,_] [] 0x294a000c20000610040308040 (Y0 V0 V1) (Y1 V2 V1) (Y2 V0 V2) hz z) (by simp; exact Ar.ar2 [_,_,_] [] 0x294a000c20000610040308040 (Y0 V0 V1) (Y1 V2 V1) (Y2 V0 V2) hz z))
 exact out_put (t := s.toks) S ha ho (by rw [Array.toList_push]; exact hr.append (show RepL c φ s.heap [w] [r] from ⟨Rw, rfl⟩)) (by rw [zan]; exact hz) rN
theorem do_count (S : Sim c φ H s) {i : Nat} {x : Value} {xs : List V} {l : List Bool} (R1 : Rep c φ s.heap (.lst i) x) (e3 : H[i]? = some xs) (e4 : zd9 xs = some l) : HasM c A φ s .count x [.bool true] (.int (l.count true), H) := by
 intro E
 obtain ⟨a, us, n, rfl, ha, ho, hr, hz1, z⟩ := S.getP R1 e3
 have hb := zep hr e4
 refine call_meets PySem.F.slot_list_count ⟨_, ho, rfl⟩ PySem.F.entry_list_count (PySem.F.args_list_count_2 _ _) (SeqAt.list_countAt a us n none #[] (.bool true) isT) ⟨ho, isT_at hb, ?_⟩
 rw [hb, zj2]
 exact Out.same S rI
theorem do_index (S : Sim c φ H s) {i : Nat} {x : Value} {xs : List V} {l : List Bool} (R1 : Rep c φ s.heap (.lst i) x) (e3 : H[i]? = some xs) (e4 : zd9 xs = some l) (hm : true ∈ l) : HasM c A φ s .index x [.bool true] (.int (l.idxOf true), H) := by
 intro E
 have hsl : sizeLine = 2 ^ 24 := rfl
 obtain ⟨a, us, n, rfl, ha, ho, hr, hz1, z⟩ := S.getP R1 e3
 have hb := zep hr e4
 have hlt : l.idxOf true < l.length := List.idxOf_lt_length_iff.mpr hm
 have hsz : us.size = l.length := by rw [<- za3, hb, zaf]
 have hat : ∀ m (h : m < us.size), us[m] = .bool (l[m]'(by lia)) := fun m h => by
  have : us.toList[m]? = some (.bool (l[m]'(by lia))) := by rw [hb, zay, zal (by lia)]; rfl
  rw [Array.getElem?_toList, zbt h] at this
  exact zaa this
 refine call_meets PySem.F.slot_list_index ⟨_, ho, rfl⟩ PySem.F.entry_list_index (PySem.F.args_list_index_2 _ _) (SeqAt.list_indexAt a us n none #[] (.bool true) isT (l.idxOf true) (by lia) (by lia) ?_ ?_) ⟨ho, isT_at hb, ?_⟩
 ·rw [hat _ (by lia), List.getElem_idxOf hlt]; rfl
 ·intro m h1 h2
  rw [hat _ h1]
  have := List.not_of_lt_findIdx (p := (· == true)) (xs := l) (i := m) h2
  cases hl : l[m]'(by lia) with
  | false => rfl
  | true => simp [hl] at this
 ·exact Out.same S rI
inductive LstI (H : Hp) {β : Type} (v : V) (f : Nat -> List V -> Option β) (r : β) : Prop
 | mk (i : Nat) (xs : List V) (h : v = .lst i) (e : H[i]? = some xs) (g : f i xs = some r) : LstI H v f r
theorem lstI {β : Type} {v : V} {f : Nat -> List V -> Option β} {r : β} (h : ((zjs v).bind fun a => (H[a]?).bind fun xs => f a xs) = some r) : LstI H v f r := by
 obtain ⟨i, hi, g⟩ := zab.mp h
 obtain ⟨xs, e, g⟩ := zab.mp g
 exact ⟨i, xs, zff hi, e, g⟩
theorem zgz {v : V} {u : Unit} (h : zlu v = some u) : v = .bool true := by
 obtain ⟨b, hb, g⟩ := zab.mp h
 obtain rfl := zc6 hb
 obtain ⟨hb, _⟩ := iteS g
 rw [hb]
theorem do_meth (S : Sim c φ H s) {m : Me} {v : V} {vs : List V} {p : V × Hp} {x : Value} {rs : List Value} (R1 : Rep c φ s.heap v x) (R2 : RepL c φ s.heap vs rs) (e : zoe H m v vs = some p) :
  DoesP c A φ s (call (.builtin m.id) (x :: rs)) p := by
 cases m with
 | append =>
  obtain ⟨i, xs, rfl, e1, g⟩ := lstI e
  obtain ⟨w, rfl, k⟩ := zdc g
  obtain ⟨r, rfl, Rw⟩ := R2.one
  obtain ⟨hz, rfl⟩ := iteS k
  exact zoo S R1 Rw e1 hz
 | count =>
  obtain ⟨i, xs, rfl, e3, f⟩ := zd6 e
  obtain ⟨w, rfl, k⟩ := zdc f
  obtain ⟨r, rfl, Rw⟩ := R2.one
  obtain ⟨_, hw, k1⟩ := zab.mp k
  obtain rfl := zgz hw
  obtain ⟨l, e4, rfl⟩ := zah.mp k1
  obtain rfl := Rw
  exact do_count S R1 e3 e4
 | index =>
  obtain ⟨i, xs, rfl, e3, f⟩ := zd6 e
  obtain ⟨w, rfl, k⟩ := zdc f
  obtain ⟨r, rfl, Rw⟩ := R2.one
  obtain ⟨_, hw, k1⟩ := zab.mp k
  obtain rfl := zgz hw
  obtain ⟨l, e4, k2⟩ := zab.mp k1
  obtain ⟨hm, rfl⟩ := iteS k2
  obtain rfl := Rw
  exact do_index S R1 e3 e4 hm
end
end Bn
namespace Bn
open PySem PyProof.Rows
noncomputable def zkl : Expr -> Bool
 | .Name .. => true
 | .Constant .. => true
 | .Subscript .. => true
 | _ => false
theorem zk2 {o : Expr} {name : Str} {env : Env} (h : zkl o = true) : attributeBase o name env (eval o env) = eval o env := by
 cases o <;> first | rfl | cases h
theorem zjp {M : Model} {A : Around} {E : Value -> Shared -> Prop} {s : Shared} {f : Value} {Q : Args -> Shared -> Prop} (h : Q ⟨[], []⟩ s) : wpAny M A (evalArgs f true [] []) Q E s := by
 unfold evalArgs
 show wpAny M A (spliced [] >>= _) Q E s
 refine wpAny_bind (wpAny_pure (wpAny_bind (wpAny_pure ?_)))
 refine wpAny_holding ?_
 exact wpAny_bind (wpAny_pure (wpAny_bind (wpAny_pure (wpAny_pure h))))
section
variable {c : Cx} {env : Env} {res : Res}
theorem args_any {es : List Expr} {xs : List Ex} (h : zdn c env res es xs) {f : Value} {A q d k loc φ H s Q E} {pos : Pos} (hA : OkF c A q d φ s.heap) (hF : FSim c env res k loc φ s.heap) (hS : Sim c φ H s) (hw : wpL (Calls c) q d k xs loc Q E H) :
  wpAny (model c.prog c.w) A (evalArgs f true (backTo pos (starEach es env)) []) (fun a s' => OutA c φ s (fun vs H => vs.length = xs.length /\ Q vs H) a s') (OutX c φ s E) s := by
 cases es with
 | cons e es => exact zf2 h (by simp) hA hF hS hw
 | nil =>
  have hx : xs = [] := zbm.mp h.1.2.symm
  subst hx
  exact zjp ⟨[], rfl, φ, H, [], Ext.refl, hS, rL, rfl, hw⟩
theorem few_args {es : List Expr} {pos : Pos} (h : es.all zcb = true) (hes : es.length < 20) : ((backTo pos (starEach es env)).all (fun x => !x.1) && (backToKw pos (keywordEach [] env)).all (fun x => x.1.isSome)
   && decide (es.length + ([] : List Keyword).length + (if ([] : List Keyword).isEmpty then 0 else 1) < 30)) = true := by
 have h3 : (backTo pos (starEach es env)).all (fun x => !x.1) = true := by
  rw [zba]
  intro x hx
  have := List.any_eq_false.mp (zeq (env := env) (pos := pos) h) x hx
  rw [Bool.not_eq_true] at this
  rw [this]; rfl
 exact zag.mpr ⟨zag.mpr ⟨h3, rfl⟩, decide_eq_true (zar hes (by decide))⟩
theorem meth_on {A : Around} {φ : List Addr} {H : Hp} {s : Shared} (S : Sim c φ H s) {m : Me} {v : V} {r : Value} (R : Rep c φ s.heap v r) (h : zpu m v = true) : s.TypeIs r m.on /\ (∀ a, r = .ref a -> ∃ ob, s.heap.get? a = some ob /\ ob.dict = none) := by
 have lst : ∀ {v}, isLst v = true -> Rep c φ s.heap v r -> s.TypeIs r "list" /\ (∀ a, r = .ref a -> ∃ ob, s.heap.get? a = some ob /\ ob.dict = none) := fun {v} h R => by
  cases v with
  | lst i =>
   have R0 := R
   obtain ⟨a, _, ha⟩ := R0
   obtain ⟨a, us, n, rfl, _, ho, _⟩ := S.getP R (zal (S.len ▸ (zbj.mp ha).1))
   exact ⟨⟨_, ho, rfl⟩, fun a h => by cases h; exact ⟨_, ho, rfl⟩⟩
  | _ => cases h
 cases m with
 | _ => exact lst h R
theorem znn {m : Me} {o : Expr} {x : Ex} {es : List Expr} {xs : List Ex} {apos pos : Pos} (hb : zkl o = true) (hl : (apos.endLine == pos.line) = true) (hes : es.length < 20) (h1 : zb3 c env res o x) (h2 : zdn c env res es xs) :
  zb3 c env res (.Call (.Attribute o m.nm apos) es [] pos) (.meth m x xs) := fun A q d k loc φ H s Q E hA hF hS hw => by
 refine wpAny_Call_method (zk2 hb) (few_args h2.1.1 hes) hl m.attrs m.slot m.ty (wpAny_mono (h1 A q d k loc φ H s _ E hA hF hS hw) ?_ fun _ _ h => h)
 rintro r s₁ ⟨φ₁, H₁, v₁, e₁, S₁, R₁, hok, w₁⟩
 obtain ⟨t1, t2⟩ := meth_on (A := A) S₁ R₁ hok
 refine ⟨t1, t2, zcg (by intro a h; cases h) (zeq h2.1.1) (wpAny_mono (args_any h2 (hA.mono e₁) (hF.mono e₁) S₁ w₁) ?_ fun _ _ h => OutX.lift e₁ S₁ h)⟩
 rintro _ s₂ ⟨rs, rfl, φ₂, H₂, vs, e₂, S₂, R₂, l₂, w₂⟩
 obtain ⟨p, e, w₂⟩ := Opt.inv w₂
 exact (do_meth S₂ (Rep.mono e₂.toKp OwnX.nil R₁) R₂ e).use (e₁.trans e₂) w₂
theorem clip_eq (n : Nat) (i : Int) : clipAt n i = zha i n := by
 have h := clipAt_cast n i
 unfold zha
 split at h <;> rename_i hi
 ·rw [if_pos hi]; exact Ar.ar5 [_,_,_] [_,_,_] 0x3298e214a000c20380610040001084294a528003081801840900c202006100803080002006010085294001840700c202006100000031c4294001840700c2008000210a5294a000c205006101c04080c01840200c200004008085294001840700c202006100000028852800308060184010000c71085294a528003081202040a00c20380610180408040204000080101085294a50008102803080e0184060102010081000020040e210a5294001840900c203006100c040800010020210a5294001840700c203006100c040800010020 (Y2 V0 V1) (Y4 V0 J0) (Y5 (Y4 V0 J0) V1) (Y7 (Y5 (Y4 V1 J0) (Y0 V0 (Y4 V2 J0))) (Y6 (Y3 (Y0 V0 (Y4 V2 J0)) J0) (Y2 V1 J0))) (Y7 (Y6 (Y5 V1 J0) (Y3 V2 J0)) (Y6 (Y5 V1 V2) (Y3 J0 V2))) (Y7 (Y6 (Y5 V2 (Y0 V0 (Y4 V2 J0))) (Y3 (Y0 V0 (Y4 V2 J0)) (Y4 V2 J0))) (Y6 (Y5 V2 (Y4 V2 J0)) (Y3 (Y4 V2 J0) (Y0 V0 (Y4 V2 J0))))) hi h (Ar.tn _) (Ar.zx _ _) (Ar.zn _ _)
 ·rw [if_neg hi]; exact Ar.ar4 [_,_,_] [_,_,_] 0x192b69084294a5294001840b00c204806101003080401840000c20080801804021085294a50006102c03081201840400c20100610000400c02010a528003080c01840400c20000005b468210a5294a000c206806102c04080801840200c20000c028084294a5294a000c206806102c04081402040400c20100610000308020300a04082108d04214a5294a000c206806102c04080801840200c20000610040601404214a5294a000c206806102c04081402040400c2010061000060140810421214a50006101803080801840000009190a528003080c01840200c2008060408210ada3210a5294a0010206006102803080a02040201020000a02010208423210a5294a50008103003081401840900c2020081008040800028080408210b464214a528003081401840500c201808100005010081042119085294a50006102803081201840400c2018081000050100810421 (Y2 V0 (Y5 V1 V2)) (Y5 (Y4 V0 J0) V0) (Y7 (Y5 (Y4 V1 J0) V1) (Y6 (Y3 V1 J0) (Y2 V1 J0))) (Y7 (Y6 (Y5 V0 J0) (Y3 V2 J0)) (Y6 (Y5 V0 V2) (Y3 J0 V2))) (Y7 (Y6 (Y5 V2 V1) (Y3 V1 (Y4 V2 J0))) (Y6 (Y5 V2 (Y4 V2 J0)) (Y3 (Y4 V2 J0) V1))) h (Ar.tn _) (Ar.zx _ _) (Ar.zn _ _)
theorem RepL.drop {h : Heap} {φ : List Addr} : ∀ {l : List V} {rs : List Value}, RepL c φ h l rs -> ∀ i : Nat, RepL c φ h (l.drop i) (rs.drop i)
 | _, _, h, 0 => h
 | [], _, h, _ + 1 => by rw [h.nil_inv]; rfl
 | x :: xs, _, h, i + 1 => by
  obtain ⟨r, rs, rfl, _, h2⟩ := h.uncons
  exact RepL.drop h2 i
theorem RepL.take {h : Heap} {φ : List Addr} : ∀ {l : List V} {rs : List Value}, RepL c φ h l rs -> ∀ i : Nat, RepL c φ h (l.take i) (rs.take i)
 | _, _, _, 0 => rfl
 | [], _, h, _ + 1 => by rw [h.nil_inv]; rfl
 | x :: xs, _, h, i + 1 => by
  obtain ⟨r, rs, rfl, h1, h2⟩ := h.uncons
  exact ⟨h1, RepL.take h2 i⟩
noncomputable def zmd (c : Cx) (env : Env) (res : Res) (e : Option Expr) (x : Ex) : Prop :=
 match e with
 | none => x = .lit .none
 | some e => zb3 c env res e x
theorem zqw {e : Option Expr} {x : Ex} (h : zmd c env res e x) {A q d k loc φ H s Q E} (hA : OkF c A q d φ s.heap) (hF : FSim c env res k loc φ s.heap) (hS : Sim c φ H s) (hw : wpE (Calls c) q d k x loc Q E H) :
  wpAny (model c.prog c.w) A (evalPart e env) (Out c φ s Q) (OutX c φ s E) s := by
 cases e with
 | none =>
  obtain rfl : x = .lit .none := h
  rw [evalPart_none]
  exact wpAny_pure (Out.at' hS rN hw)
 | some e =>
  rw [evalPart_some]
  exact h A q d k loc φ H s Q E hA hF hS hw
inductive PartI (r : Value) (n dflt k : Nat) : Prop
 | mk (o : Option Int) (h1 : IsPart r o) (h2 : o.elim dflt (clipAt n) = k) : PartI r n dflt k
theorem zkc {h : Heap} {φ : List Addr} {v : V} {r : Value} {n dflt k : Nat} (R : Rep c φ h v r) (hb : bound? n dflt v = some k) : PartI r n dflt k := by
 cases v with
 | none => obtain rfl := R; obtain rfl := zaa hb; exact ⟨none, .none, rfl⟩
 | int i => obtain ⟨t, rfl⟩ := R; obtain rfl := zaa hb; exact ⟨some _, .int _ _, clip_eq _ _⟩
 | _ => cases hb
theorem do_slice {A : Around} {φ : List Addr} {H : Hp} {s : Shared} {o : Expr} {lo hi : Option Expr} {p : Pos} (S : Sim c φ H s) {v vl vu : V} {r rl ru : Value} (R : Rep c φ s.heap v r) (Rl : Rep c φ s.heap vl rl) (Ru : Rep c φ s.heap vu ru) {u : V × Hp} (e : zjm H v vl vu = some u) {E} :
  wpAny (model c.prog c.w) A (subscriptTail o (.Slice lo hi none p) r (.ref s.heap.objs.size)) (Out c φ s fun x H' => x = u.1 /\ H' = u.2) E { s with heap := s.heap.push { cls := .type "slice", data := .fields #[rl, ru, .none] } } := by
 have hsl : sizeLine = 2 ^ 24 := rfl
 obtain ⟨i, xs, rfl, ex, g⟩ := lstI e
 obtain ⟨i, ei, g⟩ := zab.mp g
 obtain ⟨j, ej, rfl⟩ := zah.mp g
 obtain ⟨b, us, n, rfl, hb, hob, hr, hz, zz⟩ := S.getP R ex
 obtain ⟨ol, pl, el⟩ := zkc Rl ei
 obtain ⟨ou, pu, eu⟩ := zkc Ru ej
 obtain ⟨ops, hops⟩ := zik (.Slice lo hi none p) (.ref b) (.ref s.heap.objs.size)
 have hL := zce hob
 refine tail_any (hL.push _).typeIs slot_list_getitem.lookup (wpAny_getItem_list_slice (hL.push _) (Heap.IsSliceOf.new ..) pl pu .none (by simp) ?_ (by exact Ar.ar2 [_,_,_] [] 0x294a000c20000610040308040 (Y0 V0 V1) (Y0 V2 V1) (Y2 V0 V2) hz zz)) hops
 have S₄ := S.push { cls := .type "slice", data := .fields #[rl, ru, .none] }
 have e₄ : Ext [] φ s φ { s with heap := s.heap.push { cls := .type "slice", data := .fields #[rl, ru, .none] } } := Ext.push
 refine Out.lift e₄ (zea S₄ ?_ ?_)
 ·rw [slicePick_plain, zz, el, eu]
  exact RepL.mono e₄.toKp OwnX.nil ((hr.drop i).take (j - i))
 ·rw [zbl, zbo]; exact zac (Nat.min_le_right _ _) (zac (Nat.sub_le _ _) hz)
theorem zk1 {o : Expr} {x y z : Ex} {lo hi : Option Expr} {p pos : Pos} (h1 : zb3 c env res o x) (h2 : zmd c env res lo y) (h3 : zmd c env res hi z) : zb3 c env res (.Subscript o (.Slice lo hi none p) pos) (.slice x y z) := fun A q d k loc φ H s Q E hA hF hS hw => by
 refine Subscript_ (wpAny_mono (h1 A q d k loc φ H s _ E hA hF hS hw) ?_ fun _ _ h => h)
 rintro r s₁ ⟨φ₁, H₁, v₁, e₁, S₁, R₁, w₁⟩
 refine wpAny_Slice (wpAny_mono (zqw h2 (hA.mono e₁) (hF.mono e₁) S₁ w₁) ?_ fun _ _ h => OutX.lift e₁ S₁ h)
 rintro rl s₂ ⟨φ₂, H₂, v₂, e₂, S₂, R₂, w₂⟩
 have e12 := e₁.trans e₂
 refine wpAny_mono (zqw h3 (hA.mono e12) (hF.mono e12) S₂ w₂) ?_ fun _ _ h => OutX.lift e12 S₂ h
 rintro ru s₃ ⟨φ₃, H₃, v₃, e₃, S₃, R₃, w₃⟩
 obtain ⟨u, e, w₃⟩ := Opt.inv w₃
 rw [evalPart_none]
 exact wpAny_pure (wpAny_mono (do_slice S₃ (Rep.mono (e₂.trans e₃).toKp OwnX.nil R₁) (Rep.mono e₃.toKp OwnX.nil R₂) R₃ e) (fun _ _ h => Out.lift (e12.trans e₃) (h.eq w₃)) fun _ _ h => h)
end
end Bn
set_option maxRecDepth 100000
namespace Bn
open PySem PyProof.Rows
noncomputable def rvT : String := "list_reverseiterator"
noncomputable def rvO (l : Addr) (i : Int) : Obj := { cls := .type rvT, data := .fields #[.ref l, rawInt i] }
inductive RvAt (h : Heap) (I l : Addr) (i : Int) : Prop
 | mk (o : Obj) (ho : h.get? I = some o) (hc : o.cls = .type rvT) (hd : o.data = .fields #[.ref l, rawInt i])
theorem rv_sig : Manifest.owners.lookup (String.ofList ['r', 'o', 't', 'a', 'r', 'e', 't', 'i', 'e', 's', 'r', 'e', 'v', 'e', 'r', '_', 't', 's', 'i', 'l'].reverse) = some Manifest.sig_list_reverseiterator := by kernel_rfl
theorem ziq : Slot rvT "__next__" "list_reverseiterator.__next__" :=
 .of (owner := rvT) (n := "__next__") (by rw [typeLookup_type, builtinLookup_eq_fast]; kernel_rfl) (by decide +kernel) (by decide +kernel) (by decide +kernel) (.inl (by decide +kernel)) (by rw [isSubtype_type]; kernel_rfl)
theorem zqs : Slot rvT "__iter__" "list_reverseiterator.__iter__" :=
 .of (owner := rvT) (n := "__iter__") (by rw [typeLookup_type, builtinLookup_eq_fast]; kernel_rfl) (by decide +kernel) (by decide +kernel) (by decide +kernel) (.inl (by decide +kernel)) (by rw [isSubtype_type]; kernel_rfl)
theorem zge (a : Value) : argsOk "list_reverseiterator.__next__" ⟨[a], []⟩ := by
 unfold argsOk
 rw [signature?_of (id := "list_reverseiterator.__next__") (n := ['_', '_', 't', 'x', 'e', 'n', '_', '_']) (o := ['r', 'o', 't', 'a', 'r', 'e', 't', 'i', 'e', 's', 'r', 'e', 'v', 'e', 'r', '_', 't', 's', 'i', 'l']) (by kernel_rfl) rv_sig]
 kernel_rfl
theorem zjy (a : Value) : argsOk "list_reverseiterator.__iter__" ⟨[a], []⟩ := by
 unfold argsOk
 rw [signature?_of (id := "list_reverseiterator.__iter__") (n := ['_', '_', 'r', 'e', 't', 'i', '_', '_']) (o := ['r', 'o', 't', 'a', 'r', 'e', 't', 'i', 'e', 's', 'r', 'e', 'v', 'e', 'r', '_', 't', 's', 'i', 'l']) (by kernel_rfl) rv_sig]
 kernel_rfl
theorem zfk : entryFor table "list_reverseiterator.__next__" = some Builtin.«list_reverseiterator.__next__» := entryFor_of_tree (by kernel_rfl)
theorem zjb : entryFor table "list_reverseiterator.__iter__" = some Builtin.«dict_keyiterator.__iter__» :=
 entryFor_alias (id' := "dict_keyiterator.__iter__") (by kernel_rfl) (by first | rfl | decide +kernel | (unfold String.splitOn; simp +decide [String.splitOnAux])) (by decide +kernel) (by kernel_rfl)
theorem rd_mro : mroOf (.type "reversed") = pure [.type "reversed", .type "object"] := by rw [mroOf_type]; kernel_rfl
theorem rd_made : Bind.madeBy (.type "reversed") = pure (some "reversed.__new__") :=
 madeBy_type rd_mro (by rw [typeLookup_type, builtinLookup_eq_fast]; kernel_rfl) (by decide +kernel)
theorem rd_entry : entryFor table "reversed.__new__" = some Builtin.«reversed.__new__» := entryFor_of_tree (by kernel_rfl)
theorem zl2 : plainId "reversed.__new__" = true := by decide +kernel
section
variable {prog : Program} {w : World} {A : Around} {E : Value -> Shared -> Prop} {s : Shared}
theorem RvAt.ty {I l : Addr} {i : Int} (h : RvAt s.heap I l i) : s.TypeIs (.ref I) rvT := let ⟨o, ho, hc, _⟩ := h; ⟨o, ho, hc⟩
theorem rv_start {l : Addr} {xs : Array Value} {Q : Value -> Shared -> Prop} (hl : s.heap.IsList l xs)
  (h : Q (.ref s.heap.objs.size) { s with heap := s.heap.push (rvO l ((xs.size : Int) - 1)) }) : wpAny (model prog w) A (call (.type "reversed") [.ref l]) Q E s := by
 obtain ⟨o, ho, hc, n, hd⟩ := id hl
 refine wpAny_call (codeAny_of_tree ?_)
 show wpAny _ _ (callAny (.type "reversed") _) _ _ _
 refine wpAny_pure ⟨Code.quiet_builtin _ (by decide +kernel), codeAny_builtin F.entry_type_call ?_⟩
 rw [Around.under_plain (weight_type_call_type "reversed" [.ref l] []) rfl]
 have h1 : (Value.type "reversed" == Value.type "type") = false := by decide +kernel
 have h2 : ((Manifest.find? "reversed").bind (·.mro.findSome? fun t => (Manifest.find? t).bind fun b => if b.noNew then some true else if b.attrs.any (·.1 == "__new__") then some false else none)).getD false = false := by decide +kernel
 have h3 := rd_made
 have h4 : isSubtype (.type rvT) (.type "reversed") = pure false := by rw [isSubtype_type]; kernel_rfl
 have h5 : checkTypeCall "reversed" ⟨[Value.ref l], []⟩ = pure () := by kernel_rfl
 have h6 := rd_mro
 repeat (any_goals (first | assumption | wp_step))
 refine codeAny_mono (R := fun r s' => r = .ok (.ret (.ref s.heap.objs.size)) /\ s' = { s with heap := s.heap.push (rvO l ((xs.size : Int) - 1)) }) ?_ ?_
 ·refine codeAny_of_tree ?_
  show wpAny _ A.in1.in1 (do checkBuiltinCall "reversed.__new__" ⟨[.type "reversed", .ref l], []⟩; again (.builtin "reversed.__new__" ⟨[.type "reversed", .ref l], []⟩)) _ _ s
  refine wpAny_bind (wpAny_of_eq (a := ()) (by kernel_rfl) (wpAny_pure ⟨plainId_quiet zl2 _, codeAny_builtin rd_entry ?_⟩))
  rw [Around.under_plainId zl2 _]
  unfold Builtin.«reversed.__new__»
  have hself : isSubtype (.type "reversed") (.type "reversed") = pure true := by rw [isSubtype_type]; kernel_rfl
  refine wpAny_bind (wpAny_of_eq (a := (Value.type "reversed", [Value.ref l])) ?_ ?_)
  ·unfold Builtin.SmallTypes.newClass
   simp only [isType, hself, pure_bind, Bool.not_true, zbn, if_false]
  refine wpAny_bind (wpAny_of_eq (a := ()) (by first | rfl | kernel_rfl) ?_)
  refine wpAny_bind (wpAny_of_eq (a := ()) (by first | rfl | kernel_rfl) ?_)
  dsimp only
  refine wpAny_bind (wpAny_specialOf hl.typeIs F.slot_list_reversed.lookup ?_)
  dsimp only
  refine wpAny_bind (wpAny_of_eq (F.slot_list_reversed.bind _) ?_)
  show wpAny _ _ (if (Value.builtin "list.__reversed__" == Value.none) = true then _ else _) _ _ _
  rw [if_neg (show ¬ ((Value.builtin "list.__reversed__" == Value.none) = true) from zbw)]
  refine wpAny_bind (wpAny_rule ?_)
  refine wpAny_bind (m := runValue (.call (.builtin "list.__reversed__") ⟨[.ref l], []⟩)) (show wpAny _ _ (call (.builtin "list.__reversed__") [.ref l]) _ _ _ from ?_)
  refine wpAny_call_entry F.slot_list_reversed hl.typeIs F.entry_list_reversed ?_ (F.args_list_reversed_1 _)
  unfold Builtin.«list.__reversed__»
  refine wpAny_bind (wpAny_of_eq (a := Value.ref l) rfl ?_)
  refine wpAny_bind (wpAny_listItems ho hd ?_)
  refine wpAny_bind (wpAny_newObj_type (wpAny_pure ⟨_, rfl, ?_⟩))
  exact wpAny_pure ⟨rfl, rfl⟩
 ·rintro r s' ⟨rfl, rfl⟩
  have hT : ({ s with heap := s.heap.push (rvO l ((xs.size : Int) - 1)) } : Shared).TypeIs (.ref s.heap.objs.size) rvT := ⟨_, Heap.get?_push_size _ rfl, rfl⟩
  repeat (any_goals (first | assumption | wp_step))
theorem rv_item {I l : Addr} {i : Nat} {xs : Array Value} {x : Value} {Q : Option Value -> Shared -> Prop} (hI : RvAt s.heap I l (i : Int)) (hl : s.heap.IsList l xs) (hx : xs[i]? = some x)
  (hQ : ∀ h', RvAt h' I l ((i : Int) - 1) -> Heap.SameBut I s.heap h' -> Q (some x) { s with heap := h' }) : wpAny (model prog w) A (pyNext (.ref I)) Q E s := by
 obtain ⟨ol, hol, _, nl, hdl⟩ := hl
 have hT := hI.ty
 obtain ⟨o, ho, hc, hd⟩ := hI
 unfold pyNext
 refine wpAny_bind (wpAny_attempt (wpAny_callSpecial?_slot (name := Str.ofString "__next__") hT ziq (wpAny_call_entry ziq hT zfk ?_ (zge _))))
 unfold Builtin.«list_reverseiterator.__next__»
 refine wpAny_bind (wpAny_of_eq (a := (Value.ref I, [])) rfl ?_)
 refine wpAny_bind (wpAny_field ho hd (x := rawInt (i : Int)) rfl ?_)
 show wpAny _ _ (if (i : Int) < 0 then _ else _) _ _ s
 rw [if_neg (Int.not_lt.mpr (zbe i))]
 show wpAny _ _ (field (.ref I) 0 >>= _) _ _ s
 refine wpAny_bind (wpAny_field ho hd (x := .ref l) rfl ?_)
 show wpAny _ _ (seqItems? (.ref l) >>= _) _ _ s
 refine wpAny_bind (wpAny_seqItems hol hdl ?_)
 simp only [Int.toNat_natCast, hx]
 refine wpAny_bind (wpAny_setField ho hd (by simp) ?_)
 first
  | refine wpAny_pure ⟨x, rfl, wpAny_pure (hQ _ ?_ (Heap.SameBut.update ..))⟩
  | refine wpAny_bind (wpAny_pure (wpAny_pure ⟨x, rfl, wpAny_pure (hQ _ ?_ (Heap.SameBut.update ..))⟩))
 exact ⟨_, Heap.get?_update_self _ ho (Obj.isFreed_of_fields (Obj.data_mapFields hd _)), (Obj.cls_mapFields ..).trans hc, by rw [Obj.data_mapFields hd]; simp⟩
theorem rv_done {I l : Addr} {Q : Option Value -> Shared -> Prop} (hh : A.handled = none) (hI : RvAt s.heap I l (-1))
  (hQ : ∀ h', Heap.ExtBut I s.heap h' -> Q none { s with heap := h' }) : wpAny (model prog w) A (pyNext (.ref I)) Q E s := by
 have hT := hI.ty
 obtain ⟨o, ho, hc, hd⟩ := hI
 unfold pyNext
 refine wpAny_bind (wpAny_attempt (wpAny_callSpecial?_slot (name := Str.ofString "__next__") hT ziq (wpAny_call_entry ziq hT zfk ?_ (zge _))))
 unfold Builtin.«list_reverseiterator.__next__»
 refine wpAny_bind (wpAny_of_eq (a := (Value.ref I, [])) rfl ?_)
 refine wpAny_bind (wpAny_field ho hd (x := rawInt (-1)) rfl ?_)
 show wpAny _ _ (if (-1 : Int) < 0 then _ else _) _ _ s
 rw [if_pos (by decide)]
 refine wpAny_bind (wpAny_rule ?_)
 refine wpAny_bind ?_
 show wpAny _ _ (newExc (.type "StopIteration") [] >>= _) _ _ _
 refine wpAny_bind ?_
 simp only [newExc, newTuple]
 refine wpAny_bind (wpAny_newObj_type ?_ (by size_fits))
 refine wpAny_bind (m := firstArgMember _ _) (wpAny_of_eq (a := Value.none) (by first | rfl | (simp only [firstArgMember]; rfl)) ?_)
 refine wpAny_newObj_type ?_ (by size_fits)
 unfold raiseNew
 refine wpAny_bind (wpAny_handled ?_)
 first | rw [show A.in1.handled = none from hh] | rw [hh]
 refine wpAny_bind (wpAny_pure (wpAny_throw ?_))
 refine wpAny_bind (wpAny_isInstance (T := "StopIteration") (b := true) ⟨_, Heap.get?_push_size _ rfl, rfl⟩ isSubtype_stop ?_)
 exact wpAny_pure (hQ _ (((Heap.ExtBut.refl _ _).push _).push _))
theorem zpj {I l : Addr} {i : Int} {Q : Value -> Shared -> Prop} (hI : RvAt s.heap I l i) (h : Q (.ref I) s) : wpAny (model prog w) A (pyIter (.ref I)) Q E s := by
 refine wpAny_pyIter_slot hI.ty zqs (wpAny_call_entry zqs hI.ty zjb ?_ (zjy _))
 show wpAny _ _ (ret (.ref I)) _ _ s
 exact wpAny_pure ⟨_, rfl, rvT, _, hI.ty, ziq.lookup, h⟩
end
end Bn
namespace Bn
open PySem PyProof.Rows
noncomputable def Kept (wr : List Addr) (s s' : Shared) : Prop := (∀ b o, b ∉ wr -> s.heap.get? b = some o -> s'.heap.get? b = some o) /\ s'.gens = s.gens /\ s'.os = s.os
noncomputable def itc : Value -> Bool
 | .type t => ["list_iterator", "tuple_iterator", "range_iterator", "longrange_iterator", "str_iterator", "str_ascii_iterator", "enumerate", "zip", "list_reverseiterator"].contains t
 | _ => false
theorem itc_hid {v : Value} (h : itc v = true) : hid v = true := by
 cases v with
 | type t => exact List.contains_iff_mem.mpr (.tail _ (.tail _ (.tail _ (List.contains_iff_mem.mp h))))
 | _ => cases h
theorem zg1 {v w : Value} (h : itc v = true) (hw : itc w = false) : v ≠ w := fun q => by rw [q, hw] at h; cases h
theorem itN {ps : Array Value} (h : itc (tabO ps).cls = true) : False := nomatch h
inductive ItAt (c : Cx) (φ : List Addr) (h : Heap) (b : Addr) : Prop
 | mk (h1 : b ∉ φ) (h2 : c.h0.get? b = none) (o : Obj) (h3 : h.get? b = some o) (h4 : itc o.cls = true) (h5 : ∀ es n, o.data ≠ .dict es n) : ItAt c φ h b
theorem ItAt.out {c : Cx} {φ : List Addr} {h : Heap} {b : Addr} (q : ItAt c φ h b) : b ∉ φ /\ c.h0.get? b = none := let ⟨h1, h2, _, _, _, _⟩ := q; ⟨h1, h2⟩
noncomputable def Its (c : Cx) (wr φ : List Addr) (h : Heap) : Prop := ∀ b ∈ wr, ItAt c φ h b
theorem Kept.kp {c : Cx} {wr φ : List Addr} {s s' : Shared} (h : Kept wr s s') (x : Its c wr φ s.heap) : Kp wr φ s.heap φ s'.heap :=
 ⟨List.prefix_rfl, fun b o hb _ hX _ => h.1 b o hX hb, fun _ h => .inl h, fun b o es n hb _ hd => ⟨o, es, n, h.1 b o (fun hw => by
  obtain ⟨_, _, o', h1, _, h2⟩ := x b hw
  rw [hb] at h1; cases h1; exact h2 _ _ hd) hb, hd, .rfl⟩, fun b o vs C hb _ hc hd => ⟨vs, by
  rw [<- hd]
  refine h.1 b o (fun hw => ?_) hb
  obtain ⟨_, _, o', h1, h2, _⟩ := x b hw
  rw [hb] at h1; cases h1; rw [hc] at h2; cases h2⟩⟩
theorem Its.own {c : Cx} {wr φ : List Addr} {h : Heap} (x : Its c wr φ h) : OwnX c wr h := fun b hb o ho => by
 obtain ⟨_, _, o', h1, h2, _⟩ := x b hb
 rw [ho] at h1; cases h1; exact .inl (itc_hid h2)
theorem Its.kp {c : Cx} {wr φ X φ' : List Addr} {h h' : Heap} (x : Its c wr φ h) (e : Kp X φ h φ' h') (hX : ∀ b ∈ wr, b ∉ X) : Its c wr φ' h' := fun b hb => by
 obtain ⟨h1, h2, o, h3, h4, h5⟩ := x b hb
 exact ⟨e.notin h3 h1, h2, o, e.keep b o h3 h1 (hX b hb) (fix_ne (zg1 h4 rfl) (zg1 h4 rfl)), h4, h5⟩
theorem Sim.kept {c : Cx} {wr φ : List Addr} {H : Hp} {s s' : Shared} (S : Sim c φ H s) (h : Kept wr s s') (x : Its c wr φ s.heap) : Sim c φ H s' :=
 S.mono (h.kp x) x.own (fun b hb => (x b hb).out.2) (fun a ha o ho => h.1 a o (fun hw => (x a hw).out.1 ha) ho) (fun b o hb _ => h.1 b o (fun hw => by rw [(x b hw).out.2] at hb; cases hb) (S.stays b o hb)) (h.2.1.trans S.gens) fun b _ hb => h.1 b _ (fun hw => by obtain ⟨_, _, o1, h1, h2, _⟩ := x b hw; rw [hb] at h1; cases h1; exact itN h2) hb
theorem Ext.kept {X φ φ₁ wr : List Addr} {s s₁ s₂ : Shared} (e : Ext X φ s φ₁ s₁) (h : Kept wr s₁ s₂) (hn : ∀ b ∈ wr, s.heap.get? b = none) : Ext X φ s φ₁ s₂ :=
 have out : ∀ {b o}, s.heap.get? b = some o -> b ∉ wr := fun hb q => by rw [hn _ q] at hb; cases hb
 { pre := e.pre
   keep := fun b o hb hφ hX hc => h.1 b o (out hb) (e.keep b o hb hφ hX hc)
   new := e.new
   frame := fun b o hb hφ hX hc => let ⟨sl, h₁⟩ := e.frame b o hb hφ hX hc; ⟨sl, h.1 b _ (out hb) h₁⟩
   tabs := fun b o hb hφ hX hc => let ⟨o', h₁, c₁⟩ := e.tabs b o hb hφ hX hc; ⟨o', h.1 b _ (out hb) h₁, c₁⟩
   dict := fun b o es n hb hφ hd => let ⟨o₁, es₁, n₁, h₁, d₁⟩ := e.dict b o es n hb hφ hd; ⟨o₁, es₁, n₁, h.1 b _ (out hb) h₁, d₁⟩
   exc := fun b o vs C hb hφ hc hd => let ⟨vs₁, h₁⟩ := e.exc b o vs C hb hφ hc hd; ⟨vs₁, h.1 b _ (out hb) h₁⟩
   alive := fun b o hb hX => let ⟨o', h'⟩ := e.alive b o hb hX; ⟨o', h.1 b o' (out hb) h'⟩
   os := h.2.2.trans e.os }
inductive Nexts (c : Cx) (A : Around) (it : Value) (tg : Expr) (wr : List Addr) (s : Shared) (P : Heap -> Value -> Prop) (E : Value -> Shared -> Prop) (r : Option Value) (s₁ : Shared) : Prop
 | mk (v : Value) (h : r = some v) (g : wpAny (model c.prog c.w) A (letOwnedTupleGo tg it v) (fun _ s₂ => Kept wr s s₂ /\ P s₂.heap v) E s₁) : Nexts c A it tg wr s P E r s₁
structure Itr (c : Cx) (A : Around) (it : Value) (tg : Expr) (wr : List Addr) (items : List V) (ok : Hp -> Prop) (St : Nat -> List Addr -> Heap -> Prop) : Prop where
 seen : ∀ i φ h, St i φ h -> Its c wr φ h
 frame : ∀ i X φ φ' h h', St i φ h -> Kp X φ h φ' h' -> OwnX c X h -> (∀ b ∈ wr, b ∉ X) -> St i φ' h'
 item : ∀ i x φ H s E, items[i]? = some x -> St i φ s.heap -> Sim c φ H s -> ok H ->
  wpAny (model c.prog c.w) A (pyNext it) (Nexts c A it tg wr s (fun h v => St (i + 1) φ h /\ Rep c φ h x v) E) E s
 done : ∀ φ H s E, St items.length φ s.heap -> Sim c φ H s -> ok H -> wpAny (model c.prog c.w) A (pyNext it) (fun r s₁ => r = none /\ Kept wr s s₁) E s
 self : ∀ i φ s Q E, St i φ s.heap -> Q it s -> wpAny (model c.prog c.w) A (pyIter it) Q E s
theorem zqv {I : Addr} {s : Shared} {h' : Heap} {t : Nat} (hs : Heap.SameBut I s.heap h') : Kept [I] s { s with heap := h', toks := t } :=
 ⟨fun b o hb ho => (hs.2 b (by simpa using hb)).trans ho, rfl, rfl⟩
theorem zfd {I : Addr} {s : Shared} {h' : Heap} {t : Nat} (hs : Heap.ExtBut I s.heap h') : Kept [I] s { s with heap := h', toks := t } :=
 ⟨fun b o hb ho => hs b o (by simpa using hb) ho, rfl, rfl⟩
theorem zht {M : Model} {A : Around} {E : Value -> Shared -> Prop} {s : Shared} {tg : Expr} {I : Addr} {v : Value} {o : Obj} {Q : Unit -> Shared -> Prop} {t : String} (ho : s.heap.get? I = some o) (hc : o.cls = .type t) (ht : ["enumerate", "zip", "dict_itemiterator", "dict_reverseitemiterator", "odict_iterator", "itertools.zip_longest", "itertools.pairwise"].contains t = false)
  (h : Q () s) : wpAny M A (letOwnedTupleGo tg (.ref I) v) Q E s := by
 have key : wpAny M A (do
  let (.ref r, .ref a) := (Value.ref I, v) | return
  let o <- load r
  match o.cls, o.data with
  | .type n, .fields vs =>
   if ["enumerate", "zip", "dict_itemiterator", "dict_reverseitemiterator", "odict_iterator", "itertools.zip_longest", "itertools.pairwise"].contains n && vs[0]? == some (rawInt a) then
    rule "for.unpacks-the-owned-tuple"
    updateField r 0 .none
  | _, _ => pure ()) Q E s := by
  cases v <;> first | exact wpAny_pure h | skip
  refine wpAny_bind (wpAny_load ho ?_)
  rw [hc]
  cases o.data <;> first | exact wpAny_pure h | skip
  dsimp only
  rw [ht]
  exact wpAny_pure h
 cases tg <;> first | exact wpAny_pure h | exact key
section
variable {c : Cx} {A : Around} {φ : List Addr} {H : Hp} {s : Shared}
inductive OneIt (h : Heap) (I : Addr) (t : String) : Prop
 | mk (o : Obj) (h1 : h.get? I = some o) (h2 : o.cls = .type t) (vs : Array Value) (h3 : o.data = .fields vs) : OneIt h I t
theorem Its.one {I : Addr} {t : String} (hφ : I ∉ φ) (h0 : c.h0.get? I = none) {h : Heap} (ho : OneIt h I t) (ht : itc (.type t) = true) : Its c [I] φ h := fun b hb => by
 rw [zai.mp hb]
 obtain ⟨o, h1, h2, vs, h3⟩ := ho
 exact ⟨hφ, h0, o, h1, by rw [h2]; exact ht, fun es n q => by rw [h3] at q; cases q⟩
theorem Its.keepOne {I : Addr} {X φ φ' : List Addr} {h h' : Heap} (x : Its c [I] φ h) (e : Kp X φ h φ' h') (hX : ∀ b ∈ [I], b ∉ X) {o : Obj} (ho : h.get? I = some o) : h'.get? I = some o := by
 obtain ⟨h1, _, o', h3, h4, _⟩ := x I zae
 obtain rfl := zaa (ho.symm.trans h3)
 exact e.keep I o ho h1 (hX I zae) (fix_ne (zg1 h4 rfl) (zg1 h4 rfl))
theorem zfn {I : Addr} {t : String} {tg : Expr} {x : V} {v : Value} {h' : Heap} {tk : Nat} {P : Heap -> Prop} {E : Value -> Shared -> Prop} (its : Its c [I] φ s.heap) (hs : Heap.SameBut I s.heap h') (ho : OneIt h' I t) (ht : ["enumerate", "zip", "dict_itemiterator", "dict_reverseitemiterator", "odict_iterator", "itertools.zip_longest", "itertools.pairwise"].contains t = false)
  (hP : P h') (R : Rep c φ s.heap x v) : Nexts c A (.ref I) tg [I] s (fun h v => P h /\ Rep c φ h x v) E (some v) { s with heap := h', toks := tk } := by
 obtain ⟨o, h1, h2, _, _⟩ := ho
 have k := zqv (t := tk) hs
 exact ⟨v, rfl, zht h1 h2 ht ⟨k, hP, Rep.mono (k.kp its) its.own R⟩⟩
inductive LIt (φ : List Addr) (h : Heap) (I a : Addr) (j i : Nat) : Prop
 | mk (it : h.IsListIter I a i) (ha : φ[j]? = some a) (hI : I ∉ φ) : LIt φ h I a j i
theorem LIt.one {φ : List Addr} {h : Heap} {I a : Addr} {j i : Nat} (q : LIt φ h I a j i) : OneIt h I "list_iterator" := let ⟨⟨o, h1, h2, h3⟩, _, _⟩ := q; ⟨o, h1, h2, _, h3⟩
theorem LIt.its {h : Heap} {I a : Addr} {j i : Nat} (h0 : c.h0.get? I = none) (q : LIt φ h I a j i) : Its c [I] φ h := Its.one (let ⟨_, _, h⟩ := q; h) h0 q.one rfl
theorem itr_list (hh : A.handled = none) {I a : Addr} {j : Nat} {items : List V} {tg : Expr} (h0 : c.h0.get? I = none) :
  Itr c A (.ref I) tg [I] items (fun H => H[j]? = some items) (fun i φ h => LIt φ h I a j i) where
 seen i φ h st := st.its h0
 frame i X φ φ' h h' st e hX hw := by
  have it := st.its h0
  obtain ⟨⟨o, ho, r⟩, h2, h3⟩ := st
  exact ⟨⟨o, it.keepOne e hw ho, r⟩, zdw e.pre h2, e.notin ho h3⟩
 item i x φ H s E hx st S hok := by
  have it := st.its h0
  obtain ⟨st1, ha, hI⟩ := st
  obtain ⟨b, o, vs, n, h1, h2, h3, h4, h5, _⟩ := S.lists j items hok
  obtain rfl := zaa (ha.symm.trans h1)
  obtain ⟨v, hv, hr⟩ := RepL.get h5 hx
  exact wpAny_pyNext_list_item st1 ⟨o, h2, h3, n, h4⟩ (x := v) (zg4 hv) fun h' hit hs => zfn (tk := s.toks) it hs (LIt.one ⟨hit, ha, hI⟩) (by decide) ⟨hit, ha, hI⟩ hr
 done φ H s E st S hok := by
  obtain ⟨st1, ha, hI⟩ := st
  obtain ⟨b, o, vs, n, h1, h2, h3, h4, h5, _⟩ := S.lists j items hok
  obtain rfl := zaa (ha.symm.trans h1)
  refine wpAny_pyNext_list_end hh st1 ⟨o, h2, h3, n, h4⟩ ?_ fun h' hs => ⟨rfl, zfd hs⟩
  rw [<- RepL.length h5, za3]; exact Array.getElem?_eq_none (zad _)
 self i φ s Q E st hq := let ⟨h, _, _⟩ := st; wpAny_pyIter_listiter h hq
inductive RIt (φ : List Addr) (h : Heap) (I : Addr) (lo st : Int) (n i : Nat) : Prop
 | mk (hi : i <= n) (it : IsRangeIter h I (lo + (i : Int) * st) ((n : Int) - i) st) (hI : I ∉ φ) : RIt φ h I lo st n i
theorem RIt.its {h : Heap} {I : Addr} {lo st : Int} {n i : Nat} (h0 : c.h0.get? I = none) (q : RIt φ h I lo st n i) : Its c [I] φ h := let ⟨_, h1, h2⟩ := q; Its.one (t := "range_iterator") h2 h0 ⟨_, h1, rfl, _, rfl⟩ rfl
theorem zqf (hh : A.handled = none) {I : Addr} {lo st : Int} {n : Nat} {tg : Expr} (h0 : c.h0.get? I = none) :
  Itr c A (.ref I) tg [I] ((List.range n).map fun (i : Nat) => V.int (lo + (i : Int) * st)) (fun _ => True) (fun i φ h => RIt φ h I lo st n i) where
 seen i φ h q := q.its h0
 frame i X φ φ' h h' q e hX hw := by
  have it := q.its h0
  obtain ⟨q1, q2, q3⟩ := q
  exact ⟨q1, it.keepOne e hw q2, e.notin q2 q3⟩
 item i x φ H s E hx q S hok := by
  have its := q.its h0
  obtain ⟨_, q2, q3⟩ := q
  have hi : i < n := by
   have := (zbj.mp hx).1
   rw [zaf, List.length_range] at this; exact this
  rw [zay, List.getElem?_range hi] at hx
  obtain rfl := zaa hx
  refine wpAny_pyNext_range_item q2 (by exact Ar.ar1 [_,_] [] 0xa5000610000308020 (Y4 J0 (Y2 (Y4 V0 J0) (Y4 V1 J0))) (Y1 V1 V0) hi) fun h' hit hs => zfn its hs ⟨_, hit, rfl, _, rfl⟩ (by decide) ⟨hi, ?_, q3⟩ rI
  have e1 : lo + ((i + 1 : Nat) : Int) * st = lo + (i : Int) * st + st := by rw [Int.natCast_succ, Int.add_mul, Int.one_mul, Int.add_assoc]
  have e2 : (n : Int) - ((i + 1 : Nat) : Int) = (n : Int) - i - 1 := by exact Ar.ar0 [_,_] [] 0x628003080002800308000 (Y5 (Y2 (Y4 V0 J0) (Y4 (Y0 V1 J1) J0)) (Y2 (Y2 (Y4 V0 J0) (Y4 V1 J0)) J1))
  rw [e1, e2]; exact hit
 done φ H s E q S hok := by
  rw [zaf, List.length_range] at q
  obtain ⟨_, q2, _⟩ := q
  exact wpAny_pyNext_range_end hh q2 (by exact Ar.ar0 [_] [] 171801870336 (Y3 (Y2 (Y4 V0 J0) (Y4 V0 J0)) J0)) fun h' hs => ⟨rfl, zfd hs⟩
 self i φ s Q E q hq := let ⟨_, h, _⟩ := q; wpAny_pyIter_rangeiter h hq
theorem itr_str (hh : A.handled = none) {I : Addr} {x : Str} {t : Tok} {tg : Expr} (h0 : c.h0.get? I = none) :
  Itr c A (.ref I) tg [I] (x.cps.toList.map fun c => .str ⟨#[c]⟩) (fun _ => True) (fun i φ h => h.IsStrIter I "str_ascii_iterator" x t i /\ I ∉ φ) where
 seen i φ h q := Its.one q.2 h0 (let ⟨o, h1, h2, h3⟩ := q.1; ⟨o, h1, h2, _, h3⟩) rfl
 frame i X φ φ' h h' q e hX hw := by
  have it := Its.one (c := c) (t := "str_ascii_iterator") q.2 h0 (let ⟨o, h1, h2, h3⟩ := q.1; ⟨o, h1, h2, _, h3⟩) rfl
  obtain ⟨⟨o, ho, r⟩, h3⟩ := q
  exact ⟨⟨o, it.keepOne e hw ho, r⟩, e.notin ho h3⟩
 item i y φ H s E hx q S hok := by
  rw [zay] at hx
  cases hc : x.cps[i]? with
  | none => simp [hc] at hx
  | some k =>
   simp [hc] at hx; subst hx
   exact wpAny_pyNext_ascii_item q.1 hc fun h' hit hs => zfn (Its.one (t := "str_ascii_iterator") q.2 h0 (let ⟨o, h1, h2, h3⟩ := q.1; ⟨o, h1, h2, _, h3⟩) rfl) hs (let ⟨o, h1, h2, h3⟩ := hit; ⟨o, h1, h2, _, h3⟩) (by decide) ⟨hit, q.2⟩ rS
 done φ H s E q S hok := by
  simp only [zaf, za3] at q
  exact wpAny_pyNext_ascii_end hh q.1 (by simp) fun h' hs => ⟨rfl, zfd hs⟩
 self i φ s Q E q hq := wpAny_pyIter_striter_ascii q.1 hq
inductive VIt (φ : List Addr) (h : Heap) (I a : Addr) (j n i : Nat) : Prop
 | mk (it : RvAt h I a ((n : Int) - 1 - i)) (ha : φ[j]? = some a) (hI : I ∉ φ) : VIt φ h I a j n i
theorem VIt.its {h : Heap} {I a : Addr} {j n i : Nat} (h0 : c.h0.get? I = none) (q : VIt φ h I a j n i) : Its c [I] φ h := let ⟨⟨o, h1, h2, h3⟩, _, h4⟩ := q; Its.one h4 h0 ⟨o, h1, h2, _, h3⟩ rfl
theorem itr_rev (hh : A.handled = none) {I a : Addr} {j : Nat} {items : List V} {tg : Expr} (h0 : c.h0.get? I = none) :
  Itr c A (.ref I) tg [I] items.reverse (fun H => H[j]? = some items) (fun i φ h => VIt φ h I a j items.length i) where
 seen i φ h st := st.its h0
 frame i X φ φ' h h' st e hX hw := by
  have it := st.its h0
  obtain ⟨⟨o, ho, r1, r2⟩, h2, h3⟩ := st
  exact ⟨⟨o, it.keepOne e hw ho, r1, r2⟩, zdw e.pre h2, e.notin ho h3⟩
 item i x φ H s E hx st S hok := by
  have its := st.its h0
  obtain ⟨st1, ha, hI⟩ := st
  obtain ⟨b, o, vs, n, h1, h2, h3, h4, h5, _⟩ := S.lists j items hok
  obtain rfl := zaa (ha.symm.trans h1)
  have hi : i < items.length := by have := (zbj.mp hx).1; rw [List.length_reverse] at this; exact this
  rw [List.getElem?_reverse hi] at hx
  obtain ⟨v, hv, hr⟩ := RepL.get h5 hx
  have e0 : (items.length : Int) - 1 - i = ((items.length - 1 - i : Nat) : Int) := by exact Ar.ar1 [_,_] [] 0x618ca528003080c01840400c20080a100025084a100023410a528003081001840600c20080001a085294a000c206006102803080e01840100005294001840800c202006100005080012842508001 (Y5 (Y2 (Y2 (Y4 V0 J0) J1) (Y4 V1 J0)) (Y4 (Y2 (Y2 V0 J1) V1) J0)) (Y1 V1 V0) hi
  rw [e0] at st1
  refine rv_item st1 ⟨o, h2, h3, n, h4⟩ (zg4 hv) fun h' hit hs => zfn (t := rvT) (tk := s.toks) its hs (let ⟨o, h1, h2, h3⟩ := hit; ⟨o, h1, h2, _, h3⟩) (by decide) ⟨?_, ha, hI⟩ hr
  have : (items.length : Int) - 1 - ((i + 1 : Nat) : Int) = ((items.length - 1 - i : Nat) : Int) - 1 := by exact Ar.ar1 [_,_] [] 0x6294001840200c20000a5000810080308000 (Y5 (Y2 (Y2 (Y4 V0 J0) J1) (Y4 (Y0 V1 J1) J0)) (Y2 (Y4 (Y2 (Y2 V0 J1) V1) J0) J1)) (Y5 (Y2 (Y2 (Y4 V0 J0) J1) (Y4 V1 J0)) (Y4 (Y2 (Y2 V0 J1) V1) J0)) e0
  rw [this]; exact hit
 done φ H s E st S hok := by
  rw [List.length_reverse] at st
  obtain ⟨st1, _, _⟩ := st
  have : (items.length : Int) - 1 - (items.length : Int) = -1 := by exact Ar.ar0 [_] [] 0x628003080002800308000 (Y5 (Y2 (Y2 (Y4 V0 J0) J1) (Y4 V0 J0)) (Y3 J1 J0))
  rw [this] at st1
  exact rv_done hh st1 fun h' hs => ⟨rfl, zfd hs⟩
 self i φ s Q E st hq := let ⟨h, _, _⟩ := st; zpj h hq
theorem zku {items : List V} : ∀ {i : Nat} {n : Int} {x : V}, (zde n items)[i]? = some x -> ∃ v, items[i]? = some v /\ x = .tup [.int (n + i), v] := by
 induction items with
 | nil => exact fun h => nomatch h
 | cons y ys ih =>
  intro i n x h
  cases i with
  | zero => obtain rfl := zaa h; exact ⟨y, rfl, by rw [show n + ((0 : Nat) : Int) = n from Int.add_zero n]⟩
  | succ i =>
   obtain ⟨v, h1, h2⟩ := ih (n := n + 1) (i := i) h
   exact ⟨v, h1, by rw [h2, Int.add_assoc, Int.add_comm 1]; rfl⟩
theorem zhd {items : List V} : ∀ {n : Int}, (zde n items).length = items.length := by
 induction items with
 | nil => intro n; rfl
 | cons y ys ih => exact fun {n} => congrArg (· + 1) (ih (n := n + 1))
inductive EIt (φ : List Addr) (h : Heap) (e I a : Addr) (j i : Nat) : Prop
 | mk (old : Value) (he : IsEnum h e I (i : Int) old) (it : h.IsListIter I a i) (ha : φ[j]? = some a) (hI : I ∉ φ) (hE : e ∉ φ) : EIt φ h e I a j i
theorem EIt.its {h : Heap} {e I a : Addr} {j i : Nat} (h0 : c.h0.get? I = none) (h0' : c.h0.get? e = none) (q : EIt φ h e I a j i) : Its c [e, I] φ h := fun b hb => by
 obtain ⟨old, he, ⟨o, h1, h2, hd⟩, h3, h4, h5⟩ := q
 rcases zak.mp hb with rfl | hb
 ·exact ⟨h5, h0', _, he, rfl, fun es n q => by cases q⟩
 ·rw [zai.mp hb]
  exact ⟨h4, h0, o, h1, by rw [h2]; rfl, fun es n q => by rw [hd] at q; cases q⟩
theorem itr_enum (hh : A.handled = none) {e I a : Addr} {j : Nat} {items : List V} {es : List Expr} {x1} {pos : Pos} (h0 : c.h0.get? I = none) (h0' : c.h0.get? e = none) (hne : e ≠ I) :
  Itr c A (.ref e) (.Tuple es x1 pos) [e, I] (zde 0 items) (fun H => H[j]? = some items) (fun i φ h => EIt φ h e I a j i) where
 seen i φ h st := st.its h0 h0'
 frame i X φ φ' h h' st k hX hw := by
  obtain ⟨old, he, ⟨o, h1, h2, hd⟩, h3, h4, h5⟩ := st
  exact ⟨old, k.keep e _ he h5 (hw e zae) rfl, ⟨o, k.keep I o h1 h4 (hw I (zaj _ zae)) (by rw [h2]; decide), h2, hd⟩, zdw k.pre h3, k.notin h1 h4, k.notin he h5⟩
 item i x φ H s E hx st S hok := by
  have its := st.its h0 h0'
  obtain ⟨old, he, hit, h3, h4, h5⟩ := st
  obtain ⟨b, o, vs, n, h1, h2, h3', h4', h5', _⟩ := S.lists j items hok
  obtain rfl := zaa (h3.symm.trans h1)
  obtain ⟨v0, hv0, rfl⟩ := zku hx
  obtain ⟨v, hv, hr⟩ := RepL.get h5' hv0
  refine wpAny_pyNext_enum_item he hit ⟨o, h2, h3', n, h4'⟩ (x := v) (zg4 hv) hne fun h' heo hit' ht hz hk => ⟨_, rfl, ?_⟩
  refine wpAny_letOwnedTupleGo_enum heo fun h'' he'' hs'' => ?_
  have heT : e ≠ s.heap.objs.size := zao (Heap.lt_size he)
  have kept : Kept [e, I] s { s with heap := h'', toks := s.toks + 1 } :=
   ⟨fun b o hb ho => (hs''.2 b (fun q => hb (by rw [q]; exact zae))).trans (hk b o (fun q => hb (by rw [q]; exact zae)) (fun q => hb (by rw [q]; exact zaj _ zae)) ho), rfl, rfl⟩
  refine ⟨kept, ⟨_, he'', hit'.extBut hs''.extBut (Ne.symm hne), h3, h4, h5⟩, ?_⟩
  exact TupAt.mk s.heap.objs.size _ _ _ rfl S.new ((hs''.2 _ (Ne.symm heT)).trans ht) rfl rfl (by show 2 <= sizeLine; decide) ⟨⟨s.toks, by rw [Int.zero_add]⟩, Rep.mono (kept.kp its) its.own hr, rfl⟩
 done φ H s E st S hok := by
  obtain ⟨old, he, hit, h3, h4, h5⟩ := st
  obtain ⟨b, o, vs, n, h1, h2, h3', h4', h5', _⟩ := S.lists j items hok
  obtain rfl := zaa (h3.symm.trans h1)
  rw [zhd] at he hit
  refine wpAny_pyNext_enum_end hh he hit ⟨o, h2, h3', n, h4'⟩ ?_ fun h' hs => ⟨rfl, fun b o hb ho => hs b o (fun q => hb (by rw [q]; exact zaj _ zae)) ho, rfl, rfl⟩
  rw [<- RepL.length h5', za3]; exact Array.getElem?_eq_none (zad _)
 self i φ s Q E st hq := let ⟨_, he, _, _, _, _⟩ := st; wpAny_pyIter_enum he hq
end
end Bn
namespace Bn
open PySem PyProof.Rows
theorem zov {es : List DictEntry} {n : Str} (hk : ∀ e ∈ es, ∃ n t, e.key = .str n t) (hi : es.findIdx? (fun e => e.key.isStr n) = none) : n ∉ es.map fun e => keyS e.key := fun hm => by
 obtain ⟨e, he, rfl⟩ := zas.mp hm
 have h := List.findIdx?_eq_none_iff.mp hi e he
 obtain ⟨x, t, q⟩ := hk e he
 rw [q] at h
 exact absurd (show (x == x) = true from beq_self_eq_true _) (by rw [show (x == x) = false from h]; exact zbw)
theorem zgy {f : DictEntry -> DictEntry} (hf : ∀ e, (f e).key = e.key) : ∀ (es : List DictEntry) (i : Nat), (es.modify i f).map (fun e => keyS e.key) = es.map fun e => keyS e.key
 | [], _ => by rw [List.modify_nil]
 | e :: es, 0 => by rw [List.modify_zero_cons, zbf, zbf, hf]
 | e :: es, i + 1 => by rw [List.modify_succ_cons, zbf, zbf, zgy hf es i]
theorem zrc (M : Model) (Γ : Ctx) (E : Value -> Pos -> Shared -> Prop) (p : Pos) (s : Shared) {a : Addr} {m} {o : Obj} (hn : s.heap.Ns a m) (hoo : s.heap.get? a = some o) (name : Str) (v : Value) (Q : Unit -> Pos -> Shared -> Prop)
  (hQ : ∀ h', h'.Ns a (fun x => if x = name then some v else m x) -> Heap.SameBut a s.heap h' -> (∃ o', h'.get? a = some o' /\ DKo o o') ->
   Q () p { s with heap := h', toks := s.toks + 1 }) : Sem.wp M Γ (nsSet a name v) Q E p s := by
 obtain ⟨o1, es, ep, ho, hd, hk, hm⟩ := hn
 rw [hoo] at ho; cases ho
 have ho := hoo
 simp only [nsSet, strHash, Sem.wp_bind', Sem.wp_cmd_ask, Sem.wp_pure', Sem.wp_cmd_mkText]
 rw [Sem.wp_loadPart_of M Γ E p { s with toks := s.toks + 1 } (o := o) _ ho]
 have hany : es.any (·.refKey) = false := by
  rw [Array.any_eq_false']; intro e he; obtain ⟨n, t, h⟩ := hk e he; simp [DictEntry.refKey, h]
 simp only [hd, aRefKeyMayBeTheName_eq, aRefKeyMayBeTheNameByArray, hany, Bool.and_false, zbn, if_false, Sem.wp_cmd_updatePart]
 refine ⟨by rw [ho]; rfl, hQ _ ?_ (Heap.SameBut.update ..) ?_⟩
 ·obtain ⟨c, d, dt, sl⟩ := o
  subst hd
  cases hi : es.findIdx? (·.key.isStr name) with
  | some i =>
   refine ⟨_, _, ep, Heap.get?_update_self _ ho (by simp only [Obj.putName_eq, Obj.putNameByArray, hi]; rfl), by simp only [Obj.putName_eq, Obj.putNameByArray, hi]; rfl, hk.modify _ _, fun x => ?_⟩
   show _ = if x = name then some v else m x
   rw [<- hm]; exact findBy_modify (fun n v => v.isStr n) Value.isStr_inj es name x v i hi
  | none =>
   refine ⟨_, _, ep + 1, Heap.get?_update_self _ ho (by simp only [Obj.putName_eq, Obj.putNameByArray, hi]; rfl), by simp only [Obj.putName_eq, Obj.putNameByArray, hi]; rfl, hk.push _ _ _ _, fun x => ?_⟩
   show _ = if x = name then some v else m x
   rw [<- hm]
   exact findBy_push (fun n v => v.isStr n) es name x _ _ v (fun y => by
    show (name == y) = decide (y = name)
    by_cases h : y = name
    ·subst h; simp
    ·have : ¬ name = y := fun e => h e.symm
     simp [h, this]) hi
 ·obtain ⟨c, d, dt, sl⟩ := o
  subst hd
  cases hi : es.findIdx? (·.key.isStr name) with
  | some i =>
   refine ⟨_, Heap.get?_update_self _ ho (by simp only [Obj.putName_eq, Obj.putNameByArray, hi]; rfl), ?_⟩
   simp only [Obj.putName_eq, Obj.putNameByArray, hi]
   refine .mk rfl fun es1 n es' n' q1 q2 g => ?_
   cases q1; cases q2
   exact ⟨g.1.modify _ _, by rw [Array.toList_modify, zgy (f := fun e => { e with val := v }) fun _ => rfl]; exact g.2⟩
  | none =>
   refine ⟨_, Heap.get?_update_self _ ho (by simp only [Obj.putName_eq, Obj.putNameByArray, hi]; rfl), ?_⟩
   simp only [Obj.putName_eq, Obj.putNameByArray, hi]
   refine .mk rfl fun es1 n es' n' q1 q2 g => ?_
   cases q1; cases q2
   obtain ⟨l⟩ := es
   refine ⟨g.1.push _ _ _ _, ?_⟩
   rw [Array.toList_push, zbb]
   exact List.nodup_append.mpr ⟨g.2, zbr.mpr ⟨za5, List.nodup_nil⟩, fun x hx y hy e => zov (n := name) (fun e he => hk e (List.mem_toArray.mpr he)) (by rw [List.findIdx?_toArray] at hi; exact hi) (by rw [zai.mp hy] at e; rw [show x = name from e] at hx; exact hx)⟩
theorem zf7 {M : Model} {A : Around} {E : Value -> Shared -> Prop} {s : Shared} {env : Env} {name : Str} {m} {o : Obj} {v : Value} {Q : Unit -> Shared -> Prop} (hl : env.kindOf name = some .local) (hf : env.scope.kind = .function)
  (hn : s.heap.Ns env.locals m) (ho : s.heap.get? env.locals = some o)
  (h : ∀ h', h'.Ns env.locals (fun x => if x = name then some v else m x) -> Heap.SameBut env.locals s.heap h' -> (∃ o', h'.get? env.locals = some o' /\ DKo o o') -> Q () { s with heap := h', toks := s.toks + 1 }) : wpAny M A (storeName env name v) Q E s := by
 rw [storeName_local hl (by rw [hf]; rfl)]
 exact fun Γ p _ => zrc M Γ _ p s hn ho name v _ h
theorem zoy {M : Model} {A : Around} {E : Value -> Shared -> Prop} {s : Shared} {env : Env} {name : Str} {ca : Addr} {o : Obj} {r : Option Value} {v : Value} {Q : Unit -> Shared -> Prop} (hf : env.scope.kind = .function) (hl : env.kindOf name = some .cell)
  (hc : env.cells.lookup name = some ca) (ho : s.heap.get? ca = some o) (hd : o.data = .cell r)
  (h : ∀ h', h'.get? ca = some { o with data := .cell (some v) } -> Heap.SameBut ca s.heap h' -> Q () { s with heap := h' }) : wpAny M A (storeName env name v) Q E s := by
 unfold storeName
 rw [hl, hf]
 change wpAny M A (cellOf env name >>= _) Q E s
 refine wpAny_bind (wpAny_cellOf hc ?_)
 unfold cellSet
 refine wpAny_bind (wpAny_load ho ?_)
 rw [hd]
 exact wpAny_update ho (h _ (Heap.get?_update_self _ ho rfl) (Heap.SameBut.update ..))
section
variable {c : Cx} {env : Env} {res : Res} {k : Clo} {loc : Loc} {φ : List Addr} {H : Hp} {s : Shared}
theorem zjg (F : FSim c env res k loc φ s.heap) {o : Obj} (ho : s.heap.get? env.locals = some o) : own c env.locals o := by
 obtain ⟨m, ⟨⟨o1, es, ep, h1, h2, _, h3⟩, o2, h4, h5⟩, _, _⟩ := F.ns
 obtain rfl := zaa (ho.symm.trans h1)
 obtain rfl := zaa (ho.symm.trans h4)
 rcases h5 with h5 | h5
 ·exact .inl (by rw [h5.1]; decide)
 ·exact .inr (.inr (.inl ⟨h5.1, es, ep, h2, (h3 _).trans h5.2.1⟩))
theorem zjc (F : FSim c env res k loc φ s.heap) {x : Str} {ca : Addr} (hx : env.cells.lookup x = some ca) {o : Obj} (ho : s.heap.get? ca = some o) : own c ca o := by
 obtain ⟨_, _, o', h1, h2⟩ := F.cells x ca hx
 obtain rfl := zaa (ho.symm.trans h1)
 exact .inl (by rw [h2]; decide)
theorem zjr {i : Nat} {o : Option V} (h : i < loc.length) : (loc.set i o).getD i none = o := by rw [zax, List.getElem?_set_self h]; rfl
theorem ziv {i j : Nat} {o : Option V} (h : j ≠ i) : (loc.set i o).getD j none = loc.getD j none := by rw [zax, List.getElem?_set_ne (Ne.symm h), zax]
theorem zkx {a : Addr} {h' : Heap} (keep : ∀ b o, b ≠ a -> s.heap.get? b = some o -> h'.get? b = some o)
  (hd : ∀ o es n, s.heap.get? a = some o -> o.data = .dict es n -> ∃ o' es' n', h'.get? a = some o' /\ o'.data = .dict es' n' /\ DKo o o') (hx : ∀ o vs, s.heap.get? a = some o -> o.data ≠ .fields vs) : Kp [a] φ s.heap φ h' where
 pre := List.prefix_rfl
 keep b o hb _ hX _ := keep b o (fun e => hX (by rw [e]; exact zae)) hb
 new _ h := .inl h
 dict b o es n hb _ hdd := by
  by_cases e : b = a
  ·subst e; exact hd o es n hb hdd
  ·exact ⟨o, es, n, keep b o e hb, hdd, .rfl⟩
 exc b o vs _ hb _ _ hdd := by
  by_cases e : b = a
  ·subst e; exact absurd hdd (hx o vs hb)
  ·exact ⟨vs, by rw [<- hdd]; exact keep b o e hb⟩
inductive Stored (c : Cx) (env : Env) (res : Res) (k : Clo) (loc : Loc) (φ : List Addr) (H : Hp) (X : List Addr) (s : Shared) (s' : Shared) : Prop
 | mk (F : FSim c env res k loc φ s'.heap) (S : Sim c φ H s') (e : Ext X φ s φ s') (kp : Kept X s s') : Stored c env res k loc φ H X s s'
structure SlotPut (res res' : Res) (x : Str) (i : Nat) : Prop where
 n : res'.n = res.n
 fr : res'.fr = res.fr
 sub : ∀ y j, res'.lookup y = some j -> (y = x /\ j = i) \/ (y ≠ x /\ res.lookup y = some j /\ j ≠ i)
 lt : i < res.n
 nj : x ≠ zdj
 na : x ≠ Str.ofString "at" \/ res.fr = true
theorem zk8 {a : Addr} {h' : Heap} {t : Nat} {X : List Addr} {res' : Res} {x : Str} {i : Nat} {ov : Option V} {m : Str -> Option Value} (F : FSim c env res k loc φ s.heap) (S : Sim c φ H s) (P : SlotPut res res' x i) (hs' : Heap.SameBut a s.heap h')
  (hd : ∀ o es n, s.heap.get? a = some o -> o.data = .dict es n -> ∃ o' es' n', h'.get? a = some o' /\ o'.data = .dict es' n' /\ DKo o o') (hx : ∀ o vs, s.heap.get? a = some o -> o.data ≠ .fields vs) (hal : ∃ o, h'.get? a = some o)
  (ow : ∀ o, s.heap.get? a = some o -> own c a o) (ha0 : c.h0.get? a = none) (haφ : a ∉ φ) (haX : a ∈ X) (room : RoomAt env res'.fr h' m)
  (sx : zef c φ h' env m x ov) (sy : ∀ y j, y ≠ x -> res.lookup y = some j -> Kp [a] φ s.heap φ h' -> OwnX c [a] s.heap -> zef c φ h' env m y (loc.getD j none))
  (clo : ∀ kk z, k = some (kk, z) -> Kp [a] φ s.heap φ h' -> OwnX c [a] s.heap -> JoinAt c env m kk z φ h') (cells : ∀ y ca, env.cells.lookup y = some ca -> CellAt c φ h' ca) :
  Stored c env res' k (loc.set i ov) φ H X s { s with heap := h', toks := t } := by
 have keep : ∀ b o, b ≠ a -> s.heap.get? b = some o -> h'.get? b = some o := fun b o hb ho => (hs'.2 b hb).trans ho
 have kp := zkx (φ := φ) keep hd hx
 have owx : OwnX c [a] s.heap := fun b hb o ho => by rw [zai.mp hb] at ho ⊢; exact ow o ho
 refine ⟨⟨F.fn, F.gl, F.bl, ⟨m, room, fun y j hy => ?_, fun kk z hz => clo kk z hz kp owx⟩, by rw [P.n, List.length_set]; exact F.len, F.Lφ, F.L0, cells⟩, ?_, ?_, fun b o hb ho => keep b o (fun q => hb (q ▸ haX)) ho, rfl, rfl⟩
 ·rcases P.sub y j hy with ⟨rfl, rfl⟩ | ⟨e, hy, hji⟩
  ·rw [zjr (zav P.lt F.len)]; exact sx
  ·rw [ziv hji]; exact sy y j e hy kp owx
 ·exact S.mono (s' := { s with heap := h', toks := t }) kp owx (fun b hb => by rw [zai.mp hb]; exact ha0) (fun b hb o ho => keep b o (fun q => haφ (q ▸ hb)) ho) (fun b o hb _ => keep b o (fun q => by rw [q, ha0] at hb; cases hb) (S.stays b o hb)) S.gens fun b ps hb => keep b _ (fun q => hx _ ps (q ▸ hb) rfl) hb
 ·exact Ext.of_own (s' := { s with heap := h', toks := t }) hs' haX hd hal rfl hx
theorem zk7 {A : Around} {E : Value -> Shared -> Prop} {res' : Res} {x : Str} {i : Nat} {v : V} {r : Value} {X : List Addr} (F : FSim c env res k loc φ s.heap) (S : Sim c φ H s) (P : SlotPut res res' x i) (hXL : env.locals ∈ X) (hk : env.kindOf x = some .local) (R : Rep c φ s.heap v r) :
  wpAny (model c.prog c.w) A (storeName env x r) (fun _ s' => Stored c env res' k (loc.set i (some v)) φ H X s s') E s := by
 obtain ⟨m, ⟨hn, oL, hoL, hcL⟩, hsl, hjo⟩ := F.ns
 refine zf7 hk F.fn hn hoL fun h' hn' hs' hc' => ?_
 obtain ⟨o', ho', hcls'⟩ := hc'
 have hnf : ∀ o vs, s.heap.get? env.locals = some o -> o.data ≠ .fields vs := fun o vs ho hd => by
  obtain ⟨o1, es1, n1, h1, h2, _⟩ := hn
  obtain rfl := zaa (ho.symm.trans h1)
  rw [h2] at hd; cases hd
 have hdd : ∀ o es n, s.heap.get? env.locals = some o -> o.data = .dict es n -> ∃ o' es' n', h'.get? env.locals = some o' /\ o'.data = .dict es' n' /\ DKo o o' := fun o es n ho _ => by
  obtain ⟨o1, es1, n1, h1, h2, _⟩ := hn'
  obtain rfl := zaa (ho'.symm.trans h1)
  obtain rfl := zaa (hoL.symm.trans ho)
  exact ⟨o', es1, n1, ho', h2, hcls'⟩
 have hcL' : ∀ y ca, env.cells.lookup y = some ca -> ca ≠ env.locals := fun y ca hy q => by
  obtain ⟨_, _, o1, h1, h2⟩ := F.cells y ca hy
  rw [q] at h1
  obtain rfl := zaa (hoL.symm.trans h1)
  rcases hcL with h | h
  ·rw [h2] at h; exact absurd h.1 (by decide)
  ·rw [h2] at h; exact absurd h.1 (by decide)
 have cs : ∀ z ca, env.cells.lookup z = some ca -> ca ∉ [env.locals] /\ CellAt c φ s.heap ca := fun z ca hz => ⟨fun q => hcL' z ca hz (zai.mp q), F.cells z ca hz⟩
 have kp := zkx (φ := φ) (fun b o hb ho => (hs'.2 b hb).trans ho) hdd hnf
 have ow : OwnX c [env.locals] s.heap := fun b hb o ho => by rw [zai.mp hb] at ho ⊢; exact zjg F ho
 refine zk8 (m := fun y => if y = x then some r else m y) F S P hs' hdd hnf ⟨o', ho'⟩ (fun o ho => zjg F ho) F.L0 F.Lφ hXL ⟨hn', o', ho', ?_⟩ ?_ (fun y j hy hj kp ow => ?_) (fun kk z hz kp ow => ?_) fun y ca hy => ?_
 ·rcases hcL with h | h
  ·exact .inl ⟨hcls'.cls.trans h.1, P.fr.trans h.2⟩
  ·refine .inr ⟨hcls'.cls.trans h.1, ?_, P.fr.trans h.2.2⟩
   rcases P.na with hat | h2
   ·rw [if_neg (Ne.symm hat)]; exact h.2.1
   ·rw [h.2.2] at h2; cases h2
 ·unfold zef
  rw [hk]
  exact .yes v r (if_pos rfl) (Rep.mono kp ow R)
 ·have hsy := (hsl y j hj).mono (s := s) (s' := { s with heap := h' }) kp ow cs
  exact zor.imp hsy (fun _ h => by show SlotL _ _ _ (if y = x then _ else _) _; rw [if_neg hy]; exact h) id
 ·obtain ⟨h3, fv, h4, h5⟩ := hjo kk z hz
  exact ⟨h3, fv, by rw [if_neg (Ne.symm P.nj)]; exact h4, h5.mono (s := s) (s' := { s with heap := h' }) kp ow fun ca o ho _ hlt q => absurd (zai.mp q) (zao hlt)⟩
 ·obtain ⟨h1, h2, o1, h3, h4, h5⟩ := F.cells y ca hy
  exact ⟨h1, h2, o1, (hs'.2 ca (hcL' y ca hy)).trans h3, h4, h5⟩
inductive OwnCell (env : Env) (X : List Addr) (h : Heap) (x : Str) : Prop
 | mk (ca : Addr) (r : Option Value) (h1 : env.cells.lookup x = some ca) (h2 : h.IsCell ca r) (h3 : env.locals < ca) (h4 : ca ∈ X) (h5 : ∀ y, env.cells.lookup y = some ca -> y = x) : OwnCell env X h x
theorem zn7 {A : Around} {E : Value -> Shared -> Prop} {res' : Res} {x : Str} {i : Nat} {v : V} {r : Value} {X : List Addr} (F : FSim c env res k loc φ s.heap) (S : Sim c φ H s) (P : SlotPut res res' x i) (hk : env.kindOf x = some .cell) (hc : OwnCell env X s.heap x) (R : Rep c φ s.heap v r) :
  wpAny (model c.prog c.w) A (storeName env x r) (fun _ s' => Stored c env res' k (loc.set i (some v)) φ H X s s') E s := by
 obtain ⟨m, ⟨hn, oL, hoL, hcL⟩, hsl, hjo⟩ := F.ns
 obtain ⟨ca, r0, hca, ⟨oc, hoc, hdc⟩, hlt0, hcX, hap⟩ := hc
 obtain ⟨hcφ, hc0, oc', hoc', hcc⟩ := F.cells x ca hca
 obtain rfl := zaa (hoc.symm.trans hoc')
 refine zoy F.fn hk hca hoc hdc fun h' ho' hs' => ?_
 have hLc : env.locals ≠ ca := zao hlt0
 have no : ∀ {P : Prop} o, s.heap.get? ca = some o -> (∀ r, o.data ≠ .cell r) -> P := fun o ho h => by
  obtain rfl := zaa (hoc.symm.trans ho)
  exact absurd hdc (h _)
 have hdd : ∀ o es n, s.heap.get? ca = some o -> o.data = .dict es n -> ∃ o' es' n', h'.get? ca = some o' /\ o'.data = .dict es' n' /\ DKo o o' := fun o es n ho hd => no o ho fun r q => by rw [hd] at q; cases q
 have hnf : ∀ o vs, s.heap.get? ca = some o -> o.data ≠ .fields vs := fun o vs ho hd => no o ho fun r q => by rw [hd] at q; cases q
 have kp := zkx (φ := φ) (fun b o hb ho => (hs'.2 b hb).trans ho) hdd hnf
 have ow : OwnX c [ca] s.heap := fun b hb o ho => by rw [zai.mp hb] at ho ⊢; exact zjc F hca ho
 have cell : ∀ {y cy r}, y ≠ x -> env.cells.lookup y = some cy -> s.heap.IsCell cy r -> h'.IsCell cy r := fun {y cy r} e h1 ⟨o1, h2, h2'⟩ => ⟨o1, (hs'.2 cy fun q => e (hap y (q ▸ h1))).trans h2, h2'⟩
 refine zk8 (m := m) (t := s.toks) F S P hs' hdd hnf ⟨_, ho'⟩ (fun o ho => zjc F hca ho) hc0 hcφ hcX ⟨hn.sameBut hs' hLc, oL, (hs'.2 _ hLc).trans hoL, P.fr ▸ hcL⟩ ?_ (fun y j hy hj kp ow => ?_) (fun kk z hz kp ow => ?_) fun y cy hy => ?_
 ·unfold zef
  rw [hk]
  exact .yes v ca r hca ⟨_, ho', rfl⟩ (Rep.mono kp ow R)
 ·exact zor.imp (hsl y j hj) (fun _ h => SlotL.mono (s := s) (s' := { s with heap := h' }) kp ow h) (SlotC.imp (fun cy ry h1 h2 => cell hy h1 h2) fun v r h => Rep.mono kp ow h)
 ·obtain ⟨h3, fv, h4, h5⟩ := hjo kk z hz
  exact ⟨h3, fv, h4, h5.mono (s := s) (s' := { s with heap := h' }) kp ow fun cb o ho _ hlt q => absurd (zai.mp q) (zao (zar hlt hlt0))⟩
 ·obtain ⟨h1, h2, o1, h3, h4, h5⟩ := F.cells y cy hy
  by_cases q : cy = ca
  ·subst q
   obtain rfl := zaa (hoc.symm.trans h3)
   exact ⟨h1, h2, _, ho', h4, _, rfl⟩
  ·exact ⟨h1, h2, o1, (hs'.2 cy q).trans h3, h4, h5⟩
end
end Bn
namespace Bn
open PySem PyProof.Rows
section
variable {c : Cx} {A : Around} {φ : List Addr} {H : Hp} {s : Shared}
theorem itr_strw (hh : A.handled = none) {I : Addr} {x : Str} {t : Tok} {tg : Expr} (h0 : c.h0.get? I = none) :
  Itr c A (.ref I) tg [I] (x.cps.toList.map fun c => .str ⟨#[c]⟩) (fun _ => True) (fun i φ h => h.IsStrIter I "str_iterator" x t i /\ I ∉ φ) where
 seen i φ h q := Its.one q.2 h0 (let ⟨o, h1, h2, h3⟩ := q.1; ⟨o, h1, h2, _, h3⟩) rfl
 frame i X φ φ' h h' q e hX hw := by
  have it := Its.one (c := c) (t := "str_iterator") q.2 h0 (let ⟨o, h1, h2, h3⟩ := q.1; ⟨o, h1, h2, _, h3⟩) rfl
  obtain ⟨⟨o, ho, r⟩, h3⟩ := q
  exact ⟨⟨o, it.keepOne e hw ho, r⟩, e.notin ho h3⟩
 item i y φ H s E hx q S hok := by
  rw [zay] at hx
  cases hc : x.cps[i]? with
  | none => simp [hc] at hx
  | some k =>
   simp [hc] at hx; subst hx
   exact wpAny_pyNext_wide_item q.1 hc fun h' hit hs => zfn (Its.one (t := "str_iterator") q.2 h0 (let ⟨o, h1, h2, h3⟩ := q.1; ⟨o, h1, h2, _, h3⟩) rfl) hs (let ⟨o, h1, h2, h3⟩ := hit; ⟨o, h1, h2, _, h3⟩) (by decide) ⟨hit, q.2⟩ rS
 done φ H s E q S hok := by
  simp only [zaf, za3] at q
  exact wpAny_pyNext_wide_end hh q.1 (by simp) fun h' hs => ⟨rfl, zfd hs⟩
 self i φ s Q E q hq := wpAny_pyIter_striter_wide q.1 hq
inductive Went (c : Cx) (A : Around) (φ : List Addr) (s : Shared) (tg : Expr) (items : List V) (ok : Hp -> Prop) (H : Hp) (it : Value) (s' : Shared) : Prop
 | mk (wr : List Addr) (St : Nat -> List Addr -> Heap -> Prop) (e : Ext [] φ s φ s') (S : Sim c φ H s') (I : Itr c A it tg wr items ok St) (st : St 0 φ s'.heap) (hn : ∀ b ∈ wr, s.heap.get? b = none) : Went c A φ s tg items ok H it s'
theorem zfo {I : Addr} {tg : Expr} {items : List V} {ok : Hp -> Prop} {St : Nat -> List Addr -> Heap -> Prop} {o : Obj} (S : Sim c φ H s) (hI : I = s.heap.objs.size) (h : Itr c A (.ref I) tg [I] items ok St) (hst : St 0 φ (s.heap.push o)) : Went c A φ s tg items ok H (.ref I) { s with heap := s.heap.push o } := by
 subst hI
 exact ⟨_, _, Ext.push, S.push o, h, hst, fun b hb => by rw [zai.mp hb]; exact Heap.get?_none_of_le (zad _)⟩
theorem zlz (hh : A.handled = none) (S : Sim c φ H s) {v : V} {r : Value} (R : Rep c φ s.heap v r) {items : List V} (hs : srcV H v = some items) {tg : Expr} {E : Value -> Shared -> Prop} :
  wpAny (model c.prog c.w) A (pyIter r) (Went c A φ s tg items (okV v items) H) E s := by
 have h0 := S.h0_new (zad s.heap.objs.size)
 cases v with
 | str x =>
  obtain rfl := zaa hs
  obtain ⟨t, rfl⟩ := R
  cases ha : x.cps.all (· < 128) with
  | true => exact wpAny_pyIter_ascii ha (zfo S rfl (itr_str hh (t := t) h0) ⟨⟨_, Heap.get?_push_size _ rfl, rfl, rfl⟩, S.new⟩)
  | false => exact wpAny_pyIter_wide ha (zfo S rfl (itr_strw hh (t := t) h0) ⟨⟨_, Heap.get?_push_size _ rfl, rfl, rfl⟩, S.new⟩)
 | lst j =>
  obtain ⟨a, vs, n, rfl, ha, ho, _⟩ := S.getP R hs
  exact wpAny_pyIter_list (zce ho) (zfo S rfl (itr_list hh (a := a) (j := j) h0) ⟨⟨_, Heap.get?_push_size _ rfl, rfl, rfl⟩, ha, S.new⟩)
 | rng lo hi st =>
  obtain rfl := zaa hs
  obtain ⟨a, t, u, v, rfl, ha, hr, hb⟩ := R
  refine wpAny_pyIter_range hr (zhl hb) ?_
  rw [zeh lo hi st hb.2.2.1]
  have e : zc4 lo hi st = (List.range (zc4 lo hi st).length).map fun (i : Nat) => V.int (lo + (i : Int) * st) := by
   rw [zd2]; rfl
  generalize (zc4 lo hi st).length = n at e ⊢
  rw [e]
  refine zfo S rfl (zqf hh (lo := lo) (st := st) (n := n) h0) ⟨za0 _, ?_, S.new⟩
  have := Heap.get?_push_size (h := s.heap) (o := { cls := .type "range_iterator", data := .fields #[rawInt lo, rawInt (n : Int), rawInt st] }) rfl
  simpa using this
 | _ => cases hs
end
end Bn
namespace Bn
open PySem PyProof.Rows
section
variable {prog : Program} {w : World} {A : Around} {E : Value -> Shared -> Prop} {R : Result -> Shared -> Prop} {s : Shared}
theorem zjv {elt target iter : Expr} {ifs : List Expr} {scope : Scope} {pos : Pos} {it acc : Value} {env : Env} (I : Nat -> Shared -> Prop)
  (turn : ∀ n s, I n s -> wpAny (model prog w) A (pyNext it) (fun r s₁ => match r with
   | none => R (.ok .next) s₁
   | some v => wpAny (model prog w) A (letOwnedTupleGo target it v) (fun _ s₁' => wpAny (model prog w) A (assign target env v) (fun _ s₂ =>
     wpAny (model prog w) A (forIn ifs true fun c r => if r = true then do let ok <- isTrue c env (eval c env); pure (ForInStep.yield ok) else pure (ForInStep.yield r)) (fun ok s₃ =>
      if ok = true then wpAny (model prog w) A (eval elt env) (fun x s₄ =>
       wpAny (model prog w) A (call (.builtin "list.append") [acc, x]) (fun _ s₅ => ∃ m, m < n /\ I m s₅) (fun _ _ => False) s₄) (fun _ _ => False) s₃
      else ∃ m, m < n /\ I m s₃) (fun _ _ => False) s₂) (fun _ _ => False) s₁') (fun _ _ => False) s₁) (fun _ _ => False) s)
  (n : Nat) (h : I n s) :
  codeAny (model prog w) A (.compLoop (.ListComp elt [⟨target, iter, ifs, 0⟩] scope pos) 0 it acc env) R s := by
 refine codeAny_loop rfl I (fun n s hI => ?_) n h
 show wpAny _ A ((compTurn (.ListComp elt [⟨target, iter, ifs, 0⟩] scope pos) 0 it acc env).onRaise (fun x => do noteFrame x env; theTreesLotGoes x)) _ _ s
 refine wpAny_noted ?_
 rw [compTurn_list]
 refine wpAny_bind (wpAny_standAt (wpAny_bind (wpAny_mono (turn n s hI) (fun r s₁ h₁ => ?_) fun _ _ h' => h'.elim)))
 cases r with
 | none => exact wpAny_pure h₁
 | some v =>
  refine wpAny_bind (wpAny_mono h₁ (fun _ s₁' h₁' => ?_) fun _ _ h' => h'.elim)
  refine wpAny_bind (wpAny_mono h₁' (fun _ s₂ h₂ => wpAny_bind (wpAny_mono h₂ (fun ok s₃ h₃ => ?_) fun _ _ h' => h'.elim)) fun _ _ h' => h'.elim)
  cases ok with
  | false => exact wpAny_pure ⟨rfl, h₃⟩
  | true =>
   exact wpAny_bind (wpAny_bind (wpAny_mono h₃ (fun x s₄ h₄ => wpAny_bind (wpAny_mono h₄ (fun _ s₅ h₅ => wpAny_pure (wpAny_pure ⟨rfl, h₅⟩)) fun _ _ h' => h'.elim)) fun _ _ h' => h'.elim))
end
noncomputable def zdr (env : Env) : List (Str × NameKind) -> List (Str × Addr) -> List (Str × Addr)
 | [], acc => acc
 | (n, k) :: r, acc => if k == .free then zdr env r ((n, (env.cells.lookup n).getD 0) :: acc) else zdr env r acc
theorem zf8 {env : Env} {n : Str} {k : NameKind} {r : List (Str × NameKind)} {acc : List (Str × Addr)} : zdr env ((n, k) :: r) acc = if k == .free then zdr env r ((n, (env.cells.lookup n).getD 0) :: acc) else zdr env r acc := rfl
theorem zmx {env : Env} (f : Str × NameKind -> List (Str × Addr) -> Sem (ForInStep (List (Str × Addr))))
  (hf : ∀ n k cs, f (n, k) cs = if k == .free then (do let a <- cellOf env n; pure (.yield ((n, a) :: cs))) else pure (.yield cs)) :
  ∀ (names : List (Str × NameKind)) (acc : List (Str × Addr)), (∀ n, (n, NameKind.free) ∈ names -> ∃ ca, env.cells.lookup n = some ca) -> forIn names acc f = pure (zdr env names acc)
 | [], acc, _ => List.forIn_nil
 | (n, k) :: r, acc, h => by
  have ih := fun acc => zmx f hf r acc fun n hn => h n (zaj _ hn)
  rw [List.forIn_cons, hf]
  rw [zf8]
  by_cases hk : (k == NameKind.free) = true
  ·rw [if_pos hk, if_pos hk]
   have hk' : k = .free := by simpa using hk
   subst hk'
   obtain ⟨ca, hca⟩ := h n zae
   simp only [cellOf, hca, Option.getD_some]
   simp only [pure_bind]
   exact ih _
  ·rw [if_neg hk, if_neg hk]
   simp only [pure_bind]
   exact ih _
theorem zjf {scope : Scope} {env : Env} (h : ∀ n, (n, NameKind.free) ∈ scope.names -> ∃ ca, env.cells.lookup n = some ca) : closureFor scope env = pure (zdr env scope.names []) := by
 unfold closureFor
 have := zmx (env := env) (fun x r => match x with
  | (name, kind) => if (kind == NameKind.free) = true then (do let a <- cellOf env name; pure (.yield ((name, a) :: r))) else pure (.yield r)) (fun n k cs => rfl) scope.names [] h
 simp only [bind_pure] at this ⊢
 exact this
theorem zcv {env : Env} : ∀ {names : List (Str × NameKind)} {acc : List (Str × Addr)} {x : Str} {ca : Addr}, (zdr env names acc).lookup x = some ca ->
  acc.lookup x = some ca \/ ((x, NameKind.free) ∈ names /\ ca = (env.cells.lookup x).getD 0)
 | [], acc, x, ca, h => .inl h
 | (n, k) :: r, acc, x, ca, h => by
  rw [zf8] at h
  split at h
  ·rename_i hk
   have hk' : k = .free := by simpa using hk
   subst hk'
   rcases zcv h with h | h
   ·rw [za1] at h
    cases hb : x == n with
    | true =>
     rw [hb] at h
     have := beq_iff_eq.mp hb; subst this
     cases h
     exact .inr ⟨zae, rfl⟩
    | false => rw [hb] at h; exact .inl h
   ·exact .inr ⟨zaj _ h.1, h.2⟩
  ·rcases zcv h with h | h
   ·exact .inl h
   ·exact .inr ⟨zaj _ h.1, h.2⟩
theorem zf3 {env : Env} : ∀ {names : List (Str × NameKind)} {acc : List (Str × Addr)} {x : Str}, ((x, NameKind.free) ∈ names \/ (acc.lookup x).isSome) -> ((zdr env names acc).lookup x).isSome
 | [], acc, x, h => by
  rcases h with h | h
  ·cases h
  ·exact h
 | (n, k) :: r, acc, x, h => by
  rw [zf8]
  split
  ·rename_i hk
   refine zf3 ?_
   rcases h with h | h
   ·rcases zak.mp h with e | h
    ·cases e
     right; simp [za1]
    ·exact .inl h
   ·right
    rw [za1]
    cases x == n <;> simp [h]
  ·rename_i hk
   refine zf3 ?_
   rcases h with h | h
   ·rcases zak.mp h with e | h
    ·cases e; exact absurd rfl hk
    ·exact .inl h
   ·exact .inr h
theorem znz {M : Model} {A : Around} {E : Value -> Shared -> Prop} {s : Shared} {scope : Scope} {globals : Addr} {closure : List (Str × Addr)} {qual : Str} {func : Option Addr} {code : Value} {outer : Env} {Q : Env -> Shared -> Prop}
  (hQ : Q { scope, locals := s.heap.objs.size, globals, cells := cellsFrom (s.heap.objs.size + 1) scope.names closure, qual, func, code := outer.code, frame := outer.frame, builtins := outer.builtins } { s with heap := pushCells (s.heap.push { cls := .type "dict", data := .dict #[] }) scope.names }) :
  wpAny M A (newFunctionEnv scope globals closure [] qual func code (some outer)) Q E s := by
 simp only [newFunctionEnv, Option.isSome_some, if_true]
 refine wpAny_bind (wpAny_alloc ?_)
 refine wpAny_bind (wpAny_layCells _ (fun name kind cells => by cases hkc : kind == NameKind.cell <;> simp [hkc]) _ _ _ _ ?_)
 rw [show ({ s with heap := s.heap.push { cls := .type "dict", data := .dict #[] } } : Shared).heap.objs.size = s.heap.objs.size + 1 from Heap.size_push ..]
 rw [List.forIn_nil]
 exact wpAny_bind (wpAny_pure (wpAny_pure hQ))
section
variable {c : Cx} {env : Env} {res : Res}
theorem zmj : ∀ {es : List Expr} {xs : List Ex}, zc9 c env res es xs -> ∀ A q d k loc φ H s Q (E : Value -> Shared -> Prop), OkF c A q d φ s.heap -> FSim c env res k loc φ s.heap -> Sim c φ H s -> wpI (Calls c) q d k xs loc Q H ->
  wpAny (model c.prog c.w) A (forIn es true fun c r => if r = true then do let ok <- isTrue c env (eval c env); pure (ForInStep.yield ok) else pure (ForInStep.yield r)) (OutB c φ s Q) E s
 | [], xs, h => fun A q d k loc φ H s Q E hA hF hS hw => by
  obtain rfl : xs = [] := h
  rw [List.forIn_nil]
  exact wpAny_pure ⟨φ, H, Ext.refl, hS, hw⟩
 | e :: es, xs, h => fun A q d k loc φ H s Q E hA hF hS hw => by
  obtain ⟨x, xs', rfl, h1, h2⟩ := h.uncons
  rw [List.forIn_cons]
  refine wpAny_bind (wpAny_bind (wpAny_mono (h1 A q d k loc φ H s _ noX hA hF hS hw) ?_ fun _ _ h => OutX.no h))
  rintro b s₁ ⟨φ₁, H₁, e₁, S₁, w₁⟩
  refine wpAny_pure ?_
  cases b with
  | true => exact wpAny_mono (zmj h2 A q d k loc φ₁ H₁ s₁ Q E (hA.mono e₁) (hF.mono e₁) S₁ w₁) (fun _ _ h => OutB.lift e₁ h) fun _ _ h => h
  | false =>
   have : ∀ es : List Expr, (forIn es false fun c r => if r = true then do let ok <- isTrue c env (eval c env); pure (ForInStep.yield ok) else pure (ForInStep.yield r) : Sem Bool) = pure false := by
    intro es
    induction es with
    | nil => rfl
    | cons e es ih => rw [List.forIn_cons]; exact ih
   show wpAny _ _ (forIn es false _) _ _ _
   rw [this]
   exact wpAny_pure ⟨φ₁, H₁, e₁, S₁, w₁⟩
theorem FSim.sub {res' : Res} {k : Clo} {loc loc' : Loc} {φ : List Addr} {h : Heap} (F : FSim c env res k loc φ h) (hn : res'.n <= loc'.length) (hff : res'.fr = res.fr) (hs : ∀ x i, res'.lookup x = some i -> res.lookup x = some i /\ loc'.getD i none = loc.getD i none) : FSim c env res' none loc' φ h where
 fn := F.fn
 gl := F.gl
 bl := F.bl
 ns := by
  obtain ⟨m, h1, h2, h3⟩ := F.ns
  exact ⟨m, by rw [hff]; exact h1, fun x i hx => by rw [(hs x i hx).2]; exact h2 x i (hs x i hx).1, fun kk z hz => nomatch hz⟩
 len := hn
 Lφ := F.Lφ
 L0 := F.L0
 cells := F.cells
end
end Bn
namespace Bn
open PySem PyProof.Rows
structure StoreOk (al : Str -> Bool) (env : Env) (res res' : Res) (x : Str) (i : Nat) : Prop extends SlotPut res res' x i where
 kind : env.kindOf x = some .local \/ (al x = true /\ env.kindOf x = some .cell)
inductive StoresC (al : Str -> Bool) (env : Env) (res : Res) (e : Expr) (i : Nat) (P : Res -> Prop) : Prop
 | mk (x : Str) (p : Pos) (res1 : Res) (h : e = .Name x p) (h1 : StoreOk al env res res1 x i) (h2 : P res1) : StoresC al env res e i P
noncomputable def zd8 (al : Str -> Bool) (env : Env) : Res -> Res -> List Expr -> List Nat -> Prop
 | res, res', [], is => res' = res /\ is = []
 | res, res', e :: es, is => match is with
  | [] => False
  | i :: is => StoresC al env res e i fun res1 => zd8 al env res1 res' es is
noncomputable def TgOk (al : Str -> Bool) (env : Env) (res res' : Res) (e : Expr) (t : Tg) : Prop := match t with
 | .one i => ∃ x p, e = .Name x p /\ StoreOk al env res res' x i
 | .two i j => ∃ es x p, e = .Tuple es x p /\ zd8 al env res res' es [i, j]
inductive MyCell (env : Env) (X : List Addr) (x : Str) : Prop
 | mk (ca : Addr) (h1 : env.cells.lookup x = some ca) (h2 : env.locals < ca) (h3 : ca ∈ X) (h4 : ∀ y, env.cells.lookup y = some ca -> y = x) : MyCell env X x
noncomputable def allY : Str -> Bool := fun _ => true
structure EnvX (al : Str -> Bool) (env : Env) (X : List Addr) : Prop where
 loc : env.locals ∈ X
 cell : ∀ x, al x = true -> env.kindOf x = some .cell -> MyCell env X x
 only : ∀ b ∈ X, b = env.locals \/ ∃ x, env.cells.lookup x = some b
section
variable {c : Cx} {env : Env} {res : Res} {k : Clo} {loc loc' : Loc} {φ : List Addr} {H : Hp} {s : Shared} {al : Str -> Bool} {X : List Addr}
theorem FSim.ownX (F : FSim c env res k loc φ s.heap) (hX : EnvX al env X) : OwnX c X s.heap := fun b hb o ho => by
 rcases hX.only b hb with rfl | ⟨x, hx⟩
 ·exact zjg F ho
 ·exact zjc F hx ho
theorem FSim.outX (F : FSim c env res k loc φ s.heap) (hX : EnvX al env X) : ∀ b ∈ X, b ∉ φ /\ c.h0.get? b = none := fun b hb => by
 rcases hX.only b hb with rfl | ⟨x, hx⟩
 ·exact ⟨F.Lφ, F.L0⟩
 ·exact (F.cells x b hx).out
theorem Kept.trans {X : List Addr} {s s₁ s₂ : Shared} (a : Kept X s s₁) (b : Kept X s₁ s₂) : Kept X s s₂ :=
 ⟨fun y o hy ho => b.1 y o hy (a.1 y o hy ho), b.2.1.trans a.2.1, b.2.2.trans a.2.2⟩
theorem zd4 {A : Around} {E : Value -> Shared -> Prop} {res' : Res} {x : Str} {i : Nat} {v : V} {r : Value} (F : FSim c env res k loc φ s.heap) (S : Sim c φ H s) (h : StoreOk al env res res' x i) (hX : EnvX al env X) (R : Rep c φ s.heap v r) :
  wpAny (model c.prog c.w) A (storeName env x r) (fun _ s' => Stored c env res' k (loc.set i (some v)) φ H X s s') E s := by
 rcases h.kind with h5 | ⟨ha, hk⟩
 ·exact zk7 F S h.toSlotPut hX.loc h5 R
 ·refine zn7 F S h.toSlotPut hk ?_ R
  obtain ⟨ca, g1, g2, g3, g4⟩ := hX.cell x ha hk
  obtain ⟨_, _, o, h3, _, r, h5⟩ := F.cells x ca g1
  exact ⟨ca, r, g1, ⟨o, h3, h5⟩, g2, g3, g4⟩
theorem zkn {A : Around} {E : Value -> Shared -> Prop} (hX : EnvX al env X) : ∀ {es : List Expr} {is : List Nat} {vs : List V} {rs : List Value} {res res' : Res} {loc loc' : Loc} {s : Shared},
  zd8 al env res res' es is -> znd is vs loc = some loc' -> FSim c env res k loc φ s.heap -> Sim c φ H s -> RepL c φ s.heap vs rs ->
  wpAny (model c.prog c.w) A (assignInOrder ((assignEach es env).map (·.2)) rs) (fun _ s' => Stored c env res' k loc' φ H X s s') E s
 | [], is, vs, rs, res, res', loc, loc', s, h, hb, F, S, R => by
  obtain ⟨rfl, rfl⟩ := h
  cases vs with
  | nil =>
   obtain rfl := zaa hb
   obtain rfl := R.nil_inv
   exact wpAny_pure ⟨F, S, Ext.refl, fun _ _ _ h => h, rfl, rfl⟩
  | cons => cases hb
 | e :: es, [], vs, rs, res, res', loc, loc', s, h, hb, F, S, R => h.elim
 | e :: es, i :: is, [], rs, res, res', loc, loc', s, h, hb, F, S, R => nomatch hb
 | e :: es, i :: is, v :: vs, rs, res, res', loc, loc', s, h, hb, F, S, R => by
  obtain ⟨x, p, res1, rfl, h1, h2⟩ := h
  obtain ⟨r, rs, rfl, R1, R2⟩ := R.uncons
  show wpAny _ _ (do holding rs (assign (.Name x p) env r); assignInOrder ((assignEach es env).map (·.2)) rs) _ _ s
  refine wpAny_bind (wpAny_holding (wpAny_assign_Name (wpAny_mono (zd4 F S h1 hX R1) ?_ fun _ _ h => h)))
  rintro _ s₁ ⟨F₁, S₁, e₁, k₁⟩
  refine wpAny_mono (zkn hX h2 hb F₁ S₁ (RepL.mono e₁.toKp (F.ownX hX) R2)) ?_ fun _ _ h => h
  rintro _ s₂ ⟨F₂, S₂, e₂, k₂⟩
  exact ⟨F₂, S₂, e₁.trans e₂, k₁.trans k₂⟩
theorem zed {al : Str -> Bool} : ∀ {es : List Expr} {is : List Nat} {res res' : Res}, zd8 al env res res' es is -> (assignEach es env).length = is.length /\ (assignEach es env).findIdx? (·.1) = none
 | [], is, _, _, h => by obtain ⟨rfl, rfl⟩ := h; exact ⟨rfl, rfl⟩
 | e :: es, [], _, _, h => h.elim
 | e :: es, i :: is, _, _, h => by
  obtain ⟨x, p, res1, rfl, _, h2⟩ := h
  obtain ⟨h3, h4⟩ := zed h2
  refine ⟨congrArg (· + 1) h3, ?_⟩
  show (((false, assign (.Name x p) env) :: assignEach es env).findIdx? (·.1)) = none
  rw [List.findIdx?_cons, h4]; rfl
theorem zjz : ∀ {is : List Nat} {vs : List V} {loc loc' : Loc}, znd is vs loc = some loc' -> vs.length = is.length
 | [], [], _, _, _ => rfl
 | _ :: _, _ :: _, _, _, h => congrArg (· + 1) (zjz (by exact h))
 | [], _ :: _, _, _, h => nomatch h
 | _ :: _, [], _, _, h => nomatch h
theorem zkr {A : Around} {E : Value -> Shared -> Prop} (hh : A.handled = none) (hX : EnvX al env X) {es : List Expr} {is : List Nat} {x1} {pos : Pos} {vs : List V} {r : Value} {res res' : Res} {loc loc' : Loc} {s : Shared}
  (h : zd8 al env res res' es is) (hb : znd is vs loc = some loc') (F : FSim c env res k loc φ s.heap) (S : Sim c φ H s) (R : Rep c φ s.heap (.tup vs) r) :
  wpAny (model c.prog c.w) A (assign (.Tuple es x1 pos) env r) (fun _ s' => Stored c env res' k loc' φ H X s s') E s := by
 obtain ⟨a, o, us, n, rfl, ha, ho, hc, hd, hz, hl⟩ := R
 have hlen : us.size = is.length := by rw [<- zjz hb, <- RepL.length hl, za3]
 refine wpAny_assign_Tuple hh ⟨o, ho, hc, n, hd⟩ ((zed h).1.trans hlen.symm) (zed h).2 fun h' hx => ?_
 have keep : ∀ b o, s.heap.get? b = some o -> h'.get? b = some o := fun b o hb => hx b o (zao (Heap.lt_size hb)) hb
 have e : Ext [] φ s φ { s with heap := h' } := Ext.of_keeps keep rfl
 refine wpAny_mono (zkn hX h hb (F.mono e) (S.keeps (s' := { s with heap := h' }) keep rfl) (RepL.mono e.toKp OwnX.nil hl)) ?_ fun _ _ h => h
 rintro _ s₂ ⟨F₂, S₂, e₂, k₂⟩
 exact ⟨F₂, S₂, (e.weaken (fun _ h => nomatch h) fun b hb => (F.outX hX b hb).1).trans e₂, fun b o hb ho => k₂.1 b o hb (keep b o ho), k₂.2⟩
theorem zmy {A : Around} {E : Value -> Shared -> Prop} (hh : A.handled = none) (hX : EnvX al env X) {tg : Expr} {t : Tg} {v : V} {r : Value} {res res' : Res} {loc loc' : Loc} {s : Shared}
  (h : TgOk al env res res' tg t) (hb : zfu t v loc = some loc') (F : FSim c env res k loc φ s.heap) (S : Sim c φ H s) (R : Rep c φ s.heap v r) :
  wpAny (model c.prog c.w) A (assign tg env r) (fun _ s' => Stored c env res' k loc' φ H X s s') E s := by
 cases t with
 | one i =>
  obtain ⟨x, p, rfl, h⟩ := h
  obtain rfl := zaa hb
  exact wpAny_assign_Name (zd4 F S h hX R)
 | two i j =>
  obtain ⟨es, x, p, rfl, h⟩ := h
  obtain ⟨vs, h1, g⟩ := zab.mp hb
  obtain rfl := zei h1
  cases LV.of vs with
  | two a b => exact zkr hh hX h (show znd [i, j] [a, b] loc = some loc' from g) F S R
  | _ => cases g
end
end Bn
namespace Bn
open PySem PyProof.Rows
inductive NsK (T : Value) (h : Heap) (C : Addr) (m : Str -> Option Value) : Prop
 | mk (ns : h.Ns C m) (o : Obj) (ho : h.get? C = some o) (hc : o.cls = T) : NsK T h C m
abbrev NsD (h : Heap) (C : Addr) (m : Str -> Option Value) : Prop := NsK (.type "dict") h C m
theorem NsD.ns {h : Heap} {C : Addr} {m : Str -> Option Value} (q : NsD h C m) : h.Ns C m := let ⟨n, _, _, _⟩ := q; n
inductive HasK (T : Value) (h : Heap) (C : Addr) (m₀ : Str -> Option Value) (n : Str) : Prop
 | mk (m : Str -> Option Value) (d : NsK T h C m) (same : ∀ y, y ≠ n -> m y = m₀ y) : HasK T h C m₀ n
theorem zfm {α : Type} {p q : α -> Bool} (hpq : ∀ e, p e = true -> q e = false) : ∀ (l : List α) (i : Nat), l.findIdx? p = some i -> (l.eraseIdx i).find? q = l.find? q
 | [], _, h => nomatch h
 | e :: l, i, h => by
  rw [List.findIdx?_cons] at h
  cases hp : p e with
  | true =>
   rw [hp] at h
   obtain rfl := zaa h
   rw [List.eraseIdx_cons_zero, List.find?_cons, hpq e hp]
  | false =>
   rw [hp] at h
   obtain ⟨j, hj, rfl⟩ := zah.mp h
   rw [List.eraseIdx_cons_succ, List.find?_cons, List.find?_cons, zfm hpq l j hj]
theorem zpe {es : Array DictEntry} {n y : Str} {i : Nat} (hi : es.findIdx? (fun e => e.key.isStr n) = some i) (hy : y ≠ n) : nsFind (es.eraseIdxIfInBounds i) y = nsFind es y := by
 obtain ⟨l⟩ := es
 simp only [nsFind, findBy, List.eraseIdxIfInBounds_toArray, List.find?_toArray, List.findIdx?_toArray] at hi ⊢
 rw [zfm (fun e he => ?_) l i hi]
 cases hq : e.key.isStr y with
 | false => rfl
 | true => exact absurd (Value.isStr_inj _ _ _ he hq).symm hy
theorem drop_dk {h : Heap} {a : Addr} {o o' : Obj} {name : Str} {es : Array DictEntry} {ep : Nat} (ho : h.get? a = some o) (hd : o.data = .dict es ep) (h2 : (h.update a (Obj.dropName name)).get? a = some o') : DKo o o' := by
 obtain ⟨cl, d, dt, sl⟩ := o
 subst hd
 cases hi : es.findIdx? (·.key.isStr name) with
 | some i =>
  have e := Heap.get?_update_self (Obj.dropName name) ho (by simp only [Obj.dropName_eq, Obj.dropNameByArray, hi] <;> rfl)
  rw [e] at h2
  obtain rfl := zaa h2
  simp only [Obj.dropName_eq, Obj.dropNameByArray, hi]
  refine .mk rfl fun es1 n es' n' q1 q2 g => ?_
  cases q1; cases q2
  obtain ⟨l⟩ := es
  refine ⟨g.1.erase i, ?_⟩
  rw [List.eraseIdxIfInBounds_toArray]
  exact (((List.eraseIdx_sublist l i).map fun e => keyS e.key)).nodup g.2
 | none =>
  have e := Heap.get?_update_self (Obj.dropName name) ho (by simp only [Obj.dropName_eq, Obj.dropNameByArray, hi] <;> rfl)
  rw [e] at h2
  obtain rfl := zaa h2
  simp only [Obj.dropName_eq, Obj.dropNameByArray, hi]
  exact .rfl
section
variable {M : Model} {A : Around} {E : Value -> Shared -> Prop} {s : Shared} {env : Env}
theorem nsDelK {T : Value} {a : Addr} {m} {name : Str} {Q : Bool -> Shared -> Prop} (hD : NsK T s.heap a m)
  (hQ : ∀ h' m', NsK T h' a m' -> (∀ y, y ≠ name -> m' y = m y) -> Heap.SameBut a s.heap h' -> (∀ o o', s.heap.get? a = some o -> h'.get? a = some o' -> DKo o o') -> Q (m name).isSome { s with heap := h' }) : wpAny M A (nsDel a name) Q E s := by
 obtain ⟨hn, o2, ho2, hc2⟩ := id hD
 obtain ⟨o, es, ep, ho, hd, hk, hm⟩ := id hn
 replace hc2 : o.cls = T := by rw [ho] at ho2; cases ho2; exact hc2
 have hany : es.any (·.refKey) = false := by
  rw [Array.any_eq_false']; intro e he; obtain ⟨n, t, h⟩ := hk e he; simp [DictEntry.refKey, h]
 have hsome : (m name).isSome = es.any (·.key.isStr name) := by
  rw [<- hm name]; simp only [nsFind, findBy, Option.isSome_map]
  rw [Bool.eq_iff_iff]; simp only [Array.find?_isSome, Array.any_eq_true]
  constructor
  ·rintro ⟨x, hx, hp⟩; obtain ⟨i, hi, rfl⟩ := Array.mem_iff_getElem.mp hx; exact ⟨i, hi, hp⟩
  ·rintro ⟨i, hi, hp⟩; exact ⟨_, Array.getElem_mem hi, hp⟩
 have hhas : nsHas name o = pure (es.any (·.key.isStr name)) := by
  rw [nsHas_eq]; unfold nsHasByArray; rw [hd]
  show (if (es.any fun x => x.key.isStr name) = true then _ else _) = _
  generalize (es.any fun x => x.key.isStr name) = b
  cases b <;> simp [hany]
 unfold nsDel
 refine wpAny_bind (wpAny_loadPart ho ?_)
 rw [hhas]
 refine wpAny_bind (wpAny_pure ?_)
 rw [<- hsome]
 cases hmn : (m name).isSome
 ·have := hQ s.heap m hD (fun _ _ => rfl) (.refl ..) fun o o' h1 h2 => by rw [h1] at h2; cases h2; exact .rfl
  rw [hmn] at this
  exact wpAny_pure this
 ·refine wpAny_bind (wpAny_updatePart ho (wpAny_pure ?_))
  have key : HasK T (s.heap.update a (Obj.dropName name)) a m name := by
   obtain ⟨cl, d, dt, sl⟩ := o
   subst hd
   cases hi : es.findIdx? (·.key.isStr name) with
   | some i => exact ⟨_, ⟨⟨_, _, ep + 1, Heap.get?_update_self _ ho (by simp only [Obj.dropName_eq, Obj.dropNameByArray, hi] <;> rfl), (by simp only [Obj.dropName_eq, Obj.dropNameByArray, hi] <;> rfl), hk.erase i, fun _ => rfl⟩, _, Heap.get?_update_self _ ho (by simp only [Obj.dropName_eq, Obj.dropNameByArray, hi] <;> rfl), (by simp only [Obj.dropName_eq, Obj.dropNameByArray, hi]; exact hc2)⟩, fun y hy => (zpe hi hy).trans (hm y)⟩
   | none => exact ⟨_, ⟨⟨_, _, ep, Heap.get?_update_self _ ho (by simp only [Obj.dropName_eq, Obj.dropNameByArray, hi] <;> rfl), (by simp only [Obj.dropName_eq, Obj.dropNameByArray, hi] <;> rfl), hk, fun _ => rfl⟩, _, Heap.get?_update_self _ ho (by simp only [Obj.dropName_eq, Obj.dropNameByArray, hi] <;> rfl), (by simp only [Obj.dropName_eq, Obj.dropNameByArray, hi]; exact hc2)⟩, fun y _ => hm y⟩
  obtain ⟨m', hm', hsm⟩ := key
  have := hQ _ m' hm' hsm (Heap.SameBut.update ..) fun o₁ o' h1 h2 => by
   obtain rfl := zaa (ho.symm.trans h1)
   exact drop_dk ho hd h2
  rw [hmn] at this
  exact this
structure SameD (a : Addr) (h h' : Heap) : Prop where
 same : Heap.SameBut a h h'
 dk : ∀ o o', h.get? a = some o -> h'.get? a = some o' -> DKo o o'
theorem SameD.refl {a : Addr} {h : Heap} : SameD a h h := ⟨.refl .., fun o o' h1 h2 => by rw [h1] at h2; cases h2; exact .rfl⟩
theorem SameD.trans {a : Addr} {h h' h'' : Heap} {m} (x : SameD a h h') (hn : NsD h' a m) (y : SameD a h' h'') : SameD a h h'' := ⟨x.same.trans y.same, fun o o' h1 h2 => by
 obtain ⟨⟨o1, es, n, ho, hd, _⟩, _⟩ := hn
 exact (y.dk o1 o' ho h2).trans (x.dk o o1 h1 ho) hd⟩
theorem nsDelD {a : Addr} {m} {name : Str} {Q : Bool -> Shared -> Prop} (hD : NsD s.heap a m)
  (hQ : ∀ h' m', NsD h' a m' -> SameD a s.heap h' -> Q (m name).isSome { s with heap := h' }) : wpAny M A (nsDel a name) Q E s := nsDelK hD fun h' m' h1 _ h2 h3 => hQ h' m' h1 ⟨h2, h3⟩
theorem letGoD {cenv : Env} {cellsOf : List (Str × NameKind) -> List Value} (hkind : cenv.scope.kind = .function) {Q : Unit -> Shared -> Prop} :
  ∀ (vs : List (Str × NameKind)) (s : Shared) (m : Str -> Option Value), (∀ x ∈ vs, x.2 = .local -> cenv.kindOf x.1 = some .local) -> NsD s.heap cenv.locals m ->
   (∀ h' m', NsD h' cenv.locals m' -> SameD cenv.locals s.heap h' -> Q () { s with heap := h' }) -> wpAny M A (comprehension.letGo cenv cellsOf vs) Q E s := by
 intro vs
 induction vs with
 | nil => intro s m _ hn hQ; exact wpAny_pure (hQ s.heap m hn .refl)
 | cons x r ih =>
  intro s m hv hn hQ
  obtain ⟨n, k⟩ := x
  rw [comprehension.letGo]
  have hr : ∀ y ∈ r, y.2 = .local -> cenv.kindOf y.1 = some .local := fun y hy => hv y (zaj _ hy)
  refine wpAny_bind (wpAny_holding ?_)
  by_cases hk : k = .local
  ·subst hk
   have hkn : cenv.kindOf n = some .local := hv (n, .local) zae rfl
   simp only [beq_self_eq_true, if_true]
   refine wpAny_bind (wpAny_nsGet hn.ns ?_)
   cases hmn : (m n).isSome
   ·simp only [zbn, if_false]
    exact wpAny_pure (ih s m hr hn hQ)
   ·simp only [if_true]
    unfold unbindName deleteName
    refine wpAny_bind (wpAny_point (wpAny_bind ?_))
    simp only [hkn, hkind]
    refine wpAny_bind (m := nsDel cenv.locals n) (nsDelD hn fun h' m' hn' hs' => ?_)
    rw [hmn]
    refine wpAny_pure (wpAny_point ?_)
    exact ih { s with heap := h' } m' hr hn' fun h'' m'' hn'' hs'' => hQ h'' m'' hn'' (hs'.trans hn' hs'')
  ·have hb : (k == NameKind.local) = false := by simpa using hk
   simp only [hb, zbn, if_false]
   exact wpAny_point (ih s m hr hn hQ)
inductive EndD (P : Heap -> Prop) (C : Addr) (h : Heap) : Prop
 | mk (m : Str -> Option Value) (hn : NsD h C m) (g : ∀ h' m', NsD h' C m' -> SameD C h h' -> P h') : EndD P C h
noncomputable def endD (M : Model) (A : Around) (E : Value -> Shared -> Prop) (use : Option (Value -> Sem Unit)) (Q : Value -> Shared -> Prop) (acc : Value) (C : Addr) (r : Result) (s' : Shared) : Prop :=
 match r with
 | .ok _ => (match use with
  | none => EndD (fun h' => Q acc { s' with heap := h' }) C s'.heap
  | some u => wpAny M A (u acc) (fun _ s'' => EndD (fun h' => Q .none { s'' with heap := h' }) C s''.heap) E s')
 | .error _ => False
theorem zhy {e : Expr} {scope : Scope} {pos : Pos} {newAcc first : Sem Value} {g : Comprehension} {gs : List Comprehension} {cl : List (Str × Addr)} {use : Option (Value -> Sem Unit)}
  {Q : Value -> Shared -> Prop}
  (hcl : clausesOf e = g :: gs) (hs : ∀ x, foldedSetIterable g.iter env x = pure x) (hclos : closureFor scope env = pure cl)
  (hkind : scope.kind = .function) (hnames : ∀ x ∈ scope.names, x.2 = .local -> scope.names.lookup x.1 = some .local)
  (h : wpAny M A first (fun x s₁ => wpAny M A (pyIter x) (fun it s₂ => wpAny M A newAcc (fun acc s₃ =>
   wpAny M A (newFunctionEnv scope env.globals cl [] env.qual none .none (some env)) (fun cenv s₄ =>
    codeAny M A (.compStart e 0 it acc { cenv with scope := relabel scope env }) (endD M A E use Q acc cenv.locals) s₄) E s₃) E s₂) E s₁) E s) :
  wpAny M A (comprehension e scope env pos newAcc false first use) Q E s := by
 unfold comprehension
 rw [hclos, hcl]
 refine wpAny_bind (wpAny_mono h (fun x s₁ h₁ => wpAny_bind (wpAny_standAt (wpAny_bind (wpAny_of_eq (hs x) (wpAny_bind (wpAny_holding (wpAny_mono h₁ (fun it s₂ h₂ =>
  wpAny_standIf (wpAny_bind (wpAny_mono h₂ (fun acc s₃ h₃ => wpAny_bind (wpAny_pure (wpAny_bind (wpAny_mono h₃ (fun cenv s₄ h₄ => ?_) fun _ _ h' => h')))) fun _ _ h' => h')))
   fun _ _ h' => h'))))))) fun _ _ h' => h')
 dsimp only
 have hv : ∀ x ∈ (scope.names.filter fun x => (x.2 == .local || x.2 == .cell) && x.1 != (".0" : Str)).reverse, x.2 = .local ->
   Env.kindOf { cenv with scope := relabel scope env } x.1 = some .local := fun x hx hl => lookup_relabel_local (hnames x (List.mem_filter.mp (List.mem_reverse.mp hx)).1 hl)
 have hv' : ∀ x ∈ (scope.names.filter fun x => (x.2 == .local || x.2 == .cell) && x.1 != (".0" : Str)).reverse.drop 1 ++ (scope.names.filter fun x => (x.2 == .local || x.2 == .cell) && x.1 != (".0" : Str)).reverse.take 1,
   x.2 = .local -> Env.kindOf { cenv with scope := relabel scope env } x.1 = some .local := fun x hx hl => by
  rcases zaq.mp hx with h1 | h1
  ·exact hv x (List.mem_of_mem_drop h1) hl
  ·exact hv x (List.mem_of_mem_take h1) hl
 refine wpAny_holding (wpAny_bind (wpAny_attempt (wpAny_holding (wpAny_run (codeAny_mono h₄ fun r s' hr => ?_)))))
 cases r with
 | ok f =>
  cases use with
  | none =>
   obtain ⟨m, hn, hr⟩ := hr
   exact wpAny_bind (wpAny_holding (letGoD (cenv := { cenv with scope := relabel scope env }) hkind _ s' m hv hn fun h' m' hn' hs' => wpAny_pure (hr h' m' hn' hs')))
  | some u =>
   refine wpAny_bind (wpAny_rule (wpAny_bind (wpAny_holding (wpAny_mono hr (fun _ s'' hr' => ?_) fun _ _ h' => h'))))
   obtain ⟨m, hn, hr'⟩ := hr'
   exact wpAny_bind (letGoD (cenv := { cenv with scope := relabel scope env }) hkind _ s'' m hv' hn fun h' m' hn' hs' => wpAny_pure (hr' h' m' hn' hs'))
 | error x => exact hr.elim
end
noncomputable def Tg.out : Tg -> Nat -> Prop
 | .one k, i => i ≠ k
 | .two k l, i => i ≠ k /\ i ≠ l
theorem zj8 {t : Tg} {x : V} {loc loc' : Loc} (h : zfu t x loc = some loc') : loc'.length = loc.length /\ ∀ {i : Nat}, t.out i -> loc'.getD i none = loc.getD i none := by
 cases t with
 | one k =>
  obtain rfl := zaa h
  exact ⟨List.length_set, fun hi => ziv hi⟩
 | two k l =>
  obtain ⟨vs, h1, g⟩ := zab.mp h
  cases LV.of vs with
  | two a b =>
   obtain rfl := zaa g
   exact ⟨by rw [List.length_set, List.length_set], fun hi => (ziv hi.2).trans (ziv hi.1)⟩
  | _ => cases g
section
variable {c : Cx} {env : Env} {res : Res}
structure Sub0 (res res' : Res) (scope : Scope) (t : Tg) (x : Str) (i : Nat) : Prop where
 up : res.lookup x = some i
 mem : (x, NameKind.free) ∈ scope.names
 free : scope.names.lookup x = some .free
 dn : res'.lookup x = some i
 out : t.out i
noncomputable def ownY (scope : Scope) : Str -> Bool := fun x => scope.names.lookup x == some .cell
structure CompOk (c : Cx) (env : Env) (res res0 res' : Res) (scope : Scope) (tgt : Expr) (t : Tg) : Prop where
 kind : scope.kind = .function
 cell : ∀ n n', (n, NameKind.cell) ∈ scope.names -> (n', NameKind.cell) ∈ scope.names -> n' = n
 nocell : ∀ n, (n, NameKind.free) ∈ scope.names -> (n, NameKind.cell) ∉ scope.names
 names : ∀ y ∈ scope.names, y.2 = .local -> scope.names.lookup y.1 = some .local
 free : ∀ n, (n, NameKind.free) ∈ scope.names -> (env.kindOf n = some .cell \/ env.kindOf n = some .free) /\ ∃ i, res.lookup n = some i
 n0 : res0.n = res.n
 fr0 : res0.fr = false
 sub0 : ∀ x i, res0.lookup x = some i -> Sub0 res res' scope t x i
 n' : res'.n = res.n /\ res'.fr = false
 tgt : ∀ cenv : Env, cenv.scope = relabel scope env -> TgOk (ownY scope) cenv res0 res' tgt t
theorem zdo {env : Env} {x : Str} {k : NameKind} : ∀ {names : List (Str × NameKind)}, names.lookup x = some k ->
  (names.map fun (n, k) => if (k == NameKind.free && env.scope.kind == .function && env.kindOf n == some .cell) then (n, NameKind.cell) else (n, k)).lookup x =
   some (if (k == NameKind.free && env.scope.kind == .function && env.kindOf x == some .cell) then .cell else k)
 | [], h => by simp at h
 | (n, k') :: r, h => by
  have ih := @zdo env x k r
  show List.lookup x ((if (k' == NameKind.free && env.scope.kind == .function && env.kindOf n == some .cell) = true then (n, NameKind.cell) else (n, k')) :: _) = _
  cases hx : x == n with
  | true =>
   simp only [za1, hx] at h
   cases h
   have := beq_iff_eq.mp hx; subst this
   split <;> simp [za1]
  | false =>
   simp only [za1, hx] at h
   split
   ·simp only [za1, hx]; exact ih h
   ·simp only [za1, hx]; exact ih h
theorem zgr {k : Clo} {loc : Loc} {φ : List Addr} {h : Heap} (F : FSim c env res k loc φ h) {x : Str} (hk : env.kindOf x = some .cell \/ env.kindOf x = some .free) {i : Nat} (hi : res.lookup x = some i) : SlotC c φ h env x (loc.getD i none) := by
 obtain ⟨m, _, hs, _⟩ := F.ns
 have h5 := hs x i hi
 unfold zef at h5
 rcases hk with hk | hk <;> rw [hk] at h5 <;> exact h5
theorem SlotC.addr {φ : List Addr} {h : Heap} {x : Str} {ov : Option V} : SlotC c φ h env x ov -> ∃ ca, env.cells.lookup x = some ca
 | .yes _ ca _ h1 _ _ => ⟨ca, h1⟩
 | .no ca h1 _ => ⟨ca, h1⟩
theorem closL_at {x : Str} {ca : Addr} {names : List (Str × NameKind)} (h : (x, NameKind.free) ∈ names) (hc : env.cells.lookup x = some ca) : (zdr env names []).lookup x = some ca := by
 obtain ⟨ca', hca'⟩ := zbz.mp (zf3 (env := env) (acc := []) (x := x) (.inl h))
 rcases zcv hca' with q | ⟨_, q⟩
 ·cases q
 ·rw [hc] at q; obtain rfl : ca' = ca := q; exact hca'
theorem SlotC.recell {φ : List Addr} {h : Heap} {env' : Env} {x : Str} {ov : Option V} (he : ∀ ca, env.cells.lookup x = some ca -> env'.cells.lookup x = some ca) : SlotC c φ h env x ov -> SlotC c φ h env' x ov
 | .yes v ca r h1 h2 h3 => .yes v ca r (he ca h1) h2 h3
 | .no ca h1 h2 => .no ca (he ca h1) h2
theorem zor.cell {k : Option NameKind} {L C : Prop} (hk : k = some .cell \/ k = some .free) (h : C) : zor k L C := by
 rcases hk with rfl | rfl <;> exact h
noncomputable def ze4 : Obj := { cls := .type "cell", data := .cell none }
theorem zft : ∀ {names : List (Str × NameKind)} {h : Heap} {acc : List (Str × Addr)} {x : Str} {ca : Addr}, (cellsFrom h.objs.size names acc).lookup x = some ca ->
  acc.lookup x = some ca \/ (h.objs.size <= ca /\ (pushCells h names).get? ca = some ze4 /\ (x, NameKind.cell) ∈ names)
 | [], h, acc, x, ca, e => .inl e
 | (n, kd) :: r, h, acc, x, ca, e => by
  unfold cellsFrom at e
  unfold pushCells
  cases hk : (kd == NameKind.cell) with
  | true =>
   rw [hk, if_pos rfl] at e
   obtain rfl := beq_iff_eq.mp hk
   rw [if_pos rfl]
   have := zft (names := r) (h := h.push ze4) (acc := (n, h.objs.size) :: acc) (x := x) (ca := ca) (by rw [Heap.size_push]; exact e)
   rcases this with q | ⟨q1, q2, q3⟩
   ·rw [za1] at q
    cases hx : x == n with
    | true =>
     rw [hx] at q
     obtain rfl := beq_iff_eq.mp hx
     obtain rfl := zaa q
     exact .inr ⟨zad _, pushCells_keeps _ _ _ _ (Heap.get?_push_size _ rfl), zae⟩
    | false => rw [hx] at q; exact .inl q
   ·rw [Heap.size_push] at q1
    exact .inr ⟨Nat.le_of_succ_le q1, q2, zaj _ q3⟩
  | false =>
   rw [hk, if_neg (by decide)] at e
   rw [if_neg (by decide)]
   rcases zft (names := r) e with q | ⟨q1, q2, q3⟩
   ·exact .inl q
   ·exact .inr ⟨q1, q2, zaj _ q3⟩
theorem zf0 : ∀ {names : List (Str × NameKind)} {k : Nat} {acc : List (Str × Addr)} {x : Str}, (x, NameKind.cell) ∉ names -> (cellsFrom k names acc).lookup x = acc.lookup x
 | [], _, _, _, _ => rfl
 | (n, kd) :: r, k, acc, x, hn => by
  unfold cellsFrom
  cases hk : (kd == NameKind.cell) with
  | true =>
   obtain rfl := beq_iff_eq.mp hk
   rw [if_pos rfl, zf0 fun q => hn (zaj _ q), za1, beq_eq_false_iff_ne.mpr fun (q : x = n) => hn (q ▸ zae)]
  | false => rw [if_neg (by decide)]; exact zf0 fun q => hn (zaj _ q)
theorem zg3 : ∀ {names : List (Str × NameKind)} {k : Nat} {acc : List (Str × Addr)} {x : Str}, ((x, NameKind.cell) ∈ names \/ (acc.lookup x).isSome) -> ((cellsFrom k names acc).lookup x).isSome
 | [], _, acc, x, h => by
  rcases h with h | h
  ·cases h
  ·exact h
 | (n, kd) :: r, k, acc, x, h => by
  unfold cellsFrom
  split
  ·rename_i hk
   refine zg3 ?_
   rcases h with h | h
   ·rcases zak.mp h with e | h
    ·cases e
     right; simp
    ·exact .inl h
   ·right
    rw [za1]
    cases x == n <;> simp [h]
  ·rename_i hk
   refine zg3 ?_
   rcases h with h | h
   ·rcases zak.mp h with e | h
    ·cases e; exact absurd rfl hk
    ·exact .inl h
   ·exact .inr h
noncomputable def XC (env : Env) : List Addr := env.locals :: env.cells.filterMap fun p => (env.cells.lookup p.1).filter fun a => decide (env.locals < a)
theorem zrp {env : Env} {b : Addr} (h : b ∈ XC env) : b = env.locals \/ ((∃ x, env.cells.lookup x = some b) /\ env.locals < b) := by
 rcases zak.mp h with h | h
 ·exact .inl h
 ·obtain ⟨p, _, hp⟩ := List.mem_filterMap.mp h
  obtain ⟨h1, h2⟩ := Option.filter_eq_some_iff.mp hp
  exact .inr ⟨⟨p.1, h1⟩, of_decide_eq_true h2⟩
theorem XC_mem {env : Env} {x : Str} {b : Addr} (h : env.cells.lookup x = some b) (hb : env.locals < b) : b ∈ XC env :=
 zaj _ (List.mem_filterMap.mpr ⟨(x, b), mem_of_lookup h, Option.filter_eq_some_iff.mpr ⟨h, decide_eq_true hb⟩⟩)
theorem zoc {k : Clo} {loc : Loc} {φ : List Addr} {h : Heap} {res0 res' : Res} {scope : Scope} {tgt : Expr} {t : Tg} (K : CompOk c env res res0 res' scope tgt t) {C : Addr} (hz : h.objs.size = C + 1) (F : FSim c env res k loc φ (pushCells h scope.names)) (hC : h.get? C = some { cls := .type "dict", data := .dict #[] }) (hnew : ∀ b, C <= b -> b ∉ φ /\ c.h0.get? b = none) :
  FSim c (compEnvC scope (cellsFrom (C + 1) scope.names (zdr env scope.names [])) C env) res0 none loc φ (pushCells h scope.names) where
 fn := K.kind
 gl := F.gl
 bl := F.bl
 ns := by
  have hC' := pushCells_keeps scope.names h C _ hC
  refine ⟨fun _ => none, ⟨⟨_, _, _, hC', rfl, by intro e he; simp at he, fun _ => by simp [nsFind, findBy]⟩, _, hC', .inr ⟨rfl, rfl, K.fr0⟩⟩, fun x i hx => ?_, fun kk z hz => nomatch hz⟩
  have q := K.sub0 x i hx
  have hkind : (compEnvC scope (cellsFrom (C + 1) scope.names (zdr env scope.names [])) C env).kindOf x = some .cell \/ (compEnvC scope (cellsFrom (C + 1) scope.names (zdr env scope.names [])) C env).kindOf x = some .free := by
   show List.lookup x (relabel scope env).names = _ \/ List.lookup x (relabel scope env).names = _
   rw [show List.lookup x (relabel scope env).names = _ from zdo q.free]
   split
   ·exact .inl rfl
   ·exact .inr rfl
  exact zor.cell hkind ((zgr F (K.free x q.mem).1 q.up).recell fun ca h => (zf0 (K.nocell x q.mem)).trans (closL_at q.mem h))
 len := by rw [K.n0]; exact F.len
 Lφ := (hnew C (zad _)).1
 L0 := (hnew C (zad _)).2
 cells x ca hx := by
  rcases zft (h := h) (by rw [hz]; exact hx) with q | ⟨q1, q2, _⟩
  ·rcases zcv q with q | ⟨h1, q⟩
   ·cases q
   ·obtain ⟨hk, i, hi⟩ := K.free x h1
    obtain ⟨ca', h6⟩ := (zgr F hk hi).addr
    rw [h6] at q; obtain rfl : ca = ca' := q
    exact F.cells x ca h6
  ·rw [hz] at q1
   exact ⟨(hnew ca (Nat.le_of_succ_le q1)).1, (hnew ca (Nat.le_of_succ_le q1)).2, _, q2, rfl, _, rfl⟩
theorem comp_env {k : Clo} {loc : Loc} {φ : List Addr} {h h' : Heap} {res0 res' : Res} {scope : Scope} {tgt : Expr} {t : Tg} (K : CompOk c env res res0 res' scope tgt t) {C : Addr} (hz : h.objs.size = C + 1) (F : FSim c env res k loc φ h') (hlt : ∀ b o, h'.get? b = some o -> b < C) :
  EnvX (ownY scope) (compEnvC scope (cellsFrom (C + 1) scope.names (zdr env scope.names [])) C env) (XC (compEnvC scope (cellsFrom (C + 1) scope.names (zdr env scope.names [])) C env)) where
 loc := zae
 cell x ha _ := by
  have hm := mem_of_lookup (beq_iff_eq.mp ha)
  obtain ⟨ca, hca⟩ := zbz.mp (zg3 (k := C + 1) (acc := zdr env scope.names []) (x := x) (.inl hm))
  have old : ∀ {y cb}, (zdr env scope.names []).lookup y = some cb -> cb < C := fun {y cb} q => by
   rcases zcv q with q | ⟨h1, q⟩
   ·cases q
   ·obtain ⟨hk, i, hi⟩ := K.free y h1
    obtain ⟨ca', h6⟩ := (zgr F hk hi).addr
    rw [h6] at q; obtain rfl : cb = ca' := q
    obtain ⟨_, _, o, ho, _⟩ := F.cells y cb h6
    exact hlt cb o ho
  have hnf : (x, NameKind.free) ∉ scope.names := fun q => K.nocell x q hm
  have hgt : C < ca := by
   rcases zft (h := h) (by rw [hz]; exact hca) with q | ⟨q1, _, _⟩
   ·rcases zcv q with q | ⟨h1, _⟩
    ·cases q
    ·exact absurd h1 hnf
   ·rw [hz] at q1; exact q1
  refine ⟨ca, hca, hgt, XC_mem (env := compEnvC scope (cellsFrom (C + 1) scope.names (zdr env scope.names [])) C env) hca hgt, fun y hy => ?_⟩
  rcases zft (h := h) (by rw [hz]; exact hy) with q | ⟨_, _, q3⟩
  ·exact absurd (old q) (Nat.not_lt.mpr (zap hgt))
  ·exact K.cell x y hm q3
 only b hb := (zrp hb).imp id fun h => h.1
end
end Bn
namespace Bn
open PySem PyProof.Rows
section
variable {c : Cx} {env : Env} {res : Res}
inductive AccAt (c : Cx) (φ : List Addr) (h : Heap) (D : Addr) (av : List V) : Prop
 | mk (vs : Array Value) (n : Nat) (ho : h.get? D = some (lobj vs n)) (hr : RepL c φ h av vs.toList) (hD : D ∉ φ) : AccAt c φ h D av
structure Turn (c : Cx) (cenv : Env) (res0 : Res) (loc : Loc) (φ₀ : List Addr) (s₀ : Shared) (D : Addr) (wr : List Addr) (St : Nat -> List Addr -> Heap -> Prop) (i : Nat) (av : List V) (φ : List Addr) (H : Hp) (s : Shared) : Prop where
 ext : Ext [] φ₀ s₀ φ s
 sim : Sim c φ H s
 fr : FSim c cenv res0 none loc φ s.heap
 st : St i φ s.heap
 acc : AccAt c φ s.heap D av
theorem AccAt.keep {φ φ' : List Addr} {h h' : Heap} {D : Addr} {av : List V} {X : List Addr} (T : AccAt c φ h D av) (e : Kp X φ h φ' h') (hX : OwnX c X h) (hD : D ∉ X) : AccAt c φ' h' D av := by
 obtain ⟨vs, n, h1, h2, h3⟩ := T
 exact ⟨vs, n, e.keep D _ h1 h3 hD rfl, RepL.mono e hX h2, e.notin h1 h3⟩
theorem AccAt.out {φ : List Addr} {h : Heap} {D : Addr} {av : List V} {wr : List Addr} (T : AccAt c φ h D av) (its : Its c wr φ h) : D ∉ wr := fun hm => by
 obtain ⟨_, _, o, h1, h2, _⟩ := its D hm
 obtain ⟨vs, n, h3, _, _⟩ := T
 obtain rfl := zaa (h3.symm.trans h1)
 exact absurd h2 (by show itc (Value.type "list") ≠ true; decide)
theorem Off.of {c : Cx} {env : Env} {res : Res} {k : Clo} {loc : Loc} {φ X : List Addr} {s : Shared} (F : FSim c env res k loc φ s.heap) (h : ∀ b ∈ X, ∀ o, s.heap.get? b = some o -> o.cls ≠ .type "frame" /\ o.cls ≠ .type "dict" /\ o.cls ≠ .type "cell") : Off env X s where
 loc hm := by
  obtain ⟨m, ⟨_, o, h3, h4⟩, _, _⟩ := F.ns
  obtain ⟨g1, g2, g3⟩ := h _ hm o h3
  rcases h4 with h4 | h4
  ·exact g1 h4.1
  ·exact g2 h4.1
 cells x ca hx hm := by
  obtain ⟨_, _, o, h3, h4⟩ := F.cells x ca hx
  exact (h _ hm o h3).2.2 h4
 clo ca o ho hc _ hm := (h _ hm o ho).2.2 hc
theorem Off.its {c : Cx} {env : Env} {res : Res} {k : Clo} {loc : Loc} {φ wr : List Addr} {s : Shared} (F : FSim c env res k loc φ s.heap) (h : Its c wr φ s.heap) : Off env wr s := Off.of F fun b hb o ho => by
 obtain ⟨_, _, o', h1, h2, _⟩ := h b hb
 obtain rfl := zaa (ho.symm.trans h1)
 exact ⟨zg1 h2 rfl, zg1 h2 rfl, zg1 h2 rfl⟩
theorem FSim.kept {c : Cx} {env : Env} {res : Res} {k : Clo} {loc : Loc} {φ wr : List Addr} {s s' : Shared} (F : FSim c env res k loc φ s.heap) (h : Its c wr φ s.heap) (hk : Kept wr s s') : FSim c env res k loc φ s'.heap :=
 F.off (hk.kp h) h.own (Off.its F h) fun o ho => ⟨o.slots, hk.1 _ o (Off.its F h).loc ho⟩
theorem grow {c : Cx} {φ : List Addr} {H : Hp} {s : Shared} {D : Addr} {vs : Array Value} {n : Nat} {h' : Heap} (S : Sim c φ H s) (ho : s.heap.get? D = some (lobj vs n)) (hD : D ∉ φ) (h0 : c.h0.get? D = none) (hs : Heap.SameBut D s.heap h') :
  Kp [D] φ s.heap φ h' /\ OwnX c [D] s.heap /\ Sim c φ H { s with heap := h' } := by
 have keep : ∀ b o, b ≠ D -> s.heap.get? b = some o -> h'.get? b = some o := fun b o hb ho => (hs.2 b hb).trans ho
 have kp := zkx (φ := φ) keep (fun o es n h hd => by obtain rfl := zaa (ho.symm.trans h); cases hd) (fun o vs h hd => by obtain rfl := zaa (ho.symm.trans h); cases hd)
 have ow : OwnX c [D] s.heap := fun b hb o ho' => by
  rw [zai.mp hb] at ho' ⊢
  obtain rfl := zaa (ho.symm.trans ho')
  exact .inr (.inl ⟨rfl, h0⟩)
 exact ⟨kp, ow, S.mono (s' := { s with heap := h' }) kp ow (fun b hb => by rw [zai.mp hb]; exact h0) (fun a ha o ho => keep a o (fun q => hD (q ▸ ha)) ho) (fun b o hb _ => keep b o (fun q => by rw [q, h0] at hb; cases hb) (S.stays b o hb)) S.gens fun b ps hb => keep b _ (fun q => by rw [q, ho] at hb; cases hb) hb⟩
theorem Off.list {c : Cx} {env : Env} {res : Res} {k : Clo} {loc : Loc} {φ : List Addr} {s : Shared} {D : Addr} {vs : Array Value} {n : Nat} (F : FSim c env res k loc φ s.heap) (ho : s.heap.get? D = some (lobj vs n)) : Off env [D] s := Off.of F fun b hb o ho' => by
 rw [zai.mp hb] at ho'
 obtain rfl := zaa (ho.symm.trans ho')
 exact ⟨show Value.type "list" ≠ _ by decide, show Value.type "list" ≠ _ by decide, show Value.type "list" ≠ _ by decide⟩
abbrev compStep (c : Cx) (d : Nat) (t : Tg) (xifs : List Ex) (xelt : Ex) (loc : Loc) : V -> List V -> (List V -> Hp -> Prop) -> Hp -> Prop :=
 zi5 (fun l' Q H => wpI (Calls c) true d none xifs l' Q H) (fun l' Q H => wpE (Calls c) true d none xelt l' Q noX H) t loc
structure CompL (c : Cx) (A : Around) (d : Nat) (φ₀ : List Addr) (s₀ : Shared) (env : Env) (res res0 res' : Res) (scope : Scope) (tgt : Expr) (t : Tg) (cenv : Env) (D : Addr) (it : Value) (wr : List Addr) (items : List V) (ok : Hp -> Prop) (St : Nat -> List Addr -> Heap -> Prop) : Prop where
 hA : OkF c A true d φ₀ s₀.heap
 K : CompOk c env res res0 res' scope tgt t
 hcs : cenv.scope = relabel scope env
 I : Itr c A it tgt wr items ok St
 EX : EnvX (ownY scope) cenv (XC cenv)
 hX0 : ∀ b ∈ XC cenv, s₀.heap.get? b = none
 hD0 : s₀.heap.get? D = none
 hw0 : ∀ b ∈ wr, s₀.heap.get? b = none
 hDX : D ∉ XC cenv
 hDh : c.h0.get? D = none
inductive CompI (c : Cx) (cenv : Env) (res0 : Res) (loc : Loc) (φ₀ : List Addr) (s₀ : Shared) (D : Addr) (wr : List Addr) (St : Nat -> List Addr -> Heap -> Prop) (items : List V) (ok : Hp -> Prop) (f : V -> List V -> (List V -> Hp -> Prop) -> Hp -> Prop) (QQ : List V -> Hp -> Prop) (k : Nat) (s : Shared) : Prop
 | mk (i : Nat) (av : List V) (φ : List Addr) (H : Hp) (hk : k = items.length - i + 1) (hi : i <= items.length) (hav : av.length <= i) (T : Turn c cenv res0 loc φ₀ s₀ D wr St i av φ H s) (hok : ok H) (hw : zd0 ok f (items.drop i) av QQ H) : CompI c cenv res0 loc φ₀ s₀ D wr St items ok f QQ k s
section
variable {A : Around} {d : Nat} {φ₀ φ : List Addr} {s₀ s : Shared} {res0 res' : Res} {scope : Scope} {tgt elt : Expr} {ifs : List Expr} {t : Tg} {xelt : Ex} {xifs : List Ex} {cenv : Env} {D : Addr} {it : Value} {wr : List Addr} {items : List V} {ok : Hp -> Prop}
 {St : Nat -> List Addr -> Heap -> Prop} {loc l' : Loc} {QQ : List V -> Hp -> Prop} {H : Hp} {i : Nat} {av : List V} {x : V}
theorem zq2 (L : CompL c A d φ₀ s₀ env res res0 res' scope tgt t cenv D it wr items ok St) (T : Turn c cenv res0 loc φ₀ s₀ D wr St i av φ H s) (hx : items[i]? = some x) (hok : ok H) (hb : zfu t x loc = some l') {Q : Shared -> Prop}
  (h : ∀ s₃, FSim c cenv res' none l' φ s₃.heap -> Turn c cenv res0 loc φ₀ s₀ D wr St (i + 1) av φ H s₃ -> Q s₃) :
  wpAny (model c.prog c.w) A (pyNext it) (fun r s₁ => match r with
   | none => False
   | some v => wpAny (model c.prog c.w) A (letOwnedTupleGo tgt it v) (fun _ s₁' => wpAny (model c.prog c.w) A (assign tgt cenv v) (fun _ s₂ => Q s₂) (fun _ _ => False) s₁') (fun _ _ => False) s₁) (fun _ _ => False) s := by
 have its := L.I.seen i φ s.heap T.st
 have hEX := L.EX
 refine wpAny_mono (L.I.item i x φ H s _ hx T.st T.sim hok) ?_ fun _ _ h => h
 rintro r s₁ ⟨v, rfl, h₁⟩
 refine wpAny_mono h₁ ?_ fun _ _ h => h
 rintro _ s₂ ⟨k₂, st₂, R₂⟩
 have F₂ := T.fr.kept its k₂
 refine wpAny_mono (zmy (L.hA.hd rfl) hEX (L.K.tgt cenv L.hcs) hb F₂ (T.sim.kept k₂ its) R₂) ?_ fun _ _ h => h
 rintro _ s₃ ⟨F₃, S₃, e₃, k₃⟩
 have ow₃ := F₂.ownX hEX
 have hwC : ∀ b ∈ wr, b ∉ XC cenv := fun b hb hm => by
  have off := Off.its F₂ (L.I.seen _ _ _ st₂)
  rcases hEX.only b hm with rfl | ⟨y, hy⟩
  ·exact off.loc hb
  ·exact off.cells y b hy hb
 exact h s₃ F₃ ⟨(T.ext.kept k₂ L.hw0).kept k₃ L.hX0, S₃, F₃.sub (by rw [L.K.n0, <- L.K.n'.1, <- (zj8 hb).1]; exact F₃.len) (L.K.fr0.trans L.K.n'.2.symm) fun y j hy => ⟨(L.K.sub0 y j hy).dn, ((zj8 hb).2 (L.K.sub0 y j hy).out).symm⟩,
  L.I.frame _ _ _ _ _ _ st₂ e₃.toKp ow₃ hwC, (T.acc.keep (k₂.kp its) its.own (T.acc.out its)).keep e₃.toKp ow₃ L.hDX⟩
theorem Turn.mono {φ' : List Addr} {H' : Hp} {s' : Shared} (L : CompL c A d φ₀ s₀ env res res0 res' scope tgt t cenv D it wr items ok St) (T : Turn c cenv res0 loc φ₀ s₀ D wr St i av φ H s) (e : Ext [] φ s φ' s') (S : Sim c φ' H' s') : Turn c cenv res0 loc φ₀ s₀ D wr St i av φ' H' s' :=
 ⟨T.ext.trans e, S, T.fr.mono e, L.I.frame _ _ _ _ _ _ T.st e.toKp OwnX.nil (fun _ _ h => nomatch h), T.acc.keep e.toKp OwnX.nil (fun h => nomatch h)⟩
theorem zq4 (L : CompL c A d φ₀ s₀ env res res0 res' scope tgt t cenv D it wr items ok St) (T : Turn c cenv res0 loc φ₀ s₀ D wr St i av φ H s) {v : V} {r : Value} (R : Rep c φ s.heap v r) (hsz : av.length < sizeLine) {Q : Shared -> Prop} {E : Value -> Shared -> Prop}
  (h : ∀ s', Turn c cenv res0 loc φ₀ s₀ D wr St i (av ++ [v]) φ H s' -> Q s') : wpAny (model c.prog c.w) A (call (.builtin "list.append") [.ref D, r]) (fun _ s' => Q s') E s := by
 have hDw := T.acc.out (L.I.seen _ _ _ T.st)
 obtain ⟨vs, n, ho, hr, hD⟩ := T.acc
 refine wpAny_list_append_plain (l := D) (items := vs) ⟨n, ho⟩ (fun h' hp hs => ?_) (by rw [<- za3, hr.length]; exact zap hsz)
 obtain ⟨kp, ow, S'⟩ := grow T.sim ho hD L.hDh hs
 obtain ⟨n', ho'⟩ := hp
 refine h _ ⟨?_, S', T.fr.off (s' := { s with heap := h' }) kp ow (Off.list T.fr ho) fun o ho1 => ⟨o.slots, (hs.2 _ (fun q => (Off.list T.fr ho).loc (by rw [q]; exact zae))).trans ho1⟩,
  L.I.frame _ _ _ _ _ _ T.st kp ow fun b hb hm => hDw (zai.mp hm ▸ hb), ⟨_, n', ho', ?_, hD⟩⟩
 ·exact T.ext.kept (wr := [D]) ⟨fun b o hb ho => (hs.2 b fun q => hb (by rw [q]; exact zae)).trans ho, rfl, rfl⟩ fun b hb => by rw [zai.mp hb]; exact L.hD0
 ·rw [Array.toList_push]
  exact RepL.append (RepL.mono kp ow hr) (show RepL c φ h' [v] [r] from ⟨Rep.mono kp ow R, rfl⟩)
theorem zoz {iter : Expr} {R : Result -> Shared -> Prop} {pos : Pos} (L : CompL c A d φ₀ s₀ env res res0 res' scope tgt t cenv D it wr items ok St) (helt : zb3 c cenv res' elt xelt) (hifs : zc9 c cenv res' ifs xifs) (hlen : items.length <= sizeLine)
  (T : Turn c cenv res0 loc φ₀ s₀ D wr St 0 [] φ H s) (hok : ok H) (hw : zd0 ok (compStep c d t xifs xelt loc) items [] QQ H)
  (hR : ∀ av φ' H' s', Ext [] φ₀ s₀ φ' s' -> Sim c φ' H' s' -> FSim c cenv res0 none loc φ' s'.heap -> AccAt c φ' s'.heap D av -> av.length <= sizeLine -> QQ av H' -> R (.ok .next) s') :
  codeAny (model c.prog c.w) A (.compLoop (.ListComp elt [⟨tgt, iter, ifs, 0⟩] scope pos) 0 it (.ref D) cenv) R s := by
 refine zjv (CompI c cenv res0 loc φ₀ s₀ D wr St items ok (compStep c d t xifs xelt loc) QQ) ?_ (items.length + 1) ⟨0, [], φ, H, rfl, za0 _, zad _, T, hok, hw⟩
 rintro k s ⟨i, av, φ, H, rfl, hi, hav, T, hok, hw⟩
 by_cases hlt : i < items.length
 ·have hx : items[i]? = some items[i] := zal hlt
  rw [zbx hlt] at hw
  generalize items[i] = x at hx hw
  obtain ⟨l', hb, hw⟩ := Opt.inv (show Opt (zfu t x loc) _ from hw)
  have hm : items.length - (i + 1) + 1 < items.length - i + 1 := by exact Ar.ar1 [_,_] [] 0xd03214a528003081201840a00c2018061004030142100465294001840700c2018061004050840128c2008401 (Y1 (Y0 (Y2 V0 (Y0 V1 J1)) J1) (Y0 (Y2 V0 V1) J1)) (Y1 V1 V0) hlt
  refine wpAny_mono (zq2 L T hx hok hb (Q := fun s₂ => wpAny (model c.prog c.w) A (forIn ifs true fun c r => if r = true then do let ok <- isTrue c cenv (eval c cenv); pure (ForInStep.yield ok) else pure (ForInStep.yield r)) (fun ok' s₃ =>
      if ok' = true then wpAny (model c.prog c.w) A (eval elt cenv) (fun x s₄ =>
       wpAny (model c.prog c.w) A (call (.builtin "list.append") [.ref D, x]) (fun _ s₅ => ∃ m, m < items.length - i + 1 /\ CompI c cenv res0 loc φ₀ s₀ D wr St items ok (compStep c d t xifs xelt loc) QQ m s₅) (fun _ _ => False) s₄) (fun _ _ => False) s₃
      else ∃ m, m < items.length - i + 1 /\ CompI c cenv res0 loc φ₀ s₀ D wr St items ok (compStep c d t xifs xelt loc) QQ m s₃) (fun _ _ => False) s₂) fun s₃ F₃ T₃ => ?_) (fun r _ h => by cases r with | none => exact h.elim | some v => exact h) fun _ _ h => h
  refine wpAny_mono (zmj hifs A true d none l' φ H s₃ _ _ (L.hA.mono T₃.ext) F₃ T₃.sim hw) ?_ fun _ _ h => h
  rintro b s₄ ⟨φ₄, H₄, e₄, S₄, w₄⟩
  have T₄ := T₃.mono L e₄ S₄
  cases b with
  | false => exact ⟨_, hm, ⟨i + 1, av, φ₄, H₄, rfl, hlt, zbc hav, T₄, w₄.1, w₄.2⟩⟩
  | true =>
   refine wpAny_mono (helt A true d none l' φ₄ H₄ s₄ _ _ (L.hA.mono T₄.ext) (F₃.mono e₄) S₄ w₄) ?_ fun _ _ h => OutX.no h
   rintro r s₅ ⟨φ₅, H₅, v₅, e₅, S₅, R₅, w₅⟩
   exact zq4 L (T₄.mono L e₅ S₅) R₅ (za4 hav (zav hlt hlen)) fun s' T' => ⟨_, hm, ⟨i + 1, av ++ [v₅], φ₅, H₅, rfl, hlt, by rw [zan]; exact Nat.succ_le_succ hav, T', w₅.1, w₅.2⟩⟩
 ·obtain rfl : i = items.length := Nat.le_antisymm hi (zbh hlt)
  rw [List.drop_length] at hw
  have its := L.I.seen _ φ s.heap T.st
  refine wpAny_mono (L.I.done φ H s _ T.st T.sim hok) ?_ fun _ _ h => h
  rintro r s₁ ⟨rfl, k₁⟩
  exact hR av φ H s₁ (T.ext.kept k₁ L.hw0) (T.sim.kept k₁ its) (T.fr.kept its k₁) (T.acc.keep (k₁.kp its) its.own (T.acc.out its)) (zac hav hlen) hw
end
end
end Bn
namespace Bn
open PySem PyProof.Rows
section
variable {c : Cx} {env : Env} {res : Res}
structure Gone (c : Cx) (φ : List Addr) (H : Hp) (s : Shared) (C : Addr) (h' : Heap) : Prop where
 kp : Kp [C] φ s.heap φ h'
 ow : OwnX c [C] s.heap
 sim : Sim c φ H { s with heap := h' }
 kept : Kept [C] s { s with heap := h' }
theorem gone {φ : List Addr} {H : Hp} {s : Shared} {C : Addr} {m m' : Str -> Option Value} {h' : Heap} (S : Sim c φ H s) (hn : NsD s.heap C m) (hat : m (Str.ofString "at") = none) (hφ : C ∉ φ) (h0 : c.h0.get? C = none) (hn' : NsD h' C m') (hs : SameD C s.heap h') : Gone c φ H s C h' := by
 obtain ⟨⟨o, es, n, ho, hd, _, hm⟩, o1, ho1, hc1⟩ := hn
 obtain rfl := zaa (ho.symm.trans ho1)
 obtain ⟨⟨o', es', n', ho', hd', _⟩, o1', ho1', hc1'⟩ := hn'
 obtain rfl := zaa (ho'.symm.trans ho1')
 have keep : ∀ b o, b ≠ C -> s.heap.get? b = some o -> h'.get? b = some o := fun b o hb ho => (hs.same.2 b hb).trans ho
 have kp := zkx (φ := φ) keep (fun ob es1 k hb _ => by obtain rfl := zaa (ho.symm.trans hb); exact ⟨o', es', n', ho', hd', hs.dk _ _ ho ho'⟩) (fun ob vs hb hd1 => by obtain rfl := zaa (ho.symm.trans hb); rw [hd] at hd1; cases hd1)
 have ow : OwnX c [C] s.heap := fun b hb ob hob => by
  rw [zai.mp hb] at hob ⊢
  obtain rfl := zaa (ho.symm.trans hob)
  exact .inr (.inr (.inl ⟨hc1, es, n, hd, (hm _).trans hat⟩))
 exact ⟨kp, ow, S.mono (s' := { s with heap := h' }) kp ow (fun b hb => by rw [zai.mp hb]; exact h0) (fun a ha o ho => keep a o (fun q => hφ (q ▸ ha)) ho) (fun b o hb _ => keep b o (fun q => by rw [q, h0] at hb; cases hb) (S.stays b o hb)) S.gens fun b ps hb => keep b _ (fun q => by rw [q, ho] at hb; cases hb; cases hd) hb,
  fun b o hb ho => keep b o (fun q => hb (by rw [q]; exact zae)) ho, rfl, rfl⟩
inductive Made (c : Cx) (φ : List Addr) (s : Shared) (Q : V -> Hp -> Prop) (D C : Addr) (s' : Shared) : Prop
 | mk (φ' : List Addr) (H' : Hp) (a : Nat) (e : Ext [] φ s φ' s') (S : Sim c φ' H' s') (R : Rep c φ' s'.heap (.lst a) (.ref D)) (q : Q (.lst a) H') (hC : C ∉ φ') (m : Str -> Option Value) (hm : NsD s'.heap C m) (hat : m (Str.ofString "at") = none) (C0 : s.heap.get? C = none) (Ch : c.h0.get? C = none) : Made c φ s Q D C s'
theorem zmz {res0 res' : Res} {scope : Scope} {tgt iter elt : Expr} {ifs : List Expr} {t : Tg} {xelt xsrc : Ex} {xifs : List Ex} {pos pos' : Pos} (K : CompOk c env res res0 res' scope tgt t) (hfold : ∀ x, foldedSetIterable iter env x = pure x) (hsrc : zb3 c env res iter xsrc)
  (helt : ∀ cenv : Env, cenv.scope = relabel scope env -> zb3 c cenv res' elt xelt) (hifs : ∀ cenv : Env, cenv.scope = relabel scope env -> zc9 c cenv res' ifs xifs)
  {A q d k loc φ H s Q} {E : XPost} {use : Option (Value -> Sem Unit)} {Q' : Value -> Shared -> Prop} (hA : OkF c A q d φ s.heap) (hF : FSim c env res k loc φ s.heap) (hS : Sim c φ H s) (hw : wpE (Calls c) q d k (.comp xelt t xsrc xifs) loc Q E H)
  (hend : ∀ D C s', Made c φ s Q D C s' -> endD (model c.prog c.w) A (OutX c φ s E) use Q' (.ref D) C (.ok .next) s') :
  wpAny (model c.prog c.w) A (comprehension (.ListComp elt [⟨tgt, iter, ifs, 0⟩] scope pos) scope env pos' (newList []) false (eval iter env) use) Q' (OutX c φ s E) s := by
 have hcells : ∀ n, (n, NameKind.free) ∈ scope.names -> ∃ ca, env.cells.lookup n = some ca := fun n hn => by
  obtain ⟨hk, i, hi⟩ := K.free n hn
  exact (zgr hF hk hi).addr
 refine zhy rfl hfold (zjf hcells) K.kind K.names (wpAny_mono (hsrc A q d k loc φ H s _ E hA hF hS hw) ?_ fun _ _ h => h)
 rintro sv s₁ ⟨φ₁, H₁, v₁, e₁, S₁, R₁, w₁⟩
 obtain ⟨items, hit, hlen, w₂⟩ := Opt.inv w₁
 clear w₁
 obtain ⟨rfl, hitems⟩ := zrn hit
 have hh : A.handled = none := hA.hd rfl
 refine wpAny_mono (zlz hh S₁ R₁ hitems (tg := tgt)) ?_ fun _ _ h => h
 rintro it s₂ ⟨wr, St, e₂, S₂, I, st₂, hw₂⟩
 have e₁₂ := e₁.trans e₂
 refine wpAny_newObj_type ?_ (by size_fits)
 refine znz ?_
 dsimp only
 generalize hs₃ : ({ s₂ with heap := s₂.heap.push { cls := .type "list", dict := none, data := .seq ([] : List Value).toArray } } : Shared) = s₃
 have hh₃ : s₃.heap = s₂.heap.push { cls := .type "list", dict := none, data := .seq ([] : List Value).toArray } := by rw [<- hs₃]
 have keep₄ : ∀ b o, s₃.heap.get? b = some o -> (pushCells (s₃.heap.push { cls := .type "dict", data := .dict #[] }) scope.names).get? b = some o := fun b o hb => pushCells_keeps _ _ _ _ (Heap.get?_push_of_some _ hb)
 have hz₅ : (s₃.heap.push { cls := .type "dict", data := .dict #[] }).objs.size = s₃.heap.objs.size + 1 := Heap.size_push ..
 generalize hs₄ : ({ s₃ with heap := pushCells (s₃.heap.push { cls := .type "dict", data := .dict #[] }) scope.names } : Shared) = s₄
 have hz₃ : s₃.heap.objs.size = s₂.heap.objs.size + 1 := by rw [hh₃, Heap.size_push]
 have e₃ : Ext [] φ₁ s₂ φ₁ s₃ := by rw [<- hs₃]; exact Ext.push
 have S₃ : Sim c φ₁ H₁ s₃ := by rw [<- hs₃]; exact S₂.push _
 have e₄ : Ext [] φ₁ s₃ φ₁ s₄ := by rw [<- hs₄]; exact Ext.of_keeps keep₄ rfl
 have S₄ : Sim c φ₁ H₁ s₄ := by rw [<- hs₄]; exact S₃.keeps (s' := { s₃ with heap := _ }) keep₄ rfl
 have hD₃ : s₃.heap.get? s₂.heap.objs.size = some (lobj #[] 0) := by rw [hh₃]; exact Heap.get?_push_size _ rfl
 have hD₄ : s₄.heap.get? s₂.heap.objs.size = some (lobj #[] 0) := by rw [<- hs₄]; exact keep₄ _ _ hD₃
 have hC₅ : (s₃.heap.push { cls := .type "dict", data := .dict #[] }).get? s₃.heap.objs.size = some { cls := .type "dict", data := .dict #[] } := Heap.get?_push_size _ rfl
 have e₀₄ : Ext [] φ s φ₁ s₄ := (e₁₂.trans e₃).trans e₄
 have hD0 : s.heap.get? s₂.heap.objs.size = none := e₁₂.fresh S₂ (Heap.get?_none_of_le (zad _))
 have hC0 : s.heap.get? s₃.heap.objs.size = none := (e₁₂.trans e₃).fresh S₃ (Heap.get?_none_of_le (zad _))
 have hw0 : ∀ b ∈ wr, s.heap.get? b = none := fun b hb => e₁.fresh S₁ (hw₂ b hb)
 have hDC : s₂.heap.objs.size ≠ s₃.heap.objs.size := by rw [hz₃]; exact zao (zbq _)
 have hDh := S₂.h0_new (zad s₂.heap.objs.size)
 have hCh := S₃.h0_new (zad s₃.heap.objs.size)
 have hDφ : s₂.heap.objs.size ∉ φ₁ := S₂.new
 have hCφ : s₃.heap.objs.size ∉ φ₁ := S₃.new
 have hnew : ∀ b, s₃.heap.objs.size <= b -> b ∉ φ₁ /\ c.h0.get? b = none := fun b hb => ⟨fun hm => Nat.not_lt.mpr hb (S₃.lt hm), S₃.h0_new hb⟩
 have F₃ := hF.mono e₀₄
 rw [<- hs₄] at F₃
 have F₄ := zoc K hz₅ F₃ hC₅ hnew
 have EX := comp_env K hz₅ (hF.mono (e₁₂.trans e₃)) (fun b o hb => Heap.lt_size hb)
 have hX0 : ∀ b ∈ XC (compEnvC scope (cellsFrom (s₃.heap.objs.size + 1) scope.names (zdr env scope.names [])) s₃.heap.objs.size env), s.heap.get? b = none := fun b hb =>
  (e₁₂.trans e₃).fresh S₃ (Heap.get?_none_of_le ((zrp hb).elim (fun h => za8 h.symm) fun h => zap h.2))
 have hDX : s₂.heap.objs.size ∉ XC (compEnvC scope (cellsFrom (s₃.heap.objs.size + 1) scope.names (zdr env scope.names [])) s₃.heap.objs.size env) := fun h => by
  have hlt : s₂.heap.objs.size < s₃.heap.objs.size := by rw [hz₃]; exact zbq _
  exact (zrp h).elim (fun h => zao hlt h) fun h => Nat.lt_asymm hlt h.2
 have st₄ := I.frame _ _ _ _ _ _ (I.frame _ _ _ _ _ _ st₂ e₃.toKp OwnX.nil fun _ _ h => nomatch h) e₄.toKp OwnX.nil fun _ _ h => nomatch h
 have hok : okV v₁ items H₁ := by
  cases v₁ with
  | lst a => exact hitems
  | _ => trivial
 have loop : codeAny (model c.prog c.w) A (.compLoop (.ListComp elt [⟨tgt, iter, ifs, 0⟩] scope pos) 0 it (.ref s₂.heap.objs.size) (compEnvC scope (cellsFrom (s₃.heap.objs.size + 1) scope.names (zdr env scope.names [])) s₃.heap.objs.size env))
   (endD (model c.prog c.w) A (OutX c φ s E) use Q' (.ref s₂.heap.objs.size) s₃.heap.objs.size) s₄ := by
  refine zoz (c := c) (env := env) (res := res) (loc := loc) (QQ := fun acc H' => Q (.lst H'.length) (H' ++ [acc])) ⟨hA, K, rfl, I, EX, hX0, hD0, hw0, hDX, hDh⟩ (helt _ rfl) (hifs _ rfl) hlen
   ⟨e₀₄, S₄, hs₄ ▸ F₄, st₄, ⟨#[], 0, hD₄, rL, hDφ⟩⟩ hok w₂ ?_
  intro av φ' H' s' e' S' F' hacc hav hq
  obtain ⟨vs, n, ho, hr, hD'⟩ := hacc
  obtain ⟨m, ⟨hn, o, h1, h2⟩, _, _⟩ := F'.ns
  have h2' : o.cls = .type "dict" /\ m (Str.ofString "at") = none := by
   rcases h2 with h2 | h2
   ·rw [K.fr0] at h2; cases h2.2
   ·exact ⟨h2.1, h2.2.1⟩
  refine hend _ _ s' ⟨φ' ++ [s₂.heap.objs.size], H' ++ [av], H'.length, ?_, S'.adopt hD' hDh ho rfl rfl ⟨rfl, rfl⟩ hr hav, LstAt.mk _ rfl (by rw [zbk (za8 S'.len)]; simp [S'.len]), hq, fun hm => ?_, m, ⟨hn, o, h1, h2'.1⟩, h2'.2, hC0, hCh⟩
  ·exact { e' with
    pre := e'.pre.trans (List.prefix_append _ _)
    new := fun a ha => (zaq.mp ha).elim (e'.new a) fun h => .inr (by rw [zai.mp h]; exact hD0) }
  ·rcases zaq.mp hm with h | h
   ·exact F'.Lφ h
   ·exact hDC (zai.mp h).symm
 subst hs₄
 subst hs₃
 exact codeAny_compStart_list loop (I.self 0 φ₁ _ _ _ st₄ loop)
theorem zng {res0 res' : Res} {scope : Scope} {tgt iter elt : Expr} {ifs : List Expr} {t : Tg} {xelt xsrc : Ex} {xifs : List Ex} {pos : Pos} (K : CompOk c env res res0 res' scope tgt t) (hfold : ∀ x, foldedSetIterable iter env x = pure x) (hsrc : zb3 c env res iter xsrc)
  (helt : ∀ cenv : Env, cenv.scope = relabel scope env -> zb3 c cenv res' elt xelt) (hifs : ∀ cenv : Env, cenv.scope = relabel scope env -> zc9 c cenv res' ifs xifs) :
  zb3 c env res (.ListComp elt [⟨tgt, iter, ifs, 0⟩] scope pos) (.comp xelt t xsrc xifs) := fun A q d k loc φ H s Q E hA hF hS hw => by
 rw [eval_ListComp]
 refine zmz K hfold hsrc helt hifs hA hF hS hw ?_
 rintro D C s' ⟨φ', H', a, e, S, R, hq, hC, m, hm, hat, hC0, hCh⟩
 refine ⟨m, hm, fun h' m' hn' hs' => ?_⟩
 have g := gone S hm hat hC hCh hn' hs'
 exact ⟨φ', H', .lst a, e.kept g.kept fun b hb => by rw [zai.mp hb]; exact hC0, g.sim, Rep.mono g.kp g.ow R, hq⟩
end
end Bn
namespace Bn
open PySem PyProof.Rows
structure NStep (c : Cx) (xs : List Addr) (s s' : Shared) : Prop where
 keep : ∀ b o, b ∉ xs -> s.heap.get? b = some o -> o.cls ≠ .type "frame" -> s'.heap.get? b = some o
 slot : ∀ b o, b ∉ xs -> s.heap.get? b = some o -> ∃ sl, s'.heap.get? b = some { o with slots := sl }
 base : ∀ b o, c.h0.get? b = some o -> s.heap.get? b = some o -> s'.heap.get? b = some o
 exc : ∀ b o, b ∈ xs -> s.heap.get? b = some o -> ∃ vs, s'.heap.get? b = some { o with data := .fields vs }
 gens : s'.gens = s.gens
 os : s'.os = s.os
noncomputable def Excs (c : Cx) (xs φ : List Addr) (h : Heap) : Prop := ∀ b ∈ xs, b ∉ φ /\ c.h0.get? b = none /\ ∃ o vs, h.get? b = some o /\ o.data = .fields vs /\ ((∃ C, o.cls = .ref C) \/ o.cls = .type "traceback")
section
variable {c : Cx} {xs φ : List Addr} {H : Hp} {s s' s₁ : Shared}
theorem NStep.trans (a : NStep c xs s s₁) (b : NStep c xs s₁ s') : NStep c xs s s' where
 keep x o hx ho hc := b.keep x o hx (a.keep x o hx ho hc) hc
 slot x o hx ho := by
  obtain ⟨sl, h1⟩ := a.slot x o hx ho
  obtain ⟨sl', h2⟩ := b.slot x _ hx h1
  exact ⟨sl', h2⟩
 base x o h0 ho := b.base x o h0 (a.base x o h0 ho)
 exc x o hx ho := by
  obtain ⟨vs, h1⟩ := a.exc x o hx ho
  obtain ⟨vs', h2⟩ := b.exc x _ hx h1
  exact ⟨vs', h2⟩
 gens := b.gens.trans a.gens
 os := b.os.trans a.os
theorem NStep.refl (hx : Excs c xs φ s.heap) : NStep c xs s s where
 keep _ _ _ h _ := h
 slot _ o _ h := ⟨o.slots, h⟩
 base _ _ _ h := h
 exc b o hb ho := by
  obtain ⟨_, _, o', vs, h1, h2, _⟩ := hx b hb
  rw [ho] at h1; cases h1
  exact ⟨vs, by rw [<- h2]; exact ho⟩
 gens := rfl
 os := rfl
theorem NStep.kp (n : NStep c xs s s') (hx : Excs c xs φ s.heap) : Kp xs φ s.heap φ s'.heap where
 pre := List.prefix_rfl
 keep b o hb _ hX hc := n.keep b o hX hb (fix_no hc)
 new _ h := .inl h
 dict b o es k hb _ hd := by
  have hn : b ∉ xs := fun hm => by
   obtain ⟨_, _, o', vs, h1, h2, _⟩ := hx b hm
   rw [hb] at h1; cases h1; rw [hd] at h2; cases h2
  obtain ⟨sl, h1⟩ := n.slot b o hn hb
  exact ⟨_, es, k, h1, hd, .same rfl rfl⟩
 exc b o vs C hb _ hc hd := by
  by_cases hm : b ∈ xs
  ·exact n.exc b o hm hb
  ·exact ⟨vs, by rw [<- hd]; exact n.keep b o hm hb (by rw [hc]; intro q; cases q)⟩
theorem Excs.own (hx : Excs c xs φ s.heap) : OwnX c xs s.heap := fun b hb o ho => by
 obtain ⟨_, _, o', vs, h1, _, h3⟩ := hx b hb
 rw [ho] at h1; cases h1
 rcases h3 with h3 | h3
 ·exact .inr (.inr (.inr h3))
 ·exact .inl (by rw [h3]; decide)
theorem Sim.noted (S : Sim c φ H s) (n : NStep c xs s s') (hx : Excs c xs φ s.heap) : Sim c φ H s' :=
 S.mono (n.kp hx) hx.own (fun b hb => (hx b hb).2.1) (fun a ha o ho => by
  obtain ⟨o', h1, h2⟩ := S.isList ha
  rw [ho] at h1; cases h1
  exact n.keep a o (fun hm => (hx a hm).1 ha) ho (by rw [h2]; decide)) (fun b o hb _ => n.base b o hb (S.stays b o hb)) (n.gens.trans S.gens) fun b ps hb => n.keep b _ (fun hm => by obtain ⟨_, _, o1, vs, h1, _, h3⟩ := hx b hm; rw [hb] at h1; cases h1; exact h3.elim (fun ⟨_, q⟩ => nomatch q) fun q => nomatch q) hb (fun q => nomatch q)
theorem Off.excs {env : Env} {res : Res} {k : Clo} {loc : Loc} (F : FSim c env res k loc φ s.heap) (h : Excs c xs φ s.heap) : Off env xs s where
 loc hm := by
  obtain ⟨_, _, o, vs, h1, h2, _⟩ := h _ hm
  obtain ⟨m, ⟨⟨o', es, n, h3, h4, _⟩, _⟩, _⟩ := F.ns
  rw [h1] at h3; cases h3
  rw [h2] at h4; cases h4
 cells x ca hx hm := by
  obtain ⟨_, _, o, vs, h1, h2, h5⟩ := h _ hm
  obtain ⟨_, _, o', h3, h4⟩ := F.cells x ca hx
  rw [h1] at h3; cases h3
  rcases h5 with ⟨C, h5⟩ | h5
  ·rw [h4] at h5; cases h5
  ·rw [h4] at h5; exact absurd h5 (by decide)
 clo ca o ho hc _ hm := by
  obtain ⟨_, _, o', vs, h1, h2, h5⟩ := h _ hm
  rw [ho] at h1; cases h1
  rcases h5 with ⟨C, h5⟩ | h5
  ·rw [hc] at h5; cases h5
  ·rw [hc] at h5; exact absurd h5 (by decide)
theorem FSim.noted {env : Env} {res : Res} {k : Clo} {loc : Loc} (F : FSim c env res k loc φ s.heap) (n : NStep c xs s s') (hx : Excs c xs φ s.heap) : FSim c env res k loc φ s'.heap :=
 F.off (n.kp hx) hx.own (Off.excs F hx) fun o ho => n.slot _ o (Off.excs F hx).loc ho
theorem Ext.noted {X φ₀ : List Addr} {s₀ : Shared} (e : Ext X φ₀ s₀ φ s) (n : NStep c xs s s') (hn : ∀ b ∈ xs, s₀.heap.get? b = none) : Ext X φ₀ s₀ φ s' where
 pre := e.pre
 keep b o hb hφ hX hc := n.keep b o (fun q => by rw [hn b q] at hb; cases hb) (e.keep b o hb hφ hX hc) (fix_no hc)
 new := e.new
 tabs b o hb hφ hX hc :=
  let ⟨o', h', c'⟩ := e.tabs b o hb hφ hX hc
  ⟨o', n.keep b o' (fun q => by rw [hn b q] at hb; cases hb) h' (by rw [c']; decide), c'⟩
 frame b o hb hφ hX hc := by
  obtain ⟨sl, h₁⟩ := e.frame b o hb hφ hX hc
  obtain ⟨sl', h₂⟩ := n.slot b _ (fun q => by rw [hn b q] at hb; cases hb) h₁
  exact ⟨sl', h₂⟩
 dict b o es k hb hφ hd := by
  obtain ⟨o₁, es₁, n₁, h₁, d₁, c₁⟩ := e.dict b o es k hb hφ hd
  obtain ⟨sl', h₂⟩ := n.slot b _ (fun q => by rw [hn b q] at hb; cases hb) h₁
  exact ⟨_, es₁, n₁, h₂, d₁, DKo.trans (o₁ := o₁) (DKo.same rfl rfl) c₁ d₁⟩
 exc b o vs C hb hφ hc hd := by
  obtain ⟨vs₁, h₁⟩ := e.exc b o vs C hb hφ hc hd
  exact ⟨vs₁, n.keep b _ (fun q => by rw [hn b q] at hb; cases hb) h₁ (by show o.cls ≠ _; rw [hc]; intro q; cases q)⟩
 alive b o hb hX := by
  obtain ⟨o', h'⟩ := e.alive b o hb hX
  obtain ⟨sl', h₂⟩ := n.slot b _ (fun q => by rw [hn b q] at hb; cases hb) h'
  exact ⟨_, h₂⟩
 os := n.os.trans e.os
end
noncomputable def HasT (h : Heap) (e : Value) : Prop := ∃ a o vs T, e = .ref a /\ h.get? a = some o /\ o.data = .fields vs /\ vs[1]? = some (.ref T)
theorem XRep.excs {c : Cx} {φ : List Addr} {s₀ : Shared} {h : Heap} {x : V} {e : Value} (q : XRep c φ s₀ h x e) : ∃ a o vs, e = .ref a /\ h.get? a = some o /\ o.data = .fields vs /\ 1 < vs.size /\ (∃ C, o.cls = .ref C) /\
  ((vs[1]? = some .none /\ Excs c [a] φ h /\ ∀ b ∈ [a], s₀.heap.get? b = none) \/
   ∃ T oT ts, vs[1]? = some (.ref T) /\ T ≠ a /\ h.get? T = some oT /\ oT.data = .fields ts /\ 3 < ts.size /\ oT.cls = .type "traceback" /\ Excs c [a, T] φ h /\ ∀ b ∈ [a, T], s₀.heap.get? b = none) := by
 obtain ⟨h1, ⟨cn, y, rfl⟩, a, o, vs, rfl, h4, h5, h6, h7⟩ := q
 simp only [Rep] at h1
 obtain ⟨a', o', vs', h8, h9, h10, h11, h12, h13, h14, _⟩ := h1
 cases h8
 rw [h5] at h11; cases h11
 rw [h6] at h14; cases h14
 refine ⟨a, o, vs, rfl, h5, h6, ?_, h12, ?_⟩
 ·rcases h7 with h7 | ⟨T, _, _, h7, _⟩ <;> exact (Array.getElem?_eq_some_iff.mp h7).1
 ·rcases h7 with h7 | ⟨T, oT, ts, g1, g2, g3, g4, g5, g6, g7, g8⟩
  ·refine .inl ⟨h7, fun b hb => ?_, by simpa using h4⟩
   rw [zai.mp hb]
   exact ⟨h9, h10, o, vs, h5, h6, .inl h12⟩
  ·have hne : T ≠ a := fun q => by
    rw [q, h5] at g5; cases g5
    obtain ⟨C, h12⟩ := h12
    rw [h12] at g6; cases g6
   refine .inr ⟨T, oT, ts, g1, hne, g5, g7, g8, g6, fun b hb => ?_, fun b hb => ?_⟩
   ·simp only [zak, za5, or_false] at hb
    rcases hb with rfl | rfl
    ·exact ⟨h9, h10, o, vs, h5, h6, .inl h12⟩
    ·exact ⟨g3, g4, oT, ts, g5, g7, .inr g6⟩
   ·simp only [zak, za5, or_false] at hb
    rcases hb with rfl | rfl
    ·exact h4
    ·exact g2
end Bn
namespace Bn
open PySem PyProof.Rows
section
variable {c : Cx} {xs φ : List Addr} {H : Hp} {s s' : Shared}
theorem zjn {o : Obj} {vs : Array Value} (h : o.data = .fields vs) (f : Array Value -> Array Value) : Obj.mapFields f o = { o with data := .fields (f vs) } := by
 obtain ⟨a, b, d, e⟩ := o
 cases h
 rfl
theorem NStep.upd (hx : Excs c xs φ s.heap) {b : Addr} {o : Obj} {vs : Array Value} (hb : b ∈ xs) (ho : s.heap.get? b = some o) (hd : o.data = .fields vs) (f : Array Value -> Array Value) :
  NStep c xs s { s with heap := s.heap.update b (Obj.mapFields f) } /\ (s.heap.update b (Obj.mapFields f)).get? b = some { o with data := .fields (f vs) } := by
 have self : (s.heap.update b (Obj.mapFields f)).get? b = some { o with data := .fields (f vs) } := by
  rw [Heap.get?_update_self _ ho (Obj.isFreed_of_fields (Obj.data_mapFields hd f)), zjn hd]
 refine ⟨⟨fun a oa ha hoa _ => ?_, fun a oa ha hoa => ⟨oa.slots, ?_⟩, fun a oa h0 hoa => ?_, fun a oa ha hoa => ?_, rfl, rfl⟩, self⟩
 ·exact (Heap.get?_update_other _ _ (fun (q : b = a) => ha (q ▸ hb))).trans hoa
 ·exact (Heap.get?_update_other _ _ (fun (q : b = a) => ha (q ▸ hb))).trans hoa
 ·exact (Heap.get?_update_other _ _ (fun q => by rw [<- q, (hx b hb).2.1] at h0; cases h0)).trans hoa
 ·by_cases q : a = b
  ·subst q
   rw [ho] at hoa; cases hoa
   exact ⟨_, self⟩
  ·obtain ⟨_, _, o', vs', h1, h2, _⟩ := hx a ha
   rw [hoa] at h1; cases h1
   exact ⟨vs', by rw [<- h2]; exact (Heap.get?_update_other _ _ (Ne.symm q)).trans hoa⟩
theorem NStep.push (hx : Excs c xs φ s.heap) (o : Obj) : NStep c xs s { s with heap := s.heap.push o } where
 keep _ _ _ h _ := Heap.get?_push_of_some _ h
 slot _ o' _ h := ⟨o'.slots, Heap.get?_push_of_some _ h⟩
 base _ _ _ h := Heap.get?_push_of_some _ h
 exc b o' hb ho := by
  obtain ⟨_, _, o1, vs, h1, h2, _⟩ := hx b hb
  rw [ho] at h1; cases h1
  exact ⟨vs, by rw [<- h2]; exact Heap.get?_push_of_some _ ho⟩
 gens := rfl
 os := rfl
theorem zod {l : List Env} {h : Heap} (hE : ∀ env ∈ l, EnvOk c φ h env) : h.FunFrames c.h0 l := by
 induction l with
 | nil => trivial
 | cons env l ih =>
  obtain ⟨h1, L, o, es, n, h2, h3, h4, h5, h6, h7⟩ := hE env zae
  exact ⟨h1.1, ⟨L, o, h2, h3, h5, fun vs q => by rw [h6] at q; cases q⟩, ih fun env he => hE env (zaj _ he)⟩
theorem zes {l : List Env} {h : Heap} (hE : ∀ env ∈ l, EnvOk c φ h env) {b : Addr} (hb : b ∈ l.filterMap (·.frame)) : c.h0.get? b = none /\ ∃ o es n, h.get? b = some o /\ o.cls = .type "frame" /\ o.data = .dict es n := by
 obtain ⟨env, he, hf⟩ := List.mem_filterMap.mp hb
 obtain ⟨h1, L, o, es, n, h2, h3, h4, h5, h6, h7⟩ := hE env he
 rw [hf] at h2; cases h2
 exact ⟨h3, o, es, n, h5, h7, h6⟩
theorem NStep.slots {l : List Env} {h' : Heap} (hx : Excs c xs φ s.heap) (hE : ∀ env ∈ l, EnvOk c φ s.heap env) (hs : Heap.SlotsOnly (l.filterMap (·.frame)) s.heap h') : NStep c xs s { s with heap := h' } where
 keep b o _ ho hc := by
  refine (hs.2.1 b fun hm => ?_).trans ho
  obtain ⟨_, o', _, _, h1, h2, _⟩ := zes hE hm
  rw [ho] at h1; cases h1; exact hc h2
 slot b o _ ho := hs.2.2 b o ho
 base b o h0 ho := (hs.2.1 b fun hm => by rw [(zes hE hm).1] at h0; cases h0).trans ho
 exc b o hb ho := by
  obtain ⟨_, _, o1, vs, h1, h2, _⟩ := hx b hb
  rw [ho] at h1; cases h1
  refine ⟨vs, ?_⟩
  rw [<- h2]
  refine (hs.2.1 b fun hm => ?_).trans ho
  obtain ⟨_, o', es, n, h3, _, h5⟩ := zes hE hm
  rw [ho] at h3; cases h3; rw [h2] at h5; cases h5
 gens := rfl
 os := rfl
theorem Excs.noted (hx : Excs c xs φ s.heap) (n : NStep c xs s s') : Excs c xs φ s'.heap := fun b hb => by
 obtain ⟨h1, h2, o, vs, h3, h4, h5⟩ := hx b hb
 obtain ⟨vs', h6⟩ := n.exc b o hb h3
 exact ⟨h1, h2, _, vs', h6, rfl, h5⟩
theorem EnvOk.noted {env : Env} (h : EnvOk c φ s.heap env) (n : NStep c xs s s') (hx : Excs c xs φ s.heap) : EnvOk c φ s'.heap env := by
 obtain ⟨h1, L, o, es, k, h2, h3, h4, h5, h6, h7⟩ := h
 obtain ⟨sl, h8⟩ := n.slot L o (fun hm => by
  obtain ⟨_, _, o', vs, h1, h2, _⟩ := hx L hm
  rw [h5] at h1; cases h1; rw [h6] at h2; cases h2) h5
 exact ⟨h1, L, _, es, k, h2, h3, h4, h8, h6, h7⟩
theorem zks {A : Around} {env : Env} {outer : List Env} {L a : Addr} {o : Obj} {vs : Array Value} {head : Value} {b : Bool} {E : Value -> Shared -> Prop} (hfr : A.frames = some (env :: outer)) (hE : ∀ e ∈ env :: outer, EnvOk c φ s.heap e) (hf : env.frame = some L)
  (hx : Excs c xs φ s.heap) (ha : a ∈ xs) (ho : s.heap.get? a = some o) (hd : o.data = .fields vs) (hz : 1 < vs.size) :
  wpAny (model c.prog c.w) A (do let fr <- frameOf env; let pl <- entryPlaceOf L b; let t <- EntryCells.newEntry head fr .none (rawInt L) .none pl; setField (.ref a) 1 t)
   (fun _ s' => NStep c xs s s' /\ ∃ T oT ts vs', s'.heap.get? a = some { o with data := .fields vs' } /\ vs'[1]? = some (.ref T) /\ s.heap.objs.size <= T /\ s'.heap.get? T = some oT /\ oT.cls = .type "traceback" /\ oT.data = .fields ts /\ 3 < ts.size) E s := by
 refine wpAny_bind (wpAny_frameOf_fun hfr (zod hE) hf fun h₁ hs₁ => ?_)
 refine wpAny_bind (wpAny_entryPlaceOf fun pl hpl => ?_)
 have n₁ := NStep.slots hx hE hs₁
 obtain ⟨vs₁, ho₁⟩ := n₁.exc a o ha ho
 have hv : vs₁ = vs := by
  have : h₁.get? a = some o := by
   refine (hs₁.2.1 a fun hm => ?_).trans ho
   obtain ⟨_, o', es, n, h3, _, h5⟩ := zes hE hm
   rw [ho] at h3; cases h3; rw [hd] at h5; cases h5
  have h2 := zaa (this.symm.trans ho₁)
  rw [h2] at hd
  simpa using hd
 subst hv
 unfold EntryCells.newEntry newFields
 refine wpAny_bind (wpAny_newObj_type ?_ (hpl.sizeOk5 _ _ _ _ _))
 generalize hent : ({ cls := .type "traceback", dict := none, data := .fields ([head, .ref L, .none, rawInt L, .none] ++ (if pl.isEmpty then List.replicate 6 Value.none else pl)).toArray } : Obj) = ent
 have n₂ := NStep.push (s := { s with heap := h₁ }) (hx.noted n₁) ent
 have ho₂ : (h₁.push ent).get? a = some { o with data := .fields vs₁ } := Heap.get?_push_of_some _ ho₁
 have hx₂ : Excs c xs φ (h₁.push ent) := (hx.noted n₁).noted n₂
 obtain ⟨n₃, ho₃⟩ := NStep.upd (s := { s with heap := h₁.push ent }) hx₂ ha ho₂ rfl (·.setIfInBounds 1 (Value.ref h₁.objs.size))
 refine wpAny_setField ho₂ rfl hz ?_
 refine ⟨(n₁.trans n₂).trans n₃, h₁.objs.size, ent, _, _, ho₃, by simp [hz], ?_, ?_, by rw [<- hent], by rw [<- hent], ?_⟩
 ·rw [hs₁.1]; exact zad _
 ·refine (Heap.get?_update_other _ _ (zao (Heap.lt_size ho₁))).trans (Heap.get?_push_size _ ?_)
  rw [<- hent]; rfl
 ·simp only [List.size_toArray, zan, zbg, List.length_nil] <;> exact Ar.ar0 [_] [] 171801870336 (Y1 (.l 3) (Y0 (.l 5) V0))
theorem zf5 {A : Around} {env : Env} {outer : List Env} {x : V} {e : Value} {s₀ : Shared} {X φ₀ : List Addr} {E : Value -> Shared -> Prop} (hfr : A.frames = some (env :: outer)) (hE : ∀ e ∈ env :: outer, EnvOk c φ s.heap e) (S : Sim c φ H s) (e₀ : Ext X φ₀ s₀ φ s) (q : XRep c φ s₀ s.heap x e) :
  wpAny (model c.prog c.w) A (noteFrame e env) (fun _ s' => ∃ xs, Excs c xs φ s.heap /\ (∀ b ∈ xs, s₀.heap.get? b = none) /\ NStep c xs s s' /\ XRep c φ s₀ s'.heap x e /\ HasT s'.heap e) E s := by
 obtain ⟨_, L, oL, esL, nL, hf, hL0, hLφ, hoL, hdL, hcL⟩ := hE env zae
 obtain ⟨a, o, vs, rfl, ho, hd, hz, hC, h7⟩ := q.excs
 obtain ⟨q1, q2, _⟩ := q
 have fresh : ∀ T, s.heap.objs.size <= T -> s₀.heap.get? T = none /\ T ∉ φ /\ c.h0.get? T = none := fun T hT =>
  ⟨e₀.fresh S (Heap.get?_none_of_le hT), fun hm => za2 _ (zav (S.lt hm) hT), S.h0_new hT⟩
 unfold noteFrame
 simp only [hf]
 rcases h7 with ⟨h1, hx, hn⟩ | ⟨T, oT, ts, h1, hTa, hoT, hdT, hzT, hcT, hx, hn⟩
 ·refine wpAny_bind (wpAny_field ho hd h1 ?_)
  rw [if_neg (by decide)]
  refine wpAny_mono (zks hfr hE hf hx (by simp) ho hd hz) ?_ fun _ _ h => h
  rintro _ s' ⟨n, T, oT, ts, vs', g1, g2, g3, g4, g5, g6, g7⟩
  obtain ⟨f1, f2, f3⟩ := fresh T g3
  exact ⟨[a], hx, hn, n, ⟨Rep.mono (n.kp hx) hx.own q1, q2, a, _, vs', rfl, hn a (by simp), g1, rfl, .inr ⟨T, oT, ts, g2, f1, f2, f3, g4, g5, g6, g7⟩⟩, a, _, vs', T, rfl, g1, rfl, g2⟩
 ·refine wpAny_bind (wpAny_field ho hd h1 ?_)
  rw [if_pos (show (Value.ref T != Value.none) = true from by simp)]
  have h3 : ts[3]? = some ts[3] := zbt hzT
  refine wpAny_bind (wpAny_field hoT hdT h3 ?_)
  by_cases hsame : (ts[3] == rawInt L) = true
  ·rw [if_pos hsame]
   exact wpAny_pure ⟨[a, T], hx, hn, NStep.refl hx, ⟨q1, q2, a, o, vs, rfl, hn a (by simp), ho, hd, .inr ⟨T, oT, ts, h1, hn T (by simp), (hx T (by simp)).1, (hx T (by simp)).2.1, hoT, hcT, hdT, hzT⟩⟩, a, o, vs, T, rfl, ho, hd, h1⟩
  ·rw [if_neg hsame]
   obtain ⟨n₁, hoT₁⟩ := NStep.upd hx (b := T) (by simp) hoT hdT (·.setIfInBounds 3 Value.none)
   refine wpAny_bind (wpAny_setField hoT hdT hzT ?_)
   have ho₁ : (s.heap.update T (Obj.mapFields (·.setIfInBounds 3 Value.none))).get? a = some o := (Heap.get?_update_other _ _ hTa).trans ho
   refine wpAny_mono (zks (s := { s with heap := s.heap.update T (Obj.mapFields (·.setIfInBounds 3 Value.none)) }) hfr (fun e he => (hE e he).noted n₁ hx) hf (hx.noted n₁) (by simp) ho₁ hd hz) ?_ fun _ _ h => h
   rintro _ s' ⟨n, T', oT', ts', vs', g1, g2, g3, g4, g5, g6, g7⟩
   have hsz : s.heap.objs.size <= T' := by
    have : (s.heap.update T (Obj.mapFields (·.setIfInBounds 3 Value.none))).objs.size = s.heap.objs.size := (Heap.SameBut.update s.heap T _).1
    exact this ▸ g3
   obtain ⟨f1, f2, f3⟩ := fresh T' hsz
   have nn := n₁.trans n
   exact ⟨[a, T], hx, hn, nn, ⟨Rep.mono (nn.kp hx) hx.own q1, q2, a, _, vs', rfl, hn a (by simp), g1, rfl, .inr ⟨T', oT', ts', g2, f1, f2, f3, g4, g5, g6, g7⟩⟩, a, _, vs', T', rfl, g1, rfl, g2⟩
theorem zeo {A : Around} {x : V} {e : Value} {s₀ : Shared} {fl : Option Addr} {E : Value -> Shared -> Prop} (q : XRep c φ s₀ s.heap x e) (ht : HasT s.heap e) :
  wpAny (model c.prog c.w) A (setFlight e fl) (fun _ s' => ∃ xs, Excs c xs φ s.heap /\ (∀ b ∈ xs, s₀.heap.get? b = none) /\ NStep c xs s s' /\ XRep c φ s₀ s'.heap x e /\ HasT s'.heap e) E s := by
 obtain ⟨a, o, vs, rfl, ho, hd, hz, hC, h7⟩ := q.excs
 obtain ⟨q1, q2, _⟩ := q
 obtain ⟨a', o', vs', T', h8, h9, h10, h11⟩ := ht
 cases h8
 rw [ho] at h9; cases h9
 rw [hd] at h10; cases h10
 rcases h7 with ⟨h1, _⟩ | ⟨T, oT, ts, h1, hTa, hoT, hdT, hzT, hcT, hx, hn⟩
 ·rw [h1] at h11; cases h11
 ·unfold setFlight
  refine wpAny_bind (wpAny_field ho hd h1 ?_)
  rw [if_pos (show (Value.ref T != Value.none) = true from by simp)]
  refine wpAny_setField hoT hdT hzT ?_
  obtain ⟨n₁, hoT₁⟩ := NStep.upd hx (b := T) (by simp) hoT hdT (·.setIfInBounds 3 (fl.elim Value.none fun f => rawInt f))
  have ho₁ : (s.heap.update T (Obj.mapFields (·.setIfInBounds 3 (fl.elim Value.none fun f => rawInt f)))).get? a = some o := (Heap.get?_update_other _ _ hTa).trans ho
  exact ⟨[a, T], hx, hn, n₁, ⟨Rep.mono (n₁.kp hx) hx.own q1, q2, a, o, vs, rfl, hn a (by simp), ho₁, hd, .inr ⟨T, _, _, h1, hn T (by simp), (hx T (by simp)).1, (hx T (by simp)).2.1, hoT₁, hcT, rfl, by simpa using hzT⟩⟩, a, o, vs, T, rfl, ho₁, hd, h1⟩
end
end Bn
namespace Bn
open PySem PyProof.Rows
inductive RetI (c : Cx) (φ : List Addr) (h : Heap) (r : Value) (P : V -> Prop) : Prop
 | mk (v : V) (R : Rep c φ h v r) (q : P v) : RetI c φ h r P
noncomputable def FlowQ (c : Cx) (φ : List Addr) (h : Heap) (f : Flow) (P : Fl -> Prop) : Prop := match f with
 | .next => P .next
 | .ret r => RetI c φ h r fun v => P (.ret v)
 | _ => False
inductive OutS (c : Cx) (env : Env) (res : Res) (k : Clo) (φ : List Addr) (s : Shared) (X : List Addr) (Q : SPost) (f : Flow) (s' : Shared) : Prop
 | mk (φ' : List Addr) (H' : Hp) (loc' : Loc) (e : Ext X φ s φ' s') (S : Sim c φ' H' s') (F : FSim c env res k loc' φ' s'.heap) (q : FlowQ c φ' s'.heap f fun f => Q f loc' H') : OutS c env res k φ s X Q f s'
inductive OutSX (c : Cx) (env : Env) (res : Res) (k : Clo) (φ : List Addr) (s : Shared) (X : List Addr) (E : SX) (e : Value) (s' : Shared) : Prop
 | mk (φ' : List Addr) (H' : Hp) (loc' : Loc) (x : V) (ex : Ext X φ s φ' s') (S : Sim c φ' H' s') (F : FSim c env res k loc' φ' s'.heap) (R : XRep c φ' s s'.heap x e) (q : E x loc' H') : OutSX c env res k φ s X E e s'
noncomputable def HeadF (A : Around) (env : Env) : Prop := ∃ outer, A.frames = some (env :: outer)
noncomputable def zcu (c : Cx) (env : Env) (res : Res) (X : List Addr) (st : Stmt) (x : St) : Prop :=
 ∀ A q d k loc φ H s Q E, OkF c A q d φ s.heap -> HeadF A env -> FSim c env res k loc φ s.heap -> Sim c φ H s -> wpS (Calls c) q d k x Q E loc H ->
  wpAny (model c.prog c.w) A (exec st env) (OutS c env res k φ s X Q) (OutSX c env res k φ s X E) s
noncomputable def zc1 (c : Cx) (env : Env) (res : Res) (X : List Addr) (sts : List Stmt) (xs : List St) : Prop :=
 ∀ A q d k loc φ H s Q E, OkF c A q d φ s.heap -> HeadF A env -> FSim c env res k loc φ s.heap -> Sim c φ H s -> wpSs (Calls c) q d k xs Q E loc H ->
  wpAny (model c.prog c.w) A (execs sts env) (OutS c env res k φ s X Q) (OutSX c env res k φ s X E) s
section
variable {c : Cx} {env : Env} {res : Res} {k : Clo} {loc : Loc} {φ φ₁ : List Addr} {H : Hp} {s s₁ s₂ : Shared} {X : List Addr} {Q : SPost} {E : SX}
theorem OutS.lift {f : Flow} (e : Ext X φ s φ₁ s₁) (h : OutS c env res k φ₁ s₁ X Q f s₂) : OutS c env res k φ s X Q f s₂ :=
 let ⟨φ', H', l, e', S, F, q⟩ := h; ⟨φ', H', l, e.trans e', S, F, q⟩
theorem OutSX.lift {x : Value} (e : Ext X φ s φ₁ s₁) (S₁ : Sim c φ₁ H s₁) (h : OutSX c env res k φ₁ s₁ X E x s₂) : OutSX c env res k φ s X E x s₂ :=
 let ⟨φ', H', l, v, e', S, F, R, hq⟩ := h; ⟨φ', H', l, v, e.trans e', S, F, R.lift e S₁, hq⟩
theorem FSim.weak {al : Str -> Bool} {φ' : List Addr} {s' : Shared} (F : FSim c env res k loc φ s.heap) (hX : EnvX al env X) (e : Ext [] φ s φ' s') : Ext X φ s φ' s' :=
 e.weaken (fun _ h => nomatch h) fun b hb => (F.outX hX b hb).1
theorem OutX.toS {al : Str -> Bool} {x : Value} (F : FSim c env res k loc φ s.heap) (hX : EnvX al env X) (h : OutX c φ s (fun x H => E x loc H) x s₁) : OutSX c env res k φ s X E x s₁ :=
 let ⟨φ', H', v, e', S, R, hq⟩ := h; ⟨φ', H', loc, v, F.weak hX e', S, F.mono e', R, hq⟩
theorem OutSX.no {x : Value} {P : Prop} (h : OutSX c env res k φ s X (fun _ _ _ => False) x s₁) : P := let ⟨_, _, _, _, _, _, _, _, h⟩ := h; h.elim
theorem OkF.monoX {A : Around} {q : Bool} {d : Nat} {φ' : List Addr} {s' : Shared} (h : OkF c A q d φ s.heap) (e : Ext X φ s φ' s') : OkF c A q d φ' s'.heap := h.mono e
theorem zpz {A : Around} {q : Bool} {d : Nat} {x : Value} (hA : OkF c A q d φ s.heap) (hh : HeadF A env) (h : OutSX c env res k φ s X E x s₁) :
  notedBy (model c.prog c.w) A env (fun e s' => cameBackBy (model c.prog c.w) A env (OutSX c env res k φ s X E) e s') x s₁ := by
 obtain ⟨φ', H', l, v, e', S, F, R, hq⟩ := h
 obtain ⟨outer, hfr⟩ := hh
 have hE : ∀ e ∈ env :: outer, EnvOk c φ' s₁.heap e := by
  obtain ⟨l', h1, h2⟩ := (hA.monoX e').fr
  rw [hfr] at h1; cases h1; exact h2
 unfold notedBy
 refine wpAny_mono (zf5 hfr hE S e' R) ?_ fun _ _ h => h
 rintro _ s₂ ⟨xs, hx, hn, n, R₂, ht⟩
 have e₂ := e'.noted n hn
 have S₂ := S.noted n hx
 have F₂ := F.noted n hx
 unfold cameBackBy
 obtain ⟨a, o, vs, T, rfl, g1, g2, g3⟩ := id ht
 refine wpAny_bind (wpAny_field g1 g2 g3 ?_)
 rw [if_neg (by intro q; cases q)]
 refine wpAny_mono (zeo R₂ ht) ?_ fun _ _ h => h
 rintro _ s₃ ⟨xs, hx, hn, n, R₃, ht⟩
 exact ⟨φ', H', l, v, e₂.noted n hn, S₂.noted n hx, F₂.noted n hx, R₃, hq⟩
theorem zkg : zc1 c env res X [] [] := fun A q d k loc φ H s Q E hA hh hF hS hw => by
 exact wpAny_execs_nil ⟨φ, H, loc, Ext.refl, hS, hF, hw⟩
theorem zie {st : Stmt} {x : St} {sts : List Stmt} {xs : List St} (h1 : zcu c env res X st x) (h2 : zc1 c env res X sts xs) : zc1 c env res X (st :: sts) (x :: xs) := fun A q d k loc φ H s Q E hA hh hF hS hw => by
 refine wpAny_execs_cons (wpAny_mono (h1 A q d k loc φ H s _ E hA hh hF hS hw) ?_ fun _ _ h => h)
 rintro f s₁ ⟨φ₁, H₁, l₁, e₁, S₁, F₁, w₁⟩
 cases f with
 | next => exact wpAny_mono (h2 A q d k l₁ φ₁ H₁ s₁ Q E (hA.monoX e₁) hh F₁ S₁ w₁) (fun _ _ h => h.lift e₁) fun _ _ h => h.lift e₁ S₁
 | ret r => exact ⟨φ₁, H₁, l₁, e₁, S₁, F₁, w₁⟩
 | _ => exact w₁.elim
theorem zq7 {e : Expr} {x : Ex} {pos : Pos} (hX : EnvX allY env X) (h : zb3 c env res e x) : zcu c env res X (.Return (some e) pos) (.ret x) := fun A q d k loc φ H s Q E hA hh hF hS hw => by
 refine wpAny_Return_some (wpAny_mono (h A q d k loc φ H s _ _ hA hF hS hw) ?_ fun _ _ h => OutX.toS hF hX h)
 rintro r s₁ ⟨φ₁, H₁, v, e₁, S₁, R₁, w₁⟩
 exact ⟨φ₁, H₁, loc, hF.weak hX e₁, S₁, hF.mono e₁, ⟨v, R₁, w₁⟩⟩
theorem znm {e : Expr} {x : Ex} {pos : Pos} (hX : EnvX allY env X) (h : zb3 c env res e x) (hs : swapsWith e none pos.line env = pure false) : zcu c env res X (.Expr e pos) (.expr x) := fun A q d k loc φ H s Q E hA hh hF hS hw => by
 refine wpAny_Expr_any (wpAny_mono (h A q d k loc φ H s _ _ hA hF hS hw) ?_ fun _ _ h => OutX.toS hF hX h) (by simp [interactive, hF.fn]) hs
 rintro r s₁ ⟨φ₁, H₁, v, e₁, S₁, R₁, w₁⟩
 exact ⟨φ₁, H₁, loc, hF.weak hX e₁, S₁, hF.mono e₁, w₁⟩
theorem zj0 {e : Expr} {x : Ex} {y : Str} {i : Nat} {py pos : Pos} (hX : EnvX allY env X) (h : zb3 c env res e x) (hs : swapsWith e (some (.Name y py)) pos.line env = pure false) (hy : StoreOk allY env res res y i) :
  zcu c env res X (.Assign [.Name y py] e pos) (.set i x) := fun A q d k loc φ H s Q E hA hh hF hS hw => by
 refine wpAny_Assign_Name (wpAny_mono (h A q d k loc φ H s _ _ hA hF hS hw) ?_ fun _ _ h => OutX.toS hF hX h) hs
 rintro r s₁ ⟨φ₁, H₁, v, e₁, S₁, R₁, w₁⟩
 refine wpAny_mono (zd4 (hF.mono e₁) S₁ hy hX R₁) ?_ fun _ _ h => h
 rintro _ s₂ ⟨F₂, S₂, e₂, _⟩
 exact ⟨φ₁, H₁, _, (hF.weak hX e₁).trans e₂, S₂, F₂, w₁⟩
theorem zpr {e : Expr} {x : Ex} {es : List Expr} {is : List Nat} {x1} {py pos : Pos} (hX : EnvX allY env X) (h : zb3 c env res e x) (hs : swapsWithSole [.Tuple es x1 py] e pos.line env = pure false) (hw' : swappedStores [.Tuple es x1 py] e env = pure none) (hy : zd8 allY env res res es is) :
  zcu c env res X (.Assign [.Tuple es x1 py] e pos) (.unp is x) := fun A q d k loc φ H s Q E hA hh hF hS hw => by
 obtain ⟨rfl, hw⟩ := hw
 refine PyProof.Rows.Assign_Tuple (wpAny_mono (h A true d k loc φ H s _ _ hA hF hS hw) ?_ fun _ _ h => OutX.toS hF hX h) hs hw'
 rintro r s₁ ⟨φ₁, H₁, v, e₁, S₁, R₁, w₁⟩
 obtain ⟨l', hu, w₂⟩ := Opt.inv w₁
 obtain ⟨vs, hv, hb⟩ := zab.mp hu
 obtain rfl := zei hv
 refine wpAny_mono (zkr (hA.hd rfl) hX hy hb (hF.mono e₁) S₁ R₁) ?_ fun _ _ h => h
 rintro _ s₂ ⟨F₂, S₂, e₂, _⟩
 exact ⟨φ₁, H₁, _, (hF.weak hX e₁).trans e₂, S₂, F₂, w₂⟩
theorem do_put {A : Around} {E : Value -> Shared -> Prop} {H' : Hp} (S : Sim c φ H s) {v w u : V} {x y r : Value} (R1 : Rep c φ s.heap v x) (R2 : Rep c φ s.heap w y) (R3 : Rep c φ s.heap u r) (e : putV H v w u = some H') :
  wpAny (model c.prog c.w) A (setItem x y r) (fun _ s' => Ext [] φ s φ s' /\ Sim c φ H' s') E s := by
 obtain ⟨i, hi, f⟩ := zab.mp e
 clear e
 obtain rfl := zff hi
 obtain ⟨k, hk', f2⟩ := zab.mp f
 obtain rfl := zcy hk'
 obtain ⟨xs, e1, f3⟩ := zab.mp f2
 obtain ⟨hk, rfl⟩ := iteS f3
 obtain ⟨l, us, n, rfl, ha, ho, hr, hz, z⟩ := S.getP R1 e1
 obtain ⟨t, rfl⟩ := R2
 have hl := zce ho
 have hsl : sizeLine = 2 ^ 24 := rfl
 unfold setItem
 try with_reducible refine wpAny_holding ?_
 first | refine wpAny_bind (wpAny_pure ?_) | skip
 refine wpAny_bind (wpAny_sequenceKey hl.typeIs (by decide) ?_)
 refine wpAny_bind (wpAny_callSpecial?_slot (name := Str.ofString "__setitem__") hl.typeIs slot_list_setitem
  (wpAny_call_entry slot_list_setitem hl.typeIs entry_list_setitem ?_ (args_list_setitem _ _ _)))
 show wpAny _ _ (Builtin.List.listSubscript? (.int k t) >>= _) _ _ s
 refine wpAny_bind (wpAny_listSubscript_int (fitsIndex_of hk.1 (by exact Ar.ar4 [_,_] [_,_] 0x294a528003080001840100c201006100c0408080 (Y4 V0 V1) (Y4 V0 (Y4 V0 J0)) (Y0 V0 V1) (Y2 V1 (.l 16777216)) (Y5 V1 (.l 9223372036854775808)) hk.2 hz hsl (Ar.p63))) ?_)
 obtain ⟨h0, hlt⟩ := hk
 obtain ⟨j, rfl⟩ := Int.eq_ofNat_of_zero_le h0
 have hj : j < us.size := by rw [z]; exact zam.mp hlt
 have hx' : us[j]? = some us[j] := zbt hj
 show wpAny _ _ ((seqItemAt l j >>= fun r => pure (r.map (j, ·))) >>= _) _ _ s
 refine wpAny_bind (wpAny_bind (wpAny_seqItemAt ho rfl (wpAny_pure ?_)))
 rw [hx']
 show wpAny _ _ (setSeqItemAt l j r >>= _) _ _ s
 have hfin : Ext [] φ s φ { s with heap := s.heap.update l (Obj.mapSeq (·.setIfInBounds j r)) } /\ Sim c φ (H.set i (xs.set j u)) { s with heap := s.heap.update l (Obj.mapSeq (·.setIfInBounds j r)) } :=
  S.put (h' := s.heap.update l (Obj.mapSeq (·.setIfInBounds j r))) ha (Heap.SameBut.update ..) (IsL.update (n := n) ho _) (by rw [Array.toList_setIfInBounds]; exact hr.set j R3) (by rw [List.length_set]; exact hz)
 refine wpAny_bind (wpAny_setSeqItemAt ho rfl ?_)
 first
  | exact wpAny_bind (wpAny_pure (wpAny_pure ⟨.none, rfl, wpAny_pure hfin⟩))
  | exact wpAny_pure ⟨.none, rfl, wpAny_pure hfin⟩
theorem zru {o i e : Expr} {xo xi xe : Ex} {py pos : Pos} (hX : EnvX allY env X) (h1 : zb3 c env res o xo) (h2 : zb3 c env res i xi) (h3 : zb3 c env res e xe) (hs : swapsWith e (some (.Subscript o i py)) pos.line env = pure false) :
  zcu c env res X (.Assign [.Subscript o i py] e pos) (.put xo xi xe) := fun A q d k loc φ H s Q E hA hh hF hS hw => by
 refine wpAny_Assign_Subscript (wpAny_mono (h3 A q d k loc φ H s _ _ hA hF hS hw) ?_ fun _ _ h => OutX.toS hF hX h) hs
 rintro r s₁ ⟨φ₁, H₁, v₁, e₁, S₁, R₁, w₁⟩
 refine wpAny_mono (h1 A q d k loc φ₁ H₁ s₁ _ _ (hA.mono e₁) (hF.mono e₁) S₁ w₁) ?_ fun _ _ h => OutX.toS hF hX (h.lift e₁ S₁)
 rintro ro s₂ ⟨φ₂, H₂, v₂, e₂, S₂, R₂, w₂⟩
 have e12 := e₁.trans e₂
 refine wpAny_mono (h2 A q d k loc φ₂ H₂ s₂ _ _ (hA.mono e12) (hF.mono e12) S₂ w₂) ?_ fun _ _ h => OutX.toS hF hX (h.lift e12 S₂)
 rintro ri s₃ ⟨φ₃, H₃, v₃, e₃, S₃, R₃, w₃⟩
 obtain ⟨H', hp, w₃⟩ := Opt.inv w₃
 refine wpAny_mono (do_put S₃ (Rep.mono e₃.toKp OwnX.nil R₂) R₃ (Rep.mono (e₂.trans e₃).toKp OwnX.nil R₁) hp) ?_ fun _ _ h => h
 rintro _ s₄ ⟨e₄, S₄⟩
 have e14 := (e12.trans e₃).trans e₄
 exact ⟨φ₃, _, loc, hF.weak hX e14, S₄, hF.mono e14, w₃⟩
theorem zim {res0 res' : Res} {scope : Scope} {tgt iter elt : Expr} {ifs : List Expr} {t : Tg} {xelt xsrc : Ex} {xifs : List Ex} {y : Str} {i : Nat} {py pos cpos : Pos} (hX : EnvX allY env X) (K : CompOk c env res res0 res' scope tgt t) (hfold : ∀ x, foldedSetIterable iter env x = pure x) (hsrc : zb3 c env res iter xsrc)
  (helt : ∀ cenv : Env, cenv.scope = relabel scope env -> zb3 c cenv res' elt xelt) (hifs : ∀ cenv : Env, cenv.scope = relabel scope env -> zc9 c cenv res' ifs xifs)
  (hs : swapsWith (.ListComp elt [⟨tgt, iter, ifs, 0⟩] scope cpos) (some (.Name y py)) pos.line env = pure true) (hy : StoreOk allY env res res y i) :
  zcu c env res X (.Assign [.Name y py] (.ListComp elt [⟨tgt, iter, ifs, 0⟩] scope cpos) pos) (.set i (.comp xelt t xsrc xifs)) := fun A q d k loc φ H s Q E hA hh hF hS hw => by
 replace hw : wpE (Calls c) q d k (.comp xelt t xsrc xifs) loc (fun v H => Q .next (loc.set i (some v)) H) (fun x H => E x loc H) H := hw
 rw [exec_Assign_Name_used _ _ _ _ hs]
 refine wpAny_bind (wpAny_standAt (wpAny_bind ?_))
 show wpAny _ A (do let _ <- comprehension (.ListComp elt [⟨tgt, iter, ifs, 0⟩] scope cpos) scope env _ (newList []) false (eval iter env) (some (assign (.Name y py) env))) _ _ s
 refine wpAny_bind (wpAny_mono (zmz (use := some (assign (.Name y py) env)) (Q' := fun _ s' => OutS c env res k φ s X Q .next s') K hfold hsrc helt hifs hA hF hS hw ?_) (fun _ s' hq => wpAny_pure (wpAny_pure hq)) fun _ _ h => OutX.toS hF hX h)
 rintro D C s' ⟨φ', H', a, e, S, R, hq, hC, m, hm, hat, hC0, hCh⟩
 show wpAny _ A (assign (.Name y py) env (.ref D)) _ _ _
 have F := hF.mono e
 have hCX : C ∉ X := fun hm => by
  rcases hX.only C hm with q | ⟨x, hx⟩
  ·obtain ⟨_, ⟨_, o, ho, _⟩, _, _⟩ := hF.ns
   rw [<- q, hC0] at ho; cases ho
  ·obtain ⟨_, _, o, ho, _⟩ := hF.cells x C hx
   rw [hC0] at ho; cases ho
 refine wpAny_assign_Name (wpAny_mono (zd4 F S hy hX R) ?_ fun _ _ h => h)
 rintro _ s₂ ⟨F₂, S₂, e₂, k₂⟩
 obtain ⟨hn, o, ho, hc⟩ := hm
 have hm₂ : NsD s₂.heap C m := ⟨hn.at' fun o' ho' => k₂.1 C o' hCX ho', o, k₂.1 C o hCX ho, hc⟩
 refine ⟨m, hm₂, fun h' m' hn' hs' => ?_⟩
 have g := gone S₂ hm₂ hat hC hCh hn' hs'
 have off : Off env [C] s₂ := ⟨fun q => hCX (by rw [<- zai.mp q]; exact hX.loc), (fun x ca hx q => by
   obtain ⟨_, _, o, ho, _⟩ := hF.cells x ca hx
   rw [zai.mp q, hC0] at ho; cases ho), fun ca oc hoc hcc _ q => by
   rw [zai.mp q] at hoc
   obtain rfl := zaa ((k₂.1 C o hCX ho).symm.trans hoc)
   rw [hcc] at hc; exact absurd hc (by decide)⟩
 exact ⟨φ', H', _, ((hF.weak hX e).trans e₂).kept g.kept fun b hb => by rw [zai.mp hb]; exact hC0, g.sim, F₂.off (s' := { s₂ with heap := h' }) g.kp g.ow off fun o ho => ⟨o.slots, g.kept.1 _ o off.loc ho⟩, hq⟩
theorem zp7 {t : Expr} {xt : Ex} {a b : List Stmt} {xa xb : List St} {pos : Pos} (hX : EnvX allY env X) (ht : zej c env res t xt) (ha : zc1 c env res X a xa) (hb : zc1 c env res X b xb) : zcu c env res X (.If t a b pos) (.ite xt xa xb) := fun A q d k loc φ H s Q E hA hh hF hS hw => by
 refine wpAny_If (wpAny_mono (ht A q d k loc φ H s _ _ hA hF hS hw) ?_ fun _ _ h => OutX.toS hF hX h)
 rintro t s₁ ⟨φ₁, H₁, e₁, S₁, w₁⟩
 have e₁' := hF.weak hX e₁
 cases t with
 | true => exact wpAny_mono (ha A q d k loc φ₁ H₁ s₁ Q E (hA.mono e₁) hh (hF.mono e₁) S₁ w₁) (fun _ _ h => h.lift e₁') fun _ _ h => h.lift e₁' S₁
 | false => exact wpAny_mono (hb A q d k loc φ₁ H₁ s₁ Q E (hA.mono e₁) hh (hF.mono e₁) S₁ w₁) (fun _ _ h => h.lift e₁') fun _ _ h => h.lift e₁' S₁
inductive WhilI (c : Cx) (env : Env) (res : Res) (k : Clo) (φ : List Addr) (s : Shared) (X : List Addr) (I : Nat -> Loc -> Hp -> Prop) (n : Nat) (s' : Shared) : Prop
 | mk (φ' : List Addr) (H' : Hp) (l' : Loc) (e : Ext X φ s φ' s') (S : Sim c φ' H' s') (F : FSim c env res k l' φ' s'.heap) (hI : I n l' H') : WhilI c env res k φ s X I n s'
theorem zlj {t : Expr} {xt : Ex} {b : List Stmt} {xb : List St} {pos : Pos} (hX : EnvX allY env X) (ht : zej c env res t xt) (hb : zc1 c env res X b xb) : zcu c env res X (.While t b [] pos) (.whil xt xb) := fun A q d k loc φ H s Q E hA hh hF hS hw => by
 obtain ⟨rfl, I, n₀, h₀, step⟩ := hw
 refine wpAny_While (codeAny_whileLoop (WhilI c env res k φ s X I) ?_ n₀ ⟨φ, H, loc, Ext.refl, hS, hF, h₀⟩)
 rintro n s₁ ⟨φ₁, H₁, l₁, e₁, S₁, F₁, hI⟩
 refine wpAny_mono (ht A true d k l₁ φ₁ H₁ s₁ _ _ (hA.monoX e₁) F₁ S₁ (step n l₁ H₁ hI)) ?_ fun _ _ h => OutX.no h
 rintro t s₂ ⟨φ₂, H₂, e₂, S₂, w₂⟩
 have e₁₂ := e₁.trans (F₁.weak hX e₂)
 cases t with
 | true =>
  refine wpAny_mono (hb A true d k l₁ φ₂ H₂ s₂ _ _ (hA.monoX e₁₂) hh (F₁.mono e₂) S₂ w₂) ?_ fun _ _ h => OutSX.no h
  rintro f s₃ ⟨φ₃, H₃, l₃, e₃, S₃, F₃, w₃⟩
  cases f with
  | next =>
   obtain ⟨m, hm, hI'⟩ := w₃
   exact ⟨m, hm, φ₃, H₃, l₃, e₁₂.trans e₃, S₃, F₃, hI'⟩
  | ret r => exact ⟨φ₃, H₃, l₃, e₁₂.trans e₃, S₃, F₃, w₃⟩
  | _ => exact w₃.elim
 | false => exact wpAny_execs_nil ⟨φ₂, H₂, l₁, e₁₂, S₂, F₁.mono e₂, w₂⟩
inductive Goes (c : Cx) (A : Around) (tg : Expr) (φ : List Addr) (s : Shared) (Q : List V -> (Hp -> Prop) -> Hp -> Prop) (it : Value) (s₂ : Shared) : Prop
 | mk (φ₁ : List Addr) (H₁ : Hp) (items : List V) (ok : Hp -> Prop) (wr : List Addr) (St : Nat -> List Addr -> Heap -> Prop) (e : Ext [] φ s φ₁ s₂) (S : Sim c φ₁ H₁ s₂) (I : Itr c A it tg wr items ok St) (st : St 0 φ₁ s₂.heap)
   (hn : ∀ b ∈ wr, s.heap.get? b = none) (hok : ok H₁) (q : Q items ok H₁) : Goes c A tg φ s Q it s₂
noncomputable def zf1 (c : Cx) (env : Env) (res : Res) (tg : Expr) (iter : Expr) (x : Sr) : Prop :=
 ∀ A d k loc φ H s (Q : List V -> (Hp -> Prop) -> Hp -> Prop) E, OkF c A true d φ s.heap -> FSim c env res k loc φ s.heap -> Sim c φ H s -> wpSr (Calls c) true d k x loc Q E H ->
  wpAny (model c.prog c.w) A (eval iter env) (fun x s₁ => wpAny (model c.prog c.w) A (pyIter x) (Goes c A tg φ s Q) (OutX c φ s E) s₁) (OutX c φ s E) s
theorem sr_val {tg iter : Expr} {x : Ex} (h : zb3 c env res iter x) : zf1 c env res tg iter (.val x) := fun A d k loc φ H s Q E hA hF hS hw => by
 refine wpAny_mono (h A true d k loc φ H s _ E hA hF hS hw) ?_ fun _ _ h => h
 rintro r s₁ ⟨φ₁, H₁, v₁, e₁, S₁, R₁, w₁⟩
 obtain ⟨items, hi, w₁⟩ := Opt.inv w₁
 refine wpAny_mono (zlz (hA.hd rfl) S₁ R₁ hi (tg := tg)) ?_ fun _ _ h => h
 rintro it s₂ ⟨wr, St, e₂, S₂, I, st, hn⟩
 refine ⟨φ₁, H₁, items, _, wr, St, e₁.trans e₂, S₂, I, st, fun b hb => e₁.fresh S₁ (hn b hb), ?_, w₁⟩
 cases v₁ with
 | lst a => exact hi
 | _ => trivial
inductive ForI (c : Cx) (env : Env) (res : Res) (k : Clo) (φ : List Addr) (s : Shared) (X : List Addr) (items : List V) (St : Nat -> List Addr -> Heap -> Prop) (ok : Hp -> Prop) (P : List V -> Loc -> Hp -> Prop) (n : Nat) (s' : Shared) : Prop
 | mk (i : Nat) (φ' : List Addr) (H' : Hp) (l' : Loc) (hk : n = items.length - i + 1) (hi : i <= items.length) (e : Ext X φ s φ' s') (S : Sim c φ' H' s') (F : FSim c env res k l' φ' s'.heap) (st : St i φ' s'.heap) (hok : ok H') (w : P (items.drop i) l' H') : ForI c env res k φ s X items St ok P n s'
theorem zro {tg iter : Expr} {t : Tg} {sr : Sr} {b : List Stmt} {xb : List St} {pos : Pos} (hX : EnvX allY env X) (hs : ∀ x, foldedSetIterable iter env x = pure x) (hsr : zf1 c env res tg iter sr) (htg : TgOk allY env res res tg t) (hb : zc1 c env res X b xb) :
  zcu c env res X (.For tg iter b [] pos) (.loop t sr xb) := fun A q d k loc φ H s Q E hA hh hF hS hw => by
 obtain ⟨rfl, hw⟩ := hw
 refine wpAny_For (wpAny_mono (hsr A d k loc φ H s _ _ hA hF hS hw) (fun x s₁ h₁ => wpAny_mono h₁ ?_ fun _ _ h => OutX.toS hF hX h) fun _ _ h => OutX.toS hF hX h) hs
 rintro it s₂ ⟨φ₁, H₁, items, ok, wr, St, e₁, S₁, I, st₁, hn, hok, w₁⟩
 refine codeAny_forLoop_any (ForI c env res k φ s X items St ok fun xs l H => zja ok (fun x l Q H => Opt (zfu t x l) fun l' => wpSs (Calls c) true d k xb Q E l' H) xs Q l H) ?_ (items.length + 1) ⟨0, φ₁, H₁, loc, rfl, za0 _, hF.weak hX e₁, S₁, hF.mono e₁, st₁, hok, w₁⟩
 rintro n s₃ ⟨i, φ₃, H₃, l₃, rfl, hi, e₃, S₃, F₃, st₃, hok₃, w₃⟩
 have its := I.seen _ _ _ st₃
 by_cases hlt : i < items.length
 ·have hx : items[i]? = some items[i] := zal hlt
  rw [zbx hlt] at w₃
  generalize items[i] = x at hx w₃
  obtain ⟨l', hbt, w₃⟩ := Opt.inv (show Opt (zfu t x l₃) _ from w₃)
  refine wpAny_mono (I.item i x φ₃ H₃ s₃ _ hx st₃ S₃ hok₃) ?_ fun _ _ h => h
  rintro r s₄ ⟨v, rfl, h₄⟩
  refine wpAny_mono h₄ ?_ fun _ _ h => h
  rintro _ s₅ ⟨k₅, st₅, R₅⟩
  have F₅ := F₃.kept its k₅
  refine wpAny_mono (zmy (hA.hd rfl) hX htg hbt F₅ (S₃.kept k₅ its) R₅) ?_ fun _ _ h => h
  rintro _ s₆ ⟨F₆, S₆, e₆, k₆⟩
  have hwX : ∀ b ∈ wr, b ∉ X := fun b hb hm => by
   have off := Off.its F₅ (I.seen _ _ _ st₅)
   rcases hX.only b hm with rfl | ⟨y, hy⟩
   ·exact off.loc hb
   ·exact off.cells y b hy hb
  have st₆ := I.frame _ _ _ _ _ _ st₅ e₆.toKp (F₅.ownX hX) hwX
  have e₀₆ := (e₃.kept k₅ hn).trans e₆
  refine wpAny_mono (hb A true d k l' φ₃ H₃ s₆ _ _ (hA.monoX e₀₆) hh F₆ S₆ w₃) ?_ fun _ _ h => zpz hA hh (h.lift e₀₆ S₆)
  rintro f s₇ ⟨φ₇, H₇, l₇, e₇, S₇, F₇, w₇⟩
  cases f with
  | next => exact ⟨items.length - (i + 1) + 1, by exact Ar.ar1 [_,_] [] 0xd03214a528003081201840a00c2018061004030142100465294001840700c2018061004050840128c2008401 (Y1 (Y0 (Y2 V0 (Y0 V1 J1)) J1) (Y0 (Y2 V0 V1) J1)) (Y1 V1 V0) hlt, i + 1, φ₇, H₇, l₇, rfl, hlt, e₀₆.trans e₇, S₇, F₇, I.frame _ _ _ _ _ _ st₆ e₇.toKp (F₆.ownX hX) hwX, w₇.1, w₇.2⟩
  | ret r => exact ⟨φ₇, H₇, l₇, e₀₆.trans e₇, S₇, F₇, w₇⟩
  | _ => exact w₇.elim
 ·obtain rfl : i = items.length := Nat.le_antisymm hi (zbh hlt)
  rw [List.drop_length] at w₃
  refine wpAny_mono (I.done φ₃ H₃ s₃ _ st₃ S₃ hok₃) ?_ fun _ _ h => h
  rintro r s₄ ⟨rfl, k₄⟩
  exact wpAny_execs_nil ⟨φ₃, H₃, l₃, e₃.kept k₄ hn, S₃.kept k₄ its, F₃.kept its k₄, w₃⟩
end
end Bn
namespace Bn
open PySem PyProof.Rows
theorem zhs : ∀ (names : List (Str × NameKind)) (h : Heap) (acc : List (Str × Addr)), (∀ n ca, (n, ca) ∈ acc -> h.get? ca = some ze4) ->
  ∀ n ca, (n, ca) ∈ cellsFrom h.objs.size names acc -> (pushCells h names).get? ca = some ze4
 | [], _, _, x, n, ca, hm => x n ca hm
 | (name, kind) :: r, h, acc, x, n, ca, hm => by
  unfold cellsFrom at hm
  unfold pushCells
  split
  ·rename_i hk
   rw [if_pos hk] at hm
   have := zhs r (h.push ze4) ((name, h.objs.size) :: acc) (fun n' c' hm' => by
    rcases zak.mp hm' with e | hm'
    ·cases e; exact Heap.get?_push_size _ rfl
    ·exact Heap.get?_push_of_some _ (x n' c' hm')) n ca (by rw [Heap.size_push]; exact hm)
   exact this
  ·rename_i hk
   rw [if_neg hk] at hm
   exact zhs r h acc x n ca hm
theorem zer : ∀ {names : List (Str × NameKind)} {k : Nat} {acc : List (Str × Addr)} {x : Str}, ((x, NameKind.cell) ∈ names \/ (acc.lookup x).isSome) -> ((cellsFrom k names acc).lookup x).isSome
 | [], _, acc, x, h => by
  rcases h with h | h
  ·cases h
  ·exact h
 | (n, kd) :: r, k, acc, x, h => by
  unfold cellsFrom
  split
  ·rename_i hk
   refine zer ?_
   rcases h with h | h
   ·rcases zak.mp h with e | h
    ·cases e
     right; simp
    ·exact .inl h
   ·right
    rw [za1]
    cases x == n <;> simp [h]
  ·rename_i hk
   refine zer ?_
   rcases h with h | h
   ·rcases zak.mp h with e | h
    ·cases e; exact absurd rfl hk
    ·exact .inl h
   ·exact .inr h
noncomputable def XS (env : Env) : List Addr := env.locals :: env.cells.filterMap fun p => env.cells.lookup p.1
noncomputable def zio (env : Env) (res : Res) : List Str -> Nat -> Prop
 | [], _ => True
 | x :: r, i => StoreOk allY env res res x i /\ zio env res r (i + 1)
noncomputable def znl : Nat -> List V -> Loc -> Loc
 | _, [], l => l
 | i, v :: vs, l => znl (i + 1) vs (l.set i (some v))
theorem zm6 {i : Nat} {v : V} {vs : List V} {l : Loc} : znl i (v :: vs) l = znl (i + 1) vs (l.set i (some v)) := rfl
theorem zmw : ∀ (vs : List V) (p : Loc) (k : Nat), znl p.length vs (p ++ List.replicate (vs.length + k) none) = p ++ vs.map some ++ List.replicate k none
 | [], p, k => by rw [List.map_nil, za9, List.length_nil, Nat.zero_add]; rfl
 | v :: vs, p, k => by
  have ih := zmw vs (p ++ [some v]) k
  rw [zm6, show (v :: vs).length + k = (vs.length + k) + 1 by simp; exact Ar.ar0 [_,_] [] 0x628003080002800308000 (Y2 (Y0 (Y0 V0 J1) V1) (Y0 (Y0 V0 V1) J1)), List.replicate_succ]
  rw [List.set_append_right _ _ (zad _)]
  simp only [Nat.sub_self, List.set_cons_zero]
  simp only [zan, zbg, List.length_nil] at ih
  rw [show p ++ some v :: List.replicate (vs.length + k) none = p ++ [some v] ++ List.replicate (vs.length + k) none by simp]
  rw [ih]; simp
section
variable {c : Cx}
theorem zka {A : Around} {E : Value -> Shared -> Prop} {env : Env} {res : Res} {φ : List Addr} {H : Hp} {X : List Addr} (hX : EnvX allY env X) (f : Str × Value -> PUnit -> Sem (ForInStep PUnit)) (hf : ∀ n v u, f (n, v) u = (do storeName env n v; pure (.yield ⟨⟩))) :
  ∀ {ps : List Str} {i : Nat} {vs : List V} {rs : List Value} {loc : Loc} {s : Shared} {Q : PUnit -> Shared -> Prop}, zio env res ps i -> vs.length = ps.length -> FSim c env res none loc φ s.heap -> Sim c φ H s -> RepL c φ s.heap vs rs ->
   (∀ s', FSim c env res none (znl i vs loc) φ s'.heap -> Sim c φ H s' -> Ext X φ s φ s' -> Q ⟨⟩ s') -> wpAny (model c.prog c.w) A (forIn (ps.zip rs) ⟨⟩ f) Q E s
 := by
 intro ps
 induction ps with
 | nil =>
  intro _ vs _ _ s Q _ hl F S _ hQ
  obtain rfl := zbm.mp hl
  rw [List.zip_nil_left, List.forIn_nil]; exact wpAny_pure (hQ s F S Ext.refl)
 | cons x ps ih =>
  intro i vs rs loc s Q hp hl F S R hQ
  cases vs with
  | nil => exact nomatch hl
  | cons v vs =>
  obtain ⟨r, rs, rfl, R1, R2⟩ := R.uncons
  rw [List.zip_cons_cons, List.forIn_cons, hf]
  refine wpAny_bind (wpAny_bind (wpAny_mono (zd4 F S hp.1 hX R1) ?_ fun _ _ h => h))
  rintro _ s₁ ⟨F₁, S₁, e₁, _⟩
  exact wpAny_pure (ih hp.2 (Nat.succ.inj hl) F₁ S₁ (RepL.mono e₁.toKp (F.ownX hX) R2) fun s₂ F₂ S₂ e₂ => hQ s₂ F₂ S₂ (e₁.trans e₂))
structure FunOk (c : Cx) (f : Str) (a : Addr) (o : Obj) (fd : FuncData) (body : List Stmt) (ps pa : List Str) (res : Res) : Prop where
 g : c.g f = some (.ref a)
 ho : c.h0.get? a = some o
 hd : o.data = .func fd
 code : c.h0.CodeRec fd.code fd.qualname
 hbody : fd.body = .stmts body
 clo : fd.closure = []
 gl : fd.globals = mainGlobals
 bl : fd.builtins = builtinsNs
 kind : fd.scope.kind = .function
 co : fd.scope.isCoroutine = false
 gen : fd.scope.isGenerator = false
 bind : ∀ vals : List Value, vals.length = pa.length -> bindArgs fd ⟨vals, []⟩ = pure (pa.zip vals)
 fr : res.fr = true
 hres : ∀ x i, res.lookup x = some i -> fd.scope.names.lookup x = some .local \/ fd.scope.names.lookup x = some .cell
 par : ∀ L, zio (callEnvC fd L a) res ps 0
 np : ps.length <= res.n
theorem zp3 (fd : FuncData) (L a : Addr) (h : Heap) (hL : h.objs.size = L + 1) : EnvX allY (callEnvC fd L a) (XS (callEnvC fd L a)) where
 loc := by simp [XS]
 cell x _ hk := by
  have ok := cellsFrom_ok fd.scope.names h (L + 1) [] ⟨fun _ _ hm => (nomatch hm), List.Pairwise.nil⟩ (by rw [hL]; exact zad _)
  rw [hL] at ok
  obtain ⟨ca, hx⟩ := zbz.mp (zer (k := L + 1) (acc := []) (x := x) (.inl (mem_of_lookup hk)))
  have hm := mem_of_lookup hx
  refine ⟨ca, hx, (ok.empty x ca hm).2, ?_, fun y hy => name_of_addr ok.apart (mem_of_lookup hy) hm⟩
  simp only [XS, zak, List.mem_filterMap]
  exact .inr ⟨(x, ca), hm, hx⟩
 only b hb := by
  simp only [XS, zak, List.mem_filterMap] at hb
  rcases hb with rfl | ⟨p, _, hp⟩
  ·exact .inl rfl
  ·exact .inr ⟨p.1, hp⟩
theorem zo8 {f : Str} {a : Addr} {o : Obj} {fd : FuncData} {body : List Stmt} {ps pa : List Str} {res : Res} (K : FunOk c f a o fd body ps pa res) {φ : List Addr} {H : Hp} {s : Shared} (S : Sim c φ H s) {h : Heap} (hL : h.get? s.heap.objs.size = some { cls := .type "frame", data := .dict #[] })
  (cellok : ∀ x ca, (cellsFrom (s.heap.objs.size + 1) fd.scope.names []).lookup x = some ca -> h.get? ca = some ze4 /\ s.heap.objs.size < ca) (newφ : ∀ b, s.heap.objs.size <= b -> b ∉ φ /\ c.h0.get? b = none /\ s.heap.get? b = none) :
  FSim c (callEnvC fd s.heap.objs.size a) res none (List.replicate res.n none) φ h where
 fn := K.kind
 gl := K.gl
 bl := K.bl
 len := by rw [List.length_replicate]; exact zad _
 Lφ := (newφ _ (zad _)).1
 L0 := (newφ _ (zad _)).2.1
 ns := by
  refine ⟨fun _ => none, ⟨⟨_, _, _, hL, rfl, by intro e he; simp at he, fun _ => by simp [nsFind, findBy]⟩, _, hL, .inl ⟨rfl, K.fr⟩⟩, fun x i hx => ?_, fun kk z hz => nomatch hz⟩
  have hget : (List.replicate res.n (none : Option V)).getD i none = none := by
   rw [zax, List.getElem?_replicate]
   split <;> rfl
  rw [hget]
  show zor (fd.scope.names.lookup x) _ _
  rcases K.hres x i hx with h | h <;> rw [h]
  ·exact .no
  ·obtain ⟨ca, hca⟩ := zbz.mp (zer (k := s.heap.objs.size + 1) (acc := []) (x := x) (.inl (mem_of_lookup h)))
   exact .no ca hca ⟨_, (cellok x ca hca).1, rfl⟩
 cells x ca hx := by
  obtain ⟨h1, h2⟩ := cellok x ca hx
  exact ⟨(newφ ca (zap h2)).1, (newφ ca (zap h2)).2.1, _, h1, rfl, _, rfl⟩
theorem leave_x {A : Around} {env : Env} {res : Res} {k : Clo} {X : List Addr} {q : Bool} {d : Nat} {φ φ₀ : List Addr} {H : Hp} {s₀ s s₃ : Shared} {E : XPost} {x : Value} (hA : OkF c A q d φ s.heap) (hH : HeadF A env) (S : Sim c φ H s) (e₀ : Ext X φ₀ s₀ φ s) (hXn : ∀ b ∈ X, s₀.heap.get? b = none) (h : OutSX c env res k φ s X (EndX E) x s₃) {Q : Value -> Shared -> Prop} {P : Value -> Shared -> Prop}
  (hP : ∀ e s', OutX c φ₀ s₀ E e s' -> P e s') : wpAny (model c.prog c.w) A (leaving env x) (fun _ s' => P x s') Q s₃ := by
 obtain ⟨φ₃, H₃, l₃, v, e₃, S₃, F₃, Rx, w₃⟩ := h
 obtain ⟨fr', hfr', hfrs'⟩ := (hA.mono e₃).fr
 obtain ⟨outer, hout⟩ := hH
 obtain rfl := zaa (hout.symm.trans hfr')
 unfold leaving
 refine wpAny_bind (wpAny_mono (zf5 hout hfrs' S₃ e₃ Rx) ?_ fun _ _ h => h)
 rintro _ s₄ ⟨xs', hx', hn', n', R₄, ht⟩
 have e₄ := e₃.noted n' hn'
 have S₄ := S₃.noted n' hx'
 refine wpAny_mono (zeo R₄ ht) ?_ fun _ _ h => h
 rintro _ s₅ ⟨xs'', hx'', hn'', n'', R₅, ht'⟩
 exact hP _ _ ⟨φ₃, H₃, v, (e₀.trans (e₄.noted n'' hn'')).drop hXn, S₄.noted n'' hx'', R₅.lift e₀ S, w₃⟩
theorem calls_of {f : Str} {a : Addr} {o : Obj} {fd : FuncData} {body : List Stmt} {ps : List Str} {res : Res} {xs : List St} (O : c.Ok) (K : FunOk c f a o fd body ps ps res)
  (hbod : ∀ L, EnvX allY (callEnvC fd L a) (XS (callEnvC fd L a)) -> zc1 c (callEnvC fd L a) res (XS (callEnvC fd L a)) body xs)
  {q : Bool} {d : Nat} {vs : List V} {Q : V -> Hp -> Prop} {E : XPost} {H : Hp} (hlen : vs.length = ps.length)
  (hw : wpSs (Calls c) q d none xs (EndQ Q) (EndX E) (vs.map some ++ List.replicate (res.n - vs.length) none) H) : Calls c q (d + 1) f vs none Q E H := by
 refine ⟨a, o, fd, K.g, K.ho, K.hd, fun A φ s args extra hA S R hex => ?_⟩
 obtain rfl : extra = [] := hex
 rw [za9]
 have hdep := hA.dep
 have hun := hA.un
 refine codeAny_call_function (by show _ < 1000; exact Ar.ar1 [_,_] [] 0xa5000610000308020 (Y1 V0 (.l 1000)) (Y0 (Y0 V0 (Y0 V1 J1)) (.l 890)) hdep) (S.stays a o K.ho) K.hd K.co K.gen K.hbody (K.code.keeps S.stays) ?_
 rw [K.bind args (by rw [RepL.length R, hlen]), K.clo]
 refine wpAny_pure ?_
 simp only [newFunctionEnv, Option.isSome_none, zbn, if_false]
 refine wpAny_bind (wpAny_alloc ?_)
 refine wpAny_bind (wpAny_layCells _ (fun name kind cells => by cases hkc : kind == NameKind.cell <;> simp [hkc]) _ _ _ _ ?_)
 generalize hs₁ : s.heap.push { cls := .type "frame", data := .dict #[] } = h₁
 have hz₁ : h₁.objs.size = s.heap.objs.size + 1 := by rw [<- hs₁, Heap.size_push]
 rw [show ({ s with heap := h₁ } : Shared).heap.objs.size = s.heap.objs.size + 1 from hz₁]
 have keep : ∀ b o, s.heap.get? b = some o -> (pushCells h₁ fd.scope.names).get? b = some o := fun b o hb => pushCells_keeps _ _ b o (by rw [<- hs₁]; exact Heap.get?_push_of_some _ hb)
 have hX := zp3 fd s.heap.objs.size a h₁ hz₁
 have e₁ : Ext [] φ s φ { s with heap := pushCells h₁ fd.scope.names } := Ext.of_keeps keep rfl
 have cellok : ∀ x ca, (cellsFrom (s.heap.objs.size + 1) fd.scope.names []).lookup x = some ca -> (pushCells h₁ fd.scope.names).get? ca = some ze4 /\ s.heap.objs.size < ca := fun x ca hx => by
  have hm := mem_of_lookup hx
  rw [<- hz₁] at hm
  have ok := cellsFrom_ok fd.scope.names h₁ (s.heap.objs.size + 1) [] ⟨fun _ _ hm => (nomatch hm), List.Pairwise.nil⟩ (by rw [hz₁]; exact zad _)
  exact ⟨zhs fd.scope.names h₁ [] (fun _ _ hm => nomatch hm) x ca hm, (ok.empty x ca hm).2⟩
 have newφ : ∀ b, s.heap.objs.size <= b -> b ∉ φ /\ c.h0.get? b = none /\ s.heap.get? b = none := fun b hb =>
  ⟨fun hm => za2 _ (zav (S.lt hm) hb), S.h0_new hb, Heap.get?_none_of_le hb⟩
 have F₁ := zo8 K S (pushCells_keeps _ _ _ _ (by rw [<- hs₁]; exact Heap.get?_push_size _ rfl)) cellok newφ
 refine wpAny_bind (zka (c := c) (env := callEnvC fd s.heap.objs.size a) (X := XS (callEnvC fd s.heap.objs.size a)) (s := { s with heap := pushCells h₁ fd.scope.names }) hX _ (fun _ _ _ => rfl) (K.par _) hlen F₁ (S.keeps (s' := { s with heap := pushCells h₁ fd.scope.names }) keep rfl) (RepL.mono e₁.toKp OwnX.nil R) fun s₂ F₂ S₂ e₂ => ?_)
 refine wpAny_pure ⟨O.lim.keeps S₂.stays, codeAny_func ?_⟩
 have hXn : ∀ b ∈ XS (callEnvC fd s.heap.objs.size a), s.heap.get? b = none := fun b hb => by
  rcases hX.only b hb with rfl | ⟨x, hx⟩
  ·exact (newφ _ (zad _)).2.2
  ·exact (newφ b (zap (cellok x b hx).2)).2.2
 have e₀₂ := (e₁.weaken (Y := XS (callEnvC fd s.heap.objs.size a)) (fun _ h => nomatch h) fun b hb => (FSim.outX (s := { s with heap := pushCells h₁ fd.scope.names }) F₁ hX b hb).1).trans e₂
 have hloc : znl 0 vs (List.replicate res.n none) = vs.map some ++ List.replicate (res.n - vs.length) none := by
  have := zmw vs [] (res.n - vs.length)
  rw [Nat.add_sub_cancel' (hlen ▸ K.np)] at this
  exact this
 rw [hloc] at F₂
 obtain ⟨fr, hfr, hfrs⟩ := (hA.mono e₀₂).fr
 have hEnv : EnvOk c φ s₂.heap (callEnvC fd s.heap.objs.size a) := by
  obtain ⟨m, ⟨⟨o1, es, n, ho1, hd1, _⟩, o2, ho2, hc2⟩, _, _⟩ := F₂.ns
  obtain rfl := zaa (ho1.symm.trans ho2)
  rcases hc2 with hc2 | hc2
  ·exact ⟨⟨by rw [show (callEnvC fd s.heap.objs.size a).scope.kind = fd.scope.kind from rfl, K.kind]; decide, K.gen, K.co, K.bl, K.gl⟩, s.heap.objs.size, o1, es, n, rfl, F₂.L0, F₂.Lφ, ho1, hd1, hc2.1⟩
  ·rw [K.fr] at hc2; cases hc2.2.2
 have hfr2 : (A.deeper (callEnvC fd s.heap.objs.size a)).frames = some (callEnvC fd s.heap.objs.size a :: fr) := by show A.frames.map _ = _; rw [hfr]; rfl
 have hA₂ : OkF c (A.deeper (callEnvC fd s.heap.objs.size a)) q d φ s₂.heap :=
  ⟨⟨by show A.depth + 1 + d <= 890; exact Ar.ar1 [_,_] [] 0xa5000610000308020 (Y0 (Y0 (Y0 V0 J1) V1) (.l 890)) (Y0 (Y0 V0 (Y0 V1 J1)) (.l 890)) hdep, by show A.units + 3 + 10 * d <= 9000; exact Ar.ar1 [_,_] [] 0xa5000610000308020 (Y0 (Y0 (Y0 V0 (.l 3)) (Y1 (.l 10) V1)) (.l 9000)) (Y0 (Y0 V0 (Y1 (.l 10) (Y0 V1 J1))) (.l 9000)) hun, hA.hd, _, hfr2, fun env he => by
   rcases zak.mp he with rfl | he
   ·exact hEnv
   ·exact hfrs env he⟩, by rw [hfr2]; exact fun h => nomatch h⟩
 refine wpAny_mono (hbod _ hX _ q d none _ φ H s₂ _ _ hA₂ ⟨fr, hfr2⟩ F₂ S₂ hw) ?_ ?_
 ·rintro f s₃ ⟨φ₃, H₃, l₃, e₃, S₃, F₃, w₃⟩
  have e₀₃ := (e₀₂.trans e₃).drop hXn
  cases f with
  | next => exact ⟨φ₃, H₃, .none, e₀₃, S₃, rN, w₃⟩
  | ret r => obtain ⟨v, Rv, w⟩ := w₃; exact ⟨φ₃, H₃, v, e₀₃, S₃, Rv, w⟩
  | _ => exact w₃.elim
 ·intro x s₃ h
  exact leave_x hA₂ ⟨fr, hfr2⟩ S₂ e₀₂ hXn h fun _ _ h => h
end
end Bn
namespace Bn
open PySem PyProof.Rows
section
variable {c : Cx} {env : Env} {res : Res}
theorem zm1 {f : Str} {p pos : Pos} {e : Expr} {x : Ex} {F : Value} (O : c.Ok) (hF' : ∀ a, F ≠ .ref a) (hk : env.kindOf f = some .globalImplicit) (hg : c.g f = none) (hb : c.b f = some F) (hx : (f == ("__debug__" : Str)) = false) (hn : zcb e = true) (h : zb3 c env res e x)
  {A q d k loc φ H s Q} {E : XPost} {R : Value -> Shared -> Prop} (hA : OkF c A q d φ s.heap) (hF : FSim c env res k loc φ s.heap) (hS : Sim c φ H s) (hw : wpE (Calls c) q d k x loc Q E H)
  (hR : ∀ r s₁, Out c φ s Q r s₁ -> wpAny (model c.prog c.w) A (call F [r]) R (OutX c φ s E) s₁) : wpAny (model c.prog c.w) A (eval (.Call (.Name f p) [e] [] pos) env) R (OutX c φ s E) s := by
 show wpAny _ _ (eval (.Name f p) env >>= fun fv => callWith pos fv [] (backTo pos (starEach [e] env)) []) _ _ _
 refine wpAny_bind (Calls.Name_function_global hF.fn hk (Calls.loadGlobal_builtin (by rw [hF.gl]; exact O.gl.keeps hS.stays) hg (by rw [hF.bl]; exact O.bl.keeps hS.stays) hb ?_) hx)
 have hl : zdn c env res [e] [x] := zhk hn h zia
 have hw' : wpL (Calls c) q d k [x] loc (fun vs H => match vs with | [v] => Q v H | _ => False) E H := hw
 refine zcg hF' (zeq hl.1.1) (wpAny_mono (zf2 hl (by simp) hA hF hS hw') ?_ fun _ _ h => h)
 rintro _ s₁ ⟨rs, rfl, φ₁, H₁, vs, e₁, S₁, R₁, l₁, w₁⟩
 match vs, l₁ with
 | [v], _ =>
  obtain ⟨r, rfl, Rr⟩ := R₁.one
  exact hR r s₁ ⟨φ₁, H₁, v, e₁, S₁, Rr, w₁⟩
theorem zlx {H : Hp} {v : V} {items : List V} (h : lstV H v = some items) : ∃ i, v = .lst i /\ H[i]? = some items :=
 let ⟨i, h1, h2⟩ := zab.mp h; ⟨i, zff h1, h2⟩
theorem sr_rev {tg : Expr} {f : Str} {p pos : Pos} {e : Expr} {x : Ex} (O : c.Ok) (hk : env.kindOf f = some .globalImplicit) (hg : c.g f = none) (hb : c.b f = some (.type "reversed")) (hx : (f == ("__debug__" : Str)) = false) (hn : zcb e = true) (h : zb3 c env res e x) :
  zf1 c env res tg (.Call (.Name f p) [e] [] pos) (.rev x) := fun A d k loc φ H s Q E hA hF hS hw => by
 refine zm1 O (by intro a h; cases h) hk hg hb hx hn h hA hF hS hw ?_
 rintro r s₁ ⟨φ₁, H₁, v₁, e₁, S₁, R₁, w₁⟩
 have hh : A.handled = none := hA.hd rfl
 obtain ⟨items, hi, w₂⟩ := Opt.inv w₁
 obtain ⟨i, rfl, hi⟩ := zlx hi
 obtain ⟨a, us, n, rfl, ha, ho, hr, hz, z⟩ := S₁.getP R₁ hi
 refine rv_start (zce ho) ?_
 have hit : RvAt (s₁.heap.push (rvO a ((us.size : Int) - 1))) s₁.heap.objs.size a ((items.length : Int) - 1 - (0 : Nat)) := ⟨_, Heap.get?_push_size _ rfl, rfl, by
  rw [z, Int.natCast_zero, Int.sub_zero]; rfl⟩
 refine zpj (s := { s₁ with heap := s₁.heap.push (rvO a ((us.size : Int) - 1)) }) hit ?_
 have e₂ : Ext [] φ₁ s₁ φ₁ { s₁ with heap := s₁.heap.push (rvO a ((us.size : Int) - 1)) } := Ext.push
 exact ⟨φ₁, H₁, _, _, [s₁.heap.objs.size], _, e₁.trans e₂, S₁.push _, itr_rev hh (a := a) (j := i) (S₁.h0_new (zad s₁.heap.objs.size)), ⟨hit, ha, S₁.new⟩, fun b hb => by rw [zai.mp hb]; exact e₁.fresh S₁ (Heap.get?_none_of_le (zad _)), hi, w₂⟩
theorem sr_enum {es : List Expr} {x1} {tp : Pos} {f : Str} {p pos : Pos} {e : Expr} {x : Ex} (O : c.Ok) (hk : env.kindOf f = some .globalImplicit) (hg : c.g f = none) (hb : c.b f = some (.type "enumerate")) (hx : (f == ("__debug__" : Str)) = false) (hn : zcb e = true) (h : zb3 c env res e x) :
  zf1 c env res (.Tuple es x1 tp) (.Call (.Name f p) [e] [] pos) (.enum x) := fun A d k loc φ H s Q E hA hF hS hw => by
 refine zm1 O (by intro a h; cases h) hk hg hb hx hn h hA hF hS hw ?_
 rintro r s₁ ⟨φ₁, H₁, v₁, e₁, S₁, R₁, w₁⟩
 have hh : A.handled = none := hA.hd rfl
 obtain ⟨items, hi, w₂⟩ := Opt.inv w₁
 obtain ⟨i, rfl, hi⟩ := zlx hi
 obtain ⟨a, us, n, rfl, ha, ho, hr, hz, z⟩ := S₁.getP R₁ hi
 refine call_enumerate_list (zce ho) fun h' he hit hsz hk' => ?_
 refine wpAny_pyIter_enum (s := { s₁ with heap := h' }) he ?_
 have e₂ : Ext [] φ₁ s₁ φ₁ { s₁ with heap := h' } := Ext.of_keeps hk' rfl
 have h0 := S₁.h0_new (zad s₁.heap.objs.size)
 have h0' := S₁.h0_new (Nat.le_succ s₁.heap.objs.size)
 refine ⟨φ₁, H₁, _, _, [s₁.heap.objs.size + 1, s₁.heap.objs.size], _, e₁.trans e₂, S₁.keeps (s' := { s₁ with heap := h' }) hk' rfl, itr_enum hh (a := a) (j := i) h0 h0' (Nat.succ_ne_self _), ⟨.none, he, hit, ha, S₁.new, fun hm => ?_⟩, fun b hb => ?_, hi, w₂⟩
 ·exact za2 _ (zar (zbq _) (S₁.lt hm))
 ·rcases zak.mp hb with rfl | hb
  ·exact e₁.fresh S₁ (Heap.get?_none_of_le (Nat.le_succ _))
  ·rw [zai.mp hb]
   exact e₁.fresh S₁ (Heap.get?_none_of_le (zad _))
theorem above {φ : List Addr} {H : Hp} {s : Shared} (O : c.Ok) (S : Sim c φ H s) : mainGlobals < s.heap.objs.size := by
 obtain ⟨o, _, _, ho, _⟩ := O.gl
 exact Heap.lt_size (S.stays _ _ ho)
theorem zk6 {pos : Pos} (O : c.Ok) : zb3 c env res (.Dict [] [] pos) .dict0 := fun A q d k loc φ H s Q E hA hF hS hw =>
 wpAny_Dict_empty ⟨φ, H, .dict0 _, Ext.push, hS.push _, DictAt.mk _ _ _ rfl hS.new (Heap.get?_push_size _ rfl) rfl rfl ⟨⟨(fun _ h => absurd h (Array.not_mem_empty _)), List.nodup_nil⟩, zar (by decide) (above O hS)⟩, hw _⟩
end
end Bn
namespace Bn
open PySem PyProof.Rows
set_option maxRecDepth 100000
inductive ClsAt (h : Heap) (C : Addr) (bm : List Value) (ini : Option Value) : Prop
 | mk (nm q : Str) (N : Addr) (bs : List Value) (sn : List Str) (sub : List Value) (ab : Bool) (col : Option Bool) (dd : Option Addr) (k0 k1 k2 k3 k5 : Option Value) (mN : Str -> Option Value)
   (hC : h.get? C = some (excClassObj nm q C N bs bm true sn sub ab col dd k0 k1 k2 k3 k5 "ValueError.__new__")) (hN : h.Ns N mN) (hq : ∀ n ∈ zc2, mN n = none) (hi : mN "__init__" = ini) : ClsAt h C bm ini
theorem ClsAt.keeps {h h' : Heap} {C : Addr} {bm : List Value} {ini : Option Value} (K : ClsAt h C bm ini) (hk : ∀ b o, h.get? b = some o -> h'.get? b = some o) : ClsAt h' C bm ini := by
 obtain ⟨nm, q, N, bs, sn, sub, ab, col, dd, k0, k1, k2, k3, k5, mN, hC, hN, hq, hi⟩ := K
 exact ⟨nm, q, N, bs, sn, sub, ab, col, dd, k0, k1, k2, k3, k5, mN, hk _ _ hC, hN.keeps hk, hq, hi⟩
structure Kid (h : Heap) (C NE : Addr) : Prop where
 own : ∃ ini, ClsAt h C (.ref NE :: vbm) ini
 net : ClsAt h NE vbm none
theorem Kid.keeps {h h' : Heap} {C NE : Addr} (K : Kid h C NE) (hk : ∀ b o, h.get? b = some o -> h'.get? b = some o) : Kid h' C NE :=
 ⟨let ⟨i, k⟩ := K.own; ⟨i, k.keeps hk⟩, K.net.keeps hk⟩
section
variable {M : Model} {A : Around} {E : Value -> Shared -> Prop} {h : Heap} {g : Array GenState} {d : Drawn} {t : Nat} {os : OsState} {C NE : Addr}
theorem Kid.lookup {n : Str} {y : Option Value} {Q : Option Value -> Shared -> Prop} (K : Kid h C NE) (hn : n ∈ zc2) (hB : typeLookup (.type "ValueError") n = pure y) (hq : Q y ⟨h, g, d, t, os⟩) :
  wpAny M A (typeLookup (.ref C) n) Q E ⟨h, g, d, t, os⟩ := by
 obtain ⟨⟨ini, nm, q, N, bs, sn, sub, ab, col, dd, k0, k1, k2, k3, k5, mN, hC, hN, hqn, hi⟩, ⟨nm', q', N', bs', sn', sub', ab', col', dd', k0', k1', k2', k3', k5', mN', hC', hN', hqn', hi'⟩⟩ := K
 have hrest : lookupAlong vbm n = pure y := by rw [typeLookup_eq, PySem.F.excBase_ValueError.mroIs] at hB; exact hB
 rw [typeLookup_eq]
 refine wpAny_bind (wpAny_mroOf_exc hC ?_)
 rw [lookupAlong_cons]
 refine wpAny_bind (wpAny_classOwn_exc hC hN ?_)
 rw [hqn n hn]
 show wpAny _ _ (lookupAlong (.ref NE :: vbm) n) _ _ _
 rw [lookupAlong_cons]
 refine wpAny_bind (wpAny_classOwn_exc hC' hN' ?_)
 rw [hqn' n hn]
 show wpAny _ _ (lookupAlong vbm n) _ _ _
 rw [hrest]
 exact wpAny_pure hq
theorem Kid.sub {base : Value} {Q : Bool -> Shared -> Prop} (K : Kid h C NE) (hq : Q ((Value.ref C :: .ref NE :: vbm).contains base) ⟨h, g, d, t, os⟩) : wpAny M A (isSubtype (.ref C) base) Q E ⟨h, g, d, t, os⟩ := by
 obtain ⟨⟨ini, nm, q, N, bs, sn, sub, ab, col, dd, k0, k1, k2, k3, k5, mN, hC, _⟩, _⟩ := K
 exact wpAny_isSubtype_exc hC hq
theorem Kid.obj (K : Kid h C NE) : ∃ o cd, h.get? C = some o /\ o.cls = .type "type" /\ o.data = .cls cd := by
 obtain ⟨⟨ini, nm, q, N, bs, sn, sub, ab, col, dd, k0, k1, k2, k3, k5, mN, hC, _⟩, _⟩ := K
 exact ⟨_, _, hC, rfl, rfl⟩
end
theorem zlh : typeLookup (.type "ValueError") "__class__" = pure (some (.builtin "object.__class__")) := by rw [typeLookup_type, builtinLookup_eq_fast]; kernel_rfl
section
variable {prog : Program} {w : World} {A : Around} {E : Value -> Shared -> Prop} {h : Heap} {g : Array GenState} {d : Drawn} {t : Nat} {os : OsState} {a C NE : Addr} {o : Obj}
theorem zij {R : Result -> Shared -> Prop} (K : Kid h C NE) (hx : h.get? a = some o) (hc : o.cls = .ref C) (hq : R (.ok (.ret (.ref C))) ⟨h, g, d, t, os⟩) :
  codeAny (model prog w) A (.call (.builtin "getset_descriptor.__get__") ⟨[.builtin "object.__class__", .ref a, .ref C], []⟩) R ⟨h, g, d, t, os⟩ := by
 have hT5 : (⟨h, g, d, t, os⟩ : Shared).TypeIs (.builtin "object.__class__") "getset_descriptor" := F.typeOf_object_class
 have hcB : (Value.ref C :: .ref NE :: vbm).contains (.type (".".intercalate ("object.__class__".cutAt '.').dropLast)) = true := by
  rw [F.owner_object_class]; rfl
 refine codeAny_call_builtin F.slot_gs_get.plain F.entry_gs_get (F.slot_gs_get.check _ _ _ _ _ _ _ _ hT5 (F.args_gs_get _ _ _) ?_)
 repeat (any_goals (first | assumption | (with_reducible refine wpAny_loadPart_at hx ?_; rw [hc]) | (with_reducible refine K.sub ?_; rw [hcB]) | wp_step))
 refine ⟨Code.quiet_builtin _ (by decide +kernel), codeAny_builtin F.entry_object_class ?_⟩
 repeat (any_goals (first | assumption | (with_reducible refine wpAny_loadPart_at hx ?_; rw [hc]) | wp_step))
theorem zhf {tk : Tok} {Q : Fin -> Shared -> Prop} (K : Kid h C NE) (hx : h.get? a = some o) (hc : o.cls = .ref C) (hq : Q (.done (.ret (.ref C))) ⟨h, g, d, t, os⟩) :
  wpAny (model prog w) A (Builtin.«object.__getattribute__» ⟨[.ref a, .str "__class__" tk], []⟩) Q E ⟨h, g, d, t, os⟩ := by
 have hT5 : (⟨h, g, d, t, os⟩ : Shared).TypeIs (.builtin "object.__class__") "getset_descriptor" := F.typeOf_object_class
 have f5 := F.typeOf_object_class
 have f6 := F.slot_gs_get.lookup
 have f7 := F.slot_gs_set.lookup
 have hm : ("__class__" : Str) ∈ zc2 := .tail _ (.tail _ (.head _))
 repeat (any_goals (first | assumption | (with_reducible refine wpAny_loadPart_at hx ?_; rw [hc]) | with_reducible refine K.lookup hm zlh ?_ | wp_step))
 refine zij K hx hc ?_
 repeat (any_goals (first | assumption | wp_step))
theorem zgi {M : Model} {nameV : Value} {Q : Unit -> Shared -> Prop} (K : Kid h C NE) (hx : h.get? a = some o) (hc : o.cls = .ref C) (hq : Q () ⟨h, g, d, t, os⟩) : wpAny M A (checkBuiltinCall "BaseException.__getattribute__" ⟨[.ref a, nameV], []⟩) Q E ⟨h, g, d, t, os⟩ := by
 have hk : builtinKind "BaseException.__getattribute__" = some .slot := by decide +kernel
 have hsplit : splitId "BaseException.__getattribute__" = some ("BaseException", "__getattribute__") := by decide +kernel
 have hcB : (Value.ref C :: .ref NE :: vbm).contains (.type "BaseException") = true := rfl
 have ha := F.args_bexc_ga (.ref a) nameV
 simp only [checkBuiltinCall, hk, hsplit]
 refine wpAny_bind ?_
 unfold isInstance
 repeat (first | (with_reducible refine wpAny_loadPart_at hx ?_; rw [hc]) | (with_reducible refine K.sub ?_; rw [hcB]) | wp_step)
 exact hq
theorem zj3 {tk : Tok} {fill expr : Bool} {Q : Value -> Shared -> Prop} (K : Kid h C NE) (hx : h.get? a = some o) (hc : o.cls = .ref C) (hq : Q (.ref C) ⟨h, g, d, t, os⟩) :
  wpAny (model prog w) A (getAttrBy (.ref a) (.str "__class__" tk) fill expr) Q E ⟨h, g, d, t, os⟩ := by
 have FB := PySem.F.attrBase_ValueError
 have f3 := FB.ga.bind (.ref a)
 have hx0 : (expr && onTheHeap (Value.builtin "BaseException.__getattribute__")) = false := by cases expr <;> rfl
 have hx2 : (Value.builtin "BaseException.__getattribute__" == Value.builtin "object.__getattribute__") = false := by decide +kernel
 have hx1 : (onTheHeap (Value.ref C) && Value.builtin "BaseException.__getattribute__" == Value.builtin "object.__getattribute__") = false := by rw [hx2]; rfl
 have hm1 : ("__getattribute__" : Str) ∈ zc2 := .head _
 have hm2 : ("__getattr__" : Str) ∈ zc2 := .tail _ (.head _)
 repeat (any_goals (first | assumption | (with_reducible refine wpAny_loadPart_at hx ?_; rw [hc]) | with_reducible refine K.lookup hm1 FB.ga.lookup ?_ | with_reducible refine K.lookup hm2 FB.noGetattr ?_ | wp_step))
 refine codeAny_call_builtin FB.ga.plain F.entry_bexc_ga (zgi K hx hc (zhf K hx hc ?_))
 repeat (any_goals (first | assumption | wp_step))
theorem zhw {Q : Option Value -> Shared -> Prop} (K : Kid h C NE) (hx : h.get? a = some o) (hc : o.cls = .ref C) (hq : Q (some (.ref C)) ⟨h, g, d, t + 1, os⟩) : wpAny (model prog w) A (getAttr? (.ref a) "__class__") Q E ⟨h, g, d, t, os⟩ := by
 unfold getAttr? getAttrBy?
 repeat (any_goals (first | assumption | with_reducible apply zj3 K hx hc | wp_step))
end
end Bn
namespace Bn
open PySem PyProof.Rows
set_option maxRecDepth 100000
section
variable {prog : Program} {w : World} {A : Around} {E : Value -> Shared -> Prop} {h : Heap} {g : Array GenState} {d : Drawn} {t : Nat} {os : OsState} {a C NE D : Addr} {o : Obj}
theorem zls {dep : Int} {tk : Tok} {Q : Fin -> Shared -> Prop} (hx : h.get? a = some o) (hc : o.cls = .ref C) (hq : Q (.done (.ret (.bool true))) ⟨h, g, d, t, os⟩) :
  wpAny (model prog w) A (Builtin.«isinstance.nested» ⟨[.ref a, .ref C, .int dep tk], []⟩) Q E ⟨h, g, d, t, os⟩ := by
 have e : (Value.ref C == Value.ref C) = true := beq_self_eq_true _
 repeat (any_goals (first | assumption | (with_reducible refine wpAny_loadPart_at hx ?_; rw [hc]) | simp only [e, if_true] | wp_step))
theorem zpf {dep : Int} {tk : Tok} {Q : Fin -> Shared -> Prop} (K : Kid h C NE) (hx : h.get? a = some o) (hc : o.cls = .ref C) (hq : Q (.done (.ret (.bool true))) ⟨h, g, d, t, os⟩) :
  wpAny (model prog w) A (Builtin.«isinstance.nested» ⟨[.ref a, .type "ValueError", .int dep tk], []⟩) Q E ⟨h, g, d, t, os⟩ := by
 have hty : typeOf (.type "ValueError") = pure (.type "type") := by rfl
 have hcB : (Value.ref C :: .ref NE :: vbm).contains (.type "ValueError") = true := rfl
 repeat (any_goals (first | assumption | (with_reducible refine wpAny_loadPart_at hx ?_; rw [hc]) | (with_reducible refine K.sub ?_; rw [hcB]) | wp_step))
theorem zn6 {dep : Int} {tk : Tok} {Q : Fin -> Shared -> Prop} (K : Kid h C NE) (KD : Kid h D NE) (hne : C ≠ D) (hnn : NE ≠ D) (hx : h.get? a = some o) (hc : o.cls = .ref C) (hq : Q (.done (.ret (.bool false))) ⟨h, g, d, t + 1, os⟩) :
  wpAny (model prog w) A (Builtin.«isinstance.nested» ⟨[.ref a, .ref D, .int dep tk], []⟩) Q E ⟨h, g, d, t, os⟩ := by
 obtain ⟨oD, cdD, hD, hDc, hDd⟩ := KD.obj
 obtain ⟨oC, cdC, hC, hCc, hCd⟩ := K.obj
 have e : (Value.ref C == Value.ref D) = false := beq_eq_false_iff_ne.mpr fun q => hne (Value.ref.inj q)
 have e2 : (Value.ref NE == Value.ref D) = false := beq_eq_false_iff_ne.mpr fun q => hnn (Value.ref.inj q)
 have hcB : (Value.ref C :: .ref NE :: vbm).contains (.ref D) = false := by
  rw [List.contains_cons, List.contains_cons, show (Value.ref D == Value.ref C) = false from beq_eq_false_iff_ne.mpr fun q => hne (Value.ref.inj q).symm, show (Value.ref D == Value.ref NE) = false from beq_eq_false_iff_ne.mpr fun q => hnn (Value.ref.inj q).symm]; rfl
 repeat (any_goals (first | assumption | (with_reducible refine wpAny_loadPart_at hx ?_; rw [hc]) | (with_reducible refine wpAny_loadPart_at hD ?_; rw [hDc]) | (with_reducible refine wpAny_loadPart_at hD ?_; rw [hDd]) | (with_reducible refine wpAny_loadPart_at hC ?_; rw [hCd]) | (with_reducible refine K.sub ?_; rw [hcB]) | with_reducible apply zhw K hx hc | simp only [e, zbn, if_false] | wp_step))
end
end Bn
namespace Bn
open PySem PyProof.Rows
set_option maxRecDepth 100000
inductive ExcOk (c : Cx) : Prop
 | mk (NE : Addr) (hn : c.g (Str.ofString "NetError") = some (.ref NE)) (net : ClsAt c.h0 NE vbm none) (kid : ∀ cn ∈ kids, ∃ C ini, c.g cn = some (.ref C) /\ C ≠ NE /\ ClsAt c.h0 C (.ref NE :: vbm) ini /\ (cn ≠ Str.ofString "BadNet" -> ini = none))
   (inj : ∀ cn ∈ kids, ∀ dn ∈ kids, c.g cn = c.g dn -> cn = dn) (ve : c.g (Str.ofString "ValueError") = none /\ c.b (Str.ofString "ValueError") = some (.type "ValueError")) : ExcOk c
section
variable {prog : Program} {w : World} {A : Around} {E : Value -> Shared -> Prop} {s : Shared} {a C NE D : Addr} {o : Obj} {Q : Value -> Shared -> Prop}
theorem isi_same (hx : s.heap.get? a = some o) (hc : o.cls = .ref C) (hq : Q (.bool true) s) : wpAny (model prog w) A (call (.builtin "isinstance") [.ref a, .ref C]) Q E s := by
 obtain ⟨h, g, d, t, os⟩ := s
 exact call_isinstance_of (zls hx hc hq) (by intro e; cases e)
theorem isi_ve (K : Kid s.heap C NE) (hx : s.heap.get? a = some o) (hc : o.cls = .ref C) (hq : Q (.bool true) s) : wpAny (model prog w) A (call (.builtin "isinstance") [.ref a, .type "ValueError"]) Q E s := by
 obtain ⟨h, g, d, t, os⟩ := s
 exact call_isinstance_of (zpf K hx hc hq) (by intro e; cases e)
theorem isi_not (K : Kid s.heap C NE) (KD : Kid s.heap D NE) (hne : C ≠ D) (hnn : NE ≠ D) (hx : s.heap.get? a = some o) (hc : o.cls = .ref C) (hq : Q (.bool false) { s with toks := s.toks + 1 }) : wpAny (model prog w) A (call (.builtin "isinstance") [.ref a, .ref D]) Q E s := by
 obtain ⟨h, g, d, t, os⟩ := s
 exact call_isinstance_of (zn6 K KD hne hnn hx hc hq) (by intro e; cases e)
theorem exm_kid {M : Model} {Q : Bool -> Shared -> Prop} (K : Kid s.heap C NE) (hx : s.heap.get? a = some o) (hc : o.cls = .ref C) (hq : Q true s) : wpAny M A (excMatches (.ref a) (.ref NE)) Q E s := by
 obtain ⟨h, g, d, t, os⟩ := s
 have hcN : (Value.ref C :: .ref NE :: vbm).contains (.ref NE) = true := by rw [List.contains_cons, List.contains_cons, beq_self_eq_true, Bool.true_or, Bool.or_true]
 have f := tc_notTuple
 obtain ⟨nm', q', N', bs', sn', sub', ab', col', dd', k0', k1', k2', k3', k5', mN', hC', hN', hqn', hi'⟩ := K.net
 have hcB : (Value.ref NE :: vbm).contains (.type "BaseException") = true := rfl
 unfold excMatches
 repeat (first | (with_reducible refine wpAny_loadPart_at hx ?_; rw [hc]) | with_reducible refine wpAny_loadPart_at hC' ?_ | (with_reducible refine wpAny_isSubtype_exc hC' ?_; rw [hcB]) | (with_reducible refine K.sub ?_; rw [hcN]) | wp_step)
 exact hq
end
section
variable {c : Cx} {A : Around} {q : Bool} {d : Nat} {φ : List Addr} {H H' : Hp} {s : Shared}
inductive ClsV (c : Cx) (p : Str) (cv : Value) : Prop
 | kid (h1 : p ∈ kids) (h2 : c.g p = some cv) : ClsV c p cv
 | ve (h1 : p = Str.ofString "ValueError") (h2 : cv = .type "ValueError") : ClsV c p cv
theorem zre {v : V} {e : Str} (h : excOf v = some e) : ∃ y, v = .exc e y := by
 cases v with
 | exc cn y => obtain rfl := zaa h; exact ⟨y, rfl⟩
 | _ => cases h
theorem zh3 (X : ExcOk c) (S : Sim c φ H s) {v : V} {x cv : Value} {p : Str} {b : Bool} (R : Rep c φ s.heap v x) (hcv : ClsV c p cv) (e : isiV v (.own p) = some b) : Does c A φ s (call (.builtin "isinstance") [x, cv]) (.bool b) H := by
 intro E
 obtain ⟨NE, hn, net, kid, inj, _⟩ := X
 obtain ⟨cn, h1, h2⟩ := zab.mp e
 obtain ⟨y, rfl⟩ := zre h1
 obtain ⟨⟨hm, _⟩, rfl⟩ := iteS h2
 obtain ⟨a, o, vs, rfl, ha, h0, ho, ⟨C, hC⟩, hg, hd, _⟩ := R
 obtain ⟨C', ini, g', hne, K', _⟩ := kid cn hm
 rw [hg, hC] at g'
 cases g'
 have K : Kid s.heap C NE := ⟨⟨ini, K'.keeps S.stays⟩, net.keeps S.stays⟩
 cases hcv with
 | ve h3 h4 =>
  subst h3 h4
  rw [decide_eq_true (.inr rfl)]
  exact isi_ve K ho hC (Out.same' S rB)
 | kid h3 h4 =>
  have hnv : p ≠ Str.ofString "ValueError" := fun q => by rw [q] at h3; revert h3; decide
  obtain ⟨D, ini', g', hne', KD, _⟩ := kid p h3
  rw [h4] at g'
  cases g'
  by_cases hp : cn = p
  ·subst hp
   rw [hg, hC] at h4
   cases h4
   rw [decide_eq_true (.inl rfl)]
   exact isi_same ho hC (Out.same' S rB)
  ·rw [decide_eq_false (fun q => q.elim hp hnv)]
   exact isi_not K ⟨⟨ini', KD.keeps S.stays⟩, net.keeps S.stays⟩ (fun q => hp (inj cn hm p h3 (by rw [hg, hC, h4, q]))) (Ne.symm hne') ho hC (Out.same S rB)
end
section
variable {c : Cx} {env : Env} {res : Res} {X : List Addr}
theorem zi1 {p p' pos : Pos} {e : Expr} {x : Ex} {t : Str} (O : c.Ok) (XO : ExcOk c) (ht : t ∈ kids \/ t = Str.ofString "ValueError") (hk : env.kindOf (Str.ofString "isinstance") = some .globalImplicit) (hk' : env.kindOf t = some .globalImplicit)
  (hg : c.g (Str.ofString "isinstance") = none) (hb : c.b (Str.ofString "isinstance") = some (.builtin "isinstance"))
  (hx : (t == ("__debug__" : Str)) = false) (hn : zcb e = true) (h : zb3 c env res e x) : zb3 c env res (.Call (.Name (Str.ofString "isinstance") p) [e, .Name t p'] [] pos) (.isi x (.own t)) := fun A q d k loc φ H s Q E hA hF hS hw => by
 show wpAny _ _ (eval (.Name (Str.ofString "isinstance") p) env >>= fun fv => callWith pos fv [] (backTo pos (starEach [e, .Name t p'] env)) []) _ _ _
 refine wpAny_bind (Calls.Name_function_global hF.fn hk (Calls.loadGlobal_builtin (by rw [hF.gl]; exact O.gl.keeps hS.stays) hg (by rw [hF.bl]; exact O.bl.keeps hS.stays) hb ?_))
 rw [zcx hn]
 refine zcg (by intro a h; cases h) rfl (Calls.evalArgs_plain (Calls.spliced_cons (wpAny_mono (h A q d k loc φ H s _ E hA hF hS hw) ?_ fun _ _ h => h)))
 rintro r s₁ ⟨φ₁, H₁, v₁, e₁, S₁, R₁, w₁⟩
 obtain ⟨b, hbb, w₂⟩ := Opt.inv w₁
 clear w₁
 rcases ht with ht | ht
 ·obtain ⟨NE, hne, net, kid, inj, ve⟩ := id XO
  obtain ⟨C, ini, g', _⟩ := kid t ht
  refine Calls.spliced_cons (Calls.Name_function_global hF.fn hk' (Calls.loadGlobal_global (by rw [hF.gl]; exact O.gl.keeps S₁.stays) g' (Calls.spliced_nil ?_)) hx)
  exact (zh3 XO S₁ R₁ (.kid ht g') hbb).use e₁ w₂
 ·obtain ⟨NE, hne, net, kid, inj, ve⟩ := id XO
  subst ht
  refine Calls.spliced_cons (Calls.Name_function_global hF.fn hk' (Calls.loadGlobal_builtin (by rw [hF.gl]; exact O.gl.keeps S₁.stays) ve.1 (by rw [hF.bl]; exact O.bl.keeps S₁.stays) ve.2 (Calls.spliced_nil ?_)) hx)
  exact (zh3 XO S₁ R₁ (.ve rfl rfl) hbb).use e₁ w₂
theorem xrep_new {φ φ₀ : List Addr} {H : Hp} {s₀ s : Shared} {cn : Str} {C e : Addr} {h' : Heap} {args : List Value} (e₁ : Ext [] φ₀ s₀ φ s) (S : Sim c φ H s) (hg : c.g cn = some (.ref C)) (hb : cn ≠ Str.ofString "BadNet") (hm : Heap.MadeExcOf s.heap h' e (.ref C) args) : XRep c φ s₀ h' (.exc cn .none) (.ref e) := by
 obtain ⟨t, ht, _, _⟩ := hm.there
 have hφ : e ∉ φ := fun q => by
  obtain ⟨o, ho, _⟩ := S.isList q
  rw [hm.new] at ho; cases ho
 have h0 : c.h0.get? e = none := by
  cases q : c.h0.get? e with
  | none => rfl
  | some o => have := S.stays e o q; rw [hm.new] at this; cases this
 exact ⟨⟨e, _, _, rfl, hφ, h0, ht, ⟨C, rfl⟩, hg, rfl, fun q => absurd q hb⟩, ⟨_, _, rfl⟩, e, _, _, rfl, e₁.fresh S hm.new, ht, rfl, .inl rfl⟩
theorem znu {cn : Str} {es : List Expr} {xs : List Ex} {np cpos pos : Pos} (O : c.Ok) (XO : ExcOk c) (hX : EnvX allY env X) (hm : cn ∈ kids) (hb : cn ≠ Str.ofString "BadNet") (hk : env.kindOf cn = some .globalImplicit) (hdb : (cn == ("__debug__" : Str)) = false) (h : zdn c env res es xs) (hne : es ≠ []) (hz : xs.length <= 9) :
  zcu c env res X (.Raise (some (.Call (.Name cn np) es [] cpos)) none pos) (.rais cn xs) := fun A q d k loc φ H s Q E hA hh hF hS hw => by
 obtain ⟨rfl, hw⟩ := hw
 obtain ⟨NE, hn, net, kid, inj, _⟩ := XO
 obtain ⟨C, ini, hg, hCN, K, hini⟩ := kid cn hm
 obtain rfl := hini hb
 obtain ⟨nm, q, N, bs, sn, sub, ab, col, dd, k0, k1, k2, k3, k5, mN, hC, hN, hq, hi⟩ := K
 obtain ⟨nm', q', N', bs', sn', sub', ab', col', dd', k0', k1', k2', k3', k5', mN', hC', hN', hq', hi'⟩ := net
 refine wpAny_Raise_call_subT (nm := nm) (q := q) (C := C) (N := N) (bs := bs) (hdct := true) (sn := sn) (sub := sub) (ab := ab) (col := col) (dd := dd) (k0 := k0) (k1 := k1) (k2 := k2) (k3 := k3) (k5 := k5) (bm := .ref NE :: vbm) (mN := mN) PySem.F.excBase_ValueError rfl (hA.hd rfl) (zeq h.1.1) hi (Calls.Name_function_global hF.fn hk (Calls.loadGlobal_global (by rw [hF.gl]; exact O.gl.keeps hS.stays) hg ⟨rfl, ?_⟩) hdb)
 refine wpAny_mono (zf2 h hne hA hF hS hw) ?_ fun _ _ h => OutX.no h
 rintro _ s₁ ⟨rs, rfl, φ₁, H₁, vs, e₁, S₁, R₁, l₁, w₁⟩
 refine ⟨rfl, ?_, S₁.stays _ _ hC, hN.keeps S₁.stays, .own (S₁.stays _ _ hC') (hN'.keeps S₁.stays) hi' .base, fun h' e hme => ?_⟩
 ·show rs.length <= sizeLine
  rw [RepL.length R₁, l₁]; exact zac hz (by decide)
 ·have e₂ : Ext [] φ₁ s₁ φ₁ { s₁ with heap := h' } := Ext.of_keeps hme.keeps rfl
  have w₂ : E (.exc cn .none) loc H₁ := by
   have : atOf cn vs = .none := if_neg hb
   rw [this] at w₁; exact w₁
  exact ⟨φ₁, H₁, loc, _, hF.weak hX (e₁.trans e₂), S₁.keeps (s' := { s₁ with heap := h' }) hme.keeps rfl, hF.mono (e₁.trans e₂), xrep_new e₁ S₁ hg hb hme, w₂⟩
end
end Bn
namespace Bn
open PySem PyProof.Rows
set_option maxRecDepth 100000
section
variable {c : Cx} {env : Env} {res : Res} {k : Clo} {loc : Loc} {φ : List Addr} {H : Hp} {s : Shared} {X : List Addr}
theorem zqm {A : Around} {E : Value -> Shared -> Prop} {x : Str} {i : Nat} {v : V} (F : FSim c env res k loc φ s.heap) (S : Sim c φ H s) (P : SlotPut res res x i) (hXL : env.locals ∈ X) (hk : env.kindOf x = some .local) (hi : loc.getD i none = some v) (hxi : res.lookup x = some i) :
  wpAny (model c.prog c.w) A (deleteName env x) (fun _ s' => Stored c env res k (loc.set i none) φ H X s s') E s := by
 obtain ⟨m, ⟨hn, oL, hoL, hcL⟩, hsl, hjo⟩ := F.ns
 have hx := hsl x i hxi
 rw [hi] at hx
 unfold zef at hx
 rw [hk] at hx
 have hsome : (m x).isSome = true := by
  cases hx with
  | yes _ r h1 _ => rw [h1]; rfl
 have hp : (env.scope.kind == .class || (env.scope.kind == .module && env.locals != env.globals)) = false := by rw [F.fn]; rfl
 unfold deleteName
 simp only [hk, hp]
 rw [if_neg (by decide)]
 refine wpAny_bind (nsDelK (T := oL.cls) ⟨hn, oL, hoL, rfl⟩ fun h' m' hn' hsm hs' hdk => ?_)
 rw [hsome]
 simp only [Bool.not_true, zbn, if_false]
 refine wpAny_pure ?_
 obtain ⟨hn', o', ho', hcls'⟩ := hn'
 have hnf : ∀ o vs, s.heap.get? env.locals = some o -> o.data ≠ .fields vs := fun o vs ho hd => by
  obtain ⟨o1, es1, n1, h1, h2, _⟩ := hn
  obtain rfl := zaa (ho.symm.trans h1)
  rw [h2] at hd; cases hd
 have hdd : ∀ o es n, s.heap.get? env.locals = some o -> o.data = .dict es n -> ∃ o' es' n', h'.get? env.locals = some o' /\ o'.data = .dict es' n' /\ DKo o o' := fun o es n ho _ => by
  obtain ⟨o1, es1, n1, h1, h2, _⟩ := hn'
  obtain rfl := zaa (ho'.symm.trans h1)
  obtain rfl := zaa (hoL.symm.trans ho)
  exact ⟨o', es1, n1, ho', h2, hdk _ _ hoL ho'⟩
 have hcL' : ∀ y ca, env.cells.lookup y = some ca -> ca ≠ env.locals := fun y ca hy q => by
  obtain ⟨_, _, o1, h1, h2⟩ := F.cells y ca hy
  rw [q] at h1
  obtain rfl := zaa (hoL.symm.trans h1)
  rcases hcL with h | h
  ·rw [h2] at h; exact absurd h.1 (by decide)
  ·rw [h2] at h; exact absurd h.1 (by decide)
 have cs : ∀ z ca, env.cells.lookup z = some ca -> ca ∉ [env.locals] /\ CellAt c φ s.heap ca := fun z ca hz => ⟨fun q => hcL' z ca hz (zai.mp q), F.cells z ca hz⟩
 refine zk8 (ov := none) (m := m') (t := s.toks) F S P hs' hdd hnf ⟨o', ho'⟩ (fun o ho => zjg F ho) F.L0 F.Lφ hXL ⟨hn', o', ho', ?_⟩ ?_ (fun y j hy hj kp ow => ?_) (fun kk z hz kp ow => ?_) fun y ca hy => ?_
 ·rcases hcL with h | h
  ·exact .inl ⟨hcls'.trans h.1, h.2⟩
  ·refine .inr ⟨hcls'.trans h.1, ?_, h.2.2⟩
   rcases P.na with hat | h2
   ·rw [hsm _ (Ne.symm hat)]; exact h.2.1
   ·rw [h.2.2] at h2; cases h2
 ·unfold zef
  rw [hk]
  exact .no
 ·have hsy := (hsl y j hj).mono (s := s) (s' := { s with heap := h' }) kp ow cs
  exact zor.imp hsy (fun _ h => by rw [hsm y hy]; exact h) id
 ·obtain ⟨h3, fv, h4, h5⟩ := hjo kk z hz
  exact ⟨h3, fv, by rw [hsm _ (Ne.symm P.nj)]; exact h4, h5.mono (s := s) (s' := { s with heap := h' }) kp ow fun ca o ho _ hlt q => absurd (zai.mp q) (zao hlt)⟩
 ·obtain ⟨h1, h2, o1, h3, h4, h5⟩ := F.cells y ca hy
  exact ⟨h1, h2, o1, (hs'.2 ca (hcL' y ca hy)).trans h3, h4, h5⟩
theorem zqx {A : Around} {E : Value -> Shared -> Prop} {x : Str} {i : Nat} {pos : Pos} (F : FSim c env res k loc φ s.heap) (S : Sim c φ H s) (hX : EnvX allY env X) (P : StoreOk allY env res res x i) (hk : env.kindOf x = some .local) (hxi : res.lookup x = some i) :
  wpAny (model c.prog c.w) A (do bindName env x .none; unbindBehindTheSuite env x pos) (fun _ s' => Stored c env res k (loc.set i none) φ H X s s') E s := by
 refine wpAny_bind (wpAny_bindName (wpAny_mono (zd4 F S P hX (rN (h := s.heap))) ?_ fun _ _ h => h))
 rintro _ s₁ ⟨F₁, S₁, e₁, k₁⟩
 unfold unbindBehindTheSuite
 refine wpAny_onRaise ?_
 unfold unbindName
 refine wpAny_bind (wpAny_point (wpAny_bind (wpAny_mono (zqm (X := X) F₁ S₁ P.toSlotPut hX.loc hk (v := .none) ?_ hxi) ?_ fun _ _ h => h)))
 ·exact zjr (zav P.lt F.len)
 ·rintro _ s₂ ⟨F₂, S₂, e₂, k₂⟩
  rw [List.set_set] at F₂
  exact wpAny_point ⟨F₂, S₂, e₁.trans e₂, k₁.trans k₂⟩
theorem XRep.obj {φ : List Addr} {s₀ : Shared} {h : Heap} {x : V} {e : Value} (R : XRep c φ s₀ h x e) (hk : kidX x = true) : ∃ cn y a o C, x = .exc cn y /\ cn ∈ kids /\ e = .ref a /\ h.get? a = some o /\ o.cls = .ref C /\ c.g cn = some (.ref C) := by
 obtain ⟨R, ⟨cn, y, rfl⟩, _⟩ := R
 obtain ⟨a, o, vs, rfl, _, _, ho, ⟨C, hC⟩, hg, _, _⟩ := R
 exact ⟨cn, y, a, o, C, rfl, of_decide_eq_true hk, rfl, ho, hC, by rw [hg, hC]⟩
theorem zp6 {b hs : List Stmt} {h₀ : Stmt} {xb xh : List St} {n : Str} {i : Nat} {np hp pos : Pos} (O : c.Ok) (XO : ExcOk c) (hX : EnvX allY env X) (hb : zc1 c env res X b xb) (hh : zc1 c env res X (h₀ :: hs) xh)
  (hkN : env.kindOf (Str.ofString "NetError") = some .globalImplicit) (P : StoreOk allY env res res n i) (hk : env.kindOf n = some .local) (hxi : res.lookup n = some i) :
  zcu c env res X (.Try b [.ExceptHandler (some (.Name (Str.ofString "NetError") np)) (some n) (h₀ :: hs) hp] [] [] pos) (.tri xb i xh) := fun A q d k loc φ H s Q E hA hH hF hS hw => by
 obtain ⟨rfl, hw⟩ := hw
 refine wpAny_Try_except (wpAny_mono (hb A true d k loc φ H s _ _ hA hH hF hS hw) ?_ ?_)
 ·rintro f s₁ ⟨φ₁, H₁, l₁, e₁, S₁, F₁, w₁⟩
  cases f with
  | next => exact wpAny_execs_nil ⟨φ₁, H₁, l₁, e₁, S₁, F₁, w₁⟩
  | ret r => exact ⟨φ₁, H₁, l₁, e₁, S₁, F₁, w₁⟩
  | _ => exact w₁.elim
 ·rintro e s₁ ⟨φ₁, H₁, l₁, x, e₁, S₁, F₁, R₁, hkx, w₁⟩
  obtain ⟨outer, hfr⟩ := id hH
  have hE : ∀ e ∈ env :: outer, EnvOk c φ₁ s₁.heap e := by
   obtain ⟨l', h1, h2⟩ := (hA.monoX e₁).fr
   rw [hfr] at h1; cases h1; exact h2
  refine wpAny_mono (zf5 hfr hE S₁ e₁ R₁) ?_ fun _ _ h => h
  rintro _ s₂ ⟨xs, hx, hn, n₂, R₂, ht⟩
  have e₂ := e₁.noted n₂ hn
  have S₂ := S₁.noted n₂ hx
  have F₂ := F₁.noted n₂ hx
  clear hx hn n₂ S₁ F₁ R₁ e₁ hE
  refine wpAny_mono (zeo R₂ ht) ?_ fun _ _ h => h
  rintro _ s₃ ⟨xs, hx, hn, n₃, R₃, ht₃⟩
  have e₃ := e₂.noted n₃ hn
  have S₃ := S₂.noted n₃ hx
  have F₃ := F₂.noted n₃ hx
  clear hx hn n₃ S₂ F₂ R₂ e₂ ht
  obtain ⟨cn, y, a, o, C, rfl, hm, rfl, ho, hC, hg⟩ := R₃.obj hkx
  obtain ⟨NE, hNE, net, kid, inj, _⟩ := XO
  obtain ⟨C', ini, g', _, K', _⟩ := kid cn hm
  rw [hg] at g'
  cases g'
  have K : Kid s₃.heap C NE := ⟨⟨ini, K'.keeps S₃.stays⟩, net.keeps S₃.stays⟩
  refine wpAny_handleBy_cons (codeAny_handlers_test (Calls.Name_function_global F₃.fn hkN (Calls.loadGlobal_global (by rw [F₃.gl]; exact O.gl.keeps S₃.stays) hNE ?_))) (by intro q; cases q)
  refine exm_kid K ho hC ?_
  rw [if_pos rfl]
  refine codeAny_handlers_suite_as (wpAny_mono (zeo R₃ ht₃) ?_ fun _ _ h => h)
  rintro _ s₄ ⟨xs, hx, hn, n₄, R₄, _⟩
  have e₄ := e₃.noted n₄ hn
  have S₄ := S₃.noted n₄ hx
  have F₄ := F₃.noted n₄ hx
  obtain ⟨R₄, _⟩ := R₄
  refine wpAny_mono (zd4 F₄ S₄ P hX R₄) ?_ fun _ _ h => h
  rintro _ s₅ ⟨F₅, S₅, e₅, _⟩
  have e₀₅ := e₄.trans e₅
  have hA₅ := hA.monoX e₀₅
  have hA' : OkF c (A.mark (some (.ref a))) false d φ₁ s₅.heap := ⟨⟨hA₅.dep, hA₅.un, (fun h => nomatch h), hA₅.fr⟩, hA₅.ne⟩
  refine wpAny_mono (hh (A.mark (some (.ref a))) false d k _ φ₁ H₁ s₅ _ _ hA' ⟨outer, hfr⟩ F₅ S₅ w₁) ?_ fun _ _ h => OutSX.no h
  rintro f s₆ ⟨φ₆, H₆, l₆, e₆, S₆, F₆, w₆⟩
  refine wpAny_mono (zqx F₆ S₆ hX P hk hxi) ?_ fun _ _ h => h
  rintro _ s₇ ⟨F₇, S₇, e₇, _⟩
  refine ⟨φ₆, H₆, _, (e₀₅.trans e₆).trans e₇, S₇, F₇, ?_⟩
  cases f with
  | next => exact w₆
  | ret r => obtain ⟨v, Rv, w⟩ := w₆; exact ⟨v, Rep.mono e₇.toKp (F₆.ownX hX) Rv, w⟩
  | _ => exact w₆.elim
end
end Bn
namespace Bn
open PySem PyProof.Rows
set_option maxRecDepth 100000
section
variable {prog : Program} {w : World} {A : Around} {E : Value -> Shared -> Prop} {h : Heap} {g : Array GenState} {d : Drawn} {t : Nat} {os : OsState}
variable {nm q : Str} {C N : Addr} {bs bm bmB : List Value} {hdct : Bool} {sn : List Str} {sub : List Value} {ab : Bool} {col : Option Bool} {dd : Option Addr} {k0 k1 k2 k3 k5 : Option Value} {B newId initId : String}
theorem zhx (F : ExcBaseFacts B newId initId bmB) (T : OwnTail h bmB bm) {mN : Str -> Option Value} {rest : List Value} {fI : Addr} {oI : Obj} {Q : Fin -> Shared -> Prop}
  (hC : h.get? C = some (excClassObj nm q C N bs bm hdct sn sub ab col dd k0 k1 k2 k3 k5 newId)) (hn : h.Ns N mN) (hi : mN "__init__" = some (.ref fI)) (hfI : h.get? fI = some oI) (hfc : oI.cls = .type "function")
  (hq : ∀ h' e, Heap.MadeExcOf h h' e (.ref C) rest -> wpAny (model prog w) A (call (.ref fI) (.ref e :: rest)) (fun r s' => r = .none /\ Q (.done (.ret (.ref e))) s') E ⟨h', g, d, t, os⟩) (hrest : rest.length <= sizeLine) :
  wpAny (model prog w) A (Builtin.«type.__call__» ⟨.ref C :: rest, []⟩) Q E ⟨h, g, d, t, os⟩ := by
 repeat (first | with_reducible refine wpAny_loadPart_at hC ?_ | with_reducible refine wpAny_madeBy_exc hC ?_ | wp_step)
 refine codeAny_call_builtin_code (Code.quiet_builtin _ F.quiet) (wpAny_check_new_subT F T hC ?_)
 refine codeAny_exc_new_subT F T hC ?_ hrest
 show wpAny _ _ _ _ _ _
 have hC₁ := Heap.get?_push_of_some { cls := .ref C, data := .fields #[.ref h.objs.size, .none, .none, .none, .bool false, .none] }
  (Heap.get?_push_of_some { cls := .type "tuple", data := .seq rest.toArray } hC)
 have hfI₁ := Heap.get?_push_of_some { cls := .ref C, data := .fields #[.ref h.objs.size, .none, .none, .none, .bool false, .none] }
  (Heap.get?_push_of_some { cls := .type "tuple", data := .seq rest.toArray } hfI)
 have keep : ∀ b o, h.get? b = some o -> ((h.push { cls := .type "tuple", data := .seq rest.toArray }).push { cls := .ref C, data := .fields #[.ref h.objs.size, .none, .none, .none, .bool false, .none] }).get? b = some o :=
  fun b o e => Heap.get?_push_of_some _ (Heap.get?_push_of_some _ e)
 have hn₁ := hn.keeps keep
 have hget : ((h.push { cls := .type "tuple", data := .seq rest.toArray }).push
   { cls := .ref C, data := .fields #[.ref h.objs.size, .none, .none, .none, .bool false, .none] }).get? (h.objs.size + 1) = some
   { cls := .ref C, data := .fields #[.ref h.objs.size, .none, .none, .none, .bool false, .none] } := by heap_get
 have hcC : (Value.ref C :: bm).contains (.ref C) = true := by simp
 have T₁ := T.keeps keep
 unfold isInstance
 repeat (first | with_reducible refine wpAny_loadPart_at hget ?_ | (with_reducible refine wpAny_isSubtype_exc hC₁ ?_; rw [hcC]) | wp_step)
 show wpAny _ _ (typeLookup (.ref C) _) _ _ _
 refine wpAny_typeLookup_tail hC₁ hn₁ T₁ F.mroIs F.init.lookup ?_
 rw [hi]
 refine wpAny_holding (wpAny_bind ?_)
 unfold bindSpecial
 refine wpAny_bind (wpAny_typeOf (T := "function") ⟨_, hfI₁, hfc⟩ ?_)
 rw [if_pos (by decide)]
 refine wpAny_pure (wpAny_bind (wpAny_mono (hq _ (h.objs.size + 1) ⟨keep, Heap.get?_none_of_le (Nat.le_succ _), h.objs.size, hget, Heap.get?_none_of_le (zad _), ?_⟩) (fun r s' hr => ?_) fun _ _ x => x))
 ·exact Heap.get?_push_of_some _ (Heap.get?_push_at rfl rfl)
 ·obtain ⟨rfl, hQ⟩ := hr
  wp_walk
  exact hQ
theorem zp2 (F : ExcBaseFacts B newId initId bmB) (T : OwnTail h bmB bm) {mN : Str -> Option Value} {rest : List Value} {fI : Addr} {oI : Obj} {Q : Value -> Shared -> Prop}
  (hC : h.get? C = some (excClassObj nm q C N bs bm hdct sn sub ab col dd k0 k1 k2 k3 k5 newId)) (hn : h.Ns N mN) (hi : mN "__init__" = some (.ref fI)) (hfI : h.get? fI = some oI) (hfc : oI.cls = .type "function")
  (hq : ∀ h' e, Heap.MadeExcOf h h' e (.ref C) rest -> wpAny (model prog w) (A.under (.builtin "type.__call__" ⟨.ref C :: rest, []⟩)) (call (.ref fI) (.ref e :: rest)) (fun r s' => r = .none /\ Q (.ref e) s') E ⟨h', g, d, t, os⟩) (hrest : rest.length <= sizeLine) :
  wpAny (model prog w) A (call (.ref C) rest) Q E ⟨h, g, d, t, os⟩ := by
 have f1 := tc_lookup
 have f2 := tc_bind (.ref C)
 have hT : (⟨h, g, d, t, os⟩ : Shared).TypeIs (.ref C) "type" := ⟨_, hC, rfl⟩
 refine wpAny_call (codeAny_of_tree ?_)
 show wpAny _ _ (callAny (.ref C) _) _ _ _
 repeat (any_goals (first | assumption | with_reducible refine wpAny_loadPart_at hC ?_ | wp_step))
 refine ⟨rfl, ?_⟩
 refine codeAny_call_builtin_at (Code.quiet_builtin _ (by decide +kernel)) entry_typeCall (wpAny_check_type_call_sub hC (zhx F T hC hn hi hfI hfc (fun h' e hm => ?_) hrest))
 exact hq h' e hm
theorem znk {M : Model} {env : Env} {s : Shared} {x : Sem Value} {Q : Flow -> Shared -> Prop} (hbase : bm.contains (.type "BaseException") = true) (hh : A.handled = none)
  (h : wpAny M A x (fun v s₁ => ∃ e oe, v = .ref e /\ s₁.heap.get? C = some (excClassObj nm q C N bs bm hdct sn sub ab col dd k0 k1 k2 k3 k5 newId) /\ s₁.heap.get? e = some oe /\ oe.cls = .ref C /\ (∃ t, oe.data = .fields #[.ref t, .none, .none, .none, .bool false, .none]) /\ E (.ref e) s₁) E s) :
  wpAny M A (raiseStmt env (some x) none) Q E s := by
 have hcB : (Value.ref C :: bm).contains (.type "BaseException") = true := by rw [List.contains_cons, hbase, Bool.or_true]
 unfold raiseStmt
 refine wpAny_bind (wpAny_mono h (fun v s₁ h₁ => ?_) fun _ _ x => x)
 obtain ⟨e, ⟨oc, od, odt, osl⟩, rfl, hC, he, hc, ⟨vs, hd⟩, hE⟩ := h₁
 obtain rfl : oc = _ := hc
 obtain rfl : odt = _ := hd
 obtain ⟨hp, g, d, tk, os⟩ := s₁
 repeat (first | with_reducible refine wpAny_loadPart_at he ?_ | with_reducible refine wpAny_loadPart_at hC ?_ | (with_reducible refine wpAny_isSubtype_exc hC ?_; rw [hcB]) | wp_step)
 exact wpAny_raiseNew_none hh hE
end
end Bn
namespace Bn
open PySem PySem.W PySem.Calls PyProof.Rows Builtin Builtin.ObjectAttr Builtin.Getset_descriptor
set_option maxRecDepth 100000
section
variable {prog : Program} {w : World} {A : Around} {E : Value -> Shared -> Prop} {s : Shared} {NE : Addr}
theorem f_meta : findIn [] (.type "type") "__init__" = some (some (.builtin "type.__init__")) := by kernel_rfl
theorem f_get : specialIn [] (.builtin "type.__init__") "__get__" = some (some (.builtin "wrapper_descriptor.__get__")) := by kernel_rfl
theorem f_set : specialIn [] (.builtin "type.__init__") "__set__" = some none := by kernel_rfl
theorem f_del : specialIn [] (.builtin "type.__init__") "__delete__" = some none := by kernel_rfl
theorem f_ty : typeIn [] (.builtin "ValueError.__init__") = some (.type "wrapper_descriptor") := by kernel_rfl
theorem f_own : heldUnderItsOwnName "__init__" (.builtin "ValueError.__init__") = false := by decide +kernel
theorem f_hand : handedIn (.builtin "ValueError.__init__") = true := by decide +kernel
theorem f_ga : findIn [] (.type "type") "__getattribute__" = some (some (.builtin "type.__getattribute__")) := by kernel_rfl
theorem f_sub : subIn [] (.type "type") (.type "type") = some true := by kernel_rfl
theorem zfv {h : Heap} : Frag.In [] h := fun _ _ e => nomatch e
theorem ne_run {tk : Tok} {Q : Fin -> Shared -> Prop} (ho : Looks (model prog w) s.heap (opaqueClassAbove (.ref NE)) none) (ht : Looks (model prog w) s.heap (typeOf (.ref NE)) (.type "type"))
  (hl : Looks (model prog w) s.heap (typeLookup (.ref NE) "__init__") (some (.builtin "ValueError.__init__"))) (h : Q (.done (.ret (.builtin "ValueError.__init__"))) s) : wpAny (model prog w) A (Builtin.«type.__getattribute__» ⟨[.ref NE, .str "__init__" tk], []⟩) Q E s := by
 obtain ⟨hh, g, d, t, os⟩ := s
 dsimp only at ho ht hl
 unfold Builtin.«type.__getattribute__»
 refine wpAny_bind (wpAny_pure (wpAny_bind (ho.at (wpAny_bind (ht.at (wpAny_bind ((looks_findIn zfv f_meta).at ?_)))))))
 refine wpAny_bind ((looks_specialIn zfv f_get).at ?_)
 refine wpAny_bind ((looks_specialIn zfv f_set).at (wpAny_bind ((looks_specialIn zfv f_del).at (wpAny_bind (wpAny_pure ?_)))))
 refine wpAny_bind (hl.at ?_)
 dsimp only
 rw [if_neg (by rw [f_own]; decide)]
 refine wpAny_bind ((looks_typeIn zfv f_ty).at ?_)
 rw [if_pos (by decide +kernel)]
 exact wpAny_pure h
theorem ne_init {expr : Bool} {Q : Value -> Shared -> Prop} (ho : Looks (model prog w) s.heap (opaqueClassAbove (.ref NE)) none) (ht : Looks (model prog w) s.heap (typeOf (.ref NE)) (.type "type"))
  (hl : Looks (model prog w) s.heap (typeLookup (.ref NE) "__init__") (some (.builtin "ValueError.__init__"))) (h : Q (.builtin "ValueError.__init__") { s with toks := s.toks + 1 }) : wpAny (model prog w) A (getAttr (.ref NE) "__init__" expr) Q E s := by
 refine wpAny_bind (wpAny_mkText (wpAny_holding (wpAny_bind (ht _ _ _ _ (fun _ _ e => e) (wpAny_bind (looks_findIn zfv f_ga _ _ _ _ (fun _ _ e => e) ?_))))))
 dsimp only
 rw [if_neg (by decide +kernel)]
 refine wpAny_bind (looks_hook (K := []) zfv (mc := .type "type") (r := none) (by kernel_rfl) _ _ _ _ (fun _ _ e => e) (wpAny_bind (wpAny_attempt (wpAny_holding ?_))))
 unfold callGetattribute
 rw [show (expr && onTheHeap (Value.builtin "type.__getattribute__")) = false from Bool.and_false _, if_neg (by decide)]
 unfold boundAndCalled
 rw [KF.slot_tga.bind]
 refine wpAny_bind (wpAny_pure ?_)
 show wpAny _ _ (call (.builtin "type.__getattribute__") [.ref NE, .str "__init__" s.toks]) _ _ _
 refine wpAny_call ?_
 refine codeAny_call_builtin KF.slot_tga.plain KF.entry_tga ?_
 refine @check_slot (model prog w) _ _ { s with toks := s.toks + 1 } "type.__getattribute__" "type" "__getattribute__" (.ref NE) [.str "__init__" s.toks] [] _ (by decide +kernel) (by decide +kernel) (ht.andThen (looks_subIn zfv f_sub)) (KF.args_tga (.ref NE) (.str "__init__" s.toks)) ?_
 refine ne_run (s := { s with toks := s.toks + 1 }) ho ht hl ?_
 show wpAny _ _ (handedOut _) _ _ _
 rw [handedOut_of f_hand]
 exact wpAny_pure h
end
end Bn
namespace Bn
open PySem PySem.W PySem.Calls PyProof.Rows Builtin Builtin.ObjectAttr Builtin.Getset_descriptor
set_option maxRecDepth 100000
section
variable {prog : Program} {w : World} {A : Around} {E : Value -> Shared -> Prop} {h : Heap} {g : Array GenState} {d : Drawn} {t : Nat} {os : OsState}
variable {nm q : Str} {C N : Addr} {bs bm bmB : List Value} {hdct : Bool} {sn : List Str} {sub : List Value} {ab : Bool} {col : Option Bool} {dd : Option Addr} {k0 k1 k2 k3 k5 : Option Value} {B newId initId : String}
theorem zqy (F : ExcBaseFacts B newId initId bmB) (T : OwnTail h bmB bm) {e t0 : Addr} {rest : List Value} {Q : Value -> Shared -> Prop}
  (hC : h.get? C = some (excClassObj nm q C N bs bm hdct sn sub ab col dd k0 k1 k2 k3 k5 newId)) (he : h.get? e = some { cls := .ref C, data := .fields #[.ref t0, .none, .none, .none, .bool false, .none] })
  (hq : ∀ h', (∀ b o, b ≠ e -> h.get? b = some o -> h'.get? b = some o) -> h'.get? e = some { cls := .ref C, data := .fields #[.ref h.objs.size, .none, .none, .none, .bool false, .none] } -> h'.objs.size = h.objs.size + 1 -> Q .none ⟨h', g, d, t, os⟩) (hrest : rest.length <= sizeLine) :
  wpAny (model prog w) A (call (.builtin initId) (.ref e :: rest)) Q E ⟨h, g, d, t, os⟩ := by
 refine wpAny_call (codeAny_call_builtin F.init.plain F.initEntry (wpAny_check_init_subT F T hC he rfl ?_))
 wp_walk
 refine hq _ (fun b o hne hb => ?_) ?_ ?_
 ·rw [Heap.get?_update_other _ _ (Ne.symm hne)]
  exact Heap.get?_push_of_some _ hb
 ·rw [Heap.get?_update_self _ (Heap.get?_push_of_some _ he) rfl]
  rfl
 ·rw [Heap.size_update, Heap.size_push]
end
end Bn
namespace Bn
open PySem PySem.W PySem.Calls PyProof.Rows Builtin Builtin.ObjectAttr Builtin.Getset_descriptor
set_option maxRecDepth 100000
theorem zl3 : typeLookup (.type "ValueError") "at" = pure none := by rw [typeLookup_type, builtinLookup_eq_fast]; kernel_rfl
section
variable {prog : Program} {w : World} {A : Around} {E : Value -> Shared -> Prop} {h : Heap} {g : Array GenState} {d : Drawn} {t : Nat} {os : OsState} {C NE x : Addr} {v : Value}
theorem Kid.mro {M : Model} {Q : List Value -> Shared -> Prop} (K : Kid h C NE) (hq : Q (.ref C :: .ref NE :: vbm) ⟨h, g, d, t, os⟩) : wpAny M A (mroOf (.ref C)) Q E ⟨h, g, d, t, os⟩ := by
 obtain ⟨⟨ini, nm, q, N, bs, sn, sub, ab, col, dd, k0, k1, k2, k3, k5, mN, hC, _⟩, _⟩ := K
 exact wpAny_mroOf_exc hC hq
theorem kid_pass (C NE : Addr) (self : Value) : refuseLoop self "__setattr__" (.ref C :: .ref NE :: vbm) = pure () := by
 rw [refuseLoop_ref, refuseLoop_ref]; exact PySem.F.store_ValueError.passes self
theorem Kid.check {M : Model} {o : Obj} {nameV : Value} {Q : Unit -> Shared -> Prop} (K : Kid h C NE) (hx : h.get? x = some o) (hc : o.cls = .ref C) (hq : Q () ⟨h, g, d, t, os⟩) :
  wpAny M A (checkBuiltinCall "object.__setattr__" ⟨[.ref x, nameV, v], []⟩) Q E ⟨h, g, d, t, os⟩ := by
 have SF := PySem.F.store_ValueError
 have hcB : (Value.ref C :: .ref NE :: vbm).contains (.type "object") = true := rfl
 have ha := SF.args (.ref x) nameV v
 simp only [checkBuiltinCall, SF.kind, SF.split]
 refine wpAny_bind ?_
 ·unfold isInstance
  repeat (first | (with_reducible refine wpAny_loadPart_at hx ?_; rw [hc]) | (with_reducible refine K.sub ?_; rw [hcB]) | wp_step)
  exact hq
theorem zpv {M : Model} {s : Shared} {a : Addr} {o : Obj} (ho : s.heap.get? a = some o) (hd : o.data = .dict #[] 0) {name : Str} {Q : Unit -> Shared -> Prop}
  (hQ : ∀ h' od es n, h'.get? a = some od -> od.cls = o.cls -> od.data = .dict es n -> es.size = 1 -> nsFind es name = some v -> Heap.SameBut a s.heap h' -> Q () { s with heap := h', toks := s.toks + 1 }) : wpAny M A (nsSet a name v) Q E s := fun Γ p _ => by
 simp only [nsSet, strHash, Sem.wp_bind', Sem.wp_cmd_ask, Sem.wp_pure', Sem.wp_cmd_mkText]
 rw [Sem.wp_loadPart_of M Γ _ p { s with toks := s.toks + 1 } (o := o) _ ho]
 have hany : (#[] : Array DictEntry).any (·.refKey) = false := by simp
 simp only [hd, aRefKeyMayBeTheName_eq, aRefKeyMayBeTheNameByArray, hany, Bool.and_false, zbn, if_false, Sem.wp_cmd_updatePart]
 obtain ⟨c, dc, dt, sl⟩ := o
 subst hd
 have hi : (#[] : Array DictEntry).findIdx? (·.key.isStr name) = none := by simp
 refine ⟨by rw [ho]; rfl, hQ _ _ _ _ (Heap.get?_update_self _ ho (by simp only [Obj.putName_eq, Obj.putNameByArray, hi]; rfl)) (by simp only [Obj.putName_eq, Obj.putNameByArray, hi]) (by simp only [Obj.putName_eq, Obj.putNameByArray, hi]; rfl) ?_ ?_ (Heap.SameBut.update ..)⟩
 ·rfl
 ·exact (findBy_push (fun n v => v.isStr n) #[] name name _ _ v (fun y => by
    show (name == y) = decide (y = name)
    by_cases h : y = name
    ·subst h; simp
    ·have : ¬ name = y := fun e => h e.symm
     simp [h, this]) hi).trans (if_pos rfl)
structure AtSet (h h' : Heap) (x : Addr) (o : Obj) (v : Value) : Prop where
 keep : ∀ b ob, b ≠ x -> h.get? b = some ob -> h'.get? b = some ob
 here : h'.get? x = some { cls := o.cls, dict := some h.objs.size, data := o.data, slots := o.slots }
 dct : ∃ od es n, h'.get? h.objs.size = some od /\ od.cls = .type "dict" /\ od.data = .dict es n /\ nsFind es (Str.ofString "at") = some v
theorem store_at {tk : Tok} {o : Obj} {vs : Array Value} {Q : Fin -> Shared -> Prop} (K : Kid h C NE) (hx : h.get? x = some o) (hc : o.cls = .ref C) (hd : o.data = .fields vs) (hdn : o.dict = none)
  (hq : ∀ h' tk', AtSet h h' x o v -> Q (.done (.ret .none)) ⟨h', g, d, tk', os⟩) :
  wpAny (model prog w) A (Builtin.«object.__setattr__» ⟨[.ref x, .str "at" tk, v], []⟩) Q E ⟨h, g, d, t, os⟩ := by
 have hpass := kid_pass C NE (.ref x)
 have hm : ("at" : Str) ∈ zc2 := .tail _ (.tail _ (.tail _ (.head _)))
 unfold Builtin.«object.__setattr__»
 repeat (first | rw [refuse_eq] | rw [hpass] | (with_reducible refine wpAny_loadPart_at hx ?_; rw [hc]) | with_reducible refine K.mro ?_ | with_reducible refine K.lookup hm zl3 ?_ | wp_step)
 obtain ⟨⟨ini, nm, q, N, bs, sn, sub, ab, col, dd, k0, k1, k2, k3, k5, mN, hC, _⟩, _⟩ := id K
 repeat (first | with_reducible refine wpAny_loadPart_at hC ?_ | wp_step)
 rw [hdn, hd]
 dsimp only
 rw [if_neg (by simp [typeHasDict])]
 have hx₁ : (h.push { cls := .type "dict", data := .dict #[] }).get? x = some o := Heap.get?_push_of_some _ hx
 have hxs : x ≠ h.objs.size := zao (Heap.lt_size hx)
 refine wpAny_bind (wpAny_alloc' ?_)
 refine wpAny_bind (wpAny_update' hx₁ ?_)
 refine wpAny_pure ?_
 generalize hg1 : ((h.push { cls := .type "dict", data := .dict #[] }).update x fun o => { cls := o.cls, dict := some h.objs.size, data := o.data, slots := o.slots }) = h₁
 have hgd : h₁.get? h.objs.size = some { cls := .type "dict", data := .dict #[] } := by rw [<- hg1]; exact (Heap.get?_update_ne _ _ _ _ hxs.symm).trans (Heap.get?_push_at rfl rfl)
 have hgx : h₁.get? x = some { cls := o.cls, dict := some h.objs.size, data := o.data, slots := o.slots } := by
  rw [<- hg1]
  refine Heap.get?_update_self _ hx₁ ?_
  obtain ⟨oc, od, odt, osl⟩ := o
  obtain rfl : odt = _ := hd
  rfl
 have hgb : ∀ b ob, b ≠ x -> h.get? b = some ob -> h₁.get? b = some ob := fun b ob hbx hb => by rw [<- hg1]; exact (Heap.get?_update_ne _ _ _ _ hbx).trans (Heap.get?_push_of_some _ hb)
 have hnd : h₁.Ns h.objs.size (fun _ => none) := ⟨_, #[], _, hgd, rfl, fun e he => absurd he (by simp), fun _ => rfl⟩
 show wpAny _ _ (storeInDict h.objs.size (.str "at" tk) "at" v) _ _ _
 unfold storeInDict newKeyGuard
 refine wpAny_bind (wpAny_pure (wpAny_bind (zpv hgd rfl fun h' od es n q1 q2 q3 q4 q5 hs => ?_)))
 refine wpAny_bind (wpAny_lookBehind q1 (by rw [q3]; exact pastItsLine_dict (by rw [q4, sizeLine_eq]; decide)) ?_)
 wp_walk
 exact hq h' _ ⟨fun b ob hbx hb => (hs.2 b (zao (Heap.lt_size hb))).trans (hgb b ob hbx hb), (hs.2 x hxs).trans hgx, od, es, n, q1, q2, q3, q5⟩
theorem set_at {o : Obj} {vs : Array Value} {Q : Unit -> Shared -> Prop} (K : Kid h C NE) (hx : h.get? x = some o) (hc : o.cls = .ref C) (hd : o.data = .fields vs) (hdn : o.dict = none)
  (hq : ∀ h' tk', AtSet h h' x o v -> Q () ⟨h', g, d, tk', os⟩) : wpAny (model prog w) A (setAttr (.ref x) "at" v) Q E ⟨h, g, d, t, os⟩ := by
 have SF := PySem.F.store_ValueError
 have f3 := SF.slot.bind (.ref x)
 have hm : ("__setattr__" : Str) ∈ zc2 := .tail _ (.tail _ (.tail _ (.tail _ (.head _))))
 unfold setAttr callSpecial? specialOf
 repeat (any_goals (first | assumption | (with_reducible refine wpAny_loadPart_at hx ?_; rw [hc]) | with_reducible refine K.lookup hm SF.slot.lookup ?_ | wp_step))
 refine codeAny_call_builtin SF.slot.plain SF.entry (K.check hx hc (store_at K hx hc hd hdn fun h' tk' I => ?_))
 repeat (any_goals (first | assumption | wp_step))
 exact hq h' tk' I
end
end Bn
namespace Bn
open PySem PySem.W PySem.Calls PyProof.Rows Builtin Builtin.ObjectAttr Builtin.Getset_descriptor
set_option maxRecDepth 100000
theorem zm8 : typeLookup (.type "ValueError") "__init__" = pure (some (.builtin "ValueError.__init__")) := by rw [typeLookup_type, builtinLookup_eq_fast]; kernel_rfl
section
variable {prog : Program} {w : World} {A : Around} {E : Value -> Shared -> Prop} {s : Shared} {NE C : Addr} {env : Env}
theorem ClsAt.type {M : Model} {h : Heap} {bm : List Value} {ini : Option Value} (K : ClsAt h NE bm ini) : Looks M h (typeOf (.ref NE)) (.type "type") := by
 obtain ⟨nm, q, N, bs, sn, sub, ab, col, dd, k0, k1, k2, k3, k5, mN, hC, _⟩ := K
 exact (Looks.ld hC).andThen .now
theorem ClsAt.init {M : Model} {h : Heap} (K : ClsAt h NE vbm none) : Looks M h (typeLookup (.ref NE) "__init__") (some (.builtin "ValueError.__init__")) := by
 obtain ⟨nm, q, N, bs, sn, sub, ab, col, dd, k0, k1, k2, k3, k5, mN, hC, hN, hq, hi⟩ := K
 intro A Q E s k hQ
 have hrest : lookupAlong vbm "__init__" = pure (some (.builtin "ValueError.__init__")) := by have hB := zm8; rw [typeLookup_eq, PySem.F.excBase_ValueError.mroIs] at hB; exact hB
 obtain ⟨hp, g, d, t, os⟩ := s
 rw [typeLookup_eq]
 refine wpAny_bind (wpAny_mroOf_exc (k _ _ hC) ?_)
 rw [lookupAlong_cons]
 refine wpAny_bind (wpAny_classOwn_exc (k _ _ hC) (hN.keeps k) ?_)
 rw [hi]
 show wpAny _ _ (lookupAlong vbm "__init__") _ _ _
 rw [hrest]
 exact wpAny_pure hQ
theorem zi7 {n : Str} {p1 apos pos : Pos} {args : List Expr} {Q : Value -> Shared -> Prop} (hb : attributeBase (.Name n p1) "__init__" env (eval (.Name n p1) env) = eval (.Name n p1) env)
  (hform : methodCallForm (args.length + ([] : List Keyword).length) (backTo pos (starEach args env)) (backToKw pos (keywordEach [] env)) = true) (hl : (apos.endLine == pos.line) = true)
  (h : wpAny (model prog w) A (eval (.Name n p1) env) (fun ov s₁ => ov = .ref NE /\ Looks (model prog w) s₁.heap (opaqueClassAbove (.ref NE)) none /\ ClsAt s₁.heap NE vbm none /\
   wpAny (model prog w) A (callWith pos (.builtin "ValueError.__init__") [] (backTo pos (starEach args env)) []) Q E { s₁ with toks := s₁.toks + 1 }) E s) :
  wpAny (model prog w) A (eval (.Call (.Attribute (.Name n p1) "__init__" apos) args [] pos) env) Q E s := by
 rw [arm_eval_Call, hb]
 refine wpAny_bind (wpAny_mono h (fun ov s₁ h₁ => ?_) fun _ _ e => e)
 obtain ⟨rfl, ho, K, hc⟩ := h₁
 refine wpAny_bind (wpAny_standAt ?_)
 have hpos : methodCallPos true (.Name n p1) env apos pos = pure pos := by unfold methodCallPos; simp [hl]
 unfold methodCall
 rw [hform]
 refine wpAny_bind (wpAny_holding ?_)
 show wpAny (model prog w) A (getMethod (.ref NE) "__init__" _) _ _ _
 unfold getMethod
 refine wpAny_bind ((K.type.andThen (looks_findIn zfv f_ga)).here ?_)
 dsimp only
 rw [if_pos canon_tga]
 refine wpAny_bind (ne_init ho K.type K.init (wpAny_pure ?_))
 exact wpAny_bind (wpAny_of_eq hpos hc)
end
end Bn
namespace Bn
open PySem PySem.W PySem.Calls PyProof.Rows Builtin Builtin.ObjectAttr Builtin.Getset_descriptor
set_option maxRecDepth 100000
structure InitDone (h h' : Heap) (e C : Addr) (v : Value) : Prop where
 keep : ∀ b ob, b ≠ e -> h.get? b = some ob -> h'.get? b = some ob
 here : ∃ t dc, h'.get? e = some { cls := .ref C, dict := some dc, data := .fields #[.ref t, .none, .none, .none, .bool false, .none] } /\ h.get? dc = none /\ ∃ od es n, h'.get? dc = some od /\ od.cls = .type "dict" /\ od.data = .dict es n /\ nsFind es (Str.ofString "at") = some v
section
variable {prog : Program} {w : World} {A : Around} {E : Value -> Shared -> Prop} {s : Shared} {NE C e t0 : Addr} {env : Env} {p1 apos p2 p3 pos p4 p5 p6 p7 p8 : Pos} {k : Nat} {mg m : Str -> Option Value} {v : Value} {Q : Flow -> Shared -> Prop}
theorem zrv {h0 : Heap} (hf : env.scope.kind = .function) (hg : h0.Ns env.globals mg) (hNE : mg "NetError" = some (.ref NE)) (kN : env.kindOf "NetError" = some .globalImplicit) (kS : env.kindOf "self" = some .local) (kA : env.kindOf "at" = some .local)
  (hL : s.heap.Ns env.locals m) (hLe : env.locals ≠ e) (mS : m "self" = some (.ref e)) (mA : m "at" = some v) (K : Kid h0 C NE) (ho : Looks (model prog w) h0 (opaqueClassAbove (.ref NE)) none) (h0k : ∀ b o, h0.get? b = some o -> s.heap.get? b = some o) (he0 : h0.get? e = none)
  (he : s.heap.get? e = some { cls := .ref C, data := .fields #[.ref t0, .none, .none, .none, .bool false, .none] }) (hl : (apos.endLine == pos.line) = true) (hi : interactive env = false)
  (hq : ∀ h' tk, InitDone s.heap h' e C v -> Q .next { s with heap := h', toks := tk }) :
  wpAny (model prog w) A (execs (zi8 p1 apos p2 p3 pos p4 p5 p6 p7 p8 k) env) Q E s := by
 refine wpAny_execs_cons (wpAny_Expr_any ?_ hi rfl)
 obtain ⟨h, g, d, t, os⟩ := s
 dsimp only at hL h0k he hq
 have K₀ := K.keeps h0k
 refine zi7 (NE := NE) (zk2 rfl) rfl hl (Name_function_global hf kN (loadGlobal_global (hg.keeps h0k) hNE ⟨rfl, fun A Q E s k hQ => ho A Q E s (fun b o q => k b o (h0k b o q)) hQ, K₀.net, ?_⟩))
 refine zcg (by intro a h; cases h) rfl (Calls.evalArgs_plain (Calls.spliced_cons (wpAny_Name (wpAny_loadName_local hf kS hL mS (Calls.spliced_cons (wpAny_mkText (Calls.spliced_nil ?_)))) rfl)))
 obtain ⟨ini, nm, q, N, bs, sn, sub, ab, col, dd, k0, k1, k2, k3, k5, mN, hC, _⟩ := K₀.own
 obtain ⟨nm', q', N', bs', sn', sub', ab', col', dd', k0', k1', k2', k3', k5', mN', hC', hN', hq', hi'⟩ := K₀.net
 refine zqy (rest := [_]) PySem.F.excBase_ValueError (.own hC' hN' hi' .base) hC he (fun h₁ e1 e2 e3 => ?_) (show 1 <= sizeLine by decide)
 have hL₁ : h₁.Ns env.locals m := let ⟨o, es, ep, q1, q2⟩ := hL; ⟨o, es, ep, e1 _ _ hLe q1, q2⟩
 have h0k₁ : ∀ b o, h0.get? b = some o -> h₁.get? b = some o := fun b o q => e1 b o (fun q' => by rw [q', he0] at q; cases q) (h0k b o q)
 refine wpAny_execs_cons (plainObj_wpAny_Assign_Attribute (wpAny_Name (wpAny_loadName_local hf kA hL₁ mA (wpAny_Name (wpAny_loadName_local hf kS hL₁ mS (set_at (K.keeps h0k₁) e2 rfl rfl rfl fun h' tk' I => ?_)) rfl)) rfl) rfl)
 refine wpAny_execs_nil (hq h' tk' ⟨fun b ob hne hb => I.keep b ob hne (e1 b ob hne hb), _, _, I.here, ?_, I.dct⟩)
 rw [e3]; exact Heap.get?_none_of_le (Nat.le_succ _)
end
end Bn
namespace Bn
open PySem PySem.W PySem.Calls PyProof.Rows
set_option maxRecDepth 100000
structure InitFn (h : Heap) (fI : Addr) (oI : Obj) (fd : FuncData) : Prop where
 ho : h.get? fI = some oI
 cls : oI.cls = .type "function"
 hd : oI.data = .func fd
 code : h.CodeRec fd.code fd.qualname
 body : ∃ p1 apos p2 p3 pos p4 p5 p6 p7 p8 k, fd.body = .stmts (zi8 p1 apos p2 p3 pos p4 p5 p6 p7 p8 k) /\ (apos.endLine == pos.line) = true
 clo : fd.closure = []
 gl : fd.globals = mainGlobals
 bl : fd.builtins = builtinsNs
 kind : fd.scope.kind = .function
 co : fd.scope.isCoroutine = false
 gen : fd.scope.isGenerator = false
 names : fd.scope.names = zg8
 bind : ∀ a b : Value, bindArgs fd ⟨[a, b], []⟩ = pure [(Str.ofString "self", a), (Str.ofString "at", b)]
section
variable {c : Cx} {A : Around} {E : Value -> Shared -> Prop} {s : Shared} {NE C e t0 fI : Addr} {oI : Obj} {fd : FuncData} {v : Value} {Q : Value -> Shared -> Prop}
theorem zrf {M : Model} {h : Heap} (hs : ∃ mc, h.Ns cStatics mc /\ mc "thirdparty.any" = none) : Looks M h (opaqueClassAbove (.ref NE)) none := by
 obtain ⟨mc, h1, h2⟩ := hs
 have L : Looks M h (nsGet cStatics "thirdparty.any") none := fun A Q E s k q => wpAny_nsGet (h1.keeps k) (by rw [h2]; exact q)
 exact Looks.andThen (a := false) (L.andThen .now) (by show Looks M h (if (!false) = true then pure none else _) none; rw [if_pos (show (!false) = true from rfl)]; exact .now)
theorem zpa (O : c.Ok) (I : InitFn c.h0 fI oI fd) (hst : ∃ mc, c.h0.Ns cStatics mc /\ mc "thirdparty.any" = none) (hdep : A.depth < 1000) (hNE : c.g "NetError" = some (.ref NE)) (K : Kid c.h0 C NE) (h0k : ∀ b o, c.h0.get? b = some o -> s.heap.get? b = some o) (he0 : c.h0.get? e = none)
  (he : s.heap.get? e = some { cls := .ref C, data := .fields #[.ref t0, .none, .none, .none, .bool false, .none] })
  (hq : ∀ h' tk, InitDone s.heap h' e C v -> Q .none { s with heap := h', toks := tk }) :
  wpAny (model c.prog c.w) A (call (.ref fI) [.ref e, v]) Q E s := by
 refine wpAny_call ?_
 obtain ⟨p1, apos, p2, p3, pos, p4, p5, p6, p7, p8, k, hb, hl⟩ := I.body
 refine codeAny_call_function hdep (h0k _ _ I.ho) I.hd I.co I.gen hb (I.code.keeps h0k) ?_
 rw [I.bind, I.clo]
 refine wpAny_pure ?_
 simp only [newFunctionEnv, Option.isSome_none, zbn, if_false]
 refine wpAny_bind (wpAny_alloc ?_)
 refine wpAny_bind (wpAny_layCells _ (fun name kind cells => by cases hkc : kind == NameKind.cell <;> simp [hkc]) _ _ _ _ ?_)
 rw [I.names]
 generalize hE : ({ scope := fd.scope, locals := s.heap.objs.size, globals := fd.globals, cells := cellsFrom ({ s with heap := s.heap.push { cls := .type "frame", data := .dict #[] } } : Shared).heap.objs.size zg8 [], qual := fd.qualname ++ Str.ofString ".<locals>.", func := some fI, code := fd.code, frame := some s.heap.objs.size, builtins := fd.builtins } : Env) = env
 show wpAny _ _ _ _ _ { s with heap := s.heap.push { cls := .type "frame", data := .dict #[] } }
 generalize hh₁ : s.heap.push { cls := .type "frame", data := .dict #[] } = h₁
 have hf : env.scope.kind = .function := by rw [<- hE]; exact I.kind
 have hL : env.locals = s.heap.objs.size := by rw [<- hE]
 have kk : ∀ x, env.kindOf x = zg8.lookup x := fun x => by rw [<- hE, <- I.names]; rfl
 have kS : env.kindOf "self" = some .local := (kk _).trans (by decide +kernel)
 have kA : env.kindOf "at" = some .local := (kk _).trans (by decide +kernel)
 have kN : env.kindOf "NetError" = some .globalImplicit := (kk _).trans (by decide +kernel)
 have hfr : h₁.get? env.locals = some { cls := .type "frame", data := .dict #[] } := by rw [hL, <- hh₁]; exact Heap.get?_push_size _ rfl
 have hn₁ : h₁.Ns env.locals (fun _ => none) := ⟨_, #[], _, hfr, rfl, fun e he => absurd he (by simp), fun _ => rfl⟩
 have k1 : ∀ b o, s.heap.get? b = some o -> h₁.get? b = some o := fun b o q => by rw [<- hh₁]; exact Heap.get?_push_of_some _ q
 have nl : ∀ b o, s.heap.get? b = some o -> b ≠ env.locals := fun b o q => by rw [hL]; exact zao (Heap.lt_size q)
 rw [List.forIn_cons]
 refine wpAny_bind (wpAny_bind (wpAny_bind (zf7 kS hf hn₁ hfr fun h₂ n2 b2 o2 => wpAny_pure ?_)))
 obtain ⟨o2, g2, c2⟩ := o2
 dsimp only
 rw [List.forIn_cons]
 refine wpAny_bind (wpAny_bind (zf7 kA hf n2 g2 fun h₃ n3 b3 o3 => wpAny_pure ?_))
 dsimp only
 rw [List.forIn_nil]
 refine wpAny_pure (wpAny_pure ?_)
 have k3 : ∀ b o, s.heap.get? b = some o -> h₃.get? b = some o := fun b o q => (b3.2 b (nl b o q)).trans ((b2.2 b (nl b o q)).trans (k1 b o q))
 refine ⟨O.lim.keeps fun b o q => k3 b o (h0k b o q), codeAny_func ?_⟩
 refine zrv (mg := c.g) (h0 := c.h0) hf (by rw [<- hE]; show c.h0.Ns fd.globals c.g; rw [I.gl]; exact O.gl) hNE kN kS kA n3 (Ne.symm (nl _ _ he)) ?_ (if_pos rfl) K (zrf hst) (fun b o q => k3 b o (h0k b o q)) he0 (k3 _ _ he) hl (by simp [interactive, hf]) fun h' tk D => ?_
 ·show (if Str.ofString "self" = Str.ofString "at" then some v else if Str.ofString "self" = Str.ofString "self" then some (.ref e) else none) = some (.ref e)
  rw [if_neg (by decide), if_pos rfl]
 ·refine hq h' tk ⟨fun b ob hne hb => D.keep b ob hne (k3 b ob hb), ?_⟩
  obtain ⟨t, dc, g1, g2, g3⟩ := D.here
  refine ⟨t, dc, g1, ?_, g3⟩
  cases q : s.heap.get? dc with
  | none => rfl
  | some o => rw [k3 _ _ q] at g2; cases g2
end
end Bn
namespace Bn
open PySem PySem.W PySem.Calls PyProof.Rows
set_option maxRecDepth 100000
section
variable {prog : Program} {w : World} {A : Around} {E : Value -> Shared -> Prop} {s : Shared} {env : Env}
variable {nm q : Str} {C N : Addr} {bs bm bmB : List Value} {hdct : Bool} {sn : List Str} {sub : List Value} {ab : Bool} {col : Option Bool} {dd : Option Addr} {k0 k1 k2 k3 k5 : Option Value} {B newId initId : String}
theorem zg5 (F : ExcBaseFacts B newId initId bmB) {mN : Str -> Option Value} {x : Str} {np cpos pos : Pos} {args : List Expr} {fI : Addr} {oI : Obj} {Q : Flow -> Shared -> Prop}
  (hbase : bm.contains (.type "BaseException") = true) (hh : A.handled = none) (hplain : (backTo cpos (starEach args env)).any (·.1) = false) (hi : mN "__init__" = some (.ref fI)) (hfc : oI.cls = .type "function")
  (h : wpAny (model prog w) A (eval (.Name x np) env) (fun f s₁ => f = .ref C /\ wpAny (model prog w) A (evalArgs (.ref C) true (backTo cpos (starEach args env)) [])
   (fun a s₂ => a.kw = [] /\ a.pos.length <= sizeLine /\ s₂.heap.get? C = some (excClassObj nm q C N bs bm hdct sn sub ab col dd k0 k1 k2 k3 k5 newId) /\ s₂.heap.Ns N mN /\ s₂.heap.get? fI = some oI /\ OwnTail s₂.heap bmB bm /\
    ∀ h' e A', A'.depth <= A.depth + 1 -> Heap.MadeExcOf s₂.heap h' e (.ref C) a.pos -> wpAny (model prog w) A' (call (.ref fI) (.ref e :: a.pos)) (fun r s' => r = .none /\ s'.heap.get? C = some (excClassObj nm q C N bs bm hdct sn sub ab col dd k0 k1 k2 k3 k5 newId) /\
     (∃ oe, s'.heap.get? e = some oe /\ oe.cls = .ref C /\ ∃ t, oe.data = .fields #[.ref t, .none, .none, .none, .bool false, .none]) /\ E (.ref e) s') E { s₂ with heap := h' }) E s₁) E s) :
  wpAny (model prog w) A (exec (.Raise (some (.Call (.Name x np) args [] cpos)) none pos) env) Q E s := by
 rw [arm_exec_Raise]
 refine wpAny_bind (wpAny_standAt (znk (C := C) (nm := nm) (q := q) (N := N) (bs := bs) (bm := bm) (hdct := hdct) (sn := sn) (sub := sub) (ab := ab) (col := col) (dd := dd) (k0 := k0) (k1 := k1) (k2 := k2) (k3 := k3) (k5 := k5) (newId := newId) hbase hh (wpAny_bind (wpAny_mono (wpAny_Call_ofName (wpAny_mono h (fun f s₁ h₁ => ?_) fun _ _ x => x)) (fun v s₃ h₃ => wpAny_bind (wpAny_standAt (wpAny_pure h₃))) fun _ _ x => x))))
 obtain ⟨rfl, h₁⟩ := h₁
 unfold callWith
 refine wpAny_bind (wpAny_holding (wpAny_mono h₁ (fun a s₂ h₂ => wpAny_bind (wpAny_standAt ?_)) fun _ _ x => x))
 obtain ⟨apos, akw⟩ := a
 obtain ⟨hkw, hlen, hC, hn, hfI, T, h₂⟩ := h₂
 obtain rfl : akw = [] := hkw
 obtain ⟨hp, g, d, tk, os⟩ := s₂
 rw [hplain]
 refine wpAny_bind (wpAny_keeperOf_exc hC ?_)
 refine wpAny_bind (zp2 F T hC hn hi hfI hfc (fun h' e hm => wpAny_mono (h₂ h' e _ ?_ hm) (fun r s' hr => ⟨hr.1, wpAny_bind (wpAny_holding (wpAny_point (wpAny_pure ?_)))⟩) fun _ _ x => x) hlen)
 ·exact zad _
 ·obtain ⟨rfl, g1, ⟨oe, g2, g3, g4⟩, g5⟩ := hr
  exact ⟨e, oe, rfl, g1, g2, g3, g4, g5⟩
end
inductive NetOk (c : Cx) : Prop
 | mk (NE C fI : Addr) (oI : Obj) (fd : FuncData) (hn : c.g (Str.ofString "NetError") = some (.ref NE)) (hg : c.g (Str.ofString "BadNet") = some (.ref C)) (own : ClsAt c.h0 C (.ref NE :: vbm) (some (.ref fI))) (net : ClsAt c.h0 NE vbm none)
   (I : InitFn c.h0 fI oI fd) (hst : ∃ mc, c.h0.Ns cStatics mc /\ mc "thirdparty.any" = none) : NetOk c
section
variable {c : Cx} {env : Env} {res : Res} {X : List Addr}
theorem zla {e1 : Expr} {x1 : Ex} {np cpos pos : Pos} (O : c.Ok) (NO : NetOk c) (hX : EnvX allY env X) (hk : env.kindOf (Str.ofString "BadNet") = some .globalImplicit) (h : zdn c env res [e1] [x1]) :
  zcu c env res X (.Raise (some (.Call (.Name (Str.ofString "BadNet") np) [e1] [] cpos)) none pos) (.rais (Str.ofString "BadNet") [x1]) := fun A q d k loc φ H s Q E hA hh hF hS hw => by
 obtain ⟨rfl, hw⟩ := hw
 obtain ⟨NE, C, fI, oI, fd, hn, hg, own, net, I, hst⟩ := NO
 have K : Kid c.h0 C NE := ⟨⟨_, own⟩, net⟩
 obtain ⟨nm, q, N, bs, sn, sub, ab, col, dd, k0, k1, k2, k3, k5, mN, hC, hN, hq, hi⟩ := own
 obtain ⟨nm', q', N', bs', sn', sub', ab', col', dd', k0', k1', k2', k3', k5', mN', hC', hN', hq', hi'⟩ := net
 have hdep := hA.dep
 refine zg5 (nm := nm) (q := q) (C := C) (N := N) (bs := bs) (hdct := true) (sn := sn) (sub := sub) (ab := ab) (col := col) (dd := dd) (k0 := k0) (k1 := k1) (k2 := k2) (k3 := k3) (k5 := k5) (bm := .ref NE :: vbm) (mN := mN) PySem.F.excBase_ValueError rfl (hA.hd rfl) (zeq h.1.1) hi I.cls (Calls.Name_function_global hF.fn hk (Calls.loadGlobal_global (by rw [hF.gl]; exact O.gl.keeps hS.stays) hg ⟨rfl, ?_⟩) (by decide))
 refine wpAny_mono (zf2 h (fun q => nomatch q) hA hF hS hw) ?_ fun _ _ h => OutX.no h
 rintro _ s₁ ⟨rs, rfl, φ₁, H₁, vs, e₁, S₁, R₁, l₁, w₁⟩
 cases LV.of vs with
 | one v1 =>
  obtain ⟨r1, rfl, Rv⟩ := R₁.one
  refine ⟨rfl, show 1 <= sizeLine by decide, S₁.stays _ _ hC, hN.keeps S₁.stays, S₁.stays _ _ I.ho, .own (S₁.stays _ _ hC') (hN'.keeps S₁.stays) hi' .base, fun h' e A' hd hme => ?_⟩
  obtain ⟨t0, ht, _, _⟩ := hme.there
  have h0 : c.h0.get? e = none := by
   cases q : c.h0.get? e with
   | none => rfl
   | some o => have := S₁.stays e o q; rw [hme.new] at this; cases this
  refine zpa (s := { s₁ with heap := h' }) O I hst (by exact Ar.ar2 [_,_,_] [] 0x294a000c20000610040308040 (Y1 V0 (.l 1000)) (Y0 (Y0 V1 V2) (.l 890)) (Y0 V0 (Y0 V1 J1)) hdep hd) hn K (fun b o q => hme.keeps b o (S₁.stays b o q)) h0 ht fun h'' tk D => ?_
  obtain ⟨t, dc, g1, g2, od, es, n, g3, g4, g5, g6⟩ := D.here
  have kp : ∀ b o, s₁.heap.get? b = some o -> h''.get? b = some o := fun b o q => D.keep b o (fun q' => by rw [q', hme.new] at q; cases q) (hme.keeps b o q)
  have e₂ : Ext [] φ₁ s₁ φ₁ { s₁ with heap := h'', toks := tk } := Ext.of_keeps kp rfl
  have new : ∀ {b : Addr}, s₁.heap.get? b = none -> b ∉ φ₁ := fun hb q => by
   obtain ⟨o, ho, _⟩ := S₁.isList q
   rw [hb] at ho; cases ho
  have dn : s₁.heap.get? dc = none := by
   cases q : s₁.heap.get? dc with
   | none => rfl
   | some o => have := hme.keeps _ _ q; rw [g2] at this; cases this
  have w₂ : E (.exc (Str.ofString "BadNet") v1) loc H₁ := by
   have : atOf (Str.ofString "BadNet") [v1] = v1 := if_pos rfl
   rw [this] at w₁; exact w₁
  refine ⟨rfl, kp _ _ (S₁.stays _ _ hC), ⟨_, g1, rfl, t, rfl⟩, φ₁, H₁, loc, _, hF.weak hX (e₁.trans e₂), S₁.keeps (s' := { s₁ with heap := h'', toks := tk }) kp rfl, hF.mono (e₁.trans e₂), ?_, w₂⟩
  exact ⟨⟨e, _, _, rfl, new hme.new, h0, g1, ⟨C, rfl⟩, hg, rfl, fun _ => ⟨dc, od, es, n, r1, rfl, new dn, g3, g4, g5, g6, Rep.mono e₂.toKp OwnX.nil Rv⟩⟩, ⟨_, _, rfl⟩, e, _, _, rfl, e₁.fresh S₁ hme.new, g1, rfl, .inl rfl⟩
 | _ => cases l₁
end
end Bn
namespace Bn
open PySem PySem.W PySem.Calls PyProof.Rows Builtin Builtin.ObjectAttr Builtin.Getset_descriptor
set_option maxRecDepth 100000
section
variable {prog : Program} {w : World} {A : Around} {E : Value -> Shared -> Prop} {h : Heap} {g : Array GenState} {d : Drawn} {t : Nat} {os : OsState} {a C NE dx : Addr} {o od : Obj} {vs : Array Value} {es : Array DictEntry} {n : Nat} {v : Value}
theorem ns_find {M : Model} (ho : h.get? dx = some od) (hd : od.data = .dict es n) {name : Str} (hv : nsFind es name = some v) {Q : Option Value -> Shared -> Prop} (hq : Q (some v) ⟨h, g, d, t, os⟩) : wpAny M A (nsGet dx name) Q E ⟨h, g, d, t, os⟩ := by
 have e : lookIn name od = some (some v) := by
  unfold lookIn
  rw [hd]
  obtain ⟨x, h1, h2⟩ := zah.mp (show (es.find? (·.key.isStr name)).map (·.val) = some v from hv)
  dsimp only
  rw [Array.find?_toList, h1]
  exact congrArg (fun z => some (some z)) h2
 unfold nsGet
 refine wpAny_bind (wpAny_loadPart ho ?_)
 rw [nsLook_of e]
 exact wpAny_pure hq
theorem at_entry {tk : Tok} {Q : Fin -> Shared -> Prop} (K : Kid h C NE) (hx : h.get? a = some o) (hc : o.cls = .ref C) (hd : o.data = .fields vs) (hdx : o.dict = some dx) (ho : h.get? dx = some od) (hod : od.data = .dict es n) (hv : nsFind es (Str.ofString "at") = some v)
  (hq : Q (.done (.ret v)) ⟨h, g, d, t, os⟩) : wpAny (model prog w) A (Builtin.«object.__getattribute__» ⟨[.ref a, .str "at" tk], []⟩) Q E ⟨h, g, d, t, os⟩ := by
 have hm : ("at" : Str) ∈ zc2 := .tail _ (.tail _ (.tail _ (.head _)))
 obtain ⟨oc, odt, data, slots⟩ := o
 obtain rfl : oc = _ := hc
 obtain rfl : data = _ := hd
 obtain rfl : odt = _ := hdx
 obtain ⟨ini, nm, q, N, bs, sn, sub, ab, col, dd, k0, k1, k2, k3, k5, mN, hC, _⟩ := K.own
 repeat (any_goals (first | assumption | with_reducible refine wpAny_loadPart_at hx ?_ | with_reducible refine K.lookup hm zl3 ?_ | with_reducible refine wpAny_loadPart_at hC ?_ | with_reducible refine ns_find ho hod hv ?_ | wp_step))
theorem at_get {expr : Bool} {Q : Value -> Shared -> Prop} (K : Kid h C NE) (hx : h.get? a = some o) (hc : o.cls = .ref C) (hd : o.data = .fields vs) (hdx : o.dict = some dx) (ho : h.get? dx = some od) (hod : od.data = .dict es n) (hv : nsFind es (Str.ofString "at") = some v)
  (hh : handedOut v = pure v) (hq : Q v ⟨h, g, d, t + 1, os⟩) : wpAny (model prog w) A (getAttr (.ref a) "at" expr) Q E ⟨h, g, d, t, os⟩ := by
 unfold getAttr
 have FB := PySem.F.attrBase_ValueError
 have f3 := FB.ga.bind (.ref a)
 have hx0 : (expr && onTheHeap (Value.builtin "BaseException.__getattribute__")) = false := by cases expr <;> rfl
 have hx2 : (Value.builtin "BaseException.__getattribute__" == Value.builtin "object.__getattribute__") = false := by decide +kernel
 have hx1 : (onTheHeap (Value.ref C) && Value.builtin "BaseException.__getattribute__" == Value.builtin "object.__getattribute__") = false := by rw [hx2]; rfl
 have hm1 : ("__getattribute__" : Str) ∈ zc2 := .head _
 have hm2 : ("__getattr__" : Str) ∈ zc2 := .tail _ (.head _)
 repeat (any_goals (first | assumption | (with_reducible refine wpAny_loadPart_at hx ?_; rw [hc]) | with_reducible refine K.lookup hm1 FB.ga.lookup ?_ | with_reducible refine K.lookup hm2 FB.noGetattr ?_ | wp_step))
 refine codeAny_call_builtin FB.ga.plain F.entry_bexc_ga (zgi K hx hc (at_entry K hx hc hd hdx ho hod hv ?_))
 repeat (any_goals (first | assumption | wp_step))
end
theorem attr_inv {v w : V} {x : Str} (h : attrV v x = some w) : x = Str.ofString "at" /\ v = .exc (Str.ofString "BadNet") w /\ ((∃ i, w = .int i) \/ w = .none) := by
 cases v with
 | exc cn y =>
  by_cases hc : x = Str.ofString "at" /\ cn = Str.ofString "BadNet"
  ·replace h : zjl y = some w := (if_pos hc).symm.trans h
   cases y with
   | none => obtain rfl := zaa h; exact ⟨hc.1, by rw [hc.2], .inr rfl⟩
   | int i => obtain rfl := zaa h; exact ⟨hc.1, by rw [hc.2], .inl ⟨i, rfl⟩⟩
   | _ => cases h
  ·exact absurd ((if_neg hc).symm.trans h) (fun q => nomatch q)
 | _ => cases h
section
variable {c : Cx} {env : Env} {res : Res}
theorem znr {o : Expr} {x : Ex} {m : Str} {p : Pos} (NO : NetOk c) (hb : zkl o = true) (h : zb3 c env res o x) : zb3 c env res (.Attribute o m p) (.attr x m) := fun A q d k loc φ H s Q E hA hF hS hw => by
 rw [arm_eval_Attribute, zk2 hb]
 refine wpAny_bind (wpAny_mono (h A q d k loc φ H s _ E hA hF hS hw) ?_ fun _ _ h => h)
 rintro r s₁ ⟨φ₁, H₁, v₁, e₁, S₁, R₁, w₁⟩
 obtain ⟨y, hy, w₂⟩ := Opt.inv w₁
 clear w₁
 obtain ⟨rfl, rfl, hw⟩ := attr_inv hy
 obtain ⟨a, ob, vs, rfl, ha, h0, ho, ⟨C, hC⟩, hg, hd, hn⟩ := R₁
 obtain ⟨dx, od, es, n, ra, h1, h2, h3, h4, h5, h6, Rv⟩ := hn rfl
 obtain ⟨NE, C', fI, oI, fd, hn, hg', own, net, I, hst⟩ := NO
 rw [hg, hC] at hg'
 cases hg'
 have K : Kid s₁.heap C NE := ⟨⟨_, own.keeps S₁.stays⟩, net.keeps S₁.stays⟩
 have hh : handedOut ra = pure ra := by
  rcases hw with ⟨i, rfl⟩ | rfl
  ·obtain ⟨t, rfl⟩ := Rv; rfl
  ·obtain rfl := Rv; rfl
 refine wpAny_bind (wpAny_standAt (wpAny_bind (wpAny_holding ?_)))
 obtain ⟨hp, g, d, t, os⟩ := s₁
 refine at_get K ho hC hd h1 h3 h5 h6 hh ?_
 refine wpAny_bind (wpAny_letTemporaryGo (wpAny_pure ?_))
 exact Out.lift (e₁.trans (Ext.of_heap (s' := ⟨hp, g, d, t + 1, os⟩) rfl rfl)) (Out.at' (s := ⟨hp, g, d, t + 1, os⟩) (S₁.tok _) Rv w₂)
end
end Bn
namespace Bn
open PySem PyProof.Rows
inductive Gk | fn | val (v : V) | blt (b : Bl) | isi | enum | rev
structure Tab where
 g : List (Str × Gk)
 t : List (Str × Tc)
inductive EV (e : Expr) : Type
 | name (x : Str) (p : Pos) (h : e = .Name x p)
 | tup (es : List Expr) (k : Nat) (p : Pos) (h : e = .Tuple es k p)
 | attr (o : Expr) (m : Str) (p : Pos) (h : e = .Attribute o m p)
 | slice (q : Option Expr × Option Expr × Option Expr) (p : Pos) (h : e = .Slice q.1 q.2.1 q.2.2 p)
 | sub (o i : Expr) (p : Pos) (h : e = .Subscript o i p)
 | call (f : Expr) (es : List Expr) (kw : List Keyword) (p : Pos) (h : e = .Call f es kw p)
 | un (o : UnaryOp) (l : Expr) (p : Pos) (h : e = .UnaryOp o l p)
 | const (k : Const) (n : Nat) (p : Pos) (h : e = .Constant k n p)
 | other
noncomputable def ev (e : Expr) : EV e := match e with
 | .Name x p => .name x p rfl
 | .Tuple es k p => .tup es k p rfl
 | .Attribute o m p => .attr o m p rfl
 | .Slice a b c p => .slice (a, b, c) p rfl
 | .Subscript o i p => .sub o i p rfl
 | .Call f es kw p => .call f es kw p rfl
 | .UnaryOp o l p => .un o l p rfl
 | .Constant k n p => .const k n p rfl
 | _ => .other
noncomputable def zq6 (x : Str) : Bool := !(x == ("__debug__" : Str)) && !(x == ("__classdict__" : Str))
theorem zii {x : Str} (h : zq6 x = true) : (x == ("__debug__" : Str)) = false /\ (x == ("__classdict__" : Str)) = false := by
 obtain ⟨h1, h2⟩ := zag.mp h
 exact ⟨Bool.not_eq_true' _ |>.mp h1, Bool.not_eq_true' _ |>.mp h2⟩
noncomputable def opOf : Operator -> Option Op
 | .Add => some .add | .Sub => some .sub | .Mult => some .mul | .FloorDiv => some .div | .Mod => some .mod
 | .Pow => some .pow
 | _ => none
theorem zq5 {o : Operator} {p : Op} (h : opOf o = some p) : o = p.real := by
 cases o <;> first | (cases h; done) | (obtain rfl := zaa h; rfl)
noncomputable def cmOf : CmpOp -> Option Cm
 | .Lt => some .lt | .LtE => some .le | .Gt => some .gt | .GtE => some .ge | .Eq => some .eq | .NotEq => some .ne | .In => some .isIn
 | .NotIn => some .notIn
 | .Is => some .is
 | _ => none
theorem zox {o : CmpOp} {p : Cm} (h : cmOf o = some p) : o = p.real := by
 cases o <;> first | (cases h; done) | (obtain rfl := zaa h; rfl)
theorem zid : ∀ {os : List CmpOp} {ps : List Cm}, mapO cmOf os = some ps -> os = ps.map Cm.real
 | [], ps, h => by obtain rfl := zaa h; rfl
 | o :: os, ps, h => by
  obtain ⟨p, ps', h1, h2, rfl⟩ := zb9 h
  rw [zox h1, zid h2]; rfl
noncomputable def meAll : List Me := [Me.append]
 ++ [Me.count, Me.index]
noncomputable def meOf (x : Str) : Option Me := meAll.find? fun m => m.nm == x
theorem meOf_nm {x : Str} {m : Me} (h : meOf x = some m) : x = m.nm := by
 have := List.find?_some (show meAll.find? (fun m => m.nm == x) = some m from h)
 exact (beq_iff_eq.mp this).symm
noncomputable def zkq (res : Res) (names : List (Str × NameKind)) : Res := ⟨false, res.n, names.filterMap fun p => (if p.2 = .free then res.lookup p.1 else none).map fun i => (p.1, i)⟩
noncomputable def below (o : Option Nat) (n : Nat) : Bool := match o with
 | some i => decide (i < n)
 | none => false
theorem zpg {o : Option Nat} {n : Nat} (h : below o n = true) : ∃ i, o = some i /\ i < n := by
 cases o with
 | none => cases h
 | some i => exact ⟨i, rfl, of_decide_eq_true h⟩
noncomputable def cOk1 (nm names : List (Str × NameKind)) (res : Res) (nx : Nat) (p : Str × NameKind) : Bool := match p.2 with
 | .cell => names.lookup p.1 == some .cell
 | .local => names.lookup p.1 == some .local
 | .free => names.lookup p.1 == some .free && (nm.lookup p.1 == some .cell || nm.lookup p.1 == some .free) && below (res.lookup p.1) nx
 | _ => true
noncomputable def cOk (nm names : List (Str × NameKind)) (res : Res) (nx : Nat) : Bool := names.all (cOk1 nm names res nx) && decide ((names.filter fun p => p.2 == .cell).length <= 1)
theorem cOk_free {nm names : List (Str × NameKind)} {res : Res} {nx : Nat} {n : Str} (h : cOk1 nm names res nx (n, .free) = true) : names.lookup n = some .free /\ (nm.lookup n = some .cell \/ nm.lookup n = some .free) /\ ∃ i, res.lookup n = some i /\ i < nx := by
 obtain ⟨h1, h2⟩ := zag.mp h
 obtain ⟨h0, h1⟩ := zag.mp h1
 exact ⟨beq_iff_eq.mp h0, (zbv.mp h1).imp beq_iff_eq.mp beq_iff_eq.mp, zpg h2⟩
theorem zjt {nm names : List (Str × NameKind)} {res : Res} {nx : Nat} {p : Str × NameKind} (h : cOk1 nm names res nx p = true) : (p.2 = .cell -> names.lookup p.1 = some .cell) /\ (p.2 = .local -> names.lookup p.1 = some .local) := by
 obtain ⟨n, k⟩ := p
 refine ⟨fun q => ?_, fun q => ?_⟩
 ·obtain rfl : k = .cell := q; exact beq_iff_eq.mp h
 ·obtain rfl : k = .local := q; exact beq_iff_eq.mp h
theorem one_cell {names : List (Str × NameKind)} (h : (names.filter fun p => p.2 == NameKind.cell).length <= 1) {n n' : Str} (h1 : (n, NameKind.cell) ∈ names) (h2 : (n', NameKind.cell) ∈ names) : n' = n := by
 have m1 : (n, NameKind.cell) ∈ names.filter fun p => p.2 == NameKind.cell := List.mem_filter.mpr ⟨h1, beq_self_eq_true NameKind.cell⟩
 have m2 : (n', NameKind.cell) ∈ names.filter fun p => p.2 == NameKind.cell := List.mem_filter.mpr ⟨h2, beq_self_eq_true NameKind.cell⟩
 generalize (names.filter fun p => p.2 == NameKind.cell) = l at h m1 m2
 cases l with
 | nil => exact nomatch m1
 | cons p r =>
  obtain rfl : r = [] := zbm.mp (Nat.le_zero.mp (Nat.le_of_succ_le_succ h))
  exact (Prod.mk.inj ((zai.mp m2).trans (zai.mp m1).symm)).1
noncomputable def tOk (names : List (Str × NameKind)) (x : Str) : Bool := (names.lookup x == some .local || names.lookup x == some .cell) && x != zdj && x != Str.ofString "at"
noncomputable def zdm (e : Expr) : Option Str := match ev e with
 | .name x _ _ => some x
 | _ => none
noncomputable def tupOf (e : Expr) : Option (List Expr) := match ev e with
 | .tup es _ _ _ => some es
 | _ => none
theorem zcf {i : Expr} {x : Str} (h : zdm i = some x) : ∃ p, i = .Name x p := by
 unfold zdm at h
 generalize ev i = v at h
 cases v with
 | name y p e => obtain rfl := zaa h; exact ⟨p, e⟩
 | _ => cases h
theorem zrg {i : Expr} {es : List Expr} (h : tupOf i = some es) : ∃ x p, i = .Tuple es x p := by
 unfold tupOf at h
 generalize ev i = v at h
 cases v with
 | tup y k p e => obtain rfl := zaa h; exact ⟨k, p, e⟩
 | _ => cases h
noncomputable def tgT (names : List (Str × NameKind)) (r0 : Res) (nx : Nat) (x y : Str) : Option (Res × Tg × Nat) :=
 if tOk names x = true /\ tOk names y = true /\ nx + 1 < r0.n then some (⟨false, r0.n, (y, nx + 1) :: (x, nx) :: r0.t⟩, .two nx (nx + 1), nx + 2) else none
noncomputable def tgOf (names : List (Str × NameKind)) (r0 : Res) (nx : Nat) (e : Expr) : Option (Res × Tg × Nat) := match zdm e with
 | some x => if tOk names x = true /\ nx < r0.n then some (⟨false, r0.n, (x, nx) :: r0.t⟩, .one nx, nx + 1) else none
 | none => (tupOf e).bind fun es => (mapO zdm es).bind fun xs => match xs with
  | [x, y] => tgT names r0 nx x y
  | _ => none
noncomputable def relN (nm names : List (Str × NameKind)) : List (Str × NameKind) := names.map fun (n, k) => if (k == NameKind.free && nm.lookup n == some .cell) then (n, NameKind.cell) else (n, k)
noncomputable def zfj (nm : List (Str × NameKind)) (f : Str) : Bool := zq6 f && nm.lookup f == some .globalImplicit
noncomputable def constE : Const -> Option Ex
 | .int i => some (.lit (.int i))
 | .str s => some (.lit (.str s))
 | .bool b => some (.lit (.bool b))
 | .none => some (.lit .none)
 | _ => none
noncomputable def gkVal : Gk -> Option V
 | .val v => some v
 | _ => none
noncomputable def nameE (T : Tab) (nm : List (Str × NameKind)) (res : Res) (x : Str) : Option Ex :=
 if zq6 x = true then
  match res.lookup x with
  | some i => some (.var i)
  | none => if (nm.lookup x == some .globalImplicit) = true then ((T.g.lookup x).bind gkVal).map .lit else none
 else none
noncomputable def unE : UnaryOp -> Option (Ex -> Ex)
 | .USub => some .neg
 | .Not => some .not
 | _ => none
noncomputable def boE : BoolOp -> List Ex -> Ex
 | .And => .and
 | .Or => .or
noncomputable def slOf (e : Expr) : Option (Option Expr × Option Expr × Option Expr) := match ev e with
 | .slice q _ _ => some q
 | _ => none
theorem slOf_inv {i : Expr} {q : Option Expr × Option Expr × Option Expr} (h : slOf i = some q) : ∃ p, i = .Slice q.1 q.2.1 q.2.2 p := by
 unfold slOf at h
 generalize ev i = v at h
 cases v with
 | slice y p e => obtain rfl := zaa h; exact ⟨p, e⟩
 | _ => cases h
noncomputable def optE (r : Expr -> Option Ex) : Option Expr -> Option Ex
 | none => some (.lit .none)
 | some e => r e
noncomputable def cutE (r : Expr -> Option Ex) (a : Ex) (lo hi st : Option Expr) : Option Ex := match st with
 | none => (optE r lo).bind fun x => (optE r hi).map fun y => .slice a x y
 | some _ => none
noncomputable def subE (r : Expr -> Option Ex) (l i : Expr) : Option Ex := (r l).bind fun a => match slOf i with
 | none => (r i).map fun x => .idx a x
 | some q => cutE r a q.1 q.2.1 q.2.2
noncomputable def isiE (T : Tab) (nm : List (Str × NameKind)) (r : Expr -> Option Ex) (es : List Expr) : Option Ex := match es with
 | [e, t] => (zdm t).bind fun t => (T.t.lookup t).bind fun tc => (r e).bind fun x => if zfj nm t = true /\ zcb e = true then some (.isi x tc) else none
 | _ => none
noncomputable def gkE (T : Tab) (nm : List (Str × NameKind)) (r : Expr -> Option Ex) (f : Str) (es : List Expr) : Gk -> Option Ex
 | .fn => (mapO r es).bind fun xs => if es.all zcb = true /\ es ≠ [] then some (.call f xs) else none
 | .blt b => (mapO r es).bind fun xs => if es.all zcb = true /\ es ≠ [] then some (.blt b xs) else none
 | .isi => isiE T nm r es
 | _ => none
noncomputable def methE (r : Expr -> Option Ex) (o : Expr) (m : Str) (apos pos : Pos) (es : List Expr) : Option Ex :=
 (meOf m).bind fun me => (r o).bind fun x => (mapO r es).bind fun xs => if (es.all zcb = true /\ zkl o = true) /\ (apos.endLine == pos.line) = true /\ es.length < 20 then some (.meth me x xs) else none
noncomputable def zrq (e : Expr) : Option (Expr × Str × Pos) := match ev e with
 | .attr o m p _ => some (o, m, p)
 | _ => none
theorem zn2 {i : Expr} {q : Expr × Str × Pos} (h : zrq i = some q) : i = .Attribute q.1 q.2.1 q.2.2 := by
 unfold zrq at h
 generalize ev i = v at h
 cases v with
 | attr y k p e => obtain rfl := zaa h; exact e
 | _ => cases h
noncomputable def callE (T : Tab) (nm : List (Str × NameKind)) (r : Expr -> Option Ex) (f : Expr) (es : List Expr) (pos : Pos) : Option Ex := match zdm f with
 | some f => if zfj nm f = true then (T.g.lookup f).bind (gkE T nm r f es) else none
 | none => (zrq f).bind fun q => methE r q.1 q.2.1 q.2.2 pos es
noncomputable def genOf : List Comprehension -> Option (Expr × Expr × List Expr)
 | [g] => if g.is_async = 0 then some (g.target, g.iter, g.ifs) else none
 | _ => none
noncomputable def eE (T : Tab) : Nat -> List (Str × NameKind) -> Res -> Nat -> Expr -> Option Ex
 | 0, _, _, _, _ => none
 | n + 1, nm, res, nx, e => match e with
  | .Constant k _ _ => constE k
  | .Name x _ => nameE T nm res x
  | .Tuple es _ _ => (mapO (eE T n nm res nx) es).bind fun xs => if es.all zcb = true /\ xs.length <= 1000 then some (.tup xs) else none
  | .List es _ => (mapO (eE T n nm res nx) es).bind fun xs => if es.all zcb = true /\ xs.length <= 1000 then some (.list xs) else none
  | .Dict ks vs _ => if ks = [] /\ vs = [] then some .dict0 else none
  | .BinOp l op r _ => (opOf op).bind fun p => (eE T n nm res nx l).bind fun a => (eE T n nm res nx r).map fun b => .bin p a b
  | .UnaryOp o l _ => (unE o).bind fun f => (eE T n nm res nx l).map f
  | .BoolOp o es _ => (mapO (eE T n nm res nx) es).map (boE o)
  | .Compare l ops es _ => (mapO cmOf ops).bind fun ps => (eE T n nm res nx l).bind fun a => (mapO (eE T n nm res nx) es).bind fun xs => if es.all zgk = true /\ ps.length = es.length then some (.cmp a ps xs) else none
  | .Subscript l i _ => subE (eE T n nm res nx) l i
  | .Attribute o m _ => if zkl o = true then (eE T n nm res nx o).map fun a => .attr a m else none
  | .Call f es kw pos => if kw = [] then callE T nm (eE T n nm res nx) f es pos else none
  | .ListComp elt gs scope _ => (genOf gs).bind fun g => (if (cOk nm scope.names res nx = true /\ scope.kind = .function) /\ zgk g.2.1 = true then
    tgOf scope.names (zkq res scope.names) nx g.1 else none).bind fun q => (eE T n nm res nx g.2.1).bind fun xs =>
     (eE T n (relN nm scope.names) q.1 q.2.2 elt).bind fun x => (mapO (eE T n (relN nm scope.names) q.1 q.2.2) g.2.2).map fun ys => .comp x q.2.1 xs ys
  | _ => none
inductive FnAt (c : Cx) (x : Str) : Prop
 | mk (a : Addr) (o : Obj) (fd : FuncData) (h1 : c.g x = some (.ref a)) (h2 : c.h0.get? a = some o) (h3 : o.data = .func fd) : FnAt c x
inductive TyAt (c : Cx) (x : Str) (t : Tc) : Prop
 | mk (S : String) (h1 : t.real = some S) (h2 : x = Str.ofString S) (h3 : c.g x = none) (h4 : c.b x = some (.type S)) : TyAt c x t
 | own (h1 : t = .own x) (h2 : x ∈ kids \/ x = Str.ofString "ValueError") : TyAt c x t
structure TabOk (c : Cx) (T : Tab) : Prop where
 fn : ∀ x, T.g.lookup x = some .fn -> FnAt c x
 val : ∀ x v, T.g.lookup x = some (.val v) -> ∃ r, c.g x = some r /\ Rep c [] c.h0 v r
 blt : ∀ x b, T.g.lookup x = some (.blt b) -> c.g x = none /\ c.b x = some b.real
 isi : ∀ x, T.g.lookup x = some .isi -> x = Str.ofString "isinstance" /\ c.g x = none /\ c.b x = some (.builtin "isinstance")
 enum : ∀ x, T.g.lookup x = some .enum -> c.g x = none /\ c.b x = some (.type "enumerate")
 rev : ∀ x, T.g.lookup x = some .rev -> c.g x = none /\ c.b x = some (.type "reversed")
 ty : ∀ x t, T.t.lookup x = some t -> TyAt c x t
 ex : ExcOk c
 nt : NetOk c
noncomputable def Both (c : Cx) (env : Env) (res : Res) (e : Expr) (x : Ex) : Prop := zb3 c env res e x /\ zej c env res e x
theorem zi6 {α β : Type} {f : α -> Option β} : ∀ {l : List α} {r : List β}, mapO f l = some r -> l.length = r.length
 | [], r, h => by obtain rfl := zaa h; rfl
 | a :: l, r, h => by
  obtain ⟨b, bs, _, h2, rfl⟩ := zb9 h
  exact congrArg (· + 1) (zi6 h2)
section
variable {c : Cx} {env : Env} {res : Res} {r : Expr -> Option Ex}
theorem zc8 (ih : ∀ e x, r e = some x -> Both c env res e x) : ∀ {es : List Expr} {xs : List Ex}, mapO r es = some xs -> zdq c env res es xs
 | [], _, h => by obtain rfl := zaa h; rfl
 | e :: es, _, h => by
  obtain ⟨x, xs, h1, h2, rfl⟩ := zb9 h
  exact ⟨(ih _ _ h1).1, zc8 ih h2⟩
theorem zc7 (ih : ∀ e x, r e = some x -> Both c env res e x) : ∀ {es : List Expr} {xs : List Ex}, mapO r es = some xs -> zc9 c env res es xs
 | [], _, h => by obtain rfl := zaa h; rfl
 | e :: es, _, h => by
  obtain ⟨x, xs, h1, h2, rfl⟩ := zb9 h
  exact ⟨(ih _ _ h1).2, zc7 ih h2⟩
theorem zcj (ih : ∀ e x, r e = some x -> Both c env res e x) : ∀ {es : List Expr} {xs : List Ex}, mapO r es = some xs -> es.all zcb = true -> zdn c env res es xs
 | [], _, h, _ => by obtain rfl := zaa h; exact zia
 | e :: es, _, h, hn => by
  obtain ⟨x, xs, h1, h2, rfl⟩ := zb9 h
  obtain ⟨n1, n2⟩ := zag.mp hn
  exact zhk n1 (ih _ _ h1).1 (zcj ih h2 n2)
end
end Bn
namespace Bn
open PySem PyProof.Rows
section
variable {c : Cx} {T : Tab}
theorem zb4 {env : Env} {res : Res} {e : Expr} {x : Ex} (h : zb3 c env res e x) (hp : zhq e = true) : Both c env res e x := ⟨h, zj5 h hp⟩
theorem zfb {scope : Scope} {env : Env} {nm : List (Str × NameKind)} (h : env.scope.names = nm) (hk : env.scope.kind = .function) : (relabel scope env).names = relN nm scope.names := by
 unfold relabel relN
 simp only
 refine List.map_congr_left fun p _ => ?_
 obtain ⟨n, k⟩ := p
 have : env.kindOf n = nm.lookup n := by rw [<- h]; rfl
 simp only [this, hk]
 cases k <;> simp
theorem zck {α β : Type} {f : Str × α -> Option β} : ∀ {l : List (Str × α)} {x : Str} {i : β}, (l.filterMap fun p => (f p).map fun i => (p.1, i)).lookup x = some i -> ∃ p ∈ l, p.1 = x /\ f p = some i
 | p :: l, x, i, h => by
  rw [List.filterMap_cons] at h
  cases hp : f p with
  | none => rw [hp] at h; obtain ⟨q, hq, hq'⟩ := zck h; exact ⟨q, zaj _ hq, hq'⟩
  | some r =>
   rw [hp] at h
   change List.lookup x ((p.1, r) :: _) = _ at h
   rw [za1] at h
   cases hb : x == p.1 with
   | true =>
    rw [hb] at h
    exact ⟨p, zae, (beq_iff_eq.mp hb).symm, by rw [<- h]; exact hp⟩
   | false =>
    rw [hb] at h
    obtain ⟨q, hq, hq'⟩ := zck h; exact ⟨q, zaj _ hq, hq'⟩
theorem zpm {res : Res} {names : List (Str × NameKind)} {x : Str} {i : Nat} (h : (zkq res names).lookup x = some i) : (x, NameKind.free) ∈ names /\ res.lookup x = some i := by
 obtain ⟨⟨n, k⟩, hp, rfl, hp'⟩ := zck (f := fun p : Str × NameKind => if p.2 = .free then res.lookup p.1 else none) h
 obtain ⟨hk, hl⟩ := iteO hp'
 obtain rfl : k = .free := hk
 exact ⟨hp, hl⟩
theorem zgw {x y : Str} {nx j : Nat} {l : List (Str × Nat)} (h : List.lookup y ((x, nx) :: l) = some j) : (y = x /\ j = nx) \/ (y ≠ x /\ l.lookup y = some j) := by
 rw [za1] at h
 cases hb : y == x with
 | true => rw [hb] at h; exact .inl ⟨beq_iff_eq.mp hb, (zaa h).symm⟩
 | false => rw [hb] at h; exact .inr ⟨beq_eq_false_iff_ne.mp hb, h⟩
theorem zlt {names : List (Str × NameKind)} {x : Str} (h : tOk names x = true) : (names.lookup x = some .local \/ names.lookup x = some .cell) /\ x ≠ zdj /\ x ≠ Str.ofString "at" := by
 obtain ⟨h1, h2⟩ := zag.mp h
 obtain ⟨h0, h1⟩ := zag.mp h1
 exact ⟨(zbv.mp h0).imp beq_iff_eq.mp beq_iff_eq.mp, bne_iff_ne.mp h1, bne_iff_ne.mp h2⟩
theorem zhj {al : Str -> Bool} {cenv : Env} {r0 : Res} {x : Str} {nx : Nat} (hk : cenv.kindOf x = some .local \/ (al x = true /\ cenv.kindOf x = some .cell)) (hj : x ≠ zdj /\ x ≠ Str.ofString "at") (hlt : nx < r0.n) (hb : ∀ y j, r0.lookup y = some j -> j < nx) :
  StoreOk al cenv r0 ⟨r0.fr, r0.n, (x, nx) :: r0.t⟩ x nx :=
 ⟨⟨rfl, rfl, fun y j hy => (zgw hy).imp id fun h => ⟨h.1, h.2, zao (hb y j h.2)⟩, hlt, hj.1, .inl hj.2⟩, hk⟩
structure FreeOk (nm : List (Str × NameKind)) (res : Res) (nx : Nat) (names : List (Str × NameKind)) (n : Str) : Prop where
 free : names.lookup n = some .free
 kind : nm.lookup n = some .cell \/ nm.lookup n = some .free
 slot : ∃ i, res.lookup n = some i /\ i < nx
structure TgtOk (r0 res' : Res) (scope : Scope) (env : Env) (tgt : Expr) (t : Tg) : Prop where
 n : res'.n = r0.n /\ res'.fr = false
 tg : ∀ cenv : Env, cenv.scope = relabel scope env -> TgOk (ownY scope) cenv r0 res' tgt t
 sub : ∀ y i, r0.lookup y = some i -> (y, NameKind.free) ∈ scope.names -> res'.lookup y = some i /\ t.out i
theorem ze0 {x y : Str} {nx : Nat} {l : List (Str × Nat)} {o : Option Nat} (h : y ≠ x) (hl : l.lookup y = o) : List.lookup y ((x, nx) :: l) = o := by
 rw [za1, beq_eq_false_iff_ne.mpr h]; exact hl
theorem tgt_ok {r0 res' : Res} {nx nx' : Nat} {scope : Scope} {env : Env} {tgt : Expr} {t : Tg} (hfr : r0.fr = false) (hfree : ∀ n, (n, NameKind.free) ∈ scope.names -> scope.names.lookup n = some .free) (hb : ∀ y j, r0.lookup y = some j -> j < nx)
  (ht : tgOf scope.names r0 nx tgt = some (res', t, nx')) : TgtOk r0 res' scope env tgt t := by
 have hloc : ∀ cenv : Env, cenv.scope = relabel scope env -> ∀ x, (scope.names.lookup x = some .local \/ scope.names.lookup x = some .cell) -> cenv.kindOf x = some .local \/ (ownY scope x = true /\ cenv.kindOf x = some .cell) := fun cenv hcs x hx => by
  show List.lookup x cenv.scope.names = _ \/ _ /\ List.lookup x cenv.scope.names = _
  rw [hcs]
  rcases hx with hx | hx
  ·exact .inl (lookup_relabel_local hx)
  ·exact .inr ⟨by rw [ownY, hx]; rfl, (zdo hx).trans rfl⟩
 have ne : ∀ {x y : Str}, (scope.names.lookup x = some .local \/ scope.names.lookup x = some .cell) -> (y, NameKind.free) ∈ scope.names -> y ≠ x := fun {x y} hx hy q => by
  subst q
  rcases hx with hx | hx <;> (rw [hfree y hy] at hx; cases hx)
 obtain ⟨fr, n, l⟩ := r0
 obtain rfl : fr = false := hfr
 unfold tgOf at ht
 cases hn : zdm tgt with
 | some x =>
  rw [hn] at ht
  obtain ⟨p, rfl⟩ := zcf hn
  obtain ⟨⟨h1, h2⟩, e⟩ := iteS ht
  obtain ⟨t1, t2⟩ := zlt h1
  cases e
  exact ⟨⟨rfl, rfl⟩, fun cenv hcs => ⟨x, p, rfl, zhj (hloc cenv hcs x t1) t2 h2 hb⟩, fun y i hy hm => ⟨ze0 (ne t1 hm) hy, zao (hb y i hy)⟩⟩
 | none =>
  rw [hn] at ht
  obtain ⟨es, h1, ht1⟩ := zab.mp ht
  clear ht
  obtain ⟨k, p, rfl⟩ := zrg h1
  obtain ⟨xs, h2, ht2⟩ := zab.mp ht1
  clear ht1
  match xs, ht2, h2 with
  | [x, y], ht3, h2 =>
   obtain ⟨⟨h3, h4, h5⟩, e⟩ := iteS ht3
   obtain ⟨t1, t2⟩ := zlt h3
   obtain ⟨u1, u2⟩ := zlt h4
   cases e
   match es, h2 with
   | e1 :: es, h2 =>
    obtain ⟨_, _, a1, a2, a3⟩ := zb9 h2
    clear h2
    cases a3
    obtain ⟨p1, rfl⟩ := zcf a1
    match es, a2 with
    | e2 :: es, a2 =>
     obtain ⟨_, _, b1, b2, b3⟩ := zb9 a2
     clear a2
     cases b3
     obtain ⟨p2, rfl⟩ := zcf b1
     match es, b2 with
     | [], _ =>
      refine ⟨⟨rfl, rfl⟩, fun cenv hcs => ⟨_, _, _, rfl, x, p1, ⟨false, n, (x, nx) :: l⟩, rfl, zhj (hloc cenv hcs x t1) t2 (Nat.lt_of_succ_lt h5) hb, y, p2, _, rfl, zhj (r0 := ⟨false, n, (x, nx) :: l⟩) (hloc cenv hcs y u1) u2 h5 fun z j hz => ?_, rfl, rfl⟩,
       fun z i hz hm => ⟨ze0 (ne u1 hm) (ze0 (ne t1 hm) hz), zao (hb z i hz), zao (Nat.lt_succ_of_lt (hb z i hz))⟩⟩
      rcases zgw hz with ⟨_, rfl⟩ | ⟨_, h⟩
      ·exact zbq _
      ·exact Nat.lt_succ_of_lt (hb z j h)
     | _ :: _, b2 =>
      obtain ⟨_, _, _, _, b4⟩ := zb9 b2
      cases b4
theorem zho {env : Env} {res res' : Res} {nm : List (Str × NameKind)} {nx nx' : Nat} {scope : Scope} {tgt : Expr} {t : Tg} (hnm : env.scope.names = nm) (hc : cOk nm scope.names res nx = true) (hkind : scope.kind = .function)
  (ht : tgOf scope.names (zkq res scope.names) nx tgt = some (res', t, nx')) : CompOk c env res (zkq res scope.names) res' scope tgt t := by
 obtain ⟨hc, h1c⟩ := zag.mp hc
 have hall := zba.mp hc
 have hfree : ∀ n, (n, NameKind.free) ∈ scope.names -> FreeOk nm res nx scope.names n := fun n hn => by
  obtain ⟨h1, h2, i, hi, h3⟩ := cOk_free (hall _ hn)
  exact ⟨h1, h2, i, hi, h3⟩
 have hb : ∀ y j, (zkq res scope.names).lookup y = some j -> j < nx := fun y j hy => by
  obtain ⟨h1, h2⟩ := zpm hy
  obtain ⟨i, h3, h4⟩ := (hfree y h1).slot
  obtain rfl := zaa (h2.symm.trans h3)
  exact h4
 have b := tgt_ok (env := env) rfl (fun n hn => (hfree n hn).free) hb ht
 refine ⟨hkind, fun n n' h1 h2 => one_cell (of_decide_eq_true h1c) h1 h2, fun n hn hm => (nomatch ((zjt (hall _ hm)).1 rfl).symm.trans (hfree n hn).free), fun y hy q => (zjt (hall y hy)).2 q, fun n hn => ?_, rfl, rfl, fun x i hx => ?_, b.n, b.tg⟩
 ·have : env.kindOf n = nm.lookup n := by rw [<- hnm]; rfl
  rw [this]
  obtain ⟨i, h3, _⟩ := (hfree n hn).slot
  exact ⟨(hfree n hn).kind, i, h3⟩
 ·obtain ⟨h1, h2⟩ := zpm hx
  exact ⟨h2, h1, (hfree x h1).free, (b.sub x i hx h1).1, (b.sub x i hx h1).2⟩
theorem zex {nm : List (Str × NameKind)} {f : Str} {env : Env} (hnm : env.scope.names = nm) (h : zfj nm f = true) : env.kindOf f = some .globalImplicit /\ (f == ("__debug__" : Str)) = false := by
 obtain ⟨h1, h2⟩ := zag.mp h
 refine ⟨?_, (zii h1).1⟩
 show List.lookup f env.scope.names = _
 rw [hnm]; exact beq_iff_eq.mp h2
theorem zlm {iter : Expr} {env : Env} (h : zgk iter = true) : ∀ x, foldedSetIterable iter env x = pure x := fun x => by
 cases iter <;> first | rfl | cases h
theorem zkw {gs : List Comprehension} {g : Expr × Expr × List Expr} (h : genOf gs = some g) : gs = [⟨g.1, g.2.1, g.2.2, 0⟩] := by
 match gs, h with
 | [⟨a, b, c, d⟩], h =>
  obtain ⟨h0, rfl⟩ := iteS h
  obtain rfl : d = 0 := h0
  rfl
section
variable {env : Env} {nm : List (Str × NameKind)} {res : Res} {r : Expr -> Option Ex}
theorem zpo {k : Const} {n : Nat} {p : Pos} {x : Ex} (h : constE k = some x) : Both c env res (.Constant k n p) x := by
 cases k with
 | int => obtain rfl := zaa h; exact zb4 zps rfl
 | str => obtain rfl := zaa h; exact zb4 zq0 rfl
 | bool => obtain rfl := zaa h; exact zb4 znf rfl
 | none => obtain rfl := zaa h; exact zb4 zne rfl
 | _ => cases h
theorem nameE_ok (O : c.Ok) (TO : TabOk c T) (hnm : env.scope.names = nm) {y : Str} {p : Pos} {x : Ex} (h : nameE T nm res y = some x) : Both c env res (.Name y p) x := by
 obtain ⟨h1, h⟩ := iteO h
 obtain ⟨n1, n2⟩ := zii h1
 cases h2 : res.lookup y with
 | some i =>
  rw [h2] at h
  obtain rfl := zaa h
  exact zb4 (zom h2 n1 n2) rfl
 | none =>
  rw [h2] at h
  obtain ⟨h2, h⟩ := iteO h
  obtain ⟨v, h3, rfl⟩ := zah.mp h
  obtain ⟨g, h4, h5⟩ := zab.mp h3
  cases g with
  | val w =>
   obtain rfl := zaa h5
   obtain ⟨q, hr, hR⟩ := TO.val _ _ h4
   refine zb4 (znx O ?_ hr hR n1) rfl
   show List.lookup _ env.scope.names = _
   rw [hnm]; exact beq_iff_eq.mp h2
  | _ => cases h5
theorem zqh (ih : ∀ e x, r e = some x -> Both c env res e x) {o : Option Expr} {y : Ex} (q : optE r o = some y) : zmd c env res o y := by
 cases o with
 | none => exact (zaa q).symm
 | some e => exact (ih _ _ q).1
theorem subE_ok (ih : ∀ e x, r e = some x -> Both c env res e x) {l i : Expr} {p : Pos} {x : Ex} (h : subE r l i = some x) : Both c env res (.Subscript l i p) x := by
 obtain ⟨a, h1, h2⟩ := zab.mp h
 cases hs : slOf i with
 | none =>
  rw [hs] at h2
  obtain ⟨y, h3, rfl⟩ := zah.mp h2
  exact zb4 (zo7 (ih _ _ h1).1 (ih _ _ h3).1) rfl
 | some q =>
  rw [hs] at h2
  obtain ⟨lo, hi, st⟩ := q
  obtain ⟨p', rfl⟩ := slOf_inv hs
  cases st with
  | none =>
   obtain ⟨y, h3, h4⟩ := zab.mp (show (optE r lo).bind _ = some x from h2)
   obtain ⟨z, h5, rfl⟩ := zah.mp h4
   exact zb4 (zk1 (ih _ _ h1).1 (zqh ih h3) (zqh ih h5)) rfl
  | some s =>
   cases h2
theorem isiE_ok (O : c.Ok) (TO : TabOk c T) (hnm : env.scope.names = nm) (ih : ∀ e x, r e = some x -> Both c env res e x) {f : Str} {es : List Expr} {p p' : Pos} {x : Ex} (h1 : zfj nm f = true) (h2 : T.g.lookup f = some .isi) (h : isiE T nm r es = some x) : Both c env res (.Call (.Name f p) es [] p') x := by
 match es, h with
 | [e, t], h =>
  obtain ⟨t, ht, k⟩ := zab.mp h
  obtain ⟨q, rfl⟩ := zcf ht
  obtain ⟨tc, h4, k⟩ := zab.mp k
  obtain ⟨y, h5, k6⟩ := zab.mp k
  obtain ⟨⟨h6, h7⟩, rfl⟩ := iteS k6
  obtain ⟨rfl, g1, g2⟩ := TO.isi _ h2
  obtain ⟨k1, _⟩ := zex hnm h1
  obtain ⟨k2, k3⟩ := zex hnm h6
  cases TO.ty _ _ h4 with
  | mk S s1 s2 s3 s4 => subst s2; exact zb4 (zrk O s1 k1 k2 g1 g2 s3 s4 k3 h7 (ih _ _ h5).1) rfl
  | own s1 s2 => subst s1; exact zb4 (zi1 O TO.ex s2 k1 k2 g1 g2 k3 h7 (ih _ _ h5).1) rfl
theorem callE_ok (O : c.Ok) (TO : TabOk c T) (hnm : env.scope.names = nm) (ih : ∀ e x, r e = some x -> Both c env res e x) {f : Expr} {es : List Expr} {p : Pos} {x : Ex} (h : callE T nm r f es p = some x) : Both c env res (.Call f es [] p) x := by
 unfold callE at h
 cases hf : zdm f with
 | some f' =>
  rw [hf] at h
  obtain ⟨p', rfl⟩ := zcf hf
  obtain ⟨h1, h⟩ := iteO h
  obtain ⟨k1, k2⟩ := zex hnm h1
  obtain ⟨g, h2, h3⟩ := zab.mp h
  cases g with
  | fn =>
   obtain ⟨xs, m3, h4⟩ := zab.mp (show (mapO r es).bind _ = some x from h3)
   obtain ⟨h5, rfl⟩ := iteS h4
   obtain ⟨a, o, fd, g1, g2, g3⟩ := TO.fn _ h2
   exact zb4 (znq O k1 g1 g2 g3 k2 (zcj ih m3 h5.1) h5.2) rfl
  | blt b =>
   obtain ⟨xs, m3, h4⟩ := zab.mp (show (mapO r es).bind _ = some x from h3)
   obtain ⟨h5, rfl⟩ := iteS h4
   obtain ⟨g1, g2⟩ := TO.blt _ _ h2
   exact zb4 (zqc O k1 g1 g2 k2 (zcj ih m3 h5.1) h5.2) rfl
  | isi => exact isiE_ok O TO hnm ih h1 h2 h3
  | _ => cases h3
 | none =>
  rw [hf] at h
  obtain ⟨q, ha, h'⟩ := zab.mp h
  clear h
  obtain rfl := zn2 ha
  obtain ⟨me, h1, k⟩ := zab.mp h'
  obtain ⟨y, h2, k2⟩ := zab.mp k
  obtain ⟨xs, h3, k3⟩ := zab.mp k2
  obtain ⟨h4, rfl⟩ := iteS k3
  rw [meOf_nm h1]
  exact zb4 (znn h4.1.2 h4.2.1 h4.2.2 (ih _ _ h2).1 (zcj ih h3 h4.1.1)) rfl
end
theorem zcs (O : c.Ok) (TO : TabOk c T) : ∀ n {nm : List (Str × NameKind)} {res : Res} {nx : Nat} {e : Expr} {x : Ex} {env : Env}, eE T n nm res nx e = some x -> env.scope.names = nm -> env.scope.kind = .function -> Both c env res e x
 | 0, _, _, _, _, _, _, h, _, _ => nomatch h
 | n + 1, nm, res, nx, e, x, env, h, hnm, hef => by
  have ih : ∀ e x, eE T n nm res nx e = some x -> Both c env res e x := fun e x h => zcs O TO n h hnm hef
  cases e with
  | Constant k i p => exact zpo h
  | Name y p => exact nameE_ok O TO hnm h
  | Tuple es k p =>
   obtain ⟨xs, h1, h2⟩ := zab.mp (show (mapO _ es).bind _ = some x from h)
   obtain ⟨h3, rfl⟩ := iteS h2
   exact zb4 (zp8 (zcj ih h1 h3.1) h3.2) rfl
  | List es p =>
   obtain ⟨xs, h1, h2⟩ := zab.mp (show (mapO _ es).bind _ = some x from h)
   obtain ⟨h3, rfl⟩ := iteS h2
   exact zb4 (zof (zcj ih h1 h3.1) h3.2) rfl
  | Dict ks vs p =>
   obtain ⟨h3, rfl⟩ := iteS h
   obtain rfl : ks = [] := h3.1
   obtain rfl : vs = [] := h3.2
   exact zb4 (zk6 O) rfl
  | BinOp l op r p =>
   obtain ⟨o, h1, h2⟩ := zab.mp (show (opOf op).bind _ = some x from h)
   obtain ⟨a, h3, h4⟩ := zab.mp h2
   obtain ⟨b, h5, rfl⟩ := zah.mp h4
   rw [zq5 h1]
   exact zb4 (zpx O (ih _ _ h3).1 (ih _ _ h5).1) rfl
  | UnaryOp o l p =>
   obtain ⟨f, h1, h2⟩ := zab.mp (show (unE o).bind _ = some x from h)
   obtain ⟨a, h3, rfl⟩ := zah.mp h2
   cases o with
   | USub => obtain rfl := zaa h1; exact zb4 (zpb (ih _ _ h3).1) rfl
   | Not => obtain rfl := zaa h1; exact ⟨zo0 (ih _ _ h3).1, zn5 (ih _ _ h3).2⟩
   | _ => cases h1
  | BoolOp o es p =>
   obtain ⟨xs, h1, rfl⟩ := zah.mp (show (mapO _ es).map _ = some x from h)
   cases o with
   | And => exact ⟨zo2 (zc8 ih h1), zn1 (zc7 ih h1)⟩
   | Or => exact ⟨sound_or (zc8 ih h1), zqi (zc7 ih h1)⟩
  | Compare l ops es p =>
   obtain ⟨ps, h1, h2⟩ := zab.mp (show (mapO _ ops).bind _ = some x from h)
   obtain ⟨a, h3, h4⟩ := zab.mp h2
   obtain ⟨xs, h5, h6⟩ := zab.mp h4
   obtain ⟨h7, rfl⟩ := iteS h6
   rw [zid h1]
   exact ⟨zrs (ih _ _ h3).1 (zc8 ih h5) h7.2 h7.1, znj (ih _ _ h3).1 (zc8 ih h5) h7.2 h7.1⟩
  | Subscript l i p => exact subE_ok ih h
  | Attribute o m p =>
   obtain ⟨h1, h2⟩ := iteO h
   obtain ⟨a, h3, rfl⟩ := zah.mp h2
   exact zb4 (znr TO.nt h1 (ih _ _ h3).1) rfl
  | Call f es kw p =>
   obtain ⟨h3, h2⟩ := iteO h
   obtain rfl : kw = [] := h3
   exact callE_ok O TO hnm ih h2
  | ListComp elt gs scope p =>
   obtain ⟨g, h1, h2⟩ := zab.mp (show (genOf gs).bind _ = some x from h)
   obtain ⟨q, h3, h4⟩ := zab.mp h2
   obtain ⟨h5, h6⟩ := iteO h3
   obtain ⟨xs, h7, h8⟩ := zab.mp h4
   obtain ⟨y, h9, h10⟩ := zab.mp h8
   obtain ⟨ys, h11, rfl⟩ := zah.mp h10
   obtain rfl := zkw h1
   have sub : ∀ cenv : Env, cenv.scope = relabel scope env -> ∀ e x, eE T n (relN nm scope.names) q.1 q.2.2 e = some x -> Both c cenv q.1 e x := fun cenv hcs e x h => zcs O TO n h (by rw [hcs]; exact zfb hnm hef) (by rw [hcs]; exact h5.1.2)
   exact zb4 (zng (zho (c := c) hnm h5.1.1 h5.1.2 h6) (zlm h5.2) (ih _ _ h7).1 (fun cenv hcs => (sub cenv hcs _ _ h9).1) fun cenv hcs => zc7 (sub cenv hcs) h11) rfl
  | _ => cases h
end
end Bn
namespace Bn
open PySem PyProof.Rows
noncomputable def stIx (nm : List (Str × NameKind)) (res : Res) (y : Str) : Option Nat :=
 (res.lookup y).bind fun i => if (nm.lookup y = some .local \/ nm.lookup y = some .cell) /\ y ≠ zdj /\ res.fr = true then some i else none
noncomputable def zke (res : Res) : Bool := decide ((res.t.map (·.2)).Nodup) && res.t.all fun p => decide (p.2 < res.n)
noncomputable def stE (nm : List (Str × NameKind)) (res : Res) (e : Expr) : Option Nat := (zdm e).bind (stIx nm res)
noncomputable def tg2 (nm : List (Str × NameKind)) (res : Res) (e : Expr) : Option Tg := match ev e with
 | .name x _ _ => (stIx nm res x).map .one
 | .tup es _ _ _ => (mapO (stE nm res) es).bind fun l => match l with
  | [i, j] => some (.two i j)
  | _ => none
 | _ => none
noncomputable def isTup : Expr -> Bool
 | .Tuple .. => true
 | _ => false
noncomputable def zpk : Expr -> Bool
 | .ListComp .. | .SetComp .. | .DictComp .. => true
 | _ => false
noncomputable def one1 {α β : Type} (l : List α) (f : α -> Option β) : Option β := match l with
 | [] => none
 | x :: r => match r with
  | [] => f x
  | _ :: _ => none
theorem zm2 {α β : Type} {l : List α} {f : α -> Option β} {r : β} (h : one1 l f = some r) : ∃ x, l = [x] /\ f x = some r := by
 cases l with
 | nil => cases h
 | cons x l => cases l with
  | nil => exact ⟨x, rfl, h⟩
  | cons => cases h
noncomputable def srOf (e : Expr) : Option (Str × Expr) := match ev e with
 | .call f es kw _ _ => (zdm f).bind fun x => one1 es fun e => if kw = [] then some (x, e) else none
 | _ => none
theorem zmm {i e : Expr} {f : Str} (h : srOf i = some (f, e)) : ∃ p p', i = .Call (.Name f p) [e] [] p' := by
 unfold srOf at h
 generalize ev i = v at h
 cases v with
 | call g es kw p' q =>
  obtain ⟨x, h1, k⟩ := zab.mp h
  obtain ⟨e', rfl, k2⟩ := zm2 k
  obtain ⟨h2, k3⟩ := iteS k2
  obtain ⟨p, rfl⟩ := zcf h1
  cases k3
  obtain rfl : kw = [] := h2
  exact ⟨p, p', q⟩
 | _ => cases h
noncomputable def srK (r : Expr -> Option Ex) (tg : Expr) (e : Expr) (dflt : Option Sr) (g : Gk) : Option Sr := match g with
 | .enum => if isTup tg = true then (r e).map .enum else none
 | .rev => (r e).map .rev
 | _ => dflt
noncomputable def eSr (T : Tab) (n : Nat) (nm : List (Str × NameKind)) (res : Res) (nx : Nat) (tg : Expr) (iter : Expr) : Option Sr :=
 match (srOf iter).bind fun q => if zfj nm q.1 = true /\ zcb q.2 = true then (T.g.lookup q.1).map fun g => (q, g) else none with
 | some q => srK (eE T n nm res nx) tg q.1.2 ((eE T n nm res nx iter).map .val) q.2
 | none => (eE T n nm res nx iter).map .val
noncomputable def asgE (T : Tab) (n : Nat) (nm : List (Str × NameKind)) (res : Res) (nx : Nat) (e : Expr) (t : Expr) : Option St := match ev t with
 | .name y _ _ => (stIx nm res y).bind fun i => (eE T n nm res nx e).map fun x => .set i x
 | .tup es _ _ _ => (mapO (stE nm res) es).bind fun is => (eE T n nm res nx e).bind fun x => if isTup e = false then some (.unp is x) else none
 | .sub o i _ _ => (eE T n nm res nx o).bind fun a => (eE T n nm res nx i).bind fun j => (eE T n nm res nx e).map fun x => .put a j x
 | _ => none
noncomputable def raiN (T : Tab) (n : Nat) (nm : List (Str × NameKind)) (res : Res) (nx : Nat) (cn : Str) (es : List Expr) (kw : List Keyword) : Option St :=
 if zfj nm cn = true /\ cn = Str.ofString "BadNet" /\ kw = [] /\ es.all zcb = true /\ es.length = 1 then (mapO (eE T n nm res nx) es).map (.rais cn) else some .stuck
noncomputable def raiE (T : Tab) (n : Nat) (nm : List (Str × NameKind)) (res : Res) (nx : Nat) (e : Expr) : Option St := match ev e with
 | .call f es kw _ _ => match zdm f with
  | some cn => if zfj nm cn = true /\ cn ∈ kids /\ cn ≠ Str.ofString "BadNet" /\ kw = [] /\ es.all zcb = true /\ es ≠ [] /\ es.length <= 9 then (mapO (eE T n nm res nx) es).map (.rais cn) else raiN T n nm res nx cn es kw
  | none => some .stuck
 | _ => some .stuck
structure Hand where
 t : Expr
 n : Str
 h : Stmt
 hs : List Stmt
 p : Pos
noncomputable def zmp : List ExceptHandler -> Option Hand
 | [.ExceptHandler (some t) (some n) (h :: hs) p] => some ⟨t, n, h, hs, p⟩
 | _ => none
theorem zm7 {l : List ExceptHandler} {k : Hand} (h : zmp l = some k) : l = [.ExceptHandler (some k.t) (some k.n) (k.h :: k.hs) k.p] := by
 unfold zmp at h
 split at h
 ·obtain rfl := zaa h; rfl
 ·cases h
noncomputable def triE (f : Stmt -> Option St) (nm : List (Str × NameKind)) (res : Res) (b : List Stmt) (hs : List ExceptHandler) (els fin : List Stmt) : Option St := match zmp hs with
 | some k => if els = [] /\ fin = [] /\ zdm k.t = some (Str.ofString "NetError") /\ zfj nm (Str.ofString "NetError") = true /\ nm.lookup k.n = some .local then
   (stIx nm res k.n).bind fun i => (mapO f b).bind fun xb => (mapO f (k.h :: k.hs)).map fun xh => .tri xb i xh else some .stuck
 | none => some .stuck
noncomputable def retE : Option Ex -> St
 | some x => .ret x
 | none => .stuck
noncomputable def eS (T : Tab) : Nat -> List (Str × NameKind) -> Res -> Nat -> Stmt -> Option St
 | 0, _, _, _, _ => none
 | n + 1, nm, res, nx, st => match st with
  | .Assign ts e _ => one1 ts (asgE T n nm res nx e)
  | .Expr e _ => if zpk e = false then (eE T n nm res nx e).map .expr else none
  | .Return o _ => o.bind fun e => some (retE (eE T n nm res nx e))
  | .If t a b _ => (eE T n nm res nx t).bind fun x => (mapO (eS T n nm res nx) a).bind fun xa => (mapO (eS T n nm res nx) b).map fun xb => .ite x xa xb
  | .While t b els _ => if els = [] then (eE T n nm res nx t).bind fun x => (mapO (eS T n nm res nx) b).map fun xb => .whil x xb else none
  | .For tg iter b els _ => if zgk iter = true /\ els = [] then (tg2 nm res tg).bind fun t => (eSr T n nm res nx tg iter).bind fun sr => (mapO (eS T n nm res nx) b).map fun xb => .loop t sr xb else none
  | .Raise o q _ => (match o, q with | some e, none => raiE T n nm res nx e | _, _ => some .stuck)
  | .Try b hs els fin _ => triE (eS T n nm res nx) nm res b hs els fin
  | _ => none
section
variable {c : Cx} {T : Tab} {env : Env} {res : Res} {X : List Addr} {nm : List (Str × NameKind)}
theorem zgh : ∀ {l : List (Str × Nat)}, (l.map (·.2)).Nodup -> ∀ {x y : Str} {i : Nat}, l.lookup x = some i -> l.lookup y = some i -> x = y
 | [], _, _, _, _, h, _ => by simp at h
 | (k, v) :: l, hn, x, y, i, hx, hy => by
  rw [zbf, zbr] at hn
  rw [za1] at hx hy
  have notin : ∀ {z : Str}, l.lookup z = some i -> v ≠ i := fun {z} hz q => hn.1 (by
   rw [zas]; exact ⟨(z, i), mem_of_lookup hz, q.symm⟩)
  cases h1 : x == k with
  | true =>
   rw [h1] at hx; simp at hx
   cases h2 : y == k with
   | true => rw [beq_iff_eq.mp h1, beq_iff_eq.mp h2]
   | false => rw [h2] at hy; exact absurd hx (notin hy)
  | false =>
   rw [h1] at hx
   cases h2 : y == k with
   | true => rw [h2] at hy; simp at hy; exact absurd hy (notin hx)
   | false => rw [h2] at hy; exact zgh hn.2 hx hy
theorem zgx (hr : zke res = true) (hnm : env.scope.names = nm) {y : Str} {i : Nat} (h : stIx nm res y = some i) : StoreOk allY env res res y i := by
 obtain ⟨j, hj, h⟩ := zab.mp h
 obtain ⟨hc, rfl⟩ := iteS h
 obtain ⟨r1, r2⟩ := zag.mp hr
 have hk : env.kindOf y = nm.lookup y := by rw [<- hnm]; rfl
 refine ⟨⟨rfl, rfl, fun z k hz => ?_, of_decide_eq_true (zba.mp r2 _ (mem_of_lookup hj)), hc.2.1, .inr hc.2.2⟩, ?_⟩
 ·by_cases q : z = y
  ·subst q; exact .inl ⟨rfl, zaa (hz.symm.trans hj)⟩
  ·exact .inr ⟨q, hz, fun e => q (zgh (of_decide_eq_true r1) hz (e ▸ hj))⟩
 ·rw [hk]
  exact hc.1.imp id fun h => ⟨rfl, h⟩
theorem zhr (hr : zke res = true) (hnm : env.scope.names = nm) : ∀ {es : List Expr} {is : List Nat}, mapO (stE nm res) es = some is -> zd8 allY env res res es is
 | [], is, h => by obtain rfl := zaa h; exact ⟨rfl, rfl⟩
 | e :: es, is, h => by
  obtain ⟨i, is, h1, h2, rfl⟩ := zb9 h
  obtain ⟨x, h3, h4⟩ := zab.mp h1
  obtain ⟨p, rfl⟩ := zcf h3
  exact ⟨x, p, res, rfl, zgx hr hnm h4, zhr hr hnm h2⟩
theorem tg2_ok (hr : zke res = true) (hnm : env.scope.names = nm) {tg : Expr} {t : Tg} (h : tg2 nm res tg = some t) : TgOk allY env res res tg t := by
 unfold tg2 at h
 generalize ev tg = v at h
 cases v with
 | name x p e =>
  obtain ⟨i, h1, rfl⟩ := zah.mp h
  exact ⟨x, p, e, zgx hr hnm h1⟩
 | tup es k p e =>
  obtain ⟨l, h1, k2⟩ := zab.mp h
  match l, k2, h1 with
  | [i, j], k2, h1 =>
   obtain rfl := zaa k2
   exact ⟨es, k, p, e, zhr hr hnm h1⟩
 | _ => cases h
theorem zcl {st : Stmt} : zcu c env res X st .stuck := fun A q d k loc φ H s Q E hA hh hF hS hw => False.elim hw
theorem zl6 {e : Expr} {t : Option Expr} {l : Nat} (h : zpk e = false) : swapsWith e t l env = pure false := by
 cases e <;> first | rfl | cases h
theorem zit {es : List Expr} {k : Nat} {p : Pos} {e : Expr} {l : Nat} : swapsWithSole [.Tuple es k p] e l env = pure false := by cases e <;> rfl
theorem zj6 {es : List Expr} {k : Nat} {p : Pos} {e : Expr} (h : isTup e = false) : swappedStores [.Tuple es k p] e env = pure none := by cases e <;> first | rfl | cases h
theorem zqu {o i e : Expr} {p : Pos} {l : Nat} : swapsWith e (some (.Subscript o i p)) l env = pure false := by cases e <;> rfl
theorem zq3 (O : c.Ok) (TO : TabOk c T) {n nx : Nat} {tg iter : Expr} {sr : Sr} (h : eSr T n nm res nx tg iter = some sr) (hnm : env.scope.names = nm) (hef : env.scope.kind = .function) : zf1 c env res tg iter sr := by
 have val : (eE T n nm res nx iter).map .val = some sr -> zf1 c env res tg iter sr := fun h => by
  obtain ⟨x, h1, rfl⟩ := zah.mp h
  exact sr_val (zcs O TO n h1 hnm hef).1
 unfold eSr at h
 cases hs : ((srOf iter).bind fun q => if zfj nm q.1 = true /\ zcb q.2 = true then (T.g.lookup q.1).map fun g => (q, g) else none) with
 | none => rw [hs] at h; exact val h
 | some q =>
  rw [hs] at h
  obtain ⟨⟨f, e⟩, h1, h2⟩ := zab.mp hs
  obtain ⟨h3, h4⟩ := iteO h2
  obtain ⟨g, h5, rfl⟩ := zah.mp h4
  obtain ⟨k1, k2⟩ := zex hnm h3.1
  cases g with
  | enum =>
   obtain ⟨p, p', rfl⟩ := zmm h1
   obtain ⟨g1, g2⟩ := TO.enum _ h5
   obtain ⟨ht, h⟩ := iteO h
   obtain ⟨x, h6, rfl⟩ := zah.mp h
   cases tg with
   | Tuple => exact sr_enum O k1 g1 g2 k2 h3.2 (zcs O TO n h6 hnm hef).1
   | _ => cases ht
  | rev =>
   obtain ⟨p, p', rfl⟩ := zmm h1
   obtain ⟨g1, g2⟩ := TO.rev _ h5
   obtain ⟨x, h6, rfl⟩ := zah.mp h
   exact sr_rev O k1 g1 g2 k2 h3.2 (zcs O TO n h6 hnm hef).1
  | _ => exact val h
theorem zoj (O : c.Ok) (TO : TabOk c T) {n nx : Nat} {y : Str} {py pos : Pos} {i : Nat} {e : Expr} {x : Ex} (hX : EnvX allY env X) (hy : StoreOk allY env res res y i) (h : eE T n nm res nx e = some x) (hnm : env.scope.names = nm) (hef : env.scope.kind = .function) :
  zcu c env res X (.Assign [.Name y py] e pos) (.set i x) := by
 cases hc : zpk e with
 | false => exact zj0 hX (zcs O TO n h hnm hef).1 (zl6 hc) hy
 | true =>
  cases n with
  | zero => cases h
  | succ n =>
   cases e with
   | ListComp elt gs scope cpos =>
    cases hb : (env.blockKind == .function && env.kindOf y == some .local && py.line == cpos.line && !(scope.names.any fun (n, k) => n == y && (k == .local || k == .cell))) with
    | false =>
     refine zj0 hX (zcs O TO (n + 1) h hnm hef).1 ?_ hy
     show (pure _ : Sem Bool) = pure false
     rw [<- hb]; rfl
    | true =>
     obtain ⟨g, h1, h2⟩ := zab.mp (show (genOf gs).bind _ = some x from h)
     obtain ⟨q, h3, h4⟩ := zab.mp h2
     obtain ⟨h5, h6⟩ := iteO h3
     obtain ⟨xs, h7, h8⟩ := zab.mp h4
     obtain ⟨z, h9, h10⟩ := zab.mp h8
     obtain ⟨ys, h11, rfl⟩ := zah.mp h10
     obtain rfl := zkw h1
     have sub : ∀ cenv : Env, cenv.scope = relabel scope env -> ∀ e x, eE T n (relN nm scope.names) q.1 q.2.2 e = some x -> Both c cenv q.1 e x := fun cenv hcs e x h => zcs O TO n h (by rw [hcs]; exact zfb hnm hef) (by rw [hcs]; exact h5.1.2)
     refine zim hX (zho (c := c) hnm h5.1.1 h5.1.2 h6) (zlm h5.2) (zcs O TO n h7 hnm hef).1 (fun cenv hcs => (sub cenv hcs _ _ h9).1) (fun cenv hcs => zc7 (sub cenv hcs) h11) ?_ hy
     show (pure _ : Sem Bool) = pure true
     rw [<- hb]; rfl
   | _ => first | (cases hc; done) | (cases h; done)
theorem iteK {p : Prop} [Decidable p] {α : Type} {o : Option α} {z b : α} {P : Prop} (h : (if p then o else some z) = some b) (h1 : p -> o = some b -> P) (h2 : z = b -> P) : P := by
 by_cases q : p
 ·rw [if_pos q] at h; exact h1 q h
 ·rw [if_neg q] at h; exact h2 (zaa h)
theorem iteJ {p : Prop} [Decidable p] {α : Type} {o o' : Option α} {b : α} {P : Prop} (h : (if p then o else o') = some b) (h1 : p -> o = some b -> P) (h2 : o' = some b -> P) : P := by
 by_cases q : p
 ·rw [if_pos q] at h; exact h1 q h
 ·rw [if_neg q] at h; exact h2 h
theorem znw (O : c.Ok) (TO : TabOk c T) (hX : EnvX allY env X) (hnm : env.scope.names = nm) (hef : env.scope.kind = .function) {n nx : Nat} {cn : Str} {es : List Expr} {kw : List Keyword} {np cpos pos : Pos} {x : St} (h : raiN T n nm res nx cn es kw = some x) :
  zcu c env res X (.Raise (some (.Call (.Name cn np) es kw cpos)) none pos) x := by
 refine iteK h (fun hc g => ?_) fun g => ?_
 ·clear h
  obtain ⟨h1, rfl, rfl, h5, h6⟩ := hc
  obtain ⟨xs, h8, rfl⟩ := zah.mp g
  obtain ⟨k1, k2⟩ := zex hnm h1
  have hs := zcj (fun e x h => zcs O TO n h hnm hef) h8 h5
  have hl := zi6 h8
  rw [h6] at hl
  cases LV.of es with
  | one e1 =>
   cases LV.of xs with
   | one x1 => exact zla O TO.nt hX k1 hs
   | _ => cases hl
  | _ => cases h6
 ·subst g; exact zcl
theorem zoi (O : c.Ok) (TO : TabOk c T) (hX : EnvX allY env X) (hnm : env.scope.names = nm) (hef : env.scope.kind = .function) {n nx : Nat} {e : Expr} {pos : Pos} {x : St} (h : raiE T n nm res nx e = some x) : zcu c env res X (.Raise (some e) none pos) x := by
 unfold raiE at h
 generalize ev e = v at h
 cases v with
 | call f es kw p q =>
  replace h : (match zdm f with | some cn => _ | none => some St.stuck) = some x := h
  cases hf : zdm f with
  | none => rw [hf] at h; obtain rfl := zaa h; exact zcl
  | some cn =>
   rw [hf] at h
   refine iteJ h (fun hc g => ?_) fun g => ?_
   ·clear h
    obtain ⟨h1, h2, h3, rfl, h5, h6, h7⟩ := hc
    obtain ⟨xs, h8, rfl⟩ := zah.mp g
    obtain ⟨p', rfl⟩ := zcf hf
    obtain ⟨k1, k2⟩ := zex hnm h1
    rw [q]
    exact znu O TO.ex hX h2 h3 k1 k2 (zcj (fun e x h => zcs O TO n h hnm hef) h8 h5) h6 (zi6 h8 ▸ h7)
   ·obtain ⟨p', rfl⟩ := zcf hf
    rw [q]
    exact znw O TO hX hnm hef g
 | _ => obtain rfl := zaa h; exact zcl
theorem zn4 (O : c.Ok) (TO : TabOk c T) (hX : EnvX allY env X) (hr : zke res = true) (hnm : env.scope.names = nm) {f : Stmt -> Option St} (hf : ∀ {ss : List Stmt} {xs : List St}, mapO f ss = some xs -> zc1 c env res X ss xs) {b els fin : List Stmt} {hs : List ExceptHandler} {pos : Pos} {x : St}
  (h : triE f nm res b hs els fin = some x) : zcu c env res X (.Try b hs els fin pos) x := by
 unfold triE at h
 cases hh : zmp hs with
 | none => rw [hh] at h; obtain rfl := zaa h; exact zcl
 | some k =>
  rw [hh] at h
  refine iteK h (fun hc g => ?_) fun g => ?_
  ·clear h
   obtain ⟨rfl, rfl, h3, h4, h5⟩ := hc
   obtain ⟨i, h6, g2⟩ := zab.mp g
   obtain ⟨xb, h7, g3⟩ := zab.mp g2
   obtain ⟨xh, h8, rfl⟩ := zah.mp g3
   obtain rfl := zm7 hh
   obtain ⟨p', ht⟩ := zcf h3
   rw [ht]
   obtain ⟨j, hj, h9⟩ := zab.mp h6
   obtain ⟨_, rfl⟩ := iteS h9
   exact zp6 O TO.ex hX (hf h7) (hf h8) (zex hnm h4).1 (zgx hr hnm h6) (by rw [<- hnm] at h5; exact h5) hj
  ·subst g; exact zcl
theorem zmg (O : c.Ok) (TO : TabOk c T) (hX : EnvX allY env X) (hr : zke res = true) (hnm : env.scope.names = nm) (hef : env.scope.kind = .function) : ∀ n {nx : Nat} {st : Stmt} {x : St}, eS T n nm res nx st = some x -> zcu c env res X st x
 | 0, _, _, _, h => nomatch h
 | n + 1, nx, st, x, h => by
  have ih := @zmg O TO hX hr hnm hef n
  have list : ∀ {ss : List Stmt} {xs : List St}, mapO (eS T n nm res nx) ss = some xs -> zc1 c env res X ss xs := fun {ss} => by
   induction ss with
   | nil => intro xs h; obtain rfl := zaa h; exact zkg
   | cons s ss ihs =>
    intro xs h
    obtain ⟨y, ys, h1, h2, rfl⟩ := zb9 h
    exact zie (ih h1) (ihs h2)
  have es : ∀ {e : Expr} {x : Ex}, eE T n nm res nx e = some x -> Both c env res e x := fun h => zcs O TO n h hnm hef
  cases st with
  | Assign ts e p =>
   obtain ⟨t, rfl, k⟩ := zm2 (show one1 ts _ = some x from h)
   clear h
   unfold asgE at k
   generalize ev t = v at k
   cases v with
   | name y p q =>
    obtain ⟨i, h1, k⟩ := zab.mp k
    obtain ⟨z, h2, rfl⟩ := zah.mp k
    rw [q]
    exact zoj O TO hX (zgx hr hnm h1) h2 hnm hef
   | tup es' y p q =>
    obtain ⟨is, h1, k⟩ := zab.mp k
    obtain ⟨z, h2, k⟩ := zab.mp k
    obtain ⟨h3, rfl⟩ := iteS k
    rw [q]
    exact zpr hX (es h2).1 zit (zj6 h3) (zhr hr hnm h1)
   | sub o i p q =>
    obtain ⟨a, h1, k⟩ := zab.mp k
    obtain ⟨j, h2, k⟩ := zab.mp k
    obtain ⟨z, h3, rfl⟩ := zah.mp k
    rw [q]
    exact zru hX (es h1).1 (es h2).1 (es h3).1 zqu
   | _ => cases k
  | Expr e p =>
   obtain ⟨h1, k⟩ := iteO h
   obtain ⟨y, h2, rfl⟩ := zah.mp k
   exact znm hX (es h2).1 (zl6 h1)
  | Return o p =>
   obtain ⟨e, rfl, k⟩ := zab.mp (show o.bind _ = some x from h)
   obtain rfl := zaa k
   cases h2 : eE T n nm res nx e with
   | none => exact zcl
   | some y => exact zq7 hX (es h2).1
  | If t a b p =>
   obtain ⟨y, h1, k⟩ := zab.mp (show (eE T n nm res nx t).bind _ = some x from h)
   obtain ⟨xa, h2, k⟩ := zab.mp k
   obtain ⟨xb, h3, rfl⟩ := zah.mp k
   exact zp7 hX (es h1).2 (list h2) (list h3)
  | While t b els p =>
   obtain ⟨h0, k⟩ := iteO h
   obtain rfl : els = [] := h0
   obtain ⟨y, h1, k⟩ := zab.mp k
   obtain ⟨xb, h2, rfl⟩ := zah.mp k
   exact zlj hX (es h1).2 (list h2)
  | For tg iter b els p =>
   obtain ⟨h0, k⟩ := iteO h
   obtain rfl : els = [] := h0.2
   obtain ⟨t, h2, k⟩ := zab.mp k
   obtain ⟨sr, h3, k⟩ := zab.mp k
   obtain ⟨xb, h4, rfl⟩ := zah.mp k
   exact zro hX (zlm h0.1) (zq3 O TO h3 hnm hef) (tg2_ok hr hnm h2) (list h4)
  | Raise o q p =>
   cases o with
   | none => obtain rfl := zaa h; exact zcl
   | some e => cases q with
    | none => exact zoi O TO hX hnm hef h
    | some _ => obtain rfl := zaa h; exact zcl
  | Try b hs els fin p => exact zn4 O TO hX hr hnm list h
  | _ => cases h
end
end Bn
namespace Bn
open PySem PyProof.Rows
theorem zel : ∀ {ps : List Str} {vals : List Value}, vals.length = ps.length -> ∀ n ∈ ps, ((ps.zip vals).lookup n).isSome = true
 | [], _, _, n, hn => by cases hn
 | p :: ps, v :: vals, hl, n, hn => by
  rw [List.zip_cons_cons, za1]
  cases hb : n == p with
  | true => rfl
  | false =>
   rcases zak.mp hn with rfl | hn
   ·simp at hb
   ·exact zel (by simpa using hl) n hn
 | _ :: _, [], hl, _, _ => by simp at hl
theorem zew {α β : Type} {f g : α -> Option β} : ∀ {l : List α}, (∀ a ∈ l, f a = g a) -> l.filterMap f = l.filterMap g
 | [], _ => rfl
 | a :: l, h => by
  rw [List.filterMap_cons, List.filterMap_cons, h a zae, zew fun b hb => h b (zaj _ hb)]
theorem zfs : ∀ {ps : List Str} {vals : List Value}, ps.Nodup -> vals.length = ps.length -> ps.filterMap (fun n => ((ps.zip vals).lookup n).map (n, ·)) = ps.zip vals
 | [], _, _, _ => by simp
 | p :: ps, v :: vals, hn, hl => by
  rw [zbr] at hn
  rw [List.zip_cons_cons, List.filterMap_cons]
  simp only [List.lookup_cons_self, Option.map_some]
  congr 1
  have ih := zfs hn.2 (show vals.length = ps.length by simpa using hl)
  rw [<- ih]
  refine zew fun n hm => ?_
  have hne : (n == p) = false := by
   rw [beq_eq_false_iff_ne]; rintro rfl; exact hn.1 hm
  rw [za1, hne, ih]
 | _ :: _, [], _, hl => by simp at hl
theorem zib {fd : FuncData} (hdv : fd.defaults = .none) (hkv : fd.kwdefaults = .none) (h1 : fd.params.posonlyargs = []) (h2 : fd.params.kwonlyargs = []) (h3 : fd.params.vararg = none) (h4 : fd.params.kwarg = none)
  (hn : (fd.params.args.map (·.arg)).Nodup) (vals : List Value) (hl : vals.length = (fd.params.args.map (·.arg)).length) : bindArgs fd ⟨vals, []⟩ = pure ((fd.params.args.map (·.arg)).zip vals) := by
 obtain ⟨_, _, ⟨pos, args, va, ko, kd, ka, df⟩, _, _, _, _, dv, kv, _, _, _, _, _, _⟩ := fd
 dsimp only at hdv hkv h1 h2 h3 h4 hn hl ⊢
 subst hdv hkv h1 h2 h3 h4
 generalize hg : args.map (·.arg) = l at hn hl ⊢
 have hmiss : ¬ ((!((l.take (l.length - (List.drop (0 - l.length) ([] : List Value)).length)).filter (fun n => ((l.zip vals).lookup n).isNone)).isEmpty) = true) := by
  rw [List.drop_nil, List.length_nil, Nat.sub_zero, List.take_length, List.filter_eq_nil_iff.mpr]
  ·exact fun h => nomatch h
  ·intro n hm h
   have := zel hl n hm
   rw [zb0.mp h] at this
   cases this
 subst hg
 refine (if_neg (c := (decide (vals.length > (args.map (·.arg)).length) && true) = true) ?_).trans ((if_neg hmiss).trans ?_)
 ·rw [hl, decide_eq_false (za2 _)]; exact fun h => nomatch h
 ·have e : ∀ {α : Type} (k : Nat) (m : List (Str × Value) -> Sem α) (f : Str × Value -> List (Str × Value) -> Sem (ForInStep (List (Str × Value)))) (s : List (Str × Value)), (forIn (((args.map (·.arg)).drop k).zip (List.drop (0 - (args.map (·.arg)).length) ([] : List Value))) s f >>= m) = m s := fun k m f s => by
   rw [List.drop_nil, List.zip_nil_right, List.forIn_nil, pure_bind]
  refine (e _ _ _ _).trans ?_
  show (pure ((args.map (fun x => Arg.arg x) ++ []).filterMap _) : Sem (List (Str × Value))) = _
  rw [za9]
  exact congrArg pure (zfs hn hl)
noncomputable def slots (names : List (Str × NameKind)) : List Str := (names.filter fun p => (p.2 == .local || p.2 == .cell) && p.1 != zdj).map (·.1)
noncomputable def znc (names : List (Str × NameKind)) (r : Nat) : Res := ⟨true, (slots names).length + r, (slots names).zip (List.range (slots names).length)⟩
noncomputable def zmq (names : List (Str × NameKind)) (x : Str) : Bool := names.lookup x == some .local || names.lookup x == some .cell
noncomputable def parOk (nm : List (Str × NameKind)) (res : Res) : List Str -> Nat -> Bool
 | [], i => decide (i <= res.n)
 | x :: r, i => stIx nm res x == some i && parOk nm res r (i + 1)
structure FunC (e : DefItem) (r : Nat) : Prop where
 p1 : e.params.posonlyargs = []
 p2 : e.params.kwonlyargs = []
 p3 : e.params.vararg = none
 p4 : e.params.kwarg = none
 p5 : (e.params.args.map (·.arg)).Nodup
 p6 : e.scope.kind = .function
 p7 : e.scope.isCoroutine = false
 p8 : e.scope.isGenerator = false
 p10 : zke (znc e.scope.names r) = true
 p11 : (slots e.scope.names).all (zmq e.scope.names) = true
 p12 : parOk e.scope.names (znc e.scope.names r) (e.params.args.map (·.arg)) 0 = true
noncomputable def funOk (e : DefItem) (r : Nat) : Bool :=
 e.params.posonlyargs.isEmpty && (e.params.kwonlyargs.isEmpty && (e.params.vararg.isNone && (e.params.kwarg.isNone && (decide ((e.params.args.map (·.arg)).Nodup) &&
 (e.scope.kind == .function && (!e.scope.isCoroutine && (!e.scope.isGenerator && (zke (znc e.scope.names r) && ((slots e.scope.names).all (zmq e.scope.names) && parOk e.scope.names (znc e.scope.names r) (e.params.args.map (·.arg)) 0)))))))))
theorem zqe {e : DefItem} {r : Nat} (h : funOk e r = true) : FunC e r := by
 obtain ⟨p1, h⟩ := zag.mp h
 obtain ⟨p2, h⟩ := zag.mp h
 obtain ⟨p3, h⟩ := zag.mp h
 obtain ⟨p4, h⟩ := zag.mp h
 obtain ⟨p5, h⟩ := zag.mp h
 obtain ⟨p6, h⟩ := zag.mp h
 obtain ⟨p7, h⟩ := zag.mp h
 obtain ⟨p8, h⟩ := zag.mp h
 obtain ⟨p10, h⟩ := zag.mp h
 obtain ⟨p11, p12⟩ := zag.mp h
 exact ⟨List.isEmpty_iff.mp p1, List.isEmpty_iff.mp p2, zb0.mp p3, zb0.mp p4, of_decide_eq_true p5, beq_iff_eq.mp p6, (Bool.not_eq_true' _).mp p7, (Bool.not_eq_true' _).mp p8, p10, p11, p12⟩
noncomputable def eFun (T : Tab) (fuel r : Nat) (e : DefItem) : Option (List St) :=
 if funOk e r = true then mapO (eS T fuel e.scope.names (znc e.scope.names r) (slots e.scope.names).length) e.body else none
section
variable {c : Cx} {T : Tab}
theorem zhb {env : Env} {nm : List (Str × NameKind)} {res : Res} (hr : zke res = true) (hnm : env.scope.names = nm) : ∀ {ps : List Str} {i : Nat}, parOk nm res ps i = true -> zio env res ps i /\ i + ps.length <= res.n
 | [], _, h => ⟨trivial, of_decide_eq_true h⟩
 | x :: ps, i, h => by
  obtain ⟨h1, h2⟩ := zag.mp h
  obtain ⟨h3, h4⟩ := zhb hr hnm h2
  refine ⟨⟨zgx hr hnm (beq_iff_eq.mp h1), h3⟩, ?_⟩
  rw [zbg, Nat.add_comm ps.length 1, <- Nat.add_assoc]; exact h4
theorem zpn {env : Env} {res : Res} {X : List Addr} {f : Stmt -> Option St} (hf : ∀ st x, f st = some x -> zcu c env res X st x) : ∀ {ss : List Stmt} {xs : List St}, mapO f ss = some xs -> zc1 c env res X ss xs
 | [], _, h => by obtain rfl := zaa h; exact zkg
 | s :: ss, _, h => by
  obtain ⟨y, ys, h1, h2, rfl⟩ := zb9 h
  exact zie (hf _ _ h1) (zpn hf h2)
inductive DefAt (c : Cx) (e : DefItem) : Prop
 | mk (a cc : Addr) (o : Obj) (pm doc : Value) (g1 : c.g e.name = some (.ref a)) (g2 : c.h0.get? a = some o) (g3 : o.data = .func (Calls.docDef e.name e.params e.body e.scope pm (.ref cc) doc)) (g4 : c.h0.CodeRec (.ref cc) e.name) : DefAt c e
theorem zqg (O : c.Ok) (TO : TabOk c T) {e : DefItem} (hat : DefAt c e) {fuel r : Nat} {xs : List St} (he : eFun T fuel r e = some xs)
  {q : Bool} {d : Nat} {vs : List V} {Q : V -> Hp -> Prop} {E : XPost} {H : Hp} (hlen : vs.length = e.params.args.length)
  (hw : wpSs (Calls c) q d none xs (EndQ Q) (EndX E) (vs.map some ++ List.replicate ((slots e.scope.names).length + r - vs.length) none) H) : Calls c q (d + 1) e.name vs none Q E H := by
 obtain ⟨hok, he⟩ := iteO he
 have P := zqe hok
 obtain ⟨a, cc, o, pm, doc, g1, g2, g3, g4⟩ := hat
 have K : FunOk c e.name a o (Calls.docDef e.name e.params e.body e.scope pm (.ref cc) doc) e.body (e.params.args.map (·.arg)) (e.params.args.map (·.arg)) (znc e.scope.names r) := by
  refine ⟨g1, g2, g3, g4, rfl, rfl, rfl, rfl, P.p6, P.p7, P.p8, fun vals hl => zib rfl rfl P.p1 P.p2 P.p3 P.p4 P.p5 vals hl, rfl, fun x i hx => ?_, fun L => (zhb P.p10 rfl P.p12).1, ?_⟩
  ·exact (zbv.mp (zba.mp P.p11 x (List.of_mem_zip (mem_of_lookup (show List.lookup x _ = some i from hx))).1)).imp beq_iff_eq.mp beq_iff_eq.mp
  ·have := (zhb (env := callEnvC (Calls.docDef e.name e.params e.body e.scope pm (.ref cc) doc) 0 a) P.p10 rfl P.p12).2
   rw [Nat.zero_add] at this; exact this
 exact calls_of O K (xs := xs) (fun L hX => zpn (fun _ _ h => zmg O TO hX P.p10 rfl P.p6 fuel h) he) (by rw [hlen, zaf]) hw
end
end Bn
namespace Bn
open PySem PyProof.Rows
set_option maxRecDepth 100000
inductive OwnI (h : Heap) (name : Str) (bm : List Value) (ini : Bool) : Prop
 | mk (C : Addr) (i : Option Value) (h1 : h.nsMap mainGlobals name = some (.ref C)) (h2 : ClsAt h C bm i) (h3 : ini = true -> i = none) : OwnI h name bm ini
theorem zn8 {α : Type} {l : List α} {n : Nat} (h : l.length = n + 1) : ∃ a r, l = a :: r /\ r.length = n := by
 cases l with
 | nil => exact nomatch h
 | cons a r => exact ⟨a, r, rfl, Nat.succ.inj h⟩
inductive Six (s : Array (Option Value)) (v : Option Value) : Prop
 | mk (a b c d f : Option Value) (h : s = #[a, b, c, d, v, f]) : Six s v
theorem six {s : Array (Option Value)} {v : Option Value} (hz : s.size = 6) (h4 : s[4]? = some v) : Six s v := by
 obtain ⟨l⟩ := s
 obtain ⟨a, l1, rfl, h1⟩ := zn8 (show l.length = 5 + 1 from hz)
 obtain ⟨b, l2, rfl, h2⟩ := zn8 h1
 obtain ⟨c, l3, rfl, h3⟩ := zn8 h2
 obtain ⟨d, l5, rfl, h5⟩ := zn8 h3
 obtain ⟨e, l6, rfl, h6⟩ := zn8 h5
 obtain ⟨f, l7, rfl, h7⟩ := zn8 h6
 obtain rfl := zbm.mp h7
 obtain rfl := zaa (show some e = some v from h4)
 exact ⟨a, b, c, d, f, rfl⟩
inductive ObjI (o : Obj) (C N : Addr) (bm : List Value) : Prop
 | mk (nm q : Str) (bs : List Value) (sn : List Str) (sub : List Value) (ab : Bool) (col : Option Bool) (dd : Option Addr) (k0 k1 k2 k3 k5 : Option Value) (h : o = excClassObj nm q C N bs bm true sn sub ab col dd k0 k1 k2 k3 k5 "ValueError.__new__") : ObjI o C N bm
theorem objI {o : Obj} {cd : ClassData} {C : Addr} {bm : List Value} (h1 : o.cls = .type "type") (h2 : cd.mro = .ref C :: bm) (h3 : cd.hasDel = false) (h5 : cd.hasDict = true) (hd : o.data = .cls cd) (hz : o.slots.size = 6) (h4 : o.slots[4]? = some (some (.builtin "ValueError.__new__"))) : ObjI o C cd.ns bm := by
 obtain ⟨a, b, c, d, f, hs⟩ := six hz h4
 obtain ⟨oc, odict, odata, slots⟩ := o
 obtain ⟨nm, bs, mro, ns, q, hdct, sn, sub, ab, col, hdel⟩ := cd
 obtain rfl : oc = _ := h1
 obtain rfl : mro = _ := h2
 obtain rfl : hdel = _ := h3
 obtain rfl : hdct = _ := h5
 obtain rfl : odata = _ := hd
 obtain rfl : slots = _ := hs
 exact ⟨nm, q, bs, sn, sub, ab, col, odict, a, b, c, d, f, rfl⟩
theorem own_of {h : Heap} {name : Str} {bm : List Value} {ini : Bool} (x : ownB h name bm ini = true) : OwnI h name bm ini := by
 unfold ownB at x
 cases hf : h.clsAt mainGlobals name with
 | none => rw [hf] at x; cases x
 | some y =>
  obtain ⟨C, o, cd⟩ := y
  rw [hf] at x
  obtain ⟨hn, ho, hd⟩ := Heap.clsAt_spec hf
  obtain ⟨x1, x⟩ := zag.mp x
  obtain ⟨x2, x⟩ := zag.mp x
  obtain ⟨x3, x⟩ := zag.mp x
  obtain ⟨xd, x⟩ := zag.mp x
  obtain ⟨x4, x⟩ := zag.mp x
  obtain ⟨x5, x⟩ := zag.mp x
  obtain ⟨x6, x⟩ := zag.mp x
  obtain ⟨x7, x8⟩ := zag.mp x
  obtain ⟨nm, q, bs, sn, sub, ab, col, dd, k0, k1, k2, k3, k5, e⟩ := objI (of_decide_eq_true x1) (of_decide_eq_true x2) ((Bool.not_eq_true' _).mp x3) xd hd (of_decide_eq_true x4) (of_decide_eq_true x5)
  rw [e] at ho
  exact ⟨C, h.nsMap cd.ns "__init__", hn, ⟨nm, q, cd.ns, bs, sn, sub, ab, col, dd, k0, k1, k2, k3, k5, h.nsMap cd.ns, ho, Heap.Ns.of_isNs x6, fun n hn => zb0.mp (zba.mp x7 n hn), rfl⟩, fun hi => by
   rw [hi] at x8
   exact zb0.mp x8⟩
inductive ExcH (h : Heap) : Prop
 | mk (m : Str -> Option Value) (hm : h.Ns mainGlobals m) (NE : Addr) (hn : m (Str.ofString "NetError") = some (.ref NE)) (net : ClsAt h NE vbm none) (kid : ∀ cn ∈ kids, ∃ C ini, m cn = some (.ref C) /\ C ≠ NE /\ ClsAt h C (.ref NE :: vbm) ini /\ (cn ≠ Str.ofString "BadNet" -> ini = none))
   (inj : ∀ cn ∈ kids, ∀ dn ∈ kids, m cn = m dn -> cn = dn) : ExcH h
theorem ExcH.keeps {h h' : Heap} (X : ExcH h) (hk : ∀ b o, h.get? b = some o -> h'.get? b = some o) : ExcH h' := by
 obtain ⟨m, hm, NE, hn, net, kid, inj⟩ := X
 refine ⟨m, hm.keeps hk, NE, hn, net.keeps hk, fun cn hc => ?_, inj⟩
 obtain ⟨C, ini, h1, h2, h3, h4⟩ := kid cn hc
 exact ⟨C, ini, h1, h2, h3.keeps hk, h4⟩
theorem zgg {α β : Type} [DecidableEq β] {f : α -> β} : ∀ {l : List α}, zgu (l.map f) = true -> ∀ a ∈ l, ∀ b ∈ l, f a = f b -> a = b
 | [], _, _, ha, _, _, _ => nomatch ha
 | x :: r, h, a, ha, b, hb, e => by
  obtain ⟨h1, h2⟩ := zag.mp h
  have h1 := of_decide_eq_true h1
  rcases zak.mp ha with ea | ha'
  ·rcases zak.mp hb with eb | hb'
   ·rw [ea, eb]
   ·exact absurd (zas.mpr ⟨b, hb', e.symm.trans (by rw [ea])⟩) h1
  ·rcases zak.mp hb with eb | hb'
   ·exact absurd (zas.mpr ⟨a, ha', e.trans (by rw [eb])⟩) h1
   ·exact zgg h2 a ha' b hb' e
theorem exc_of {h : Heap} (x : excB h = true) : ExcH h := by
 obtain ⟨x0, x⟩ := zag.mp x
 cases hr : refOf (h.nsMap mainGlobals (Str.ofString "NetError")) with
 | none => rw [hr] at x; cases x
 | some NE =>
  rw [hr] at x
  obtain ⟨x1, x⟩ := zag.mp x
  obtain ⟨x2, x3⟩ := zag.mp x
  obtain ⟨x4, x5⟩ := zag.mp (show (decide _ && zgu _) = true from x3)
  obtain ⟨C, i, h1, h2, h3⟩ := own_of x1
  rw [h1] at hr
  obtain rfl := zaa hr
  obtain rfl := h3 rfl
  have k : ∀ cn ∈ kids, ∃ D ini, h.nsMap mainGlobals cn = some (.ref D) /\ D ≠ C /\ ClsAt h D (.ref C :: vbm) ini /\ (cn ≠ Str.ofString "BadNet" -> ini = none) := fun cn hc => by
   obtain ⟨D, i, g1, g2, g3⟩ := own_of (zba.mp x2 cn hc)
   refine ⟨D, i, g1, fun q => of_decide_eq_true x4 (zas.mpr ⟨cn, hc, ?_⟩), g2, fun q => g3 (decide_eq_true q)⟩
   rw [g1, q]; rfl
  exact ⟨_, Heap.Ns.of_isNs x0, C, h1, h2, k, fun cn hc dn hd q => zgg x5 cn hc dn hd (by show (h.nsMap mainGlobals cn).getD .none = _; rw [q])⟩
theorem ns_one {h : Heap} {a : Addr} {m m' : Str -> Option Value} (x : h.Ns a m) (y : h.Ns a m') : m = m' := by
 obtain ⟨o, es, ep, h1, h2, _, h3⟩ := x
 obtain ⟨o', es', ep', g1, g2, _, g3⟩ := y
 obtain rfl := zaa (h1.symm.trans g1)
 rw [h2] at g2
 cases g2
 funext n
 rw [<- h3, <- g3]
theorem exc_ok {c : Cx} (X : ExcH c.h0) (hg : c.h0.Ns mainGlobals c.g) (ve : c.g (Str.ofString "ValueError") = none /\ c.b (Str.ofString "ValueError") = some (.type "ValueError")) : ExcOk c := by
 obtain ⟨m, hm, NE, hn, net, kid, inj⟩ := X
 obtain rfl := ns_one hm hg
 exact ⟨NE, hn, net, kid, inj, ve⟩
end Bn
namespace Bn
open PySem PySem.W PySem.Calls PyProof.Rows
set_option maxRecDepth 100000
theorem zqz {q : Str} {v : Option Value} (x : strIs q v = true) : ∃ t, v = some (.str q t) := by
 cases v with
 | none => cases x
 | some v =>
  cases v with
  | str y t => obtain rfl : y = q := of_decide_eq_true x; exact ⟨t, rfl⟩
  | _ => cases x
theorem code_of {h : Heap} {cd : Value} {q : Str} (x : codeB h cd q = true) : h.CodeRec cd q := by
 cases cd with
 | ref c =>
  replace x : ((h.get? c).map (fldB q)).getD false = true := x
  cases ho : h.get? c with
  | none => rw [ho] at x; cases x
  | some o =>
   rw [ho] at x
   replace x : fldB q o = true := x
   unfold fldB at x
   cases hd : o.data with
   | fields vs =>
    rw [hd] at x
    obtain ⟨t, ht⟩ := zqz x
    exact ⟨c, o, vs, t, rfl, ho, hd, ht⟩
   | _ => rw [hd] at x; cases x
 | _ => cases x
theorem zp4 {v : Value} (x : isNoV v = true) : v = .none := by
 cases v with
 | none => rfl
 | _ => cases x
theorem zqj {p : Program} {h : Heap} {f : Addr} {o : Obj} {b : FuncBody} (ho : h.get? f = some o) (x : fnOf h o = some b) (hb : some b = zey p) (hl : zn0 p = true) : ∃ fd, InitFn h f o fd := by
 unfold fnOf at x
 cases hd : o.data with
 | func fd =>
  rw [hd] at x
  obtain ⟨z, rfl⟩ := iteS (show (if fdB h o fd = true then some fd.body else none) = some b from x)
  clear x
  obtain ⟨x1, x⟩ := zag.mp z
  clear z
  obtain ⟨x2, x⟩ := zag.mp x
  obtain ⟨x3, x⟩ := zag.mp x
  obtain ⟨x4, x⟩ := zag.mp x
  obtain ⟨x5, x⟩ := zag.mp x
  obtain ⟨x6, x⟩ := zag.mp x
  obtain ⟨x7, x⟩ := zag.mp x
  obtain ⟨x8, x⟩ := zag.mp x
  obtain ⟨x9, x⟩ := zag.mp x
  obtain ⟨x10, x11⟩ := zag.mp x
  obtain ⟨y1, y2, y3, y4, y5, y6⟩ := of_decide_eq_true x4
  have ha := of_decide_eq_true x11
  refine ⟨fd, ho, of_decide_eq_true x1, hd, code_of x2, ?_, of_decide_eq_true x3, y1, y2, y3, y4, y5, y6, fun a b => ?_⟩
  ·unfold zey at hb
   unfold zn0 at hl
   cases hq : zi2 (zi0 p) with
   | none => rw [hq] at hb; cases hb
   | some q =>
    rw [hq] at hb hl
    exact ⟨_, _, _, _, _, _, _, _, _, _, _, zaa hb, hl⟩
  ·have := zib (fd := fd) (zp4 x5) (zp4 x6) (List.isEmpty_iff.mp x7) (List.isEmpty_iff.mp x8) (zb0.mp x9) (zb0.mp x10) (by rw [ha]; decide) [a, b] (by rw [ha]; rfl)
   rw [ha] at this
   exact this
 | _ => rw [hd] at x; cases x
inductive NetH (h : Heap) : Prop
 | mk (m : Str -> Option Value) (hm : h.Ns mainGlobals m) (NE C fI : Addr) (oI : Obj) (fd : FuncData) (hn : m (Str.ofString "NetError") = some (.ref NE)) (hg : m (Str.ofString "BadNet") = some (.ref C)) (own : ClsAt h C (.ref NE :: vbm) (some (.ref fI))) (net : ClsAt h NE vbm none)
   (I : InitFn h fI oI fd) (hst : ∃ mc, h.Ns cStatics mc /\ mc "thirdparty.any" = none) : NetH h
theorem NetH.keeps {h h' : Heap} (X : NetH h) (hk : ∀ b o, h.get? b = some o -> h'.get? b = some o) : NetH h' := by
 obtain ⟨m, hm, NE, C, fI, oI, fd, hn, hg, own, net, I, mc, h1, h2⟩ := X
 exact ⟨m, hm.keeps hk, NE, C, fI, oI, fd, hn, hg, own.keeps hk, net.keeps hk, { I with ho := hk _ _ I.ho, code := I.code.keeps hk }, mc, h1.keeps hk, h2⟩
theorem net_ok {c : Cx} (X : NetH c.h0) (hg : c.h0.Ns mainGlobals c.g) : NetOk c := by
 obtain ⟨m, hm, NE, C, fI, oI, fd, hn, hg', own, net, I, hst⟩ := X
 obtain rfl := ns_one hm hg
 exact ⟨NE, C, fI, oI, fd, hn, hg', own, net, I, hst⟩
theorem zqa {v : Option Value} {a : Addr} (h : refOf v = some a) : v = some (.ref a) := by
 cases v with
 | none => cases h
 | some v =>
  cases v with
  | ref b => obtain rfl := zaa h; rfl
  | _ => cases h
theorem net_of {p : Program} {h : Heap} (X : ExcH h) (hb : netB h = zey p) (hl : zn0 p = true) : NetH h := by
 have hs : ∃ b, zey p = some b := by
  unfold zn0 at hl
  unfold zey
  cases hq : zi2 (zi0 p) with
  | none => rw [hq] at hl; cases hl
  | some q => exact ⟨_, rfl⟩
 obtain ⟨b, hb'⟩ := hs
 rw [hb'] at hb
 unfold netB at hb
 cases hc : h.clsAt mainGlobals (Str.ofString "BadNet") with
 | none => rw [hc] at hb; cases hb
 | some y =>
  obtain ⟨C, o, cd⟩ := y
  rw [hc] at hb
  obtain ⟨hn, ho, hd⟩ := Heap.clsAt_spec hc
  obtain ⟨f, h1, hb⟩ := zab.mp hb
  obtain ⟨oI, h2, hb⟩ := zab.mp hb
  obtain ⟨h3, h4⟩ := iteO hb
  obtain ⟨fd, I⟩ := zqj h2 h4 hb'.symm hl
  obtain ⟨m, hm, NE, hN, net, kid, inj⟩ := X
  obtain ⟨C', ini, g1, g2, g3, g4⟩ := kid (Str.ofString "BadNet") (by decide)
  obtain rfl : C' = C := by
   have e := hm.eq_nsMap
   rw [e, hn] at g1
   cases g1; rfl
  obtain ⟨nm, q, N, bs, sn, sub, ab, col, dd, k0, k1, k2, k3, k5, mN, hC, hNs, hq, hi⟩ := g3
  obtain rfl := zaa (ho.symm.trans hC)
  obtain rfl : N = cd.ns := by
   have e := Data.cls.inj hd
   rw [<- e]
  have hi' : mN "__init__" = some (.ref f) := by rw [hNs.eq_nsMap]; exact zqa h1
  exact ⟨m, hm, NE, C', f, oI, fd, hN, g1, ⟨nm, q, _, bs, sn, sub, ab, col, dd, k0, k1, k2, k3, k5, mN, hC, hNs, hq, hi'⟩, net, I, _, Heap.Ns.of_isNs h3.1, h3.2⟩
noncomputable def zhe (p : Program) (hl : zn0 p = true) : W.Hook := ⟨Bool × Option FuncBody, fun s => (excB s.heap, netB s.heap), fun _ => (true, zey p), fun _ h => ExcH h /\ NetH h, fun _ _ h =>
 have X := exc_of (Prod.mk.inj h).1
 ⟨X, net_of X (Prod.mk.inj h).2 hl⟩, fun _ _ _ h hk => ⟨h.1.keeps hk, h.2.keeps hk⟩⟩
end Bn
namespace Bn
abbrev Net := List (List (Nat × Nat))
noncomputable def zh6 (n : Nat) : Nat -> List (Nat × Nat) -> Prop
 | _, [] => True
 | lo, (l, h) :: r => l < h /\ h < n /\ lo <= h /\ zh6 n (h + 1) r
noncomputable def zd3 (n : Nat) (layer : List (Nat × Nat)) : Prop := layer ≠ [] /\ zh6 n 0 layer
noncomputable def ziz (n : Nat) (net : Net) : Prop := net.length <= 80 /\ ∀ layer ∈ net, zd3 n layer
theorem zgc {n : Nat} : ∀ {layer : List (Nat × Nat)} {lo : Nat}, zh6 n lo layer -> layer ≠ [] -> layer.length + lo <= n /\ (0 < lo \/ layer.length < n)
 | [], _, _, hn => absurd rfl hn
 | (l, h) :: r, lo, hr, _ => by
  obtain ⟨h1, h2, h3, h4⟩ := hr
  by_cases hn : r = []
  ·subst hn; simp only [zbg, List.length_nil]; exact Ar.ar3 [_,_,_,_] [] 0x310a528003080801840500c2008000294a000c20180610100308000 (Y6 (Y0 (Y0 J1 V0) V1) (Y7 (Y1 J0 V0) (Y1 J1 V1))) (Y1 V2 V3) (Y1 V3 V1) (Y0 V0 V3) h1 h2 h3
  ·have := zgc h4 hn
   simp only [zbg]
   exact Ar.ar3 [_,_,_,_,_] [] 0x310a528003080801840600c2008000294a000c20180610100308000 (Y6 (Y0 (Y0 (Y0 V0 J1) V1) V2) (Y7 (Y1 J0 V1) (Y1 (Y0 V0 J1) V2))) (Y1 V3 V4) (Y0 V1 V4) (Y0 (Y0 V0 (Y0 V4 J1)) V2) h1 h3 this.1
noncomputable def zis (n : Nat) (lays : Net) : Net := lays ++ List.replicate (n - lays.length) []
noncomputable def zh1 (lays : Net) (i : Nat) (p : Nat × Nat) : Net := (zis (i + 1) lays).set i ((zis (i + 1) lays).getD i [] ++ [p])
noncomputable def g0 (xs : List Nat) (i : Nat) : Nat := xs.getD i 0
noncomputable def zcp (done read : List Nat) (l h : Nat) : Nat := max (max (g0 done l) (g0 done h)) (g0 read h)
end Bn
namespace Bn
noncomputable def zd1 {α : Type} (f : α -> α -> α) (layer : List (Nat × Nat)) (σ : Nat -> α) : Nat -> α := fun x => match layer.find? (fun p => p.2 == x) with
 | some p => f (σ p.1) (σ x)
 | none => σ x
noncomputable def runN {α : Type} (f : α -> α -> α) : List (List (Nat × Nat)) -> (Nat -> α) -> Nat -> α
 | [], σ => σ
 | layer :: r, σ => runN f r (zd1 f layer σ)
noncomputable def zot {α : Type} (f : α -> α -> α) (l h : Nat) (σ : Nat -> α) : Nat -> α := fun x => if x = h then f (σ l) (σ h) else σ x
noncomputable def run1 {α : Type} (f : α -> α -> α) : List (Nat × Nat) -> (Nat -> α) -> Nat -> α
 | [], σ => σ
 | p :: r, σ => run1 f r (zot f p.1 p.2 σ)
section
variable {α : Type} {f : α -> α -> α}
theorem zgn {σ : Nat -> α} : runN f [] σ = σ := rfl
theorem zdx {y : List (Nat × Nat)} {r : List (List (Nat × Nat))} {σ : Nat -> α} : runN f (y :: r) σ = runN f r (zd1 f y σ) := rfl
theorem zpc {p : Nat × Nat} {r : List (Nat × Nat)} {σ : Nat -> α} : run1 f (p :: r) σ = run1 f r (zot f p.1 p.2 σ) := rfl
theorem zd5 : ∀ (a b : List (List (Nat × Nat))) (σ : Nat -> α), runN f (a ++ b) σ = runN f b (runN f a σ)
 | [], _, _ => rfl
 | _ :: a, b, _ => zd5 a b _
theorem zhc : ∀ (a b : List (Nat × Nat)) (σ : Nat -> α), run1 f (a ++ b) σ = run1 f b (run1 f a σ)
 | [], _, _ => rfl
 | _ :: a, b, _ => zhc a b _
theorem zgv {layer : List (Nat × Nat)} {σ : Nat -> α} {x : Nat} (h : ∀ p ∈ layer, p.2 ≠ x) : zd1 f layer σ x = σ x := by
 unfold zd1
 have : layer.find? (fun p => p.2 == x) = none := by
  rw [List.find?_eq_none]
  intro p hp
  simpa using h p hp
 rw [this]
theorem zgt : ∀ {net : List (List (Nat × Nat))} {σ : Nat -> α} {x : Nat}, (∀ layer ∈ net, ∀ p ∈ layer, p.2 ≠ x) -> runN f net σ x = σ x
 | [], _, _, _ => rfl
 | layer :: r, σ, x, h => by
  simp only [zgn, zdx]
  rw [zgt fun l hl => h l (zaj _ hl), zgv (h layer zae)]
theorem zlc {layer : List (Nat × Nat)} {σ τ : Nat -> α} {h : Nat} (ha : ∀ x, x ≠ h -> σ x = τ x) (hr : ∀ p ∈ layer, p.1 ≠ h /\ p.2 ≠ h) : ∀ x, x ≠ h -> zd1 f layer σ x = zd1 f layer τ x := by
 intro x hx
 unfold zd1
 cases hf : layer.find? (fun p => p.2 == x) with
 | none => exact ha x hx
 | some p =>
  have hp := zb1 hf
  simp only
  rw [ha p.1 (hr p hp).1, ha x hx]
theorem zig : ∀ {net : List (List (Nat × Nat))} {σ τ : Nat -> α} {h : Nat}, (∀ x, x ≠ h -> σ x = τ x) -> (∀ layer ∈ net, ∀ p ∈ layer, p.1 ≠ h /\ p.2 ≠ h) -> ∀ x, x ≠ h -> runN f net σ x = runN f net τ x
 | [], _, _, _, ha, _ => ha
 | layer :: r, σ, τ, h, ha, hr => by
  simp only [zgn, zdx]
  exact zig (net := r) (zlc ha (hr layer zae)) fun l hl => hr l (zaj _ hl)
theorem zm5 {pre post : List (List (Nat × Nat))} {layer layer' : List (Nat × Nat)} {l h : Nat} (hperm : ∀ p, p ∈ layer' ↔ p = (l, h) \/ p ∈ layer) (hnd : ∀ p ∈ layer, ∀ q ∈ layer, p.2 = q.2 -> p = q)
  (h1 : ∀ p ∈ layer, p.2 ≠ h /\ p.2 ≠ l) (h2 : ∀ lay ∈ post, ∀ p ∈ lay, p.1 ≠ h /\ p.2 ≠ h /\ p.2 ≠ l) (hlh : l ≠ h) (σ : Nat -> α) :
  runN f (pre ++ layer' :: post) σ = zot f l h (runN f (pre ++ layer :: post) σ) := by
 rw [zd5, zd5]
 generalize runN f pre σ = τ
 simp only [zgn, zdx]
 have find_eq : ∀ x, x ≠ h -> (layer'.find? (fun p => p.2 == x)) = layer.find? (fun p => p.2 == x) := by
  intro x hx
  cases hf : layer.find? (fun p => p.2 == x) with
  | none =>
   rw [List.find?_eq_none] at hf ⊢
   intro p hp
   rcases (hperm p).mp hp with rfl | hp
   ·simpa using Ne.symm hx
   ·exact hf p hp
  | some p =>
   have hp := zb1 hf
   have hpx : p.2 = x := by have := List.find?_some hf; simpa using this
   cases hf' : layer'.find? (fun p => p.2 == x) with
   | none =>
    rw [List.find?_eq_none] at hf'
    exact absurd (by simpa using hpx) (hf' p ((hperm p).mpr (.inr hp)))
   | some p' =>
    have hp' := zb1 hf'
    have hpx' : p'.2 = x := by have := List.find?_some hf'; simpa using this
    rcases (hperm p').mp hp' with rfl | hp'
    ·exact absurd hpx' (Ne.symm hx)
    ·rw [hnd p hp p' hp' (hpx.trans hpx'.symm)]
 have agree : ∀ x, x ≠ h -> zd1 f layer' τ x = zd1 f layer τ x := by
  intro x hx
  unfold zd1
  rw [find_eq x hx]
 have athigh : zd1 f layer' τ h = f (τ l) (τ h) := by
  unfold zd1
  cases hf : layer'.find? (fun p => p.2 == h) with
  | none =>
   rw [List.find?_eq_none] at hf
   exact absurd (by simp) (hf (l, h) ((hperm _).mpr (.inl rfl)))
  | some p =>
   have hp := zb1 hf
   have hpx : p.2 = h := by have := List.find?_some hf; simpa using this
   rcases (hperm p).mp hp with rfl | hp
   ·rfl
   ·exact absurd hpx (h1 p hp).1
 funext x
 unfold zot
 by_cases hx : x = h
 ·subst hx
  rw [if_pos rfl, zgt (fun lay hl p hp => (h2 lay hl p hp).2.1), athigh]
  rw [zgt (fun lay hl p hp => (h2 lay hl p hp).2.2), zgt (fun lay hl p hp => (h2 lay hl p hp).2.1)]
  rw [zgv (fun p hp => (h1 p hp).2), zgv (fun p hp => (h1 p hp).1)]
 ·rw [if_neg hx]
  exact zig agree (fun lay hl p hp => ⟨(h2 lay hl p hp).1, (h2 lay hl p hp).2.1⟩) x hx
end
end Bn
namespace Bn
theorem lt900 {a s k : Nat} (h : a <= s + k) (hs : s <= 800) (hk : k <= 64) : a < 900 := za4 (zac h (Nat.add_le_add hs hk)) (by decide)
theorem ltA2 {a b : Nat} (ha : a <= 80) (hb : b <= 80) : a + b < 10000 := za4 (Nat.add_le_add ha hb) (by decide)
theorem ltA3 {a b : Nat} (ha : a <= 80) (hb : b <= 80) : a + 1 + b < 10000 := za4 (Nat.add_le_add (Nat.succ_le_succ ha) hb) (by decide)
theorem mid_len {i n : Nat} (h : i + 1 < n) : n - 1 = min i n + (n - (i + 2) + 1) := by
 obtain ⟨k, rfl⟩ := Nat.exists_eq_add_of_le' (show i + 2 <= n from h)
 rw [Nat.min_eq_left (zac (za7 i 2) (Nat.le_add_left ..)), Nat.add_sub_cancel]
 exact Nat.add_left_comm k i 1
theorem zh5 {x y : Int} (h : 0 < y) : ∃ n : Nat, x % y = (n : Int) := ⟨_, (Int.toNat_of_nonneg (Int.emod_nonneg _ (Int.ne_of_gt h))).symm⟩
theorem pos1 {k : Nat} : (0 : Int) < 1 + (k : Int) := Int.add_pos_of_pos_of_nonneg (by decide) (zbe k)
structure PS where
 lays : Net
 done : List Nat
 read : List Nat
noncomputable def PS.put (s : PS) (p : Nat × Nat) : PS :=
 ⟨zh1 s.lays (zcp s.done s.read p.1 p.2) p, s.done.set p.2 (zcp s.done s.read p.1 p.2 + 1), s.read.set p.1 (max (g0 s.read p.1) (zcp s.done s.read p.1 p.2))⟩
noncomputable def PS.puts (s : PS) (js : List (Nat × Nat)) : PS := js.foldl PS.put s
noncomputable def PS.init (n : Nat) : PS := ⟨[], List.replicate n 0, List.replicate n 0⟩
theorem PS.puts_append (s : PS) (a b : List (Nat × Nat)) : s.puts (a ++ b) = (s.puts a).puts b := List.foldl_append
theorem zkd {lays : Net} {i : Nat} {p : Nat × Nat} (h : i <= lays.length) : zh1 lays i p = lays.take i ++ (lays.getD i [] ++ [p]) :: lays.drop (i + 1) := by
 unfold zh1
 by_cases hi : i < lays.length
 ·have e : zis (i + 1) lays = lays := by unfold zis; rw [Nat.sub_eq_zero_of_le hi, List.replicate_zero, za9]
  rw [e, List.set_eq_take_append_cons_drop, if_pos hi]
 ·obtain rfl := Nat.le_antisymm h (zbh hi)
  have e : zis (lays.length + 1) lays = lays ++ [[]] := by unfold zis; rw [Nat.add_sub_cancel_left]; rfl
  rw [e, List.set_append_right _ _ (zad _)]
  simp [zax]
theorem zp0 {α : Type} {f : α -> α -> α} {σ : Nat -> α} : zd1 f [] σ = σ := rfl
theorem zp1 {α : Type} {f : α -> α -> α} {σ : Nat -> α} {lays : Net} {i : Nat} (h : i <= lays.length) : runN f lays σ = runN f (lays.take i ++ lays.getD i [] :: lays.drop (i + 1)) σ := by
 by_cases hi : i < lays.length
 ·have : lays.take i ++ lays.getD i [] :: lays.drop (i + 1) = lays := by
   rw [zax, zal hi]
   simp
  rw [this]
 ·obtain rfl := Nat.le_antisymm h (zbh hi)
  rw [zd5, List.drop_eq_nil_of_le (Nat.le_succ _)]
  simp [zgn, zdx, zp0, zax]
theorem zmc {xs : List Nat} {i v x : Nat} (hi : i < xs.length) : g0 (xs.set i v) x = if x = i then v else g0 xs x := by
 unfold g0
 rw [zax, List.getElem?_set, zax]
 by_cases h : x = i
 ·subst h; simp [hi]
 ·rw [if_neg (Ne.symm h), if_neg h]
structure Laid (n : Nat) (s : PS) (js : List (Nat × Nat)) : Prop where
 dl : s.done.length = n
 rl : s.read.length = n
 hi : ∀ i y, s.lays[i]? = some y -> ∀ p ∈ y, i < g0 s.done p.2 /\ i <= g0 s.read p.1 /\ p.1 < p.2 /\ p.2 < n
 ne : ∀ y ∈ s.lays, y ≠ []
 nd : ∀ y ∈ s.lays, (y.map (·.2)).Nodup
 dm : ∀ x, g0 s.done x <= s.lays.length /\ g0 s.read x <= s.lays.length
 run : ∀ {α : Type} (f : α -> α -> α) (σ : Nat -> α), runN f s.lays σ = run1 f js σ
theorem g0_zero (n x : Nat) : g0 (List.replicate n 0) x = 0 := by
 unfold g0; rw [zax, List.getElem?_replicate]; split <;> rfl
theorem Laid.init (n : Nat) : Laid n (PS.init n) [] where
 dl := by simp [PS.init]
 rl := by simp [PS.init]
 hi := by simp [PS.init]
 ne := by simp [PS.init]
 nd := by simp [PS.init]
 dm := by intro x; simp [PS.init, g0_zero]
 run := by intros; rfl
theorem zj4 {y : List (Nat × Nat)} (h : (y.map (·.2)).Nodup) : ∀ p ∈ y, ∀ q ∈ y, p.2 = q.2 -> p = q := by
 induction y with
 | nil => intro p hp; cases hp
 | cons a r ih =>
  simp only [zbf, zbr, zas, not_exists, not_and] at h
  intro p hp q hq e
  rcases zak.mp hp with hp1 | hp1 <;> rcases zak.mp hq with hq1 | hq1
  ·rw [hp1, hq1]
  ·exact absurd (e.symm.trans (by rw [hp1])) (h.1 q hq1)
  ·exact absurd (e.trans (by rw [hq1])) (h.1 p hp1)
  ·exact ih h.2 p hp1 q hq1 e
theorem Laid.at_le {n : Nat} {s : PS} {js : List (Nat × Nat)} (L : Laid n s js) (l h : Nat) : zcp s.done s.read l h <= s.lays.length := Nat.max_le.mpr ⟨Nat.max_le.mpr ⟨(L.dm l).1, (L.dm h).1⟩, (L.dm h).2⟩
theorem zqb {k n : Nat} (h : k <= n) : k + (n - (k + 1) + 1) = max n (k + 1) := by
 rcases Nat.lt_or_ge k n with h' | h'
 ·exact ((Nat.succ_add k _).symm.trans (Nat.add_sub_cancel' h')).trans (Nat.max_eq_left h').symm
 ·obtain rfl := Nat.le_antisymm h h'
  rw [Nat.sub_eq_zero_of_le (Nat.le_succ k)]
  exact (Nat.max_eq_right (Nat.le_succ k)).symm
theorem Laid.put {n : Nat} {s : PS} {js : List (Nat × Nat)} (L : Laid n s js) {l h : Nat} (hlh : l < h) (hn : h < n) : Laid n (s.put (l, h)) (js ++ [(l, h)]) := by
 have hat := L.at_le l h
 have e1 : g0 s.done l <= zcp s.done s.read l h := zac (Nat.le_max_left ..) (Nat.le_max_left ..)
 have e2 : g0 s.done h <= zcp s.done s.read l h := zac (Nat.le_max_right ..) (Nat.le_max_left ..)
 have e3 : g0 s.read h <= zcp s.done s.read l h := Nat.le_max_right ..
 generalize hk : zcp s.done s.read l h = k at hat e1 e2 e3
 have hput : s.put (l, h) = ⟨s.lays.take k ++ (s.lays.getD k [] ++ [(l, h)]) :: s.lays.drop (k + 1), s.done.set h (k + 1), s.read.set l (max (g0 s.read l) k)⟩ := by
  simp only [PS.put, hk, zkd hat]
 rw [hput]
 have dl := L.dl; have rl := L.rl
 have hgd : ∀ x, g0 (s.done.set h (k + 1)) x = if x = h then k + 1 else g0 s.done x := fun x => zmc (dl ▸ hn)
 have hgr : ∀ x, g0 (s.read.set l (max (g0 s.read l) k)) x = if x = l then max (g0 s.read l) k else g0 s.read x := fun x => zmc (rl ▸ zar hlh hn)
 have hlen : (s.lays.take k ++ (s.lays.getD k [] ++ [(l, h)]) :: s.lays.drop (k + 1)).length = max s.lays.length (k + 1) := by rw [zan, zbl, zbg, zbo, Nat.min_eq_left hat, zqb hat]
 have hlt : (s.lays.take k).length = k := by rw [zbl, Nat.min_eq_left hat]
 have old : ∀ i y, s.lays[i]? = some y -> ∀ p ∈ y, i < g0 (s.done.set h (k + 1)) p.2 /\ i <= g0 (s.read.set l (max (g0 s.read l) k)) p.1 /\ p.1 < p.2 /\ p.2 < n := by
  intro i y hy p hp
  obtain ⟨a1, a2, a3, a4⟩ := L.hi i y hy p hp
  rw [hgd, hgr]
  refine ⟨?_, ?_, a3, a4⟩
  ·split
   ·rename_i e; rw [e] at a1; exact Nat.lt_succ_of_le (zac (zap a1) e2)
   ·exact a1
  ·split
   ·rename_i e; rw [e] at a2; exact zac a2 (Nat.le_max_left ..)
   ·exact a2
 have hgetk : ∀ p, p ∈ s.lays.getD k [] -> ∃ y, s.lays[k]? = some y /\ p ∈ y := by
  intro p hp
  rw [zax] at hp
  cases hy : s.lays[k]? with
  | none => rw [hy] at hp; cases hp
  | some y => rw [hy] at hp; exact ⟨y, rfl, hp⟩
 have hidx : ∀ i, (s.lays.take k ++ (s.lays.getD k [] ++ [(l, h)]) :: s.lays.drop (k + 1))[i]? = if i = k then some (s.lays.getD k [] ++ [(l, h)]) else s.lays[i]? := by
  intro i
  rcases Nat.lt_trichotomy i k with hi | hi | hi
  ·rw [zbi (Nat.lt_of_lt_of_eq hi hlt.symm), List.getElem?_take, if_pos hi, if_neg (zao hi)]
  ·subst hi; rw [zbk (za8 hlt), hlt, Nat.sub_self, if_pos rfl]; rfl
  ·rw [zbk (zac (za8 hlt) (zap hi)), if_neg (Nat.ne_of_gt hi), hlt]
   obtain ⟨j, rfl⟩ := Nat.exists_eq_add_of_le (show k + 1 <= i from hi)
   rw [show k + 1 + j - k = j + 1 by rw [Nat.add_assoc, Nat.add_sub_cancel_left, Nat.add_comm], List.getElem?_cons_succ, List.getElem?_drop]
 have hmem : ∀ y, y ∈ (s.lays.take k ++ (s.lays.getD k [] ++ [(l, h)]) :: s.lays.drop (k + 1)) -> y = s.lays.getD k [] ++ [(l, h)] \/ y ∈ s.lays := by
  intro y hy
  rcases zaq.mp hy with hy | hy
  ·exact .inr (List.mem_of_mem_take hy)
  ·rcases zak.mp hy with hy | hy
   ·exact .inl hy
   ·exact .inr (List.mem_of_mem_drop hy)
 have hkh : ∀ p ∈ s.lays.getD k [], p.2 ≠ h /\ p.2 ≠ l := by
  intro p hp
  obtain ⟨y, hy, hp⟩ := hgetk p hp
  obtain ⟨a1, _⟩ := L.hi k y hy p hp
  constructor
  ·intro e; rw [e] at a1; exact za2 _ (zav a1 e2)
  ·intro e; rw [e] at a1; exact za2 _ (zav a1 e1)
 have hknd : ((s.lays.getD k []).map (·.2)).Nodup := by
  rw [zax]
  cases hy : s.lays[k]? with
  | none => exact List.nodup_nil
  | some y => exact L.nd y (zaw hy)
 exact {
  dl := (List.length_set ..).trans dl
  rl := (List.length_set ..).trans rl
  hi := by
   intro i y hy p hp
   rw [hidx] at hy
   split at hy
   ·rename_i e; subst e
    cases hy
    rcases zaq.mp hp with hp | hp
    ·obtain ⟨y, hy, hp⟩ := hgetk p hp
     exact old _ y hy p hp
    ·rw [zai.mp hp, hgd, hgr, if_pos rfl, if_pos rfl]
     exact ⟨zbq _, Nat.le_max_right .., hlh, hn⟩
   ·exact old _ y hy p hp
  ne := by
   intro y hy
   rcases hmem y hy with rfl | hy
   ·exact List.append_ne_nil_of_right_ne_nil _ (List.cons_ne_nil _ _)
   ·exact L.ne y hy
  nd := by
   intro y hy
   rcases hmem y hy with rfl | hy
   ·rw [zbb, List.nodup_append]
    refine ⟨hknd, List.pairwise_singleton .., ?_⟩
    intro a ha b hb
    obtain ⟨p, hp, rfl⟩ := zas.mp ha
    rw [show b = h from zai.mp hb]
    exact (hkh p hp).1
   ·exact L.nd y hy
  dm := by
   intro x
   rw [hlen, hgd, hgr]
   have d1 := L.dm x; have d2 := L.dm l
   constructor <;> split
   ·exact Nat.le_max_right ..
   ·exact zac d1.1 (Nat.le_max_left ..)
   ·exact Nat.max_le.mpr ⟨zac d2.2 (Nat.le_max_left ..), zac (Nat.le_succ k) (Nat.le_max_right ..)⟩
   ·exact zac d1.2 (Nat.le_max_left ..)
  run := by
   intro α f σ
   rw [zhc, <- L.run f σ, zp1 hat]
   refine zm5 (l := l) (h := h) ?_ (zj4 hknd) hkh ?_ (zao hlh) σ
   ·intro p; exact zaq.trans (Or.comm.trans (or_congr_left zai))
   ·intro lay hlay p hp
    obtain ⟨i, hi, e⟩ := zbu.mp hlay
    have hy : s.lays[k + 1 + i]? = some lay := by
     rw [<- List.getElem?_drop, zal hi, e]
    obtain ⟨a1, a2, a3, a4⟩ := L.hi _ lay hy p hp
    refine ⟨?_, ?_, ?_⟩ <;> intro e
    ·rw [e] at a2; exact Nat.not_succ_le_self k (zac (za7 ..) (zac a2 e3))
    ·rw [e] at a1; exact Nat.not_succ_le_self k (zac (za7 ..) (zac (zap a1) e2))
    ·rw [e] at a1; exact Nat.not_succ_le_self k (zac (za7 ..) (zac (zap a1) e1)) }
theorem Laid.puts {n : Nat} : ∀ {ks : List (Nat × Nat)} {s : PS} {js : List (Nat × Nat)}, Laid n s js -> (∀ p ∈ ks, p.1 < p.2 /\ p.2 < n) -> Laid n (s.puts ks) (js ++ ks)
 | [], s, js, L, _ => by simpa [PS.puts] using L
 | (l, h) :: r, s, js, L, hk => by
  have hp := hk (l, h) zae
  have := Laid.puts (ks := r) (L.put hp.1 hp.2) fun p hp => hk p (zaj _ hp)
  rw [zbd] at this
  exact this
noncomputable def batch : List Nat -> List Nat -> List (Nat × Nat) -> Prop
 | _, _, [] => True
 | wr, rd, (l, h) :: r => l ∉ wr /\ h ∉ wr /\ h ∉ rd /\ batch (h :: wr) (l :: rd) r
theorem zq8 {s : PS} {n : Nat} {js : List (Nat × Nat)} (L : Laid n s js) (l h : Nat) : (s.put (l, h)).lays.length = max s.lays.length (zcp s.done s.read l h + 1) := by
 simp only [PS.put, zkd (L.at_le l h)]
 rw [zan, zbl, zbg, zbo, Nat.min_eq_left (L.at_le l h), zqb (L.at_le l h)]
theorem zkj {n M : Nat} : ∀ {ks : List (Nat × Nat)} {s : PS} {js : List (Nat × Nat)} {wr rd : List Nat}, Laid n s js -> (∀ p ∈ ks, p.1 < p.2 /\ p.2 < n) -> batch wr rd ks ->
  (∀ x, (x ∉ wr -> g0 s.done x <= M) /\ (x ∉ wr -> x ∉ rd -> g0 s.read x <= M)) -> s.lays.length <= M + 1 -> (s.puts ks).lays.length <= M + 1
 | [], s, js, wr, rd, L, _, _, _, hs => hs
 | (l, h) :: r, s, js, wr, rd, L, hk, hb, hx, hs => by
  have hp := hk (l, h) zae
  obtain ⟨b1, b2, b3, b4⟩ := hb
  have x1 := (hx l).1 b1
  have x2 := (hx h).1 b2
  have x3 := (hx h).2 b2 b3
  have hat : zcp s.done s.read l h <= M := Nat.max_le.mpr ⟨Nat.max_le.mpr ⟨x1, x2⟩, x3⟩
  refine zkj (ks := r) (L.put hp.1 hp.2) (fun p hp => hk p (zaj _ hp)) b4 ?_ ?_
  ·intro x
   show (_ -> g0 (s.done.set _ _) x <= M) /\ (_ -> _ -> g0 (s.read.set _ _) x <= M)
   rw [zmc (L.dl ▸ hp.2), zmc (L.rl ▸ zar hp.1 hp.2)]
   constructor
   ·intro hw
    have : x ≠ h := fun e => hw (e ▸ zae)
    rw [if_neg this]
    exact (hx x).1 fun hw' => hw (zaj _ hw')
   ·intro hw hr
    have : x ≠ l := fun e => hr (e ▸ zae)
    rw [if_neg this]
    exact (hx x).2 (fun hw' => hw (zaj _ hw')) (fun hr' => hr (zaj _ hr'))
  ·rw [zq8 L]; exact Nat.max_le.mpr ⟨hs, Nat.succ_le_succ hat⟩
theorem Laid.batch {n : Nat} {ks : List (Nat × Nat)} {s : PS} {js : List (Nat × Nat)} (L : Laid n s js) (hk : ∀ p ∈ ks, p.1 < p.2 /\ p.2 < n) (hb : Bn.batch [] [] ks) : (s.puts ks).lays.length <= s.lays.length + 1 :=
 zkj L hk hb (fun x => ⟨fun _ => (L.dm x).1, fun _ _ => (L.dm x).2⟩) (Nat.le_succ _)
end Bn
namespace Bn
noncomputable def upd (B : Nat -> Nat) (h v : Nat) : Nat -> Nat := fun x => if x = h then v else B x
theorem zfi {B : Nat -> Nat} {h v x : Nat} (e : x ≠ h) : upd B h v x = B x := if_neg e
theorem zp5 {B : Nat -> Nat} {h v : Nat} : upd B h v h = v := if_pos rfl
noncomputable def zez (B : Nat -> Nat) : List (Nat × Nat) -> (Nat -> Nat) -> Prop
 | [], B' => B = B'
 | (l, h) :: r, B' => l + 1 = B h /\ zez (upd B h (B l)) r B'
theorem zez.append : ∀ {a b : List (Nat × Nat)} {B B1 B2 : Nat -> Nat}, zez B a B1 -> zez B1 b B2 -> zez B (a ++ b) B2
 | [], b, B, B1, B2, h1, h2 => by cases h1; exact h2
 | (l, h) :: r, b, B, B1, B2, h1, h2 => ⟨h1.1, h1.2.append h2⟩
noncomputable def ran (b x : Nat) : List Nat := List.range' b (x + 1 - b)
theorem ran_join {b l h : Nat} (h1 : b <= l) (h2 : l < h) : ran b l ++ ran (l + 1) h = ran b h := by
 unfold ran
 have e : l + 1 = b + 1 * (l + 1 - b) := by exact Ar.ar1 [_,_] [] 0x6194a000c2018061004050846100023410a5000610200308000000a50006101003080002842308001 (Y2 (Y0 V0 J1) (Y0 V1 (Y1 J1 (Y2 (Y0 V0 J1) V1)))) (Y0 V1 V0) h1
 rw [show List.range' (l + 1) (h + 1 - (l + 1)) = List.range' (b + 1 * (l + 1 - b)) (h + 1 - (l + 1)) by rw [<- e], List.range'_append]
 congr 1; exact Ar.ar3 [_,_,_] [] 0x61a08528003081201840000003294a50008102c03080e01840300c20080a108c20104a3080011840208d04294a000c2040061024030800000065294a000c205806101c0308060184010146100023080412842308041 (Y2 (Y0 (Y2 (Y0 V0 J1) V1) (Y2 (Y0 V2 J1) (Y0 V0 J1))) (Y2 (Y0 V2 J1) V1)) (Y0 V1 V0) (Y1 V0 V2) (Y2 (Y0 V0 J1) (Y0 V1 (Y1 J1 (Y2 (Y0 V0 J1) V1)))) h1 h2 e
theorem zem : ∀ {js : List (Nat × Nat)} {B B' : Nat -> Nat}, zez B js B' -> (∀ x, B x <= x) -> (∀ x, B' x <= x) /\ run1 (· ++ ·) js (fun x => ran (B x) x) = fun x => ran (B' x) x
 | [], B, B', h, hb => by cases h; exact ⟨hb, rfl⟩
 | (l, h) :: r, B, B', hp, hb => by
  obtain ⟨h1, h2⟩ := hp
  have hlh : l < h := by have := hb h; exact Ar.ar2 [_,_,_] [] 0x294a000c20000610040308040 (Y1 V0 V1) (Y2 (Y0 V0 J1) V2) (Y0 V2 V1) h1 this
  have hb' : ∀ x, upd B h (B l) x <= x := by
   intro x; unfold upd; split
   ·have := hb l; exact Ar.ar3 [_,_,_,_] [] 0xa5294001840000c200808100c0308040 (Y0 V0 V1) (Y1 V2 V3) (Y0 V0 V2) (Y2 V1 V3) hlh this (by assumption)
   ·exact hb x
  obtain ⟨i1, i2⟩ := zem h2 hb'
  refine ⟨i1, ?_⟩
  rw [<- i2]
  simp only [zpc]
  congr 1
  funext x
  unfold zot
  by_cases e : x = h
  ·subst e; rw [if_pos rfl, zp5]; show ran (B l) l ++ ran (B x) x = _; rw [<- h1, ran_join (hb l) hlh]
  ·rw [if_neg e, zfi e]
theorem zgp : ∀ {js : List (Nat × Nat)} {B B' : Nat -> Nat}, zez B js B' -> (∀ x, B x <= x) -> ∀ p ∈ js, p.1 < p.2
 | [], _, _, _, _, p, hp => by cases hp
 | (l, h) :: r, B, B', hp, hb, p, hm => by
  obtain ⟨h1, h2⟩ := hp
  have hlh : l < h := by have := hb h; exact Ar.ar2 [_,_,_] [] 0x294a000c20000610040308040 (Y1 V0 V1) (Y2 (Y0 V0 J1) V2) (Y0 V2 V1) h1 this
  rcases zak.mp hm with rfl | hm
  ·exact hlh
  ·refine zgp h2 ?_ p hm
   intro x; unfold upd; split
   ·have := hb l; exact Ar.ar3 [_,_,_,_] [] 0xa5294001840000c200808100c0308040 (Y0 V0 V1) (Y1 V2 V3) (Y0 V0 V2) (Y2 V1 V3) hlh this (by assumption)
   ·exact hb x
noncomputable def zje (B : Nat -> Nat) : Nat -> List Nat -> Prop
 | _, [] => True
 | s, x :: r => B x = s /\ s <= x /\ zje B (x + 1) r
theorem zje.ge {B : Nat -> Nat} : ∀ {xs : List Nat} {s : Nat}, zje B s xs -> ∀ x ∈ xs, s <= x
 | [], _, _, x, hx => by cases hx
 | y :: r, s, h, x, hx => by
  rcases zak.mp hx with rfl | hx
  ·exact h.2.1
  ·have := h.2.2.ge x hx; have := h.2.1; exact Ar.ar2 [_,_,_] [] 0x294a000c20000610080308020 (Y0 V0 V1) (Y0 V0 V2) (Y0 (Y0 V2 J1) V1) this (by assumption)
theorem zje.congr {B B' : Nat -> Nat} : ∀ {xs : List Nat} {s : Nat}, zje B s xs -> (∀ x ∈ xs, B' x = B x) -> zje B' s xs
 | [], _, _, _ => trivial
 | y :: r, s, h, hx => ⟨(hx y zae).trans h.1, h.2.1, h.2.2.congr fun x hm => hx x (zaj _ hm)⟩
noncomputable def thin (cond : Nat -> Bool) : Nat -> Nat -> List Nat -> List (Nat × Nat) × List (Nat × Nat) × List Nat
 | _, _, [] => ([], [], [])
 | _, _, [x] => ([], [], [x])
 | k, s, x :: y :: r => if cond k then ((x, y) :: (thin cond (k + 2) (y + 1) r).1, (if s = 0 then [] else [(s - 1, x)]) ++ (thin cond (k + 2) (y + 1) r).2.1, y :: (thin cond (k + 2) (y + 1) r).2.2)
  else ((thin cond (k + 1) (x + 1) (y :: r)).1, (thin cond (k + 1) (x + 1) (y :: r)).2.1, x :: (thin cond (k + 1) (x + 1) (y :: r)).2.2)
theorem thin_nil {cond : Nat -> Bool} {k s : Nat} : thin cond k s [] = ([], [], []) := rfl
theorem zjh {cond : Nat -> Bool} {k s x y : Nat} {r : List Nat} : thin cond k s (x :: y :: r) = if cond k then ((x, y) :: (thin cond (k + 2) (y + 1) r).1, (if s = 0 then [] else [(s - 1, x)]) ++ (thin cond (k + 2) (y + 1) r).2.1, y :: (thin cond (k + 2) (y + 1) r).2.2)
  else ((thin cond (k + 1) (x + 1) (y :: r)).1, (thin cond (k + 1) (x + 1) (y :: r)).2.1, x :: (thin cond (k + 1) (x + 1) (y :: r)).2.2) := rfl
structure ThinOk (B : Nat -> Nat) (s : Nat) (rest : List Nat) (t : List (Nat × Nat) × List (Nat × Nat) × List Nat) (B1 : Nat -> Nat) : Prop where
 plays : zez B t.1 B1
 same : ∀ x, x ∉ rest -> B1 x = B x
 chain : zje B1 s t.2.2
 sub : ∀ x ∈ t.2.2, x ∈ rest
 mem : ∀ p ∈ t.1, p.1 ∈ rest /\ p.2 ∈ rest
 lmem : ∀ p ∈ t.2.1, (p.1 ∈ rest \/ p.1 + 1 = s) /\ p.2 ∈ rest
 batch : ∀ wr rd : List Nat, (∀ z ∈ wr, z < s) -> (∀ z ∈ rd, z < s) -> batch wr rd t.1
 len : t.2.2.length + t.1.length = rest.length /\ t.2.1.length <= t.1.length
 fill : ∀ B2, (∀ x ∈ t.2.2, B2 x = 0) -> (∀ x ∈ rest, x ∉ t.2.2 -> B2 x = B1 x) -> (s = 0 \/ B2 (s - 1) = 0) -> ∃ B3, zez B2 t.2.1.reverse B3 /\ (∀ x ∈ rest, B3 x = 0) /\ ∀ x, x ∉ rest -> B3 x = B2 x
theorem mem2 {x y z : Nat} {r : List Nat} (h : z ∈ x :: y :: r) {P : Nat -> Prop} (hx : P x) (hy : P y) (hr : ∀ z ∈ r, P z) : P z := zau.mpr ⟨hx, zau.mpr ⟨hy, hr⟩⟩ z h
theorem ThinOk.two {B B1 : Nat -> Nat} {s x y : Nat} {r : List Nat} {a b : List (Nat × Nat)} {c : List Nat} (c1 : B x = s) (c2 : s <= x) (c3 : x + 1 = B y) (c4 : x < y) (hr : ∀ z ∈ r, y < z) (T : ThinOk (upd B y (B x)) (y + 1) r (a, b, c) B1) :
  ThinOk B s (x :: y :: r) ((x, y) :: a, (if s = 0 then [] else [(s - 1, x)]) ++ b, y :: c) B1 := by
 have hyr : y ∉ r := fun h => za2 _ (hr y h)
 have hxr : x ∉ r := fun h => Nat.lt_asymm c4 (hr x h)
 have hx1 : B1 x = s := (T.same x hxr).trans ((zfi (zao c4)).trans c1)
 exact {
  plays := ⟨c3, T.plays⟩
  same := fun z hz => (T.same z fun h => hz (.tail _ (.tail _ h))).trans (zfi fun e => hz (e ▸ .tail _ (.head _)))
  chain := ⟨(T.same y hyr).trans (zp5.trans c1), zac c2 (zap c4), T.chain⟩
  sub := zau.mpr ⟨.tail _ (.head _), fun z hz => .tail _ (.tail _ (T.sub z hz))⟩
  mem := zau.mpr ⟨⟨.head _, .tail _ (.head _)⟩, fun p hp => ⟨.tail _ (.tail _ (T.mem p hp).1), .tail _ (.tail _ (T.mem p hp).2)⟩⟩
  lmem := List.forall_mem_append.mpr ⟨fun p hp => by
   by_cases hs : s = 0
   ·rw [if_pos hs] at hp; cases hp
   ·rw [if_neg hs] at hp
    rw [zai.mp hp]
    exact ⟨.inr (Nat.sub_add_cancel (Nat.pos_of_ne_zero hs)), .head _⟩, fun p hp => ⟨.inl ((T.lmem p hp).1.elim (fun h => .tail _ (.tail _ h)) fun h => Nat.succ.inj h ▸ .tail _ (.head _)), .tail _ (.tail _ (T.lmem p hp).2)⟩⟩
  batch := fun wr rd hw hrd => ⟨fun h => Nat.not_lt.mpr c2 (hw _ h), fun h => Nat.not_lt.mpr (zac c2 (zap c4)) (hw _ h), fun h => Nat.not_lt.mpr (zac c2 (zap c4)) (hrd _ h),
   T.batch _ _ (zau.mpr ⟨zbq y, fun z hz => zav (hw z hz) (zac c2 (zbc (zap c4)))⟩) (zau.mpr ⟨Nat.lt_succ_of_lt c4, fun z hz => zav (hrd z hz) (zac c2 (zbc (zap c4)))⟩)⟩
  len := by
   refine ⟨?_, ?_⟩
   ·have := T.len.1; show c.length + 1 + (a.length + 1) = r.length + 1 + 1; have : c.length + a.length = r.length := this; exact Ar.ar1 [_,_,_] [] 0x6294001840200c20000a5000810080308000 (Y2 (Y0 (Y0 V0 J1) (Y0 V1 J1)) (Y0 (Y0 V2 J1) J1)) (Y2 (Y0 V0 V1) V2) (by assumption)
   ·have : b.length <= a.length := T.len.2
    show ((if s = 0 then [] else [(s - 1, x)]) ++ b).length <= a.length + 1
    by_cases hs : s = 0
    ·rw [if_pos hs]; exact zbc this
    ·rw [if_neg hs]; exact Nat.succ_le_succ this
  fill := fun B2 h0 h1 hs => by
   have hB2x : B2 x = s := (h1 x (.head _) fun h => (zak.mp h).elim (zao c4) fun h => hxr (T.sub x h)).trans hx1
   obtain ⟨B3, P3, Z3, S3⟩ := T.fill B2 (fun z hz => h0 z (.tail _ hz)) (fun z hzr hz => h1 z (.tail _ (.tail _ hzr)) fun h => (zak.mp h).elim (fun e => hyr (e ▸ hzr)) hz) (.inr (h0 y (.head _)))
   have h3y : B3 y = 0 := (S3 y hyr).trans (h0 y (.head _))
   have h3x : B3 x = s := (S3 x hxr).trans hB2x
   by_cases e0 : s = 0
   ·rw [if_pos e0]
    exact ⟨B3, P3, fun z hz => mem2 (P := fun z => B3 z = 0) hz (h3x.trans e0) h3y Z3, fun z hz => S3 z fun h => hz (.tail _ (.tail _ h))⟩
   ·have h30 : B3 (s - 1) = 0 := (S3 _ fun h => Nat.lt_asymm (hr _ h) (zav (Nat.sub_lt (Nat.pos_of_ne_zero e0) Nat.one_pos) (zac c2 (zap c4)))).trans (hs.resolve_left e0)
    rw [if_neg e0]
    refine ⟨upd B3 x (B3 (s - 1)), ?_, fun z hz => ?_, fun z hz => (zfi fun e : z = x => hz (e ▸ .head _)).trans (S3 z fun h => hz (.tail _ (.tail _ h)))⟩
    ·show zez B2 ((s - 1, x) :: b).reverse _
     rw [List.reverse_cons]
     exact P3.append ⟨(Nat.sub_add_cancel (Nat.pos_of_ne_zero e0)).trans h3x.symm, rfl⟩
    ·by_cases e : z = x
     ·rw [e, zp5, h30]
     ·rw [zfi e]; exact mem2 (P := fun z => z ≠ x -> B3 z = 0) hz (fun h => absurd rfl h) (fun _ => h3y) (fun z h _ => Z3 z h) e }
theorem ThinOk.one {B B1 : Nat -> Nat} {s x : Nat} {r : List Nat} {a b : List (Nat × Nat)} {c : List Nat} (c1 : B x = s) (c2 : s <= x) (hr : ∀ z ∈ r, x < z) (T : ThinOk B (x + 1) r (a, b, c) B1) : ThinOk B s (x :: r) (a, b, x :: c) B1 := by
 have hxr : x ∉ r := fun h => za2 _ (hr x h)
 exact {
  plays := T.plays
  same := fun z hz => T.same z fun h => hz (.tail _ h)
  chain := ⟨(T.same x hxr).trans c1, c2, T.chain⟩
  sub := zau.mpr ⟨.head _, fun z hz => .tail _ (T.sub z hz)⟩
  mem := fun p hp => ⟨.tail _ (T.mem p hp).1, .tail _ (T.mem p hp).2⟩
  lmem := fun p hp => ⟨.inl ((T.lmem p hp).1.elim (fun h => .tail _ h) fun h => Nat.succ.inj h ▸ .head _), .tail _ (T.lmem p hp).2⟩
  batch := fun wr rd hw hrd => T.batch _ _ (fun z hz => zav (hw z hz) (zbc c2)) (fun z hz => zav (hrd z hz) (zbc c2))
  len := ⟨by have : c.length + a.length = r.length := T.len.1; show c.length + 1 + a.length = r.length + 1; exact Ar.ar1 [_,_,_] [] 0x6294001840200c20000a5000810080308000 (Y2 (Y0 (Y0 V0 J1) V1) (Y0 V2 J1)) (Y2 (Y0 V0 V1) V2) this, T.len.2⟩
  fill := fun B2 h0 h1 hs => by
   obtain ⟨B3, P3, Z3, S3⟩ := T.fill B2 (fun z hz => h0 z (.tail _ hz)) (fun z hzr hz => h1 z (.tail _ hzr) fun h => (zak.mp h).elim (fun e => hxr (e ▸ hzr)) hz) (.inr (h0 x (.head _)))
   exact ⟨B3, P3, zau.mpr ⟨(S3 x hxr).trans (h0 x (.head _)), Z3⟩, fun z hz => S3 z fun h => hz (.tail _ h)⟩ }
theorem zlw (cond : Nat -> Bool) : ∀ (k s : Nat) (rest : List Nat) (B : Nat -> Nat), zje B s rest -> ∃ B1, ThinOk B s rest (thin cond k s rest) B1
 | k, s, [], B, _ => ⟨B, { plays := rfl, same := fun _ _ => rfl, chain := trivial, sub := fun _ h => (nomatch h), mem := fun _ h => (nomatch h), lmem := fun _ h => (nomatch h), batch := fun _ _ _ _ => trivial, len := ⟨rfl, zad _⟩, fill := fun B2 _ _ _ => ⟨B2, rfl, fun _ h => (nomatch h), fun _ _ => rfl⟩ }⟩
 | k, s, [x], B, hc => ⟨B, { plays := rfl, same := fun _ _ => rfl, chain := hc, sub := fun x hx => hx, mem := fun _ h => (nomatch h), lmem := fun _ h => (nomatch h), batch := fun _ _ _ _ => trivial, len := ⟨rfl, zad _⟩, fill := fun B2 h _ _ => ⟨B2, rfl, h, fun _ _ => rfl⟩ }⟩
 | k, s, x :: y :: r, B, hc => by
  rw [zjh]
  have hr : ∀ z ∈ r, y < z := fun z hz => hc.2.2.2.2.ge z hz
  by_cases hk : cond k = true
  ·rw [if_pos hk]
   obtain ⟨B1, T⟩ := zlw cond (k + 2) (y + 1) r (upd B y (B x)) (hc.2.2.2.2.congr fun z hz => zfi (Nat.ne_of_gt (hr z hz)))
   exact ⟨B1, .two hc.1 hc.2.1 hc.2.2.1.symm hc.2.2.2.1 hr T⟩
  ·rw [if_neg hk]
   obtain ⟨B1, T⟩ := zlw cond (k + 1) (x + 1) (y :: r) B hc.2.2
   exact ⟨B1, .one hc.1 hc.2.1 (zau.mpr ⟨hc.2.2.2.1, fun z hz => zar hc.2.2.2.1 (hr z hz)⟩) T⟩
noncomputable def zfl (B : Nat -> Nat) : Nat -> List (List Nat) -> Prop
 | _, [] => True
 | s, g :: r => (∀ x ∈ g, B x = s /\ s <= x) /\ g.Pairwise (· < ·) /\ ∃ m, g.getLast? = some m /\ zfl B (m + 1) r
theorem zf4 : ∀ {g : List Nat} {m : Nat}, g.Pairwise (· < ·) -> g.getLast? = some m -> ∀ x ∈ g, x <= m
 | [], _, _, h, _, _ => by cases h
 | [a], m, _, h, x, hx => by simp at h hx; exact Ar.ar2 [_,_,_] [] 0x294a000c20000610040308040 (Y0 V0 V1) (Y2 V2 V1) (Y2 V0 V2) h hx
 | a :: b :: r, m, hp, h, x, hx => by
  rw [List.pairwise_cons] at hp
  have hm : (b :: r).getLast? = some m := by rw [<- h]; simp [List.getLast?_cons]
  rcases zak.mp hx with rfl | hx
  ·have := hp.1 b zae
   have := zf4 hp.2 hm b zae
   exact Ar.ar2 [_,_,_] [] 0x294a000c20000610080308020 (Y0 V0 V1) (Y0 V2 V1) (Y1 V0 V2) this (by assumption)
  ·exact zf4 hp.2 hm x hx
theorem zfl.ge {B : Nat -> Nat} : ∀ {gs : List (List Nat)} {s : Nat}, zfl B s gs -> ∀ g ∈ gs, ∀ x ∈ g, s <= x
 | [], _, _, g, hg, _, _ => by cases hg
 | g :: r, s, h, g', hg, x, hx => by
  obtain ⟨h1, h2, m, h3, h4⟩ := h
  rcases zak.mp hg with rfl | hg
  ·exact (h1 x hx).2
  ·have := h4.ge g' hg x hx
   have hm : m ∈ g := List.mem_of_getLast? h3
   have := (h1 m hm).2
   exact Ar.ar2 [_,_,_] [] 0x294a000c20000610080308020 (Y0 V0 V1) (Y0 V0 V2) (Y0 (Y0 V2 J1) V1) this (by assumption)
theorem zfl.congr {B B' : Nat -> Nat} : ∀ {gs : List (List Nat)} {s : Nat}, zfl B s gs -> (∀ g ∈ gs, ∀ x ∈ g, B' x = B x) -> zfl B' s gs
 | [], _, _, _ => trivial
 | g :: r, s, hG, hx => ⟨fun x hm => by rw [hx g zae x hm]; exact hG.1 x hm, hG.2.1, hG.2.2.elim fun m h => ⟨m, h.1, h.2.congr fun g' hg => hx g' (zaj _ hg)⟩⟩
theorem zfl.of {B : Nat -> Nat} : ∀ {xs : List Nat} {s : Nat}, zje B s xs -> zfl B s (xs.map fun x => [x])
 | [], _, _ => trivial
 | x :: r, s, h => ⟨fun y hy => by rw [zai.mp hy]; exact ⟨h.1, h.2.1⟩, List.pairwise_singleton _ _, x, rfl, zfl.of h.2.2⟩
theorem zg6 {m : Nat} : ∀ {h : List Nat} {B : Nat -> Nat}, (∀ x ∈ h, B x = m + 1) -> m ∉ h -> h.Nodup -> ∃ B', zez B (h.map fun y => (m, y)) B' /\ (∀ x ∈ h, B' x = B m) /\ ∀ x, x ∉ h -> B' x = B x
 | [], B, _, _, _ => ⟨B, rfl, fun x hx => (by cases hx), fun _ _ => rfl⟩
 | y :: r, B, hB, hm, hnd => by
  rw [zbr] at hnd
  simp only [zak, not_or] at hm
  obtain ⟨B', h1, h2, h3⟩ := zg6 (h := r) (B := upd B y (B m)) (fun x hx => by
   have hxy : x ≠ y := fun e => hnd.1 (e ▸ hx)
   rw [zfi hxy]; exact hB x (zaj _ hx)) hm.2 hnd.2
  have hmm : upd B y (B m) m = B m := zfi hm.1
  refine ⟨B', ⟨(hB y zae).symm, h1⟩, ?_, ?_⟩
  ·intro x hx
   rcases zak.mp hx with rfl | hx
   ·rw [h3 x hnd.1, zp5]
   ·rw [h2 x hx, hmm]
  ·intro x hx
   simp only [zak, not_or] at hx
   rw [h3 x hx.2, zfi hx.1]
theorem zhi {m : Nat} : ∀ {h : List Nat} {wr rd : List Nat}, h.Nodup -> m ∉ h -> m ∉ wr -> (∀ x ∈ h, x ∉ wr /\ x ∉ rd) -> batch wr rd (h.map fun y => (m, y))
 | [], _, _, _, _, _, _ => trivial
 | y :: r, wr, rd, hnd, hm, hw, hx => by
  rw [zbr] at hnd
  simp only [zak, not_or] at hm
  have h1 := hx y zae
  refine ⟨hw, h1.1, h1.2, zhi hnd.2 hm.2 ?_ ?_⟩
  ·simp only [zak, not_or]; exact ⟨hm.1, hw⟩
  ·intro x hxr
   have h2 := hx x (zaj _ hxr)
   simp only [zak, not_or]
   exact ⟨⟨fun e => hnd.1 (e ▸ hxr), h2.1⟩, fun e => hm.2 (e ▸ hxr), h2.2⟩
theorem zil {g : List Nat} (h : g.Pairwise (· < ·)) : g.Nodup := h.imp (fun h => by exact Ar.ar1 [_,_] [] 0x429400184020102000000 (Y8 (Y2 V0 V1) J0) (Y1 V0 V1) h)
theorem zmn {a b : List Nat} : ∀ {pre post : List (List Nat)} {s : Nat} {B : Nat -> Nat}, zfl B s (pre ++ a :: b :: post) -> ∃ m, a.getLast? = some m /\ m ∉ b /\ b.Nodup /\ ∃ B', zez B (b.map fun y => (m, y)) B' /\
  zfl B' s (pre ++ (a ++ b) :: post) /\ ∀ x, x ∉ b -> B' x = B x
 | [], post, s, B, hG => by
  obtain ⟨h1, h2, m, h3, h4, h5, m', h6, h7⟩ := hG
  have hm := (h1 m (List.mem_of_getLast? h3))
  have hmb : m ∉ b := fun h => by have := (h4 m h).2; exact Ar.ar1 [_] [] 171801870368 J0 (Y0 (Y0 V0 J1) V0) this
  obtain ⟨B', p1, p2, p3⟩ := zg6 (B := B) (m := m) (fun x hx => (h4 x hx).1) hmb (zil h5)
  refine ⟨m, h3, hmb, zil h5, B', p1, ⟨?_, ?_, m', ?_, h7.congr fun g hg x hx => p3 x fun hb => ?_⟩, p3⟩
  ·intro x hx
   rcases zaq.mp hx with hx | hx
   ·rw [p3 x fun hb => ?_]
    ·exact h1 x hx
    ·have := zf4 h2 h3 x hx
     have := (h4 x hb).2
     exact Ar.ar2 [_,_] [] 0xa5000610080308020 J0 (Y0 (Y0 V0 J1) V1) (Y0 V1 V0) this (by assumption)
   ·rw [p2 x hx]
    have := (h4 x hx).2
    exact ⟨hm.1, by exact Ar.ar2 [_,_,_] [] 0x294a000c20000610040308040 (Y0 V0 V1) (Y0 V0 V2) (Y0 (Y0 V2 J1) V1) hm.2 this⟩
  ·rw [List.pairwise_append]
   refine ⟨h2, h5, fun x hx y hy => ?_⟩
   have := zf4 h2 h3 x hx
   have := (h4 y hy).2
   exact Ar.ar2 [_,_,_] [] 0x294a000c20000610080308020 (Y1 V0 V1) (Y0 (Y0 V2 J1) V1) (Y0 V0 V2) this (by assumption)
  ·rw [List.getLast?_append, h6]; rfl
  ·have := h7.ge g hg x hx
   have := zf4 h5 h6 x hb
   exact Ar.ar2 [_,_] [] 0xa5000610080308020 J0 (Y0 V0 V1) (Y0 (Y0 V1 J1) V0) this (by assumption)
 | g :: pre, post, s, B, hG => by
  obtain ⟨h1, h2, m, h3, h4⟩ := hG
  obtain ⟨m', a1, a2, a3, B', a4, a5, a6⟩ := zmn h4
  refine ⟨m', a1, a2, a3, B', a4, ⟨?_, h2, m, h3, a5⟩, a6⟩
  intro x hx
  rw [a6 x fun hb => ?_]
  ·exact h1 x hx
  ·have := h4.ge b (by simp) x hb
   have := zf4 h2 h3 x hx
   exact Ar.ar2 [_,_] [] 0xa5000610080308020 J0 (Y0 V0 V1) (Y0 (Y0 V1 J1) V0) this (by assumption)
end Bn
namespace Bn
noncomputable def rowsN (net : Net) : Nat -> List Nat := runN (· ++ ·) net fun x => [x]
theorem zh9 {α : Type} (f : α -> α -> α) (y : List (Nat × Nat)) (σ : Nat -> α) (x : Nat) : (∃ p ∈ y, p.2 = x /\ zd1 f y σ x = f (σ p.1) (σ x)) \/ zd1 f y σ x = σ x := by
 unfold zd1
 cases h : y.find? (fun p => p.2 == x) with
 | none => exact .inr rfl
 | some p =>
  have := List.find?_some h
  exact .inl ⟨p, zb1 h, by simpa using this, rfl⟩
theorem zmb {α : Type} (f : α -> α -> α) {y : List (Nat × Nat)} (σ : Nat -> α) (hn : (y.map (·.2)).Nodup) {p : Nat × Nat} (hp : p ∈ y) : zd1 f y σ p.2 = f (σ p.1) (σ p.2) := by
 unfold zd1
 cases h : y.find? (fun q => q.2 == p.2) with
 | none =>
  rw [List.find?_eq_none] at h
  exact absurd (by simp) (h p hp)
 | some q =>
  have := List.find?_some h
  have := zj4 hn q (zb1 h) p hp (by simpa using this)
  rw [this]
theorem zrh {b x : Nat} (hb : b <= x) : ran b x = List.range (x + 1) ↔ b = 0 := by
 constructor
 ·intro h
  have := congrArg List.length h
  simp [ran] at this
  exact Ar.ar2 [_,_] [] 0x30d04294001840800c2000000294a00102038061010030800028023080212800308000 (Y2 V0 J0) (Y0 V0 V1) (Y2 (Y2 (Y0 V1 J1) V0) (Y0 V1 J1)) hb this
 ·rintro rfl; simp [ran, List.range_eq_range']
theorem zob {α : Type} (f : α -> α -> α) {y z : List (Nat × Nat)} (σ : Nat -> α) (hn : (y.map (·.2)).Nodup) (hp : y.Perm z) : zd1 f z σ = zd1 f y σ := by
 have hz : (z.map (·.2)).Nodup := (hp.map _).nodup_iff.mp hn
 funext x
 rcases zh9 f y σ x with ⟨p, h1, h2, e⟩ | e
 ·subst h2
  rw [e, zmb f σ hz (hp.mem_iff.mp h1)]
 ·rcases zh9 f z σ x with ⟨p, h1, h2, e'⟩ | e'
  ·subst h2
   rw [e', zmb f σ hn (hp.mem_iff.mpr h1)]
  ·rw [e, e']
theorem zj9 {α : Type} (f : α -> α -> α) {s : List (Nat × Nat) -> List (Nat × Nat)} : ∀ {a : Net} (σ : Nat -> α), (∀ y ∈ a, (y.map (·.2)).Nodup) -> (∀ y ∈ a, y.Perm (s y)) -> runN f (a.map s) σ = runN f a σ
 | [], σ, _, _ => rfl
 | y :: r, σ, hn, hp => by
  rw [zbf, zdx, zdx, zob f σ (hn y zae) (hp y zae)]
  exact zj9 f _ (fun y hy => hn y (zaj _ hy)) (fun y hy => hp y (zaj _ hy))
end Bn
namespace Bn
noncomputable def hiLe (a b : Nat × Nat) : Bool := decide (a.2 < b.2) || (decide (a.2 = b.2) && decide (a.1 <= b.1))
noncomputable def zfz (y : List (Nat × Nat)) : List (Nat × Nat) := y.mergeSort hiLe
theorem zdt (y : List (Nat × Nat)) : y.Perm (zfz y) := (List.mergeSort_perm y hiLe).symm
theorem hiLe_iff {a b : Nat × Nat} : hiLe a b = true ↔ a.2 < b.2 \/ (a.2 = b.2 /\ a.1 <= b.1) := by simp only [hiLe, Bool.or_eq_true, zbp, decide_eq_true_eq]
theorem hi3 {a b c d e f : Nat} (h1 : b < d \/ (b = d /\ a <= c)) (h2 : d < f \/ (d = f /\ c <= e)) : b < f \/ (b = f /\ a <= e) := by exact Ar.ar2 [_,_,_,_,_,_] [] 0x7490e4214a5000610100308060184010140401884294a000c20200610080308000300a0294001840000c2010040210a528003080801840200c200006010124214a50006101403080401840000802010a528003080601840200c2000040 (Y7 (Y1 V0 V1) (Y6 (Y2 V0 V1) (Y0 V2 V3))) (Y7 (Y1 V0 V4) (Y6 (Y2 V0 V4) (Y0 V2 V5))) (Y7 (Y1 V4 V1) (Y6 (Y2 V4 V1) (Y0 V5 V3))) h1 h2
theorem hi1 (a b c d : Nat) : (b < d \/ (b = d /\ a <= c)) \/ (d < b \/ (d = b /\ c <= a)) := by exact Ar.ar0 [_,_,_,_] [] 0x84390e5280030806018400018a50006100003080a0294001840000c2010080310a5000610080308000280a500061000030804000000 (Y7 (Y7 (Y1 V0 V1) (Y6 (Y2 V0 V1) (Y0 V2 V3))) (Y7 (Y1 V1 V0) (Y6 (Y2 V1 V0) (Y0 V3 V2))))
theorem zhu (y : List (Nat × Nat)) : (zfz y).Pairwise fun a b => hiLe a b = true := by
 refine List.pairwise_mergeSort ?_ ?_ y
 ·exact fun a b c h1 h2 => hiLe_iff.mpr (hi3 (hiLe_iff.mp h1) (hiLe_iff.mp h2))
 ·exact fun a b => zbv.mpr ((hi1 a.1 a.2 b.1 b.2).imp hiLe_iff.mpr hiLe_iff.mpr)
theorem zjw {n : Nat} : ∀ {y : List (Nat × Nat)} {lo : Nat}, (y.Pairwise fun a b => hiLe a b = true) -> (y.map (·.2)).Nodup -> (∀ p ∈ y, p.1 < p.2 /\ p.2 < n /\ lo <= p.2) -> zh6 n lo y
 | [], _, _, _, _ => trivial
 | (l, h) :: r, lo, hp, hn, hy => by
  have h1 := hy (l, h) zae
  rw [List.pairwise_cons] at hp
  rw [zbf, zbr] at hn
  refine ⟨h1.1, h1.2.1, h1.2.2, zjw hp.2 hn.2 fun p hm => ?_⟩
  have h2 := hy p (zaj _ hm)
  have h3 := hp.1 p hm
  have h4 : p.2 ≠ h := fun e => hn.1 (zas.mpr ⟨p, hm, e⟩)
  simp only [hiLe, Bool.or_eq_true, zbp, decide_eq_true_eq] at h3
  exact ⟨h2.1, h2.2.1, by exact Ar.ar2 [_,_,_,_] [] 0x1ca5000610040308000490a50006100c0308000000a5000610040308000 (Y0 (Y0 V0 J1) V1) (Y8 (Y2 V1 V0) J0) (Y7 (Y1 V0 V1) (Y6 (Y2 V0 V1) (Y0 V2 V3))) h4 h3⟩
theorem zkh {n : Nat} {y : List (Nat × Nat)} (hn : (y.map (·.2)).Nodup) (hy : ∀ p ∈ y, p.1 < p.2 /\ p.2 < n) : zh6 n 0 (zfz y) := by
 refine zjw (zhu y) (((zdt y).map _).nodup_iff.mp hn) fun p hp => ?_
 have := hy p ((zdt y).mem_iff.mpr hp)
 exact ⟨this.1, this.2, za0 _⟩
theorem sortL_ne {y : List (Nat × Nat)} (h : y ≠ []) : zfz y ≠ [] := by
 intro e
 have := (zdt y).length_eq
 rw [e] at this
 exact h (zbm.mp this)
theorem zeb : ∀ {n : Nat} {xs : List Nat}, xs.Nodup -> (∀ x ∈ xs, x < n) -> xs.length <= n
 | 0, [], _, _ => zad _
 | 0, x :: _, _, h => absurd (h x zae) (by exact Ar.ar0 [_] [] 4679524742594560 (Y8 (Y1 V0 J0) J0))
 | n + 1, xs, hn, h => by
  by_cases hm : n ∈ xs
  ·have := zeb (n := n) (xs := xs.erase n) (hn.erase n) fun x hx => by
    rw [hn.mem_erase_iff] at hx
    have := h x hx.2
    exact Ar.ar2 [_,_] [] 0x7294001840300c20000a5000610040308000 (Y1 V0 V1) (Y8 (Y2 V0 V1) J0) (Y1 V0 (Y0 V1 J1)) hx.1 this
   rw [List.length_erase_of_mem hm] at this
   exact Ar.ar1 [_,_] [] 0x65294001840300c20200610040508001 (Y0 V0 (Y0 V1 J1)) (Y0 (Y2 V0 J1) V1) this
  ·have := zeb (n := n) hn fun x hx => by
    have := h x hx
    have : x ≠ n := fun e => hm (e ▸ hx)
    exact Ar.ar2 [_,_] [] 0x7294001840300c20000a5000610040308000 (Y1 V0 V1) (Y8 (Y2 V0 V1) J0) (Y1 V0 (Y0 V1 J1)) this (by assumption)
   exact Ar.ar1 [_,_] [] 0xa5000610000308020 (Y0 V0 (Y0 V1 J1)) (Y0 V0 V1) this
theorem Laid.wide {n : Nat} {s : PS} {js : List (Nat × Nat)} (L : Laid n s js) : ∀ y ∈ s.lays, y.length <= n := by
 intro y hy
 obtain ⟨i, hi, e⟩ := zbu.mp hy
 have hiy : s.lays[i]? = some y := by rw [zal hi, e]
 have := zeb (L.nd y hy) fun x hx => by
  obtain ⟨p, hp, rfl⟩ := zas.mp hx
  exact (L.hi i y hiy p hp).2.2.2
 simpa using this
theorem zen {n : Nat} : ∀ {ks : List (Nat × Nat)} {s : PS} {js : List (Nat × Nat)}, Laid n s js -> (∀ p ∈ ks, p.1 < p.2 /\ p.2 < n) -> (s.puts ks).lays.length <= s.lays.length + ks.length
 | [], s, js, _, _ => zad _
 | (l, h) :: r, s, js, L, hk => by
  have hp := hk (l, h) zae
  have := zen (ks := r) (L.put hp.1 hp.2) fun p hp => hk p (zaj _ hp)
  rw [zq8 L] at this
  have := L.at_le l h
  simp only [PS.puts, List.foldl_cons, zbg] at *
  exact Ar.ar3 [_,_,_,_,_] [] 0x9214a528003080601840500c202006100000010a528003080601840500c2000000 (Y0 V0 (Y0 V1 (Y0 V2 J1))) (Y0 V3 V1) (Y0 V0 (Y0 V4 V2)) (Y7 (Y6 (Y2 V4 V1) (Y0 (Y0 V3 J1) V1)) (Y6 (Y2 V4 (Y0 V3 J1)) (Y0 V1 (Y0 V3 J1)))) this (by assumption) (by exact Ar.mx _ _)
structure Told (n : Nat) (net : Net) : Prop where
 ok : ∀ y ∈ net, zd3 n y
 len : net.length <= n + 3
 whole : ∀ x, x < n -> rowsN net x = List.range (x + 1)
theorem told_of {n : Nat} {s : PS} {js : List (Nat × Nat)} {B : Nat -> Nat} (L : Laid n s js) (P : zez id js B) (h0 : ∀ x, x < n -> B x = 0) (hl : s.lays.length <= n + 3) : Told n (s.lays.map zfz) where
 ok := by
  intro y hy
  obtain ⟨z, hz, rfl⟩ := zas.mp hy
  obtain ⟨i, hi, e⟩ := zbu.mp hz
  have hiz : s.lays[i]? = some z := by rw [zal hi, e]
  exact ⟨sortL_ne (L.ne z hz), zkh (L.nd z hz) fun p hp => (L.hi i z hiz p hp).2.2⟩
 len := by simpa using hl
 whole := by
  intro x hx
  unfold rowsN
  rw [zj9 _ _ L.nd fun y _ => zdt y, L.run]
  have e0 : (fun x : Nat => [x]) = fun x => ran (id x) x := by funext x; simp [ran]
  have := (zem P fun x => zad _)
  rw [e0, this.2]
  exact (zrh (this.1 x)).mpr (h0 x hx)
noncomputable def FillOk (n : Nat) (B : Nat -> Nat) (A : List Nat) (left : List (Nat × Nat)) : Prop :=
 ∀ B2, (∀ x ∈ A, B2 x = 0) -> (∀ x, x ∉ A -> B2 x = B x) -> ∃ B3, zez B2 left.reverse B3 /\ ∀ x, x < n -> B3 x = 0
structure TurnInv (n t : Nat) (s : PS) (left : List (Nat × Nat)) (active : List Nat) : Prop where
 ex : ∃ js B, Laid n s js /\ zez id js B /\ zje B 0 active /\ FillOk n B active left
 lt : ∀ x ∈ active, x < n
 llt : ∀ p ∈ left, p.1 < n /\ p.2 < n
 len : active.length + left.length <= n
 lay : s.lays.length <= t
theorem zm0 : ∀ (k s : Nat), zje id s (List.range' s k)
 | 0, _ => trivial
 | k + 1, s => ⟨rfl, zad _, zm0 k (s + 1)⟩
theorem TurnInv.init (n : Nat) : TurnInv n 0 (PS.init n) [] (List.range n) where
 ex := ⟨[], id, Laid.init n, rfl, by rw [List.range_eq_range']; exact zm0 n 0, fun B2 h _ => ⟨B2, rfl, fun x hx => h x (by simpa using hx)⟩⟩
 lt := by simp
 llt := by simp
 len := by simp
 lay := by simp [PS.init]
theorem TurnInv.thin {n t : Nat} {s : PS} {left : List (Nat × Nat)} {active : List Nat} (I : TurnInv n t s left active) (cond : Nat -> Bool) :
  TurnInv n (t + 1) (s.puts (thin cond 0 0 active).1) (left ++ (Bn.thin cond 0 0 active).2.1) (Bn.thin cond 0 0 active).2.2 /\ ∀ p ∈ (Bn.thin cond 0 0 active).1, p.1 < p.2 /\ p.2 < n := by
 obtain ⟨js, B, L, P, C, F⟩ := I.ex
 obtain ⟨B1, T⟩ := zlw cond 0 0 active B C
 generalize Bn.thin cond 0 0 active = th at T
 have hb := (zem P fun x => zad _).1
 have hlt : ∀ p ∈ th.1, p.1 < p.2 /\ p.2 < n := fun p hp => ⟨zgp T.plays hb p hp, I.lt _ (T.mem p hp).2⟩
 refine ⟨⟨⟨js ++ th.1, B1, L.puts hlt, P.append T.plays, T.chain, ?_⟩, fun x hx => I.lt x (T.sub x hx), ?_, ?_, ?_⟩, hlt⟩
 ·intro B2 h0 h1
  obtain ⟨B3, P3, Z3, S3⟩ := T.fill B2 h0 (fun x _ hx => h1 x hx) (.inl rfl)
  obtain ⟨B4, P4, Z4⟩ := F B3 Z3 fun x hx => by rw [S3 x hx, h1 x fun h => hx (T.sub x h), T.same x hx]
  exact ⟨B4, by rw [List.reverse_append]; exact P3.append P4, Z4⟩
 ·intro p hp
  rcases zaq.mp hp with hp | hp
  ·exact I.llt p hp
  ·have := T.lmem p hp
   exact ⟨I.lt _ (this.1.resolve_right (by exact Ar.ar0 [_] [] 4679524742594560 (Y8 (Y2 (Y0 V0 J1) J0) J0))), I.lt _ this.2⟩
 ·have := I.len; have := T.len; simp; exact Ar.ar3 [_,_,_,_,_,_] [] 0xa5294001840000c20180610040308040 (Y0 (Y0 V0 (Y0 V1 V2)) V3) (Y2 (Y0 V0 V4) V5) (Y0 V2 V4) (Y0 (Y0 V5 V1) V3) this.1 this.2 (by assumption)
 ·have := L.batch hlt (T.batch [] [] (by simp) (by simp))
  have := I.lay
  exact Ar.ar2 [_,_,_] [] 0x294a000c20000610080308020 (Y0 V0 (Y0 V1 J1)) (Y0 V2 V1) (Y0 V0 (Y0 V2 J1)) this (by assumption)
structure GInv (n M : Nat) (s : PS) (left : List (Nat × Nat)) (gs : List (List Nat)) : Prop where
 ex : ∃ js B, Laid n s js /\ zez id js B /\ zfl B 0 gs /\ FillOk n B gs.flatten left
 lt : ∀ g ∈ gs, ∀ x ∈ g, x < n
 llt : ∀ p ∈ left, p.1 < n /\ p.2 < n
 lay : s.lays.length + gs.length + left.length <= M
theorem GInv.of {n t : Nat} {s : PS} {left : List (Nat × Nat)} {active : List Nat} (I : TurnInv n t s left active) : GInv n (n + t) s left (active.map fun x => [x]) := by
 obtain ⟨js, B, L, P, C, F⟩ := I.ex
 refine ⟨⟨js, B, L, P, zfl.of C, ?_⟩, ?_, I.llt, ?_⟩
 ·have : ∀ l : List Nat, (l.map fun x => [x]).flatten = l := by intro l; induction l <;> simp_all
  rw [this]; exact F
 ·intro g hg x hx
  obtain ⟨y, hy, rfl⟩ := zas.mp hg
  rw [zai.mp hx]; exact I.lt y hy
 ·have := I.len; have := I.lay; simp; exact Ar.ar2 [_,_,_,_,_] [] 0x294a000c20000610080308020 (Y0 (Y0 (Y0 V0 V1) V2) (Y0 V3 V4)) (Y0 V0 V4) (Y0 (Y0 V1 V2) V3) this (by assumption)
theorem GInv.merge {n M : Nat} {s : PS} {left : List (Nat × Nat)} {pre post : List (List Nat)} {a b : List Nat} (I : GInv n M s left (pre ++ a :: b :: post)) :
  ∃ m, a.getLast? = some m /\ GInv n M (s.puts (b.map fun y => (m, y))) left (pre ++ (a ++ b) :: post) /\ (∀ p ∈ b.map (fun y => (m, y)), p.1 < p.2 /\ p.2 < n) := by
 obtain ⟨js, B, L, P, C, F⟩ := I.ex
 obtain ⟨m, h1, h2, h3, B', h4, h5, h6⟩ := zmn C
 have hb := (zem P fun x => zad _).1
 have hlt : ∀ p ∈ b.map (fun y => (m, y)), p.1 < p.2 /\ p.2 < n := fun p hp => ⟨zgp h4 hb p hp, by
  obtain ⟨y, hy, rfl⟩ := zas.mp hp
  exact I.lt b (by simp) y hy⟩
 refine ⟨m, h1, ⟨⟨js ++ _, B', L.puts hlt, P.append h4, h5, ?_⟩, ?_, I.llt, ?_⟩, hlt⟩
 ·have e : (pre ++ (a ++ b) :: post).flatten = (pre ++ a :: b :: post).flatten := by simp
  rw [e]
  intro B2 z0 z1
  refine F B2 z0 fun x hx => ?_
  rw [z1 x hx, h6 x fun hb => hx ?_]
  simp [hb]
 ·intro g hg x hx
  simp only [zaq, zak] at hg
  rcases hg with hg | rfl | hg
  ·exact I.lt g (by simp [hg]) x hx
  ·rcases zaq.mp hx with hx | hx
   ·exact I.lt a (by simp) x hx
   ·exact I.lt b (by simp) x hx
  ·exact I.lt g (by simp [hg]) x hx
 ·have := L.batch hlt (zhi h3 h2 (by simp) (by simp))
  have := I.lay
  simp only [zan, zbg] at *
  exact Ar.ar2 [_,_,_,_,_,_] [] 0x294a000c20000610080308020 (Y0 (Y0 (Y0 V0 (Y0 V1 (Y0 V2 J1))) V3) V4) (Y0 (Y0 (Y0 V5 (Y0 V1 (Y0 (Y0 V2 J1) J1))) V3) V4) (Y0 V0 (Y0 V5 J1)) this (by assumption)
theorem GInv.fin {n M : Nat} {s : PS} {left : List (Nat × Nat)} {gs : List (List Nat)} (I : GInv n M s left gs) (h1 : gs.length <= 1) (hM : M <= n + 3) :
  Told n ((s.puts left.reverse).lays.map zfz) /\ (∃ js, Laid n s js) /\ (∀ p ∈ left.reverse, p.1 < p.2 /\ p.2 < n) := by
 obtain ⟨js, B, L, P, C, F⟩ := I.ex
 have hz : ∀ x ∈ gs.flatten, B x = 0 := by
  cases gs with
  | nil => exact fun x hx => nomatch hx
  | cons g r =>
   obtain rfl : r = [] := zbm.mp (Nat.le_zero.mp (Nat.le_of_succ_le_succ h1))
   exact fun x hx => (C.1 x (by simpa using hx)).1
 obtain ⟨B3, P3, Z3⟩ := F B hz fun _ _ => rfl
 have hb := (zem P fun x => zad _).1
 have hlt : ∀ p ∈ left.reverse, p.1 < p.2 /\ p.2 < n := fun p hp => ⟨zgp P3 hb p hp, (I.llt p (by simpa using hp)).2⟩
 refine ⟨told_of (L.puts hlt) (P.append P3) Z3 ?_, ⟨js, L⟩, hlt⟩
 have := zen L hlt
 have := I.lay
 simp at *
 exact Ar.ar3 [_,_,_,_,_,_] [] 0xa5294001840000c200806100c0308040 (Y0 V0 (Y0 V1 (.l 3))) (Y0 V2 (Y0 V1 (.l 3))) (Y0 V0 (Y0 V3 V4)) (Y0 (Y0 (Y0 V3 V5) V4) V2) hM this (by assumption)
end Bn
namespace Bn
end Bn
namespace Bn
end Bn
namespace Bn
end Bn
namespace Bn
end Bn
namespace Bn
end Bn
namespace Bn
end Bn
namespace Bn
end Bn
namespace Bn
end Bn
namespace Bn
end Bn
namespace Bn
open PySem
theorem zns {ok : Hp -> Prop} {body : V -> Loc -> SPost -> Hp -> Prop} {Q : SPost} (I : Nat -> Loc -> Hp -> Prop) {items : List V}
  (step : ∀ i x l H (K : SPost), items[i]? = some x -> I i l H -> (∀ l' H', ok H' -> I (i + 1) l' H' -> K .next l' H') -> (∀ v l' H', Q (.ret v) l' H' -> K (.ret v) l' H') -> body x l K H)
  (hend : ∀ l H, I items.length l H -> Q .next l H) {l : Loc} {H : Hp} (h0 : I 0 l H) : zja ok body items Q l H := by
 have key : ∀ (n i : Nat), n + i = items.length -> ∀ l H, I i l H -> zja ok body (items.drop i) Q l H := by
  intro n
  induction n with
  | zero =>
   intro i hi l H hI
   have : i = items.length := by exact Ar.ar1 [_,_] [] 0x6294001840200c20000a5000810080308000 (Y2 V0 V1) (Y2 (Y0 J0 V0) V1) hi
   subst this
   rw [List.drop_length]
   exact hend l H hI
  | succ n ih =>
   intro i hi l H hI
   have hlt : i < items.length := by exact Ar.ar1 [_,_,_] [] 0xa5000610000308020 (Y1 V0 V1) (Y2 (Y0 (Y0 V2 J1) V0) V1) hi
   rw [zbx hlt]
   refine step i _ l H _ (zal hlt) hI (fun l' H' hok hI' => ⟨hok, ih (i + 1) (by exact Ar.ar1 [_,_,_] [] 0x6294001840200c20000a5000810080308000 (Y2 (Y0 V0 (Y0 V1 J1)) V2) (Y2 (Y0 (Y0 V0 J1) V1) V2) hi) l' H' hI'⟩) fun v l' H' hq => hq
 exact key items.length 0 rfl l H h0
theorem ze3 {σ : Type} {ok : Hp -> Prop} {f : V -> σ -> (σ -> Hp -> Prop) -> Hp -> Prop} {Q : σ -> Hp -> Prop} (I : Nat -> σ -> Hp -> Prop) {items : List V}
  (step : ∀ i x a H (K : σ -> Hp -> Prop), items[i]? = some x -> I i a H -> (∀ a' H', ok H' -> I (i + 1) a' H' -> K a' H') -> f x a K H)
  (hend : ∀ a H, I items.length a H -> Q a H) {a : σ} {H : Hp} (h0 : I 0 a H) : zd0 ok f items a Q H := by
 have key : ∀ (n i : Nat), n + i = items.length -> ∀ a H, I i a H -> zd0 ok f (items.drop i) a Q H := by
  intro n
  induction n with
  | zero =>
   intro i hi a H hI
   have : i = items.length := by exact Ar.ar1 [_,_] [] 0x6294001840200c20000a5000810080308000 (Y2 V0 V1) (Y2 (Y0 J0 V0) V1) hi
   subst this
   rw [List.drop_length]
   exact hend a H hI
  | succ n ih =>
   intro i hi a H hI
   have hlt : i < items.length := by exact Ar.ar1 [_,_,_] [] 0xa5000610000308020 (Y1 V0 V1) (Y2 (Y0 (Y0 V2 J1) V0) V1) hi
   rw [zbx hlt]
   exact step i _ a H _ (zal hlt) hI fun a' H' hok hI' => ⟨hok, ih (i + 1) (by exact Ar.ar1 [_,_,_] [] 0x6294001840200c20000a5000810080308000 (Y2 (Y0 V0 (Y0 V1 J1)) V2) (Y2 (Y0 (Y0 V0 J1) V1) V2) hi) a' H' hI'⟩
 exact key items.length 0 rfl a H h0
theorem zet {α : Type} {g : α -> V} {ok : Hp -> Prop} {body : V -> Loc -> SPost -> Hp -> Prop} {Q : SPost} (I : List α -> Loc -> Hp -> Prop)
  (step : ∀ x r l H (K : SPost), I (x :: r) l H -> (∀ l' H', ok H' -> I r l' H' -> K .next l' H') -> (∀ v l' H', Q (.ret v) l' H' -> K (.ret v) l' H') -> body (g x) l K H)
  (hend : ∀ l H, I [] l H -> Q .next l H) : ∀ {xs : List α} {l : Loc} {H : Hp}, I xs l H -> zja ok body (xs.map g) Q l H
 | [], l, H, h => hend l H h
 | x :: r, l, H, h => step x r l H _ h (fun _ _ hok hI => ⟨hok, zet I step hend hI⟩) fun _ _ _ hq => hq
def Has (c : Cx) (f : String) (np n : Nat) (xs : List St) : Prop :=
 ∀ q d vs Q E H, vs.length = np -> wpSs (Calls c) q d none xs (EndQ Q) (EndX E) (vs.map some ++ List.replicate (n - np) none) H -> Calls c q (d + 1) (Str.ofString f) vs none Q E H
theorem has_of {c : Cx} {T : Tab} (O : c.Ok) (TO : TabOk c T) {e : PyProof.Rows.DefItem} (hat : DefAt c e) {fuel r : Nat} {xs : List St} (he : eFun T fuel r e = some xs) {f : String} (hf : e.name = Str.ofString f) {np n : Nat} (hnp : e.params.args.length = np) (hn : (slots e.scope.names).length + r = n) : Has c f np n xs := by
 intro q d vs Q E H hl hw
 rw [<- hf]
 refine zqg O TO hat he (by rw [hl, hnp]) ?_
 rw [hn, hl]; exact hw
section
variable {C : CallT} {q : Bool} {d : Nat} {k : Clo} {l : Loc} {H : Hp}
theorem E_lit {v : V} {Q E} : wpE C q d k (.lit v) l Q E H = Q v H := rfl
theorem E_var {i : Nat} {Q E} : wpE C q d k (.var i) l Q E H = Opt (l.getD i none) fun v => Q v H := rfl
theorem E_tup {es : List Ex} {Q E} : wpE C q d k (.tup es) l Q E H = wpL C q d k es l (fun vs H => Q (.tup vs) H) E H := rfl
theorem E_list {es : List Ex} {Q E} : wpE C q d k (.list es) l Q E H = wpL C q d k es l (fun vs H => Q (.lst H.length) (H ++ [vs])) E H := rfl
theorem E_bin {op : Op} {a b : Ex} {Q E} : wpE C q d k (.bin op a b) l Q E H = wpE C q d k a l (fun x H => wpE C q d k b l (fun y H => Opt (binV H op x y) fun p => Q p.1 p.2) E H) E H := rfl
theorem E_neg {a : Ex} {Q E} : wpE C q d k (.neg a) l Q E H = wpE C q d k a l (fun x H => Opt (zgm x) fun i => Q (.int (-i)) H) E H := rfl
theorem E_not {a : Ex} {Q E} : wpE C q d k (.not a) l Q E H = wpE C q d k a l (zc5 fun b H => Q (.bool !b) H) E H := rfl
theorem E_cmp {a : Ex} {os : List Cm} {bs : List Ex} {Q E} : wpE C q d k (.cmp a os bs) l Q E H = wpE C q d k a l (fun x H => wpC C q d k x os bs l (fun b H => Q (.bool b) H) E H) E H := rfl
theorem E_and {es : List Ex} {Q E} : wpE C q d k (.and es) l Q E H = zoa C q d k es l (fun b H => Q (.bool b) H) E H := rfl
theorem E_or {es : List Ex} {Q E} : wpE C q d k (.or es) l Q E H = wpOr C q d k es l (fun b H => Q (.bool b) H) E H := rfl
theorem E_idx {a b : Ex} {Q E} : wpE C q d k (.idx a b) l Q E H = wpE C q d k a l (fun x H => wpE C q d k b l (fun y H => Opt (idxV H x y) fun v => Q v H) E H) E H := rfl
theorem E_slice {a b c : Ex} {Q E} : wpE C q d k (.slice a b c) l Q E H = wpE C q d k a l (fun x H => wpE C q d k b l (fun y H => wpE C q d k c l (fun z H => Opt (zjm H x y z) fun p => Q p.1 p.2) E H) E H) E H := rfl
theorem E_rev {a : Ex} {Q E} : wpE C q d k (.rev a) l Q E H = wpE C q d k a l (fun x H => Opt (revV H x) fun p => Q p.1 p.2) E H := rfl
theorem E_call {f : Str} {es : List Ex} {Q E} : wpE C q d k (.call f es) l Q E H = wpL C q d k es l (fun vs H => C q d f vs none Q E H) E H := rfl
theorem E_blt {b : Bl} {es : List Ex} {Q E} : wpE C q d k (.blt b es) l Q E H = wpL C q d k es l (fun vs H => Opt (onQ q (bltV H b vs)) fun p => Q p.1 p.2) E H := rfl
theorem E_meth {m : Me} {o : Ex} {es : List Ex} {Q E} : wpE C q d k (.meth m o es) l Q E H = wpE C q d k o l (fun x H => zpu m x = true /\ wpL C q d k es l (fun vs H => Opt (zoe H m x vs) fun p => Q p.1 p.2) E H) E H := rfl
theorem E_isi {a : Ex} {t : Tc} {Q E} : wpE C q d k (.isi a t) l Q E H = wpE C q d k a l (fun x H => Opt (isiV x t) fun b => Q (.bool b) H) E H := rfl
theorem E_attr {a : Ex} {x : Str} {Q : V -> Hp -> Prop} {E : XPost} : wpE C q d k (.attr a x) l Q E H = wpE C q d k a l (fun v H => Opt (attrV v x) fun w => Q w H) E H := rfl
theorem E_comp {elt src : Ex} {t : Tg} {ifs : List Ex} {Q E} : wpE C q d k (.comp elt t src ifs) l Q E H = wpE C q d k src l (fun sv H => Opt (onQ q (srcV H sv)) fun items => items.length <= sizeLine /\
   zd0 (okV sv items) (zi5 (fun l' Q H => wpI C q d none ifs l' Q H) (fun l' Q H => wpE C q d none elt l' Q noX H) t l) items [] (fun acc H' => Q (.lst H'.length) (H' ++ [acc])) H) E H := rfl
theorem L_nil {Q E} : wpL C q d k [] l Q E H = Q [] H := rfl
theorem L_cons {e : Ex} {es : List Ex} {Q E} : wpL C q d k (e :: es) l Q E H = wpE C q d k e l (fun v H => wpL C q d k es l (fun vs H => Q (v :: vs) H) E H) E H := rfl
theorem A_cons {e : Ex} {es : List Ex} {Q : Bool -> Hp -> Prop} {E} : zoa C q d k (e :: es) l Q E H = wpE C q d k e l (zc5 fun b H => zfc es (Q b H) (zdi b (zoa C q d k es l Q E H) (Q false H))) E H := rfl
theorem O_cons {e : Ex} {es : List Ex} {Q : Bool -> Hp -> Prop} {E} : wpOr C q d k (e :: es) l Q E H = wpE C q d k e l (zc5 fun b H => zfc es (Q b H) (zdi b (Q true H) (wpOr C q d k es l Q E H))) E H := rfl
theorem C_cons {x : V} {o : Cm} {os : List Cm} {e : Ex} {es : List Ex} {Q : Bool -> Hp -> Prop} {E} : wpC C q d k x (o :: os) (e :: es) l Q E H = wpE C q d k e l (fun y H => Opt (cmpV H o x y) fun b => zfc es (Q b H) (zdi b (wpC C q d k y os es l Q E H) (Q false H))) E H := rfl
theorem I_nil {Q : Bool -> Hp -> Prop} : wpI C q d k [] l Q H = Q true H := rfl
theorem I_cons {e : Ex} {es : List Ex} {Q : Bool -> Hp -> Prop} : wpI C q d k (e :: es) l Q H = wpE C q d k e l (zc5 fun b H => zdi b (wpI C q d k es l Q H) (Q false H)) noX H := rfl
theorem Opt_some {α : Type} {a : α} {K : α -> Prop} : Opt (some a) K = K a := rfl
theorem truthP_bool {b : Bool} {Q : Bool -> Hp -> Prop} : zc5 Q (.bool b) H = Q b H := rfl
theorem CondP_true {A B : Prop} : zdi true A B = A := rfl
theorem CondP_false {A B : Prop} : zdi false A B = B := rfl
theorem lastOr_nil {A B : Prop} : zfc [] A B = A := rfl
theorem lastOr_cons {e : Ex} {es : List Ex} {A B : Prop} : zfc (e :: es) A B = B := rfl
theorem asInt_int {i : Int} : zgm (.int i) = some i := rfl
theorem onQ_true {α : Type} {o : Option α} : onQ true o = o := rfl
theorem bin_addi {a b : Int} : binV H .add (.int a) (.int b) = some (.int (a + b), H) := rfl
theorem bin_subi {a b : Int} : binV H .sub (.int a) (.int b) = some (.int (a - b), H) := rfl
theorem cmp_lt {a b : Int} : cmpV H .lt (.int a) (.int b) = some (decide (a < b)) := rfl
theorem cmp_le {a b : Int} : cmpV H .le (.int a) (.int b) = some (decide (a <= b)) := rfl
theorem cmp_gt {a b : Int} : cmpV H .gt (.int a) (.int b) = some (decide (a > b)) := rfl
theorem cmp_ge {a b : Int} : cmpV H .ge (.int a) (.int b) = some (decide (a >= b)) := rfl
theorem cmp_eqi {a b : Int} : cmpV H .eq (.int a) (.int b) = some (decide (a = b)) := rfl
theorem cmp_nei {a b : Int} : cmpV H .ne (.int a) (.int b) = some (!decide (a = b)) := rfl
theorem isi_ii {i : Int} : isiV (.int i) .int = some true := rfl
theorem isi_ib {i : Int} : isiV (.int i) .bool = some false := rfl
theorem isi_bb {b : Bool} : isiV (.bool b) .bool = some true := rfl
theorem isi_tt {l : List V} : isiV (.tup l) .tuple = some true := rfl
theorem isi_ll {a : Nat} : isiV (.lst a) .list = some true := rfl
theorem not_t : (!true) = false := rfl
theorem not_f : (!false) = true := rfl
theorem dec_22 : decide ((2 : Int) = 2) = true := rfl
theorem len_tup {x y : V} : bltV H .len [.tup [x, y]] = some (.int 2, H) := rfl
theorem len_scr {l : List Int} : bltV H .len [.scr l] = some (.int l.length, H) := rfl
theorem idx_t0 {x y : V} : idxV H (.tup [x, y]) (.int 0) = some x := rfl
theorem idx_t1 {x y : V} : idxV H (.tup [x, y]) (.int 1) = some y := rfl
theorem zb6 {p : Prop} [Decidable p] {A B : Prop} (h1 : p -> A) (h2 : ¬ p -> B) : zdi (decide p) A B := by
 by_cases h : p
 ·rw [decide_eq_true h]; exact h1 h
 ·rw [decide_eq_false h]; exact h2 h
theorem Cond_not {p : Prop} [Decidable p] {A B : Prop} (h1 : ¬ p -> A) (h2 : p -> B) : zdi (!decide p) A B := by
 by_cases h : p
 ·rw [decide_eq_true h]; exact h2 h
 ·rw [decide_eq_false h]; exact h1 h
theorem zfq {p : Prop} [Decidable p] {A B : Prop} (h : p) (h1 : A) : zdi (decide p) A B := by rw [decide_eq_true h]; exact h1
theorem zma {p : Prop} [Decidable p] {A B : Prop} (h : ¬ p) (h1 : B) : zdi (decide p) A B := by rw [decide_eq_false h]; exact h1
theorem zrt {b : Bool} {A B : Prop} (h1 : b = true -> A) (h2 : b = false -> B) : zdi b A B := by
 cases b with
 | true => exact h1 rfl
 | false => exact h2 rfl
theorem S_set {i : Nat} {e : Ex} {Q : SPost} {E : SX} : wpS C q d k (.set i e) Q E l H = wpE C q d k e l (fun v H => Q .next (l.set i (some v)) H) (fun x H => E x l H) H := rfl
theorem S_unp {is : List Nat} {e : Ex} {Q : SPost} {E : SX} : wpS C q d k (.unp is e) Q E l H = (q = true /\ wpE C q d k e l (fun v H => Opt (unpV is v l) fun l' => Q .next l' H) (fun x H => E x l H) H) := rfl
theorem S_put {o i e : Ex} {Q : SPost} {E : SX} : wpS C q d k (.put o i e) Q E l H = wpE C q d k e l (fun v H => wpE C q d k o l (fun a H => wpE C q d k i l (fun j H => Opt (putV H a j v) fun H' => Q .next l H') (fun x H => E x l H) H) (fun x H => E x l H) H) (fun x H => E x l H) H := rfl
theorem S_expr {e : Ex} {Q : SPost} {E : SX} : wpS C q d k (.expr e) Q E l H = wpE C q d k e l (fun _ H => Q .next l H) (fun x H => E x l H) H := rfl
theorem S_ret {e : Ex} {Q : SPost} {E : SX} : wpS C q d k (.ret e) Q E l H = wpE C q d k e l (fun v H => Q (.ret v) l H) (fun x H => E x l H) H := rfl
theorem S_ite {t : Ex} {a b : List St} {Q : SPost} {E : SX} : wpS C q d k (.ite t a b) Q E l H = wpE C q d k t l (zc5 fun c H => zdi c (wpSs C q d k a Q E l H) (wpSs C q d k b Q E l H)) (fun x H => E x l H) H := rfl
theorem S_whil {t : Ex} {b : List St} {Q : SPost} {E : SX} : wpS C q d k (.whil t b) Q E l H = (q = true /\ wpWhile (fun l Q H => wpT C q d k t l Q noX H) (fun l Q H => wpSs C q d k b Q (fun _ _ _ => False) l H) l Q H) := rfl
theorem S_rais {cn : Str} {es : List Ex} {Q : SPost} {E : SX} : wpS C q d k (.rais cn es) Q E l H = (q = true /\ wpL C q d k es l (fun vs H => E (.exc cn (atOf cn vs)) l H) noX H) := rfl
theorem S_tri {b : List St} {i : Nat} {h : List St} {Q : SPost} {E : SX} : wpS C q d k (.tri b i h) Q E l H = (q = true /\ wpSs C q d k b Q (fun x l' H => kidX x = true /\ wpSs C false d k h (fun f l'' H => Q f (l''.set i none) H) (fun _ _ _ => False) (l'.set i (some x)) H) l H) := rfl
theorem S_loop {t : Tg} {s : Sr} {b : List St} {Q : SPost} {E : SX} : wpS C q d k (.loop t s b) Q E l H = (q = true /\ wpSr C q d k s l (fun items ok H => zja ok (fun x l Q H => Opt (zfu t x l) fun l' => wpSs C q d k b Q E l' H) items Q l H) (fun x H => E x l H) H) := rfl
theorem T_eq {t : Ex} {Q : Bool -> Hp -> Prop} {E} : wpT C q d k t l Q E H = wpE C q d k t l (zc5 Q) E H := rfl
theorem End_ret {v : V} {Q : V -> Hp -> Prop} : EndQ Q (.ret v) l H = Q v H := rfl
theorem End_next {Q : V -> Hp -> Prop} : EndQ Q .next l H = Q .none H := rfl
theorem Then_ret {N : Loc -> Hp -> Prop} {Q : SPost} {v : V} : Then N Q (.ret v) l H = Q (.ret v) l H := rfl
theorem bind_one {i : Nat} {x : V} : zfu (.one i) x l = some (l.set i (some x)) := rfl
theorem bind_two {i j : Nat} {a b : V} : zfu (.two i j) (.tup [a, b]) l = some ((l.set i (some a)).set j (some b)) := rfl
theorem CompS_eq {I : Loc -> (Bool -> Hp -> Prop) -> Hp -> Prop} {W : Loc -> (V -> Hp -> Prop) -> Hp -> Prop} {t : Tg} {x : V} {acc : List V} {K : List V -> Hp -> Prop} : zi5 I W t l x acc K H = Opt (zfu t x l) fun l' => I l' (fun b H => zdi b (W l' (fun v H => K (acc ++ [v]) H) H) (K acc H)) H := rfl
theorem getD_0 {x : Option V} {r : Loc} : (x :: r).getD 0 none = x := rfl
theorem getD_s {x : Option V} {r : Loc} {i : Nat} : (x :: r).getD (i + 1) none = r.getD i none := rfl
theorem set_0 {x y : Option V} {r : Loc} : List.set (x :: r) 0 y = y :: r := rfl
theorem set_s {x y : Option V} {r : Loc} {i : Nat} : List.set (x :: r) (i + 1) y = x :: List.set r i y := rfl
theorem map_c {x : V} {r : List V} : List.map some (x :: r) = some x :: List.map some r := rfl
theorem map_n : List.map some ([] : List V) = [] := rfl
theorem app_c {x : Option V} {r s : Loc} : (x :: r) ++ s = x :: (r ++ s) := rfl
theorem app_n {s : Loc} : [] ++ s = s := rfl
theorem rep_s {n : Nat} : List.replicate (n + 1) (none : Option V) = none :: List.replicate n none := rfl
theorem rep_n : List.replicate 0 (none : Option V) = [] := rfl
theorem Then_go {N : Loc -> Hp -> Prop} {Q : SPost} (h : N l H) : Then N Q .next l H := h
theorem Ss_go {s : St} {ss : List St} {Q : SPost} {E : SX} (h : wpS C q d k s (Then (wpSs C q d k ss Q E) Q) E l H) : wpSs C q d k (s :: ss) Q E l H := h
theorem Ss_end {Q : SPost} {E : SX} (h : Q .next l H) : wpSs C q d k [] Q E l H := h
theorem zj7 {e : Ex} {items : List V} {Q : List V -> (Hp -> Prop) -> Hp -> Prop} {E} {v : V} (hv : ∀ (K : V -> Hp -> Prop) E', K v H -> wpE C q d k e l K E' H) (h : srcV H v = some items) (hq : Q items (okV v items) H) : wpSr C q d k (.val e) l Q E H := hv _ _ (Opt.mk h hq)
end
end Bn
local macro_rules | `(tactic| walk_at "wpd") => do
 let a := ("Bn.E_lit Bn.E_var Bn.E_tup Bn.E_list Bn.E_bin Bn.E_neg Bn.E_not Bn.E_cmp Bn.E_and Bn.E_or Bn.E_idx Bn.E_slice Bn.E_rev Bn.E_call Bn.E_blt Bn.E_meth Bn.E_isi Bn.E_attr Bn.E_comp Bn.L_nil Bn.L_cons Bn.A_cons Bn.O_cons Bn.C_cons Bn.I_nil Bn.I_cons Bn.Opt_some Bn.truthP_bool Bn.CondP_true Bn.CondP_false Bn.lastOr_nil Bn.lastOr_cons Bn.asInt_int Bn.onQ_true Bn.bin_addi Bn.bin_subi Bn.isi_ii Bn.isi_ib Bn.isi_bb Bn.isi_tt Bn.isi_ll Bn.len_tup Bn.len_scr Bn.idx_t0 Bn.idx_t1 Bn.cmp_lt Bn.cmp_le Bn.cmp_gt Bn.cmp_ge Bn.cmp_eqi Bn.cmp_nei Bn.S_set Bn.S_unp Bn.S_put Bn.S_expr Bn.S_ret Bn.S_ite Bn.S_whil Bn.S_loop Bn.S_rais Bn.S_tri Bn.T_eq Bn.End_ret Bn.End_next Bn.Then_ret Bn.bind_one Bn.bind_two Bn.CompS_eq Bn.getD_0 Bn.getD_s Bn.set_0 Bn.set_s Bn.map_c Bn.map_n Bn.app_c Bn.app_n Bn.rep_s Bn.rep_n Nat.reduceSub Nat.sub_self Bn.not_t Bn.not_f Bn.dec_22".splitOn " ").toArray.map fun s => Lean.mkIdent s.toName
 `(tactic| dsimp only [$[$a:ident],*])
local macro_rules | `(tactic| walk_at "wpg") => `(tactic| first | with_reducible refine Bn.Then_go ?_ | with_reducible refine Bn.Ss_go ?_ | with_reducible refine Bn.Ss_end ?_)
local macro_rules | `(tactic| walk_at "wps") => `(tactic| ((try walk_at "wpd"); (repeat (walk_at "wpg"; (try walk_at "wpd")))))
namespace Bn
open PySem
noncomputable def zdz : List St := [.ret (.and [(.isi (.var 0) .int), (.not (.isi (.var 0) .bool)), (.cmp (.var 1) [.le, .le] [(.var 0), (.var 2)])])]
noncomputable def zfy : List St := [.ite (.or [(.not (.isi (.var 0) .tuple)), (.cmp (.blt .len [(.var 0)]) [.ne] [(.lit (.int 2))])]) [.ret (.lit (.bool false))] [], .ite (.or [(.not (.call "is_among" [(.idx (.var 0) (.lit (.int 0))), (.lit (.int 0)), (.bin .sub (.var 1) (.lit (.int 1)))])), (.not (.call "is_among" [(.idx (.var 0) (.lit (.int 1))), (.lit (.int 0)), (.bin .sub (.var 1) (.lit (.int 1)))]))]) [.ret (.lit (.bool false))] [], .ret (.cmp (.idx (.var 0) (.lit (.int 0))) [.lt] [(.idx (.var 0) (.lit (.int 1)))])]
noncomputable def zh7 : List St := [.ite (.or [(.not (.isi (.var 0) .list)), (.not (.cmp (.lit (.int 1)) [.le, .le] [(.blt .len [(.var 0)]), (.lit (.int 63))]))]) [.ret (.lit (.bool false))] [], .set 2 (.neg (.lit (.int 1))), .loop (.one 3) (.val (.var 0)) [.ite (.or [(.not (.call "is_joint" [(.var 3), (.var 1)])), (.cmp (.idx (.var 3) (.lit (.int 1))) [.le] [(.var 2)])]) [.ret (.lit (.bool false))] [], .set 2 (.idx (.var 3) (.lit (.int 1)))], .ret (.lit (.bool true))]
noncomputable def p_rows : List St := [.expr (.call "need_net" [(.var 0), (.var 1)]), .set 2 (.comp (.list [(.var 7)]) (.one 7) (.blt .range [(.var 0)]) []), .loop (.one 3) (.val (.var 1)) [.set 4 (.blt .list [(.var 2)]), .loop (.two 5 6) (.val (.var 3)) [.put (.var 4) (.var 6) (.bin .add (.idx (.var 2) (.var 5)) (.idx (.var 2) (.var 6)))], .set 2 (.var 4)], .ret (.comp (.blt .list [(.var 7)]) (.one 7) (.var 2) [])]
noncomputable def p_tells : List St := [.expr (.call "need_net" [(.var 0), (.var 1)]), .ret (.call "does_tell" [(.var 0), (.var 1)])]
noncomputable def zev : List St := [.ite (.cmp (.var 1) [.lt] [(.blt .len [(.var 0)])]) [.ret (.idx (.var 0) (.var 1))] [], .ret (.lit (.int 0))]
noncomputable def zgj : List St := [.ret (.and [(.isi (.var 0) .int), (.not (.isi (.var 0) .bool))])]
noncomputable def zca : List St := [.set 5 (.blt .max [(.idx (.var 3) (.var 1)), (.idx (.var 3) (.var 2)), (.idx (.var 4) (.var 2))]), .whil (.cmp (.blt .len [(.var 0)]) [.le] [(.var 5)]) [.expr (.meth .append (.var 0) [(.list [])])], .expr (.meth .append (.idx (.var 0) (.var 5)) [(.tup [(.var 2), (.var 1)])]), .put (.var 4) (.var 1) (.blt .max [(.idx (.var 4) (.var 1)), (.var 5)]), .put (.var 3) (.var 2) (.bin .add (.var 5) (.lit (.int 1)))]
noncomputable def zc3 : List St := [.set 6 (.list []), .set 7 (.lit (.int 0)), .whil (.cmp (.var 7) [.lt] [(.blt .len [(.var 1)])]) [.ite (.and [(.cmp (.bin .add (.var 7) (.lit (.int 1))) [.lt] [(.blt .len [(.var 1)])]), (.cmp (.bin .mod (.bin .div (.var 2) (.bin .add (.lit (.int 1)) (.var 7))) (.lit (.int 4))) [.gt] [(.lit (.int 0))])]) [.expr (.call "_law_place" [(.var 0), (.idx (.var 1) (.var 7)), (.idx (.var 1) (.bin .add (.var 7) (.lit (.int 1)))), (.var 3), (.var 4)]), .ite (.cmp (.var 6) [.ne] [(.list [])]) [.expr (.meth .append (.var 5) [(.tup [(.idx (.var 6) (.neg (.lit (.int 1)))), (.idx (.var 1) (.var 7))])])] [], .set 7 (.bin .add (.var 7) (.lit (.int 1)))] [], .expr (.meth .append (.var 6) [(.idx (.var 1) (.var 7))]), .set 7 (.bin .add (.var 7) (.lit (.int 1)))], .ret (.var 6)]
noncomputable def zdp : List St := [.set 0 (.bin .mod (.bin .mul (.var 0) (.lit (.int 48271))) (.lit (.int 2147483647))), .set 2 (.list []), .set 3 (.list []), .set 4 (.bin .mul (.list [(.lit (.int 0))]) (.var 1)), .set 5 (.bin .mul (.list [(.lit (.int 0))]) (.var 1)), .set 6 (.blt .list [(.blt .range [(.var 1)])]), .loop (.one 7) (.val (.blt .range [(.bin .mod (.var 0) (.lit (.int 4)))])) [.set 6 (.call "_law_thinner" [(.var 2), (.var 6), (.bin .div (.bin .div (.var 0) (.lit (.int 4))) (.bin .add (.lit (.int 1)) (.var 7))), (.var 4), (.var 5), (.var 3)])], .set 8 (.comp (.list [(.var 13)]) (.one 13) (.var 6) []), .whil (.cmp (.blt .len [(.var 8)]) [.gt] [(.lit (.int 1))]) [.set 0 (.bin .mod (.bin .mul (.var 0) (.lit (.int 16807))) (.lit (.int 2147483647))), .set 9 (.idx (.list [(.bin .mod (.bin .div (.var 0) (.lit (.int 3))) (.bin .sub (.blt .len [(.var 8)]) (.lit (.int 1)))), (.lit (.int 0)), (.bin .sub (.blt .len [(.var 8)]) (.lit (.int 2)))]) (.bin .mod (.var 0) (.lit (.int 3)))), .loop (.one 10) (.val (.idx (.var 8) (.bin .add (.var 9) (.lit (.int 1))))) [.expr (.call "_law_place" [(.var 2), (.idx (.idx (.var 8) (.var 9)) (.neg (.lit (.int 1)))), (.var 10), (.var 4), (.var 5)])], .set 11 (.bin .add (.idx (.var 8) (.var 9)) (.idx (.var 8) (.bin .add (.var 9) (.lit (.int 1))))), .set 8 (.bin .add (.bin .add (.slice (.var 8) (.lit .none) (.var 9)) (.list [(.var 11)])) (.slice (.var 8) (.bin .add (.var 9) (.lit (.int 2))) (.lit .none)))], .loop (.two 12 10) (.rev (.var 3)) [.expr (.call "_law_place" [(.var 2), (.var 12), (.var 10), (.var 4), (.var 5)])], .ret (.comp (.comp (.tup [(.var 15), (.var 14)]) (.two 14 15) (.blt .sorted [(.var 13)]) []) (.one 13) (.var 2) [])]
noncomputable def zec : List St := [.set 1 (.bin .add (.lit (.int 1)) (.bin .mod (.var 0) (.lit (.int 12)))), .ite (.cmp (.bin .mod (.bin .div (.var 0) (.lit (.int 12))) (.lit (.int 9))) [.eq] [(.lit (.int 1))]) [.set 1 (.bin .add (.lit (.int 13)) (.bin .mod (.bin .div (.var 0) (.lit (.int 108))) (.lit (.int 20))))] [], .ret (.var 1)]
section
variable {c : Cx} {q : Bool} {d : Nat} {Q : V -> Hp -> Prop} {E : XPost} {H : Hp}
theorem zf6 (P : Has c "is_among" 3 3 zdz) {v lo hi : Int} (h1 : lo <= v) (h2 : v <= hi) (hq : Q (.bool true) H) : Calls c q (d + 1) "is_among" [.int v, .int lo, .int hi] none Q E H := by
 refine P q d _ Q E H rfl (Ss_go ?_)
 walk_at "wps"
 refine zfq h1 ?_
 walk_at "wps"
 rw [decide_eq_true h2]
 exact hq
theorem zgb (P1 : Has c "is_among" 3 3 zdz) (P : Has c "is_joint" 2 2 zfy) {l h : Nat} {n : Int} (h1 : l < h) (h2 : h < n) (hc : q = true) (hq : Q (.bool true) H) : Calls c q (d + 2) "is_joint" [.tup [.int l, .int h], .int n] none Q E H := by
 subst hc
 have h3 : (l : Int) < h := zam.mpr h1
 refine P true (d + 1) _ Q E H rfl (Ss_go ?_)
 walk_at "wps"
 refine zf6 P1 (zbe l) (Int.le_sub_one_of_lt (Int.lt_trans h3 h2)) ?_
 walk_at "wps"
 refine zf6 P1 (zbe h) (Int.le_sub_one_of_lt h2) ?_
 walk_at "wps"
 rw [decide_eq_true h3]
 exact hq
end
noncomputable def pr (p : Nat × Nat) : V := .tup [.int p.1, .int p.2]
inductive LayerInv (a n : Nat) (H : Hp) : List (Nat × Nat) -> Loc -> Hp -> Prop
 | mk (r : List (Nat × Nat)) (last : Int) (lo : Nat) (z : Option V) (hr : zh6 n lo r) (hl : ∀ h : Nat, lo <= h -> last < h) : LayerInv a n H r [some (.lst a), some (.int n), some (.int last), z] H
section
variable {c : Cx} {q : Bool} {d : Nat} {Q : V -> Hp -> Prop} {E : XPost} {H : Hp}
theorem zci {a : Nat} {xs : List V} (h : H[a]? = some xs) : onQ true (bltV H .len [.lst a]) = some (.int xs.length, H) := by
 show (H[a]?).map _ = _
 rw [h]; rfl
theorem zh0 (P1 : Has c "is_among" 3 3 zdz) (P2 : Has c "is_joint" 2 2 zfy) (P : Has c "is_layer" 2 4 zh7) {a n : Nat} {layer : List (Nat × Nat)} (ha : H[a]? = some (layer.map pr)) (hn : n <= 64) (hok : zd3 n layer) (hc : q = true) (hq : Q (.bool true) H) : Calls c q (d + 3) "is_layer" [.lst a, .int n] none Q E H := by
 subst hc
 refine P true (d + 2) _ Q E H rfl (Ss_go ?_)
 walk_at "wps"
 refine Opt.mk (zci ha) ?_
 rw [zaf]
 walk_at "wps"
 have hl := zgc hok.2 hok.1
 refine zfq (za6.mpr (Nat.pos_of_ne_zero fun h => hok.1 (List.eq_nil_of_length_eq_zero h))) ?_
 walk_at "wps"
 rw [decide_eq_true (show (layer.length : Int) <= 63 by exact Ar.ar2 [_,_] [] 0x8294a000c200806100803080002800308000 (Y3 (Y4 V0 J0) (.l 63)) (Y0 V1 (.l 64)) (Y7 (Y1 J0 J0) (Y1 V0 V1)) hn hl.2)]
 walk_at "wps"
 refine ⟨rfl, zj7 (v := .lst a) (fun K E' h => h) ha ?_⟩
 refine zet (LayerInv a n H) ?_ ?_ (.mk _ _ 0 _ hok.2 fun h _ => Int.lt_of_lt_of_le (by decide) (zbe h))
 ·rintro x r l H' K hI hnext hret
  obtain ⟨last, lo, z, hr, hl⟩ := hI
  obtain ⟨h1, h2, h3, h4⟩ := hr
  refine Opt.mk rfl (Ss_go ?_)
  walk_at "wps"
  refine zgb P1 P2 h1 (zam.mpr h2) rfl ?_
  walk_at "wps"
  refine zma (fun q => Int.not_lt.mpr q (hl _ h3)) ?_
  walk_at "wps"
  exact hnext _ _ ha (.mk _ _ _ _ h4 fun h hh => zam.mpr hh)
 ·rintro l H' ⟨⟩
  walk_at "wps"
  exact hq
end
end Bn
namespace Bn
open PySem
structure NetAt (H : Hp) (a : Nat) (bs : List Nat) (net : Net) : Prop where
 top : H[a]? = some (bs.map .lst)
 len : bs.length = net.length
 lay : ∀ (i b : Nat) (layer : List (Nat × Nat)), bs[i]? = some b -> net[i]? = some layer -> H[b]? = some (layer.map pr)
theorem NetAt.each {H : Hp} {a : Nat} {bs : List Nat} {net : Net} (h : NetAt H a bs net) {b : Nat} (hb : b ∈ bs) : ∃ layer ∈ net, H[b]? = some (layer.map pr) := by
 obtain ⟨i, hi, e⟩ := zbu.mp hb
 have hi' : i < net.length := h.len ▸ hi
 exact ⟨_, List.getElem_mem hi', h.lay i b _ (e ▸ zal hi) (zal hi')⟩
section
variable {c : Cx} {q : Bool} {d : Nat} {Q : V -> Hp -> Prop} {E : XPost} {H : Hp} {C : CallT} {k : Clo} {l : Loc}
theorem zmu {a : Nat} {items : List V} (h : H[a]? = some items) : lstV H (.lst a) = some items := h
theorem zpi {e : Ex} {a : Nat} {items : List V} {Q : List V -> (Hp -> Prop) -> Hp -> Prop} {E} (hv : ∀ (K : V -> Hp -> Prop) E', K (.lst a) H -> wpE C q d k e l K E' H) (h : H[a]? = some items) (hq : Q (zde 0 items) (okV (.lst a) items) H) : wpSr C q d k (.enum e) l Q E H := hv _ _ (Opt.mk (zmu h) hq)
theorem Sr_rev {e : Ex} {a : Nat} {items : List V} {Q : List V -> (Hp -> Prop) -> Hp -> Prop} {E} (hv : ∀ (K : V -> Hp -> Prop) E', K (.lst a) H -> wpE C q d k e l K E' H) (h : H[a]? = some items) (hq : Q items.reverse (okV (.lst a) items) H) : wpSr C q d k (.rev e) l Q E H := hv _ _ (Opt.mk (zmu h) hq)
end
end Bn
namespace Bn
open PySem PyProof.Rows
noncomputable def zfp : List (Str × Gk) := [("len", .blt .len), ("max", .blt .max), ("min", .blt .min), ("range", .blt .range), ("list", .blt .list), ("all", .blt .all),
 ("tuple", .blt .tuple),
 ("sum", .blt .sum),
 ("sorted", .blt .sorted),
 ("enumerate", .enum),
 ("reversed", .rev),
 ("isinstance", .isi)]
noncomputable def zmr : List (Str × Tc) := [("int", .int), ("bool", .bool), ("list", .list),
 ("str", .str),
 ("tuple", .tuple)]
noncomputable def ownT : List (Str × Tc) := (kids.map fun k => (k, Tc.own k)) ++ [(Str.ofString "ValueError", Tc.own (Str.ofString "ValueError"))]
noncomputable def mkTab (fs : List Str) (vals : List (Str × V)) : Tab := ⟨fs.map (fun f => (f, Gk.fn)) ++ vals.map (fun p => (p.1, Gk.val p.2)) ++ zfp, zmr ++ ownT⟩
theorem own_ty {c : Cx} {x : Str} {t : Tc} (h : (x, t) ∈ ownT) : TyAt c x t := by
 rcases zaq.mp h with h | h
 ·obtain ⟨k, hk, e⟩ := zas.mp h
  obtain ⟨e1, e2⟩ := Prod.mk.inj e
  subst e1 e2
  exact .own rfl (.inl hk)
 ·obtain ⟨e1, e2⟩ := Prod.mk.inj (zai.mp h)
  subst e1 e2
  exact .own rfl (.inr rfl)
noncomputable def freeB (p : Program) (loose : List Str) (x : Str) : Bool := !(startupNames.contains x) && !(loose.contains x) && !(((recsOf p).map (·.name)).contains x) && !(((litsOf p).map (·.1)).contains x) && !(((clssOf p loose).map (·.name)).contains x)
noncomputable def pdInt : PyData -> Option Int
 | .int i => some i
 | _ => none
noncomputable def valI (p : Program) (x : Str) (v : V) : Option Unit := (zgm v).bind fun j => (valOf p x).bind fun w => (pdInt w).bind fun i => if i = j then some () else none
noncomputable def pdStr : PyData -> Option Str
 | .str i => some i
 | _ => none
noncomputable def valS (p : Program) (x : Str) (v : V) : Option Unit := (zo6 v).bind fun j => (valOf p x).bind fun w => (pdStr w).bind fun i => if i = j then some () else none
noncomputable def valT (p : Program) (x : Str) (v : V) : Option Unit := (zna v).bind fun l => (zny l).bind fun ss => (tupStrsOf p x).bind fun ts => if ts = ss then some () else none
noncomputable def valB (p : Program) (x : Str) (v : V) : Bool := (valI p x v).isSome || ((valS p x v).isSome || (valT p x v).isSome)
noncomputable def meanG : Gk -> Option Value
 | .blt b => some b.real
 | .isi => some (.builtin "isinstance")
 | .enum => some (.type "enumerate")
 | .rev => some (.type "reversed")
 | _ => none
inductive Boot (p : Str × Gk) : Prop
 | mk (h1 : p.1 ≠ "__name__") (h2 : bootBuiltins p.1 = meanG p.2) (h3 : p.2 = .isi -> p.1 = Str.ofString "isinstance") (h4 : ∀ v, p.2 ≠ .val v) (h5 : p.2 ≠ .fn) : Boot p
inductive BootT (p : Str × Tc) : Prop
 | mk (S : String) (h1 : p.1 ≠ "__name__") (h2 : p.2.real = some S) (h3 : p.1 = Str.ofString S) (h4 : bootBuiltins p.1 = some (.type S)) : BootT p
theorem zrb {α : Type} {P : α -> Prop} : ∀ p ∈ ([] : List α), P p := fun _ h => nomatch h
theorem all_cons {α : Type} {P : α -> Prop} {x : α} {l : List α} (h : P x) (t : ∀ p ∈ l, P p) : ∀ p ∈ x :: l, P p := zau.mpr ⟨h, t⟩
theorem boot_blt {x : Str} {b : Bl} (h1 : x ≠ "__name__") (h2 : bootBuiltins x = some b.real) : Boot (x, .blt b) := ⟨h1, h2, (fun h => nomatch h), (fun _ h => nomatch h), (fun h => nomatch h)⟩
theorem zq9 : ∀ p ∈ zfp, Boot p := by
 repeat (refine all_cons ?_ ?_; first | refine boot_blt (by decide +kernel) (by kernel_rfl) | refine ⟨by decide +kernel, by kernel_rfl, by (intro h; first | rfl | cases h), by (intro v h; cases h), by (intro h; cases h)⟩)
 exact zrb
theorem bootsT : ∀ p ∈ zmr, BootT p := by
 repeat (refine all_cons ?_ ?_; exact ⟨_, by decide +kernel, rfl, rfl, by kernel_rfl⟩)
 exact zrb
section
variable {p : Program} {loose : List Str} {mean : ExcName -> Option Value} {mg mb : Str -> Option Value} {h : Heap}
noncomputable def Hid (h : Heap) (c : Cx) : Prop := ∀ b o, h.get? b = some o -> (∀ ps, o ≠ tabO ps) -> c.h0.get? b = some o
theorem DefAt.of {c : Cx} {e : DefItem} (hh : Hid h c) (hat : e.At c.g h) : DefAt c e := by
 obtain ⟨a, cc, P, o, pm, doc, g1, g2, g3, g4, B⟩ := hat
 obtain ⟨⟨o1, vs1, t1, t2, t3, t4⟩, _⟩ := B.tab
 obtain ⟨c2, o2, vs2, t, q1, q2, q3, q4⟩ := g4
 obtain rfl := Value.ref.inj q1
 obtain rfl := zaa (t1.symm.trans q2)
 exact ⟨a, cc, o, pm, doc, g1, hh a o g2 (fun ps q => by rw [q] at g3; cases g3), g3, cc, o1, vs2, t, rfl, hh cc o1 q2 (fun ps q => by rw [q] at t2; cases t2), q3, q4⟩
theorem zk3 (T : Top p loose mean mg mb h) {x : Str} (hx : freeB p loose x = true) : mg x = none := by
 simp only [freeB, zbp, Bool.not_eq_true', List.contains_eq_mem, decide_eq_false_iff_not] at hx
 exact T.free x hx.1.1.1.1 hx.1.1.1.2 hx.1.1.2 hx.1.2 hx.2
inductive GkAt (fs : List Str) (vals : List (Str × V)) (x : Str) (k : Gk) : Prop
 | fn (h : k = .fn) (hm : x ∈ fs)
 | val (v : V) (h : k = .val v) (hm : (x, v) ∈ vals)
 | blt (h : (x, k) ∈ zfp)
theorem gkAt {fs : List Str} {vals : List (Str × V)} {x : Str} {k : Gk} (hx : (mkTab fs vals).g.lookup x = some k) : GkAt fs vals x k := by
 rcases zaq.mp (mem_of_lookup hx) with h | h
 ·rcases zaq.mp h with h | h
  ·obtain ⟨f, hf, e⟩ := zas.mp h
   obtain ⟨e1, e2⟩ := Prod.mk.inj e
   exact .fn e2.symm (e1 ▸ hf)
  ·obtain ⟨q, hq, e⟩ := zas.mp h
   obtain ⟨e1, e2⟩ := Prod.mk.inj e
   exact .val q.2 e2.symm (e1 ▸ hq)
 ·exact .blt h
theorem valI_rep (T : Top p loose mean mg mb h) {c : Cx} {x : Str} {v : V} (hv : (valI p x v).isSome = true) : ∃ r, mg x = some r /\ Rep c [] c.h0 v r := by
 obtain ⟨u, hu⟩ := zbz.mp hv
 obtain ⟨j, hj, hu⟩ := zab.mp hu
 obtain ⟨w, hw, hu⟩ := zab.mp hu
 obtain ⟨i, hi, hu⟩ := zab.mp hu
 obtain rfl := (iteO hu).1
 obtain rfl := zcy hj
 obtain ⟨r, hr, hR⟩ := T.const _ _ hw
 cases w with
 | int k =>
  obtain rfl := zaa hi
  cases hR c.h0
  exact ⟨_, hr, rI⟩
 | _ => cases hi
theorem valS_rep (T : Top p loose mean mg mb h) {c : Cx} {x : Str} {v : V} (hv : (valS p x v).isSome = true) : ∃ r, mg x = some r /\ Rep c [] c.h0 v r := by
 obtain ⟨u, hu⟩ := zbz.mp hv
 obtain ⟨j, hj, hu⟩ := zab.mp hu
 obtain ⟨w, hw, hu⟩ := zab.mp hu
 obtain ⟨i, hi, hu⟩ := zab.mp hu
 obtain rfl := (iteO hu).1
 obtain rfl := zeg hj
 obtain ⟨r, hr, hR⟩ := T.const _ _ hw
 cases w with
 | str k =>
  obtain rfl := zaa hi
  obtain ⟨t, rfl, _⟩ := reads_str_inv (hR c.h0)
  exact ⟨_, hr, rS⟩
 | _ => cases hi
theorem zmh {c : Cx} {h : Heap} : ∀ {l : List V} {vs : List Value} {ss : List Str}, zny l = some ss -> StrsAre vs ss -> RepL c [] h l vs
 | [], _, _, e, S => by
  obtain rfl := zaa e
  cases S
  exact rL
 | v :: l, _, _, e, S => by
  obtain ⟨i, h1, f⟩ := zab.mp e
  obtain ⟨l', h2, rfl⟩ := zah.mp f
  obtain rfl := zeg h1
  cases S with
  | cons y t S => exact ⟨rS, zmh h2 S⟩
theorem valT_rep {c : Cx} {w : World} (hh : Hid h c) (B : Tables p w mg h) {x : Str} {v : V} (hv : (valT p x v).isSome = true) (hz : ∀ l, v = .tup l -> l.length <= sizeLine) : ∃ r, mg x = some r /\ Rep c [] c.h0 v r := by
 obtain ⟨u, hu⟩ := zbz.mp hv
 obtain ⟨l, hl, hu⟩ := zab.mp hu
 obtain ⟨ss, hs, hu⟩ := zab.mp hu
 obtain ⟨ts, ht, hu⟩ := zab.mp hu
 obtain rfl := (iteO hu).1
 obtain rfl := zei hl
 obtain ⟨a, vs, h1, ⟨o, h2, h3, n, h4⟩, h5⟩ := B.tupS x ts ht
 exact ⟨_, h1, TupAt.mk a o vs.toArray n rfl za5 (hh a o h2 fun ps q => by rw [q] at h3; cases h3) h3 h4 (hz l rfl) (zmh hs h5)⟩
noncomputable def shortV (v : V) : Bool := match v with
 | .tup l => decide (l.length <= 100)
 | _ => true
theorem val_rep (T : Top p loose mean mg mb h) {c : Cx} {w : World} (hh : Hid h c) (B : Tables p w mg h) {x : Str} {v : V} (hv : (valB p x v && shortV v) = true) : ∃ r, mg x = some r /\ Rep c [] c.h0 v r := by
 obtain ⟨hv, hs⟩ := zag.mp hv
 rcases zbv.mp hv with hv | hv
 ·exact valI_rep T hv
 ·rcases zbv.mp hv with hv | hv
  ·exact valS_rep T hv
  ·exact valT_rep hh B hv fun l e => by subst e; exact zac (of_decide_eq_true hs) (by decide)
theorem tab_ok (T : Top p loose mean mg mb h) {w : World} (B : Tables p w mg h) {c : Cx} (hg : c.g = mg) (hb : c.b = mb) (hh : Hid h c) {fs : List Str} {vals : List (Str × V)} (h1 : fs.all (fun f => ((recsOf p).map (·.name)).contains f) = true) (h2 : vals.all (fun q => valB p q.1 q.2 && shortV q.2) = true)
  (h3 : (zfp.map (·.1) ++ zmr.map (·.1)).all (freeB p loose) = true)
  (XO : ExcOk c)
  (NO : NetOk c)
  : TabOk c (mkTab fs vals) := by
 subst hg hb
 have h1 := zba.mp h1
 have h2 := zba.mp h2
 have h3 := zba.mp h3
 have bl : ∀ {x : Str} {k : Gk}, (x, k) ∈ zfp -> c.g x = none /\ c.b x = meanG k := fun {x k} hx =>
  ⟨zk3 T (h3 x (List.mem_append_left _ (zas.mpr ⟨_, hx, rfl⟩))), (T.builtins x (zq9 _ hx).1).trans (zq9 _ hx).2⟩
 have bk : ∀ {x : Str} {k : Gk}, k ≠ .fn -> (∀ v, k ≠ .val v) -> (mkTab fs vals).g.lookup x = some k -> (x, k) ∈ zfp := fun n1 n2 hx => by
  rcases gkAt hx with ⟨hk, _⟩ | ⟨v, hk, _⟩ | hm
  ·exact absurd hk n1
  ·exact absurd hk (n2 v)
  ·exact hm
 refine ⟨fun x hx => ?_, fun x v hx => ?_, fun x b hx => bl (bk (k := .blt b) (fun h => nomatch h) (fun _ h => nomatch h) hx), fun x hx => ?_, fun x hx => bl (bk (k := .enum) (fun h => nomatch h) (fun _ h => nomatch h) hx), fun x hx => bl (bk (k := .rev) (fun h => nomatch h) (fun _ h => nomatch h) hx), fun x t hx => ?_, XO
  , NO
  ⟩
 ·rcases gkAt hx with ⟨_, hm⟩ | ⟨v, hk, _⟩ | hm
  ·obtain ⟨dd, hd, rfl⟩ := zas.mp (List.contains_iff_mem.mp (h1 x hm))
   obtain ⟨a, o, pm, code, doc, g1, g2, g3, _⟩ := T.fn dd hd
   exact ⟨a, o, _, g1, hh a o g2 (fun ps q => by rw [q] at g3; cases g3), g3⟩
  ·cases hk
  ·exact absurd rfl (zq9 _ hm).5
 ·rcases gkAt hx with ⟨hk, _⟩ | ⟨v', hk, hm⟩ | hm
  ·cases hk
  ·cases hk
   exact val_rep T hh B (h2 _ hm)
  ·exact absurd rfl ((zq9 _ hm).4 v)
 ·have hm := bk (k := .isi) (fun h => nomatch h) (fun _ h => nomatch h) hx
  exact ⟨(zq9 _ hm).3 rfl, bl hm⟩
 ·have hm := mem_of_lookup hx
  rcases zaq.mp hm with hm | hm; rotate_left; exact own_ty hm
  obtain ⟨S, b1, b2, b3, b4⟩ := bootsT _ hm
  exact .mk S b2 b3 (zk3 T (h3 x (zby _ (zas.mpr ⟨_, hm, rfl⟩)))) ((T.builtins x b1).trans b4)
theorem ints_of : ∀ {vs : List Value} {l : List Int}, IntsAre vs l -> zq1 l vs := by
 intro vs l h
 induction h with
 | nil => trivial
 | cons _ _ _ ih => exact ⟨⟨_, rfl⟩, ih⟩
theorem zcn {c : Cx} {Tb : Tab} (TA : ∀ e ∈ (recsOf p).map W.itemOf, e.params.defaults = [] -> DefAt c e) (O : c.Ok) (TO : TabOk c Tb) (j fuel r : Nat) {f : String} {np n : Nat} {xs : List St}
  (hj : (((recsOf p).map W.itemOf)[j]?.bind fun e => if e.params.defaults.isEmpty = true /\ e.name = Str.ofString f /\ e.params.args.length = np /\ (slots e.scope.names).length + r = n then eFun Tb fuel r e else none) = some xs) : Has c f np n xs := by
 obtain ⟨e, he, hx⟩ := zab.mp hj
 obtain ⟨⟨h0, h1, h2, h3⟩, hx⟩ := iteO hx
 exact has_of O TO (TA e (zaw he) (List.isEmpty_iff.mp h0)) hx h1 h2 h3
theorem law_end {c : Cx} {d : Nat} {fa a : Addr} {l : List Int} {A : Around} {s : Shared} {R : Result -> Shared -> Prop} (hA : OkA c A true d [] s.heap) (h0 : c.h0 = s.heap) (htab : ∀ x ∈ c.tabs, TabSt s.heap x) (hgens : s.gens = #[]) (hg : c.g (Str.ofString "law") = some (.ref fa)) {vs : List Value} (hL : s.heap.IsList a vs.toArray) (hI : IntsAre vs l) (hl : l.length <= sizeLine)
  (hc : Calls c true d (Str.ofString "law") [.scr l] none (fun v _ => v = .bool true) noX [])
  (hR : ∀ s', (∀ b o, s.heap.get? b = some o -> s'.heap.get? b = some o) -> s'.os = s.os -> s'.gens = #[] -> R (.ok (.ret (.bool true))) s') : codeAny (model c.prog c.w) A (.call (.ref fa) ⟨[.ref a], []⟩) R s := by
 obtain ⟨a', o', fd', g1, g2, g3, g4⟩ := hc
 rw [hg] at g1; cases g1
 have S : Sim c [] [] s := ⟨fun b o h => h0 ▸ h, (fun _ h => nomatch h), List.nodup_nil, rfl, (fun _ _ h => nomatch h), hgens, htab⟩
 obtain ⟨ol, ho, hcl, n, hd⟩ := hL
 have R1 : RepL c [] s.heap [.scr l] [.ref a] := ⟨⟨a, ol, vs.toArray, n, rfl, za5, h0 ▸ ho, ho, hcl, hd, hl, ints_of hI⟩, rfl⟩
 have := g4 A [] s [.ref a] [] hA S R1 rfl
 refine codeAny_mono this ?_
 intro r s' hr
 cases r with
 | error e =>
  obtain ⟨_, _, _, _, _, _, hq⟩ := hr
  exact hq.elim
 | ok f => cases f with
  | ret v =>
   obtain ⟨φ', H', v, e, S', Rv, hv⟩ := hr
   subst hv
   cases (show _ = _ from Rv)
   exact hR s' (fun b o hb => S'.stays b o (h0 ▸ hb)) e.os S'.gens
  | _ => exact hr.elim
end
end Bn
namespace Bn
open PySem
section
variable {c : Cx} {q : Bool} {d : Nat} {Q : V -> Hp -> Prop} {E : XPost} {H : Hp} {C : CallT} {k : Clo} {l : Loc}
theorem ix_nat {i n : Nat} (h : i < n) : ix (i : Int) n = some i := by
 refine (if_pos (zbe i)).trans ((if_pos (zam.mpr h)).trans ?_)
 rw [Int.toNat_natCast]
theorem zb7 {α : Type} {xs : List α} {i : Nat} {x : α} (h : xs[i]? = some x) : i < xs.length := (zbj.mp h).1
theorem idx_scr {xs : List Int} {i : Nat} {x : Int} (h : xs[i]? = some x) : idxV H (.scr xs) (.int i) = some (.int x) := by
 show (ix i xs.length).bind _ = _
 rw [ix_nat (zb7 h)]
 show (xs[i]?).map _ = _
 rw [h]; rfl
theorem zds {a i : Nat} {xs : List V} {x : V} (ha : H[a]? = some xs) (h : xs[i]? = some x) : idxV H (.lst a) (.int i) = some x := by
 show (H[a]?).bind _ = _
 rw [ha]
 show (ix i xs.length).bind _ = _
 rw [ix_nat (zb7 h)]
 exact h
theorem zl5 {a : Nat} {xs : List V} {x : V} (ha : H[a]? = some xs) (h : xs.getLast? = some x) : idxV H (.lst a) (.int (-1)) = some x := by
 show (H[a]?).bind _ = _
 rw [ha]
 show (ix (-1) xs.length).bind _ = _
 rw [List.getLast?_eq_getElem?] at h
 have hlen := Nat.pos_of_lt_add_left (n := 0) (k := xs.length) (by have := zb7 h; exact Ar.ar1 [_] [] 0xa5000610000308020 (Y1 J0 (Y0 V0 J0)) (Y1 (Y2 V0 J1) V0) this)
 have e : ix (-1) xs.length = some (xs.length - 1) := by
  refine (if_neg (by decide)).trans ((if_pos (by exact Ar.ar1 [_] [] 0xa5000610000308020 (Y3 (Y3 (Y4 V0 J0) J0) (Y3 J1 J0)) (Y1 J0 V0) hlen)).trans ?_)
  rw [show ((-1 : Int) + xs.length).toNat = xs.length - 1 by exact Ar.ar1 [_,_] [] 0x6410a50006100c030802000065294001840400c2018061004050802140d04294001840700c2008000214a50006101c03080401840001005080211a08528003080e01840100005294001840501020200610000508021 (Y2 V0 (Y2 V1 J1)) (Y7 (Y5 (Y4 V0 J0) (Y0 (Y3 J1 J0) (Y4 V1 J0))) (Y6 (Y3 (Y0 (Y3 J1 J0) (Y4 V1 J0)) J0) (Y2 V0 J0))) (Ar.tn _)]
 rw [e]
 exact h
theorem zg9 (P : Has c "_law_cell_at" 2 2 zev) {xs : List Int} {i : Nat} (hc : q = true) (hq : Q (.int (xs.getD i 0)) H) : Calls c q (d + 1) "_law_cell_at" [.scr xs, .int i] none Q E H := by
 subst hc
 refine P true d _ Q E H rfl (Ss_go ?_)
 walk_at "wps"
 refine zb6 (fun h => ?_) (fun h => ?_)
 ·walk_at "wps"
  have hg := zal (zam.mp h)
  refine Opt.mk (idx_scr hg) ?_
  rw [zax, hg] at hq
  exact hq
 ·walk_at "wps"
  rw [zax, List.getElem?_eq_none (zbh fun q => h (zam.mpr q))] at hq
  exact hq
theorem bin_mod {a b : Int} (hb : 0 < b) : binV H .mod (.int a) (.int b) = some (.int (a % b), H) := by
 refine (if_neg (Int.ne_of_gt hb)).trans ?_
 rw [Int.fmod_eq_emod_of_nonneg _ (Int.le_of_lt hb)]
theorem bin_div {a b : Int} (hb : 0 < b) : binV H .div (.int a) (.int b) = some (.int (a / b), H) := by
 refine (if_neg (Int.ne_of_gt hb)).trans ?_
 rw [Int.fdiv_eq_ediv_of_nonneg _ (Int.le_of_lt hb)]
theorem zcc {a b : Int} {K : V × Hp -> Prop} (hb : 0 < b) (h : K (.int (a % b), H)) : Opt (binV H .mod (.int a) (.int b)) K := Opt.mk (bin_mod hb) h
theorem zc0 {a b : Int} {K : V × Hp -> Prop} (hb : 0 < b) (h : K (.int (a / b), H)) : Opt (binV H .div (.int a) (.int b)) K := Opt.mk (bin_div hb) h
noncomputable def ze2 (x : Int) : Int := if x / 12 % 9 = 1 then 13 + x / 108 % 20 else 1 + x % 12
theorem znb (x : Int) : 1 <= ze2 x /\ ze2 x <= 32 := by unfold ze2; split <;> (first | exact Ar.ar1 [] [_,_,_] 0x6210a500061010030802008040210a500061010030800008040 (Y6 (Y3 J1 (Y0 (.l 13) V0)) (Y3 (Y0 (.l 13) V0) (.l 32))) (Y6 (Y5 (Y0 (Y1 (.l 20) V1) V0) V2) (Y6 (Y3 J0 V0) (Y4 V0 (.l 20)))) (Ar.zd _ (k := 20) (by decide)) | exact Ar.ar1 [] [_,_,_] 0x6210a500061010030802008040210a500061010030800008040 (Y6 (Y3 J1 (Y0 J1 V0)) (Y3 (Y0 J1 V0) (.l 32))) (Y6 (Y5 (Y0 (Y1 (.l 12) V1) V0) V2) (Y6 (Y3 J0 V0) (Y4 V0 (.l 12)))) (Ar.zd _ (k := 12) (by decide)))
theorem znv (P : Has c "_law_lines_by" 1 2 zec) {x : Int} (hq : Q (.int (ze2 x)) H) : Calls c q (d + 1) "_law_lines_by" [.int x] none Q E H := by
 refine P q d _ Q E H rfl (Ss_go ?_)
 walk_at "wps"
 refine zcc (by decide) ?_
 walk_at "wps"
 refine zc0 (by decide) ?_
 walk_at "wps"
 refine zcc (by decide) ?_
 walk_at "wps"
 refine zb6 (fun h => ?_) (fun h => ?_)
 ·walk_at "wps"
  refine zc0 (by decide) ?_
  walk_at "wps"
  refine zcc (by decide) ?_
  walk_at "wps"
  rw [ze2, if_pos h] at hq
  exact hq
 ·walk_at "wps"
  rw [ze2, if_neg h] at hq
  exact hq
theorem s_whole (P : Has c "_law_whole" 1 1 zgj) {i : Int} (hq : Q (.bool true) H) : Calls c q (d + 1) "_law_whole" [.int i] none Q E H := by
 refine P q d _ Q E H rfl (Ss_go ?_)
 walk_at "wps"
 exact hq
end
end Bn
namespace Bn
open PySem
noncomputable def nat (n : Nat) : V := .int n
noncomputable def fl (p : Nat × Nat) : V := .tup [.int p.2, .int p.1]
structure Apart (f dn rd : Nat) (bs : List Nat) : Prop where
 n1 : f ≠ dn
 n2 : f ≠ rd
 n3 : f ∉ bs
 n4 : dn ≠ rd
 n5 : dn ∉ bs
 n6 : rd ∉ bs
 n7 : bs.Nodup
structure Build (H : Hp) (f dn rd : Nat) (bs : List Nat) (lays : Net) (done read : List Nat) : Prop where
 F : H[f]? = some (bs.map .lst)
 len : bs.length = lays.length
 L : ∀ (i b : Nat) (y : List (Nat × Nat)), bs[i]? = some b -> lays[i]? = some y -> H[b]? = some (y.map fl)
 D : H[dn]? = some (done.map nat)
 R : H[rd]? = some (read.map nat)
 ap : Apart f dn rd bs
structure Stay (S : List Nat) (H H' : Hp) : Prop where
 len : H.length <= H'.length
 same : ∀ x, x < H.length -> x ∉ S -> H'[x]? = H[x]?
theorem Stay.refl {S : List Nat} {H : Hp} : Stay S H H := ⟨zad _, fun _ _ _ => rfl⟩
section
variable {c : Cx} {q : Bool} {d : Nat} {Q : V -> Hp -> Prop} {E : XPost} {H : Hp}
theorem zco {x : Nat} {y : List V} (h : H[x]? = some y) : x < H.length := zb7 h
theorem zcz {x : Nat} {y xs : List V} (h : H[x]? = some y) : (H ++ [xs])[x]? = some y := (zbi (zco h)).trans h
theorem zb2 {xs : List V} : (H ++ [xs])[H.length]? = some xs := List.getElem?_concat_length
theorem zcr {x a : Nat} {y xs : List V} (h : H[x]? = some y) (hn : x ≠ a) : (H.set a xs)[x]? = some y := (List.getElem?_set_ne (Ne.symm hn)).trans h
theorem zga {a : Nat} {y xs : List V} (h : H[a]? = some y) : (H.set a xs)[a]? = some xs := List.getElem?_set_self (zco h)
variable {f dn rd : Nat} {bs : List Nat} {lays : Net} {done read : List Nat}
theorem Build.lt (B : Build H f dn rd bs lays done read) {i b : Nat} (hb : bs[i]? = some b) : b < H.length /\ i < lays.length :=
 have hi : i < lays.length := B.len ▸ zb7 hb
 ⟨zco (B.L i b _ hb (zal hi)), hi⟩
theorem Build.ltm (B : Build H f dn rd bs lays done read) {b : Nat} (hb : b ∈ bs) : b < H.length := by
 obtain ⟨i, hi⟩ := List.mem_iff_getElem?.mp hb
 exact (B.lt hi).1
theorem zeu {α : Type} {l : List α} {x y : α} {i : Nat} (h : (l ++ [x])[i]? = some y) : l[i]? = some y \/ (i = l.length /\ x = y) := by
 by_cases hi : i < l.length
 ·exact .inl ((zbi hi).symm.trans h)
 ·have hlt := zb7 h
  rw [zan] at hlt
  have e : i = l.length := Nat.le_antisymm (Nat.le_of_lt_succ hlt) (zbh hi)
  rw [e, List.getElem?_concat_length] at h
  exact .inr ⟨e, zaa h⟩
theorem Build.grow (B : Build H f dn rd bs lays done read) : Build ((H ++ [[]]).set f (bs.map V.lst ++ [V.lst H.length])) f dn rd (bs ++ [H.length]) (lays ++ [[]]) done read := by
 have hf := zco B.F
 have A := B.ap
 have keep : ∀ {x : Nat} {y : List V}, x ≠ f -> H[x]? = some y -> ((H ++ [[]]).set f (bs.map V.lst ++ [V.lst H.length]))[x]? = some y := fun hx h => zcr (zcz h) hx
 have out : ∀ {x : Nat}, x < H.length -> x ∉ bs -> x ∉ bs ++ [H.length] := fun hx hn hm => (zaq.mp hm).elim hn fun e => zao hx (zai.mp e)
 refine ⟨?_, ?_, fun i b y hb hy => ?_, keep (Ne.symm A.n1) B.D, keep (Ne.symm A.n2) B.R, ⟨A.n1, A.n2, out hf A.n3, A.n4, out (zco B.D) A.n5, out (zco B.R) A.n6, ?_⟩⟩
 ·rw [zbb]; exact zga (zcz B.F)
 ·rw [zan, zan, B.len]; rfl
 ·rcases zeu hb with hb | ⟨e, rfl⟩
  ·rcases zeu hy with hy | ⟨e, rfl⟩
   ·exact keep (fun q => A.n3 (q ▸ zaw hb)) (B.L i b y hb hy)
   ·exact absurd (zb7 hb) (by rw [e, B.len]; exact za2 _)
  ·rcases zeu hy with hy | ⟨_, rfl⟩
   ·exact absurd (zb7 hy) (by rw [e, B.len]; exact za2 _)
   ·exact zcr zb2 (Nat.ne_of_gt hf)
 ·refine List.nodup_append.mpr ⟨A.n7, zbr.mpr ⟨za5, List.nodup_nil⟩, fun x hx y hy => ?_⟩
  rw [zai.mp hy]
  exact zao (B.ltm hx)
theorem Build.putL (B : Build H f dn rd bs lays done read) {i b : Nat} {y : List (Nat × Nat)} (hb : bs[i]? = some b) : Build (H.set b (y.map fl)) f dn rd bs (lays.set i y) done read := by
 have A := B.ap
 have hm := zaw hb
 obtain ⟨hlt, hi⟩ := B.lt hb
 refine ⟨zcr B.F (fun q => A.n3 (q ▸ hm)), B.len.trans List.length_set.symm, fun j b' y' hb' hy' => ?_, zcr B.D (fun q => A.n5 (q ▸ hm)), zcr B.R (fun q => A.n6 (q ▸ hm)), A⟩
 by_cases hij : j = i
 ·subst hij
  obtain rfl := zaa (hb.symm.trans hb')
  obtain rfl := zaa ((List.getElem?_set_self hi).symm.trans hy')
  exact List.getElem?_set_self hlt
 ·rw [List.getElem?_set_ne (Ne.symm hij)] at hy'
  exact zcr (B.L j b' y' hb' hy') (fun q => hij (zky A.n7 (q ▸ hb') hb))
theorem Build.putD {done' : List Nat} (B : Build H f dn rd bs lays done read) : Build (H.set dn (done'.map nat)) f dn rd bs lays done' read :=
 have A := B.ap
 ⟨zcr B.F A.n1, B.len, fun j b y hb hy => zcr (B.L j b y hb hy) (fun q => A.n5 (q ▸ zaw hb)), zga B.D, zcr B.R (Ne.symm A.n4), A⟩
theorem Build.putR {read' : List Nat} (B : Build H f dn rd bs lays done read) : Build (H.set rd (read'.map nat)) f dn rd bs lays done read' :=
 have A := B.ap
 ⟨zcr B.F A.n2, B.len, fun j b y hb hy => zcr (B.L j b y hb hy) (fun q => A.n6 (q ▸ zaw hb)), zcr B.D A.n4, zga B.R, A⟩
theorem Stay.set {S : List Nat} {H H' : Hp} {a : Nat} {xs : List V} (h : Stay S H H') (ha : a ∈ S \/ H.length <= a) : Stay S H (H'.set a xs) :=
 ⟨by rw [List.length_set]; exact h.len, fun x hx hn => (List.getElem?_set_ne (fun q : a = x => ha.elim (fun m => hn (q ▸ m)) fun m => Nat.not_lt.mpr m (q ▸ hx))).trans (h.same x hx hn)⟩
theorem Stay.app {S : List Nat} {H H' : Hp} {xs : List V} (h : Stay S H H') : Stay S H (H' ++ [xs]) :=
 ⟨by rw [zan]; exact Nat.le_add_right_of_le h.len, fun x hx hn => (zbi (zav hx h.len)).trans (h.same x hx hn)⟩
end
end Bn
namespace Bn
open PySem
section
variable {c : Cx} {q : Bool} {d : Nat} {Q : V -> Hp -> Prop} {E : XPost} {H : Hp}
theorem zli (a b : Nat) : (if (a : Int) < b then (b : Int) else a) = ((max a b : Nat) : Int) := by
 by_cases h : a < b
 ·rw [if_pos (zam.mpr h), Nat.max_eq_right (zap h)]
 ·rw [if_neg (fun q => h (zam.mp q)), Nat.max_eq_left (zbh h)]
theorem blt_max2 {a b : Nat} : onQ true (bltV H .max [.int a, .int b]) = some (.int (max a b : Nat), H) := by
 rw [<- zli]; rfl
theorem blt_max3 {a b e : Nat} : onQ true (bltV H .max [.int a, .int b, .int e]) = some (.int (max (max a b) e : Nat), H) := by
 rw [<- zli, <- zli]; rfl
theorem zlq {α : Type} {g : α -> V} {xs : List α} {i : Nat} {x : α} (h : xs[i]? = some x) : (xs.map g)[i]? = some (g x) := by rw [zay, h]; rfl
theorem zek {a i x : Nat} {xs : List Nat} (ha : H[a]? = some (xs.map nat)) (h : xs[i]? = some x) : idxV H (.lst a) (.int i) = some (.int x) := zds ha (zlq h)
theorem put_at {a i : Nat} {v : V} {xs : List V} (ha : H[a]? = some xs) (h : i < xs.length) : putV H (.lst a) (.int i) v = some (H.set a (xs.set i v)) := by
 show (H[a]?).bind _ = _
 rw [ha]
 refine (if_pos ⟨zbe i, zam.mpr h⟩).trans ?_
 rw [Int.toNat_natCast]
theorem zpq {a i x : Nat} {xs : List Nat} (ha : H[a]? = some (xs.map nat)) (h : i < xs.length) : putV H (.lst a) (.int i) (.int x) = some (H.set a ((xs.set i x).map nat)) := by
 rw [List.map_set]
 exact put_at ha (by rw [zaf]; exact h)
theorem zdg {a : Nat} {xs : List V} {v : V} (ha : H[a]? = some xs) (hz : xs.length < 10000) : zoe H .append (.lst a) [v] = some (.none, H.set a (xs ++ [v])) := by
 show (H[a]?).bind _ = _
 rw [ha]
 exact if_pos (zar hz (by decide))
structure Placed (H : Hp) (f dn rd : Nat) (bs : List Nat) (lays : Net) (done read : List Nat) (l h : Nat) (bs' : List Nat) (H' : Hp) : Prop where
 build : Build H' f dn rd bs' (zh1 lays (zcp done read l h) (l, h)) (done.set h (zcp done read l h + 1)) (read.set l (max (g0 read l) (zcp done read l h)))
 stay : Stay (f :: dn :: rd :: bs) H H'
 new : ∀ b ∈ bs', b ∈ bs \/ H.length <= b
theorem zn3 {n m k L b : Nat} (hnm : n + m = k + 1 - L) (hlen : b = L + m) (hle : b <= k) : n - 1 < n /\ n - 1 + (m + 1) = k + 1 - L := by exact Ar.ar3 [_,_,_,_,_] [] 0xc61a064294a528004081a01840e00c204806100c0308020180a308c20104a528003080e01840400c20000a100023294a0010203006100c03080202840008d04294a00102048061028030800000068214a5294a0010206008103403081c01840a010203006100400014a000c2040061000050800128c2308041 (Y6 (Y1 (Y2 V0 J1) V0) (Y2 (Y0 (Y2 V0 J1) (Y0 V1 J1)) (Y2 (Y0 V2 J1) V3))) (Y2 (Y0 V0 V1) (Y2 (Y0 V2 J1) V3)) (Y2 V4 (Y0 V3 V1)) (Y0 V4 V2) hnm hlen hle
theorem zqr {n m k L b : Nat} (hnm : n + m = k + 1 - L) (hlen : b = L + m) (hle : ¬ b <= k) : m = k + 1 - L := by exact Ar.ar3 [_,_,_,_,_] [] 0x314a000c201006100003410a5000610180308020000a5294001840700c204006101003080002882308021 (Y2 V0 (Y2 (Y0 V1 J1) V2)) (Y2 (Y0 V3 V0) (Y2 (Y0 V1 J1) V2)) (Y2 V4 (Y0 V2 V0)) (Y8 (Y0 V4 V1) J0) hnm hlen hle
inductive GrowInv (H : Hp) (f dn rd : Nat) (bs : List Nat) (lays : Net) (done read : List Nat) (l h k n : Nat) : Loc -> Hp -> Prop
 | mk (bs' : List Nat) (m : Nat) (H' : Hp) (hn : n + m = k + 1 - lays.length) (B : Build H' f dn rd bs' (lays ++ List.replicate m []) done read) (st : Stay (f :: dn :: rd :: bs) H H') (new : ∀ b ∈ bs', b ∈ bs \/ H.length <= b) :
   GrowInv H f dn rd bs lays done read l h k n [some (.lst f), some (.int l), some (.int h), some (.lst dn), some (.lst rd), some (.int k)] H'
theorem zpp {xs : List Nat} {i : Nat} (h : i < xs.length) : xs[i]? = some (g0 xs i) := by
 rw [g0, zax, zal h]; rfl
theorem s_place (P : Has c "_law_place" 5 6 zca) {f dn rd : Nat} {bs : List Nat} {lays : Net} {done read : List Nat} {l h : Nat} (B : Build H f dn rd bs lays done read) (hl : l < done.length) (hh : h < done.length) (hrl : read.length = done.length) (hc : q = true)
  (hsz : zcp done read l h < 1000) (hlz : lays.length < 1000) (hyz : ∀ y ∈ lays, y.length < 1000) (hq : ∀ bs' H', Placed H f dn rd bs lays done read l h bs' H' -> Q .none H') :
  Calls c q (d + 1) "_law_place" [.lst f, .int l, .int h, .lst dn, .lst rd] none Q E H := by
 subst hc
 refine P true d _ Q E H rfl (Ss_go ?_)
 have gR : ∀ {x : Nat}, x < done.length -> read[x]? = some (g0 read x) := fun hx => zpp (hrl ▸ hx)
 walk_at "wps"
 refine Opt.mk (zek B.D (zpp hl)) ?_
 walk_at "wps"
 refine Opt.mk (zek B.D (zpp hh)) ?_
 walk_at "wps"
 refine Opt.mk (zek B.R (gR hh)) ?_
 walk_at "wps"
 refine Opt.mk blt_max3 ?_
 walk_at "wps"
 rw [show max (max (g0 done l) (g0 done h)) (g0 read h) = zcp done read l h from rfl]
 generalize hat : zcp done read l h = k at hsz
 refine ⟨rfl, .mk (GrowInv H f dn rd bs lays done read l h k) (k + 1 - lays.length) (.mk bs 0 _ rfl (by rw [List.replicate_zero, za9]; exact B) Stay.refl fun b hb => .inl hb) ?_⟩
 rintro n l' H' hI
 obtain ⟨bs', m, _, hnm, B', st, hnew⟩ := hI
 have hlen := B'.len
 rw [zan, List.length_replicate] at hlen
 walk_at "wps"
 refine Opt.mk (zci B'.F) ?_
 walk_at "wps"
 rw [zaf]
 refine zb6 (fun hle => ?_) (fun hle => ?_)
 ·have hle := za6.mp hle
  walk_at "wps"
  refine ⟨rfl, ?_⟩
  walk_at "wps"
  refine Opt.mk (zdg (zcz B'.F) (by rw [zaf]; exact za4 hle (zar hsz (by decide)))) ?_
  walk_at "wps"
  have hst := zn3 hnm hlen hle
  refine ⟨n - 1, hst.1, .mk (bs' ++ [H'.length]) (m + 1) _ hst.2 ?_ ((st.app).set (.inl zae)) fun b hb => ?_⟩
  ·have := B'.grow
   rw [zbd, <- List.replicate_succ'] at this
   exact this
  ·rcases zaq.mp hb with hb | hb
   ·exact hnew b hb
   ·rw [zai.mp hb]; exact .inr st.len
 ·have hle : ¬ bs'.length <= k := fun q => hle (za6.mpr q)
  walk_at "wps"
  have hm : m = k + 1 - lays.length := zqr hnm hlen hle
  rw [hm] at B'
  rw [show lays ++ List.replicate (k + 1 - lays.length) [] = zis (k + 1) lays from rfl] at B'
  have hb := zal (Nat.lt_of_not_le hle)
  generalize bs'[k] = b at hb
  obtain ⟨hblt, hkl⟩ := B'.lt hb
  have hy := zal hkl
  generalize hyy : (zis (k + 1) lays)[k] = y at hy
  have hyl : y.length < 1000 := by
   rcases zaq.mp (zaw hy) with h1 | h1
   ·exact hyz y h1
   ·rw [(List.mem_replicate.mp h1).2]; decide
  refine Opt.mk (zds B'.F (zlq hb)) ⟨rfl, ?_⟩
  walk_at "wps"
  refine Opt.mk (zdg (B'.L k b y hb hy) (by rw [zaf]; exact zar hyl (by decide))) ?_
  rw [show y.map fl ++ [.tup [.int h, .int l]] = (y ++ [(l, h)]).map fl by rw [zbb]; rfl]
  have B2 := B'.putL (y := y ++ [(l, h)]) hb
  walk_at "wps"
  refine Opt.mk (zek B2.R (gR hl)) ?_
  walk_at "wps"
  refine Opt.mk blt_max2 ?_
  walk_at "wps"
  refine Opt.mk (zpq B2.R (hrl ▸ hl)) ?_
  have B3 := B2.putR (read' := read.set l (max (g0 read l) k))
  walk_at "wps"
  refine Opt.mk (zpq (x := k + 1) B3.D hh) ?_
  have B4 := B3.putD (done' := done.set h (k + 1))
  refine hq bs' _ ⟨?_, ((st.set ?_).set (.inl (zaj _ (zaj _ zae)))).set (.inl (zaj _ zae)), hnew⟩
  ·rw [hat]
   have e2 : (zis (k + 1) lays).set k (y ++ [(l, h)]) = zh1 lays k (l, h) := by
    rw [zh1, zax, hy]; rfl
   rw [<- e2]; exact B4
  ·exact (hnew b (zaw hb)).imp (fun h1 => zaj _ (zaj _ (zaj _ h1))) id
end
end Bn
namespace Bn
open PySem
theorem Stay.trans {S S' : List Nat} {H H' H'' : Hp} (h : Stay S H H') (h' : Stay S' H' H'') (hs : ∀ x ∈ S', x ∈ S \/ H.length <= x) : Stay S H H'' :=
 ⟨zac h.len h'.len, fun x hx hn => (h'.same x (zav hx h.len) fun hm => (hs x hm).elim hn fun hl => Nat.not_lt.mpr hl hx).trans (h.same x hx hn)⟩
structure KeptB (H : Hp) (f dn rd : Nat) (bs : List Nat) (X : List Nat) (s : PS) (bs' : List Nat) (H' : Hp) : Prop where
 build : Build H' f dn rd bs' s.lays s.done s.read
 stay : Stay (X ++ f :: dn :: rd :: bs) H H'
 new : ∀ b ∈ bs', b ∈ bs \/ H.length <= b
theorem mem4 {P : Nat -> Prop} {f dn rd : Nat} {bs : List Nat} (h1 : P f) (h2 : P dn) (h3 : P rd) (h4 : ∀ b ∈ bs, P b) : ∀ x ∈ f :: dn :: rd :: bs, P x :=
 zau.mpr ⟨h1, zau.mpr ⟨h2, zau.mpr ⟨h3, h4⟩⟩⟩
theorem m1 {f dn rd : Nat} {bs : List Nat} : f ∈ f :: dn :: rd :: bs := zae
theorem m2 {f dn rd : Nat} {bs : List Nat} : dn ∈ f :: dn :: rd :: bs := zaj _ zae
theorem m3 {f dn rd : Nat} {bs : List Nat} : rd ∈ f :: dn :: rd :: bs := zaj _ (zaj _ zae)
theorem m4 {f dn rd x : Nat} {bs : List Nat} (h : x ∈ bs) : x ∈ f :: dn :: rd :: bs := zaj _ (zaj _ (zaj _ h))
theorem not4 {f dn rd x : Nat} {bs : List Nat} (h1 : x ≠ f) (h2 : x ≠ dn) (h3 : x ≠ rd) (h4 : x ∉ bs) : x ∉ f :: dn :: rd :: bs := fun hm => by
 rcases zak.mp hm with h | hm
 ·exact h1 h
 rcases zak.mp hm with h | hm
 ·exact h2 h
 rcases zak.mp hm with h | hm
 ·exact h3 h
 exact h4 hm
section
variable {c : Cx} {q : Bool} {d : Nat} {Q : V -> Hp -> Prop} {E : XPost} {H : Hp}
theorem s_put (P : Has c "_law_place" 5 6 zca) {f dn rd : Nat} {bs bs0 X : List Nat} {s : PS} {js : List (Nat × Nat)} {n l h : Nat} {H0 : Hp} (K : KeptB H0 f dn rd bs0 X s bs H) (L : Laid n s js) (hn : n <= 64) (hz : s.lays.length < 900) (hlh : l < h) (hhn : h < n) (hc : q = true)
  (hq : ∀ bs' H', KeptB H0 f dn rd bs0 X (s.put (l, h)) bs' H' -> Stay (f :: dn :: rd :: bs) H H' -> (∀ b ∈ bs', b ∈ bs \/ H.length <= b) -> Q .none H') :
  Calls c q (d + 1) "_law_place" [.lst f, .int l, .int h, .lst dn, .lst rd] none Q E H := by
 have dl := L.dl; have rl := L.rl
 refine s_place P K.build (dl ▸ zar hlh hhn) (dl ▸ hhn) (rl.trans dl.symm) hc ?_ (zar hz (by decide)) (fun y hy => za4 (zac (L.wide y hy) hn) (by decide)) ?_
 ·exact za4 (L.at_le l h) (zar hz (by decide))
 ·intro bs' H' Pl
  exact hq bs' H' ⟨Pl.build, K.stay.trans Pl.stay (mem4 (.inl (zby _ m1)) (.inl (zby _ m2)) (.inl (zby _ m3)) fun b hb => (K.new b hb).imp (fun h => zby _ (m4 h)) id),
   fun b hb => (Pl.new b hb).elim (K.new b) fun h => .inr (zac K.stay.len h)⟩ Pl.stay Pl.new
noncomputable def zfa (cell : Int) (k : Nat) : Bool := decide (cell / (1 + k) % 4 > 0)
theorem Stay.at {S : List Nat} {H H' : Hp} (h : Stay S H H') {x : Nat} {y : List V} (hx : H[x]? = some y) (hn : x ∉ S) : H'[x]? = some y := (h.same x (zb7 hx) hn).trans hx
end
end Bn
namespace Bn
open PySem
structure EqP {α : Type} [DecidableEq α] (f : α -> PyData) : Prop where
 eq : ∀ a b, PyData.eqv (f a) (f b) = decide (a = b)
 lay : ∀ a, PyData.canLay0 (f a) = true
theorem and_dec {α : Type} [DecidableEq α] {x y : α} {xs ys : List α} : (decide (x = y) && decide (xs = ys)) = decide (x :: xs = y :: ys) := by
 rw [<- Bool.decide_and]
 exact decide_eq_decide.mpr (List.cons.injEq ..).symm.to_iff
theorem EqP.all {α : Type} [DecidableEq α] {f : α -> PyData} (h : EqP f) : ∀ xs ys : List α, PyData.eqvAll (xs.map f) (ys.map f) = decide (xs = ys)
 | [], [] => rfl
 | [], _ :: _ => rfl
 | _ :: _, [] => rfl
 | x :: xs, y :: ys => by
  refine (show _ = (PyData.eqv (f x) (f y) && PyData.eqvAll (xs.map f) (ys.map f)) from rfl).trans ?_
  rw [h.eq, h.all xs ys, and_dec]
theorem EqP.layAll {α : Type} [DecidableEq α] {f : α -> PyData} (h : EqP f) : ∀ xs : List α, PyData.canLayAll0 (xs.map f) = true
 | [] => rfl
 | x :: xs => zag.mpr ⟨h.lay x, h.layAll xs⟩
noncomputable def zlb {α : Type} (f : α -> PyData) (xs : List α) : PyData := .list (xs.map f)
theorem EqP.list {α : Type} [DecidableEq α] {f : α -> PyData} (h : EqP f) : EqP (zlb f) := ⟨h.all, h.layAll⟩
noncomputable def natP (n : Nat) : PyData := .int n
theorem zi9 {a b : Nat} : decide ((a : Int) = b) = decide (a = b) := decide_eq_decide.mpr Int.ofNat_inj
theorem eqP_nat : EqP natP := ⟨fun _ _ => zi9, fun _ => rfl⟩
noncomputable def zmv (p : Nat × Nat) : PyData := .tuple [.int p.1, .int p.2]
theorem eqP_joint : EqP zmv := ⟨fun a b => by
 refine (show _ = (decide ((a.1 : Int) = b.1) && (decide ((a.2 : Int) = b.2) && true)) from rfl).trans ?_
 rw [zi9, zi9, Bool.and_true, <- Bool.decide_and]
 exact decide_eq_decide.mpr Prod.ext_iff.symm, fun _ => rfl⟩
theorem zoq {α : Type} {g : α -> V} {f : α -> PyData} {F : V -> Option PyData} : ∀ {xs : List α}, (∀ x ∈ xs, F (g x) = some (f x)) -> mapO F (xs.map g) = some (xs.map f)
 | [], _ => rfl
 | x :: r, h => by
  show (F (g x)).bind _ = _
  rw [h x zae]
  show (mapO F (r.map g)).map _ = _
  rw [zoq fun y hy => h y (zaj _ hy)]; rfl
theorem mapO_idx {β : Type} {f : β -> PyData} {F : V -> Option PyData} : ∀ {bs : List V} {ys : List β}, bs.length = ys.length -> (∀ (i : Nat) b y, bs[i]? = some b -> ys[i]? = some y -> F b = some (f y)) -> mapO F bs = some (ys.map f)
 := by
 intro bs
 induction bs with
 | nil => exact fun h _ => by rw [zbm.mp h.symm]; rfl
 | cons b bs ih =>
  intro ys h hh
  cases ys with
  | nil => exact nomatch h
  | cons y ys =>
  show (F b).bind _ = _
  rw [hh 0 b y rfl rfl]
  show (mapO F bs).map _ = _
  rw [ih (Nat.succ.inj h) fun i b y h1 h2 => hh (i + 1) b y h1 h2]; rfl
section
variable {H : Hp}
theorem zcd {n a : Nat} {xs : List V} {ys : List PyData} (ha : H[a]? = some xs) (h : mapO (toP n H) xs = some ys) : toP (n + 1) H (.lst a) = some (.list ys) := by
 show ((H[a]?).bind _).map _ = _
 rw [ha]
 show (mapO (toP n H) xs).map _ = _
 rw [h]; rfl
theorem zmf {n a : Nat} {α : Type} {g : α -> V} {f : α -> PyData} {xs : List α} (ha : H[a]? = some (xs.map g)) (h : ∀ x ∈ xs, toP n H (g x) = some (f x)) : toP (n + 1) H (.lst a) = some (zlb f xs) := zcd ha (zoq h)
theorem zo9 {n a : Nat} {β : Type} {f : β -> PyData} {bs : List V} {ys : List β} (ha : H[a]? = some bs) (hl : bs.length = ys.length) (h : ∀ (i : Nat) b y, bs[i]? = some b -> ys[i]? = some y -> toP n H b = some (f y)) : toP (n + 1) H (.lst a) = some (zlb f ys) := zcd ha (mapO_idx hl h)
theorem toP_nat {n : Nat} (x : Nat) : toP n H (nat x) = some (natP x) := by cases n <;> rfl
theorem toP_pr {n : Nat} (p : Nat × Nat) : toP (n + 1) H (pr p) = some (zmv p) := by cases n <;> rfl
theorem zpt {n a : Nat} {xs : List Nat} (ha : H[a]? = some (xs.map nat)) : toP (n + 1) H (.lst a) = some (zlb natP xs) := zmf ha fun x _ => toP_nat x
theorem zkt {n a : Nat} {y : List (Nat × Nat)} (ha : H[a]? = some (y.map pr)) : toP (n + 2) H (.lst a) = some (zlb zmv y) := zmf ha fun x _ => toP_pr x
theorem zo1 {n a : Nat} {bs : List Nat} {net : Net} (N : NetAt H a bs net) : toP (n + 3) H (.lst a) = some (zlb (zlb zmv) net) := by
 refine zo9 N.top (zaf .. |>.trans N.len) fun i b y h1 h2 => ?_
 rw [zay] at h1
 obtain ⟨b', hb, rfl⟩ := zah.mp h1
 exact zkt (N.lay i b' y hb h2)
theorem eqV_of {v w : V} {α : Type} [DecidableEq α] {f : α -> PyData} (h : EqP f) {x y : α} (h1 : toP 9 H v = some (f x)) (h2 : toP 9 H w = some (f y)) : eqV H v w = some (decide (x = y)) := by
 show (toP 9 H v).bind _ = _
 rw [h1]
 show (toP 9 H w).bind _ = _
 rw [h2, <- h.eq]
 exact if_pos (zag.mpr ⟨h.lay x, h.lay y⟩)
theorem eq_row {a b : Nat} {xs ys : List Nat} (ha : H[a]? = some (xs.map nat)) (hb : H[b]? = some (ys.map nat)) : eqV H (.lst a) (.lst b) = some (decide (xs = ys)) := eqV_of eqP_nat.list (zpt ha) (zpt hb)
theorem eq_net {a b : Nat} {bs cs : List Nat} {xs ys : Net} (ha : NetAt H a bs xs) (hb : NetAt H b cs ys) : eqV H (.lst a) (.lst b) = some (decide (xs = ys)) := eqV_of eqP_joint.list.list (zo1 ha) (zo1 hb)
theorem zgd {v w : V} {b : Bool} (h : eqV H v w = some b) : cmpV H .eq v w = some b := by
 show (eqV H v w).or _ = _
 rw [h]; rfl
theorem cmp_ne {v w : V} {b : Bool} (h : eqV H v w = some b) : cmpV H .ne v w = some (!b) := by
 show (eqV H v w).map _ = _
 rw [h]; rfl
end
end Bn
namespace Bn
open PySem
section
variable {c : Cx} {q : Bool} {d : Nat} {Q : V -> Hp -> Prop} {E : XPost} {H : Hp}
theorem Build.below {f dn rd : Nat} {bs : List Nat} {lays : Net} {done read : List Nat} (B : Build H f dn rd bs lays done read) : ∀ b ∈ f :: dn :: rd :: bs, b < H.length := mem4 (zco B.F) (zco B.D) (zco B.R) fun _ h => B.ltm h
theorem Build.keep {f dn rd : Nat} {bs : List Nat} {lays : Net} {done read : List Nat} (B : Build H f dn rd bs lays done read) {H' : Hp} (h : ∀ x ∈ f :: dn :: rd :: bs, H'[x]? = H[x]?) : Build H' f dn rd bs lays done read :=
 ⟨(h f m1).trans B.F, B.len, fun i b y hb hy => (h b (m4 (zaw hb))).trans (B.L i b y hb hy), (h dn m2).trans B.D, (h rd m3).trans B.R, B.ap⟩
theorem KeptB.set {H0 : Hp} {f dn rd : Nat} {bs bs0 X : List Nat} {s : PS} (K : KeptB H0 f dn rd bs0 X s bs H) {a : Nat} {xs : List V} (hn : a ∉ f :: dn :: rd :: bs) (hx : a ∈ X \/ H0.length <= a) : KeptB H0 f dn rd bs0 X s bs (H.set a xs) :=
 ⟨K.build.keep fun x hx => List.getElem?_set_ne fun e : a = x => hn (e ▸ hx), K.stay.set (hx.imp (List.mem_append_left _) id), K.new⟩
theorem KeptB.app {H0 : Hp} {f dn rd : Nat} {bs bs0 X : List Nat} {s : PS} (K : KeptB H0 f dn rd bs0 X s bs H) {xs : List V} : KeptB H0 f dn rd bs0 X s bs (H ++ [xs]) :=
 ⟨K.build.keep fun x hx => zbi (K.build.below x hx), K.stay.app, K.new⟩
end
structure ThinSt (H : Hp) (f dn rd lf la fw : Nat) (bs : List Nat) (s : PS) (left : List (Nat × Nat)) (act : List Nat) (fwx : List Nat) (H0 : Hp) (bs0 : List Nat) : Prop where
 kept : KeptB H0 f dn rd bs0 [lf] s bs H
 hact : H[la]? = some (act.map nat)
 hleft : H[lf]? = some (left.map pr)
 hfw : H[fw]? = some (fwx.map nat)
 nla : la ∉ f :: dn :: rd :: bs
 nlf : lf ∉ f :: dn :: rd :: bs
 nfw : fw ∉ f :: dn :: rd :: bs
 d1 : la ≠ lf
 d2 : la ≠ fw
 d3 : lf ≠ fw
 new : H0.length <= fw
section
variable {c : Cx} {q : Bool} {d : Nat} {Q : V -> Hp -> Prop} {E : XPost} {H : Hp} {f dn rd lf la fw : Nat} {bs bs' : List Nat} {s s' : PS} {left : List (Nat × Nat)} {act fwx : List Nat} {H0 H' : Hp} {bs0 : List Nat}
theorem ThinSt.push (T : ThinSt H f dn rd lf la fw bs s left act fwx H0 bs0) {x : Nat} : ThinSt (H.set fw (fwx.map nat ++ [.int x])) f dn rd lf la fw bs s left act (fwx ++ [x]) H0 bs0 :=
 ⟨T.kept.set T.nfw (.inr T.new), zcr T.hact T.d2, zcr T.hleft T.d3, (by rw [zbb]; exact zga T.hfw), T.nla, T.nlf, T.nfw, T.d1, T.d2, T.d3, T.new⟩
theorem ThinSt.leave (T : ThinSt H f dn rd lf la fw bs s left act fwx H0 bs0) {p : Nat × Nat} : ThinSt (H.set lf (left.map pr ++ [pr p])) f dn rd lf la fw bs s (left ++ [p]) act fwx H0 bs0 :=
 ⟨T.kept.set T.nlf (.inl zae), zcr T.hact T.d1, (by rw [zbb]; exact zga T.hleft), zcr T.hfw (Ne.symm T.d3), T.nla, T.nlf, T.nfw, T.d1, T.d2, T.d3, T.new⟩
theorem ThinSt.more (T : ThinSt H f dn rd lf la fw bs s left act fwx H0 bs0) {xs : List V} : ThinSt (H ++ [xs]) f dn rd lf la fw bs s left act fwx H0 bs0 :=
 ⟨T.kept.app, zcz T.hact, zcz T.hleft, zcz T.hfw, T.nla, T.nlf, T.nfw, T.d1, T.d2, T.d3, T.new⟩
theorem out4 {x : Nat} (hx : x < H.length) (hn : x ∉ f :: dn :: rd :: bs) (hnew : ∀ b ∈ bs', b ∈ bs \/ H.length <= b) : x ∉ f :: dn :: rd :: bs' :=
 not4 (fun e => hn (e ▸ m1)) (fun e => hn (e ▸ m2)) (fun e => hn (e ▸ m3)) fun h => (hnew x h).elim (fun h => hn (m4 h)) fun h => Nat.not_lt.mpr h hx
theorem ThinSt.place (T : ThinSt H f dn rd lf la fw bs s left act fwx H0 bs0) (K : KeptB H0 f dn rd bs0 [lf] s' bs' H') (st : Stay (f :: dn :: rd :: bs) H H') (hnew : ∀ b ∈ bs', b ∈ bs \/ H.length <= b) : ThinSt H' f dn rd lf la fw bs' s' left act fwx H0 bs0 :=
 ⟨K, st.at T.hact T.nla, st.at T.hleft T.nlf, st.at T.hfw T.nfw, out4 (zco T.hact) T.nla hnew, out4 (zco T.hleft) T.nlf hnew, out4 (zco T.hfw) T.nfw hnew, T.d1, T.d2, T.d3, T.new⟩
inductive ThinInv (H : Hp) (f dn rd la lf : Nat) (bs : List Nat) (s : PS) (left : List (Nat × Nat)) (act : List Nat) (cell : Int) (m : Nat) : Loc -> Hp -> Prop
 | mk (k sp : Nat) (pl lfx : List (Nat × Nat)) (fwx bs' : List Nat) (H' : Hp) (hmk : m + k = act.length)
   (hth : thin (zfa cell) 0 0 act = (pl ++ (thin (zfa cell) k sp (act.drop k)).1, lfx ++ (thin (zfa cell) k sp (act.drop k)).2.1, fwx ++ (thin (zfa cell) k sp (act.drop k)).2.2))
   (hf0 : fwx = [] -> sp = 0) (hf1 : fwx ≠ [] -> fwx.getLast? = some (sp - 1) /\ sp ≠ 0) (hll : lfx.length <= k) (hpl : pl.length <= k) (hfl : fwx.length <= k)
   (T : ThinSt H' f dn rd lf la H.length bs' (s.puts pl) (left ++ lfx) act fwx H bs) :
   ThinInv H f dn rd la lf bs s left act cell m [some (.lst f), some (.lst la), some (.int cell), some (.lst dn), some (.lst rd), some (.lst lf), some (.lst H.length), some (.int (k : Nat))] H'
theorem zqd {m n k m' : Nat} (hm : m = n - k) (hlt : k < n) (h : m <= m') : m - 1 < m' /\ m - 1 + (k + 1) = n := by exact Ar.ar3 [_,_,_,_] [] 0x31868214a000c20500610000000d04294a000c20700610280308020000a5294001840b00c20400610100308000284000944118463294a50008102403080c01840400c20080a100025104611a08528003081201840000003410a5294a50008103003081a01840e00c20500810180308020000a528003081801840800c20000a10002510461 (Y6 (Y1 (Y2 V0 J1) V1) (Y2 (Y0 (Y2 V0 J1) (Y0 V2 J1)) V3)) (Y2 V0 (Y2 V3 V2)) (Y1 V2 V3) (Y0 V0 V1) hm hlt h
theorem zfr {cell : Int} {m kk x : Nat} {pl lfx : List (Nat × Nat)} {H3 : Hp} {Qx : SPost} {Ex : SX} (hm : m = act.length - kk) (hx : act[kk]? = some x)
  (hth : thin (zfa cell) 0 0 act = (pl ++ (thin (zfa cell) (kk + 1) (x + 1) (act.drop (kk + 1))).1, lfx ++ (thin (zfa cell) (kk + 1) (x + 1) (act.drop (kk + 1))).2.1, fwx ++ x :: (thin (zfa cell) (kk + 1) (x + 1) (act.drop (kk + 1))).2.2))
  (hll : lfx.length <= kk + 1) (hpl : pl.length <= kk + 1) (hfl : fwx.length <= kk) (hz : act.length <= 64) (T : ThinSt H3 f dn rd lf la H.length bs' (s.puts pl) (left ++ lfx) act fwx H bs) {m' : Nat} (hm' : m <= m') :
  wpSs (Calls c) true d none [.expr (.meth .append (.var 6) [(.idx (.var 1) (.var 7))]), .set 7 (.bin .add (.var 7) (.lit (.int 1)))] (Then (fun l' H'' => ∃ m, m < m' /\ ThinInv H f dn rd la lf bs s left act cell m l' H'') Qx) Ex
   [some (.lst f), some (.lst la), some (.int cell), some (.lst dn), some (.lst rd), some (.lst lf), some (.lst H.length), some (.int (kk : Nat))] H3 := by
 have hlt := zb7 hx
 refine Ss_go ?_
 walk_at "wps"
 refine ⟨rfl, ?_⟩
 walk_at "wps"
 refine Opt.mk (zek T.hact hx) ?_
 walk_at "wps"
 refine Opt.mk (zdg T.hfw (by rw [zaf]; exact za4 hfl (zav hlt (zac hz (by decide))))) ?_
 walk_at "wps"
 have hts := zqd hm hlt hm'
 refine ⟨m - 1, hts.1, .mk (kk + 1) (x + 1) pl lfx (fwx ++ [x]) bs' _ hts.2 (hth.trans (by rw [zbd]; rfl)) (fun h => absurd h (List.append_ne_nil_of_right_ne_nil _ (List.cons_ne_nil _ _)))
  (fun _ => ⟨List.getLast?_concat, Nat.succ_ne_zero _⟩) hll hpl (by rw [zan]; exact Nat.succ_le_succ hfl) T.push⟩
theorem zrd (P : Has c "_law_thinner" 6 8 zc3) (PP : Has c "_law_place" 5 6 zca) {js : List (Nat × Nat)} {n : Nat} {cell : Int}
  (B : Build H f dn rd bs s.lays s.done s.read) (L : Laid n s js) (hn : n <= 64) (ha : H[la]? = some (act.map nat)) (hlf : H[lf]? = some (left.map pr)) (nla : la ∉ f :: dn :: rd :: bs) (nlf : lf ∉ f :: dn :: rd :: bs) (hal : la ≠ lf)
  (hlt : ∀ p ∈ (thin (zfa cell) 0 0 act).1, p.1 < p.2 /\ p.2 < n) (hz : act.length <= 64) (hlz : left.length + act.length <= 200) (hsz : s.lays.length <= 800) (hc : q = true)
  (hq : ∀ bs' H' fw, ThinSt H' f dn rd lf la fw bs' (s.puts (thin (zfa cell) 0 0 act).1) (left ++ (thin (zfa cell) 0 0 act).2.1) act (thin (zfa cell) 0 0 act).2.2 H bs -> Q (.lst fw) H') :
  Calls c q (d + 2) "_law_thinner" [.lst f, .lst la, .int cell, .lst dn, .lst rd, .lst lf] none Q E H := by
 subst hc
 refine P true (d + 1) _ Q E H rfl (Ss_go ?_)
 walk_at "wps"
 have hbs := B.below
 have n0 : H.length ∉ f :: dn :: rd :: bs := fun h => za2 _ (hbs _ h)
 refine ⟨rfl, .mk (ThinInv H f dn rd la lf bs s left act cell) act.length (.mk 0 0 [] [] [] bs _ (Nat.add_zero _) rfl (fun _ => rfl) (fun h => absurd rfl h) (zad _) (zad _) (zad _)
  ⟨⟨B.keep fun x hx => zbi (hbs x hx), Stay.refl.app, fun b hb => .inl hb⟩, zcz ha, (by rw [za9]; exact zcz hlf), zb2, nla, nlf, n0, hal, zao (zco ha), zao (zco hlf), zad _⟩) ?_⟩
 intro m l' H' hI
 obtain ⟨k, sp, pl, lfx, fwx, bs', _, hmk, hth, hf0, hf1, hll, hpl, hfl, T⟩ := hI
 walk_at "wps"
 refine Opt.mk (zci T.hact) ?_
 walk_at "wps"
 rw [zaf]
 refine zb6 (fun hk => ?_) (fun hk => ?_)
 ·have hk := zam.mp hk
  have hx := zal hk
  have hm0 : act.length - k <= m := Nat.sub_le_of_le_add (za8 hmk.symm)
  have hm1 : act.length - (k + 1) <= m := zac (Nat.sub_le_sub_left (Nat.le_succ k) _) hm0
  have hdr := zbx hk
  generalize act[k] = x at hx hdr
  refine Ss_go ?_
  walk_at "wps"
  refine Opt.mk (zci T.hact) ?_
  walk_at "wps"
  rw [zaf]
  refine zb6 (fun hk1 => ?_) (fun hk1 => ?_)
  ·have hk1 : k + 1 < act.length := zam.mp hk1
   have hy := zal hk1
   have hdr2 := zbx hk1
   generalize act[k + 1] = y at hy hdr2
   walk_at "wps"
   refine zc0 pos1 ?_
   walk_at "wps"
   refine zcc (by decide) ?_
   walk_at "wps"
   refine zb6 (fun hcn => ?_) (fun hcn => ?_)
   ·have hct : zfa cell k = true := decide_eq_true hcn
    refine Ss_go ?_
    walk_at "wps"
    refine Opt.mk (zek T.hact hx) ?_
    walk_at "wps"
    refine Opt.mk (zek (i := k + 1) T.hact hy) ?_
    walk_at "wps"
    rw [hdr, hdr2, zjh, if_pos hct] at hth
    have hplt : ∀ p ∈ pl, p.1 < p.2 /\ p.2 < n := fun p hp => hlt p (by rw [hth]; exact List.mem_append_left _ hp)
    have hxy := hlt (x, y) (by rw [hth]; exact zby _ zae)
    have hpz := zen L hplt
    refine s_put PP T.kept (L.puts hplt) hn (lt900 hpz hsz (zac hpl (zac (zap hk) hz))) hxy.1 hxy.2 rfl fun bs'' H'' K'' st'' new'' => ?_
    have T1 := T.place K'' st'' new''
    rw [show (s.puts pl).put (x, y) = s.puts (pl ++ [(x, y)]) by rw [PS.puts_append]; rfl] at T1
    have T2 := T1.more (xs := [])
    refine Then_go (Ss_go ?_)
    walk_at "wps"
    refine Opt.mk (cmp_ne (eq_row T2.hfw (ys := []) zb2)) ?_
    have hpl' : (pl ++ [(x, y)]).length <= k + 1 + 1 := by rw [zan]; exact zbc (Nat.succ_le_succ hpl)
    refine Cond_not (fun hfw => ?_) (fun hfw => ?_)
    ·obtain ⟨hlast, hs0⟩ := hf1 hfw
     refine Ss_go ?_
     walk_at "wps"
     refine ⟨rfl, ?_⟩
     walk_at "wps"
     refine Opt.mk (zl5 T2.hfw (by rw [List.getLast?_map, hlast]; rfl)) ?_
     walk_at "wps"
     refine Opt.mk (zek T2.hact hx) ?_
     walk_at "wps"
     refine Opt.mk (zdg T2.hleft (by rw [zaf, zan]; exact za4 (Nat.add_le_add_left (zac hll (zap hk)) _) (za4 hlz (by decide)))) ?_
     have T3 := T2.leave (p := (sp - 1, x))
     rw [zbd] at T3
     walk_at "wps"
     refine zfr (kk := k + 1) rfl hy ?_ (by rw [zan]; exact zbc (Nat.succ_le_succ hll)) hpl' (zbc hfl) hz T3 hm1
     rw [hth, if_neg hs0, zbd, zbd]; rfl
    ·have hs0 := hf0 hfw
     walk_at "wps"
     refine zfr (kk := k + 1) rfl hy ?_ (zac hll (za7 _ 2)) hpl' (zbc hfl) hz T2 hm1
     rw [hth, hs0, zbd]; rfl
   ·have hct : ¬ zfa cell k = true := fun h => hcn (of_decide_eq_true h)
    walk_at "wps"
    refine zfr rfl hx ?_ (zbc hll) (zbc hpl) hfl hz T hm0
    rw [hth, hdr, hdr2, zjh, if_neg hct]
  ·have hk1 : ¬ k + 1 < act.length := fun h => hk1 (zam.mpr h)
   walk_at "wps"
   refine zfr rfl hx ?_ (zbc hll) (zbc hpl) hfl hz T hm0
   rw [hth, hdr, List.drop_eq_nil_of_le (zbh hk1)]
   rfl
 ·have hk := zbh fun h => hk (zam.mpr h)
  walk_at "wps"
  rw [List.drop_eq_nil_of_le hk] at hth
  have hth : _ = (pl, lfx, fwx) := hth.trans (by rw [thin_nil, za9, za9, za9])
  rw [hth] at hq
  exact hq bs' _ _ T
end
end Bn
namespace Bn
open PySem
section
variable {c : Cx} {q : Bool} {d : Nat} {Q : V -> Hp -> Prop} {E : XPost} {H : Hp}
theorem zll {a b : Int} {K : V × Hp -> Prop} (hb : small b = true) (h : K (.int (a * b), H)) : Opt (binV H .mul (.int a) (.int b)) K :=
 Opt.mk (if_pos (by rw [hb, Bool.or_true])) h
theorem zfx (n : Nat) : zc4 0 (n : Int) 1 = (List.range n).map nat := by
 have : (if 0 < (1 : Int) /\ 0 < (n : Int) then (((n : Int) - 0 - 1) / 1 + 1).toNat else 0) = n := by
  split <;> (first | exact Ar.ar2 [_,_] [_,_] 0x1904294001840300c2008000210a5294001840500c202006100803080000808041084294a50006101c04080801840200c200806010080210a529400184050102020081008030802008080 (Y2 V0 V1) (Y7 (Y5 (Y4 V0 J0) (Y0 V0 J1)) (Y6 (Y3 (Y0 V0 J1) J0) (Y2 V0 J0))) (Y6 (Y5 (Y0 (Y1 J1 V0) V1) (Y2 (Y2 (Y4 V1 J0) J0) J1)) (Y6 (Y3 J0 V1) (Y4 V1 J1))) (Ar.tn _) (Ar.zd _ (k := 1) (by decide)) | exact Ar.ar1 [_] [] 0x3140018400020a50006100403080002800308000 (Y2 J0 V0) (Y8 (Y6 (Y4 J0 J1) (Y4 J0 (Y4 V0 J0))) J0) (by assumption))
 rw [zc4, this]
 refine List.map_congr_left fun i _ => ?_
 rw [Int.mul_one, Int.zero_add]; rfl
theorem zkb {n : Nat} (h : n < 100000) : onQ true (bltV H .range [.int n]) = some (.rng 0 n 1, H) := if_pos (show (n : Int).natAbs < 2 ^ 31 by exact Ar.ar1 [_] [] 0xa5000610000308020 (Y1 V0 (.l 2147483648)) (Y1 V0 (.l 100000)) h)
theorem zno {n : Nat} (h : n < 100000) : onQ true (bltV H .list [.rng 0 n 1]) = some (.lst H.length, H ++ [(List.range n).map nat]) := by
 rw [<- zfx]
 exact if_pos (by rw [zfx, zaf, List.length_range]; exact zap (zar h (by decide)))
theorem zl4 {a : Nat} {xs : List V} (h : H[a]? = some xs) : onQ true (bltV H .list [.lst a]) = some (.lst H.length, H ++ [xs]) := by
 show (H[a]?).map _ = _
 rw [h]; rfl
theorem zlr {α : Type} (x : α) : ∀ n, rep [x] n = List.replicate n x
 | 0 => rfl
 | n + 1 => congrArg (x :: ·) (zlr x n)
theorem mul_zero {a n : Nat} (h : H[a]? = some [V.int 0]) (hn : n < 100000) : binV H .mul (.lst a) (.int n) = some (.lst H.length, H ++ [(List.replicate n 0).map nat]) := by
 show (H[a]?).bind _ = _
 rw [h]
 have h2 : (n : Int).toNat * [V.int 0].length <= sizeLine := by
  rw [Int.toNat_natCast]
  exact zac (za8 (Nat.mul_one n)) (zap (zar hn (by decide)))
 refine (if_pos ⟨zbe n, za6.mpr (zac (zap hn) (by decide)), h2⟩).trans ?_
 ·rw [Int.toNat_natCast, zlr, List.map_replicate]; rfl
theorem zdl {a b : Nat} {xs ys : List V} (ha : H[a]? = some xs) (hb : H[b]? = some ys) (hz : xs.length + ys.length < 100000) : binV H .add (.lst a) (.lst b) = some (.lst H.length, H ++ [xs ++ ys]) := by
 show (H[a]?).bind _ = _
 rw [ha]
 show (H[b]?).bind _ = _
 rw [hb]
 exact if_pos (zap (zar hz (by decide)))
theorem zkk {i n : Nat} : zha (i : Int) n = min i n := by
 rw [zha, if_neg (Int.not_lt.mpr (zbe i)), Int.toNat_natCast]
theorem zml {a i : Nat} {xs : List V} (ha : H[a]? = some xs) : zjm H (.lst a) .none (.int i) = some (.lst H.length, H ++ [xs.take i]) := by
 show (H[a]?).bind _ = _
 rw [ha, List.take_eq_take_min, <- zkk]; rfl
theorem zih {a i : Nat} {xs : List V} (ha : H[a]? = some xs) : zjm H (.lst a) (.int i) .none = some (.lst H.length, H ++ [xs.drop i]) := by
 show (H[a]?).bind _ = _
 rw [ha]
 show some (V.lst H.length, H ++ [(xs.drop (zha i xs.length)).take (xs.length - zha i xs.length)]) = _
 rw [zkk, List.take_of_length_le (by rw [zbo]; exact zad _)]
 by_cases h : i <= xs.length
 ·rw [Nat.min_eq_left h]
 ·have h := Nat.le_of_not_le h
  rw [Nat.min_eq_right h, List.drop_of_length_le (zad _), List.drop_of_length_le h]
end
structure Rows (H H' : Hp) (cs : List Nat) (ys : List (List V)) : Prop where
 st : Stay [] H H'
 len : cs.length = ys.length
 hold : ∀ (i b : Nat) (y : List V), cs[i]? = some b -> ys[i]? = some y -> H'[b]? = some y
 fr : ∀ b ∈ cs, H.length <= b /\ b < H'.length
 nd : cs.Nodup
theorem Rows.nil {H : Hp} : Rows H H [] [] := ⟨Stay.refl, rfl, (fun _ _ _ h => nomatch h), (fun _ h => nomatch h), List.nodup_nil⟩
theorem at0 {H H' : Hp} (st : Stay [] H H') {a : Nat} {xs : List V} (h : H[a]? = some xs) : H'[a]? = some xs := st.at h za5
theorem Stay.trans0 {H H' H'' : Hp} (h : Stay [] H H') (h' : Stay [] H' H'') : Stay [] H H'' := h.trans h' fun _ m => nomatch m
theorem Rows.snoc {H H' H'' : Hp} {cs : List Nat} {ys : List (List V)} {b : Nat} {y : List V} (R : Rows H H' cs ys) (st : Stay [] H' H'') (hb : H''[b]? = some y) (hn : H'.length <= b) : Rows H H'' (cs ++ [b]) (ys ++ [y]) := by
 refine ⟨R.st.trans0 st, ?_, fun i b' y' h1 h2 => ?_, fun b' hb' => ?_, ?_⟩
 ·rw [zan, zan, R.len]; rfl
 ·rcases zeu h1 with h1 | ⟨e, rfl⟩
  ·rcases zeu h2 with h2 | ⟨e, rfl⟩
   ·exact at0 st (R.hold i b' y' h1 h2)
   ·exact absurd (zb7 h1) (by rw [e, R.len]; exact za2 _)
  ·rcases zeu h2 with h2 | ⟨_, rfl⟩
   ·exact absurd (zb7 h2) (by rw [e, R.len]; exact za2 _)
   ·exact hb
 ·rcases zaq.mp hb' with h | h
  ·exact ⟨(R.fr b' h).1, zav (R.fr b' h).2 st.len⟩
  ·rw [zai.mp h]; exact ⟨zac R.st.len hn, zco hb⟩
 ·refine List.nodup_append.mpr ⟨R.nd, zbr.mpr ⟨za5, List.nodup_nil⟩, fun x hx z hz => ?_⟩
  rw [zai.mp hz]
  exact zao (zav (R.fr x hx).2 hn)
theorem ze9 {ok : Hp -> Prop} {f : V -> List V -> (List V -> Hp -> Prop) -> Hp -> Prop} {items : List V} {Q : List V -> Hp -> Prop} {H : Hp} (ys : List (List V)) (hlen : items.length = ys.length)
  (step : ∀ (i : Nat) x y acc H' (K : List V -> Hp -> Prop), items[i]? = some x -> ys[i]? = some y -> Stay [] H H' -> (∀ b H'', Stay [] H' H'' -> H''[b]? = some y -> H'.length <= b -> K (acc ++ [.lst b]) H'') -> f x acc K H')
  (hok : ∀ H', Stay [] H H' -> ok H') (hend : ∀ cs H', Rows H H' cs ys -> Q (cs.map .lst) H') : zd0 ok f items [] Q H := by
 refine ze3 (I := fun i acc H' => ∃ cs, acc = cs.map V.lst /\ Rows H H' cs (ys.take i)) (fun i x acc H' K hx hI hK => ?_) (fun acc H' hI => ?_) ⟨[], rfl, Rows.nil⟩
 ·obtain ⟨cs, rfl, R⟩ := hI
  have hi : i < ys.length := hlen ▸ zb7 hx
  have hy := zal hi
  refine step i x _ _ H' K hx hy R.st fun b H'' st hb hn => ?_
  have R' := R.snoc st hb hn
  refine hK _ _ (hok _ R'.st) ⟨cs ++ [b], by rw [zbb]; rfl, ?_⟩
  rw [List.take_add_one, hy]; exact R'
 ·obtain ⟨cs, rfl, R⟩ := hI
  rw [hlen, List.take_length] at R
  exact hend cs H' R
theorem Rows.net {H H' : Hp} {cs : List Nat} {net : Net} (R : Rows H H' cs (net.map fun y => y.map pr)) : NetAt (H' ++ [cs.map .lst]) H'.length cs net :=
 ⟨zb2, R.len.trans (zaf ..), fun i b y h1 h2 => zcz (R.hold i b _ h1 (by rw [zay, h2]; rfl))⟩
end Bn
namespace Bn
open PySem
structure TelSt (H0 H : Hp) (f dn rd lf : Nat) (bs : List Nat) (s : PS) (left : List (Nat × Nat)) : Prop where
 build : Build H f dn rd bs s.lays s.done s.read
 hleft : H[lf]? = some (left.map pr)
 nlf : lf ∉ f :: dn :: rd :: bs
 stay : Stay [] H0 H
 fresh : ∀ b ∈ f :: dn :: rd :: bs, H0.length <= b
 freshL : H0.length <= lf
structure GrAt (H : Hp) (g : Nat) (rs : List Nat) (gs : List (List Nat)) : Prop where
 top : H[g]? = some (rs.map .lst)
 len : rs.length = gs.length
 gr : ∀ (i r : Nat) (y : List Nat), rs[i]? = some r -> gs[i]? = some y -> H[r]? = some (y.map nat)
section
variable {H H0 H' : Hp} {f dn rd lf : Nat} {bs bs' : List Nat} {s s' : PS} {left left' : List (Nat × Nat)}
theorem TelSt.freshB (T : TelSt H0 H f dn rd lf bs s left) (hnew : ∀ b ∈ bs', b ∈ bs \/ H.length <= b) : ∀ b ∈ f :: dn :: rd :: bs', H0.length <= b :=
 mem4 (T.fresh _ m1) (T.fresh _ m2) (T.fresh _ m3) fun b hb => (hnew b hb).elim (fun h => T.fresh _ (m4 h)) fun h => zac T.stay.len h
theorem TelSt.place (T : TelSt H0 H f dn rd lf bs s left) (B : Build H' f dn rd bs' s'.lays s'.done s'.read) (st : Stay (f :: dn :: rd :: bs) H H') (hnew : ∀ b ∈ bs', b ∈ bs \/ H.length <= b) : TelSt H0 H' f dn rd lf bs' s' left :=
 ⟨B, st.at T.hleft T.nlf, out4 (zco T.hleft) T.nlf hnew, T.stay.trans st fun x hx => .inr (T.fresh x hx), T.freshB hnew, T.freshL⟩
theorem TelSt.thin {la fw : Nat} {act fwx : List Nat} (T : TelSt H0 H f dn rd lf bs s left) (K : ThinSt H' f dn rd lf la fw bs' s' left' act fwx H bs) : TelSt H0 H' f dn rd lf bs' s' left' :=
 ⟨K.kept.build, K.hleft, K.nlf, T.stay.trans K.kept.stay fun x hx => .inr ((zak.mp hx).elim (fun e => e ▸ T.freshL) (T.fresh x)), T.freshB K.kept.new, T.freshL⟩
noncomputable def OffB (f dn rd : Nat) (bs rs : List Nat) : Prop := ∀ r ∈ rs, r ∉ f :: dn :: rd :: bs
theorem GrAt.lt {g : Nat} {rs : List Nat} {gs : List (List Nat)} (G : GrAt H g rs gs) : ∀ r ∈ rs, r < H.length := by
 intro r hr
 obtain ⟨i, hi, rfl⟩ := zbu.mp hr
 exact zco (G.gr i _ _ (zal hi) (zal (G.len ▸ hi)))
theorem GrAt.stay {g : Nat} {rs : List Nat} {gs : List (List Nat)} (G : GrAt H g rs gs) (st : Stay (f :: dn :: rd :: bs) H H') (ap : OffB f dn rd bs (g :: rs)) : GrAt H' g rs gs :=
 ⟨st.at G.top (ap g zae), G.len, fun i r y h1 h2 => st.at (G.gr i r y h1 h2) (ap r (zaj _ (zaw h1)))⟩
end
noncomputable def tel3 : List St := [.ret (.comp (.comp (.tup [(.var 15), (.var 14)]) (.two 14 15) (.blt .sorted [(.var 13)]) []) (.one 13) (.var 2) [])]
noncomputable def tel2 : List St := .loop (.two 12 10) (.rev (.var 3)) [.expr (.call "_law_place" [(.var 2), (.var 12), (.var 10), (.var 4), (.var 5)])] :: tel3
noncomputable def telW : List St := [.set 0 (.bin .mod (.bin .mul (.var 0) (.lit (.int 16807))) (.lit (.int 2147483647))), .set 9 (.idx (.list [(.bin .mod (.bin .div (.var 0) (.lit (.int 3))) (.bin .sub (.blt .len [(.var 8)]) (.lit (.int 1)))), (.lit (.int 0)), (.bin .sub (.blt .len [(.var 8)]) (.lit (.int 2)))]) (.bin .mod (.var 0) (.lit (.int 3)))), .loop (.one 10) (.val (.idx (.var 8) (.bin .add (.var 9) (.lit (.int 1))))) [.expr (.call "_law_place" [(.var 2), (.idx (.idx (.var 8) (.var 9)) (.neg (.lit (.int 1)))), (.var 10), (.var 4), (.var 5)])], .set 11 (.bin .add (.idx (.var 8) (.var 9)) (.idx (.var 8) (.bin .add (.var 9) (.lit (.int 1))))), .set 8 (.bin .add (.bin .add (.slice (.var 8) (.lit .none) (.var 9)) (.list [(.var 11)])) (.slice (.var 8) (.bin .add (.var 9) (.lit (.int 2))) (.lit .none)))]
noncomputable def tel1 : List St := .whil (.cmp (.blt .len [(.var 8)]) [.gt] [(.lit (.int 1))]) telW :: tel2
noncomputable def tel0 : List St := .set 8 (.comp (.list [(.var 13)]) (.one 13) (.var 6) []) :: tel1
noncomputable def telT : List St := .loop (.one 7) (.val (.blt .range [(.bin .mod (.var 0) (.lit (.int 4)))])) [.set 6 (.call "_law_thinner" [(.var 2), (.var 6), (.bin .div (.bin .div (.var 0) (.lit (.int 4))) (.bin .add (.lit (.int 1)) (.var 7))), (.var 4), (.var 5), (.var 3)])] :: tel0
theorem tel_eq : zdp = .set 0 (.bin .mod (.bin .mul (.var 0) (.lit (.int 48271))) (.lit (.int 2147483647))) :: .set 2 (.list []) :: .set 3 (.list []) :: .set 4 (.bin .mul (.list [(.lit (.int 0))]) (.var 1)) :: .set 5 (.bin .mul (.list [(.lit (.int 0))]) (.var 1)) :: .set 6 (.blt .list [(.blt .range [(.var 1)])]) :: telT := rfl
section
variable {c : Cx} {d : Nat} {R : SPost} {E : SX} {H H0 : Hp}
noncomputable def sw (p : Nat × Nat) : Int × Int := (p.2, p.1)
theorem zmt : ∀ z : List (Nat × Nat), zh4 (z.map fl) = some (z.map sw)
 | [] => rfl
 | p :: r => by
  show (zh4 (r.map fl)).map _ = _
  rw [zmt r]; rfl
theorem zm9 {a b : Nat} : decide ((a : Int) < b) = decide (a < b) := decide_eq_decide.mpr zam
theorem zog {a b : Nat} : decide ((a : Int) <= b) = decide (a <= b) := decide_eq_decide.mpr za6
theorem sw_le (a b : Nat × Nat) : hiLe a b = zdu (sw a) (sw b) := by
 refine Eq.symm ((show _ = (decide ((a.2 : Int) < b.2) || (decide ((a.2 : Int) = b.2) && decide ((a.1 : Int) <= b.1))) from rfl).trans ?_)
 rw [zm9, zi9, zog]; rfl
theorem zon {b n : Nat} {y : List (Nat × Nat)} (hb : H[b]? = some (y.map fl)) (hy : ∀ p ∈ y, p.1 < p.2 /\ p.2 < n) (hn : n <= 64) (hnd : (y.map (·.2)).Nodup) : onQ true (bltV H .sorted [.lst b]) = some (.lst H.length, H ++ [(zfz y).map fl]) := by
 have hlt : y.length < 64 := by
  have := zeb (n := n - 1) (xs := y.map fun p => p.2 - 1) ?_ ?_
  ·rw [zaf] at this
   cases y with
   | nil => decide
   | cons p r => have := hy p zae; exact Ar.ar2 [_,_] [] 0x68214a528003080c01840800c201806100000014a528003080801840500c20300610000508021 (Y1 V0 (.l 64)) (Y0 V1 (.l 64)) (Y0 V0 (Y2 V1 J1)) hn (by assumption)
  ·refine List.pairwise_map.mpr ((List.pairwise_map.mp hnd).imp_of_mem ?_)
   intro a b ha hb hne
   have := hy a ha; have := hy b hb
   exact Ar.ar3 [_,_,_,_,_] [] 0x38d03210a5294a000c206806102803080801840200c2008080400a100023214a528003081001840400c20100610000801420004a10042340c84214a5294001840c00c20300810100308040184010180c0200508021190a5294001840800c20200610080408000400a10042508001 (Y8 (Y2 (Y2 V0 J1) (Y2 V1 J1)) J0) (Y8 (Y2 V0 V1) J0) (Y1 V2 V1) (Y6 (Y1 V3 V0) (Y1 V0 V4)) hne this.1 (by assumption)
  ·intro x hx
   obtain ⟨p, hp, rfl⟩ := zas.mp hx
   have := hy p hp
   exact Ar.ar2 [_,_,_] [] 0x1a064294a528003081201840a00c205806100c0308020180a100423294a50006101c03081201840300c20080a10042508001 (Y1 (Y2 V0 J1) (Y2 V1 J1)) (Y1 V2 V0) (Y1 V0 V1) this.1 this.2
 have e2 : zjq (y.map sw) = true := by
  refine zag.mpr ⟨zag.mpr ⟨decide_eq_true (by rw [zaf]; exact hlt), decide_eq_true ?_⟩, zba.mpr ?_⟩
  ·exact List.pairwise_map.mpr ((List.pairwise_map.mp hnd).imp fun hne e => hne (Int.ofNat_inj.mp (congrArg Prod.fst e)))
  ·intro x hx
   obtain ⟨p, hp, rfl⟩ := zas.mp hx
   have h2 := zav (hy p hp).2 hn
   exact zag.mpr ⟨decide_eq_true (zar h2 (by decide)), decide_eq_true (zar (zar (hy p hp).1 h2) (by decide))⟩
 have e3 : ((y.map sw).mergeSort zdu).map zg7 = (zfz y).map fl := by
  rw [<- List.map_mergeSort (r := hiLe) (s := zdu) (f := sw) (l := y) (fun a _ b _ => sw_le a b), List.map_map]
  rfl
 show (H[b]?).bind _ = _
 rw [hb]
 show (zh4 (y.map fl)).bind _ = _
 rw [zmt, <- e3]
 exact if_pos e2
theorem zf9 {a : Nat} {xs : List V} (h : H[a]? = some xs) : onQ true (srcV H (.lst a)) = some xs := h
theorem zdv {n : Nat} (h : n < 100000) : n <= sizeLine := zap (zar h (by decide))
theorem tel3_ok {f dn rd n : Nat} {bs : List Nat} {s : PS} {js : List (Nat × Nat)} {l0 l1 l3 l4 l5 l6 l7 l8 l9 l10 l11 l12 l13 l14 l15 : Option V} (B : Build H f dn rd bs s.lays s.done s.read) (L : Laid n s js) (hn : n <= 64) (hz : s.lays.length <= 900)
  (hq : ∀ a bs' H' l', NetAt H' a bs' (s.lays.map zfz) -> Stay [] H H' -> (∀ b ∈ a :: bs', H.length <= b) -> (a :: bs').Nodup -> R (.ret (.lst a)) l' H') :
  wpSs (Calls c) true d none tel3 R E [l0, l1, some (.lst f), l3, l4, l5, l6, l7, l8, l9, l10, l11, l12, l13, l14, l15] H := by
 refine Ss_go ?_
 walk_at "wps"
 refine Opt.mk (zf9 B.F) ⟨zdv (by rw [zaf, B.len]; exact Ar.ar1 [_] [] 0xa5000610000308020 (Y1 V0 (.l 100000)) (Y0 V0 (.l 900)) hz), ?_⟩
 refine ze9 ((s.lays.map zfz).map fun y => y.map pr) ?_ ?_ (fun H' st => at0 st B.F) ?_
 ·rw [zaf, zaf, zaf, B.len]
 ·intro i x y' acc H' K hx hy' st hK
  rw [List.map_map, zay] at hy'
  obtain ⟨y, hy, rfl⟩ := zah.mp hy'
  rw [zay] at hx
  obtain ⟨b, hb, rfl⟩ := zah.mp hx
  have hm := zaw hy
  have hyz := L.wide y hm
  walk_at "wps"
  refine Opt.mk (zon (at0 st (B.L i b y hb hy)) (fun p hp => (L.hi i y hy p hp).2.2) hn (L.nd y hm)) ?_
  walk_at "wps"
  refine Opt.mk (zf9 zb2) ⟨zdv (by rw [zaf, <- (zdt y).length_eq]; exact Ar.ar2 [_,_] [] 0x294a000c20000610040308040 (Y1 V0 (.l 100000)) (Y0 V1 (.l 64)) (Y0 V0 V1) hn hyz), ?_⟩
  refine ze3 (I := fun j acc2 H2 => H2 = H' ++ [(zfz y).map fl] /\ acc2 = ((zfz y).take j).map pr) ?_ ?_ ⟨rfl, rfl⟩
  ·rintro j x2 acc2 H2 K2 hx2 ⟨rfl, rfl⟩ hK2
   rw [zay] at hx2
   obtain ⟨p, hp, rfl⟩ := zah.mp hx2
   unfold fl
   walk_at "wps"
   refine hK2 _ _ zb2 ⟨rfl, ?_⟩
   rw [List.take_add_one, hp, zbb]; rfl
  ·rintro acc2 H2 ⟨rfl, rfl⟩
   rw [zaf, List.take_length]
   exact hK _ _ Stay.refl.app.app zb2 (Stay.refl (S := [])).app.len
 ·intro cs H' RR
  exact hq _ cs _ _ RR.net RR.st.app (zau.mpr ⟨RR.st.len, fun b hb => (RR.fr b hb).1⟩) (zbr.mpr ⟨fun h => za2 _ (RR.fr _ h).2, RR.nd⟩)
end
end Bn
namespace Bn
open PySem
structure New (H : Hp) (a : Nat) (xs : List V) (H' : Hp) : Prop where
 st : Stay [] H H'
 hold : H'[a]? = some xs
 lo : H.length <= a
theorem New.mk0 {H : Hp} {xs : List V} : New H H.length xs (H ++ [xs]) := ⟨Stay.refl.app, zb2, zad _⟩
theorem zch {H : Hp} {o : Option (V × Hp)} {xs : List V} {K : V × Hp -> Prop} (h : o = some (.lst H.length, H ++ [xs])) (k : ∀ a H', New H a xs H' -> K (.lst a, H')) : Opt o K := Opt.mk h (k _ _ .mk0)
section
variable {c : Cx} {d : Nat} {R : SPost} {E : SX} {H H0 H' : Hp} {f dn rd lf g : Nat} {bs bs' rs : List Nat} {s : PS} {left : List (Nat × Nat)} {gs : List (List Nat)}
theorem TelSt.grow (T : TelSt H0 H f dn rd lf bs s left) (st : Stay [] H H') : TelSt H0 H' f dn rd lf bs s left :=
 ⟨T.build.keep fun x hx => st.same x (T.build.below x hx) za5, at0 st T.hleft, T.nlf, T.stay.trans0 st, T.fresh, T.freshL⟩
inductive Tel2Inv (H0 : Hp) (f dn rd lf : Nat) (s : PS) (left : List (Nat × Nat)) (l0 l1 l6 l7 l8 l9 l11 l13 l14 l15 : Option V) : List (Nat × Nat) -> Loc -> Hp -> Prop
 | mk (r ks : List (Nat × Nat)) (v10 v12 : Option V) (bs : List Nat) (H : Hp) (he : ks ++ r = left.reverse) (T : TelSt H0 H f dn rd lf bs (s.puts ks) left) :
   Tel2Inv H0 f dn rd lf s left l0 l1 l6 l7 l8 l9 l11 l13 l14 l15 r [l0, l1, some (.lst f), some (.lst lf), some (.lst dn), some (.lst rd), l6, l7, l8, l9, v10, l11, v12, l13, l14, l15] H
theorem tel2_ok (PP : Has c "_law_place" 5 6 zca) {n : Nat} {js : List (Nat × Nat)} {l0 l1 l6 l7 l8 l9 l10 l11 l12 l13 l14 l15 : Option V} (T : TelSt H0 H f dn rd lf bs s left) (L : Laid n s js) (hn : n <= 64) (hz : s.lays.length + left.length <= 800)
  (hlt : ∀ p ∈ left.reverse, p.1 < p.2 /\ p.2 < n)
  (hq : ∀ a bs' H' l', NetAt H' a bs' ((s.puts left.reverse).lays.map zfz) -> Stay [] H0 H' -> (∀ b ∈ a :: bs', H0.length <= b) -> (a :: bs').Nodup -> R (.ret (.lst a)) l' H') :
  wpSs (Calls c) true (d + 1) none tel2 R E [l0, l1, some (.lst f), some (.lst lf), some (.lst dn), some (.lst rd), l6, l7, l8, l9, l10, l11, l12, l13, l14, l15] H := by
 refine Ss_go ?_
 walk_at "wps"
 refine ⟨rfl, Sr_rev (a := lf) (items := left.map pr) (fun K E' h => h) T.hleft ?_⟩
 rw [<- List.map_reverse]
 refine zet (Tel2Inv H0 f dn rd lf s left l0 l1 l6 l7 l8 l9 l11 l13 l14 l15) ?_ ?_ (.mk _ [] _ _ bs _ rfl T)
 ·intro p r l' H' K hI hnext hret
  obtain ⟨ks, v10, v12, bs, _, he, T⟩ := hI
  have hpm := hlt p (by rw [<- he]; exact zby _ zae)
  have htk : ∀ p ∈ ks, p.1 < p.2 /\ p.2 < n := fun p hp => hlt p (by rw [<- he]; exact List.mem_append_left _ hp)
  have hlen := zen L htk
  have hl := congrArg List.length he
  rw [zan, List.length_reverse] at hl
  refine Opt.mk rfl (Ss_go ?_)
  walk_at "wps"
  refine s_put PP (H0 := H') (bs0 := bs) (X := []) ⟨T.build, Stay.refl, fun b hb => .inl hb⟩ (L.puts htk) hn (by exact Ar.ar3 [_,_,_,_,_] [] 0xa5294001840000c20080610080308060 (Y1 V0 (.l 900)) (Y0 (Y0 V1 V2) (.l 800)) (Y0 V0 (Y0 V1 V3)) (Y2 (Y0 V3 V4) V2) hz hlen hl) hpm.1 hpm.2 rfl fun bs'' H'' K'' st'' new'' => ?_
  have T2 := T.place K''.build st'' new''
  rw [show (s.puts ks).put (p.1, p.2) = s.puts (ks ++ [p]) by rw [PS.puts_append]; rfl] at T2
  exact hnext _ _ T2.hleft (.mk _ (ks ++ [p]) _ _ bs'' _ (by rw [zbd]; exact he) T2)
 ·intro l' H' hI
  obtain ⟨ks, v10, v12, bs, _, he, T⟩ := hI
  rw [za9] at he
  subst he
  have hlen := zen L hlt
  rw [List.length_reverse] at hlen
  exact tel3_ok T.build (L.puts hlt) hn (by exact Ar.ar2 [_,_,_] [] 0x294a000c20000610040308040 (Y0 V0 (.l 900)) (Y0 (Y0 V1 V2) (.l 800)) (Y0 V0 (Y0 V1 V2)) hz hlen) fun a cs H'' l'' N st fr nd => hq a cs H'' l'' N (T.stay.trans0 st) (fun b hb => zac T.stay.len (fr b hb)) nd
structure GrSt (H : Hp) (f dn rd g : Nat) (bs rs : List Nat) (gs : List (List Nat)) : Prop where
 gr : GrAt H g rs gs
 apart : OffB f dn rd bs (g :: rs)
theorem GrAt.grow (G : GrAt H g rs gs) (st : Stay [] H H') : GrAt H' g rs gs := ⟨at0 st G.top, G.len, fun i r y h1 h2 => at0 st (G.gr i r y h1 h2)⟩
theorem GrSt.grow (G : GrSt H f dn rd g bs rs gs) (st : Stay [] H H') : GrSt H' f dn rd g bs rs gs := ⟨G.gr.grow st, G.apart⟩
theorem GrSt.place (G : GrSt H f dn rd g bs rs gs) (st : Stay (f :: dn :: rd :: bs) H H') (hnew : ∀ b ∈ bs', b ∈ bs \/ H.length <= b) : GrSt H' f dn rd g bs' rs gs :=
 ⟨G.gr.stay st G.apart, fun r hr => out4 ((zak.mp hr).elim (fun e => e ▸ zco G.gr.top) (G.gr.lt r)) (G.apart r hr) hnew⟩
inductive GrIt (H : Hp) (g i : Nat) (rs : List Nat) (y : List Nat) : Prop
 | mk (r : Nat) (hr : rs[i]? = some r) (hold : H[r]? = some (y.map nat)) (ix : idxV H (.lst g) (.int i) = some (.lst r)) : GrIt H g i rs y
theorem GrAt.at {i : Nat} (G : GrAt H g rs gs) {y : List Nat} (h : gs[i]? = some y) : GrIt H g i rs y :=
 have hr := zal (show i < rs.length from G.len ▸ zb7 h)
 ⟨_, hr, G.gr i _ y hr h, zds G.top (zlq hr)⟩
theorem GrAt.merge {g' i M : Nat} {y : List Nat} (G : GrAt H g rs gs) (hi : i + 1 < gs.length) (hM : H[M]? = some (y.map nat)) (top : H[g']? = some ((rs.take i ++ M :: rs.drop (i + 2)).map V.lst)) :
  GrAt H g' (rs.take i ++ M :: rs.drop (i + 2)) (gs.take i ++ y :: gs.drop (i + 2)) := by
 have hl := G.len
 have hle := zap (Nat.lt_of_succ_lt hi)
 have l1 : (rs.take i).length = i := List.length_take_of_le (zac hle (za8 hl.symm))
 have l2 : (gs.take i).length = i := List.length_take_of_le hle
 refine ⟨top, ?_, fun j r z h1 h2 => ?_⟩
 ·rw [zan, zan, l1, l2, zbg, zbg, zbo, zbo, hl]
 rcases Nat.lt_trichotomy j i with h | h | h
 ·rw [zbi (by rw [l1]; exact h), List.getElem?_take, if_pos h] at h1
  rw [zbi (by rw [l2]; exact h), List.getElem?_take, if_pos h] at h2
  exact G.gr j r z h1 h2
 ·subst h
  rw [zbk (by rw [l1]; exact zad _), l1, Nat.sub_self] at h1
  rw [zbk (by rw [l2]; exact zad _), l2, Nat.sub_self] at h2
  cases h1; cases h2
  exact hM
 ·rw [zbk (by rw [l1]; exact zap h), l1, show j - i = (j - i - 1) + 1 from (Nat.sub_add_cancel (Nat.sub_pos_of_lt h)).symm, List.getElem?_cons_succ, List.getElem?_drop] at h1
  rw [zbk (by rw [l2]; exact zap h), l2, show j - i = (j - i - 1) + 1 from (Nat.sub_add_cancel (Nat.sub_pos_of_lt h)).symm, List.getElem?_cons_succ, List.getElem?_drop] at h2
  exact G.gr _ r z h1 h2
theorem lt3c {t : Nat} (h : t < 3) : t = 0 \/ t = 1 \/ t = 2 := (Nat.lt_succ_iff_lt_or_eq.mp h).elim (fun h => (Nat.lt_succ_iff_lt_or_eq.mp h).elim (fun h => .inl (Nat.lt_one_iff.mp h)) fun h => .inr (.inl h)) fun h => .inr (.inr h)
theorem pick3 {cl : Int} {m : Nat} (hcl : 0 <= cl) (hm : 2 <= m) : ∃ i : Nat, i + 1 < m /\ idxV (H ++ [[V.int (cl / 3 % ((m : Int) - 1)), V.int 0, V.int ((m : Int) - 2)]]) (.lst H.length) (.int (cl % 3)) = some (.int i) := by
 obtain ⟨t, h⟩ := zh5 (x := cl) (y := 3) (by decide)
 have ht : t < 3 := zam.mp (h ▸ zbs cl (by decide))
 have hp : (0 : Int) < (m : Int) - 1 := Int.sub_pos_of_lt (zam.mpr hm)
 rw [h]
 rcases lt3c ht with rfl | rfl | rfl
 ·skip
  have a1 : 0 <= cl / 3 % ((m : Int) - 1) := Int.emod_nonneg _ (Int.ne_of_gt hp)
  have a2 : cl / 3 % ((m : Int) - 1) < (m : Int) - 1 := zbs _ hp
  refine ⟨(cl / 3 % ((m : Int) - 1)).toNat, by exact Ar.ar3 [_,_] [_] 0x490a528003080601840400c2008000294a000c200806100c0308000 (Y1 (Y0 V0 J1) V1) (Y0 J2 V1) (Y4 V0 (Y2 (Y4 V1 J0) J1)) (Y7 (Y5 (Y4 V0 J0) V0) (Y6 (Y3 V0 J0) (Y2 V0 J0))) hm a2 (Ar.tn _), ?_⟩
  rw [Int.toNat_of_nonneg a1]
  exact zds zb2 rfl
 ·exact ⟨0, hm, zds zb2 rfl⟩
 ·refine ⟨m - 2, Nat.lt_of_lt_of_eq (zbq _) (Nat.sub_add_cancel hm), ?_⟩
  rw [show ((m - 2 : Nat) : Int) = (m : Int) - 2 from Int.ofNat_sub hm]
  exact zds zb2 rfl
theorem zkf {B : Nat -> Nat} : ∀ {gs : List (List Nat)} {s : Nat}, zfl B s gs -> ∀ g ∈ gs, g.Nodup
 | [], _, _, _, hg => nomatch hg
 | _ :: _, _, h, g', hg' => (zak.mp hg').elim (fun e => e ▸ zil h.2.1) (h.2.2.elim fun _ q => zkf q.2 g')
theorem GInv.short {n M : Nat} (I : GInv n M s left gs) {y : List Nat} (hg : y ∈ gs) : y.length <= n := by
 obtain ⟨_, B1, _, _, C1, _⟩ := I.ex
 exact zeb (zkf C1 y hg) (I.lt y hg)
inductive Tel1Inv (H0 : Hp) (f dn rd lf n : Nat) (left : List (Nat × Nat)) (l1 l6 l7 l12 l13 l14 l15 : Option V) (m : Nat) : Loc -> Hp -> Prop
 | mk (cl : Int) (g : Nat) (bs rs : List Nat) (s : PS) (gs : List (List Nat)) (v9 v10 v11 : Option V) (H : Hp) (hm : m = gs.length) (hcl : 0 <= cl) (T : TelSt H0 H f dn rd lf bs s left) (G : GrSt H f dn rd g bs rs gs) (I : GInv n (n + 3) s left gs) :
   Tel1Inv H0 f dn rd lf n left l1 l6 l7 l12 l13 l14 l15 m [some (.int cl), l1, some (.lst f), some (.lst lf), some (.lst dn), some (.lst rd), l6, l7, some (.lst g), v9, v10, v11, l12, l13, l14, l15] H
inductive Tel1For (H0 : Hp) (f dn rd lf g : Nat) (rs : List Nat) (s : PS) (left : List (Nat × Nat)) (gs : List (List Nat)) (mm : Nat) (b : List Nat) (l0 l1 l6 l7 l9 l11 l12 l13 l14 l15 : Option V) : List Nat -> Loc -> Hp -> Prop
 | mk (r ks : List Nat) (v10 : Option V) (bs : List Nat) (H : Hp) (he : ks ++ r = b) (T : TelSt H0 H f dn rd lf bs (s.puts (ks.map fun y => (mm, y))) left) (G : GrSt H f dn rd g bs rs gs) :
   Tel1For H0 f dn rd lf g rs s left gs mm b l0 l1 l6 l7 l9 l11 l12 l13 l14 l15 r [l0, l1, some (.lst f), some (.lst lf), some (.lst dn), some (.lst rd), l6, l7, some (.lst g), l9, v10, l11, l12, l13, l14, l15] H
end
end Bn
namespace Bn
open PySem
section
variable {c : Cx} {d : Nat} {R : SPost} {E : SX} {H H0 H' : Hp} {f dn rd lf g : Nat} {bs bs' rs : List Nat} {s : PS} {left : List (Nat × Nat)} {gs : List (List Nat)}
theorem split2 {α : Type} {gs : List α} {i : Nat} {a b : α} (ha : gs[i]? = some a) (hb : gs[i + 1]? = some b) : gs = gs.take i ++ a :: b :: gs.drop (i + 2) := by
 obtain ⟨h1, rfl⟩ := zbj.mp ha
 obtain ⟨h2, rfl⟩ := zbj.mp hb
 rw [<- zbx h2, <- zbx h1, List.take_append_drop]
theorem tel1_ok (PP : Has c "_law_place" 5 6 zca) {n : Nat} {cl : Int} {l1 l6 l7 l9 l10 l11 l12 l13 l14 l15 : Option V} (hn : n <= 64) (hcl : 0 <= cl) (T : TelSt H0 H f dn rd lf bs s left) (G : GrSt H f dn rd g bs rs gs) (I : GInv n (n + 3) s left gs)
  (hq : ∀ a bs' H' l' net, Told n net -> NetAt H' a bs' net -> Stay [] H0 H' -> (∀ b ∈ a :: bs', H0.length <= b) -> (a :: bs').Nodup -> R (.ret (.lst a)) l' H') :
  wpSs (Calls c) true (d + 1) none tel1 R E [some (.int cl), l1, some (.lst f), some (.lst lf), some (.lst dn), some (.lst rd), l6, l7, some (.lst g), l9, l10, l11, l12, l13, l14, l15] H := by
 refine Ss_go ?_
 walk_at "wps"
 refine ⟨rfl, .mk (Tel1Inv H0 f dn rd lf n left l1 l6 l7 l12 l13 l14 l15) gs.length (.mk cl g bs rs s gs _ _ _ _ rfl hcl T G I) ?_⟩
 clear T G I hcl
 intro m l' H' hI
 obtain ⟨cl, g, bs, rs, s, gs, v9, v10, v11, _, rfl, hcl, T, G, I⟩ := hI
 walk_at "wps"
 refine Opt.mk (zci G.gr.top) ?_
 walk_at "wps"
 rw [zaf, G.gr.len]
 refine zb6 (fun h1 => ?_) (fun h1 => ?_)
 ·have h1 : 2 <= gs.length := zam.mp h1
  refine Ss_go ?_
  walk_at "wps"
  refine zll (by decide) ?_
  walk_at "wps"
  refine zcc (by decide) ?_
  walk_at "wps"
  generalize hcell : cl * 16807 % 2147483647 = cl'
  have hcl' : 0 <= cl' := hcell ▸ Int.emod_nonneg _ (by decide)
  refine zc0 (by decide) ?_
  walk_at "wps"
  refine Opt.mk (zci G.gr.top) ?_
  walk_at "wps"
  rw [zaf, G.gr.len]
  refine zcc (Int.sub_pos_of_lt (zam.mpr h1)) ?_
  walk_at "wps"
  refine Opt.mk (zci G.gr.top) ?_
  walk_at "wps"
  rw [zaf, G.gr.len]
  refine zcc (by decide) ?_
  walk_at "wps"
  obtain ⟨i, hi, hidx⟩ := pick3 (H := H') (m := gs.length) hcl' h1
  refine Opt.mk hidx ?_
  clear hidx hcell
  walk_at "wps"
  generalize hH1 : H' ++ [[V.int (cl' / 3 % ((gs.length : Int) - 1)), V.int 0, V.int ((gs.length : Int) - 2)]] = H1
  have st1 : Stay [] H' H1 := hH1 ▸ Stay.refl.app
  clear hH1
  have T1 := T.grow st1
  have G1 := G.grow st1
  have ha := zal (Nat.lt_of_succ_lt hi)
  have hb := zal hi
  generalize gs[i] = a at ha
  generalize gs[i + 1] = b at hb
  have I2 := I
  rw [split2 ha hb] at I2
  obtain ⟨mm, hmm, I3, hlt⟩ := I2.merge
  clear I2
  obtain ⟨js, B0, L, _⟩ := I.ex
  obtain ⟨rb, hrb, hrbH, hrbI⟩ := G1.gr.at hb
  have hbz := I.short (zaw hb)
  have hlayz := zac I.lay (zac (Nat.add_le_add_right hn 3) (show 64 + 3 <= 80 by decide))
  have hgz : gs.length <= 80 := zac (zac (Nat.le_add_left ..) (za7 ..)) hlayz
  have hsz : s.lays.length <= 800 := zac (zac (za7 ..) (za7 ..)) (zac hlayz (by decide))
  have hn80 := zac hn (show 64 <= 80 by decide)
  refine ⟨rfl, zj7 (v := .lst rb) (fun K E' h => Opt.mk hrbI h) hrbH ?_⟩
  refine zet (Tel1For H0 f dn rd lf g rs s left gs mm b (some (.int cl')) l1 l6 l7 (some (.int i)) v11 l12 l13 l14 l15) ?_ ?_ (.mk _ [] _ bs _ rfl T1 G1)
  ·clear T1 G1 st1 hrbH hrbI T G
   intro y r l' H2 K hI hnext hret
   obtain ⟨ks, v10, bs, _, he, T, G⟩ := hI
   obtain ⟨ra, hra, hraH, hraI⟩ := G.gr.at ha
   walk_at "wps"
   refine Opt.mk hraI ?_
   walk_at "wps"
   refine Opt.mk (zl5 hraH (by rw [List.getLast?_map, hmm]; rfl)) ?_
   walk_at "wps"
   have htk : ∀ p ∈ ks.map fun y => (mm, y), p.1 < p.2 /\ p.2 < n := fun p hp => hlt p (by rw [<- he, zbb]; exact List.mem_append_left _ hp)
   have hpm := hlt (mm, y) (by rw [<- he, zbb]; exact zby _ zae)
   have hl2 := zen L htk
   have hkz := congrArg List.length he
   rw [zan] at hkz
   rw [zaf] at hl2
   refine s_put PP (H0 := H2) (bs0 := bs) (X := []) ⟨T.build, Stay.refl, fun b hb => .inl hb⟩ (L.puts htk) hn (lt900 hl2 hsz (zac (hkz ▸ za7 ..) (zac hbz hn))) hpm.1 hpm.2 rfl fun bs'' H'' K'' st'' new'' => ?_
   have T3 := T.place K''.build st'' new''
   have G3 := G.place st'' new''
   rw [show (s.puts (ks.map fun y => (mm, y))).put (mm, y) = s.puts ((ks ++ [y]).map fun y => (mm, y)) by rw [zbb, PS.puts_append]; rfl] at T3
   obtain ⟨rb', hrb', hrbH', _⟩ := G3.gr.at hb
   obtain rfl := zaa (hrb.symm.trans hrb')
   exact hnext _ _ hrbH' (.mk _ (ks ++ [y]) _ bs'' _ (by rw [zbd]; exact he) T3 G3)
  ·clear T1 G1 st1 hrbH hrbI T G
   intro l' H2 hI
   obtain ⟨ks, v10, bs, _, he, T, G⟩ := hI
   rw [za9] at he
   subst he
   obtain ⟨ra, hra, hraH, hraI⟩ := G.gr.at ha
   obtain ⟨rb', hrb', hrbH, hrbI⟩ := G.gr.at hb
   have haz := I.short (zaw ha)
   have hrl := G.gr.len
   refine Then_go (Ss_go ?_)
   walk_at "wps"
   refine Opt.mk hraI ?_
   walk_at "wps"
   refine Opt.mk hrbI ?_
   walk_at "wps"
   refine zch (zdl hraH hrbH (by rw [zaf, zaf]; exact zar (ltA2 (zac haz hn80) (zac hbz hn80)) (by decide))) fun M h1 N1 => ?_
   walk_at "wps"
   have G1 := G.grow N1.st
   refine zch (zml G1.gr.top) fun A h2 N2 => ?_
   walk_at "wps"
   refine zch (zdl (zcz N2.hold) zb2 (by rw [zbl, zaf]; exact zar (ltA3 (b := 0) (zac (Nat.min_le_right ..) (hrl ▸ hgz)) (by decide)) (by decide))) fun A3 h3 N3 => ?_
   walk_at "wps"
   have st3 := (N2.st.app).trans0 N3.st
   have G3 := G1.grow st3
   refine zch (zih (i := i + 2) G3.gr.top) fun A4 h4 N4 => ?_
   walk_at "wps"
   refine zch (zdl (at0 N4.st N3.hold) N4.hold (by rw [zan, zbl, zbo, zaf]; exact zar (ltA3 (zac (Nat.min_le_right ..) (hrl ▸ hgz)) (zac (Nat.sub_le ..) (hrl ▸ hgz))) (by decide))) fun A5 h5 N5 => ?_
   have st5 := N4.st.trans0 N5.st
   have T5 := T.grow (N1.st.trans0 (st3.trans0 st5))
   refine ⟨gs.length - 1, Nat.sub_lt (Nat.zero_lt_of_lt hi) (by decide), .mk cl' _ bs (rs.take i ++ M :: rs.drop (i + 2)) _ (gs.take i ++ (a ++ ks) :: gs.drop (i + 2)) _ _ _ _ ?_ hcl' T5 ⟨?_, ?_⟩ I3⟩
   ·rw [zan, zbl, zbg, zbo]; exact mid_len hi
   ·refine (G3.gr.grow st5).merge hi ?_ ?_
    ·rw [zbb]; exact at0 (st3.trans0 st5) N1.hold
    ·rw [N5.hold, zbb, zbf, List.map_take, List.map_drop, zbd]; rfl
   ·have big : ∀ {x : Nat}, H2.length <= x -> x ∉ f :: dn :: rd :: bs := fun hx hm => Nat.not_lt.mpr hx (T.build.below _ hm)
    intro r hr
    rcases zak.mp hr with rfl | hr
    ·exact big (zac N1.st.len (zac st3.len (zac N4.st.len N5.lo)))
    ·rcases zaq.mp hr with hr | hr
     ·exact G.apart r (zaj _ (List.mem_of_mem_take hr))
     ·rcases zak.mp hr with rfl | hr
      ·exact big N1.lo
      ·exact G.apart r (zaj _ (List.mem_of_mem_drop hr))
 ·have h1 : gs.length <= 1 := zbh fun h => h1 (zam.mpr h)
  obtain ⟨F1, ⟨js, L⟩, F3⟩ := I.fin h1 (zad _)
  exact tel2_ok PP T L hn (zac (Nat.add_le_add_right (za7 ..) _) (zac I.lay (zac (Nat.add_le_add_right hn 3) (by decide)))) F3 fun a bs' H' l' N st fr nd => hq a bs' H' l' _ F1 N st fr nd
end
end Bn
namespace Bn
open PySem
section
variable {H H' : Hp} {ok : Hp -> Prop}
theorem zin {l : Loc} {i : Nat} {v : V} (hi : i < l.length) : (l.set i (some v)).getD i none = some v := by
 rw [zax, List.getElem?_set_self hi]; rfl
theorem zos {i : Nat} {l : Loc} {xs : List Nat} {Q : List V -> Hp -> Prop} (hi : i < l.length) (hok : ∀ H', Stay [] H H' -> ok H') (hq : ∀ cs H', Rows H H' cs (xs.map fun x => [nat x]) -> Q (cs.map .lst) H') :
  zd0 ok (zi5 (fun l' Q H => Q true H) (fun l' Q H => Opt (l'.getD i none) fun v => Q (.lst H.length) (H ++ [[v]])) (.one i) l) (xs.map nat) [] Q H := by
 refine ze9 (xs.map fun x => [nat x]) (by rw [zaf, zaf]) ?_ hok hq
 intro j x y acc H' K hx hy st hK
 rw [zay] at hx hy
 obtain ⟨z, hz, rfl⟩ := zah.mp hx
 rw [hz] at hy
 obtain rfl := zaa hy
 walk_at "wps"
 exact Opt.mk (zin hi) (hK _ _ Stay.refl.app zb2 (zad _))
theorem zkz {i : Nat} {l : Loc} {rs : List Nat} {ys : List (List V)} {Q : List V -> Hp -> Prop} (hi : i < l.length) (hlen : rs.length = ys.length) (hr : ∀ (i b : Nat) (y : List V), rs[i]? = some b -> ys[i]? = some y -> H[b]? = some y) (hok : ∀ H', Stay [] H H' -> ok H') (hq : ∀ cs H', Rows H H' cs ys -> Q (cs.map .lst) H') :
  zd0 ok (zi5 (fun l' Q H => Q true H) (fun l' Q H => Opt (l'.getD i none) fun v => Opt (bltV H .list [v]) fun p => Q p.1 p.2) (.one i) l) (rs.map .lst) [] Q H := by
 refine ze9 ys (by rw [zaf]; exact hlen) ?_ hok hq
 intro j x y acc H' K hx hy st hK
 rw [zay] at hx
 obtain ⟨b, hb, rfl⟩ := zah.mp hx
 walk_at "wps"
 exact Opt.mk (zin hi) (Opt.mk (zl4 (at0 st (hr j b y hb hy))) (hK _ _ Stay.refl.app zb2 (zad _)))
theorem Rows.grat {cs : List Nat} {gs : List (List Nat)} (R : Rows H H' cs (gs.map fun y => y.map nat)) : GrAt (H' ++ [cs.map .lst]) H'.length cs gs :=
 ⟨zb2, R.len.trans (zaf ..), fun i b y h1 h2 => zcz (R.hold i b _ h1 (by rw [zay, h2]; rfl))⟩
theorem ones_eq {xs : List Nat} : (xs.map fun x => [nat x]) = (xs.map fun x => [x]).map fun y => y.map nat := by rw [List.map_map]; rfl
theorem Rows.top {cs : List Nat} {ys : List (List V)} (R : Rows H H' cs ys) : ∀ b ∈ H'.length :: cs, H.length <= b := zau.mpr ⟨R.st.len, fun b hb => (R.fr b hb).1⟩
end
section
variable {c : Cx} {d : Nat} {R : SPost} {E : SX} {H H0 : Hp} {f dn rd lf la n : Nat} {bs : List Nat} {s : PS} {left : List (Nat × Nat)} {act : List Nat} {cl : Int}
theorem tel0_ok (PP : Has c "_law_place" 5 6 zca) {l1 l7 l8 l9 l10 l11 l12 l13 l14 l15 : Option V} (hn : n <= 64) (hcl : 0 <= cl) (T : TelSt H0 H f dn rd lf bs s left) (ha : H[la]? = some (act.map nat)) (I : TurnInv n 3 s left act)
  (hq : ∀ a bs' H' l' net, Told n net -> NetAt H' a bs' net -> Stay [] H0 H' -> (∀ b ∈ a :: bs', H0.length <= b) -> (a :: bs').Nodup -> R (.ret (.lst a)) l' H') :
  wpSs (Calls c) true (d + 1) none tel0 R E [some (.int cl), l1, some (.lst f), some (.lst lf), some (.lst dn), some (.lst rd), some (.lst la), l7, l8, l9, l10, l11, l12, l13, l14, l15] H := by
 have hal := I.len
 refine Ss_go ?_
 walk_at "wps"
 refine Opt.mk (zf9 ha) ⟨zdv (by rw [zaf]; exact za4 (zac (za7 ..) (zac hal hn)) (by decide)), ?_⟩
 refine zos (zaz rfl) (fun H' st => at0 st ha) fun rs H' RR => ?_
 rw [ones_eq] at RR
 refine tel1_ok PP hn hcl (T.grow RR.st.app) ⟨RR.grat, fun r hr hm => ?_⟩ (GInv.of I) hq
 exact Nat.not_lt.mpr (RR.top r hr) (T.build.below r hm)
theorem TurnInv.mono {t t' : Nat} (I : TurnInv n t s left act) (h : t <= t') : TurnInv n t' s left act := { I with lay := zac I.lay h }
inductive TelTInv (H0 : Hp) (f dn rd lf n : Nat) (cl : Int) (l1 l8 l9 l10 l11 l12 l13 l14 l15 : Option V) (i : Nat) : Loc -> Hp -> Prop
 | mk (v7 : Option V) (la : Nat) (bs : List Nat) (s : PS) (left : List (Nat × Nat)) (act : List Nat) (H : Hp) (T : TelSt H0 H f dn rd lf bs s left) (ha : H[la]? = some (act.map nat)) (nla : la ∉ f :: dn :: rd :: bs) (hal : la ≠ lf) (I : TurnInv n i s left act) :
   TelTInv H0 f dn rd lf n cl l1 l8 l9 l10 l11 l12 l13 l14 l15 i [some (.int cl), l1, some (.lst f), some (.lst lf), some (.lst dn), some (.lst rd), some (.lst la), v7, l8, l9, l10, l11, l12, l13, l14, l15] H
theorem telT_ok (PT : Has c "_law_thinner" 6 8 zc3) (PP : Has c "_law_place" 5 6 zca) {l1 l7 l8 l9 l10 l11 l12 l13 l14 l15 : Option V} (hn : n <= 64) (hcl : 0 <= cl) (T : TelSt H0 H f dn rd lf bs s left) (ha : H[la]? = some (act.map nat)) (nla : la ∉ f :: dn :: rd :: bs) (hal : la ≠ lf) (I : TurnInv n 0 s left act)
  (hq : ∀ a bs' H' l' net, Told n net -> NetAt H' a bs' net -> Stay [] H0 H' -> (∀ b ∈ a :: bs', H0.length <= b) -> (a :: bs').Nodup -> R (.ret (.lst a)) l' H') :
  wpSs (Calls c) true (d + 2) none telT R E [some (.int cl), l1, some (.lst f), some (.lst lf), some (.lst dn), some (.lst rd), some (.lst la), l7, l8, l9, l10, l11, l12, l13, l14, l15] H := by
 refine Ss_go ?_
 walk_at "wps"
 obtain ⟨t, ht, ht3⟩ : ∃ t : Nat, cl % 4 = t /\ t <= 3 := ⟨(cl % 4).toNat, (Int.toNat_of_nonneg (Int.emod_nonneg _ (by decide))).symm, Int.toNat_le.mpr (Int.le_of_lt_add_one (zbs _ (by decide)))⟩
 refine ⟨rfl, zj7 (v := .rng 0 t 1) (items := (List.range t).map nat) (fun K E' h => by walk_at "wps"; refine zcc (by decide) ?_; walk_at "wps"; rw [ht]; exact Opt.mk (zkb (za4 ht3 (by decide))) h) (congrArg some (zfx t)) ?_⟩
 refine zns (TelTInv H0 f dn rd lf n cl l1 l8 l9 l10 l11 l12 l13 l14 l15) ?_ ?_ (.mk _ la bs s left act _ T ha nla hal I)
 ·clear T ha nla hal I
  intro i x l' H' K hx hI hnext hret
  obtain ⟨v7, la, bs, s, left, act, _, T, ha, nla, hal, I⟩ := hI
  have hit := zb7 hx
  rw [zaf, List.length_range] at hit
  rw [zay, List.getElem?_range hit] at hx
  obtain rfl := zaa hx
  unfold nat
  walk_at "wps"
  refine zc0 (by decide) ?_
  walk_at "wps"
  refine zc0 pos1 ?_
  walk_at "wps"
  obtain ⟨js, B, L, _⟩ := I.ex
  have hln := I.len
  have hly := I.lay
  have st := I.thin (zfa (cl / 4 / (1 + (i : Int))))
  refine zrd PT PP T.build L hn ha T.hleft nla T.nlf hal st.2 (zac (za7 ..) (zac hln hn)) (zac (za8 (Nat.add_comm ..)) (zac hln (zac hn (by decide)))) (zac hly (zac (zap hit) (zac ht3 (by decide)))) rfl fun bs' H'' fw K' => ?_
  exact hnext _ _ trivial (.mk _ fw bs' _ _ _ _ (T.thin K') K'.hfw K'.nfw (Ne.symm K'.d3) st.1)
 ·clear T ha nla hal I
  intro l' H' hI
  obtain ⟨v7, la, bs, s, left, act, _, T, ha, nla, hal, I⟩ := hI
  rw [zaf, List.length_range] at I
  exact tel0_ok (d := d + 1) PP hn hcl T ha (I.mono ht3) hq
end
section
variable {c : Cx} {q : Bool} {d : Nat} {Q : V -> Hp -> Prop} {E : XPost} {H : Hp}
theorem zok (P : Has c "_law_telling" 2 16 zdp) (PT : Has c "_law_thinner" 6 8 zc3) (PP : Has c "_law_place" 5 6 zca) {cell : Int} {n : Nat} (hn1 : 1 <= n) (hn : n <= 64) (hc : q = true)
  (hq : ∀ a bs net H', Told n net -> NetAt H' a bs net -> Stay [] H H' -> (∀ b ∈ a :: bs, H.length <= b) -> (a :: bs).Nodup -> Q (.lst a) H') :
  Calls c q (d + 3) "_law_telling" [.int cell, .int n] none Q E H := by
 subst hc
 refine P true (d + 2) _ Q E H rfl ?_
 rw [tel_eq]
 refine Ss_go ?_
 walk_at "wps"
 refine zll (by decide) ?_
 walk_at "wps"
 refine zcc (by decide) ?_
 have hcl : 0 <= cell * 48271 % 2147483647 := Int.emod_nonneg _ (by decide)
 walk_at "wps"
 generalize cell * 48271 % 2147483647 = cl at hcl
 refine zch (mul_zero zb2 (za4 hn (by decide))) fun dn H1 N1 => ?_
 walk_at "wps"
 refine zch (mul_zero zb2 (za4 hn (by decide))) fun rd H2 N2 => ?_
 walk_at "wps"
 refine Opt.mk (zkb (za4 hn (by decide))) ?_
 walk_at "wps"
 refine zch (zno (za4 hn (by decide))) fun la H3 N3 => ?_
 have a1 : Stay [] (H ++ [[]]) H1 := Stay.refl.app.app.trans0 N1.st
 have a2 : Stay [] H1 H3 := Stay.refl.app.trans0 (N2.st.trans0 N3.st)
 have b1 := (Stay.refl (S := []) (H := H)).app (xs := [])
 have g1 : H.length < (H ++ [[]]).length := zco zb2
 have g2 : (H ++ [[]]).length < (H ++ [[]] ++ [[]]).length := zco zb2
 have g3 : (H ++ [[]]).length < dn := zav g2 (zac (Stay.refl (S := [])).app.len N1.lo)
 have g4 : dn < rd := zav (zco N1.hold) (zac (Stay.refl (S := [])).app.len N2.lo)
 have g5 : rd < la := zav (zco N2.hold) N3.lo
 have T : TelSt H H3 H.length dn rd (H ++ [[]]).length [] (PS.init n) [] :=
  ⟨⟨at0 (a1.trans0 a2) zb2, rfl, (fun _ _ _ h => nomatch h), at0 a2 N1.hold, at0 N3.st N2.hold,
   ⟨by exact Ar.ar2 [_,_,_] [] 0x10a52800308040184030102000000 (Y8 (Y2 V0 V1) J0) (Y1 V0 V2) (Y1 V2 V1) g1 g3, by exact Ar.ar3 [_,_,_,_] [] 0x4294a5000610080308060184040102000000 (Y8 (Y2 V0 V1) J0) (Y1 V0 V2) (Y1 V2 V3) (Y1 V3 V1) g1 g3 g4, za5, by exact Ar.ar1 [_,_] [] 0x429400184020102000000 (Y8 (Y2 V0 V1) J0) (Y1 V0 V1) g4, za5, za5, List.nodup_nil⟩⟩,
   at0 a2 (at0 (Stay.refl.app.trans0 N1.st) zb2), not4 (by exact Ar.ar1 [_,_] [] 0x4294001840200c2000000 (Y8 (Y2 V0 V1) J0) (Y1 V1 V0) g1) (by exact Ar.ar1 [_,_] [] 0x429400184020102000000 (Y8 (Y2 V0 V1) J0) (Y1 V0 V1) g3) (by exact Ar.ar2 [_,_,_] [] 0x10a52800308040184030102000000 (Y8 (Y2 V0 V1) J0) (Y1 V0 V2) (Y1 V2 V1) g3 g4) za5, b1.trans0 (a1.trans0 a2), mem4 (zad _) (by exact Ar.ar2 [_,_,_] [] 0x294a000c20000610040308040 (Y0 V0 V1) (Y1 V0 V2) (Y1 V2 V1) g1 g3) (by exact Ar.ar3 [_,_,_,_] [] 0xa5294001840000c20080610080308060 (Y0 V0 V1) (Y1 V0 V2) (Y1 V2 V3) (Y1 V3 V1) g1 g3 g4) (fun _ h => nomatch h), by exact Ar.ar1 [_,_] [] 0xa5000610000308020 (Y0 V0 V1) (Y1 V0 V1) g1⟩
 exact telT_ok (d := d) PT PP hn hcl T N3.hold (not4 (by exact Ar.ar4 [_,_,_,_,_] [] 0x10a5294a000c201006100c03080801840500c2000000 (Y8 (Y2 V0 V1) J0) (Y1 V1 V2) (Y1 V2 V3) (Y1 V3 V4) (Y1 V4 V0) g1 g3 g4 g5) (by exact Ar.ar2 [_,_,_] [] 0x10a528003080401840300c2000000 (Y8 (Y2 V0 V1) J0) (Y1 V1 V2) (Y1 V2 V0) g4 g5) (by exact Ar.ar1 [_,_] [] 0x4294001840200c2000000 (Y8 (Y2 V0 V1) J0) (Y1 V1 V0) g5) za5) (by exact Ar.ar3 [_,_,_,_] [] 0x4294a50006100803080601840400c2000000 (Y8 (Y2 V0 V1) J0) (Y1 V1 V2) (Y1 V2 V3) (Y1 V3 V0) g3 g4 g5) (TurnInv.init n) fun a bs' H' l' net Tn N s2 fr nd => hq a bs' net H' Tn N s2 fr nd
end
end Bn
namespace Bn
open PySem
section
variable {c : Cx} {q : Bool} {d : Nat} {Q : V -> Hp -> Prop} {E : XPost} {H H0 H' : Hp}
theorem NetAt.stay {S : List Nat} {a : Nat} {bs : List Nat} {net : Net} (N : NetAt H a bs net) (st : Stay S H H') (h : ∀ b ∈ a :: bs, b ∉ S) : NetAt H' a bs net :=
 ⟨st.at N.top (h a zae), N.len, fun i b y h1 h2 => st.at (N.lay i b y h1 h2) (h b (zaj _ (zaw h1)))⟩
theorem NetAt.grow {a : Nat} {bs : List Nat} {net : Net} (N : NetAt H a bs net) (st : Stay [] H H') : NetAt H' a bs net := N.stay st fun _ _ => za5
theorem NetAt.get {a i b : Nat} {bs : List Nat} {net : Net} (N : NetAt H a bs net) (h : bs[i]? = some b) : ∃ y, net[i]? = some y /\ H[b]? = some (y.map pr) :=
 have hr := zal (show i < net.length from N.len ▸ zb7 h)
 ⟨_, hr, N.lay i _ _ h hr⟩
end
end Bn
namespace Bn
open PySem
section
variable {c : Cx} {q : Bool} {d : Nat} {Q : V -> Hp -> Prop} {E : XPost} {H : Hp}
end
end Bn
namespace Bn
open PySem
section
variable {c : Cx} {q : Bool} {d : Nat} {Q : V -> Hp -> Prop} {E : XPost} {H : Hp}
end
end Bn
namespace Bn
open PySem
section
variable {H : Hp} {ok : Hp -> Prop} {l : Loc} {i : Nat} {Q : List V -> Hp -> Prop}
theorem zln {g : Nat} {rs : List Nat} {gs : Net} (G : NetAt H g rs gs) (hi : i < l.length) (hok : ∀ H', Stay [] H H' -> ok H') (hq : ∀ cs H', Rows H H' cs (gs.map fun y => y.map pr) -> Q (cs.map .lst) H') :
  zd0 ok (zi5 (fun l' Q H => Q true H) (fun l' Q H => Opt (l'.getD i none) fun v => Opt (bltV H .list [v]) fun p => Q p.1 p.2) (.one i) l) (rs.map .lst) [] Q H := by
 refine zkz hi (by rw [zaf]; exact G.len) (fun j b y h1 h2 => ?_) hok hq
 rw [zay] at h2
 obtain ⟨z, hz, rfl⟩ := zah.mp h2
 exact G.lay j b z h1 hz
theorem zp9 {α : Type} {W : Loc -> (V -> Hp -> Prop) -> Hp -> Prop} {t : Tg} {f g : α -> V} {xs : List α} (hok : ok H) (he : ∀ x ∈ xs, ∀ K : V -> Hp -> Prop, K (g x) H -> Opt (zfu t (f x) l) fun l' => W l' K H) (hq : Q (xs.map g) H) :
  zd0 ok (zi5 (fun l' Q H => Q true H) W t l) (xs.map f) [] Q H := by
 refine ze3 (I := fun j acc H2 => H2 = H /\ acc = (xs.take j).map g) ?_ ?_ ⟨rfl, rfl⟩
 ·rintro j x acc H2 K hx ⟨rfl, rfl⟩ hK
  rw [zay] at hx
  obtain ⟨z, hz, rfl⟩ := zah.mp hx
  refine he z (zaw hz) _ (hK _ _ hok ⟨rfl, ?_⟩)
  rw [List.take_add_one, hz, zbb]; rfl
 ·rintro acc H2 ⟨rfl, rfl⟩
  rw [zaf, List.take_length]
  exact hq
end
end Bn
namespace Bn
open PySem
section
variable {c : Cx} {q : Bool} {d : Nat} {Q : V -> Hp -> Prop} {E : XPost} {H H' : Hp}
end
end Bn
namespace Bn
open PySem
section
variable {c : Cx} {q : Bool} {d : Nat} {Q : V -> Hp -> Prop} {E : XPost} {H : Hp}
theorem NetAt.zs {a : Nat} {bs : List Nat} {net : Net} (N : NetAt H a bs net) : ∃ zs : List (Nat × List (Nat × Nat)), zs.map (·.1) = bs /\ zs.map (·.2) = net /\ ∀ p ∈ zs, H[p.1]? = some (p.2.map pr) := by
 refine ⟨bs.zip net, List.map_fst_zip (za8 N.len), List.map_snd_zip (za8 N.len.symm), fun p hp => ?_⟩
 obtain ⟨i, hi⟩ := List.mem_iff_getElem?.mp hp
 have h1 := List.getElem?_zip_eq_some.mp hi
 exact N.lay i p.1 p.2 h1.1 h1.2
end
end Bn
namespace Bn
open PySem
section
variable {c : Cx} {q : Bool} {d : Nat} {Q : V -> Hp -> Prop} {E : XPost} {H : Hp}
end
end Bn
namespace Bn
open PySem
section
variable {c : Cx} {q : Bool} {d : Nat} {Q : V -> Hp -> Prop} {E : XPost} {H H' : Hp}
end
section
variable {c : Cx} {d : Nat} {R : SPost} {E : SX} {H : Hp}
end
end Bn
namespace Bn
open PySem
noncomputable def zpd : List St := [.expr (.call "need_net" [(.var 0), (.var 1)]), .ret (.blt .sum [(.comp (.blt .len [(.var 2)]) (.one 2) (.var 1) [])])]
end Bn
namespace Bn
open PySem
section
variable {c : Cx} {q : Bool} {d : Nat} {Q : V -> Hp -> Prop} {E : XPost} {H : Hp}
noncomputable def lenZ (p : Nat × List (Nat × Nat)) : V := .int p.2.length
theorem zju : ∀ zs : List (Nat × List (Nat × Nat)), zhn (zs.map lenZ) = some (zs.map fun p => (p.2.length : Int))
 | [] => rfl
 | p :: r => by
  show (zhn (r.map lenZ)).map _ = _
  rw [zju r]; rfl
theorem zl9 : ∀ zs : List (Nat × List (Nat × Nat)), (zs.map fun p => (p.2.length : Int)).sum = ((zs.map fun p => p.2.length).sum : Nat)
 | [] => rfl
 | p :: r => by
  rw [zbf, zbf, List.sum_cons, List.sum_cons, zl9 r, Int.natCast_add]
theorem zme {a : Nat} {zs : List (Nat × List (Nat × Nat))} (h : H[a]? = some (zs.map lenZ)) (hz : ∀ p ∈ zs, p.2.length < 1000) : onQ true (bltV H .sum [.lst a]) = some (.int ((zs.map fun p => p.2.length).sum : Nat), H) := by
 show (H[a]?).bind _ = _
 rw [h]
 show (zhn (zs.map lenZ)).bind _ = _
 rw [zju, <- zl9]
 refine if_pos (zba.mpr fun x hx => ?_)
 obtain ⟨p, hp, rfl⟩ := zas.mp hx
 exact decide_eq_true (zar (hz p hp) (by decide))
theorem Fine.short {n : Nat} {net : Net} (F : ∀ y ∈ net, zd3 n y) (hn : n <= 64) : ∀ y ∈ net, y.length < 1000 := fun y hy => by
 have := zgc (F y hy).2 (F y hy).1
 exact Ar.ar2 [_,_] [] 0x294a000c20000610040308040 (Y1 V0 (.l 1000)) (Y0 V1 (.l 64)) (Y0 (Y0 V0 J0) V1) hn this.1
theorem zko {a i : Nat} {l : Loc} {bs : List Nat} {net : Net} {QQ : List V -> Hp -> Prop} (N : NetAt H a bs net) (hi : i < l.length) (hq : ∀ zs : List (Nat × List (Nat × Nat)), zs.map (·.2) = net -> QQ (zs.map lenZ) H) :
  zd0 (okV (.lst a) (bs.map .lst)) (zi5 (fun l' Q H => Q true H) (fun l' Q H => Opt (l'.getD i none) fun v => Opt (bltV H .len [v]) fun p => Q p.1 p.2) (.one i) l) (bs.map .lst) [] QQ H := by
 obtain ⟨zs, z1, z2, z3⟩ := N.zs
 have e : bs.map V.lst = zs.map fun p => V.lst p.1 := by rw [<- z1, List.map_map]; rfl
 have top := N.top
 rw [e] at top ⊢
 refine zp9 (g := lenZ) top (fun p hp K hK => ?_) (hq zs z2)
 walk_at "wps"
 refine Opt.mk (zin hi) (Opt.mk (zci (z3 p hp)) ?_)
 rw [zaf]; exact hK
end
end Bn
namespace Bn
open PySem
/- is_among ['thing', 'least', 'most'] r=0 -/
/- is_text ['thing'] r=1 -/
/- is_map ['thing'] r=1 -/
/- is_step ['thing'] r=1 -/
/- need_kind ['kind'] r=0 -/
/- is_thing ['kind', 'thing'] r=0 -/
/- need_thing ['kind', 'thing'] r=0 -/
/- need_alike ['kind', 'things'] r=1 -/
/- put_together ['kind', 'one', 'other'] r=1 -/
/- joined ['kind', 'one', 'other'] r=0 -/
/- _law_cell_at ['_law_script', '_law_k'] r=0 -/
/- _law_whole ['_law_found'] r=0 -/
/- _law_join ['_law_kind', '_law_one', '_law_other'] r=1 -/
/- _law_alike ['_law_found', '_law_due'] r=1 -/
/- _law_thing ['_law_kind', '_law_cell', '_law_long', '_law_some'] r=1 -/
/- _law_odd ['_law_kind', '_law_cell', '_law_long', '_law_some'] r=0 -/
/- _law_word ['_law_e', '_law_mine'] r=0 -/
/- _law_tried ['_law_kind', '_law_one', '_law_other', '_law_e'] r=0 -/
/- _law_needed ['_law_kind', '_law_thing_here', '_law_e'] r=0 -/
/- law ['_law_script', '_law_kind', '_law_long', '_law_things', '_law_cell', '_law_odd_here', '_law_pair', '_law_bad', '_law_alone', '_law_found', '_law_due', '_law_left', '_law_again'] r=1 -/
end Bn
namespace Bn
open PySem
section
variable {c : Cx} {q : Bool} {d : Nat} {Q : V -> Hp -> Prop} {E : XPost} {H : Hp} {C : CallT} {k : Clo} {l : Loc}
noncomputable def zdb (lo hi : Int) (v : V) : Bool := match v with
 | .int i => decide (lo <= i /\ i <= hi)
 | _ => false
theorem ze8 (P : Has c "is_among" 3 3 zdz) {v : V} {lo hi : Int} (hk : (kd v).isSome = true) (hq : Q (.bool (zdb lo hi v)) H) : Calls c q (d + 1) "is_among" [v, .int lo, .int hi] none Q E H := by
 refine P q d _ Q E H rfl (Ss_go ?_)
 walk_at "wps"
 cases v with
 | int i =>
  walk_at "wps"
  refine zb6 (fun h => ?_) (fun h => ?_)
  ·walk_at "wps"
   refine cast ?_ hq
   show Q (.bool (decide (lo <= i /\ i <= hi))) H = _
   congr 2
   exact decide_eq_decide.mpr ⟨fun h => h.2, fun h2 => ⟨h, h2⟩⟩
  ·walk_at "wps"
   refine cast ?_ hq
   show Q (.bool (decide (lo <= i /\ i <= hi))) H = _
   rw [decide_eq_false (fun h2 => h h2.1)]
 | bool b => walk_at "wps"; exact hq
 | none => walk_at "wps"; exact hq
 | str s => walk_at "wps"; exact hq
 | tup l => walk_at "wps"; exact hq
 | lst a => walk_at "wps"; exact hq
 | dict0 => walk_at "wps"; exact hq
 | _ => cases hk
end
end Bn
namespace Bn
open PySem
section
variable {c : Cx} {q : Bool} {d : Nat} {Q : V -> Hp -> Prop} {E : XPost} {H : Hp} {C : CallT} {k : Clo} {l : Loc}
end
end Bn
namespace Bn
open PySem
section
variable {c : Cx} {q : Bool} {d : Nat} {Q : V -> Hp -> Prop} {E : XPost} {H : Hp} {C : CallT} {k : Clo} {l : Loc}
end
end Bn
namespace Bn
open PySem
section
variable {c : Cx} {q : Bool} {d : Nat} {Q : V -> Hp -> Prop} {E : XPost} {H : Hp} {C : CallT} {k : Clo} {l : Loc}
end
end Bn
namespace Bn
open PySem
section
variable {c : Cx} {q : Bool} {d : Nat} {Q : V -> Hp -> Prop} {E : XPost} {H : Hp} {C : CallT} {k : Clo} {l : Loc}
theorem zri {a : Nat} {xs : List V} (h : H[a]? = some xs) : onQ true (bltV H .tuple [.lst a]) = some (.tup xs, H) := by
 show (H[a]?).map _ = _
 rw [h]; rfl
end
end Bn
namespace Bn
open PySem
section
variable {c : Cx} {q : Bool} {d : Nat} {Q : V -> Hp -> Prop} {E : XPost} {H : Hp} {C : CallT} {k : Clo} {l : Loc}
end
end Bn
namespace Bn
open PySem
section
variable {c : Cx} {q : Bool} {d : Nat} {Q : V -> Hp -> Prop} {E : XPost} {H : Hp} {C : CallT} {k : Clo} {l : Loc}
theorem ze1 {e p : Str} {y : V} (he : e ∈ kids) (hp : p ∈ kids \/ p = Str.ofString "ValueError") {b : Bool} (hb : decide (e = p \/ p = Str.ofString "ValueError") = b) : isiV (.exc e y) (.own p) = some b := by
 subst hb
 exact if_pos ⟨he, hp⟩
theorem zni {a : Nat} {xs : List V} {l : List Bool} (h : H[a]? = some xs) (hl : zd9 xs = some l) : zoe H .count (.lst a) [.bool true] = some (.int (l.count true), H) := by
 show (H[a]?).bind _ = _
 rw [h]
 show (zd9 xs).map _ = _
 rw [hl]; rfl
theorem zoh {a : Nat} {xs : List V} {l : List Bool} (h : H[a]? = some xs) (hl : zd9 xs = some l) (ht : true ∈ l) : zoe H .index (.lst a) [.bool true] = some (.int (l.idxOf true), H) := by
 show (H[a]?).bind _ = _
 rw [h]
 show (zd9 xs).bind _ = _
 rw [hl]
 exact if_pos ht
end
end Bn
namespace Bn
open PySem
section
variable {c : Cx} {q : Bool} {d : Nat} {Q : V -> Hp -> Prop} {E : XPost} {H : Hp} {C : CallT} {k : Clo} {l : Loc}
theorem eq_words {a b : Nat} {w w' : Str} (ha : H[a]? = some [.str w]) (hb : H[b]? = some [.str w']) (h1 : PyData.strOk w = true) (h2 : PyData.strOk w' = true) : eqV H (.lst a) (.lst b) = some (decide (w = w')) := by
 have t1 : toP 9 H (.lst a) = some (.list [.str w]) := zcd ha rfl
 have t2 : toP 9 H (.lst b) = some (.list [.str w']) := zcd hb rfl
 show (toP 9 H (.lst a)).bind _ = _
 rw [t1]
 show (toP 9 H (.lst b)).bind _ = _
 rw [t2]
 refine (if_pos (show ((PyData.strOk w && true) && (PyData.strOk w' && true)) = true by rw [h1, h2]; rfl)).trans ?_
 show some ((w == w') && true) = _
 rw [Bool.and_true]
 congr 1
end
end Bn
namespace Bn
open PySem
section
variable {c : Cx} {q : Bool} {d : Nat} {Q : V -> Hp -> Prop} {E : XPost} {H : Hp}
end
end Bn
namespace Bn
open PySem
section
variable {c : Cx} {q : Bool} {d : Nat} {Q : V -> Hp -> Prop} {E : XPost} {H : Hp}
end
end Bn
namespace Bn
open PySem
section
variable {c : Cx} {q : Bool} {d : Nat} {Q : V -> Hp -> Prop} {E : XPost} {H : Hp}
end
end Bn
namespace Bn
open PySem
section
variable {c : Cx} {q : Bool} {d : Nat} {Q : V -> Hp -> Prop} {E : XPost} {H : Hp}
end
end Bn
namespace Bn
open PySem
section
variable {c : Cx} {q : Bool} {d : Nat} {Q : V -> Hp -> Prop} {E : XPost} {H : Hp}
end
end Bn
namespace Bn
open PySem
section
variable {c : Cx} {q : Bool} {d : Nat} {Q : V -> Hp -> Prop} {E : XPost} {H : Hp}
end
end Bn
namespace Bn
open PySem
section
variable {c : Cx} {q : Bool} {d : Nat} {Q : V -> Hp -> Prop} {E : XPost} {H : Hp}
end
end Bn
namespace Bn
open PySem
section
variable {c : Cx} {q : Bool} {d : Nat} {Q : V -> Hp -> Prop} {E : XPost} {H : Hp}
end
end Bn
namespace Bn
open PySem
section
variable {c : Cx} {q : Bool} {d : Nat} {Q : V -> Hp -> Prop} {E : XPost} {H : Hp}
end
end Bn
namespace Bn
open PySem
section
variable {c : Cx} {q : Bool} {d : Nat} {Q : V -> Hp -> Prop} {E : XPost} {H : Hp}
end
end Bn
namespace Bn
open PySem
section
variable {c : Cx} {q : Bool} {d : Nat} {Q : V -> Hp -> Prop} {E : XPost} {H : Hp}
end
end Bn
namespace Bn
open PySem
/- need_lines ['lines'] r=0 -/
noncomputable def zjk : List St := [.ite (.not (.call "is_among" [(.var 0), (.lit (.int 1)), (.lit (.int 64))])) [.rais "BadLines" [(.lit (.str "there are 1 to 64 lines"))]] []]
/- need_both ['lines', 'layers'] r=0 -/
/- ways_of ['many', 'some', 'found', 'k'] r=0 -/
/- joints_for ['lines', 'layers', 'left', 'found', 'cost', 'some'] r=0 -/
/- first_lines ['lines', 'layers', 'left', 'first', 'cost', 'some'] r=0 -/
/- laid ['lines', 'layers', 'first'] r=0 -/
/- fewest ['lines', 'layers'] r=0 -/
/- thrifty ['lines', 'layers'] r=0 -/
/- _law_tried ['_law_which', '_law_lines', '_law_layers', '_law_e'] r=0 -/
/- _law_least ['_law_lines', '_law_layers', '_law_table', '_law_deep', '_law_row', '_law_many', '_law_some', '_law_ahead'] r=1 -/
/- _law_reach ['_law_layers', '_law_reach_here', '_law_layer'] r=0 -/
/- _law_is_net ['_law_net', '_law_lines', '_law_layer', '_law_last', '_law_joint'] r=0 -/
/- _law_parts ['_law_first', '_law_middle', '_law_behind', '_law_layers', '_law_found', '_law_low', '_law_high', '_law_part'] r=2 -/
/- _law_by_rule ['_law_net', '_law_lines', '_law_waiting', '_law_first', '_law_behind', '_law_layers', '_law_middle', '_law_parts_here'] r=1 -/
/- _law_rows ['_law_net', '_law_lines', '_law_now', '_law_layer', '_law_ahead', '_law_low', '_law_high'] r=1 -/
/- law ['_law_script', '_law_lines', '_law_layers', '_law_cell', '_law_pair', '_law_due', '_law_found', '_law_net'] r=1 -/
end Bn
namespace Bn
open PySem
section
variable {c : Cx} {q : Bool} {d : Nat} {Q : V -> Hp -> Prop} {E : XPost} {H : Hp}
theorem at_lines {vs : List V} : atOf (Str.ofString "BadLines") vs = .none := if_neg (by decide +kernel)
end
end Bn
namespace Bn
open PySem
section
variable {c : Cx} {q : Bool} {d : Nat} {Q : V -> Hp -> Prop} {E : XPost} {H : Hp}
theorem zl0 {lo hi n : Nat} (h1 : lo <= n) (h2 : n <= hi) : zdb lo hi (.int n) = true := decide_eq_true ⟨za6.mpr h1, za6.mpr h2⟩
inductive Wd5 (e : Str) (w : Str) (b1 b2 b3 b4 b5 : Bool) : Prop
 | mk (hk : e ∈ kids) (h1 : decide (e = Str.ofString "BadKind" \/ Str.ofString "BadKind" = Str.ofString "ValueError") = b1) (h2 : decide (e = Str.ofString "BadThing" \/ Str.ofString "BadThing" = Str.ofString "ValueError") = b2)
   (h3 : decide (e = Str.ofString "BadLines" \/ Str.ofString "BadLines" = Str.ofString "ValueError") = b3) (h4 : decide (e = Str.ofString "BadNet" \/ Str.ofString "BadNet" = Str.ofString "ValueError") = b4) (h5 : decide (e = Str.ofString "NoNet" \/ Str.ofString "NoNet" = Str.ofString "ValueError") = b5)
   (hc : [b1, b2, b3, b4, b5].count true = 1) (hi : [V.str "kind", .str "thing", .str "lines", .str "net", .str "none"][[b1, b2, b3, b4, b5].idxOf true]? = some (.str w)) (hm : true ∈ [b1, b2, b3, b4, b5]) : Wd5 e w b1 b2 b3 b4 b5
theorem wd_lines : Wd5 (Str.ofString "BadLines") "lines" false false true false false := ⟨by decide +kernel, by decide +kernel, by decide +kernel, by decide +kernel, by decide +kernel, by decide +kernel, by decide, rfl, by decide⟩
end
end Bn
namespace Bn
open PySem
/- need_net ['lines', 'net', 'at', 'layer'] r=0 -/
noncomputable def zlv : List St := [.expr (.call "need_lines" [(.var 0)]), .ite (.or [(.not (.isi (.var 1) .list)), (.cmp (.blt .len [(.var 1)]) [.gt] [(.lit (.int 80))])]) [.rais "BadNet" [(.lit .none)]] [], .loop (.two 2 3) (.enum (.var 1)) [.ite (.not (.call "is_layer" [(.var 3), (.var 0)])) [.rais "BadNet" [(.var 2)]] []]]
/- beside ['lines', 'net', 'others', 'other'] r=0 -/
/- cut ['lines', 'net', 'first', 'behind', 'layers', 'layer', 'left'] r=2 -/
/- _law_word ['_law_e', '_law_mine'] r=0 -/
/- _law_beside ['_law_lines', '_law_net', '_law_others', '_law_other', '_law_e'] r=0 -/
/- _law_cut ['_law_lines', '_law_net', '_law_first', '_law_behind', '_law_e'] r=0 -/
/- _law_less ['_law_net', '_law_cell', '_law_at', '_law_layer'] r=0 -/
/- _law_both ['_law_lines', '_law_net', '_law_others', '_law_other', '_law_found', '_law_at', '_law_layer'] r=2 -/
/- _law_within ['_law_net', '_law_first', '_law_behind', '_law_found', '_law_layer', '_law_left'] r=2 -/
/- _law_refused ['_law_lines', '_law_net', '_law_others', '_law_other', '_law_cell', '_law_odd', '_law_high', '_law_bad', '_law_long', '_law_pair'] r=0 -/
/- law ['_law_script', '_law_lines', '_law_others', '_law_net', '_law_other', '_law_cell', '_law_first', '_law_behind', '_law_handed', '_law_found', '_law_part', '_law_one'] r=1 -/
end Bn
namespace Bn
open PySem
theorem ze6 {α : Type} {g : α -> V} {ok : Hp -> Prop} {body : V -> Loc -> SPost -> Hp -> Prop} {Q : SPost} (I : Nat -> List α -> Loc -> Hp -> Prop)
  (step : ∀ (k : Nat) x r l H (K : SPost), I k (x :: r) l H -> (∀ l' H', ok H' -> I (k + 1) r l' H' -> K .next l' H') -> (∀ v l' H', Q (.ret v) l' H' -> K (.ret v) l' H') -> body (.tup [.int k, g x]) l K H)
  (hend : ∀ k l H, I k [] l H -> Q .next l H) : ∀ {xs : List α} {k : Nat} {l : Loc} {H : Hp}, I k xs l H -> zja ok body (zde (k : Int) (xs.map g)) Q l H
 | [], k, l, H, h => hend k l H h
 | x :: r, k, l, H, h => step k x r l H _ h (fun _ _ hok hI => ⟨hok, ze6 I step hend (k := k + 1) hI⟩) fun _ _ _ hq => hq
structure Chk9 (c : Cx) : Prop where
 among : Has c "is_among" 3 3 zdz
 lines : Has c "need_lines" 1 1 zjk
 joint : Has c "is_joint" 2 2 zfy
 layer : Has c "is_layer" 2 4 zh7
 net : Has c "need_net" 2 4 zlv
theorem zjo {v : V} : atOf (Str.ofString "BadNet") [v] = v := if_pos rfl
section
variable {c : Cx} {q : Bool} {d : Nat} {Q : V -> Hp -> Prop} {E : XPost} {H : Hp}
theorem zfh (F : Chk9 c) {v : V} (hk : (kd v).isSome = true) (hc : q = true) (hy : zdb 1 64 v = true -> Q .none H) (hn : zdb 1 64 v = false -> E (.exc "BadLines" .none) H) : Calls c q (d + 2) "need_lines" [v] none Q E H := by
 subst hc
 refine F.lines true (d + 1) _ Q E H rfl (Ss_go ?_)
 walk_at "wps"
 refine ze8 F.among hk ?_
 walk_at "wps"
 cases hg : zdb 1 64 v with
 | true =>
  walk_at "wps"
  exact hy hg
 | false =>
  walk_at "wps"
  refine ⟨rfl, ?_⟩
  show E (.exc "BadLines" (atOf _ _)) H
  rw [at_lines]; exact hn hg
theorem zk0 (F : Chk9 c) {n : Nat} (hn : 1 <= n) (hc : q = true) (hq : Q (.bool false) H) : Calls c q (d + 2) "is_joint" [.tup [.int 0, .int n], .int n] none Q E H := by
 subst hc
 refine F.joint true (d + 1) _ Q E H rfl (Ss_go ?_)
 walk_at "wps"
 refine zf6 F.among (Int.le_refl 0) (Int.le_sub_one_of_lt (zam.mpr hn)) ?_
 walk_at "wps"
 refine ze8 F.among rfl ?_
 rw [show zdb 0 ((n : Int) - 1) (.int n) = false from decide_eq_false fun h => absurd h.2 (by exact Ar.ar1 [_] [] 171801870368 (Y8 (Y3 (Y4 V0 J0) (Y2 (Y4 V0 J0) J1)) J0) (Y3 (Y4 V0 J0) (Y2 (Y4 V0 J0) J1)) h.2)]
 walk_at "wps"
 exact hq
theorem zlk (F : Chk9 c) {a n : Nat} (ha : H[a]? = some [pr (0, n)]) (hn : 1 <= n) (hc : q = true) (hq : Q (.bool false) H) : Calls c q (d + 3) "is_layer" [.lst a, .int n] none Q E H := by
 subst hc
 refine F.layer true (d + 2) _ Q E H rfl (Ss_go ?_)
 walk_at "wps"
 refine Opt.mk (zci ha) ?_
 walk_at "wps"
 refine zfq (Int.le_refl 1) ?_
 walk_at "wps"
 refine ⟨rfl, zj7 (v := .lst a) (fun K E' h => h) ha ?_⟩
 refine Opt.mk rfl (Ss_go ?_)
 walk_at "wps"
 refine zk0 F hn rfl ?_
 walk_at "wps"
 exact hq
inductive Net9Inv (a n : Nat) (bs : List Nat) (net : Net) (H : Hp) : Nat -> List Nat -> Loc -> Hp -> Prop
 | mk (k : Nat) (r : List Nat) (x y : Option V) (hr : bs.drop k = r) (hp : ∀ j y, j < k -> net[j]? = some y -> zd3 n y) : Net9Inv a n bs net H k r [some (.int n), some (.lst a), x, y] H
theorem s_net9 (F : Chk9 c) {n a : Nat} {bs : List Nat} {net : Net} (hn : 1 <= n /\ n <= 64) (hN : NetAt H a bs net) (hc : q = true) (good : ∀ y ∈ net, zd3 n y \/ y = [(0, n)]) (hl : 80 < net.length -> E (.exc "BadNet" .none) H)
  (hq : net.length <= 80 -> (∀ y ∈ net, zd3 n y) -> Q .none H) (hb : ∀ i : Nat, net[i]? = some [(0, n)] -> (∀ j y, j < i -> net[j]? = some y -> zd3 n y) -> net.length <= 80 -> E (.exc "BadNet" (.int i)) H) : Calls c q (d + 4) "need_net" [.int n, .lst a] none Q E H := by
 subst hc
 refine F.net true (d + 3) _ Q E H rfl (Ss_go ?_)
 walk_at "wps"
 refine zfh (d := d + 1) F rfl rfl (fun _ => ?_) (fun h => absurd (zl0 (lo := 1) (hi := 64) hn.1 hn.2) (by rw [show zdb ((1 : Nat) : Int) ((64 : Nat) : Int) (.int n) = false from h]; decide))
 walk_at "wps"
 refine Opt.mk (zci hN.top) ?_
 rw [zaf, hN.len]
 walk_at "wps"
 refine zb6 (fun h => ?_) (fun h => ?_)
 ·walk_at "wps"
  refine ⟨rfl, ?_⟩
  show E (.exc "BadNet" (atOf _ _)) H
  rw [zjo]; exact hl (zam.mp h)
 ·have hz : net.length <= 80 := zbh fun q => h (zam.mpr q)
  walk_at "wps"
  refine ⟨rfl, zpi (a := a) (fun K E' h => h) hN.top ?_⟩
  refine ze6 (k := 0) (Net9Inv a n bs net H) ?_ ?_ (.mk _ _ _ _ rfl fun j _ hj => absurd hj (Nat.not_lt_zero _))
  ·intro k b r l H' K hI hnext hret
   obtain ⟨x, y, hr, hp⟩ := hI
   have hk : bs[k]? = some b := by rw [<- List.head?_drop, hr]; rfl
   obtain ⟨layer, hy, hb'⟩ := hN.get hk
   refine Opt.mk rfl (Ss_go ?_)
   walk_at "wps"
   rcases good layer (zaw hy) with ho | rfl
   ·refine zh0 F.among F.joint F.layer hb' hn.2 ho rfl ?_
    walk_at "wps"
    refine hnext _ _ hN.top (.mk _ _ _ _ (by rw [<- List.drop_drop, hr]; rfl) fun j y hj hy' => ?_)
    rcases Nat.lt_succ_iff_lt_or_eq.mp hj with hj | rfl
    ·exact hp j y hj hy'
    ·rw [hy] at hy'; obtain rfl := zaa hy'; exact ho
   ·refine zlk F hb' hn.1 rfl ?_
    walk_at "wps"
    refine ⟨rfl, ?_⟩
    show E (.exc "BadNet" (atOf _ _)) _
    rw [zjo]; exact hb k hy hp hz
  ·intro k l H' hI
   obtain ⟨x, y, hr, hp⟩ := hI
   walk_at "wps"
   refine hq hz fun y hy => ?_
   obtain ⟨j, hj, e⟩ := List.getElem_of_mem hy
   refine hp j y (zav hj ?_) (by rw [zal hj, e])
   rw [<- hN.len]; exact List.drop_eq_nil_iff.mp hr
end
end Bn
namespace Bn
open PySem
section
variable {c : Cx} {q : Bool} {d : Nat} {Q : V -> Hp -> Prop} {E : XPost} {H : Hp}
theorem zlg (F : Chk9 c) {v w : V} (hk : (kd v).isSome = true) (hb : zdb 1 64 v = false) (hc : q = true) (hq : E (.exc "BadLines" .none) H) : Calls c q (d + 4) "need_net" [v, w] none Q E H := by
 subst hc
 refine F.net true (d + 3) _ Q E H rfl (Ss_go ?_)
 walk_at "wps"
 exact zfh (d := d + 1) F hk rfl (fun h => Bool.noConfusion (hb.symm.trans h)) fun _ => hq
theorem s_net_no (F : Chk9 c) {n : Nat} {w : V} (hn : 1 <= n /\ n <= 64) (hw : isiV w .list = some false) (hc : q = true) (hq : E (.exc "BadNet" .none) H) : Calls c q (d + 4) "need_net" [.int n, w] none Q E H := by
 subst hc
 refine F.net true (d + 3) _ Q E H rfl (Ss_go ?_)
 walk_at "wps"
 refine zfh (d := d + 1) F rfl rfl (fun _ => ?_) (fun h => absurd (zl0 (lo := 1) (hi := 64) hn.1 hn.2) (by rw [show zdb ((1 : Nat) : Int) ((64 : Nat) : Int) (.int n) = false from h]; decide))
 walk_at "wps"
 refine Opt.mk hw ?_
 walk_at "wps"
 refine ⟨rfl, ?_⟩
 show E (.exc "BadNet" (atOf _ _)) H
 rw [zjo]; exact hq
theorem wd_net : Wd5 (Str.ofString "BadNet") "net" false false false true false := ⟨by decide +kernel, by decide +kernel, by decide +kernel, by decide +kernel, by decide +kernel, by decide +kernel, by decide, rfl, by decide⟩
end
end Bn
namespace Bn
open PySem
inductive WordZ (Q : V -> Hp -> Prop) (x : V) (H : Hp) : Prop
 | word (e w : Str) (b1 b2 b3 b5 : Bool) (h1 : x = .exc e .none) (W : Wd5 e w b1 b2 b3 false b5) (hq : ∀ a H', New H a [.str w] H' -> Q (.lst a) H') : WordZ Q x H
 | net (y : V) (h1 : x = .exc "BadNet" y) (hy : zjl y = some y) (hq : ∀ a H', New H a [.str "net", y] H' -> Q (.lst a) H') : WordZ Q x H
theorem zlo {Q : V -> Hp -> Prop} {H : Hp} (hq : ∀ a H', New H a [.str "lines"] H' -> Q (.lst a) H') : WordZ Q (.exc "BadLines" .none) H := .word _ _ _ _ _ _ rfl wd_lines hq
section
variable {c : Cx} {q : Bool} {d : Nat} {Q : V -> Hp -> Prop} {E : XPost} {H : Hp}
end
end Bn
namespace Bn
open PySem
/- need_things ['net', 'kind', 'things', 'thing'] r=0 -/
noncomputable def zhv : List St := [.ite (.or [(.not (.isi (.var 2) .list)), (.not (.cmp (.lit (.int 1)) [.le, .le] [(.blt .len [(.var 2)]), (.lit (.int 64))]))]) [.rais "BadLines" [(.lit (.str "a list of 1 to 64 things is wanted"))]] [], .expr (.call "need_net" [(.blt .len [(.var 2)]), (.var 0)]), .expr (.call "need_kind" [(.var 1)]), .loop (.one 3) (.val (.var 2)) [.expr (.call "need_thing" [(.var 1), (.var 3)])], .expr (.call "need_alike" [(.var 1), (.var 2)])]
/- _law_word ['_law_e', '_law_mine'] r=0 -/
noncomputable def zee : List St := [.set 1 (.list [(.isi (.var 0) (.own "BadKind")), (.isi (.var 0) (.own "BadThing")), (.isi (.var 0) (.own "BadLines")), (.isi (.var 0) (.own "BadNet"))]), .expr (.meth .append (.var 1) [(.isi (.var 0) (.own "NoNet"))]), .ite (.or [(.cmp (.meth .count (.var 1) [(.lit (.bool true))]) [.ne] [(.lit (.int 1))]), (.not (.isi (.var 0) (.own "ValueError")))]) [.ret (.list [(.lit (.str "other"))])] [], .ite (.and [(.isi (.var 0) (.own "BadNet")), (.not (.isi (.attr (.var 0) "at") .bool))]) [.ret (.list [(.lit (.str "net")), (.attr (.var 0) "at")])] [], .ret (.list [(.idx (.list [(.lit (.str "kind")), (.lit (.str "thing")), (.lit (.str "lines")), (.lit (.str "net")), (.lit (.str "none"))]) (.meth .index (.var 1) [(.lit (.bool true))]))])]
/- _law_asked ['_law_which', '_law_lines', '_law_net'] r=0 -/
noncomputable def ziu : List St := [.ite (.cmp (.var 0) [.eq] [(.lit (.int 0))]) [.ret (.call "need_net" [(.var 1), (.var 2)])] [], .ite (.cmp (.var 0) [.eq] [(.lit (.int 1))]) [.ret (.call "joints" [(.var 1), (.var 2)])] [], .ite (.cmp (.var 0) [.eq] [(.lit (.int 2))]) [.ret (.call "rows" [(.var 1), (.var 2)])] [], .ite (.cmp (.var 0) [.eq] [(.lit (.int 3))]) [.ret (.call "tells" [(.var 1), (.var 2)])] [], .ret (.call "led" [(.var 2), (.lit (.str "none")), (.bin .mul (.list [(.lit .none)]) (.var 1))])]
/- _law_tried ['_law_which', '_law_lines', '_law_net', '_law_e'] r=0 -/
noncomputable def ziy : List St := [.tri [.ret (.tup [(.call "_law_asked" [(.var 0), (.var 1), (.var 2)])])] 3 [.ret (.call "_law_word" [(.var 3)])]]
/- _law_odd_layer ['_law_lines', '_law_cell', '_law_high', '_law_some'] r=0 -/
noncomputable def zcm : List St := [.set 2 (.bin .sub (.var 0) (.lit (.int 1))), .set 3 (.list [(.list []), (.lit .none), (.tup [(.tup [(.lit (.int 0)), (.lit (.int 1))])]), (.list [(.tup [(.lit (.int 0)), (.lit (.int 0))])]), (.list [(.tup [(.lit (.int 0)), (.var 0)])]), (.list [(.tup [(.neg (.lit (.int 1))), (.lit (.int 0))])]), (.list [(.tup [(.var 2), (.lit (.int 0))])]), (.list [(.list [(.lit (.int 0)), (.lit (.int 1))])]), (.list [(.tup [(.lit (.int 0)), (.lit (.int 1)), (.lit (.int 2))])]), (.list [(.lit .none)])]), .set 3 (.bin .add (.var 3) (.list [(.list [(.tup [(.lit (.bool false)), (.var 2)])]), (.list [(.tup [(.lit (.int 0)), (.lit (.bool true))])]), (.list [(.tup [(.lit (.str "0")), (.lit (.int 1))])]), (.list [(.tup [(.lit (.int 0)), (.var 2)]), (.tup [(.lit (.int 0)), (.var 2)])]), (.list [(.tup [(.var 2), (.var 2)])]), (.lit (.str "ab")), (.list [(.tup [(.lit (.int 0))])])])), .ite (.cmp (.var 0) [.gt] [(.lit (.int 2))]) [.set 3 (.bin .add (.var 3) (.list [(.list [(.tup [(.lit (.int 0)), (.lit (.int 2))]), (.tup [(.lit (.int 0)), (.lit (.int 1))])]), (.list [(.tup [(.lit (.int 0)), (.lit (.int 2))]), (.tup [(.lit (.int 1)), (.lit (.int 2))])]), (.list [(.tup [(.lit (.int 0)), (.lit (.int 1))]), (.tup [(.lit (.int 1)), (.lit (.int 2))]), (.tup [(.lit (.int 0)), (.lit (.int 2))])])]))] [], .ret (.idx (.var 3) (.bin .mod (.var 1) (.blt .len [(.var 3)])))]
/- _law_put ['_law_net', '_law_lines', '_law_cell', '_law_at'] r=0 -/
noncomputable def zhp : List St := [.set 3 (.bin .mod (.var 2) (.bin .add (.blt .len [(.var 0)]) (.lit (.int 1)))), .set 0 (.bin .add (.bin .add (.slice (.var 0) (.lit .none) (.var 3)) (.list [(.call "_law_odd_layer" [(.var 1), (.bin .div (.var 2) (.lit (.int 64)))])])) (.slice (.var 0) (.var 3) (.lit .none))), .ite (.cmp (.bin .mod (.bin .div (.var 2) (.lit (.int 8))) (.lit (.int 2))) [.eq] [(.lit (.int 1))]) [.set 0 (.bin .add (.var 0) (.list [(.call "_law_odd_layer" [(.var 1), (.bin .div (.var 2) (.lit (.int 4096)))])]))] [], .ret (.tup [(.var 0), (.var 3)])]
/- law ['_law_script', '_law_lines', '_law_net', '_law_cell', '_law_which', '_law_handed', '_law_many', '_law_found', '_law_more', '_law_due', '_law_odd', '_law_at', '_law_copy'] r=1 -/
noncomputable def p2_law : List St := [.set 1 (.call "_law_lines_by" [(.call "_law_cell_at" [(.var 0), (.lit (.int 0))])]), .set 2 (.call "_law_telling" [(.call "_law_cell_at" [(.var 0), (.lit (.int 1))]), (.var 1)]), .set 3 (.bin .mod (.bin .mul (.call "_law_cell_at" [(.var 0), (.lit (.int 2))]) (.lit (.int 48271))) (.lit (.int 2147483647))), .set 4 (.bin .mod (.bin .div (.var 3) (.lit (.int 3))) (.lit (.int 5))), .ite (.cmp (.bin .mod (.var 3) (.lit (.int 3))) [.eq] [(.lit (.int 0))]) [.set 5 (.comp (.blt .list [(.var 13)]) (.one 13) (.var 2) []), .set 6 (.blt .sum [(.comp (.blt .len [(.var 13)]) (.one 13) (.var 2) [])]), .set 7 (.call "joints" [(.var 1), (.var 5)]), .ret (.and [(.cmp (.call "need_net" [(.var 1), (.var 5)]) [.is] [(.lit .none)]), (.call "_law_whole" [(.var 7)]), (.cmp (.var 7) [.eq] [(.var 6)]), (.cmp (.var 5) [.eq] [(.var 2)])])] [], .set 8 (.bin .div (.var 3) (.lit (.int 15))), .set 9 (.list [(.lit (.str "net")), (.lit .none)]), .ite (.cmp (.bin .mod (.var 8) (.lit (.int 8))) [.eq] [(.lit (.int 0))]) [.set 10 (.idx (.list [(.lit .none), (.blt .tuple [(.var 2)]), (.lit (.str "")), .dict0, (.lit (.int 7))]) (.bin .mod (.bin .div (.var 8) (.lit (.int 8))) (.lit (.int 5))))] [.ite (.cmp (.bin .mod (.var 8) (.lit (.int 8))) [.eq] [(.lit (.int 1))]) [.set 10 (.bin .mul (.list [(.list [(.tup [(.lit (.int 0)), (.lit (.int 1))])])]) (.lit (.int 81))), .ite (.cmp (.var 1) [.eq] [(.lit (.int 1))]) [.ret (.lit (.bool true))] []] [.unp [10, 11] (.call "_law_put" [(.var 2), (.var 1), (.bin .div (.var 8) (.lit (.int 8)))]), .set 9 (.list [(.lit (.str "net")), (.var 11)])]], .ite (.and [(.cmp (.bin .mod (.var 8) (.lit (.int 5))) [.eq] [(.lit (.int 1))]), (.cmp (.var 4) [.lt] [(.lit (.int 4))])]) [.set 1 (.idx (.list [(.lit (.int 0)), (.neg (.lit (.int 1))), (.lit (.int 65)), (.lit (.bool true)), (.lit .none), (.lit (.str "3")), (.list [(.lit (.int 3))]), (.bin .pow (.lit (.int 10)) (.lit (.int 20)))]) (.bin .mod (.bin .div (.var 8) (.lit (.int 40))) (.lit (.int 8)))), .set 9 (.list [(.lit (.str "lines"))])] [], .set 12 (.var 10), .ite (.isi (.var 10) .list) [.set 12 (.blt .list [(.var 10)])] [], .ret (.and [(.cmp (.call "_law_tried" [(.var 4), (.var 1), (.var 12)]) [.eq] [(.var 9)]), (.cmp (.var 12) [.eq] [(.var 10)])])]
noncomputable def p2_led : List St := [.expr (.call "need_things" [(.var 0), (.var 1), (.var 2)]), .stuck]
end Bn
namespace Bn
open PySem
inductive BadJ (n : Nat) : V -> Prop
 | noTup {v : V} (h : isiV v .tuple = some false) : BadJ n v
 | len {l : List V} (h : l.length ≠ 2) : BadJ n (.tup l)
 | fst {x y : V} (hk : (kd x).isSome = true) (h : zdb 0 ((n : Int) - 1) x = false) : BadJ n (.tup [x, y])
 | snd {x y : V} (hx : (kd x).isSome = true) (hk : (kd y).isSome = true) (h : zdb 0 ((n : Int) - 1) y = false) : BadJ n (.tup [x, y])
 | ord {a b : Int} (h : ¬ a < b) : BadJ n (.tup [.int a, .int b])
inductive BadFrom (n : Nat) : Int -> List V -> Prop
 | joint {last : Int} {j : V} {r : List V} (h : BadJ n j) : BadFrom n last (j :: r)
 | fall {last : Int} {r : List V} {a b : Nat} (h : a < b /\ b < n) (hl : (b : Int) <= last) : BadFrom n last (pr (a, b) :: r)
 | next {last : Int} {r : List V} {a b : Nat} (h : a < b /\ b < n) (hl : last < b) (t : BadFrom n b r) : BadFrom n last (pr (a, b) :: r)
inductive BadLy (n : Nat) (H : Hp) : V -> Prop
 | noList {v : V} (h : isiV v .list = some false) : BadLy n H v
 | none {a : Nat} (h : H[a]? = some []) : BadLy n H (.lst a)
 | bad {a : Nat} {xs : List V} (h : H[a]? = some xs) (hz : xs.length <= 9) (hb : BadFrom n (-1) xs) : BadLy n H (.lst a)
inductive GoodLy (n : Nat) (H : Hp) : V -> Prop
 | mk {a : Nat} {y : List (Nat × Nat)} (h : H[a]? = some (y.map pr)) (ok : zd3 n y) : GoodLy n H (.lst a)
theorem BadLy.grow {n : Nat} {H H' : Hp} {v : V} (h : BadLy n H v) (st : Stay [] H H') : BadLy n H' v := by
 cases h with
 | noList h => exact .noList h
 | none h => exact .none (at0 st h)
 | bad h hz hb => exact .bad (at0 st h) hz hb
theorem GoodLy.grow {n : Nat} {H H' : Hp} {v : V} (h : GoodLy n H v) (st : Stay [] H H') : GoodLy n H' v := by
 obtain ⟨h, ok⟩ := h
 exact ⟨at0 st h, ok⟩
section
variable {c : Cx} {q : Bool} {d : Nat} {Q : V -> Hp -> Prop} {E : XPost} {H : Hp}
theorem len_tupl {l : List V} : onQ true (bltV H .len [.tup l]) = some (.int l.length, H) := rfl
theorem s_badJ (F : Chk9 c) {n : Nat} {v : V} (h : BadJ n v) (hc : q = true) (hq : Q (.bool false) H) : Calls c q (d + 2) "is_joint" [v, .int n] none Q E H := by
 subst hc
 refine F.joint true (d + 1) _ Q E H rfl (Ss_go ?_)
 walk_at "wps"
 cases h with
 | noTup h =>
  refine Opt.mk h ?_
  walk_at "wps"
  exact hq
 | @len l h =>
  refine Opt.mk (isi_tt) ?_
  walk_at "wps"
  refine Opt.mk len_tupl ?_
  walk_at "wps"
  rw [decide_eq_false (show ¬ ((l.length : Int) = 2) from fun e => h (Int.ofNat.inj e))]
  walk_at "wps"
  exact hq
 | fst hk h =>
  walk_at "wps"
  refine ze8 F.among hk ?_
  rw [h]
  walk_at "wps"
  exact hq
 | snd hx hk h =>
  walk_at "wps"
  refine ze8 F.among hx ?_
  walk_at "wps"
  refine zrt (fun e => ?_) (fun e => ?_)
  ·refine Ss_go ?_
   walk_at "wps"
   exact hq
  ·walk_at "wps"
   refine ze8 F.among hk ?_
   rw [h]
   walk_at "wps"
   exact hq
 | ord h =>
  walk_at "wps"
  refine ze8 F.among rfl ?_
  walk_at "wps"
  refine zrt (fun e => ?_) (fun e => ?_)
  ·refine Ss_go ?_
   walk_at "wps"
   exact hq
  ·walk_at "wps"
   refine ze8 F.among rfl ?_
   walk_at "wps"
   refine zrt (fun e => ?_) (fun e => ?_)
   ·refine Ss_go ?_
    walk_at "wps"
    exact hq
   ·walk_at "wps"
    rw [decide_eq_false h]
    exact hq
theorem bad_loop (F : Chk9 c) {n a : Nat} {ok : Hp -> Prop} (hok : ok H) (hn : n <= 64) {QQ : SPost} {EE : SX} (hQ : ∀ l', QQ (.ret (.bool false)) l' H) : ∀ {last : Int} {xs : List V}, BadFrom n last xs -> ∀ {z : Option V},
  zja ok (fun x l Q H => Opt (zfu (.one 3) x l) fun l' => wpSs (Calls c) true (d + 2) none [.ite (.or [(.not (.call "is_joint" [(.var 3), (.var 1)])), (.cmp (.idx (.var 3) (.lit (.int 1))) [.le] [(.var 2)])]) [.ret (.lit (.bool false))] [], .set 2 (.idx (.var 3) (.lit (.int 1)))] Q EE l' H) xs QQ [some (.lst a), some (.int n), some (.int last), z] H := by
 intro last xs h
 induction h with
 | joint h =>
  intro z
  refine Opt.mk rfl (Ss_go ?_)
  walk_at "wps"
  refine s_badJ F h rfl ?_
  walk_at "wps"
  exact hQ _
 | @fall last r a b h hl =>
  intro z
  refine Opt.mk rfl (Ss_go ?_)
  unfold pr
  walk_at "wps"
  refine zgb F.among F.joint h.1 (zam.mpr h.2) rfl ?_
  walk_at "wps"
  rw [decide_eq_true hl]
  walk_at "wps"
  exact hQ _
 | @next last r a b h hl t ih =>
  intro z
  refine Opt.mk rfl (Ss_go ?_)
  unfold pr
  walk_at "wps"
  refine zgb F.among F.joint h.1 (zam.mpr h.2) rfl ?_
  walk_at "wps"
  rw [decide_eq_false (show ¬ ((b : Int) <= last) by lia)]
  walk_at "wps"
  exact ⟨hok, ih⟩
theorem s_badL (F : Chk9 c) {n : Nat} {v : V} (hn : n <= 64) (h : BadLy n H v) (hc : q = true) (hq : Q (.bool false) H) : Calls c q (d + 3) "is_layer" [v, .int n] none Q E H := by
 subst hc
 refine F.layer true (d + 2) _ Q E H rfl (Ss_go ?_)
 walk_at "wps"
 cases h with
 | noList h =>
  refine Opt.mk h ?_
  walk_at "wps"
  exact hq
 | none h =>
  walk_at "wps"
  refine Opt.mk (zci h) ?_
  walk_at "wps"
  refine zma (show ¬ ((1 : Int) <= ((([] : List V).length : Nat) : Int)) by decide) ?_
  walk_at "wps"
  exact hq
 | @bad a xs h hz hb =>
  walk_at "wps"
  refine Opt.mk (zci h) ?_
  walk_at "wps"
  have h1 : (1 : Int) <= (xs.length : Int) := by
   cases hb <;> exact za6.mpr (Nat.le_add_left 1 _)
  refine zfq h1 ?_
  walk_at "wps"
  rw [decide_eq_true (show (xs.length : Int) <= 63 by lia)]
  walk_at "wps"
  refine ⟨rfl, zj7 (v := .lst a) (fun K E' h => h) h ?_⟩
  exact bad_loop F h hn (fun _ => hq) hb
inductive Net2Inv (a n i : Nat) (xs : List V) (H : Hp) : Nat -> List V -> Loc -> Hp -> Prop
 | mk (k : Nat) (r : List V) (x y : Option V) (hr : xs.drop k = r) (hk : k <= i) : Net2Inv a n i xs H k r [some (.int n), some (.lst a), x, y] H
theorem s_net2 (F : Chk9 c) {n a i : Nat} {xs : List V} {v : V} (hn : 1 <= n /\ n <= 64) (top : H[a]? = some xs) (hz : xs.length <= 80) (hi : xs[i]? = some v) (hg : ∀ j y, j < i -> xs[j]? = some y -> GoodLy n H y) (hb : BadLy n H v) (hc : q = true)
  (hq : E (.exc "BadNet" (.int i)) H) : Calls c q (d + 4) "need_net" [.int n, .lst a] none Q E H := by
 subst hc
 refine F.net true (d + 3) _ Q E H rfl (Ss_go ?_)
 walk_at "wps"
 refine zfh (d := d + 1) F rfl rfl (fun _ => ?_) (fun h => absurd (zl0 (lo := 1) (hi := 64) hn.1 hn.2) (by rw [show zdb ((1 : Nat) : Int) ((64 : Nat) : Int) (.int n) = false from h]; decide))
 walk_at "wps"
 refine Opt.mk (zci top) ?_
 walk_at "wps"
 rw [decide_eq_false (show ¬ ((xs.length : Int) > 80) by lia)]
 walk_at "wps"
 refine ⟨rfl, zpi (a := a) (fun K E' h => h) top ?_⟩
 rw [show zde 0 xs = zde ((0 : Nat) : Int) (xs.map id) by rw [List.map_id]; rfl]
 refine ze6 (k := 0) (Net2Inv a n i xs H) ?_ ?_ (.mk _ _ _ _ rfl (za0 _))
 ·intro k b r l H' K hI hnext hret
  obtain ⟨x, y, hr, hk⟩ := hI
  have hb' : xs[k]? = some b := by
   have := List.getElem?_drop (xs := xs) (i := k) (j := 0)
   rw [hr] at this; exact this.symm
  refine Opt.mk rfl (Ss_go ?_)
  walk_at "wps"
  rcases Nat.lt_or_eq_of_le hk with hk | rfl
  ·obtain ⟨h1, h2⟩ := hg k b hk hb'
   refine zh0 F.among F.joint F.layer h1 hn.2 h2 rfl ?_
   walk_at "wps"
   exact hnext _ _ top (.mk _ _ _ _ (by rw [<- List.drop_drop, hr]; rfl) hk)
  ·obtain rfl := zaa (hb'.symm.trans hi)
   refine s_badL F hn.2 hb rfl ?_
   walk_at "wps"
   refine ⟨rfl, ?_⟩
   show E (.exc "BadNet" (atOf _ _)) _
   rw [zjo]; exact hq
 ·intro k l H' hI
  obtain ⟨x, y, hr, hk⟩ := hI
  have h1 := List.drop_eq_nil_iff.mp hr
  have h2 := zb7 hi
  exact absurd (zav h2 h1) (Nat.not_lt.mpr hk)
theorem s_netM (F : Chk9 c) {n a : Nat} {xs : List V} (hn : 1 <= n /\ n <= 64) (top : H[a]? = some xs) (hz : 80 < xs.length) (hc : q = true) (hq : E (.exc "BadNet" .none) H) : Calls c q (d + 4) "need_net" [.int n, .lst a] none Q E H := by
 subst hc
 refine F.net true (d + 3) _ Q E H rfl (Ss_go ?_)
 walk_at "wps"
 refine zfh (d := d + 1) F rfl rfl (fun _ => ?_) (fun h => absurd (zl0 (lo := 1) (hi := 64) hn.1 hn.2) (by rw [show zdb ((1 : Nat) : Int) ((64 : Nat) : Int) (.int n) = false from h]; decide))
 walk_at "wps"
 refine Opt.mk (zci top) ?_
 walk_at "wps"
 rw [decide_eq_true (show ((xs.length : Int) > 80) from zam.mpr hz)]
 walk_at "wps"
 refine ⟨rfl, ?_⟩
 show E (.exc "BadNet" (atOf _ _)) H
 rw [zjo]; exact hq
theorem s_netG (F : Chk9 c) {n a : Nat} {bs : List Nat} {net : Net} (hn : 1 <= n /\ n <= 64) (A : NetAt H a bs net) (ok : ziz n net) (hc : q = true) (hq : Q .none H) : Calls c q (d + 4) "need_net" [.int n, .lst a] none Q E H :=
 s_net9 F hn A hc (fun y hy => .inl (ok.2 y hy)) (fun h => absurd h (Nat.not_lt.mpr ok.1)) (fun _ _ => hq) fun i hi hj _ => by
  have := ok.2 _ (zaw hi)
  exact absurd this.2.2.1 (za2 _)
end
end Bn
namespace Bn
open PySem
structure Fns2 (c : Cx) : Prop where
 chk : Chk9 c
 joints : Has c "joints" 2 3 zpd
 rows : Has c "rows" 2 8 p_rows
 tells : Has c "tells" 2 2 p_tells
 things : Has c "need_things" 3 4 zhv
 led : Has c "led" 3 3 p2_led
 word : Has c "_law_word" 1 2 zee
 asked : Has c "_law_asked" 3 3 ziu
 tried : Has c "_law_tried" 3 4 ziy
section
variable {c : Cx} {q : Bool} {d : Nat} {Q : V -> Hp -> Prop} {E : XPost} {H : Hp}
theorem zpl (P : Has c "_law_word" 1 2 zee) {e w : Str} {b1 b2 b3 b4 b5 : Bool} {y : V} (W : Wd5 e w b1 b2 b3 b4 b5) (hy : b4 = true -> attrV (.exc e y) "at" = some y /\ isiV y .bool = some false) (hq : b4 = false -> ∀ a H', New H a [.str w] H' -> Q (.lst a) H') (hn : b4 = true -> ∀ a H', New H a [.str "net", y] H' -> Q (.lst a) H') : Calls c q (d + 1) "_law_word" [.exc e y] none Q E H := by
 obtain ⟨hk, h1, h2, h3, h4, h5, hc, hi, hm⟩ := W
 refine P q d _ Q E H rfl (Ss_go ?_)
 walk_at "wps"
 refine Opt.mk (ze1 hk (.inl (by decide +kernel)) h1) ?_
 walk_at "wps"
 refine Opt.mk (ze1 hk (.inl (by decide +kernel)) h2) ?_
 walk_at "wps"
 refine Opt.mk (ze1 hk (.inl (by decide +kernel)) h3) ?_
 walk_at "wps"
 refine Opt.mk (ze1 hk (.inl (by decide +kernel)) h4) ?_
 walk_at "wps"
 have hn1 : (H ++ [[V.bool b1, .bool b2, .bool b3, .bool b4]])[H.length]? = some [V.bool b1, .bool b2, .bool b3, .bool b4] := zb2
 have st1 := Stay.refl (S := []) (H := H) |>.app (xs := [V.bool b1, .bool b2, .bool b3, .bool b4])
 generalize H ++ [[V.bool b1, .bool b2, .bool b3, .bool b4]] = H1 at hn1 st1
 refine ⟨rfl, ?_⟩
 walk_at "wps"
 refine Opt.mk (ze1 hk (.inl (by decide +kernel)) h5) ?_
 walk_at "wps"
 refine Opt.mk (zdg hn1 (show 4 < 10000 by decide)) ?_
 walk_at "wps"
 have hn2 : (H1.set H.length ([V.bool b1, .bool b2, .bool b3, .bool b4] ++ [.bool b5]))[H.length]? = some [V.bool b1, .bool b2, .bool b3, .bool b4, .bool b5] := zga hn1
 have st2 := st1.set (a := H.length) (xs := [V.bool b1, .bool b2, .bool b3, .bool b4] ++ [.bool b5]) (.inr (zad _))
 generalize H1.set H.length ([V.bool b1, .bool b2, .bool b3, .bool b4] ++ [.bool b5]) = H2 at hn2 st2
 refine ⟨rfl, ?_⟩
 walk_at "wps"
 refine Opt.mk (zni (l := [b1, b2, b3, b4, b5]) hn2 rfl) ?_
 rw [hc]
 walk_at "wps"
 refine Opt.mk (ze1 hk (.inr rfl) (b := true) (decide_eq_true (.inr rfl))) ?_
 walk_at "wps"
 refine Opt.mk (ze1 hk (.inl (by decide +kernel)) h4) ?_
 walk_at "wps"
 cases b4 with
 | true =>
  obtain ⟨y1, y2⟩ := hy rfl
  walk_at "wps"
  refine Opt.mk y1 ?_
  refine Opt.mk y2 ?_
  walk_at "wps"
  refine Opt.mk y1 ?_
  walk_at "wps"
  exact hn rfl _ _ ⟨st2.app, zb2, st2.len⟩
 | false =>
  walk_at "wps"
  refine ⟨rfl, ?_⟩
  walk_at "wps"
  have hn3 : (H2 ++ [[V.str "kind", .str "thing", .str "lines", .str "net", .str "none"]])[H.length]? = some [V.bool b1, .bool b2, .bool b3, .bool false, .bool b5] := zcz hn2
  refine Opt.mk (zoh (l := [b1, b2, b3, false, b5]) hn3 rfl hm) ?_
  walk_at "wps"
  refine Opt.mk (zds zb2 hi) ?_
  walk_at "wps"
  refine hq rfl _ _ ⟨(st2.app).app, zb2, ?_⟩
  exact zac st2.len (Stay.refl (S := [])).app.len
theorem atom_isi {y : V} (hy : zjl y = some y) : isiV y .bool = some false := by
 cases y <;> first | rfl | cases hy
theorem s_wordY2 (PW : Has c "_law_word" 1 2 zee) {x : V} (h : WordZ Q x H) : kidX x = true /\ Calls c q (d + 1) "_law_word" [x] none Q E H := by
 cases h with
 | word e w b1 b2 b3 b5 h1 W hq =>
  subst h1
  have hk : e ∈ kids := by obtain ⟨hk, _⟩ := W; exact hk
  exact ⟨decide_eq_true hk, zpl PW W (fun h => nomatch h) (fun _ => hq) fun h => nomatch h⟩
 | net y h1 hy hq =>
  subst h1
  exact ⟨decide_eq_true (show Str.ofString "BadNet" ∈ kids by decide +kernel), zpl PW wd_net (fun _ => ⟨by show (if Str.ofString "at" = Str.ofString "at" /\ Str.ofString "BadNet" = Str.ofString "BadNet" then zjl y else none) = _; rw [if_pos ⟨rfl, rfl⟩]; exact hy, atom_isi hy⟩) (fun h => nomatch h) fun _ => hq⟩
noncomputable def zkp (c : Cx) (v w z : V) (H : Hp) : Prop := ∀ {d : Nat} {K : V -> Hp -> Prop} {X : XPost} {H' : Hp}, Stay [] H H' -> X z H' -> Calls c true (d + 4) "need_net" [v, w] none K X H'
theorem zmk {a n : Nat} {x : V} (h : H[a]? = some [x]) (hn : n < 100000) : binV H .mul (.lst a) (.int n) = some (.lst H.length, H ++ [List.replicate n x]) := by
 show (H[a]?).bind _ = _
 rw [h]
 have h2 : (n : Int).toNat * [x].length <= sizeLine := by
  rw [Int.toNat_natCast]
  exact zac (za8 (Nat.mul_one n)) (zap (zar hn (by decide)))
 refine (if_pos ⟨zbe n, za6.mpr (zac (zap hn) (by decide)), h2⟩).trans ?_
 rw [Int.toNat_natCast, zlr]
theorem s_asked (F : Fns2 c) {k : Nat} {v w z : V} (hk : k < 5) (h : zkp c v w z H) (h4 : k = 4 -> ∃ n : Nat, v = .int n /\ 1 <= n /\ n <= 64) (hc : q = true) (hq : ∀ H', Stay [] H H' -> E z H') : Calls c q (d + 7) "_law_asked" [.int k, v, w] none Q E H := by
 subst hc
 refine F.asked true (d + 6) _ Q E H rfl (Ss_go ?_)
 walk_at "wps"
 refine zb6 (fun _ => ?_) (fun h0 => ?_)
 ·refine Ss_go ?_
  walk_at "wps"
  exact h (d := d + 2) .refl (hq _ .refl)
 walk_at "wps"
 refine zb6 (fun _ => ?_) (fun h1 => ?_)
 ·refine Ss_go ?_
  walk_at "wps"
  refine F.joints true (d + 5) _ _ _ _ rfl (Ss_go ?_)
  walk_at "wps"
  exact h (d := d + 1) .refl (hq _ .refl)
 walk_at "wps"
 refine zb6 (fun _ => ?_) (fun h2 => ?_)
 ·refine Ss_go ?_
  walk_at "wps"
  refine F.rows true (d + 5) _ _ _ _ rfl (Ss_go ?_)
  walk_at "wps"
  exact h (d := d + 1) .refl (hq _ .refl)
 walk_at "wps"
 refine zb6 (fun _ => ?_) (fun h3 => ?_)
 ·refine Ss_go ?_
  walk_at "wps"
  refine F.tells true (d + 5) _ _ _ _ rfl (Ss_go ?_)
  walk_at "wps"
  exact h (d := d + 1) .refl (hq _ .refl)
 walk_at "wps"
 obtain ⟨n, rfl, hn1, hn2⟩ := h4 (by lia)
 refine zch (zmk zb2 (by lia)) fun a H1 N => ?_
 have st := (Stay.refl (S := []) (H := H)).app (xs := [V.none]) |>.trans0 N.st
 have hold := N.hold
 clear N
 refine F.led true (d + 5) _ _ _ _ rfl (Ss_go ?_)
 walk_at "wps"
 refine F.things true (d + 4) _ _ _ _ rfl (Ss_go ?_)
 walk_at "wps"
 refine Opt.mk (zci hold) ?_
 rw [List.length_replicate]
 walk_at "wps"
 refine zfq (za6.mpr hn1) ?_
 walk_at "wps"
 rw [decide_eq_true (show (n : Int) <= 64 from za6.mpr hn2)]
 walk_at "wps"
 refine Opt.mk (zci hold) ?_
 rw [List.length_replicate]
 exact h (d := d) st (hq _ st)
theorem zmo (F : Fns2 c) {k : Nat} {v w z : V} (hk : k < 5) (h : zkp c v w z H) (h4 : k = 4 -> ∃ n : Nat, v = .int n /\ 1 <= n /\ n <= 64) (hc : q = true) (hq : ∀ H', Stay [] H H' -> WordZ Q z H') : Calls c q (d + 8) "_law_tried" [.int k, v, w] none Q E H := by
 subst hc
 refine F.tried true (d + 7) _ Q E H rfl (Ss_go ?_)
 walk_at "wps"
 refine ⟨rfl, ?_⟩
 refine Ss_go ?_
 walk_at "wps"
 refine s_asked F hk h h4 rfl fun H' st => ?_
 obtain ⟨h1, h2⟩ := s_wordY2 (q := false) (d := d + 6) (E := fun _ _ => False) F.word (hq H' st)
 refine ⟨h1, ?_⟩
 refine Ss_go ?_
 walk_at "wps"
 exact h2
end
end Bn
namespace Bn
open PySem
section
variable {c : Cx} {q : Bool} {d : Nat} {Q : V -> Hp -> Prop} {E : XPost} {H : Hp}
end
end Bn
namespace Bn
open PySem
section
variable {c : Cx} {q : Bool} {d : Nat} {Q : V -> Hp -> Prop} {E : XPost} {H : Hp}
end
end Bn
namespace Bn
open PySem
section
variable {c : Cx} {q : Bool} {d : Nat} {Q : V -> Hp -> Prop} {E : XPost} {H : Hp}
end
end Bn
namespace Bn
open PySem
section
variable {c : Cx} {q : Bool} {d : Nat} {Q : V -> Hp -> Prop} {E : XPost} {H : Hp}
end
end Bn
namespace Bn
open PySem
section
variable {c : Cx} {q : Bool} {d : Nat} {Q : V -> Hp -> Prop} {E : XPost} {H : Hp}
end
end Bn
namespace Bn
open PySem
section
variable {c : Cx} {q : Bool} {d : Nat} {Q : V -> Hp -> Prop} {E : XPost} {H : Hp}
end
end Bn
namespace Bn
open PySem
section
variable {c : Cx} {q : Bool} {d : Nat} {Q : V -> Hp -> Prop} {E : XPost} {H : Hp}
end
end Bn
namespace Bn
open PySem
section
variable {c : Cx} {q : Bool} {d : Nat} {Q : V -> Hp -> Prop} {E : XPost} {H : Hp}
theorem eq_lw {a b : Nat} {w : Str} (h1 : PyData.strOk w = true) (ha : H[a]? = some [.str w]) (hb : H[b]? = some [.str w]) : eqV H (.lst a) (.lst b) = some true := (eq_words ha hb h1 h1).trans (by rw [decide_eq_true rfl])
theorem ok_lines : PyData.strOk (Str.ofString "lines") = true := by decide +kernel
theorem eq_nw {a b : Nat} {y : V} (hy : zjl y = some y) (ha : H[a]? = some [.str "net", y]) (hb : H[b]? = some [.str "net", y]) : eqV H (.lst a) (.lst b) = some true := by
 have hn : PyData.strOk (Str.ofString "net") = true := by decide +kernel
 have he : (Str.ofString "net" == Str.ofString "net") = true := beq_self_eq_true _
 cases y with
 | none =>
  have t : ∀ {a : Nat}, H[a]? = some [.str "net", .none] -> toP 9 H (.lst a) = some (.list [.str "net", .none]) := fun h => zcd h rfl
  show (toP 9 H (.lst a)).bind _ = _
  rw [t ha]
  show (toP 9 H (.lst b)).bind _ = _
  rw [t hb]
  refine (if_pos (show ((PyData.strOk "net" && true) && (PyData.strOk "net" && true)) = true by rw [hn]; rfl)).trans ?_
  show some ((Str.ofString "net" == Str.ofString "net") && true) = _
  rw [he]; rfl
 | int i =>
  have t : ∀ {a : Nat}, H[a]? = some [.str "net", .int i] -> toP 9 H (.lst a) = some (.list [.str "net", .int i]) := fun h => zcd h rfl
  show (toP 9 H (.lst a)).bind _ = _
  rw [t ha]
  show (toP 9 H (.lst b)).bind _ = _
  rw [t hb]
  refine (if_pos (show ((PyData.strOk "net" && true) && (PyData.strOk "net" && true)) = true by rw [hn]; rfl)).trans ?_
  show some ((Str.ofString "net" == Str.ofString "net") && (decide (i = i) && true)) = _
  rw [he, decide_eq_true rfl]; rfl
 | _ => cases hy
end
end Bn
namespace Bn
open PySem
theorem zgo {α β : Type} {f g : α -> Option β} : ∀ {l : List α} {ys : List β}, (∀ x ∈ l, ∀ y, f x = some y -> g x = some y) -> mapO f l = some ys -> mapO g l = some ys
 | [], _, _, h => h
 | x :: l, _, hf, h => by
  obtain ⟨y, ys, h1, h2, rfl⟩ := zb9 h
  show (g x).bind _ = _
  rw [hf x zae y h1]
  show (mapO g l).map _ = _
  rw [zgo (fun z hz => hf z (zaj _ hz)) h2]; rfl
theorem zgq {H H' : Hp} (st : Stay [] H H') : ∀ (n : Nat) {v : V} {P : PyData}, toP n H v = some P -> toP n H' v = some P
 | 0, _, _, h => h
 | n + 1, v, P, h => by
  cases v with
  | tup l =>
   obtain ⟨ys, h1, h2⟩ := zah.mp (show (mapO (toP n H) l).map _ = _ from h)
   show (mapO (toP n H') l).map _ = _
   rw [zgo (fun x _ y hy => zgq st n hy) h1, <- h2]; rfl
  | lst a =>
   obtain ⟨ys, h1, h2⟩ := zah.mp (show (H[a]?.bind fun xs => mapO (toP n H) xs).map _ = _ from h)
   obtain ⟨xs, h3, h4⟩ := zab.mp h1
   show (H'[a]?.bind fun xs => mapO (toP n H') xs).map _ = _
   rw [at0 st h3]
   show (mapO (toP n H') xs).map _ = _
   rw [zgo (fun x _ y hy => zgq st n hy) h4, <- h2]; rfl
  | _ => exact h
inductive Dat (k : Nat) (H : Hp) (v : V) : Prop
 | mk (P : PyData) (h : toP k H v = some P) (l : P.canLay0 = true) : Dat k H v
theorem Dat.grow {k : Nat} {H H' : Hp} {v : V} (h : Dat k H v) (st : Stay [] H H') : Dat k H' v := let ⟨P, h, l⟩ := h; ⟨P, zgq st k h, l⟩
theorem dats {k : Nat} {H : Hp} : ∀ {xs : List V}, (∀ x ∈ xs, Dat k H x) -> ∃ ys, mapO (toP k H) xs = some ys /\ PyData.canLayAll0 ys = true
 | [], _ => ⟨[], rfl, rfl⟩
 | x :: xs, h => by
  obtain ⟨P, h1, l1⟩ := h x zae
  obtain ⟨ys, h2, l2⟩ := dats fun z hz => h z (zaj _ hz)
  refine ⟨P :: ys, ?_, zag.mpr ⟨l1, l2⟩⟩
  show (toP k H x).bind _ = _
  rw [h1]
  show (mapO (toP k H) xs).map _ = _
  rw [h2]; rfl
theorem Dat.list {k a : Nat} {H : Hp} {xs : List V} (ha : H[a]? = some xs) (h : ∀ x ∈ xs, Dat k H x) : Dat (k + 1) H (.lst a) := by
 obtain ⟨ys, h1, h2⟩ := dats h
 exact ⟨.list ys, zcd ha h1, h2⟩
theorem Dat.tup {k : Nat} {H : Hp} {xs : List V} (h : ∀ x ∈ xs, Dat k H x) : Dat (k + 1) H (.tup xs) := by
 obtain ⟨ys, h1, h2⟩ := dats h
 exact ⟨.tuple ys, by show (mapO (toP k H) xs).map _ = _; rw [h1]; rfl, h2⟩
theorem zol {H : Hp} {v w : V} {P : PyData} (l : P.canLay0 = true) (h1 : toP 9 H v = some P) (h2 : toP 9 H w = some P) : eqV H v w = some true := by
 show (toP 9 H v).bind _ = _
 rw [h1]
 show (toP 9 H w).bind _ = _
 rw [h2]
 refine (if_pos (zag.mpr ⟨l, l⟩)).trans ?_
 rw [PySem.SeqAt.eqv_refl P l]
theorem Dat.self {H : Hp} {v : V} (h : Dat 9 H v) : eqV H v v = some true := let ⟨_, h, l⟩ := h; zol l h h
theorem Dat.two {H : Hp} {a b : Nat} {xs : List V} (ha : H[a]? = some xs) (hb : H[b]? = some xs) (h : ∀ x ∈ xs, Dat 8 H x) : eqV H (.lst a) (.lst b) = some true := by
 obtain ⟨ys, h1, h2⟩ := dats h
 exact zol (P := .list ys) h2 (zcd ha h1) (zcd hb h1)
noncomputable def OddL (n : Nat) (H : Hp) (v : V) : Prop := BadLy n H v /\ Dat 8 H v
theorem OddL.grow {n : Nat} {H H' : Hp} {v : V} (h : OddL n H v) (st : Stay [] H H') : OddL n H' v := ⟨h.1.grow st, h.2.grow st⟩
theorem zct {n : Nat} {H : Hp} {xs : List V} {ys : List PyData} (hz : xs.length <= 9) (hb : BadFrom n (-1) xs) (h : mapO (toP 7 []) xs = some ys) (l : PyData.canLayAll0 ys = true) : OddL n (H ++ [xs]) (.lst H.length) :=
 ⟨.bad zb2 hz hb, .list ys, zcd zb2 (zgo (fun x _ y hy => zgq (H := []) ⟨za0 _, fun _ h => absurd h (Nat.not_lt_zero _)⟩ 7 hy) h), l⟩
section
variable {c : Cx} {q : Bool} {d : Nat} {Q : V -> Hp -> Prop} {E : XPost} {H : Hp}
noncomputable def OddE (c : Cx) (q : Bool) (d : Nat) (l : Loc) (n : Nat) (e : Ex) : Prop := ∀ (H : Hp) (K : V -> Hp -> Prop) (E : XPost), (∀ v H', Stay [] H H' -> OddL n H' v -> K v H') -> wpE (Calls c) q d none e l K E H
theorem L_odd {l : Loc} {n : Nat} : ∀ {es : List Ex}, (∀ e ∈ es, OddE c q d l n e) -> ∀ {H : Hp} {Q : List V -> Hp -> Prop} {E : XPost}, (∀ vs H', Stay [] H H' -> (∀ v ∈ vs, OddL n H' v) -> vs.length = es.length -> Q vs H') -> wpL (Calls c) q d none es l Q E H
 | [], _, _, _, _, hq => hq [] _ .refl (fun _ h => nomatch h) rfl
 | e :: es, h, H, Q, E, hq => by
  rw [L_cons]
  refine h e zae _ _ _ fun v H1 st hv => ?_
  refine L_odd (fun e' he => h e' (zaj _ he)) fun vs H2 st2 hvs hl => ?_
  refine hq _ _ (st.trans0 st2) (fun x hx => ?_) (congrArg (· + 1) hl)
  rcases zak.mp hx with rfl | hx
  ·exact hv.grow st2
  ·exact hvs x hx
noncomputable def odd1 : List Ex := [(.list []), (.lit .none), (.tup [(.tup [(.lit (.int 0)), (.lit (.int 1))])]), (.list [(.tup [(.lit (.int 0)), (.lit (.int 0))])]), (.list [(.tup [(.lit (.int 0)), (.var 0)])]), (.list [(.tup [(.neg (.lit (.int 1))), (.lit (.int 0))])]), (.list [(.tup [(.var 2), (.lit (.int 0))])]), (.list [(.list [(.lit (.int 0)), (.lit (.int 1))])]), (.list [(.tup [(.lit (.int 0)), (.lit (.int 1)), (.lit (.int 2))])]), (.list [(.lit .none)])]
noncomputable def odd2 : List Ex := [(.list [(.tup [(.lit (.bool false)), (.var 2)])]), (.list [(.tup [(.lit (.int 0)), (.lit (.bool true))])]), (.list [(.tup [(.lit (.str "0")), (.lit (.int 1))])]), (.list [(.tup [(.lit (.int 0)), (.var 2)]), (.tup [(.lit (.int 0)), (.var 2)])]), (.list [(.tup [(.var 2), (.var 2)])]), (.lit (.str "ab")), (.list [(.tup [(.lit (.int 0))])])]
noncomputable def odd3 : List Ex := [(.list [(.tup [(.lit (.int 0)), (.lit (.int 2))]), (.tup [(.lit (.int 0)), (.lit (.int 1))])]), (.list [(.tup [(.lit (.int 0)), (.lit (.int 2))]), (.tup [(.lit (.int 1)), (.lit (.int 2))])]), (.list [(.tup [(.lit (.int 0)), (.lit (.int 1))]), (.tup [(.lit (.int 1)), (.lit (.int 2))]), (.tup [(.lit (.int 0)), (.lit (.int 2))])])]
theorem zcq {α : Type} {P : α -> Prop} {x : α} {l : List α} (h : P x) (t : ∀ p ∈ l, P p) : ∀ p ∈ x :: l, P p := zau.mpr ⟨h, t⟩
theorem zrl {α : Type} {P : α -> Prop} : ∀ p ∈ ([] : List α), P p := fun _ h => nomatch h
theorem am_no {a b i : Int} (h : ¬ (a <= i /\ i <= b)) : zdb a b (.int i) = false := decide_eq_false h
abbrev oddLoc (h : Nat) (cell x : Option V) : Loc := [some (.int (h + 1 : Nat)), cell, some (.int h), x]
theorem odd1_ok {h : Nat} {cell x : Option V} : ∀ e ∈ odd1, OddE c q d (oddLoc h cell x) (h + 1) e := by
 refine zcq (fun H K E hK => ?_) (zcq (fun H K E hK => ?_) (zcq (fun H K E hK => ?_) (zcq (fun H K E hK => ?_) (zcq (fun H K E hK => ?_) (zcq (fun H K E hK => ?_) (zcq (fun H K E hK => ?_) (zcq (fun H K E hK => ?_) (zcq (fun H K E hK => ?_) (zcq (fun H K E hK => ?_) zrl)))))))))
 ·walk_at "wps"
  exact hK _ _ Stay.refl.app ⟨.none zb2, .list [], zcd zb2 rfl, rfl⟩
 ·walk_at "wps"
  exact hK _ _ .refl ⟨.noList rfl, .none, rfl, rfl⟩
 ·walk_at "wps"
  exact hK _ _ .refl ⟨.noList rfl, _, rfl, rfl⟩
 ·walk_at "wps"
  exact hK _ _ Stay.refl.app (zct (zaz rfl) (.joint (.ord (by decide))) rfl rfl)
 ·walk_at "wps"
  exact hK _ _ Stay.refl.app (zct (zaz rfl) (.joint (.snd rfl rfl (am_no (by lia)))) rfl rfl)
 ·walk_at "wps"
  exact hK _ _ Stay.refl.app (zct (zaz rfl) (.joint (.fst rfl (am_no (by lia)))) rfl rfl)
 ·walk_at "wps"
  exact hK _ _ Stay.refl.app (zct (zaz rfl) (.joint (.ord (by lia))) rfl rfl)
 ·walk_at "wps"
  refine hK _ _ Stay.refl.app.app ⟨.bad zb2 (zaz rfl) (.joint (.noTup rfl)), Dat.list zb2 fun y hy => ?_⟩
  rw [zai.mp hy]
  exact ⟨.list [.int 0, .int 1], zcd (zcz zb2) rfl, rfl⟩
 ·walk_at "wps"
  exact hK _ _ Stay.refl.app (zct (zaz rfl) (.joint (.len (by decide))) rfl rfl)
 ·walk_at "wps"
  exact hK _ _ Stay.refl.app (zct (zaz rfl) (.joint (.noTup rfl)) rfl rfl)
theorem odd2_ok {h : Nat} {cell x : Option V} : ∀ e ∈ odd2, OddE c q d (oddLoc h cell x) (h + 1) e := by
 refine zcq (fun H K E hK => ?_) (zcq (fun H K E hK => ?_) (zcq (fun H K E hK => ?_) (zcq (fun H K E hK => ?_) (zcq (fun H K E hK => ?_) (zcq (fun H K E hK => ?_) (zcq (fun H K E hK => ?_) zrl))))))
 ·walk_at "wps"
  exact hK _ _ Stay.refl.app (zct (zaz rfl) (.joint (.fst rfl rfl)) rfl rfl)
 ·walk_at "wps"
  exact hK _ _ Stay.refl.app (zct (zaz rfl) (.joint (.snd rfl rfl rfl)) rfl rfl)
 ·walk_at "wps"
  exact hK _ _ Stay.refl.app (zct (zaz rfl) (.joint (.fst rfl rfl)) rfl (by decide +kernel))
 ·walk_at "wps"
  refine hK _ _ Stay.refl.app (zct (zaz rfl) ?_ rfl rfl)
  rcases Nat.eq_zero_or_pos h with rfl | hp
  ·exact .joint (.ord (by decide))
  ·exact .next (a := 0) (b := h) ⟨hp, zbq _⟩ (by lia) (.fall (a := 0) (b := h) ⟨hp, zbq _⟩ (Int.le_refl _))
 ·walk_at "wps"
  exact hK _ _ Stay.refl.app (zct (zaz rfl) (.joint (.ord (Int.lt_irrefl _))) rfl rfl)
 ·walk_at "wps"
  exact hK _ _ .refl ⟨.noList rfl, .str "ab", rfl, by decide +kernel⟩
 ·walk_at "wps"
  exact hK _ _ Stay.refl.app (zct (zaz rfl) (.joint (.len (by decide))) rfl rfl)
theorem odd3_ok {h : Nat} {cell x : Option V} (hh : 2 <= h) : ∀ e ∈ odd3, OddE c q d (oddLoc h cell x) (h + 1) e := by
 have h2 : 2 < h + 1 := Nat.lt_succ_of_le hh
 have h1 : 1 < h + 1 := Nat.lt_of_succ_lt h2
 refine zcq (fun H K E hK => ?_) (zcq (fun H K E hK => ?_) (zcq (fun H K E hK => ?_) zrl))
 ·walk_at "wps"
  exact hK _ _ Stay.refl.app (zct (zaz rfl) (.next (a := 0) (b := 2) ⟨by decide, h2⟩ (by decide) (.fall (a := 0) (b := 1) ⟨by decide, h1⟩ (by decide))) rfl rfl)
 ·walk_at "wps"
  exact hK _ _ Stay.refl.app (zct (zaz rfl) (.next (a := 0) (b := 2) ⟨by decide, h2⟩ (by decide) (.fall (a := 1) (b := 2) ⟨by decide, h2⟩ (by decide))) rfl rfl)
 ·walk_at "wps"
  exact hK _ _ Stay.refl.app (zct (zaz rfl) (.next (a := 0) (b := 1) ⟨by decide, h1⟩ (by decide) (.next (a := 1) (b := 2) ⟨by decide, h2⟩ (by decide) (.fall (a := 0) (b := 2) ⟨by decide, h2⟩ (by decide)))) rfl rfl)
theorem zl7 {c : Cx} {n t : Nat} {cell : Int} {vs : List V} {v0 v2 : Option V} (ht : H[t]? = some vs) (hne : vs ≠ []) (hv : ∀ v ∈ vs, OddL n H v) {EE : SX} (hq : ∀ v, OddL n H v -> Q v H) :
  wpSs (Calls c) true d none [.ret (.idx (.var 3) (.bin .mod (.var 1) (.blt .len [(.var 3)])))] (EndQ Q) EE [v0, some (.int cell), v2, some (.lst t)] H := by
 refine Ss_go ?_
 walk_at "wps"
 refine Opt.mk (zci ht) ?_
 walk_at "wps"
 have hp : (0 : Int) < (vs.length : Int) := zam.mpr (List.length_pos_iff.mpr hne)
 refine zcc hp ?_
 obtain ⟨j, hj⟩ := zh5 (x := cell) (y := (vs.length : Int)) hp
 have hjl : j < vs.length := zam.mp (hj ▸ zbs _ hp)
 rw [hj]
 refine Opt.mk (zds ht (zal hjl)) ?_
 walk_at "wps"
 exact hq _ (hv _ (List.getElem_mem hjl))
theorem oddL_eq : zcm = [.set 2 (.bin .sub (.var 0) (.lit (.int 1))), .set 3 (.list odd1), .set 3 (.bin .add (.var 3) (.list odd2)), .ite (.cmp (.var 0) [.gt] [(.lit (.int 2))]) [.set 3 (.bin .add (.var 3) (.list odd3))] [], .ret (.idx (.var 3) (.bin .mod (.var 1) (.blt .len [(.var 3)])))] := rfl
theorem s_oddL (P : Has c "_law_odd_layer" 2 4 zcm) {n : Nat} {cell : Int} (hn : 1 <= n) (hc : q = true) (hq : ∀ v H', Stay [] H H' -> OddL n H' v -> Q v H') : Calls c q (d + 1) "_law_odd_layer" [.int n, .int cell] none Q E H := by
 subst hc
 obtain ⟨h, rfl⟩ := Nat.exists_eq_add_of_le' hn
 rw [oddL_eq] at P
 refine P true d _ Q E H rfl ?_
 walk_at "wpg"
 walk_at "wpd"
 rw [show ((h + 1 : Nat) : Int) - 1 = (h : Int) by lia]
 walk_at "wps"
 refine L_odd (n := h + 1) (l := oddLoc h (some (.int cell)) none) odd1_ok fun vs H1 st1 h1 l1 => ?_
 replace l1 : vs.length = 10 := l1
 have k1 := zb2 (H := H1) (xs := vs)
 have t1 := (Stay.refl (S := []) (H := H1)).app (xs := vs)
 have g1 : ∀ v ∈ vs, OddL (h + 1) (H1 ++ [vs]) v := fun v hv => (h1 v hv).grow t1
 replace st1 := st1.trans0 t1
 generalize H1 ++ [vs] = H2 at k1 g1 st1
 generalize H1.length = t at k1
 clear h1 t1
 walk_at "wps"
 refine L_odd (n := h + 1) (l := oddLoc h (some (.int cell)) (some (.lst t))) odd2_ok fun ws H3 st2 h2 l2 => ?_
 replace l2 : ws.length = 7 := l2
 have t2 := (Stay.refl (S := []) (H := H3)).app (xs := ws)
 refine zch (zdl (at0 (st2.trans0 t2) k1) zb2 (by rw [l1, l2]; decide)) fun a H4 N => ?_
 have g2 : ∀ v ∈ vs ++ ws, OddL (h + 1) H4 v := fun v hv => (zaq.mp hv).elim (fun hv => (g1 v hv).grow (st2.trans0 (t2.trans0 N.st))) fun hv => (h2 v hv).grow (t2.trans0 N.st)
 have st4 := st1.trans0 (st2.trans0 (t2.trans0 N.st))
 have k4 := N.hold
 have l4 : (vs ++ ws).length = 17 := by rw [zan, l1, l2]
 have ne : vs ++ ws ≠ [] := List.ne_nil_of_length_pos (by rw [l4]; decide)
 clear N t2 h2 st2 g1 k1 st1
 walk_at "wps"
 refine zb6 (fun hh => ?_) (fun hh => ?_)
 ·walk_at "wps"
  refine L_odd (n := h + 1) (l := oddLoc h (some (.int cell)) (some (.lst a))) (odd3_ok (by lia)) fun us H5 st5 h5 l5 => ?_
  replace l5 : us.length = 3 := l5
  have t5 := (Stay.refl (S := []) (H := H5)).app (xs := us)
  refine zch (zdl (at0 (st5.trans0 t5) k4) zb2 (by rw [l4, l5]; decide)) fun b H6 N => ?_
  walk_at "wpg"
  walk_at "wpg"
  walk_at "wpg"
  walk_at "wpd"
  refine zl7 N.hold (fun e => ne (List.append_eq_nil_iff.mp e).1) (fun v hv => (zaq.mp hv).elim (fun hv => (g2 v hv).grow (st5.trans0 (t5.trans0 N.st))) fun hv => (h5 v hv).grow (t5.trans0 N.st)) fun v hv => hq v _ (st4.trans0 (st5.trans0 (t5.trans0 N.st))) hv
 ·walk_at "wpg"
  walk_at "wpg"
  exact zl7 k4 ne g2 fun v hv => hq v _ st4 hv
end
end Bn
namespace Bn
open PySem
inductive OddN (n : Nat) (H : Hp) (y : V) : V -> Prop
 | no {o : V} (hl : isiV o .list = some false) (he : ∀ H', Stay [] H H' -> cmpV H' .eq o o = some true) (hy : y = .none) : OddN n H y o
 | many {a : Nat} {xs : List V} (top : H[a]? = some xs) (hz : 80 < xs.length) (hd : ∀ x ∈ xs, Dat 8 H x) (hy : y = .none) : OddN n H y (.lst a)
 | bad {a i : Nat} {xs : List V} {v : V} (top : H[a]? = some xs) (hz : xs.length <= 80) (hi : xs[i]? = some v) (hg : ∀ j y, j < i -> xs[j]? = some y -> GoodLy n H y) (hb : BadLy n H v) (hd : ∀ x ∈ xs, Dat 8 H x) (hy : y = .int i) : OddN n H y (.lst a)
theorem OddN.grow {n : Nat} {H H' : Hp} {y o : V} (h : OddN n H y o) (st : Stay [] H H') : OddN n H' y o := by
 cases h with
 | no hl he hy => exact .no hl (fun H2 st2 => he H2 (st.trans0 st2)) hy
 | many top hz hd hy => exact .many (at0 st top) hz (fun x hx => (hd x hx).grow st) hy
 | bad top hz hi hg hb hd hy => exact .bad (at0 st top) hz hi (fun j y hj hy => (hg j y hj hy).grow st) (hb.grow st) (fun x hx => (hd x hx).grow st) hy
inductive DueW : V -> List V -> Prop
 | lines : DueW (.exc "BadLines" .none) [.str "lines"]
 | net (y : V) (hy : zjl y = some y) : DueW (.exc "BadNet" y) [.str "net", y]
theorem DueW.word {Q : V -> Hp -> Prop} {H : Hp} {z : V} {W : List V} (h : DueW z W) (hq : ∀ a H', New H a W H' -> Q (.lst a) H') : WordZ Q z H := by
 cases h with
 | lines => exact zlo hq
 | net y hy => exact .net y rfl hy hq
theorem DueW.eq {H : Hp} {z : V} {W : List V} {a b : Nat} (h : DueW z W) (ha : H[a]? = some W) (hb : H[b]? = some W) : eqV H (.lst a) (.lst b) = some true := by
 cases h with
 | lines => exact eq_lw ok_lines ha hb
 | net y hy => exact eq_nw hy ha hb
theorem NetAt.good {n a : Nat} {H : Hp} {bs : List Nat} {net : Net} (N : NetAt H a bs net) (ok : ziz n net) {x : V} (hx : x ∈ bs.map V.lst) : GoodLy n H x /\ Dat 8 H x := by
 obtain ⟨b, hb, rfl⟩ := zas.mp hx
 obtain ⟨y, hy, e⟩ := N.each hb
 exact ⟨.mk e (ok.2 y hy), _, zkt (n := 6) e, (eqP_joint.list).lay y⟩
section
variable {c : Cx} {q : Bool} {d : Nat} {Q : V -> Hp -> Prop} {E : XPost} {H : Hp}
theorem zo3 {n a i : Nat} {bs : List Nat} {net : Net} {v : V} {ws : List V} {a' : Nat} (A : NetAt H a bs net) (ok : ziz n net) (hz : net.length <= 70) (hi : i <= net.length) (hv : OddL n H v) (hw : ∀ w ∈ ws, OddL n H w) (hwz : ws.length <= 1)
  (top : H[a']? = some ((bs.map V.lst).take i ++ [v] ++ (bs.map V.lst).drop i ++ ws)) : OddN n H (.int i) (.lst a') := by
 have hl : ((bs.map V.lst).take i).length = i := by rw [zbl, zaf, A.len]; exact Nat.min_eq_left hi
 refine .bad (v := v) top ?_ ?_ (fun j y hj hy => ?_) hv.1 (fun x hx => ?_) rfl
 ·rw [zan, zan, zan, zbo, hl, zaf, A.len]
  show i + 1 + _ + _ <= 80
  lia
 ·rw [zbd, zbd, zbk (za8 hl), hl, Nat.sub_self]; rfl
 ·rw [zbd, zbd, zbi (by rw [hl]; exact hj)] at hy
  exact (A.good ok (List.mem_of_mem_take (zaw hy))).1
 ·rcases zaq.mp hx with hx | hx
  ·rcases zaq.mp hx with hx | hx
   ·rcases zaq.mp hx with hx | hx
    ·exact (A.good ok (List.mem_of_mem_take hx)).2
    ·rw [zai.mp hx]; exact hv.2
   ·exact (A.good ok (List.mem_of_mem_drop hx)).2
  ·exact (hw x hx).2
theorem s_lput (P : Has c "_law_put" 3 4 zhp) (PO : Has c "_law_odd_layer" 2 4 zcm) {n a : Nat} {bs : List Nat} {net : Net} {cell : Int} (A : NetAt H a bs net) (ok : ziz n net) (hz : net.length <= 70) (hn : 1 <= n) (hc : q = true)
  (hq : ∀ a' i H', Stay [] H H' -> OddN n H' (.int (i : Nat)) (.lst a') -> Q (.tup [.lst a', .int i]) H') : Calls c q (d + 2) "_law_put" [.lst a, .int n, .int cell] none Q E H := by
 subst hc
 refine P true (d + 1) _ Q E H rfl ?_
 walk_at "wps"
 refine Opt.mk (zci A.top) ?_
 walk_at "wps"
 rw [zaf, A.len]
 have hxp : (0 : Int) < (net.length : Int) + 1 := Int.lt_of_lt_of_le (by decide) (Int.add_le_add_right (zbe _) 1)
 refine zcc hxp ?_
 obtain ⟨i, hi⟩ := zh5 (x := cell) (y := (net.length : Int) + 1) hxp
 have hil : i <= net.length := by have := hi ▸ zbs cell hxp; lia
 rw [hi]
 clear hi
 walk_at "wps"
 refine zch (zml A.top) fun t1 H1 N1 => ?_
 walk_at "wps"
 refine zc0 (by decide) ?_
 walk_at "wps"
 refine s_oddL PO hn rfl fun v H2 st2 hv => ?_
 have t2 := (Stay.refl (S := []) (H := H2)).app (xs := [v])
 have e2 := zb2 (H := H2) (xs := [v])
 refine zch (zdl (at0 (st2.trans0 t2) N1.hold) e2 (by rw [zbl, zaf, A.len]; show _ + 1 < _; lia)) fun t3 H3 N3 => ?_
 walk_at "wps"
 have s3 := N1.st.trans0 (st2.trans0 (t2.trans0 N3.st))
 have A3 := A.grow s3
 refine zch (zih A3.top) fun t4 H4 N4 => ?_
 refine zch (zdl (at0 N4.st N3.hold) N4.hold (by rw [zan, zbl, zbo, zaf, A.len]; show _ + 1 + _ < _; lia)) fun t5 H5 N5 => ?_
 have s5 := s3.trans0 (N4.st.trans0 N5.st)
 have hv5 : OddL n H5 v := hv.grow (t2.trans0 (N3.st.trans0 (N4.st.trans0 N5.st)))
 have k5 := N5.hold
 clear N1 N3 N4 N5 e2 t2 st2 s3 A3 hv
 have A5 := A.grow s5
 walk_at "wps"
 refine zc0 (by decide) ?_
 walk_at "wps"
 refine zcc (by decide) ?_
 walk_at "wps"
 refine zb6 (fun _ => ?_) (fun _ => ?_)
 ·walk_at "wps"
  refine zc0 (by decide) ?_
  walk_at "wps"
  refine s_oddL PO hn rfl fun w H6 st6 hw => ?_
  have t6 := (Stay.refl (S := []) (H := H6)).app (xs := [w])
  refine zch (zdl (at0 (st6.trans0 t6) k5) zb2 (by rw [zan, zan, zbl, zbo, zaf, A.len]; show _ + 1 + _ + 1 < _; lia)) fun t7 H7 N7 => ?_
  have s7 := st6.trans0 (t6.trans0 N7.st)
  walk_at "wps"
  refine hq _ i _ (s5.trans0 s7) (zo3 (A5.grow s7) ok hz hil (hv5.grow s7) (ws := [w]) (fun x hx => ?_) (zad _) N7.hold)
  rw [zai.mp hx]; exact hw.grow (t6.trans0 N7.st)
 ·walk_at "wps"
  exact hq _ i _ s5 (zo3 A5 ok hz hil hv5 (ws := []) (fun _ h => nomatch h) (za0 _) (by rw [za9]; exact k5))
noncomputable def zle : List St := [.set 12 (.var 10), .ite (.isi (.var 10) .list) [.set 12 (.blt .list [(.var 10)])] [], .ret (.and [(.cmp (.call "_law_tried" [(.var 4), (.var 1), (.var 12)]) [.eq] [(.var 9)]), (.cmp (.var 12) [.eq] [(.var 10)])])]
abbrev loc2 (v0 v1 v2 v3 v4 v5 v6 v7 v8 v9 v10 v11 v12 v13 : Option V) : Loc := [v0, v1, v2, v3, v4, v5, v6, v7, v8, v9, v10, v11, v12, v13]
theorem zra (F : Fns2 c) {k due : Nat} {v o z : V} {W : List V} {v0 v2 v3 v5 v6 v7 v8 v11 v12 v13 : Option V} {EE : SX} (hk : k < 5) (h4 : k = 4 -> ∃ n : Nat, v = .int n /\ 1 <= n /\ n <= 64) (D : DueW z W) (hd : H[due]? = some W) (hl : isiV o .list = some false) (he : ∀ H', Stay [] H H' -> cmpV H' .eq o o = some true) (hR : zkp c v o z H) :
  wpSs (Calls c) true (d + 8) none zle (EndQ fun v _ => v = .bool true) EE (loc2 v0 (some v) v2 v3 (some (.int k)) v5 v6 v7 v8 (some (.lst due)) (some o) v11 v12 v13) H := by
 unfold zle loc2
 walk_at "wps"
 refine Opt.mk hl ?_
 walk_at "wps"
 refine zmo F hk hR h4 rfl fun H1 st1 => D.word fun a H2 N => ?_
 have s2 := st1.trans0 N.st
 walk_at "wps"
 refine Opt.mk (zgd (D.eq N.hold (at0 s2 hd))) ?_
 walk_at "wps"
 refine Opt.mk (he _ s2) ?_
 rfl
theorem zfg (F : Fns2 c) {k due a : Nat} {v z : V} {W xs : List V} {v0 v2 v3 v5 v6 v7 v8 v11 v12 v13 : Option V} {EE : SX} (hk : k < 5) (h4 : k = 4 -> ∃ n : Nat, v = .int n /\ 1 <= n /\ n <= 64) (D : DueW z W) (hd : H[due]? = some W) (top : H[a]? = some xs) (he : ∀ x ∈ xs, Dat 8 H x) (hR : ∀ b H1, Stay [] H H1 -> H1[b]? = some xs -> zkp c v (.lst b) z H1) :
  wpSs (Calls c) true (d + 8) none zle (EndQ fun v _ => v = .bool true) EE (loc2 v0 (some v) v2 v3 (some (.int k)) v5 v6 v7 v8 (some (.lst due)) (some (.lst a)) v11 v12 v13) H := by
 unfold zle loc2
 walk_at "wps"
 refine zch (zl4 top) fun b H1 N1 => ?_
 walk_at "wps"
 refine zmo F hk (hR b H1 N1.st N1.hold) h4 rfl fun H2 st2 => D.word fun a2 H3 N => ?_
 have s3 := st2.trans0 N.st
 walk_at "wps"
 refine Opt.mk (zgd (D.eq N.hold (at0 (N1.st.trans0 s3) hd))) ?_
 walk_at "wps"
 refine Opt.mk (zgd (Dat.two (at0 s3 N1.hold) (at0 (N1.st.trans0 s3) top) fun x hx => (he x hx).grow (N1.st.trans0 s3))) ?_
 rfl
theorem law2_bl (F : Fns2 c) {k due n : Nat} {v o y : V} {v0 v2 v3 v5 v6 v7 v8 v11 v12 v13 : Option V} {EE : SX} (hk : k < 4) (hkd : (kd v).isSome = true) (hb : zdb 1 64 v = false) (O : OddN n H y o) (hd : H[due]? = some [.str "lines"]) :
  wpSs (Calls c) true (d + 8) none zle (EndQ fun v _ => v = .bool true) EE (loc2 v0 (some v) v2 v3 (some (.int k)) v5 v6 v7 v8 (some (.lst due)) (some o) v11 v12 v13) H := by
 have R : ∀ o H, zkp c v o (.exc "BadLines" .none) H := fun o H d K X H' st h => zlg F.chk hkd hb rfl h
 have h5 : k < 5 := Nat.lt_succ_of_lt hk
 have h4 : k = 4 -> ∃ n : Nat, v = .int n /\ 1 <= n /\ n <= 64 := fun e => absurd hk (by rw [e]; decide)
 cases O with
 | no hl he hy => exact zra F h5 h4 .lines hd hl he (R _ _)
 | many top hz hD hy => exact zfg F h5 h4 .lines hd top hD fun b H1 st h => R _ _
 | bad top hz hi hg hb hD hy => exact zfg F h5 h4 .lines hd top hD fun b H1 st h => R _ _
theorem zqn (F : Fns2 c) {k due n : Nat} {o y : V} {v0 v2 v3 v5 v6 v7 v8 v11 v12 v13 : Option V} {EE : SX} (hk : k < 5) (hn : 1 <= n /\ n <= 64) (hy : zjl y = some y) (O : OddN n H y o) (hd : H[due]? = some [.str "net", y]) :
  wpSs (Calls c) true (d + 8) none zle (EndQ fun v _ => v = .bool true) EE (loc2 v0 (some (.int n)) v2 v3 (some (.int k)) v5 v6 v7 v8 (some (.lst due)) (some o) v11 v12 v13) H := by
 have h4 : k = 4 -> ∃ m : Nat, V.int n = .int m /\ 1 <= m /\ m <= 64 := fun _ => ⟨n, rfl, hn⟩
 cases O with
 | no hl he hy' =>
  subst hy'
  exact zra F hk h4 (.net _ hy) hd hl he fun st h => s_net_no F.chk hn hl rfl h
 | many top hz hD hy' =>
  subst hy'
  exact zfg F hk h4 (.net _ hy) hd top hD fun b H1 st h => fun st2 hX => s_netM F.chk hn (at0 st2 h) hz rfl hX
 | bad top hz hi hg hb hD hy' =>
  subst hy'
  exact zfg F hk h4 (.net _ hy) hd top hD fun b H1 st h => fun st2 hX => s_net2 F.chk hn (at0 st2 h) hz hi (fun j y hj hy => (hg j y hj hy).grow (st.trans0 st2)) (hb.grow (st.trans0 st2)) rfl hX
end
end Bn
namespace Bn
open PySem
structure Fns2l (c : Cx) : Prop where
 f : Fns2 c
 odd : Has c "_law_odd_layer" 2 4 zcm
 put : Has c "_law_put" 3 4 zhp
 whole : Has c "_law_whole" 1 1 zgj
 cell : Has c "_law_cell_at" 2 2 zev
 lines : Has c "_law_lines_by" 1 2 zec
 tel : Has c "_law_telling" 2 16 zdp
 thin : Has c "_law_thinner" 6 8 zc3
 place : Has c "_law_place" 5 6 zca
 law : Has c "law" 1 14 p2_law
section
variable {c : Cx} {q : Bool} {d : Nat} {Q : V -> Hp -> Prop} {E : XPost} {H : Hp}
theorem zql (F : Fns2 c) {a n : Nat} {bs : List Nat} {net : Net} (A : NetAt H a bs net) (hn : 1 <= n /\ n <= 64) (ho : ziz n net) (hc : q = true)
  (hq : ∀ H', Stay [] H H' -> Q (.int ((net.map List.length).sum : Nat)) H') : Calls c q (d + 5) "joints" [.int n, .lst a] none Q E H := by
 subst hc
 refine F.joints true (d + 4) _ Q E H rfl (Ss_go ?_)
 walk_at "wps"
 refine s_netG F.chk hn A ho rfl ?_
 have hz := ho.1
 walk_at "wps"
 refine Opt.mk (zf9 A.top) ⟨zdv (by rw [zaf, A.len]; omega), ?_⟩
 refine zko A (zaz rfl) fun zs hzs => ?_
 walk_at "wps"
 refine Opt.mk (zme zb2 fun p hp => Fine.short ho.2 hn.2 p.2 (hzs ▸ zas.mpr ⟨p, hp, rfl⟩)) ?_
 have e : (zs.map fun p => p.2.length) = net.map List.length := by rw [<- hzs, List.map_map]; rfl
 rw [e]
 exact hq _ Stay.refl.app
noncomputable def law2g : List St := [.set 5 (.comp (.blt .list [(.var 13)]) (.one 13) (.var 2) []), .set 6 (.blt .sum [(.comp (.blt .len [(.var 13)]) (.one 13) (.var 2) [])]), .set 7 (.call "joints" [(.var 1), (.var 5)]), .ret (.and [(.cmp (.call "need_net" [(.var 1), (.var 5)]) [.is] [(.lit .none)]), (.call "_law_whole" [(.var 7)]), (.cmp (.var 7) [.eq] [(.var 6)]), (.cmp (.var 5) [.eq] [(.var 2)])])]
theorem is_nn : cmpV H .is .none .none = some true := rfl
theorem zpy (F : Fns2l c) {n nt : Nat} {bs : List Nat} {net : Net} {v0 v3 v4 v8 v9 v10 v11 v12 : Option V} {Q : SPost} {EE : SX} (hn : 1 <= n /\ n <= 64) (A : NetAt H nt bs net) (ok : ziz n net) (hQ : ∀ l H, Q (.ret (.bool true)) l H) :
  wpSs (Calls c) true (d + 8) none law2g Q EE (loc2 v0 (some (.int n)) (some (.lst nt)) v3 v4 none none none v8 v9 v10 v11 v12 none) H := by
 unfold law2g loc2
 have hz := ok.1
 walk_at "wps"
 refine Opt.mk (zf9 A.top) ⟨zdv (by rw [zaf, A.len]; lia), ?_⟩
 refine zln A (zaz rfl) (fun H' st => at0 st A.top) fun ts H2 RR => ?_
 have A1 := RR.net
 have s1 := RR.st.app (xs := ts.map .lst)
 generalize H2 ++ [ts.map .lst] = H1 at A1 s1
 generalize H2.length = a1 at A1
 clear RR
 walk_at "wps"
 have A2 := A.grow s1
 refine Opt.mk (zf9 A2.top) ⟨zdv (by rw [zaf, A.len]; lia), ?_⟩
 refine zko A2 (zaz rfl) fun zs hzs => ?_
 walk_at "wps"
 refine Opt.mk (zme zb2 fun p hp => Fine.short ok.2 hn.2 p.2 (hzs ▸ zas.mpr ⟨p, hp, rfl⟩)) ?_
 have e : (zs.map fun p => p.2.length) = net.map List.length := by rw [<- hzs, List.map_map]; rfl
 rw [e]
 have t2 := (Stay.refl (S := []) (H := H1)).app (xs := zs.map lenZ)
 replace A1 := A1.grow t2
 replace A2 := A2.grow t2
 generalize H1 ++ [zs.map lenZ] = H3 at A1 A2
 clear t2 s1 A
 walk_at "wps"
 refine zql (d := d + 3) F.f A1 hn ok rfl fun H4 st4 => ?_
 walk_at "wps"
 refine s_netG (d := d + 4) F.f.chk hn (A1.grow st4) ok rfl ?_
 refine Opt.mk is_nn ?_
 walk_at "wps"
 refine s_whole F.whole ?_
 walk_at "wps"
 rw [decide_eq_true rfl]
 walk_at "wps"
 refine Opt.mk (zgd (eq_net (A1.grow st4) (A2.grow st4))) ?_
 rw [decide_eq_true rfl]
 walk_at "wps"
 exact hQ _ _
noncomputable def zlp (z : Nat) : List V := [.int 0, .int (-1), .int 65, .bool true, .none, .str "3", .lst z, .int 100000000000000000000]
theorem zou {z : Nat} : ∀ v ∈ zlp z, (kd v).isSome = true /\ zdb 1 64 v = false :=
 zcq ⟨rfl, rfl⟩ (zcq ⟨rfl, rfl⟩ (zcq ⟨rfl, rfl⟩ (zcq ⟨rfl, rfl⟩ (zcq ⟨rfl, rfl⟩ (zcq ⟨rfl, rfl⟩ (zcq ⟨rfl, rfl⟩ (zcq ⟨rfl, am_no (by decide)⟩ zrl)))))))
theorem pow20 : binV H .pow (.int 10) (.int 20) = some (.int 100000000000000000000, H) := by
 show (if (0 : Int) <= 20 /\ (20 : Int) <= 100 /\ small 10 = true then some (V.int (10 ^ (20 : Int).toNat), H) else none) = _
 rw [if_pos (by decide)]
 rfl
noncomputable def law2e : List St := .ite (.and [(.cmp (.bin .mod (.var 8) (.lit (.int 5))) [.eq] [(.lit (.int 1))]), (.cmp (.var 4) [.lt] [(.lit (.int 4))])]) [.set 1 (.idx (.list [(.lit (.int 0)), (.neg (.lit (.int 1))), (.lit (.int 65)), (.lit (.bool true)), (.lit .none), (.lit (.str "3")), (.list [(.lit (.int 3))]), (.bin .pow (.lit (.int 10)) (.lit (.int 20)))]) (.bin .mod (.bin .div (.var 8) (.lit (.int 40))) (.lit (.int 8)))), .set 9 (.list [(.lit (.str "lines"))])] [] :: zle
theorem zi3 (F : Fns2 c) {k due n : Nat} {more : Int} {o y : V} {v0 v2 v3 v5 v6 v7 v11 v12 v13 : Option V} {EE : SX} (hk : k < 5) (hn : 1 <= n /\ n <= 64) (hy : zjl y = some y) (O : OddN n H y o) (hd : H[due]? = some [.str "net", y]) :
  wpSs (Calls c) true (d + 8) none law2e (EndQ fun v _ => v = .bool true) EE (loc2 v0 (some (.int n)) v2 v3 (some (.int k)) v5 v6 v7 (some (.int more)) (some (.lst due)) (some o) v11 v12 v13) H := by
 unfold law2e loc2
 walk_at "wpg"
 walk_at "wpd"
 refine zcc (by decide) ?_
 walk_at "wpd"
 refine zb6 (fun _ => ?_) (fun _ => ?_)
 ·refine zb6 (fun h4 => ?_) (fun _ => ?_)
  ·walk_at "wps"
   refine Opt.mk pow20 ?_
   walk_at "wpd"
   have s1 := (Stay.refl (S := []) (H := H)).app (xs := [V.int 3]) |>.app (xs := zlp H.length)
   have k1 := zb2 (H := H ++ [[V.int 3]]) (xs := zlp H.length)
   refine zc0 (by decide) ?_
   walk_at "wpd"
   refine zcc (by decide) ?_
   obtain ⟨j, hj⟩ := zh5 (x := more / 40) (y := 8) (by decide)
   have hj8 : j < 8 := zam.mp (hj ▸ zbs _ (by decide))
   rw [hj]
   have hjl : j < (zlp H.length).length := hj8
   refine Opt.mk (zds k1 (zal hjl)) ?_
   have hv := zou _ (List.getElem_mem hjl)
   show Then _ _ _ _ (H ++ [[V.int 3]] ++ [zlp H.length])
   generalize (zlp H.length)[j] = v at hv
   generalize H ++ [[V.int 3]] ++ [zlp H.length] = H1 at s1
   clear k1 hj hj8 hjl
   walk_at "wps"
   exact law2_bl F (by lia) hv.1 hv.2 (O.grow s1.app) zb2
  ·walk_at "wpg"
   walk_at "wpg"
   exact zqn F hk hn hy O hd
 ·walk_at "wpg"
  walk_at "wpg"
  exact zqn F hk hn hy O hd
noncomputable def law2p : List St := [.unp [10, 11] (.call "_law_put" [(.var 2), (.var 1), (.bin .div (.var 8) (.lit (.int 8)))]), .set 9 (.list [(.lit (.str "net")), (.var 11)])]
noncomputable def law2m : List St := [.set 10 (.bin .mul (.list [(.list [(.tup [(.lit (.int 0)), (.lit (.int 1))])])]) (.lit (.int 81))), .ite (.cmp (.var 1) [.eq] [(.lit (.int 1))]) [.ret (.lit (.bool true))] []]
noncomputable def law2n : List St := [.set 10 (.idx (.list [(.lit .none), (.blt .tuple [(.var 2)]), (.lit (.str "")), .dict0, (.lit (.int 7))]) (.bin .mod (.bin .div (.var 8) (.lit (.int 8))) (.lit (.int 5))))]
noncomputable def law2b : List St := .ite (.cmp (.bin .mod (.var 8) (.lit (.int 8))) [.eq] [(.lit (.int 0))]) law2n [.ite (.cmp (.bin .mod (.var 8) (.lit (.int 8))) [.eq] [(.lit (.int 1))]) law2m law2p] :: law2e
theorem law2_eq : p2_law = .set 1 (.call "_law_lines_by" [(.call "_law_cell_at" [(.var 0), (.lit (.int 0))])]) :: .set 2 (.call "_law_telling" [(.call "_law_cell_at" [(.var 0), (.lit (.int 1))]), (.var 1)]) :: .set 3 (.bin .mod (.bin .mul (.call "_law_cell_at" [(.var 0), (.lit (.int 2))]) (.lit (.int 48271))) (.lit (.int 2147483647))) :: .set 4 (.bin .mod (.bin .div (.var 3) (.lit (.int 3))) (.lit (.int 5))) :: .ite (.cmp (.bin .mod (.var 3) (.lit (.int 3))) [.eq] [(.lit (.int 0))]) law2g [] :: .set 8 (.bin .div (.var 3) (.lit (.int 15))) :: .set 9 (.list [(.lit (.str "net")), (.lit .none)]) :: law2b := rfl
theorem cmp_dict {z : Nat} : cmpV H .eq (.dict0 z) (.dict0 z) = some true := by
 show (if z = z then some true else none) = some true
 rw [if_pos rfl]
noncomputable def zld (bs : List Nat) (z : Nat) : List V := [.none, .tup (bs.map .lst), .str "", .dict0 z, .int 7]
theorem zqk {n a z : Nat} {bs : List Nat} {net : Net} (A : NetAt H a bs net) (ok : ziz n net) : ∀ o ∈ zld bs z, OddN n H .none o :=
 zcq (.no rfl (fun H' _ => zgd (Dat.self ⟨.none, rfl, rfl⟩)) rfl) (zcq (.no rfl (fun H' st => zgd (Dat.self (Dat.tup fun x hx => ((A.grow st).good ok hx).2))) rfl) (zcq (.no rfl (fun H' _ => zgd (Dat.self ⟨.str "", rfl, by decide +kernel⟩)) rfl) (zcq (.no rfl (fun H' _ => cmp_dict) rfl) (zcq (.no rfl (fun H' _ => zgd (Dat.self ⟨.int 7, rfl, rfl⟩)) rfl) zrl))))
theorem law2_bad (F : Fns2l c) {k due n nt : Nat} {more : Int} {bs : List Nat} {net : Net} {v0 v3 v5 v6 v7 v11 v12 v13 : Option V} {EE : SX} (hk : k < 5) (hn : 1 <= n /\ n <= 64) (A : NetAt H nt bs net) (ok : ziz n net) (hz : net.length <= 70) (hd : H[due]? = some [.str "net", .none]) :
  wpSs (Calls c) true (d + 8) none law2b (EndQ fun v _ => v = .bool true) EE (loc2 v0 (some (.int n)) (some (.lst nt)) v3 (some (.int k)) v5 v6 v7 (some (.int more)) (some (.lst due)) none v11 v12 v13) H := by
 unfold law2b loc2
 walk_at "wpg"
 walk_at "wpd"
 refine zcc (by decide) ?_
 walk_at "wpd"
 refine zb6 (fun _ => ?_) (fun _ => ?_)
 ·unfold law2n
  walk_at "wpg"
  walk_at "wpd"
  refine Opt.mk (zri A.top) ?_
  walk_at "wpd"
  intro z
  have s1 := (Stay.refl (S := []) (H := H)).app (xs := zld bs z)
  have k1 := zb2 (H := H) (xs := zld bs z)
  refine zc0 (by decide) ?_
  walk_at "wpd"
  refine zcc (by decide) ?_
  obtain ⟨j, hj⟩ := zh5 (x := more / 8) (y := 5) (by decide)
  have hj5 : j < 5 := zam.mp (hj ▸ zbs _ (by decide))
  rw [hj]
  have hjl : j < (zld bs z).length := hj5
  refine Opt.mk (zds k1 (zal hjl)) ?_
  have hv := zqk (z := z) A ok _ (List.getElem_mem hjl)
  show Then _ _ _ _ (H ++ [zld bs z])
  generalize (zld bs z)[j] = o at hv
  generalize H ++ [zld bs z] = H1 at s1
  clear k1 hj hj5 hjl
  walk_at "wpg"
  walk_at "wpg"
  walk_at "wpg"
  exact zi3 F.f hk hn rfl (hv.grow s1) (at0 s1 hd)
 ·walk_at "wpg"
  walk_at "wpd"
  refine zcc (by decide) ?_
  walk_at "wpd"
  refine zb6 (fun _ => ?_) (fun _ => ?_)
  ·unfold law2m
   walk_at "wpg"
   walk_at "wpd"
   have k1 := zb2 (H := H ++ [[V.tup [V.int 0, V.int 1]]]) (xs := [V.lst H.length])
   have s1 := ((Stay.refl (S := []) (H := H)).app (xs := [V.tup [V.int 0, V.int 1]])).app (xs := [V.lst H.length])
   have k0 := zcz (xs := [V.lst H.length]) (zb2 (H := H) (xs := [V.tup [V.int 0, V.int 1]]))
   refine zch (zmk (n := 81) k1 (by decide)) fun t H1 N => ?_
   have s2 := s1.trans0 N.st
   have k2 := at0 N.st k0
   have k3 := N.hold
   clear N k0 k1 s1
   walk_at "wpg"
   walk_at "wpg"
   walk_at "wpd"
   refine zb6 (fun _ => ?_) (fun _ => ?_)
   ·walk_at "wpg"
    walk_at "wpd"
   ·walk_at "wpg"
    walk_at "wpg"
    walk_at "wpg"
    walk_at "wpg"
    refine zi3 F.f hk hn rfl (.many k3 (by rw [List.length_replicate]; decide) (fun x hx => ?_) rfl) (at0 s2 hd)
    rw [List.eq_of_mem_replicate hx]
    exact ⟨.list [.tuple [.int 0, .int 1]], zcd k2 rfl, rfl⟩
  ·unfold law2p
   walk_at "wpg"
   walk_at "wpd"
   refine ⟨rfl, ?_⟩
   refine zc0 (by decide) ?_
   refine s_lput (d := d + 6) F.put F.odd A ok hz hn.1 rfl fun a' i H1 s1 O => ?_
   refine Opt.mk rfl ?_
   walk_at "wps"
   refine zi3 F.f hk hn rfl (O.grow (Stay.refl.app (xs := [V.str "net", V.int i]))) zb2
theorem law2_ok (F : Fns2l c) {xs : List Int} : Calls c true (d + 9) "law" [.scr xs] none (fun v _ => v = .bool true) E H := by
 obtain ⟨n, e, hn⟩ : ∃ n : Nat, ze2 (xs.getD 0 0) = (n : Int) /\ 1 <= n /\ n <= 32 := by
  have hl := znb (xs.getD 0 0)
  have hn := (Int.toNat_of_nonneg (Int.le_trans (by decide) hl.1)).symm
  rw [hn] at hl
  exact ⟨_, hn, za6.mp hl.1, za6.mp hl.2⟩
 have hn64 : 1 <= n /\ n <= 64 := ⟨hn.1, zac hn.2 (by decide)⟩
 have P := F.law
 rw [law2_eq] at P
 refine P true (d + 8) _ _ _ _ rfl ?_
 walk_at "wpg"
 walk_at "wpd"
 refine zg9 F.cell (i := 0) rfl ?_
 refine znv F.lines ?_
 rw [e]
 walk_at "wpg"
 walk_at "wpg"
 walk_at "wpd"
 refine zg9 F.cell (i := 1) rfl ?_
 refine zok (d := d + 5) F.tel F.thin F.place hn.1 hn64.2 rfl fun nt bs net H1 T A st _ _ => ?_
 have ok : ziz n net := ⟨zac T.len (by lia), T.ok⟩
 have hz : net.length <= 70 := zac T.len (by lia)
 clear T st e
 walk_at "wpg"
 walk_at "wpg"
 walk_at "wpd"
 refine zg9 F.cell (i := 2) rfl ?_
 refine zll rfl ?_
 walk_at "wpd"
 refine zcc (by decide) ?_
 generalize xs.getD 2 0 * 48271 % 2147483647 = cell
 walk_at "wpg"
 walk_at "wpg"
 walk_at "wpd"
 refine zc0 (by decide) ?_
 walk_at "wpd"
 refine zcc (by decide) ?_
 obtain ⟨k, hk⟩ := zh5 (x := cell / 3) (y := 5) (by decide)
 have hk5 : k < 5 := zam.mp (hk ▸ zbs _ (by decide))
 rw [hk]
 clear hk
 walk_at "wpg"
 walk_at "wpg"
 walk_at "wpd"
 refine zcc (by decide) ?_
 walk_at "wpd"
 refine zb6 (fun _ => ?_) (fun _ => ?_)
 ·exact zpy F hn64 A ok fun _ _ => rfl
 ·walk_at "wpg"
  walk_at "wpg"
  walk_at "wpg"
  walk_at "wpd"
  refine zc0 (by decide) ?_
  walk_at "wpg"
  walk_at "wpg"
  walk_at "wpd"
  walk_at "wpg"
  exact law2_bad F hk5 hn64 (A.grow (Stay.refl.app (xs := [V.str "net", V.none]))) ok hz zb2
end
end Bn
open PySem PySem.W PyProof.Rows Bn
set_option maxRecDepth 100000
set_option maxHeartbeats 8000000
namespace Bn
noncomputable def fs02 : List Str := (["is_among", "is_text", "is_map", "is_step", "need_kind", "is_thing", "need_thing", "need_alike", "put_together", "need_lines", "is_joint", "is_layer", "need_net", "joints"] : List Str) ++ (["rows", "does_tell", "tells", "carried", "need_things", "led", "_law_cell_at", "_law_whole", "_law_place", "_law_thinner", "_law_telling", "_law_lines_by", "_law_word", "_law_asked"] : List Str) ++ (["_law_tried", "_law_odd_layer", "_law_put", "law"] : List Str)
noncomputable def vals02 : List (Str × V) := [("MOST_LINES", .int 64), ("MOST_LAYERS", .int 80), ("MOST_JOINTS", .int 63)]
end Bn
theorem PySem.Challenge.cw_uf020024_02_holds : PySem.Challenge.rw_uf020024_02.Holds := by
 w_on; (refine PySem.W.holds_law said02 fun said => ?_)
 (refine holds_open (q := zj1) (loose := []) (Xt := fun s => xlAt zj1 [] s && recOk (RowW.records Challenge.rw_uf020024_02.row.toRowW) s) (XP := XL zj1 []) (Yf := Hook.obs (zhe _ zkv)) (Ya := Hook.val (zhe _ zkv)) (YP := Hook.says (zhe _ zkv)) (N := 8000) left02 (Hook.of (zhe _ zkv)) (Hook.keeps (zhe _ zkv)) (fun s e => xl_of s (zag.mp e).1) XL.keeps (by rfl) (by rfl) (by rfl) (fun s e => recFacts_of (zag.mp e).2) (by rfl) (by first | assumption | decide +kernel) (by decide +kernel) ⟨rfl, rfl, rfl, rfl, rfl, by decide +kernel⟩ ?hw ?hc); (case hw => w_witness2)
 intro w s₀ s₁ mg mb G Y fa o pm cd doc dV kV ho hd hcd hD hmg hg args vals as hpre hlay hrd hwl hlo
 refine Ground.open G ?_
 intro T B D TE TW
 have TA := at_of_top T
 wrow_args hpre hlay hrd hwl hlo
 refine enter_call ?_
 rename_i l _ _ _ _ _ _ _ a vs _ hL _ _ _ hI _ hlen _
 let c : Cx := ⟨Challenge.rw_uf020024_02.row.prog, w, s₁.heap, mg, mb, fun _ _ _ => False, []⟩
 have hh : Hid s₁.heap c := fun _ _ h _ => h
 have O : c.Ok := ⟨T.nolimit, T.g, T.b, T.seer (by decide +kernel), rfl⟩
 have XO : ExcOk c := exc_ok (c := c) Y.1 T.g ⟨zk3 T (by kernel_rfl), (T.builtins _ (by decide +kernel)).trans (by kernel_rfl)⟩
 have NO : NetOk c := net_ok (c := c) Y.2 T.g
 have TO : TabOk c (mkTab fs02 vals02) := tab_ok T B rfl rfl hh (by kernel_rfl) (by kernel_rfl) (by kernel_rfl) XO NO
 have TD : ∀ e ∈ (recsOf Challenge.rw_uf020024_02.row.prog).map W.itemOf, e.params.defaults = [] -> DefAt c e := fun e he hd => DefAt.of hh (TA e he hd)
 have F : Fns2l c := {
  f := {
  chk := {
  among := zcn (c := c) TD O TO 0 30 0 (by kernel_rfl)
  lines := zcn (c := c) TD O TO 9 30 0 (by kernel_rfl)
  joint := zcn (c := c) TD O TO 10 30 0 (by kernel_rfl)
  layer := zcn (c := c) TD O TO 11 30 0 (by kernel_rfl)
  net := zcn (c := c) TD O TO 12 30 0 (by kernel_rfl) }
  joints := zcn (c := c) TD O TO 13 30 1 (by kernel_rfl)
  rows := zcn (c := c) TD O TO 14 30 1 (by kernel_rfl)
  tells := zcn (c := c) TD O TO 16 30 0 (by kernel_rfl)
  things := zcn (c := c) TD O TO 18 30 0 (by kernel_rfl)
  led := zcn (c := c) TD O TO 19 30 0 (by kernel_rfl)
  word := zcn (c := c) TD O TO 26 30 0 (by kernel_rfl)
  asked := zcn (c := c) TD O TO 27 30 0 (by kernel_rfl)
  tried := zcn (c := c) TD O TO 28 30 0 (by kernel_rfl) }
  odd := zcn (c := c) TD O TO 29 30 0 (by kernel_rfl)
  put := zcn (c := c) TD O TO 30 30 0 (by kernel_rfl)
  whole := zcn (c := c) TD O TO 21 30 0 (by kernel_rfl)
  cell := zcn (c := c) TD O TO 20 30 0 (by kernel_rfl)
  lines := zcn (c := c) TD O TO 25 30 0 (by kernel_rfl)
  tel := zcn (c := c) TD O TO 24 30 3 (by kernel_rfl)
  thin := zcn (c := c) TD O TO 23 30 0 (by kernel_rfl)
  place := zcn (c := c) TD O TO 22 30 0 (by kernel_rfl)
  law := zcn (c := c) TD O TO 31 30 1 (by kernel_rfl) }
 refine law_end (c := c) (d := 500) (vs := vs) (l := l) ⟨by decide, by decide, fun _ => rfl, [], rfl, by simp⟩ rfl (fun _ h => nomatch h) hg hmg hL hI (by have : sizeLine = 2 ^ 24 := rfl; omega) ?_ ?_
 ·exact law2_ok (d := 491) F
 ·intro s' h1 h2 h3
  refine GoodW.toG ⟨.inl ⟨.bool true, .bool true, [], rfl, fun _ => ?_, .bool true, ?_, fun h => ?_⟩, h1, h2, h3⟩
  ·first | rfl | kernel_rfl
  ·first | rfl | kernel_rfl
  ·first | (cases h; done) | exact ⟨List.nodup_nil, by simp⟩
