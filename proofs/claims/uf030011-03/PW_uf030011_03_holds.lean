import PyProof.Rows.All
import PyProof.CollectWalk
import PyProof.DictDisplay
import PyProof.DictItems
import PyProof.Draws
import PyProof.EnumMake
import PyProof.EqAt
import PyProof.P3Statements
import PyProof.InstLoad
import PyProof.ListNew
import PyProof.WalkInts
import PyProof.MaxThree
import PyProof.RulesAs
import PyProof.ObjNew
import PyProof.ZipIter
import PyProof.SeqI3
import PyProof.SliceMore
import PyProof.Rows.SumAny
import PyProof.Rows.CallKwBuiltin
import PyProof.Rows.TopObj
import PyProof.Rows.SetFrom
import Open.Row
import Open.Line
import OpenK.KMore
import Open.Boot
import KE.KDictOf
import Wide.All
import Wide.FinOn
import PySem.Challenge.RW_uf030011_03
set_option Elab.async false
set_option linter.unusedVariables false
set_option linter.unusedSimpArgs false
set_option tactic.hygienic false
set_option backward.match.sparseCases false
set_option bootstrap.genMatcherCode false
open PySem renaming wpAny_bind → zAa, wpAny_pure → zAh, wpAny_mono → zAs, wpAny_holding → zA2, wpAny_field → zBe, wpAny_newObj_type → zBn, wpAny_seqItems → zBt, wpAny_setField_rec → zB0, codeAny_builtin → zCe, wpAny_pyIter_tuple → zCk, wpAny_updateSeq → zCp, wpAny_standAt → zCr, wpAny_call_entry → zCv, wpAny_letGo → zC8, wpAny_setField → zC9, wpAny_typeNameOfWhole_itemiter → zDa
open List renaming mem_cons_self → zAb, mem_cons_of_mem → zAc, length_append → zAd, length_map → zAe, mem_singleton → zAf, mem_cons → zAl, append_assoc → zAm, append_nil → zAt, getElem?_eq_getElem → zAv, map_append → zAw, getElem?_eq_some_iff → zA3, map_cons → zA6, all_eq_true → zA7, mem_append → zA8, lookup_cons → zBb, zip_cons_cons → zBo, nodup_cons → zBp, mem_of_getElem? → zBq, not_mem_nil → zBr, mem_map → zBs, length_range → zBu, getElem?_map → zBv, isEmpty_iff → zBy, getElem?_concat_length → zB2, getD_eq_getElem?_getD → zB4, length_drop → zB6, mem_append_right → zB7, getElem?_append_left → zB8, drop_eq_getElem_cons → zB9, sum_cons → zCd, length_zip → zCi, nodup_append → zCl, mem_append_left → zCn, map_map → zCu, map_inj_left → zCz, replicate → zC1, nodup_nil → zC2, length_cons → zC6, nil_append → zDb, getElem?_append_right → zDe
open PySem.Heap renaming get?_push_of_some → zAg, get?_push_size → zAp, lt_size → zAz, get?_update_other → zA1, size_push → zBj, dictOf_iff → zBk, get?_update_self → zBl, get?_none_of_le → zCo, size_update → zC7
open Option renaming bind_eq_some_iff → zAi, map_eq_some_iff → zAo, ctorIdx → zAr, isSome_iff_exists → zAx, isNone_iff_eq_none → zDd
open Nat renaming le_trans → zAj, le_refl → zAy, beq → zA4, ne_of_lt → zA5, le_of_ble_eq_true → zA9, zero_le → zBa, succ_le_succ → zBc, lt_succ_of_lt → zBd, ne_of_gt → zBf, add_le_add_right → zBh, lt_of_le_of_lt → zBi, eq_of_beq_eq_true → zBm, lt_of_lt_of_le → zBx, min_le_right → zBz, add_le_add_left → zB3, ble → zB5, succ_pos → zCc, le_add_right → zCf, le_of_eq → zCj, add_le_add → zCs, lt_succ_self → zCt, le_antisymm → zCx, add_sub_cancel_left → zCy, le_of_lt → zC3, ble_eq_true_of_le → zC4, le_succ → zDc
open Bool renaming and_eq_true_iff → zAk, false_ne_true → zAn, and_eq_true → zA0, or_eq_true_iff → zBw, not_eq_true' → zCm, false_eq_true → zCw, eq_false_iff → zC0
open Int renaming fmod → zAq, fdiv → zAu, eq_ofNat_of_zero_le → zB1, toNat_natCast → zCa, natCast_add → zCb, natCast_nonneg → zCg, ofNat_lt → zC5
open Array renaming getElem?_eq_some_iff → zBg, getElem?_toList → zCh, getElem?_eq_getElem → zCq
section
set_option autoImplicit false
set_option genSizeOf false
set_option genSizeOfSpec false
set_option genInjectivity false
namespace Mine
open PySem
theorem aC {α:Type} {x:α} {P:Prop} (h:none=some x):P:=nomatch h
theorem ff {P:Prop} (h:false=true):P:=nomatch h
theorem cC {α:Type} (f:α->Nat) {a b:α} {P:Prop} (h:a=b) (q:zA4 (f a) (f b)=false):P:=by
 subst h; rw [Nat.beq_refl] at q; exact nomatch q
inductive AV where
 | none
 | bool (b:Bool)
 | int (i:Int)
 | str (s:Str)
 | tup (l:List AV)
 | lst (l:List AV)
 | dct (ks vs:List AV)
 | sett (n:Nat)
 | exc (c:Str)
 | obj (c:Str) (n:Nat)
 | cel (n:Nat)
 | pl (k:Nat)
 deriving Inhabited
inductive LV where
 | val (v:AV)
 | own (v:AV)
 deriving Inhabited
inductive AO where
 | flds (l:List (Str × AV))
 | cont (c:AV)
 deriving Inhabited
noncomputable abbrev St:=List AO
noncomputable abbrev bF:=List (Nat × LV)
structure S where
 loc:bF
 st:St
inductive Out (α:Type) where
 | ok (a:α) (s:S)
 | exc (c:Str) (s:S)
 | stuck
inductive Ret where
 | ok (v:AV) (st:St)
 | exc (c:Str) (st:St)
 | stuck
noncomputable abbrev D (α:Type):=S->Out α
inductive Fl where
 | next
 | ret (v:AV)
noncomputable def af {α:Type} (a:α):D α:=fun s=>.ok a s
noncomputable def stk {α:Type}:D α:=fun _=>.stuck
noncomputable def rais {α:Type} (c:Str):D α:=fun s=>.exc c s
noncomputable def ax {α β:Type} (o:Out α) (f:α->D β):Out β :=
 match o with
 | .ok a s'=>f a s'
 | .exc c s'=>.exc c s'
 | .stuck=>.stuck
noncomputable def aH {α β:Type} (m:D α) (f:α->D β):D β:=fun s=>ax (m s) f
noncomputable def opt {α:Type} (o:Option α):D α:=fun s=>match o with | some a=>.ok a s | none=>.stuck
noncomputable def bI {α:Type} (b:Bool) (d:D α):D α:=if b then d else stk
noncomputable def beqL:List Nat->List Nat->Bool
 | [],[]=>true
 | a::r,b::q=>zA4 a b && beqL r q
 | _,_=>false
noncomputable def seq (a b:Str):Bool:=beqL a.cps.toList b.cps.toList
noncomputable def aR {α:Type} (x:Str):List (Str × α)->Option α
 | []=>none
 | (y,w)::r=>if seq x y then some w else aR x r
noncomputable def cw (x:Str):List Str->Bool
 | []=>false
 | y::r=>seq x y || cw x r
noncomputable def aV (x:Str):List (Str × NameKind)->Nat
 | []=>0
 | (y,_)::r=>if seq x y then 0 else aV x r+1
noncomputable def ah {α:Type} (x:Nat) (v:α):List (Nat × α)->List (Nat × α)
 | []=>[(x,v)]
 | (y,w)::r=>if zA4 y x then (x,v)::r else (y,w)::ah x v r
noncomputable def aq {α:Type} (x:Nat):List (Nat × α)->Option α
 | []=>none
 | (y,w)::r=>if zA4 y x then some w else aq x r
noncomputable def ly (x:Str) (v:AV):List (Str × AV)->List (Str × AV)
 | []=>[(x,v)]
 | (y,w)::r=>if seq y x then (y,v)::r else (y,w)::ly x v r
noncomputable def gw (x:Str):List (Str × AV)->Option AV
 | []=>none
 | (y,w)::r=>if seq y x then some w else gw x r
theorem lookS_c {α:Type} {x y:Str} {w:α} {r:List (Str × α)}:aR x ((y,w)::r)=if seq x y then some w else aR x r:=rfl
theorem memS_c {x y:Str} {r:List Str}:cw x (y::r)=(seq x y || cw x r):=rfl
theorem setA_c {α:Type} {x y:Nat} {v w:α} {r:List (Nat × α)}:ah x v ((y,w)::r)=if zA4 y x then (x,v)::r else (y,w)::ah x v r:=rfl
theorem il {α:Type} {x y:Nat} {w:α} {r:List (Nat × α)}:aq x ((y,w)::r)=if zA4 y x then some w else aq x r:=rfl
theorem setF_c {x y:Str} {v w:AV} {r:List (Str × AV)}:ly x v ((y,w)::r)=if seq y x then (y,v)::r else (y,w)::ly x v r:=rfl
theorem jh {x y:Str} {w:AV} {r:List (Str × AV)}:gw x ((y,w)::r)=if seq y x then some w else gw x r:=rfl
set_option tactic.hygienic true
mutual
noncomputable def dG:AV->Nat
 | .tup l | .lst l=>depthVs l+1
 | _=>0
noncomputable def depthVs:List AV->Nat
 | []=>0
 | x::r=>max (dG x) (depthVs r)
end
set_option tactic.hygienic false
set_option tactic.hygienic true
mutual
noncomputable def gb:AV->Bool
 | .none | .bool _ | .int _ | .str _=>true
 | .tup l | .lst l=>dataVs l
 | _=>false
noncomputable def dataVs:List AV->Bool
 | []=>true
 | x::r=>gb x && dataVs r
end
set_option tactic.hygienic false
set_option tactic.hygienic true
mutual
noncomputable def kA:AV->PyData
 | .none=>.none
 | .bool b=>.bool b
 | .int i=>.int i
 | .str s=>.str s
 | .tup l=>.tuple (toDs l)
 | .lst l=>.list (toDs l)
 | _=>.none
noncomputable def toDs:List AV->List PyData
 | []=>[]
 | x::r=>kA x::toDs r
end
set_option tactic.hygienic false
noncomputable def isNone:AV->Bool
 | .none=>true
 | _=>false
noncomputable def fg:AV->AV->Bool
 | .str a,.str b=>seq a b
 | _,_=>false
noncomputable def m4:AV->Bool
 | .str _=>true
 | _=>false
noncomputable def cW (k:AV):List AV->List AV->Option AV
 | x::xs,v::vs=>if fg k x then some v else cW k xs vs
 | _,_=>none
noncomputable def im (k:AV):List AV->Bool
 | []=>false
 | x::xs=>fg k x || im k xs
noncomputable def cr (k v:AV):List AV->List AV->List AV
 | x::xs,w::ws=>if fg k x then v::ws else w::cr k v xs ws
 | _,_=>[v]
noncomputable def bX (k:AV):List AV->List AV
 | []=>[k]
 | x::xs=>if fg k x then x::xs else x::bX k xs
noncomputable def gP:AV->Option Int
 | .int i=>some i
 | _=>none
noncomputable def strV:AV->Option Str
 | .str s=>some s
 | _=>none
noncomputable def lX:AV->Option (List AV)
 | .lst l=>some l
 | _=>none
noncomputable def tupV:AV->Option (List AV)
 | .tup l=>some l
 | _=>none
noncomputable def eqD (a b:AV):Option Bool:=if gb a && gb b && (decide (dG a<=64) || decide (dG b<=64)) then some (PyData.eqv (kA a) (kA b)) else none
noncomputable def eqI (a b:AV):Option Bool:=(gP a).elim (eqD a b) fun x=>(gP b).elim (eqD a b) fun y=>some (decide (x=y))
noncomputable def eqV (a b:AV):Option Bool:=(strV a).elim (eqI a b) fun x=>(strV b).elim (eqD a b) fun y=>some (seq x y)
noncomputable def eN:AV->Option Bool
 | .bool b=>some b
 | _=>none
noncomputable def on2 {α:Type} (a b:AV) (f:Int->Int->Option α):Option α:=(gP a).bind fun x=>(gP b).bind fun y=>f x y
noncomputable def lenV:AV->Option Nat
 | .tup l | .lst l=>some l.length
 | .str s=>some s.length
 | .dct ks _=>some ks.length
 | .sett n=>some n
 | _=>none
noncomputable def jg:AV->Option (List AV)
 | .tup l | .lst l=>some l
 | _=>none
noncomputable def at? (l:List AV) (i:Int):Option AV :=
 if 0<=i then l[i.toNat]? else if 0<=i+l.length then l[(i+l.length).toNat]? else none
noncomputable def idxV (c i:AV):Option AV :=
 match c with
 | .tup l=>(gP i).bind fun k=>if 0<=k then l[k.toNat]? else none
 | .lst l=>(gP i).bind (at? l)
 | .dct ks vs=>if m4 i then cW i ks vs else none
 | .str s=>(gP i).bind fun k=>if 0<=k then (s.cps[k.toNat]?).map fun c=>.str ⟨#[c]⟩ else none
 | _=>none
noncomputable def partOf:AV->Option (Option Int)
 | .none=>some none
 | .int i=>some (some i)
 | _=>none
noncomputable def sliceL (l:List AV) (lo hi:AV):Option (List AV) :=
 (partOf lo).bind fun a=>(partOf hi).map fun b=>(l.drop (a.elim 0 (clipAt l.length))).take (b.elim l.length (clipAt l.length) - a.elim 0 (clipAt l.length))
noncomputable def fromTup (l:List AV) (lo hi:AV):Option AV:=if isNone hi then (gP lo).bind fun a=>if 1<=a/\a<=l.length then some (.tup (l.drop a.toNat)) else none else none
noncomputable def kJ (c lo hi:AV):Option AV :=
 match c with
 | .tup l=>fromTup l lo hi
 | .lst l=>(sliceL l lo hi).map .lst
 | _=>none
noncomputable def bD (l:List AV):Option AV:=if l.length<=sizeLine then some (.lst l) else none
noncomputable def mP (l:List AV):Option AV:=if l.length<=sizeLine then some (.tup l) else none
noncomputable def mkSt (s:Str):Option AV:=if s.length<=sizeLine then some (.str s) else none
noncomputable def addV (a b:AV):Option AV :=
 match a with
 | .int x=>(gP b).map fun y=>.int (x+y)
 | .lst x=>(lX b).bind fun y=>bD (x++y)
 | .str x=>(strV b).bind fun y=>mkSt (x++y)
 | .tup x=>(tupV b).bind fun y=>if x.isEmpty || y.isEmpty then none else mP (x++y)
 | _=>none
noncomputable def ch (x:Int):Bool:=decide (x.natAbs < 9223372036854775808)
noncomputable def cN (y:Int):Bool:=!decide (y=0) && ch y
noncomputable def j6 (x:AV):Nat->List AV
 | 0=>[]
 | n+1=>x::j6 x n
noncomputable def repV (b:AV) (l:List AV):Option AV:=match l with
 | [x]=>(gP b).bind fun n=>if ch n && zB5 n.toNat 100000 then some (.lst (j6 x n.toNat)) else none
 | _=>none
noncomputable def binV (op:Operator) (a b:AV):Option AV :=
 match op with
 | .Add=>addV a b
 | .Sub=>on2 a b fun x y=>some (.int (x - y))
 | .Mult=>(lX a).elim (on2 a b fun x y=>if ch x || ch y then some (.int (x * y)) else none) (repV b)
 | .FloorDiv=>on2 a b fun x y=>if cN y then some (.int (zAu x y)) else none
 | .Mod=>on2 a b fun x y=>if cN y then some (.int (zAq x y)) else none
 | .Pow=>on2 a b fun x y=>if 0<=y/\y<=20/\x.natAbs<=1000 then some (.int (x ^ y.toNat)) else none
 | _=>none
noncomputable def unV (op:UnaryOp) (a:AV):Option AV :=
 match op with
 | .Not=>(eN a).map fun b=>.bool (!b)
 | .USub=>(gP a).map fun x=>.int (-x)
 | _=>none
noncomputable def inV (x c:AV):Option Bool :=
 match c with
 | .dct ks _=>if m4 x then some (im x ks) else none
 | .lst l=>if gb x && dataVs l && decide (dG x<=64) then some ((toDs l).any fun y=>PyData.eqv y (kA x)) else none
 | _=>none
noncomputable def lH (op:CmpOp) (a b:AV):Option Bool :=
 match op with
 | .Eq=>eqV a b
 | .NotEq=>(eqV a b).map (!·)
 | .Lt=>on2 a b fun x y=>some (decide (x < y))
 | .Gt=>on2 a b fun x y=>some (decide (y < x))
 | .LtE=>on2 a b fun x y=>some (decide (x<=y))
 | .GtE=>on2 a b fun x y=>some (decide (y<=x))
 | .Is=>if isNone b then some (isNone a) else none
 | .IsNot=>if isNone b then some (!isNone a) else none
 | .In=>inV a b
 | .NotIn=>(inV a b).map (!·)
noncomputable def eu (a b:Int):List AV:=(List.range (b - a).toNat).map fun (k:Nat)=>.int (a+(k:Int))
noncomputable def fQ (a b:List AV):List AV:=(a.zip b).map fun p=>.tup [p.1,p.2]
noncomputable def dW (k:Int):List AV->List AV
 | []=>[]
 | x::r=>.tup [.int k,x]::dW (k+1) r
structure Fn where
 params:List Str
 body:List Stmt
 names:List (Str × NameKind)
structure BiE where
 val:Value
 den:Bool->List AV->Option AV
 free:Bool
 cont:Bool
structure Pg where
 fns:List (Str × Str × Fn)
 classes:List Str
 excs:List (Str × List Str)
 consts:List (Str × Int)
 bi:List (Str × BiE)
 flds:List Str
 mths:List Str
 shared:List (Str × Str)
noncomputable def lq (c f:Str):List (Str × Str × Fn)->Option Fn
 | []=>none
 | (c',f',fn)::r=>if seq f f' && seq c c' then some fn else lq c f r
theorem findFn_c {c f c' f':Str} {fn:Fn} {r:List (Str × Str × Fn)}:lq c f ((c',f',fn)::r)=if seq f f' && seq c c' then some fn else lq c f r:=rfl
noncomputable def Pg.find (P:Pg) (c f:Str):Option Fn:=lq c f P.fns
noncomputable def Pg.sub (P:Pg) (c d:Str):Bool:=seq c d || (match aR c P.excs with | some l=>cw d l | none=>false)
noncomputable def Pg.hasFn (P:Pg) (f:Str):Bool:=(P.find ⟨#[]⟩ f).isSome
noncomputable def Pg.isCls (P:Pg) (c:Str):Bool:=cw c P.classes
noncomputable def Pg.isX (P:Pg) (c:Str):Bool:=(aR c P.excs).isSome
structure Ctx where
 P:Pg
 free:Bool
 call:Str->Str->List AV->St->Ret
 make:Str->List AV->St->Ret
 turns:Nat
noncomputable def Ctx.inH (X:Ctx):Ctx:={ X with free:=false,make:=fun _ _ _=>.stuck,call:=fun _ _ _ _=>.stuck }
noncomputable def lV (x:Str):Bool:=!(seq x "__debug__") && !(seq x "__classdict__")
noncomputable abbrev Sc:=List (Str × NameKind)
noncomputable def isLocK:Option NameKind->Bool
 | some .local | some .cell | some .free=>true
 | _=>false
noncomputable def isGlobK:Option NameKind->Bool
 | some .globalImplicit=>true
 | _=>false
noncomputable def isStK:Option NameKind->Bool
 | some .local | some .cell=>true
 | _=>false
noncomputable def n5:Option NameKind->Bool
 | some .local=>true
 | _=>false
noncomputable def lO (sc:Sc) (x:Str):Bool:=isLocK (aR x sc) && lV x
noncomputable def bh (sc:Sc) (x:Str):Bool:=isGlobK (aR x sc) && lV x
noncomputable def j4 (sc:Sc) (x:Str):Bool:=isStK (aR x sc) && lV x
noncomputable def isLo (sc:Sc) (x:Str):Bool:=n5 (aR x sc) && lV x
noncomputable def ae (k:Nat):D AV:=fun s =>
 match aq k s.loc with
 | some (.val v)=>.ok v s
 | some (.own v)=>.ok v { s with loc:=ah k (.val v) s.loc }
 | none=>.stuck
noncomputable def aa (k:Nat):D AV:=fun s =>
 match aq k s.loc with
 | some _=>.ok (.pl k) s
 | none=>.stuck
noncomputable def gI (k:Nat) (v:LV):D Unit:=fun s=>.ok () { s with loc:=ah k v s.loc }
noncomputable def dq (st:St) (n:Nat):Option AV:=match st[n]? with
 | some (.cont c)=>some c
 | _=>none
noncomputable def aS (v:AV) (s:S):Option AV :=
 match v with
 | .cel n=>dq s.st n
 | .pl k=>(match aq k s.loc with
  | some (.own c)=>some c
  | some (.val (.cel n))=>dq s.st n
  | some (.val (.pl _))=>none
  | some (.val v)=>some v
  | none=>none)
 | v=>some v
noncomputable def deref (v:AV):D AV:=fun s=>match aS v s with
 | some c=>.ok c s
 | none=>.stuck
noncomputable def gE:List AV->D (List AV)
 | []=>af []
 | v::r=>aH (deref v) fun c=>aH (gE r) fun cs=>af (c::cs)
noncomputable def gc (v:AV) (s:S):Option AV :=
 match v with
 | .pl k=>(match aq k s.loc with
  | some (.val v)=>some v
  | _=>none)
 | v=>some v
noncomputable def iA (v:AV):D AV:=fun s=>match gc v s with
 | some c=>.ok c s
 | none=>.stuck
noncomputable def dR (v:AV) (s:S):Option (Nat × List (Str × AV)) :=
 match gc v s with
 | some (.obj _ n)=>(match s.st[n]? with | some (.flds l)=>some (n,l) | _=>none)
 | _=>none
noncomputable def mD (o:AV) (f:Str):D AV:=fun s =>
 match dR o s with
 | some (_,l)=>(match gw f l with
  | some w=>.ok w s
  | none=>.stuck)
 | none=>.stuck
noncomputable def ie (o:AV) (f:Str) (w:AV):D Unit:=fun s =>
 match dR o s with
 | some (n,l)=>if zB5 l.length 100 then .ok () { s with st:=s.st.set n (.flds (ly f w l)) } else .stuck
 | none=>.stuck
noncomputable def ez (r:Ret):D AV:=fun s =>
 match r with
 | .ok v st=>.ok v { s with st:=st }
 | .exc c st=>.exc c { s with st:=st }
 | .stuck=>.stuck
noncomputable def fB (X:Ctx) (c f:Str) (vs:List AV):D AV:=fun s=>ez (X.call c f vs s.st) s
noncomputable def dMake (X:Ctx) (c:Str) (vs:List AV):D AV:=fun s=>ez (X.make c vs s.st) s
noncomputable def br:List (D AV)->D (List AV)
 | []=>af []
 | m::r=>aH m fun v=>aH (br r) fun vs=>af (v::vs)
noncomputable def fP:AV->Bool
 | .lst _ | .dct _ _=>true
 | _=>false
noncomputable def toCel (v:AV):D AV:=fun s=>if fP v then .ok (.cel s.st.length) { s with st:=s.st++[.cont v] } else .ok v s
noncomputable def b8 (v:AV) (f:AV->Option AV):D Unit:=fun s =>
 let cel (n:Nat):Out Unit:=match dq s.st n with
  | some c=>(match f c with | some c'=>.ok () { s with st:=s.st.set n (.cont c') } | none=>.stuck)
  | none=>.stuck
 match v with
 | .cel n=>cel n
 | .pl k=>(match aq k s.loc with
  | some (.own c)=>(match f c with | some c'=>.ok () { s with loc:=ah k (.own c') s.loc } | none=>.stuck)
  | some (.val (.cel n))=>cel n
  | _=>.stuck)
 | _=>.stuck
noncomputable def fy (i v:AV) (c:AV):Option AV :=
 match c,i with
 | .lst l,.int i=>if 0<=i/\i.toNat < l.length then some (.lst (l.set i.toNat v)) else none
 | .dct ks vs,k=>if m4 k && zB5 (ks.length+1) sizeLine then some (.dct (bX k ks) (cr k v ks vs)) else none
 | _,_=>none
noncomputable def cZ (e:Expr):Option Str:=if h:e.ctorIdx=23 then Expr.Name.elim (motive_1:=fun _=>Option Str) e h fun x _=>some x else none
noncomputable def tupE (e:Expr):Option (List Expr):=if h:e.ctorIdx=25 then Expr.Tuple.elim (motive_1:=fun _=>Option (List Expr)) e h fun ts _ _=>some ts else none
noncomputable def fR (sc:Sc) (e:Expr):Option (Option Nat × List Nat):=(cZ e).elim ((tupE e).map fun ts=>(none,ts.map fun t=>aV ((cZ t).getD ⟨#[]⟩) sc)) fun x=>some (some (aV x sc),[])
noncomputable def fT:List Nat->List AV->bF->bF
 | k::ks,v::vs,l=>fT ks vs (ah k (.val v) l)
 | _,_,l=>l
noncomputable def j9 (t:Option Nat × List Nat) (v:AV):D Unit:=fun s =>
 match t with
 | (some k,_)=>.ok () { s with loc:=ah k (.val v) s.loc }
 | (none,ks)=>(match v with
  | .tup vs=>if zA4 ks.length vs.length then .ok () { s with loc:=fT ks vs s.loc } else .stuck
  | _=>.stuck)
noncomputable def nmOk (ok:Str->Bool) (e:Expr):Bool:=(cZ e).elim false ok
noncomputable def mI (ok:Str->Bool) (e:Expr):Bool:=(cZ e).elim ((tupE e).elim false fun ts=>ts.all (nmOk ok)) ok
noncomputable def bo (sc sc':Sc):List (Nat × Nat):=(sc'.filter fun p=>match p.2 with | .free=>true | _=>false).map fun p=>(aV p.1 sc',aV p.1 sc)
noncomputable def lvV:LV->AV
 | .val v | .own v=>v
noncomputable def dY:List (Nat × Nat)->bF->bF
 | [],_=>[]
 | (i,o)::r,l=>match aq o l with
  | some lv=>(i,.val (lvV lv))::dY r l
  | none=>dY r l
noncomputable def letGo:List (Nat × Nat)->bF->bF
 | [],l=>l
 | (_,o)::r,l=>letGo r (match aq o l with
  | some (.own v)=>ah o (.val v) l
  | _=>l)
noncomputable def nj (v:AV):Out (List AV)->Out (List AV)
 | .ok vs s=>.ok (v::vs) s
 | o=>o
noncomputable def iN:Option (D AV)->D Bool
 | none=>af true
 | some d=>aH d fun v=>opt (eN v)
noncomputable abbrev Tg:=Option Nat × List Nat
noncomputable def cg (t:Tg) (tst:Option (D AV)) (elt:D AV) (cap:bF):List AV->St->Out (List AV)
 | [],st=>.ok [] ⟨cap,st⟩
 | x::r,st=>aH (j9 t x) (fun _=>aH (iN tst) fun b=>if b then aH elt (fun v=>fun s=>nj v (cg t tst elt cap r s.st)) else fun s=>cg t tst elt cap r s.st) ⟨cap,st⟩
noncomputable def isFreeK:Option NameKind->Bool
 | some .free=>true
 | _=>false
noncomputable def isCellK:Option NameKind->Bool
 | some .cell | some .free=>true
 | _=>false
noncomputable def scOk (sc sc':Sc):Bool:=sc'.all fun p=>match p.2 with
 | .cell=>false
 | .local=>n5 (aR p.1 sc')
 | .free=>isCellK (aR p.1 sc) && isFreeK (aR p.1 sc')
 | _=>true
noncomputable def cQ (caps:List (Nat × Nat)) (t:Tg) (tst:Option (D AV)) (elt:D AV) (items:List AV):D (List AV):=fun s =>
 match cg t tst elt (dY caps s.loc) items s.st with
 | .ok vs s'=>.ok vs ⟨letGo caps s.loc,s'.st⟩
 | .exc c s'=>.exc c ⟨letGo caps s.loc,s'.st⟩
 | .stuck=>.stuck
noncomputable def asL {β:Type} (v:AV) (f:List AV->D β):D β:=match v with
 | .lst l=>f l
 | _=>stk
noncomputable def c9 (caps:List (Nat × Nat)) (t:Tg) (tst:Option (D AV)) (elt:D AV) (its:D AV):D AV :=
 aH its fun v=>asL v fun l=>if l.length<=sizeLine then aH (cQ caps t tst elt l) fun vs=>opt (bD vs) else stk
noncomputable abbrev ll (caps:List (Nat × Nat)) (k:Nat) (tst:Option (D AV)) (elt:D AV) (its:D AV):D AV:=c9 caps (some k,[]) tst elt its
noncomputable abbrev bP (caps:List (Nat × Nat)) (k:Nat) (elt:D AV) (its:D AV):D AV:=c9 caps (some k,[]) none elt its
noncomputable def az (op:BoolOp):List (D AV)->D AV
 | []=>stk
 | [m]=>m
 | m::r=>aH m fun v=>aH (opt (eN v)) fun t =>
  match op,t with
  | .And,false | .Or,true=>af v
  | _,_=>az op r
noncomputable def aj (op:Operator) (l r:D AV):D AV:=aH l fun a=>aH r fun b=>aH (deref a) fun a'=>aH (deref b) fun b'=>opt (binV op a' b')
noncomputable def kh (d:D AV):D AV:=aH d fun a=>opt (unV .Not a)
noncomputable def dUn (op:UnaryOp) (e:D AV):D AV:=aH e fun a=>aH (deref a) fun a'=>opt (unV op a')
noncomputable def am (l:D AV) (op:CmpOp) (r:D AV):D AV:=aH l fun a=>aH r fun b=>aH (deref a) fun a'=>aH (deref b) fun b'=>opt ((lH op a' b').map .bool)
noncomputable def aJ (es:List (D AV)):D AV:=aH (br es) fun vs=>opt (mP vs)
noncomputable def bO (es:List (D AV)):D AV:=aH (br es) fun vs=>opt (bD vs)
noncomputable def al (v i:D AV):D AV:=aH v fun c=>aH i fun i=>aH (deref c) fun c'=>opt (idxV c' i)
noncomputable def d4 (v lo hi:D AV):D AV:=aH v fun c=>aH lo fun a=>aH hi fun b=>aH (deref c) fun c'=>opt (kJ c' a b)
noncomputable def aQ (o:D AV) (f:Str):D AV:=aH o fun o=>mD o f
noncomputable def jA:AV->Option (List AV)
 | .dct ks _=>some ks
 | c=>jg c
noncomputable def ba (d:D AV):D AV:=aH d fun c=>opt ((jA c).map .lst)
noncomputable def eQ (s:Str):Bool:=PyData.strOk s && zB5 s.length sizeLine
noncomputable def dConst:Const->D AV
 | .none=>af .none
 | .bool b=>af (.bool b)
 | .int i=>af (.int i)
 | .str s=>if eQ s then af (.str s) else stk
 | _=>stk
noncomputable def conE (e:Expr):Option Const:=if h:e.ctorIdx=19 then Expr.Constant.elim (motive_1:=fun _=>Option Const) e h fun c _ _=>some c else none
noncomputable def strC:Const->Option Str
 | .str s=>some s
 | _=>none
noncomputable def strE (e:Expr):Option Str:=(conE e).bind strC
noncomputable def litE (e:Expr):Option Str:=(strE e).bind fun s=>if eQ s then some s else none
noncomputable def okStr (e:Expr):Bool:=(litE e).isSome
noncomputable def dD (e:Expr):Bool:=(strE e).elim false fun s=>zA4 s.length 0
inductive ItK where
 | range | zip | enum
noncomputable def itNames:List (Str × ItK):=[("range",.range),("zip",.zip),("enumerate",.enum)]
inductive Callee where
 | fn | cls | xcls | bi (b:BiE) | it (k:ItK) | isi | no
noncomputable def bV (P:Pg) (id:Str):Callee:=if P.hasFn id then .fn else if P.isCls id then .cls else if P.isX id then .xcls else .no
noncomputable def fU:Callee->Bool
 | .no=>true
 | _=>false
noncomputable def biCal (P:Pg) (id:Str):Callee:=(aR id P.bi).elim ((aR id itNames).elim (if seq id "isinstance" then .isi else .no) .it) .bi
noncomputable def calleeOf (P:Pg) (id:Str) (sc:Sc):Callee :=
 if bh sc id then (if fU (bV P id) then biCal P id else bV P id) else .no
noncomputable def okR (x:Int):Bool:=decide (x.natAbs < 1000000000000000000)
inductive Ty where
 | tuple | int | bool | str | dict
noncomputable def tyNames:List (Str × Ty):=[("tuple",.tuple),("int",.int),("bool",.bool),("str",.str),("dict",.dict)]
noncomputable def tyNo:AV->Nat
 | .none=>0
 | .bool _=>1
 | .int _=>2
 | .str _=>3
 | .tup _=>4
 | .lst _=>5
 | .dct _ _=>6
 | _=>7
noncomputable def Ty.no:Ty->Nat
 | .bool=>1
 | .int=>2
 | .str=>3
 | .tuple=>4
 | .dict=>6
noncomputable def subN (n m:Nat):Bool:=zA4 n m || (zA4 n 1 && zA4 m 2)
noncomputable def jq (t:Ty) (a:AV):Option Bool:=if zB5 (tyNo a) 6 then some (subN (tyNo a) t.no) else none
noncomputable def fE (d:D AV) (f:AV->Option Bool):D AV:=aH d fun v=>aH (deref v) fun c=>opt ((f c).map .bool)
noncomputable def aW (b:BiE) (k:Bool) (es:List (D AV)):D AV:=aH (br es) fun vs=>aH (gE vs) fun cs=>opt (b.den k cs)
noncomputable def fW (a n:Int):Option AV:=if okR a && okR n then some (.lst (eu a n)) else none
noncomputable def rangeD (vs:List AV):D AV:=opt (match vs with
 | [b]=>(gP b).bind fun n=>fW 0 n
 | [a,b]=>on2 a b fW
 | _=>none)
noncomputable def zipD (vs:List AV):D AV:=opt (match vs with
 | [a,b]=>(jg a).bind fun la=>(jg b).map fun lb=>.tup (fQ la lb)
 | _=>none)
noncomputable def enumD (vs:List AV):D AV:=opt (match vs with
 | [a]=>(jg a).map fun l=>.tup (dW 0 l)
 | _=>none)
noncomputable def itD:ItK->List AV->D AV
 | .range=>rangeD
 | .zip=>zipD
 | .enum=>enumD
noncomputable def fm (k:ItK) (es:List (D AV)):D AV:=aH (br es) (itD k)
noncomputable def methK (X:Ctx) (m:Str) (es:List (D AV)):AV->D AV
 | .obj c n=>fun s=>(match s.st[n]? with
  | some (.flds _)=>(if (X.P.find c m).isSome then aH (br es) fun vs=>fB X c m (.obj c n::vs) else stk) s
  | _=>.stuck)
 | _=>stk
noncomputable def bz (X:Ctx) (o:D AV) (m:Str) (es:List (D AV)):D AV:=aH o fun o=>aH (iA o) (methK X m es)
noncomputable def mkNm (P:Pg) (id:Str):Bool:=fU (bV P id) && (aR id P.bi).elim false (·.cont)
noncomputable def isSl:Expr->Bool
 | .Slice _ _ none _=>true
 | _=>false
noncomputable def eT (P:Pg):Expr->Bool
 | .List .. | .ListComp .. | .Dict ..=>true
 | .BinOp ..=>true
 | .Subscript _ i _=>isSl i
 | .Call f _ _ _=>(cZ f).elim false (mkNm P)
 | _=>false
noncomputable def fH (sc:Sc) (x:Str):Bool:=(aR x sc).isSome
noncomputable def k9 (P:Pg) (sc:Sc) (x:Str):Bool:=(aR x P.shared).elim false (fH sc)
noncomputable def mZ (b:Bool) (d:D AV):D AV:=if b then aH d toCel else d
inductive Md where
 | v | p | i
noncomputable def cJ (md:Md) (d:D AV):D AV :=
 match md with
 | .i=>ba d
 | _=>d
noncomputable def locM (md:Md) (k:Nat):D AV :=
 match md with
 | .p=>aa k
 | _=>ae k
noncomputable def jE (X:Ctx) (x:Str) (md:Md) (sc:Sc):D AV:=if lO sc x then locM md (aV x sc) else if bh sc x then opt ((aR x X.P.consts).map .int) else stk
noncomputable def itOnly (md:Md) (d:D AV):D AV :=
 match md with
 | .i=>d
 | _=>stk
noncomputable def isLstV:AV->Bool
 | .lst _=>true
 | _=>false
noncomputable def eI (r:AV):D Unit:=fun s=>match aS r s with
 | some c=>if isLstV c then .ok () s else .stuck
 | none=>.stuck
noncomputable def appV (v:AV) (c:AV):Option AV:=(lX c).bind fun l=>bD (l++[v])
noncomputable def dm (o e:D AV):D AV:=aH o fun r=>aH (eI r) fun _=>aH e fun v=>aH (b8 r (appV v)) fun _=>af .none
noncomputable def dN:List AV->Option (List Str)
 | []=>some []
 | .str s::r=>(dN r).map (s::·)
 | _::_=>none
noncomputable def j5:List Str->Str
 | []=>⟨#[]⟩
 | s::r=>s++j5 r
noncomputable def joinV (v:AV):Option AV:=(lX v).bind fun l=>(dN l).bind fun ss=>mkSt (j5 ss)
noncomputable def gh (d:D AV):D AV:=aH d fun v=>aH (deref v) fun c=>opt (joinV c)
noncomputable def nB (e:Expr):Bool:=!Nat.beq e.ctorIdx 22
noncomputable def isNm (e:Expr):Bool:=(cZ e).isSome
noncomputable def callE (e:Expr):Option (Expr × List Expr × List Keyword):=if h:e.ctorIdx=16 then Expr.Call.elim (motive_1:=fun _=>Option (Expr × List Expr × List Keyword)) e h fun f a k _=>some (f,a,k) else none
noncomputable def ky (e:Expr):Bool:=(cZ e).isSome || (callE e).elim false fun t=>(cZ t.1).isSome && !t.2.1.isEmpty
noncomputable def dy (e:Expr):Bool:=zA4 e.ctorIdx 23 || zA4 e.ctorIdx 20 || zA4 e.ctorIdx 21
noncomputable def aU (X:Ctx) (id:Str) (es:List (D AV)):D AV:=aH (br es) fun vs=>fB X ⟨#[]⟩ id vs
noncomputable def nV (X:Ctx) (id:Str) (es:List (D AV)):D AV:=aH (br es) fun vs=>dMake X id vs
noncomputable def dExc (id:Str):D AV:=af (.exc id)
noncomputable def one1 (ds:List (D AV)) (f:D AV->D AV):D AV:=match ds with
 | [d]=>f d
 | _=>stk
noncomputable def isNot:UnaryOp->Bool
 | .Not=>true
 | _=>false
noncomputable def unK (op:UnaryOp) (md:Md) (dv dp:D AV):D AV:=if isNot op then cJ md (kh dv) else cJ md (dUn op dp)
noncomputable def fK (es:List Expr):Option Str:=match es with
 | [_,e]=>cZ e
 | _=>none
noncomputable def isXc:Callee->Bool
 | .xcls=>true
 | _=>false
noncomputable def isiV (P:Pg):AV->Option Bool
 | .exc c=>if P.isX c then some true else none
 | _=>none
noncomputable def isiN (P:Pg) (t:Str):Option (AV->Option Bool):=(aR t tyNames).elim (if seq t "ValueError" then some (isiV P) else none) fun k=>some (jq k)
noncomputable def isiO (P:Pg) (t:Str) (c:Callee):Option (AV->Option Bool):=if fU c then isiN P t else none
noncomputable def isiK (P:Pg) (md:Md) (o:Option Str) (dp:List (D AV)) (sc:Sc):D AV:=match o,dp with
 | some t,[d,_]=>bI (bh sc t) ((isiO P t (bV P t)).elim stk fun f=>cJ md (fE d f))
 | _,_=>stk
noncomputable def oneLit (es:List Expr):Bool:=match es with
 | [e]=>okStr e
 | _=>false
noncomputable def attE (e:Expr):Option (Expr × Str):=if h:e.ctorIdx=20 then Expr.Attribute.elim (motive_1:=fun _=>Option (Expr × Str)) e h fun v m _=>some (v,m) else none
noncomputable def itmE (e:Expr):Bool:=(callE e).elim false fun t=>t.2.1.isEmpty && t.2.2.isEmpty && (attE t.1).elim false fun q=>seq q.2 "items"
noncomputable def lA (args:List Expr):Bool:=match args with
 | [e]=>itmE e
 | _=>false
noncomputable def dctV:AV->Option AV
 | .dct ks vs=>some (.dct ks vs)
 | _=>none
noncomputable def itmV:AV->Option AV
 | .dct ks vs=>bD (fQ ks vs)
 | _=>none
noncomputable def dDctV (d:D AV):D AV:=aH d fun a=>opt (dctV a)
noncomputable def fY (d:D AV):D AV:=aH (dDctV d) fun a=>opt (itmV a)
noncomputable def callK (X:Ctx) (md:Md) (id:Str) (args:List Expr) (dv dp dc:List (D AV)) (dI:D AV) (sc:Sc):Callee->D AV
 | .fn=>bI X.free (cJ md (aU X id dv))
 | .cls=>bI (X.free && (X.P.find id "__init__").isSome) (cJ md (nV X id dc))
 | .xcls=>bI (X.free && oneLit args) (cJ md (dExc id))
 | .bi b=>bif lA args then bI ((b.val == .type "list") && X.free) (cJ md (fY dI)) else bI (!b.free || X.free) (cJ md (aW b false dp))
 | .it k=>bI X.free (itOnly md (fm k dv))
 | .isi=>isiK X.P md (fK args) dp sc
 | .no=>stk
noncomputable def zeroC:Const->Bool
 | .int i=>decide (i=0)
 | _=>false
noncomputable def oE (e:Expr):Bool:=(conE e).elim false zeroC
noncomputable def oJ (kws:List Keyword):Bool:=match kws with
 | [k]=>(k.arg.elim false fun a=>seq a "default") && oE k.value
 | _=>false
noncomputable def defK (md:Md) (dp:List (D AV)):Callee->D AV
 | .bi b=>cJ md (aW b true dp)
 | _=>stk
noncomputable def evCall (X:Ctx) (md:Md) (id:Str) (args:List Expr) (kws:List Keyword) (dv dp dc:List (D AV)) (dI:D AV) (sc:Sc):D AV :=
 bif kws.isEmpty then callK X md id args dv dp dc dI sc (calleeOf X.P id sc) else bI (oJ kws && X.free && !args.isEmpty) (defK md dp (calleeOf X.P id sc))
noncomputable def methC (X:Ctx) (md:Md) (dO:D AV) (m:Str) (noArgs:Bool) (dv:List (D AV)):D AV :=
 if seq m "append" then one1 dv fun e=>cJ md (dm dO e)
 else bI (cw m X.P.mths && X.free) (cJ md (bz X dO m dv))
noncomputable def evMeth (X:Ctx) (md:Md) (o:Expr) (dO:D AV) (m:Str) (apos pos:Pos) (args:List Expr) (kws:List Keyword) (dv dp:List (D AV)):D AV :=
 bI (kws.isEmpty && zA4 apos.endLine pos.line && args.all nB && zB5 args.length 20) (if seq m "join" then one1 dp fun e=>bI (dD o) (cJ md (gh e)) else bI (dy o) (methC X md dO m args.isEmpty dv))
noncomputable def compOk (X:Ctx) (tgt:Expr) (isa:Int) (ifs:List Expr) (scope:Scope) (sc:Sc):Bool:=isa == 0 && zB5 ifs.length 1 && mI (isLo scope.names) tgt && scOk sc scope.names && scope.kind == .function && X.free
noncomputable def compK (X:Ctx) (md:Md) (tgt:Expr) (isa:Int) (ifs:List Expr) (scope:Scope) (sc:Sc) (tst:Option (D AV)) (delt dit:D AV):D AV :=
 bI (compOk X tgt isa ifs scope sc) ((fR scope.names tgt).elim stk fun t=>cJ md (c9 (bo sc scope.names) t tst delt dit))
noncomputable def dCmp2 (l:D AV) (op:CmpOp) (m:D AV) (op':CmpOp) (r:D AV):D AV:=aH l fun a=>aH m fun b=>aH (deref a) fun a'=>aH (deref b) fun b'=>aH (opt (gP b')) fun i=>aH (opt (lH op a' (.int i))) fun t =>
 if t then aH r fun c=>aH (deref c) fun c'=>opt ((lH op' (.int i) c').map .bool) else af (.bool false)
noncomputable def cmpK (md:Md) (l:D AV) (ops:List CmpOp) (ds:List (D AV)):D AV:=match ops,ds with
 | [op],[d]=>cJ md (am l op d)
 | [op,op'],[d,e]=>cJ md (dCmp2 l op d op' e)
 | _,_=>stk
set_option tactic.hygienic true
mutual
noncomputable def ev (X:Ctx):Expr->Md->Sc->D AV
 | .Constant c _ _,md,_=>cJ md (dConst c)
 | .Name x _,md,sc=>cJ md (jE X x md sc)
 | .BinOp l op r _,md,sc=>cJ md (aj op (ev X l .p sc) (ev X r .p sc))
 | .UnaryOp op e _,md,sc=>unK op md (ev X e .v sc) (ev X e .p sc)
 | .BoolOp op es _,md,sc=>cJ md (az op (evs X es .v sc))
 | .Compare l ops cs _,md,sc=>cmpK md (ev X l .p sc) ops (evs X cs .p sc)
 | .Tuple es _ _,md,sc=>cJ md (aJ (evs X es .v sc))
 | .List es _,md,sc=>cJ md (bO (evs X es .v sc))
 | .Dict [] [] _,md,_=>cJ md (af (.dct [] []))
 | .Attribute v f _,md,sc=>bI (ky v && cw f X.P.flds) (cJ md (aQ (ev X v .p sc) f))
 | .Subscript v (.Slice lo hi none _) _,md,sc=>cJ md (d4 (ev X v .p sc) (evo X lo sc) (evo X hi sc))
 | .Subscript v i _,md,sc=>cJ md (al (ev X v .p sc) (ev X i .v sc))
 | .ListComp elt [⟨tgt,iter,ifs,isa⟩] scope _,md,sc=>compK X md tgt isa ifs scope sc (evt X ifs scope.names) (ev X elt .v scope.names) (ev X iter .i sc)
 | .Call (.Name id _) args kws _,md,sc=>evCall X md id args kws (evs X args .v sc) (evs X args .p sc) (evcs X args sc) (evi X args sc) sc
 | .Call (.Attribute o m apos) args kws pos,md,sc=>evMeth X md o (ev X o .p sc) m apos pos args kws (evs X args .v sc) (evs X args .p sc)
 | _,_,_=>stk
noncomputable def evs (X:Ctx):List Expr->Md->Sc->List (D AV)
 | [],_,_=>[]
 | e::r,md,sc=>ev X e md sc::evs X r md sc
noncomputable def evt (X:Ctx):List Expr->Sc->Option (D AV)
 | [],_=>none
 | e::_,sc=>some (ev X e .v sc)
noncomputable def evcs (X:Ctx):List Expr->Sc->List (D AV)
 | [],_=>[]
 | e::r,sc=>mZ (eT X.P e) (ev X e .v sc)::evcs X r sc
noncomputable def evi (X:Ctx):List Expr->Sc->D AV
 | [.Call (.Attribute o _ apos) _ _ pos],sc=>bI (zA4 apos.endLine pos.line && dy o) (ev X o .v sc)
 | _,_=>stk
noncomputable def evo (X:Ctx):Option Expr->Sc->D AV
 | none,_=>af .none
 | some e,sc=>ev X e .v sc
end
set_option tactic.hygienic false
noncomputable def oz (own:Bool) (v:AV):LV:=if own && fP v then .own v else .val v
noncomputable def ac (m:D Fl) (k:D Fl):D Fl:=aH m fun f=>match f with | .next=>k | .ret v=>af (.ret v)
noncomputable def bn (t:D AV) (a b:D Fl):D Fl:=aH t fun v=>aH (opt (eN v)) fun c=>if c then a else b
noncomputable def aX (t:Option Nat × List Nat) (body:D Fl):List AV->D Fl
 | []=>af .next
 | x::r=>aH (j9 t x) fun _=>aH body fun f=>match f with
  | .next=>aX t body r
  | .ret v=>af (.ret v)
noncomputable def asT (t:Option Nat × List Nat) (v:AV) (f:List AV->D Fl):D Fl:=match v with
 | .lst l=>f l
 | .tup l=>(match t.1 with | none=>f l | some _=>stk)
 | _=>stk
noncomputable def cB (t:Option Nat × List Nat) (its:D AV) (body:D Fl):D Fl:=aH its fun v=>asT t v fun l=>aX t body l
noncomputable def aI (d:D AV):D Fl:=aH d fun a=>af (.ret a)
noncomputable def cX (d:D AV):D Fl:=aH d fun _=>af .next
noncomputable def aL (k:Nat) (d:D AV):D Fl:=aH d fun a=>aH (gI k (.val a)) fun _=>af .next
noncomputable def aT (k:Nat) (d:D AV):D Fl:=aH d fun a=>aH (gI k (oz true a)) fun _=>af .next
noncomputable def bM (o:D AV) (f:Str) (d:D AV):D Fl:=aH d fun a=>aH o fun o=>aH (ie o f a) fun _=>af .next
noncomputable def bj (b i d:D AV):D Fl:=aH d fun a=>aH b fun c=>aH i fun i=>aH (b8 c (fy i a)) fun _=>af .next
noncomputable def j0 {α:Type} (o:Out α):Out α:=match o with
 | .exc _ _=>.stuck
 | o=>o
noncomputable def kQ (o:Out Fl):Out Fl:=match o with
 | .ok (.ret v) s=>.ok (.ret v) ⟨[],s.st⟩
 | _=>.stuck
noncomputable abbrev Hs:=List (Str × Option Nat × D Fl)
noncomputable def hdl (c:Str) (b:D Fl) (s:S):Option Nat->Out Fl
 | none=>j0 (b s)
 | some k=>kQ (b ⟨ah k (.val (.exc c)) s.loc,s.st⟩)
noncomputable def eY (sub:Str->Str->Bool) (c:Str) (s':S):Hs->Out Fl
 | []=>.exc c s'
 | (h,k,b)::r=>if sub c h then hdl c b s' k else eY sub c s' r
noncomputable def tryO (X:Ctx) (o:Out Fl) (hs:Hs):Out Fl :=
 match o with
 | .exc c s'=>eY X.P.sub c s' hs
 | r=>r
noncomputable def j7 (X:Ctx) (body:D Fl) (hs:Hs):D Fl:=fun s=>tryO X (body s) hs
noncomputable def em (e:Expr):Bool:=!(zA4 e.ctorIdx 8 || zA4 e.ctorIdx 9 || zA4 e.ctorIdx 10)
noncomputable def mH (X:Ctx) (sc:Sc) (x:Str) (v:Expr):D Fl :=
 if eT X.P v then (if k9 X.P sc x then bI (em v) (aL (aV x sc) (mZ true (ev X v .v sc))) else aT (aV x sc) (ev X v .v sc)) else aL (aV x sc) (ev X v .v sc)
noncomputable def exAsg (X:Ctx) (v:Expr) (sc:Sc):Expr->D Fl
 | .Name x _=>bI (j4 sc x) (mH X sc x v)
 | .Attribute o f _=>bI (isNm o && cw f X.P.flds && em v) (bM (ev X o .p sc) f (mZ (eT X.P v) (ev X v .v sc)))
 | .Subscript b k _=>bI (em v) (bj (ev X b .p sc) (ev X k .v sc) (ev X v .v sc))
 | _=>stk
noncomputable def raisK (X:Ctx) (sc:Sc) (f:Expr) (args:List Expr) (kws:List Keyword):D Fl:=(cZ f).elim stk fun id=>match args with
 | [e]=>bI (kws.isEmpty && isXc (calleeOf X.P id sc) && okStr e && X.free) (rais id)
 | _=>stk
noncomputable def oO (X:Ctx) (sc:Sc) (e c:Option Expr):D Fl:=bI c.isNone ((e.bind callE).elim stk fun t=>raisK X sc t.1 t.2.1 t.2.2)
noncomputable def isCallE (e:Expr):Bool:=zA4 e.ctorIdx 16
noncomputable def forK (X:Ctx) (t:Expr) (noElse:Bool) (sc:Sc) (dit:D AV) (dbody:D Fl):D Fl :=
 bI (noElse && mI (j4 sc) t && X.free) (match fR sc t with
  | some t'=>cB t' dit dbody
  | none=>stk)
noncomputable def tryK (X:Ctx) (b:Bool) (dbody:D Fl) (hs:Option Hs):D Fl:=bI b (match hs with
 | some hs'=>j7 X dbody hs'
 | none=>stk)
noncomputable def exhK (X:Ctx) (sc:Sc) (n:Option Str) (full:Bool) (db:D Fl) (t:Option Expr) (r:Option Hs):Option Hs :=
 (t.bind cZ).bind fun c=>r.bind fun r'=>if X.P.isX c && bh sc c && full && n.all (isLo sc) then some ((c,n.map fun x=>aV x sc,db)::r') else none
set_option tactic.hygienic true
mutual
noncomputable def ex (X:Ctx):Stmt->Sc->D Fl
 | .Return v _,sc=>aI (evo X v sc)
 | .If t a b _,sc=>bn (ev X t .v sc) (exs X a sc) (exs X b sc)
 | .For t it body orelse _,sc=>forK X t orelse.isEmpty sc (ev X it .i sc) (exs X body sc)
 | .Assign [t] v _,sc=>exAsg X v sc t
 | .Raise e c _,sc=>oO X sc e c
 | .Expr e _,sc=>bI (isCallE e) (cX (ev X e .v sc))
 | .Try body hs orelse fin _,sc=>tryK X (orelse.isEmpty && fin.isEmpty && !hs.isEmpty) (exs X body sc) (exh X.inH hs sc)
 | _,_=>stk
noncomputable def exs (X:Ctx):List Stmt->Sc->D Fl
 | [],_=>af .next
 | s::r,sc=>ac (ex X s sc) (exs X r sc)
noncomputable def exh (X:Ctx):List ExceptHandler->Sc->Option Hs
 | [],_=>some []
 | .ExceptHandler t n body _::r,sc=>exhK X sc n (!body.isEmpty) (exs X body sc) t (exh X r sc)
end
set_option tactic.hygienic false
noncomputable def flowV:Fl->AV
 | .ret v=>v
 | _=>.none
noncomputable def bc (o:Out Fl):Ret :=
 match o with
 | .ok f s=>.ok (flowV f) s.st
 | .exc c s=>.exc c s.st
 | .stuck=>.stuck
noncomputable def fq (sc:Sc):List Str->List AV->bF
 | p::ps,v::vs=>(aV p sc,.val v)::fq sc ps vs
 | _,_=>[]
noncomputable def runFn (X:Ctx) (fn:Fn) (vs:List AV) (st:St):Ret :=
 if zA4 fn.params.length vs.length then bc (exs X fn.body fn.names ⟨fq fn.names fn.params vs,st⟩) else .stuck
noncomputable def ni (n:Nat) (c:Str):Ret->Ret
 | .ok .none st'=>.ok (.obj c n) st'
 | .exc e st'=>.exc e st'
 | _=>.stuck
noncomputable def ctxOf (P:Pg) (K:Nat) (call call3:Str->Str->List AV->St->Ret):Ctx where
 P:=P
 free:=true
 call:=call
 make:=fun c vs st=>ni st.length c (call3 c "__init__" (.obj c st.length::vs) (st++[.flds []]))
 turns:=K
noncomputable def callF (P:Pg) (K n:Nat) (go:(m:Nat)->m < n->Str->Str->List AV->St->Ret):Str->Str->List AV->St->Ret:=fun c f vs st =>
 if h:0 < n then
  match P.find c f with
  | some fn=>runFn (ctxOf P K (go (n - 1) (Nat.sub_lt h Nat.one_pos)) (go (n - 1 - 4) (zBi (Nat.sub_le _ _) (Nat.sub_lt h Nat.one_pos)))) fn vs st
  | none=>.stuck
 else .stuck
noncomputable def aw (P:Pg) (K:Nat):Nat->Str->Str->List AV->St->Ret:=WellFounded.fix Nat.lt_wfRel.wf (callF P K)
theorem kF {P:Pg} {K:Nat} {c f:Str} {vs:List AV} {st:St}:aw P K 0 c f vs st=.stuck:=by
 unfold aw
 rw [WellFounded.fix_eq]
 exact dif_neg (Nat.lt_irrefl 0)
theorem kX {P:Pg} {K n:Nat}:aw P K (n+1)=fun c f vs st=>match P.find c f with | some fn=>runFn (ctxOf P K (aw P K n) (aw P K (n - 4))) fn vs st | none=>.stuck:=by
 unfold aw
 rw [WellFounded.fix_eq]
 funext c f vs st
 exact dif_pos (zCc n)
noncomputable def c7 (a:Arguments):List Str:=a.args.map (·.arg)
noncomputable abbrev ou:Nat:=sizeLine
structure Cx where
 prog:Program
 w:World
 s0:Shared
 P:Pg
 clsA:Str->Option Addr
 mg:Str->Option Value
 mb:Str->Option Value
 fnA:Str->Str->Option Addr
 fnO:Addr->Obj
 fnD:Addr->FuncData
noncomputable abbrev Cx.M (C:Cx):Model:=model C.prog C.w
structure Wd where
 labs:List Addr
 own:Option Str->Option Addr
 tmp:Addr->Prop
 fr:Addr->Prop
 s:Shared
noncomputable abbrev Wd.h (W:Wd):Heap:=W.s.heap
noncomputable abbrev Wd.to (W:Wd) (h:Heap) (tk:Nat):Wd:={ W with s:={ W.s with heap:=h,toks:=tk } }
structure OthC (labs:List Addr) (own:Option Str->Option Addr) (b:Addr):Prop where
 lab:b ∉ labs
 own:∀ k,own k ≠ some b
structure FreeC (labs:List Addr) (own:Option Str->Option Addr) (tmp fr:Addr->Prop) (b:Addr):Prop where
 oth:OthC labs own b
 tmp:¬ tmp b
 fr:¬ fr b
noncomputable abbrev Wd.oth (W:Wd) (b:Addr):Prop:=OthC W.labs W.own b
noncomputable abbrev Wd.free (W:Wd) (b:Addr):Prop:=FreeC W.labs W.own W.tmp W.fr b
inductive Wd.mine (W:Wd) (a:Addr):Prop
 | new (h:W.h.get? a=none)
 | own {k:Option Str} (h:W.own k=some a)
structure Exo (o:Obj):Prop where
 dict:o.dict=none
 dat:∃ vs,o.data=.fields vs
 cls:(∃ a,o.cls=.ref a) ∨ o.cls=.type "traceback"
noncomputable abbrev Pln (o:Obj):Prop:=¬ Exo o
theorem Pln.type {o:Obj} {t:String} (h:o.cls=.type t) (h3:t ≠ "traceback"):Pln o:=fun q=>q.cls.elim (fun q=>q.elim fun _ q=>by rw [h] at q; exact cC Value.ctorIdx q rfl) fun q=>h3 (by rw [h] at q; injection q)
theorem Pln.inst {o:Obj} {d:Addr} (hd:o.dict=some d):Pln o:=fun q=>by rw [q.dict] at hd; exact aC hd
noncomputable abbrev sqO (ty:String) (vs:Array Value) (n:Nat):Obj:={ cls:=.type ty,data:=.seq vs n }
structure StrOk (s:Str):Prop where
 ok:PyData.strOk s=true
 sz:s.length<=ou
structure DRep (C:Cx) (o:Obj) (ss:List Str) (ws:List Value):Prop where
 is:o.IsDictOf (strKind C.prog C.w) (ss.zip ws)
 len:ss.length=ws.length
 sz:ws.length<=ou
 ok:∀ s ∈ ss,StrOk s
noncomputable def SetO (o:Obj) (n:Nat):Prop:=o.ExactSet/\∃ es ep t,o.data=.set es ep t/\t.fits es.size=true/\es.size=n/\n < 16777216
structure InstO (C:Cx) (c:Str) (d:Addr) (o:Obj):Prop where
 cls:∃ a,C.clsA c=some a/\o.cls=.ref a
 dict:o.dict=some d
 nocls:∀ cd,o.data ≠ .cls cd
 isC:C.P.isCls c=true
structure ExcO (C:Cx) (c:Str) (o:Obj):Prop where
 cls:∃ a,C.clsA c=some a/\o.cls=.ref a
 exo:Exo o
 isX:C.P.isX c=true
inductive SqC (h:Heap) (a:Addr) (T:String) (P:List Value->Prop):Prop
 | mk (vs:Array Value) (n:Nat) (h1:h.get? a=some (sqO T vs n)) (h2:vs.size<=ou) (h3:P vs.toList)
inductive DcC (C:Cx) (h:Heap) (a:Addr) (ks:List AV) (P:List Value->Prop):Prop
 | mk (o:Obj) (ss:List Str) (ws:List Value) (h1:h.get? a=some o) (h2:(a == sysModules)=false) (h3:ks=ss.map .str) (h4:DRep C o ss ws) (h5:P ws)
inductive ObC (C:Cx) (W:Wd) (a:Addr) (c:Str) (n:Nat):Prop
 | mk (o:Obj) (d:Addr) (h1:W.h.get? a=some o) (h2:W.labs[n]?=some d) (h3:InstO C c d o)
set_option tactic.hygienic true
mutual
noncomputable def VRep (C:Cx) (W:Wd):AV->Value->Prop
 | .none,v=>v=.none
 | .bool b,v=>v=.bool b
 | .int i,v=>∃ t,v=.int i t
 | .str s,v=>StrOk s/\∃ t,v=.str s t
 | .tup l,v=>∃ a,v=.ref a/\W.free a/\SqC W.h a "tuple" (VReps C W l)
 | .lst l,v=>∃ a,v=.ref a/\W.free a/\SqC W.h a "list" (VReps C W l)
 | .dct ks vs,v=>∃ a,v=.ref a/\W.free a/\DcC C W.h a ks (VReps C W vs)
 | .sett n,v=>∃ a,v=.ref a/\W.free a/\∃ o,W.h.get? a=some o/\SetO o n
 | .exc c,v=>∃ a,v=.ref a/\W.free a/\∃ o,W.h.get? a=some o/\ExcO C c o
 | .obj c n,v=>∃ a,v=.ref a/\W.free a/\ObC C W a c n
 | .cel n,v=>∃ a,v=.ref a/\W.labs[n]?=some a
 | .pl _,_=>False
noncomputable def VReps (C:Cx) (W:Wd):List AV->List Value->Prop
 | [],vs=>vs=[]
 | x::r,vs=>∃ v vs',vs=v::vs'/\VRep C W x v/\VReps C W r vs'
end
set_option tactic.hygienic false
noncomputable def CRep (C:Cx) (W:Wd) (h:Heap) (a:Addr):AV->Prop
 | .tup l=>SqC h a "tuple" (VReps C W l)
 | .lst l=>SqC h a "list" (VReps C W l)
 | .dct ks vs=>DcC C h a ks (VReps C W vs)
 | .sett n=>∃ o,h.get? a=some o/\SetO o n
 | _=>False
structure Grow (W W':Wd):Prop where
 lab:∀ {n:Nat} {a:Addr},W.labs[n]?=some a->W'.labs[n]?=some a
 kp:∀ {b:Addr} {o:Obj},W.h.get? b=some o->W.free b->Pln o->W'.h.get? b=some o
 fr:∀ {b:Addr} {o:Obj},W.h.get? b=some o->W.free b->W'.free b
 ex:∀ {b:Addr} {o:Obj},W.h.get? b=some o->W.free b->Exo o->∃ o',W'.h.get? b=some o'/\Exo o'/\o'.cls=o.cls
theorem eF {vs:Array Value} {n:Nat}:Pln (sqO "tuple" vs n):=.type rfl (by decide)
theorem eG {vs:Array Value} {n:Nat}:Pln (sqO "list" vs n):=.type rfl (by decide)
theorem DRep.pln {C:Cx} {o:Obj} {ss:List Str} {ws:List Value} (h:DRep C o ss ws):Pln o:=by
 obtain ⟨es,ep,h1,_⟩:=h.is
 exact .type h1.1 (by decide)
theorem SetO.pln {o:Obj} {n:Nat} (h:SetO o n):Pln o:=.type h.1.1 (by decide)
theorem InstO.pln {C:Cx} {c:Str} {d:Addr} {o:Obj} (h:InstO C c d o):Pln o:=.inst h.dict
theorem ExcO.same {C:Cx} {c:Str} {o o':Obj} (h:ExcO C c o) (e:Exo o') (q:o'.cls=o.cls):ExcO C c o':=⟨h.cls.imp fun _ z=>⟨z.1,q.trans z.2⟩,e,h.isX⟩
section
variable {C:Cx} {W W':Wd}
set_option tactic.hygienic true
mutual
theorem VRep.mono (g:Grow W W'):∀ {av:AV} {v:Value},VRep C W av v->VRep C W' av v
 | .none,_,h=>h
 | .bool _,_,h=>h
 | .int _,_,h=>h
 | .str _,_,h=>h
 | .tup _,_,h=>by obtain ⟨a,h1,h2,vs,n,h3,h4,h5⟩:=h; exact ⟨a,h1,g.fr h3 h2,vs,n,g.kp h3 h2 eF,h4,VReps.mono g h5⟩
 | .lst _,_,h=>by obtain ⟨a,h1,h2,vs,n,h3,h4,h5⟩:=h; exact ⟨a,h1,g.fr h3 h2,vs,n,g.kp h3 h2 eG,h4,VReps.mono g h5⟩
 | .dct _ _,_,h=>by obtain ⟨a,h1,h2,o,ss,ws,h3,h4,h5,h6,h7⟩:=h; exact ⟨a,h1,g.fr h3 h2,o,ss,ws,g.kp h3 h2 h6.pln,h4,h5,h6,VReps.mono g h7⟩
 | .sett _,_,h=>by obtain ⟨a,h1,h2,o,h3,h4⟩:=h; exact ⟨a,h1,g.fr h3 h2,o,g.kp h3 h2 h4.pln,h4⟩
 | .exc _,_,h=>by obtain ⟨a,h1,h2,o,h3,h4⟩:=h; obtain ⟨o',q1,q2,q3⟩:=g.ex h3 h2 h4.exo; exact ⟨a,h1,g.fr h3 h2,o',q1,h4.same q2 q3⟩
 | .obj _ _,_,h=>by obtain ⟨a,h1,h2,o,d,h3,h4,h5⟩:=h; exact ⟨a,h1,g.fr h3 h2,o,d,g.kp h3 h2 h5.pln,g.lab h4,h5⟩
 | .cel _,_,h=>by obtain ⟨a,h1,h2⟩:=h; exact ⟨a,h1,g.lab h2⟩
 | .pl _,_,h=>h.elim
theorem VReps.mono (g:Grow W W'):∀ {l:List AV} {vs:List Value},VReps C W l vs->VReps C W' l vs
 | [],_,h=>h
 | _::_,_,h=>by obtain ⟨v,vs',h1,h2,h3⟩:=h; exact ⟨v,vs',h1,VRep.mono g h2,VReps.mono g h3⟩
end
set_option tactic.hygienic false
theorem CRep.mono {h h':Heap} {a:Addr} {c:AV} (g:Grow W W') (k:∀ o,Pln o->h.get? a=some o->h'.get? a=some o) (x:CRep C W h a c):CRep C W' h' a c:=by
 cases c <;> first | exact x.elim | skip
 ·obtain ⟨vs,n,h1,h2,h3⟩:=x; exact ⟨vs,n,k _ eF h1,h2,h3.mono g⟩
 ·obtain ⟨vs,n,h1,h2,h3⟩:=x; exact ⟨vs,n,k _ eG h1,h2,h3.mono g⟩
 ·obtain ⟨o,ss,ws,h1,h2,h3,h4,h5⟩:=x; exact ⟨o,ss,ws,k _ h4.pln h1,h2,h3,h4,h5.mono g⟩
 ·obtain ⟨o,h1,h2⟩:=x; exact ⟨o,k _ h2.pln h1,h2⟩
theorem CRep.obj {h:Heap} {a:Addr} {c:AV} (x:CRep C W h a c):∃ o,h.get? a=some o/\Pln o:=by
 cases c <;> first | exact x.elim | skip
 ·obtain ⟨vs,n,h1,h2,h3⟩:=x; exact ⟨_,h1,eF⟩
 ·obtain ⟨vs,n,h1,h2,h3⟩:=x; exact ⟨_,h1,eG⟩
 ·obtain ⟨o,ss,ws,h1,h2,h3,h4,h5⟩:=x; exact ⟨o,h1,h4.pln⟩
 ·obtain ⟨o,h1,h2⟩:=x; exact ⟨o,h1,h2.pln⟩
theorem CRep.val {a:Addr} {c:AV} (x:CRep C W W.h a c) (f:W.free a):VRep C W c (.ref a):=by
 cases c <;> first | exact x.elim | exact ⟨a,rfl,f,x⟩
end
structure Ext (mu:Addr->Prop) (W W':Wd):Prop where
 dom:∀ {b:Addr} {o:Obj},W.h.get? b=some o->∃ o',W'.h.get? b=some o'
 labs:∃ r,W'.labs=W.labs++r/\∀ a ∈ r,W.mine a
 own:∀ {k:Option Str} {a:Addr},W'.own k=some a->W.mine a
 tmp:∀ {b:Addr} {o:Obj},W.h.get? b=some o->W.oth b->(W'.tmp b ↔ W.tmp b)
 fr:∀ {b:Addr} {o:Obj},W.h.get? b=some o->(W'.fr b ↔ W.fr b)
 keep:∀ {b:Addr} {o:Obj},W.h.get? b=some o->W.oth b->¬ W.fr b->Pln o->W'.h.get? b=some o
 exo:∀ {b:Addr} {o:Obj},W.h.get? b=some o->W.oth b->¬ W.fr b->Exo o->∃ o',W'.h.get? b=some o'/\Exo o'/\o'.cls=o.cls
 fc:∀ {b:Addr} {o:Obj},W.h.get? b=some o->W.fr b->¬ mu b->∃ o',W'.h.get? b=some o'/\o'.data=o.data
section
variable {mu mu':Addr->Prop} {W W' W'':Wd}
theorem aD {α:Type} {o:Option α} {a:α} (h1:o=some a) (h2:o=none):False:=by rw [h1] at h2; exact cC zAr h2 rfl
theorem oth_not {b:Addr} {o:Obj} (h:W.oth b) (e:W.h.get? b=some o):¬ W.mine b
 | .new q=>aD e q
 | .own q=>h.own _ q
theorem Ext.oth (x:Ext mu W W') {b:Addr} {o:Obj} (e:W.h.get? b=some o) (h:W.oth b):W'.oth b where
 lab:=fun q=>by
  obtain ⟨r,h1,h2⟩:=x.labs
  rw [h1] at q
  exact (zA8.mp q).elim h.lab fun z=>oth_not h e (h2 b z)
 own:=fun k q=>oth_not h e (x.own q)
theorem Ext.mine (x:Ext mu W W') {a:Addr} (h:W'.mine a):W.mine a:=by
 cases h with
 | own q=>exact x.own q
 | new q =>
  cases e:W.h.get? a with
  | none=>exact .new e
  | some o=>exact (x.dom e).elim fun _ z=>(aD z q).elim
theorem Ext.refl:Ext mu W W where
 dom:=fun e=>⟨_,e⟩
 labs:=⟨[],(zAt _).symm,fun _ q=>nomatch q⟩
 own:=.own
 tmp:=fun _ _=>.rfl
 fr:=fun _=>.rfl
 keep:=fun e _ _ _=>e
 exo:=fun e _ _ h=>⟨_,e,h,rfl⟩
 fc:=fun e _ _=>⟨_,e,rfl⟩
theorem Ext.trans (x:Ext mu W W') (y:Ext mu W' W''):Ext mu W W'' where
 dom:=fun e=>(x.dom e).elim fun _ q=>y.dom q
 labs:=by
  obtain ⟨r,h1,h2⟩:=x.labs
  obtain ⟨r',h3,h4⟩:=y.labs
  exact ⟨r++r',by rw [h3,h1,zAm],fun a q=>(zA8.mp q).elim (h2 a) fun z=>x.mine (h4 a z)⟩
 own:=fun q=>x.mine (y.own q)
 tmp:=fun e h=>(x.dom e).elim fun _ q=>(y.tmp q (x.oth e h)).trans (x.tmp e h)
 fr:=fun e=>(x.dom e).elim fun _ q=>(y.fr q).trans (x.fr e)
 keep:=fun e h f p=>y.keep (x.keep e h f p) (x.oth e h) (fun q=>f ((x.fr e).mp q)) p
 exo:=fun e h f p=>by
  obtain ⟨o',h1,h2,h3⟩:=x.exo e h f p
  obtain ⟨o'',h4,h5,h6⟩:=y.exo h1 (x.oth e h) (fun q=>f ((x.fr e).mp q)) h2
  exact ⟨o'',h4,h5,h6.trans h3⟩
 fc:=fun e h m=>by
  obtain ⟨o',h1,h2⟩:=x.fc e h m
  obtain ⟨o'',h4,h5⟩:=y.fc h1 ((x.fr e).mpr h) m
  exact ⟨o'',h4,h5.trans h2⟩
theorem Ext.weak (x:Ext mu W W') (h:∀ b,mu b->mu' b):Ext mu' W W':=⟨x.dom,x.labs,x.own,x.tmp,x.fr,x.keep,x.exo,fun e q m=>x.fc e q fun z=>m (h _ z)⟩
theorem Ext.free (x:Ext mu W W') {b:Addr} {o:Obj} (e:W.h.get? b=some o) (h:W.free b):W'.free b:=⟨x.oth e h.oth,fun q=>h.tmp ((x.tmp e h.oth).mp q),fun q=>h.fr ((x.fr e).mp q)⟩
theorem Ext.lab (x:Ext mu W W') {n:Nat} {a:Addr} (e:W.labs[n]?=some a):W'.labs[n]?=some a:=by
 obtain ⟨r,h1,_⟩:=x.labs
 rw [h1,zB8 (zA3.mp e).1]; exact e
theorem Ext.grow (x:Ext mu W W'):Grow W W':=⟨x.lab,fun e h p=>x.keep e h.oth h.fr p,x.free,fun e h p=>x.exo e h.oth h.fr p⟩
end
inductive F2 {α β:Type} (R:α->β->Prop):List α->List β->Prop
 | nil:F2 R [] []
 | cons {a:α} {b:β} {l:List α} {m:List β} (h:R a b) (t:F2 R l m):F2 R (a::l) (b::m)
noncomputable abbrev Ge (h h':Heap):Prop:=∀ b o,h.get? b=some o->h'.get? b=some o
inductive RP (C:Cx) (W:Wd) (c:AV) (v:Value):Prop
 | val (r:VRep C W c v)
 | con {ad:Addr} (e:v=.ref ad) (r:CRep C W W.h ad c)
inductive Made (C:Cx) (W:Wd) (c:AV):Value->Shared->Prop
 | val {h:Heap} {tk:Nat} {v:Value} (g:Ge W.h h) (k:fP c=false) (r:VRep C (W.to h tk) c v):Made C W c v { W.s with heap:=h,toks:=tk }
 | new {h:Heap} {tk:Nat} {ad:Addr} (g:Ge W.h h) (n:W.h.get? ad=none) (r:CRep C W h ad c):Made C W c (.ref ad) { W.s with heap:=h,toks:=tk }
noncomputable def cS (C:Cx) (b:BiE):Prop:=∀ (A:Around) (W:Wd) (k:Bool) (t:Tok) (cs:List AV) (vs:List Value) (c:AV) (E:Value->Shared->Prop),(k=true ∨ b.free=true->A.handled=none)->A.units<=8000->1 < W.h.objs.size->F2 (RP C W) cs vs->b.den k cs=some c->wpAny C.M A (call b.val vs (if k then [(("default":Str),.int 0 t)] else [])) (Made C W c) E W.s
structure FnOk (h:Heap) (fn:Fn) (a:Addr) (o:Obj) (fd:FuncData):Prop where
 obj:h.get? a=some o
 dat:o.data=.func fd
 body:fd.body=.stmts fn.body
 names:fd.scope.names=fn.names
 kind:fd.scope.kind=.function
 co:fd.scope.isCoroutine=false
 gen:fd.scope.isGenerator=false
 clo:fd.closure=[]
 glob:fd.globals=mainGlobals
 blt:fd.builtins=builtinsNs
 code:h.CodeRec fd.code fd.qualname
 bind:∀ vals:List Value,vals.length=fn.params.length->bindArgs fd ⟨vals,[]⟩=pure (fn.params.zip vals)
structure FnWr (fn:Fn):Prop where
 nodup:fn.params.Nodup
 par:∀ x ∈ fn.params,fn.names.lookup x=some .local ∨ fn.names.lookup x=some .cell
 nofree:∀ x,fn.names.lookup x ≠ some .free
inductive XOwn (C:Cx) (h:Heap) (c:Str):Prop
 | mk (a:Addr) (bm:List Value) (newId initId B:String) (hca:C.clsA c=some a) (hO:PyProof.Rows.OwnCls c a bm newId C.mg h) (hB:ExcBaseFacts B newId initId bm)
structure XcOk (C:Cx) (h:Heap):Prop where
 own:∀ c,C.P.isX c=true->XOwn C h c
 mat:∀ c d a b,C.P.isX c=true->C.P.isX d=true->C.clsA c=some a->C.clsA d=some b->∀ (e:Addr) (oe:Obj) (A:Around) (Q:Bool->Shared->Prop) (E:Value->Shared->Prop) (s:Shared),s.heap=h->h.get? e=some oe->oe.cls=.ref a ->
  Q (C.P.sub c d) s->wpAny C.M A (excMatches (.ref e) (.ref b)) Q E s
 isv:∀ c a,C.P.isX c=true->C.clsA c=some a->∀ (e:Addr) (oe:Obj) (A:Around) (Q:Value->Shared->Prop) (E:Value->Shared->Prop) (s:Shared),s.heap=h->h.get? e=some oe->oe.cls=.ref a ->
  (∀ tk,Q (.bool true) { s with toks:=tk })->wpAny C.M A (call (.builtin "isinstance") [.ref e,.type "ValueError"]) Q E s
inductive ClsOk (C:Cx) (h:Heap) (c:Str):Prop
 | mk (a N:Addr) (nm q:Str) (bs:List Value) (sn:List Str) (sub:List Value) (col:Option Bool) (dd:Option Addr) (k0 k1 k2 k3 k5:Option Value) (mN:Str->Option Value) (z1:C.clsA c=some a) (z2:C.mg c=some (.ref a)) (hC:h.get? a=some (excClassObj nm q a N bs [.type "object"] true sn sub false col dd k0 k1 k2 k3 k5 "object.__new__")) (hN:h.Ns N mN)
  (hf:∀ f ∈ C.P.flds,mN f=none) (hg:mN "__getattribute__"=none/\mN "__getattr__"=none/\mN "__setattr__"=none)
  (hm:∀ m fn,C.P.find c m=some fn->∃ fa o,C.fnA c m=some fa/\mN m=some (.ref fa)/\h.get? fa=some o/\o.cls=.type "function")
structure StatH (C:Cx) (h:Heap):Prop where
 xc:XcOk C h
 cl:∀ c,C.P.isCls c=true->ClsOk C h c
 nolimit:h.NoLimit
 fn:∀ c f fn,C.P.find c f=some fn->∃ a,C.fnA c f=some a/\FnOk h fn a (C.fnO a) (C.fnD a)
 ns:h.Ns mainGlobals C.mg
 nb:h.Ns builtinsNs C.mb
noncomputable def stdNames:List (Str × Value):=[("range",.type "range"),("zip",.type "zip"),("enumerate",.type "enumerate"),("isinstance",.builtin "isinstance"),("tuple",.type "tuple"),("int",.type "int"),("bool",.type "bool"),("str",.type "str"),("list",.type "list"),("dict",.type "dict"),("ValueError",.type "ValueError")]
structure CxOk (C:Cx):Prop where
 st:∀ h:Heap,Ge C.s0.heap h->StatH C h
 wr:∀ c f fn,C.P.find c f=some fn->FnWr fn
 fnG:∀ f fn,C.P.find ⟨#[]⟩ f=some fn->∃ a,C.fnA ⟨#[]⟩ f=some a/\C.mg f=some (.ref a)
 const:∀ x i,C.P.consts.lookup x=some i->∃ t,C.mg x=some (.int i t)
 bi:∀ id b,aR id C.P.bi=some b->fU (bV C.P id)=true->C.mg id=none/\C.mb id=some b.val
 bis:∀ p ∈ C.P.bi,(∀ a,p.2.val ≠ .ref a)/\cS C p.2
 std:∀ id v,stdNames.lookup id=some v->fU (bV C.P id)=true->C.mg id=none/\C.mb id=some v
 fld:∀ f ∈ C.P.flds,typeLookup (.type "object") f=(Pure.pure none:Sem (Option Value))
 mth:∀ f ∈ C.P.mths,typeLookup (.type "object") f=(Pure.pure none:Sem (Option Value))/\f ∉ C.P.flds
structure Loose (C:Cx) (W:Wd) (b:Addr):Prop where
 st:C.s0.heap.get? b=none
 fr:W.free b
structure ExO (z:Bool) (C:Cx) (h:Heap) (c:Str) (e:Addr) (oe:Obj) (vs:Array Value):Prop where
 obj:h.get? e=some oe
 is:ExcO C c oe
 dat:oe.data=.fields vs
 ctx:z=true->vs[2]?=some .none
structure TbO (h:Heap) (e T:Addr) (vs:Array Value) (oT:Obj) (ts:Array Value) (fl:Value):Prop where
 at1:vs[1]?=some (.ref T)
 ne:T ≠ e
 obj:h.get? T=some oT
 exo:Exo oT
 dat:oT.data=.fields ts
 fl:ts[3]?=some fl
inductive IsTraced (z:Bool) (C:Cx) (W:Wd) (c:Str):Value->Prop
 | mk {e T:Addr} {oe oT:Obj} {vs ts:Array Value} {fl:Value} (l:Loose C W e) (lT:Loose C W T) (x:ExO z C W.h c e oe vs) (t:TbO W.h e T vs oT ts fl):IsTraced z C W c (.ref e)
inductive IsTrace (z:Bool) (C:Cx) (W:Wd) (c:Str):Value->Prop
 | no {e:Addr} {oe:Obj} {vs:Array Value} (l:Loose C W e) (x:ExO z C W.h c e oe vs) (h:vs[1]?=some .none):IsTrace z C W c (.ref e)
 | yes {v:Value} (t:IsTraced z C W c v):IsTrace z C W c v
inductive FRep (C:Cx) (W:Wd) (l:List (Str × AV)) (m:Str->Option Value):Prop
 | mk (non:∀ f,gw f l=none->m f=none) (val:∀ f av,gw f l=some av->∃ v,m f=some v/\VRep C W av v) (mem:∀ f av,gw f l=some av->f ∈ C.P.flds)
noncomputable def ORep (C:Cx) (W:Wd) (a:Addr):AO->Prop
 | .cont c=>CRep C W W.h a c
 | .flds l=>∃ m,W.h.Ns1 a m/\FRep C W l m
noncomputable def LRep (C:Cx) (W:Wd) (x:Str):LV->Value->Prop
 | .val a,v=>VRep C W a v
 | .own c,v=>∃ a,v=.ref a/\W.own (some x)=some a/\CRep C W W.h a c
structure InvC (C:Cx) (frs:List Env) (W:Wd) (st:St):Prop where
 sh:∃ h tk,W.s={ C.s0 with heap:=h,toks:=tk }
 stat:Ge C.s0.heap W.h
 lo:∀ b,¬ W.free b->C.s0.heap.get? b=none/\∃ o,W.h.get? b=some o
 nd:W.labs.Nodup
 ol:∀ k b,W.own k=some b->b ∉ W.labs/\¬ W.tmp b
 oi:∀ k k' b,W.own k=some b->W.own k'=some b->k=k'
 tl:∀ b,W.tmp b->b ∉ W.labs
 fl:∀ b,W.fr b->W.oth b/\¬ W.tmp b/\∀ o vs,W.h.get? b=some o->o.data ≠ .fields vs
 frs:∀ e ∈ frs,e.scope.kind ≠ .module/\∃ L,e.frame=some L/\W.fr L
 len:st.length=W.labs.length
 objs:∀ (n:Nat) (o:AO),st[n]?=some o->∃ a,W.labs[n]?=some a/\ORep C W a o
inductive RetP (z:Bool) (C:Cx) (frs:List Env) (W:Wd) (r:Ret):Result->Shared->Prop
 | ok {a:AV} {st:St} {v:Value} {W':Wd} (e:r=.ok a st) (x:Ext (fun _=>False) W W') (i:InvC C frs W' st) (o:∀ k,W'.own k=none) (q:VRep C W' a v):RetP z C frs W r (.ok (.ret v)) W'.s
 | exc {c:Str} {st:St} {v:Value} {W':Wd} (e:r=.exc c st) (x:Ext (fun _=>False) W W') (i:InvC C frs W' st) (o:∀ k,W'.own k=none) (t:IsTraced z C W' c v):RetP z C frs W r (.error v) W'.s
noncomputable def Room (A:Around) (n:Nat):Prop:=A.depth+n<=900/\A.units+4 * n<=7900
noncomputable def ju (C:Cx) (n:Nat) (call:Str->Str->List AV->St->Ret):Prop :=
 ∀ (c f:Str) (vs:List AV) (st:St),call c f vs st ≠ .stuck->∀ (A:Around) (frs:List Env) (W:Wd) (args:List Value) (fa:Addr),
  InvC C frs W st->(∀ k,W.own k=none)->VReps C W vs args->C.fnA c f=some fa->A.handled=none->A.frames=some frs->Room A n ->
  codeAny C.M A (.call (.ref fa) ⟨args,[]⟩) (RetP true C frs W (call c f vs st)) W.s
structure Fx where
 C:Cx
 T:Ctx
 A:Around
 env:Env
 frs:List Env
 fn:Bool
 nms:Sc
 n:Nat
structure Fx.Ok (X:Fx):Prop where
 cx:CxOk X.C
 P:X.T.P=X.C.P
 call:X.T.free=true->ju X.C X.n X.T.call
 make:X.T.free=true->∃ K,ju X.C (X.n - 4) (aw X.C.P K (X.n - 4))/\X.T.make=fun c vs st=>ni st.length c (aw X.C.P K (X.n - 4) c "__init__" (.obj c st.length::vs) (st++[.flds []]))
 hd:X.T.free=true->X.A.handled=none
 frames:X.A.frames=some X.frs
 kind:X.env.scope.kind=.function
 loc:∀ x,X.nms.lookup x=some .local->X.env.kindOf x=some .local
 cel:∀ x,(X.nms.lookup x=some .cell ∨ X.nms.lookup x=some .free)->(X.env.kindOf x=some .cell ∨ X.env.kindOf x=some .free)/\∃ c,X.env.cells.lookup x=some c
 glob:∀ x,X.nms.lookup x=some .globalImplicit->X.env.kindOf x=some .globalImplicit
 fcell:X.fn=true->∀ x,X.nms.lookup x=some .cell->X.env.kindOf x=some .cell
 inj:∀ x y c,X.env.cells.lookup x=some c->X.env.cells.lookup y=some c->x=y
 cl:∀ x c,X.env.cells.lookup x=some c->c ≠ X.env.locals
 room:Room X.A X.n
 globals:X.env.globals=mainGlobals
 builtins:X.env.builtins=builtinsNs
 frm:∃ e r,X.frs=e::r/\e.frame=X.env.frame
noncomputable def Fx.mu (X:Fx) (b:Addr):Prop:=b=X.env.locals ∨ (X.fn=true/\∃ x,X.env.cells.lookup x=some b)
inductive Fx.Val (X:Fx) (h:Heap) (x:Str) (v:Value):Prop
 | loc {m:Str->Option Value} (k:X.env.kindOf x=some .local) (n:h.Ns X.env.locals m) (e:m x=some v)
 | cell {c:Addr} (k:X.env.kindOf x=some .cell ∨ X.env.kindOf x=some .free) (l:X.env.cells.lookup x=some c) (e:h.IsCell c (some v))
structure InvF (X:Fx) (loc:bF) (W:Wd):Prop where
 lc:W.fr X.env.locals
 ns:∃ m,W.h.Ns X.env.locals m
 cells:∀ x c,X.env.cells.lookup x=some c->W.fr c/\∃ v,W.h.IsCell c v
 vars:∀ x lv,fH X.nms x=true->aq (aV x X.nms) loc=some lv->∃ v,X.Val W.h x v/\LRep X.C W x lv v
structure Inv (X:Fx) (S:S) (W:Wd):Prop where
 c:InvC X.C X.frs W S.st
 f:InvF X S.loc W
noncomputable abbrev EX (X:Fx) (ev:Bool) (W W':Wd):Prop:=Ext (fun b=>ev=false/\X.mu b) W W'
structure Good (X:Fx) (ev:Bool) (W:Wd) (S:S) (W':Wd):Prop where
 ext:EX X ev W W'
 inv:Inv X S W'
inductive OkP {α β:Type} (X:Fx) (ev:Bool) (R:Wd->β->α->Prop) (W:Wd) (o:Out β) (a:α):Shared->Prop
 | mk {b:β} {S:S} {W':Wd} (e:o=.ok b S) (g:Good X ev W S W') (r:R W' b a):OkP X ev R W o a W'.s
inductive ErP {β:Type} (X:Fx) (ev:Bool) (W:Wd) (o:Out β) (v:Value):Shared->Prop
 | mk {c:Str} {S:S} {W':Wd} (e:o=.exc c S) (g:Good X ev W S W') (t:IsTrace X.A.handled.isNone X.C W' c v):ErP X ev W o v W'.s
noncomputable def Snd {α β:Type} (X:Fx) (ev:Bool) (R:Wd->β->α->Prop) (m:Sem α) (o:Out β) (W:Wd):Prop :=
 o ≠ .stuck->wpAny X.C.M X.A m (OkP X ev R W o) (ErP X ev W o) W.s
noncomputable abbrev RV (X:Fx):Wd->AV->Value->Prop:=fun W a v=>VRep X.C W a v
section
variable {X:Fx} {ev:Bool} {α β γ δ:Type} {R:Wd->β->α->Prop} {R':Wd->δ->γ->Prop} {W W' W'':Wd} {S S':Mine.S}
theorem Good.refl (I:Inv X S W):Good X ev W S W:=⟨.refl,I⟩
theorem Good.trans (a:Good X ev W S W') (b:Good X ev W' S' W''):Good X ev W S' W'':=⟨a.ext.trans b.ext,b.inv⟩
theorem Good.weak (a:Good X ev W S W'):Good X false W S W':=⟨a.ext.weak fun _ q=>⟨rfl,q.2⟩,a.inv⟩
theorem OkP.pre {o:Out β} {a:α} {s:Shared} (g:Good X ev W S W') (x:OkP X ev R W' o a s):OkP X ev R W o a s:=by cases x with | mk e g' r=>exact .mk e (g.trans g') r
theorem ErP.pre {o:Out β} {v:Value} {s:Shared} (g:Good X ev W S W') (x:ErP X ev W' o v s):ErP X ev W o v s:=by cases x with | mk e g' r=>exact .mk e (g.trans g') r
theorem Snd.stk {m:Sem α}:Snd X ev R m .stuck W:=fun h=>absurd rfl h
theorem Snd.pure {a:α} {b:β} (I:Inv X S W) (h:R W b a):Snd X ev R (Pure.pure a) (.ok b S) W:=fun _=>zAh (.mk rfl (.refl I) h)
theorem Snd.bind {m:Sem α} {k:α->Sem γ} {o:Out β} {f:β->D δ} (h1:Snd X ev R m o W) (h2:∀ b a S' W',o=.ok b S'->Good X ev W S' W'->R W' b a->Snd X ev R' (k a) (f b S') W'):Snd X ev R' (m >>= k) (ax o f) W:=fun hne=>by
 have h0:o ≠ .stuck:=fun q=>hne (by rw [q]; rfl)
 refine zAa (zAs (h1 h0) (fun a s' q=>?_) fun e s' q=>?_)
 ·cases q with
  | mk e g r =>
   have:=h2 _ a _ _ e g r
   subst e
   exact zAs (this hne) (fun _ _ q=>q.pre g) fun _ _ q=>q.pre g
 ·cases q with
  | mk e g t=>subst e; exact .mk rfl g t
theorem Snd.step {m:Sem α} {k:α->Sem γ} {o:Out δ} (h:∀ E,wpAny X.C.M X.A m (fun a s'=>∃ W',W'.s=s'/\Good X ev W S W'/\Snd X ev R' (k a) o W') E W.s):Snd X ev R' (m >>= k) o W:=fun hne =>
 zAa (zAs (h _) (fun a s' q=>q.elim fun W' z=>by
  obtain ⟨rfl,g,h⟩:=z
  exact zAs (h hne) (fun _ _ q=>q.pre g) fun _ _ q=>q.pre g) fun _ _ q=>q)
theorem Snd.skip {m:Sem α} {k:α->Sem γ} {o:Out δ} {a:α} (h:∀ Q E,Q a W.s->wpAny X.C.M X.A m Q E W.s) (h':Snd X ev R' (k a) o W):Snd X ev R' (m >>= k) o W:=fun hne=>zAa (h _ _ (h' hne))
theorem Snd.stand {pos:Pos} {k:Unit->Sem γ} {o:Out δ} (h:Snd X ev R' (k ()) o W):Snd X ev R' (standAt pos >>= k) o W:=.skip (fun _ _ q=>zCr q) h
theorem Snd.wp {m m':Sem α} {o:Out β} (h:Snd X ev R m o W) (k:∀ Q E,wpAny X.C.M X.A m Q E W.s->wpAny X.C.M X.A m' Q E W.s):Snd X ev R m' o W:=fun hne=>k _ _ (h hne)
theorem Snd.holding {m:Sem α} {vs:List Value} {o:Out β} (h:Snd X ev R m o W):Snd X ev R (holding vs m) o W:=h.wp fun _ _=>zA2
theorem Snd.opt {m:Sem α} {o:Option β} (h:∀ b,o=some b->wpAny X.C.M X.A m (OkP X ev R W (.ok b S)) (fun _ _=>False) W.s):Snd X ev R m (opt o S) W:=by
 cases o with
 | none=>exact .stk
 | some b=>exact fun _=>zAs (h b rfl) (fun _ _ q=>q) fun _ _ q=>q.elim
theorem Snd.mono {m:Sem α} {o:Out β} {RC:Wd->β->α->Prop} (h:Snd X ev R m o W) (k:∀ W' b a,R W' b a->RC W' b a):Snd X ev RC m o W:=fun hne=>zAs (h hne) (fun _ _ q=>by cases q with | mk e g r=>exact .mk e g (k _ _ _ r)) fun _ _ q=>q
theorem Snd.weak {m:Sem α} {o:Out β} (h:Snd X ev R m o W):Snd X false R m o W:=fun hne =>
 zAs (h hne) (fun _ _ q=>by cases q with | mk e g r=>exact .mk e g.weak r) fun _ _ q=>by cases q with | mk e g r=>exact .mk e g.weak r
theorem Snd.of_eq {m:Sem α} {o o':Out β} (h:Snd X ev R m o W) (e:o'=o):Snd X ev R m o' W:=by subst e; exact h
theorem VRep.le {C:Cx} {mu:Addr->Prop} {a:AV} {v:Value} (h:VRep C W a v) (x:Ext mu W W'):VRep C W' a v:=h.mono x.grow
theorem VReps.le {C:Cx} {mu:Addr->Prop} {a:List AV} {v:List Value} (h:VReps C W a v) (x:Ext mu W W'):VReps C W' a v:=h.mono x.grow
end
end Mine
end
section
set_option autoImplicit false
set_option linter.unusedVariables false
namespace Mine
open PySem
structure Sim (C:Cx) (W:Wd) (ex:Addr->Prop) (h':Heap):Prop where
 dom:∀ {b:Addr} {o:Obj},W.h.get? b=some o->∃ o',h'.get? b=some o'
 kp:∀ {b:Addr} {o:Obj},W.h.get? b=some o->¬ ex b->(C.s0.heap.get? b=none->Pln o/\¬ W.fr b)->h'.get? b=some o
 exo:∀ {b:Addr} {o:Obj},W.h.get? b=some o->Exo o->∃ o',h'.get? b=some o'/\Exo o'/\o'.cls=o.cls
 fc:∀ {b:Addr} {o:Obj},W.h.get? b=some o->W.fr b->∃ o',h'.get? b=some o'/\o'.data=o.data
theorem Ge.sim {C:Cx} {W:Wd} {h':Heap} (g:Ge W.h h'):Sim C W (fun _=>False) h':=⟨fun e=>⟨_,g _ _ e⟩,fun e _ _=>g _ _ e,fun e x=>⟨_,g _ _ e,x,rfl⟩,fun e _=>⟨_,g _ _ e,rfl⟩⟩
theorem Ge.refl {h:Heap}:Ge h h:=fun _ _ e=>e
theorem Ge.push {h:Heap} {o:Obj}:Ge h (h.push o):=fun _ _ e=>zAg _ e
theorem get?_size {h:Heap}:h.get? h.objs.size=none:=by
 cases e:h.get? h.objs.size with
 | none=>rfl
 | some o=>exact absurd (zAz e) (Nat.lt_irrefl _)
section
variable {C:Cx} {X:Fx} {frs:List Env} {mu:Addr->Prop} {ev:Bool} {ex:Addr->Prop} {W W' W₀:Wd} {st:St} {S:S} {loc:bF} {h':Heap} {tk:Nat}
theorem Sim.grow (m:Sim C W ex h') (hex:∀ b,ex b->W.tmp b):Grow W (W.to h' tk) :=
 ⟨id,fun e f p=>m.kp e (fun q=>f.tmp (hex _ q)) fun _=>⟨p,f.fr⟩,fun _ f=>f,fun e _ x=>m.exo e x⟩
theorem Ext.sim (x:Ext mu W₀ W) (m:Sim C W ex h') (hex:∀ b,ex b->W₀.h.get? b=none):Ext mu W₀ (W.to h' tk) where
 dom:=fun e=>(x.dom e).elim fun _ q=>m.dom q
 labs:=x.labs
 own:=x.own
 tmp:=x.tmp
 fr:=x.fr
 keep:=fun e h f p=>m.kp (x.keep e h f p) (fun q=>aD e (hex _ q)) fun _=>⟨p,fun q=>f ((x.fr e).mp q)⟩
 exo:=fun e h f p=>by
  obtain ⟨o',h1,h2,h3⟩:=x.exo e h f p
  obtain ⟨o'',h4,h5,h6⟩:=m.exo h1 h2
  exact ⟨o'',h4,h5,h6.trans h3⟩
 fc:=fun e h p=>by
  obtain ⟨o',h1,h2⟩:=x.fc e h p
  obtain ⟨o'',h4,h5⟩:=m.fc h1 ((x.fr e).mpr h)
  exact ⟨o'',h4,h5.trans h2⟩
theorem FRep.mono {l:List (Str × AV)} {m:Str->Option Value} (g:Grow W W') (x:FRep C W l m):FRep C W' l m:=by
 cases x with | mk h1 h2 h3=>exact ⟨h1,fun f av e=>(h2 f av e).imp fun _ q=>⟨q.1,q.2.mono g⟩,h3⟩
theorem ORep.mono {a:Addr} {o:AO} (g:Grow W W') (k:∀ o,Pln o->W.h.get? a=some o->W'.h.get? a=some o) (x:ORep C W a o):ORep C W' a o:=by
 cases o with
 | cont c=>exact CRep.mono g k x
 | flds l=>exact x.imp fun m q=>⟨by
   obtain ⟨o,es,ep,h1,h2,h3⟩:=q.1
   exact ⟨o,es,ep,k o (fun z=>z.dat.elim fun _ z=>by rw [h2] at z; exact cC Data.ctorIdx z rfl) h1,h2,h3⟩,q.2.mono g⟩
theorem LRep.mono {x:Str} {lv:LV} {v:Value} (g:Grow W W') (ho:∀ a,W.own (some x)=some a->W'.own (some x)=some a/\∀ o,Pln o->W.h.get? a=some o->W'.h.get? a=some o) (r:LRep C W x lv v):LRep C W' x lv v:=by
 cases lv with
 | val a=>exact VRep.mono g r
 | own c =>
  obtain ⟨a,h1,h2,h3⟩:=r
  exact ⟨a,h1,(ho a h2).1,h3.mono g (ho a h2).2⟩
theorem InvC.mus (I:InvC C frs W st) {b:Addr} (h:¬ W.free b):∃ o,W.h.get? b=some o:=(I.lo b h).2
theorem nf_lab {b:Addr} (h:b ∈ W.labs):¬ W.free b:=fun q=>q.oth.lab h
theorem fV {k:Option Str} {b:Addr} (h:W.own k=some b):¬ W.free b:=fun q=>q.oth.own k h
theorem gp {b:Addr} (h:W.tmp b):¬ W.free b:=fun q=>q.tmp h
theorem b7 {b:Addr} (h:W.fr b):¬ W.free b:=fun q=>q.fr h
theorem b0 {l:List Addr} {n:Nat} {a:Addr} (h:l[n]?=some a):a ∈ l:=zBq h
theorem InvC.sim (I:InvC C frs W st) (m:Sim C W ex h') (hex:∀ b,ex b->W.tmp b):InvC C frs (W.to h' tk) st where
 sh:=I.sh.elim fun h q=>q.elim fun t e=>⟨h',tk,by show ({ W.s with heap:=h',toks:=tk }:Shared)=_; rw [e]⟩
 stat:=fun b o e=>m.kp (I.stat b o e) (fun q=>aD e (I.lo b (gp (hex b q))).1) fun q=>(aD e q).elim
 lo:=fun b h=>⟨(I.lo b h).1,(I.lo b h).2.elim fun _ q=>m.dom q⟩
 nd:=I.nd
 ol:=I.ol
 oi:=I.oi
 tl:=I.tl
 fl:=fun b q=>⟨(I.fl b q).1,(I.fl b q).2.1,fun o vs e z=>by
  obtain ⟨o',h1⟩:=I.mus (b7 q)
  obtain ⟨o'',h2,h3⟩:=m.fc h1 q
  rw [h2] at e; cases e
  exact (I.fl b q).2.2 o' vs h1 (h3.symm.trans z)⟩
 frs:=I.frs
 len:=I.len
 objs:=fun n o e=>(I.objs n o e).imp fun a q=>⟨q.1,q.2.mono (m.grow hex) fun o p e=>m.kp e (fun z=>I.tl _ (hex _ z) (b0 q.1)) fun _=>⟨p,fun z=>(I.fl _ z).1.lab (b0 q.1)⟩⟩
theorem kC {h h':Heap} {a:Addr} {m:Str->Option Value} (x:h.Ns a m) (k:∀ o,h.get? a=some o->∃ o',h'.get? a=some o'/\o'.data=o.data):h'.Ns a m:=by
 obtain ⟨o,es,ep,h1,h2,h3⟩:=x
 obtain ⟨o',h4,h5⟩:=k o h1
 exact ⟨o',es,ep,h4,h5.trans h2,h3⟩
theorem IsCell.same {h h':Heap} {a:Addr} {v:Option Value} (x:h.IsCell a v) (k:∀ o,h.get? a=some o->∃ o',h'.get? a=some o'/\o'.data=o.data):h'.IsCell a v:=by
 obtain ⟨o,h1,h2⟩:=x
 obtain ⟨o',h4,h5⟩:=k o h1
 exact ⟨o',h4,h5.trans h2⟩
noncomputable def dP (W:Wd) (h':Heap) (b:Addr):Prop:=∀ o,W.h.get? b=some o->∃ o',h'.get? b=some o'/\o'.data=o.data
theorem Fx.Val.same {x:Str} {v:Value} (r:X.Val W.h x v) (kl:dP W h' X.env.locals) (kc:∀ y c,X.env.cells.lookup y=some c->dP W h' c):X.Val h' x v:=by
 cases r with
 | loc k n e=>exact .loc k (kC n kl) e
 | cell k l e=>exact .cell k l (IsCell.same e (kc _ _ l))
theorem Fx.Val.inj {h:Heap} {x:Str} {v v':Value} (a:X.Val h x v) (b:X.Val h x v'):v=v':=by
 cases a with
 | loc k n e=>cases b with
  | loc k' n' e' =>
   obtain ⟨o,es,ep,h1,h2,_,h4⟩:=n
   obtain ⟨o',es',ep',q1,q2,_,q4⟩:=n'
   rw [h1] at q1; cases q1
   rw [h2] at q2; cases q2
   exact Option.some.inj (e.symm.trans ((h4 x).symm.trans ((q4 x).trans e')))
  | cell k' l e'=>rcases k' with q | q <;> rw [k] at q <;> cases q
 | cell k l e=>cases b with
  | loc k' n' e'=>rcases k with q | q <;> rw [k'] at q <;> cases q
  | cell k' l' e' =>
   rw [l] at l'; cases l'
   obtain ⟨o,h1,h2⟩:=e
   obtain ⟨o',q1,q2⟩:=e'
   rw [h1] at q1; cases q1
   rw [h2] at q2; injection q2 with q2; exact Option.some.inj q2
theorem InvF.mono (I:InvF X loc W) (g:Grow W W') (kf:∀ b,W.fr b->W'.fr b) (kl:dP W W'.h X.env.locals) (kc:∀ y c,X.env.cells.lookup y=some c->dP W W'.h c)
  (ho:∀ x a,W.own (some x)=some a->W'.own (some x)=some a/\∀ o,Pln o->W.h.get? a=some o->W'.h.get? a=some o):InvF X loc W' where
 lc:=kf _ I.lc
 ns:=I.ns.imp fun _ q=>kC q kl
 cells:=fun x c e=>⟨kf _ (I.cells x c e).1,(I.cells x c e).2.imp fun _ q=>IsCell.same q (kc x c e)⟩
 vars:=fun x lv hn e=>(I.vars x lv hn e).imp fun v q=>⟨q.1.same kl kc,q.2.mono g (ho x)⟩
theorem Inv.fcSame (I:InvF X loc W) (m:∀ {b:Addr} {o:Obj},W.h.get? b=some o->W.fr b->∃ o',h'.get? b=some o'/\o'.data=o.data):dP W h' X.env.locals/\∀ y c,X.env.cells.lookup y=some c->dP W h' c :=
 ⟨fun o e=>m e I.lc,fun y c e o h=>m h (I.cells y c e).1⟩
theorem Inv.sim (I:Inv X S W) (m:Sim X.C W ex h') (hex:∀ b,ex b->W.tmp b):Inv X S (W.to h' tk) where
 c:=I.c.sim m hex
 f:=I.f.mono (m.grow hex) (fun _ q=>q) (Inv.fcSame I.f m.fc).1 (Inv.fcSame I.f m.fc).2 fun x a q=>⟨q,fun o p e=>m.kp e (fun z=>(I.c.ol _ _ q).2 (hex _ z)) fun _=>⟨p,fun z=>(I.c.fl _ z).1.own _ q⟩⟩
theorem Good.sim (G:Good X ev W₀ S W) (m:Sim X.C W ex h') (hex:∀ b,ex b->W.tmp b/\W₀.h.get? b=none):Good X ev W₀ S (W.to h' tk) :=
 ⟨G.ext.sim m fun b q=>(hex b q).2,G.inv.sim m fun b q=>(hex b q).1⟩
theorem Inv.ge (I:Inv X S W) (g:Ge W.h h') (tk:Nat):Good X ev W S (W.to h' tk):=(Good.refl I).sim (ex:=fun _=>False) g.sim fun _ q=>q.elim
theorem Inv.toks (I:Inv X S W) (tk:Nat):Good X ev W S (W.to W.h tk):=I.ge .refl tk
theorem Grow.less {own':Option Str->Option Addr} (h:∀ k b,own' k=some b->∃ k',W.own k'=some b):Grow W { W with own:=own' } :=
 ⟨id,fun e _ _=>e,fun _ f=>⟨⟨f.oth.lab,fun k q=>(h k _ q).elim fun _ z=>f.oth.own _ z⟩,f.tmp,f.fr⟩,fun e _ x=>⟨_,e,x,rfl⟩⟩
theorem Ext.less {own':Option Str->Option Addr} (h:∀ k b,own' k=some b->∃ k',W.own k'=some b):Ext mu W { W with own:=own' } where
 dom:=fun e=>⟨_,e⟩
 labs:=⟨[],(zAt _).symm,fun _ q=>nomatch q⟩
 own:=fun q=>(h _ _ q).elim fun _ z=>.own z
 tmp:=fun _ _=>.rfl
 fr:=fun _=>.rfl
 keep:=fun e _ _ _=>e
 exo:=fun e _ _ x=>⟨_,e,x,rfl⟩
 fc:=fun e _ _=>⟨_,e,rfl⟩
theorem InvC.less {own':Option Str->Option Addr} (I:InvC C frs W st) (h:∀ k b,own' k=some b->∃ k',W.own k'=some b) (hi:∀ k k' b,own' k=some b->own' k'=some b->k=k'):InvC C frs { W with own:=own' } st where
 sh:=I.sh
 stat:=I.stat
 lo:=fun b q=>I.lo b fun f=>q ⟨⟨f.oth.lab,fun k z=>(h k _ z).elim fun _ z=>f.oth.own _ z⟩,f.tmp,f.fr⟩
 nd:=I.nd
 ol:=fun k b q=>(h k b q).elim fun k' z=>I.ol k' b z
 oi:=hi
 tl:=I.tl
 fl:=fun b q=>⟨⟨(I.fl b q).1.lab,fun k z=>(h k _ z).elim fun _ z=>(I.fl b q).1.own _ z⟩,(I.fl b q).2⟩
 frs:=I.frs
 len:=I.len
 objs:=fun n o e=>(I.objs n o e).imp fun a q=>⟨q.1,q.2.mono (Grow.less h) fun _ _ e=>e⟩
noncomputable def gj (own:Option Str->Option Addr) (k:Option Str) (a:Option Addr):Option Str->Option Addr:=fun j=>if j=k then a else own j
theorem bT {own:Option Str->Option Addr} {k:Option Str} {a:Option Addr}:gj own k a k=a:=if_pos rfl
theorem cu {own:Option Str->Option Addr} {k j:Option Str} {a:Option Addr} (h:j ≠ k):gj own k a j=own j:=if_neg h
theorem aK {own:Option Str->Option Addr} {k j:Option Str} {b:Addr} (h:gj own k none j=some b):j ≠ k/\own j=some b:=by
 by_cases q:j=k
 ·subst q; rw [bT] at h; exact aC h
 ·rw [cu q] at h; exact ⟨q,h⟩
theorem setV {own:Option Str->Option Addr} {x:Str} {r:Option Addr} {a:Addr} (q:own (some x)=some a):gj own none r (some x)=some a:=(if_neg nofun).trans q
noncomputable abbrev Wd.drp (W:Wd) (k:Option Str):Wd:=⟨W.labs,gj W.own k none,W.tmp,W.fr,W.s⟩
noncomputable abbrev Wd.res (W:Wd) (h:Heap) (tk:Nat) (ad:Addr):Wd:=⟨W.labs,gj W.own none (some ad),W.tmp,W.fr,{ W.s with heap:=h,toks:=tk }⟩
theorem InvC.drop (I:InvC C frs W st) (k:Option Str):InvC C frs (W.drp k) st :=
 I.less (fun _ _ q=>⟨_,(aK q).2⟩) fun _ _ _ q q'=>I.oi _ _ _ (aK q).2 (aK q').2
end
section
variable {C:Cx} {X:Fx} {frs:List Env} {mu:Addr->Prop} {ev:Bool} {ex:Addr->Prop} {W W' W₀:Wd} {st:St} {S:S} {loc:bF} {h':Heap} {tk:Nat}
theorem Grow.fresh {ad:Addr} {own':Option Str->Option Addr} {labs':List Addr} (g:Ge W.h h') (n:W.h.get? ad=none) (hl:∃ r,labs'=W.labs++r/\∀ a ∈ r,a=ad) (ho:∀ k a,own' k=some a->a=ad ∨ ∃ k',W.own k'=some a):Grow W ⟨labs',own',W.tmp,W.fr,{ W.s with heap:=h',toks:=tk }⟩:=by
 obtain ⟨r,rfl,hr⟩:=hl
 have ne:∀ {b:Addr} {o:Obj},W.h.get? b=some o->b ≠ ad:=fun e q=>aD e (q ▸ n)
 exact ⟨fun e=>(zB8 (zA3.mp e).1).trans e,fun e _ _=>g _ _ e,
  fun e f=>⟨⟨fun q=>(zA8.mp q).elim f.oth.lab fun z=>ne e (hr _ z),fun k q=>(ho k _ q).elim (ne e) fun z=>z.elim fun _ z=>f.oth.own _ z⟩,f.tmp,f.fr⟩,fun e _ x=>⟨_,g _ _ e,x,rfl⟩⟩
theorem InvC.res (I:InvC C frs W st) {ad:Addr} {o:Obj} (g:Ge W.h h') (n:W.h.get? ad=none) (ho:h'.get? ad=some o):InvC C frs (W.res h' tk ad) st:=by
 have gr:Grow W (W.res h' tk ad):=Grow.fresh g n ⟨[],(zAt _).symm,fun _ q=>nomatch q⟩ fun k a q=>by
  by_cases hk:k=none
  ·subst hk; rw [bT] at q; exact .inl (Option.some.inj q).symm
  ·rw [cu hk] at q; exact .inr ⟨k,q⟩
 have ow:∀ {k b},gj W.own none (some ad) k=some b->(k=none/\b=ad) ∨ (k ≠ none/\W.own k=some b):=fun {k b} q=>by
  by_cases hk:k=none
  ·subst hk; rw [bT] at q; exact .inl ⟨rfl,(Option.some.inj q).symm⟩
  ·rw [cu hk] at q; exact .inr ⟨hk,q⟩
 have na:∀ {b},¬ W.free b->b ≠ ad:=fun h q=>(I.mus h).elim fun _ z=>aD z (q ▸ n)
 exact {
  sh:=I.sh.elim fun h q=>q.elim fun t e=>⟨h',tk,by show ({ W.s with heap:=h',toks:=tk }:Shared)=_; rw [e]⟩
  stat:=fun b o e=>g _ _ (I.stat b o e)
  lo:=fun b h=>by
   by_cases hb:b=ad
   ·subst hb
    refine ⟨?_,o,ho⟩
    cases e:C.s0.heap.get? b with
    | none=>rfl
    | some o=>exact (aD (I.stat _ _ e) n).elim
   ·have:¬ W.free b:=fun f=>h ⟨⟨f.oth.lab,fun k q=>(ow q).elim (fun z=>hb z.2) fun z=>f.oth.own _ z.2⟩,f.tmp,f.fr⟩
    exact ⟨(I.lo b this).1,(I.lo b this).2.imp fun _ q=>g _ _ q⟩
  nd:=I.nd
  ol:=fun k b q=>by
   rcases ow q with ⟨_,rfl⟩ | ⟨_,q⟩
   ·exact ⟨fun z=>na (nf_lab z) rfl,fun z=>na (gp z) rfl⟩
   ·exact I.ol k b q
  oi:=fun k k' b q q'=>by
   rcases ow q with ⟨h1,h2⟩ | ⟨h1,h2⟩ <;> rcases ow q' with ⟨h3,h4⟩ | ⟨h3,h4⟩
   ·rw [h1,h3]
   ·exact absurd h2 (na (fV h4))
   ·exact absurd h4 (na (fV h2))
   ·exact I.oi _ _ _ h2 h4
  tl:=I.tl
  fl:=fun b q=>⟨⟨(I.fl b q).1.lab,fun k z=>(ow z).elim (fun z=>na (b7 q) z.2) fun z=>(I.fl b q).1.own _ z.2⟩,(I.fl b q).2.1,fun o vs e=>(I.mus (b7 q)).elim fun o' z=>(I.fl b q).2.2 o vs (z.trans ((g _ _ z).symm.trans e))⟩
  frs:=I.frs
  len:=I.len
  objs:=fun n o e=>(I.objs n o e).imp fun a q=>⟨q.1,q.2.mono gr fun _ _ e=>g _ _ e⟩ }
theorem Inv.res (I:Inv X S W) {ad:Addr} {o:Obj} (g:Ge W.h h') (n:W.h.get? ad=none) (ho:h'.get? ad=some o) :
  Good X ev W S (W.res h' tk ad)/\Grow W (W.res h' tk ad):=by
 have oo:∀ {k a},gj W.own none (some ad) k=some a->a=ad ∨ ∃ k',W.own k'=some a:=fun {k a} q=>by
  by_cases hk:k=none
  ·subst hk; rw [bT] at q; exact .inl (Option.some.inj q).symm
  ·rw [cu hk] at q; exact .inr ⟨k,q⟩
 have gr:Grow W (W.res h' tk ad):=Grow.fresh g n ⟨[],(zAt _).symm,fun _ q=>nomatch q⟩ fun k a q=>oo q
 have same:∀ b,dP W h' b:=fun b o e=>⟨o,g _ _ e,rfl⟩
 refine ⟨⟨⟨fun e=>⟨_,g _ _ e⟩,⟨[],(zAt _).symm,fun _ q=>nomatch q⟩,fun q=>(oo q).elim (fun z=>.new (z ▸ n)) fun z=>z.elim fun _ z=>.own z,fun _ _=>.rfl,fun _=>.rfl,fun e _ _ _=>g _ _ e,fun e _ _ x=>⟨_,g _ _ e,x,rfl⟩,fun e _ _=>⟨_,g _ _ e,rfl⟩⟩,I.c.res g n ho,?_⟩,gr⟩
 exact I.f.mono gr (fun _ q=>q) (same _) (fun _ c _=>same c) fun x a q=>⟨setV (own:=W.own) (r:=some ad) q,fun o _ e=>g _ _ e⟩
inductive RM (X:Fx) (W:Wd) (c:AV) (v:Value):Prop
 | val (k:fP c=false) (r:VRep X.C W c v)
 | new {ad:Addr} (e:v=.ref ad) (k:fP c=true) (o:W.own none=some ad) (r:CRep X.C W W.h ad c)
theorem oK {c:AV} {v:Value} {s':Shared} (I:Inv X S W) (m:Made X.C W c v s'):OkP X ev (RM X) W (.ok c S) v s':=by
 cases m with
 | val g k r=>exact .mk rfl (I.ge g _) (.val k r)
 | @new h tk ad g n r =>
  cases k:fP c with
  | true =>
   obtain ⟨o,ho,_⟩:=r.obj
   obtain ⟨G,gr⟩:=I.res (ev:=ev) (tk:=tk) g n ho
   exact .mk (W':=W.res h tk ad) rfl G (.new rfl k (bT (own:=W.own) (k:=none) (a:=some ad)) (r.mono gr fun _ _ e=>e))
  | false =>
   have G:=I.ge (ev:=ev) g tk
   have f:W.free ad:=Classical.byContradiction fun h=>(I.c.mus h).elim fun _ z=>aD z n
   exact .mk (W':=W.to h tk) rfl G (.val k (CRep.val (W:=W.to h tk) (r.mono G.ext.grow fun _ _ e=>e) f))
theorem Snd.made {m:Sem Value} {o:Option AV} (I:Inv X S W) (h:∀ c,o=some c->wpAny X.C.M X.A m (Made X.C W c) (fun _ _=>False) W.s):Snd X ev (RM X) m (Mine.opt o S) W :=
 Snd.opt fun b hb=>zAs (h b hb) (fun _ _ q=>oK I q) fun _ _ q=>q
theorem Inv.drop (I:Inv X S W):Good X ev W S (W.drp none) where
 ext:=.less fun _ _ q=>⟨_,(aK q).2⟩
 inv:=⟨I.c.drop none,I.f.mono (.less fun _ _ q=>⟨_,(aK q).2⟩) (fun _ q=>q) (fun o e=>⟨o,e,rfl⟩) (fun _ _ _ o e=>⟨o,e,rfl⟩) fun x a q=>⟨setV (own:=W.own) (r:=none) q,fun _ _ e=>e⟩⟩
theorem RM.freeze {c:AV} {v:Value} (I:Inv X S W) (r:RM X W c v):∃ W',W'.s=W.s/\Good X ev W S W'/\VRep X.C W' c v:=by
 cases r with
 | val k r=>exact ⟨W,rfl,.refl I,r⟩
 | new e k o r =>
  subst e
  refine ⟨W.drp none,rfl,I.drop,CRep.val (W:=(W.drp none)) (r.mono (.less fun _ _ q=>⟨_,(aK q).2⟩) fun _ _ e=>e) ⟨⟨(I.c.ol _ _ o).1,fun k q=>?_⟩,(I.c.ol _ _ o).2,fun q=>(I.c.fl _ q).1.own _ o⟩⟩
  exact (aK q).1 (I.c.oi _ _ _ (aK q).2 o)
theorem Snd.freeze {m:Sem Value} {o:Out AV} (h:Snd X ev (RM X) m o W):Snd X ev (RV X) m o W:=fun hne =>
 zAs (h hne) (fun v s' q=>by
  cases q with
  | mk e g r =>
   obtain ⟨W',e',g',r'⟩:=r.freeze (ev:=ev) g.inv
   rw [← e']
   exact .mk e (g.trans g') r') fun _ _ q=>q
theorem last_get {α:Type} {l:List α} {a o:α} {m:Nat} (hm:l.length<=m) (e:(l++[a])[m]?=some o):m=l.length/\o=a:=by
 have h1:=(zA3.mp e).1
 rw [zAd] at h1
 obtain rfl:m=l.length:=zCx (Nat.le_of_lt_succ h1) hm
 rw [zB2] at e
 exact ⟨rfl,(Option.some.inj e).symm⟩
noncomputable abbrev Wd.cel (W:Wd) (ad:Addr):Wd:=⟨W.labs++[ad],gj W.own none none,W.tmp,W.fr,W.s⟩
theorem Grow.cel {ad:Addr} (ho:W.own none=some ad):Grow W (W.cel ad) :=
 ⟨fun e=>(zB8 (zA3.mp e).1).trans e,fun e _ _=>e,
  fun e f=>⟨⟨fun q=>(zA8.mp q).elim f.oth.lab fun z=>f.oth.own none (zAf.mp z ▸ ho),fun k q=>f.oth.own _ (aK q).2⟩,f.tmp,f.fr⟩,fun e _ x=>⟨_,e,x,rfl⟩⟩
theorem InvC.cel (I:InvC C frs W st) {ad:Addr} {ao:AO} (ho:W.own none=some ad) (r:ORep C W ad ao):InvC C frs (W.cel ad) (st++[ao]) where
 sh:=I.sh
 stat:=I.stat
 lo:=fun b h=>I.lo b fun f=>h ⟨⟨fun q=>(zA8.mp q).elim f.oth.lab fun z=>f.oth.own none (zAf.mp z ▸ ho),fun k q=>f.oth.own _ (aK q).2⟩,f.tmp,f.fr⟩
 nd:=zCl.mpr ⟨I.nd,List.pairwise_singleton _ _,fun a h b hb q=>(I.ol _ _ ho).1 (zAf.mp hb ▸ q ▸ h)⟩
 ol:=fun k b q=>⟨fun z=>(zA8.mp z).elim (I.ol _ _ (aK q).2).1 fun z=>(aK q).1 (I.oi _ _ _ (aK q).2 (zAf.mp z ▸ ho)),(I.ol _ _ (aK q).2).2⟩
 oi:=fun k k' b q q'=>I.oi _ _ _ (aK q).2 (aK q').2
 tl:=fun b q z=>(zA8.mp z).elim (I.tl b q) fun z=>(I.ol _ _ ho).2 (zAf.mp z ▸ q)
 fl:=fun b q=>⟨⟨fun z=>(zA8.mp z).elim (I.fl b q).1.lab fun z=>(I.fl b q).1.own none (zAf.mp z ▸ ho),fun k z=>(I.fl b q).1.own _ (aK z).2⟩,(I.fl b q).2⟩
 frs:=I.frs
 len:=by show (st++[ao]).length=(W.labs++[ad]).length; rw [zAd,zAd,I.len]; rfl
 objs:=fun n o e=>by
  rcases Nat.lt_or_ge n st.length with hm | hm
  ·rw [zB8 hm] at e
   exact (I.objs n o e).imp fun a q=>⟨(Grow.cel ho).lab q.1,q.2.mono (Grow.cel ho) fun _ _ e=>e⟩
  ·obtain ⟨rfl,rfl⟩:=last_get hm e
   exact ⟨ad,by show (W.labs++[ad])[st.length]?=_; rw [I.len]; exact zB2,r.mono (Grow.cel ho) fun _ _ e=>e⟩
theorem Ext.cel {ad:Addr} (ho:W.own none=some ad):Ext mu W (W.cel ad) where
 dom:=fun e=>⟨_,e⟩
 labs:=⟨[ad],rfl,fun a q=>zAf.mp q ▸ .own ho⟩
 own:=fun q=>.own (aK q).2
 tmp:=fun _ _=>.rfl
 fr:=fun _=>.rfl
 keep:=fun e _ _ _=>e
 exo:=fun e _ _ x=>⟨_,e,x,rfl⟩
 fc:=fun e _ _=>⟨_,e,rfl⟩
theorem Inv.cel (I:Inv X S W) {ad:Addr} {c:AV} (ho:W.own none=some ad) (r:CRep X.C W W.h ad c):Good X ev W ⟨S.loc,S.st++[.cont c]⟩ (W.cel ad) where
 ext:=.cel ho
 inv:=⟨I.c.cel ho (ao:=.cont c) r,I.f.mono (.cel ho) (fun _ q=>q) (fun o e=>⟨o,e,rfl⟩) (fun _ _ _ o e=>⟨o,e,rfl⟩) fun x a q=>⟨setV (own:=W.own) (r:=none) q,fun _ _ e=>e⟩⟩
theorem Snd.toCel {m:Sem Value} {o:Out AV} (h:Snd X ev (RM X) m o W):Snd X ev (RV X) m (ax o toCel) W:=fun hne =>
 zAs (h fun q=>hne (by rw [q]; rfl)) (fun v s' q=>by
  cases q with
  | @mk b S W' e g r =>
   subst e
   cases r with
   | val k r=>exact .mk (by show (if fP b=true then _ else _)=_; rw [if_neg (by rw [k]; exact zAn)]) g r
   | @new ad e' k o r =>
    subst e'
    have hv:VRep X.C (W'.cel ad) (.cel S.st.length) (.ref ad):=⟨ad,rfl,by
     show (W'.labs++[ad])[S.st.length]?=_
     rw [g.inv.c.len]; exact zB2⟩
    exact .mk (W':=W'.cel ad) (show (if fP b=true then _ else _)=_ from if_pos k) (g.trans (g.inv.cel o r)) hv) fun _ _ q=>by cases q with | mk e g t=>subst e; exact .mk rfl g t
end
end Mine
end
section
set_option autoImplicit false
set_option linter.unusedVariables false
namespace Mine
open PySem PyProof.Rows
theorem beq_nat {a b:Nat}:zA4 a b=true ↔ a=b:=⟨zBm,fun h=>by subst h; exact Nat.beq_refl a⟩
theorem d9 {α:Type} {x:Nat} {v:α}:∀ {l:List (Nat × α)},aq x (ah x v l)=some v
 | []=>by simp [ah,aq]
 | (y,w)::r=>by
  rw [setA_c]
  by_cases h:zA4 y x=true
  ·rw [if_pos h]; simp [aq]
  ·rw [if_neg h]; rw [il]; rw [if_neg h]; exact d9
theorem cI {α:Type} {x y:Nat} {v:α} (hne:y ≠ x):∀ {l:List (Nat × α)},aq y (ah x v l)=aq y l
 | []=>by simp [ah,aq,Ne.symm hne]
 | (z,w)::r=>by
  have hxy:¬ zA4 x y=true:=fun q=>hne (beq_nat.mp q).symm
  rw [setA_c]
  by_cases h:zA4 z x=true
  ·rw [if_pos h]; obtain rfl:=beq_nat.mp h; rw [il,il]; rw [if_neg hxy,if_neg hxy]
  ·rw [if_neg h]
   rw [il,il]
   by_cases hz:zA4 z y=true
   ·rw [if_pos hz,if_pos hz]
   ·rw [if_neg hz,if_neg hz]; exact cI hne
theorem beqL_iff:∀ {a b:List Nat},beqL a b=true ↔ a=b
 | [],[]=>⟨fun _=>rfl,fun _=>rfl⟩
 | [],_::_=>⟨fun h=>absurd h zAn,fun h=>nomatch h⟩
 | _::_,[]=>⟨fun h=>absurd h zAn,fun h=>nomatch h⟩
 | a::r,b::q=>by
  show (zA4 a b && beqL r q)=true ↔ _
  rw [zA0,beq_nat,beqL_iff,List.cons.injEq]
theorem seq_iff {a b:Str}:seq a b=true ↔ a=b:=by
 unfold seq
 rw [beqL_iff]
 constructor
 ·intro h; cases a; cases b; simp only [Str.mk.injEq]; exact Array.toList_inj.mp h
 ·intro h; rw [h]
theorem fi {a:Str}:seq a a=true:=seq_iff.mpr rfl
theorem dn {a b:Str}:seq a b=(a == b):=by
 rw [Bool.eq_iff_iff,seq_iff,beq_iff_eq]
theorem bK {α:Type} {x:Str}:∀ {l:List (Str × α)},aR x l=l.lookup x
 | []=>rfl
 | (y,w)::r=>by
  rw [lookS_c]
  rw [zBb,dn]
  cases h:x == y with
  | true=>rfl
  | false=>exact bK
theorem fb {x y:Str}:∀ {sc:Sc},fH sc x=true->aV y sc=aV x sc->y=x
 | [],h,_=>by simp [fH,aR] at h
 | (z,k)::r,h,e=>by
  unfold aV at e
  by_cases hx:seq x z=true
  ·rw [if_pos hx] at e
   by_cases hy:seq y z=true
   ·rw [seq_iff.mp hy,seq_iff.mp hx]
   ·rw [if_neg hy] at e; cases e
  ·rw [if_neg hx] at e
   by_cases hy:seq y z=true
   ·rw [if_pos hy] at e; cases e
   ·rw [if_neg hy] at e
    refine fb (sc:=r) ?_ (Nat.succ.inj e)
    unfold fH at h; rw [lookS_c] at h
    rwa [if_neg hx] at h
section
variable {sc:Sc}
theorem lY {x:Str} (h:eQ x=true):StrOk x:=by
 obtain ⟨h1,h2⟩:=zAk.mp h
 exact ⟨h1,zA9 h2⟩
theorem fo {x:Str} (h:lV x=true):(x == ("__debug__":Str))=false:=by
 unfold lV at h; rw [zA0] at h; rw [← dn]; simpa using h.1
theorem lm {x:Str} (h:lV x=true):(x == ("__classdict__":Str))=false:=by
 unfold lV at h; rw [zA0] at h; rw [← dn]; simpa using h.2
theorem isLoc_ok {x:Str} (h:lO sc x=true):lV x=true:=(zAk.mp h).2
theorem jm {x:Str} (h:bh sc x=true):lV x=true:=(zAk.mp h).2
theorem jB {x:Str} (h:lO sc x=true):fH sc x=true:=by
 have hl:=(zAk.mp h).1
 unfold fH
 revert hl; cases aR x sc with
 | none=>intro h; exact ff h
 | some k=>intro _; rfl
theorem isGlob_kind {x:Str} (h:bh sc x=true):sc.lookup x=some .globalImplicit:=by
 have hl:=(zAk.mp h).1
 rw [bK] at hl
 revert hl; cases sc.lookup x with
 | none=>intro h; exact ff h
 | some k=>cases k <;> intro h <;> first | rfl | exact ff h
end
section
variable {X:Fx} {ev:Bool} {W W':Wd} {S:S}
noncomputable abbrev SndE (X:Fx) (e:Expr) (d:D AV):Prop:=∀ S W,Inv X S W->Snd X true (RV X) (eval e X.env) (d S) W
set_option tactic.hygienic true in
theorem ny {c:Const} {k:Nat} {p:Pos}:SndE X (.Constant c k p) (dConst c):=by
 intro S W I
 cases c <;> first | exact .stk | skip
 ·exact fun _=>wpAny_Constant_none (.mk rfl (.refl I) rfl)
 ·exact fun _=>wpAny_Constant_bool (.mk rfl (.refl I) rfl)
 ·exact fun _=>wpAny_Constant_int (.mk (W':=W.to W.h (W.s.toks+1)) rfl (I.toks _) ⟨_,rfl⟩)
 ·rename_i x
  show Snd X _ _ _ ((if eQ x then af (AV.str x) else Mine.stk) S) _
  by_cases h:eQ x=true
  ·rw [if_pos h]
   exact fun _=>wpAny_Constant_str (.mk (W':=W.to W.h (W.s.toks+1)) rfl (I.toks _) ⟨lY h,_,rfl⟩)
  ·rw [if_neg h]; exact .stk
theorem lx {x:Str} {v:Value} {Q E:Value->Shared->Prop} (F:X.Ok) (hl:lO X.nms x=true) (r:X.Val W.h x v) (h:Q v W.s):wpAny X.C.M X.A (loadName X.env x) Q E W.s:=by
 cases r with
 | loc k n e=>exact wpAny_loadName_local F.kind k n e h
 | cell k l e =>
  rcases k with k | k
  ·exact wpAny_loadName_cell F.kind k l e h
  ·exact wpAny_loadName_free F.kind k l e h (lm (isLoc_ok hl))
theorem Inv.letgo (I:Inv X S W) {x:Str} {c:AV} (hn:fH X.nms x=true) (hx:aq (aV x X.nms) S.loc=some (.own c)) :
  ∃ v,X.Val W.h x v/\Good X ev W ⟨ah (aV x X.nms) (.val c) S.loc,S.st⟩ (W.drp (some x))/\VRep X.C (W.drp (some x)) c v:=by
 obtain ⟨v,hv,a,rfl,ho,hc⟩:=I.f.vars x _ hn hx
 have gr:Grow W (W.drp (some x)):=.less fun _ _ q=>⟨_,(aK q).2⟩
 have rep:VRep X.C (W.drp (some x)) c (.ref a):=CRep.val (W:=W.drp (some x)) (hc.mono gr fun _ _ e=>e) ⟨⟨(I.c.ol _ _ ho).1,fun k q=>(aK q).1 (I.c.oi _ _ _ (aK q).2 ho)⟩,(I.c.ol _ _ ho).2,fun q=>(I.c.fl _ q).1.own _ ho⟩
 refine ⟨_,hv,⟨.less fun _ _ q=>⟨_,(aK q).2⟩,I.c.drop _,?_⟩,rep⟩
 refine ⟨I.f.lc,I.f.ns,I.f.cells,fun y lv hm e=>?_⟩
 by_cases hy:y=x
 ·subst hy
  rw [show aq (aV y X.nms) (ah (aV y X.nms) (LV.val c) S.loc)=some (.val c) from d9] at e
  cases e
  exact ⟨_,hv,rep⟩
 ·rw [show aq (aV y X.nms) (ah (aV x X.nms) (LV.val c) S.loc)=aq (aV y X.nms) S.loc from cI fun q=>hy (fb hn q)] at e
  exact (I.f.vars y lv hm e).imp fun _ q=>⟨q.1,q.2.mono gr fun a z=>⟨(cu (own:=W.own) (k:=some x) (a:=none) fun q=>hy (Option.some.inj q)).trans z,fun _ _ e=>e⟩⟩
theorem snd_rdLoc (F:X.Ok) (I:Inv X S W) {x:Str} (hl:lO X.nms x=true):Snd X true (RV X) (loadName X.env x) (ae (aV x X.nms) S) W:=by
 have hn:=jB hl
 unfold ae
 cases hv:aq (aV x X.nms) S.loc with
 | none=>exact .stk
 | some lv =>
  cases lv with
  | val a =>
   obtain ⟨v,h1,h2⟩:=I.f.vars x _ hn hv
   exact fun _=>lx F hl h1 (.mk rfl (.refl I) h2)
  | own c =>
   obtain ⟨v,h1,h2,h3⟩:=I.letgo hn hv
   exact fun _=>lx F hl h1 (.mk (W':=W.drp (some x)) rfl h2 h3)
noncomputable def RQ (X:Fx) (W:Wd) (a:AV) (v:Value):Prop:=match a with
 | .pl k=>∃ x,fH X.nms x=true/\aV x X.nms=k/\X.Val W.h x v
 | a=>VRep X.C W a v
theorem RQ.of {a:AV} {v:Value} (r:VRep X.C W a v):RQ X W a v:=by
 cases a <;> first | exact r | exact r.elim
theorem RQ.le {a:AV} {v:Value} (r:RQ X W a v) (I:Inv X S W) (x:EX X true W W'):RQ X W' a v:=by
 cases a <;> first | exact VRep.le (C:=X.C) r x | skip
 obtain ⟨y,h1,h2,h3⟩:=r
 have:=Inv.fcSame (h':=W'.h) I.f fun e h=>x.fc e h fun q=>nomatch q.1
 exact ⟨y,h1,h2,h3.same this.1 this.2⟩
theorem snd_pkLoc (F:X.Ok) (I:Inv X S W) {x:Str} (hl:lO X.nms x=true):Snd X true (RQ X) (loadName X.env x) (aa (aV x X.nms) S) W:=by
 unfold aa
 cases hv:aq (aV x X.nms) S.loc with
 | none=>exact .stk
 | some lv =>
  obtain ⟨v,h1,h2⟩:=I.f.vars x _ (jB hl) hv
  exact fun _=>lx F hl h1 (.mk rfl (.refl I) ⟨x,jB hl,rfl,h1⟩)
theorem lh {st:St} {k:Nat} {c:AV} (h:dq st k=some c):st[k]?=some (.cont c):=by
 unfold dq at h
 cases hk:st[k]? with
 | none=>rw [hk] at h; exact aC h
 | some o =>
  rw [hk] at h
  cases o with
  | cont c'=>exact congrArg (fun o=>o.map AO.cont) h
  | flds l=>exact aC h
theorem RQ.deref (I:Inv X S W) {a c:AV} {v:Value} (r:RQ X W a v) (e:aS a S=some c):RP X.C W c v:=by
 have cel:∀ k,VRep X.C W (.cel k) v->dq S.st k=some c->RP X.C W c v:=fun k r e=>by
  obtain ⟨ad,h1,h2⟩:=I.c.objs k _ (lh e)
  obtain ⟨ad',rfl,q1⟩:=r
  rw [h1] at q1; cases q1
  exact .con rfl h2
 cases a <;> first | (obtain rfl:=Option.some.inj e; exact .val r) | exact cel _ r e | skip
 obtain ⟨x,h1,rfl,h3⟩:=r
 have e:(match aq (aV x X.nms) S.loc with | some (.own c)=>some c | some (.val (.cel n))=>dq S.st n | some (.val (.pl _))=>none | some (.val v)=>some v | none=>none)=some c:=e
 cases hg:aq (aV x X.nms) S.loc with
 | none=>rw [hg] at e; exact aC e
 | some lv =>
  rw [hg] at e
  obtain ⟨v',q1,q2⟩:=I.f.vars x _ h1 hg
  obtain rfl:v=v':=h3.inj q1
  cases lv with
  | own c' =>
   obtain rfl:=Option.some.inj e
   obtain ⟨ad,rfl,_,q3⟩:=q2
   exact .con rfl q3
  | val w=>cases w <;> first | (obtain rfl:=Option.some.inj e; exact .val q2) | exact cel _ q2 e | exact aC e
theorem Snd.deref {α β:Type} {R:Wd->β->α->Prop} {m:Sem α} {a:AV} {v:Value} {f:AV->D β} (I:Inv X S W) (r:RQ X W a v) (hf:∀ a',RP X.C W a' v->Snd X ev R m (f a' S) W):Snd X ev R m (ax (Mine.deref a S) f) W:=by
 unfold Mine.deref
 cases hd:aS a S with
 | none=>exact .stk
 | some a'=>exact hf a' (r.deref I hd)
noncomputable abbrev jl (X:Fx) (e:Expr) (d:D AV):Prop:=∀ S W,Inv X S W->Snd X true (RQ X) (eval e X.env) (d S) W
theorem jd {x:Str} {Q E:Value->Shared->Prop} (F:X.Ok) (hg:bh X.nms x=true) (h:wpAny X.C.M X.A (loadGlobal X.env x) Q E W.s):wpAny X.C.M X.A (loadName X.env x) Q E W.s:=by
 unfold loadName
 simp only [Env.blockKind,F.kind,F.glob x (isGlob_kind hg),ScopeKind.isAnnotationScope,Bool.false_and,zCw,if_false]
 exact h
theorem Inv.st (I:Inv X S W) (F:X.Ok):StatH X.C W.h:=F.cx.st _ I.c.stat
theorem gy (F:X.Ok) (I:Inv X S W) {x:Str} (hg:bh X.nms x=true):Snd X true (RV X) (loadName X.env x) (opt ((aR x X.T.P.consts).map .int) S) W:=by
 refine Snd.opt fun b hb=>?_
 obtain ⟨i,h1,rfl⟩:=zAo.mp hb
 obtain ⟨t,hm⟩:=F.cx.const x i (by rw [← F.P,← bK]; exact h1)
 exact jd F hg (Calls.loadGlobal_global (by rw [F.globals]; exact (I.st F).ns) hm (.mk rfl (.refl I) ⟨_,rfl⟩))
theorem ja (F:X.Ok) {x:Str} {p:Pos}:SndE X (.Name x p) (jE X.T x .v X.nms)/\jl X (.Name x p) (jE X.T x .p X.nms):=by
 by_cases hl:lO X.nms x=true
 ·have e:∀ md,jE X.T x md X.nms=locM md (aV x X.nms):=fun md=>if_pos hl
  refine ⟨fun S W I=>?_,fun S W I=>?_⟩ <;> rw [e,eval_Name _ _ _ (fo (isLoc_ok hl))]
  ·exact .stand (snd_rdLoc F I hl)
  ·exact .stand (snd_pkLoc F I hl)
 by_cases hg:bh X.nms x=true
 ·have e:∀ md,jE X.T x md X.nms=opt ((aR x X.T.P.consts).map .int):=fun md=>(if_neg hl).trans (if_pos hg)
  refine ⟨fun S W I=>?_,fun S W I=>?_⟩ <;> rw [e,eval_Name _ _ _ (fo (jm hg))]
  ·exact .stand (gy F I hg)
  ·exact .stand ((gy F I hg).mono fun W b a r=>.of r)
 have e:∀ md,jE X.T x md X.nms=stk:=fun md=>(if_neg hl).trans (if_neg hg)
 refine ⟨fun S W I=>?_,fun S W I=>?_⟩ <;> rw [e] <;> exact .stk
end
theorem bS {a:AV} {i:Int} (h:gP a=some i):a=.int i:=by cases a <;> first | (cases h; rfl) | exact aC h
theorem jf {a:AV} {i:Str} (h:strV a=some i):a=.str i:=by cases a <;> first | (cases h; rfl) | exact aC h
theorem ee {a:AV} {i:List AV} (h:lX a=some i):a=.lst i:=by cases a <;> first | (cases h; rfl) | exact aC h
theorem ml {a:AV} {i:List AV} (h:tupV a=some i):a=.tup i:=by cases a <;> first | (cases h; rfl) | exact aC h
theorem lK {α:Type} {a b:AV} {f:Int->Int->Option α} {c:α} (h:on2 a b f=some c):∃ x y,a=.int x/\b=.int y/\f x y=some c:=by
 obtain ⟨x,h1,h⟩:=zAi.mp h
 obtain ⟨y,h2,h⟩:=zAi.mp h
 exact ⟨x,y,bS h1,bS h2,h⟩
theorem ed {α:Type} {p:Prop} [Decidable p] {x:Option α} {c:α} (h:(if p then x else none)=some c):p/\x=some c:=by
 by_cases hp:p
 ·rw [if_pos hp] at h; exact ⟨hp,h⟩
 ·rw [if_neg hp] at h; exact aC h
theorem be {α:Type} {p:Prop} [Decidable p] {x c:α} (h:(if p then some x else none)=some c):p/\x=c:=(ed h).imp id Option.some.inj
theorem dA {x:List AV} {c:AV} (h:bD x=some c):x.length<=sizeLine/\AV.lst x=c:=be h
theorem kY {x:List AV} {c:AV} (h:mP x=some c):x.length<=sizeLine/\AV.tup x=c:=be h
theorem nn {x:Str} {c:AV} (h:mkSt x=some c):x.length<=sizeLine/\AV.str x=c:=be h
section
variable {C:Cx} {W:Wd}
theorem VReps.length:∀ {l:List AV} {vs:List Value},VReps C W l vs->vs.length=l.length
 | [],vs,h=>by obtain rfl:=h; rfl
 | x::r,vs,h=>by
  obtain ⟨v,vs',rfl,_,h3⟩:=h
  exact congrArg Nat.succ (VReps.length h3)
theorem VReps.nil:VReps C W [] []:=rfl
theorem VReps.cons {a:AV} {v:Value} {l:List AV} {vs:List Value} (h:VRep C W a v) (hr:VReps C W l vs):VReps C W (a::l) (v::vs):=⟨v,vs,rfl,h,hr⟩
theorem VReps.append:∀ {l l':List AV} {vs vs':List Value},VReps C W l vs->VReps C W l' vs'->VReps C W (l++l') (vs++vs')
 | [],l',vs,vs',h,h'=>by obtain rfl:=h; exact h'
 | x::r,l',vs,vs',h,h'=>by
  obtain ⟨v,vs'',rfl,h2,h3⟩:=h
  exact VReps.cons h2 (VReps.append h3 h')
theorem VReps.get:∀ {l:List AV} {vs:List Value} {i:Nat} {a:AV},VReps C W l vs->l[i]?=some a->∃ v,vs[i]?=some v/\VRep C W a v
 | [],vs,i,a,h,e=>nomatch e
 | x::r,vs,0,a,h,e=>by
  obtain ⟨v,vs',rfl,h2,h3⟩:=h
  cases e; exact ⟨v,rfl,h2⟩
 | x::r,vs,i+1,a,h,e=>by
  obtain ⟨v,vs',rfl,h2,h3⟩:=h
  exact VReps.get (i:=i) h3 e
theorem VReps.take:∀ {l:List AV} {vs:List Value} (n:Nat),VReps C W l vs->VReps C W (l.take n) (vs.take n)
 | [],vs,n,h=>by obtain rfl:=h; rw [List.take_nil,List.take_nil]; exact .nil
 | x::r,vs,0,h=>.nil
 | x::r,vs,n+1,h=>by
  obtain ⟨v,vs',rfl,h2,h3⟩:=h
  exact VReps.cons h2 (VReps.take n h3)
theorem VReps.drop:∀ {l:List AV} {vs:List Value} (n:Nat),VReps C W l vs->VReps C W (l.drop n) (vs.drop n)
 | [],vs,n,h=>by obtain rfl:=h; rw [List.drop_nil,List.drop_nil]; exact .nil
 | x::r,vs,0,h=>h
 | x::r,vs,n+1,h=>by
  obtain ⟨v,vs',rfl,h2,h3⟩:=h
  exact VReps.drop n h3
theorem VReps.size {l:List AV} {vs:Array Value} (h:VReps C W l vs.toList):vs.size=l.length:=Array.length_toList.symm.trans h.length
theorem VReps.fit {l:List AV} {vs:List Value} (h:VReps C W l vs) (hl:l.length<=ou):vs.toArray.size<=ou:=by
 show vs.length<=ou; rw [h.length]; exact hl
theorem RP.int {i:Int} {v:Value} (r:RP C W (.int i) v):∃ t,v=.int i t:=by cases r with | val r=>exact r | con e r=>exact r.elim
theorem RP.bool {i:Bool} {v:Value} (r:RP C W (.bool i) v):v=.bool i:=by cases r with | val r=>exact r | con e r=>exact r.elim
theorem RP.str {x:Str} {v:Value} (r:RP C W (.str x) v):StrOk x/\∃ t,v=.str x t:=by cases r with | val r=>exact r | con e r=>exact r.elim
theorem RP.lst {l:List AV} {v:Value} (r:RP C W (.lst l) v):∃ a,v=.ref a/\CRep C W W.h a (.lst l):=by cases r with | val r=>exact r.imp fun _ q=>⟨q.1,q.2.2⟩ | con e r=>exact ⟨_,e,r⟩
theorem RP.tup {l:List AV} {v:Value} (r:RP C W (.tup l) v):∃ a,v=.ref a/\CRep C W W.h a (.tup l):=by cases r with | val r=>exact r.imp fun _ q=>⟨q.1,q.2.2⟩ | con e r=>exact ⟨_,e,r⟩
theorem RP.dct {ks vs:List AV} {v:Value} (r:RP C W (.dct ks vs) v):∃ a,v=.ref a/\CRep C W W.h a (.dct ks vs):=by cases r with | val r=>exact r.imp fun _ q=>⟨q.1,q.2.2⟩ | con e r=>exact ⟨_,e,r⟩
theorem Made.int {i:Int} {t tk:Nat}:Made C W (.int i) (.int i t) { W.s with toks:=tk }:=.val (h:=W.h) (tk:=tk) .refl rfl ⟨_,rfl⟩
theorem Made.newLst {l:List AV} {vs:Array Value} {h:Heap} {tk ad n:Nat} (g:Ge W.h h) (nw:W.h.get? ad=none) (ob:h.get? ad=some (sqO "list" vs n)) (sz:vs.size<=ou) (hv:VReps C W l vs.toList):Made C W (.lst l) (.ref ad) { W.s with heap:=h,toks:=tk }:=.new g nw ⟨vs,n,ob,sz,hv⟩
theorem Made.pushLst {l:List AV} {vs:Array Value} {n:Nat} (sz:vs.size<=ou) (hv:VReps C W l vs.toList):Made C W (.lst l) (.ref W.h.objs.size) { W.s with heap:=W.h.push (sqO "list" vs n) }:=.new (h:=W.h.push (sqO "list" vs n)) (tk:=W.s.toks) .push get?_size ⟨vs,n,zAp _ rfl,sz,hv⟩
theorem Made.pushTup {l:List AV} {vs:Array Value} {n:Nat} (sz:vs.size<=ou) (hv:VReps C W l vs.toList):Made C W (.tup l) (.ref W.h.objs.size) { W.s with heap:=W.h.push (sqO "tuple" vs n) }:=.new (h:=W.h.push (sqO "tuple" vs n)) (tk:=W.s.toks) .push get?_size ⟨vs,n,zAp _ rfl,sz,hv⟩
end
section
variable {C:Cx} {A:Around} {W:Wd} {E:Value->Shared->Prop}
theorem jW {x:Int} (h:ch x=true):x.natAbs < 9223372036854775808:=of_decide_eq_true h
theorem mo {x:Int} (h0:x ≠ 0) (h:ch x=true):x.natAbs.log2 < 63:=(Nat.log2_lt (fun q=>h0 (Int.natAbs_eq_zero.mp q))).mpr (jW h)
set_option tactic.hygienic true in
theorem lz {x:Int} (h:ch x=true):Builtin.Int.intBits x<=64:=by
 unfold Builtin.Int.intBits
 split
 ·exact zBa _
 ·rename_i hx
  exact zBc (zC3 (mo (fun q=>hx (by rw [q]; rfl)) h))
theorem i7 {a b:Str} (h1:PyData.strOk a=true) (h2:PyData.strOk b=true):PyData.strOk (a++b)=true:=by
 show ((a.cps++b.cps).all _)=true
 rw [Array.all_append]
 exact zAk.mpr ⟨h1,h2⟩
set_option tactic.hygienic true in
theorem wp_addV {a b c:AV} {va vb:Value} (ha:RP C W a va) (hb:RP C W b vb) (h:addV a b=some c):wpAny C.M A (binaryOp .Add va vb) (Made C W c) E W.s:=by
 cases a <;> first | (exact aC h; done) | skip
 ·obtain ⟨y,h1,rfl⟩:=zAo.mp h
  obtain rfl:=bS h1
  obtain ⟨t,rfl⟩:=ha.int; obtain ⟨u,rfl⟩:=hb.int
  exact add_int Made.int
 ·obtain ⟨y,h1,h⟩:=zAi.mp h
  obtain rfl:=jf h1
  obtain ⟨hsz,rfl⟩:=nn h
  obtain ⟨h1,t,rfl⟩:=ha.str; obtain ⟨h2,u,rfl⟩:=hb.str
  exact add_str (fun t' tk=>.val (h:=W.h) (tk:=tk) .refl rfl ⟨⟨i7 h1.ok h2.ok,hsz⟩,_,rfl⟩) (by rw [← Str.length_append]; exact hsz)
 ·rename_i x
  obtain ⟨y,h1,h2⟩:=zAi.mp h
  obtain rfl:=ml h1
  by_cases hne:(x.isEmpty || y.isEmpty)=true
  ·rw [if_pos hne] at h2; exact aC h2
  rw [if_neg hne] at h2
  obtain ⟨hsz,rfl⟩:=kY h2
  obtain ⟨p,rfl,vs,n,hp,hps,hv⟩:=ha.tup; obtain ⟨q,rfl,ws,m,hq,hqs,hw⟩:=hb.tup
  have hlen:vs.size+ws.size<=sizeLine:=by rw [hv.size,hw.size,← zAd]; exact hsz
  have hm:∀ {us:Array Value} {l:List AV},us.size=l.length->us.isEmpty=true->l.isEmpty=true:=fun e z=>by
   rw [zBy,List.eq_nil_iff_length_eq_zero,← e]; exact Array.isEmpty_iff_size_eq_zero.mp z
  refine P.add_tuple hp hq (fun z=>hne (zBw.mpr (.inl (hm hv.size z)))) (fun z=>hne (zBw.mpr (.inr (hm hw.size z)))) ?_ hlen
  exact Made.pushTup (vs:=vs++ws) (by rw [Array.size_append]; exact hlen) (by rw [Array.toList_append]; exact hv.append hw)
 ·obtain ⟨y,h1,h⟩:=zAi.mp h
  obtain rfl:=ee h1
  obtain ⟨hsz,rfl⟩:=dA h
  obtain ⟨p,rfl,vs,n,hp,hps,hv⟩:=ha.lst; obtain ⟨q,rfl,ws,m,hq,hqs,hw⟩:=hb.lst
  have hlen:vs.size+ws.size<=sizeLine:=by rw [hv.size,hw.size,← zAd]; exact hsz
  refine concat_meets ⟨_,hp,rfl⟩ ⟨_,hq,rfl⟩ noFill_list_add seq_list_add PySem.F.slot_list_add PySem.F.entry_list_add (PySem.F.args_list_add_2 _ _)
   (list_addW p q vs ws n m none none #[] #[] hlen) ⟨hp,hq,?_⟩
  exact Made.pushLst (vs:=vs++ws) (by rw [Array.size_append]; exact hlen) (by rw [Array.toList_append]; exact hv.append hw)
theorem lw {y:Int} (h:cN y=true):y ≠ 0/\ch y=true:=by
 have h':=zAk.mp h
 exact ⟨fun q=>by rw [q] at h'; exact zAn h'.1,h'.2⟩
theorem m6 {x:AV} {v:Value} (h:VRep C W x v):∀ (n:Nat) (acc:Array Value) (l:List AV),VReps C W l acc.toList ->
  VReps C W (l++j6 x n) (List.foldl (fun x1 x2=>x1++x2) acc (zC1 n #[v])).toList
 | 0,acc,l,ha=>by rw [show l++j6 x 0=l from zAt l]; exact ha
 | n+1,acc,l,ha=>by
  rw [List.replicate_succ,List.foldl_cons,show l++j6 x (n+1)=(l++[x])++j6 x n by rw [zAm]; rfl]
  exact m6 h n (acc++#[v]) (l++[x]) (by rw [Array.toList_append]; exact ha.append (VReps.cons h .nil))
theorem jG {x:AV}:∀ n,(j6 x n).length=n
 | 0=>rfl
 | n+1=>congrArg Nat.succ (jG n)
theorem wp_repV {b c:AV} {l:List AV} {va vb:Value} (ha:RP C W (.lst l) va) (hb:RP C W b vb) (h:repV b l=some c):wpAny C.M A (binaryOp .Mult va vb) (Made C W c) E W.s:=by
 rcases l with _ | ⟨x,_ | ⟨_,_⟩⟩ <;> first | (exact aC h; done) | skip
 obtain ⟨n,h1,h⟩:=zAi.mp h
 obtain rfl:=bS h1
 obtain ⟨hn,rfl⟩:=be h
 have hn:=zAk.mp hn
 obtain ⟨p,rfl,vs,k,hl,hps,hv⟩:=ha.lst; obtain ⟨u,rfl⟩:=hb.int
 obtain ⟨v,vs',hvs,hx,rfl⟩:=hv
 obtain rfl:vs=#[v]:=by rw [← Array.toArray_toList (xs:=vs),hvs]
 have hsm:=jW hn.1
 have hsz:n.toNat<=100000:=zA9 hn.2
 refine wpAny_binaryOp_repeat_ref (T:="list") (U:="int") (by decide) ⟨_,hl,rfl⟩ (fun s'=>typeIs_int s' n u) noFill_list_mul F.fills_int_mul F.slot_int_rmul repeat_list F.slot_int_index.lookup
  (call_meets F.slot_int_rmul (typeIs_int W.s n u) F.entry_int_rmul (F.args_int_rmul_2 _ _) (int___rmul___int_list n u p #[v] k)
   ⟨hl,rfl,⟨_,hl,rfl⟩,call_meets F.slot_list_mul ⟨_,hl,rfl⟩ F.entry_list_mul (F.args_list_mul_2 _ _)
    (AutoListH.list___mul___list_int_3 p #[v] k n u (by simp [Builtin.List.listFitsIndex]; lia) (by have hq:sizeLine=16777216:=rfl; simp; lia) (by have hq:sizeLine=16777216:=rfl; simp [Builtin.List.listTooLong]; lia))
    ⟨hl,?_⟩⟩)
 have hr:=m6 (C:=C) hx n.toNat #[] [] .nil
 refine Made.pushLst (l:=j6 x n.toNat) (vs:=List.foldl (fun x1 x2=>x1++x2) #[] (zC1 n.toNat #[v])) ?_ hr
 rw [hr.size,zDb,jG]; exact zAj hsz (by decide +kernel)
theorem wp_binV {op:Operator} {a b c:AV} {va vb:Value} (ha:RP C W a va) (hb:RP C W b vb) (h:binV op a b=some c):wpAny C.M A (binaryOp op va vb) (Made C W c) E W.s:=by
 by_cases hop:op=.Add
 ·subst hop; exact wp_addV ha hb h
 have key:∀ {f:Int->Int->Option AV} {Q:Prop},on2 a b f=some c->(∀ x y t u,f x y=some c->va=.int x t->vb=.int y u->Q)->Q:=fun h k=>by
  obtain ⟨x,y,rfl,rfl,h⟩:=lK h
  obtain ⟨t,rfl⟩:=ha.int; obtain ⟨u,rfl⟩:=hb.int
  exact k x y t u h rfl rfl
 by_cases hmul:op=.Mult
 ·subst hmul
  cases hl:lX a with
  | some l=>obtain rfl:=ee hl; exact wp_repV ha hb h
  | none =>
  have h:(lX a).elim _ (repV b)=some c:=h
  rw [hl] at h
  refine key h fun x y t u h e1 e2=>?_
  subst e1; subst e2
  obtain ⟨hs,rfl⟩:=be h
  exact PyProof.Rows.mul_int Made.int ((zBw.mp hs).elim (fun q=>IntMulOk.of_left (lz q)) fun q=>IntMulOk.of_right (lz q))
 cases op <;> first | exact absurd rfl hop | exact absurd rfl hmul | (exact aC h; done) | refine key h fun x y t u h e1 e2=>?_ <;> subst e1 <;> subst e2
 ·cases h; exact sub_int' Made.int
 ·obtain ⟨hs,rfl⟩:=be h
  exact mod_int' (lw hs).1 Made.int
 ·obtain ⟨hs,rfl⟩:=be h
  exact pow_int_small hs.1 (by lia) (by lia) Made.int
 ·obtain ⟨hs,rfl⟩:=be h
  obtain ⟨h0,hy⟩:=lw hs
  exact PyProof.Rows.floordiv_int h0 Made.int (.inl (PyProof.noPylong_of_log2 (Nat.lt_trans (mo h0 hy) (by decide))))
theorem wp_unV {op:UnaryOp} {a c:AV} {va:Value} (ha:RP C W a va) (h:unV op a=some c):wpAny C.M A (unaryOp op va) (Made C W c) E W.s:=by
 cases op <;> first | (exact aC h; done) | skip
 ·cases a <;> first | (exact aC h; done) | skip
  cases h
  obtain rfl:=ha.bool
  exact not_value (wpAny_truthy_bool (.val (h:=W.h) (tk:=W.s.toks) .refl rfl rfl))
 ·obtain ⟨x,h1,rfl⟩:=zAo.mp h
  obtain rfl:=bS h1
  obtain ⟨t,rfl⟩:=ha.int
  exact PyProof.Rows.neg_int Made.int
end
section
variable {X:Fx} {W:Wd} {S:S}
noncomputable abbrev SndM (X:Fx) (e:Expr) (d:D AV):Prop:=∀ S W,Inv X S W->Snd X true (RM X) (eval e X.env) (d S) W
theorem SndM.v {e:Expr} {d:D AV} (h:SndM X e d):SndE X e d:=fun S W I=>(h S W I).freeze
theorem SndE.p {e:Expr} {d:D AV} (h:SndE X e d):jl X e d:=fun S W I=>(h S W I).mono fun _ _ _ r=>.of r
theorem snd_binop {l r:Expr} {op:Operator} {p:Pos} {dl dr:D AV} (hl:jl X l dl) (hr:jl X r dr):SndM X (.BinOp l op r p) (aj op dl dr):=fun S W I=>by
 rw [eval_BinOp]
 exact (hl S W I).bind fun a va S₁ WA _ GA rA=>(hr S₁ WA GA.inv).holding.bind fun b vb SA WB _ GB rB =>
  .stand (.deref GB.inv (rA.le GA.inv GB.ext) fun a' ra=>.deref GB.inv rB fun b' rb=>.made GB.inv fun c hc=>wpAny_operateT (wp_binV ra rb hc))
theorem snd_unop {e:Expr} {op:UnaryOp} {p:Pos} {d:D AV} (h:jl X e d):SndE X (.UnaryOp op e p) (dUn op d):=fun S W I=>by
 rw [show eval (.UnaryOp op e p) X.env=(do let v ← eval e X.env; standAt p; holding [v] (unaryOp op v)) from rfl]
 exact (h S W I).bind fun a va S₁ WA _ GA rA=>.stand (.deref GA.inv rA fun a' ra=>(Snd.made GA.inv fun c hc=>zA2 (wp_unV ra hc)).freeze)
end
section
variable {C:Cx} {W:Wd}
set_option tactic.hygienic true
mutual
theorem VRep.reads:∀ {a:AV} {v:Value},gb a=true->VRep C W a v->(∃ as,Reads W.h v (kA a) as)/\(kA a).canLay0=true
 | .none,v,_,r=>by obtain rfl:=r; exact ⟨⟨_,.none⟩,rfl⟩
 | .bool b,v,_,r=>by obtain rfl:=r; exact ⟨⟨_,.bool b⟩,rfl⟩
 | .int i,v,_,r=>by obtain ⟨t,rfl⟩:=r; exact ⟨⟨_,.int i t⟩,rfl⟩
 | .str x,v,_,r=>by obtain ⟨h1,t,rfl⟩:=r; exact ⟨⟨_,.str x t⟩,h1.ok⟩
 | .tup l,v,d,r=>by
  obtain ⟨a,rfl,_,vs,n,ha,_,hv⟩:=r
  obtain ⟨⟨as,hr⟩,hc⟩:=VReps.reads (l:=l) d hv
  exact ⟨⟨_,.tuple ha rfl rfl hr⟩,hc⟩
 | .lst l,v,d,r=>by
  obtain ⟨a,rfl,_,vs,n,ha,_,hv⟩:=r
  obtain ⟨⟨as,hr⟩,hc⟩:=VReps.reads (l:=l) d hv
  exact ⟨⟨_,.list ha rfl rfl hr⟩,hc⟩
 | .dct _ _,_,d,_=>absurd d zAn
 | .sett _,_,d,_=>absurd d zAn
 | .exc _,_,d,_=>absurd d zAn
 | .obj _ _,_,d,_=>absurd d zAn
 | .cel _,_,d,_=>absurd d zAn
 | .pl _,_,d,_=>absurd d zAn
theorem VReps.reads:∀ {l:List AV} {vs:List Value},dataVs l=true->VReps C W l vs->(∃ as,ReadsAll W.h vs (toDs l) as)/\PyData.canLayAll0 (toDs l)=true
 | [],vs,_,r=>by obtain rfl:=r; exact ⟨⟨_,.nil⟩,rfl⟩
 | x::l,vs,d,r=>by
  obtain ⟨v,vs',rfl,h1,h2⟩:=r
  have d':=zAk.mp d
  obtain ⟨⟨as,r1⟩,c1⟩:=VRep.reads d'.1 h1
  obtain ⟨⟨bs,r2⟩,c2⟩:=VReps.reads d'.2 h2
  exact ⟨⟨_,.cons r1 r2⟩,zAk.mpr ⟨c1,c2⟩⟩
end
set_option tactic.hygienic false
theorem RP.reads {a:AV} {v:Value} (hd:gb a=true) (r:RP C W a v):(∃ as,Reads W.h v (kA a) as)/\(kA a).canLay0=true:=by
 cases r with
 | val r=>exact r.reads hd
 | con e r =>
  subst e
  cases a <;> first | exact r.elim | (exact absurd hd zAn) | skip
  ·obtain ⟨vs,n,h1,h2,h3⟩:=r
   obtain ⟨⟨as,hr⟩,hc⟩:=h3.reads hd
   exact ⟨⟨_,.tuple h1 rfl rfl hr⟩,hc⟩
  ·obtain ⟨vs,n,h1,h2,h3⟩:=r
   obtain ⟨⟨as,hr⟩,hc⟩:=h3.reads hd
   exact ⟨⟨_,.list h1 rfl rfl hr⟩,hc⟩
end
set_option tactic.hygienic true
mutual
theorem hJ:∀ a:AV,(kA a).depth<=dG a
 | .none | .bool _ | .int _ | .str _ | .dct _ _ | .sett _ | .exc _ | .obj _ _ | .cel _ | .pl _=>zAy 0
 | .tup l=>zBc (depth_toDs l)
 | .lst l=>zBc (depth_toDs l)
theorem depth_toDs:∀ l:List AV,PyData.depthAll (toDs l)<=depthVs l
 | []=>zAy 0
 | x::r=>Nat.max_le.mpr ⟨zAj (hJ x) (Nat.le_max_left _ _),zAj (depth_toDs r) (Nat.le_max_right _ _)⟩
end
set_option tactic.hygienic false
theorem mJ {u d e:Nat} (hu:u<=8000) (hd:d<=64) (he:e<=1):u+e+d < cLine:=zBi (zCs (zCs hu he) hd) (by decide)
structure EqSpec (a b:AV) (r:Bool):Prop where
 l:gb a=true
 s:gb b=true
 d:dG a<=64 ∨ dG b<=64
 e:r=PyData.eqv (kA a) (kA b)
theorem lu {a b:AV} {r:Bool} (h:eqD a b=some r):EqSpec a b r:=by
 obtain ⟨hc,rfl⟩:=be h
 have hc:=zAk.mp hc
 have h1:=zAk.mp hc.1
 exact ⟨h1.1,h1.2,(zBw.mp hc.2).imp of_decide_eq_true of_decide_eq_true,rfl⟩
theorem elim_two {α:Type} {o p:Option α} {d e:Option Bool} {f:α->α->Option Bool} {r:Bool} (h:(o.elim d fun x=>p.elim e fun y=>f x y)=some r):d=some r ∨ e=some r ∨ ∃ x y,o=some x/\p=some y/\f x y=some r:=by
 cases o with
 | none=>exact .inl h
 | some x=>cases p with
  | none=>exact .inr (.inl h)
  | some y=>exact .inr (.inr ⟨x,y,rfl,rfl,h⟩)
theorem eqV_spec {a b:AV} {r:Bool} (h:eqV a b=some r):EqSpec a b r:=by
 rcases elim_two h with h | h | ⟨x,y,h1,h2,h⟩
 ·rcases elim_two h with h | h | ⟨x,y,h1,h2,h⟩
  ·exact lu h
  ·exact lu h
  ·obtain rfl:=bS h1; obtain rfl:=bS h2; cases h; exact ⟨rfl,rfl,.inl (zBa _),rfl⟩
 ·exact lu h
 ·obtain rfl:=jf h1; obtain rfl:=jf h2; cases h; exact ⟨rfl,rfl,.inl (zBa _),dn⟩
theorem min_depth {a b:AV} (h:dG a<=64 ∨ dG b<=64):min (kA a).depth (kA b).depth<=64:=h.elim (fun q=>zAj (Nat.min_le_left _ _) (zAj (hJ a) q)) fun q=>zAj (zBz _ _) (zAj (hJ b) q)
section
variable {C:Cx} {A:Around} {W:Wd} {E:Value->Shared->Prop}
theorem Made.bool {b:Bool} {tk:Nat}:Made C W (.bool b) (.bool b) { W.s with toks:=tk }:=.val (h:=W.h) (tk:=tk) .refl rfl rfl
theorem wp_eqV {a b:AV} {va vb:Value} {r:Bool} (hu:A.units<=8000) (ha:RP C W a va) (hb:RP C W b vb) (h:eqV a b=some r) :
  wpAny C.M A (compareOp .Eq va vb) (Made C W (.bool r)) E W.s/\wpAny C.M A (compareOp .NotEq va vb) (Made C W (.bool (!r))) E W.s:=by
 obtain ⟨h1,h2,h3,rfl⟩:=eqV_spec h
 obtain ⟨⟨as,ra⟩,ca⟩:=ha.reads h1
 obtain ⟨⟨bs,rb⟩,cb⟩:=hb.reads h2
 have hd:A.units+min (kA a).depth (kA b).depth < cLine:=mJ (e:=0) hu (min_depth h3) (zBa _)
 exact ⟨SeqAt.compareEq_reads ra rb ca cb hd Made.bool,SeqAt.compareNe_reads ra rb ca cb hd Made.bool⟩
theorem lN {a:AV} {v:Value} (r:RP C W a v):isNone a=(v == Value.none):=by
 cases r with
 | val r =>
  cases a
  ·obtain rfl:=r; rfl
  ·obtain rfl:=r; rfl
  ·obtain ⟨t,rfl⟩:=r; rfl
  ·obtain ⟨_,t,rfl⟩:=r; rfl
  all_goals first | exact r.elim | (obtain ⟨_,rfl,_⟩:=r; rfl)
 | con e r=>subst e; cases a <;> first | exact r.elim | rfl
theorem gT {v:Value} {a:AV} (r:RP C W a v) (h:isNone a=true):v=Value.none:=beq_iff_eq.mp ((lN r).symm.trans h)
theorem jX {k:Str} {w:Value} {l:List (Str × Value)}:valueAt ((k,w)::l) k=some w:=by
 unfold valueAt; rw [List.find?_cons,show decide ((k,w).1=k)=true from decide_eq_true rfl]; rfl
theorem iW {k x:Str} {w:Value} {l:List (Str × Value)} (h:x ≠ k):valueAt ((x,w)::l) k=valueAt l k:=by
 unfold valueAt; rw [List.find?_cons,show decide ((x,w).1=k)=false from decide_eq_false h]
theorem seq_ne {k x:Str} (h:x ≠ k):seq k x=false:=by rw [dn]; exact beq_eq_false_iff_ne.mpr (Ne.symm h)
theorem jQ {k:Str}:∀ {ss:List Str} {ws:List Value},ss.length=ws.length->(valueAt (ss.zip ws) k).isSome=im (.str k) (ss.map .str)
 | [],_,_=>rfl
 | _::_,[],h=>nomatch h
 | x::ss,w::ws,h=>by
  have ih:=jQ (k:=k) (ss:=ss) (ws:=ws) (Nat.succ.inj h)
  show (valueAt ((x,w)::ss.zip ws) k).isSome=(seq k x || im (.str k) (ss.map .str))
  by_cases hx:x=k
  ·subst hx; rw [jX,fi]; rfl
  ·rw [iW hx,seq_ne hx,ih]; rfl
theorem jI {k:Str} {x:AV}:∀ {ss:List Str} {ws:List Value} {vs:List AV},VReps C W vs ws->cW (.str k) (ss.map .str) vs=some x->∃ w,valueAt (ss.zip ws) k=some w/\VRep C W x w
 | [],_,_,_,h=>nomatch h
 | y::ss,ws,[],_,h=>nomatch h
 | y::ss,ws,v::vs,hv,h=>by
  obtain ⟨w,ws',rfl,h1,h2⟩:=hv
  have h:(if seq k y then some v else cW (.str k) (ss.map .str) vs)=some x:=h
  show ∃ w',valueAt ((y,w)::ss.zip ws') k=some w'/\_
  by_cases hx:y=k
  ·subst hx
   rw [fi,if_pos rfl] at h
   exact ⟨w,jX,Option.some.inj h ▸ h1⟩
  ·rw [seq_ne hx,if_neg zAn] at h
   rw [iW hx]
   exact jI h2 h
set_option tactic.hygienic true in
theorem wp_in (hu:A.units<=8000) {a b:AV} {va vb:Value} (ha:RP C W a va) (hb:RP C W b vb) {r:Bool} (h:inV a b=some r) :
  wpAny C.M A (compareOp .In va vb) (Made C W (.bool r)) E W.s/\wpAny C.M A (compareOp .NotIn va vb) (Made C W (.bool (!r))) E W.s:=by
 cases b <;> first | (exact aC h; done) | skip
 ·rename_i l
  obtain ⟨hc,rfl⟩:=be (p:=(gb a && dataVs l && decide (dG a<=64))=true) h
  have hc:=zAk.mp hc
  have h1:=zAk.mp hc.1
  obtain ⟨⟨as,ra⟩,ca⟩:=ha.reads h1.1
  obtain ⟨⟨bs,rb⟩,cb⟩:=hb.reads (a:=.lst l) h1.2
  have hd:A.units+1+min (PyData.depthAll (toDs l)) (kA a).depth < cLine:=mJ hu (zAj (zBz _ _) (zAj (hJ a) (of_decide_eq_true hc.2))) (zAy _)
  exact ⟨SeqAt.in_list_reads rb ra cb ca hd Made.bool,SeqAt.notIn_list_reads rb ra cb ca hd Made.bool⟩
 ·rename_i ks vs
  obtain ⟨ad,rfl,o,ss,ws,h1,h2,rfl,h3,h4⟩:=hb.dct
  obtain ⟨hk,rfl⟩:=be (p:=m4 a=true) h
  cases a <;> first | (exact ff hk; done) | skip
  rename_i x
  obtain ⟨_,t,rfl⟩:=ha.str
  have hD:W.h.DictOf (strKind C.prog C.w) ad (ss.zip ws):=zBk.mpr ⟨o,h1,h3.is⟩
  have e:=jQ (k:=x) h3.len
  exact ⟨wpAny_in_of (strKind_is C.prog C.w x t) h2 hD.mapOf (by rw [← e]; exact Made.bool),wpAny_notIn_of (strKind_is C.prog C.w x t) h2 hD.mapOf (by rw [← e]; exact Made.bool)⟩
theorem map_not {o:Option Bool} {r:Bool} (h:o.map (!·)=some r):∃ r',o=some r'/\r=!r':=(zAo.mp h).imp fun _ q=>⟨q.1,q.2.symm⟩
theorem wp_cmpV {op:CmpOp} {a b:AV} {va vb:Value} {r:Bool} (hu:A.units<=8000) (ha:RP C W a va) (hb:RP C W b vb) (h:lH op a b=some r):wpAny C.M A (compareOp op va vb) (Made C W (.bool r)) E W.s:=by
 have key:∀ {f:Int->Int->Option Bool},on2 a b f=some r->(∀ x y t u,f x y=some r->wpAny C.M A (compareOp op (.int x t) (.int y u)) (Made C W (.bool r)) E W.s)->wpAny C.M A (compareOp op va vb) (Made C W (.bool r)) E W.s:=fun h k=>by
  obtain ⟨x,y,rfl,rfl,h⟩:=lK h
  obtain ⟨t,rfl⟩:=ha.int; obtain ⟨u,rfl⟩:=hb.int; exact k x y t u h
 cases op <;> first | (cases h; done) | skip
 ·exact (wp_eqV hu ha hb h).1
 ·obtain ⟨r',h',rfl⟩:=map_not h
  exact (wp_eqV hu ha hb h').2
 ·exact key h fun x y t u q=>by obtain rfl:=Option.some.inj q; exact PyProof.Rows.lt_int Made.bool
 ·exact key h fun x y t u q=>by obtain rfl:=Option.some.inj q; exact PyProof.Rows.le_int Made.bool
 ·exact key h fun x y t u q=>by obtain rfl:=Option.some.inj q; exact PyProof.Rows.gt_int Made.bool
 ·exact key h fun x y t u q=>by obtain rfl:=Option.some.inj q; exact PyProof.Rows.ge_int Made.bool
 ·obtain ⟨hn,rfl⟩:=be (p:=isNone b=true) h
  obtain rfl:=gT hb hn
  exact is_none (by rw [← lN ha]; exact Made.bool)
 ·obtain ⟨hn,rfl⟩:=be (p:=isNone b=true) h
  obtain rfl:=gT hb hn
  exact isNot_none (by rw [← lN ha]; exact Made.bool)
 ·exact (wp_in hu ha hb h).1
 ·obtain ⟨r',h',rfl⟩:=map_not h
  exact (wp_in hu ha hb h').2
end
section
variable {X:Fx} {W:Wd} {S:S}
theorem Fx.Ok.units (F:X.Ok):X.A.units<=8000:=by have:=F.room.2; lia
noncomputable abbrev TrL (X:Fx) (R:Wd->AV->Value->Prop):List (Sem Value)->List (D AV)->Prop:=F2 fun t d=>∀ S W,Inv X S W->Snd X true R t (d S) W
noncomputable abbrev RB:Wd->Bool->Bool->Prop:=fun _ a b=>a=b
theorem iy {a:AV} {v:Value} (I:Inv X S W) (r:VRep X.C W a v):Snd X true RB (truthy v) (Mine.opt (eN a) S) W:=by
 refine Snd.opt fun b hb=>?_
 cases a <;> first | (exact aC hb; done) | skip
 cases hb; obtain rfl:=r; exact wpAny_truthy_bool (.mk rfl (.refl I) rfl)
noncomputable abbrev trd (d:D AV):D Bool:=aH d fun v=>Mine.opt (eN v)
theorem bR {α β γ:Type} (m:D α) (f:α->D β) (g:β->D γ):aH (aH m f) g=aH m fun a=>aH (f a) g:=by
 funext S; unfold aH ax; cases m S <;> rfl
theorem snd_boolOp {pos:Pos} {op:BoolOp} {ts:List (Sem Value)} {ds:List (D AV)} (h:TrL X (RV X) ts ds):∀ S W,Inv X S W->Snd X true (RV X) (boolOp pos op ts) (az op ds S) W:=by
 induction h with
 | nil=>exact fun _ _ _=>.stk
 | cons h t ih =>
  cases t with
  | nil=>exact h
  | cons h' t' =>
   intro S W I
   refine Snd.bind (h S W I) fun a va S₁ WA _ GA rA=>.stand (Snd.bind (iy GA.inv rA).holding fun b b' SA WB _ GB rB=>?_)
   obtain rfl:b=b':=rB
   have hrec:=ih SA WB GB.inv
   cases op <;> cases b <;> first | exact .pure GB.inv (VRep.le rA GB.ext) | exact hrec
noncomputable abbrev SndT (X:Fx) (e:Expr) (d:D AV):Prop:=∀ S W,Inv X S W->Snd X true RB (isTrue e X.env (eval e X.env)) (trd d S) W
noncomputable abbrev TrT (X:Fx):List Expr->List (D AV)->Prop:=F2 (SndT X)
theorem Snd.bind_pure {ev:Bool} {α β:Type} {R:Wd->β->α->Prop} {m:Sem α} {o:Out β} {f:α->Sem α} (h:Snd X ev R m o W) (hf:∀ a,f a=Pure.pure a):Snd X ev R (m >>= f) o W:=by
 obtain rfl:f=Pure.pure:=funext hf
 exact h.wp fun Q E q=>zAa (zAs q (fun _ _ q=>zAh q) fun _ _ q=>q)
set_option tactic.hygienic true in
theorem trd_bool {op:BoolOp} {d d':D AV} {ds:List (D AV)}:trd (az op (d::d'::ds))=aH (trd d) fun b=>match op,b with | .And,false=>af false | .Or,true=>af true | _,_=>trd (az op (d'::ds)):=by
 funext S
 show ax (ax (d S) _) _=ax (ax (d S) _) _
 cases d S with
 | stuck=>rfl
 | exc c S'=>rfl
 | ok a S' =>
  show ax (ax (Mine.opt (eN a) S') _) _=ax (Mine.opt (eN a) S') _
  cases a <;> first | rfl | skip
  rename_i b
  cases op <;> cases b <;> rfl
theorem snd_allTrue {op:BoolOp} {es:List Expr} {ds:List (D AV)} (h:TrT X es ds):∀ S W,Inv X S W->Snd X true RB (allTrue op es X.env) (trd (az op ds) S) W:=by
 induction h with
 | nil=>exact fun _ _ _=>.stk
 | cons h t ih =>
  cases t with
  | nil=>exact fun S W I=>Snd.bind_pure (h S W I) fun b=>by cases op <;> cases b <;> rfl
  | cons h' t' =>
   intro S W I
   rw [trd_bool]
   refine Snd.bind (h S W I) fun b b' SA WB _ GB rB=>?_
   obtain rfl:b=b':=rB
   have hrec:=ih SA WB GB.inv
   cases op <;> cases b <;> first | exact .pure GB.inv rfl | exact hrec
theorem Snd.cmp (hu:X.A.units<=8000) (I:Inv X S W) {op:CmpOp} {a b:AV} {va vb:Value} (ra:RP X.C W a va) (rb:RP X.C W b vb):Snd X true (RV X) (compareOp op va vb) (Mine.opt ((lH op a b).map .bool) S) W :=
 (Snd.made I fun c hc=>by obtain ⟨q,hq,rfl⟩:=zAo.mp hc; exact wp_cmpV hu ra rb hq).freeze
theorem snd_cmp (hu:X.A.units<=8000) {op:CmpOp} {pos:Pos} {t:Sem Value} {o:Out AV} {a:AV} {va:Value} (I:Inv X S W) (h:Snd X true (RQ X) t o W) (ha:RQ X W a va) :
  Snd X true (RV X) (compareChain pos va [op] [t]) (ax o fun b=>aH (Mine.deref a) fun a'=>aH (Mine.deref b) fun b'=>Mine.opt ((lH op a' b').map .bool)) W :=
 Snd.bind h.holding fun b vb S₁ WA _ GA rA=>.stand (.deref GA.inv (ha.le I GA.ext) fun a' ra=>.deref GA.inv rA fun b' r'=>(Snd.cmp hu GA.inv ra r').wp fun _ _=>wpAny_operateT)
theorem snd_test (hu:X.A.units<=8000) {op:CmpOp} {pos:Pos} {t:Sem Value} {o:Out AV} {a:AV} {va:Value} (I:Inv X S W) (h:Snd X true (RQ X) t o W) (ha:RQ X W a va) :
  Snd X true RB (testChain pos va [op] [t]) (ax o fun b=>aH (Mine.deref a) fun a'=>aH (Mine.deref b) fun b'=>aH (Mine.opt ((lH op a' b').map .bool)) fun v=>Mine.opt (eN v)) W :=
 Snd.bind h.holding fun b vb S₁ WA _ GA rA=>.stand (.deref GA.inv (ha.le I GA.ext) fun a' ra=>.deref GA.inv rA fun b' r' =>
  Snd.bind ((Snd.cmp hu GA.inv ra r').wp fun _ _=>wpAny_operateT) fun c vc SA WB _ GB rB=>(iy GB.inv rB).holding)
theorem snd_link {α β:Type} {R:Wd->α->β->Prop} (hu:X.A.units<=8000) {op:CmpOp} {pos:Pos} {t:Sem Value} {o:Out AV} {a:AV} {va:Value} (I:Inv X S W) (h:Snd X true (RQ X) t o W) (ha:RQ X W a va)
  {K N:Value->Sem β} {k:Int->D α} {no:D α} (hT:∀ S₁ WA i u,Inv X S₁ WA->Snd X true R (K (.int i u)) (k i S₁) WA) (hF:∀ S₁ WA,Inv X S₁ WA->Snd X true R (N (.bool false)) (no S₁) WA) :
  Snd X true R (do
    let rv ← holding [va] t
    standAt pos
    let c ← holding [va,rv] (compareOp op va rv)
    release [va,rv] [c]
    if ← holding [c,rv] (truthy c) then K rv else N c)
   (ax o fun b=>aH (Mine.deref a) fun a'=>aH (Mine.deref b) fun b'=>aH (Mine.opt (gP b')) fun i=>aH (Mine.opt (lH op a' (.int i))) fun t=>if t then k i else no) W:=by
 refine Snd.bind h.holding fun b vb S₁ WA _ GA rA=>.stand (.deref GA.inv (ha.le I GA.ext) fun a' ra=>.deref GA.inv rA fun b' r'=>?_)
 cases hi:gP b' with
 | none=>exact .stk
 | some i =>
 obtain rfl:=bS hi
 show Snd _ _ _ _ (ax (Mine.opt (lH op a' (.int i)) S₁) _) _
 cases hq:lH op a' (.int i) with
 | none=>exact .stk
 | some q =>
  obtain ⟨u,rfl⟩:=r'.int
  have key:Snd X true (fun W b v=>b=q/\VRep X.C W (.bool b) v) (holding [va,.int i u] (compareOp op va (.int i u))) (.ok q S₁) WA:=fun _=>zA2 (zAs (wp_cmpV hu ra r' hq) (fun _ _ m=>by
   have:=oK (ev:=true) GA.inv m
   cases this with
   | mk e g r=>cases e; cases r with
    | val k r=>exact .mk rfl g ⟨rfl,r⟩
    | new _ k _ _=>exact ff k) fun _ _ q=>q)
  refine Snd.bind (o:=.ok q S₁) (f:=fun t=>if t then k i else no) key fun q' v SA WB e₂ GB rB=>?_
  cases e₂
  obtain ⟨_,rB⟩:=rB
  obtain rfl:v=.bool q:=rB
  refine .skip (fun _ _ q=>wpAny_release q) (.skip (a:=q) (fun _ _ z=>zA2 (wpAny_truthy_bool z)) ?_)
  cases q with
  | true=>exact hT _ _ _ _ GB.inv
  | false=>exact hF _ _ GB.inv
noncomputable abbrev RVs (X:Fx):Wd->List AV->List Value->Prop:=fun W l vs=>VReps X.C W l vs
structure ArgE (X:Fx) (R:Wd->AV->Value->Prop) (e:Expr) (d:D AV):Prop where
 snd:∀ S W,Inv X S W->Snd X true R (eval e X.env) (d S) W
 star:PySem.W.isStarred e=true->d=Mine.stk
noncomputable abbrev TrE (X:Fx) (R:Wd->AV->Value->Prop):List Expr->List (D AV)->Prop:=F2 (ArgE X R)
theorem bN {e:Expr} {es:List Expr} {env:Env} (h:¬ PySem.W.isStarred e=true):starEach (e::es) env=(false,eval e env)::starEach es env:=by
 cases e <;> first | rfl | exact absurd rfl h
noncomputable def RLs (R:Wd->AV->Value->Prop) (W:Wd) (l:List AV) (vs:List Value):Prop:=F2 (R W) l vs
theorem gJ {R:Wd->AV->Value->Prop} (hR:∀ {S W W' a v},R W a v->Inv X S W->EX X true W W'->R W' a v) {pos:Pos} {es:List Expr} {ds:List (D AV)} (h:TrE X R es ds):∀ S W,Inv X S W->Snd X true (RLs R) (spliced (backTo pos (starEach es X.env))) (br ds S) W:=by
 induction h with
 | nil=>exact fun S W I=>.pure I .nil
 | @cons e d es ds h t ih =>
  intro S W I
  by_cases hs:PySem.W.isStarred e=true
  ·rw [h.star hs]; exact .stk
  ·rw [bN hs]
   exact Snd.bind (h.snd S W I) fun a va S₁ WA _ GA rA=>.skip (a:=_) (fun _ _ q=>zAh q) (Snd.bind (ih S₁ WA GA.inv).holding fun vs ws SA WB _ GB rB=>.pure GB.inv (.cons (hR rA GA.inv GB.ext) rB))
theorem RLs.v {W:Wd} {l:List AV} {vs:List Value} (h:RLs (RV X) W l vs):VReps X.C W l vs:=by
 induction h with
 | nil=>exact .nil
 | cons h t ih=>exact .cons h ih
theorem iM {pos:Pos} {es:List Expr} {ds:List (D AV)} (h:TrE X (RV X) es ds) (I:Inv X S W):Snd X true (RVs X) (spliced (backTo pos (starEach es X.env))) (br ds S) W :=
 (gJ (R:=RV X) (fun r _ x=>VRep.le r x) h S W I).mono fun _ _ _ r=>r.v
theorem oD {l:List AV} {vs:List Value} (I:Inv X S W) (h:VReps X.C W l vs):Snd X true (RV X) (newTuple vs) (Mine.opt (mP l) S) W :=
 (Snd.made I fun b hb=>by
  obtain ⟨hsz,rfl⟩:=kY hb
  exact zBn (Made.pushTup (vs:=vs.toArray) (h.fit hsz) h) (h.fit hsz)).freeze
theorem snd_newList {l:List AV} {vs:List Value} (I:Inv X S W) (h:VReps X.C W l vs):Snd X true (RM X) (newList vs) (Mine.opt (bD l) S) W :=
 Snd.made I fun b hb=>by
  obtain ⟨hsz,rfl⟩:=dA hb
  exact zBn (Made.pushLst (vs:=vs.toArray) (h.fit hsz) h) (h.fit hsz)
theorem snd_tuple {es:List Expr} {ds:List (D AV)} {k:Nat} {p:Pos} (h:TrE X (RV X) es ds):SndE X (.Tuple es k p) (aJ ds):=fun S W I=>by
 rw [arm_eval_Tuple]
 exact .stand (Snd.bind (iM h I) fun l vs S₁ WA _ GA rA=>oD GA.inv rA)
theorem snd_list {es:List Expr} {ds:List (D AV)} {p:Pos} (h:TrE X (RV X) es ds):SndM X (.List es p) (bO ds):=fun S W I=>by
 rw [arm_eval_List]
 exact .stand (Snd.bind (iM h I) fun l vs S₁ WA _ GA rA=>snd_newList GA.inv rA)
end
theorem fit {j n:Nat} (h:j < n) (hn:n<=ou):(j:Int) < 2 ^ 63:=by
 have hl:ou=16777216:=rfl
 lia
theorem fit_neg {k:Int} {n:Nat} (h:0<=k+n) (hn:n<=ou):-(n:Int)<=k/\-(2 ^ 63)<=k:=by
 have hl:ou=16777216:=rfl
 lia
set_option tactic.hygienic true in
theorem hH {slice:Expr} {o i:Value} (h:∀ a b p,slice ≠ .Slice a b none p):subscripted slice false o i=operate [o,i] (getItem o i):=by
 cases slice <;> first | rfl | skip
 rename_i a b c p
 cases c with
 | none=>exact absurd rfl (h a b p)
 | some _=>rfl
section
variable {C:Cx} {A:Around} {W:Wd} {E:Value->Shared->Prop}
theorem VRep.int {i:Int} {v:Value} {a:AV} (r:VRep C W a v) (h:gP a=some i):∃ t,v=.int i t:=by obtain rfl:=bS h; exact r
theorem kB {vs:Array Value} {l:List AV} {j:Nat} {a:AV} (hv:VReps C W l vs.toList) (h:l[j]?=some a):∃ x,vs[j]?=some x/\VRep C W a x/\j < vs.size:=by
 obtain ⟨x,hx,hr⟩:=hv.get h
 rw [zCh] at hx
 exact ⟨x,hx,hr,(zBg.mp hx).1⟩
theorem VRep.tk {a:AV} {v:Value} {tk:Nat} (r:VRep C W a v):VRep C (W.to W.h tk) a v:=r.mono ((Ge.sim (C:=C) .refl).grow fun _ q=>q.elim)
inductive Had (C:Cx) (W:Wd) (c:AV):Value->Shared->Prop
 | mk {tk:Nat} {v:Value} (r:VRep C (W.to W.h tk) c v):Had C W c v { W.s with toks:=tk }
set_option tactic.hygienic true in
theorem wp_idx {v slice:Expr} {c i r:AV} {va vi:Value} (hsl:∀ a b p,slice ≠ .Slice a b none p) (hc:RP C W c va) (hi:VRep C W i vi) (h:idxV c i=some r):wpAny C.M A (subscriptTail v slice va vi) (Had C W r) E W.s:=by
 have had:∀ {x:Value},VRep C W r x->Had C W r x W.s:=fun q=>.mk (W:=W) (tk:=W.s.toks) q
 cases c <;> first | (exact aC h; done) | skip
 ·rename_i x
  obtain ⟨k,h1,h⟩:=zAi.mp h
  obtain ⟨u,rfl⟩:=hi.int h1
  obtain ⟨h0,h⟩:=ed h
  obtain ⟨j,rfl⟩:=zB1 h0
  obtain ⟨ok,t,rfl⟩:=hc.str
  obtain ⟨cp,he,rfl⟩:=zAo.mp h
  have he:x.cps[j]?=some cp:=he
  have hlt:=(zBg.mp he).1
  refine tail_any (T:="str") (typeIs_str W.s x t) F.slot_str_getitem.lookup (PyProof.Rows.getItem_str (c:=cp) ?_ ?_ (.mk ⟨⟨?_,by show (1:Nat)<=ou; decide⟩,_,rfl⟩)) (hH hsl)
  ·rw [decide_eq_false (by lia),decide_eq_false (Int.not_le.mpr (fit hlt ok.sz))]; rfl
  ·rw [seqIndex_of h0 (show (j:Int) < x.length from zC5.mpr hlt)]; exact he
  ·have hm:=Array.all_eq_true.mp (show x.cps.all (· < 0x110000)=true from ok.ok) j hlt
   rw [(zBg.mp he).2] at hm
   show (#[cp]).all (· < 0x110000)=true
   simpa using hm
 ·rename_i l
  obtain ⟨k,h1,h⟩:=zAi.mp h
  obtain ⟨u,rfl⟩:=hi.int h1
  obtain ⟨h0,h⟩:=ed h
  obtain ⟨j,rfl⟩:=zB1 h0
  obtain ⟨a,rfl,vs,n,ha,hsz,hv⟩:=hc.tup
  obtain ⟨x,hx,hr,hlt⟩:=kB hv h
  exact tail_any (T:="tuple") ⟨_,ha,rfl⟩ F.slot_tuple_getitem.lookup (PyProof.Rows.getItem_tuple (items:=vs) ⟨_,ha,rfl,n,rfl⟩ (by lia) (fit hlt hsz) (seqIndex_of h0 (zC5.mpr hlt)) hx (had hr)) (hH hsl)
 ·rename_i l
  obtain ⟨k,h1,h⟩:=zAi.mp h
  obtain ⟨u,rfl⟩:=hi.int h1
  obtain ⟨a,rfl,vs,n,ha,hsz,hv⟩:=hc.lst
  have ha:W.h.PlainList a vs:=⟨n,ha⟩
  have fin:∀ {Q:wpAny C.M A (getItem (.ref a) (.int k u)) (Had C W r) E W.s},wpAny C.M A (subscriptTail v slice (.ref a) (.int k u)) (Had C W r) E W.s:=fun {Q}=>tail_any ha.isList.typeIs F.slot_list_getitem.lookup Q (hH hsl)
  unfold at? at h
  by_cases h0:0<=k
  ·rw [if_pos h0] at h
   obtain ⟨x,hx,hr,hlt⟩:=kB hv h
   obtain ⟨j,rfl⟩:=zB1 h0
   exact fin (Q:=wpAny_getItem_list ha.isList h0 (fit hlt hsz) hx (had hr))
  ·rw [if_neg h0] at h
   obtain ⟨h2,h⟩:=ed h
   obtain ⟨x,hx,hr,hlt⟩:=kB hv h
   rw [← hv.size] at h2 hx
   exact fin (Q:=wpAny_getItem_list_neg ha.isList (Int.not_le.mp h0) (fit_neg h2 hsz).1 (fit_neg h2 hsz).2 hx (had hr))
 ·rename_i ks vs
  obtain ⟨hk,h'⟩:=ed (p:=m4 i=true) h
  clear h
  cases i <;> first | (exact ff hk; done) | skip
  rename_i x
  obtain ⟨ad,rfl,o,ss,ws,h1,h2,rfl,h3,h4⟩:=hc.dct
  have hD:W.h.DictOf (strKind C.prog C.w) ad (ss.zip ws):=zBk.mpr ⟨o,h1,h3.is⟩
  obtain ⟨_,t,rfl⟩:=hi
  obtain ⟨w,hw,hr⟩:=jI h4 h'
  exact tail_any hD.typeIs slot_dict_getitem.lookup (wpAny_getItem_of (strKind_is C.prog C.w x t) hD.mapOf hw (.mk hr.tk)) (hH hsl)
theorem part_of {a:AV} {v:Value} {k:Option Int} (r:VRep C W a v) (h:partOf a=some k):IsPart v k:=by
 cases a <;> first | (exact aC h; done) | skip
 ·obtain rfl:=r; cases h; exact .none
 ·obtain ⟨t,rfl⟩:=r; cases h; exact .int _ t
structure RSl (C:Cx) (W:Wd) (p:AV × AV) (sl:Addr) (vl vu:Value):Prop where
 is:W.h.IsSliceOf sl vl vu .none
 l:VRep C W p.1 vl
 u:VRep C W p.2 vu
set_option tactic.hygienic true in
theorem wp_slc {v:Expr} {lo hi:Option Expr} {p:Pos} {c r:AV} {ab:AV × AV} {va:Value} {sl:Addr} {vl vu:Value} (hc:RP C W c va) (hs:RSl C W ab sl vl vu) (h:kJ c ab.1 ab.2=some r):wpAny C.M A (subscriptTail v (.Slice lo hi none p) va (.ref sl)) (Made C W r) E W.s:=by
 cases c <;> first | (exact aC h; done) | skip
 ·rename_i l
  obtain ⟨hn,h⟩:=ed (p:=isNone ab.2=true) h
  obtain ⟨a,e1,h⟩:=zAi.mp h
  obtain ⟨⟨ha,hb⟩,rfl⟩:=be h
  obtain ⟨j,rfl⟩:=zB1 (Int.le_trans (by decide) ha)
  obtain ⟨u,rfl⟩:=hs.l.int e1
  obtain rfl:=gT (.val hs.u) hn
  obtain ⟨ad,rfl,vs,n,had,hsz,hv⟩:=hc.tup
  refine tail_any (T:="tuple") ⟨_,had,rfl⟩ F.slot_tuple_getitem.lookup (getItem_tuple_from (items:=vs) ⟨_,had,rfl,n,rfl⟩ hs.is (Int.ofNat_le.mp ha) (hv.size ▸ Int.ofNat_le.mp hb) ?_ hsz) rfl
  exact Made.pushTup (vs:=(vs.toList.drop j).toArray) (zAj (by show (vs.toList.drop j).length<=vs.size; rw [zB6,Array.length_toList]; exact Nat.sub_le _ _) hsz) (hv.drop j)
 ·rename_i l
  obtain ⟨l',h3,rfl⟩:=zAo.mp h
  obtain ⟨lo',e1,h4⟩:=zAi.mp h3
  obtain ⟨hi'',e2,rfl⟩:=zAo.mp h4
  obtain ⟨ad,rfl,vs,n,had,hsz,hv⟩:=hc.lst
  have had:W.h.PlainList ad vs:=⟨n,had⟩
  refine tail_any had.isList.typeIs F.slot_list_getitem.lookup (wpAny_getItem_list_slice had.isList hs.is (part_of hs.l e1) (part_of hs.u e2) .none (fun q=>nomatch q) ?_ hsz) rfl
  refine Made.pushLst (vs:=slicePick vs lo' hi'' none) (zAj (slicePick_size_le ..) hsz) ?_
  rw [slicePick_plain,hv.size]
  exact (hv.drop _).take _
end
section
variable {X:Fx} {W:Wd} {S:S}
theorem Snd.had {m:Sem Value} {o:Option AV} (I:Inv X S W) (h:∀ c,o=some c->wpAny X.C.M X.A m (Had X.C W c) (fun _ _=>False) W.s):Snd X true (RV X) m (Mine.opt o S) W :=
 Snd.opt fun b hb=>zAs (h b hb) (fun _ _ q=>by cases q with | @mk tk v r=>exact .mk (W':=W.to W.h tk) rfl (I.toks _) r) fun _ _ q=>q
noncomputable abbrev l7 (X:Fx) (e:Option Expr) (d:D AV):Prop:=∀ S W,Inv X S W->Snd X true (RV X) (valueOrNone (evalOpt e X.env)) (d S) W
theorem sndO_none:l7 X none (af .none):=fun S W I=>.pure I rfl
theorem snd_slice {lo hi:Option Expr} {p:Pos} {dl dh:D AV} (hl:l7 X lo dl) (hh:l7 X hi dh) (I:Inv X S W) :
  Snd X true (fun W p v=>∃ sl vl vu,v=.ref sl/\RSl X.C W p sl vl vu) (eval (.Slice lo hi none p) X.env) (ax (dl S) fun a=>aH dh fun b=>af (a,b)) W:=by
 rw [arm_eval_Slice]
 refine Snd.bind (hl S W I) fun a va S₁ WA _ GA rA=>Snd.bind (hh S₁ WA GA.inv).holding fun b vb SA WB _ GB rB=>.skip (fun _ _ q=>zA2 (zAh q)) fun _=>?_
 have G:=GB.inv.ge (ev:=true) (.push (o:={ cls:=.type "slice",data:=.fields #[va,vb,.none] })) WB.s.toks
 exact zBn (.mk (W':=WB.to (WB.h.push { cls:=.type "slice",data:=.fields #[va,vb,.none] }) WB.s.toks) rfl G ⟨_,va,vb,rfl,Heap.IsSliceOf.new ..,(rA.le GB.ext).le G.ext,rB.le G.ext⟩)
theorem l9 {v:Expr} {lo hi:Option Expr} {p q:Pos} {dv dl dh:D AV} (hv:jl X v dv) (hl:l7 X lo dl) (hh:l7 X hi dh):SndM X (.Subscript v (.Slice lo hi none q) p) (d4 dv dl dh):=fun S W I=>by
 rw [show eval (.Subscript v (.Slice lo hi none q) p) X.env=(do
   let o ← eval v X.env
   let i ← holding [o] (eval (.Slice lo hi none q) X.env)
   standAt p
   subscriptTail v (.Slice lo hi none q) o i) from rfl]
 refine Snd.bind (hv S W I) fun a va S₁ WA _ GA rA=>?_
 rw [show (aH dl fun x=>aH dh fun y=>aH (deref a) fun c'=>Mine.opt (kJ c' x y))=aH (aH dl fun a=>aH dh fun b=>af (a,b)) fun q=>aH (deref a) fun c'=>Mine.opt (kJ c' q.1 q.2) from by
  rw [bR]; congr 1; funext x; rw [bR]; rfl]
 refine Snd.bind (snd_slice hl hh GA.inv).holding fun i vi SA WB _ GB rB=>.stand ?_
 obtain ⟨sl,vl,vu,rfl,rB⟩:=rB
 exact .deref GB.inv (rA.le GA.inv GB.ext) fun c' hc'=>.made GB.inv fun r hr=>wp_slc hc' rB hr
theorem snd_sub_idx {v i:Expr} {p:Pos} {dv di:D AV} (hsl:∀ a b p,i ≠ .Slice a b none p) (hv:jl X v dv) (hi:SndE X i di):SndE X (.Subscript v i p) (al dv di):=fun S W I=>by
 rw [show eval (.Subscript v i p) X.env=(do
   let o ← eval v X.env
   let j ← holding [o] (eval i X.env)
   standAt p
   subscriptTail v i o j) from rfl]
 exact Snd.bind (hv S W I) fun a va S₁ WA _ GA rA=>Snd.bind (hi S₁ WA GA.inv).holding fun i vi SA WB _ GB rB =>
  .stand (.deref GB.inv (rA.le GA.inv GB.ext) fun c' hc'=>.had GB.inv fun r hr=>wp_idx hsl hc' rB hr)
end
section
variable {C:Cx} {X:Fx} {frs:List Env} {mu:Addr->Prop} {W W':Wd} {st:St} {S:S} {h':Heap} {tk:Nat} {b₀:Addr}
theorem Grow.frm (hf:W.fr b₀) (same:∀ b o,b ≠ b₀->W.h.get? b=some o->h'.get? b=some o):Grow W (W.to h' tk) :=
 ⟨id,fun e f _=>same _ _ (fun q=>f.fr (q ▸ hf)) e,fun _ f=>f,fun e f x=>⟨_,same _ _ (fun q=>f.fr (q ▸ hf)) e,x,rfl⟩⟩
theorem InvC.frm (I:InvC C frs W st) (hf:W.fr b₀) (same:∀ b o,b ≠ b₀->W.h.get? b=some o->h'.get? b=some o) (hat:∃ o,h'.get? b₀=some o/\∀ vs,o.data ≠ .fields vs):InvC C frs (W.to h' tk) st where
 sh:=I.sh.elim fun h q=>q.elim fun t e=>⟨h',tk,by show ({ W.s with heap:=h',toks:=tk }:Shared)=_; rw [e]⟩
 stat:=fun b o e=>same b o (fun q=>aD e (q ▸ (I.lo _ (b7 hf)).1)) (I.stat b o e)
 lo:=fun b h=>⟨(I.lo b h).1,by
  by_cases hb:b=b₀
  ·exact hb ▸ hat.imp fun _ q=>q.1
  ·exact (I.lo b h).2.imp fun o q=>same b o hb q⟩
 nd:=I.nd
 ol:=I.ol
 oi:=I.oi
 tl:=I.tl
 fl:=fun b q=>⟨(I.fl b q).1,(I.fl b q).2.1,fun o vs e=>by
  by_cases hb:b=b₀
  ·subst hb
   obtain ⟨o',h1,h2⟩:=hat
   rw [h1] at e; cases e; exact h2 vs
  ·obtain ⟨o',h1⟩:=I.mus (b7 q)
   rw [same b o' hb h1] at e; cases e
   exact (I.fl b q).2.2 _ vs h1⟩
 frs:=I.frs
 len:=I.len
 objs:=fun n o e=>(I.objs n o e).imp fun a q=>⟨q.1,q.2.mono (.frm hf same) fun o _=>same a o fun z=>(I.fl _ hf).1.lab (z ▸ b0 q.1)⟩
theorem Ext.frm (hm:mu b₀) (hf:W.fr b₀) (same:∀ b o,b ≠ b₀->W.h.get? b=some o->h'.get? b=some o) (hat:∃ o,h'.get? b₀=some o):Ext mu W (W.to h' tk) where
 dom:=fun {b o} e=>by
  by_cases hb:b=b₀
  ·exact hb ▸ hat
  ·exact ⟨o,same b o hb e⟩
 labs:=⟨[],(zAt _).symm,fun _ q=>nomatch q⟩
 own:=fun q=>.own (W:=W) q
 tmp:=fun _ _=>.rfl
 fr:=fun _=>.rfl
 keep:=fun e _ f _=>same _ _ (fun q=>f (q ▸ hf)) e
 exo:=fun e _ f x=>⟨_,same _ _ (fun q=>f (q ▸ hf)) e,x,rfl⟩
 fc:=fun e _ m=>⟨_,same _ _ (fun q=>m (q ▸ hm)) e,rfl⟩
theorem ns_eq {h:Heap} {a:Addr} {m m':Str->Option Value} (x:h.Ns a m) (y:h.Ns a m') (n:Str):m n=m' n:=by
 obtain ⟨o,es,ep,h1,h2,_,h4⟩:=x
 obtain ⟨o',es',ep',q1,q2,_,q4⟩:=y
 rw [h1] at q1; cases q1
 rw [h2] at q2; cases q2
 exact (h4 n).symm.trans (q4 n)
structure Stored (X:Fx) (W:Wd) (x:Str) (v:Value) (b₀:Addr) (h':Heap):Prop where
 mu:X.mu b₀
 fr:W.fr b₀
 same:∀ b o,b ≠ b₀->W.h.get? b=some o->h'.get? b=some o
 hat:∃ o,h'.get? b₀=some o/\∀ vs,o.data ≠ .fields vs
 val:X.Val h' x v
 oth:∀ y u,y ≠ x->X.Val W.h y u->X.Val h' y u
 ns:∃ m,h'.Ns X.env.locals m
 cells:∀ y c,X.env.cells.lookup y=some c->∃ v,h'.IsCell c v
theorem Stored.good {own':Option Str->Option Addr} {x:Str} {v:Value} {lv:LV} (I:Inv X S W) (hn:fH X.nms x=true) (T:Stored X W x v b₀ h') (ho:∀ k b,own' k=some b->∃ k',W.own k'=some b) (hi:∀ k k' b,own' k=some b->own' k'=some b->k=k') (hk:∀ y,y ≠ x->own' (some y)=W.own (some y))
  (hlv:LRep X.C ⟨W.labs,own',W.tmp,W.fr,{ W.s with heap:=h',toks:=tk }⟩ x lv v):Good X false W ⟨ah (aV x X.nms) lv S.loc,S.st⟩ ⟨W.labs,own',W.tmp,W.fr,{ W.s with heap:=h',toks:=tk }⟩:=by
 have g:Grow (W.to h' tk) ⟨W.labs,own',W.tmp,W.fr,{ W.s with heap:=h',toks:=tk }⟩:=Grow.less (W:=W.to h' tk) ho
 refine ⟨(Ext.frm (tk:=tk) ⟨rfl,T.mu⟩ T.fr T.same (T.hat.imp fun _ q=>q.1)).trans (Ext.less (W:=W.to h' tk) ho),?_,?_⟩
 ·exact InvC.less (W:=W.to h' tk) (I.c.frm T.fr T.same T.hat) ho hi
 refine ⟨I.f.lc,T.ns,fun y c e=>⟨(I.f.cells y c e).1,T.cells y c e⟩,fun y lv' hm e=>?_⟩
 by_cases hy:y=x
 ·subst hy
  rw [show aq (aV y X.nms) (ah (aV y X.nms) lv S.loc)=some lv from d9] at e
  cases e
  exact ⟨v,T.val,hlv⟩
 ·rw [show aq (aV y X.nms) (ah (aV x X.nms) lv S.loc)=aq (aV y X.nms) S.loc from cI fun q=>hy (fb hn q)] at e
  obtain ⟨u,h1,h2⟩:=I.f.vars y lv' hm e
  refine ⟨u,T.oth y u hy h1,LRep.mono g (fun a z=>⟨(hk y hy).trans z,fun _ _ e=>e⟩) (LRep.mono (.frm T.fr T.same) (fun a z=>⟨z,fun o _=>T.same a o fun q=>(I.c.fl _ T.fr).1.own _ (q ▸ z)⟩) h2)⟩
noncomputable def StOk (X:Fx) (x:Str):Prop:=X.nms.lookup x=some .local ∨ (X.fn=true/\X.nms.lookup x=some .cell)
theorem StOk.has {x:Str} (h:StOk X x):fH X.nms x=true:=by
 unfold fH; rw [bK]
 rcases h with q | ⟨_,q⟩ <;> rw [q] <;> rfl
theorem mM {x:Str} {v:Value} {Q:Unit->Shared->Prop} {E:Value->Shared->Prop} (F:X.Ok) (I:Inv X S W) (hst:StOk X x) (hQ:∀ b₀ h' tk,Stored X W x v b₀ h'->Q () { W.s with heap:=h',toks:=tk }):wpAny X.C.M X.A (storeName X.env x v) Q E W.s:=by
 obtain ⟨m,hns⟩:=I.f.ns
 rcases hst with key | ⟨hfn,key⟩
 ·have hk:=F.loc x key
  refine wpAny_storeName_local hk hns (fun h' hn' hs'=>hQ X.env.locals h' _ ?_) (by rw [F.kind]; rfl)
  have same:∀ b o,b ≠ X.env.locals->W.h.get? b=some o->h'.get? b=some o:=fun b o hb e=>(hs'.2 b hb).trans e
  exact {
   mu:=.inl rfl
   fr:=I.f.lc
   same:=same
   hat:=by obtain ⟨o,es,ep,h1,h2,_⟩:=hn'; exact ⟨o,h1,fun vs q=>by rw [h2] at q; exact cC Data.ctorIdx q rfl⟩
   val:=.loc hk hn' (if_pos rfl)
   oth:=fun y u hy r=>by
    cases r with
    | loc k n e=>exact .loc k hn' ((if_neg hy).trans ((ns_eq hns n y).trans e))
    | cell k l e=>exact .cell k l (IsCell.same e fun o q=>⟨o,same _ o (F.cl _ _ l) q,rfl⟩)
   ns:=⟨_,hn'⟩
   cells:=fun y c e=>(I.f.cells y c e).2.imp fun _ r=>IsCell.same r fun o q=>⟨o,same _ o (F.cl _ _ e) q,rfl⟩ }
 ·obtain ⟨_,c,hc⟩:=F.cel x (.inl key)
  have hk:=F.fcell hfn x key
  obtain ⟨hfc,v₀,hv₀⟩:=I.f.cells x c hc
  refine wpAny_storeName_cell F.kind hk hc hv₀ fun h' hcl hs'=>hQ c h' W.s.toks ?_
  have same:∀ b o,b ≠ c->W.h.get? b=some o->h'.get? b=some o:=fun b o hb e=>(hs'.2 b hb).trans e
  have nsS:∀ {m},W.h.Ns X.env.locals m->h'.Ns X.env.locals m:=fun n=>kC n fun o q=>⟨o,same _ o (fun z=>F.cl _ _ hc z.symm) q,rfl⟩
  exact {
   mu:=.inr ⟨hfn,x,hc⟩
   fr:=hfc
   same:=same
   hat:=by obtain ⟨o,h1,h2⟩:=hcl; exact ⟨o,h1,fun vs q=>by rw [h2] at q; exact cC Data.ctorIdx q rfl⟩
   val:=.cell (.inl hk) hc hcl
   oth:=fun y u hy r=>by
    cases r with
    | loc k n e=>exact .loc k (nsS n) e
    | cell k l e=>exact .cell k l (IsCell.same e fun o q=>⟨o,same _ o (fun z=>hy (F.inj _ _ _ l (z ▸ hc))) q,rfl⟩)
   ns:=⟨m,nsS hns⟩
   cells:=fun y d e=>by
    by_cases hd:d=c
    ·exact ⟨_,hd ▸ hcl⟩
    ·exact (I.f.cells y d e).2.imp fun _ r=>IsCell.same r fun o q=>⟨o,same _ o hd q,rfl⟩ }
noncomputable abbrev RU:Wd->Unit->Unit->Prop:=fun _ _ _=>True
theorem iT {x:Str} {a:AV} {v:Value} (F:X.Ok) (I:Inv X S W) (hst:StOk X x) (h:VRep X.C W a v):Snd X false RU (storeName X.env x v) (gI (aV x X.nms) (.val a) S) W:=fun _ =>
 mM F I hst fun b₀ h' tk T=>.mk (W':=⟨W.labs,gj W.own (some x) none,W.tmp,W.fr,{ W.s with heap:=h',toks:=tk }⟩) rfl
  (T.good (lv:=.val a) I hst.has (fun _ _ q=>⟨_,(aK q).2⟩) (fun _ _ _ q q'=>I.c.oi _ _ _ (aK q).2 (aK q').2) (fun y hy=>cu fun q=>hy (Option.some.inj q)) ((h.mono (.frm T.fr T.same)).mono (Grow.less (W:=W.to h' tk) fun _ _ q=>⟨_,(aK q).2⟩))) trivial
noncomputable def ownX (own:Option Str->Option Addr) (x:Str):Option Str->Option Addr:=gj (gj own (some x) (own none)) none none
theorem fj {own:Option Str->Option Addr} {x:Str} {k:Option Str} {b:Addr} (h:ownX own x k=some b):k ≠ none/\((k=some x/\own none=some b) ∨ (k ≠ some x/\own k=some b)):=by
 obtain ⟨h1,h2⟩:=aK h
 refine ⟨h1,?_⟩
 by_cases hk:k=some x
 ·subst hk; rw [bT] at h2; exact .inl ⟨rfl,h2⟩
 ·rw [cu hk] at h2; exact .inr ⟨hk,h2⟩
theorem i8 {x:Str} {a:AV} {ad:Addr} (F:X.Ok) (I:Inv X S W) (hst:StOk X x) (ho:W.own none=some ad) (h:CRep X.C W W.h ad a):Snd X false RU (storeName X.env x (.ref ad)) (gI (aV x X.nms) (.own a) S) W:=fun _=>by
 have hx:ownX W.own x (some x)=some ad:=(cu (k:=none) (j:=some x) fun q=>nomatch q).trans ((bT (own:=W.own)).trans ho)
 have hle:∀ k b,ownX W.own x k=some b->∃ k',W.own k'=some b:=fun k b q=>(fj q).2.elim (fun z=>⟨_,z.2⟩) fun z=>⟨_,z.2⟩
 refine mM F I hst fun b₀ h' tk T=>.mk (W':=⟨W.labs,ownX W.own x,W.tmp,W.fr,{ W.s with heap:=h',toks:=tk }⟩) rfl
  (T.good (lv:=.own a) I hst.has hle (fun k k' b q q'=>?_) (fun y hy=>?_) ⟨ad,rfl,hx,?_⟩) trivial
 ·rcases (fj q).2 with ⟨h1,h2⟩ | ⟨h1,h2⟩ <;> rcases (fj q').2 with ⟨h3,h4⟩ | ⟨h3,h4⟩
  ·rw [h1,h3]
  ·exact absurd (I.c.oi _ _ _ h4 h2) (fj q').1
  ·exact absurd (I.c.oi _ _ _ h2 h4) (fj q).1
  ·exact I.c.oi _ _ _ h2 h4
 ·exact (cu (k:=none) (j:=some y) fun q=>nomatch q).trans (cu fun q=>hy (Option.some.inj q))
 ·exact (h.mono (.frm (tk:=tk) T.fr T.same) fun o _=>T.same ad o fun q=>(I.c.fl _ T.fr).1.own _ (q ▸ ho)).mono (Grow.less (W:=W.to h' tk) hle) fun _ _ e=>e
end
section
variable {X:Fx} {W:Wd} {S:S}
noncomputable def RF (X:Fx) (W:Wd) (f:Fl) (fl:Flow):Prop :=
 match f,fl with
 | .next,.next=>True
 | .ret a,.ret v=>VRep X.C W a v
 | _,_=>False
noncomputable abbrev cT (X:Fx) (st:Stmt) (d:D Fl):Prop:=X.fn=true->∀ S W,Inv X S W->Snd X false (RF X) (exec st X.env) (d S) W
noncomputable abbrev f8 (X:Fx) (st:List Stmt) (d:D Fl):Prop:=X.fn=true->∀ S W,Inv X S W->Snd X false (RF X) (execs st X.env) (d S) W
theorem sndSs_nil:f8 X [] (af .next):=fun _ S W I=>by rw [execs_nil]; exact .pure I trivial
theorem sndSs_cons {st:Stmt} {rest:List Stmt} {d dr:D Fl} (h:cT X st d) (hr:f8 X rest dr):f8 X (st::rest) (ac d dr):=fun hf S W I=>by
 rw [execs_cons]
 refine Snd.bind (h hf S W I) fun f fl S₁ WA _ GA rA=>?_
 cases f <;> cases fl <;> first | exact rA.elim | exact hr hf S₁ WA GA.inv | exact .pure GA.inv rA
theorem sndS_return {e:Option Expr} {p:Pos} {d:D AV} (h:l7 X e d):cT X (.Return e p) (aI d):=fun hf S W I=>by
 cases e with
 | none =>
  rw [exec_Return_none]
  exact .stand (Snd.bind (m:=valueOrNone (evalOpt none X.env)) (k:=fun v=>(Pure.pure (Flow.ret v):Sem Flow)) (h S W I).weak fun a va S₁ WA _ GA rA=>.pure GA.inv rA)
 | some e =>
  rw [exec_Return_some]
  exact .stand (Snd.bind (h S W I).weak fun a va S₁ WA _ GA rA=>.pure GA.inv rA)
theorem sndS_if {t:Expr} {a b:List Stmt} {p:Pos} {d:D AV} {da db:D Fl} (ht:SndT X t d) (ha:f8 X a da) (hb:f8 X b db):cT X (.If t a b p) (bn d da db):=fun hf S W I=>by
 unfold bn
 rw [exec_If,← bR]
 refine .stand (Snd.bind (ht S W I).weak fun c c' S₁ WA _ GA rA=>?_)
 obtain rfl:c=c':=rA
 cases c with
 | true=>exact ha hf S₁ WA GA.inv
 | false=>exact hb hf S₁ WA GA.inv
theorem ce {e:Expr} {x:Str} (h:cZ e=some x):∃ p,e=.Name x p:=by
 unfold cZ at h
 by_cases q:e.ctorIdx=23
 ·rw [dif_pos q] at h
  exact Expr.Name.elim (motive_1:=fun e=>∀ q:e.ctorIdx=23,Expr.Name.elim (motive_1:=fun _=>Option Str) e q (fun x _=>some x)=some x->∃ p,e=.Name x p) e q (fun y p _ h=>⟨p,congrArg (Expr.Name · p) (Option.some.inj h)⟩) q h
 ·rw [dif_neg q] at h; exact aC h
theorem isSt_spec {sc:Sc} {x:Str} (h:j4 sc x=true):sc.lookup x=some .local ∨ sc.lookup x=some .cell:=by
 obtain ⟨h1,h2⟩:=zAk.mp h
 rw [bK] at h1
 revert h1
 cases sc.lookup x with
 | none=>intro h; exact ff h
 | some k=>cases k <;> intro h <;> first | exact .inl rfl | exact .inr rfl | exact ff h
theorem isLo_spec {sc:Sc} {x:Str} (h:isLo sc x=true):sc.lookup x=some .local:=by
 obtain ⟨h1,h2⟩:=zAk.mp h
 rw [bK] at h1
 revert h1
 cases sc.lookup x with
 | none=>intro h; exact ff h
 | some k=>cases k <;> intro h <;> first | rfl | exact ff h
theorem kr (hf:X.fn=true) {x:Str} (q:j4 X.nms x=true):StOk X x:=(isSt_spec q).imp id fun z=>⟨hf,z⟩
theorem fS {x:Str} {a:AV} {v:Value} (F:X.Ok) (I:Inv X S W) (hst:StOk X x) (h:VRep X.C W a v):Snd X false RU (bindName X.env x v) (gI (aV x X.nms) (.val a) S) W:=(iT F I hst h).wp fun _ _ q=>wpAny_bindName q
theorem gf (F:X.Ok) {x:Str} {p' pos:Pos} {v:Expr} {d:D AV} (hsw:swapsWith v (some (.Name x p')) pos.line X.env=Pure.pure false) (hst:j4 X.nms x=true) (h:SndE X v d):cT X (.Assign [.Name x p'] v pos) (aL (aV x X.nms) d):=fun hf S W I=>by
 rw [exec_Assign_Name (hs:=hsw)]
 exact .stand (Snd.bind (h S W I).weak fun a va S₁ WA _ GA rA=>.stand (Snd.bind (fS F GA.inv (kr hf hst) rA) fun _ _ SA WB _ GB _=>.pure GB.inv trivial))
theorem gi (F:X.Ok) {x:Str} {p' pos:Pos} {v:Expr} {d:D AV} (hsw:swapsWith v (some (.Name x p')) pos.line X.env=Pure.pure false) (hst:j4 X.nms x=true) (h:SndM X v d):cT X (.Assign [.Name x p'] v pos) (aT (aV x X.nms) d):=fun hf S W I=>by
 rw [exec_Assign_Name (hs:=hsw)]
 refine .stand (Snd.bind (h S W I).weak fun a va S₁ WA _ GA rA=>.stand ?_)
 have hst':=kr hf hst
 cases rA with
 | new e k o r =>
  subst e
  rw [show oz true a=.own a from if_pos k]
  exact Snd.bind ((i8 F GA.inv hst' o r).wp fun _ _ q=>wpAny_bindName q) fun _ _ SA WB _ GB _=>.pure GB.inv trivial
 | val k r =>
  rw [show oz true a=.val a from if_neg (by show ¬ (fP a)=true; rw [k]; exact zAn)]
  exact Snd.bind (fS F GA.inv hst' r) fun _ _ SA WB _ GB _=>.pure GB.inv trivial
end
section
variable {C:Cx} {X:Fx} {ev:Bool} {W W' W₀:Wd} {S:S} {h':Heap} {tk:Nat} {z:Bool} {c:Str} {v:Value}
theorem Exo.map {o:Obj} (h:Exo o) (f:Array Value->Array Value):Exo (o.mapFields f)/\(o.mapFields f).cls=o.cls:=by
 obtain ⟨h1,⟨vs,h2⟩,h3⟩:=h
 obtain ⟨oc,od,dt,os⟩:=o
 subst h2
 exact ⟨⟨h1,⟨_,rfl⟩,h3⟩,rfl⟩
theorem ExcO.map {o:Obj} (h:ExcO C c o) (f:Array Value->Array Value):ExcO C c (o.mapFields f):=h.same (h.exo.map f).1 (h.exo.map f).2
theorem Good.exo (G:Good X ev W₀ S W) {e:Addr} {oe:Obj} (he:W.h.get? e=some oe) (hx:Exo oe) (l:Loose X.C W e) (f:Array Value->Array Value):Good X ev W₀ S (W.to (W.h.update e (Obj.mapFields f)) W.s.toks)/\(W.h.update e (Obj.mapFields f)).get? e=some (oe.mapFields f):=by
 have oth:∀ {b:Addr} {o:Obj},b ≠ e->W.h.get? b=some o->(W.h.update e (Obj.mapFields f)).get? b=some o:=fun hb q=>by rw [zA1 _ _ (Ne.symm hb)]; exact q
 have self:(W.h.update e (Obj.mapFields f)).get? e=some (oe.mapFields f):=hx.dat.elim fun vs hd=>zBl _ he (Obj.isFreed_of_fields (Obj.data_mapFields hd f))
 refine ⟨G.sim (ex:=fun _=>False) ⟨fun {b o} q=>?_,fun {b o} q _ p=>oth (fun z=>?_) q,fun {b o} q x=>?_,fun {b o} q r=>⟨o,oth (fun z=>l.fr.fr (z ▸ r)) q,rfl⟩⟩ (fun _ q=>q.elim),self⟩
 ·by_cases hb:b=e
  ·subst hb; exact ⟨_,self⟩
  ·exact ⟨_,oth hb q⟩
 ·subst z
  rw [he] at q; cases q
  exact (p l.st).1 hx
 ·by_cases hb:b=e
  ·subst hb
   rw [he] at q; cases q
   exact ⟨_,self,hx.map f⟩
  ·exact ⟨_,oth hb q,x,rfl⟩
theorem Loose.to {b:Addr} (l:Loose C W b):Loose C (W.to h' tk) b:=⟨l.st,l.fr⟩
theorem Inv.loose (I:Inv X S W) {b:Addr} (h:W.h.get? b=none):Loose X.C W b where
 st:=by
  cases e:X.C.s0.heap.get? b with
  | none=>rfl
  | some o=>exact (aD (I.c.stat _ _ e) h).elim
 fr:=Classical.byContradiction fun q=>(I.c.mus q).elim fun _ z=>aD z h
theorem Inv.funFrames (I:Inv X S W):∀ l:List Env,(∀ e ∈ l,e ∈ X.frs)->W.h.FunFrames {} l
 | [],_=>trivial
 | e::r,h=>by
  obtain ⟨h1,L,h2,h3⟩:=I.c.frs e (h e zAb)
  obtain ⟨o,h4⟩:=I.c.mus (b7 h3)
  exact ⟨h1,⟨L,o,h2,rfl,h4,fun vs=>(I.c.fl _ h3).2.2 o vs h4⟩,I.funFrames r fun e' he'=>h e' (zAc _ he')⟩
theorem Inv.slots (I:Inv X S W) {fs:List Addr} (hs:Heap.SlotsOnly fs W.h h') (hf:∀ b ∈ fs,W.fr b):Good X ev W S (W.to h' W.s.toks):=by
 have same:∀ {b:Addr} {o:Obj},¬ W.fr b->W.h.get? b=some o->h'.get? b=some o:=fun hb e=>(hs.2.1 _ fun q=>hb (hf _ q)).trans e
 refine (Good.refl I).sim (ex:=fun _=>False) ⟨fun {b o} q=>(hs.2.2 b o q).imp' _ fun _ z=>z,fun {b o} q _ p=>?_,fun {b o} q x=>?_,fun {b o} q r=>?_⟩ fun _ q=>q.elim
 ·by_cases r:W.fr b
  ·exact ((p (I.c.lo _ (b7 r)).1).2 r).elim
  ·exact same r q
 ·obtain ⟨sl,e⟩:=hs.2.2 b o q
  exact ⟨_,e,⟨x.dict,x.dat,x.cls⟩,rfl⟩
 ·obtain ⟨sl,e⟩:=hs.2.2 b o q
  exact ⟨_,e,rfl⟩
theorem wp_frameOf {E:Value->Shared->Prop} {Q:Value->Shared->Prop} (F:X.Ok) (I:Inv X S W)
  (h:∀ L h',X.env.frame=some L->(∀ b o,W.free b->W.h.get? b=some o->h'.get? b=some o)->Good X true W S (W.to h' W.s.toks)->Q (.ref L) { W.s with heap:=h' }):wpAny X.C.M X.A (PySem.frameOf X.env) Q E W.s:=by
 obtain ⟨e,r,hfr,hfe⟩:=F.frm
 have hA:=F.frames
 rw [hfr] at hA
 unfold PySem.frameOf
 refine zAa (wpAny_frameEnvs hA ?_)
 have hdw:((e::r).dropWhile fun x=>x.frame != X.env.frame)=e::r:=by simp [List.dropWhile,hfe]
 rw [hdw]
 unfold frameObject
 refine zAa (zAa (wpAny_readyFrames_fun (base:={}) (I.funFrames (e::r) (by rw [hfr]; exact fun _ h=>h)) fun h₁ hsA=>zAh ?_))
 obtain ⟨_,L,h2,_⟩:=I.c.frs e (by rw [hfr]; exact zAb)
 rw [h2]
 have hf:∀ b ∈ (e::r).filterMap (·.frame),W.fr b:=fun b hb=>by
  obtain ⟨e',he',hb'⟩:=List.mem_filterMap.mp hb
  obtain ⟨_,L',q1,q2⟩:=I.c.frs e' (by rw [hfr]; exact he')
  rw [hb'] at q1; cases q1; exact q2
 exact zAh (h L h₁ (by rw [← hfe]; exact h2) (fun b o f e=>(hsA.2.1 b fun q=>f.fr (hf b q)).trans e) (I.slots hsA hf))
theorem wp_entry {E:Value->Shared->Prop} {Q:Unit->Shared->Prop} (F:X.Ok) (G:Good X true W₀ S W) {e L:Addr} {oe:Obj} {vs:Array Value} {head:Value} {hn:Bool} (hL:X.env.frame=some L)
  (l:Loose X.C W e) (hx:ExO z X.C W.h c e oe vs) (hsz:1 < vs.size)
  (h:∀ W',Good X true W₀ S W'->IsTraced z X.C W' c (.ref e)->Q () W'.s) :
  wpAny X.C.M X.A (do let a ← PySem.frameOf X.env; let pl ← entryPlaceOf L hn; let b ← EntryCells.newEntry head a .none (rawInt L) .none pl; setField (.ref e) 1 b) Q E W.s:=by
 refine zAa (wp_frameOf F G.inv fun L' h₁ hL' keep GA=>?_)
 have heA:h₁.get? e=some oe:=keep e oe l.fr hx.obj
 refine zAa (wpAny_entryPlaceOf fun pl hpl=>?_)
 unfold EntryCells.newEntry newFields
 refine zAa (zBn ?_ (hpl.sizeOk5 _ _ _ _ _))
 generalize hT:({ cls:=.type "traceback",dict:=none,data:=.fields ([head,.ref L',.none,rawInt L,.none]++(if pl.isEmpty then zC1 6 Value.none else pl)).toArray }:Obj)=oT
 have hTx:Exo oT:=by rw [← hT]; exact ⟨rfl,⟨_,rfl⟩,.inr rfl⟩
 have GB:Good X true W₀ S (W.to (h₁.push oT) W.s.toks):=(G.trans GA).trans (GA.inv.ge .push _)
 have heB:(h₁.push oT).get? e=some oe:=zAg _ heA
 have hTB:(h₁.push oT).get? h₁.objs.size=some oT:=zAp _ (by rw [← hT]; rfl)
 have lT:=GA.inv.loose (b:=h₁.objs.size) get?_size
 have hTe:h₁.objs.size ≠ e:=zBf (zAz heA)
 refine zC9 heB hx.dat hsz ?_
 obtain ⟨GC,heC⟩:=GB.exo heB hx.is.exo l.to (·.setIfInBounds 1 (Value.ref h₁.objs.size))
 refine h _ GC (.mk (T:=h₁.objs.size) (fl:=rawInt L) l.to lT.to ⟨heC,hx.is.map _,Obj.data_mapFields hx.dat _,fun q=>by rw [Array.getElem?_setIfInBounds,if_neg (by decide)]; exact hx.ctx q⟩ ⟨Array.getElem?_setIfInBounds_self_of_lt hsz,hTe,?_,hTx,(by rw [← hT]),?_⟩)
 ·show ((h₁.push oT).update e _).get? h₁.objs.size=_
  rw [zA1 _ _ (Ne.symm hTe)]; exact hTB
 ·rcases hpl with rfl | ⟨_,_,_,_,_,_,_,rfl⟩ <;> simp
theorem c6 {E:Value->Shared->Prop} {Q:Unit->Shared->Prop} (F:X.Ok) (G:Good X true W₀ S W) (t:IsTrace z X.C W c v) (h:∀ W',Good X true W₀ S W'->IsTraced z X.C W' c v->Q () W'.s):wpAny X.C.M X.A (noteFrame v X.env) Q E W.s:=by
 obtain ⟨e',r,hfr,hfe⟩:=F.frm
 obtain ⟨_,L,h2,_⟩:=G.inv.c.frs e' (by rw [hfr]; exact zAb)
 rw [hfe] at h2
 unfold noteFrame
 simp only [h2]
 cases t with
 | no l x ht =>
  refine zAa (zBe x.obj x.dat ht ?_)
  rw [if_neg (by decide)]
  exact wp_entry F G h2 l x (zBg.mp ht).1 h
 | yes t =>
  cases t with
  | @mk e T oe oT vs ts fl l lT x t =>
   refine zAa (zBe x.obj x.dat t.at1 ?_)
   rw [if_pos (show (Value.ref T != Value.none)=true from by simp)]
   refine zAa (zBe t.obj t.dat t.fl ?_)
   by_cases hfl:(fl == rawInt L)=true
   ·rw [if_pos hfl]
    exact zAh (h _ G (.mk l lT x t))
   ·rw [if_neg hfl]
    refine zAa (zC9 t.obj t.dat (zBg.mp t.fl).1 ?_)
    obtain ⟨GC,heC⟩:=G.exo t.obj t.exo lT (·.setIfInBounds 3 Value.none)
    exact wp_entry F GC h2 l.to ⟨(zA1 _ _ t.ne).trans x.obj,x.is,x.dat,x.ctx⟩ (zBg.mp t.at1).1 h
theorem cf {E:Value->Shared->Prop} {Q:Unit->Shared->Prop} {f:Option Addr} (G:Good X true W₀ S W) (t:IsTraced z X.C W c v) (h:∀ W',Good X true W₀ S W'->IsTraced z X.C W' c v->Q () W'.s) {A:Around}:wpAny X.C.M A (setFlight v f) Q E W.s:=by
 cases t with
 | @mk e T oe oT vs ts fl l lT x t =>
 unfold setFlight
 refine zAa (zBe x.obj x.dat t.at1 ?_)
 rw [if_pos (show (Value.ref T != Value.none)=true from by simp)]
 have hsz:=(zBg.mp t.fl).1
 refine zC9 t.obj t.dat hsz ?_
 obtain ⟨GC,hTC⟩:=G.exo t.obj t.exo lT (·.setIfInBounds 3 (f.elim .none fun f=>rawInt f))
 exact h _ GC (.mk l.to lT.to ⟨(zA1 _ _ t.ne).trans x.obj,x.is,x.dat,x.ctx⟩ ⟨t.at1,t.ne,hTC,(t.exo.map _).1,Obj.data_mapFields t.dat _,Array.getElem?_setIfInBounds_self_of_lt hsz⟩)
theorem wp_leaving {E:Value->Shared->Prop} {Q:Unit->Shared->Prop} (F:X.Ok) (G:Good X true W₀ S W) (t:IsTrace z X.C W c v) (h:∀ W',Good X true W₀ S W'->IsTraced z X.C W' c v->Q () W'.s):wpAny X.C.M X.A (leaving X.env v) Q E W.s :=
 zAa (c6 F G t fun W' G' t'=>cf G' t' h)
theorem ref_ne {T:Addr}:¬ ((Value.ref T == Value.none)=true):=by simp
theorem wp_cameBack {E:Value->Shared->Prop} (G:Good X true W₀ S W) (t:IsTraced z X.C W c v) (h:∀ W',Good X true W₀ S W'->IsTraced z X.C W' c v->E v W'.s):cameBackBy X.C.M X.A X.env E v W.s:=by
 have t0:=t
 cases t with
 | mk l lT x t =>
 unfold cameBackBy
 refine zAa (zBe x.obj x.dat t.at1 ?_)
 rw [if_neg ref_ne]
 exact cf G t0 h
theorem m7 {env:Env} {α:Type} {what:String} {Q:α->Shared->Prop} {E:Value->Shared->Prop} (G:Good X true W₀ S W) (t:IsTraced z X.C W c v) (h:∀ W',Good X true W₀ S W'->IsTraced z X.C W' c v->E v W'.s):wpAny X.C.M X.A (passOn what v env:Sem α) Q E W.s:=by
 have t0:=t
 cases t with
 | mk l lT x t =>
 unfold PySem.passOn
 refine zAa (zBe x.obj x.dat t.at1 ?_)
 rw [if_neg ref_ne]
 first
  | exact zAa (cf G t0 fun W' G' t'=>wpAny_throw (h W' G' t'))
  | exact zAa (zAh (zAa (cf G t0 fun W' G' t'=>wpAny_throw (h W' G' t'))))
end
theorem jP {kindOf:Str->Option NameKind} {x:Str}:∀ (b:List (Str × Value)) (m:Str->Option Value),(∀ p ∈ b,p.1 ≠ x)->bindL kindOf b m x=m x
 | [],m,_=>rfl
 | (n,v)::r,m,h=>by
  unfold bindL
  rw [jP r _ fun p hp=>h p (zAc _ hp)]
  split
  ·show (if x=n then some v else m x)=m x
   rw [if_neg (fun q=>h (n,v) zAb q.symm)]
  ·rfl
theorem jY {kindOf:Str->Option NameKind} {x:Str}:∀ (b:List (Str × Value)) (m:Str->Option Value),(∀ p ∈ b,p.1 ≠ x)->bindC kindOf b m x=m x
 | [],m,_=>rfl
 | (n,v)::r,m,h=>by
  unfold bindC
  rw [jY r _ fun p hp=>h p (zAc _ hp)]
  split
  ·rfl
  ·show (if x=n then some v else m x)=m x
   rw [if_neg (fun q=>h (n,v) zAb q.symm)]
theorem j3 {ps:List Str} {vs:List Value} {p:Str × Value} (h:p ∈ ps.zip vs):p.1 ∈ ps:=(List.of_mem_zip (show (p.1,p.2) ∈ ps.zip vs from h)).1
theorem ms {kindOf:Str->Option NameKind}:∀ (ps:List Str) (vs:List Value) (m cm:Str->Option Value),ps.Nodup->∀ (i:Nat) (x:Str) (v:Value),ps[i]?=some x->vs[i]?=some v ->
  (kindOf x=some .local->bindL kindOf (ps.zip vs) m x=some v)/\(kindOf x ≠ some .local->bindC kindOf (ps.zip vs) cm x=some v)
 | [],_,_,_,_,i,_,_,h,_=>by simp at h
 | _::_,[],_,_,_,i,_,_,_,h=>by simp at h
 | n::ps,w::vs,m,cm,hn,i,x,v,h1,h2=>by
  rw [zBp] at hn
  cases i with
  | zero =>
   simp at h1 h2
   subst h1; subst h2
   have hno:∀ p ∈ ps.zip vs,p.1 ≠ n:=fun p hp q=>hn.1 (q ▸ j3 hp)
   rw [zBo]
   unfold bindL bindC
   rw [jP _ _ hno,jY _ _ hno]
   constructor
   ·intro hk; rw [if_pos hk]; show (if n=n then some w else _)=_; rw [if_pos rfl]
   ·intro hk; rw [if_neg hk]; show (if n=n then some w else _)=_; rw [if_pos rfl]
  | succ i =>
   simp at h1 h2
   rw [zBo]
   unfold bindL bindC
   exact ms ps vs _ _ hn.2 i x v h1 h2
set_option tactic.hygienic true in
theorem args_get {sc:Sc} {x:Str} (hn:fH sc x=true):∀ (ps:List Str) (vs:List AV) (lv:LV),aq (aV x sc) (fq sc ps vs)=some lv->∃ (i:Nat) (a:AV),ps[i]?=some x/\vs[i]?=some a/\lv=.val a
 | [],_,_,h=>nomatch h
 | _::_,[],_,h=>nomatch h
 | p::ps,w::vs,lv,h=>by
  rw [show fq sc (p::ps) (w::vs)=(aV p sc,.val w)::fq sc ps vs from rfl,il] at h
  split at h
  ·rename_i q; cases h; exact ⟨0,w,by simp; exact fb hn (beq_nat.mp q),by simp,rfl⟩
  ·obtain ⟨i,a,h1,h2,h3⟩:=args_get hn ps vs lv h
   exact ⟨i+1,a,by simpa using h1,by simpa using h2,h3⟩
theorem fu {x:Str}:∀ (names:List (Str × NameKind)) (n:Nat) (acc:List (Str × Addr)),names.lookup x=some .cell ∨ (acc.lookup x).isSome=true->((cellsFrom n names acc).lookup x).isSome=true
 | [],_,_,h=>h.elim (fun e=>by exact aC e) id
 | (y,k)::r,n,acc,h=>by
  unfold cellsFrom
  by_cases hk:(k == .cell)=true
  ·rw [if_pos hk]
   refine fu r (n+1) ((y,n)::acc) ?_
   by_cases hy:(x == y)=true
   ·exact .inr (by rw [zBb,hy]; rfl)
   ·refine h.imp (fun e=>?_) fun e=>?_
    ·rw [zBb] at e; simpa only [hy] using e
    ·rw [zBb]; simpa only [hy] using e
  ·rw [if_neg hk]
   refine fu r n acc ?_
   by_cases hy:(x == y)=true
   ·refine .inr (h.elim (fun e=>?_) id)
    rw [zBb,hy] at e
    exact absurd (by rw [Option.some.inj e]; rfl) hk
   ·refine h.imp (fun e=>?_) id
    rw [zBb] at e; simpa only [hy] using e
noncomputable abbrev Wd.susp (W:Wd):Wd:=⟨W.labs,fun _=>none,fun b=>W.tmp b ∨ ∃ k,W.own k=some b,W.fr,W.s⟩
noncomputable abbrev Wd.back (W W':Wd):Wd:=⟨W'.labs,W.own,W.tmp,W.fr,W'.s⟩
noncomputable abbrev Wd.left (W W':Wd):Wd:=⟨W'.labs,fun _=>none,fun b=>W'.tmp b ∨ ∃ k,W'.own k=some b,W.fr,W'.s⟩
section
variable {C:Cx} {X:Fx} {frs:List Env} {W W' WA:Wd} {st st':St} {S:S} {z:Bool} {c:Str} {v:Value}
theorem Grow.susp:Grow W W.susp:=⟨id,fun e _ _=>e,fun _ f=>⟨⟨f.oth.lab,fun _ q=>nomatch q⟩,fun q=>q.elim f.tmp fun z=>z.elim fun _ z=>f.oth.own _ z,f.fr⟩,fun e _ x=>⟨_,e,x,rfl⟩⟩
theorem InvC.susp (I:InvC C frs W st):InvC C frs W.susp st where
 sh:=I.sh
 stat:=I.stat
 lo:=fun b h=>I.lo b fun f=>h ⟨⟨f.oth.lab,fun _ q=>nomatch q⟩,fun q=>q.elim f.tmp fun z=>z.elim fun _ z=>f.oth.own _ z,f.fr⟩
 nd:=I.nd
 ol:=fun k b q=>nomatch q
 oi:=fun k k' b q=>nomatch q
 tl:=fun b q=>q.elim (I.tl b) fun z=>z.elim fun _ z=>(I.ol _ _ z).1
 fl:=fun b q=>⟨⟨(I.fl b q).1.lab,fun _ q=>nomatch q⟩,fun z=>z.elim (I.fl b q).2.1 fun z=>z.elim fun _ z=>(I.fl b q).1.own _ z,(I.fl b q).2.2⟩
 frs:=I.frs
 len:=I.len
 objs:=fun n o e=>(I.objs n o e).imp fun a q=>⟨q.1,q.2.mono .susp fun _ _ e=>e⟩
theorem InvC.held {mu:Addr->Prop} (I:InvC C frs W st) (x:Ext mu W.susp W') {b:Addr} (h:W.susp.tmp b):W'.tmp b/\W'.oth b:=by
 obtain ⟨o,e⟩:=I.mus (b:=b) (h.elim gp fun z=>z.elim fun _ z=>fV z)
 have ho:W.susp.oth b:=⟨I.susp.tl b h,fun _ q=>nomatch q⟩
 exact ⟨(x.tmp e ho).mpr h,x.oth e ho⟩
theorem Grow.back (I:InvC C frs W st) (x:Ext (fun _=>False) W.susp W'):Grow W' (W.back W') :=
 ⟨id,fun e _ _=>e,fun e f=>⟨⟨f.oth.lab,fun k q=>f.tmp (I.held x (.inr ⟨k,q⟩)).1⟩,fun q=>f.tmp (I.held x (.inl q)).1,fun q=>(I.mus (b7 q)).elim fun _ z=>f.fr ((x.fr z).mpr q)⟩,fun e _ x=>⟨_,e,x,rfl⟩⟩
theorem Ext.back (I:InvC C frs W st) (x:Ext (fun _=>False) W.susp W'):Ext (fun _=>False) W (W.back W') where
 dom:=x.dom
 labs:=x.labs.imp fun r q=>⟨q.1,fun a h=>by
  cases q.2 a h with
  | new e=>exact .new e
  | own e=>exact aC e⟩
 own:=fun q=>.own (W:=W) q
 tmp:=fun _ _=>.rfl
 fr:=fun _=>.rfl
 keep:=fun e h=>x.keep e ⟨h.lab,fun _ q=>nomatch q⟩
 exo:=fun e h=>x.exo e ⟨h.lab,fun _ q=>nomatch q⟩
 fc:=x.fc
theorem InvC.back (I:InvC C frs W st) (x:Ext (fun _=>False) W.susp W') (I':InvC C frs W' st'):InvC C frs (W.back W') st' where
 sh:=I'.sh
 stat:=I'.stat
 lo:=fun b h=>by
  by_cases f:W.free b
  ·refine I'.lo b fun f'=>h ⟨⟨f'.oth.lab,f.oth.own⟩,f.tmp,f.fr⟩
  ·exact ⟨(I.lo b f).1,(I.lo b f).2.elim fun _ e=>x.dom e⟩
 nd:=I'.nd
 ol:=fun k b q=>⟨(I.held x (.inr ⟨k,q⟩)).2.lab,(I.ol k b q).2⟩
 oi:=I.oi
 tl:=fun b q=>(I.held x (.inl q)).2.lab
 fl:=fun b q=>by
  obtain ⟨h1,h2,h3⟩:=I.fl b q
  obtain ⟨o,e⟩:=I.mus (b7 q)
  refine ⟨⟨(x.oth e ⟨h1.lab,fun _ q=>nomatch q⟩).lab,h1.own⟩,h2,fun o' vs e' z=>?_⟩
  obtain ⟨o'',e'',hd⟩:=x.fc e q id
  obtain rfl:=Option.some.inj (e'.symm.trans e'')
  exact h3 o vs e (hd.symm.trans z)
 frs:=I.frs
 len:=I'.len
 objs:=fun n o e=>(I'.objs n o e).imp fun a q=>⟨q.1,q.2.mono (.back I x) fun _ _ e=>e⟩
theorem Inv.back (I:Inv X S W) (x:Ext (fun _=>False) W.susp W') (I':InvC X.C X.frs W' st'):Good X true W ⟨S.loc,st'⟩ (W.back W'):=by
 have y:=Ext.back I.c x
 refine ⟨y.weak fun _ q=>q.elim,I.c.back x I',I.f.mono y.grow (fun _ q=>q) (Inv.fcSame I.f fun e h=>y.fc e h id).1 (Inv.fcSame I.f fun e h=>y.fc e h id).2 fun k a q=>⟨q,fun o p e=>x.keep e ⟨(I.c.ol _ _ q).1,fun _ q=>nomatch q⟩ (fun z=>(I.c.fl _ z).1.own _ q) p⟩⟩
theorem IsTraced.grow (t:IsTraced z C W c v) (g:Grow W W') (hh:W'.h=W.h):IsTraced z C W' c v:=by
 cases t with
 | mk l lT x t=>exact .mk ⟨l.st,g.fr x.obj l.fr⟩ ⟨lT.st,g.fr t.obj lT.fr⟩ (hh ▸ x) (hh ▸ t)
end
noncomputable abbrev Wd.enter (W:Wd) (L:Addr) (cs:List (Str × Addr)) (h:Heap) (tk:Nat):Wd:=⟨W.labs,W.own,fun b=>W.tmp b ∨ False,fun b=>W.fr b ∨ (b=L ∨ ∃ x,cs.lookup x=some b),{ W.s with heap:=h,toks:=tk }⟩
section
variable {C:Cx} {frs:List Env} {W W':Wd} {st:St} {s₁:Shared}
theorem InvC.more (I:InvC C frs W st) {h':Heap} {tk:Nat} (g:Ge W.h h') {T N:Addr->Prop} (hT:∀ b,T b->W.h.get? b=none/\∃ o,h'.get? b=some o) (hN:∀ b,N b->W.h.get? b=none/\∃ o,h'.get? b=some o/\∀ vs,o.data ≠ .fields vs) (hTN:∀ b,T b->¬ N b) :
  Ext (fun _=>False) W ⟨W.labs,W.own,fun b=>W.tmp b ∨ T b,fun b=>W.fr b ∨ N b,{ W.s with heap:=h',toks:=tk }⟩/\InvC C frs ⟨W.labs,W.own,fun b=>W.tmp b ∨ T b,fun b=>W.fr b ∨ N b,{ W.s with heap:=h',toks:=tk }⟩ st:=by
 have nT:∀ {b o},W.h.get? b=some o->¬ T b:=fun e q=>aD e (hT _ q).1
 have nN:∀ {b o},W.h.get? b=some o->¬ N b:=fun e q=>aD e (hN _ q).1
 have fre:∀ {b},W.h.get? b=none->W.free b:=fun h=>Classical.byContradiction fun q=>(I.mus q).elim fun _ z=>aD z h
 have x:Ext (fun _=>False) W ⟨W.labs,W.own,fun b=>W.tmp b ∨ T b,fun b=>W.fr b ∨ N b,{ W.s with heap:=h',toks:=tk }⟩ :=
  ⟨fun e=>⟨_,g _ _ e⟩,⟨[],(zAt _).symm,fun _ q=>nomatch q⟩,fun q=>.own (W:=W) q,fun e _=>⟨fun q=>q.elim id fun z=>(nT e z).elim,.inl⟩,fun e=>⟨fun q=>q.elim id fun z=>(nN e z).elim,.inl⟩,fun e _ _ _=>g _ _ e,fun e _ _ x=>⟨_,g _ _ e,x,rfl⟩,fun e _ _=>⟨_,g _ _ e,rfl⟩⟩
 have s0:∀ {b},W.h.get? b=none->C.s0.heap.get? b=none:=fun {b} h=>by
  cases e:C.s0.heap.get? b with
  | none=>rfl
  | some o=>exact (aD (I.stat _ _ e) h).elim
 refine ⟨x,?_⟩
 exact {
  sh:=I.sh.elim fun h q=>q.elim fun t e=>⟨h',tk,by show ({ W.s with heap:=h',toks:=tk }:Shared)=_; rw [e]⟩
  stat:=fun b o e=>g _ _ (I.stat b o e)
  lo:=fun b h=>by
   by_cases f:W.free b
   ·by_cases t:T b
    ·exact ⟨s0 (hT b t).1,(hT b t).2⟩
    ·have n:N b:=Classical.byContradiction fun q=>h ⟨f.oth,fun z=>z.elim f.tmp t,fun z=>z.elim f.fr q⟩
     exact ⟨s0 (hN b n).1,(hN b n).2.imp fun _ z=>z.1⟩
   ·exact ⟨(I.lo b f).1,(I.lo b f).2.imp fun _ q=>g _ _ q⟩
  nd:=I.nd
  ol:=fun k b q=>⟨(I.ol k b q).1,fun z=>z.elim (I.ol k b q).2 fun z=>(I.mus (fV q)).elim fun _ e=>nT e z⟩
  oi:=I.oi
  tl:=fun b q=>q.elim (I.tl b) fun z=>(fre (hT b z).1).oth.lab
  fl:=fun b q=>by
   rcases q with q | q
   ·exact ⟨(I.fl b q).1,fun z=>z.elim (I.fl b q).2.1 fun z=>(I.mus (b7 q)).elim fun _ e=>nT e z,fun o vs e=>(I.mus (b7 q)).elim fun o' z=>(I.fl b q).2.2 o vs (z.trans ((g _ _ z).symm.trans e))⟩
   ·exact ⟨(fre (hN b q).1).oth,fun z=>z.elim (fre (hN b q).1).tmp fun z=>hTN b z q,fun o vs e=>(hN b q).2.elim fun o' z=>Option.some.inj (z.1.symm.trans e) ▸ z.2 vs⟩
  frs:=fun e he=>⟨(I.frs e he).1,(I.frs e he).2.imp fun _ q=>⟨q.1,.inl q.2⟩⟩
  len:=I.len
  objs:=fun n o e=>(I.objs n o e).imp fun a q=>⟨q.1,q.2.mono x.grow fun _ _ e=>g _ _ e⟩ }
theorem Grow.left {mu:Addr->Prop} (I:InvC C frs W st) (x:Ext mu W W'):Grow W' (W.left W') :=
 ⟨id,fun e _ _=>e,fun e f=>⟨⟨f.oth.lab,fun _ q=>nomatch q⟩,fun q=>q.elim f.tmp fun z=>z.elim fun _ z=>f.oth.own _ z,fun q=>(I.mus (b7 q)).elim fun _ z=>f.fr ((x.fr z).mpr q)⟩,fun e _ x=>⟨_,e,x,rfl⟩⟩
theorem InvC.left {frs':List Env} {mu:Addr->Prop} {st':St} (I:InvC C frs W st) (ho:∀ k,W.own k=none) (hm:∀ b o,W.h.get? b=some o->¬ mu b) (x:Ext mu W W') (I':InvC C frs' W' st'):Ext (fun _=>False) W (W.left W')/\InvC C frs (W.left W') st':=by
 refine ⟨⟨x.dom,x.labs,(fun q=>nomatch q),fun {b o} e h=>?_,fun _=>.rfl,x.keep,x.exo,fun e h _=>x.fc e h (hm _ _ e)⟩,?_⟩
 ·refine ⟨fun q=>q.elim (x.tmp e h).mp fun z=>z.elim fun _ z=>?_,fun q=>.inl ((x.tmp e h).mpr q)⟩
  cases x.own z with
  | new q=>exact (aD e q).elim
  | own q=>rw [ho] at q; exact aC q
 exact {
  sh:=I'.sh
  stat:=I'.stat
  lo:=fun b h=>by
   by_cases f:W.fr b
   ·exact ⟨(I.lo b (b7 f)).1,(I.lo b (b7 f)).2.elim fun _ e=>x.dom e⟩
   ·exact I'.lo b fun f'=>h ⟨⟨f'.oth.lab,fun _ q=>nomatch q⟩,fun q=>q.elim f'.tmp fun z=>z.elim fun _ z=>f'.oth.own _ z,f⟩
  nd:=I'.nd
  ol:=fun k b q=>nomatch q
  oi:=fun k k' b q=>nomatch q
  tl:=fun b q=>q.elim (I'.tl b) fun z=>z.elim fun _ z=>(I'.ol _ _ z).1
  fl:=fun b q=>by
   have hf:W'.fr b:=(I.mus (b7 q)).elim fun _ e=>(x.fr e).mpr q
   exact ⟨⟨(I'.fl b hf).1.lab,fun _ q=>nomatch q⟩,fun z=>z.elim (I'.fl b hf).2.1 fun z=>z.elim fun _ z=>(I'.fl b hf).1.own _ z,(I'.fl b hf).2.2⟩
  frs:=I.frs
  len:=I'.len
  objs:=fun n o e=>(I'.objs n o e).imp fun a q=>⟨q.1,q.2.mono (.left I x) fun _ _ e=>e⟩ }
end
noncomputable def flv:Flow->Value
 | .ret v=>v
 | _=>.none
theorem flow_val {X:Fx} {W:Wd} {f:Fl} {fl:Flow} (r:RF X W f fl):VRep X.C W (flowV f) (flv fl):=by
 cases f <;> cases fl <;> first | exact r.elim | exact r | rfl
theorem callOk_of {C:Cx} {T:Ctx} {n:Nat} (K:CxOk C) (hP:T.P=C.P) (hfree:T.free=true) (hcall:ju C n T.call) (hmake:∃ K,ju C (n - 4) (aw C.P K (n - 4))/\T.make=fun c vs st=>ni st.length c (aw C.P K (n - 4) c "__init__" (.obj c st.length::vs) (st++[.flds []])))
  (hss:∀ X:Fx,X.Ok->∀ ss,f8 X ss (exs X.T ss X.nms)):ju C (n+1) (fun c f vs st=>match C.P.find c f with | some fn=>runFn T fn vs st | none=>.stuck):=by
 intro c f vs st hne A frs W args fa I ho hargs hfa hh hfr room
 dsimp only at hne ⊢
 cases hf:C.P.find c f with
 | none=>rw [hf] at hne; exact absurd rfl hne
 | some fn =>
  rw [hf] at hne
  dsimp only at hne ⊢
  have hst:=K.st _ I.stat
  obtain ⟨a,ha,hfn⟩:=hst.fn c f fn hf
  rw [hfa] at ha; cases ha
  generalize C.fnD fa=fd at hfn
  generalize C.fnO fa=o at hfn
  have hw:=K.wr c f fn hf
  unfold runFn at hne ⊢
  by_cases hlen:zA4 fn.params.length vs.length=true
  case neg=>rw [if_neg hlen] at hne; exact absurd rfl hne
  rw [if_pos hlen] at hne ⊢
  have hlen':fn.params.length=vs.length:=beq_nat.mp hlen
  have hal:=hargs.length
  have hkind:∀ x ∈ fn.params.zip args,fd.scope.names.lookup x.1=some .local ∨ (fd.scope.names.lookup x.1=some .cell/\((cellsFrom (W.s.heap.objs.size+1) fd.scope.names []).lookup x.1).isSome=true):=fun x hx=>by
   rw [hfn.names]
   exact (hw.par x.1 (j3 hx)).imp id fun q=>⟨q,fu _ _ _ (.inl q)⟩
  refine codeAny_call_cells (by have hr:A.depth+(n+1)<=900:=room.1; show A.depth < 1000; lia) hfn.obj hfn.dat hst.nolimit hfn.code hfn.body (hfn.bind args (by rw [hal,hlen'])) hfn.clo hkind (fun s₁ hin=>?_) hfn.co hfn.gen hfn.kind
  let env:=callEnvC fd W.s.heap.objs.size fa
  let X:Fx:=⟨C,T,A.deeper env,env,env::frs,true,fn.names,n⟩
  have henvk:∀ x,env.kindOf x=fn.names.lookup x:=fun x=>by show fd.scope.names.lookup x=_; rw [hfn.names]
  have hnew:∀ b,(b=env.locals ∨ ∃ x,env.cells.lookup x=some b)->W.h.get? b=none:=fun b q=>zCo (by
   rcases q with rfl | ⟨x,hx⟩
   ·exact hin.toInCall.fresh
   ·exact zC3 (zBi hin.toInCall.fresh (hin.above x b (mem_of_lookup hx))))
  obtain ⟨h₁,tkA,rfl⟩:=hin.toInCall.same
  obtain ⟨xA,IA⟩:=I.more (tk:=tkA) (T:=fun _=>False) (N:=fun b=>b=env.locals ∨ ∃ x,env.cells.lookup x=some b) hin.toInCall.keep (fun _ q=>q.elim) (fun b q=>⟨hnew b q,by
   rcases q with rfl | ⟨x,hx⟩
   ·obtain ⟨o,es,ep,h1,h2,_⟩:=hin.toInCall.ns; exact ⟨o,h1,fun vs q=>by rw [h2] at q; exact cC Data.ctorIdx q rfl⟩
   ·obtain ⟨o,h1,h2⟩:=hin.cell x _ hx; exact ⟨o,h1,fun vs q=>by rw [h2] at q; exact cC Data.ctorIdx q rfl⟩⟩) fun _ q=>q.elim
  have F:X.Ok:={
   cx:=K
   P:=hP
   call:=fun _=>hcall
   make:=fun _=>hmake
   hd:=fun _=>hh
   frames:=Around.frames_deeper hfr
   kind:=hfn.kind
   loc:=fun x hx=>by rw [henvk]; exact hx
   cel:=fun x hx=>by
    rcases hx with hx | hx
    ·refine ⟨.inl (by rw [henvk]; exact hx),?_⟩
     have:=fu fd.scope.names (W.s.heap.objs.size+1) [] (.inl (by rw [hfn.names]; exact hx))
     exact zAx.mp this
    ·exact absurd hx (hw.nofree x)
   glob:=fun x hx=>by rw [henvk]; exact hx
   fcell:=fun _ x hx=>by rw [henvk]; exact hx
   inj:=fun x y c h1 h2=>name_of_addr hin.apart (mem_of_lookup h1) (mem_of_lookup h2)
   cl:=fun x c h1=>zBf (hin.above x c (mem_of_lookup h1))
   room:=⟨by have hr:A.depth+(n+1)<=900:=room.1; show A.depth+1+n<=900; lia,by have hr:A.units+4 * (n+1)<=7900:=room.2; show A.units+3+4 * n<=7900; lia⟩
   globals:=hfn.glob
   builtins:=hfn.blt
   frm:=⟨env,frs,rfl,rfl⟩ }
  have IX:Inv X ⟨fq fn.names fn.params vs,st⟩ (W.enter env.locals env.cells h₁ tkA):=by
   refine ⟨⟨IA.sh,IA.stat,IA.lo,IA.nd,IA.ol,IA.oi,IA.tl,IA.fl,fun e he=>?_,IA.len,IA.objs⟩,⟨.inr (.inl rfl),⟨_,hin.toInCall.ns⟩,fun x c h=>⟨.inr (.inr ⟨x,h⟩),_,hin.cell x c h⟩,fun x lv hn hx=>?_⟩⟩
   ·rcases zAl.mp he with rfl | he
    ·exact ⟨by show fd.scope.kind ≠ _; rw [hfn.kind]; exact nofun,_,rfl,.inr (.inl rfl)⟩
    ·exact IA.frs e he
   ·obtain ⟨i,av,h1,h2,rfl⟩:=args_get hn _ _ _ hx
    obtain ⟨v,h3,h4⟩:=hargs.get h2
    have hb:=ms (kindOf:=env.kindOf) fn.params args (fun _=>none) (fun _=>none) hw.nodup i x v h1 h3
    refine ⟨v,?_,h4.le xA⟩
    rcases hw.par x (zBq h1) with q | q
    ·exact .loc (X:=X) ((henvk x).trans q) hin.toInCall.ns (hb.1 ((henvk x).trans q))
    ·obtain ⟨cc,hcc⟩:=(F.cel x (.inl q)).2
     refine .cell (X:=X) (.inl ((henvk x).trans q)) hcc ?_
     rw [← hb.2 (by rw [henvk,q]; exact nofun)]
     exact hin.cell x cc hcc
  have hbody:=hss X F fn.body rfl _ _ IX
  have hne':exs T fn.body fn.names ⟨fq fn.names fn.params vs,st⟩ ≠ .stuck:=fun q=>hne (by rw [q]; rfl)
  have nmu:∀ b o,W.h.get? b=some o->¬ (false=false/\X.mu b):=fun b o e q=>aD e (hnew b (q.2.imp id fun z=>z.2))
  refine zAs (hbody hne') (fun fl s' q=>?_) fun e s' q=>?_
  ·cases q with
   | mk e g r =>
    have y:=(xA.weak (fun _ q=>q.elim)).trans g.ext
    obtain ⟨xl,Il⟩:=I.left ho nmu y g.inv.c
    have hv:=(flow_val r).mono (.left I y)
    have he:bc (exs T fn.body fn.names ⟨fq fn.names fn.params vs,st⟩)=.ok _ _:=congrArg bc e
    cases fl <;> exact .ok (W':=W.left _) he xl Il (fun _=>rfl) hv
  ·cases q with
   | mk e g t =>
    refine wp_leaving F (.refl g.inv) t fun W'' G'' t''=>?_
    have y:=(xA.weak (fun _ q=>q.elim)).trans (g.trans G''.weak).ext
    obtain ⟨xl,Il⟩:=I.left ho nmu y G''.inv.c
    have he:bc (exs T fn.body fn.names ⟨fq fn.names fn.params vs,st⟩)=.exc _ _:=congrArg bc e
    have hz:X.A.handled.isNone=true:=by rw [show X.A.handled=none from hh]; rfl
    exact .exc (W':=W.left W'') he xl Il (fun _=>rfl) ((hz ▸ t'').grow (.left I y) rfl)
section
variable {X:Fx} {W:Wd} {S:S}
noncomputable abbrev RA (R:Wd->List AV->List Value->Prop):Wd->List AV->Args->Prop:=fun W l a=>a.kw=[]/\R W l a.pos
theorem nC {M:Model} {A:Around} {E:Value->Shared->Prop} {s:Shared} {f:Value} {Q:Args->Shared->Prop} (h:Q ⟨[],[]⟩ s):wpAny M A (evalArgs f true [] []) Q E s:=by
 unfold evalArgs
 refine zAa (zAa (zAh (zAh ?_)))
 refine zAa (zAh ?_)
 refine zA2 ?_
 simp only [List.all_nil,if_true]
 exact zAa (zAh (zAa (zAh (zAh h))))
theorem fN {R:Wd->AV->Value->Prop} (hR:∀ {S W W' a v},R W a v->Inv X S W->EX X true W W'->R W' a v) {f:Value} {pos:Pos} {es:List Expr} {ds:List (D AV)} (h:TrE X R es ds) (I:Inv X S W):Snd X true (RA (RLs R)) (evalArgs f true (backTo pos (starEach es X.env)) []) (br ds S) W:=by
 have hsp:=gJ (R:=R) (pos:=pos) hR h S W I
 cases h with
 | nil=>exact fun _=>nC (.mk rfl (.refl I) ⟨rfl,.nil⟩)
 | @cons e d es ds h t =>
  by_cases hs:PySem.W.isStarred e=true
  ·rw [h.star hs]; exact .stk
  ·rw [bN hs] at hsp ⊢
   exact fun hne=>Calls.evalArgs_plain (zAs (hsp hne) (fun vs s' q=>by cases q with | mk e g r=>exact .mk e g ⟨rfl,r⟩) fun _ _ q=>q)
theorem snd_callF (F:X.Ok) (hq:X.T.free=true) (I:Inv X S W) {c f:Str} {fa:Addr} (hfa:X.C.fnA c f=some fa) {vs:List AV} {args:List Value} (hv:VReps X.C W vs args):Snd X true (RV X) (call (.ref fa) args) (fB X.T c f vs S) W:=fun hne=>by
 have hne':X.T.call c f vs S.st ≠ .stuck:=fun q=>hne (by unfold fB ez; rw [q])
 have hz:X.A.handled.isNone=true:=by rw [F.hd hq]; rfl
 refine wpAny_call (codeAny_mono (F.call hq c f vs S.st hne' X.A X.frs W.susp args fa I.c.susp (fun _=>rfl) (hv.mono .susp) hfa (F.hd hq) F.frames F.room) fun res s' hp=>?_)
 cases hp with
 | ok e x i o r=>exact .mk (W':=W.back _) (by unfold fB ez; rw [e]) (I.back x i) (r.mono (.back I.c x))
 | exc e x i o t=>exact .mk (W':=W.back _) (by unfold fB ez; rw [e]) (I.back x i) (.yes (hz ▸ t.grow (.back I.c x) rfl))
theorem iO (F:X.Ok) (hq:X.T.free=true) (I:Inv X S W) {c f:Str} {fa:Addr} {fn:Fn} (hfind:X.C.P.find c f=some fn) (hfa:X.C.fnA c f=some fa)
  {pos:Pos} {es:List Expr} {ds:List (D AV)} {fs:List AV} {first:List Value} (h:TrE X (RV X) es ds) (hf:VReps X.C W fs first) :
  Snd X true (RV X) (callWith pos (.ref fa) first (backTo pos (starEach es X.env)) []) (ax (br ds S) fun vs=>fB X.T c f (fs++vs)) W:=fun hne=>by
 have h1:=fN (R:=RV X) (fun r _ x=>VRep.le r x) (f:=.ref fa) (pos:=pos) h I
 have h0:br ds S ≠ .stuck:=fun q=>hne (by rw [q]; rfl)
 have ob:∀ {S W},Inv X S W->FnOk W.h fn fa (X.C.fnO fa) (X.C.fnD fa):=fun I=>by
  obtain ⟨a,ha,hfn⟩:=(I.st F).fn c f fn hfind
  rw [hfa] at ha; obtain rfl:=Option.some.inj ha
  exact hfn
 refine Calls.callWith_function (o:=X.C.fnO fa) (fd:=X.C.fnD fa) (zAs (h1 h0) (fun a s' q=>?_) fun e s' q=>?_)
 ·cases q with
  | @mk b S' W' e g r =>
   obtain ⟨ap,ak⟩:=a
   obtain rfl:ak=[]:=r.1
   refine ⟨⟨(ob g.inv).obj,(ob I).dat⟩,?_⟩
   have:=snd_callF (args:=first++ap) F hq g.inv hfa ((hf.le g.ext).append (RLs.v r.2))
   have he:ax (br ds S) (fun vs=>fB X.T c f (fs++vs))=fB X.T c f (fs++b) S':=by rw [e]; rfl
   rw [he] at hne ⊢
   exact zAs (this hne) (fun _ _ q=>q.pre g) fun _ _ q=>q.pre g
 ·cases q with
  | mk e g t=>exact .mk (by rw [e]; rfl) g t
end
section
variable {C:Cx} {X:Fx} {ev:Bool} {W W' W₀:Wd} {S:S} {h':Heap} {tk:Nat}
noncomputable abbrev Wd.hold (W:Wd) (h:Heap) (tk:Nat) (wr:List Addr):Wd:=⟨W.labs,W.own,fun b=>W.tmp b ∨ b ∈ wr,W.fr,{ W.s with heap:=h,toks:=tk }⟩
theorem Inv.hold (I:Inv X S W) {wr:List Addr} (g:Ge W.h h') (hw:∀ b ∈ wr,(W.tmp b ∨ W.h.get? b=none)/\∃ o,h'.get? b=some o):Good X ev W S (W.hold h' tk wr):=by
 have old:∀ {b:Addr} {o:Obj},W.h.get? b=some o->b ∈ wr->W.tmp b:=fun e q=>(hw _ q).1.elim id fun z=>(aD e z).elim
 have gr:Grow W (W.hold h' tk wr):=⟨id,fun e _ _=>g _ _ e,fun e f=>⟨f.oth,fun q=>q.elim f.tmp fun z=>f.tmp (old e z),f.fr⟩,fun e _ x=>⟨_,g _ _ e,x,rfl⟩⟩
 have nt:∀ {b:Addr},¬ W.free b->¬ W.tmp b->b ∉ wr:=fun h1 h2 q=>(I.c.mus h1).elim fun _ e=>h2 (old e q)
 have same:∀ b,dP W h' b:=fun b o e=>⟨o,g _ _ e,rfl⟩
 refine ⟨⟨fun e=>⟨_,g _ _ e⟩,⟨[],(zAt _).symm,fun _ q=>nomatch q⟩,fun q=>.own (W:=W) q,fun e _=>⟨fun q=>q.elim id (old e),.inl⟩,fun _=>.rfl,fun e _ _ _=>g _ _ e,fun e _ _ x=>⟨_,g _ _ e,x,rfl⟩,fun e _ _=>⟨_,g _ _ e,rfl⟩⟩,?_,I.f.mono gr (fun _ q=>q) (same _) (fun _ c _=>same c) fun x a q=>⟨q,fun o _ e=>g _ _ e⟩⟩
 exact {
  sh:=I.c.sh.elim fun h q=>q.elim fun t e=>⟨h',tk,by show ({ W.s with heap:=h',toks:=tk }:Shared)=_; rw [e]⟩
  stat:=fun b o e=>g _ _ (I.c.stat b o e)
  lo:=fun b h=>by
   by_cases f:W.free b
   ·have hb:b ∈ wr:=Classical.byContradiction fun q=>h ⟨f.oth,fun z=>z.elim f.tmp q,f.fr⟩
    exact ⟨(I.loose ((hw b hb).1.resolve_left f.tmp)).st,(hw b hb).2⟩
   ·exact ⟨(I.c.lo b f).1,(I.c.lo b f).2.imp fun _ e=>g _ _ e⟩
  nd:=I.c.nd
  ol:=fun k b q=>⟨(I.c.ol k b q).1,fun z=>z.elim (I.c.ol k b q).2 (nt (fV q) (I.c.ol k b q).2)⟩
  oi:=I.c.oi
  tl:=fun b q=>q.elim (I.c.tl b) fun z hl=>nt (nf_lab hl) (fun t=>I.c.tl b t hl) z
  fl:=fun b q=>⟨(I.c.fl b q).1,fun z=>z.elim (I.c.fl b q).2.1 (nt (b7 q) (I.c.fl b q).2.1),fun o vs e=>(I.c.mus (b7 q)).elim fun o' z=>(I.c.fl b q).2.2 o vs (z.trans ((g _ _ z).symm.trans e))⟩
  frs:=I.c.frs
  len:=I.c.len
  objs:=fun n o e=>(I.c.objs n o e).imp fun a q=>⟨q.1,q.2.mono gr fun _ _ e=>g _ _ e⟩ }
theorem my {e:Expr} {x:List Expr} (h:tupE e=some x):∃ k p,e=.Tuple x k p:=by
 unfold tupE at h
 by_cases q:e.ctorIdx=25
 ·rw [dif_pos q] at h
  exact Expr.Tuple.elim (motive_1:=fun e=>∀ q:e.ctorIdx=25,Expr.Tuple.elim (motive_1:=fun _=>Option (List Expr)) e q (fun x _ _=>some x)=some x->∃ k p,e=.Tuple x k p) e q (fun y k p _ h=>⟨k,p,congrArg (Expr.Tuple · k p) (Option.some.inj h)⟩) q h
 ·rw [dif_neg q] at h; exact aC h
noncomputable def wrAll:List Nat->List AV->D Unit
 | k::ks,v::vs=>aH (gI k (.val v)) fun _=>wrAll ks vs
 | _,_=>af ()
theorem wrAll_eq:∀ (ks:List Nat) (vs:List AV) (S:Mine.S),wrAll ks vs S=.ok () { S with loc:=fT ks vs S.loc }
 | [],_,S=>rfl
 | _::_,[],S=>rfl
 | k::ks,v::vs,S=>by show wrAll ks vs _=_; rw [wrAll_eq ks vs]; rfl
noncomputable abbrev oH (sc:Sc) (ts:List Expr):List Nat:=ts.map fun t=>aV ((cZ t).getD ⟨#[]⟩) sc
theorem j1 (F:X.Ok) (I:Inv X S W) {x:Str} {p:Pos} {a:AV} {v:Value} (hst:StOk X x) (h:VRep X.C W a v):Snd X false RU (assign (.Name x p) X.env v) (gI (aV x X.nms) (.val a) S) W:=by
 rw [PySem.assign_Name]; exact .stand (fS F I hst h)
theorem jK (F:X.Ok):∀ (ts:List Expr) (avs:List AV) (vs:List Value) (S:Mine.S) (W:Wd),ts.length=avs.length->(∀ t ∈ ts,∃ x p,t=.Name x p/\StOk X x)->Inv X S W->VReps X.C W avs vs ->
  Snd X false RU (assignInOrder ((assignEach ts X.env).map (·.2)) vs) (wrAll (oH X.nms ts) avs S) W
 | [],[],vs,S,W,_,ht,I,hv=>by obtain rfl:=hv; exact .pure I trivial
 | [],_::_,_,_,_,hl,_,_,_=>nomatch hl
 | _::_,[],_,_,_,hl,_,_,_=>nomatch hl
 | t::ts,a::avs,vs,S,W,hl,ht,I,hv=>by
  obtain ⟨x,p,rfl,hst⟩:=ht t zAb
  obtain ⟨v,vs',rfl,hv1,hv2⟩:=hv
  exact Snd.bind (j1 F I hst hv1).holding fun _ _ S₁ WA _ GA _=>jK F ts avs vs' S₁ WA (Nat.succ.inj hl) (fun t' ht'=>ht t' (zAc _ ht')) GA.inv (hv2.le GA.ext)
theorem ga:∀ (ts:List Expr),(∀ t ∈ ts,∃ x p,t=.Name x p/\StOk X x)->(assignEach ts X.env).length=ts.length/\(assignEach ts X.env).findIdx? (·.1)=none
 | [],_=>⟨rfl,rfl⟩
 | t::ts,h=>by
  obtain ⟨x,p,rfl,_⟩:=h t zAb
  obtain ⟨h1,h2⟩:=ga ts fun t' ht'=>h t' (zAc _ ht')
  rw [show assignEach (.Name x p::ts) X.env=(false,fun v=>assign (.Name x p) X.env v)::assignEach ts X.env from rfl]
  exact ⟨by simp [h1],by simp [List.findIdx?_cons,h2]⟩
inductive TgOk (X:Fx):Expr->Option Nat × List Nat->Prop
 | nm {x:Str} {p:Pos} (h:StOk X x):TgOk X (.Name x p) (some (aV x X.nms),[])
 | tp {ts:List Expr} {k:Nat} {p:Pos} (h:∀ t ∈ ts,∃ x p,t=.Name x p/\StOk X x):TgOk X (.Tuple ts k p) (none,oH X.nms ts)
theorem tgOk_of {ok:Str->Bool} {t:Expr} {t':Option Nat × List Nat} (h:mI ok t=true) (hok:∀ x,ok x=true->StOk X x) (hs:fR X.nms t=some t'):TgOk X t t':=by
 unfold mI at h
 unfold fR at hs
 cases hn:cZ t with
 | some x =>
  rw [hn] at h hs
  obtain ⟨p,rfl⟩:=ce hn
  cases hs
  exact .nm (hok x h)
 | none =>
  rw [hn] at h hs
  obtain ⟨ts,ht,rfl⟩:=zAo.mp hs
  rw [ht] at h
  obtain ⟨k,p,rfl⟩:=my ht
  refine .tp fun t ht=>?_
  have:=zA7.mp (show ts.all (nmOk ok)=true from h) t ht
  unfold nmOk at this
  cases hn:cZ t with
  | none=>rw [hn] at this; exact ff this
  | some x=>rw [hn] at this; obtain ⟨p,rfl⟩:=ce hn; exact ⟨x,p,rfl,hok x this⟩
inductive ItemOk (C:Cx) (W:Wd) (h:Heap):AV->Value->Prop
 | val {a:AV} {v:Value} (r:VRep C W a v):ItemOk C W h a v
 | tup {as:List AV} {T:Addr} {vals:Array Value} (t:h.IsTuple T vals) (r:VReps C W as vals.toList):ItemOk C W h (.tup as) (.ref T)
noncomputable def jr (e:Expr):Bool:=(tupE e).isSome
set_option tactic.hygienic true in
theorem j2 {t:Expr} {t':Option Nat × List Nat} {a:AV} {v:Value} (F:X.Ok) (hq:X.T.free=true) (I:Inv X S W) (hst:TgOk X t t') (h:ItemOk X.C W W.h a v) (hb:jr t=true ∨ VRep X.C W a v):Snd X false RU (assign t X.env v) (j9 t' a S) W:=by
 cases hst with
 | nm hx=>exact j1 F I hx (hb.resolve_left zAn)
 | @tp ts k p hx =>
  cases a <;> first | exact .stk | skip
  rename_i avs
  show Snd _ _ _ _ (if zA4 (oH X.nms ts).length avs.length then _ else _) _
  by_cases hlen:zA4 (oH X.nms ts).length avs.length=true
  case neg=>rw [if_neg hlen]; exact .stk
  rw [if_pos hlen,← wrAll_eq]
  have hlen':ts.length=avs.length:=zAe _ ▸ beq_nat.mp hlen
  obtain ⟨e1,e2⟩:=ga ts hx
  obtain ⟨ad,vs,rfl,hit,hv⟩:∃ ad vs,v=.ref ad/\W.h.IsTuple ad vs/\VReps X.C W avs vs.toList:=by
   cases h with
   | val r=>obtain ⟨ad,rfl,_,vs,n,h1,_,hv⟩:=r; exact ⟨ad,vs,rfl,⟨_,h1,rfl,n,rfl⟩,hv⟩
   | tup t r=>exact ⟨_,_,rfl,t,r⟩
  intro hne
  refine wpAny_assign_Tuple (F.hd hq) hit (by rw [e1,hlen',hv.size]) e2 fun h' he=>?_
  have G:=I.ge (ev:=false) (fun b' o e=>he b' o (zA5 (zAz e)) e:Ge W.h h') W.s.toks
  exact zAs (jK F ts avs vs.toList S _ hlen' hx G.inv (hv.le G.ext) hne) (fun _ _ q=>q.pre G) fun _ _ q=>q.pre G
end
theorem Grow.trans {W W' W'':Wd} (a:Grow W W') (b:Grow W' W''):Grow W W'' where
 lab:=fun e=>b.lab (a.lab e)
 kp:=fun e f p=>b.kp (a.kp e f p) (a.fr e f) p
 fr:=fun {c o} e f=>by
  by_cases h:Exo o
  ·obtain ⟨o',q,_⟩:=a.ex e f h; exact b.fr q (a.fr e f)
  ·exact b.fr (a.kp e f h) (a.fr e f)
 ex:=fun e f x=>by
  obtain ⟨o',h1,h2,h3⟩:=a.ex e f x
  obtain ⟨o'',h4,h5,h6⟩:=b.ex h1 (a.fr e f) h2
  exact ⟨o'',h4,h5,h6.trans h3⟩
structure IterS (C:Cx) (A:Around) (h0:Heap) (W:Wd) (tb:Bool) (I:Addr) (fp wr:List Addr) (l:List AV) (St:Nat->Heap->Prop) (Mid:Nat->Value->Heap->Prop):Prop where
 frame:∀ i h h',St i h->(∀ b ∈ fp,∀ o,h.get? b=some o->h'.get? b=some o)->St i h'
 item:∀ i (s:Shared) (Q:Option Value->Shared->Prop) (E:Value->Shared->Prop),i < l.length->St i s.heap ->
  (∀ v h' tk,Mid i v h'->(∀ b o,b ∉ wr->s.heap.get? b=some o->h'.get? b=some o)->Q (some v) { s with heap:=h',toks:=tk })->wpAny C.M A (pyNext (.ref I)) Q E s
 go:∀ t i v (s:Shared) (Q:Unit->Shared->Prop) (E:Value->Shared->Prop),(tb=true->jr t=true)->(isNm t=true ∨ jr t=true)->i < l.length->Mid i v s.heap ->
  (∀ h' a,l[i]?=some a->ItemOk C W h' a v->(tb=false->VRep C W a v)->St (i+1) h'->(∀ b o,b ∉ wr->s.heap.get? b=some o->h'.get? b=some o)->Q () { s with heap:=h' })->wpAny C.M A (letOwnedTupleGo t (.ref I) v) Q E s
 done:∀ (s:Shared) (Q:Option Value->Shared->Prop) (E:Value->Shared->Prop),St l.length s.heap ->
  (∀ h' tk,(∀ b o,b ∉ wr->s.heap.get? b=some o->h'.get? b=some o)->Q none { s with heap:=h',toks:=tk })->wpAny C.M A (pyNext (.ref I)) Q E s
 self:∀ i (s:Shared) (Q E:Value->Shared->Prop),St i s.heap->Q (.ref I) s->wpAny C.M A (pyIter (.ref I)) Q E s
 wrs:∀ b ∈ wr,h0.get? b=none/\(W.tmp b ∨ W.h.get? b=none)
 wr0:tb=false->∀ b ∈ wr,W.h.get? b=none
 mid:tb=false->∀ i v h,i < l.length->Mid i v h->St (i+1) h/\∃ a,l[i]?=some a/\VRep C W a v
 fps:∀ b ∈ fp,b ∉ wr->∃ o,W.h.get? b=some o/\W.free b/\Pln o
 ex:∀ i h,St i h->∀ b ∈ wr,∃ o,h.get? b=some o/\Pln o
inductive ErT {β:Type} (X:Fx) (ev:Bool) (W:Wd) (o:Out β) (v:Value):Shared->Prop
 | mk {c:Str} {S:S} {W':Wd} (e:o=.exc c S) (g:Good X ev W S W') (t:IsTraced X.A.handled.isNone X.C W' c v):ErT X ev W o v W'.s
section
variable {X:Fx} {W W' W₀:Wd} {S:S} {h':Heap} {tk:Nat} {wr:List Addr}
theorem Good.turn {ev:Bool} (G:Good X ev W₀ S W) (hw:∀ b ∈ wr,W₀.h.get? b=none/\W.tmp b) (hp:∀ b ∈ wr,∃ o,W.h.get? b=some o/\Pln o) (hx:∀ b ∈ wr,∃ o,h'.get? b=some o) (k:∀ b o,b ∉ wr->W.h.get? b=some o->h'.get? b=some o):Good X ev W₀ S (W.to h' tk)/\Grow W (W.to h' tk):=by
 have m:Sim X.C W (· ∈ wr) h':=⟨fun {b o} e=>by
   by_cases hb:b ∈ wr
   ·exact hx b hb
   ·exact ⟨o,k b o hb e⟩,fun e h _=>k _ _ h e,fun {b o} e x=>⟨o,k b o (fun q=>(hp b q).elim fun _ z=>z.2 (Option.some.inj (z.1.symm.trans e) ▸ x)) e,x,rfl⟩,fun {b o} e f=>⟨o,k b o (fun q=>(G.inv.c.fl b f).2.1 (hw b q).2) e,rfl⟩⟩
 exact ⟨G.sim m fun b q=>⟨(hw b q).2,(hw b q).1⟩,m.grow fun b q=>(hw b q).2⟩
noncomputable abbrev Wd.over (W:Wd) (h:Heap) (tk:Nat) (wr:List Addr):Wd:=⟨W.labs,W.own,fun b=>W.tmp b/\b ∉ wr,W.fr,{ W.s with heap:=h,toks:=tk }⟩
theorem Good.over {ev:Bool} (G:Good X ev W₀ S W) (hw:∀ b ∈ wr,W₀.h.get? b=none/\W.tmp b) (k:∀ b o,b ∉ wr->W.h.get? b=some o->h'.get? b=some o):Good X ev W₀ S (W.over h' tk wr)/\Grow W (W.over h' tk wr):=by
 have I:=G.inv.c
 have nl:∀ {b},b ∈ W.labs->b ∉ wr:=fun h q=>I.tl _ (hw _ q).2 h
 have no:∀ {j b},W.own j=some b->b ∉ wr:=fun h q=>(I.ol _ _ h).2 (hw _ q).2
 have nf:∀ {b},W.fr b->b ∉ wr:=fun h q=>(I.fl _ h).2.1 (hw _ q).2
 have n0:∀ {b o},W₀.h.get? b=some o->b ∉ wr:=fun e q=>aD e (hw _ q).1
 have gr:Grow W (W.over h' tk wr):=⟨id,fun e f _=>k _ _ (fun q=>f.tmp (hw _ q).2) e,fun _ f=>⟨f.oth,fun q=>f.tmp q.1,f.fr⟩,fun e f x=>⟨_,k _ _ (fun q=>f.tmp (hw _ q).2) e,x,rfl⟩⟩
 refine ⟨⟨⟨fun e=>(G.ext.dom e).imp fun _ q=>k _ _ (n0 e) q,G.ext.labs,G.ext.own,fun e h=>⟨fun q=>(G.ext.tmp e h).mp q.1,fun q=>⟨(G.ext.tmp e h).mpr q,n0 e⟩⟩,G.ext.fr,fun e h f p=>k _ _ (n0 e) (G.ext.keep e h f p),fun e h f p=>(G.ext.exo e h f p).imp fun _ q=>⟨k _ _ (n0 e) q.1,q.2⟩,fun e h m=>(G.ext.fc e h m).imp fun _ q=>⟨k _ _ (n0 e) q.1,q.2⟩⟩,?_,G.inv.f.mono gr (fun _ q=>q) (fun o e=>⟨o,k _ _ (nf G.inv.f.lc) e,rfl⟩) (fun y c h o e=>⟨o,k _ _ (nf (G.inv.f.cells y c h).1) e,rfl⟩) fun x a q=>⟨q,fun o _ e=>k _ _ (no q) e⟩⟩,gr⟩
 exact {
  sh:=I.sh.elim fun h q=>q.elim fun t e=>⟨h',tk,by show ({ W.s with heap:=h',toks:=tk }:Shared)=_; rw [e]⟩
  stat:=fun b o e=>k _ _ (fun q=>aD e (I.lo b (gp (hw b q).2)).1) (I.stat b o e)
  lo:=fun b h=>by
   have hb:b ∉ wr:=fun q=>h ⟨⟨fun z=>nl z q,fun j z=>no z q⟩,fun z=>z.2 q,fun z=>nf z q⟩
   have:=I.lo b fun f=>h ⟨f.oth,fun z=>f.tmp z.1,f.fr⟩
   exact ⟨this.1,this.2.imp fun _ e=>k _ _ hb e⟩
  nd:=I.nd
  ol:=fun j b q=>⟨(I.ol j b q).1,fun z=>(I.ol j b q).2 z.1⟩
  oi:=I.oi
  tl:=fun b q=>I.tl b q.1
  fl:=fun b q=>⟨(I.fl b q).1,fun z=>(I.fl b q).2.1 z.1,fun o vs e=>(I.mus (b7 q)).elim fun o' z=>(I.fl b q).2.2 o vs (z.trans ((k _ _ (nf q) z).symm.trans e))⟩
  frs:=I.frs
  len:=I.len
  objs:=fun n o e=>(I.objs n o e).imp fun a q=>⟨q.1,q.2.mono gr fun _ _ e=>k _ _ (nl (b0 q.1)) e⟩ }
theorem ng {β:Type} {o:Out β} {c:Str} {S':Mine.S} {e:Value} (F:X.Ok) (ho:o=.exc c S') (G:Good X false W₀ S' W') (t:IsTrace X.A.handled.isNone X.C W' c e) {R:Result->Shared->Prop} (hR:∀ e s',ErT X false W₀ o e s'->R (.error e) s'):notedBy X.C.M X.A X.env (fun e s'=>R (.error e) s') e W'.s :=
 c6 F (.refl G.inv) t fun W'' G'' t''=>hR e _ (.mk ho (G.trans G''.weak) t'')
structure LoopAt (X:Fx) (W₀ W:Wd) (wr:List Addr) (St:Nat->Heap->Prop) (i:Nat) (S:Mine.S) (W':Wd):Prop where
 good:Good X false W₀ S W'
 grow:Grow W W'
 held:∀ b ∈ wr,W'.tmp b
 st:St i W'.h
inductive ForI (X:Fx) (W₀ W:Wd) (wr:List Addr) (St:Nat->Heap->Prop) (t':Option Nat × List Nat) (dbody:D Fl) (l:List AV) (o:Out Fl):Nat->Shared->Prop
 | mk {i:Nat} {W':Wd} {S':Mine.S} (hi:i<=l.length) (L:LoopAt X W₀ W wr St i S' W') (h:aX t' dbody (l.drop i) S'=o):ForI X W₀ W wr St t' dbody l o (l.length+1 - i) W'.s
theorem codeAny_for (F:X.Ok) (hq:X.T.free=true) {t:Expr} {t':Option Nat × List Nat} {body:List Stmt} {dbody:D Fl} {l:List AV} {I:Addr} {fp:List Addr} {St:Nat->Heap->Prop} {Mid:Nat->Value->Heap->Prop} (hst:TgOk X t t')
  (hbody:∀ S W,Inv X S W->Snd X false (RF X) (execs body X.env) (dbody S) W) {tb:Bool} (htb:tb=true->jr t=true) (G:Good X false W₀ S W) (It:IterS X.C X.A W₀.h W tb I fp wr l St Mid) (g:Ge W.h h') (hst0:St 0 h') (hne:aX t' dbody l S ≠ .stuck)
  {R:Result->Shared->Prop} (hR:∀ f s',OkP X false (RF X) W₀ (aX t' dbody l S) f s'->R (.ok f) s') (hRe:∀ e s',ErT X false W₀ (aX t' dbody l S) e s'->R (.error e) s') :
  codeAny X.C.M X.A (.forLoop t (.ref I) body [] X.env) R { W.s with heap:=h',toks:=tk }:=by
 have hw:=It.wrs
 have Gh:=G.inv.hold (ev:=false) (tk:=tk) g fun b q=>⟨(hw b q).2,(It.ex 0 h' hst0 b q).imp fun _ z=>z.1⟩
 refine codeAny_forLoop_any (ForI X W₀ W wr St t' dbody l (aX t' dbody l S)) ?_ (l.length+1)
  (.mk (i:=0) (W':=W.hold h' tk wr) (S':=S) (zBa _) ⟨G.trans Gh,Gh.ext.grow,fun b q=>.inr q,hst0⟩ (by rw [List.drop_zero]))
 generalize aX t' dbody l S=o at hne hR hRe
 rintro m _ (@⟨i,WA,S₁,hi,L,hgo⟩)
 by_cases hlt:i < l.length
 ·refine It.item i WA.s _ _ hlt L.st fun v h₁ tkA hMid hkA=>?_
  refine It.go t i v _ _ _ htb (by cases hst with | nm _=>exact .inl rfl | tp _=>exact .inr rfl) hlt hMid fun h₂ a ha hitem hval hSt' hkB=>?_
  have hdrop:l.drop i=a::l.drop (i+1):=by
   rw [← (zA3.mp ha).2]; exact zB9 hlt
  rw [hdrop] at hgo
  have exA:=It.ex (i+1) h₂ hSt'
  obtain ⟨GB,grA⟩:=L.good.turn (tk:=tkA) (fun b q=>⟨(hw b q).1,L.held b q⟩) (It.ex i _ L.st) (fun b q=>(exA b q).imp fun _ z=>z.1) fun b o hb e=>hkB b o hb (hkA b o hb e)
  have grW:Grow W (WA.to h₂ tkA):=L.grow.trans grA
  have hitemA:ItemOk X.C (WA.to h₂ tkA) h₂ a v:=by
   cases hitem with
   | val r=>exact .val (r.mono grW)
   | tup t r=>exact .tup t (r.mono grW)
  have hvalA:jr t=true ∨ VRep X.C (WA.to h₂ tkA) a v:=by
   cases tb with
   | true=>exact .inl (htb rfl)
   | false=>exact .inr ((hval rfl).mono grW)
  have hasg:=j2 F hq GB.inv hst hitemA hvalA
  have hgoB:ax (j9 t' a S₁) (fun _=>aH dbody fun f=>match f with | .next=>aX t' dbody (l.drop (i+1)) | .ret v=>af (.ret v))=o:=hgo
  have hna:j9 t' a S₁ ≠ .stuck:=fun q=>hne (by rw [← hgoB,q]; rfl)
  refine zAs (hasg hna) (fun _ sA q=>?_) fun e sA q=>?_
  ·cases q with
   | @mk u Sa WC e₃ GC _ =>
   rw [e₃] at hgoB
   have hgoB:ax (dbody Sa) (fun f=>match f with | .next=>aX t' dbody (l.drop (i+1)) | .ret v=>af (.ret v))=o:=hgoB
   have hnb:dbody Sa ≠ .stuck:=fun q=>hne (by rw [← hgoB,q]; rfl)
   have next:∀ {S₅ W₅},Good X false WC S₅ W₅->LoopAt X W₀ W wr St (i+1) S₅ W₅:=fun {S₅ W₅} G₅=>by
    have G₅A:Good X false (WA.to h₂ tkA) S₅ W₅:=GC.trans G₅
    have gr:Grow W W₅:=grW.trans G₅A.ext.grow
    have ho:∀ b ∈ wr,(WA.to h₂ tkA).oth b/\¬ WA.fr b:=fun b q=>⟨⟨GB.inv.c.tl b (L.held b q),fun k z=>(GB.inv.c.ol k b z).2 (L.held b q)⟩,fun z=>(GB.inv.c.fl b z).2.1 (L.held b q)⟩
    refine ⟨GB.trans G₅A,gr,fun b q=>(exA b q).elim fun o z=>(G₅A.ext.tmp z.1 (ho b q).1).mpr (L.held b q),It.frame (i+1) h₂ W₅.h hSt' fun b hb o e=>?_⟩
    by_cases hbw:b ∈ wr
    ·exact (exA b hbw).elim fun o' z=>by
      rw [Option.some.inj (e.symm.trans z.1)]
      exact G₅A.ext.keep z.1 (ho b hbw).1 (ho b hbw).2 z.2
    ·obtain ⟨o',z1,z2,z3⟩:=It.fps b hb hbw
     rw [Option.some.inj (e.symm.trans (grW.kp z1 z2 z3))]
     exact gr.kp z1 z2 z3
   refine zAs (hbody Sa WC GC.inv hnb) (fun fl s₅ q=>?_) fun e s₅ q=>?_
   ·cases q with
    | @mk f S₅ W₅ e₅ G₅ r₅ =>
    have L₅:=next G₅
    rw [e₅] at hgoB
    cases f <;> cases fl <;> first | exact r₅.elim | skip
    ·exact ⟨_,Nat.sub_lt_sub_left (zBd hlt) (zCt _),.mk hlt L₅ hgoB⟩
    ·exact hR _ _ (.mk hgoB.symm L₅.good r₅)
   ·cases q with
    | mk e₅ G₅ t₅=>exact ng F (o:=o) (by rw [← hgoB,e₅]; rfl) (next G₅).good t₅ hRe
  ·cases q with
   | mk e₃ GC tD=>exact ng F (o:=o) (by rw [← hgoB,e₃]; rfl) (GB.trans GC) tD hRe
 ·obtain rfl:i=l.length:=zCx hi (Nat.not_lt.mp hlt)
  refine It.done WA.s _ _ L.st fun h' tk hk=>?_
  dsimp only
  rw [execs_nil]
  rw [List.drop_length] at hgo
  exact zAh (hR _ _ (.mk (W':=WA.over h' tk wr) hgo.symm (L.good.over (fun b q=>⟨(hw b q).1,L.held b q⟩) hk).1 trivial))
noncomputable def itA (tb:Bool) (l:List AV):AV:=if tb then .tup l else .lst l
noncomputable def RIv (X:Fx) (h0:Heap) (W:Wd) (a:AV) (v:Value):Prop:=∃ tb l,a=itA tb l/\∀ (Q E:Value->Shared->Prop),
 (∀ I fp wr St Mid h' tk,IterS X.C X.A h0 W tb I fp wr l St Mid->Ge W.h h'->St 0 h'->Q (.ref I) { W.s with heap:=h',toks:=tk })->wpAny X.C.M X.A (pyIter v) Q E W.s
noncomputable abbrev SndI (X:Fx) (e:Expr) (d:D AV):Prop:=∀ S W,Inv X S W->Snd X true (RIv X W.h) (eval e X.env) (d S) W
theorem iI {it:Expr} {env:Env} (h:∀ a b c,it ≠ .Set a b c) (x:Value):foldedSetIterable it env x=Pure.pure x:=by
 cases it <;> first | rfl | exact absurd rfl (h _ _ _)
theorem asT_it {t':Option Nat × List Nat} {tb:Bool} {l:List AV} {f:List AV->D Fl} (h:asT t' (itA tb l) f S ≠ .stuck):asT t' (itA tb l) f=f l/\(tb=true->t'.1=none):=by
 cases tb with
 | false=>exact ⟨rfl,fun q=>nomatch q⟩
 | true =>
  obtain ⟨o,ks⟩:=t'
  cases o with
  | none=>exact ⟨rfl,fun _=>rfl⟩
  | some k=>exact absurd rfl h
theorem sndS_for (F:X.Ok) (hq:X.T.free=true) {t it:Expr} {t':Option Nat × List Nat} {body:List Stmt} {p:Pos} {dit:D AV} {dbody:D Fl} (hset:∀ a b c,it ≠ .Set a b c) (hi:SndI X it dit) (hb:f8 X body dbody) (hst:X.fn=true->TgOk X t t'):cT X (.For t it body [] p) (cB t' dit dbody):=fun hf S W I hne=>by
 have hst:=hst hf
 have hne:ax (dit S) (fun v=>asT t' v fun l=>aX t' dbody l) ≠ .stuck:=hne
 show wpAny _ _ _ (OkP X false (RF X) W (ax (dit S) fun v=>asT t' v fun l=>aX t' dbody l)) (ErP X false W (ax (dit S) fun v=>asT t' v fun l=>aX t' dbody l)) _
 have h0:dit S ≠ .stuck:=fun q=>hne (by rw [q]; rfl)
 refine wpAny_For (zAs (hi S W I h0) (fun v s₁ q=>?_) fun e s₁ q=>?_) (iI hset)
 ·cases q with
  | @mk a S₁ WA e G r =>
  obtain ⟨tb,l,rfl,hit⟩:=r
  rw [e] at hne ⊢
  have hne:asT t' (itA tb l) (fun l=>aX t' dbody l) S₁ ≠ .stuck:=hne
  obtain ⟨ea,htb⟩:=asT_it hne
  show wpAny _ _ _ (fun it s₂=>codeAny _ _ _ (fun r s'=>match r with | .ok f=>OkP X false (RF X) W (asT t' (itA tb l) (fun l=>aX t' dbody l) S₁) f s' | .error e=>cameBackBy X.C.M X.A X.env (ErP X false W (asT t' (itA tb l) (fun l=>aX t' dbody l) S₁)) e s') s₂) _ _
  rw [ea] at hne ⊢
  refine hit _ _ fun I fp wr St Mid h' tk It g st0=>?_
  refine codeAny_for F hq hst (hb hf) (fun q=>?_) G.weak It g st0 hne (fun f s' q=>q) fun e s' q=>?_
  ·cases hst with
   | nm _=>exact nomatch htb q
   | tp _=>rfl
  ·cases q with
   | mk e g t=>exact wp_cameBack (.refl g.inv) t fun W'' G'' t''=>.mk e (g.trans G''.weak) (.yes t'')
 ·cases q with
  | mk e g t=>exact .mk (by rw [e]; rfl) g.weak t
end
set_option maxRecDepth 100000
section
variable {C:Cx} {A:Around} {h0:Heap} {W:Wd} {I:Addr} {fp wr:List Addr} {l:List AV} {St:Nat->Heap->Prop}
theorem gN {e:Expr} (h:jr e=true):∃ x k p,e=.Tuple x k p:=(zAx.mp h).elim fun x q=>⟨x,my q⟩
theorem isNm_some {e:Expr} (h:isNm e=true):∃ x p,e=.Name x p:=(zAx.mp h).elim fun x q=>⟨x,ce q⟩
theorem IterS.ofW {P:Nat->Value->Prop} (Wk:Walks C.prog C.w A I fp wr l.length P St) (hP:∀ i v,P i v->i < l.length->∃ a,l[i]?=some a/\VRep C W a v) (hwr:∀ b ∈ wr,h0.get? b=none/\W.h.get? b=none)
  (hfp:∀ b ∈ fp,b ∉ wr->∃ o,W.h.get? b=some o/\W.free b/\Pln o) (hex:∀ i h,St i h->∀ b ∈ wr,∃ o,h.get? b=some o/\Pln o)
  (hown:∀ i (s:Shared),St i s.heap->∃ o,s.heap.get? I=some o/\((o.cls=.type "list_iterator" ∨ o.cls=.type "tuple_iterator")/\(∃ x y,o.data=.fields #[x,y]) ∨ (∃ x y z,o={ cls:=.type "range_iterator",data:=.fields #[x,y,z] }) ∨ (o.cls=.type "dict_keyiterator"/\∃ x y z u,o.data=.fields #[x,y,z,u]))):IterS C A h0 W false I fp wr l St fun i v h=>P i v/\St (i+1) h:=by
 refine ⟨Wk.frame,fun i s Q E hi st hQ=>Wk.item i s Q E hi st fun v h' tk h1 h2 h3=>hQ v h' tk ⟨h1,h2⟩ h3,fun t i v s Q E _ ht hi hm hQ=>?_,Wk.done,Wk.self,fun b q=>⟨(hwr b q).1,.inr (hwr b q).2⟩,fun _ b q=>(hwr b q).2,fun _ i v h hi q=>⟨q.2,hP i v q.1 hi⟩,hfp,hex⟩
 obtain ⟨a,ha,hr⟩:=hP i v hm.1 hi
 have hQ':=hQ s.heap a ha (.val hr) (fun _=>hr) hm.2 fun _ _ _ e=>e
 rcases ht with ht | ht
 ·obtain ⟨x,p,rfl⟩:=isNm_some ht; exact zAh hQ'
 ·obtain ⟨ts,k,p,rfl⟩:=gN ht
  unfold letOwnedTupleGo
  cases v <;> first | exact zAh hQ' | skip
  obtain ⟨o,h1,h2⟩:=hown _ s hm.2
  refine zAa (wpAny_load h1 ?_)
  rcases h2 with ⟨h2,x,y,h3⟩ | ⟨x,y,z,rfl⟩ | ⟨h2,x,y,z,u,h3⟩
  ·rw [h3]
   rcases h2 with h2 | h2 <;> rw [h2] <;> exact zAh hQ'
  ·exact zAh hQ'
  ·rw [h3,h2]; exact zAh hQ'
theorem items_at {vs:Array Value} {i:Nat} {v:Value} (hv:VReps C W l vs.toList) (h:vs[i]?=some v) (hlt:i < l.length):∃ a,l[i]?=some a/\VRep C W a v:=by
 obtain ⟨v',q1,q2,_⟩:=kB hv (zAv hlt)
 rw [h] at q1
 exact ⟨_,zAv hlt,Option.some.inj q1 ▸ q2⟩
theorem fw {ty:String} {o:Obj} (h:o.cls=.type ty) (hn:ty ≠ "traceback"):Pln o:=.type h hn
end
section
variable {X:Fx} {W W₀:Wd} {S:S}
theorem lB {a ad:Addr} {o:Obj} (h:W.h.get? ad=some o) (f:W.free ad) (p:Pln o):∀ b ∈ [a,ad],b ∉ [a]->∃ o,W.h.get? b=some o/\W.free b/\Pln o:=fun b hb hn=>by
 rcases zAl.mp hb with rfl | hb
 ·exact absurd zAb hn
 ·exact zAf.mp hb ▸ ⟨o,h,f,p⟩
theorem kx (x:Ext (fun _=>False) W₀ W):∀ b ∈ [W.h.objs.size],W₀.h.get? b=none/\W.h.get? b=none:=fun b hb=>by
 rw [zAf.mp hb]
 refine ⟨?_,get?_size⟩
 cases e:W₀.h.get? W.h.objs.size with
 | none=>rfl
 | some o=>exact (x.dom e).elim fun _ q=>(aD q get?_size).elim
theorem ext0 (x:EX X true W₀ W):Ext (fun _=>False) W₀ W:=x.weak fun _ q=>nomatch q.1
theorem RIv.of_val (F:X.Ok) (hq:X.T.free=true) (x:EX X true W₀ W) {a:AV} {v:Value} {l:List AV} (r:VRep X.C W a v) (hi:jA a=some l):RIv X W₀.h W (.lst l) v:=by
 refine ⟨false,l,rfl,fun Q E hQ=>?_⟩
 cases a <;> first | (exact aC hi; done) | skip <;> obtain rfl:=Option.some.inj hi
 rotate_left 2
 ·obtain ⟨ad,rfl,hf,o,ss,ws,hg,hns,rfl,hD,hv⟩:=r
  have hne:ad ≠ W.h.objs.size:=zA5 (zAz hg)
  obtain ⟨ep,hat⟩:=(zBk.mpr ⟨o,hg,hD.is⟩).dictAt
  have hlen:(ss.zip ws).length=(ss.map AV.str).length:=by rw [zAe,zCi,hD.len,Nat.min_self]
  have Wk:=Walks.dictKeys (knd:=strKind X.C.prog X.C.w) (prog:=X.C.prog) (w:=X.C.w) (A:=X.A) (F.hd hq) W.h.objs.size ad hne (ss.zip ws) ep
  generalize hN:(ss.zip ws).length=N at Wk hlen
  subst hlen
  refine wpAny_pyIter_dict hns hat (hQ W.h.objs.size _ _ _ _ _ W.s.toks (IterS.ofW Wk ?_ (kx (ext0 x)) (lB hg hf hD.pln) (fun i h' q b hb=>q.1.elim fun o q=>⟨o,zAf.mp hb ▸ q.1,fw q.2.1 (by decide)⟩)
   fun i s q=>q.1.elim fun o q=>⟨o,q.1,.inr (.inr ⟨q.2.1,_,_,_,_,q.2.2⟩)⟩) .push ⟨⟨_,zAp _ rfl,rfl,by rw [hN]; rfl⟩,hat.at' fun o e=>zAg _ e⟩)
  rintro i v ⟨k,y,hk,his⟩ hlt
  obtain ⟨h1,h2⟩:=List.getElem?_zip_eq_some.mp hk
  obtain ⟨t,rfl⟩:=Value.isStrOf_shape his
  exact ⟨.str k,by rw [zBv,h1]; rfl,hD.ok k (zBq h1),t,rfl⟩
 all_goals
  obtain ⟨ad,rfl,hf,vs,n,hg,hsz,hv⟩:=r
  have hne:ad ≠ W.h.objs.size:=zA5 (zAz hg)
 ·refine zCk ⟨_,hg,rfl,n,rfl⟩ (hQ W.h.objs.size _ _ _ _ _ W.s.toks (IterS.ofW (hv.size ▸ Walks.tuple (F.hd hq) W.h.objs.size ad hne vs) (fun i v hv' hlt=>items_at hv hv' hlt) (kx (ext0 x)) (lB hg hf eF) (fun i h' q b hb=>q.1.elim fun o q=>⟨o,zAf.mp hb ▸ q.1,fw q.2.1 (by decide)⟩)
   fun i s q=>q.1.elim fun o q=>⟨o,q.1,.inl ⟨.inr q.2.1,_,_,q.2.2⟩⟩) .push ⟨⟨_,zAp _ rfl,rfl,rfl⟩,⟨_,zAg _ hg,rfl,n,rfl⟩⟩)
 ·refine wpAny_pyIter_list ⟨_,hg,rfl,n,rfl⟩ (hQ W.h.objs.size _ _ _ _ _ W.s.toks (IterS.ofW (hv.size ▸ Walks.list (F.hd hq) W.h.objs.size ad hne vs) (fun i v hv' hlt=>items_at hv hv' hlt) (kx (ext0 x)) (lB hg hf eG) (fun i h' q b hb=>q.1.elim fun o q=>⟨o,zAf.mp hb ▸ q.1,fw q.2.1 (by decide)⟩)
   fun i s q=>q.1.elim fun o q=>⟨o,q.1,.inl ⟨.inl q.2.1,_,_,q.2.2⟩⟩) .push ⟨⟨_,zAp _ rfl,rfl,rfl⟩,⟨_,zAg _ hg,rfl,n,rfl⟩⟩)
theorem sndI_val (F:X.Ok) (hq:X.T.free=true) {e:Expr} {d:D AV} (h:SndE X e d):SndI X e (ba d):=fun S W I=>by
 refine fun hne=>?_
 have hne:ax (d S) (fun c=>Mine.opt ((jA c).map AV.lst)) ≠ .stuck:=hne
 refine zAs (h S W I fun q=>hne (by rw [q]; rfl)) (fun v s' q=>?_) fun v s' q=>?_
 ·cases q with
  | @mk a S' W' e g r =>
   rw [e] at hne
   cases hi:jA a with
   | none=>exact absurd (by show Mine.opt ((jA a).map AV.lst) S'=_; rw [hi]; rfl) hne
   | some l=>exact .mk (b:=.lst l) (S:=S') (by show ax (d S) _=_; rw [e]; show Mine.opt ((jA a).map AV.lst) S'=_; rw [hi]; rfl) g (RIv.of_val F hq g.ext r hi)
 ·cases q with
  | mk e g t=>exact .mk (by show ax (d S) _=_; rw [e]; rfl) g t
theorem eK (a b:Int):(eu a b).length=(b - a).toNat:=by simp [eu]
theorem rangeL_get {a b:Int} {i:Nat} (h:i < (b - a).toNat):(eu a b)[i]?=some (.int (a+i)):=by
 simp [eu,h]
theorem okR_spec {x:Int} (h:okR x=true):-(2 ^ 62)<=x/\x < 2 ^ 62:=by
 have:x.natAbs < 1000000000000000000:=of_decide_eq_true h
 lia
theorem RIv.of_range (F:X.Ok) (hq:X.T.free=true) (x:EX X true W₀ W) {a b:Int} {t u v:Tok} {ad:Addr} (hr:IsRange W.h ad a b 1 t u v) (ha:okR a=true) (hb:okR b=true):RIv X W₀.h W (.lst (eu a b)) (.ref ad):=by
 refine ⟨false,_,rfl,fun Q E hQ=>?_⟩
 obtain ⟨a1,a2⟩:=okR_spec ha
 obtain ⟨b1,b2⟩:=okR_spec hb
 have hsz:Builtin.Range.rangeSize a b 1=((b - a).toNat:Int):=by rw [rangeSize_one]; split <;> lia
 refine wpAny_pyIter_range hr (small_one a1 a2 b1 b2) (hQ W.h.objs.size [W.h.objs.size] _ _ _ _ W.s.toks (IterS.ofW ((eK a b) ▸ Walks.range (F.hd hq) W.h.objs.size a 1 (b - a).toNat) ?_ (kx (ext0 x)) (fun b hb hn=>absurd hb hn) (fun i h' q b hb=>⟨_,zAf.mp hb ▸ q,fw rfl (by decide)⟩) fun i s q=>⟨_,q,.inr (.inl ⟨_,_,_,rfl⟩)⟩) .push ?_)
 ·rintro i v ⟨t,rfl⟩ hlt
  rw [eK] at hlt
  exact ⟨_,rangeL_get hlt,⟨t,by simp⟩⟩
 ·have e:IsRangeIter (W.h.push { cls:=.type "range_iterator",data:=.fields #[rawInt a,rawInt (Builtin.Range.rangeSize a b 1),rawInt 1] }) W.h.objs.size a (Builtin.Range.rangeSize a b 1) 1:=zAp _ rfl
  rw [hsz] at e ⊢
  show IsRangeIter _ _ _ _ _
  simpa [eK] using e
theorem two_ints {α:Type} {C:Cx} {a b:AV} {f:Int->Int->Option α} {c:α} {args:List Value} (h:on2 a b f=some c) (r:VReps C W [a,b] args):∃ x y t u,f x y=some c/\args=[.int x t,.int y u]:=by
 obtain ⟨x,y,rfl,rfl,h₁⟩:=lK h
 obtain ⟨v,_,rfl,⟨t,rfl⟩,v',_,rfl,⟨u,rfl⟩,rfl⟩:=r
 exact ⟨x,y,t,u,h₁,rfl⟩
noncomputable abbrev SndC (X:Fx) (k:ItK) (f:Value):Prop:=∀ S W₀ W vs args,EX X true W₀ W->Inv X S W->VReps X.C W vs args->Snd X true (RIv X W₀.h) (call f args) (itD k vs S) W
theorem wp_range (F:X.Ok) (hq:X.T.free=true):SndC X .range (.type "range"):=fun S W₀ W vs args x I r=>by
 refine Snd.opt fun b hb=>?_
 match vs,hb,r with
 | [a],hb,r =>
  obtain ⟨v,_,rfl,rA,rfl⟩:=r
  obtain ⟨n,h1,h⟩:=zAi.mp hb
  obtain ⟨hc,rfl⟩:=be h
  obtain ⟨t,rfl⟩:=rA.int h1
  have G:=fun (o:Obj) (tk:Nat)=>I.ge (ev:=true) (.push (o:=o)) tk
  exact call_range_1 (.mk (W':=W.to _ _) rfl (G _ _) (RIv.of_range F hq (x.trans (G _ _).ext) (IsRange.new ..) rfl (zAk.mp hc).2))
 | [a,b],hb,r =>
  obtain ⟨x',y,t,u,h,rfl⟩:=two_ints hb r
  obtain ⟨hc,rfl⟩:=be h
  have G:=fun (o:Obj) (tk:Nat)=>I.ge (ev:=true) (.push (o:=o)) tk
  exact call_range_2 (.mk (W':=W.to _ _) rfl (G _ _) (RIv.of_range F hq (x.trans (G _ _).ext) (IsRange.new ..) (zAk.mp hc).1 (zAk.mp hc).2))
theorem zip2_get {la lb:List AV} {i:Nat} {a b:AV} (ha:la[i]?=some a) (hb:lb[i]?=some b):(fQ la lb)[i]?=some (.tup [a,b]):=by
 unfold fQ
 rw [zBv,(List.getElem?_zip_eq_some (z:=(a,b))).mpr ⟨ha,hb⟩]; rfl
theorem dM (la lb:List AV):(fQ la lb).length=min la.length lb.length:=by simp [fQ]
theorem fG:∀ (l:List AV) (k:Int),(dW k l).length=l.length
 | [],_=>rfl
 | _::r,k=>congrArg Nat.succ (fG r (k+1))
theorem nu:∀ {l:List AV} {k:Int} {i:Nat} {a:AV},l[i]?=some a->(dW k l)[i]?=some (.tup [.int (k+i),a])
 | [],_,_,_,h=>nomatch h
 | x::r,k,0,a,h=>by cases h; exact congrArg (fun z=>some (AV.tup [.int z,x])) (Int.add_zero k).symm
 | x::r,k,i+1,a,h=>by
  have:=nu (l:=r) (k:=k+1) (i:=i) (a:=a) h
  rw [show k+1+(i:Int)=k+((i+1:Nat):Int) from by rw [Int.natCast_succ,Int.add_assoc,Int.add_comm 1]] at this
  exact this
end
section
variable {prog:Program} {w:World} {A:Around} {E:Value->Shared->Prop} {s:Shared}
theorem eH {it t:Addr} {i:Nat} {items:Array Value} {x:Value} {Q:Value->Shared->Prop} (hit:s.heap.IsTupleIter it t i)
  (ht:s.heap.IsTuple t items) (hx:items[i]?=some x)
  (hQ:∀ h',h'.IsTupleIter it t (i+1)->Heap.SameBut it s.heap h'->Q x { s with heap:=h' }) :
  wpAny (model prog w) A (Builtin.SmallTypes.nextOf (.ref it)) Q E s:=by
 obtain ⟨o,ho,hc,hd⟩:=id hit
 obtain ⟨ol,hol,_,nl,hdl⟩:=ht
 unfold Builtin.SmallTypes.nextOf
 refine zAa (wpAny_callSpecial?_slot (name:=Str.ofString "__next__") hit.typeIs F.slot_tuple_iterator_next
  (zCv F.slot_tuple_iterator_next hit.typeIs F.entry_tuple_iterator_next ?_ (F.args_tuple_iterator_next_1 _)))
 show wpAny _ _ (field (.ref it) 0 >>= _) _ _ s
 refine zAa (zBe ho hd (x:=.ref t) rfl ?_)
 show wpAny _ _ (if (Value.ref t == Value.none)=true then _ else _) _ _ s
 rw [if_neg (show ¬ ((Value.ref t == Value.none)=true) from zAn)]
 show wpAny _ _ (field (.ref it) 1 >>= _) _ _ s
 refine zAa (zBe ho hd (x:=.int i 0) rfl ?_)
 show wpAny _ _ (seqItems? (.ref t) >>= _) _ _ s
 refine zAa (zBt hol hdl ?_)
 simp only [zCa,hx]
 refine zAa (zC9 ho hd (by simp) (zAh ⟨x,rfl,zAh (hQ _ ?_ (Heap.SameBut.update ..))⟩))
 exact ⟨_,zBl _ ho (Obj.isFreed_of_fields (Obj.data_mapFields hd _)),(Obj.cls_mapFields ..).trans hc,by
  rw [Obj.data_mapFields hd]; simp [rawInt]⟩
theorem fe {it t:Addr} {i:Nat} {items:Array Value} {Q:Value->Shared->Prop} (hh:A.handled=none)
  (hit:s.heap.IsTupleIter it t i) (ht:s.heap.IsTuple t items) (hx:items[i]?=none)
  (hE:∀ h' e,Heap.ExtBut it s.heap h'->(∃ o,h'.get? e=some o/\o.cls=.type "StopIteration")->E (.ref e) { s with heap:=h' }) :
  wpAny (model prog w) A (Builtin.SmallTypes.nextOf (.ref it)) Q E s:=by
 obtain ⟨o,ho,hc,hd⟩:=id hit
 obtain ⟨ol,hol,_,nl,hdl⟩:=ht
 unfold Builtin.SmallTypes.nextOf
 refine zAa (wpAny_callSpecial?_slot (name:=Str.ofString "__next__") hit.typeIs F.slot_tuple_iterator_next
  (zCv F.slot_tuple_iterator_next hit.typeIs F.entry_tuple_iterator_next ?_ (F.args_tuple_iterator_next_1 _)))
 show wpAny _ _ (field (.ref it) 0 >>= _) _ _ s
 refine zAa (zBe ho hd (x:=.ref t) rfl ?_)
 show wpAny _ _ (if (Value.ref t == Value.none)=true then _ else _) _ _ s
 rw [if_neg (show ¬ ((Value.ref t == Value.none)=true) from zAn)]
 show wpAny _ _ (field (.ref it) 1 >>= _) _ _ s
 refine zAa (zBe ho hd (x:=.int i 0) rfl ?_)
 show wpAny _ _ (seqItems? (.ref t) >>= _) _ _ s
 refine zAa (zBt hol hdl ?_)
 simp only [zCa,hx]
 refine zAa (wpAny_rule (zAa (zC9 ho hd (by simp) ?_)))
 show wpAny _ _ (newExc (.type "StopIteration") [] >>= _) _ _ _
 refine zAa ?_
 simp only [newExc,newTuple]
 refine zAa (zBn ?_ (by size_fits))
 refine zAa (m:=firstArgMember _ _) (wpAny_of_eq (a:=Value.none) (by first | rfl | (simp only [firstArgMember]; rfl)) ?_)
 refine zBn ?_ (by size_fits)
 simp only [raiseNew]
 refine zAa (wpAny_handled ?_)
 first | rw [show A.in1.handled=none from hh] | rw [hh]
 refine zAa (zAh (wpAny_throw ?_))
 exact hE _ _ (((Heap.SameBut.update ..).extBut.push _).push _) ⟨_,zAp _ rfl,rfl⟩
theorem draws_tuple (hh:A.handled=none) (it l:Addr) (hne:l ≠ it) (items:Array Value):Draws prog w A it [it,l] items.size (fun i v=>items[i]?=some v) (fun i h=>h.IsTupleIter it l i/\h.IsTuple l items) where
 live:=fun _ _ st=>st.1.imp fun _ q=>q.1
 frame:=fun _ _ _ st hk=>⟨st.1.at fun o e=>hk it (by simp) o e,st.2.at fun o e=>hk l (by simp) o e⟩
 item:=fun i s Q E hi st hQ=>eH st.1 st.2 (x:=items[i]) (by simp [hi]) fun h' hit' hs'=>hQ _ h' s.toks (by simp [hi]) ⟨hit',st.2.extBut hs'.extBut hne⟩ hs'
 done:=fun s Q E st hE=>fe hh st.1 st.2 (by simp) hE
set_option tactic.hygienic true in
theorem hU (l:Addr) (items:Array Value) :
  Meets (Builtin.«enumerate.__new__» ⟨[.type "enumerate",.ref l],[]⟩) (fun _ R s=>s.heap.IsTuple l items /\
   R (.ok (.ret (.ref (s.heap.push { cls:=.type "tuple_iterator",data:=.fields #[.ref l,.int 0 0] }).objs.size)))
    { s with heap:=(s.heap.push { cls:=.type "tuple_iterator",data:=.fields #[.ref l,.int 0 0] }).push { cls:=.type "enumerate",data:=.fields #[.none,.bool false,.ref s.heap.objs.size,rawInt 0,.none,.none] } }) :=
 .of_wp fun prog w A R s h=>by
  obtain ⟨hp,g,d,tk,os⟩:=s; obtain ⟨hl,h⟩:=h
  have hsub:=sub_enumerate
  have hL:Heap.IsTuple (Shared.heap ⟨hp,g,d,tk,os⟩) l items:=hl
  wp_walk
  refine wpAny_stack_any fun st=>zAh ?_
  split
  ·rename_i c _ _ _ _ _
   cases (c == Value.type "enumerate")
   ·wp_walk using zCk hL
    exact ⟨_,rfl,h⟩
   ·wp_walk using zCk hL
    exact ⟨_,rfl,h⟩
  ·wp_walk using zCk hL
   exact ⟨_,rfl,h⟩
theorem l8 {l:Addr} {items:Array Value} {Q:Value->Shared->Prop} (hL:s.heap.IsTuple l items)
  (h:∀ h',IsEnum h' (s.heap.objs.size+1) s.heap.objs.size 0 .none->h'.IsTupleIter s.heap.objs.size l 0->(∀ b o,s.heap.get? b=some o->h'.get? b=some o)->Q (.ref (s.heap.objs.size+1)) { s with heap:=h' }) :
  wpAny (model prog w) A (call (.type "enumerate") [.ref l]) Q E s:=by
 refine callType_new F.called_enumerate (by decide) (F.typeCall_enumerate_1 _) (F.newCall_enumerate_1 _) (fun obj=>F.args_object_init_2 obj _) F.entry_enumerate_new (hU l items) ⟨hL,?_⟩
 have hz:(s.heap.push { cls:=.type "tuple_iterator",data:=.fields #[.ref l,.int 0 0] }).objs.size=s.heap.objs.size+1:=zBj ..
 show _/\_
 rw [hz]
 have he:IsEnum ((s.heap.push { cls:=.type "tuple_iterator",data:=.fields #[.ref l,.int 0 0] }).push
   { cls:=.type "enumerate",data:=.fields #[.none,.bool false,.ref s.heap.objs.size,rawInt 0,.none,.none] }) (s.heap.objs.size+1) s.heap.objs.size 0 .none:=by
  have:=zAp (s.heap.push { cls:=.type "tuple_iterator",data:=.fields #[.ref l,.int 0 0] })
   (o:={ cls:=.type "enumerate",data:=.fields #[.none,.bool false,.ref s.heap.objs.size,rawInt 0,.none,.none] }) rfl
  rw [hz] at this; exact this
 exact ⟨⟨_,he,rfl⟩,h _ he ⟨_,zAg _ (zAp _ rfl),rfl,rfl⟩ fun b o x=>zAg _ (zAg _ x)⟩
end
structure NextOk (prog:Program) (w:World) (A:Around) (i l:Addr) (xs:Array Value) (T:Nat->Heap->Prop):Prop where
 frame:∀ k h h',T k h->(∀ b o,b=i ∨ b=l->h.get? b=some o->h'.get? b=some o)->T k h'
 ex:∀ k h,T k h->∃ o,h.get? i=some o
 item:∀ k (s:Shared) (Q:Value->Shared->Prop) (E:Value->Shared->Prop) x,T k s.heap->xs[k]?=some x ->
  (∀ h',T (k+1) h'->Heap.SameBut i s.heap h'->Q x { s with heap:=h' })->wpAny (model prog w) A (Builtin.SmallTypes.nextOf (.ref i)) Q E s
 done:∀ k (s:Shared) (Q:Value->Shared->Prop) (E:Value->Shared->Prop),T k s.heap->xs[k]?=none ->
  (∀ h' e,Heap.ExtBut i s.heap h'->(∃ o,h'.get? e=some o/\o.cls=.type "StopIteration")->E (.ref e) { s with heap:=h' })->wpAny (model prog w) A (Builtin.SmallTypes.nextOf (.ref i)) Q E s
section
variable {prog:Program} {w:World} {A:Around} {E:Value->Shared->Prop} {s:Shared}
theorem nextOk_list (hh:A.handled=none) {i l:Addr} (hne:l ≠ i) (xs:Array Value):NextOk prog w A i l xs (fun k h=>h.IsListIter i l k/\h.IsList l xs) where
 frame:=fun k h h' st hk=>⟨st.1.at fun o e=>hk _ o (.inl rfl) e,st.2.at fun o e=>hk _ o (.inr rfl) e⟩
 ex:=fun k h ⟨⟨o,e,_⟩,_⟩=>⟨o,e⟩
 item:=fun k s Q E x st hx hQ=>wpAny_nextOf_list_item st.1 st.2 hx fun h' h1 h2=>hQ h' ⟨h1,st.2.extBut h2.extBut hne⟩ h2
 done:=fun k s Q E st hx hE=>wpAny_nextOf_list_end hh st.1 st.2 hx hE
theorem nU (hh:A.handled=none) {i l:Addr} (hne:l ≠ i) (xs:Array Value):NextOk prog w A i l xs (fun k h=>h.IsTupleIter i l k/\h.IsTuple l xs) where
 frame:=fun k h h' st hk=>⟨st.1.at fun o e=>hk _ o (.inl rfl) e,st.2.at fun o e=>hk _ o (.inr rfl) e⟩
 ex:=fun k h ⟨⟨o,e,_⟩,_⟩=>⟨o,e⟩
 item:=fun k s Q E x st hx hQ=>eH st.1 st.2 hx fun h' h1 h2=>hQ h' ⟨h1,st.2.extBut h2.extBut hne⟩ h2
 done:=fun k s Q E st hx hE=>fe hh st.1 st.2 hx hE
theorem zipS_item {z TI TO i1 i2 l1 l2:Addr} {k:Nat} {xs ys:Array Value} {x y a b:Value} {T1 T2:Nat->Heap->Prop} {Q:Value->Shared->Prop} (D:ZipApart z TI TO i1 i2 l1 l2)
  (N1:NextOk prog w A.in1 i1 l1 xs T1) (N2:NextOk prog w A.in1 i2 l2 ys T2)
  (hz:IsZip s.heap z TI TO .none) (hTI:IsPair s.heap TI (.ref i1) (.ref i2)) (hTO:IsPair s.heap TO a b)
  (h1:T1 k s.heap) (h2:T2 k s.heap) (hx:xs[k]?=some x) (hy:ys[k]?=some y)
  (hQ:∀ h',IsZip h' z TI TO (rawInt s.heap.objs.size)->IsPair h' TO x y->T1 (k+1) h'->T2 (k+1) h'->IsPair h' s.heap.objs.size x y->h'.objs.size=s.heap.objs.size+1 ->
   (∀ c o,c ≠ z->c ≠ TO->c ≠ i1->c ≠ i2->s.heap.get? c=some o->h'.get? c=some o)->Q (.ref s.heap.objs.size) { s with heap:=h' }) :
  wpAny (model prog w) A.in1 (Builtin.«zip.__next__» ⟨[.ref z],[]⟩) (fun fin s'=>∃ v,fin=.done (.ret v)/\Q v s') E s:=by
 show wpAny _ _ (field (.ref z) 2 >>= _) _ _ _
 refine zAa (zBe hz rfl (x:=.bool false) rfl ?_)
 show wpAny _ _ (field (.ref z) 3 >>= _) _ _ _
 refine zAa (zBe hz rfl (x:=.ref TI) rfl ?_)
 refine zAa (zBt hTI rfl ?_)
 show wpAny _ _ (Builtin.SmallTypes.ownedTupleIsFree (.ref z) >>= _) _ _ _
 refine zAa ?_
 unfold Builtin.SmallTypes.ownedTupleIsFree
 refine zAa (zBe hz rfl (x:=.none) rfl (zAh ?_))
 simp only [if_true]
 refine zAa (wpAny_rule ?_)
 refine zAa (zBe hz rfl (x:=.ref TO) rfl ?_)
 refine zAa (zB0 hz (by simp) fun h₁ hzA hsA=>?_)
 replace hzA:IsZip h₁ z TI TO .ellipsis:=hzA
 refine zAa ?_
 simp only [List.zipIdx_cons,List.zipIdx_nil,List.forIn_cons,List.forIn_nil]
 refine zAa (zAa (wpAny_onRaise ?_))
 show wpAny _ _ (Builtin.SmallTypes.nextOf (.ref i1) >>= _) _ _ _
 have eqz:∀ {b i l:Addr},i ≠ z->l ≠ z->b=i ∨ b=l->b ≠ z:=fun p q r=>r.elim (· ▸ p) (· ▸ q)
 refine zAa (N1.item k _ _ _ x (N1.frame k _ _ h1 fun b o hb e=>hsA.extBut b o (hb.elim (· ▸ D.i1z) (· ▸ D.l1z)) e) hx fun h₂ h1B hsB=>zAh ?_)
 have hTOA:IsPair h₂ TO a b:=hsB.extBut _ _ D.TOi1 (hsA.extBut _ _ D.TOz hTO)
 refine zAa (zBt hTOA rfl ?_)
 refine zAa (wpAny_updateSeq_pair hTOA fun h₃ hTOB hsC=>?_)
 replace hTOB:IsPair h₃ TO x b:=hTOB
 refine zAa (zC8 (zAh ?_))
 refine zAa (zAa (wpAny_onRaise ?_))
 show wpAny _ _ (Builtin.SmallTypes.nextOf (.ref i2) >>= _) _ _ _
 have h2A:T2 k h₃:=N2.frame k _ _ h2 fun b o hb e=>hsC.extBut b o (hb.elim (· ▸ D.TOi2.symm) (· ▸ D.l2TO)) (hsB.extBut b o (hb.elim (· ▸ D.i12.symm) (· ▸ D.l2i1)) (hsA.extBut b o (hb.elim (· ▸ D.i2z) (· ▸ D.l2z)) e))
 refine zAa (N2.item k _ _ _ y h2A hy fun h₄ h2₄ hs₄=>zAh ?_)
 have hTO₄:IsPair h₄ TO x b:=hs₄.extBut _ _ D.TOi2 hTOB
 refine zAa (zBt hTO₄ rfl ?_)
 refine zAa (wpAny_updateSeq_pair hTO₄ fun h₅ hTO₅ hs₅=>?_)
 replace hTO₅:IsPair h₅ TO x y:=hTO₅
 refine zAa (zC8 (zAh (zAh ?_)))
 refine zAa (zBt hTO₅ rfl ?_)
 refine zAa (wpAny_newTuple ?_)
 have hsz:h₅.objs.size=s.heap.objs.size:=by rw [hs₅.1,hs₄.1,hsC.1,hsB.1,hsA.1]
 have hz₅:IsZip h₅ z TI TO .ellipsis:=hs₅.extBut _ _ D.TOz.symm (hs₄.extBut _ _ D.i2z.symm (hsC.extBut _ _ D.TOz.symm (hsB.extBut _ _ D.i1z.symm hzA)))
 have hk₅:∀ c o,c ≠ z->c ≠ TO->c ≠ i1->c ≠ i2->s.heap.get? c=some o->h₅.get? c=some o:=fun c o c1 c2 c3 c4 e =>
  hs₅.extBut _ _ c2 (hs₄.extBut _ _ c4 (hsC.extBut _ _ c2 (hsB.extBut _ _ c3 (hsA.extBut _ _ c1 e))))
 have h1₅:T1 (k+1) h₅:=N1.frame _ _ _ h1B fun b o hb e=>hs₅.extBut b o (hb.elim (· ▸ D.TOi1.symm) (· ▸ D.l1TO)) (hs₄.extBut b o (hb.elim (· ▸ D.i12) (· ▸ D.l1i2)) (hsC.extBut b o (hb.elim (· ▸ D.TOi1.symm) (· ▸ D.l1TO)) e))
 have h2₅:T2 (k+1) h₅:=N2.frame _ _ _ h2₄ fun b o hb e=>hs₅.extBut b o (hb.elim (· ▸ D.TOi2.symm) (· ▸ D.l2TO)) e
 have hzlt:z < h₅.objs.size:=zAz hz₅
 show wpAny _ _ (Builtin.SmallTypes.ownedTupleHandOut (.ref z) (.ref h₅.objs.size) >>= _) _ _ _
 refine zAa ?_
 unfold Builtin.SmallTypes.ownedTupleHandOut
 have hz₆:IsZip (h₅.push { cls:=.type "tuple",data:=.seq #[x,y] }) z TI TO .ellipsis:=zAg _ hz₅
 refine zAa (zB0 hz₆ (by simp) fun h₇ hz₇ hs₇=>?_)
 replace hz₇:IsZip h₇ z TI TO (rawInt h₅.objs.size):=hz₇
 refine zB0 hz₇ (by simp) fun h₈ hz₈ hs₈=>?_
 replace hz₈:IsZip h₈ z TI TO (rawInt h₅.objs.size):=hz₈
 have up:∀ c o,c ≠ z->h₅.get? c=some o->h₈.get? c=some o:=fun c o c1 e=>hs₈.extBut _ _ c1 (hs₇.extBut _ _ c1 (zAg _ e))
 have hT₈:IsPair h₈ h₅.objs.size x y:=hs₈.extBut _ _ (zBf hzlt) (hs₇.extBut _ _ (zBf hzlt) (zAp _ rfl))
 have hz8:h₈.objs.size=h₅.objs.size+1:=by rw [hs₈.1,hs₇.1,zBj]
 rw [hsz] at hz₈ hT₈ hz8
 refine zAh ⟨_,rfl,?_⟩
 show Q (.ref h₅.objs.size) _
 rw [hsz]
 exact hQ h₈ hz₈ (up _ _ D.TOz hTO₅) (N1.frame _ _ _ h1₅ fun b o hb e=>up b o (hb.elim (· ▸ D.i1z) (· ▸ D.l1z)) e) (N2.frame _ _ _ h2₅ fun b o hb e=>up b o (hb.elim (· ▸ D.i2z) (· ▸ D.l2z)) e) hT₈ hz8
  fun c o c1 c2 c3 c4 e=>up c o c1 (hk₅ c o c1 c2 c3 c4 e)
theorem zipS_end {z TI TO i1 i2 l1 l2:Addr} {k:Nat} {xs ys:Array Value} {a b:Value} {T1 T2:Nat->Heap->Prop} {Q:Fin->Shared->Prop} (D:ZipApart z TI TO i1 i2 l1 l2)
  (N1:NextOk prog w A.in1 i1 l1 xs T1) (N2:NextOk prog w A.in1 i2 l2 ys T2)
  (hz:IsZip s.heap z TI TO .none) (hTI:IsPair s.heap TI (.ref i1) (.ref i2)) (hTO:IsPair s.heap TO a b)
  (h1:T1 k s.heap) (h2:T2 k s.heap) (hend:xs[k]?=none ∨ ys[k]?=none)
  (hE:∀ h' e,(∀ c o,c ≠ z->c ≠ TO->c ≠ i1->c ≠ i2->s.heap.get? c=some o->h'.get? c=some o)->(∃ o,h'.get? e=some o/\o.cls=.type "StopIteration")->E (.ref e) { s with heap:=h' }) :
  wpAny (model prog w) A.in1 (Builtin.«zip.__next__» ⟨[.ref z],[]⟩) Q E s:=by
 show wpAny _ _ (field (.ref z) 2 >>= _) _ _ _
 refine zAa (zBe hz rfl (x:=.bool false) rfl ?_)
 show wpAny _ _ (field (.ref z) 3 >>= _) _ _ _
 refine zAa (zBe hz rfl (x:=.ref TI) rfl ?_)
 refine zAa (zBt hTI rfl ?_)
 show wpAny _ _ (Builtin.SmallTypes.ownedTupleIsFree (.ref z) >>= _) _ _ _
 refine zAa ?_
 unfold Builtin.SmallTypes.ownedTupleIsFree
 refine zAa (zBe hz rfl (x:=.none) rfl (zAh ?_))
 simp only [if_true]
 refine zAa (wpAny_rule ?_)
 refine zAa (zBe hz rfl (x:=.ref TO) rfl ?_)
 refine zAa (zB0 hz (by simp) fun h₁ hzA hsA=>?_)
 replace hzA:IsZip h₁ z TI TO .ellipsis:=hzA
 refine zAa ?_
 simp only [List.zipIdx_cons,List.zipIdx_nil,List.forIn_cons,List.forIn_nil]
 refine zAa (zAa (wpAny_onRaise ?_))
 show wpAny _ _ (Builtin.SmallTypes.nextOf (.ref i1) >>= _) _ _ _
 have h1A:T1 k h₁:=N1.frame k _ _ h1 fun b o hb e=>hsA.extBut b o (hb.elim (· ▸ D.i1z) (· ▸ D.l1z)) e
 cases hx:xs[k]? with
 | none =>
  refine zAa (N1.done k _ _ _ h1A hx fun h₂ e hsB he=>?_)
  obtain ⟨oe,hoe,hce⟩:=he
  have hzB:IsZip h₂ z TI TO .ellipsis:=hsB _ _ D.i1z.symm hzA
  have hez:e ≠ z:=fun x=>by subst x; rw [hzB] at hoe; cases hoe; simp at hce
  refine zB0 hzB (by simp) fun h₃ _ hsC=>hE h₃ e (fun c o c1 _ c3 _ x=>hsC.extBut _ _ c1 (hsB _ _ c3 (hsA.extBut _ _ c1 x))) ⟨oe,hsC.extBut _ _ hez hoe,hce⟩
 | some x =>
  have hy:ys[k]?=none:=by rcases hend with h | h; rw [hx] at h; exact cC zAr h rfl; exact h
  refine zAa (N1.item k _ _ _ x h1A hx fun h₂ h1B hsB=>zAh ?_)
  have hTOA:IsPair h₂ TO a b:=hsB.extBut _ _ D.TOi1 (hsA.extBut _ _ D.TOz hTO)
  refine zAa (zBt hTOA rfl ?_)
  refine zAa (wpAny_updateSeq_pair hTOA fun h₃ hTOB hsC=>?_)
  refine zAa (zC8 (zAh ?_))
  refine zAa (zAa (wpAny_onRaise ?_))
  show wpAny _ _ (Builtin.SmallTypes.nextOf (.ref i2) >>= _) _ _ _
  have h2A:T2 k h₃:=N2.frame k _ _ h2 fun b o hb e=>hsC.extBut b o (hb.elim (· ▸ D.TOi2.symm) (· ▸ D.l2TO)) (hsB.extBut b o (hb.elim (· ▸ D.i12.symm) (· ▸ D.l2i1)) (hsA.extBut b o (hb.elim (· ▸ D.i2z) (· ▸ D.l2z)) e))
  refine zAa (N2.done k _ _ _ h2A hy fun h₄ e hs₄ he=>?_)
  obtain ⟨oe,hoe,hce⟩:=he
  have hz₄:IsZip h₄ z TI TO .ellipsis:=hs₄ _ _ D.i2z.symm (hsC.extBut _ _ D.TOz.symm (hsB.extBut _ _ D.i1z.symm hzA))
  have hez:e ≠ z:=fun x=>by subst x; rw [hz₄] at hoe; cases hoe; simp at hce
  refine zB0 hz₄ (by simp) fun h₅ _ hs₅=>hE h₅ e (fun c o c1 c2 c3 c4 x=>hs₅.extBut _ _ c1 (hs₄ _ _ c4 (hsC.extBut _ _ c2 (hsB.extBut _ _ c3 (hsA.extBut _ _ c1 x))))) ⟨oe,hs₅.extBut _ _ hez hoe,hce⟩
end
noncomputable def sqN (c:Bool):String:=bif c then "tuple" else "list"
noncomputable def itN (c:Bool):String:=bif c then "tuple_iterator" else "list_iterator"
noncomputable def SqAt (c:Bool) (h:Heap) (l:Addr) (xs:Array Value):Prop:=∃ o,h.get? l=some o/\o.cls=.type (sqN c)/\∃ n,o.data=.seq xs n
noncomputable def SqIt (c:Bool) (i l:Addr) (xs:Array Value) (k:Nat) (h:Heap):Prop:=(∃ o,h.get? i=some o/\o.cls=.type (itN c)/\o.data=.fields #[.ref l,.int k 0])/\SqAt c h l xs
section
variable {prog:Program} {w:World} {A:Around} {E:Value->Shared->Prop} {s:Shared}
theorem SqAt.push {c:Bool} {h:Heap} {l:Addr} {xs:Array Value} (x:SqAt c h l xs) (o:Obj):SqAt c (h.push o) l xs :=
 x.imp fun _ q=>⟨zAg o q.1,q.2⟩
theorem mS (hh:A.handled=none) {c:Bool} {i l:Addr} (hne:l ≠ i) (xs:Array Value):NextOk prog w A i l xs (SqIt c i l xs):=by
 cases c
 ·exact nextOk_list hh hne xs
 ·exact nU hh hne xs
theorem mt {c:Bool} {l:Addr} {xs:Array Value} {Q:Value->Shared->Prop} (hl:SqAt c s.heap l xs)
  (hQ:Q (.ref s.heap.objs.size) { s with heap:=s.heap.push { cls:=.type (itN c),data:=.fields #[.ref l,.int 0 0] } }):wpAny (model prog w) A (pyIter (.ref l)) Q E s:=by
 cases c
 ·exact wpAny_pyIter_list hl hQ
 ·exact zCk hl hQ
noncomputable abbrev zH1 (c:Bool) (h:Heap) (l:Addr):Heap:=h.push { cls:=.type (itN c),data:=.fields #[.ref l,.int 0 0] }
noncomputable abbrev zH2 (c d:Bool) (h:Heap) (l1 l2:Addr):Heap:=(zH1 c h l1).push { cls:=.type (itN d),data:=.fields #[.ref l2,.int 0 0] }
noncomputable abbrev zH3 (c d:Bool) (h:Heap) (l1 l2:Addr):Heap:=(zH2 c d h l1 l2).push { cls:=.type "tuple",data:=.seq #[.ref h.objs.size,.ref (zH1 c h l1).objs.size] }
noncomputable abbrev zH4 (c d:Bool) (h:Heap) (l1 l2:Addr):Heap:=(zH3 c d h l1 l2).push { cls:=.type "tuple",data:=.seq #[.none,.none] }
noncomputable abbrev zH5 (c d:Bool) (h:Heap) (l1 l2:Addr):Heap:=(zH4 c d h l1 l2).push { cls:=.type "zip",data:=.fields #[.none,.bool false,.bool false,.ref (zH2 c d h l1 l2).objs.size,.ref (zH3 c d h l1 l2).objs.size] }
theorem meets_zip (c d:Bool) (l1 l2:Addr) (xs ys:Array Value) :
  Meets (Builtin.«zip.__new__» ⟨[.type "zip",.ref l1,.ref l2],[]⟩) (fun _ R s=>SqAt c s.heap l1 xs/\SqAt d s.heap l2 ys /\
   R (.ok (.ret (.ref (zH4 c d s.heap l1 l2).objs.size))) { s with heap:=zH5 c d s.heap l1 l2 }) :=
 .of_wp fun prog w A R s h=>by
  obtain ⟨hp,g,dd,tk,os⟩:=s; obtain ⟨hl1,hl2,h⟩:=h
  have hsub:=sub_zip
  have hL1:SqAt c (Shared.heap ⟨hp,g,dd,tk,os⟩) l1 xs:=hl1
  have hL2:SqAt d (Shared.heap ⟨hp.push { cls:=.type (itN c),data:=.fields #[.ref l1,.int 0 0] },g,dd,tk,os⟩) l2 ys:=SqAt.push hl2 _
  wp_walk using mt hL1,mt hL2
  exact ⟨_,rfl,h⟩
noncomputable def ZipSt (c d:Bool) (z TI TO i1 i2 l1 l2:Addr) (xs ys:Array Value) (f0:Value) (k:Nat) (h:Heap):Prop :=
 IsZip h z TI TO f0/\IsPair h TI (.ref i1) (.ref i2)/\(∃ a b,IsPair h TO a b)/\SqIt c i1 l1 xs k h/\SqIt d i2 l2 ys k h
theorem call_zipS {c d:Bool} {l1 l2:Addr} {xs ys:Array Value} {Q:Value->Shared->Prop} (hl1:SqAt c s.heap l1 xs) (hl2:SqAt d s.heap l2 ys)
  (h:∀ h',ZipSt c d (s.heap.objs.size+4) (s.heap.objs.size+2) (s.heap.objs.size+3) s.heap.objs.size (s.heap.objs.size+1) l1 l2 xs ys .none 0 h' ->
   (∀ c o,s.heap.get? c=some o->h'.get? c=some o)->Q (.ref (s.heap.objs.size+4)) { s with heap:=h' }) :
  wpAny (model prog w) A (call (.type "zip") [.ref l1,.ref l2]) Q E s:=by
 refine callType_new F.called_zip (by decide) (F.typeCall_zip_2 _ _) (F.newCall_zip_2 _ _) (fun obj=>F.args_object_init_3 obj _ _) F.entry_zip_new
  (meets_zip c d l1 l2 xs ys) ⟨hl1,hl2,?_⟩
 have z1:(zH1 c s.heap l1).objs.size=s.heap.objs.size+1:=zBj ..
 have z2:(zH2 c d s.heap l1 l2).objs.size=s.heap.objs.size+2:=by rw [zBj,z1]
 have z3:(zH3 c d s.heap l1 l2).objs.size=s.heap.objs.size+3:=by rw [zBj,z2]
 have z4:(zH4 c d s.heap l1 l2).objs.size=s.heap.objs.size+4:=by rw [zBj,z3]
 have g5:(zH5 c d s.heap l1 l2).get? (zH4 c d s.heap l1 l2).objs.size=some _:=zAp _ rfl
 have g4:(zH5 c d s.heap l1 l2).get? (zH3 c d s.heap l1 l2).objs.size=some _:=zAg _ (zAp _ rfl)
 have g3:(zH5 c d s.heap l1 l2).get? (zH2 c d s.heap l1 l2).objs.size=some _:=zAg _ (zAg _ (zAp _ rfl))
 have g2:(zH5 c d s.heap l1 l2).get? (zH1 c s.heap l1).objs.size=some _:=zAg _ (zAg _ (zAg _ (zAp _ rfl)))
 have g1:(zH5 c d s.heap l1 l2).get? s.heap.objs.size=some _:=zAg _ (zAg _ (zAg _ (zAg _ (zAp _ rfl))))
 have up:∀ c' o,s.heap.get? c'=some o->(zH5 c d s.heap l1 l2).get? c'=some o:=fun c' o x =>
  zAg _ (zAg _ (zAg _ (zAg _ (zAg _ x))))
 show _/\_
 rw [z2,z3,z4] at g5
 rw [z1,z2] at g3
 rw [z3] at g4
 rw [z1] at g2
 rw [z4]
 exact ⟨⟨_,g5,rfl⟩,h _ ⟨g5,g3,⟨_,_,g4⟩,⟨⟨_,g1,rfl,rfl⟩,hl1.imp fun _ q=>⟨up _ _ q.1,q.2⟩⟩,⟨⟨_,g2,rfl,rfl⟩,hl2.imp fun _ q=>⟨up _ _ q.1,q.2⟩⟩⟩ up⟩
end
section
variable {X:Fx} {W W₀:Wd} {S:S}
set_option tactic.hygienic true in
theorem mz {C:Cx} {A:Around} {h0:Heap} (hh:A.handled=none) {c d:Bool} {z TI TO i1 i2 l1 l2:Addr} {xs ys:Array Value} {la lb:List AV} (D:ZipApart z TI TO i1 i2 l1 l2)
  (hx:VReps C W la xs.toList) (hy:VReps C W lb ys.toList)
  (hfr:∀ b ∈ [z,TI,TO,i1,i2],h0.get? b=none/\(W.tmp b ∨ W.h.get? b=none)) (hl1:∃ o,W.h.get? l1=some o/\W.free l1/\Pln o) (hl2:∃ o,W.h.get? l2=some o/\W.free l2/\Pln o) :
  IterS C A h0 W true z [z,TI,TO,i1,i2,l1,l2] [z,TI,TO,i1,i2] (fQ la lb) (ZipSt c d z TI TO i1 i2 l1 l2 xs ys .none)
   fun i v h'=>∃ T x y,v=.ref T/\ZipSt c d z TI TO i1 i2 l1 l2 xs ys (rawInt T) (i+1) h'/\IsPair h' T x y/\xs[i]?=some x/\ys[i]?=some y/\T ≠ z:=by
 have N1:NextOk C.prog C.w A.in1 i1 l1 xs (SqIt c i1 l1 xs):=mS (by simpa using hh) D.l1i1 xs
 have N2:NextOk C.prog C.w A.in1 i2 l2 ys (SqIt d i2 l2 ys):=mS (by simpa using hh) D.l2i2 ys
 have e1:=hx.size
 have e2:=hy.size
 refine ⟨?_,?_,?_,?_,fun i s Q E st q=>wpAny_pyIter_zip st.1 q,hfr,nofun,nofun,?_,?_⟩
 ·intro i h h' ⟨q1,q2,⟨a,b,q3⟩,q4,q5⟩ hk
  exact ⟨hk z (.head _) _ q1,hk TI (.tail _ (.head _)) _ q2,⟨a,b,hk TO (.tail _ (.tail _ (.head _))) _ q3⟩,
   N1.frame i h h' q4 fun b o hb e=>hk b (hb.elim (· ▸ .tail _ (.tail _ (.tail _ (.head _)))) (· ▸ .tail _ (.tail _ (.tail _ (.tail _ (.tail _ (.head _))))))) o e,N2.frame i h h' q5 fun b o hb e=>hk b (hb.elim (· ▸ .tail _ (.tail _ (.tail _ (.tail _ (.head _))))) (· ▸ .tail _ (.tail _ (.tail _ (.tail _ (.tail _ (.tail _ (.head _)))))))) o e⟩
 ·intro i s Q E hi ⟨hz,hTI,⟨a,b,hTO⟩,h1,h2⟩ hQ
  rw [dM] at hi
  have hix:i < xs.size:=e1 ▸ zBx hi (Nat.min_le_left _ _)
  have hiy:i < ys.size:=e2 ▸ zBx hi (zBz _ _)
  have hT:s.TypeIs (.ref z) "zip":=⟨_,hz,rfl⟩
  have hx':=zCq hix
  have hy':=zCq hiy
  unfold pyNext
  refine zAa (wpAny_attempt (wpAny_callSpecial?_slot (name:=Str.ofString "__next__") hT F.slot_zip_next
   (zCv F.slot_zip_next hT F.entry_zip_next (zipS_item D N1 N2 hz hTI hTO h1 h2 hx' hy' fun h' a1 a2 a3 a4 a5 a6 a7=>zAh (hQ _ h' s.toks ?_ ?_)) (F.args_zip_next_1 _))))
  ·exact ⟨_,_,_,rfl,⟨a1,a7 _ _ D.TIz D.TITO D.TIi1 D.TIi2 hTI,⟨_,_,a2⟩,a3,a4⟩,a5,hx',hy',zBf (zAz hz)⟩
  ·exact fun c o hc e=>a7 c o (fun q=>hc (q ▸ .head _)) (fun q=>hc (q ▸ .tail _ (.tail _ (.head _)))) (fun q=>hc (q ▸ .tail _ (.tail _ (.tail _ (.head _))))) (fun q=>hc (q ▸ .tail _ (.tail _ (.tail _ (.tail _ (.head _)))))) e
 ·rintro t i v s Q E htb _ hi ⟨T,x,y,rfl,⟨hz,hTI,⟨a,b,hTO⟩,h1,h2⟩,hP,hx',hy',hTz⟩ hQ
  obtain ⟨ts,k,p,rfl⟩:=gN (htb rfl)
  rw [dM] at hi
  have ha:la[i]?=some la[i]:=zAv (zBx hi (Nat.min_le_left _ _))
  have hb:lb[i]?=some lb[i]:=zAv (zBx hi (zBz _ _))
  obtain ⟨x',qx1,qx2⟩:=hx.get ha
  obtain ⟨y',qy1,qy2⟩:=hy.get hb
  rw [zCh,hx'] at qx1; cases qx1
  rw [zCh,hy'] at qy1; cases qy1
  refine wpAny_letOwnedTupleGo_zip hz fun h' hz' hs'=>hQ h' _ (zip2_get ha hb) (.tup (vals:=#[x,y]) ⟨_,hs'.extBut _ _ hTz hP,rfl,_,rfl⟩ ?_) (fun q=>nomatch q) ?_ fun c o hc e=>hs'.extBut _ _ (fun q=>hc (q ▸ .head _)) e
  ·exact .cons qx2 (.cons qy2 .nil)
  ·exact ⟨hz',hs'.extBut _ _ D.TIz hTI,⟨a,b,hs'.extBut _ _ D.TOz hTO⟩,N1.frame _ _ _ h1 fun b o hb e=>hs'.extBut b o (hb.elim (· ▸ D.i1z) (· ▸ D.l1z)) e,
    N2.frame _ _ _ h2 fun b o hb e=>hs'.extBut b o (hb.elim (· ▸ D.i2z) (· ▸ D.l2z)) e⟩
 ·intro s Q E ⟨hz,hTI,⟨a,b,hTO⟩,h1,h2⟩ hQ
  have hT:s.TypeIs (.ref z) "zip":=⟨_,hz,rfl⟩
  have hend:xs[(fQ la lb).length]?=none ∨ ys[(fQ la lb).length]?=none:=by
   rw [dM]
   rcases Nat.le_total la.length lb.length with q | q
   ·exact .inl (Array.getElem?_eq_none (by rw [e1,Nat.min_eq_left q]; exact zAy _))
   ·exact .inr (Array.getElem?_eq_none (by rw [e2,Nat.min_eq_right q]; exact zAy _))
  unfold pyNext
  refine zAa (wpAny_attempt (wpAny_callSpecial?_slot (name:=Str.ofString "__next__") hT F.slot_zip_next
   (zCv F.slot_zip_next hT F.entry_zip_next (zipS_end D N1 N2 hz hTI hTO h1 h2 hend fun h' e hk he=>?_) (F.args_zip_next_1 _))))
  obtain ⟨o,ho,hc⟩:=he
  refine zAa (wpAny_isInstance (T:="StopIteration") (b:=true) ⟨o,ho,hc⟩ isSubtype_stop ?_)
  exact zAh (hQ _ s.toks fun c o hc e=>hk c o (fun q=>hc (q ▸ .head _)) (fun q=>hc (q ▸ .tail _ (.tail _ (.head _)))) (fun q=>hc (q ▸ .tail _ (.tail _ (.tail _ (.head _))))) (fun q=>hc (q ▸ .tail _ (.tail _ (.tail _ (.tail _ (.head _)))))) e)
 ·intro b hb hn
  simp only [zAl,zBr,or_false] at hb hn
  rcases hb with rfl | rfl | rfl | rfl | rfl | rfl | rfl <;> first | (simp at hn; done) | assumption
 ·rintro i h ⟨q1,q2,⟨a,b,q3⟩,⟨⟨o1,q4,q4',_⟩,_⟩,⟨o2,q5,q5',_⟩,_⟩ b hb
  have pi:∀ {c:Bool} {o:Obj},o.cls=.type (itN c)->Pln o:=fun {c o} h=>by cases c <;> exact fw h (by decide)
  simp only [zAl,zBr,or_false] at hb
  rcases hb with rfl | rfl | rfl | rfl | rfl
  ·exact ⟨_,q1,fw rfl (by decide)⟩
  ·exact ⟨_,q2,eF⟩
  ·exact ⟨_,q3,eF⟩
  ·exact ⟨_,q4,pi q4'⟩
  ·exact ⟨_,q5,pi q5'⟩
theorem mK {C:Cx} {a:AV} {v:Value} {la:List AV} (r:VRep C W a v) (h:jg a=some la):∃ c ad xs,v=.ref ad/\SqAt c W.h ad xs/\(∃ o,W.h.get? ad=some o/\W.free ad/\Pln o)/\VReps C W la xs.toList:=by
 cases a <;> first | (exact aC h; done) | skip <;> cases h <;> obtain ⟨ad,rfl,hf,vs,n,hg,_,hv⟩:=r
 ·exact ⟨true,ad,vs,rfl,⟨_,hg,rfl,n,rfl⟩,⟨_,hg,hf,eF⟩,hv⟩
 ·exact ⟨false,ad,vs,rfl,⟨_,hg,rfl,n,rfl⟩,⟨_,hg,hf,eG⟩,hv⟩
theorem lt_ne {l m k:Nat} (h:l < m):l ≠ m+k:=zA5 (zBx h (zCf m k))
theorem add_ne {m i j:Nat} (h:i ≠ j):m+i ≠ m+j:=fun q=>h (Nat.add_left_cancel q)
theorem zipApart_of {m l1 l2:Nat} (h1:l1 < m) (h2:l2 < m):ZipApart (m+4) (m+2) (m+3) m (m+1) l1 l2:=by
 constructor <;> first | exact lt_ne h1 | exact lt_ne h2 | exact zA5 h1 | exact zA5 h2 | exact add_ne (by decide) | exact add_ne (i:=0) (by decide) | exact add_ne (j:=0) (by decide)
theorem fresh_ge (x:Ext (fun _=>False) W₀ W) {b:Addr} (h:W.h.objs.size<=b):W₀.h.get? b=none/\W.h.get? b=none:=by
 have h0:W.h.get? b=none:=zCo h
 refine ⟨?_,h0⟩
 cases e:W₀.h.get? b with
 | none=>rfl
 | some o=>exact (x.dom e).elim fun _ q=>(aD q h0).elim
theorem wp_zip (F:X.Ok) (hq:X.T.free=true):SndC X .zip (.type "zip"):=fun S W₀ W vs args x I r=>by
 refine Snd.opt fun q hq'=>?_
 match vs,hq',r with
 | [a,b],hq',r =>
 obtain ⟨v,_,rfl,ra,v',_,rfl,rb,rfl⟩:=r
 obtain ⟨la,ha,h1⟩:=zAi.mp hq'
 obtain ⟨lb,hb,rfl⟩:=zAo.mp h1
 obtain ⟨c,l1,xs,rfl,hs1,hg1,hv1⟩:=mK ra ha
 obtain ⟨d,l2,ys,rfl,hs2,hg2,hv2⟩:=mK rb hb
 refine call_zipS hs1 hs2 fun h' hst hk=>?_
 have lt1:l1 < W.h.objs.size:=hs1.elim fun _ q=>zAz q.1
 have lt2:l2 < W.h.objs.size:=hs2.elim fun _ q=>zAz q.1
 have D:=zipApart_of lt1 lt2
 have It:=mz (C:=X.C) (A:=X.A) (h0:=W₀.h) (c:=c) (d:=d) (F.hd hq) D hv1 hv2 (fun b hb=>by
  have:=fresh_ge (ext0 x) (b:=b) (by
   simp only [zAl,zBr,or_false] at hb
   rcases hb with rfl | rfl | rfl | rfl | rfl <;> first | exact zAy _ | exact zCf _ _)
  exact ⟨this.1,.inr this.2⟩) hg1 hg2
 have G:=I.hold (ev:=true) (tk:=W.s.toks) (wr:=[W.h.objs.size+4,W.h.objs.size+2,W.h.objs.size+3,W.h.objs.size,W.h.objs.size+1]) hk fun b hb=>⟨(It.wrs b hb).2,(It.ex 0 h' hst b hb).imp fun _ q=>q.1⟩
 refine .mk (W':=W.hold h' W.s.toks [W.h.objs.size+4,W.h.objs.size+2,W.h.objs.size+3,W.h.objs.size,W.h.objs.size+1]) rfl G ⟨true,fQ la lb,rfl,fun Q E hQ=>?_⟩
 have It':=mz (C:=X.C) (A:=X.A) (h0:=W₀.h) (c:=c) (d:=d) (W:=W.hold h' W.s.toks [W.h.objs.size+4,W.h.objs.size+2,W.h.objs.size+3,W.h.objs.size,W.h.objs.size+1]) (F.hd hq) D (hv1.le G.ext) (hv2.le G.ext) (fun b hb=>⟨(It.wrs b hb).1,.inl (.inr hb)⟩) (hg1.imp fun _ q=>⟨hk _ _ q.1,G.ext.free q.1 q.2.1,q.2.2⟩) (hg2.imp fun _ q=>⟨hk _ _ q.1,G.ext.free q.1 q.2.1,q.2.2⟩)
 exact wpAny_pyIter_zip hst.1 (hQ _ _ _ _ _ h' W.s.toks It' .refl hst)
theorem IterS.ofT {C:Cx} {A:Around} {h0:Heap} {I:Addr} {fp wr:List Addr} {l:List AV} {Pt:Nat->Array Value->Prop} {St:Nat->Heap->Prop} {Mid:Nat->Addr->Heap->Prop} (Wk:WalksT C.prog C.w A I fp wr l.length Pt St Mid)
  (hP:∀ i vals,Pt i vals->i < l.length->∃ as,l[i]?=some (.tup as)/\VReps C W as vals.toList) (hwr:∀ b ∈ wr,h0.get? b=none/\(W.tmp b ∨ W.h.get? b=none)) (hfp:∀ b ∈ fp,b ∉ wr->∃ o,W.h.get? b=some o/\W.free b/\Pln o)
  (hex:∀ i h,St i h->∀ b ∈ wr,∃ o,h.get? b=some o/\Pln o):IterS C A h0 W true I fp wr l St fun i v h'=>∃ T vals,v=.ref T/\Pt i vals/\h'.IsTuple T vals/\Mid i T h':=by
 refine ⟨Wk.frame,fun i s Q E hi st hQ=>?_,fun t i v s Q E ht _ hi hm hQ=>?_,Wk.done,Wk.self,hwr,nofun,nofun,hfp,hex⟩
 ·exact Wk.item i s Q E hi st fun T vals h' tk h1 _ h3 h4 hk=>hQ _ h' tk ⟨T,vals,rfl,h1,h3,h4⟩ hk
 ·obtain ⟨ts,k,p,rfl⟩:=gN (ht rfl)
  obtain ⟨T,vals,rfl,h1,h2,h3⟩:=hm
  obtain ⟨as,ha,hr⟩:=hP i vals h1 hi
  exact Wk.go ts k p i T s Q E h3 fun h' st' hk=>hQ h' _ ha (.tup (h2.at fun o e=>hk T o (Wk.apart i T _ h3) e) hr) nofun st' hk
theorem wp_enum (F:X.Ok) (hq:X.T.free=true):SndC X .enum (.type "enumerate"):=fun S W₀ W vs args x I r=>by
 refine Snd.opt fun q hq'=>?_
 match vs,hq',r with
 | [a],hq',r =>
 obtain ⟨v,_,rfl,ra,rfl⟩:=r
 obtain ⟨l,hi,rfl⟩:=zAo.mp hq'
 have hh:=F.hd hq
 have key:∀ {ad:Addr} {o:Obj} {vs:Array Value} {h':Heap} {St:Nat->Heap->Prop},Draws X.C.prog X.C.w X.A.in1 W.h.objs.size [W.h.objs.size,ad] vs.size (fun i v=>vs[i]?=some v) St->(∀ i h,St i h->∃ o,h.get? W.h.objs.size=some o/\Pln o)->W.h.get? ad=some o->W.free ad->Pln o->VReps X.C W l vs.toList ->
   IsEnum h' (W.h.objs.size+1) W.h.objs.size 0 .none->St 0 h'->Ge W.h h'->OkP X true (RIv X W₀.h) W (.ok (.tup (dW 0 l)) S) (.ref (W.h.objs.size+1)) { W.s with heap:=h' }:=fun {ad o vs h' St} D hpl hg hf hp hv he hst hk=>by
  have hlt:ad < W.h.objs.size:=zAz hg
  have hlen:vs.size=(dW 0 l).length:=by rw [fG]; exact hv.size
  have Wk:=WalksT.enumerateD D (W.h.objs.size+1) (Nat.succ_ne_self _) (fun q=>by
   rcases zAl.mp q with q | q
   ·exact Nat.succ_ne_self _ q
   ·exact zBf (zBd hlt) (zAf.mp q)) zAb
  rw [hlen] at Wk
  have ex:∀ (i:Nat) (h:Heap),((∃ old,IsEnum h (W.h.objs.size+1) W.h.objs.size i old)/\St i h)->∀ b ∈ [W.h.objs.size+1,W.h.objs.size],∃ o,h.get? b=some o/\Pln o:=fun i h st b hb=>by
   rcases zAl.mp hb with rfl | hb
   ·exact st.1.elim fun _ q=>⟨_,q,fw rfl (by decide)⟩
   ·rw [zAf.mp hb]; exact hpl _ _ st.2
  have fr:∀ b ∈ [W.h.objs.size+1,W.h.objs.size],W₀.h.get? b=none/\W.h.get? b=none:=fun b hb=>fresh_ge (ext0 x) (by
   rcases zAl.mp hb with rfl | hb
   ·exact zDc _
   ·rw [zAf.mp hb]; exact zAy _)
  have G:=I.hold (ev:=true) (tk:=W.s.toks) (wr:=[W.h.objs.size+1,W.h.objs.size]) hk fun b hb=>⟨.inr (fr b hb).2,(ex 0 h' ⟨⟨_,he⟩,hst⟩ b hb).imp fun _ q=>q.1⟩
  refine .mk (W':=W.hold h' W.s.toks [W.h.objs.size+1,W.h.objs.size]) rfl G ⟨true,dW 0 l,rfl,fun Q E hQ=>?_⟩
  refine Wk.self 0 _ Q E ⟨⟨_,he⟩,hst⟩ (hQ _ _ _ _ _ h' W.s.toks (.ofT Wk (fun i vals hp hi=>?_) (fun b hb=>⟨(fr b hb).1,.inl (.inr hb)⟩) (fun b hb hn=>?_) ex) .refl ⟨⟨_,he⟩,hst⟩)
  ·obtain ⟨t,x,hx,rfl⟩:=hp
   rw [fG] at hi
   have ha:=zAv hi
   obtain ⟨x',q1,q2⟩:=hv.get ha
   rw [zCh,hx] at q1; cases q1
   exact ⟨_,nu ha,VReps.cons ⟨t,by rw [Int.zero_add]⟩ (VReps.cons (q2.le G.ext) .nil)⟩
  ·rcases zAl.mp hb with rfl | hb
   ·exact absurd zAb hn
   ·rcases zAl.mp hb with rfl | hb
    ·exact absurd (zAc _ zAb) hn
    ·exact zAf.mp hb ▸ ⟨o,hk _ _ hg,G.ext.free hg hf,hp⟩
 cases a <;> first | (exact aC hi; done) | skip <;> obtain rfl:=Option.some.inj hi <;> obtain ⟨ad,rfl,hf,vs,m,hg,hsz,hv⟩:=ra
 ·have hI:W.h.IsTuple ad vs:=⟨_,hg,rfl,m,rfl⟩
  exact l8 hI fun h' he hit hk=>key (draws_tuple (A:=X.A.in1) hh _ ad (zA5 (zAz hg)) vs) (fun i h q=>q.1.imp fun _ z=>⟨z.1,fw z.2.1 (by decide)⟩) hg hf eF hv he ⟨hit,hI.at fun o e=>hk _ o e⟩ hk
 ·have hI:W.h.IsList ad vs:=⟨_,hg,rfl,m,rfl⟩
  exact call_enumerate_list hI fun h' he hit _ hk=>key (Draws.list (A:=X.A.in1) hh _ ad (zA5 (zAz hg)) vs) (fun i h q=>q.1.imp fun _ z=>⟨z.1,fw z.2.1 (by decide)⟩) hg hf eG hv he ⟨hit,hI.at fun o e=>hk _ o e⟩ hk
end
section
variable {X:Fx} {ev:Bool} {W W₀:Wd} {S:S} {h':Heap} {tk:Nat}
noncomputable abbrev Wd.give (W:Wd) (h:Heap) (tk:Nat) (a:Addr):Wd:=⟨W.labs,gj W.own none (some a),fun b=>W.tmp b/\b ≠ a,W.fr,{ W.s with heap:=h,toks:=tk }⟩
theorem Good.give (G:Good X ev W₀ S W) {a:Addr} {o':Obj} (h0:W₀.h.get? a=none) (ht:W.tmp a) (k:∀ b o,b ≠ a->W.h.get? b=some o->h'.get? b=some o) (ho:h'.get? a=some o'):Good X ev W₀ S (W.give h' tk a)/\Grow W (W.give h' tk a):=by
 have I:=G.inv.c
 have nl:∀ {b},b ∈ W.labs->b ≠ a:=fun h q=>I.tl _ ht (q ▸ h)
 have no:∀ {j b},W.own j=some b->b ≠ a:=fun h q=>(I.ol _ _ h).2 (q ▸ ht)
 have nf:∀ {b},W.fr b->b ≠ a:=fun h q=>(I.fl _ h).2.1 (q ▸ ht)
 have n0:∀ {b o},W₀.h.get? b=some o->b ≠ a:=fun e q=>aD e (q ▸ h0)
 have ow:∀ {k b},gj W.own none (some a) k=some b->(k=none/\b=a) ∨ (k ≠ none/\W.own k=some b):=fun {k b} q=>by
  by_cases hk:k=none
  ·subst hk; rw [bT] at q; exact .inl ⟨rfl,(Option.some.inj q).symm⟩
  ·rw [cu hk] at q; exact .inr ⟨hk,q⟩
 have ff':∀ {b},W.free b->b ≠ a:=fun f q=>f.tmp (q ▸ ht)
 have fr':∀ {b},W.free b->(W.give h' tk a).free b:=fun f=>⟨⟨f.oth.lab,fun k q=>(ow q).elim (fun z=>ff' f z.2) fun z=>f.oth.own _ z.2⟩,fun q=>f.tmp q.1,f.fr⟩
 have gr:Grow W (W.give h' tk a):=⟨id,fun e f _=>k _ _ (ff' f) e,fun _ f=>fr' f,fun e f x=>⟨_,k _ _ (ff' f) e,x,rfl⟩⟩
 refine ⟨⟨⟨fun e=>(G.ext.dom e).imp fun _ q=>k _ _ (n0 e) q,G.ext.labs,fun q=>(ow q).elim (fun z=>.new (z.2 ▸ h0)) fun z=>G.ext.own z.2,fun e h=>⟨fun q=>(G.ext.tmp e h).mp q.1,fun q=>⟨(G.ext.tmp e h).mpr q,n0 e⟩⟩,G.ext.fr,fun e h f p=>k _ _ (n0 e) (G.ext.keep e h f p),fun e h f p=>(G.ext.exo e h f p).imp fun _ q=>⟨k _ _ (n0 e) q.1,q.2⟩,fun e h m=>(G.ext.fc e h m).imp fun _ q=>⟨k _ _ (n0 e) q.1,q.2⟩⟩,?_,G.inv.f.mono gr (fun _ q=>q) (fun o e=>⟨o,k _ _ (nf G.inv.f.lc) e,rfl⟩) (fun y c h o e=>⟨o,k _ _ (nf (G.inv.f.cells y c h).1) e,rfl⟩) fun x b q=>⟨setV (own:=W.own) (r:=some a) q,fun o _ e=>k _ _ (no q) e⟩⟩,gr⟩
 exact {
  sh:=I.sh.elim fun h q=>q.elim fun t e=>⟨h',tk,by show ({ W.s with heap:=h',toks:=tk }:Shared)=_; rw [e]⟩
  stat:=fun b o e=>k _ _ (fun q=>aD e (q ▸ (I.lo a (gp ht)).1)) (I.stat b o e)
  lo:=fun b h=>by
   by_cases hb:b=a
   ·subst hb; exact ⟨(I.lo b (gp ht)).1,_,ho⟩
   ·have:=I.lo b fun f=>h (fr' f)
    exact ⟨this.1,this.2.imp fun _ e=>k _ _ hb e⟩
  nd:=I.nd
  ol:=fun j b q=>(ow q).elim (fun z=>⟨z.2 ▸ I.tl a ht,fun w=>w.2 z.2⟩) fun z=>⟨(I.ol j b z.2).1,fun w=>(I.ol j b z.2).2 w.1⟩
  oi:=fun j j' b q q'=>by
   rcases ow q with ⟨h1,h2⟩ | ⟨h1,h2⟩ <;> rcases ow q' with ⟨h3,h4⟩ | ⟨h3,h4⟩
   ·rw [h1,h3]
   ·exact absurd h2 (no h4)
   ·exact absurd h4 (no h2)
   ·exact I.oi _ _ _ h2 h4
  tl:=fun b q=>I.tl b q.1
  fl:=fun b q=>⟨⟨(I.fl b q).1.lab,fun k z=>(ow z).elim (fun z=>nf q z.2) fun z=>(I.fl b q).1.own _ z.2⟩,fun z=>(I.fl b q).2.1 z.1,fun o vs e=>(I.mus (b7 q)).elim fun o' z=>(I.fl b q).2.2 o vs (z.trans ((k _ _ (nf q) z).symm.trans e))⟩
  frs:=I.frs
  len:=I.len
  objs:=fun n o e=>(I.objs n o e).imp fun a q=>⟨q.1,q.2.mono gr fun _ _ e=>k _ _ (nl (b0 q.1)) e⟩ }
end
section
variable {prog:Program} {w:World} {A:Around} {R:Result->Shared->Prop} {s:Shared}
theorem gH {elt iter t:Expr} {ifs:List Expr} {scope:Scope} {pos:Pos} {it acc:Value} {env:Env} (I:Nat->Shared->Prop)
  (turn:∀ n s,I n s->wpAny (model prog w) A (pyNext it) (fun r s₁=>match r with
   | none=>R (.ok .next) s₁
   | some v=>wpAny (model prog w) A (letOwnedTupleGo t it v) (fun _ s'A=>wpAny (model prog w) A (assign t env v) (fun _ s₂ =>
     wpAny (model prog w) A (forIn ifs true fun c r=>if r=true then do let ok ← isTrue c env (eval c env); pure (ForInStep.yield ok) else pure (ForInStep.yield r)) (fun ok sA =>
      if ok=true then wpAny (model prog w) A (eval elt env) (fun x s₄ =>
       wpAny (model prog w) A (call (.builtin "list.append") [acc,x]) (fun _ s₅=>∃ m,m < n/\I m s₅) (notedBy (model prog w) A env fun e s'=>R (.error e) s') s₄) (notedBy (model prog w) A env fun e s'=>R (.error e) s') sA
      else ∃ m,m < n/\I m sA) (notedBy (model prog w) A env fun e s'=>R (.error e) s') s₂) (notedBy (model prog w) A env fun e s'=>R (.error e) s') s'A) (notedBy (model prog w) A env fun e s'=>R (.error e) s') s₁) (notedBy (model prog w) A env fun e s'=>R (.error e) s') s)
  (n:Nat) (h:I n s):codeAny (model prog w) A (.compLoop (.ListComp elt [⟨t,iter,ifs,0⟩] scope pos) 0 it acc env) R s:=by
 refine codeAny_loop rfl I (fun n s hI=>?_) n h
 show wpAny _ A ((compTurn (.ListComp elt [⟨t,iter,ifs,0⟩] scope pos) 0 it acc env).onRaise (fun x=>do noteFrame x env; theTreesLotGoes x)) _ _ s
 refine wpAny_noted ?_
 rw [compTurn_list]
 refine zAa (zCr (zAa (zAs (turn n s hI) (fun r s₁ h₁=>?_) fun _ _ h'=>h')))
 cases r with
 | none=>exact zAh h₁
 | some v =>
  refine zAa (zAs h₁ (fun _ s'A h'A=>zAa (zAs h'A (fun _ s₂ h₂=>zAa (zAs h₂ (fun ok sA h₃=>?_) fun _ _ h'=>h')) fun _ _ h'=>h')) fun _ _ h'=>h')
  cases ok with
  | false=>exact zAh ⟨rfl,h₃⟩
  | true=>exact zAa (zAa (zAs h₃ (fun x s₄ h₄=>zAa (zAs h₄ (fun _ s₅ h₅=>zAh (zAh ⟨rfl,h₅⟩)) fun _ _ h'=>h')) fun _ _ h'=>h'))
end
theorem io {env:Env} (names₀:List (Str × NameKind)):∀ (names:List (Str × NameKind)) (acc:List (Str × Addr)),(∀ p ∈ names,p.2=.free->∃ c,env.cells.lookup p.1=some c) ->
  ∃ cl,(forIn names acc fun (x:Str × NameKind) (cs:List (Str × Addr))=>(match x with | (name,kind)=>if (kind == NameKind.free)=true then do let a ← cellOf env name; Pure.pure (ForInStep.yield ((name,a)::cs)) else Pure.pure (ForInStep.yield cs):Sem (ForInStep (List (Str × Addr)))))=Pure.pure cl /\
   (∀ x c,(x,c) ∈ cl->(x,c) ∈ acc ∨ (env.cells.lookup x=some c/\(x,NameKind.free) ∈ names))/\(∀ p ∈ names,p.2=.free->∃ c,(p.1,c) ∈ cl)/\∀ q ∈ acc,q ∈ cl
 | [],acc,_=>⟨acc,rfl,fun _ _ h=>.inl h,fun _ h=>(nomatch h),fun _ h=>h⟩
 | (x,k)::r,acc,h=>by
  by_cases hk:(k == NameKind.free)=true
  ·have hk':k=.free:=by simpa using hk
   obtain ⟨c,hc⟩:=h (x,k) zAb hk'
   obtain ⟨cl,h1,h2,h3,h4⟩:=io names₀ r ((x,c)::acc) fun p hp=>h p (zAc _ hp)
   refine ⟨cl,?_,fun y d hy=>?_,fun p hp hf=>?_,fun q hq=>h4 q (zAc _ hq)⟩
   ·rw [List.forIn_cons]
    simp only [hk,if_true,cellOf,hc]
    exact h1
   ·rcases h2 y d hy with q | ⟨q1,q2⟩
    ·rcases zAl.mp q with z | z
     ·cases z; exact .inr ⟨hc,by rw [hk']; exact zAb⟩
     ·exact .inl z
    ·exact .inr ⟨q1,zAc _ q2⟩
   ·rcases zAl.mp hp with z | z
    ·subst z; exact ⟨c,h4 _ zAb⟩
    ·exact h3 p z hf
  ·obtain ⟨cl,h1,h2,h3,h4⟩:=io names₀ r acc fun p hp=>h p (zAc _ hp)
   refine ⟨cl,?_,fun y d hy=>?_,fun p hp hf=>?_,h4⟩
   ·rw [List.forIn_cons]
    simp only [hk]
    exact h1
   ·exact (h2 y d hy).imp id fun q=>⟨q.1,zAc _ q.2⟩
   ·rcases zAl.mp hp with z | z
    ·subst z; exact absurd (by simpa using hf) hk
    ·exact h3 p z hf
theorem ia {α:Type}:∀ {l:List (Str × α)} {x:Str} {c:α},(x,c) ∈ l->(∀ d,(x,d) ∈ l->d=c)->l.lookup x=some c
 | [],_,_,h,_=>nomatch h
 | (y,d)::r,x,c,h,hd=>by
  rw [zBb]
  cases hq:x == y with
  | true =>
   have:x=y:=by simpa using hq
   subst this
   rw [hd d zAb]
  | false =>
   refine ia ?_ fun e he=>hd e (zAc _ he)
   rcases zAl.mp h with z | z
   ·cases z; simp at hq
   ·exact z
theorem oL {scope:Scope} {env:Env} (h:∀ p ∈ scope.names,p.2=.free->∃ c,env.cells.lookup p.1=some c) :
  ∃ cl,closureFor scope env=Pure.pure cl/\(∀ x c,cl.lookup x=some c->env.cells.lookup x=some c/\(x,NameKind.free) ∈ scope.names)/\∀ x,(x,NameKind.free) ∈ scope.names->∃ c,cl.lookup x=some c:=by
 obtain ⟨cl,h1,h2,h3,_⟩:=io scope.names scope.names [] h
 refine ⟨cl,?_,fun x c hx=>?_,fun x hx=>?_⟩
 ·exact congrArg (fun m:Sem (List (Str × Addr))=>m >>= fun cs=>Pure.pure cs) h1
 ·rcases h2 x c (mem_of_lookup hx) with q | q
  ·cases q
  ·exact q
 ·obtain ⟨c,hc⟩:=h3 _ hx rfl
  obtain ⟨c',hc'⟩:=h _ hx rfl
  refine ⟨c,ia hc fun d hd=>?_⟩
  have e1:=h2 x d hd
  have e2:=h2 x c hc
  rcases e1 with z | ⟨z,_⟩
  ·cases z
  ·rcases e2 with y | ⟨y,_⟩
   ·cases y
   ·rw [z] at y; cases y; rfl
noncomputable abbrev mX (env:Env) (p:Str × NameKind):Str × NameKind:=match p with | (n,k)=>if (k == NameKind.free && env.scope.kind == .function && env.kindOf n == some .cell) then (n,NameKind.cell) else (n,k)
theorem relab_fst {env:Env} {m:Str} {k:NameKind}:∃ k',mX env (m,k)=(m,k')/\(k'=k ∨ (k=.free/\k'=.cell)):=by
 show ∃ k',(if (k == NameKind.free && env.scope.kind == .function && env.kindOf m == some .cell)=true then (m,NameKind.cell) else (m,k))=_/\_
 by_cases h:(k == NameKind.free && env.scope.kind == .function && env.kindOf m == some .cell)=true
 ·rw [if_pos h]
  have:=(zAk.mp (zAk.mp h).1).1
  exact ⟨_,rfl,.inr ⟨eq_of_beq this,rfl⟩⟩
 ·rw [if_neg h]; exact ⟨_,rfl,.inl rfl⟩
theorem kP {env:Env}:∀ {names:List (Str × NameKind)} {x:Str} {k:NameKind},names.lookup x=some k->(names.map (mX env)).lookup x=some k ∨ (k=.free/\(names.map (mX env)).lookup x=some .cell)
 | [],_,_,h=>nomatch h
 | (m,k)::r,x,k₀,h=>by
  obtain ⟨k',e,hk⟩:=relab_fst (env:=env) (m:=m) (k:=k)
  rw [zA6,e,zBb]
  rw [zBb] at h
  cases hx:x == m with
  | true =>
   rw [hx] at h
   obtain rfl:=Option.some.inj h
   exact hk.imp (fun q=>by rw [q]) fun q=>⟨q.1,by rw [q.2]⟩
  | false=>rw [hx] at h; exact kP h
theorem iD {env:Env} {names:List (Str × NameKind)} {x:Str} (h:names.lookup x=some .free):(names.map (mX env)).lookup x=some .cell ∨ (names.map (mX env)).lookup x=some .free :=
 (kP h).symm.imp (·.2) id
theorem nX {env:Env} {names:List (Str × NameKind)} {x:Str} (h:names.lookup x=some .globalImplicit):(names.map (mX env)).lookup x=some .globalImplicit :=
 (kP h).elim id fun q=>nomatch q.1
theorem nR {k:Option NameKind} (h:n5 k=true):k=some .local:=by
 cases k with
 | none=>exact ff h
 | some k=>cases k <;> first | rfl | exact ff h
theorem nQ {k:Option NameKind} (h:isFreeK k=true):k=some .free:=by
 cases k with
 | none=>exact ff h
 | some k=>cases k <;> first | rfl | exact ff h
theorem oC {k:Option NameKind} (h:isCellK k=true):k=some .cell ∨ k=some .free:=by
 cases k with
 | none=>exact ff h
 | some k=>cases k <;> first | exact .inl rfl | exact .inr rfl | exact ff h
theorem kR {sc sc':List (Str × NameKind)} (h:scOk sc sc'=true):(∀ p ∈ sc',p.2 ≠ .cell)/\(∀ p ∈ sc',p.2=.local->sc'.lookup p.1=some .local)/\(∀ p ∈ sc',p.2=.free->(sc.lookup p.1=some .cell ∨ sc.lookup p.1=some .free)/\sc'.lookup p.1=some .free):=by
 have key:=fun p hp=>zA7.mp h p hp
 refine ⟨fun p hp q=>?_,fun p hp q=>?_,fun p hp q=>?_⟩
 ·have:=key p hp; rw [q] at this; exact ff this
 ·have:=key p hp; rw [q] at this; rw [← bK]; exact nR this
 ·have:=key p hp; rw [q] at this
  obtain ⟨h1,h2⟩:=zAk.mp this
  rw [← bK,← bK]
  exact ⟨oC h1,nQ h2⟩
noncomputable def preO (done:List AV):Out (List AV)->Out (List AV)
 | .ok vs s=>.ok (done++vs) s
 | o=>o
theorem preO_cons {done:List AV} {v:AV} {o:Out (List AV)}:preO done (nj v o)=preO (done++[v]) o:=by
 cases o <;> first | rfl | exact congrArg (fun x=>Out.ok x _) (List.append_cons ..)
noncomputable def Fx.comp (X:Fx) (scope:Scope) (cl:List (Str × Addr)) (D:Addr):Fx:=⟨X.C,X.T,X.A,compEnvC scope cl D X.env,X.frs,false,scope.names,X.n⟩
section
variable {X:Fx} {W W' B:Wd} {S:S}
theorem Fx.Ok.comp (F:X.Ok) {scope:Scope} {cl:List (Str × Addr)} {D:Addr} (hk:scope.kind=.function) (hok:scOk X.nms scope.names=true) (hcl:∀ x c,cl.lookup x=some c->X.env.cells.lookup x=some c/\(x,NameKind.free) ∈ scope.names) (hclx:∀ x,(x,NameKind.free) ∈ scope.names->∃ c,cl.lookup x=some c) (hD:∀ x c,cl.lookup x=some c->c ≠ D):(X.comp scope cl D).Ok where
 cx:=F.cx
 P:=F.P
 call:=F.call
 make:=F.make
 hd:=F.hd
 frames:=F.frames
 kind:=hk
 loc:=fun x h=>lookup_relabel_local h
 cel:=fun x h=>by
  obtain ⟨h1,h2,h3⟩:=kR hok
  rcases h with h | h
  ·exact absurd rfl (h1 _ (mem_of_lookup h))
  ·exact ⟨iD h,hclx x (mem_of_lookup h)⟩
 glob:=fun x h=>nX h
 fcell:=fun h=>nomatch h
 inj:=fun x y c h1 h2=>F.inj x y c (hcl x c h1).1 (hcl y c h2).1
 cl:=hD
 room:=F.room
 globals:=F.globals
 builtins:=F.builtins
 frm:=F.frm
noncomputable def CapOk (X:Fx) (W:Wd) (cap:bF):Prop:=∀ x lv,fH X.nms x=true->aq (aV x X.nms) cap=some lv->∃ c v a,(X.env.kindOf x=some .cell ∨ X.env.kindOf x=some .free)/\X.env.cells.lookup x=some c/\W.h.IsCell c (some v)/\lv=.val a/\VRep X.C W a v
theorem CapOk.next {cap:bF} (h:CapOk X W cap) (g:Grow W W') (k:∀ x c,X.env.cells.lookup x=some c->dP W W'.h c):CapOk X W' cap:=fun x lv hn e=>by
 obtain ⟨c,v,a,h1,h2,h3,h4,h5⟩:=h x lv hn e
 exact ⟨c,v,a,h1,h2,IsCell.same h3 (k x c h2),h4,h5.mono g⟩
theorem CapOk.inv {cap:bF} (h:CapOk X W cap) (I:Inv X S W):Inv X ⟨cap,S.st⟩ W:=⟨I.c,I.f.lc,I.f.ns,I.f.cells,fun x lv hn e=>by
 obtain ⟨c,v,a,h1,h2,h3,rfl,h5⟩:=h x lv hn e
 exact ⟨v,.cell h1 h2 h3,h5⟩⟩
structure CompAt (X:Fx) (B Wi:Wd) (cap:bF) (a:Addr) (wr:List Addr) (St:Nat->Heap->Prop) (i:Nat) (S:Mine.S) (W:Wd) (done:List AV) (ys:Array Value):Prop where
 good:Good X false B S W
 grow:Grow Wi W
 held:∀ b ∈ a::wr,W.tmp b
 st:St i W.h
 lst:W.h.PlainList a ys
 sz:ys.size<=i
 reps:VReps X.C W done ys.toList
 cap:CapOk X W cap
inductive CmP (X:Fx) (B:Wd) (a:Addr) (o:Out (List AV)):Result->Shared->Prop
 | ok {vs:List AV} {S S':Mine.S} {W:Wd} {ys:Array Value} (e:o=.ok vs S') (es:S.st=S'.st) (g:Good X false B S W) (h:W.tmp a) (l:W.h.PlainList a ys) (sz:ys.size<=ou) (r:VReps X.C W vs ys.toList):CmP X B a o (.ok .next) W.s
 | exc {c:Str} {S S':Mine.S} {W:Wd} {v:Value} (e:o=.exc c S') (es:S.st=S'.st) (g:Good X false B S W) (t:IsTraced X.A.handled.isNone X.C W c v):CmP X B a o (.error v) W.s
theorem cells_same (h:X.fn=false) (F:X.Ok) (I:InvF X S.loc W) (x:EX X false W W'):∀ y c,X.env.cells.lookup y=some c->dP W W'.h c:=fun y c e o he=>x.fc he (I.cells y c e).1 fun q=>q.2.elim (F.cl _ _ e) fun z=>by rw [h] at z; exact ff z.1
noncomputable def TstOk (X:Fx):List Expr->Option (D AV)->Prop
 | [],none=>True
 | [e],some d=>SndT X e d
 | _,_=>False
theorem snd_tests {ifs:List Expr} {tst:Option (D AV)} (h:TstOk X ifs tst) (I:Inv X S W) :
  Snd X true RB (forIn ifs true fun c r=>if r=true then do let ok ← isTrue c X.env (eval c X.env); Pure.pure (ForInStep.yield ok) else Pure.pure (ForInStep.yield r)) (iN tst S) W:=by
 match ifs,tst,h with
 | [],none,_=>exact Snd.wp (m:=Pure.pure true) (.pure I rfl) fun Q E q=>q
 | [e],some d,h=>exact (h S W I).wp fun Q E q=>wpAny_tests_one q
inductive CmpI (X:Fx) (B Wi:Wd) (cap:bF) (a:Addr) (wr:List Addr) (St:Nat->Heap->Prop) (go:List AV->Mine.St->Out (List AV)) (l:List AV) (o:Out (List AV)):Nat->Shared->Prop
 | mk {i:Nat} {W':Wd} {S':Mine.S} {done:List AV} {ys:Array Value} (hi:i<=l.length) (L:CompAt X B Wi cap a wr St i S' W' done ys) (h:preO done (go (l.drop i) S'.st)=o):CmpI X B Wi cap a wr St go l o (l.length+1 - i) W'.s
set_option tactic.hygienic true in
theorem asgT_exc {t:Tg} {v:AV} {S S':Mine.S} {c:Str} {P:Prop} (h:j9 t v S=.exc c S'):P:=by
 rcases t with ⟨_ | k,ks⟩
 ·cases v <;> first | exact cC Out.ctorIdx h rfl | skip
  rename_i vs
  have h:(if zA4 ks.length vs.length then Out.ok () { S with loc:=fT ks vs S.loc } else .stuck)=.exc c S':=h
  cases q:zA4 ks.length vs.length with
  | true=>rw [q,if_pos rfl] at h; exact cC Out.ctorIdx h rfl
  | false=>rw [q,if_neg zAn] at h; exact cC Out.ctorIdx h rfl
 ·exact cC Out.ctorIdx h rfl
theorem nM (F:X.Ok) (hq:X.T.free=true) (hfn:X.fn=false) {t:Expr} {t':Tg} {elt iter:Expr} {ifs:List Expr} {scope:Scope} {pos:Pos} {tst:Option (D AV)} {delt:D AV} {l:List AV} {I a:Addr} {fp wr:List Addr} {St:Nat->Heap->Prop} {Mid:Nat->Value->Heap->Prop} {cap:bF} {h0:Heap} {WA Wi:Wd}
  (hst:TgOk X t t') (htst:TstOk X ifs tst) (helt:SndE X elt delt) (It:IterS X.C X.A h0 WA false I fp wr l St Mid) (hB:∀ b ∈ a::wr,B.h.get? b=none) (ha:a ∉ wr) (haf:a ∉ fp) (g₁:Grow WA Wi) (C0:CompAt X B Wi cap a wr St 0 S Wi [] #[]) (hlen:l.length<=ou)
  (hne:cg t' tst delt cap l S.st ≠ .stuck) {R:Result->Shared->Prop} (hR:∀ r s',CmP X B a (cg t' tst delt cap l S.st) r s'->R r s') :
  codeAny X.C.M X.A (.compLoop (.ListComp elt [⟨t,iter,ifs,0⟩] scope pos) 0 (.ref I) (.ref a) X.env) R Wi.s:=by
 refine gH (CmpI X B Wi cap a wr St (cg t' tst delt cap) l (cg t' tst delt cap l S.st)) ?_ (l.length+1)
  (.mk (i:=0) (done:=[]) (zBa _) C0 (by rw [List.drop_zero]; cases cg t' tst delt cap l S.st <;> rfl))
 generalize cg t' tst delt cap l S.st=o at hne hR
 rintro m _ (@⟨i,W',S₁,done,ys,hi,L,hgo⟩)
 have hwr:∀ b ∈ wr,B.h.get? b=none/\W'.tmp b:=fun b q=>⟨hB b (zAc _ q),L.held b (zAc _ q)⟩
 by_cases hlt:i < l.length
 ·refine It.item i W'.s _ _ hlt L.st fun v h₁ tkA hMid hkA=>?_
  refine It.go t i v _ _ _ nofun (by cases hst with | nm _=>exact .inl rfl | tp _=>exact .inr rfl) hlt hMid fun h₂ a' ha' _ hr' hSt' hkB=>?_
  have hr':=hr' rfl
  have hkA:=fun b o hb e=>hkB b o hb (hkA b o hb e)
  dsimp only at hkA hSt' ⊢
  clear hkB hMid
  have hdrop:l.drop i=a'::l.drop (i+1):=by
   rw [← (zA3.mp ha').2]; exact zB9 hlt
  rw [hdrop] at hgo
  have exA:=It.ex (i+1) h₂ hSt'
  obtain ⟨GB,grA⟩:=L.good.turn (tk:=tkA) hwr (It.ex i _ L.st) (fun b q=>(exA b q).imp fun _ z=>z.1) hkA
  have capA:CapOk X (W'.to h₂ tkA) cap:=L.cap.next grA fun y c e o he=>⟨o,hkA c o (fun q=>(L.good.inv.c.fl c (L.good.inv.f.cells y c e).1).2.1 (hwr c q).2) he,rfl⟩
  have IB:=capA.inv GB.inv
  have hrA:=(hr'.mono (g₁.trans L.grow)).mono grA
  have hgo:preO done (ax (j9 t' a' ⟨cap,S₁.st⟩) fun _=>aH (iN tst) fun b=>if b then aH delt (fun v=>fun s=>nj v (cg t' tst delt cap (l.drop (i+1)) s.st)) else fun s=>cg t' tst delt cap (l.drop (i+1)) s.st)=o:=hgo
  refine zAs (j2 F hq IB hst (.val hrA) (.inr hrA) fun q=>hne (by rw [← hgo,q]; rfl)) (fun _ sA q=>?_) fun e sA q=>by cases q with | mk e _ _=>exact asgT_exc e
  cases q with
  | @mk u Sa WC e₃ GC _ =>
  rw [e₃] at hgo
  have ho:∀ b ∈ a::wr,(W'.to h₂ tkA).oth b/\¬ W'.fr b:=fun b q=>⟨⟨GB.inv.c.tl b (L.held b q),fun k z=>(GB.inv.c.ol k b z).2 (L.held b q)⟩,fun z=>(GB.inv.c.fl b z).2.1 (L.held b q)⟩
  have ob:∀ b ∈ a::wr,∃ o,h₂.get? b=some o/\Pln o:=fun b q=>(zAl.mp q).elim (fun z=>z ▸ L.lst.elim fun n e=>⟨_,hkA a _ ha e,eG⟩) (exA b)
  have next:∀ {S₅ W₅},Good X true WC S₅ W₅->Good X false B S₅ W₅/\Grow (W'.to h₂ tkA) W₅/\(∀ b ∈ a::wr,W₅.tmp b)/\St (i+1) W₅.h/\W₅.h.PlainList a ys/\CapOk X W₅ cap:=fun {S₅ W₅} G₅=>by
   have G₅A:Good X false (W'.to h₂ tkA) S₅ W₅:=GC.trans G₅.weak
   have keep:∀ b ∈ a::wr,∀ o,h₂.get? b=some o->W₅.h.get? b=some o:=fun b q o e=>(ob b q).elim fun o' z=>by
    rw [Option.some.inj (e.symm.trans z.1)]; exact G₅A.ext.keep z.1 (ho b q).1 (ho b q).2 z.2
   refine ⟨⟨GB.ext.trans G₅A.ext,G₅A.inv⟩,G₅A.ext.grow,fun b q=>(ob b q).elim fun o z=>(G₅A.ext.tmp z.1 (ho b q).1).mpr (L.held b q),It.frame (i+1) h₂ W₅.h hSt' fun b hb o e=>?_,(L.lst.at fun o e=>hkA a o ha e).at fun o e=>keep a zAb o e,capA.next G₅A.ext.grow (cells_same hfn F IB.f G₅A.ext)⟩
   by_cases hbw:b ∈ wr
   ·exact keep b (zAc _ hbw) o e
   ·obtain ⟨o',z1,z2,z3⟩:=It.fps b hb hbw
    have gW:=(g₁.trans L.grow).trans grA
    rw [Option.some.inj (e.symm.trans (gW.kp z1 z2 z3))]
    exact (gW.trans G₅A.ext.grow).kp z1 z2 z3
  have hgo:preO done (ax (iN tst Sa) fun b=>if b then aH delt (fun v=>fun s=>nj v (cg t' tst delt cap (l.drop (i+1)) s.st)) else fun s=>cg t' tst delt cap (l.drop (i+1)) s.st)=o:=hgo
  have hnt:iN tst Sa ≠ .stuck:=fun q=>hne (by rw [← hgo,q]; rfl)
  refine zAs (snd_tests htst GC.inv hnt) (fun ok s₅ q=>?_) fun e s₆ q=>?_
  case' refine_2 =>
   cases q with
   | @mk c S₆ W₆ e₆ G₆ t₆ =>
   rw [e₆] at hgo
   have Gn:=(next G₆).1
   exact c6 F (.refl G₆.inv) t₆ fun W'' G'' t''=>hR _ _ (.exc (S:=S₆) (S':=S₆) hgo.symm rfl (Gn.trans G''.weak) t'')
  cases q with
  | @mk bt S₅ W₅ e₅ G₅ r₅ =>
  obtain rfl:bt=ok:=r₅
  rw [e₅] at hgo
  cases bt with
  | false =>
   rw [if_neg zAn]
   obtain ⟨Gn,grn,hh,hS,hys,hcap⟩:=next G₅
   exact ⟨_,Nat.sub_lt_sub_left (zBd hlt) (zCt _),.mk hlt ⟨Gn,(L.grow.trans grA).trans grn,hh,hS,hys,Nat.le_succ_of_le L.sz,(L.reps.mono grA).mono grn,hcap⟩ hgo⟩
  | true =>
  rw [if_pos rfl]
  have hgo:preO done (ax (delt S₅) fun v s=>nj v (cg t' tst delt cap (l.drop (i+1)) s.st))=o:=hgo
  have hnd:delt S₅ ≠ .stuck:=fun q=>hne (by rw [← hgo,q]; rfl)
  refine zAs (helt _ W₅ G₅.inv hnd) (fun v s₆ q=>?_) fun e s₆ q=>?_
  ·cases q with
   | @mk av S₆ W₆ e₆ G₆ r₆ =>
   rw [e₆] at hgo
   obtain ⟨Gn,grn,hh,hS,hys,hcap⟩:=next (G₅.trans G₆)
   refine wpAny_list_append_plain hys (fun h₈ hys₈ hs₈=>?_) (zAj L.sz (zAj hi hlen))
   have hk₈:∀ b o,b ∉ [a]->W₆.h.get? b=some o->h₈.get? b=some o:=fun b o hb e=>(hs₈.2 b fun q=>hb (zAf.mpr q)).trans e
   obtain ⟨G₈,gr₈⟩:=Gn.turn (wr:=[a]) (tk:=W₆.s.toks) (fun b q=>zAf.mp q ▸ ⟨hB a zAb,hh a zAb⟩) (fun b q=>zAf.mp q ▸ hys.elim fun n e=>⟨_,e,eG⟩) (fun b q=>zAf.mp q ▸ hys₈.elim fun n e=>⟨_,e⟩) hk₈
   refine ⟨_,Nat.sub_lt_sub_left (zBd hlt) (zCt _),.mk (W':=W₆.to h₈ W₆.s.toks) (S':=S₆) (done:=done++[av]) (ys:=ys.push v) hlt ⟨G₈,(L.grow.trans grA).trans (grn.trans gr₈),hh,?_,hys₈,by rw [Array.size_push]; exact zBc L.sz,?_,hcap.next gr₈ fun y c e o he=>⟨o,hk₈ c o (fun q=>?_) he,rfl⟩⟩ (by rw [← preO_cons]; exact hgo)⟩
   ·exact It.frame (i+1) W₆.h h₈ hS fun b hb o e=>hk₈ b o (fun q=>haf (zAf.mp q ▸ hb)) e
   ·rw [Array.toList_push]; exact (((L.reps.mono grA).mono grn).append (.cons r₆ .nil)).mono gr₈
   ·exact (Gn.inv.c.fl c (Gn.inv.f.cells y c e).1).2.1 (zAf.mp q ▸ hh a zAb)
  ·cases q with
   | @mk c S₆ W₆ e₆ G₆ t₆ =>
   rw [e₆] at hgo
   have Gn:=(next (G₅.trans G₆)).1
   exact c6 F (.refl G₆.inv) t₆ fun W'' G'' t''=>hR _ _ (.exc (S:=S₆) (S':=S₆) hgo.symm rfl (Gn.trans G''.weak) t'')
 ·obtain rfl:i=l.length:=zCx hi (Nat.not_lt.mp hlt)
  refine It.done W'.s _ _ L.st fun h' tk hk=>?_
  rw [List.drop_length] at hgo
  obtain ⟨G,gr⟩:=L.good.over (tk:=tk) hwr hk
  refine hR _ _ (.ok (S:=S₁) (S':=⟨cap,S₁.st⟩) (W:=W'.over h' tk wr) (hgo.symm.trans ?_) rfl G ⟨L.held a zAb,ha⟩ (L.lst.at fun o e=>hk a o ha e) (zAj L.sz hlen) (L.reps.mono gr))
  show Out.ok (done++[]) _=_
  rw [zAt]
end
theorem kt {i o:Nat} {r:List (Nat × Nat)} {l:bF}:letGo ((i,o)::r) l=letGo r (match aq o l with | some (.own v)=>ah o (.val v) l | _=>l):=rfl
theorem ef:∀ (caps:List (Nat × Nat)) (l:bF) (x:Nat) (v:AV),(aq x l=some (.val v)->aq x (letGo caps l)=some (.val v))/\(aq x l=some (.own v)->x ∈ caps.map (·.2)->aq x (letGo caps l)=some (.val v))
 | [],l,x,v=>⟨fun h=>h,fun _ h=>(nomatch h)⟩
 | (i,y)::r,l,x,v=>by
  rw [kt]
  have step:∀ {l'},(aq x l=some (.val v)->aq x l'=some (.val v))->(aq x l=some (.own v)->aq x l'=some (.own v) ∨ aq x l'=some (.val v))->(aq x l=some (.own v)->x=y->aq x l'=some (.val v)) ->
    (aq x l=some (.val v)->aq x (letGo r l')=some (.val v))/\(aq x l=some (.own v)->x ∈ y::r.map (·.2)->aq x (letGo r l')=some (.val v)):=fun {l'} h1 h2 h3=>by
   refine ⟨fun h=>(ef r l' x v).1 (h1 h),fun h hm=>?_⟩
   by_cases hxy:x=y
   ·exact (ef r l' x v).1 (h3 h hxy)
   ·rcases h2 h with q | q
    ·exact (ef r l' x v).2 q ((zAl.mp hm).resolve_left hxy)
    ·exact (ef r l' x v).1 q
  cases hy:aq y l with
  | none=>exact step (fun h=>h) (fun h=>.inl h) fun h q=>by subst q; rw [h] at hy; exact cC zAr hy rfl
  | some lv =>
   cases lv with
   | val a=>exact step (fun h=>h) (fun h=>.inl h) fun h q=>by subst q; rw [h] at hy; cases hy
   | own c =>
    by_cases hxy:x=y
    ·subst hxy
     refine step (fun h=>by rw [h] at hy; cases hy) (fun h=>?_) fun h _=>?_
     ·rw [h] at hy; cases hy; exact .inr d9
     ·rw [h] at hy; cases hy; exact d9
    ·refine step (fun h=>by rw [show aq x (ah y (LV.val c) l)=aq x l from cI hxy]; exact h) (fun h=>.inl (by rw [show aq x (ah y (LV.val c) l)=aq x l from cI hxy]; exact h)) fun _ q=>absurd q hxy
set_option tactic.hygienic true in
theorem mx:∀ (caps:List (Nat × Nat)) (l:bF) (x:Nat) (lv:LV),aq x (dY caps l)=some lv->∃ y v,(x,y) ∈ caps/\lv=.val v/\(aq y l=some (.val v) ∨ aq y l=some (.own v))
 | [],_,_,_,h=>nomatch h
 | (i,o)::r,l,x,lv,h=>by
  have ih:=mx r l x lv
  change aq x (match aq o l with | some lv=>(i,.val (lvV lv))::dY r l | none=>dY r l)=some lv at h
  cases hy:aq o l with
  | none=>rw [hy] at h; obtain ⟨y,v,q1,q2⟩:=ih h; exact ⟨y,v,zAc _ q1,q2⟩
  | some q =>
   rw [hy] at h
   rw [il] at h
   split at h
   ·rename_i e
    cases h
    obtain rfl:=beq_nat.mp e
    exact ⟨o,lvV q,zAb,rfl,by cases q <;> first | exact .inl hy | exact .inr hy⟩
   ·obtain ⟨y,v,q1,q2⟩:=ih h; exact ⟨y,v,zAc _ q1,q2⟩
theorem k7 {sc sc':Sc} {q:Nat × Nat} (h:q ∈ bo sc sc'):∃ x,(x,NameKind.free) ∈ sc'/\q=(aV x sc',aV x sc):=by
 unfold bo at h
 obtain ⟨p,hp,rfl⟩:=zBs.mp h
 obtain ⟨h1,h2⟩:=List.mem_filter.mp hp
 obtain ⟨x,k⟩:=p
 cases k <;> first | (exact ff h2; done) | exact ⟨x,h1,rfl⟩
noncomputable def ownR (own:Option Str->Option Addr) (r:Option Addr):Option Str->Option Addr:=r.elim own fun a=>gj own none (some a)
noncomputable abbrev Wd.backR (W W':Wd) (r:Option Addr) (D:Addr):Wd:=⟨W'.labs,ownR W.own r,fun b=>W.tmp b ∨ b=D,W.fr,W'.s⟩
theorem dw {own:Option Str->Option Addr} {r:Option Addr} {k:Option Str} {b:Addr} (q:ownR own r k=some b):(k=none/\r=some b) ∨ ((r ≠ none->k ≠ none)/\own k=some b):=by
 cases r with
 | none=>exact .inr ⟨fun h=>absurd rfl h,q⟩
 | some a =>
  by_cases hk:k=none
  ·subst hk; rw [show ownR own (some a) none=some a from bT (own:=own) (k:=none)] at q; exact .inl ⟨rfl,q⟩
  ·rw [show ownR own (some a) k=own k from cu (own:=own) hk] at q; exact .inr ⟨fun _=>hk,q⟩
section
variable {X:Fx} {W We W₀:Wd} {S:S} {st':St} {frs':List Env} {mu:Addr->Prop} {D:Addr}
theorem Inv.backR (I:Inv X S W) (x:Ext mu W.susp We) (hm:∀ b o,W.h.get? b=some o->¬ mu b) (I':InvC X.C frs' We st') {r:Option Addr} (ha:∀ a,r=some a->We.tmp a/\W.h.get? a=none) (hD:We.fr D) (hD0:W.h.get? D=none) :
  Good X true W ⟨S.loc,st'⟩ (W.backR We r D)/\Grow We (W.backR We r D):=by
 have na:∀ {b},¬ W.free b->r ≠ some b:=fun h q=>(I.c.mus h).elim fun _ z=>aD z (ha _ q).2
 have nD:∀ {b},¬ W.free b->b ≠ D:=fun h q=>(I.c.mus h).elim fun _ z=>aD z (q ▸ hD0)
 have gr:Grow We (W.backR We r D):=⟨id,fun e _ _=>e,fun e f=>⟨⟨f.oth.lab,fun k q=>(dw q).elim (fun z=>f.tmp (ha _ z.2).1) fun z=>f.tmp (I.c.held x (.inr ⟨k,z.2⟩)).1⟩,fun q=>q.elim (fun z=>f.tmp (I.c.held x (.inl z)).1) fun z=>f.fr (z ▸ hD),fun q=>(I.c.mus (b7 q)).elim fun _ z=>f.fr ((x.fr z).mpr q)⟩,fun e _ x=>⟨_,e,x,rfl⟩⟩
 have y:Ext (fun _=>False) W (W.backR We r D):={
  dom:=x.dom
  labs:=x.labs.imp fun r q=>⟨q.1,fun a h=>by
   cases q.2 a h with
   | new e=>exact .new e
   | own e=>exact aC e⟩
  own:=fun q=>(dw q).elim (fun z=>.new (ha _ z.2).2) fun z=>.own z.2
  tmp:=fun e _=>⟨fun q=>q.elim id fun z=>(aD e (z ▸ hD0)).elim,.inl⟩
  fr:=fun _=>.rfl
  keep:=fun e h=>x.keep e ⟨h.lab,fun _ q=>nomatch q⟩
  exo:=fun e h=>x.exo e ⟨h.lab,fun _ q=>nomatch q⟩
  fc:=fun e h _=>x.fc e h (hm _ _ e) }
 refine ⟨⟨y.weak fun _ q=>q.elim,?_,I.f.mono y.grow (fun _ q=>q) (Inv.fcSame I.f fun e h=>y.fc e h id).1 (Inv.fcSame I.f fun e h=>y.fc e h id).2 fun k b q=>⟨?_,fun o p e=>x.keep e ⟨(I.c.ol _ _ q).1,fun _ q=>nomatch q⟩ (fun z=>(I.c.fl _ z).1.own _ q) p⟩⟩,gr⟩
 ·exact {
  sh:=I'.sh
  stat:=I'.stat
  lo:=fun b h=>by
   by_cases hba:r=some b
   ·exact ⟨(I.loose (ha _ hba).2).st,I'.mus (gp (ha _ hba).1)⟩
   by_cases hbD:b=D
   ·subst hbD; exact ⟨(I.loose hD0).st,I'.mus (b7 hD)⟩
   by_cases f:W.free b
   ·exact I'.lo b fun f'=>h ⟨⟨f'.oth.lab,fun k q=>(dw q).elim (fun z=>hba z.2) fun z=>f.oth.own _ z.2⟩,fun q=>q.elim f.tmp hbD,f.fr⟩
   ·exact ⟨(I.c.lo b f).1,(I.c.lo b f).2.elim fun _ e=>x.dom e⟩
  nd:=I'.nd
  ol:=fun k b q=>by
   rcases dw q with ⟨_,q⟩ | ⟨_,q⟩
   ·exact ⟨I'.tl _ (ha _ q).1,fun z=>z.elim (fun z=>na (gp z) q) fun z=>(I'.fl D hD).2.1 (z ▸ (ha _ q).1)⟩
   ·exact ⟨(I.c.held x (.inr ⟨k,q⟩)).2.lab,fun z=>z.elim (I.c.ol k b q).2 (nD (fV q))⟩
  oi:=fun k k' b q q'=>by
   rcases dw q with ⟨h1,h2⟩ | ⟨h1,h2⟩ <;> rcases dw q' with ⟨h3,h4⟩ | ⟨h3,h4⟩
   ·rw [h1,h3]
   ·exact absurd h2 (na (fV h4))
   ·exact absurd h4 (na (fV h2))
   ·exact I.c.oi _ _ _ h2 h4
  tl:=fun b q=>q.elim (fun z=>(I.c.held x (.inl z)).2.lab) fun z=>z ▸ (I'.fl D hD).1.lab
  fl:=fun b q=>by
   obtain ⟨h1,h2,h3⟩:=I.c.fl b q
   obtain ⟨o,e⟩:=I.c.mus (b7 q)
   refine ⟨⟨(x.oth e ⟨h1.lab,fun _ q=>nomatch q⟩).lab,fun k z=>(dw z).elim (fun z=>na (b7 q) z.2) fun z=>h1.own _ z.2⟩,fun z=>z.elim h2 (nD (b7 q)),fun o' vs e' z=>?_⟩
   obtain ⟨o'',e'',hd⟩:=x.fc e q (hm _ _ e)
   obtain rfl:=Option.some.inj (e'.symm.trans e'')
   exact h3 o vs e (hd.symm.trans z)
  frs:=I.c.frs
  len:=I'.len
  objs:=fun n o e=>(I'.objs n o e).imp fun a q=>⟨q.1,q.2.mono gr fun _ _ e=>e⟩ }
 ·cases r with
  | none=>exact q
  | some a=>exact setV (own:=W.own) (r:=some a) q
theorem Inv.letgoN:∀ (caps:List (Nat × Nat)) (S:Mine.S) (W:Wd),(∀ q ∈ caps,∃ x,fH X.nms x=true/\q.2=aV x X.nms)->Inv X S W->∃ W',W'.s=W.s/\Good X true W ⟨letGo caps S.loc,S.st⟩ W'
 | [],S,W,_,I=>⟨W,rfl,.refl I⟩
 | (i,o)::r,S,W,hc,I=>by
  have hr:=fun q hq=>hc q (zAc _ hq)
  cases hx:aq o S.loc with
  | none=>rw [kt,hx]; exact Inv.letgoN r S W hr I
  | some lv =>
   cases lv with
   | val a=>rw [kt,hx]; exact Inv.letgoN r S W hr I
   | own c =>
    obtain ⟨x,h1,h2⟩:=hc (i,o) zAb
    have h2:o=aV x X.nms:=h2
    subst h2
    obtain ⟨v,_,G,_⟩:=I.letgo (ev:=true) h1 hx
    obtain ⟨W',e,G'⟩:=Inv.letgoN r _ _ hr G.inv
    rw [kt,hx]
    exact ⟨W',e,G.trans G'⟩
theorem IsTraced.over {z:Bool} {C:Cx} {W:Wd} {c:Str} {v:Value} {h':Heap} {tk:Nat} {wr:List Addr} (t:IsTraced z C W c v) (hw:∀ b ∈ wr,W.tmp b) (k:∀ b o,b ∉ wr->W.h.get? b=some o->h'.get? b=some o):IsTraced z C (W.over h' tk wr) c v:=by
 have lo:∀ {b},Loose C W b->Loose C (W.over h' tk wr) b:=fun l=>⟨l.st,l.fr.oth,fun q=>l.fr.tmp q.1,l.fr.fr⟩
 have nw:∀ {b},Loose C W b->b ∉ wr:=fun l q=>l.fr.tmp (hw _ q)
 cases t with
 | mk l lT x t=>exact .mk (lo l) (lo lT) ⟨k _ _ (nw l) x.obj,x.is,x.dat,x.ctx⟩ ⟨t.at1,t.ne,k _ _ (nw lT) t.obj,t.exo,t.dat,t.fl⟩
theorem hasN_of {x:Str} {sc:Sc} (h:sc.lookup x=some .cell ∨ sc.lookup x=some .free):fH sc x=true:=by
 unfold fH; rw [bK]
 rcases h with z | z <;> rw [z] <;> rfl
theorem dComp_ok {caps:List (Nat × Nat)} {k:Tg} {tst:Option (Mine.D AV)} {delt:Mine.D AV} {l vs:List AV} {S S':Mine.S} (e:cg k tst delt (dY caps S.loc) l S.st=.ok vs S'):cQ caps k tst delt l S=.ok vs ⟨letGo caps S.loc,S'.st⟩:=by unfold cQ; rw [e]
theorem dComp_exc {caps:List (Nat × Nat)} {k:Tg} {tst:Option (Mine.D AV)} {delt:Mine.D AV} {l:List AV} {c:Str} {S S':Mine.S} (e:cg k tst delt (dY caps S.loc) l S.st=.exc c S'):cQ caps k tst delt l S=.exc c ⟨letGo caps S.loc,S'.st⟩:=by unfold cQ; rw [e]
structure CompDone (X:Fx) (W₀:Wd) (o:Out (List AV)) (a D:Addr) (vs:List AV) (S:Mine.S) (W:Wd):Prop where
 eq:o=.ok vs S
 good:Good X true W₀ S W
 own:W.own none=some a
 rep:CRep X.C W W.h a (.lst vs)
 tmp:W.tmp D
 new:W₀.h.get? D=none
 ns:∃ m,W.h.Ns D m
theorem comp_main (F:X.Ok) (hq:X.T.free=true) {elt iter:Expr} {ifs:List Expr} {t:Expr} {t':Tg} {scope:Scope} {p:Pos} {tst:Option (Mine.D AV)} {delt:Mine.D AV} {cl:List (Str × Addr)} {use:Option (Value->Sem Unit)} {l:List AV} {S₁:Mine.S} {v:Value} (hk:scope.kind=.function) (hok:scOk X.nms scope.names=true) (ht:∀ Y:Fx,Y.nms=scope.names->TgOk Y t t')
  (ht':∀ Y:Fx,Y.Ok->Y.T=X.T->Y.nms=scope.names->TstOk Y ifs tst) (he:∀ Y:Fx,Y.Ok->Y.T=X.T->Y.nms=scope.names->SndE Y elt delt)
  (hcl:∀ x c,cl.lookup x=some c->X.env.cells.lookup x=some c/\(x,NameKind.free) ∈ scope.names) (hclx:∀ x,(x,NameKind.free) ∈ scope.names->∃ c,cl.lookup x=some c) (hlen:l.length<=sizeLine)
  (GA:Good X true W₀ S₁ W) (hit:∀ (Q E:Value->Shared->Prop),(∀ I fp wr St Mid h' tk,IterS X.C X.A W₀.h W false I fp wr l St Mid->Ge W.h h'->St 0 h'->Q (.ref I) { W.s with heap:=h',toks:=tk })->wpAny X.C.M X.A (pyIter v) Q E W.s)
  (hne:cQ (bo X.nms scope.names) t' tst delt l S₁ ≠ .stuck) {Q E:Value->Shared->Prop}
  (hQ:∀ a D vs SA WB,CompDone X W₀ (cQ (bo X.nms scope.names) t' tst delt l S₁) a D vs SA WB->compPost X.C.M X.A E use Q (.ref a) D (.ok .next) WB.s)
  (hE:∀ e s',ErP X true W₀ (cQ (bo X.nms scope.names) t' tst delt l S₁) e s'->E e s') :
  wpAny X.C.M X.A (pyIter v) (fun it s₂=>wpAny X.C.M X.A (newList []) (fun acc sA =>
   wpAny X.C.M X.A (newFunctionEnv scope X.env.globals cl [] X.env.qual none .none (some X.env)) (fun cenv s₄ =>
    codeAny X.C.M X.A (.compStart (.ListComp elt [⟨t,iter,ifs,0⟩] scope p) 0 it acc { cenv with scope:=relabel scope X.env }) (compPost X.C.M X.A E use Q acc cenv.locals) s₄) E sA) E s₂) E W.s:=by
 obtain ⟨hcell,hloc,hfree⟩:=kR hok
 refine hit _ _ fun I fp wr St Mid h₂ tk It g₂ st0=>?_
 have hcaps:∀ q ∈ bo X.nms scope.names,∃ x,fH X.nms x=true/\q.2=aV x X.nms:=fun q hq=>by
  obtain ⟨x,h1,rfl⟩:=k7 hq
  exact ⟨x,hasN_of (hfree _ h1 rfl).1,rfl⟩
 obtain ⟨Wl,eWl,Gl⟩:=GA.inv.letgoN (bo X.nms scope.names) _ _ hcaps
 have ehl:Wl.h=W.h:=by show Wl.s.heap=_; rw [eWl]
 refine zBn (wpAny_newFunctionEnv hcell (by intro y hy; simp at hy) (fun h₄ hns₄ hsb₄=>?_) hk)
 dsimp only at hns₄ hsb₄ ⊢
 generalize hH3:h₂.push { cls:=.type "list",dict:=none,data:=.seq ([]:List Value).toArray }=H3 at hns₄ hsb₄ ⊢
 have hsz3:H3.objs.size=h₂.objs.size+1:=by rw [← hH3,zBj]
 generalize hD:H3.objs.size=D at hns₄ hsb₄ ⊢
 generalize ha:h₂.objs.size=a at hsz3 ⊢
 have haD:a ≠ D:=by rw [← hD,hsz3]; exact zA5 (zCt _)
 have ext:Ge h₂ h₄:=fun b o e=>hsb₄.extBut b o (by rw [← hD,hsz3,← ha]; exact zA5 (zBd (zAz e))) (zAg _ (hH3 ▸ zAg _ e))
 have hal:h₄.PlainList a #[]:=⟨_,hsb₄.extBut _ _ haD (zAg _ (hH3 ▸ ha ▸ zAp _ rfl))⟩
 have g₄:Ge Wl.susp.h h₄:=fun b o e=>ext b o (g₂ b o (ehl ▸ e))
 have n0:∀ {b},h₂.get? b=none->Wl.h.get? b=none:=fun {b} h=>by
  cases e:Wl.h.get? b with
  | none=>rfl
  | some o=>exact (aD (g₂ b o (ehl ▸ e)) h).elim
 have ha0:Wl.h.get? a=none:=n0 (ha ▸ get?_size)
 have hD0:Wl.h.get? D=none:=n0 (zCo (by rw [← hD,hsz3,← ha]; exact zDc _))
 have hwe:∀ b ∈ wr,∃ o,h₂.get? b=some o:=fun b q=>(It.ex 0 h₂ st0 b q).imp fun _ z=>z.1
 have haw:a ∉ wr:=fun q=>(hwe a q).elim fun _ z=>aD z (ha ▸ get?_size)
 have hDw:D ∉ wr:=fun q=>(hwe D q).elim fun _ z=>aD z (zCo (by rw [← hD,hsz3,← ha]; exact zDc _))
 have haf:a ∉ fp:=fun q=>(It.fps a q haw).elim fun _ z=>aD z.1 (ehl ▸ ha0)
 have hw0:∀ b ∈ a::wr,Wl.h.get? b=none:=fun b q=>(zAl.mp q).elim (fun z=>z ▸ ha0) fun z=>ehl ▸ It.wr0 rfl b z
 have hDo:∃ o,h₄.get? D=some o/\∀ vs,o.data ≠ .fields vs:=by obtain ⟨o,es,ep,h1,h2,_⟩:=hns₄; exact ⟨o,h1,fun vs q=>by rw [h2] at q; exact cC Data.ctorIdx q rfl⟩
 obtain ⟨xi,Ii⟩:=Gl.inv.c.susp.more (tk:=tk+([]:List (Str × Value)).length) (T:=fun b=>b ∈ a::wr) (N:=fun b=>b=D) g₄ (fun b q=>⟨hw0 b q,(zAl.mp q).elim (fun z=>z ▸ hal.elim fun _ e=>⟨_,e⟩) fun z=>(hwe b z).imp fun _ e=>ext _ _ e⟩)
  (fun b q=>q ▸ ⟨hD0,hDo⟩) fun b q z=>(zAl.mp q).elim (fun w=>haD (w ▸ z)) fun w=>hDw (z ▸ w)
 have F':=F.comp (cl:=cl) (D:=D) hk hok hcl hclx fun y c e q=>(Gl.inv.c.mus (b7 (Gl.inv.f.cells y c (hcl y c e).1).1)).elim fun _ z=>aD z (q ▸ hD0)
 generalize hWi:(⟨Wl.susp.labs,Wl.susp.own,fun b=>Wl.susp.tmp b ∨ b ∈ a::wr,fun b=>Wl.susp.fr b ∨ b=D,{ Wl.susp.s with heap:=h₄,toks:=tk+([]:List (Str × Value)).length }⟩:Wd)=Wi at xi Ii
 have eWi:Wi.s={ W.s with heap:=h₄,toks:=tk+([]:List (Str × Value)).length }:=by rw [← hWi]; show ({ Wl.s with heap:=h₄,toks:=_ }:Shared)=_; rw [eWl]
 have ehi:Wi.h=h₄:=by show Wi.s.heap=_; rw [eWi]
 have gli:Grow Wl Wi:=Grow.susp.trans xi.grow
 have nmu:∀ b o,Wl.h.get? b=some o->¬ (false=false/\(X.comp scope cl D).mu b):=fun b o e q=>q.2.elim (fun z=>aD e (z ▸ hD0)) fun z=>nomatch z.1
 have Iin:Inv (X.comp scope cl D) ⟨[],S₁.st⟩ Wi:=by
  refine ⟨Ii,⟨?_,⟨fun x=>([]:List (Str × Value)).reverse.lookup x,?_⟩,fun y c e=>⟨?_,?_⟩,fun y lv _ e=>nomatch e⟩⟩
  ·rw [← hWi]; exact .inr rfl
  ·rw [ehi]; exact hns₄
  ·rw [← hWi]; exact .inl (Gl.inv.f.cells y c (hcl y c e).1).1
  ·exact (Gl.inv.f.cells y c (hcl y c e).1).2.imp fun _ r=>IsCell.same r fun o q=>⟨o,by rw [ehi]; exact g₄ _ _ q,rfl⟩
 have hcap:CapOk (X.comp scope cl D) Wi (dY (bo X.nms scope.names) S₁.loc):=fun y lv hny e=>by
  obtain ⟨z,v',hm,rfl,hg⟩:=mx _ _ _ _ e
  have hm2:=List.mem_map_of_mem (f:=(·.2)) hm
  obtain ⟨y',hmf,hxy⟩:=k7 hm
  have hy':aV y' scope.names=aV y scope.names:=(congrArg Prod.fst hxy).symm
  have hz:z=aV y' X.nms:=congrArg Prod.snd hxy
  obtain rfl:=fb hny hy'
  obtain ⟨c,hc⟩:=hclx y' hmf
  have hval:aq (aV y' X.nms) (letGo (bo X.nms scope.names) S₁.loc)=some (.val v'):=by
   rw [← hz]
   rcases hg with q | q
   ·exact (ef _ _ _ _).1 q
   ·exact (ef _ _ _ _).2 q hm2
  obtain ⟨u,hu,hrep⟩:=Gl.inv.f.vars y' _ (hasN_of (hfree _ hmf rfl).1) hval
  have hrep:VRep X.C Wl v' u:=hrep
  refine ⟨c,u,v',iD (hfree _ hmf rfl).2,hc,?_,rfl,hrep.mono gli⟩
  cases hu with
  | loc k n e=>rcases (F.cel y' (hfree _ hmf rfl).1).1 with q | q <;> rw [k] at q <;> cases q
  | cell k l' e =>
   rw [(hcl y' c hc).1] at l'; cases l'
   exact IsCell.same e fun o q=>⟨o,by rw [ehi]; exact g₄ _ _ q,rfl⟩
 have C0:CompAt (X.comp scope cl D) Wl.susp Wi (dY (bo X.nms scope.names) S₁.loc) a wr St 0 ⟨[],S₁.st⟩ Wi [] #[] :=
  ⟨⟨xi.weak fun _ q=>q.elim,Iin⟩,⟨id,fun e _ _=>e,fun _ f=>f,fun e _ x=>⟨_,e,x,rfl⟩⟩,fun b q=>by rw [← hWi]; exact .inr q,by rw [ehi]; exact It.frame 0 h₂ h₄ st0 fun b _ o e=>ext b o e,by rw [ehi]; exact hal,zBa _,.nil,hcap⟩
 have hneC:cg t' tst delt (dY (bo X.nms scope.names) S₁.loc) l S₁.st ≠ .stuck:=fun q=>hne (by unfold cQ; rw [q])
 have loop:codeAny X.C.M X.A (.compLoop (.ListComp elt [⟨t,iter,ifs,0⟩] scope p) 0 (.ref I) (.ref a) (compEnvC scope cl D X.env)) (compPost X.C.M X.A E use Q (.ref a) D) Wi.s:=by
  refine nM (X:=X.comp scope cl D) (B:=Wl.susp) F' hq rfl (ht _ rfl) (ht' _ F' rfl rfl) (he _ F' rfl rfl) It hw0 haw haf (Gl.ext.grow.trans gli) C0 hlen hneC fun r s' hp=>?_
  cases hp with
  | @ok vs S' S'' We ys e es g h li sz r =>
   have hDe:We.fr D:=(g.inv.f.lc:We.fr _)
   obtain ⟨G',gr'⟩:=Gl.inv.backR (r:=some a) g.ext nmu g.inv.c (fun b q=>Option.some.inj q ▸ ⟨h,ha0⟩) hDe hD0
   refine hQ a D vs ⟨letGo (bo X.nms scope.names) S₁.loc,S''.st⟩ (Wl.backR We (some a) D) ⟨dComp_ok e,(GA.trans Gl).trans (es ▸ G'),bT (own:=Wl.own) (k:=none) (a:=some a),?_,.inr rfl,?_,g.inv.f.ns⟩
   ·exact li.elim fun n ho=>⟨ys,n,ho,sz,r.mono gr'⟩
   ·cases e₀:W₀.h.get? D with
    | none=>rfl
    | some o=>exact ((GA.trans Gl).ext.dom e₀).elim fun _ q=>(aD q hD0).elim
  | @exc c S' S'' We v e es g t =>
   obtain ⟨m,hm⟩:=g.inv.f.ns
   refine ⟨m,hm,fun h' hs cenv' _=>?_⟩
   have hDe:We.fr D:=(g.inv.f.lc:We.fr _)
   obtain ⟨G',gr'⟩:=Gl.inv.backR (r:=none) g.ext nmu g.inv.c nofun hDe hD0
   have hk':∀ b o,b ∉ [D]->We.h.get? b=some o->h'.get? b=some o:=fun b o hb q=>(hs.2 b fun z=>hb (zAf.mpr z)).trans q
   have hw':∀ b ∈ [D],Wl.h.get? b=none/\(Wl.backR We none D).tmp b:=fun b q=>by obtain rfl:=zAf.mp q; exact ⟨hD0,.inr rfl⟩
   have GB:=(G'.over (tk:=We.s.toks) hw' hk').1
   refine m7 (.refl GB.inv) ((t.grow gr' rfl).over (fun b q=>(hw' b q).2) hk') fun W'' G'' t''=>hE _ _ (.mk (S:=⟨letGo (bo X.nms scope.names) S₁.loc,S''.st⟩) (dComp_exc e) (((GA.trans Gl).trans GB).trans (es ▸ G'')) (.yes t''))
 rw [← eWi]
 exact codeAny_compStart_list loop (It.self 0 _ _ _ (by show St 0 Wi.h; rw [ehi]; exact It.frame 0 h₂ h₄ st0 fun b _ o e=>ext b o e) loop)
end
section
variable {X:Fx} {W W' W₀:Wd} {S:S}
theorem CompDone.over {o:Out (List AV)} {a D:Addr} {vs:List AV} {SA:Mine.S} (x:CompDone X W₀ o a D vs SA W) {h':Heap} (hs:Heap.SameBut D W.h h'):Good X true W₀ SA (W.over h' W.s.toks [D])/\CRep X.C (W.over h' W.s.toks [D]) h' a (.lst vs):=by
 have hk:∀ b o,b ∉ [D]->W.h.get? b=some o->h'.get? b=some o:=fun b o hb q=>(hs.2 b fun z=>hb (zAf.mpr z)).trans q
 obtain ⟨G,gr⟩:=x.good.over (tk:=W.s.toks) (wr:=[D]) (fun b q=>by obtain rfl:=zAf.mp q; exact ⟨x.new,x.tmp⟩) hk
 exact ⟨G,x.rep.mono gr fun o _ e=>hk a o (fun q=>(x.good.inv.c.ol _ _ x.own).2 (zAf.mp q ▸ x.tmp)) e⟩
structure CompE (X:Fx) (scope:Scope) (t:Expr) (t':Tg) (elt iter:Expr) (ifs:List Expr) (tst:Option (D AV)) (delt dit:D AV):Prop where
 set:∀ a b c,iter ≠ .Set a b c
 kind:scope.kind=.function
 ok:scOk X.nms scope.names=true
 free:X.T.free=true
 tgt:∀ Y:Fx,Y.nms=scope.names->TgOk Y t t'
 it:SndI X iter dit
 tst:∀ Y:Fx,Y.Ok->Y.T=X.T->Y.nms=scope.names->TstOk Y ifs tst
 elt:∀ Y:Fx,Y.Ok->Y.T=X.T->Y.nms=scope.names->SndE Y elt delt
theorem asL_ne {β:Type} {tb:Bool} {l:List AV} {f:List AV->D β} (h:asL (itA tb l) f S ≠ .stuck):tb=false:=by
 cases tb with
 | false=>rfl
 | true=>exact absurd rfl h
theorem ite_ne {α:Type} {p:Prop} [Decidable p] {d:D α} (h:(if p then d else stk) S ≠ .stuck):p/\(if p then d else stk)=d:=by
 by_cases q:p
 ·exact ⟨q,if_pos q⟩
 ·rw [if_neg q] at h; exact absurd rfl h
theorem mi (F:X.Ok) {scope:Scope} {t:Expr} {t':Tg} {p:Pos} {elt iter:Expr} {ifs:List Expr} {tst:Option (D AV)} {delt dit:D AV} {use:Option (Value->Sem Unit)} (K:CompE X scope t t' elt iter ifs tst delt dit) (I:Inv X S W) (hne:c9 (bo X.nms scope.names) t' tst delt dit S ≠ .stuck) {Q E:Value->Shared->Prop}
  (hQ:∀ a D vs SA WB o,c9 (bo X.nms scope.names) t' tst delt dit S=.ok (.lst vs) SA->CompDone X W o a D vs SA WB->compPost X.C.M X.A E use Q (.ref a) D (.ok .next) WB.s)
  (hE:∀ e s',ErP X true W (c9 (bo X.nms scope.names) t' tst delt dit S) e s'->E e s') {pos:Pos} :
  wpAny X.C.M X.A (comprehension (.ListComp elt [⟨t,iter,ifs,0⟩] scope p) scope X.env pos (newList []) false (eval iter X.env) use) Q E W.s:=by
 obtain ⟨hcell,hloc,hfree⟩:=kR K.ok
 obtain ⟨cl,hclos,hcl,hclx⟩:=oL (scope:=scope) (env:=X.env) fun q hq hf=>(F.cel q.1 (hfree q hq hf).1).2
 refine wpAny_comprehension_free (g:=⟨t,iter,ifs,0⟩) (gs:=[]) rfl (iI K.set) hclos K.kind (fun x hx hl=>hloc x hx hl) ?_
 have hne:ax (dit S) (fun v=>asL v fun l=>if l.length<=sizeLine then aH (cQ (bo X.nms scope.names) t' tst delt l) fun vs=>opt (bD vs) else stk) ≠ .stuck:=hne
 have hE:∀ e s',ErP X true W (ax (dit S) (fun v=>asL v fun l=>if l.length<=sizeLine then aH (cQ (bo X.nms scope.names) t' tst delt l) fun vs=>opt (bD vs) else stk)) e s'->E e s':=hE
 refine zAs (K.it S W I fun q=>hne (by rw [q]; rfl)) (fun v s₁ q=>?_) fun e s₁ q=>?_
 ·cases q with
  | @mk a S₁ WA e₁ GA rA =>
  obtain ⟨tb,l,rfl,hit⟩:=rA
  rw [e₁] at hne hE
  have hQ:∀ a D vs SA WB o,ax (dit S) (fun v=>asL v fun l=>if l.length<=sizeLine then aH (cQ (bo X.nms scope.names) t' tst delt l) fun vs=>opt (bD vs) else stk)=.ok (.lst vs) SA->CompDone X W o a D vs SA WB->compPost X.C.M X.A E use Q (.ref a) D (.ok .next) WB.s:=hQ
  rw [e₁] at hQ
  obtain rfl:=asL_ne hne
  have hne:(if l.length<=sizeLine then aH (cQ (bo X.nms scope.names) t' tst delt l) fun vs=>opt (bD vs) else stk) S₁ ≠ .stuck:=hne
  obtain ⟨hlen,ei⟩:=ite_ne hne
  have hE:∀ e s',ErP X true W ((if l.length<=sizeLine then aH (cQ (bo X.nms scope.names) t' tst delt l) fun vs=>opt (bD vs) else stk) S₁) e s'->E e s':=hE
  have hQ:∀ a D vs SA WB o,(if l.length<=sizeLine then aH (cQ (bo X.nms scope.names) t' tst delt l) fun vs=>opt (bD vs) else stk) S₁=.ok (.lst vs) SA->CompDone X W o a D vs SA WB->compPost X.C.M X.A E use Q (.ref a) D (.ok .next) WB.s:=hQ
  rw [ei] at hE hQ hne
  have hnd:cQ (bo X.nms scope.names) t' tst delt l S₁ ≠ .stuck:=fun q=>hne (by show ax _ _=_; rw [q]; rfl)
  refine comp_main F K.free K.kind K.ok K.tgt K.tst K.elt hcl hclx hlen GA hit hnd (fun a D vs SA WB d=>hQ a D vs SA WB _ ?_ d) fun e s' q=>hE e s' ?_
  ·have hne:ax (cQ (bo X.nms scope.names) t' tst delt l S₁) (fun vs=>opt (bD vs)) ≠ .stuck:=hne
   show ax (cQ (bo X.nms scope.names) t' tst delt l S₁) (fun vs=>opt (bD vs))=_
   rw [d.eq] at hne ⊢
   have hne:opt (bD vs) SA ≠ .stuck:=hne
   show opt (bD vs) SA=_
   cases hm:bD vs with
   | none=>rw [hm] at hne; exact absurd rfl hne
   | some b=>obtain ⟨_,rfl⟩:=dA hm; rfl
  ·cases q with
   | mk e g t=>exact .mk (by show ax _ _=_; rw [e]; rfl) g t
 ·cases q with
  | mk e g t=>exact hE _ _ (.mk (by rw [e]; rfl) g t)
theorem snd_comp (F:X.Ok) {scope:Scope} {t:Expr} {t':Tg} {p:Pos} {elt iter:Expr} {ifs:List Expr} {tst:Option (D AV)} {delt dit:D AV} (K:CompE X scope t t' elt iter ifs tst delt dit):SndM X (.ListComp elt [⟨t,iter,ifs,0⟩] scope p) (c9 (bo X.nms scope.names) t' tst delt dit):=fun S W I hne=>by
 rw [eval_ListComp]
 refine mi (use:=none) F K I hne (fun a D vs SA WB o e d=>d.ns.imp fun m hm=>⟨hm,fun h' hs=>?_⟩) fun _ _ q=>q
 obtain ⟨G,r⟩:=d.over hs
 exact .mk (W':=WB.over h' WB.s.toks [D]) e G (.new rfl rfl d.own r)
theorem swaps_comp {elt:Expr} {gens:List Comprehension} {scope:Scope} {p p':Pos} {x:Str} {ln:Nat} {env:Env}:∃ b,swapsWith (.ListComp elt gens scope p) (some (.Name x p')) ln env=Pure.pure b:=⟨_,rfl⟩
theorem jD (F:X.Ok) {x:Str} {t:Expr} {t':Tg} {p' pos p:Pos} {elt iter:Expr} {scope:Scope} {ifs:List Expr} {tst:Option (D AV)} {delt dit:D AV} (hst:j4 X.nms x=true) (K:CompE X scope t t' elt iter ifs tst delt dit) :
  cT X (.Assign [.Name x p'] (.ListComp elt [⟨t,iter,ifs,0⟩] scope p) pos) (aT (aV x X.nms) (c9 (bo X.nms scope.names) t' tst delt dit)):=fun hf S W I=>by
 obtain ⟨b,hb⟩:=swaps_comp (elt:=elt) (gens:=[⟨t,iter,ifs,0⟩]) (scope:=scope) (p:=p) (p':=p') (x:=x) (ln:=pos.line) (env:=X.env)
 cases b with
 | false=>exact gi F hb hst (snd_comp F K) hf S W I
 | true =>
  intro hne
  have hne:ax (c9 (bo X.nms scope.names) t' tst delt dit S) (fun a=>aH (gI (aV x X.nms) (oz true a)) fun _=>af Fl.next) ≠ .stuck:=hne
  show wpAny _ _ _ (OkP X false (RF X) W (ax (c9 (bo X.nms scope.names) t' tst delt dit S) (fun a=>aH (gI (aV x X.nms) (oz true a)) fun _=>af Fl.next))) (ErP X false W (ax (c9 (bo X.nms scope.names) t' tst delt dit S) (fun a=>aH (gI (aV x X.nms) (oz true a)) fun _=>af Fl.next))) _
  rw [exec_Assign_Name_used (hs:=hb)]
  refine zAa (zCr (zAa ?_))
  show wpAny _ X.A (do let _ ← comprehension (.ListComp elt [⟨t,iter,ifs,0⟩] scope p) scope X.env _ (newList []) false (eval iter X.env) (some (assign (.Name x p') X.env))) _ _ W.s
  refine zAa (zAs (mi (Q:=fun _ s'=>OkP X false (RF X) W (ax (c9 (bo X.nms scope.names) t' tst delt dit S) (fun a=>aH (gI (aV x X.nms) (oz true a)) fun _=>af Fl.next)) Flow.next s') F K I (fun q=>hne (by rw [q]; rfl)) (fun a D vs SA WB o e d=>?_) fun e s' q=>?_) (fun _ s' hq=>zAh (zAh hq)) fun _ _ e=>e)
  ·refine wpAny_assign_Name (zAs (i8 F d.good.inv (kr hf hst) d.own d.rep nofun) (fun _ s'' q=>?_) fun _ _ q=>by cases q with | mk e _ _=>exact cC Out.ctorIdx e rfl)
   cases q with
   | @mk u SB WC e₃ GC _ =>
   cases e₃
   obtain ⟨m,hm⟩:=d.ns
   obtain ⟨o',es,ep,h1,h2,h3⟩:=hm
   have hoD:WB.oth D/\¬ WB.fr D:=⟨⟨d.good.inv.c.tl D d.tmp,fun k z=>(d.good.inv.c.ol k D z).2 d.tmp⟩,fun z=>(d.good.inv.c.fl D z).2.1 d.tmp⟩
   have hpl:Pln o':=fun z=>z.dat.elim fun _ z=>by rw [h2] at z; exact cC Data.ctorIdx z rfl
   refine ⟨m,⟨o',es,ep,GC.ext.keep h1 hoD.1 hoD.2 hpl,h2,h3⟩,fun h' hs=>?_⟩
   have G:=(d.good.weak.trans GC).over (tk:=WC.s.toks) (wr:=[D]) (h':=h') (fun b q=>by obtain rfl:=zAf.mp q; exact ⟨d.new,(GC.ext.tmp h1 hoD.1).mpr d.tmp⟩) fun b o hb q=>(hs.2 b fun z=>hb (zAf.mpr z)).trans q
   exact .mk (W':=WC.over h' WC.s.toks [D]) (by rw [e]; rfl) G.1 (show RF X _ .next .next from trivial)
  ·cases q with
   | mk e g t=>exact .mk (by rw [e]; rfl) g.weak t
end
noncomputable def setS (k:Str):List Str->List Str
 | []=>[k]
 | x::r=>if k=x then x::r else x::setS k r
noncomputable def setW (k:Str) (v:Value):List Str->List Value->List Value
 | x::xs,w::ws=>if k=x then v::ws else w::setW k v xs ws
 | _,_=>[v]
theorem on {k x:Str} {r:List Str}:setS k (x::r)=if k=x then x::r else x::setS k r:=rfl
theorem setW_c {k x:Str} {v w:Value} {r:List Str} {ws:List Value}:setW k v (x::r) (w::ws)=if k=x then v::ws else w::setW k v r ws:=rfl
theorem jZ {k:Str} {v:Value}:∀ {ss:List Str} {ws:List Value},ss.length=ws.length->(setS k ss).length=(setW k v ss ws).length/\(setW k v ss ws).length<=ws.length+1
 | [],[],_=>⟨rfl,zAy _⟩
 | [],_::_,h=>nomatch h
 | _::_,[],h=>nomatch h
 | x::ss,w::ws,h=>by
  have h':ss.length=ws.length:=Nat.succ.inj h
  have ih:=jZ (k:=k) (v:=v) h'
  rw [on,setW_c]
  by_cases hx:k=x
  ·rw [if_pos hx,if_pos hx]; exact ⟨congrArg Nat.succ h',zDc _⟩
  ·rw [if_neg hx,if_neg hx]; exact ⟨congrArg Nat.succ ih.1,zBc ih.2⟩
theorem mem_setS {k y:Str}:∀ {ss:List Str},y ∈ setS k ss->y=k ∨ y ∈ ss
 | [],h=>.inl (zAf.mp h)
 | x::r,h=>by
  rw [on] at h
  split at h
  ·exact .inr h
  ·rcases zAl.mp h with rfl | h
   ·exact .inr zAb
   ·exact (mem_setS h).imp id fun q=>zAc _ q
theorem map_same {k:Str} {v:Value}:∀ {ss:List Str} {ws:List Value},k ∉ ss->(ss.zip ws).map (fun kv=>if kv.1=k then (kv.1,v) else kv)=ss.zip ws
 | [],_,_=>rfl
 | _::_,[],_=>rfl
 | x::ss,w::ws,h=>by
  rw [zBo,zA6,map_same (fun q=>h (zAc _ q)),if_neg (fun (q:x=k)=>h (by rw [q]; exact zAb))]
theorem lj {k:Str} {v:Value}:∀ {ss:List Str} {ws:List Value},ss.length=ws.length->ss.Nodup->stored (ss.zip ws) k v=(setS k ss).zip (setW k v ss ws)
 | [],[],_,_=>rfl
 | [],_::_,h,_=>nomatch h
 | _::_,[],h,_=>nomatch h
 | x::ss,w::ws,h,hn=>by
  have h':ss.length=ws.length:=Nat.succ.inj h
  obtain ⟨hx',hn'⟩:=zBp.mp hn
  have ih:=lj (k:=k) (v:=v) h' hn'
  rw [on,setW_c]
  by_cases hx:k=x
  ·subst hx
   rw [if_pos rfl,if_pos rfl]
   unfold stored
   rw [zBo,if_pos (by simp),zA6,map_same hx',if_pos rfl]
   rfl
  ·rw [if_neg hx,if_neg hx,zBo,zBo,← ih]
   have hx2:¬ x=k:=fun q=>hx q.symm
   unfold stored
   rw [List.any_cons,show decide ((x,w).1=k)=false from decide_eq_false hx2,Bool.false_or]
   split
   ·rw [zA6,if_neg hx2]
   ·rfl
theorem setS_str {k:Str}:∀ {ss:List Str},(setS k ss).map AV.str=bX (.str k) (ss.map .str)
 | []=>rfl
 | x::r=>by
  rw [on,zA6]
  show _=if seq k x=true then AV.str x::r.map .str else .str x::bX (.str k) (r.map .str)
  by_cases hx:k=x
  ·subst hx; rw [if_pos rfl,fi,if_pos rfl,zA6]
  ·have e1:seq k x=false:=by rw [dn]; exact beq_eq_false_iff_ne.mpr hx
   rw [if_neg hx,e1,if_neg zAn,zA6,setS_str]
theorem wp_setAt {prog:Program} {w:World} {A:Around} {E:Value->Shared->Prop} {s:Shared} {l:Addr} {items:Array Value} {m:Nat} {k:Int} {t:Tok} {v:Value} {Q:Unit->Shared->Prop}
  (ho:s.heap.get? l=some { cls:=.type "list",data:=.seq items m }) (h0:0<=k) (hfit:k < 2 ^ 63) (hn:k < items.size)
  (hQ:∀ h',h'.PlainList l (items.setIfInBounds k.toNat v)->Heap.SameBut l s.heap h'->Q () { s with heap:=h' }):wpAny (model prog w) A (setItem (.ref l) (.int k t) v) Q E s:=by
 have hl:s.heap.IsList l items:=⟨_,ho,rfl,m,rfl⟩
 have hfin:(s.heap.update l (Obj.mapSeq (·.setIfInBounds k.toNat v))).PlainList l (items.setIfInBounds k.toNat v):=⟨_,IsL.update ho _⟩
 unfold setItem
 try with_reducible refine zA2 ?_
 refine zAa (wpAny_sequenceKey hl.typeIs (by decide) ?_)
 refine zAa (wpAny_callSpecial?_slot (name:=Str.ofString "__setitem__") hl.typeIs slot_list_setitem (zCv slot_list_setitem hl.typeIs entry_list_setitem ?_ (args_list_setitem _ _ _)))
 show wpAny _ _ (Builtin.List.listSubscript? (.int k t) >>= _) _ _ s
 refine zAa (wpAny_listSubscript_int (fitsIndex_of h0 hfit) ?_)
 clear hfit
 obtain ⟨j,rfl⟩:=zB1 h0
 have hj:j < items.size:=by lia
 show wpAny _ _ ((seqItemAt l j >>= fun r=>pure (r.map (j,·))) >>= _) _ _ s
 refine zAa (zAa (wpAny_seqItemAt ho rfl (zAh ?_)))
 rw [zCq hj]
 show wpAny _ _ (setSeqItemAt l j v >>= _) _ _ s
 refine zAa (wpAny_setSeqItemAt ho rfl ?_)
 first
  | exact zAa (zAh (zAh ⟨.none,rfl,zAh (hQ _ hfin (Heap.SameBut.update ..))⟩))
  | exact zAh ⟨.none,rfl,zAh (hQ _ hfin (Heap.SameBut.update ..))⟩
section
variable {C:Cx} {X:Fx} {frs:List Env} {mu:Addr->Prop} {W:Wd} {st st':St} {S:S} {h':Heap} {tk:Nat} {ad:Addr}
structure ModA (W:Wd) (ad:Addr) (h':Heap):Prop where
 ours:¬ W.oth ad
 same:∀ b o,b ≠ ad->W.h.get? b=some o->h'.get? b=some o
 hat:∃ o,h'.get? ad=some o
theorem ModA.ne (m:ModA W ad h') {b:Addr} (h:W.oth b):b ≠ ad:=fun q=>m.ours (q ▸ h)
theorem ModA.grow (m:ModA W ad h'):Grow W (W.to h' tk):=⟨id,fun e f _=>m.same _ _ (m.ne f.oth) e,fun _ f=>f,fun e f x=>⟨_,m.same _ _ (m.ne f.oth) e,x,rfl⟩⟩
theorem ModA.ext (m:ModA W ad h') (I:InvC C frs W st):Ext mu W (W.to h' tk) where
 dom:=fun {b o} e=>by
  by_cases hb:b=ad
  ·exact hb ▸ m.hat
  ·exact ⟨o,m.same b o hb e⟩
 labs:=⟨[],(zAt _).symm,fun _ q=>nomatch q⟩
 own:=fun q=>.own (W:=W) q
 tmp:=fun _ _=>.rfl
 fr:=fun _=>.rfl
 keep:=fun e h _ _=>m.same _ _ (m.ne h) e
 exo:=fun e h _ x=>⟨_,m.same _ _ (m.ne h) e,x,rfl⟩
 fc:=fun e h _=>⟨_,m.same _ _ (m.ne (I.fl _ h).1) e,rfl⟩
theorem InvC.modA (I:InvC C frs W st) (m:ModA W ad h') (hl:st'.length=st.length) (ho:∀ (k:Nat) (o:AO),st'[k]?=some o->∃ a,W.labs[k]?=some a/\((a=ad/\ORep C (W.to h' tk) a o) ∨ (a ≠ ad/\ORep C W a o))):InvC C frs (W.to h' tk) st' where
 sh:=I.sh.elim fun h q=>q.elim fun t e=>⟨h',tk,by show ({ W.s with heap:=h',toks:=tk }:Shared)=_; rw [e]⟩
 stat:=fun b o e=>m.same b o (fun q=>m.ours ⟨fun z=>aD e (I.lo b (nf_lab (q ▸ z))).1,fun k z=>aD e (I.lo b (fV (q ▸ z))).1⟩) (I.stat b o e)
 lo:=fun b h=>⟨(I.lo b h).1,(I.lo b h).2.elim fun _ e=>(m.ext (mu:=fun _=>False) (tk:=tk) I).dom e⟩
 nd:=I.nd
 ol:=I.ol
 oi:=I.oi
 tl:=I.tl
 fl:=fun b q=>⟨(I.fl b q).1,(I.fl b q).2.1,fun o vs e=>(I.mus (b7 q)).elim fun o' z=>(I.fl b q).2.2 o vs (z.trans ((m.same _ _ (m.ne (I.fl b q).1) z).symm.trans e))⟩
 frs:=I.frs
 len:=hl.trans I.len
 objs:=fun k o e=>(ho k o e).imp fun a q=>⟨q.1,q.2.elim (fun z=>z.2) fun z=>z.2.mono m.grow fun o _=>m.same a o z.1⟩
theorem get_inj:∀ {l:List Addr},l.Nodup->∀ {i j:Nat} {a:Addr},l[i]?=some a->l[j]?=some a->i=j
 | [],_,_,_,_,h1,_=>by simp at h1
 | _::_,_,0,0,_,_,_=>rfl
 | _::_,h,0,_+1,_,h1,h2=>by
   cases h1; exact absurd (zBq (by simpa using h2)) (zBp.mp h).1
 | _::_,h,_+1,0,_,h1,h2=>by
   cases h2; exact absurd (zBq (by simpa using h1)) (zBp.mp h).1
 | _::_,h,i+1,j+1,_,h1,h2=>by
   rw [get_inj (zBp.mp h).2 (i:=i) (j:=j) (by simpa using h1) (by simpa using h2)]
theorem ModA.fc (m:ModA W ad h') (I:Inv X S W):dP W h' X.env.locals/\∀ y c,X.env.cells.lookup y=some c->dP W h' c:=Inv.fcSame I.f fun e h=>⟨_,m.same _ _ (m.ne (I.c.fl _ h).1) e,rfl⟩
theorem Inv.modL (I:Inv X S W) {n:Nat} (hn:W.labs[n]?=some ad) (m:ModA W ad h') {o:AO} (r:ORep X.C (W.to h' tk) ad o):Good X true W ⟨S.loc,S.st.set n o⟩ (W.to h' tk) where
 ext:=m.ext I.c
 inv:=⟨I.c.modA m (List.length_set ..) fun k q e=>by
   by_cases hk:n=k
   ·subst hk
    have hlt:n < S.st.length:=by rw [I.c.len]; exact (zA3.mp hn).1
    rw [List.getElem?_set_self hlt] at e
    cases e
    exact ⟨ad,hn,.inl ⟨rfl,r⟩⟩
   ·rw [List.getElem?_set_ne hk] at e
    exact (I.c.objs k q e).imp fun a z=>⟨z.1,.inr ⟨fun w=>hk (get_inj I.c.nd hn (w ▸ z.1)),z.2⟩⟩,
  I.f.mono m.grow (fun _ q=>q) (m.fc I).1 (m.fc I).2 fun x a q=>⟨q,fun o _ e=>m.same a o (fun z=>(I.c.ol _ _ q).1 (z ▸ b0 hn)) e⟩⟩
theorem Inv.modO (I:Inv X S W) {x:Str} (hx:fH X.nms x=true) (ho:W.own (some x)=some ad) (hv:X.Val W.h x (.ref ad)) (m:ModA W ad h') {c:AV} (r:CRep X.C (W.to h' tk) h' ad c):Good X true W ⟨ah (aV x X.nms) (.own c) S.loc,S.st⟩ (W.to h' tk) where
 ext:=m.ext I.c
 inv:=⟨I.c.modA m rfl fun k q e=>(I.c.objs k q e).imp fun a z=>⟨z.1,.inr ⟨fun w=>(I.c.ol _ _ ho).1 (w ▸ b0 z.1),z.2⟩⟩,I.f.lc,I.f.ns.imp fun _ q=>kC q (m.fc I).1,fun y c e=>⟨(I.f.cells y c e).1,(I.f.cells y c e).2.imp fun _ q=>IsCell.same q ((m.fc I).2 y c e)⟩,fun y lv hm e=>by
   by_cases hy:y=x
   ·subst hy
    rw [show aq (aV y X.nms) (ah (aV y X.nms) (LV.own c) S.loc)=some (.own c) from d9] at e
    cases e
    exact ⟨_,hv.same (m.fc I).1 (m.fc I).2,ad,rfl,ho,r⟩
   ·rw [show aq (aV y X.nms) (ah (aV x X.nms) (LV.own c) S.loc)=aq (aV y X.nms) S.loc from cI fun q=>hy (fb hx q)] at e
    exact (I.f.vars y lv hm e).imp fun _ q=>⟨q.1.same (m.fc I).1 (m.fc I).2,q.2.mono m.grow fun a z=>⟨z,fun o _ e=>m.same a o (fun w=>hy (Option.some.inj (I.c.oi _ _ _ z (w ▸ ho)))) e⟩⟩⟩
inductive ModP (X:Fx) (W:Wd) (f:AV->Option AV) (v:Value) (o:Out Unit) (d:Option AV):Prop
 | mk (ad:Addr) (c c':AV) (S':Mine.S) (e1:o=.ok () S') (e2:d=some c) (e3:v=.ref ad) (e4:f c=some c') (r:CRep X.C W W.h ad c) (h:∀ h' tk,Heap.SameBut ad W.h h'->CRep X.C W h' ad c'->Good X true W S' (W.to h' tk)/\CRep X.C (W.to h' tk) h' ad c')
set_option tactic.hygienic true in
theorem modAt_spec (I:Inv X S W) {a:AV} {v:Value} (q:RQ X W a v) {f:AV->Option AV} (hne:b8 a f S ≠ .stuck) :
  ModP X W f v (b8 a f S) (aS a S):=by
 have mk:∀ {ad c' h'},¬ W.oth ad->Heap.SameBut ad W.h h'->CRep X.C W h' ad c'->ModA W ad h':=fun ho hs hc=>⟨ho,fun b o hb e=>(hs.2 b hb).trans e,hc.obj.imp fun _ z=>z.1⟩
 have cel:∀ k,VRep X.C W (.cel k) v->(match dq S.st k with | some c=>(match f c with | some c'=>Out.ok () { S with st:=S.st.set k (.cont c') } | none=>.stuck) | none=>.stuck) ≠ .stuck ->
   ModP X W f v (match dq S.st k with | some c=>(match f c with | some c'=>Out.ok () { S with st:=S.st.set k (.cont c') } | none=>.stuck) | none=>.stuck) (dq S.st k):=fun k r hn=>by
  cases hc:dq S.st k with
  | none=>rw [hc] at hn; exact absurd rfl hn
  | some c =>
   rw [hc] at hn
   dsimp only at hn ⊢
   cases hf:f c with
   | none=>rw [hf] at hn; exact absurd rfl hn
   | some c' =>
    obtain ⟨ad,h1,h2⟩:=I.c.objs k _ (lh hc)
    obtain ⟨ad',rfl,q1⟩:=r
    obtain rfl:=Option.some.inj (h1.symm.trans q1)
    refine ⟨ad,c,c',_,rfl,rfl,rfl,hf,h2,fun h' tk hs hc'=>?_⟩
    have m:=mk (fun z=>z.lab (b0 h1)) hs hc'
    have r':CRep X.C (W.to h' tk) h' ad c':=hc'.mono m.grow fun _ _ e=>e
    exact ⟨I.modL h1 m (o:=.cont c') r',r'⟩
 cases a <;> first | exact absurd rfl hne | skip
 ·exact cel _ q hne
 ·rename_i k
  obtain ⟨x,hn,rfl,hv⟩:=q
  unfold b8 at hne ⊢
  dsimp only at hne ⊢
  show ModP X W f v _ (match aq (aV x X.nms) S.loc with | some (.own c)=>some c | some (.val (.cel n))=>dq S.st n | some (.val (.pl _))=>none | some (.val v)=>some v | none=>none)
  cases hx:aq (aV x X.nms) S.loc with
  | none=>rw [hx] at hne; exact absurd rfl hne
  | some lv =>
   obtain ⟨v',q1,q2⟩:=I.f.vars x _ hn hx
   obtain rfl:=hv.inj q1
   rw [hx] at hne
   cases lv with
   | own c =>
    dsimp only at hne ⊢
    cases hf:f c with
    | none=>rw [hf] at hne; exact absurd rfl hne
    | some c' =>
     obtain ⟨ad,rfl,q2,q3⟩:=q2
     refine ⟨ad,c,c',_,rfl,rfl,rfl,hf,q3,fun h' tk hs hc'=>?_⟩
     have m:=mk (fun z=>z.own _ q2) hs hc'
     have r':CRep X.C (W.to h' tk) h' ad c':=hc'.mono m.grow fun _ _ e=>e
     exact ⟨I.modO hn q2 hv m r',r'⟩
   | val a =>
    cases a <;> first | exact absurd rfl hne | exact cel _ q2 hne
theorem nz {α β:Type} {R:Wd->β->α->Prop} {m:Sem α} {b:β} {a:AV} {v:Value} {f:AV->Option AV} (I:Inv X S W) (q:RQ X W a v)
  (hm:∀ ad c c',aS a S=some c->v=.ref ad->f c=some c'->CRep X.C W W.h ad c->∀ (Q:α->Shared->Prop),(∀ u h' tk,Heap.SameBut ad W.h h'->CRep X.C W h' ad c'->(Grow W (W.to h' tk)->R (W.to h' tk) b u)->Q u { W.s with heap:=h',toks:=tk })->wpAny X.C.M X.A m Q (fun _ _=>False) W.s) :
  Snd X true R m (ax (b8 a f S) fun _=>af b) W:=fun hne=>by
 have hn:b8 a f S ≠ .stuck:=fun q=>hne (by rw [q]; rfl)
 obtain ⟨ad,c,c',S',e,h0,h1,h2,h3,h4⟩:=modAt_spec I q hn
 rw [e]
 exact zAs (hm ad c c' h0 h1 h2 h3 _ fun u h' tk hs hc hr=>.mk (W':=W.to h' tk) rfl (h4 h' tk hs hc).1 (hr (h4 h' tk hs hc).1.ext.grow)) (fun _ _ q=>q) fun _ _ q=>q.elim
theorem nk {k:Str} {av:AV} {v:Value} (hv:VRep C W av v):∀ {ss:List Str} {ws:List Value} {vs:List AV},ss.length=ws.length->VReps C W vs ws->VReps C W (cr (.str k) av (ss.map .str) vs) (setW k v ss ws)
 | [],[],vs,_,h=>VReps.cons hv VReps.nil
 | [],_::_,_,h,_=>nomatch h
 | _::_,[],_,h,_=>nomatch h
 | x::ss,w::ws,vs,hl,h=>by
  cases vs with
  | nil=>cases h
  | cons a r =>
   obtain ⟨_,_,e,h1,h2⟩:=h
   cases e
   rw [zA6,setW_c]; show VReps C W (if seq k _=true then _ else _) _
   by_cases hx:k=x
   ·subst hx; rw [if_pos rfl,fi,if_pos rfl]; exact VReps.cons hv h2
   ·have e1:seq k x=false:=by rw [dn]; exact beq_eq_false_iff_ne.mpr hx
    rw [if_neg hx,e1,if_neg zAn]
    exact VReps.cons h1 (nk hv (Nat.succ.inj hl) h2)
theorem VReps.set {a:AV} {v:Value} (h:VRep C W a v):∀ {l:List AV} {vs:List Value} {i:Nat},VReps C W l vs->VReps C W (l.set i a) (vs.set i v)
 | [],vs,i,r=>by obtain rfl:=r; rw [List.set_nil,List.set_nil]; exact VReps.nil
 | x::l,vs,0,r=>by obtain ⟨w,vs',rfl,h1,h2⟩:=r; exact VReps.cons h h2
 | x::l,vs,i+1,r=>by obtain ⟨w,vs',rfl,h1,h2⟩:=r; exact VReps.cons h1 (VReps.set h h2)
set_option tactic.hygienic true in
theorem wp_put {A:Around} {i a c c':AV} {vi va:Value} (hc:CRep C W W.h ad c) (ri:VRep C W i vi) (ra:VRep C W a va) (h:fy i a c=some c') {Q:Unit->Shared->Prop}
  (hQ:∀ h' tk,Heap.SameBut ad W.h h'->CRep C W h' ad c'->Q () { W.s with heap:=h',toks:=tk }):wpAny C.M A (setItem (.ref ad) vi va) Q (fun _ _=>False) W.s:=by
 cases c <;> first | (exact aC h; done) | skip
 ·rename_i l
  cases i <;> first | (exact aC h; done) | skip
  rename_i k
  obtain ⟨hk,rfl⟩:=be (p:=0<=k/\k.toNat < l.length) h
  obtain ⟨t,rfl⟩:=ri
  obtain ⟨vs,m,ho,hsz,hv⟩:=hc
  obtain ⟨j,rfl⟩:=zB1 hk.1
  have hj:j < vs.size:=by rw [hv.size]; exact hk.2
  refine wp_setAt ho hk.1 (fit hj hsz) (zC5.mpr hj) fun h' hp hs=>hQ h' W.s.toks hs (hp.elim fun n e=>⟨_,n,e,by rw [Array.size_setIfInBounds]; exact hsz,?_⟩)
  rw [Array.toList_setIfInBounds]
  exact hv.set ra
 ·rename_i ks vs'
  cases i <;> first | (exact aC h; done) | skip
  rename_i y
  obtain ⟨hlen,rfl⟩:=be (p:=(m4 (.str y) && zB5 (ks.length+1) sizeLine)=true) h
  have hlen:=zA9 hlen
  obtain ⟨ok,t,rfl⟩:=ri
  obtain ⟨o,ss,ws,h1,h2,rfl,h4,h5⟩:=hc
  have hD:W.h.DictOf (strKind C.prog C.w) ad (ss.zip ws):=zBk.mpr ⟨o,h1,h4.is⟩
  have hnod:ss.Nodup:=by
   obtain ⟨_,_,_,_,_,_,q⟩:=h4.is
   rwa [List.map_fst_zip (zCj h4.len)] at q
  refine wpAny_setItem_pairs (strKind_is C.prog C.w y t) hD (fun h' hd' hs=>?_) (by rw [zCi]; exact zAj (zBz _ _) h4.sz)
  rw [lj h4.len hnod] at hd'
  obtain ⟨o',ho',hdo⟩:=zBk.mp hd'
  have hlw:=jZ (k:=y) (v:=va) h4.len
  have hlk:(ss.map AV.str).length=ws.length:=by rw [zAe]; exact h4.len
  exact hQ h' _ hs ⟨o',setS y ss,setW y va ss ws,ho',h2,setS_str.symm,⟨hdo,hlw.1,zAj hlw.2 (by rw [← hlk]; exact hlen),fun z hz=>(mem_setS hz).elim (fun q=>q ▸ ok) (h4.ok z)⟩,nk ra h4.len h5⟩
theorem sndS_setSub {b k v:Expr} {sp pos:Pos} {db dk dv:D AV} (hsw:swapsWith v (some (.Subscript b k sp)) pos.line X.env=Pure.pure false)
  (hb:jl X b db) (hk:SndE X k dk) (hv:SndE X v dv):cT X (.Assign [.Subscript b k sp] v pos) (bj db dk dv):=fun hf S W I=>by
 rw [exec_Assign_Subscript _ _ _ _ _ hsw]
 refine .stand (Snd.bind (hv S W I).weak fun a va S₁ WA _ GA rA=>?_)
 have main:Snd X true RU (assign (.Subscript b k sp) X.env va) (ax (db S₁) fun c=>aH dk fun i=>aH (b8 c (fy i a)) fun _=>af ()) WA:=by
  rw [assign_Subscript]
  refine Snd.bind (hb S₁ WA GA.inv).holding fun c vc SA WB _ GB rB=>Snd.bind (hk SA WB GB.inv).holding fun i vi SB WC _ GC rC=>.stand ?_
  refine nz GC.inv (rB.le GB.inv GC.ext) fun ad c₀ c' h0 h1 h2 h3 Q hQ=>?_
  subst h1
  exact zAa (zA2 (wp_put h3 rC ((rA.le GB.ext).le GC.ext) h2 fun h' tk hs hc=>wpAny_release (hQ () h' tk hs hc fun _=>trivial)))
 rw [show (aH db fun c=>aH dk fun i=>aH (b8 c (fy i a)) fun _=>af Fl.next)=aH (aH db fun c=>aH dk fun i=>aH (b8 c (fy i a)) fun _=>af ()) fun _=>af .next from by
  rw [bR]; congr 1; funext c; rw [bR]; congr 1; funext i; rw [bR]; rfl]
 exact Snd.bind main.weak fun _ _ SA WB _ GB _=>.pure GB.inv trivial
end
section
variable {X:Fx} {W:Wd} {S:S}
theorem bU {x:Str} {v:Value} {p:Pos} {Q E:Value->Shared->Prop} (F:X.Ok) (I:Inv X S W) (hg:bh X.nms x=true) (h:X.C.mg x=none/\X.C.mb x=some v) (hQ:Q v W.s):wpAny X.C.M X.A (eval (.Name x p) X.env) Q E W.s:=by
 rw [eval_Name _ _ _ (fo (jm hg))]
 exact zAa (zCr (jd F hg (Calls.loadGlobal_builtin (by rw [F.globals]; exact (I.st F).ns) h.1 (by rw [F.builtins]; exact (I.st F).nb) h.2 hQ)))
theorem dJ {x:Str} {v:Value} {p:Pos} {Q E:Value->Shared->Prop} (F:X.Ok) (I:Inv X S W) (hg:bh X.nms x=true) (h:X.C.mg x=some v) (hQ:Q v W.s):wpAny X.C.M X.A (eval (.Name x p) X.env) Q E W.s:=by
 rw [eval_Name _ _ _ (fo (jm hg))]
 exact zAa (zCr (jd F hg (Calls.loadGlobal_global (by rw [F.globals]; exact (I.st F).ns) h hQ)))
theorem lE {es:List Expr} {ds:List (D AV)} {R:Wd->AV->Value->Prop} {pos:Pos} (h:TrE X R es ds):∀ {S S':Mine.S} {vs:List AV},br ds S=.ok vs S'->(backTo pos (starEach es X.env)).any (·.1)=false:=by
 induction h with
 | nil=>exact fun _=>rfl
 | @cons e d es ds h t ih =>
  intro S S' vs hd
  by_cases hs:PySem.W.isStarred e=true
  ·rw [h.star hs] at hd; exact cC Out.ctorIdx hd rfl
  ·rw [bN hs]
   have hd:ax (d S) (fun v=>aH (br ds) fun vs=>af (v::vs))=.ok vs S':=hd
   cases h1:d S with
   | stuck=>rw [h1] at hd; exact cC Out.ctorIdx hd rfl
   | exc c S₁=>rw [h1] at hd; exact cC Out.ctorIdx hd rfl
   | ok a S₁ =>
    rw [h1] at hd
    have hd:ax (br ds S₁) (fun vs=>af (a::vs))=.ok vs S':=hd
    cases h2:br ds S₁ with
    | stuck=>rw [h2] at hd; exact cC Out.ctorIdx hd rfl
    | exc c SA=>rw [h2] at hd; exact cC Out.ctorIdx hd rfl
    | ok b SA=>exact ih h2
theorem g7 {γ:Type} {R₀:Wd->AV->Value->Prop} {R:Wd->γ->Value->Prop} (hR:∀ {S W W' a v},R₀ W a v->Inv X S W->EX X true W W'->R₀ W' a v) {f:Value} (hf:∀ a,f ≠ .ref a) {pos:Pos} {first:List Value} {es:List Expr} {ds:List (D AV)} {k:List AV->D γ} (h:TrE X R₀ es ds) (I:Inv X S W)
  (hk:∀ vs args S' W',Good X true W S' W'->RLs R₀ W' vs args->Snd X true R (call f (first++args)) (k vs S') W'):Snd X true R (callWith pos f first (backTo pos (starEach es X.env)) []) (ax (br ds S) k) W:=by
 unfold callWith
 refine Snd.bind (fN (R:=R₀) hR h I).holding fun vs a S₁ WA e GA rA=>.stand ?_
 obtain ⟨ap,ak⟩:=a
 obtain ⟨rfl,rA⟩:ak=[]/\_:=rA
 simp only [lE h e,List.any_nil,Bool.or_false]
 rw [show keeperOf f=Pure.pure .machine from by cases f <;> first | rfl | exact absurd rfl (hf _)]
 refine .skip (fun _ _ q=>zAh q) ?_
 exact (hk vs ap S₁ WA GA rA).wp fun Q E q=>zAa (zAs q (fun _ _ q=>zAa (zA2 (wpAny_point (zAh q)))) fun _ _ q=>q)
noncomputable abbrev kwD (k:Nat) (q kp:Pos):Keyword:=⟨some ("default":Str),.Constant (.int 0) k q,kp⟩
theorem snd_callD {γ:Type} {R₀:Wd->AV->Value->Prop} {R:Wd->γ->Value->Prop} (hR:∀ {S W W' a v},R₀ W a v->Inv X S W->EX X true W W'->R₀ W' a v) {f:Value} (hf:∀ a,f ≠ .ref a) {pos q kp:Pos} {n:Nat} {e:Expr} {es:List Expr} {ds:List (D AV)} {k:List AV->D γ} (h:TrE X R₀ (e::es) ds) (I:Inv X S W)
  (hk:∀ vs args t S' W',Good X true W S' W'->RLs R₀ W' vs args->Snd X true R (call f args [(("default":Str),.int 0 t)]) (k vs S') W'):Snd X true R (callWith pos f [] (backTo pos (starEach (e::es) X.env)) (backToKw pos (keywordEach [kwD n q kp] X.env))) (ax (br ds S) k) W:=by
 have key:Snd X true (fun W l a=>RLs R₀ W l a.pos/\∃ t,a.kw=[(("default":Str),.int 0 t)]) (evalArgs f true (backTo pos (starEach (e::es) X.env)) (backToKw pos (keywordEach [kwD n q kp] X.env))) (br ds S) W:=by
  have hsp:=gJ (R:=R₀) (pos:=pos) hR h S W I
  cases h with
  | cons h t =>
  by_cases hs:PySem.W.isStarred e=true
  ·rw [h.star hs]; exact .stk
  ·rw [bN hs] at hsp ⊢
   intro hne
   refine evalArgs_kwB rfl (zAs (hsp hne) (fun vs s' q=>?_) fun _ _ q=>q)
   cases q with
   | @mk b S' W' e g r =>
    have G:=g.inv.toks (ev:=true) (W'.s.toks+1)
    refine kws_cons (wpAny_Constant_int (kws_nil (.mk (W':=W'.to W'.h (W'.s.toks+1)) e (g.trans G) ⟨?_,_,rfl⟩)))
    have lift:∀ {l:List AV} {m:List Value},F2 (R₀ W') l m->F2 (R₀ (W'.to W'.h (W'.s.toks+1))) l m:=fun h=>by
     induction h with
     | nil=>exact .nil
     | cons h _ ih=>exact .cons (hR h g.inv G.ext) ih
    exact lift r
 unfold callWith
 refine Snd.bind key.holding fun vs a S₁ WA e₁ GA rA=>.stand ?_
 obtain ⟨ap,ak⟩:=a
 obtain ⟨rA,t,rfl⟩:_/\∃ t,ak=[(("default":Str),.int 0 t)]:=rA
 simp only [lE h e₁]
 rw [show keeperOf f=Pure.pure .machine from by cases f <;> first | rfl | exact absurd rfl (hf _)]
 refine .skip (fun _ _ q=>zAh q) ?_
 exact (hk vs ap t S₁ WA GA rA).wp fun Q E q=>zAa (zAs q (fun _ _ q=>zAa (zA2 (wpAny_point (zAh q)))) fun _ _ q=>q)
theorem dz {id:Str} {p pos:Pos} {args:List Expr}:eval (.Call (.Name id p) args [] pos) X.env=(do let f ← eval (.Name id p) X.env; callWith pos f [] (backTo pos (starEach args X.env)) []):=rfl
theorem derefs_spec:∀ {vs:List AV} {args:List Value},RLs (RQ X) W vs args->Inv X S W->gE vs S=.stuck ∨ ∃ cs,gE vs S=.ok cs S/\F2 (RP X.C W) cs args:=by
 intro vs args h I
 induction h with
 | nil=>exact .inr ⟨[],rfl,.nil⟩
 | @cons a v l m h t ih =>
  cases hd:aS a S with
  | none=>exact .inl (show ax (deref a S) _=_ by unfold deref; rw [hd]; rfl)
  | some c =>
   have e1:gE (a::l) S=ax (gE l S) fun cs=>af (c::cs):=show ax (deref a S) _=_ by unfold deref; rw [hd]; rfl
   rcases ih with q | ⟨cs,q,r⟩
   ·exact .inl (by rw [e1,q]; rfl)
   ·exact .inr ⟨c::cs,by rw [e1,q]; rfl,.cons (h.deref I hd) r⟩
theorem Inv.size (I:Inv X S W) (F:X.Ok):1 < W.h.objs.size:=by
 obtain ⟨o,_,_,h1,_⟩:=(I.st F).ns
 exact Nat.lt_trans (by decide) (zAz h1:(3:Nat) < _)
theorem snd_bi (F:X.Ok) {b:BiE} {id:Str} {k:Bool} {t:Tok} (hb:aR id X.C.P.bi=some b) (hf:k=true ∨ b.free=true->X.T.free=true) {args:List Value} {vs:List AV} (I:Inv X S W) (r:RLs (RQ X) W vs args):Snd X true (RM X) (call b.val args (if k then [(("default":Str),.int 0 t)] else [])) (ax (gE vs S) fun cs=>Mine.opt (b.den k cs)) W:=by
 rcases derefs_spec r I with q | ⟨cs,q,r⟩
 ·rw [q]; exact .stk
 ·rw [q]
  have hm:(id,b) ∈ X.C.P.bi:=by rw [bK] at hb; exact mem_of_lookup hb
  exact Snd.made I fun c hc=>(F.cx.bis _ hm).2 X.A W k t cs args c _ (fun z=>F.hd (hf z)) F.units (I.size F) r hc
theorem snd_call_bi (F:X.Ok) {b:BiE} {id:Str} {p pos:Pos} {es:List Expr} {ds:List (D AV)} (hg:bh X.nms id=true) (hb:aR id X.C.P.bi=some b) (hn:fU (bV X.C.P id)=true) (hf:b.free=true->X.T.free=true) (h:TrE X (RQ X) es ds):SndM X (.Call (.Name id p) es [] pos) (aW b false ds):=fun S W I=>by
 rw [dz]
 refine .skip (fun _ _ q=>bU F I hg (F.cx.bi id b hb hn) q) ?_
 have hm:(id,b) ∈ X.C.P.bi:=by rw [bK] at hb; exact mem_of_lookup hb
 exact g7 (R₀:=RQ X) (fun r I x=>r.le I x) (F.cx.bis _ hm).1 h I fun vs args S' W' G r=>snd_bi (k:=false) (t:=0) F hb (fun z=>hf (z.resolve_left zAn)) G.inv r
theorem nL (F:X.Ok) (hq:X.T.free=true) {b:BiE} {id:Str} {p pos q kp:Pos} {n:Nat} {e:Expr} {es:List Expr} {ds:List (D AV)} (hg:bh X.nms id=true) (hb:aR id X.C.P.bi=some b) (hn:fU (bV X.C.P id)=true) (h:TrE X (RQ X) (e::es) ds):SndM X (.Call (.Name id p) (e::es) [kwD n q kp] pos) (aW b true ds):=fun S W I=>by
 show Snd X true (RM X) (eval (.Name id p) X.env >>= fun f=>callWith pos f [] (backTo pos (starEach (e::es) X.env)) (backToKw pos (keywordEach [kwD n q kp] X.env))) _ W
 refine .skip (fun _ _ q=>bU F I hg (F.cx.bi id b hb hn) q) ?_
 have hm:(id,b) ∈ X.C.P.bi:=by rw [bK] at hb; exact mem_of_lookup hb
 exact snd_callD (R₀:=RQ X) (fun r I x=>r.le I x) (F.cx.bis _ hm).1 h I fun vs args t S' W' G r=>snd_bi (k:=true) (t:=t) F hb (fun _=>hq) G.inv r
noncomputable def itTy:ItK->String
 | .range=>"range" | .zip=>"zip" | .enum=>"enumerate"
theorem snd_itC (F:X.Ok) (hq:X.T.free=true):∀ k,SndC X k (.type (itTy k))
 | .range=>wp_range F hq
 | .zip=>wp_zip F hq
 | .enum=>wp_enum F hq
theorem itNames_std {id:Str} {k:ItK} (h:aR id itNames=some k):stdNames.lookup id=some (.type (itTy k)):=by
 rw [bK] at h
 exact zCz.mp (show (itNames.map fun q=>stdNames.lookup q.1)=itNames.map fun q=>some (.type (itTy q.2)) by kernel_rfl) _ (mem_of_lookup h)
theorem snd_call_it (F:X.Ok) (hq:X.T.free=true) {k:ItK} {id:Str} {p pos:Pos} {es:List Expr} {ds:List (D AV)} (hg:bh X.nms id=true) (hk:aR id itNames=some k) (hn:fU (bV X.C.P id)=true) (h:TrE X (RV X) es ds):SndI X (.Call (.Name id p) es [] pos) (fm k ds):=fun S W I=>by
 rw [dz]
 refine .skip (fun _ _ q=>bU F I hg (F.cx.std id _ (itNames_std hk) hn) q) ?_
 exact g7 (R₀:=RV X) (f:=.type (itTy k)) (first:=[]) (fun r _ x=>VRep.le r x) (fun a q=>nomatch q) h I fun vs args S' W' G r=>snd_itC F hq k S' W W' vs args G.ext G.inv r.v
theorem base_eq {o:Expr} {m:Str} {env:Env} {w:Sem Value} (h:dy o=true):attributeBase o m env w=w:=by
 rcases zBw.mp h with h | h
 ·rcases zBw.mp h with h | h
  ·exact Expr.Name.elim (motive_1:=fun o=>attributeBase o m env w=w) o (zBm h) fun _ _=>rfl
  ·exact Expr.Attribute.elim (motive_1:=fun o=>attributeBase o m env w=w) o (zBm h) fun _ _ _=>rfl
 ·exact Expr.Subscript.elim (motive_1:=fun o=>attributeBase o m env w=w) o (zBm h) fun _ _ _=>rfl
theorem pos_eq {o:Expr} {env:Env} {apos pos:Pos} (h:zA4 apos.endLine pos.line=true) {few:Bool}:methodCallPos few o env apos pos=Pure.pure pos:=by
 have:(apos.endLine == pos.line)=true:=by rw [beq_iff_eq]; exact beq_nat.mp h
 unfold methodCallPos
 rw [this,Bool.or_true,if_pos rfl]
theorem form_of {es:List Expr} {env:Env} {pos:Pos} {k:Nat} (hs:∀ e ∈ es,PySem.W.isStarred e=false) (hk:k < 30):methodCallForm k (backTo pos (starEach es env)) []=true:=by
 unfold methodCallForm
 have key:∀ es:List Expr,(∀ e ∈ es,PySem.W.isStarred e=false)->(backTo pos (starEach es env)).all (!·.1)=true:=by
  intro es
  induction es with
  | nil=>intro _; rfl
  | cons e es ih =>
   intro hs
   rw [bN (by rw [hs e zAb]; exact zAn)]
   exact ih fun e' h'=>hs e' (zAc _ h')
 rw [key es hs]
 simp [hk]
structure MtOk (o:Expr) (apos pos:Pos) (args:List Expr):Prop where
 base:dy o=true ∨ ∃ c k p,o=.Constant c k p
 line:zA4 apos.endLine pos.line=true
 star:∀ e ∈ args,PySem.W.isStarred e=false
 few:args.length < 30
theorem fO {R:Wd->AV->Value->Prop} {o:Expr} {m:Str} {apos pos:Pos} {args:List Expr} {dO:D AV} {k:AV->D AV} (hM:MtOk o apos pos args) (ho:Snd X true (RQ X) (eval o X.env) (dO S) W)
  (hk:∀ a va S₁ WA,dO S=.ok a S₁->Good X true W S₁ WA->RQ X WA a va->k a S₁ ≠ .stuck->∃ f first,(∀ pl (Q:Value × List Value->Shared->Prop) E,Q (f,first) WA.s->wpAny X.C.M X.A (getMethod va m pl) Q E WA.s)/\Snd X true R (callWith pos f first (backTo pos (starEach args X.env)) []) (k a S₁) WA) :
  Snd X true R (eval (.Call (.Attribute o m apos) args [] pos) X.env) (ax (dO S) k) W:=by
 have hb:attributeBase o m X.env (eval o X.env)=eval o X.env:=hM.base.elim base_eq fun ⟨c,k,p,q⟩=>by subst q; rfl
 rw [arm_eval_Call,hb]
 refine Snd.bind ho fun a va S₁ WA e₁ GA rA=>.stand fun hne=>?_
 obtain ⟨f,first,h1,h2⟩:=hk a va S₁ WA e₁ GA rA hne
 unfold methodCall PySem.calleeOf
 have hform:methodCallForm (args.length+([]:List Keyword).length) (backTo pos (starEach args X.env)) (backToKw pos (keywordEach [] X.env))=true:=form_of hM.star hM.few
 rw [hform]
 simp only [if_true,pos_eq hM.line]
 exact zAa (zA2 (h1 _ _ _ (zAa (zAh (h2 hne)))))
end
section
variable {X:Fx} {W:Wd} {S:S}
noncomputable def atOne {β:Type} (k:AV->D β) (vs:List AV):D β:=match vs with
 | [v]=>k v
 | _=>stk
theorem bind_one {β:Type} {d:D AV} {k:AV->D β}:ax (d S) k=ax (br [d] S) (atOne k):=by
 show _=ax (ax (d S) _) _
 cases d S <;> rfl
theorem n7 {γ:Type} {R₀:Wd->AV->Value->Prop} {R:Wd->γ->Value->Prop} (hR:∀ {S W W' a v},R₀ W a v->Inv X S W->EX X true W W'->R₀ W' a v) {f:Value} (hf:∀ a,f ≠ .ref a) {pos:Pos} {first:List Value} {e:Expr} {d:D AV} {k:AV->D γ} (h:ArgE X R₀ e d) (I:Inv X S W)
  (hk:∀ a v S' W',Good X true W S' W'->R₀ W' a v->Snd X true R (call f (first++[v])) (k a S') W'):Snd X true R (callWith pos f first (backTo pos (starEach [e] X.env)) []) (ax (d S) k) W:=by
 rw [bind_one]
 refine g7 (R₀:=R₀) hR hf (.cons h .nil) I fun vs args S' W' G r=>?_
 cases r with
 | nil=>exact .stk
 | cons h t=>cases t with
  | nil=>exact hk _ _ S' W' G h
  | cons _ _=>exact .stk
theorem ckLst_spec {a:AV} (h:eI a S ≠ .stuck):eI a S=.ok () S/\∃ l,aS a S=some (.lst l):=by
 unfold eI at h ⊢
 cases hc:aS a S with
 | none=>rw [hc] at h; exact absurd rfl h
 | some c =>
  rw [hc] at h
  cases c <;> first | exact absurd rfl h | exact ⟨rfl,_,rfl⟩
theorem ck_bind {β:Type} {a:AV} {f:Unit->D β} (h:ax (eI a S) f ≠ .stuck):ax (eI a S) f=f () S/\∃ l,aS a S=some (.lst l):=by
 obtain ⟨e,q⟩:=ckLst_spec (S:=S) (a:=a) fun q=>h (by rw [q]; rfl)
 exact ⟨by rw [e]; rfl,q⟩
theorem wp_app {a w:AV} {ad:Addr} {v:Value} (I:Inv X S W) (r:RQ X W a (.ref ad)) (rv:VRep X.C W w v):Snd X true (RV X) (call (.builtin "list.append") [.ref ad,v]) (ax (b8 a (appV w) S) fun _=>af .none) W:=by
 refine nz (R:=RV X) I r fun ad' c c' h0 h1 h2 h3 Q hQ=>?_
 cases h1
 obtain ⟨l',q1,q2⟩:=zAi.mp h2
 obtain rfl:=ee q1
 obtain ⟨hlen,rfl⟩:=dA q2
 obtain ⟨vs,n,hp,hsz,hv⟩:=h3
 refine wpAny_list_append_plain ⟨n,hp⟩ (fun h' hp' hs'=>hQ _ h' W.s.toks hs' (hp'.elim fun m q=>⟨_,m,q,?_,?_⟩) fun _=>rfl) hsz
 ·rw [Array.size_push,hv.size]; rw [zAd] at hlen; exact hlen
 ·rw [Array.toList_push]; exact hv.append (VReps.cons rv .nil)
theorem snd_append {o e:Expr} {apos pos:Pos} {dO de:D AV} (hM:MtOk o apos pos [e]) (ho:Snd X true (RQ X) (eval o X.env) (dO S) W) (he:ArgE X (RV X) e de) :
  Snd X true (RV X) (eval (.Call (.Attribute o "append" apos) [e] [] pos) X.env) (dm dO de S) W:=by
 refine fO hM ho fun a va S₁ WA e₁ GA rA hne=>?_
 obtain ⟨e1,l,hd⟩:=ck_bind hne
 obtain ⟨ad,rfl,vs,m,hob,hsz,hv⟩:=(rA.deref GA.inv hd).lst
 refine ⟨.builtin "list.append",[.ref ad],fun pl Q E q=>getMethod_builtin ⟨_,hob,rfl⟩ PySem.F.plainAttrs_list slot_list_append type_list_append (fun a e=>by cases e; exact ⟨_,hob,rfl⟩) q,?_⟩
 show Snd _ _ _ _ (ax (eI a S₁) fun _=>aH de fun v=>aH (b8 a (appV v)) fun _=>af AV.none) _
 rw [e1]
 exact n7 (R₀:=RV X) (f:=.builtin "list.append") (first:=[.ref ad]) (fun r _ x=>VRep.le r x) (fun a z=>nomatch z) he GA.inv fun w v S' W' G r=>wp_app G.inv (rA.le GA.inv G.ext) r
end
section
variable {C:Cx} {W:Wd}
set_option tactic.hygienic true in
theorem jM:∀ {l:List AV} {vs:List Value} {ss:List Str},VReps C W l vs->dN l=some ss->∃ ps:List (Str × Tok),vs=strValues ps/\ps.map (·.1)=ss/\∀ x ∈ ss,PyData.strOk x=true
 | [],vs,ss,h,e=>by cases e; exact ⟨[],h,rfl,fun _ q=>nomatch q⟩
 | x::r,vs,ss,h,e=>by
  obtain ⟨v,vs',rfl,h1,h2⟩:=h
  cases x <;> first | (exact aC e; done) | skip
  rename_i x
  obtain ⟨ss',hr,rfl⟩:=zAo.mp e
  obtain ⟨ps,rfl,rfl,h3⟩:=jM h2 hr
  obtain ⟨q1,t,rfl⟩:=h1
  refine ⟨(x,t)::ps,rfl,rfl,fun y hy=>?_⟩
  rcases zAl.mp hy with rfl | hy
  ·exact q1.ok
  ·exact h3 y hy
theorem catS_len:∀ ss:List Str,(j5 ss).length=(ss.map (·.length)).sum
 | []=>rfl
 | x::r=>by
  show (x++j5 r).length=_
  rw [zA6,zCd,← catS_len r]
  show (x.cps++(j5 r).cps).size=_
  rw [Array.size_append]; rfl
theorem nx:∀ ss:List Str,Str.join ⟨#[]⟩ ss=j5 ss
 | []=>rfl
 | [x]=>by show x=x++(⟨#[]⟩:Str); cases x; show (⟨_⟩:Str)=⟨_++#[]⟩; rw [Array.append_empty]
 | x::y::r=>by
  show x++⟨#[]⟩++Str.join ⟨#[]⟩ (y::r)=x++j5 (y::r)
  rw [nx (y::r)]
  cases x; show (⟨_++#[]++_⟩:Str)=⟨_++_⟩; rw [Array.append_empty]
theorem catS_ok:∀ ss:List Str,(∀ x ∈ ss,PyData.strOk x=true)->PyData.strOk (j5 ss)=true
 | [],_=>by with_unfolding_all rfl
 | x::r,h=>i7 (h x zAb) (catS_ok r fun y hy=>h y (zAc _ hy))
theorem wp_join {A:Around} {a c:AV} {v:Value} {t:Tok} {E:Value->Shared->Prop} (r:RP C W a v) (h:joinV a=some c):wpAny C.M A (call (.builtin "str.join") [.str ⟨#[]⟩ t,v]) (Made C W c) E W.s:=by
 obtain ⟨l,h1,h2⟩:=zAi.mp h
 obtain rfl:=ee h1
 obtain ⟨ss,hs,h3⟩:=zAi.mp h2
 obtain ⟨hlen,rfl⟩:=nn h3
 obtain ⟨ad,rfl,vs,m,hg,hsz,hv⟩:=r.lst
 obtain ⟨ps,hps,hss,hok⟩:=jM hv hs
 have hvs:vs=(strValues ps).toArray:=by rw [← hps]
 refine SC.join (l:=ps) (texts:=ss) ⟨_,hg,rfl,m,by rw [hvs]⟩ hss ?_ fun t' k=>.val (h:=W.h) (tk:=k) .refl rfl ?_
 ·unfold JoinOk
  rw [StrLaws.joinTotal]
  have:=catS_len ss
  have hz:(⟨#[]⟩:Str).length=0:=rfl
  rw [hz,Nat.mul_zero,Nat.add_zero,← this]
  unfold Builtin.Str.tooLong
  simpa using hlen
 ·exact ⟨⟨catS_ok ss hok,hlen⟩,t',by rw [← nx,← StrLaws.glued_eq_join]; rfl⟩
end
section
variable {X:Fx} {W:Wd} {S:S}
theorem m8 {e:Expr} {x:Const} (h:conE e=some x):∃ k p,e=.Constant x k p:=by
 unfold conE at h
 by_cases q:e.ctorIdx=19
 ·rw [dif_pos q] at h
  exact Expr.Constant.elim (motive_1:=fun e=>∀ q:e.ctorIdx=19,Expr.Constant.elim (motive_1:=fun _=>Option Const) e q (fun x _ _=>some x)=some x->∃ k p,e=.Constant x k p) e q (fun y k p _ h=>⟨k,p,congrArg (Expr.Constant · k p) (Option.some.inj h)⟩) q h
 ·rw [dif_neg q] at h; exact aC h
theorem strC_some {c:Const} {x:Str} (h:strC c=some x):c=.str x:=by cases c <;> first | (exact aC h; done) | (cases h; rfl)
theorem mQ {e:Expr} {x:Str} (h:strE e=some x):∃ k p,e=.Constant (.str x) k p:=by
 obtain ⟨c,h1,h2⟩:=zAi.mp h
 rw [← strC_some h2]; exact m8 h1
theorem hW {o:Expr} (h:dD o=true):∃ k p,o=.Constant (.str ⟨#[]⟩) k p:=by
 unfold dD at h
 cases hs:strE o with
 | none=>rw [hs] at h; exact ff h
 | some x =>
  rw [hs] at h; obtain ⟨k,p,rfl⟩:=mQ hs
  have:x.cps.size=0:=beq_nat.mp h
  obtain rfl:x=⟨#[]⟩:=by cases x; congr; exact Array.eq_empty_of_size_eq_zero this
  exact ⟨k,p,rfl⟩
theorem snd_join {o e:Expr} {apos pos:Pos} {d:D AV} (hM:MtOk o apos pos [e]) (ho:dD o=true) (h:ArgE X (RQ X) e d) (I:Inv X S W):Snd X true (RV X) (eval (.Call (.Attribute o "join" apos) [e] [] pos) X.env) (gh d S) W:=by
 obtain ⟨k,p,rfl⟩:=hW ho
 have hc:Snd X true (RQ X) (eval (.Constant (.str ⟨#[]⟩) k p) X.env) (af (.str ⟨#[]⟩) S) W:=((ny (X:=X) (c:=.str ⟨#[]⟩) (k:=k) (p:=p) S W I).of_eq (by
  show _=(if eQ ⟨#[]⟩ then af (AV.str ⟨#[]⟩) else Mine.stk) S; rw [if_pos (by decide +kernel)])).mono fun W b a r=>.of r
 refine fO (k:=fun _=>gh d) hM hc fun a va S₁ WA e₁ GA rA hne=>?_
 cases e₁
 obtain ⟨_,t,rfl⟩:VRep X.C WA (.str ⟨#[]⟩) va:=rA
 refine ⟨.builtin "str.join",[.str ⟨#[]⟩ t],fun pl Q E q=>by with_reducible exact GM.join q,?_⟩
 exact n7 (R₀:=RQ X) (f:=.builtin "str.join") (first:=[.str ⟨#[]⟩ t]) (fun r I x=>r.le I x) (fun a z=>nomatch z) h GA.inv fun w v S' W' G r=>.deref G.inv r fun c r'=>(Snd.made G.inv fun b hb=>wp_join r' hb).freeze
end
theorem memS_iff {x:Str}:∀ {l:List Str},cw x l=true ↔ x ∈ l
 | []=>⟨fun h=>(nomatch h),fun h=>(nomatch h)⟩
 | y::r=>by
  show (seq x y || cw x r)=true ↔ _
  rw [zBw,seq_iff,memS_iff,zAl]
theorem last_gt {α:Type} {l:List α} {a o:α} {m:Nat} (hm:l.length<=m) (e:(l++[a])[m]?=some o):m=l.length/\o=a:=by
 have h1:=(zA3.mp e).1
 rw [zAd] at h1
 obtain rfl:m=l.length:=zCx (Nat.le_of_lt_succ h1) hm
 rw [zB2] at e
 exact ⟨rfl,(Option.some.inj e).symm⟩
noncomputable abbrev ItO (h:Heap) (it d:Addr) (i n ep:Nat) (x y:Value) (a:Addr) (f:Bool):Prop :=
 h.get? it=some { cls:=.type "dict_itemiterator",dict:=none,data:=.fields #[rawInt a,.bool f,.ref d,.int i 0,.int n 0,.int ep 0,x,y],slots:=#[] }
section
variable {prog:Program} {w:World} {A:Around} {E:Value->Shared->Prop} {s:Shared}
theorem alive_at {a:Addr} {o:Obj} {Q:Option Obj->Shared->Prop} (ho:s.heap.get? a=some o) (h:Q (some o) s):wpAny (model prog w) A (loadIfAlive a) Q E s :=
 fun _ _ _=>show Q (s.heap.get? a) s from ho ▸ h
theorem nA {it d a:Addr} {f:Bool} {oa:Obj} {i ep:Nat} {kvs:List (Str × Value)} {x y:Value} {Q:Option Value->Shared->Prop} (hh:A.handled=none) (hit:ItO s.heap it d i kvs.length ep x y a f) (ha:s.heap.get? a=some oa) (hne:a ≠ it)
  (hm:s.heap.DictAt (strKind prog w) d kvs ep)
  (hsome:∀ k v,kvs[i]?=some (k,v)->∀ key h',(strKind prog w).is k key=true->ItO h' it d (i+1) kvs.length ep x y a true->h'.get? s.heap.objs.size=some { cls:=.type "tuple",data:=.seq #[key,v] } ->
   h'.objs.size=s.heap.objs.size+1->(∀ b o,b ≠ it->s.heap.get? b=some o->h'.get? b=some o)->Q (some (.ref s.heap.objs.size)) { s with heap:=h' })
  (hnone:kvs[i]?=none->∀ h',Heap.ExtBut it s.heap h'->Q none { s with heap:=h' }):wpAny (model prog w) A (pyNext (.ref it)) Q E s:=by
 obtain ⟨hp,g,dr,tk,os⟩:=s
 obtain ⟨od,es,hod,hcd,hdd,hk,hpr,hn⟩:=id hm
 have hT:Shared.TypeIs ⟨hp,g,dr,tk,os⟩ (.ref it) "dict_itemiterator":=⟨_,hit,rfl⟩
 have hsz:es.size=kvs.length:=by rw [← hpr.length]; simp
 have hown:Builtin.Dict_items.ownsTuple "dict_itemiterator"=true:=by decide
 unfold pyNext
 refine zAa (wpAny_attempt (wpAny_callSpecial?_slot (name:=Str.ofString "__next__") hT F.slot_dict_itemiterator_next
  (zCv F.slot_dict_itemiterator_next hT F.entry_dict_itemiterator_next ?_ (F.args_dict_itemiterator_next_1 _))))
 refine zAa (zAh (zAa (zAa (zAa (zDa hT (zAh (zAa (wpAny_fieldsOf hit rfl ?_))))))))
 simp only [hown,if_true]
 show wpAny _ _ (if (Value.ref d == Value.none)=true then _ else _) _ _ _
 rw [if_neg (show ¬ ((Value.ref d == Value.none)=true) from zAn)]
 refine zAa (zAh (zAa (wpAny_dictEntries hod hdd ?_)))
 rw [if_neg (by rw [hsz]; simp)]
 refine zAa (zAh (zAa (wpAny_dictEpoch hod hdd ?_)))
 rw [if_neg (by simp)]
 refine zAh ?_
 simp only [show ¬ ((i:Int) < 0) from by lia,if_false,zCa]
 cases hx:kvs[i]? with
 | none =>
  have hge:es.size<=i:=by rw [hsz]; simpa using hx
  simp only [Array.getElem?_eq_none hge]
  refine zAa (zAa (zDa hT (zAh ?_)))
  show wpAny _ _ (setField (.ref it) 2 .none >>= _) _ _ _
  refine zAa (zC9 hit rfl (by simp) ?_)
  show wpAny _ _ (newExc (.type "StopIteration") [] >>= _) _ _ _
  refine zAa ?_
  simp only [newExc,newTuple]
  refine zAa (zBn ?_ (by size_fits))
  refine zAa (m:=firstArgMember _ _) (wpAny_of_eq (a:=Value.none) (by first | rfl | (simp only [firstArgMember]; rfl)) ?_)
  refine zBn ?_ (by size_fits)
  simp only [raiseNew]
  refine zAa (wpAny_handled ?_)
  rw [show A.in1.handled=none from hh]
  refine zAa (zAh (wpAny_throw ?_))
  refine zAa (wpAny_isInstance (T:="StopIteration") (b:=true) ⟨_,zAp _ rfl,rfl⟩ isSubtype_stop ?_)
  exact zAh (hnone hx _ (((Heap.SameBut.update ..).extBut.push _).push _))
 | some kv =>
  obtain ⟨k,v⟩:=kv
  have hlt':i < es.size:=by rw [hsz]; exact (zA3.mp hx).1
  obtain ⟨hkey,hval⟩:=hpr.get? (e:=es[i]) (by simp [hlt']) hx
  simp only [zCq hlt']
  refine zAa (zAa (zDa hT (zAh (zAa (wpAny_isOneOf_itemiter hT ?_)))))
  show wpAny _ _ (setField (.ref it) 3 (rawInt ((i:Int)+1)) >>= _) _ _ ⟨hp,g,dr,tk,os⟩
  refine zAa (zB0 hit (by simp) fun h₁ heA hsA=>?_)
  replace hsA:Heap.SameBut it hp h₁:=hsA
  replace heA:ItO h₁ it d (i+1) kvs.length ep x y a f:=by unfold ItO; simpa [rawInt] using heA
  have hTA:Shared.TypeIs ⟨h₁,g,dr,tk,os⟩ (.ref it) "dict_itemiterator":=⟨_,heA,rfl⟩
  refine zAa (zA2 (zAa (wpAny_isOneOf_itemiter hTA (zAa (wpAny_isOneOf_itemiter hTA ?_)))))
  show wpAny _ _ (Builtin.Dict_items.pairFromOwner (.ref it) 6 es[i].key es[i].val) _ _ ⟨h₁,g,dr,tk,os⟩
  unfold Builtin.Dict_items.pairFromOwner
  refine zAa (wpAny_newTuple ?_)
  have heB:ItO (h₁.push { cls:=.type "tuple",data:=.seq #[es[i].key,es[i].val] }) it d (i+1) kvs.length ep x y a f:=zAg _ heA
  have haA:=zAg { cls:=.type "tuple",data:=.seq #[es[i].key,es[i].val] } (hsA.extBut a oa hne ha)
  have hz:h₁.objs.size=hp.objs.size:=hsA.1
  have hil:it < hp.objs.size:=zAz hit
  have fin:∀ h',ItO h' it d (i+1) kvs.length ep x y a true->(∀ b o,b ≠ it->(h₁.push { cls:=.type "tuple",data:=.seq #[es[i].key,es[i].val] }).get? b=some o->h'.get? b=some o)->h'.objs.size=(h₁.push { cls:=.type "tuple",data:=.seq #[es[i].key,es[i].val] }).objs.size ->
    Q (some (.ref h₁.objs.size)) ⟨h',g,dr,tk,os⟩:=fun h' e1 e2 e3=>by
   rw [hz]
   refine hsome k v hx es[i].key h' hkey e1 ?_ ?_ fun b o hb q=>e2 b o hb (zAg _ (hsA.extBut b o hb q))
   ·rw [← hval]; exact e2 _ _ (zBf hil) (hz ▸ zAp _ rfl)
   ·rw [e3,zBj,hz]
  unfold Builtin.Dict_items.ownedTupleIsFree
  refine zAa (zAa (zBe heB rfl (x:=rawInt a) rfl ?_))
  refine zAa (alive_at (a:=a) haA ?_)
  simp only [Option.isNone_some,zCw,if_false]
  refine zAa (zBe heB rfl (x:=.bool f) rfl ?_)
  cases f with
  | true =>
   simp only [bne_self_eq_false,zCw,if_false]
   exact zAh (zAh (zAh ⟨_,rfl,zAh (fin _ heB (fun _ _ _ q=>q) rfl)⟩))
  | false =>
   rw [if_pos (by decide)]
   refine zAa (zB0 heB (by simp) fun h₃ heC hsC=>?_)
   exact zAh (zAh (zAh ⟨_,rfl,zAh (fin _ heC (fun b o hb q=>hsC.extBut b o hb q) hsC.1)⟩))
noncomputable def ItSt (h:Heap) (it d S:Addr) (i n ep:Nat):Prop:=(∃ x y,IsItemIter h it d i n ep x y) ∨ ∃ x y a f oa,ItO h it d i n ep x y a f/\h.get? a=some oa/\a ≠ it/\a ≠ S
theorem ItSt.keep {h h':Heap} {it d S:Addr} {i n ep:Nat} (x:ItSt h it d S i n ep) (hne:it ≠ S) (hk:∀ b o,b ≠ S->h.get? b=some o->h'.get? b=some o):ItSt h' it d S i n ep :=
 x.imp (fun q=>q.imp fun _ q=>q.imp fun _ q=>hk _ _ hne q) fun q=>q.imp fun _ q=>q.imp fun _ q=>q.imp fun _ q=>q.imp fun _ q=>q.imp fun _ q=>⟨hk _ _ hne q.1,hk _ _ q.2.2.2 q.2.1,q.2.2⟩
structure Prd (prog:Program) (w:World) (kvs:List (Str × Value)) (lo:Addr) (h:Heap) (as:List Addr):Prop where
 rise:as.Pairwise (· < ·)
 above:∀ a ∈ as,lo < a
 pairs:∀ (j:Nat) (a:Addr),as[j]?=some a->∃ key k x,kvs[j]?=some (k,x)/\(strKind prog w).is k key=true/\h.get? a=some { cls:=.type "tuple",data:=.seq #[key,x] }
theorem Prd.keep {kvs:List (Str × Value)} {lo:Addr} {h h':Heap} {as:List Addr} (p:Prd prog w kvs lo h as) (hk:∀ b o,lo < b->h.get? b=some o->h'.get? b=some o):Prd prog w kvs lo h' as :=
 ⟨p.rise,p.above,fun j a e=>(p.pairs j a e).imp fun _ q=>q.imp fun _ q=>q.imp fun _ q=>⟨q.1,q.2.1,hk _ _ (p.above a (zBq e)) q.2.2⟩⟩
theorem Prd.add {kvs:List (Str × Value)} {lo b:Addr} {h:Heap} {as:List Addr} (p:Prd prog w kvs lo h as) (hlo:lo < b) (hb:∀ a o,h.get? a=some o->a ≠ b->a < b) {k:Str} {key v:Value} (hx:kvs[as.length]?=some (k,v)) (hk:(strKind prog w).is k key=true)
  (ho:h.get? b=some { cls:=.type "tuple",data:=.seq #[key,v] }) (hn:b ∉ as):Prd prog w kvs lo h (as++[b]) where
 rise:=List.pairwise_append.mpr ⟨p.rise,List.pairwise_singleton _ _,fun a ha c hc=>by
  obtain ⟨j,hj⟩:=List.mem_iff_getElem?.mp ha
  obtain ⟨_,_,_,_,_,e⟩:=p.pairs j a hj
  rw [zAf.mp hc]; exact hb a _ e fun q=>hn (q ▸ ha)⟩
 above:=fun a ha=>(zA8.mp ha).elim (p.above a) fun q=>zAf.mp q ▸ hlo
 pairs:=fun j a e=>by
  rcases Nat.lt_or_ge j as.length with hj | hj
  ·rw [zB8 hj] at e; exact p.pairs j a e
  ·obtain ⟨rfl,rfl⟩:=last_gt hj e
   exact ⟨key,k,v,hx,hk,ho⟩
theorem ext_loop (hh:A.handled=none) {S it d lo:Addr} {kvs:List (Str × Value)} {ep:Nat} {res:Value} {R:Result->Shared->Prop} (hiS:it ≠ S) (hSd:d ≠ S) (hdi:d ≠ it) (hSl:S<=lo) (hil:it<=lo) (hn:kvs.length<=sizeLine) :
  ∀ (r:Nat) (s:Shared) (as:List Addr),r+as.length=kvs.length->ItSt s.heap it d S as.length kvs.length ep->s.heap.DictAt (strKind prog w) d kvs ep->(∃ c,s.heap.get? S=some { cls:=.type "list",data:=.seq (as.map Value.ref).toArray c })->Prd prog w kvs lo s.heap as->lo < s.heap.objs.size ->
  (∀ h' as',(∀ b o,b ≠ S->b ≠ it->s.heap.get? b=some o->h'.get? b=some o)->(∃ c',h'.get? S=some { cls:=.type "list",data:=.seq (as'.map Value.ref).toArray c' })->as'.length=kvs.length->Prd prog w kvs lo h' as'->R (.ok (.ret res)) { s with heap:=h' }) ->
  codeAny (model prog w) A (.builtin "list.extend.loop" ⟨[.ref S,.ref it,res],[]⟩) R s:=by
 intro r
 induction r with
 | zero =>
  intro s as hr hst hm hS hP hlo hR
  obtain ⟨c,hS⟩:=hS
  have hl:as.length=kvs.length:=by rw [← hr,Nat.zero_add]
  have hx:kvs[as.length]?=none:=List.getElem?_eq_none (zCj hl.symm)
  refine zCe F.entry_extend_loop ?_
  rw [Around.under_plainId F.plain_extend_loop _]
  show wpAny _ A.in1 (pyNext (.ref it) >>= _) _ _ s
  have fin:∀ h',Heap.ExtBut it s.heap h'->R (.ok (.ret res)) { s with heap:=h' }:=fun h' hk=>hR h' as (fun b o _ hb e=>hk b o hb e) ⟨c,hk _ _ hiS.symm hS⟩ hl (hP.keep fun b o hb e=>hk b o (zBf (zBi hil hb)) e)
  rcases hst with ⟨x,y,hit⟩ | ⟨x,y,a,f,oa,hit,ha,h1,h2⟩
  ·exact zAa (wpAny_pyNext_items_end (A:=A.in1) hh hit hm hx fun h' hk=>zAh (fin h' hk))
  ·exact zAa (nA (A:=A.in1) hh hit ha h1 hm (fun k v e=>by rw [hx] at e; cases e) fun _ h' hk=>zAh (fin h' hk))
 | succ r ih =>
  intro s as hr hst hm hS hP hlo hR
  obtain ⟨c,hS⟩:=hS
  have hlt:as.length < kvs.length:=by rw [← hr]; exact Nat.lt_add_of_pos_left (zCc r)
  obtain ⟨⟨k,v⟩,hx⟩:∃ kv,kvs[as.length]?=some kv:=⟨_,zAv hlt⟩
  refine zCe F.entry_extend_loop ?_
  rw [Around.under_plainId F.plain_extend_loop _]
  show wpAny _ A.in1 (pyNext (.ref it) >>= _) _ _ s
  have hSlt:S < s.heap.objs.size:=zAz hS
  have step:∀ key h',(strKind prog w).is k key=true->ItSt h' it d S (as.length+1) kvs.length ep->h'.get? s.heap.objs.size=some { cls:=.type "tuple",data:=.seq #[key,v] }->h'.objs.size=s.heap.objs.size+1->(∀ b o,b ≠ it->s.heap.get? b=some o->h'.get? b=some o) ->
    wpAny (model prog w) A.in1 (updateSeq S (·.push (.ref s.heap.objs.size)) >>= fun _=>again (.builtin "list.extend.loop" ⟨[.ref S,.ref it,res],[]⟩)) (fun fin s'=>match fin with | .done f=>R (.ok f) s' | .again c'=>c'.quiet=true/\codeAny (model prog w) A c' R s') (fun e s'=>R (.error e) s') { s with heap:=h' }:=fun key h' hk hst' hT hsz hkp=>by
   have hS':=hkp S _ hiS.symm hS
   have oth:∀ b o,b ≠ S->h'.get? b=some o->(h'.update S (Obj.mapSeq (·.push (Value.ref s.heap.objs.size)))).get? b=some o:=fun b o hb e=>(zA1 _ _ (Ne.symm hb)).trans e
   have nS:∀ b,lo < b->b ≠ S:=fun b hb=>zBf (zBi hSl hb)
   refine zAa (zCp hS' rfl (zAh ⟨plainId_quiet F.plain_extend_loop _,ih _ (as++[s.heap.objs.size]) ?_ ?_ ?_ ?_ ?_ ?_ fun h'' as' hk2 hS2 hl2 hP2=>?_⟩) ?_ ?_)
   ·rw [zAd]; show r+(as.length+1)=_; rw [← hr]; lia
   ·rw [zAd]; exact hst'.keep hiS oth
   ·exact (hm.extBut (b:=it) (fun b o hb e=>hkp b o hb e) hdi).extBut (b:=S) (fun b o hb e=>oth b o hb e) hSd
   ·have:=zBl (Obj.mapSeq (·.push (Value.ref s.heap.objs.size))) hS' rfl
    exact ⟨_,this.trans (by simp [Obj.mapSeq]; rfl)⟩
   ·refine Prd.add (hP.keep fun b o hb e=>oth b o (nS b hb) (hkp b o (zBf (zBi hil hb)) e)) hlo (fun a o e hne=>?_) hx hk (oth _ _ (zBf hSlt) hT) fun q=>?_
    ·have:a < (h'.update S (Obj.mapSeq (·.push (Value.ref s.heap.objs.size)))).objs.size:=zAz e
     rw [zC7,hsz] at this
     exact Nat.lt_of_le_of_ne (Nat.le_of_lt_succ this) hne
    ·obtain ⟨j,hj⟩:=List.mem_iff_getElem?.mp q
     obtain ⟨_,_,_,_,_,e⟩:=hP.pairs j _ hj
     exact Nat.lt_irrefl _ (zAz e)
   ·show lo < (h'.update S _).objs.size
    rw [zC7,hsz]; exact zBd hlo
   ·exact hR h'' as' (fun b o hbS hbi e=>hk2 b o hbS hbi (oth b o hbS (hkp b o hbi e))) hS2 hl2 hP2
   ·have:(as.map Value.ref).toArray.size=as.length:=by simp
    rw [this]; lia
   ·have:((as.map Value.ref).toArray.push (Value.ref s.heap.objs.size)).size=as.length+1:=by simp
    show _<=sizeLine+1
    rw [this]; lia
  have hitlt:it < s.heap.objs.size:=zBi hil hlo
  rcases hst with ⟨x,y,hit⟩ | ⟨x,y,a,f,oa,hit,ha,h1,h2⟩
  ·exact zAa (wpAny_pyNext_items_item (A:=A.in1) hit hm hx fun key h' hk hit' hT hsz hkp=>step key h' hk (.inr ⟨_,_,_,false,_,hit',hT,zBf hitlt,zBf hSlt⟩) hT hsz hkp)
  ·refine zAa (nA (A:=A.in1) hh hit ha h1 hm (fun k' v' e key h' hk hit' hT hsz hkp=>?_) fun e=>by rw [hx] at e; cases e)
   rw [hx] at e; cases e
   exact step key h' hk (.inr ⟨x,y,a,true,oa,hit',hkp a oa h1 ha,h1,h2⟩) hT hsz hkp
theorem len_items:typeLookup (.type "dict_items") "__len__"=pure (some (.builtin "dict_items.__len__")):=by rw [typeLookup_type,builtinLookup_eq_fast]; kernel_rfl
theorem hint_items {r:Addr} (hT:s.TypeIs (.ref r) "dict_items") {Q:Bool->Shared->Prop} (h:Q false s):wpAny (model prog w) A (Builtin.List.listLengthHint (.ref r)) Q E s:=by
 unfold Builtin.List.listLengthHint
 refine zAa (wpAny_specialOf hT len_items ?_)
 generalize hid:("dict_items.__len__":String)=q
 wp_delta
 rw [show splitId q=some ("dict_items","__len__") from hid ▸ (by decide +kernel)]
 subst hid
 refine zAa (wpAny_isInstance (T:="dict_items") (b:=true) hT (by rw [isSubtype_type]; kernel_rfl) (wpAny_ite_split (fun z=>absurd z (by decide)) fun _=>?_))
 exact wpAny_ite_split (fun _=>zAa (wpAny_typeOf hT (zAh h))) fun z=>absurd (by decide +kernel) z
theorem lR {r d:Addr} {kvs:List (Str × Value)} {ep:Nat} {Q:Value->Shared->Prop} (hh:A.handled=none) (hv:s.heap.IsItemsView r d) (hm:s.heap.DictAt (strKind prog w) d kvs ep) (hn:kvs.length<=sizeLine)
  (hQ:∀ h' as c,(∀ b o,s.heap.get? b=some o->h'.get? b=some o)->h'.get? s.heap.objs.size=some { cls:=.type "list",data:=.seq (as.map Value.ref).toArray c }->as.length=kvs.length->Prd prog w kvs s.heap.objs.size h' as->Q (.ref s.heap.objs.size) { s with heap:=h' }) :
  wpAny (model prog w) A (call (.type "list") [.ref r]) Q E s:=by
 refine callType_codes (Q₁:=fun obj s₁=>obj=.ref s.heap.objs.size/\s₁={ s with heap:=s.heap.push { cls:=.type "list",data:=.seq #[] } }) F.called_list (F.typeCall_list_1 _) F.entry_list_init (code_list_new _ ⟨rfl,rfl⟩) fun obj s₁ h₁=>?_
 obtain ⟨rfl,rfl⟩:=h₁
 have hS:(s.heap.push { cls:=.type "list",data:=.seq #[] }).get? s.heap.objs.size=some { cls:=.type "list",data:=.seq #[] }:=zAp _ rfl
 have hr:r < s.heap.objs.size:=hv.elim fun _ q=>zAz q.1
 have hd:d < s.heap.objs.size:=hm.elim fun _ q=>q.elim fun _ q=>zAz q.1
 refine ⟨⟨_,hS,rfl⟩,F.args_list_init_2 _ _,?_⟩
 show wpAny _ _ (do let old ← Builtin.List.listItems (.ref s.heap.objs.size); Builtin.List.listUpdate (.ref s.heap.objs.size) (fun _=>#[]); PySem.letGo old.toList.reverse; Builtin.List.listExtendWith (.ref s.heap.objs.size) (.ref r) .none) _ _ _
 unfold Builtin.List.listItems
 refine zAa (zAa (zBt hS rfl (zAh ?_)))
 show wpAny _ _ (updateSeq s.heap.objs.size (fun _=>#[]) >>= _) _ _ _
 refine zAa (zCp hS rfl (zAa (zC8 ?_)))
 have hSA:=zBl (Obj.mapSeq (fun _=>(#[]:Array Value))) hS rfl
 have up:∀ b o,b < s.heap.objs.size->s.heap.get? b=some o->((s.heap.push { cls:=.type "list",data:=.seq #[] }).update s.heap.objs.size (Obj.mapSeq (fun _=>(#[]:Array Value)))).get? b=some o:=fun b o hb e=>(zA1 _ _ (zBf hb)).trans (zAg _ e)
 have hz:((s.heap.push { cls:=.type "list",data:=.seq #[] }).update s.heap.objs.size (Obj.mapSeq (fun _=>(#[]:Array Value)))).objs.size=s.heap.objs.size+1:=by rw [zC7,zBj]
 generalize (s.heap.push { cls:=.type "list",data:=.seq #[] }).update s.heap.objs.size (Obj.mapSeq (fun _=>(#[]:Array Value)))=H at hSA up hz
 have hvA:H.IsItemsView r d:=hv.imp fun _ q=>⟨up _ _ hr q.1,q.2⟩
 have hmA:H.DictAt (strKind prog w) d kvs ep:=hm.imp fun _ q=>q.imp fun _ q=>⟨up _ _ hd q.1,q.2⟩
 unfold Builtin.List.listExtendWith
 refine zAa (wpAny_typeOf (T:="dict_items") hvA.typeIs ?_)
 simp only [show Builtin.List.listSameRef (.ref s.heap.objs.size) (.ref r)=false from by simp [Builtin.List.listSameRef,zBf hr],show (Value.type "dict_items" == Value.type "list")=false by decide,show (Value.type "dict_items" == Value.type "tuple")=false by decide,Bool.or_false,zCw,if_false]
 refine zAa (wpAny_pyIter_items hvA hmA ?_)
 show wpAny _ _ _ _ _ ⟨H.push _,_,_,_,_⟩
 have hit:=zAp H (o:={ cls:=.type "dict_itemiterator",data:=.fields #[.none,.bool false,.ref d,.int 0 0,.int kvs.length 0,.int ep 0,.none,.none] }) rfl
 have hSB:=zAg { cls:=.type "dict_itemiterator",data:=.fields #[.none,.bool false,.ref d,.int 0 0,.int kvs.length 0,.int ep 0,.none,.none] } hSA
 have upA:∀ b o,b < s.heap.objs.size->s.heap.get? b=some o->(H.push { cls:=.type "dict_itemiterator",data:=.fields #[.none,.bool false,.ref d,.int 0 0,.int kvs.length 0,.int ep 0,.none,.none] }).get? b=some o:=fun b o hb e=>zAg _ (up b o hb e)
 have hzC:(H.push { cls:=.type "dict_itemiterator",data:=.fields #[.none,.bool false,.ref d,.int 0 0,.int kvs.length 0,.int ep 0,.none,.none] }).objs.size=s.heap.objs.size+2:=by rw [zBj,hz]
 rw [hz] at hit ⊢
 generalize H.push { cls:=.type "dict_itemiterator",data:=.fields #[.none,.bool false,.ref d,.int 0 0,.int kvs.length 0,.int ep 0,.none,.none] }=H3 at hit hSB upA hzC ⊢
 have key:∀ (h:Heap),(∀ b o,b ≠ s.heap.objs.size->H3.get? b=some o->h.get? b=some o)->(∃ c,h.get? s.heap.objs.size=some { cls:=.type "list",data:=.seq #[] c })->h.objs.size=H3.objs.size ->
   codeAny (model prog w) A.in1 (.builtin "list.extend.loop" ⟨[.ref s.heap.objs.size,.ref (s.heap.objs.size+1),.none],[]⟩) (wants (fun r s₂=>r=.none/\Q (.ref s.heap.objs.size) s₂) E) { s with heap:=h }:=fun h hk hSh hsz=>by
  refine ext_loop (A:=A.in1) (lo:=s.heap.objs.size+1) hh (Nat.succ_ne_self _) (zA5 hd) (zA5 (zBd hd)) (zDc _) (zAy _) hn kvs.length { s with heap:=h } [] rfl (.inl ⟨_,_,hk _ _ (Nat.succ_ne_self _) hit⟩)
   (hm.imp fun _ q=>q.imp fun _ q=>⟨hk _ _ (zA5 hd) (upA _ _ hd q.1),q.2⟩) hSh ⟨.nil,nofun,fun j a e=>nomatch e⟩ (by show _ < h.objs.size; rw [hsz,hzC]; exact zCt _) fun h' as hk' hS' hl hP=>?_
  obtain ⟨c,hS'⟩:=hS'
  exact ⟨rfl,hQ h' as c (fun b o e=>hk' b o (zA5 (zAz e)) (zA5 (zBd (zAz e))) (hk _ _ (zA5 (zAz e)) (upA _ _ (zAz e) e))) hS' hl ⟨hP.rise,fun a ha=>Nat.lt_of_succ_lt (hP.above a ha),hP.pairs⟩⟩
 have hTC:Shared.TypeIs ⟨H3,s.gens,s.drawn,s.toks,s.os⟩ (.ref r) "dict_items":=hv.imp fun _ q=>⟨upA _ _ hr q.1,q.2.1⟩
 refine zAa (zA2 (hint_items hTC ?_))
 refine wpAny_ite_split (fun _=>?_) (fun _=>zAh ⟨plainId_quiet F.plain_extend_loop _,key _ (fun b o _ e=>e) ⟨_,hSB⟩ rfl⟩)
 refine zAa (wpAny_rule (zAa ?_))
 show wpAny _ _ (updateSeq s.heap.objs.size (·.push .none) >>= fun _=>updateSeq s.heap.objs.size (·.pop)) _ _ _
 refine zAa (zCp hSB rfl ?_)
 have hS₄:=zBl (Obj.mapSeq (·.push Value.none)) hSB rfl
 refine zCp (hz:=by seq_fits) hS₄ rfl (zAh ⟨plainId_quiet F.plain_extend_loop _,key _ (fun b o hb e=>?_) ⟨_,zBl (Obj.mapSeq (·.pop)) hS₄ rfl⟩ ?_⟩)
 ·exact (zA1 _ _ (Ne.symm hb)).trans ((zA1 _ _ (Ne.symm hb)).trans e)
 ·rw [zC7,zC7]
end
section
variable {X:Fx} {W:Wd} {S:S}
noncomputable def RIt (X:Fx) (W:Wd) (a:AV) (v:Value):Prop:=∃ r d,v=.ref r/\W.free r/\(∃ ks vs,a=.dct ks vs)/\W.h.IsItemsView r d/\VRep X.C W a (.ref d)
theorem RIt.le {W':Wd} {a:AV} {v:Value} (h:RIt X W a v) (x:EX X true W W'):RIt X W' a v:=by
 obtain ⟨r,d,h1,h2,h3,⟨o,h4,h5,h6⟩,h7⟩:=h
 exact ⟨r,d,h1,x.grow.fr h4 h2,h3,⟨o,x.grow.kp h4 h2 (.type h5 (by decide)),h5,h6⟩,h7.le x⟩
set_option tactic.hygienic true in
theorem arg_items {o:Expr} {apos pos:Pos} {dO:D AV} (hM:MtOk o apos pos []) (ho:SndE X o dO):ArgE X (RIt X) (.Call (.Attribute o "items" apos) [] [] pos) (dDctV dO) where
 star:=fun q=>nomatch q
 snd:=fun S W I=>by
  refine fO (R:=RIt X) hM (ho.p S W I) fun a va S₁ WA e₁ GA rA hne=>?_
  cases a <;> first | exact absurd rfl hne | skip
  rename_i ks vs
  have rA:VRep X.C WA (.dct ks vs) va:=rA
  obtain ⟨d,rfl,hf,o',ss,ws,hg,hns,rfl,hD,hv⟩:=id rA
  have hDh:=zBk.mpr ⟨o',hg,hD.is⟩
  refine ⟨.builtin "dict.items",[.ref d],fun pl Q E q=>getMethod_builtin hDh.typeIs PySem.F.plainAttrs_dict PySem.F.slot_dict_items PySem.F.type_dict_items hDh.mapOf.noDict q,?_⟩
  refine Snd.of_eq (o:=ax (br [] S₁) fun b=>match b with | []=>af (.dct (ss.map .str) vs) | _::_=>stk) ?_ rfl
  refine g7 (R₀:=RV X) (f:=.builtin "dict.items") (first:=[.ref d]) (fun r _ x=>VRep.le r x) (fun a z=>nomatch z) .nil GA.inv fun b ap S' W' G r=>?_
  cases r with
  | cons _ _=>exact .stk
  | nil =>
   intro _
   have hg':=G.ext.grow.kp hg hf hD.pln
   have hDhA:=zBk.mpr ⟨o',hg',hD.is⟩
   refine call_meetsIn PySem.F.slot_dict_items hDhA.typeIs PySem.F.entry_dict_items (PySem.F.args_dict_items_1 _) (meets_dict_items (strKind X.C.prog X.C.w) d hns) ⟨⟨_,hDhA⟩,?_⟩
   have G2:=fun (o:Obj)=>G.inv.ge (ev:=true) (.push (o:=o)) W'.s.toks
   have f:W'.free W'.h.objs.size:=Classical.byContradiction fun q=>(G.inv.c.mus q).elim fun _ z=>aD z get?_size
   refine .mk (b:=.dct (ss.map .str) vs) (S:=S') (W':=W'.to _ W'.s.toks) rfl (G2 _) ⟨W'.h.objs.size,d,rfl,f,⟨_,_,rfl⟩,⟨_,zAp _ rfl,rfl,rfl⟩,(rA.le G.ext).le (G2 _).ext⟩
theorem vreps_of {C:Cx}:∀ {l:List AV} {vs:List Value},l.length=vs.length->(∀ (j:Nat) (a:AV) (v:Value),l[j]?=some a->vs[j]?=some v->VRep C W a v)->VReps C W l vs
 | [],[],_,_=>.nil
 | [],_::_,h,_=>nomatch h
 | _::_,[],h,_=>nomatch h
 | a::l,v::vs,h,k=>.cons (k 0 a v rfl rfl) (vreps_of (Nat.succ.inj h) fun j a v h1 h2=>k (j+1) a v h1 h2)
theorem prd_reps {C:Cx} {Sa:Addr} {ss:List Str} {ws:List Value} {as:List Addr} {vs:List AV} (hp:Prd C.prog C.w (ss.zip ws) Sa W.h as) (hl:as.length=(ss.zip ws).length) (hw:ss.length=ws.length) (hv:VReps C W vs ws) (hk:∀ s ∈ ss,StrOk s) (hf:∀ T,Sa < T->W.free T):VReps C W (fQ (ss.map .str) vs) (as.map Value.ref):=by
 have hvl:vs.length=ws.length:=hv.length.symm
 refine vreps_of (by rw [dM,zAe,zAe,hl,zCi,hvl]) fun j a v h1 h2=>?_
 rw [zBv] at h2
 obtain ⟨T,hT,rfl⟩:=zAo.mp h2
 obtain ⟨key,k,x,p1,p2,p3⟩:=hp.pairs j T hT
 obtain ⟨g1,g2⟩:=List.getElem?_zip_eq_some.mp p1
 obtain ⟨t,rfl⟩:=Value.isStrOf_shape p2
 have gk:(ss.map AV.str)[j]?=some (.str k):=by rw [zBv,g1]; rfl
 have hj:j < vs.length:=by rw [hvl]; exact (zA3.mp g2).1
 have gv:vs[j]?=some vs[j]:=zAv hj
 rw [zip2_get gk gv] at h1
 cases h1
 obtain ⟨x',q1,q2⟩:=hv.get gv
 rw [g2] at q1; cases q1
 exact ⟨T,rfl,hf T (hp.above T (zBq hT)),#[.str k t,x],0,p3,by show (2:Nat)<=ou; decide,.cons ⟨hk k (zBq g1),t,rfl⟩ (.cons q2 .nil)⟩
theorem ma (F:X.Ok) (hq:X.T.free=true) {id:Str} {p pos apos pos':Pos} {o:Expr} {dO:D AV} (hg:bh X.nms id=true) (hL:X.C.mg id=none/\X.C.mb id=some (.type "list")) (hM:MtOk o apos pos' []) (ho:SndE X o dO) :
  SndM X (.Call (.Name id p) [.Call (.Attribute o "items" apos) [] [] pos'] [] pos) (fY dO):=fun S W I=>by
 rw [dz]
 refine .skip (fun _ _ q=>bU F I hg hL q) ?_
 refine n7 (R₀:=RIt X) (f:=.type "list") (first:=[]) (k:=fun a=>Mine.opt (itmV a)) (fun r _ x=>RIt.le r x) (fun a z=>nomatch z) (arg_items hM ho) I fun a v S₁ WA GA r=>?_
 obtain ⟨r,d,rfl,hfr,⟨ks,vs,rfl⟩,hview,hrep⟩:=r
 refine Snd.opt fun c hc=>?_
 obtain ⟨hsz,rfl⟩:=dA (show bD (fQ ks vs)=some c from hc)
 obtain ⟨d',e,hf,o',ss,ws,hgd,hns,rfl,hD,hv⟩:=hrep
 cases e
 obtain ⟨ep,hat⟩:=(zBk.mpr ⟨o',hgd,hD.is⟩).dictAt
 have hvl:vs.length=ws.length:=hv.length.symm
 have hzl:(fQ (ss.map AV.str) vs).length=(ss.zip ws).length:=by rw [dM,zAe,zCi,hvl]
 refine lR (F.hd hq) hview hat (by rw [← hzl]; exact hsz) fun h' as q hk hS' hlen hP=>?_
 have nw:∀ {b:Addr},WA.h.objs.size<=b->WA.h.get? b=none:=fun h=>zCo h
 have fr:∀ {b:Addr},WA.h.objs.size<=b->WA.free b:=fun h=>Classical.byContradiction fun q=>(GA.inv.c.mus q).elim fun _ z=>aD z (nw h)
 have G:=GA.inv.hold (ev:=true) (tk:=WA.s.toks) (wr:=[WA.h.objs.size]) hk fun b q=>zAf.mp q ▸ ⟨.inr (nw (zAy _)),_,hS'⟩
 obtain ⟨GB,grA⟩:=G.give (a:=WA.h.objs.size) (h':=h') (tk:=WA.s.toks) (nw (zAy _)) (.inr (zAf.mpr rfl)) (fun b o _ e=>e) hS'
 have gr:=GB.ext.grow
 have hfree:∀ T,WA.h.objs.size < T->(Wd.give (WA.hold h' WA.s.toks [WA.h.objs.size]) h' WA.s.toks WA.h.objs.size).free T:=fun T hT=>by
  have f:WA.free T:=fr (zC3 hT)
  refine ⟨⟨f.oth.lab,fun (k:Option Str) (z:gj WA.own none (some WA.h.objs.size) k=some T)=>?_⟩,fun z=>z.1.elim f.tmp fun y=>zBf hT (zAf.mp y),f.fr⟩
  by_cases hk:k=none
  ·subst hk
   rw [show gj WA.own none (some WA.h.objs.size) none=some WA.h.objs.size from bT] at z
   exact zA5 hT (Option.some.inj z)
  ·rw [show gj WA.own none (some WA.h.objs.size) k=WA.own k from cu hk] at z
   exact f.oth.own _ z
 have hcr:CRep X.C (Wd.give (WA.hold h' WA.s.toks [WA.h.objs.size]) h' WA.s.toks WA.h.objs.size) h' WA.h.objs.size (.lst (fQ (ss.map .str) vs)):=⟨_,q,hS',by rw [List.size_toArray,zAe,hlen,← hzl]; exact hsz,prd_reps (W:=Wd.give (WA.hold h' WA.s.toks [WA.h.objs.size]) h' WA.s.toks WA.h.objs.size) hP hlen hD.len (hv.mono gr) hD.ok hfree⟩
 exact .mk (b:=.lst (fQ (ss.map .str) vs)) (S:=S₁) (W':=Wd.give (WA.hold h' WA.s.toks [WA.h.objs.size]) h' WA.s.toks WA.h.objs.size) rfl GB (.new rfl rfl (bT (own:=WA.own) (k:=none)) hcr)
end
section
variable {C:Cx} {X:Fx} {W:Wd} {S:S}
theorem jx {f:Str} {v:AV}:∀ {l:List (Str × AV)},gw f (ly f v l)=some v
 | []=>by show (if seq f f then some v else none)=some v; rw [fi]; rfl
 | (y,w)::r=>by
  rw [setF_c]
  by_cases h:seq y f=true
  ·rw [if_pos h]; rw [jh]; rw [if_pos h]
  ·rw [if_neg h]; rw [jh]; rw [if_neg h]; exact jx
theorem d5 {f g:Str} {v:AV} (hne:g ≠ f):∀ {l:List (Str × AV)},gw g (ly f v l)=gw g l
 | []=>by
  have:seq f g=false:=by rw [dn]; exact beq_eq_false_iff_ne.mpr (Ne.symm hne)
  show (if seq f g then some v else none)=none; rw [this]; rfl
 | (y,w)::r=>by
  rw [setF_c]
  by_cases h:seq y f=true
  ·rw [if_pos h]
   have:¬ seq y g=true:=fun q=>hne (by rw [← seq_iff.mp h,seq_iff.mp q])
   rw [jh,jh]; rw [if_neg this,if_neg this]
  ·rw [if_neg h]
   rw [jh,jh]
   by_cases hz:seq y g=true
   ·rw [if_pos hz,if_pos hz]
   ·rw [if_neg hz,if_neg hz]; exact d5 hne
set_option tactic.hygienic true in
theorem getF_mem {f:Str} {v:AV}:∀ {l:List (Str × AV)},gw f l=some v->f ∈ l.map (·.1)
 | [],h=>nomatch h
 | (y,w)::r,h=>by
  unfold gw at h
  split at h
  ·rename_i q; rw [← seq_iff.mp q]; exact zAb
  ·exact zAc _ (getF_mem h)
theorem RQ.look (I:Inv X S W) {a o:AV} {v:Value} (r:RQ X W a v) (e:gc a S=some o):VRep X.C W o v:=by
 cases a <;> first | (obtain rfl:=Option.some.inj e; exact r) | skip
 obtain ⟨x,h1,rfl,h3⟩:=r
 have e:(match aq (aV x X.nms) S.loc with | some (.val v)=>some v | _=>none)=some o:=e
 cases hg:aq (aV x X.nms) S.loc with
 | none=>rw [hg] at e; exact aC e
 | some lv =>
  rw [hg] at e
  obtain ⟨v',q1,q2⟩:=I.f.vars x _ h1 hg
  obtain rfl:v=v':=h3.inj q1
  cases lv with
  | own c=>exact aC e
  | val w=>obtain rfl:=Option.some.inj e; exact q2
structure ObjAt (C:Cx) (W:Wd) (c:Str) (k:Nat) (l:List (Str × AV)) (x a d:Addr) (m:Str->Option Value) (o:Obj):Prop where
 cls:C.clsA c=some a
 is:InstO C c d o
 lab:W.labs[k]?=some d
 fr:W.free x
 ob:W.h.get? x=some o
 inst:W.h.Inst x a m
 ns:W.h.Ns1 d m
 rep:FRep C W l m
inductive ObjP (C:Cx) (W:Wd) (c:Str) (k:Nat) (l:List (Str × AV)) (v:Value):Prop
 | mk (x a d:Addr) (m:Str->Option Value) (o:Obj) (e:v=.ref x) (O:ObjAt C W c k l x a d m o)
theorem obj_at (I:Inv X S W) {c:Str} {k:Nat} {v:Value} {l:List (Str × AV)} (r:VRep X.C W (.obj c k) v) (hst:S.st[k]?=some (.flds l)):ObjP X.C W c k l v:=by
 obtain ⟨x,rfl,hf,o,d,h1,h2,h3⟩:=r
 obtain ⟨d',q1,m,q3,q4⟩:=I.c.objs k _ hst
 obtain rfl:=Option.some.inj (h2.symm.trans q1)
 obtain ⟨a,ha,hc⟩:=h3.cls
 exact ⟨x,a,d,m,o,rfl,⟨ha,h3,h2,hf,h1,⟨o,h1,hc,h3.nocls,.inr ⟨d,h3.dict,fun z=>hf.oth.lab (z ▸ b0 h2),q3⟩⟩,q3,q4⟩⟩
set_option tactic.hygienic true in
theorem jR {a:AV} {k:Nat} {l:List (Str × AV)} (h:dR a S=some (k,l)):∃ c,gc a S=some (.obj c k)/\S.st[k]?=some (.flds l):=by
 unfold dR at h
 cases hl:gc a S with
 | none=>rw [hl] at h; exact aC h
 | some o =>
  rw [hl] at h
  cases o <;> first | (exact aC h; done) | skip
  rename_i c k'
  have h:(match S.st[k']? with | some (.flds l)=>some (k',l) | _=>none)=some (k,l):=h
  cases hs:S.st[k']? with
  | none=>rw [hs] at h; exact aC h
  | some o =>
   rw [hs] at h
   cases o with
   | cont _=>exact aC h
   | flds l'=>cases h; exact ⟨c,rfl,hs⟩
theorem handed {av:AV} {v:Value} (r:VRep C W av v):handedOut v=Pure.pure v:=by
 cases av <;> first | (obtain rfl:=r; rfl) | (obtain ⟨_,rfl⟩:=r; rfl) | (obtain ⟨_,_,rfl⟩:=r; rfl) | (obtain ⟨_,rfl,_⟩:=r; rfl) | exact r.elim
theorem rdFld_spec {a w:AV} {f:Str} {S':Mine.S} (h:mD a f S ≠ .stuck):∃ k l av,dR a S=some (k,l)/\gw f l=some av/\mD a f S=.ok av S:=by
 unfold mD at h ⊢
 cases hf:dR a S with
 | none=>rw [hf] at h; exact absurd rfl h
 | some q =>
  obtain ⟨k,l⟩:=q
  rw [hf] at h
  dsimp only at h ⊢
  cases hg:gw f l with
  | none=>rw [hg] at h; exact absurd rfl h
  | some av=>exact ⟨k,l,av,rfl,hg,rfl⟩
theorem snd_getAttr {a:AV} {v:Value} {f:Str} (F:X.Ok) (hf:f ∈ X.C.P.flds) (I:Inv X S W) (r:RQ X W a v):Snd X true (RV X) (getAttr v f true) (mD a f S) W:=fun hne=>by
 obtain ⟨k,l,av,hfl,hg,e⟩:=rdFld_spec (w:=.none) (S':=S) hne
 obtain ⟨c,hl,hst⟩:=jR hfl
 obtain ⟨x,ca,d,m,o,rfl,O⟩:=obj_at I (r.look I hl) hst
 cases O.rep with | mk non val mem =>
 obtain ⟨w,h1,h2⟩:=val f av hg
 obtain ⟨a',N,nm,q,bs,sn,sub,col,dd,k0,k1,k2,k3,k5,mN,z1,_,hC,hN,hfN,⟨hg1,hg2,_⟩,_⟩:=(I.st F).cl c O.is.isC
 obtain rfl:=Option.some.inj (O.cls.symm.trans z1)
 exact load_attr hC hN hg1 (hfN f hf) (F.cx.fld f hf) O.inst h1 (handed h2) (.mk (W':=W.to W.h (W.s.toks+1)) e (I.toks _) h2.tk)
theorem ip {e:Expr} {t:Expr × List Expr × List Keyword} (h:Mine.callE e=some t):∃ p,e=.Call t.1 t.2.1 t.2.2 p:=by
 unfold callE at h
 by_cases q:e.ctorIdx=16
 ·rw [dif_pos q] at h
  exact Expr.Call.elim (motive_1:=fun e=>∀ q:e.ctorIdx=16,Expr.Call.elim (motive_1:=fun _=>Option (Expr × List Expr × List Keyword)) e q (fun f a k _=>some (f,a,k))=some t->∃ p,e=.Call t.1 t.2.1 t.2.2 p) e q (fun f a k p _ h=>⟨p,by rw [← Option.some.inj h]⟩) q h
 ·rw [dif_neg q] at h; exact aC h
theorem fldBase_eq {o:Expr} {m:Str} {env:Env} {w:Sem Value} (h:ky o=true):attributeBase o m env w=w:=by
 rcases zBw.mp h with h | h
 ·obtain ⟨x,q⟩:=zAx.mp h
  obtain ⟨p,rfl⟩:=ce q; rfl
 ·cases hc:callE o with
  | none=>rw [hc] at h; exact ff h
  | some t =>
   rw [hc] at h
   obtain ⟨p,rfl⟩:=ip hc
   obtain ⟨f,a,k⟩:=t
   obtain ⟨h1,h2⟩:=zAk.mp h
   obtain ⟨x,q⟩:=zAx.mp h1
   obtain ⟨q',rfl⟩:=ce q
   cases a with
   | nil=>exact ff h2
   | cons _ _=>rfl
theorem snd_attr {o:Expr} {f:Str} {p:Pos} {d:D AV} (ho:ky o=true) (F:X.Ok) (hf:f ∈ X.C.P.flds) (h:jl X o d):SndE X (.Attribute o f p) (aQ d f):=fun S W I=>by
 rw [arm_eval_Attribute,fldBase_eq ho]
 refine Snd.bind (h S W I) fun a va S₁ WA _ GA rA=>.stand ?_
 exact (snd_getAttr F hf GA.inv rA).wp fun Q E q=>zAa (zAs (zA2 q) (fun _ _ q=>zAa (wpAny_letTemporaryGo (zAh q))) fun _ _ q=>q)
theorem FRep.set {l:List (Str × AV)} {m:Str->Option Value} {f:Str} {av:AV} {v:Value} (h:FRep C W l m) (r:VRep C W av v) (hf:f ∈ C.P.flds):FRep C W (ly f av l) fun y=>if y=f then some v else m y:=by
 cases h with | mk non val mem =>
 refine .mk (fun y e=>?_) (fun y bv e=>?_) fun y bv e=>?_ <;> by_cases hy:y=f
 ·subst hy; rw [jx] at e; exact cC zAr e rfl
 ·rw [d5 hy] at e; rw [if_neg hy]; exact non y e
 ·subst hy; rw [jx] at e; cases e; exact ⟨v,if_pos rfl,r⟩
 ·rw [d5 hy] at e; rw [if_neg hy]; exact val y bv e
 ·exact hy ▸ hf
 ·rw [d5 hy] at e; exact mem y bv e
theorem wrFld_spec {a w:AV} {f:Str} (h:ie a f w S ≠ .stuck):∃ k l,dR a S=some (k,l)/\l.length<=100/\ie a f w S=.ok () ⟨S.loc,S.st.set k (.flds (ly f w l))⟩:=by
 unfold ie at h ⊢
 cases hf:dR a S with
 | none=>rw [hf] at h; exact absurd rfl h
 | some q =>
  obtain ⟨k,l⟩:=q
  rw [hf] at h
  dsimp only at h ⊢
  by_cases hl:zB5 l.length 100=true
  ·exact ⟨k,l,rfl,zA9 hl,by rw [if_pos hl]⟩
  ·rw [if_neg hl] at h; exact absurd rfl h
theorem snd_setAttr {a av:AV} {v w:Value} {f:Str} (F:X.Ok) (hf:f ∈ X.C.P.flds) (I:Inv X S W) (r:RQ X W a v) (ra:VRep X.C W av w):Snd X true RU (setAttr v f w) (ie a f av S) W:=fun hne=>by
 obtain ⟨k,l,hfl,hlen,e⟩:=wrFld_spec hne
 obtain ⟨c,hl,hst⟩:=jR hfl
 obtain ⟨x,ca,d,m,o,rfl,O⟩:=obj_at I (r.look I hl) hst
 obtain ⟨a',N,nm,q,bs,sn,sub,col,dd,k0,k1,k2,k3,k5,mN,z1,_,hC,hN,hfN,⟨hg1,hg2,hg3⟩,_⟩:=(I.st F).cl c O.is.isC
 obtain rfl:=Option.some.inj (O.cls.symm.trans z1)
 have hx:=O.ob
 have hdict:=O.is.dict
 have hxC:x ≠ ca:=fun z=>by
  subst z
  rw [hC] at hx; cases hx
  exact O.is.nocls _ rfl
 refine store_attr PySem.F.store_object hC hN hg3 (hfN f hf) (F.cx.fld f hf) hxC O.inst (fun h' tk' I' hk hsame=>?_) (ns:=l.map (·.1)) (fun y hy=>?_) (by rw [zAe]; exact zAj hlen (by decide))
 ·obtain ⟨oR,e1,e2,e3,e4,e5⟩:=hsame o hx
  have ho:oR=o:=by
   have:=e5 d hdict
   cases o; cases oR
   simp only at e2 e3 e4 this hdict
   subst e2 e3 e4
   rw [this,hdict]
  have hs:∀ b o',b ≠ d->W.h.get? b=some o'->h'.get? b=some o':=fun b o' hb e=>by
   by_cases hbx:b=x
   ·subst hbx
    rw [e] at hx; cases hx
    rw [e1,ho]
   ·exact hk b o' hbx (fun o₀ dx q1 q2=>by
     have q1':W.h.get? x=some o:=hx
     rw [q1] at q1'; cases q1'
     rw [hdict] at q2; cases q2; exact hb) e
  have hns:h'.Ns1 d fun y=>if y=f then some w else m y:=by
   obtain ⟨o',q1,_,_,q4⟩:=I'
   rw [e1] at q1; cases q1
   rw [ho] at q4
   rcases q4 with ⟨q,_⟩ | ⟨d',q,_,q5⟩
   ·rw [hdict] at q; exact cC zAr q rfl
   ·rw [hdict] at q; cases q; exact q5
  have mA:ModA W d h':=⟨fun z=>z.lab (b0 O.lab),hs,hns.elim fun o q=>q.elim fun _ q=>q.elim fun _ q=>⟨o,q.1⟩⟩
  have g:Grow W (W.to h' tk'):=mA.grow
  exact .mk (W':=W.to h' tk') e (I.modL O.lab mA (o:=.flds (ly f av l)) ⟨_,hns,(O.rep.set ra hf).mono g⟩) trivial
 ·cases O.rep with | mk non val mem =>
  cases hg:gw y l with
  | none=>exact absurd (non y hg) hy
  | some av=>exact getF_mem hg
theorem sndS_setFld {x f:Str} {xp ap pos:Pos} {v:Expr} {d dv:D AV} (F:X.Ok) (hf:f ∈ X.C.P.flds) (hsw:swapsWith v (some (.Attribute (.Name x xp) f ap)) pos.line X.env=Pure.pure false)
  (h:jl X (.Name x xp) d) (hv:SndE X v dv):cT X (.Assign [.Attribute (.Name x xp) f ap] v pos) (bM d f dv):=fun hfn S W I=>by
 rw [plainObj_exec_Assign_Attribute _ _ _ _ _ hsw]
 refine .stand (Snd.bind (hv S W I).weak fun a va S₁ WA _ GA rA=>?_)
 rw [assign_Attribute]
 have main:Snd X true RU (do
   let ov ← holding [va] (eval (.Name x xp) X.env)
   standAt ap.atName
   holding [va,ov] (setAttr ov f va)
   release [va,ov] []) (aH d (fun o=>aH (ie o f a) fun _=>af ()) S₁) WA :=
  Snd.bind (h S₁ WA GA.inv).holding fun o vo SA WB _ GB rB=>.stand (Snd.bind (snd_setAttr F hf GB.inv rB (rA.le GB.ext)).holding fun _ _ SB WC _ GC _=>fun _=>wpAny_release (.mk rfl (.refl GC.inv) trivial))
 have e:(aH d fun o=>aH (ie o f a) fun _=>af Fl.next)=aH (aH d fun o=>aH (ie o f a) fun _=>af ()) fun _=>af .next:=by
  rw [bR]; congr 1; funext c; rw [bR]; rfl
 rw [e]
 exact Snd.bind main.weak fun _ _ SA WB _ GB _=>.pure GB.inv trivial
set_option tactic.hygienic true in
theorem snd_meth (F:X.Ok) (hq:X.T.free=true) {o:Expr} {m:Str} {apos pos:Pos} {args:List Expr} {dO:D AV} {ds:List (D AV)} (hm:m ∈ X.C.P.mths) (hM:MtOk o apos pos args) (ho:Snd X true (RQ X) (eval o X.env) (dO S) W) (he:TrE X (RV X) args ds) :
  Snd X true (RV X) (eval (.Call (.Attribute o m apos) args [] pos) X.env) (bz X.T dO m ds S) W:=by
 refine fO hM ho fun a va S₁ WA e₁ GA rA hne=>?_
 have IA:=GA.inv
 cases hlo:gc a S₁ with
 | none=>exact absurd (show ax (iA a S₁) _=_ by unfold iA; rw [hlo]; rfl) hne
 | some o' =>
  have e1:aH (iA a) (methK X.T m ds) S₁=methK X.T m ds o' S₁:=by unfold aH iA; rw [hlo]; rfl
  rw [e1] at hne ⊢
  cases o' <;> first | exact absurd rfl hne | skip
  rename_i c k
  unfold methK at hne ⊢
  dsimp only at hne ⊢
  cases hao:S₁.st[k]? with
  | none=>rw [hao] at hne; exact absurd rfl hne
  | some ao =>
   cases ao with
   | cont cc=>rw [hao] at hne; exact absurd rfl hne
   | flds l =>
    rw [hao] at hne
    dsimp only at hne ⊢
    by_cases hf:(X.T.P.find c m).isSome=true
    case neg=>rw [if_neg hf] at hne; exact absurd rfl hne
    rw [if_pos hf]
    have hob:=rA.look IA hlo
    obtain ⟨x,ca,d,mA,o',rfl,O⟩:=obj_at IA hob hao
    rw [F.P] at hf
    obtain ⟨fn,hfind⟩:=zAx.mp hf
    obtain ⟨a',N,nm,q,bs,sn,sub,col,dd,k0,k1,k2,k3,k5,mN,z1,_,hC,hN,hfN,⟨hg1,hg2,hg3⟩,hms⟩:=(IA.st F).cl c O.is.isC
    obtain rfl:=Option.some.inj (O.cls.symm.trans z1)
    obtain ⟨fa,of,f1,f2,f3,f4⟩:=hms m fn hfind
    have hsh:mA m=none:=by
     cases O.rep with | mk non val mem =>
     cases hgm:gw m l with
     | none=>exact non m hgm
     | some av=>exact absurd (mem m av hgm) (F.cx.mth m hm).2
    exact ⟨.ref fa,[.ref x],fun pl Q E hq=>method_of hC hN hg1 hg2 f2 f3 f4 (F.cx.mth m hm).1 O.inst hsh hq,iO F hq IA hfind f1 (fs:=[.obj c k]) he (VReps.cons hob .nil)⟩
end
section
variable {C:Cx} {X:Fx} {W:Wd} {S:S}
theorem Inv.newObj (I:Inv X S W) {x d:Addr} {o:Obj} {h':Heap} (g:Ge W.h h') (hx:W.h.get? x=none) (hd:W.h.get? d=none) (hne:d ≠ x) (hox:h'.get? x=some o) (hns:h'.Ns1 d fun _=>none) {c:Str} (hi:InstO X.C c d o) :
  ∃ W',W'.s={ W.s with heap:=h' }/\Good X true W ⟨S.loc,S.st++[.flds []]⟩ W'/\VRep X.C W' (.obj c S.st.length) (.ref x):=by
 obtain ⟨od,es,ep,q1,q2⟩:=id hns
 obtain ⟨G,gr⟩:=I.res (ev:=true) (tk:=W.s.toks) g hd q1
 have ho:(W.res h' W.s.toks d).own none=some d:=bT (own:=W.own) (k:=none) (a:=some d)
 have hr:ORep X.C (W.res h' W.s.toks d) d (.flds []):=⟨_,hns,.mk (fun _ _=>rfl) (fun _ _ q=>nomatch q) fun _ _ q=>nomatch q⟩
 have IA:=G.inv
 have GB:Good X true (W.res h' W.s.toks d) ⟨S.loc,S.st++[.flds []]⟩ ((W.res h' W.s.toks d).cel d):=⟨.cel ho,IA.c.cel ho hr,IA.f.mono (.cel ho) (fun _ q=>q) (fun o e=>⟨o,e,rfl⟩) (fun _ _ _ o e=>⟨o,e,rfl⟩) fun y a q=>⟨setV (own:=(W.res h' W.s.toks d).own) (r:=none) q,fun _ _ e=>e⟩⟩
 have fx:=(I.loose hx).fr
 refine ⟨_,rfl,G.trans GB,x,rfl,⟨⟨fun q=>(zA8.mp q).elim fx.oth.lab fun z=>hne (zAf.mp z).symm,fun k q=>?_⟩,fx.tmp,fx.fr⟩,o,d,hox,?_,hi⟩
 ·have q1:=aK (own:=(W.res h' W.s.toks d).own) q
  exact fx.oth.own k ((cu (own:=W.own) (k:=none) (a:=some d) q1.1).symm.trans q1.2)
 ·show (W.labs++[d])[S.st.length]?=some d
  rw [I.c.len]; exact zB2
theorem callW {c:Addr} {rest:List Value}:(Code.builtin "type.__call__" ⟨.ref c::rest,[]⟩).weight=1/\(Code.builtin "type.__call__" ⟨.ref c::rest,[]⟩).envs=[]/\(Code.builtin "type.__call__" ⟨.ref c::rest,[]⟩).cUnits=1:=by
 refine ⟨?_,?_,?_⟩ <;> kernel_rfl
theorem snd_make (F:X.Ok) (hq:X.T.free=true) (I:Inv X S W) {c:Str} (hc:X.C.P.isCls c=true) {ca:Addr} (hca:X.C.clsA c=some ca) {vs:List AV} {args:List Value} (hv:VReps X.C W vs args)
  (hinit:∃ fn,X.C.P.find c "__init__"=some fn):Snd X true (RV X) (call (.ref ca) args) (dMake X.T c vs S) W:=by
 obtain ⟨K,hcall,hmk⟩:=F.make hq
 unfold dMake
 rw [hmk]
 dsimp only
 intro hne
 obtain ⟨fn,hfind⟩:=hinit
 obtain ⟨a',N,nm,q,bs,sn,sub,col,dd,k0,k1,k2,k3,k5,mN,z1,_,hC,hN,hfN,_,hms⟩:=(I.st F).cl c hc
 rw [hca] at z1; cases z1
 obtain ⟨fa,of,f1,f2,f3,f4⟩:=hms _ fn hfind
 have hr:aw X.C.P K (X.n - 4) c "__init__" (.obj c S.st.length::vs) (S.st++[.flds []]) ≠ .stuck:=fun q=>hne (by rw [q]; rfl)
 have h4:4 < X.n:=by
  rcases Nat.lt_or_ge 4 X.n with h | h
  ·exact h
  ·rw [Nat.sub_eq_zero_of_le h] at hr
   exact absurd kF hr
 refine wpAny_call_obj_init PySem.F.objNew hC hN f2 f3 f4 fun h' x dx hm=>?_
 obtain ⟨o,hox,hoc,hond,hod⟩:=id hm.inst
 have hdict:=hm.dict o hox
 have hns:dx ≠ x/\h'.Ns1 dx fun _=>none:=by
  rcases hod with ⟨z,_⟩ | ⟨d',z,z2,z3⟩
  ·rw [hdict] at z; exact cC zAr z rfl
  ·rw [hdict] at z; cases z; exact ⟨z2,z3⟩
 obtain ⟨WB,e₂,GB,hob⟩:=I.newObj (x:=x) (d:=dx) (o:=o) hm.keeps hm.newX hm.newD hns.1 hox hns.2 ⟨⟨ca,hca,hoc⟩,hdict,hond,hc⟩
 have hw:=callW (c:=ca) (rest:=args)
 have hA:X.A.under (.builtin "type.__call__" ⟨.ref ca::args,[]⟩)={ X.A with depth:=X.A.depth+1,guards:=(X.A.under (.builtin "type.__call__" ⟨.ref ca::args,[]⟩)).guards,units:=X.A.units+1 }:=by
  unfold Around.under
  rw [hw.1,hw.2.1,hw.2.2]; rfl
 have hroom:Room (X.A.under (.builtin "type.__call__" ⟨.ref ca::args,[]⟩)) (X.n - 4):=by
  rw [hA]
  have h1:=F.room.1
  have h2:=F.room.2
  exact ⟨by show X.A.depth+1+(X.n - 4)<=900; lia,by show X.A.units+1+4 * (X.n - 4)<=7900; lia⟩
 have hcl:=hcall c "__init__" (.obj c S.st.length::vs) (S.st++[.flds []]) hr (X.A.under (.builtin "type.__call__" ⟨.ref ca::args,[]⟩)) X.frs WB.susp (.ref x::args) fa GB.inv.c.susp (fun _=>rfl) (VReps.mono .susp (VReps.cons hob (hv.le GB.ext))) f1 (F.hd hq) (by rw [hA]; exact F.frames) hroom
 have hz:X.A.handled.isNone=true:=by rw [F.hd hq]; rfl
 have e'A:WB.susp.s={ W.s with heap:=h' }:=e₂
 rw [e'A] at hcl
 refine wpAny_call (codeAny_mono hcl fun res s' hp=>?_)
 cases hp with
 | @ok a st' v W' e xx i oo r =>
  rw [e] at hne ⊢
  cases a <;> first | exact absurd rfl hne | skip
  obtain rfl:=r
  exact ⟨rfl,.mk (W':=WB.back W') rfl (GB.trans (GB.inv.back xx i)) (VRep.mono (GB.inv.back xx i).ext.grow hob)⟩
 | @exc ec st' v W' e xx i oo t =>
  rw [e]
  exact .mk (W':=WB.back W') rfl (GB.trans (GB.inv.back xx i)) (.yes (hz ▸ t.grow (.back GB.inv.c xx) rfl))
theorem om (F:X.Ok) (hq:X.T.free=true) {id:Str} {p pos:Pos} {args:List Expr} {ds:List (D AV)} (hg:bh X.nms id=true) (hc:X.C.P.isCls id=true) (hinit:∃ fn,X.C.P.find id "__init__"=some fn) (h:TrE X (RV X) args ds):SndE X (.Call (.Name id p) args [] pos) (nV X.T id ds):=fun S W I=>by
 obtain ⟨ca,N,nm,q,bs,sn,sub,col,dd,k0,k1,k2,k3,k5,mN,z1,z2,_⟩:=(I.st F).cl id hc
 rw [dz]
 refine .skip (fun _ _ q=>dJ F I hg z2 q) ?_
 unfold callWith
 refine Snd.bind (fN (R:=RV X) (fun r _ x=>VRep.le r x) h I).holding fun b a S' W' hd G' r=>.stand ?_
 simp only [lE h hd,List.any_nil,Bool.or_false]
 obtain ⟨ca',N',nm',q',bs',sn',sub',col',dd',l0,l1,l2,l3,l5,mN',y1,y2,hC',_⟩:=(G'.inv.st F).cl id hc
 rw [z1] at y1; cases y1
 obtain ⟨ap,ak⟩:=a
 obtain ⟨rfl,r⟩:ak=[]/\RLs (RV X) W' b ap:=r
 refine .skip (fun Q E hq=>wpAny_keeperOf_exc hC' hq) ?_
 exact (snd_make F hq G'.inv hc z1 (RLs.v r) hinit).wp fun Q E q=>zAa (zAs q (fun _ _ q=>zAa (zA2 (wpAny_point (zAh q)))) fun _ _ q=>q)
theorem snd_call_fn (F:X.Ok) (hq:X.T.free=true) {id:Str} {p pos:Pos} {args:List Expr} {ds:List (D AV)} {fn:Fn} (hg:bh X.nms id=true) (hf:X.C.P.find ⟨#[]⟩ id=some fn) (h:TrE X (RV X) args ds):SndE X (.Call (.Name id p) args [] pos) (aU X.T id ds):=fun S W I=>by
 obtain ⟨fa,h1,h2⟩:=F.cx.fnG id fn hf
 rw [dz]
 exact .skip (fun _ _ q=>dJ F I hg h2 q) (iO F hq I hf h1 (fs:=[]) h .nil)
end
theorem wp_raiseNew {prog:Program} {w:World} {A:Around} {E:Value->Shared->Prop} {s:Shared} {α:Type} {e:Addr} {Q:α->Shared->Prop} (hh:A.handled=none) (hE:E (.ref e) s):wpAny (model prog w) A (raiseNew (.ref e):Sem α) Q E s:=by
 unfold raiseNew
 refine zAa (wpAny_handled ?_)
 rw [hh]
 first | exact wpAny_throw hE | exact zAa (zAh (wpAny_throw hE))
section
variable {M:Model} {A:Around} {E:Value->Shared->Prop} {env:Env}
variable {nm q:Str} {C N:Addr} {bs bm:List Value} {hdct:Bool} {sn:List Str} {sub:List Value} {ab:Bool} {col:Option Bool} {dd:Option Addr} {k0 k1 k2 k3 k5:Option Value} {newId:String}
theorem oP {s:Shared} {x:Sem Value} {Q:Flow->Shared->Prop} (hbase:bm.contains (.type "BaseException")=true)
  (h:wpAny M A x (fun v s₁=>∃ e t,v=.ref e/\s₁.heap.get? C=some (excClassObj nm q C N bs bm hdct sn sub ab col dd k0 k1 k2 k3 k5 newId) /\
   s₁.heap.get? e=some { cls:=.ref C,data:=.fields #[.ref t,.none,.none,.none,.bool false,.none] }/\wpAny M A (raiseNew (.ref e):Sem Flow) Q E s₁) E s) :
  wpAny M A (raiseStmt env (some x) none) Q E s:=by
 have hcB:(Value.ref C::bm).contains (.type "BaseException")=true:=by rw [List.contains_cons,hbase,Bool.or_true]
 unfold raiseStmt
 refine zAa (zAs h (fun v s₁ h₁=>?_) fun _ _ x=>x)
 obtain ⟨e,t,rfl,hC,he,hE⟩:=h₁
 obtain ⟨hp,g,d,tk,os⟩:=s₁
 repeat (first | with_reducible refine wpAny_loadPart_at he ?_ | with_reducible refine wpAny_loadPart_at hC ?_ | (with_reducible refine wpAny_isSubtype_exc hC ?_; rw [hcB]) | wp_step)
 exact hE
end
section
variable {X:Fx} {W:Wd} {S:S}
inductive XObj (h:Heap) (C:Addr) (bmB:List Value) (newId:String):Prop
 | mk (bm:List Value) (N:Addr) (nm q:Str) (bs:List Value) (hdct:Bool) (sn:List Str) (sub:List Value) (ab:Bool) (col:Option Bool) (dd:Option Addr) (k0 k1 k2 k3 k5:Option Value) (mN:Str->Option Value) (hC:h.get? C=some (excClassObj nm q C N bs bm hdct sn sub ab col dd k0 k1 k2 k3 k5 newId)) (hN:h.Ns N mN) (hni:mN "__init__"=none) (hT:OwnTail h bmB bm)
theorem xobj {x:Str} {C:Addr} {bm:List Value} {newId:String} {mg:Str->Option Value} {h:Heap} (O:OwnCls x C bm newId mg h):XObj h C bm newId:=by
 obtain ⟨tl,N,nm,q,bs,hdct,sn,sub,ab,col,dd,k0,k1,k2,k3,k5,mN,hC,hN,hni,hT⟩:=O.obj
 exact ⟨tl,N,nm,q,bs,hdct,sn,sub,ab,col,dd,k0,k1,k2,k3,k5,mN,hC,hN,hni,hT⟩
noncomputable abbrev xcObj (a t:Addr):Obj:={ cls:=.ref a,data:=.fields #[.ref t,.none,.none,.none,.bool false,.none] }
theorem excO_new {id:Str} {a t:Addr} (hx:X.C.P.isX id=true) (ha:X.C.clsA id=some a):ExcO X.C id (xcObj a t):=⟨⟨a,ha,rfl⟩,⟨rfl,⟨_,rfl⟩,.inl ⟨a,rfl⟩⟩,hx⟩
theorem nc {id m:Str} {k:Nat} {p p' cp:Pos} {Q E:Value->Shared->Prop} (F:X.Ok) (I:Inv X S W) (hx:X.C.P.isX id=true) (hg:bh X.nms id=true)
  (hQ:∀ a h' tk e t,X.C.clsA id=some a->Ge W.h h'->W.h.get? e=none->h'.get? e=some (xcObj a t)->Q (.ref e) { W.s with heap:=h',toks:=tk }):wpAny X.C.M X.A (eval (.Call (.Name id p) [.Constant (.str m) k p'] [] cp) X.env) Q E W.s:=by
 obtain ⟨a,bm,newId,initId,B,hca,hO,hB⟩:=(I.st F).xc.own id hx
 obtain ⟨tl,N,nm,q,bs,hdct,sn,sub,ab,col,dd,k0,k1,k2,k3,k5,mN,hC,hN,hni,hT⟩:=xobj hO
 refine wpAny_Call_ofName (dJ F I hg hO.bound ?_)
 unfold callWith
 refine zAa (zA2 ?_)
 refine Calls.evalArgs_plain (spliced_more (e:=.Constant (.str m) k p') (rest:=[]) ?_)
 refine wpAny_Constant_str ?_
 refine spliced_none ?_
 refine zAa (zCr ?_)
 have hpl:(backTo cp (starEach [Expr.Constant (.str m) k p'] X.env)).any (·.1)=false:=rfl
 simp only [hpl]
 refine zAa (wpAny_keeperOf_exc (C:=a) hC ?_)
 refine zAa (wpAny_call_exc_subT hB hT hC hN hni fun h' e hmade=>zAa (zA2 (wpAny_point (zAh ?_))))
 obtain ⟨t,ht,_,_⟩:=hmade.there
 exact hQ a h' (W.s.toks+1) e t hca hmade.keeps hmade.new ht
theorem snd_newExc {id m:Str} {k:Nat} {p p' cp:Pos} (F:X.Ok) (hx:X.C.P.isX id=true) (hg:bh X.nms id=true):SndE X (.Call (.Name id p) [.Constant (.str m) k p'] [] cp) (dExc id):=fun S W I _ =>
 nc F I hx hg fun a h' tk e t ha g n ht=>.mk (W':=W.to h' tk) rfl (I.ge g tk) ⟨e,rfl,(I.loose n).fr,_,ht,excO_new hx ha⟩
theorem sndS_raise {id m:Str} {k:Nat} {p p' cp pos:Pos} (F:X.Ok) (hq:X.T.free=true) (hx:X.C.P.isX id=true) (hg:bh X.nms id=true) :
  cT X (.Raise (some (.Call (.Name id p) [.Constant (.str m) k p'] [] cp)) none pos) (rais id):=fun hf S W I _=>by
 obtain ⟨a,bm,newId,initId,B,hca,hO,hB⟩:=(I.st F).xc.own id hx
 obtain ⟨tl,N,nm,q,bs,hdct,sn,sub,ab,col,dd,k0,k1,k2,k3,k5,mN,hC,hN,hni,hT⟩:=xobj hO
 rw [arm_exec_Raise]
 refine zAa (zCr ?_)
 refine oP (C:=a) (nm:=nm) (q:=q) (N:=N) (bs:=bs) (bm:=tl) (hdct:=hdct) (sn:=sn) (sub:=sub) (ab:=ab) (col:=col) (dd:=dd) (k0:=k0) (k1:=k1) (k2:=k2) (k3:=k3) (k5:=k5) (newId:=newId) (hT.hasType hB.hasBase) ?_
 refine zAa (nc F I hx hg fun a' h' tk e t ha g n ht=>zAa (zCr (zAh ?_)))
 obtain rfl:=Option.some.inj (hca.symm.trans ha)
 have l:=I.loose n
 exact ⟨e,t,rfl,g _ _ hC,ht,wp_raiseNew (F.hd hq) (.mk (W':=W.to h' tk) rfl (I.ge g tk) (.no ⟨l.st,l.fr⟩ ⟨ht,excO_new hx hca,rfl,fun _=>rfl⟩ rfl))⟩
end
section
variable {X:Fx} {W W₀:Wd} {S:S} {e:Value}
noncomputable abbrev Fx.mark (X:Fx) (e:Value):Fx:=⟨X.C,X.T.inH,X.A.mark (some e),X.env,X.frs,X.fn,X.nms,X.n⟩
theorem Fx.Ok.mark (F:X.Ok):(X.mark e).Ok :=
 { cx:=F.cx,P:=F.P,call:=fun q=>(zAn q).elim,make:=fun q=>(zAn q).elim,hd:=fun q=>(zAn q).elim,frames:=F.frames,kind:=F.kind,loc:=F.loc,cel:=F.cel,glob:=F.glob,fcell:=F.fcell,inj:=F.inj,cl:=F.cl,room:=F.room,globals:=F.globals,builtins:=F.builtins,frm:=F.frm }
theorem Inv.mark (I:Inv X S W):Inv (X.mark e) S W:=⟨I.c,I.f.lc,I.f.ns,I.f.cells,fun x lv h q=>(I.f.vars x lv h q).imp fun v z=>⟨by cases z.1 with
 | loc k n e=>exact .loc k n e
 | cell k l e=>exact .cell k l e,z.2⟩⟩
theorem Inv.unmark (I:Inv (X.mark e) S W):Inv X S W:=⟨I.c,I.f.lc,I.f.ns,I.f.cells,fun x lv h q=>(I.f.vars x lv h q).imp fun v z=>⟨by cases z.1 with
 | loc k n e=>exact .loc k n e
 | cell k l e=>exact .cell k l e,z.2⟩⟩
theorem Good.unmark {ev:Bool} (G:Good (X.mark e) ev W₀ S W):Good X ev W₀ S W:=⟨G.ext,G.inv.unmark⟩
theorem isLo_loc {sc:Sc} {y:Str} (h:isLo sc y=true):sc.lookup y=some .local:=by
 unfold isLo at h
 rw [bK] at h
 have h:=(zAk.mp h).1
 cases e:sc.lookup y with
 | none=>rw [e] at h; exact ff h
 | some k=>rw [e] at h; cases k <;> first | (exact ff h; done) | rfl
structure HOk (X:Fx) (h:ExceptHandler) (q:Str × Option Nat × D Fl):Prop where
 is:∃ p n b₀ bs pos,h=.ExceptHandler (some (.Name q.1 p)) n (b₀::bs) pos/\q.2.1=n.map (fun x=>aV x X.nms)/\(∀ x,n=some x->isLo X.nms x=true)/\∀ e,f8 (X.mark e) (b₀::bs) q.2.2
 isX:X.C.P.isX q.1=true
 glob:bh X.nms q.1=true
theorem asEnd_ok {o:Out Fl} (h:kQ o ≠ .stuck):∃ v S',o=.ok (.ret v) S'/\kQ o=.ok (.ret v) ⟨[],S'.st⟩:=by
 cases o with
 | ok f S'=>cases f with
  | next=>exact absurd rfl h
  | ret v=>exact ⟨v,S',rfl,rfl⟩
 | exc c S'=>exact absurd rfl h
 | stuck=>exact absurd rfl h
theorem Inv.forget (F:X.Ok) (I:Inv X S W) {h':Heap} {m':Str->Option Value} {tk:Nat} (hn:h'.Ns X.env.locals m') (hs:Heap.SameBut X.env.locals W.h h'):Good X false W ⟨[],S.st⟩ (W.to h' tk):=by
 have same:∀ b o,b ≠ X.env.locals->W.h.get? b=some o->h'.get? b=some o:=fun b o hb e=>(hs.2 b hb).trans e
 have hat:∃ o,h'.get? X.env.locals=some o/\∀ vs,o.data ≠ .fields vs:=by
  obtain ⟨o',es,ep,q1,q2,_⟩:=hn
  exact ⟨o',q1,fun vs z=>by rw [q2] at z; exact cC Data.ctorIdx z rfl⟩
 exact ⟨Ext.frm ⟨rfl,.inl rfl⟩ I.f.lc same (hat.imp fun _ q=>q.1),I.c.frm I.f.lc same hat,I.f.lc,⟨m',hn⟩,fun x c e=>⟨(I.f.cells x c e).1,(I.f.cells x c e).2.imp fun _ q=>IsCell.same q fun o z=>⟨o,same c o (F.cl x c e) z,rfl⟩⟩,fun x lv _ e=>nomatch e⟩
theorem noExc_ok {o:Out Fl} (h:j0 o ≠ .stuck):∃ f S',o=.ok f S'/\j0 o=.ok f S':=by
 cases o with
 | ok f S'=>exact ⟨f,S',rfl,rfl⟩
 | exc c S'=>exact absurd rfl h
 | stuck=>exact absurd rfl h
theorem wp_handle (F:X.Ok) (hf:X.fn=true) {c:Str} {v:Value} {hs:List ExceptHandler} {hs':Hs} (h:F2 (HOk X) hs hs') (G:Good X false W₀ S W) (t:IsTraced X.A.handled.isNone X.C W c v) (hne:eY X.T.P.sub c S hs' ≠ .stuck) :
  wpAny X.C.M X.A (handleBy v X.env hs) (OkP X false (RF X) W₀ (eY X.T.P.sub c S hs')) (ErP X false W₀ (eY X.T.P.sub c S hs')) W.s:=by
 induction h with
 | nil=>exact wpAny_handleBy_nil (m7 (.refl G.inv) t fun W' G' t'=>.mk rfl (G.trans G'.weak) (.yes t'))
 | @cons h₀ q r r' h t' ih =>
  obtain ⟨d,k,b⟩:=q
  obtain ⟨⟨p,nm,b₀,bs,pos,rfl,hkn,hlo,hsb⟩,hxd,hgd⟩:=h
  have hkn:k=nm.map fun x=>aV x X.nms:=hkn
  subst hkn
  have I:=G.inv
  cases t with
  | @mk e T oe oT vs ts fl l lT x tb =>
  refine wpAny_handleBy_cons ?_ (by intro q; exact cC Value.ctorIdx q rfl)
  obtain ⟨a,hca,hoc⟩:=x.is.cls
  obtain ⟨bd,_,_,_,_,hbd,hOd,_⟩:=(I.st F).xc.own d hxd
  refine codeAny_handlers_test (dJ (X:=X.mark (.ref e)) F.mark I.mark hgd hOd.bound ?_)
  refine (I.st F).xc.mat c d a bd x.is.isX hxd hca hbd e oe _ _ _ W.s rfl x.obj hoc ?_
  have ho:eY X.T.P.sub c S ((d,nm.map (fun x=>aV x X.nms),b)::r')=if X.T.P.sub c d then hdl c b S (nm.map fun x=>aV x X.nms) else eY X.T.P.sub c S r':=rfl
  rw [ho,F.P] at hne ⊢
  cases hm:X.C.P.sub c d with
  | false =>
   rw [hm,if_neg zAn] at hne
   rw [if_neg zAn]
   rw [← F.P] at hne ⊢
   exact ih hne
  | true =>
   rw [hm,if_pos rfl] at hne
   rw [if_pos rfl]
   cases nm with
   | none =>
    have hne:j0 (b S) ≠ .stuck:=hne
    show codeAny _ _ _ _ _
    obtain ⟨f,S',e1,e2⟩:=noExc_ok hne
    refine codeAny_handlers_suite (cf (X:=X.mark (.ref e)) (.refl I.mark) (.mk l lT x tb) fun WA GA tA=>?_)
    have hrun:=hsb (.ref e) hf S WA GA.inv (show b S ≠ _ by rw [e1]; exact nofun)
    dsimp only at hrun
    rw [show hdl c b S (Option.map (fun x=>aV x X.nms) none)=j0 (b S) from rfl,e2]
    rw [e1] at hrun
    refine zAs hrun (fun fl sA q=>?_) fun _ _ q=>?_
    ·cases q with | mk e g r=>exact .mk e (G.trans (GA.weak.trans g).unmark) r
    ·cases q with | mk e g t=>exact cC Out.ctorIdx e rfl
   | some y =>
    have hne:kQ (b ⟨ah (aV y X.nms) (.val (.exc c)) S.loc,S.st⟩) ≠ .stuck:=hne
    obtain ⟨v,S',e1,e2⟩:=asEnd_ok hne
    have hly:=hlo y rfl
    refine codeAny_handlers_suite_as (cf (X:=X.mark (.ref e)) (.refl I.mark) (.mk l lT x tb) fun WA GA tA=>?_)
    rw [show hdl c b S (Option.map (fun x=>aV x X.nms) (some y))=kQ (b ⟨ah (aV y X.nms) (.val (.exc c)) S.loc,S.st⟩) from rfl,e2]
    have rA:VRep X.C WA (.exc c) (.ref e):=by cases tA with | mk l₁ _ xA _=>exact ⟨e,rfl,l₁.fr,_,xA.obj,xA.is⟩
    refine zAs (iT (X:=X.mark (.ref e)) F.mark GA.inv (.inl (isLo_loc hly)) rA nofun) (fun _ s₂ q=>?_) fun _ _ q=>?_
    ·cases q with
     | @mk u SA WB e₂ g₂ _ =>
     obtain rfl:SA=⟨ah (aV y X.nms) (.val (.exc c)) S.loc,S.st⟩:=by cases e₂; rfl
     have hrun:=hsb (.ref e) hf _ WB g₂.inv (show b _ ≠ _ by rw [e1]; exact nofun)
     dsimp only at hrun
     rw [e1] at hrun
     refine zAs hrun (fun fl sA q=>?_) fun _ _ q=>?_
     ·cases q with
      | @mk f' SB WC e₃ g₃ rC =>
      cases e₃
      have GC:Good X false W₀ S' WC:=G.trans (GA.weak.trans (g₂.trans g₃)).unmark
      obtain ⟨mm,hns⟩:=GC.inv.f.ns
      refine wpAny_nameGoes (F.loc y (isLo_loc hly)) hns (by rw [F.kind]; rfl) fun h' m' hn' hs'=>?_
      have G₄:=Inv.forget (tk:=WC.s.toks+1) F GC.inv hn' hs'
      cases fl <;> first | exact rC.elim | skip
      exact .mk rfl (GC.trans G₄) (VRep.mono G₄.ext.grow rC)
     ·cases q with | mk e g t=>exact cC Out.ctorIdx e rfl
    ·cases q with | mk e g t=>exact cC Out.ctorIdx e rfl
theorem sndS_try (F:X.Ok) {body:List Stmt} {hs:List ExceptHandler} {hs':Hs} {pos:Pos} {db:D Fl} (hb:f8 X body db) (hh:F2 (HOk X) hs hs') (h0:hs ≠ []):cT X (.Try body hs [] [] pos) (j7 X.T db hs'):=fun hf S W I=>by
 obtain ⟨h₀,r,rfl⟩:∃ h₀ r,hs=h₀::r:=by cases hs with | nil=>exact absurd rfl h0 | cons a b=>exact ⟨a,b,rfl⟩
 have hrun:=hb hf S W I
 unfold j7
 intro hne
 have h1:db S ≠ .stuck:=fun q=>hne (by rw [q]; rfl)
 refine wpAny_Try_except (zAs (hrun h1) (fun fl s₁ q=>?_) fun e s₁ q=>?_)
 ·cases q with
  | @mk f S₁ WA e g r =>
  have e':tryO X.T (db S) hs'=.ok f S₁:=by rw [e]; rfl
  rw [e']
  cases fl with
  | next=>rw [execs_nil]; exact zAh (.mk rfl g r)
  | _=>exact .mk rfl g r
 ·cases q with
  | @mk c S₁ WA e g t =>
  have e':tryO X.T (db S) hs'=eY X.T.P.sub c S₁ hs':=by rw [e]; rfl
  rw [e'] at hne ⊢
  exact c6 F (.refl g.inv) t fun WB GB tC=>cf (.refl GB.inv) tC fun WC GC tD=>wp_handle F hf hh (g.trans (GB.trans GC).weak) tD hne
theorem sndS_expr (F:X.Ok) {f:Expr} {args:List Expr} {kws:List Keyword} {p pos:Pos} {d:D AV} (h:SndE X (.Call f args kws p) d):cT X (.Expr (.Call f args kws p) pos) (cX d):=fun hf S W I=>by
 have hi:interactive X.env=false:=by unfold interactive; rw [F.kind]; rfl
 rw [exec_Expr _ _ _ hi rfl]
 exact .stand (Snd.bind (h S W I).weak fun a va S₁ WA _ GA rA=>fun _=>wpAny_dropValue (.mk rfl (.refl GA.inv) trivial))
end
noncomputable def ib:Ty->String
 | .tuple=>"tuple" | .int=>"int" | .bool=>"bool" | .str=>"str" | .dict=>"dict"
theorem tyNames_std {t:Str} {k:Ty} (h:aR t tyNames=some k):stdNames.lookup t=some (.type (ib k)):=by
 rw [bK] at h
 exact zCz.mp (show (tyNames.map fun q=>stdNames.lookup q.1)=tyNames.map fun q=>some (.type (ib q.2)) by kernel_rfl) _ (mem_of_lookup h)
noncomputable def tyNs:Nat->String
 | 0=>"NoneType" | 1=>"bool" | 2=>"int" | 3=>"str" | 4=>"tuple" | 5=>"list" | _=>"dict"
theorem ty_meta (t:Ty):typeOf (.type (ib t))=Pure.pure (.type "type"):=by cases t <;> kernel_rfl
noncomputable abbrev SubT (n:Nat) (t:Ty):Prop:=isSubtype (.type (tyNs n)) (.type (ib t))=Pure.pure (subN n t.no)/\(subN n t.no=true ∨ (Value.type (tyNs n) == Value.type (ib t))=false)
theorem sub_tab (t:Ty):∀ n,n<=6->SubT n t
 | 0,_ | 1,_ | 2,_ | 3,_ | 4,_ | 5,_ | 6,_=>by cases t <;> exact ⟨by rw [isSubtype_type]; kernel_rfl,by decide +kernel⟩
 | n+7,h=>absurd h (by lia)
section
variable {C:Cx} {A:Around} {W:Wd}
theorem Made.boolk {b:Bool} {tk:Nat}:Made C W (.bool b) (.bool b) { W.s with toks:=tk }:=.val (h:=W.h) (tk:=tk) .refl rfl rfl
theorem isi_no {a:AV} {v:Value} {t:Ty} {E:Value->Shared->Prop} (r:RP C W a v) (h:zB5 (tyNo a) 6=true):W.s.TypeIs v (tyNs (tyNo a))/\((Value.type (tyNs (tyNo a)) == Value.type (ib t))=false->isSubtype (.type (tyNs (tyNo a))) (.type (ib t))=Pure.pure false->wpAny C.M A (call (.builtin "isinstance") [v,.type (ib t)]) (Made C W (.bool false)) E W.s):=by
 have hm:=ty_meta t
 have fin:∀ tk,Made C W (.bool false) (.bool false) { W.s with toks:=tk }:=fun tk=>.boolk
 cases a <;> first | exact ff h | skip
 ·obtain rfl:=gT r rfl
  exact ⟨rfl,fun hq hs=>call_isinstance (isinstance_false_none hq hm hs) (fin _)⟩
 ·obtain rfl:=r.bool
  exact ⟨rfl,fun hq hs=>call_isinstance (isinstance_false_bool hq hm hs) (fin _)⟩
 ·obtain ⟨_,rfl⟩:=r.int
  exact ⟨rfl,fun hq hs=>call_isinstance (isinstance_false_int hq hm hs) (fin _)⟩
 ·obtain ⟨_,_,rfl⟩:=r.str
  exact ⟨rfl,fun hq hs=>call_isinstance (isinstance_false_str hq hm hs) (fin _)⟩
 ·obtain ⟨ad,rfl,vs,m,ho,hsz,hv⟩:=r.tup
  exact ⟨⟨_,ho,rfl⟩,fun hq hs=>call_isinstance (isinstance_false_tuple hq hm hs) ⟨⟨_,ho,rfl⟩,fin _⟩⟩
 ·obtain ⟨ad,rfl,vs,m,ho,hsz,hv⟩:=r.lst
  exact ⟨⟨_,ho,rfl⟩,fun hq hs=>call_isinstance (isinstance_false_list hq hm hs) ⟨⟨_,ho,rfl⟩,fin _⟩⟩
 ·obtain ⟨ad,rfl,o,ss,ws,ho,hns,rfl,hD,hv⟩:=r.dct
  have hc:o.cls=.type "dict":=by obtain ⟨es,ep,h1,_⟩:=hD.is; exact h1.1
  exact ⟨⟨_,ho,hc⟩,fun hq hs=>call_isinstance (isinstance_false_dict hq hm hs) ⟨⟨_,ho,hc⟩,fin _⟩⟩
theorem wp_isi {a:AV} {v:Value} {t:Ty} {b:Bool} {E:Value->Shared->Prop} (r:RP C W a v) (h:jq t a=some b) :
  wpAny C.M A (call (.builtin "isinstance") [v,.type (ib t)]) (Made C W (.bool b)) E W.s:=by
 obtain ⟨hk,rfl⟩:=be h
 obtain ⟨hs,hq⟩:=sub_tab t _ (zA9 hk)
 obtain ⟨h1,h2⟩:=isi_no (A:=A) (t:=t) (E:=E) r hk
 cases hb:subN (tyNo a) t.no with
 | true=>rw [hb] at hs; exact call_isinstance_yes h1 (ty_meta t) hs .boolk
 | false =>
  rw [hb] at hs hq
  exact h2 (hq.resolve_left zAn) hs
end
section
variable {X:Fx} {W:Wd} {S:S}
theorem bind_pur {α:Type} {o:Out α}:ax o af=o:=by cases o <;> rfl
structure IsiOk (X:Fx) (t:Str) (f:AV->Option Bool) (tv:Value):Prop where
 nm:∀ {S:Mine.S} {W:Wd} {p:Pos} {Q E:Value->Shared->Prop},Inv X S W->Q tv W.s->wpAny X.C.M X.A (eval (.Name t p) X.env) Q E W.s
 is:∀ {S:Mine.S} {W:Wd} {a:AV} {v:Value} {b:Bool} {E:Value->Shared->Prop},Inv X S W->RP X.C W a v->f a=some b->wpAny X.C.M X.A (call (.builtin "isinstance") [v,tv]) (Made X.C W (.bool b)) E W.s
theorem isi_ty (F:X.Ok) {t:Str} {k:Ty} (hgt:bh X.nms t=true) (hnt:fU (bV X.C.P t)=true) (hk:aR t tyNames=some k):IsiOk X t (jq k) (.type (ib k)) :=
 ⟨fun I q=>bU F I hgt (F.cx.std t _ (tyNames_std hk) hnt) q,fun _ r h=>wp_isi r h⟩
theorem exc_at {C:Cx} {W:Wd} {c:Str} {v:Value} (r:RP C W (.exc c) v):∃ e o a,v=.ref e/\W.h.get? e=some o/\C.clsA c=some a/\o.cls=.ref a:=by
 cases r with
 | con _ r=>exact r.elim
 | val r =>
  obtain ⟨e,rfl,_,o,h1,h2⟩:=r
  obtain ⟨a,h3,h4⟩:=h2.cls
  exact ⟨e,o,a,rfl,h1,h3,h4⟩
theorem isi_ve (F:X.Ok) {t:Str} (hgt:bh X.nms t=true) (hnt:fU (bV X.C.P t)=true) (hk:seq t "ValueError"=true):IsiOk X t (isiV X.C.P) (.type "ValueError") :=
 ⟨fun I q=>bU F I hgt (F.cx.std t _ (by rw [seq_iff.mp hk]; kernel_rfl) hnt) q,fun {S W a v b E} I r h=>by
  cases a <;> first | (exact aC h; done) | skip
  obtain ⟨hx,rfl⟩:=be h
  obtain ⟨e,o,a,rfl,h1,h2,h3⟩:=exc_at r
  exact (I.st F).xc.isv _ a hx h2 e o _ _ _ W.s rfl h1 h3 fun tk=>.boolk⟩
theorem oy (F:X.Ok) {id t:Str} {f:AV->Option Bool} {tv:Value} {p q pos:Pos} {e:Expr} {d:D AV} (hg:bh X.nms id=true) (hid:seq id "isinstance"=true) (hno:fU (bV X.C.P id)=true) (hT:IsiOk X t f tv) (he:ArgE X (RQ X) e d):SndE X (.Call (.Name id p) [e,.Name t q] [] pos) (fE d f):=fun S W I=>by
 by_cases hst:PySem.W.isStarred e=true
 ·rw [he.star hst]; exact .stk
 rw [dz]
 refine .skip (fun _ _ q=>bU F I hg (F.cx.std id (.builtin "isinstance") (by rw [seq_iff.mp hid]; kernel_rfl) hno) q) ?_
 have key:Snd X true (fun W b a=>a.kw=[]/\∃ v,a.pos=[v,tv]/\RQ X W b v) (evalArgs (.builtin "isinstance") true (backTo pos (starEach [e,.Name t q] X.env)) []) (d S) W:=by
  rw [bN hst,bN (e:=.Name t q) (fun z=>nomatch z)]
  have key:Snd X true (fun W b a=>∃ v,a=[v,tv]/\RQ X W b v) (spliced (backTo pos ((false,eval e X.env)::(false,eval (.Name t q) X.env)::starEach [] X.env))) (ax (d S) af) W :=
   Snd.bind (he.snd S W I) fun a va S₁ WA _ GA rA=>.skip (a:=_) (fun _ _ q=>zAh q) (.skip (a:=[tv]) (fun Q E q=>zA2 (zAa (hT.nm GA.inv (zAa (zAh (zAa (zA2 (zAh (zAh q))))))))) (.pure GA.inv ⟨va,rfl,rA⟩))
  rw [bind_pur] at key
  exact fun hne=>Calls.evalArgs_plain (zAs (key hne) (fun vs s' q=>by cases q with | mk e g r=>exact .mk e g ⟨rfl,r⟩) fun _ _ q=>q)
 unfold callWith
 refine Snd.bind key.holding fun a ar S₁ WA _ GA rA=>.stand ?_
 obtain ⟨ap,ak⟩:=ar
 obtain ⟨rfl,v,rfl,rA⟩:ak=[]/\∃ v,ap=[v,tv]/\RQ X WA a v:=rA
 have hpl:(backTo pos (starEach [e,.Name t q] X.env)).any (·.1)=false:=by
  rw [bN hst]; rfl
 simp only [hpl,List.any_nil,Bool.or_false]
 refine .skip (a:=.machine) (fun _ _ q=>zAh q) (.deref GA.inv rA fun c rc=>?_)
 refine Snd.wp ((Snd.made GA.inv fun b hb=>?_).freeze:Snd X true (RV X) (call (.builtin "isinstance") [v,tv]) (Mine.opt ((f c).map .bool) S₁) WA) fun Q E q=>zAa (zAs q (fun _ _ q=>zAa (zA2 (wpAny_point (zAh q)))) fun _ _ q=>q)
 obtain ⟨b',hb',rfl⟩:=zAo.mp hb
 exact hT.is GA.inv rc hb'
end
theorem sndO_some {X:Fx} {e:Expr} {d:D AV} (h:SndE X e d):l7 X (some e) d:=fun S W I=>h S W I
noncomputable def SlOk:Expr->Prop
 | .Slice lo hi _ _=>∀ X:Fx,X.Ok->l7 X lo (evo X.T lo X.nms)/\l7 X hi (evo X.T hi X.nms)
 | .Attribute v _ _=>∀ X:Fx,X.Ok->jl X v (ev X.T v .p X.nms)/\SndE X v (ev X.T v .v X.nms)
 | .Call (.Attribute o _ _) _ _ _=>∀ X:Fx,X.Ok->SndE X o (ev X.T o .v X.nms)
 | _=>True
structure Gd (e:Expr):Prop where
 v:∀ X:Fx,X.Ok->SndE X e (ev X.T e .v X.nms)
 p:∀ X:Fx,X.Ok->jl X e (ev X.T e .p X.nms)
 i:∀ X:Fx,X.Ok->X.T.free=true->SndI X e (ev X.T e .i X.nms)
 t:∀ X:Fx,X.Ok->SndT X e (ev X.T e .v X.nms)
 m:∀ X:Fx,X.Ok->eT X.T.P e=true->SndM X e (ev X.T e .v X.nms)
 st:PySem.W.isStarred e=true->∀ T md sc,ev T e md sc=stk
 sl:SlOk e
section
variable {X:Fx} {W:Wd} {S:S}
noncomputable abbrev jp (e:Expr):Prop:=∀ env w,isTrue e env w=(do let v ← w; standAt e.pos; PySem.holding [v] (truthy v))
theorem nY {e:Expr} {d:D AV} (h:SndE X e d) (he:jp e):SndT X e d:=fun S W I=>by
 rw [he]
 exact Snd.bind (h S W I) fun a va S₁ WA _ GA rA=>.stand (iy GA.inv rA).holding
theorem post_stk {md:Md}:cJ md stk=stk:=by cases md <;> rfl
theorem bA {e:Expr} (h:∀ T md sc,ev T e md sc=stk) (hsl:SlOk e:=by trivial):Gd e where
 v:=fun X F S W I=>by rw [h]; exact .stk
 p:=fun X F S W I=>by rw [h]; exact .stk
 i:=fun X F _ S W I=>by rw [h]; exact .stk
 t:=fun X F S W I=>by rw [h]; exact .stk
 m:=fun X F _ S W I=>by rw [h]; exact .stk
 st:=fun _=>h
 sl:=hsl
inductive Is (X:Fx) (e:Expr):Prop
 | val (d:D AV) (h1:∀ md,ev X.T e md X.nms=cJ md d) (h2:SndE X e d) (h3:eT X.T.P e=true->SndM X e d) (h4:SndT X e d)
 | it (h1:ev X.T e .v X.nms=stk) (h2:ev X.T e .p X.nms=stk) (h3:X.T.free=true->SndI X e (ev X.T e .i X.nms))
theorem dj {e:Expr} (h:∀ X:Fx,X.Ok->Is X e) (hs:PySem.W.isStarred e=false) (hsl:SlOk e:=by trivial):Gd e where
 v:=fun X F=>by
  cases h X F with
  | val d h1 h2 h3 h4=>rw [h1]; exact h2
  | it h1 h2 h3=>rw [h1]; exact fun _ _ _=>.stk
 p:=fun X F=>by
  cases h X F with
  | val d h1 h2 h3 h4=>rw [h1]; exact h2.p
  | it h1 h2 h3=>rw [h2]; exact fun _ _ _=>.stk
 i:=fun X F hq=>by
  cases h X F with
  | val d h1 h2 h3 h4=>rw [h1]; exact sndI_val F hq h2
  | it h1 h2 h3=>exact h3 hq
 t:=fun X F=>by
  cases h X F with
  | val d h1 h2 h3 h4=>rw [h1]; exact h4
  | it h1 h2 h3=>rw [h1]; exact fun _ _ _=>.stk
 m:=fun X F hm=>by
  cases h X F with
  | val d h1 h2 h3 h4=>rw [h1]; exact h3 hm
  | it h1 h2 h3=>rw [h1]; exact fun _ _ _=>.stk
 st:=fun q=>by rw [hs] at q; exact ff q
 sl:=hsl
theorem Is.stk' {e:Expr} (h:∀ md,ev X.T e md X.nms=stk):Is X e:=.val stk (fun md=>by rw [h,post_stk]) (fun _ _ _=>.stk) (fun _ _ _ _=>.stk) fun _ _ _=>.stk
theorem Is.e {e:Expr} (d:D AV) (h1:∀ md,ev X.T e md X.nms=cJ md d) (h2:SndE X e d) (hm:eT X.T.P e=false) (he:jp e):Is X e:=.val d h1 h2 (fun q=>by rw [hm] at q; exact ff q) (nY h2 he)
theorem Is.m {e:Expr} (d:D AV) (h1:∀ md,ev X.T e md X.nms=cJ md d) (h2:SndM X e d) (he:jp e):Is X e:=.val d h1 h2.v (fun _=>h2) (nY h2.v he)
theorem n8 {T:Ctx} {sc:Sc} {md:Md} {R:Expr->D AV->Prop}:∀ {es:List Expr},(∀ e ∈ es,R e (ev T e md sc))->F2 R es (evs T es md sc)
 | [],_=>.nil
 | e::r,h=>.cons (h e zAb) (n8 fun e' he=>h e' (zAc _ he))
theorem trL_of {R:Wd->AV->Value->Prop} {T:Ctx} {sc:Sc} {md:Md}:∀ {es:List Expr},(∀ e ∈ es,∀ S W,Inv X S W->Snd X true R (eval e X.env) (ev T e md sc S) W)->TrL X R (evalEach es X.env) (evs T es md sc)
 | [],_=>.nil
 | e::r,h=>.cons (h e zAb) (trL_of fun e' he=>h e' (zAc _ he))
theorem trT_of {es:List Expr} (h:∀ e ∈ es,Gd e) (F:X.Ok):TrT X es (evs X.T es .v X.nms):=n8 fun e he=>(h e he).t X F
theorem kS {es:List Expr} (h:∀ e ∈ es,Gd e) (F:X.Ok):TrE X (RV X) es (evs X.T es .v X.nms):=n8 fun e he=>⟨(h e he).v X F,fun q=>(h e he).st q _ .v _⟩
theorem trE_ofP {es:List Expr} (h:∀ e ∈ es,Gd e) (F:X.Ok):TrE X (RQ X) es (evs X.T es .p X.nms):=n8 fun e he=>⟨(h e he).p X F,fun q=>(h e he).st q _ .p _⟩
theorem celIf_stk {b:Bool}:mZ b stk=stk:=by cases b <;> rfl
theorem jC {b:Bool} {e:Expr} {d:D AV} (hv:SndE X e d) (hm:b=true->SndM X e d):SndE X e (mZ b d):=fun S W I=>by
 cases b with
 | false=>exact hv S W I
 | true=>exact (hm rfl S W I).toCel
theorem trE_ofC (F:X.Ok):∀ {es:List Expr},(∀ e ∈ es,Gd e)->TrE X (RV X) es (evcs X.T es X.nms)
 | [],_=>.nil
 | e::r,h =>
  have g:=h e zAb
  .cons ⟨jC (g.v X F) (fun q=>g.m X F q),fun q=>by rw [g.st q,celIf_stk]⟩ (trE_ofC F fun e' he=>h e' (zAc _ he))
theorem kT {T:Ctx} {sc:Sc} {md:Md}:∀ {es:List Expr},(evs T es md sc).length=es.length
 | []=>rfl
 | e::r=>congrArg Nat.succ (kT (es:=r))
theorem marked_set {op:CmpOp} {e:Expr} {t:Sem Value} (h:∀ a b c,e ≠ .Set a b c):markedBehindIn op e t=t:=by
 unfold markedBehindIn
 rw [show behindInMarks op e=false from by cases e <;> first | rfl | exact absurd rfl (h _ _ _)]
theorem oI {o:Option Expr} (h:∀ e,o=some e->Gd e) (F:X.Ok):l7 X o (evo X.T o X.nms):=by
 cases o with
 | none=>exact sndO_none
 | some e=>exact sndO_some ((h e rfl).v X F)
theorem gd_name {x:Str} {p:Pos}:Gd (.Name x p) where
 v:=fun X F=>(ja F).1
 p:=fun X F=>(ja F).2
 i:=fun X F hq=>sndI_val F hq (ja F).1
 t:=fun X F=>nY (ja F).1 fun _ _=>rfl
 m:=fun _ _ q=>nomatch q
 st:=fun q=>nomatch q
 sl:=trivial
theorem guard_pos {α:Type} {b:Bool} {d:D α} (h:b=true):bI b d=d:=by subst h; rfl
theorem a8 {α:Type} {b:Bool} {d:D α} (h:¬ b=true):bI b d=stk:=by
 cases b with
 | true=>exact absurd rfl h
 | false=>rfl
theorem one1_spec {ds:List (D AV)} (f:D AV->D AV) (h:∀ d,ds ≠ [d]):one1 ds f=stk:=by
 match ds with
 | []=>rfl
 | [d]=>exact absurd rfl (h d)
 | _::_::_=>rfl
theorem one1_evs {T:Ctx} {sc:Sc} {md:Md} {es:List Expr} (f:D AV->D AV) (h:¬ ∃ e,es=[e]):one1 (evs T es md sc) f=stk :=
 one1_spec f fun d q=>h (by
  have:=congrArg List.length q
  rw [kT] at this
  exact List.length_eq_one_iff.mp this)
noncomputable def CalOk (X:Fx) (id:Str):Callee->Prop
 | .fn=>bh X.nms id=true/\∃ fn,X.C.P.find ⟨#[]⟩ id=some fn
 | .cls=>bh X.nms id=true/\X.C.P.isCls id=true
 | .xcls=>bh X.nms id=true/\X.C.P.isX id=true
 | .bi b=>bh X.nms id=true/\fU (bV X.C.P id)=true/\aR id X.C.P.bi=some b
 | .it k=>bh X.nms id=true/\fU (bV X.C.P id)=true/\aR id itNames=some k
 | .isi=>bh X.nms id=true/\fU (bV X.C.P id)=true/\seq id "isinstance"=true
 | .no=>True
theorem eM (F:X.Ok) {id:Str}:CalOk X id (calleeOf X.T.P id X.nms):=by
 rw [F.P]
 unfold calleeOf
 by_cases hg:bh X.nms id=true
 case neg=>rw [if_neg hg]; trivial
 rw [if_pos hg]
 by_cases hn:fU (bV X.C.P id)=true
 ·rw [if_pos hn]
  unfold biCal
  cases hb:aR id X.C.P.bi with
  | some b=>exact ⟨hg,hn,hb⟩
  | none =>
   rw [Option.elim_none]
   cases hi:aR id itNames with
   | some k=>exact ⟨hg,hn,hi⟩
   | none =>
    rw [Option.elim_none]
    by_cases hs:seq id "isinstance"=true
    ·rw [if_pos hs]; exact ⟨hg,hn,hs⟩
    ·rw [if_neg hs]; trivial
 ·rw [if_neg hn]
  unfold bV
  by_cases h1:X.C.P.hasFn id=true
  ·rw [if_pos h1]; exact ⟨hg,zAx.mp h1⟩
  rw [if_neg h1]
  by_cases h2:X.C.P.isCls id=true
  ·rw [if_pos h2]; exact ⟨hg,h2⟩
  rw [if_neg h2]
  by_cases h3:X.C.P.isX id=true
  ·rw [if_pos h3]; exact ⟨hg,h3⟩
  ·rw [if_neg h3]; trivial
end
section
variable {X:Fx} {W:Wd} {S:S}
theorem kb {args:List Expr} {t:Str} (h:fK args=some t):∃ e q,args=[e,.Name t q]:=by
 match args,h with
 | [e,f],h=>obtain ⟨p,rfl⟩:=ce h; exact ⟨e,p,rfl⟩
theorem jV {args:List Expr} (h:oneLit args=true):∃ m k p,args=[.Constant (.str m) k p]:=by
 match args,h with
 | [e],h =>
  obtain ⟨x,hx⟩:=zAx.mp (show (litE e).isSome=true from h)
  obtain ⟨y,h4,_⟩:=zAi.mp hx
  obtain ⟨k,q',rfl⟩:=mQ h4
  exact ⟨y,k,q',rfl⟩
theorem zeroC_spec {c:Const} (h:zeroC c=true):c=.int 0:=by
 cases c <;> first | (exact ff h; done) | exact congrArg _ (of_decide_eq_true h)
theorem isDef0_spec {kws:List Keyword} (h:oJ kws=true):∃ k p kp,kws=[kwD k p kp]:=by
 match kws,h with
 | [⟨a,v,kp⟩],h =>
  obtain ⟨h1,h2⟩:=zAk.mp (show ((a.elim false fun a=>seq a "default") && oE v)=true from h)
  cases a with
  | none=>exact ff h1
  | some a =>
   obtain rfl:=seq_iff.mp (show seq a "default"=true from h1)
   cases hv:conE v with
   | none=>unfold oE at h2; rw [hv] at h2; exact ff h2
   | some c =>
   unfold oE at h2; rw [hv] at h2
   obtain ⟨k,p,rfl⟩:=m8 hv
   obtain rfl:=zeroC_spec h2
   exact ⟨k,p,kp,rfl⟩
noncomputable abbrev i4 (id:Str) (p:Pos) (args:List Expr) (pos:Pos):Expr:=.Call (.Name id p) args [] pos
theorem mk_own {P:Pg} {id:Str} {p pos:Pos} {args:List Expr} {kws:List Keyword} (h:fU (bV P id)=false):eT P (.Call (.Name id p) args kws pos)=false:=by
 show (fU (bV P id) && _)=false
 rw [h]; rfl
theorem mk_it {P:Pg} {id:Str} {p pos:Pos} {args:List Expr} {kws:List Keyword} (h:aR id P.bi=none):eT P (.Call (.Name id p) args kws pos)=false:=by
 show (_ && (aR id P.bi).elim false (·.cont))=false
 rw [h]; exact Bool.and_false _
theorem attE_some {e:Expr} {x:Expr × Str} (h:attE e=some x):∃ p,e=.Attribute x.1 x.2 p:=by
 unfold attE at h
 by_cases q:e.ctorIdx=20
 ·rw [dif_pos q] at h
  exact Expr.Attribute.elim (motive_1:=fun e=>∀ q:e.ctorIdx=20,Expr.Attribute.elim (motive_1:=fun _=>Option (Expr × Str)) e q (fun v m _=>some (v,m))=some x->∃ p,e=.Attribute x.1 x.2 p) e q (fun v m p _ h=>⟨p,by cases Option.some.inj h; rfl⟩) q h
 ·rw [dif_neg q] at h; exact aC h
theorem itmArg_spec {args:List Expr} (h:lA args=true):∃ o apos pos,args=[.Call (.Attribute o "items" apos) [] [] pos]:=by
 match args,h with
 | [e],h =>
  have h:((callE e).elim false fun t=>t.2.1.isEmpty && t.2.2.isEmpty && (attE t.1).elim false fun q=>seq q.2 "items")=true:=h
  cases hc:callE e with
  | none=>rw [hc] at h; exact ff h
  | some t =>
   rw [hc] at h
   obtain ⟨pos,rfl⟩:=ip hc
   obtain ⟨f,as,ks⟩:=t
   obtain ⟨h,h3⟩:=zAk.mp h
   obtain ⟨h1,h2⟩:=zAk.mp h
   obtain rfl:=zBy.mp h1
   obtain rfl:=zBy.mp h2
   cases hn:attE f with
   | none=>rw [show attE (f,([]:List Expr),([]:List Keyword)).1=none from hn] at h3; exact ff h3
   | some q =>
    rw [show attE (f,([]:List Expr),([]:List Keyword)).1=some q from hn] at h3
    obtain ⟨apos,rfl⟩:=attE_some hn
    exact ⟨q.1,apos,pos,by rw [← seq_iff.mp h3]⟩
set_option tactic.hygienic true in
theorem is_call (F:X.Ok) {id:Str} {p pos:Pos} {args:List Expr} (h:∀ e ∈ args,Gd e):Is X (i4 id p args pos):=by
 have hsp:=eM F (id:=id)
 have hev:∀ md,ev X.T (i4 id p args pos) md X.nms=callK X.T md id args (evs X.T args .v X.nms) (evs X.T args .p X.nms) (evcs X.T args X.nms) (evi X.T args X.nms) X.nms (calleeOf X.T.P id X.nms):=fun md=>rfl
 have hno:calleeOf X.T.P id X.nms=.fn ∨ calleeOf X.T.P id X.nms=.cls ∨ calleeOf X.T.P id X.nms=.xcls->eT X.T.P (i4 id p args pos)=false:=fun q=>by
  refine mk_own ?_
  cases hn:fU (bV X.T.P id) with
  | false=>rfl
  | true =>
   exfalso
   unfold calleeOf at q
   by_cases hg:bh X.nms id=true
   ·rw [if_pos hg,if_pos hn] at q
    unfold biCal at q
    cases hb:aR id X.T.P.bi with
    | some b=>rw [hb] at q; rcases q with q | q | q <;> exact cC Callee.ctorIdx q rfl
    | none =>
     rw [hb,Option.elim_none] at q
     cases hi:aR id itNames with
     | some k=>rw [hi] at q; rcases q with q | q | q <;> exact cC Callee.ctorIdx q rfl
     | none =>
      rw [hi,Option.elim_none] at q
      by_cases hs:seq id "isinstance"=true
      ·rw [if_pos hs] at q; rcases q with q | q | q <;> exact cC Callee.ctorIdx q rfl
      ·rw [if_neg hs] at q; rcases q with q | q | q <;> exact cC Callee.ctorIdx q rfl
   ·rw [if_neg hg] at q; rcases q with q | q | q <;> exact cC Callee.ctorIdx q rfl
 cases hc:calleeOf X.T.P id X.nms <;> rw [hc] at hsp hno <;> (have hev:=fun md=>(hev md).trans (by rw [hc]))
 case no=>exact .stk' fun md=>hev md
 case fn =>
  by_cases hf:X.T.free=true
  ·exact .e (aU X.T id (evs X.T args .v X.nms)) (fun md=>(hev md).trans (guard_pos hf)) (hsp.2.elim fun fn hfn=>snd_call_fn F hf hsp.1 hfn (kS h F)) (hno (.inl rfl)) fun _ _=>rfl
  ·exact .stk' fun md=>(hev md).trans (a8 hf)
 case cls =>
  by_cases hf:(X.T.free && (X.T.P.find id "__init__").isSome)=true
  ·obtain ⟨h1,h2⟩:=zAk.mp hf
   exact .e (nV X.T id (evcs X.T args X.nms)) (fun md=>(hev md).trans (guard_pos hf)) (om F h1 hsp.1 hsp.2 (by rw [← F.P]; exact zAx.mp h2) (trE_ofC F h)) (hno (.inr (.inl rfl))) fun _ _=>rfl
  ·exact .stk' fun md=>(hev md).trans (a8 hf)
 case xcls =>
  by_cases hf:(X.T.free && oneLit args)=true
  ·obtain ⟨h1,h2⟩:=zAk.mp hf
   obtain ⟨m,k,q,rfl⟩:=jV h2
   exact .e (dExc id) (fun md=>(hev md).trans (guard_pos hf)) (snd_newExc F hsp.2 hsp.1) (hno (.inr (.inr rfl))) fun _ _=>rfl
  ·exact .stk' fun md=>(hev md).trans (a8 hf)
 case bi b =>
  by_cases hra:lA args=true
  ·have hev:∀ md,ev X.T (i4 id p args pos) md X.nms=bI ((b.val == .type "list") && X.T.free) (cJ md (fY (evi X.T args X.nms))):=fun md=>(hev md).trans (by show (bif lA args then _ else _)=_; rw [hra]; rfl)
   by_cases hf:((b.val == .type "list") && X.T.free)=true
   case neg=>exact .stk' fun md=>(hev md).trans (a8 hf)
   obtain ⟨hb1,hb2⟩:=zAk.mp hf
   obtain ⟨o,apos,pos',rfl⟩:=itmArg_spec hra
   by_cases hd:(zA4 apos.endLine pos'.line && dy o)=true
   case neg=>exact .stk' fun md=>(hev md).trans ((guard_pos hf).trans (by rw [show evi X.T [.Call (.Attribute o "items" apos) [] [] pos'] X.nms=stk from a8 hd]; cases md <;> rfl))
   obtain ⟨hd1,hd2⟩:=zAk.mp hd
   exact .m (fY (ev X.T o .v X.nms)) (fun md=>(hev md).trans ((guard_pos hf).trans (by rw [show evi X.T [.Call (.Attribute o "items" apos) [] [] pos'] X.nms=ev X.T o .v X.nms from guard_pos hd]))) (ma F hb2 hsp.1 (by rw [← beq_iff_eq.mp hb1]; exact F.cx.bi id b hsp.2.2 hsp.2.1) ⟨.inl hd2,hd1,(fun e he=>nomatch he),by decide⟩ ((h _ zAb).sl X F)) fun _ _=>rfl
  have hev:∀ md,ev X.T (i4 id p args pos) md X.nms=bI (!b.free || X.T.free) (cJ md (aW b false (evs X.T args .p X.nms))):=fun md=>(hev md).trans (by show (bif lA args then _ else _)=_; rw [zC0.mpr hra]; rfl)
  by_cases hf:(!b.free || X.T.free)=true
  ·refine .m (aW b false (evs X.T args .p X.nms)) (fun md=>(hev md).trans (guard_pos hf)) (snd_call_bi F hsp.1 hsp.2.2 hsp.2.1 (fun q=>?_) (trE_ofP h F)) fun _ _=>rfl
   rw [q] at hf; exact hf
  ·exact .stk' fun md=>(hev md).trans (a8 hf)
 case it k =>
  by_cases hf:X.T.free=true
  ·have hev:=fun md=>(hev md).trans (guard_pos hf)
   refine .it (hev .v) (hev .p) fun hq=>?_
   rw [show ev X.T (i4 id p args pos) .i X.nms=fm k (evs X.T args .v X.nms) from hev .i]
   exact snd_call_it F hq hsp.1 hsp.2.2 hsp.2.1 (kS h F)
  ·exact .stk' fun md=>(hev md).trans (a8 hf)
 case isi =>
  have hev:∀ md,ev X.T (i4 id p args pos) md X.nms=isiK X.T.P md (fK args) (evs X.T args .p X.nms) X.nms:=hev
  cases hsn:fK args with
  | none=>exact .stk' fun md=>by rw [hev,hsn]; rfl
  | some t =>
  obtain ⟨e,q,rfl⟩:=kb hsn
  have hev:∀ md,ev X.T (i4 id p [e,.Name t q] pos) md X.nms=bI (bh X.nms t) ((isiO X.T.P t (bV X.T.P t)).elim stk fun f=>cJ md (fE (ev X.T e .p X.nms) f)):=fun md=>hev md
  by_cases hgt:bh X.nms t=true
  case neg=>exact .stk' fun md=>by rw [hev,a8 hgt]
  cases hk:isiO X.T.P t (bV X.T.P t) with
  | none=>exact .stk' fun md=>by rw [hev,guard_pos hgt,hk]; rfl
  | some f =>
   obtain ⟨tv,hT⟩:∃ tv,IsiOk X t f tv:=by
    rw [F.P] at hk
    unfold isiO at hk
    by_cases h2:fU (bV X.C.P t)=true
    case neg=>rw [if_neg h2] at hk; exact aC hk
    rw [if_pos h2] at hk
    unfold isiN at hk
    cases hl:aR t tyNames with
    | some k=>rw [hl] at hk; obtain rfl:=Option.some.inj hk; exact ⟨_,isi_ty F hgt h2 hl⟩
    | none =>
     rw [hl] at hk
     obtain ⟨h3,rfl⟩:=be hk
     exact ⟨_,isi_ve F hgt h2 h3⟩
   have ge:=h e zAb
   have hm:eT X.T.P (i4 id p [e,.Name t q] pos)=false:=by
    have hc:=hc
    unfold calleeOf at hc
    rw [if_pos hsp.1,F.P,if_pos hsp.2.1] at hc
    unfold biCal at hc
    refine mk_it ?_
    rw [F.P]
    cases hb:aR id X.C.P.bi with
    | none=>rfl
    | some b=>rw [hb] at hc; exact cC Callee.ctorIdx hc rfl
   exact .e (fE (ev X.T e .p X.nms) f) (fun md=>by rw [hev,guard_pos hgt,hk]; rfl) (oy F hsp.1 hsp.2.2 hsp.2.1 hT ⟨ge.p X F,fun q=>ge.st q _ .p _⟩) hm fun _ _=>rfl
set_option tactic.hygienic true in
theorem is_callK (F:X.Ok) {id:Str} {p pos:Pos} {args:List Expr} {k:Keyword} {ks:List Keyword} (h:∀ e ∈ args,Gd e):Is X (.Call (.Name id p) args (k::ks) pos):=by
 have hev:∀ md,ev X.T (.Call (.Name id p) args (k::ks) pos) md X.nms=bI (oJ (k::ks) && X.T.free && !args.isEmpty) (defK md (evs X.T args .p X.nms) (calleeOf X.T.P id X.nms)):=fun md=>rfl
 by_cases hd:(oJ (k::ks) && X.T.free && !args.isEmpty)=true
 case neg=>exact .stk' fun md=>by rw [hev,a8 hd]
 have hev:=fun md=>(hev md).trans (guard_pos hd)
 simp only [zA0] at hd
 obtain ⟨⟨h1,h2⟩,h3⟩:=hd
 obtain ⟨k',q,kp,e'⟩:=isDef0_spec h1
 rw [e'] at hev ⊢
 have hsp:=eM F (id:=id)
 cases hc:calleeOf X.T.P id X.nms <;> rw [hc] at hsp <;> (have hev:=fun md=>(hev md).trans (by rw [hc])) <;> try exact .stk' fun md=>hev md
 rename_i b
 cases args with
 | nil=>exact ff h3
 | cons e es=>exact .m (aW b true (evs X.T (e::es) .p X.nms)) (fun md=>hev md) (nL F h2 hsp.1 hsp.2.2 hsp.2.1 (trE_ofP h F)) fun _ _=>rfl
end
section
variable {X:Fx} {W:Wd} {S:S}
theorem trd_not {d:D AV}:trd (kh d)=aH (trd d) fun b=>af (!b):=by
 funext S
 unfold trd kh aH Mine.opt unV
 cases d S with
 | stuck=>rfl
 | exc c S'=>rfl
 | ok a S' =>
  dsimp only [ax]
  cases eN a <;> rfl
theorem isTrue_not {x:Expr} {p:Pos} {env:Env} {w:Sem Value}:isTrue (.UnaryOp .Not x p) env w=(isTrue x env (eval x env) >>= fun b=>Pure.pure (!b)):=rfl
theorem snd_not {e:Expr} {p:Pos} {d:D AV} (h:SndE X e d):SndE X (.UnaryOp .Not e p) (kh d):=fun S W I=>by
 rw [show eval (.UnaryOp .Not e p) X.env=(do let v ← eval e X.env; standAt p; PySem.holding [v] (unaryOp .Not v)) from rfl]
 exact Snd.bind (h S W I) fun a va S₁ WA _ GA rA=>.stand (Snd.made GA.inv fun c hc=>wp_unV (.val rA) hc).freeze.holding
theorem gd_unop {op:UnaryOp} {e:Expr} {p:Pos} (h:Gd e):Gd (.UnaryOp op e p):=by
 by_cases hop:op=.Not
 ·subst hop
  refine dj (fun X F=>.val (kh (ev X.T e .v X.nms)) (fun md=>rfl) (snd_not (h.v X F)) (fun q=>nomatch q) fun S W I=>?_) rfl
  rw [trd_not,isTrue_not]
  exact Snd.bind (h.t X F S W I) fun a b S₁ WA _ GA rA=>.pure GA.inv (by rw [show a=b from rA])
 ·exact dj (fun X F=>.e (dUn op (ev X.T e .p X.nms)) (fun md=>by cases op <;> first | exact absurd rfl hop | rfl) (snd_unop (h.p X F)) rfl (fun env w=>by cases op <;> first | rfl | exact absurd rfl hop)) rfl
theorem gd_bool {op:BoolOp} {es:List Expr} {p:Pos} (h:∀ e ∈ es,Gd e):Gd (.BoolOp op es p) :=
 dj (fun X F=>.val (az op (evs X.T es .v X.nms)) (fun md=>rfl)
  (fun S W I=>by rw [arm_eval_BoolOp]; exact snd_boolOp (trL_of fun e he=>(h e he).v X F) S W I) (fun q=>nomatch q)
  (fun S W I=>by
   rw [show isTrue (.BoolOp op es p) X.env (eval (.BoolOp op es p) X.env)=allTrue op es X.env from rfl]
   exact snd_allTrue (trT_of h F) S W I)) rfl
theorem fA {e:Expr} {op:CmpOp} (h:Gd e) (F:X.Ok) (I:Inv X S W):Snd X true (RQ X) (markedBehindIn op e (eval e X.env)) (ev X.T e .p X.nms S) W:=by
 by_cases hset:∃ a b c,e=.Set a b c
 ·obtain ⟨a,b,c,rfl⟩:=hset; exact .stk
 ·rw [marked_set fun a b c q=>hset ⟨a,b,c,q⟩]; exact h.p X F S W I
theorem gd_cmp1 {l e:Expr} {op:CmpOp} {p:Pos} (hl:Gd l) (he:Gd e):Gd (.Compare l [op] [e] p):=by
 refine dj (fun X F=>.val (am (ev X.T l .p X.nms) op (ev X.T e .p X.nms)) (fun md=>rfl) (fun S W I=>?_) (fun q=>nomatch q) fun S W I=>?_) rfl
 ·rw [arm_eval_Compare]
  exact Snd.bind (hl.p X F S W I) fun a va S₁ WA _ GA rA=>snd_cmp F.units GA.inv (fA he F GA.inv) rA
 ·rw [show isTrue (.Compare l [op] [e] p) X.env (eval (.Compare l [op] [e] p) X.env)=(eval l X.env >>= fun v=>testChain p v [op] (markedEach [op] [e] (evalEach [e] X.env))) from rfl]
  unfold trd am
  simp only [bR]
  exact Snd.bind (hl.p X F S W I) fun a va S₁ WA _ GA rA=>snd_test F.units GA.inv (fA he F GA.inv) rA
theorem bnd_ite {α β:Type} {b:Bool} {x y:D α} {f:α->D β}:aH (if b then x else y) f=if b then aH x f else aH y f:=by cases b <;> rfl
theorem gd_cmp2 {l e e':Expr} {op op':CmpOp} {p:Pos} (hl:Gd l) (he:Gd e) (he':Gd e'):Gd (.Compare l [op,op'] [e,e'] p):=by
 refine dj (fun X F=>.val (dCmp2 (ev X.T l .p X.nms) op (ev X.T e .p X.nms) op' (ev X.T e' .p X.nms)) (fun md=>rfl) (fun S W I=>?_) (fun q=>nomatch q) fun S W I=>?_) rfl
 ·rw [arm_eval_Compare]
  refine Snd.bind (hl.p X F S W I) fun a va S₁ WA _ GA rA=>?_
  exact snd_link F.units GA.inv (he.p X F S₁ WA GA.inv) rA (fun SA WB i u IB=>snd_cmp (a:=.int i) F.units IB (fA he' F IB) (RQ.of ⟨u,rfl⟩)) fun SA WB IB=>.pure IB rfl
 ·rw [show isTrue (.Compare l [op,op'] [e,e'] p) X.env (eval (.Compare l [op,op'] [e,e'] p) X.env)=(eval l X.env >>= fun v=>testChain p v [op,op'] (markedEach [op,op'] [e,e'] (evalEach [e,e'] X.env))) from rfl]
  unfold trd dCmp2
  simp only [bR,bnd_ite]
  refine Snd.bind (hl.p X F S W I) fun a va S₁ WA _ GA rA=>?_
  refine snd_link F.units GA.inv (he.p X F S₁ WA GA.inv) rA (fun SA WB i u IB=>?_) fun SA WB IB=>.pure IB rfl
  exact snd_test (op:=op') (pos:=p) (a:=.int i) F.units IB (fA (op:=op') he' F IB) (RQ.of ⟨u,rfl⟩)
theorem gd_cmp {l:Expr} {ops:List CmpOp} {cs:List Expr} {p:Pos} (hl:Gd l) (h:∀ e ∈ cs,Gd e):Gd (.Compare l ops cs p):=by
 match ops,cs,h with
 | [op],[e],h=>exact gd_cmp1 hl (h e zAb)
 | [op,op'],[e,e'],h=>exact gd_cmp2 hl (h e zAb) (h e' (zAc _ zAb))
 | [],_,_=>exact bA fun T md sc=>rfl
 | [op],[],_=>exact bA fun T md sc=>rfl
 | [op],_::_::_,_=>exact bA fun T md sc=>rfl
 | [_,_],[],_=>exact bA fun T md sc=>rfl
 | [_,_],[_],_=>exact bA fun T md sc=>rfl
 | [_,_],_::_::_::_,_=>exact bA fun T md sc=>rfl
 | _::_::_::_,_,_=>exact bA fun T md sc=>rfl
set_option tactic.hygienic true in
theorem gd_sub {v i:Expr} {p:Pos} (hv:Gd v) (hi:Gd i):Gd (.Subscript v i p):=by
 by_cases hs:∃ lo hi q,i=.Slice lo hi none q
 ·obtain ⟨lo,hi',q,rfl⟩:=hs
  exact dj (fun X F=>.m (d4 (ev X.T v .p X.nms) (evo X.T lo X.nms) (evo X.T hi' X.nms)) (fun md=>rfl) (l9 (hv.p X F) (hi.sl X F).1 (hi.sl X F).2) fun _ _=>rfl) rfl
 ·have hsl:∀ a b p,i ≠ .Slice a b none p:=fun a b p q=>hs ⟨a,b,p,q⟩
  refine dj (fun X F=>.e (al (ev X.T v .p X.nms) (ev X.T i .v X.nms)) (fun md=>?_) (snd_sub_idx hsl (hv.p X F) (hi.v X F)) ?_ fun _ _=>rfl) rfl
  ·cases i <;> first | rfl | skip
   rename_i lo hi st q
   cases st with
   | none=>exact absurd rfl (hsl _ _ _)
   | some _=>rfl
  ·cases i <;> first | rfl | skip
   rename_i lo hi st q
   cases st with
   | none=>exact absurd rfl (hsl _ _ _)
   | some _=>rfl
theorem tst_ok {X:Fx} {sc:Sc} {Y:Fx} (FY:Y.Ok) (e1:Y.T=X.T) (e2:Y.nms=sc) {ifs:List Expr} (hl:zB5 ifs.length 1=true) (hf:∀ e ∈ ifs,Gd e):TstOk Y ifs (evt X.T ifs sc):=by
 match ifs,hl,hf with
 | [],_,_=>exact trivial
 | [c],_,hf =>
  show SndT Y c (ev X.T c .v sc)
  rw [← e1,← e2]
  exact (hf c zAb).t Y FY
 | _::_::_,hl,_=>exact absurd (zA9 hl) (by simp)
theorem comp_ev (F:X.Ok) {elt t iter:Expr} {ifs:List Expr} {isa:Int} {scope:Scope} {p:Pos} (he:Gd elt) (hi:Gd iter) (hf:∀ e ∈ ifs,Gd e) :
  (∀ md,ev X.T (.ListComp elt [⟨t,iter,ifs,isa⟩] scope p) md X.nms=stk) ∨ ∃ t',isa=0/\CompE X scope t t' elt iter ifs (evt X.T ifs scope.names) (ev X.T elt .v scope.names) (ev X.T iter .i X.nms) /\
   ∀ md,ev X.T (.ListComp elt [⟨t,iter,ifs,isa⟩] scope p) md X.nms=cJ md (c9 (bo X.nms scope.names) t' (evt X.T ifs scope.names) (ev X.T elt .v scope.names) (ev X.T iter .i X.nms)):=by
 by_cases hc:compOk X.T t isa ifs scope X.nms=true
 case neg=>exact .inl fun md=>a8 hc
 have hev2:=fun md=>(guard_pos hc:ev X.T (.ListComp elt [⟨t,iter,ifs,isa⟩] scope p) md X.nms=_)
 unfold compOk at hc
 simp only [zA0,beq_iff_eq] at hc
 obtain ⟨⟨⟨⟨⟨h1,h2⟩,h3⟩,h4⟩,h5⟩,h6⟩:=hc
 by_cases hset:∃ a b c,iter=.Set a b c
 ·obtain ⟨a,b,c,rfl⟩:=hset
  exact .inl fun md=>(hev2 md).trans (by cases fR scope.names t <;> cases md <;> rfl)
 cases hn:fR scope.names t with
 | none=>exact .inl fun md=>(hev2 md).trans (by rw [hn]; rfl)
 | some t' =>
  have hev2:=fun md=>(hev2 md).trans (by rw [hn])
  exact .inr ⟨t',h1,⟨fun a b c q=>hset ⟨a,b,c,q⟩,h5,h4,h6,fun Y e=>tgOk_of h3 (fun x q=>.inl (by rw [e]; exact isLo_spec q)) (by rw [e]; exact hn),hi.i X F h6,fun Y FY e1 e2=>tst_ok FY e1 e2 h2 hf,fun Y FY e1 e2=>by rw [← e1,← e2]; exact he.v Y FY⟩,hev2⟩
theorem gd_comp {elt t iter:Expr} {ifs:List Expr} {isa:Int} {scope:Scope} {p:Pos} (he:Gd elt) (hi:Gd iter) (hf:∀ e ∈ ifs,Gd e):Gd (.ListComp elt [⟨t,iter,ifs,isa⟩] scope p):=by
 refine dj (fun X F=>?_) rfl
 rcases comp_ev (t:=t) (ifs:=ifs) (isa:=isa) (scope:=scope) (p:=p) F he hi hf with h | ⟨t',rfl,K,hev⟩
 ·exact .stk' h
 ·exact .m _ hev (snd_comp F K) fun _ _=>rfl
theorem kN {args:List Expr} (h:args.all nB=true):∀ e ∈ args,PySem.W.isStarred e=false:=fun e he=>by
 have:=zA7.mp h e he
 cases e <;> first | rfl | exact ff this
theorem gd_attr {v:Expr} {f:Str} {p:Pos} (h:Gd v):Gd (.Attribute v f p):=by
 refine dj (fun X F=>?_) rfl fun X F=>⟨h.p X F,h.v X F⟩
 by_cases hc:(ky v && cw f X.T.P.flds)=true
 case neg=>exact .stk' fun md=>a8 hc
 have hev:=fun md=>(guard_pos hc:ev X.T (.Attribute v f p) md X.nms=_)
 obtain ⟨h1,h2⟩:=zAk.mp hc
 rw [F.P] at h2
 exact .e (aQ (ev X.T v .p X.nms) f) hev (snd_attr h1 F (memS_iff.mp h2) (h.p X F)) rfl fun _ _=>rfl
theorem gd_meth {o:Expr} {m:Str} {apos pos:Pos} {args:List Expr} {kws:List Keyword} (ho:∀ X:Fx,X.Ok->jl X o (ev X.T o .p X.nms)/\SndE X o (ev X.T o .v X.nms)) (h:∀ e ∈ args,Gd e):Gd (.Call (.Attribute o m apos) args kws pos):=by
 have hsl:=fun X F=>(ho X F).2
 have ho:=fun X F=>(ho X F).1
 by_cases hc:(kws.isEmpty && zA4 apos.endLine pos.line && args.all nB && zB5 args.length 20)=true
 case neg=>exact bA (hsl:=hsl) fun T md sc=>a8 hc
 have hev:∀ T md sc,ev T (.Call (.Attribute o m apos) args kws pos) md sc=if seq m "join" then one1 (evs T args .p sc) fun e=>bI (dD o) (cJ md (gh e)) else bI (dy o) (methC T md (ev T o .p sc) m args.isEmpty (evs T args .v sc)):=fun T md sc=>guard_pos hc
 simp only [zA0] at hc
 obtain ⟨⟨⟨hk,hl⟩,hst⟩,h20⟩:=hc
 obtain rfl:=zBy.mp hk
 have few:args.length < 30:=zBi (zA9 h20) (by decide)
 by_cases hj:seq m "join"=true
 ·obtain rfl:=seq_iff.mp hj
  have hev:=fun T md sc=>(hev T md sc).trans (if_pos hj)
  by_cases ha:∃ e,args=[e]
  case neg=>exact bA (hsl:=hsl) fun T md sc=>(hev T md sc).trans (one1_evs _ ha)
  obtain ⟨e,rfl⟩:=ha
  have ge:=h e zAb
  by_cases hb:dD o=true
  case neg=>exact bA (hsl:=hsl) fun T md sc=>(hev T md sc).trans (a8 hb)
  exact dj (fun X F=>.e (gh (ev X.T e .p X.nms)) (fun md=>(hev _ _ _).trans (guard_pos hb)) (fun S W I=>snd_join ⟨.inr (by obtain ⟨k,p,q⟩:=hW hb; exact ⟨_,k,p,q⟩),hl,kN hst,few⟩ hb ⟨ge.p X F,fun q=>ge.st q _ .p _⟩ I) rfl fun _ _=>rfl) rfl hsl
 have hev:=fun T md sc=>(hev T md sc).trans (if_neg hj)
 by_cases hb:dy o=true
 case neg=>exact bA (hsl:=hsl) fun T md sc=>(hev T md sc).trans (a8 hb)
 have hev:=fun T md sc=>(hev T md sc).trans (guard_pos hb)
 have M:MtOk o apos pos args:=⟨.inl hb,hl,kN hst,few⟩
 by_cases h1:seq m "append"=true
 ·obtain rfl:=seq_iff.mp h1
  have hev:=fun T md sc=>(hev T md sc).trans (if_pos h1)
  by_cases ha:∃ e,args=[e]
  case neg=>exact bA (hsl:=hsl) fun T md sc=>(hev T md sc).trans (one1_evs _ ha)
  obtain ⟨e,rfl⟩:=ha
  have ge:=h e zAb
  exact dj (fun X F=>.e (dm (ev X.T o .p X.nms) (ev X.T e .v X.nms)) (fun md=>hev _ _ _) (fun S W I=>snd_append M (ho X F S W I) ⟨ge.v X F,fun q=>ge.st q _ .v _⟩) rfl fun _ _=>rfl) rfl hsl
 have hev:=fun T md sc=>(hev T md sc).trans (if_neg h1)
 refine dj (fun X F=>?_) rfl hsl
 by_cases hg:(cw m X.T.P.mths && X.T.free)=true
 ·obtain ⟨h1,h2⟩:=zAk.mp hg
  rw [F.P] at h1
  exact .e (bz X.T (ev X.T o .p X.nms) m (evs X.T args .v X.nms)) (fun md=>(hev _ _ _).trans (guard_pos hg)) (fun S W I=>snd_meth F h2 (memS_iff.mp h1) M (ho X F S W I) (kS h F)) rfl fun _ _=>rfl
 ·exact .stk' fun md=>(hev _ _ _).trans (a8 hg)
theorem kI (F:X.Ok) {pos:Pos}:SndM X (.Dict [] [] pos) (af (.dct [] [])):=fun S W I _=>by
 refine wpAny_Dict_empty ?_
 refine oK (S:=S) I (.new (h:=W.h.push { cls:=.type "dict",data:=.dict #[] }) (tk:=W.s.toks) .push get?_size ?_)
 obtain ⟨o,ho,hd⟩:=zBk.mp (Heap.DictOf.new (knd:=strKind X.C.prog X.C.w) W.h)
 exact ⟨o,[],[],ho,beq_eq_false_iff_ne.mpr (fun q=>by have:=I.size F; rw [show W.h.objs.size=1 from q] at this; exact absurd this (by decide)),rfl,⟨hd,rfl,zBa _,fun _ q=>nomatch q⟩,rfl⟩
theorem gd_dict {ks:List (Option Expr)} {vs:List Expr} {p:Pos}:Gd (.Dict ks vs p):=by
 match ks,vs with
 | [],[]=>exact dj (fun X F=>.m (af (.dct [] [])) (fun md=>rfl) (kI F) fun _ _=>rfl) rfl
 | [],_::_=>exact bA fun T md sc=>rfl
 | _::_,_=>exact bA fun T md sc=>rfl
theorem gd_call {f:Expr} {pos:Pos} {args:List Expr} {kws:List Keyword} (hf:Gd f) (h:∀ e ∈ args,Gd e):Gd (.Call f args kws pos):=by
 cases f <;> first | exact gd_meth hf.sl h | exact bA fun T md sc=>rfl | skip
 cases kws with
 | nil=>exact dj (fun X F=>is_call F h) rfl
 | cons k ks=>exact dj (fun X F=>is_callK F h) rfl
set_option tactic.hygienic true
mutual
theorem gd:∀ e:Expr,Gd e
 | .Constant c k p=>dj (fun X F=>.e (dConst c) (fun md=>rfl) ny rfl fun _ _=>rfl) rfl
 | .Name x p=>gd_name
 | .BinOp l op r p=>dj (fun X F=>.m (aj op (ev X.T l .p X.nms) (ev X.T r .p X.nms)) (fun md=>rfl) (snd_binop ((gd l).p X F) ((gd r).p X F)) fun _ _=>rfl) rfl
 | .UnaryOp op e p=>gd_unop (gd e)
 | .BoolOp op es p=>gd_bool (gds es)
 | .Compare l ops cs p=>gd_cmp (gd l) (gds cs)
 | .Tuple es k p=>dj (fun X F=>.e (aJ (evs X.T es .v X.nms)) (fun md=>rfl) (snd_tuple (kS (gds es) F)) rfl fun _ _=>rfl) rfl
 | .List es p=>dj (fun X F=>.m (bO (evs X.T es .v X.nms)) (fun md=>rfl) (snd_list (kS (gds es) F)) fun _ _=>rfl) rfl
 | .Subscript v i p=>gd_sub (gd v) (gd i)
 | .ListComp elt [⟨t,iter,ifs,isa⟩] scope p=>gd_comp (gd elt) (gd iter) (gds ifs)
 | .ListComp elt [] scope p=>bA fun T md sc=>rfl
 | .ListComp elt (⟨_,_,_,_⟩::_::_) scope p=>bA fun T md sc=>rfl
 | .Call f args kws p=>gd_call (gd f) (gds args)
 | .Slice lo hi st p=>bA (fun T md sc=>rfl) fun X F=>⟨oI (gdo lo) F,oI (gdo hi) F⟩
 | .Attribute v f p=>gd_attr (gd v)
 | .Dict ks vs p=>gd_dict
 | .NamedExpr ..=>bA fun T md sc=>rfl
 | .Lambda ..=>bA fun T md sc=>rfl
 | .IfExp ..=>bA fun T md sc=>rfl
 | .Set ..=>bA fun T md sc=>rfl
 | .SetComp ..=>bA fun T md sc=>rfl
 | .DictComp ..=>bA fun T md sc=>rfl
 | .GeneratorExp ..=>bA fun T md sc=>rfl
 | .Await ..=>bA fun T md sc=>rfl
 | .Yield ..=>bA fun T md sc=>rfl
 | .YieldFrom ..=>bA fun T md sc=>rfl
 | .FormattedValue ..=>bA fun T md sc=>rfl
 | .JoinedStr ..=>bA fun T md sc=>rfl
 | .Starred ..=>bA fun T md sc=>rfl
theorem gds:∀ es:List Expr,∀ e ∈ es,Gd e
 | [],_,h=>nomatch h
 | e::r,e',h=>(zAl.mp h).elim (fun q=>q ▸ gd e) (fun q=>gds r e' q)
theorem gdo:∀ o:Option Expr,∀ e,o=some e->Gd e
 | none,_,h=>nomatch h
 | some e,e',h=>Option.some.inj h ▸ gd e
end
set_option tactic.hygienic false
end
section
variable {X:Fx} {W:Wd} {S:S}
theorem aE {st:Stmt} {d:D Fl} (h:d=stk):cT X st d:=fun hf S W I=>by rw [h]; exact .stk
theorem gL {v:Expr} (h:em v=true) (t:Option Expr) (ln:Nat) (env:Env):swapsWith v t ln env=Pure.pure false:=by
 cases v <;> first | rfl | exact ff h
theorem comp_stk {T:Ctx} {v:Expr} (h:em v=false) (hl:∀ a b c d,v ≠ .ListComp a b c d):∀ md sc,ev T v md sc=stk:=fun md sc=>by
 cases v <;> first | (exact cC Bool.ctorIdx h rfl; done) | exact absurd rfl (hl _ _ _ _) | rfl
theorem gV {T:Ctx} {sc:Sc} {x:Str} {v:Expr} (h:ev T v .v sc=stk):mH T sc x v=stk:=by
 unfold mH
 rw [h]
 cases eT T.P v with
 | false=>rfl
 | true=>cases k9 T.P sc x with
  | false=>rfl
  | true=>cases em v <;> rfl
theorem gs_name (F:X.Ok) {x:Str} {p:Pos} {v:Expr} {pos:Pos} (hst:j4 X.nms x=true):cT X (.Assign [.Name x p] v pos) (mH X.T X.nms x v):=by
 have g:=gd v
 by_cases hns:em v=true
 ·have hsw:=gL hns (some (.Name x p)) pos.line X.env
  unfold mH
  by_cases hm:eT X.T.P v=true
  ·rw [if_pos hm]
   by_cases hs:k9 X.T.P X.nms x=true
   ·rw [if_pos hs,guard_pos hns]; exact gf F hsw hst (jC (g.v X F) fun _=>g.m X F hm)
   ·rw [if_neg hs]; exact gi F hsw hst (g.m X F hm)
  ·rw [if_neg hm]; exact gf F hsw hst (g.v X F)
 by_cases hl:∃ a b c d,v=.ListComp a b c d
 case neg=>exact aE (gV (comp_stk (zC0.mpr hns) (fun a b c d q=>hl ⟨a,b,c,d,q⟩) _ _))
 obtain ⟨elt,gens,scope,q,rfl⟩:=hl
 match gens with
 | [⟨t,iter,ifs,isa⟩] =>
  rcases comp_ev (t:=t) (ifs:=ifs) (isa:=isa) (scope:=scope) (p:=q) F (gd elt) (gd iter) (fun e _=>gd e) with h | ⟨t',rfl,K,hev⟩
  ·exact aE (gV (h _))
  ·show cT X _ (if k9 X.T.P X.nms x then bI false _ else aT (aV x X.nms) (ev X.T (.ListComp elt [⟨t,iter,ifs,0⟩] scope q) .v X.nms))
   by_cases hs:k9 X.T.P X.nms x=true
   ·rw [if_pos hs]; exact aE rfl
   rw [if_neg hs,hev]
   exact jD F hst K
 | []=>exact aE (gV rfl)
 | ⟨_,_,_,_⟩::_::_=>exact aE (gV rfl)
set_option tactic.hygienic true in
theorem gs_assign (F:X.Ok) {ts:List Expr} {v:Expr} {pos:Pos}:cT X (.Assign ts v pos) (ex X.T (.Assign ts v pos) X.nms):=by
 match ts with
 | []=>exact aE rfl
 | _::_::_=>exact aE rfl
 | [e] =>
  show cT X _ (exAsg X.T v X.nms e)
  cases e <;> first | exact aE rfl | skip
  ·
   rename_i o f ap
   show cT X _ (bI (isNm o && cw f X.T.P.flds && em v) (bM (ev X.T o .p X.nms) f (mZ (eT X.T.P v) (ev X.T v .v X.nms))))
   by_cases hc:(isNm o && cw f X.T.P.flds && em v)=true
   case neg=>exact aE (a8 hc)
   rw [guard_pos hc]
   simp only [zA0] at hc
   obtain ⟨⟨h1,h2⟩,h3⟩:=hc
   obtain ⟨y,hy⟩:=zAx.mp h1
   obtain ⟨yp,rfl⟩:=ce hy
   rw [F.P] at h2
   exact sndS_setFld F (memS_iff.mp h2) (gL h3 _ _ X.env) ((gd _).p X F) (jC ((gd v).v X F) fun q=>(gd v).m X F q)
  ·
   rename_i b k sp
   show cT X _ (bI (em v) (bj (ev X.T b .p X.nms) (ev X.T k .v X.nms) (ev X.T v .v X.nms)))
   by_cases hc:em v=true
   case neg=>exact aE (a8 hc)
   rw [guard_pos hc]
   exact sndS_setSub (gL hc _ _ X.env) ((gd b).p X F) ((gd k).v X F) ((gd v).v X F)
  ·
   rename_i x p
   show cT X _ (bI (j4 X.nms x) (mH X.T X.nms x v))
   by_cases hst:j4 X.nms x=true
   case neg=>exact aE (a8 hst)
   rw [guard_pos hst]
   exact gs_name F hst
theorem gs_expr (F:X.Ok) {e:Expr} {p:Pos}:cT X (.Expr e p) (ex X.T (.Expr e p) X.nms):=by
 cases e <;> first | exact aE rfl | skip
 exact sndS_expr F ((gd _).v X F)
theorem gs_raise (F:X.Ok) {e c:Option Expr} {p:Pos}:cT X (.Raise e c p) (ex X.T (.Raise e c p) X.nms):=by
 show cT X _ (oO X.T X.nms e c)
 unfold oO
 cases c with
 | some _=>exact aE rfl
 | none =>
 show cT X _ ((e.bind Mine.callE).elim stk fun t=>raisK X.T X.nms t.1 t.2.1 t.2.2)
 cases hc:e.bind Mine.callE with
 | none=>exact aE rfl
 | some t =>
 obtain ⟨e,rfl,hc⟩:=zAi.mp hc
 obtain ⟨cp,rfl⟩:=ip hc
 obtain ⟨f,args,kws⟩:=t
 show cT X _ (raisK X.T X.nms f args kws)
 unfold raisK
 cases hn:cZ f with
 | none=>exact aE rfl
 | some id =>
 obtain ⟨q,rfl⟩:=ce hn
 match args with
 | []=>exact aE rfl
 | _::_::_=>exact aE rfl
 | [a] =>
 show cT X _ (bI (kws.isEmpty && isXc (calleeOf X.T.P id X.nms) && okStr a && X.T.free) (rais id))
 by_cases hok:(kws.isEmpty && isXc (calleeOf X.T.P id X.nms) && okStr a && X.T.free)=true
 case neg=>exact aE (a8 hok)
 rw [guard_pos hok]
 simp only [zA0] at hok
 obtain ⟨⟨⟨h0,h1⟩,h2⟩,h3⟩:=hok
 obtain rfl:=zBy.mp h0
 have hsp:=eM F (id:=id)
 cases hc:calleeOf X.T.P id X.nms <;> rw [hc] at h1 hsp <;> first | (exact ff h1; done) | skip
 obtain ⟨m,k,q',e'⟩:=jV (args:=[a]) h2
 cases e'
 exact sndS_raise F h3 hsp.2 hsp.1
theorem gs_try (F:X.Ok) {body:List Stmt} {hs:List ExceptHandler} {orelse fin:List Stmt} {p:Pos} (hb:f8 X body (exs X.T body X.nms)) (hh:∀ hs',exh X.T.inH hs X.nms=some hs'->F2 (HOk X) hs hs') :
  cT X (.Try body hs orelse fin p) (ex X.T (.Try body hs orelse fin p) X.nms):=by
 show cT X _ (tryK X.T (orelse.isEmpty && fin.isEmpty && !hs.isEmpty) (exs X.T body X.nms) (exh X.T.inH hs X.nms))
 by_cases hc:(orelse.isEmpty && fin.isEmpty && !hs.isEmpty)=true
 case neg=>exact aE (a8 hc)
 unfold tryK
 rw [guard_pos hc]
 simp only [zA0,zCm] at hc
 obtain ⟨⟨h1,h2⟩,h3⟩:=hc
 obtain rfl:=zBy.mp h1
 obtain rfl:=zBy.mp h2
 cases he:exh X.T.inH hs X.nms with
 | none=>exact aE rfl
 | some hs'=>exact sndS_try F hb (hh hs' he) (by rintro rfl; exact cC Bool.ctorIdx h3 rfl)
theorem gs_for (F:X.Ok) {t it:Expr} {body orelse:List Stmt} {p:Pos} (hb:f8 X body (exs X.T body X.nms)):cT X (.For t it body orelse p) (ex X.T (.For t it body orelse p) X.nms):=by
 show cT X _ (bI (orelse.isEmpty && mI (j4 X.nms) t && X.T.free) (match fR X.nms t with | some t'=>cB t' (ev X.T it .i X.nms) (exs X.T body X.nms) | none=>stk))
 by_cases hc:(orelse.isEmpty && mI (j4 X.nms) t && X.T.free)=true
 case neg=>exact aE (a8 hc)
 rw [guard_pos hc]
 simp only [zA0] at hc
 obtain ⟨⟨h1,h2⟩,h3⟩:=hc
 obtain rfl:=zBy.mp h1
 by_cases hset:∃ a b c,it=.Set a b c
 ·obtain ⟨a,b,c,rfl⟩:=hset
  exact aE (by cases fR X.nms t <;> rfl)
 cases hs:fR X.nms t with
 | none=>exact aE rfl
 | some t'=>exact sndS_for F h3 (fun a b c q=>hset ⟨a,b,c,q⟩) ((gd it).i X F h3) hb fun hf=>tgOk_of h2 (fun x q=>kr hf q) hs
set_option tactic.hygienic true
mutual
theorem gs:∀ (st:Stmt) (X:Fx) (F:X.Ok),cT X st (ex X.T st X.nms)
 | .Return v p,X,F=>sndS_return (oI (gdo v) F)
 | .If t a b p,X,F=>sndS_if ((gd t).t X F) (gss a X F) (gss b X F)
 | .For t it body orelse p,X,F=>gs_for F (gss body X F)
 | .Assign ts v p,X,F=>gs_assign F
 | .Raise e c p,X,F=>gs_raise F
 | .Try body hs orelse fin p,X,F=>gs_try F (gss body X F) (fun hs' he=>gsh hs X F hs' he)
 | .Expr e p,X,F=>gs_expr F
 | .While ..,X,F=>aE rfl
 | .Pass ..,X,F=>aE rfl
 | .FunctionDef ..,X,F=>aE rfl
 | .AsyncFunctionDef ..,X,F=>aE rfl
 | .ClassDef ..,X,F=>aE rfl
 | .Delete ..,X,F=>aE rfl
 | .TypeAlias ..,X,F=>aE rfl
 | .AugAssign ..,X,F=>aE rfl
 | .AnnAssign ..,X,F=>aE rfl
 | .AsyncFor ..,X,F=>aE rfl
 | .With ..,X,F=>aE rfl
 | .AsyncWith ..,X,F=>aE rfl
 | .Match ..,X,F=>aE rfl
 | .TryStar ..,X,F=>aE rfl
 | .Assert ..,X,F=>aE rfl
 | .Import ..,X,F=>aE rfl
 | .ImportFrom ..,X,F=>aE rfl
 | .Global ..,X,F=>aE rfl
 | .Nonlocal ..,X,F=>aE rfl
 | .Break ..,X,F=>aE rfl
 | .Continue ..,X,F=>aE rfl
theorem gss:∀ (st:List Stmt) (X:Fx) (F:X.Ok),f8 X st (exs X.T st X.nms)
 | [],X,F=>sndSs_nil
 | st::r,X,F=>sndSs_cons (gs st X F) (gss r X F)
theorem gsh:∀ (hs:List ExceptHandler) (X:Fx) (F:X.Ok) (hs':Hs),exh X.T.inH hs X.nms=some hs'->F2 (HOk X) hs hs'
 | [],X,F,hs',h=>by cases h; exact .nil
 | .ExceptHandler t nm body p::r,X,F,hs',h=>by
  replace h:exhK X.T.inH X.nms nm (!body.isEmpty) (exs X.T.inH body X.nms) t (exh X.T.inH r X.nms)=some hs':=h
  obtain ⟨d,h1,h2⟩:=zAi.mp h
  obtain ⟨e,rfl,h3⟩:=zAi.mp h1
  obtain ⟨q,rfl⟩:=ce h3
  obtain ⟨r',hr,h4⟩:=zAi.mp h2
  obtain ⟨hc,rfl⟩:=be h4
  simp only [zA0] at hc
  obtain ⟨⟨⟨h5,h6⟩,h7⟩,h8⟩:=hc
  refine .cons ?_ (gsh r X F r' hr)
  cases body with
  | nil=>exact ff h7
  | cons b₀ bs=>exact ⟨⟨q,nm,b₀,bs,p,rfl,rfl,fun x hx=>by subst hx; exact h8,fun e=>gss (b₀::bs) (X.mark e) F.mark⟩,by rw [← F.P]; exact h5,h6⟩
end
set_option tactic.hygienic false
theorem callOk {C:Cx} (K:CxOk C) {k:Nat} (n:Nat):ju C n (aw C.P k n):=by
 induction n using Nat.strongRecOn with
 | ind n ih =>
  cases n with
  | zero=>exact fun c f vs st h=>absurd kF h
  | succ n =>
   have:=callOk_of (T:=ctxOf C.P k (aw C.P k n) (aw C.P k (n - 4))) K rfl rfl (ih n (by lia)) ⟨k,ih (n - 4) (by lia),rfl⟩ fun X F ss=>gss ss X F
   rw [kX]
   exact this
end
noncomputable def den1 (f:AV->Option AV):Bool->List AV->Option AV
 | false,[a]=>f a
 | _,_=>none
noncomputable def intOf:AV->Option AV
 | .bool b=>some (.int (if b then 1 else 0))
 | _=>none
noncomputable def denMin (k:Bool) (cs:List AV):Option AV:=if k then none else match cs with
 | [a,b]=>on2 a b fun x y=>some (.int (min x y))
 | _=>none
noncomputable def tupOf:AV->Option AV
 | .lst l=>some (.tup l)
 | _=>none
noncomputable def dctOf:AV->Option AV
 | .dct ks vs=>some (.dct ks vs)
 | _=>none
noncomputable def aA:BiE:=⟨.builtin "len",den1 fun a=>(lenV a).map fun n=>.int n,false,false⟩
noncomputable def b4:BiE:=⟨.type "list",den1 fun a=>(jg a).bind bD,false,true⟩
noncomputable def ft:BiE:=⟨.type "tuple",den1 tupOf,false,false⟩
noncomputable def kE:BiE:=⟨.type "int",den1 intOf,false,false⟩
noncomputable def iR:BiE:=⟨.builtin "min",denMin,true,false⟩
noncomputable def oh:BiE:=⟨.type "dict",den1 dctOf,false,true⟩
section
variable {C:Cx} {A:Around} {W:Wd} {E:Value->Shared->Prop}
theorem sizeLine_lt:(sizeLine:Int) < 2 ^ 63:=by unfold sizeLine; decide
theorem fits {k:Nat} (h:k<=sizeLine):(k:Int) < 2 ^ 63:=Int.lt_of_le_of_lt (Int.ofNat_le.mpr h) sizeLine_lt
theorem ig {val:Value} {f:AV->Option AV} {b c:Bool} (h:∀ (A:Around) (W:Wd) (a c:AV) (v:Value) (E:Value->Shared->Prop),RP C W a v->f a=some c->1 < W.h.objs.size->(b=true->A.handled=none)->wpAny C.M A (call val [v]) (Made C W c) E W.s):cS C ⟨val,den1 f,b,c⟩:=fun A W k t cs vs c E hf _ hz r e=>by
 cases k with
 | true=>cases e
 | false =>
  cases r with
  | nil=>cases e
  | cons r t=>cases t with
   | nil=>exact h A W _ c _ E r e hz fun q=>hf (.inr q)
   | cons _ _=>cases e
set_option tactic.hygienic true in
theorem sound_len:cS C aA:=ig fun A W a c v E r h hz _=>by
 obtain ⟨k,h',rfl⟩:=zAo.mp h
 clear h
 have h:=h'
 clear h'
 cases a <;> first | (cases h; done) | skip
 ·cases h
  obtain ⟨hs,t,rfl⟩:=r.str
  exact PyProof.Rows.len_str (Int.not_le.mpr (fits hs.sz)) Made.int
 ·cases h
  obtain ⟨ad,rfl,vs,m,ho,hsz,hv⟩:=r.tup
  rw [← hv.size]
  exact len_tuple (items:=vs) ⟨_,ho,rfl,m,rfl⟩ (fits hsz) Made.int
 ·cases h
  obtain ⟨ad,rfl,vs,m,ho,hsz,hv⟩:=r.lst
  rw [← hv.size]
  exact len_list (items:=vs) ⟨_,ho,rfl,m,rfl⟩ (fits hsz) Made.int
 ·cases h
  obtain ⟨ad,rfl,o,ss,ws,h1,h2,rfl,h4,h5⟩:=r.dct
  have hD:W.h.DictOf (strKind C.prog C.w) ad (ss.zip ws):=zBk.mpr ⟨o,h1,h4.is⟩
  have hl:(ss.zip ws).length=(ss.map AV.str).length:=by rw [zCi,zAe,h4.len,Nat.min_self]
  rw [← hl]
  exact call_len_dict h2 hD (by rw [hl,zAe,h4.len]; exact fits h4.sz) Made.int
 ·rename_i n
  cases h
  have:∃ ad o,v=.ref ad/\W.h.get? ad=some o/\SetO o n:=by
   cases r with
   | val r=>obtain ⟨ad,e,_,o,q⟩:=r; exact ⟨ad,o,e,q⟩
   | @con ad e r=>obtain ⟨o,q⟩:=r; exact ⟨ad,o,e,q⟩
  obtain ⟨ad,o,rfl,hg,hex,es,ep,t,hd,hf,rfl,hlt⟩:=this
  exact call_len_set hg hex hd hf (Int.lt_trans (zC5.mpr hlt) (by decide)) Made.int
theorem sound_list:cS C b4:=ig fun A W a c v E r h hz _=>by
 obtain ⟨l,h1,h2⟩:=zAi.mp h
 obtain ⟨_,rfl⟩:=dA h2
 have key:∀ (ad:Addr) (vs:Array Value) (m:Nat) (Ty:String),(Ty="list" ∨ Ty="tuple")->W.h.get? ad=some { cls:=.type Ty,data:=.seq vs m }->vs.size<=ou->VReps C W l vs.toList ->
   wpAny C.M A (call (.type "list") [.ref ad]) (Made C W (.lst l)) E W.s:=fun ad vs m Ty hT ho hsz hv =>
  call_list_seq ad hT ho rfl rfl (fun h' c' hk hn=>Made.newLst (tk:=W.s.toks) hk get?_size hn hsz hv) hsz
 cases a <;> first | (cases h1; done) | skip
 ·cases h1; obtain ⟨ad,rfl,vs,m,ho,hsz,hv⟩:=r.tup
  exact key ad vs m "tuple" (.inr rfl) ho hsz hv
 ·cases h1; obtain ⟨ad,rfl,vs,m,ho,hsz,hv⟩:=r.lst
  exact key ad vs m "list" (.inl rfl) ho hsz hv
theorem sound_tuple:cS C ft:=ig fun A W a c v E r h hz _=>by
 cases a <;> first | (cases h; done) | skip
 cases h
 obtain ⟨ad,rfl,vs,m,hg,hsz,hv⟩:=r.lst
 refine call_tuple_list (items:=vs) ⟨_,hg,rfl,m,rfl⟩ (fun h' hk=>?_) hsz
 refine .new (h:=h'.push (sqO "tuple" vs 0)) (tk:=W.s.toks) (fun b o e=>zAg _ (hk b o e)) ?_ ⟨vs,0,zAp _ rfl,hsz,hv⟩
 cases e:W.h.get? h'.objs.size with
 | none=>rfl
 | some o=>exact absurd (zAz (hk _ _ e)) (Nat.lt_irrefl _)
theorem sound_int:cS C kE:=ig fun A W a c v E r h hz _=>by
 cases a <;> first | (cases h; done) | skip
 obtain rfl:=r.bool
 obtain rfl:=Option.some.inj h
 exact call_int_bool Made.int
theorem sound_dict:cS C oh:=ig fun A W a c v E r h hz _=>by
 cases a <;> first | (cases h; done) | skip
 cases h
 obtain ⟨ad,rfl,o,ss,ws,h1,h2,rfl,h4,h5⟩:=r.dct
 have hD:W.h.DictOf (strKind C.prog C.w) ad (ss.zip ws):=zBk.mpr ⟨o,h1,h4.is⟩
 refine kt_call_dict (knd:=strKind C.prog C.w) h2 hD (by rw [zCi]; exact zAj (zBz _ _) h4.sz) fun h' hd hs=>?_
 obtain ⟨o',ho',hdo⟩:=zBk.mp hd
 exact .new (h:=h') (tk:=W.s.toks) (fun b o e=>(hs.2 b (zA5 (zAz e))).trans (zAg _ e)) get?_size ⟨o',ss,ws,ho',beq_eq_false_iff_ne.mpr (fun q=>by rw [show W.h.objs.size=1 from q] at hz; exact absurd hz (by decide)),rfl,⟨hdo,h4.len,h4.sz,h4.ok⟩,h5⟩
theorem Made.intk {i:Int} {t tk:Nat} {h:Heap} (g:Ge W.h h):Made C W (.int i) (.int i t) { W.s with heap:=h,toks:=tk }:=.val (h:=h) (tk:=tk) g rfl ⟨_,rfl⟩
theorem sound_min:cS C iR:=fun A W k t cs vs c E hf _ hz r e=>by
 have hh:=hf (.inr rfl)
 cases k with
 | true=>exact nomatch (show (none:Option AV)=some c from e)
 | false =>
  cases r with
  | nil=>exact nomatch (show (none:Option AV)=some c from e)
  | cons r1 t=>cases t with
   | nil=>exact nomatch (show (none:Option AV)=some c from e)
   | cons r2 t=>cases t with
    | nil =>
     obtain ⟨x,h1,e⟩:=zAi.mp (show on2 _ _ (fun x y=>some (AV.int (min x y)))=some c from e)
     obtain ⟨y,h2,e2⟩:=zAi.mp e
     obtain rfl:=bS h1; obtain rfl:=bS h2
     obtain ⟨t1,rfl⟩:=r1.int
     obtain ⟨t2,rfl⟩:=r2.int
     cases e2
     refine min_two_ints hh fun h' tk hk=>?_
     rw [Int.min_def]
     split
     ·rw [if_neg (by lia)]; exact .intk hk
     ·rw [if_pos (by lia)]; exact .intk hk
    | cons _ _=>exact nomatch (show (none:Option AV)=some c from e)
end
noncomputable def cU:List AV->Option (List Int)
 | []=>some []
 | .int i::r=>(cU r).map (i::·)
 | _::_=>none
noncomputable def gq:List Int->Option Int
 | []=>none
 | x::r=>some (r.foldl max x)
noncomputable def b9:List Str->List Str->List Str
 | σ,[]=>σ
 | σ,s::r=>b9 (if cw s σ then σ else σ++[s]) r
noncomputable def denMax (k:Bool) (cs:List AV):Option AV:=match cs with
 | [a]=>(lX a).bind fun l=>(cU l).bind fun ns=>if k then some (.int ((gq ns).getD 0)) else (gq ns).map .int
 | [a,b]=>if k then none else on2 a b fun x y=>some (.int (max x y))
 | _=>none
noncomputable def biMax:BiE:=⟨.builtin "max",denMax,true,false⟩
noncomputable def sumOf (a:AV):Option AV:=(lX a).bind fun l=>(cU l).map fun ns=>.int ns.sum
noncomputable def biSum:BiE:=⟨.builtin "sum",den1 sumOf,true,false⟩
noncomputable def setOf (a:AV):Option AV:=(tupV a).bind fun l=>(dN l).bind fun ss=>if zB5 ss.length 4000 then some (.sett (b9 [] ss).length) else none
noncomputable def eB:BiE:=⟨.type "set",den1 setOf,true,false⟩
section
variable {prog:Program} {w:World} {A:Around} {E:Value->Shared->Prop} {R:Result->Shared->Prop} {I:Addr} {fp wr:List Addr} {P:Nat->Value->Prop} {St:Nat->Heap->Prop} {s:Shared}
noncomputable def Nums (ns:List Int) (P:Nat->Value->Prop):Prop:=∀ i v,P i v->∀ x,ns[i]?=some x->∃ t,v=.int x t
noncomputable def MaxS (S:Addr) (v:Value) (h:Heap):Prop:=∃ c,h.get? S=some { cls:=.type "list",dict:=none,data:=.seq #[v,v] c,slots:=#[] }
theorem max_turn {ns:List Int} (Wk:Walks prog w A.in1 I fp wr ns.length P St) (hv:Nums ns P) {kw:List (Str × Value)} {S:Addr} (hSf:S ∉ fp) :
  ∀ (r:List Int) (j:Nat) (s:Shared) (m:Int) (t:Tok),ns.drop j=r->j<=ns.length->St j s.heap->MaxS S (.int m t) s.heap ->
  (∀ h' tk t',(∀ b o,b ∉ wr->b ≠ S->s.heap.get? b=some o->h'.get? b=some o)->R (.ok (.ret (.int (r.foldl max m) t'))) { s with heap:=h',toks:=tk }) ->
  codeAny (model prog w) A (.builtin "max.loop" ⟨[.ref I,.none,.ref S],kw⟩) R s:=by
 have hSw:S ∉ wr:=fun h=>hSf (Wk.sub _ h)
 have hname:(toString "max"++toString ".loop":String)="max.loop":=by decide
 intro r
 induction r with
 | nil =>
  intro j s m t hr hj hst hS hR
  obtain ⟨c,hS⟩:=hS
  have hin:j=ns.length:=zCx hj (List.drop_eq_nil_iff.mp hr)
  refine zCe F.entry_max_loop ?_
  rw [Around.under_plainId F.plain_max_loop _]
  show wpAny _ A.in1 (seqItems? (.ref S) >>= _) _ _ s
  refine zAa (zBt hS rfl ?_)
  show wpAny _ A.in1 (tryCatch (pyNext (.ref I)) _ >>= _) _ _ s
  refine zAa (wpAny_tryCatch (Wk.done s _ _ (hin ▸ hst) fun h' tk hk'=>?_))
  show wpAny _ A.in1 (updateSeq S (fun _=>#[]) >>= _) _ _ _
  refine zAa (zCp (hk' S _ hSw hS) rfl (zAa (zC8 (zAh ?_))))
  exact hR _ tk t fun b o hbw hbS e=>(zA1 _ _ (Ne.symm hbS)).trans (hk' b o hbw e)
 | cons x r ih =>
  intro j s m t hr hj hst hS hR
  obtain ⟨c,hS⟩:=hS
  have hlt:j < ns.length:=by
   refine Nat.lt_of_not_le fun h=>?_
   rw [List.drop_eq_nil_of_le h] at hr; exact cC List.ctorIdx hr rfl
  have hx:ns[j]?=some x:=by
   rw [zB9 hlt] at hr
   rw [zAv hlt]; exact congrArg some (List.cons.inj hr).1
  have hr':ns.drop (j+1)=r:=by
   rw [zB9 hlt] at hr; exact (List.cons.inj hr).2
  refine zCe F.entry_max_loop ?_
  rw [Around.under_plainId F.plain_max_loop _]
  show wpAny _ A.in1 (seqItems? (.ref S) >>= _) _ _ s
  refine zAa (zBt hS rfl ?_)
  show wpAny _ A.in1 (tryCatch (pyNext (.ref I)) _ >>= _) _ _ s
  refine zAa (wpAny_tryCatch (Wk.item j s _ _ hlt hst fun v h' tk hP hst' hk'=>?_))
  obtain ⟨u,rfl⟩:=hv j v hP x hx
  have hS':=hk' S _ hSw hS
  show wpAny _ A.in1 (tryCatch (holding [.int x u,.int x u] (richCompare .Gt (.int x u) (.int m t) >>= _)) _ >>= _) _ _ _
  refine zAa (wpAny_tryCatch (zA2 (zAa (CmpOf.ints_gt (P:=fun i v=>∃ t,v=.int (if i=0 then x else m) t) (fun i=>if i=0 then x else m) (fun _ _ h=>h) 0 1 _ _ _ _ _ ⟨u,rfl⟩ ⟨t,rfl⟩ ?_))))
  refine zAa (zA2 (wpAny_truthy_bool ?_))
  refine zAa (zC8 (zAh ?_))
  by_cases hb:x > m
  ·rw [if_pos (by exact decide_eq_true hb)]
   refine zAa ?_
   refine zCp hS' rfl (zAa (zC8 ?_))
   rw [hname]
   refine zAh ⟨plainId_quiet F.plain_max_loop _,ih (j+1) _ x u hr' hlt (Wk.frame _ _ _ hst' fun b hbf o e=>?_) ⟨_,zBl _ hS' rfl⟩ fun h'' tk'' t' hk''=>?_⟩
   ·exact (zA1 _ _ (fun h:S=b=>hSf (by rw [h]; exact hbf))).trans e
   ·have:=hR h'' tk'' t' fun b o hbw hbS e=>hk'' b o hbw hbS ((zA1 _ _ (Ne.symm hbS)).trans (hk' b o hbw e))
    rw [List.foldl_cons,Int.max_eq_right (Int.le_of_lt hb)] at this; exact this
  ·rw [if_neg (by exact fun q=>hb (of_decide_eq_true q))]
   refine zAa (zC8 ?_)
   rw [hname]
   refine zAh ⟨plainId_quiet F.plain_max_loop _,ih (j+1) _ m t hr' hlt hst' ⟨c,hS'⟩ fun h'' tk'' t' hk''=>?_⟩
   have:=hR h'' tk'' t' fun b o hbw hbS e=>hk'' b o hbw hbS (hk' b o hbw e)
   rw [List.foldl_cons,Int.max_eq_left (Int.not_lt.mp hb)] at this; exact this
theorem max_start {ns:List Int} (Wk:Walks prog w A.in1 I fp wr ns.length P St) (hv:Nums ns P) {kw:List (Str × Value)} {S:Addr} (hSf:S ∉ fp) (hst:St 0 s.heap) {c:Nat}
  (hS:s.heap.get? S=some { cls:=.type "list",dict:=none,data:=.seq #[] c,slots:=#[] })
  {res:Int} (hres:gq ns=some res ∨ gq ns=none/\∃ t r,kw=(("default":Str),.int res t)::r)
  (hR:∀ h' tk t',(∀ b o,b ∉ wr->b ≠ S->s.heap.get? b=some o->h'.get? b=some o)->R (.ok (.ret (.int res t'))) { s with heap:=h',toks:=tk }) :
  codeAny (model prog w) A (.builtin "max.loop" ⟨[.ref I,.none,.ref S],kw⟩) R s:=by
 have hSw:S ∉ wr:=fun h=>hSf (Wk.sub _ h)
 have hname:(toString "max"++toString ".loop":String)="max.loop":=by decide
 refine zCe F.entry_max_loop ?_
 rw [Around.under_plainId F.plain_max_loop _]
 show wpAny _ A.in1 (seqItems? (.ref S) >>= _) _ _ s
 refine zAa (zBt hS rfl ?_)
 show wpAny _ A.in1 (tryCatch (pyNext (.ref I)) _ >>= _) _ _ s
 cases ns with
 | nil =>
  obtain ⟨_,t,r,rfl⟩:=hres.resolve_left fun q=>nomatch q
  refine zAa (wpAny_tryCatch (Wk.done s _ _ hst fun h' tk hk'=>?_))
  refine zAa (wpAny_rule (zAh ?_))
  exact hR _ tk t fun b o hbw hbS e=>hk' b o hbw e
 | cons x r =>
  obtain hres:r.foldl max x=res:=Option.some.inj (hres.resolve_right fun q=>nomatch q.1)
  refine zAa (wpAny_tryCatch (Wk.item 0 s _ _ (Nat.zero_lt_succ _) hst fun v h' tk hP hst' hk'=>?_))
  obtain ⟨u,rfl⟩:=hv 0 v hP x rfl
  have hS':=hk' S _ hSw hS
  show wpAny _ A.in1 (updateSeq S (fun _=>#[.int x u,.int x u]) >>= _) _ _ _
  refine zAa (zCp hS' rfl ?_)
  rw [hname]
  refine zAh ⟨plainId_quiet F.plain_max_loop _,max_turn Wk hv hSf r 1 _ x u rfl (zBc (zBa _)) (Wk.frame _ _ _ hst' fun b hbf o e=>?_) ⟨_,zBl _ hS' rfl⟩ fun h'' tk'' t' hk''=>?_⟩
  ·exact (zA1 _ _ (fun h:S=b=>hSf (by rw [h]; exact hbf))).trans e
  ·rw [hres]
   exact hR h'' tk'' t' fun b o hbw hbS e=>hk'' b o hbw hbS ((zA1 _ _ (Ne.symm hbS)).trans (hk' b o hbw e))
theorem wpAny_max {x:Value} {kw:List (Str × Value)} {d:Option Value} {Q:Value->Shared->Prop} (ha:argsOk "max" ⟨[x],kw⟩) (hb:Builtin.Builtins.bindParams "max" ["key","default"] 0 ⟨[],kw⟩=pure [none,d]) (hd:(d.toList.map fun d=>(("default":Str),d))=kw)
  {ns:List Int} {res:Int} (hres:gq ns=some res ∨ gq ns=none/\∃ t r,kw=(("default":Str),.int res t)::r)
  (h:wpAny (model prog w) A.in1 (pyIter x) (fun it s₂=>∃ I fp wr P St,it=.ref I/\Walks prog w A.in1 I fp wr ns.length P St/\St 0 s₂.heap/\(∀ b ∈ fp,b < s₂.heap.objs.size)/\Nums ns P /\
   ∀ h' tk t',(∀ b o,b ∉ wr->s₂.heap.get? b=some o->h'.get? b=some o)->Q (.int res t') { s₂ with heap:=h',toks:=tk }) E s) :
  wpAny (model prog w) A (call (.builtin "max") [x] kw) Q E s:=by
 have hname:(toString "max"++toString ".loop":String)="max.loop":=by decide
 refine wpAny_call (codeAny_call_builtin F.plain_max F.entry_max ?_)
 have hck:checkBuiltinCall "max" ⟨[x],kw⟩=pure ():=by
  simp only [checkBuiltinCall,F.kind_max]
  unfold argsOk at ha
  cases hsig:Manifest.signature? "max" with
  | none=>rfl
  | some sig=>simp only [hsig] at ha; exact ha
 rw [hck]
 refine zAh ?_
 show wpAny _ A.in1 (Builtin.Builtins.bindParams "max" ["key","default"] 0 ⟨[],kw⟩ >>= _) _ _ s
 refine zAa (wpAny_of_eq hb ?_)
 refine zAa (zAh ?_)
 refine zAa (zAs h (fun it s₂ h₂=>?_) fun _ _ e=>e)
 obtain ⟨I,fp,wr,P,St,rfl,Wk,hst,hfp,hv,hQ⟩:=h₂
 refine zAa (zBn ?_)
 have hSf:s₂.heap.objs.size ∉ fp:=fun hm=>Nat.lt_irrefl _ (hfp _ hm)
 rw [hname,hd]
 refine zAh ⟨plainId_quiet F.plain_max_loop _,max_start Wk hv hSf (Wk.frame _ _ _ hst fun b _ o e=>zAg _ e) (zAp _ rfl) hres fun h' tk t' hk=>?_⟩
 exact hQ h' tk t' fun b o hbw e=>hk b o hbw (zA5 (zAz e)) (zAg _ e)
end
theorem me:isSubtype (.type "tuple") (.type "set")=pure false:=by rw [isSubtype_type]; kernel_rfl
theorem hK:isSubtype (.type "tuple") (.type "frozenset")=pure false:=by rw [isSubtype_type]; kernel_rfl
theorem nh:∀ (r σ:List Str),(b9 σ r).length<=σ.length+r.length
 | [],σ=>zAy _
 | s::r,σ=>by
  refine zAj (nh r (if cw s σ then σ else σ++[s])) ?_
  rw [zC6,← Nat.succ_add_eq_add_succ]
  refine zBh ?_ _
  split
  ·exact zDc _
  ·rw [zAd]; exact zAy _
theorem kZ (k:Str):∀ σ:List Str,cw k σ=σ.any (fun y=>decide (k=y))
 | []=>rfl
 | y::r=>by
  rw [memS_c]
  rw [kZ k r,List.any_cons,dn]
  congr 1
section
variable {prog:Program} {w:World} {A:Around} {E:Value->Shared->Prop} {R:Result->Shared->Prop} {I:Addr} {fp wr:List Addr} {n:Nat} {P:Nat->Value->Prop} {St:Nat->Heap->Prop} {s:Shared}
theorem setStr_loop (W:Walks prog w A.in1 I fp wr n P St) (S:Addr) (hSf:S ∉ fp) (ss:List Str) (hss:ss.length=n)
  (hval:∀ i v,P i v->∃ x t,ss[i]?=some x/\v=.str x t) (hok:∀ x ∈ ss,PyData.strOk x=true) (hb:n+1 < scanBound) :
  ∀ (k i:Nat) (σ:List Str) (s:Shared),n - i=k->i<=n->St i s.heap->σ.length<=i ->
   s.heap.SetOf (strKind prog w) S (fun k'=>cw k' σ) σ.length ->
   (∀ h' tk,(∀ b o,b ∉ S::wr->s.heap.get? b=some o->h'.get? b=some o)->h'.SetOf (strKind prog w) S (fun k'=>cw k' (b9 σ (ss.drop i))) (b9 σ (ss.drop i)).length->R (.ok (.ret .none)) { s with heap:=h',toks:=tk }) ->
   codeAny (model prog w) A (.builtin "set.update.loop" ⟨[.ref S,.ref I],[]⟩) R s:=by
 have hSw:S ∉ wr:=fun h=>hSf (W.sub _ h)
 intro k
 induction k with
 | zero =>
  intro i σ s hk hi hst hσ hS hR
  have hin:i=n:=zCx hi (Nat.le_of_sub_eq_zero hk)
  subst hin
  refine zCe F.entry_set_update_loop ?_
  rw [Around.under_plainId F.plain_set_update_loop _]
  show wpAny _ A.in1 (pyNext (.ref I) >>= _) _ _ s
  refine zAa (W.done s _ _ hst fun h' tk hm=>?_)
  show wpAny _ A.in1 (ret Value.none) _ _ _
  refine zAh (hR h' tk (fun b o hb e=>hm b o (fun q=>hb (zAc _ q)) e) ?_)
  rw [List.drop_of_length_le (zCj hss)]
  obtain ⟨o,es,ep,t,ho,rest⟩:=hS
  exact ⟨o,es,ep,t,hm S _ hSw ho,rest⟩
 | succ k ih =>
  intro i σ s hk hi hst hσ hS hR
  have hlt:i < n:=Nat.lt_of_sub_eq_succ hk
  refine zCe F.entry_set_update_loop ?_
  rw [Around.under_plainId F.plain_set_update_loop _]
  show wpAny _ A.in1 (pyNext (.ref I) >>= _) _ _ s
  refine zAa (W.item i s _ _ hlt hst fun v h₁ tk hP hst' hm=>?_)
  obtain ⟨x,t,hx,rfl⟩:=hval i v hP
  have hS':h₁.SetOf (strKind prog w) S (fun k'=>cw k' σ) σ.length:=by
   obtain ⟨o,es,ep,tb,ho,rest⟩:=hS
   exact ⟨o,es,ep,tb,hm S _ hSw ho,rest⟩
  have hkey:(strKind prog w).is x (.str x t)=true:=strKind_is _ _ _ _
  show wpAny _ A.in1 (holding [Value.str x t] (setAdd S (.str x t)) >>= _) _ _ _
  refine zAa (zA2 ?_)
  unfold setAdd
  refine zA2 ?_
  refine zAa ((strKind prog w).pyHash (k:=x) hkey ?_)
  refine wpAny_setAddHashed_of (knd:=strKind prog w) (s:={ s with heap:=h₁,toks:=tk+1 }) hkey rfl hS' (by omega) fun h' hsb hS2=>?_
  have hdrop:ss.drop i=x::ss.drop (i+1):=by
   have:=zA3.mp hx
   rw [← this.2]; exact zB9 (hss ▸ hlt)
  have hSi:h'.SetOf (strKind prog w) S (fun k'=>cw k' (if cw x σ then σ else σ++[x])) (if cw x σ then σ else σ++[x]).length:=by
   refine SetOf_congr hS2 (fun k'=>?_) (by split <;> simp)
   by_cases hc:cw x σ=true
   ·rw [if_pos hc]
    by_cases e:k'=x
    ·subst e; rw [hc]; simp
    ·simp [e]
   ·rw [if_neg hc,kZ,kZ,List.any_append]
    simp
  have hσ':(if cw x σ then σ else σ++[x]).length<=i+1:=by split <;> (try rw [zAd,List.length_singleton]) <;> omega
  refine zAh ⟨plainId_quiet F.plain_set_update_loop _,ih (i+1) _ _ (by omega) hlt (W.frame _ _ _ hst' fun b hb o e=>?_) hσ' hSi fun h'' tk'' hm'' hS''=>?_⟩
  ·exact (hsb.2 b (fun h:b=S=>hSf (by rw [← h]; exact hb))).trans e
  ·refine hR h'' tk'' (fun b o hb e=>hm'' b o hb ?_) ?_
   ·exact (hsb.2 b (fun h:b=S=>hb (by rw [h]; exact zAb))).trans (hm b o (fun q=>hb (zAc _ q)) e)
   ·rw [hdrop]; exact hS''
set_option maxRecDepth 100000 in
set_option maxHeartbeats 3200000 in
theorem lW {l:Addr} {items:Array Value} {ss:List Str} {Q:Value->Shared->Prop}
  (hh:A.handled=none) (hl:s.heap.IsTuple l items) (hsz:ss.length=items.size) (hi:∀ (i:Nat) (v:Value),items[i]?=some v->∃ x t,ss[i]?=some x/\v=Value.str x t) (hok:∀ x ∈ ss,PyData.strOk x=true) (hb:items.size+1 < scanBound)
  (h:∀ (h':Heap) (tk:Nat),h'.SetOf (strKind prog w) s.heap.objs.size (fun k'=>cw k' (b9 [] ss)) (b9 [] ss).length ->
   (∀ b o,b < s.heap.objs.size->s.heap.get? b=some o->h'.get? b=some o)->Q (.ref s.heap.objs.size) { s with heap:=h',toks:=tk }) :
  wpAny (model prog w) A (call (.type "set") [.ref l]) Q E s:=by
 obtain ⟨c,tl,hmro⟩:=F.called_set.mro
 have hmade:=F.called_set.made
 have hsub:=F.called_set.sub
 refine wpAny_call (codeAny_of_tree ?_)
 show wpAny _ _ (callAny (.type "set") _) _ _ _
 refine zAh ⟨Code.quiet_builtin _ (by decide +kernel),zCe F.entry_type_call ?_⟩
 rw [Around.under_plain (weight_type_call_type "set" [.ref l] []) rfl]
 have h1:=F.called_set.notType
 have h2:=F.called_set.canCreate
 have hct:=F.typeCall_set_1 (.ref l)
 repeat (any_goals (first | assumption | wp_step))
 refine codeAny_mono (code_set_new_1 (.ref l) (E:=E) (Q₁:=fun obj s₁=>∃ led:Bool,obj=.ref s.heap.objs.size/\s₁={ s with heap:=s.heap.push { cls:=.type "set",dict:=none,data:=.set #[] 0 (.fresh 0 0 led) } }) fun led=>⟨led,rfl,rfl⟩) fun r s₁ hr=>?_
 cases r with
 | error e=>exact hr
 | ok fl =>
  cases fl with
  | ret obj =>
   obtain ⟨led,rfl,rfl⟩:=hr
   generalize hso:({ cls:=.type "set",dict:=none,data:=.set #[] 0 (.fresh 0 0 led) }:Obj)=so
   have hS:(s.heap.push so).get? s.heap.objs.size=some so:=zAp _ (by subst hso; rfl)
   have hT:Shared.TypeIs { s with heap:=s.heap.push so } (.ref s.heap.objs.size) "set":=⟨_,hS,by subst hso; rfl⟩
   have hli:=F.called_set.init.lookup
   have hbi:=F.called_set.init.bind (.ref s.heap.objs.size)
   repeat (any_goals (first | assumption | wp_step))
   refine codeAny_mono (codeAny_call_builtin (R:=wants (fun r s₂=>r=.none/\∃ h' tk,s₂={ s with heap:=h',toks:=tk } /\
     h'.SetOf (strKind prog w) s.heap.objs.size (fun k'=>cw k' (b9 [] ss)) (b9 [] ss).length /\
     (∀ b o,b < s.heap.objs.size->s.heap.get? b=some o->h'.get? b=some o)) E) F.called_set.init.plain F.entry_set_init (check_set_init_1 hT ?_)) fun rB s₂ hrA=>?_
   ·obtain ⟨ol,hol,hcl,nl,hdl⟩:=hl
    obtain ⟨ocls,odict,odata,oslots⟩:=ol
    simp only at hcl hdl
    subst hcl; subst hdl
    have hol':(s.heap.push so).get? l=some { cls:=.type "tuple",dict:=odict,data:=.seq items nl,slots:=oslots }:=zAg _ hol
    have hsls:=me
    have hslf:=hK
    have hne:(Value.type "tuple" == Value.type "dict")=false:=by decide
    have hl1:(s.heap.push so).IsTuple l items:=⟨_,hol',rfl,nl,rfl⟩
    subst hso
    unfold Builtin.«set.__init__» noKeywords Builtin.Frozenset.updateFrom
    generalize hPI:pyIter=PI
    wp_walk
    subst hPI
    refine zCk hl1 ?_
    refine zAa (wpAny_runValue ?_)
    have hlS:l < s.heap.objs.size:=zAz hol
    have hh3:A.in1.in1.in1.handled=none:=by simp [hh]
    generalize hso:({ cls:=.type "set",dict:=none,data:=.set #[] 0 (.fresh 0 0 led) }:Obj)=so at *
    have hneI:l ≠ (s.heap.push so).objs.size:=by
     rw [zBj]; exact zA5 (zBd hlS)
    have hSf:s.heap.objs.size ∉ [(s.heap.push so).objs.size,l]:=by
     rw [zBj]; simp only [zAl,zAf,zBr,or_false,not_or]
     exact ⟨zA5 (zCt _),zBf hlS⟩
    refine setStr_loop (Walks.tuple hh3 _ l hneI items) s.heap.objs.size
     hSf ss hsz hi hok hb (items.size - 0) 0 [] _ (by omega) (zBa _)
     ⟨⟨_,zAp _ rfl,rfl,rfl⟩,(hl1.push _)⟩ (zAy _) ?hS0 ?hR
    case hS0 =>
     have hget:=zAg (h:=s.heap.push so) { cls:=.type "tuple_iterator",data:=.fields #[.ref l,.int 0 0] } hS
     subst hso
     exact SetOf_congr ((setObjOf_fresh (knd:=strKind prog w) led).setOf hget (by unfold scanBound; omega)) (fun _=>rfl) rfl
    case hR =>
     intro h' tk' hm hS'
     show wpAny _ _ _ _ _ _
     refine zAh ?_
     show wpAny _ _ (ret Value.none) _ _ _
     refine zAh ⟨rfl,h',tk',rfl,hS',fun b o hb e=>?_⟩
     have hb1:b ≠ s.heap.objs.size:=zA5 hb
     have hb2:b ≠ (s.heap.push so).objs.size:=by
      rw [zBj]; exact zA5 (zBd hb)
     exact hm b o (by simp only [zAl,zAf,zBr,or_false,not_or]; exact ⟨hb1,hb2⟩) (zAg _ (zAg _ e))
   ·cases rB with
    | error e=>exact hrA
    | ok flA =>
     cases flA with
     | ret r =>
      obtain ⟨rfl,h',tk,rfl,hS',hk'⟩:=hrA
      repeat (any_goals (first | assumption | wp_step))
      exact h _ _ hS' hk'
     | _=>exact hrA.elim
  | _=>exact hr.elim
end
section
variable {C:Cx} {A:Around} {W:Wd}
set_option tactic.hygienic true in
theorem m9:∀ {l:List AV} {ss:List Str} {vs:List Value},dN l=some ss->VReps C W l vs->ss.length=vs.length/\(∀ x ∈ ss,PyData.strOk x=true)/\∀ (i:Nat) (v:Value),vs[i]?=some v->∃ x t,ss[i]?=some x/\v=Value.str x t
 | [],ss,vs,h,r=>by
  obtain rfl:=r; cases h
  exact ⟨rfl,fun _ q=>(zBr q).elim,fun i v q=>nomatch q⟩
 | a::l,ss,vs,h,r=>by
  obtain ⟨v,vs',rfl,r1,r2⟩:=r
  cases a <;> first | (exact aC h; done) | skip
  rename_i x
  obtain ⟨ss',hl,rfl⟩:=zAo.mp h
  ·obtain ⟨h1,t,rfl⟩:=r1
   obtain ⟨q1,q2,q3⟩:=m9 hl r2
   refine ⟨congrArg Nat.succ q1,fun y hy=>(zAl.mp hy).elim (fun e=>e ▸ h1.ok) (q2 y),fun i v q=>?_⟩
   cases i with
   | zero=>cases q; exact ⟨x,t,rfl,rfl⟩
   | succ i=>exact q3 i v q
theorem sound_set:cS C eB:=ig fun A W a c v E r h hz hh=>by
 obtain ⟨l,h1,h2⟩:=zAi.mp h
 obtain rfl:=ml h1
 obtain ⟨ss,hs,h3⟩:=zAi.mp h2
 obtain ⟨hn,rfl⟩:=be h3
 have hn:=zA9 hn
 obtain ⟨ad,rfl,vs,m,hg,hsz,hv⟩:=r.tup
 obtain ⟨q1,q2,q3⟩:=m9 hs hv
 have q1:ss.length=vs.size:=by rw [q1,Array.length_toList]
 refine lW (hh rfl) ⟨_,hg,rfl,m,rfl⟩ q1 (fun i v e=>q3 i v (by rw [zCh]; exact e)) q2 (by unfold scanBound; omega) fun h' tk hS hk=>?_
 obtain ⟨o,es,ep,t,ho,hex,hd,_,_,_,hf,hlen⟩:=hS
 have:=nh ss []
 exact .new (h:=h') (tk:=tk) (fun b o e=>hk b o (zAz e) e) get?_size ⟨o,ho,hex,es,ep,t,hd,hf,hlen,by simp at this; omega⟩
theorem mW:∀ {l:List AV} {ns:List Int} {vs:List Value},cU l=some ns->VReps C W l vs->∃ ps:List (Int × Tok),vs=ps.map (fun p=>Value.int p.1 p.2)/\ps.map (·.1)=ns
 | [],ns,vs,h,r=>by
  obtain rfl:=r; cases h; exact ⟨[],rfl,rfl⟩
 | a::l,ns,vs,h,r=>by
  obtain ⟨v,vs',rfl,r1,r2⟩:=r
  cases a <;> first | (exact aC h; done) | skip
  obtain ⟨ns',hl,rfl⟩:=zAo.mp h
  ·obtain ⟨t,rfl⟩:=r1
   obtain ⟨ps,rfl,rfl⟩:=mW hl r2
   exact ⟨(_,t)::ps,rfl,rfl⟩
theorem mE {l:List AV} {ns:List Int} {v:Value} (r:RP C W (.lst l) v) (hi:cU l=some ns):∃ (a:Addr) (ps:List (Int × Tok)),v=.ref a/\W.h.IsList a (intItems ps.toArray)/\ps.map (·.1)=ns:=by
 obtain ⟨ad,rfl,vs,m,hg,hsz,hv⟩:=r.lst
 obtain ⟨ps,hps,rfl⟩:=mW hi hv
 have hvs:vs=intItems ps.toArray:=by
  rw [← Array.toArray_toList (xs:=vs),hps]
  simp [intItems]
 subst hvs
 exact ⟨ad,ps,rfl,⟨_,hg,rfl,m,rfl⟩,rfl⟩
theorem sound_sum:cS C biSum:=ig fun A W a c v E r h hz hh=>by
 obtain ⟨l,h1,h2⟩:=zAi.mp h
 obtain rfl:=ee h1
 obtain ⟨ns,hi,rfl⟩:=zAo.mp h2
 obtain ⟨ad,ps,rfl,hl,rfl⟩:=mE r hi
 refine sum_intListG (hh rfl) hl fun h' tk t' hk=>?_
 rw [preSum_eq,List.take_of_length_le (by simp)]
 exact .intk hk
theorem wp_maxK {l:List AV} {ns:List Int} {v:Value} {kw:List (Str × Value)} {res:Int} {E:Value->Shared->Prop} (hh:A.handled=none) (r:RP C W (.lst l) v) (hi:cU l=some ns)
  (hk:(kw=[]/\gq ns=some res) ∨ ∃ t,kw=[(("default":Str),.int 0 t)]/\(gq ns).getD 0=res):wpAny C.M A (call (.builtin "max") [v] kw) (Made C W (.int res)) E W.s:=by
 obtain ⟨ad,ps,rfl,hl,rfl⟩:=mE r hi
 have key:∀ {kw:List (Str × Value)} {d:Option Value},argsOk "max" ⟨[.ref ad],kw⟩->Builtin.Builtins.bindParams "max" ["key","default"] 0 ⟨[],kw⟩=pure [none,d]->(d.toList.map fun d=>(("default":Str),d))=kw->(gq (ps.map (·.1))=some res ∨ gq (ps.map (·.1))=none/\∃ t r,kw=(("default":Str),.int res t)::r) ->
   wpAny C.M A (call (.builtin "max") [.ref ad] kw) (Made C W (.int res)) E W.s:=fun ha hb hd hres=>by
  refine wpAny_max ha hb hd hres (iter_intList hl fun s₂ e st hfp hlI=>?_)
  subst e
  refine ⟨_,_,_,_,_,rfl,by have:=Walks.list (prog:=C.prog) (w:=C.w) (A:=A.in1) hh _ ad hlI (intItems ps.toArray); rw [show (intItems ps.toArray).size=(ps.map (·.1)).length from by simp [intItems]] at this; exact this,st,hfp,fun i v hv x hx=>?_,fun h' tk t' hk=>?_⟩
  ·obtain ⟨t,rfl⟩:=intItems_at hv
   refine ⟨t,?_⟩
   rw [numAt_eq,zB4,show (ps.toArray.toList.map (·.1))[i]?=some x from hx]; rfl
  ·exact .intk (old_kept hk)
 rcases hk with ⟨rfl,hm⟩ | ⟨t,rfl,hm⟩
 ·exact key (d:=none) (F.args_max1 _) rfl rfl (.inl hm)
 ·refine key (d:=some (.int 0 t)) (by unfold argsOk; kernel_rfl) (by kernel_rfl) rfl ?_
  cases hq:gq (ps.map (·.1)) with
  | none=>rw [hq] at hm; exact .inr ⟨rfl,t,[],by rw [← hm]; rfl⟩
  | some m=>rw [hq] at hm; exact .inl (congrArg some hm)
set_option tactic.hygienic true in
theorem sound_max:cS C biMax:=fun A W k t cs vs c E hf _ hz r e=>by
 have hh:=hf (.inr rfl)
 cases r with
 | nil=>exact nomatch (show (none:Option AV)=some c from e)
 | cons r1 tl=>cases tl with
  | nil =>
   obtain ⟨l,h1,e⟩:=zAi.mp (show (lX _).bind (fun l=>(cU l).bind fun ns=>if k then some (AV.int ((gq ns).getD 0)) else (gq ns).map .int)=some c from e)
   obtain rfl:=ee h1
   obtain ⟨ns,hi,e2⟩:=zAi.mp e
   cases k with
   | true=>cases e2; exact wp_maxK hh r1 hi (.inr ⟨t,rfl,rfl⟩)
   | false =>
    obtain ⟨m,hm,rfl⟩:=zAo.mp e2
    exact wp_maxK hh r1 hi (.inl ⟨rfl,hm⟩)
  | cons r2 tl=>cases tl with
   | cons _ _=>exact nomatch (show (none:Option AV)=some c from e)
   | nil=>cases k with
    | true=>exact nomatch (show (none:Option AV)=some c from e)
    | false =>
     obtain ⟨x,h1,e⟩:=zAi.mp (show on2 _ _ (fun x y=>some (AV.int (max x y)))=some c from e)
     obtain ⟨y,h2,e2⟩:=zAi.mp e
     obtain rfl:=bS h1; obtain rfl:=bS h2
     obtain ⟨t1,rfl⟩:=r1.int
     obtain ⟨t2,rfl⟩:=r2.int
     cases e2
     refine max_two_ints hh fun h' tk hk=>?_
     rw [Int.max_def]
     split
     ·split
      ·exact .intk hk
      ·rename_i h1 h2; rw [show (_:Int)=_ from Int.le_antisymm h1 (Int.not_lt.mp h2)]; exact .intk hk
     ·rw [if_neg (by lia)]; exact .intk hk
end
theorem fZ:∀ {ps:List Str} {vs:List Value} {x:Str},vs.length=ps.length->x ∈ ps->((ps.zip vs).lookup x).isSome=true
 | [],_,_,_,h=>nomatch h
 | p::ps,[],_,hl,_=>nomatch hl
 | p::ps,v::vs,x,hl,h=>by
  rw [zBo,zBb]
  by_cases hx:(x == p)=true
  ·rw [hx]; rfl
  ·rw [show (x == p)=false from by simpa using hx]
   exact fZ (Nat.succ.inj hl) ((zAl.mp h).resolve_left fun q=>hx (by rw [q]; exact beq_self_eq_true _))
theorem eX {α β:Type} {f g:α->Option β}:∀ {l:List α},(∀ x ∈ l,f x=g x)->l.filterMap f=l.filterMap g
 | [],_=>rfl
 | x::r,h=>by rw [List.filterMap_cons,List.filterMap_cons,h x zAb,eX fun y hy=>h y (zAc _ hy)]
theorem ic:∀ {ps:List Str} {vs:List Value},vs.length=ps.length->ps.Nodup->(ps.filterMap fun n=>((ps.zip vs).lookup n).map (n,·))=ps.zip vs
 | [],[],_,_=>rfl
 | [],_::_,h,_=>nomatch h
 | _::_,[],h,_=>nomatch h
 | p::ps,v::vs,hl,hn=>by
  have hn':=zBp.mp hn
  have e:∀ n ∈ ps,(((p::ps).zip (v::vs)).lookup n).map (Prod.mk n)=((ps.zip vs).lookup n).map (Prod.mk n):=fun n h=>by
   rw [zBo,zBb,show (n == p)=false from by
    have:n ≠ p:=fun q=>hn'.1 (q ▸ h)
    simpa using this]
  rw [List.filterMap_cons]
  rw [show (((p::ps).zip (v::vs)).lookup p).map (Prod.mk p)=some (p,v) from by rw [zBo,zBb,beq_self_eq_true]; rfl]
  dsimp only
  rw [eX e,ic (Nat.succ.inj hl) hn'.2]
  rfl
theorem lp {fd:FuncData} {ps:List Str} {vals:List Value} (h1:fd.params.posonlyargs=[]) (h2:fd.params.args.map (·.arg)=ps) (h3:fd.params.kwonlyargs=[]) (h4:fd.params.vararg=none) (h5:fd.params.kwarg=none) (h6:fd.defaults=.none)
  (hn:ps.Nodup) (hl:vals.length=ps.length):bindArgs fd ⟨vals,[]⟩=Pure.pure (ps.zip vals):=by
 obtain ⟨nm,qn,prs,bd,scp,gl,cl,df,kd,dc,pm,an,cd,ct,bt⟩:=fd
 obtain ⟨po,ar,va,ko,kds,ka,dfs⟩:=prs
 dsimp only at h1 h2 h3 h4 h5 h6
 subst h1 h2 h3 h4 h5 h6
 have hm:((ar.map (·.arg)).take ((ar.map (·.arg)).length - 0)).filter (fun n=>(((ar.map (·.arg)).zip vals).lookup n).isNone)=[]:=by
  rw [List.filter_eq_nil_iff]
  intro x hx
  have:=fZ hl (List.mem_of_mem_take hx)
  simp [zDd,Option.isSome_iff_ne_none.mp this]
 have hg:¬ (vals.length > (ar.map (·.arg)).length):=by lia
 have hf:=ic hl hn
 have hd:∀ n:Nat,List.drop n (((none:Option (Array Value)).getD #[]).toList)=[]:=fun n=>List.drop_nil
 refine Eq.trans (if_neg (c:=(decide (vals.length > (ar.map (·.arg)).length) && true)=true) ?_) ?_
 ·rw [decide_eq_false hg]; exact zAn
 rw [hd]
 refine Eq.trans (if_neg ?_) ?_
 ·show ¬ ((!(((ar.map (·.arg)).take ((ar.map (·.arg)).length - 0)).filter (fun n=>(((ar.map (·.arg)).zip vals).lookup n).isNone)).isEmpty)=true)
  rw [hm]; exact zAn
 show (forIn (List.zip (List.drop ((ar.map (·.arg)).length - 0) (ar.map (·.arg))) ([]:List Value)) _ _ >>= _)=_
 rw [List.zip_nil_right]
 show (Pure.pure ((((ar.map (fun x:Arg=>x.arg))++[]).filterMap fun n=>(((ar.map (fun x:Arg=>x.arg)).zip vals).lookup n).map (n,·))):Sem (List (Str × Value)))=_
 rw [zAt,hf]
noncomputable def fnOfRec (d:DefRec):Str × Str × Fn:=(⟨#[]⟩,d.name,⟨c7 d.params,d.body,d.scope.names⟩)
noncomputable def recOk (d:DefRec):Bool :=
 d.scope.kind == .function && !d.scope.isCoroutine && !d.scope.isGenerator && d.params.posonlyargs.isEmpty && d.params.kwonlyargs.isEmpty && d.params.vararg.isNone && d.params.kwarg.isNone &&
 decide (c7 d.params).Nodup && (c7 d.params).all (fun x=>d.scope.names.lookup x == some .local || d.scope.names.lookup x == some .cell) && d.scope.names.all fun q=>q.2 != .free
structure RecOk (d:DefRec):Prop where
 kind:d.scope.kind=.function
 co:d.scope.isCoroutine=false
 gen:d.scope.isGenerator=false
 po:d.params.posonlyargs=[]
 ko:d.params.kwonlyargs=[]
 va:d.params.vararg=none
 ka:d.params.kwarg=none
 nodup:(c7 d.params).Nodup
 par:∀ x ∈ c7 d.params,d.scope.names.lookup x=some .local ∨ d.scope.names.lookup x=some .cell
 nofree:∀ x,d.scope.names.lookup x ≠ some .free
theorem dE {α:Type} {x:Str} {v:α}:∀ {l:List (Str × α)},l.lookup x=some v->(x,v) ∈ l
 | [],h=>nomatch h
 | (y,w)::r,h=>by
  rw [zBb] at h
  by_cases hx:(x == y)=true
  ·rw [hx] at h; cases h; rw [eq_of_beq hx]; exact zAb
  ·rw [show (x == y)=false from by simpa using hx] at h; exact zAc _ (dE h)
theorem fJ {d:DefRec} (h:recOk d=true):RecOk d:=by
 unfold recOk at h
 simp only [zA0,beq_iff_eq,zCm,decide_eq_true_eq,zA7,Bool.or_eq_true,zBy,zDd,bne_iff_ne] at h
 obtain ⟨⟨⟨⟨⟨⟨⟨⟨⟨h1,h2⟩,h3⟩,h4⟩,h5⟩,h6⟩,h7⟩,h8⟩,h9⟩,h10⟩:=h
 exact ⟨h1,h2,h3,h4,h5,h6,h7,h8,h9,fun x q=>h10 _ (dE q) rfl⟩
noncomputable def fnOfMeth (c:Str) (m:MethRec):Str × Str × Fn:=(c,m.name,⟨c7 m.params,m.body,m.scope.names⟩)
noncomputable def excsOf (body:List Stmt):List (Str × List Str):=body.foldl (fun P s=>match s with
 | .ClassDef n bases _ _ _ _ _ _ _ _ _=>(match bases with
  | [b]=>(cZ b).elim P fun m=>P++[(n,m::(aR m P).getD [])]
  | _=>P)
 | _=>P) []
noncomputable def intE:Expr->Option Int
 | .Constant c _ _=>(match c with | .int i=>some i | _=>none)
 | _=>none
noncomputable def constsOf (body:List Stmt):List (Str × Int):=body.filterMap fun s=>match s with
 | .Assign ts v _=>(match ts with | [t]=>(cZ t).bind fun x=>(intE v).map fun i=>(x,i) | _=>none)
 | _=>none
noncomputable def pgP (B:Pg) (p:Program):Pg where
 fns:=(recsOf p).map fnOfRec++(plainsOf p []).flatMap fun c=>c.meths.map (fnOfMeth c.name)
 classes:=(plainsOf p []).map (·.name)
 excs:=excsOf p.main.body
 consts:=constsOf p.main.body
 bi:=B.bi
 flds:=B.flds
 mths:=B.mths
 shared:=B.shared
structure BaseOk (B:Pg):Prop where
 bi:∀ q ∈ B.bi,bootBuiltins q.1=some q.2.val/\(∀ a,q.2.val ≠ .ref a)/\∀ C,cS C q.2
 fld:∀ f ∈ B.flds,typeLookup (.type "object") f=(Pure.pure none:Sem (Option Value))
 mth:∀ f ∈ B.mths,typeLookup (.type "object") f=(Pure.pure none:Sem (Option Value))/\f ∉ B.flds
noncomputable def n6 (m:MethRec):DefRec:=⟨m.name,m.params,m.body,m.scope,default⟩
noncomputable def er (prog:Program) (w:World) (s₁:Shared) (P:Pg) (mg mb:Str->Option Value) (methA:Str->Str->Option Addr):Cx where
 prog:=prog
 w:=w
 s0:=s₁
 P:=P
 clsA:=fun c=>match mg c with | some (.ref a)=>some a | _=>none
 mg:=mg
 mb:=mb
 fnA:=fun c f=>if c=⟨#[]⟩ then (match mg f with | some (.ref a)=>some a | _=>none) else methA c f
 fnO:=fun a=>(s₁.heap.get? a).getD default
 fnD:=fun a=>match ((s₁.heap.get? a).getD default).data with | .func fd=>fd | _=>default
theorem lL:∀ {l:List ClsRec} {a b:ClsRec},(l.map (·.name)).Nodup->a ∈ l->b ∈ l->a.name=b.name->a=b
 | [],_,_,_,h,_,_=>nomatch h
 | x::r,a,b,hn,ha,hb,e=>by
  rw [zA6,zBp] at hn
  rcases zAl.mp ha with q | ha' <;> rcases zAl.mp hb with q' | hb'
  ·rw [q,q']
  ·subst q; exact absurd (e ▸ zBs.mpr ⟨b,hb',rfl⟩) hn.1
  ·subst q'; exact absurd (e ▸ zBs.mpr ⟨a,ha',rfl⟩) hn.1
  ·exact lL hn.2 ha' hb' e
set_option tactic.hygienic true in
theorem kH {c f:Str} {fn:Fn}:∀ {l:List (Str × Str × Fn)},lq c f l=some fn->(c,f,fn) ∈ l
 | [],h=>nomatch h
 | (c',f',fn')::r,h=>by
  rw [findFn_c] at h
  split at h
  ·rename_i q
   cases h
   rw [dn,dn] at q
   simp only [zA0,beq_iff_eq] at q
   rw [q.1,q.2]; exact zAb
  ·exact zAc _ (kH h)
noncomputable def iL (p:Program):Bool:=(plainsOf p []).all fun c=>!(c.name == ⟨#[]⟩) && !(decide ((plainsOf p []).map (·.name)).Nodup == false)
theorem iQ {B:Pg} {p:Program} {c f:Str} {fn:Fn} (hn:iL p=true) (h:(pgP B p).find c f=some fn) :
  (c=⟨#[]⟩/\∃ d ∈ recsOf p,d.name=f/\fn=⟨c7 d.params,d.body,d.scope.names⟩) ∨ (c ≠ ⟨#[]⟩/\∃ k ∈ plainsOf p [],k.name=c/\∃ m ∈ k.meths,m.name=f/\fn=⟨c7 m.params,m.body,m.scope.names⟩):=by
 have hm:=kH h
 rcases zA8.mp hm with h1 | h1
 ·obtain ⟨d,hd,q⟩:=zBs.mp h1
  cases q
  exact .inl ⟨rfl,d,hd,rfl,rfl⟩
 ·obtain ⟨k,hk,q⟩:=List.mem_flatMap.mp h1
  obtain ⟨m,hmm,q⟩:=zBs.mp q
  cases q
  refine .inr ⟨?_,k,hk,rfl,m,hmm,rfl,rfl⟩
  have:=zA7.mp hn k hk
  simp only [zA0,zCm,beq_eq_false_iff_ne] at this
  exact this.1
section
variable {B:Pg} {p prog:Program} {w:World} {s₁:Shared} {mg mb:Str->Option Value} {methA:Str->Str->Option Addr} {loose:List Str} {mean:ExcName->Option Value}
noncomputable def PlainsOk (B:Pg) (p:Program) (mg:Str->Option Value) (methA:Str->Str->Option Addr) (h:Heap):Prop :=
 ∀ c ∈ plainsOf p [],∃ C N mN,mg c.name=some (.ref C)/\PlainAt h c C N mN/\(∀ f ∈ B.flds,mN f=none)/\∀ m ∈ c.meths,∀ fa,mN m.name=some (.ref fa)->methA c.name m.name=some fa
theorem PlainsOk.keeps {h h':Heap} (X:PlainsOk B p mg methA h) (k:∀ b o,h.get? b=some o->h'.get? b=some o):PlainsOk B p mg methA h' :=
 fun c hc=>(X c hc).imp fun _ q=>q.imp fun _ q=>q.imp fun _ q=>⟨q.1,q.2.1.keeps k,q.2.2⟩
noncomputable def ku (p:Program):List DefRec:=recsOf p++(plainsOf p []).flatMap fun c=>c.meths.map n6
theorem fnA_mk {P:Pg} {f:Str} {a:Addr} (h:mg f=some (.ref a)):(er prog w s₁ P mg mb methA).fnA ⟨#[]⟩ f=some a:=by
 unfold er; dsimp only; rw [if_pos rfl,h]
theorem fnA_mk' {P:Pg} {c f:Str} {a:Addr} (hc:c ≠ ⟨#[]⟩) (h:methA c f=some a):(er prog w s₁ P mg mb methA).fnA c f=some a:=by
 unfold er; dsimp only; rw [if_neg hc,h]
theorem fnOk_of {P:Pg} {h:Heap} {d:DefRec} {a:Addr} {o:Obj} {nm q:Str} {pm code doc:Value} (R:RecOk d) (h2:s₁.heap.get? a=some o) (e2:h.get? a=some o) (h3:o.data=.func (methDef nm q d.params d.body d.scope pm code doc)) (h4:h.CodeRec code q) :
  FnOk h ⟨c7 d.params,d.body,d.scope.names⟩ a ((er prog w s₁ P mg mb methA).fnO a) ((er prog w s₁ P mg mb methA).fnD a):=by
 have eO:(er prog w s₁ P mg mb methA).fnO a=o:=by show (s₁.heap.get? a).getD default=o; rw [h2]; rfl
 have eD:(er prog w s₁ P mg mb methA).fnD a=methDef nm q d.params d.body d.scope pm code doc:=by
  show (match ((s₁.heap.get? a).getD default).data with | .func fd=>fd | _=>default)=_
  rw [h2]; show (match o.data with | .func fd=>fd | _=>default)=_; rw [h3]
 rw [eO,eD]
 exact {
  obj:=e2
  dat:=h3
  body:=rfl
  names:=rfl
  kind:=R.kind
  co:=R.co
  gen:=R.gen
  clo:=rfl
  glob:=rfl
  blt:=rfl
  code:=h4
  bind:=fun vals hl=>lp R.po rfl R.ko R.va R.ka rfl R.nodup hl }
theorem stat_top (BO:BaseOk B) (T:Top p loose mean mg mb s₁.heap) (TC:PlainsOk B p mg methA s₁.heap) (hn:iL p=true) (hok:(ku p).all recOk=true) (hxc:∀ h:Heap,(∀ b o,s₁.heap.get? b=some o->h.get? b=some o)->XcOk (er prog w s₁ (pgP B p) mg mb methA) h):∀ h:Heap,Ge s₁.heap h->StatH (er prog w s₁ (pgP B p) mg mb methA) h:=fun h hk=>by
 have T':=T.keeps hk
 refine ⟨hxc h hk,fun c hc=>?_,T'.nolimit,fun c f fn hf=>?_,T'.g,T'.b⟩
 ·obtain ⟨k,hk',rfl⟩:=zBs.mp (memS_iff.mp hc)
  obtain ⟨C,N,mN,h1,P,h3,h4⟩:=TC k hk'
  obtain ⟨nm,q,bs,sn,sub,col,dd,k0,k1,k2,k3,k5,e⟩:=P.cls.obj
  refine ⟨C,N,nm,q,bs,sn,sub,col,dd,k0,k1,k2,k3,k5,mN,?_,h1,hk _ _ e,P.cls.ns.keeps hk,h3,?_,fun m fn hf=>?_⟩
  ·show (match mg k.name with | some (.ref a)=>some a | _=>none)=_; rw [h1]
  ·have q:=fun n hn=>P.quiet n (zCn _ hn)
   exact ⟨q _ (by simp),q _ (by simp),q _ (by simp)⟩
  ·rcases iQ hn hf with ⟨q,_⟩ | ⟨hne,k',hk'',hkn,m',hm',rfl,rfl⟩
   ·exfalso
    have:=zA7.mp hn k hk'
    simp only [zA0,zCm,beq_eq_false_iff_ne] at this
    exact this.1 q
   ·obtain rfl:k'=k:=by
     have:=zA7.mp hn k hk'
     simp only [zA0,zCm,beq_eq_false_iff_ne,ne_eq,beq_iff_eq,decide_eq_false_iff_not,Decidable.not_not] at this
     exact lL this.2 hk'' hk' hkn
    obtain ⟨fa,o,pm,cd,doc,q1,q2,q3,q4,q5⟩:=P.meths m' hm'
    exact ⟨fa,o,fnA_mk' hne (h4 m' hm' fa q1),q1,hk _ _ q2,q3⟩
 ·rcases iQ hn hf with ⟨rfl,d,hd,rfl,rfl⟩ | ⟨hne,k',hk'',rfl,m',hm',rfl,rfl⟩
  ·have R:=fJ (zA7.mp hok d (zCn _ hd))
   obtain ⟨a,o,pm,code,doc,h1,h2,h3,h4⟩:=T.fn d hd
   exact ⟨a,fnA_mk h1,fnOk_of R h2 (hk _ _ h2) h3 (h4.keeps hk)⟩
  ·have R:=fJ (d:=n6 m') (zA7.mp hok _ (zB7 _ (List.mem_flatMap.mpr ⟨k',hk'',zBs.mpr ⟨m',hm',rfl⟩⟩)))
   obtain ⟨C,N,mN,h1,P,h3,h4⟩:=TC k' hk''
   obtain ⟨fa,o,pm,cd,doc,q1,q2,q3,q4,q5⟩:=P.meths m' hm'
   exact ⟨fa,fnA_mk' hne (h4 m' hm' fa q1),fnOk_of (d:=n6 m') R q2 (hk _ _ q2) q4 (q5.keeps hk)⟩
noncomputable def nq (B:Pg):List Str:=B.bi.map (·.1)++stdNames.map (·.1)
theorem boot_std:∀ q ∈ stdNames,bootBuiltins q.1=some q.2:=by
 intro q hq
 simp only [stdNames,zAl,zBr,or_false] at hq
 rcases hq with rfl | rfl | rfl | rfl | rfl | rfl | rfl | rfl | rfl | rfl | rfl <;> kernel_rfl
noncomputable def oQ (B:Pg) (p:Program) (loose:List Str):Bool:=(nq B).all fun x=>!startupNames.contains x && !loose.contains x && !((recsOf p).map (·.name)).contains x && !((litsOf p).map (·.1)).contains x && !((clssOf p loose).map (·.name)).contains x && !(x == "__name__")
theorem free_top (T:Top p loose mean mg mb s₁.heap) (hf:oQ B p loose=true):∀ x ∈ nq B,mg x=none/\mb x=bootBuiltins x:=fun x hx=>by
 have:=zA7.mp hf x hx
 simp only [zA0,zCm,List.contains_eq_mem,decide_eq_false_iff_not,beq_eq_false_iff_ne] at this
 obtain ⟨⟨⟨⟨⟨h1,h2⟩,h3⟩,h4⟩,h5⟩,h6⟩:=this
 exact ⟨T.free x h1 h2 h3 h4 h5,T.builtins x h6⟩
theorem cx_top (BO:BaseOk B) (T:Top p loose mean mg mb s₁.heap) (TC:PlainsOk B p mg methA s₁.heap) (hxc:∀ h:Heap,(∀ b o,s₁.heap.get? b=some o->h.get? b=some o)->XcOk (er prog w s₁ (pgP B p) mg mb methA) h) (hn:iL p=true) (hok:(ku p).all recOk=true) (hc:∀ x i,(pgP B p).consts.lookup x=some i->valOf p x=some (.int i)) (hf:oQ B p loose=true):CxOk (er prog w s₁ (pgP B p) mg mb methA) where
 st:=stat_top BO T TC hn hok hxc
 bi:=fun id b h _=>by
  have hm:(id,b) ∈ B.bi:=by rw [bK] at h; exact dE h
  obtain ⟨h1,h2⟩:=free_top T hf id (zCn _ (zBs.mpr ⟨_,hm,rfl⟩))
  exact ⟨h1,h2.trans (BO.bi _ hm).1⟩
 bis:=fun q hq=>⟨(BO.bi q hq).2.1,(BO.bi q hq).2.2 _⟩
 std:=fun id v h _=>by
  have hm:=dE h
  obtain ⟨h1,h2⟩:=free_top T hf id (zB7 _ (zBs.mpr ⟨_,hm,rfl⟩))
  exact ⟨h1,h2.trans (boot_std _ hm)⟩
 fld:=BO.fld
 mth:=BO.mth
 wr:=fun c f fn hf=>by
  rcases iQ hn hf with ⟨rfl,d,hd,rfl,rfl⟩ | ⟨hne,k',hk'',rfl,m',hm',rfl,rfl⟩
  ·have R:=fJ (zA7.mp hok d (zCn _ hd))
   exact ⟨R.nodup,R.par,R.nofree⟩
  ·have R:=fJ (d:=n6 m') (zA7.mp hok _ (zB7 _ (List.mem_flatMap.mpr ⟨k',hk'',zBs.mpr ⟨m',hm',rfl⟩⟩)))
   exact ⟨R.nodup,R.par,R.nofree⟩
 fnG:=fun f fn hf=>by
  rcases iQ hn hf with ⟨_,d,hd,rfl,rfl⟩ | ⟨hne,_⟩
  ·obtain ⟨a,o,pm,code,doc,h1,h2,h3,h4⟩:=T.fn d hd
   exact ⟨a,fnA_mk h1,h1⟩
  ·exact absurd rfl hne
 const:=fun x i h=>by
  obtain ⟨v,h1,h2⟩:=T.const x _ (hc x i h)
  have:=h2 s₁.heap
  cases this
  exact ⟨_,h1⟩
theorem mj {C:Cx} {W:Wd} {vs:List Value} {ns:List Int} (h:IntsAre vs ns):VReps C W (ns.map .int) vs:=by
 induction h with
 | nil=>exact VReps.nil
 | cons _ t _ ih=>exact VReps.cons ⟨t,rfl⟩ ih
noncomputable abbrev wd0 (s:Shared):Wd:=⟨[],fun _=>none,fun _=>False,fun _=>False,s⟩
theorem free0 {s:Shared} {b:Addr}:(wd0 s).free b:=⟨⟨nofun,fun _ q=>nomatch q⟩,id,id⟩
theorem run_law (BO:BaseOk B) (T:Top p loose mean mg mb s₁.heap) (TC:PlainsOk B p mg methA s₁.heap) (hxc:∀ h:Heap,(∀ b o,s₁.heap.get? b=some o->h.get? b=some o)->XcOk (er prog w s₁ (pgP B p) mg mb methA) h) (hnm:iL p=true) (hok:(ku p).all recOk=true) (hc:∀ x i,(pgP B p).consts.lookup x=some i->valOf p x=some (.int i)) (hf:oQ B p loose=true)
  {name:Str} {fa sa:Addr} (hmg:mg name=some (.ref fa)) {ns:List Int} {its:List Value} (hso:s₁.heap.get? sa=some { cls:=.type "list",data:=.seq its.toArray }) (hI:IntsAre its ns) (hlen:ns.length<=63)
  {n k:Nat} (hn:n<=599) {st:St} (hrun:aw (pgP B p) k n ⟨#[]⟩ name [.lst (ns.map .int)] []=.ok (.bool true) st) {Q E:Value->Shared->Prop}
  (hQ:∀ s',(∀ b o,s₁.heap.get? b=some o->s'.heap.get? b=some o)->s'.os=s₁.os->s'.gens=s₁.gens->Q (.bool true) s') :
  wpAny (model prog w) callerA (call (.ref fa) [.ref sa]) Q E s₁:=by
 have K:=cx_top (prog:=prog) (w:=w) (methA:=methA) BO T TC hxc hnm hok hc hf
 have CO:=callOk K (k:=k) n
 have hI0:InvC (er prog w s₁ (pgP B p) mg mb methA) [] (wd0 s₁) []:={
  sh:=⟨s₁.heap,s₁.toks,rfl⟩
  stat:=fun b o h=>h
  lo:=fun b h=>absurd free0 h
  nd:=zC2
  ol:=fun k b h=>nomatch h
  oi:=fun k k' b h=>nomatch h
  tl:=fun b h=>h.elim
  fl:=fun b h=>h.elim
  frs:=fun e h=>nomatch h
  len:=rfl
  objs:=fun n o h=>nomatch h }
 have hl:its.length=ns.length:=((mj (C:=er prog w s₁ (pgP B p) mg mb methA) (W:=wd0 s₁) hI).length).trans (zAe _)
 have hv:VReps (er prog w s₁ (pgP B p) mg mb methA) (wd0 s₁) [.lst (ns.map .int)] [.ref sa]:=by
  refine VReps.cons ⟨sa,rfl,free0,its.toArray,_,hso,?_,mj hI⟩ .nil
  show its.length<=ou
  rw [hl]; exact zAj hlen (by decide)
 refine wpAny_call ?_
 refine codeAny_mono (CO ⟨#[]⟩ name [.lst (ns.map .int)] [] (by show aw (pgP B p) k n _ _ _ _ ≠ _; rw [hrun]; exact fun z=>nomatch z) callerA [] (wd0 s₁) [.ref sa] fa hI0 (fun _=>rfl) hv (fnA_mk hmg) rfl rfl ⟨zAj (zB3 hn (1+claimMargin)) (by decide),zAj (zB3 (Nat.mul_le_mul_left 4 hn) 4) (by decide)⟩) fun r s' h=>?_
 have h':RetP true (er prog w s₁ (pgP B p) mg mb methA) [] (wd0 s₁) (aw (pgP B p) k n ⟨#[]⟩ name [.lst (ns.map .int)] []) r s':=h
 rw [hrun] at h'
 cases h' with
 | exc e=>exact cC Ret.ctorIdx e rfl
 | ok e x i o q =>
  cases e
  obtain rfl:=q
  obtain ⟨h₂,tk,e⟩:=i.sh
  exact hQ _ i.stat (by rw [e]; rfl) (by rw [e]; rfl)
end
end Mine
end
section
set_option autoImplicit false
set_option linter.unusedVariables false
set_option maxRecDepth 100000
namespace Mine
open PySem PySem.W PySem.Spec PySem.Calls PyProof.Rows Builtin Builtin.ObjectAttr Builtin.Getset_descriptor
section
variable {M:Model} {prog:Program} {w:World} {A:Around} {E:Value->Shared->Prop} {h:Heap} {g:Array GenState} {d:Drawn} {t:Nat} {os:OsState} {e:Addr} {oe:Obj}
variable {nm q:Str} {C N:Addr} {bs bm bmB:List Value} {hdct:Bool} {sn:List Str} {sub:List Value} {ab:Bool} {col:Option Bool} {dd:Option Addr} {k0 k1 k2 k3 k5:Option Value} {B newId:String} {mN:Str->Option Value}
theorem sub_looks (hC:h.get? C=some (excClassObj nm q C N bs bm hdct sn sub ab col dd k0 k1 k2 k3 k5 newId)) {v:Value} {b:Bool} (hb:(Value.ref C::bm).contains v=b):Looks M h (isSubtype (.ref C) v) b:=fun A Q E s' k hq=>by
 obtain ⟨h',g,d,t,os⟩:=s'
 exact wpAny_isSubtype_exc (k _ _ hC) (by rw [hb]; exact hq)
end
section
variable {A:Around} {E:Value->Shared->Prop}
theorem isx_true {prog:Program} {w:World} {s:Shared} {x t c:Value} {Q:Value->Shared->Prop} (LT:∀ M,Looks M s.heap (typeOf x) t) (hty:∀ M,Looks M s.heap (typeOf c) (.type "type")) (his:∀ M,Looks M s.heap (isType c) true)
  (hsub:∀ M,Looks M s.heap (isSubtype t c) true) (hx:x ≠ .builtin "__main__.__loader__#opaque") (h:∀ tk,Q (.bool true) { s with toks:=tk }):wpAny (model prog w) A (call (.builtin "isinstance") [x,c]) Q E s:=by
 refine call_isinstance (S:=fun _ R s'=>s'=s/\∀ tk,R (.ok (.ret (.bool true))) { s with toks:=tk }) (fun prog w A R s' hs=>isinstance_outer ?_ hx) ⟨rfl,h⟩
 obtain ⟨rfl,hq⟩:=hs
 obtain ⟨h0,g,d,tt,os⟩:=s'
 have LT':=LT (model prog w)
 have hty:=hty (model prog w)
 have his:=his (model prog w)
 have hsub:=hsub (model prog w)
 have LI:Looks (model prog w) h0 (isInstance x c) true:=LT'.andThen hsub
 unfold Builtin.«isinstance.nested»
 refine zAa (LT'.at ?_)
 by_cases q:(t == c)=true
 ·rw [if_pos q]
  first
   | ((repeat lk); exact hq tt)
   | exact zAa (wpAny_rule (hq tt))
   | exact zAa (wpAny_rule (zAh (hq tt)))
 ·rw [if_neg q]
  refine zAa (hty.at ?_)
  rw [if_pos (by decide)]
  k_delta "plainIsInstance"
  refine zAa (zAa (his.at ?_))
  simp only [Bool.not_true,zCw,if_false]
  refine zAa (LI.at ?_)
  first
   | exact zAh (zAh (hq tt))
   | (simp only [if_true]; first | exact zAh (zAh (hq tt)) | exact zAh (hq tt) | exact zAa (zAh (zAh (hq tt))))
theorem ve_meta:typeOf (.type "ValueError")=(Pure.pure (.type "type"):Sem Value):=by
 show (Pure.pure (Value.type ((Manifest.find? "ValueError").elim "type" (·.metatype))):Sem Value)=Pure.pure (.type "type")
 rw [find?_eq_fast]; kernel_rfl
end
end Mine
end
section
set_option autoImplicit false
set_option linter.unusedVariables false
set_option maxRecDepth 100000
namespace Mine
open PySem PySem.W PySem.Spec PySem.Calls PyProof.Rows
section
variable {M:Model} {A:Around} {E:Value->Shared->Prop} {s:Shared}
theorem looks_type {h:Heap} {e:Addr} {oe:Obj} (he:h.get? e=some oe):Looks M h (typeOf (.ref e)) oe.cls:=(Looks.ld he).andThen .now
end
section
variable {M:Model} {A:Around} {E:Value->Shared->Prop} {h:Heap} {g:Array GenState} {d:Drawn} {t:Nat} {os:OsState}
variable {nm q:Str} {a N:Addr} {bs bm:List Value} {hdct:Bool} {sn:List Str} {sub:List Value} {ab:Bool} {col:Option Bool} {dd:Option Addr} {k0 k1 k2 k3 k5:Option Value} {newId:String}
variable {nm' q':Str} {b N':Addr} {bs' bm':List Value} {hdct':Bool} {sn':List Str} {sub':List Value} {ab':Bool} {col':Option Bool} {dd':Option Addr} {l0 l1 l2 l3 l5:Option Value} {newId':String}
theorem exm_own {e:Addr} {oe:Obj} {Q:Bool->Shared->Prop} (ha:h.get? a=some (excClassObj nm q a N bs bm hdct sn sub ab col dd k0 k1 k2 k3 k5 newId))
  (hb:h.get? b=some (excClassObj nm' q' b N' bs' bm' hdct' sn' sub' ab' col' dd' l0 l1 l2 l3 l5 newId')) (he:h.get? e=some oe) (hcls:oe.cls=.ref a) (hbase:bm'.contains (.type "BaseException")=true)
  (hq:Q ((Value.ref a::bm).contains (.ref b)) ⟨h,g,d,t,os⟩):wpAny M A (excMatches (.ref e) (.ref b)) Q E ⟨h,g,d,t,os⟩:=by
 have hcB:(Value.ref b::bm').contains (.type "BaseException")=true:=by rw [List.contains_cons,hbase,Bool.or_true]
 have f:=tc_notTuple
 unfold excMatches
 cases hr:(Value.ref a::bm).contains (.ref b) <;> rw [hr] at hq <;>
  (repeat (first | (with_reducible refine wpAny_loadPart_at he ?_; rw [hcls]) | with_reducible refine wpAny_loadPart_at hb ?_ | (with_reducible refine wpAny_isSubtype_exc hb ?_; rw [hcB]) | (with_reducible refine wpAny_isSubtype_exc ha ?_; rw [hr]) | wp_step)) <;> exact hq
end
noncomputable def NsAt (h:Heap) (c:Str) (v:Value):Prop:=∃ o es ep,h.get? mainGlobals=some o/\o.data=.dict es ep/\nsFind es c=some v
theorem NsAt.keeps {h h':Heap} {c:Str} {v:Value} (x:NsAt h c v) (hk:∀ b o,h.get? b=some o->h'.get? b=some o):NsAt h' c v:=x.imp fun _ q=>q.imp fun _ q=>q.imp fun _ q=>⟨hk _ _ q.1,q.2⟩
noncomputable def refV:Value->Option Addr
 | .ref a=>some a
 | _=>none
noncomputable def clsD:Data->Option ClassData
 | .cls cd=>some cd
 | _=>none
noncomputable def seeX (s:Shared) (c d:Str):Option Bool:=(s.heap.nsMap mainGlobals c).bind fun v=>(refV v).bind fun a=>(s.heap.nsMap mainGlobals d).bind fun w=>(refV w).bind fun b=>(s.heap.get? a).bind fun o=>(clsD o.data).bind fun cd=>some (cd.mro.contains (.ref b))
theorem mY {v:Value} {a:Addr} (h:refV v=some a):v=.ref a:=by
 cases v <;> first | (exact aC h; done) | (cases h; rfl)
theorem clsD_some {v:Data} {a:ClassData} (h:clsD v=some a):v=.cls a:=by
 cases v <;> first | (exact aC h; done) | (cases h; rfl)
noncomputable def SaysX (P:Pg) (h:Heap):Prop:=∀ c d,P.isX c=true->P.isX d=true->∃ a b o cd,NsAt h c (.ref a)/\NsAt h d (.ref b)/\h.get? a=some o/\o.data=.cls cd/\cd.mro.contains (.ref b)=P.sub c d
theorem n3 {P:Pg} {c:Str} (h:P.isX c=true):∃ l,(c,l) ∈ P.excs:=by
 unfold Pg.isX at h
 obtain ⟨l,hl⟩:=zAx.mp h
 exact ⟨l,dE (by rw [← bK]; exact hl)⟩
set_option tactic.hygienic true in
theorem ox {h:Heap} {c:Str} {v:Value} (e:h.nsMap mainGlobals c=some v):NsAt h c v:=by
 unfold Heap.nsMap at e
 cases ho:h.get? mainGlobals with
 | none=>rw [ho] at e; exact aC e
 | some o =>
  rw [ho] at e
  dsimp only at e
  split at e
  ·rename_i es ep hd; exact ⟨o,es,ep,ho,hd,e⟩
  ·exact aC e
theorem saysX_of {P:Pg} {s:Shared} (e:(P.excs.map fun c=>P.excs.map fun d=>seeX s c.1 d.1)=P.excs.map fun c=>P.excs.map fun d=>some (P.sub c.1 d.1)):SaysX P s.heap:=by
 intro c d hc hd
 obtain ⟨l,hl⟩:=n3 hc
 obtain ⟨l',hl'⟩:=n3 hd
 have h1:=zCz.mp e _ hl
 have h2:=zCz.mp h1 _ hl'
 dsimp only at h2
 obtain ⟨v,ha,h2⟩:=zAi.mp h2
 obtain ⟨a,ea,h2⟩:=zAi.mp h2
 obtain ⟨w,hb,h2⟩:=zAi.mp h2
 obtain ⟨b,eb,h2⟩:=zAi.mp h2
 obtain ⟨o,ho,h2⟩:=zAi.mp h2
 obtain ⟨cd,hcd,h2⟩:=zAi.mp h2
 rw [mY ea] at ha; rw [mY eb] at hb
 exact ⟨a,b,o,cd,ox ha,ox hb,ho,clsD_some hcd,Option.some.inj h2⟩
theorem SaysX.keeps {P:Pg} {h h':Heap} (x:SaysX P h) (hk:∀ b o,h.get? b=some o->h'.get? b=some o):SaysX P h':=fun c d hc hd =>
 (x c d hc hd).imp fun _ q=>q.imp fun _ q=>q.imp fun _ q=>q.imp fun _ q=>⟨q.1.keeps hk,q.2.1.keeps hk,hk _ _ q.2.2.1,q.2.2.2⟩
noncomputable def fldOk (fl:List Str) (h:Heap) (c:ClsRec):Bool:=match h.clsAt mainGlobals c.name with
 | some x=>fl.all fun f=>(h.nsMap x.2.2.ns f).isNone
 | none=>false
noncomputable def SaysC (fl:List Str) (p:Program) (h:Heap):Prop:=∀ c ∈ plainsOf p [],∃ C N mN,NsAt h c.name (.ref C)/\PlainAt h c C N mN/\∀ f ∈ fl,mN f=none
theorem SaysC.keeps {fl:List Str} {p:Program} {h h':Heap} (x:SaysC fl p h) (hk:∀ b o,h.get? b=some o->h'.get? b=some o):SaysC fl p h':=fun c hc =>
 (x c hc).imp fun _ q=>q.imp fun _ q=>q.imp fun _ q=>⟨q.1.keeps hk,q.2.1.keeps hk,q.2.2⟩
theorem saysC_of {fl:List Str} {p:Program} {s:Shared} (e:((plainsOf p []).map fun c=>(s.heap.plainShapeAt c,fldOk fl s.heap c))=(plainsOf p []).map fun c=>(some c.plainShape,true)):SaysC fl p s.heap:=by
 intro c hc
 have h1:=zCz.mp e c hc
 obtain ⟨C,N,h2,P⟩:=plainAt_of_shape (congrArg Prod.fst h1)
 refine ⟨C,N,_,ox h2,P,fun f hf=>?_⟩
 have h3:fldOk fl s.heap c=true:=congrArg Prod.snd h1
 unfold fldOk at h3
 cases hx:s.heap.clsAt mainGlobals c.name with
 | none=>rw [hx] at h3; exact ff h3
 | some x =>
  rw [hx] at h3
  obtain ⟨C',o,cd⟩:=x
  obtain ⟨g1,g2,g3⟩:=Heap.clsAt_spec hx
  obtain rfl:C=C':=by rw [h2] at g1; injection g1 with q; injection q
  obtain ⟨nm,q,bs,sn,sub,col,dd,k0,k1,k2,k3,k5,ho⟩:=P.cls.obj
  rw [g2] at ho; cases ho
  cases g3
  have:=zA7.mp h3 f hf
  exact zDd.mp this
noncomputable def xHook (P:Pg) (p:Program):Hook:=⟨List (List (Option Bool)) × List (Option PlainShape × Bool),
 fun s=>(P.excs.map fun c=>P.excs.map fun d=>seeX s c.1 d.1,(plainsOf p []).map fun c=>(s.heap.plainShapeAt c,fldOk P.flds s.heap c)),
 fun _=>(P.excs.map fun c=>P.excs.map fun d=>some (P.sub c.1 d.1),(plainsOf p []).map fun c=>(some c.plainShape,true)),fun _ h=>SaysX P h/\SaysC P.flds p h,
 fun _ _ e=>⟨saysX_of (congrArg Prod.fst e),saysC_of (congrArg Prod.snd e)⟩,fun _ _ _ x k=>⟨x.1.keeps k,x.2.keeps k⟩⟩
noncomputable def methAt (h:Heap) (mg:Str->Option Value) (c f:Str):Option Addr:=match mg c with
 | some (.ref C)=>(match h.get? C with
  | some o=>(match o.data with
   | .cls cd=>(match h.nsMap cd.ns f with | some (.ref a)=>some a | _=>none)
   | _=>none)
  | none=>none)
 | _=>none
theorem nsMap_of {h:Heap} {N:Addr} {mN:Str->Option Value} (x:h.Ns N mN) (f:Str):h.nsMap N f=mN f:=by
 obtain ⟨o,es,ep,h1,h2,_,h4⟩:=x
 unfold Heap.nsMap
 rw [h1]
 dsimp only
 rw [h2]
 exact h4 f
noncomputable def bmVE:List Value:=[.type "ValueError",.type "Exception",.type "BaseException",.type "object"]
noncomputable def np (P:Pg) (p:Program):Bool:=P.excs.all fun c=>specOf p c.1 == some ("ValueError.__new__",bmVE)
section
variable {p prog:Program} {w:World} {s₁:Shared} {P:Pg} {mg mb:Str->Option Value} {methA:Str->Str->Option Addr} {loose:List Str} {mean:ExcName->Option Value}
theorem nJ {h:Heap} {c:Str} {v:Value} (G:h.Ns mainGlobals mg) (e:NsAt h c v):mg c=some v:=by
 obtain ⟨o,es,ep,h1,h2,h3⟩:=e
 obtain ⟨o',es',ep',k1,k2,_,k4⟩:=G
 rw [h1] at k1; cases k1
 rw [h2] at k2; cases k2
 rw [← k4,h3]
theorem xc_of (T:Top p loose mean mg mb s₁.heap) (X:SaysX P s₁.heap) (hs:np P p=true):∀ h:Heap,(∀ b o,s₁.heap.get? b=some o->h.get? b=some o)->XcOk (er prog w s₁ P mg mb methA) h:=by
 intro h hk
 have T':=T.keeps hk
 have X':=X.keeps hk
 have one:∀ c,P.isX c=true->∃ a,(er prog w s₁ P mg mb methA).clsA c=some a/\OwnCls c a bmVE "ValueError.__new__" mg h:=fun c hc=>by
  obtain ⟨l,hl⟩:=n3 hc
  have h1:=beq_iff_eq.mp (zA7.mp hs _ hl)
  obtain ⟨C,O,_⟩:=T'.ownAt h1
  refine ⟨C,?_,O.own⟩
  show (match mg c with | some (.ref a)=>some a | _=>none)=_
  rw [O.bound]
 have sub:∀ c d a b,P.isX c=true->P.isX d=true->(er prog w s₁ P mg mb methA).clsA c=some a->(er prog w s₁ P mg mb methA).clsA d=some b->∀ {nm q N bs bm hdct sn sub ab col dd k0 k1 k2 k3 k5 newId},
   h.get? a=some (excClassObj nm q a N bs bm hdct sn sub ab col dd k0 k1 k2 k3 k5 newId)->(Value.ref a::bm).contains (.ref b)=P.sub c d:=fun c d a b hc hd ha hb=>by
  intro nm q N bs bm hdct sn sub ab col dd k0 k1 k2 k3 k5 newId hC
  obtain ⟨a',b',o,cd,n1,n2,h1,h2,h3⟩:=X' c d hc hd
  have e1:=nJ T'.g n1
  have e2:=nJ T'.g n2
  have ea:(er prog w s₁ P mg mb methA).clsA c=some a':=by
   show (match mg c with | some (.ref a)=>some a | _=>none)=_
   rw [e1]
  have eb:(er prog w s₁ P mg mb methA).clsA d=some b':=by
   show (match mg d with | some (.ref a)=>some a | _=>none)=_
   rw [e2]
  rw [ea] at ha; cases ha
  rw [eb] at hb; cases hb
  rw [hC] at h1; cases h1
  cases h2
  exact h3
 refine ⟨fun c hc=>?_,fun c d a b hc hd ha hb e oe A Q E s hs he hcl hQ=>?_,fun c a hc ha e oe A Q E s hs he hcl hQ=>?_⟩
 ·obtain ⟨a,h1,h2⟩:=one c hc
  exact ⟨a,bmVE,_,_,_,h1,h2,PySem.F.excBase_ValueError⟩
 ·subst hs
  obtain ⟨a',e1,O⟩:=one c hc
  rw [ha] at e1; cases e1
  obtain ⟨b',e2,O'⟩:=one d hd
  rw [hb] at e2; cases e2
  obtain ⟨bm,N,nm,q,bs,hdct,sn,sb,ab,col,dd,k0,k1,k2,k3,k5,mN,hC,_,_,_⟩:=xobj O
  obtain ⟨bm',N',nm',q',bs',hdct',sn',sb',ab',col',dd',l0,l1,l2,l3,l5,mN',hC',_,_,T2⟩:=xobj O'
  obtain ⟨hh,g,d',tk,os⟩:=s
  exact exm_own hC hC' he hcl (T2.hasType (by decide)) (by rw [sub c d a b hc hd ha hb hC]; exact hQ)
 ·subst hs
  obtain ⟨a',e1,O⟩:=one c hc
  rw [ha] at e1; cases e1
  obtain ⟨bm,N,nm,q,bs,hdct,sn,sb,ab,col,dd,k0,k1,k2,k3,k5,mN,hC,_,_,T2⟩:=xobj O
  exact isx_true (t:=.ref a) (fun M=>hcl ▸ looks_type he) (fun M=>Looks.of_pure ve_meta) (fun M=>Looks.of_pure rfl) (fun M=>sub_looks hC (by rw [List.contains_cons,T2.hasType (X:="ValueError") (b:=true) (by decide),Bool.or_true])) (fun z=>nomatch z) hQ
theorem plains_of {B:Pg} (T:Top p loose mean mg mb s₁.heap) (X:SaysC B.flds p s₁.heap):PlainsOk B p mg (methAt s₁.heap mg) s₁.heap:=fun c hc=>by
 obtain ⟨C,N,mN,h1,P,h3⟩:=X c hc
 have e1:=nJ T.g h1
 refine ⟨C,N,mN,e1,P,h3,fun m hm fa hfa=>?_⟩
 obtain ⟨nm,q,bs,sn,sub,col,dd,k0,k1,k2,k3,k5,ho⟩:=P.cls.obj
 unfold methAt
 rw [e1]
 dsimp only
 rw [ho]
 show (match s₁.heap.nsMap N m.name with | some (.ref a)=>some a | _=>none)=_
 rw [nsMap_of P.cls.ns,hfa]
noncomputable def jJ (P:Pg) (p:Program):Bool:=P.consts.all fun c=>match valOf p c.1 with
 | some (.int j)=>c.2 == j
 | _=>false
theorem consts_of (h:jJ P p=true):∀ x i,P.consts.lookup x=some i->valOf p x=some (.int i):=fun x i hl=>by
 have:(match valOf p x with | some (.int j)=>i == j | _=>false)=true:=zA7.mp h _ (dE hl)
 cases hv:valOf p x with
 | none=>rw [hv] at this; exact ff this
 | some d =>
  rw [hv] at this
  cases d <;> first | (exact ff this; done) | skip
  rw [beq_iff_eq.mp this]
theorem SaysC.view {fl:List Str} {p':Program} {h:Heap} (X:SaysC fl p' h) (e:plainsOf p []=plainsOf p' []):SaysC fl p h:=fun c hc=>X c (e ▸ hc)
theorem run_view {B:Pg} {p':Program} (BO:BaseOk B) (T:Top p loose mean mg mb s₁.heap) (X:SaysX (pgP B p') s₁.heap/\SaysC B.flds p' s₁.heap) (e1:plainsOf p []=plainsOf p' []) (e2:pgP B p=pgP B p') (hs:np (pgP B p) p=true) (hnm:iL p=true) (hok:(ku p).all recOk=true) (hc:jJ (pgP B p) p=true) (hf:oQ B p loose=true)
  {name:Str} {fa sa:Addr} (hmg:mg name=some (.ref fa)) {ns:List Int} {its:List Value} (hso:s₁.heap.get? sa=some { cls:=.type "list",data:=.seq its.toArray }) (hI:IntsAre its ns) (hlen:ns.length<=63)
  {n k:Nat} (hn:n<=599) {st:St} (hrun:aw (pgP B p') k n ⟨#[]⟩ name [.lst (ns.map .int)] []=.ok (.bool true) st) {Q E:Value->Shared->Prop}
  (hQ:∀ s',(∀ b o,s₁.heap.get? b=some o->s'.heap.get? b=some o)->s'.os=s₁.os->s'.gens=s₁.gens->Q (.bool true) s') :
  wpAny (model prog w) callerA (call (.ref fa) [.ref sa]) Q E s₁ :=
 run_law BO T (plains_of T (X.2.view e1)) (xc_of T (e2 ▸ X.1) hs) hnm hok (consts_of hc) hf hmg hso hI hlen hn (by rw [e2]; exact hrun) hQ
end
end Mine
end
section
set_option autoImplicit false
set_option maxRecDepth 100000
namespace Mine
open PySem PyProof.Rows
noncomputable def base:Pg where
 fns:=[]
 classes:=[]
 excs:=[]
 consts:=[]
 bi:=[("len",aA),("list",b4),("tuple",ft),("int",kE),("min",iR),("max",biMax),("sum",biSum),("set",eB),("dict",oh)]
 flds:=["rows","starts","functions","fuel","made","going","stack","calls","place"]
 mths:=["called","worth","enter","leave","step","add","choose"]
 shared:=[("slots","low"),("_law_state","_law_due")]
theorem base_ok:BaseOk base where
 bi:=fun q hq=>by
  simp only [base,zAl,zBr,or_false] at hq
  rcases hq with rfl | rfl | rfl | rfl | rfl | rfl | rfl | rfl | rfl
  ·exact ⟨by kernel_rfl,(fun a q=>nomatch q),fun C=>sound_len⟩
  ·exact ⟨by kernel_rfl,(fun a q=>nomatch q),fun C=>sound_list⟩
  ·exact ⟨by kernel_rfl,(fun a q=>nomatch q),fun C=>sound_tuple⟩
  ·exact ⟨by kernel_rfl,(fun a q=>nomatch q),fun C=>sound_int⟩
  ·exact ⟨by kernel_rfl,(fun a q=>nomatch q),fun C=>sound_min⟩
  ·exact ⟨by kernel_rfl,(fun a q=>nomatch q),fun C=>sound_max⟩
  ·exact ⟨by kernel_rfl,(fun a q=>nomatch q),fun C=>sound_sum⟩
  ·exact ⟨by kernel_rfl,(fun a q=>nomatch q),fun C=>sound_set⟩
  ·exact ⟨by kernel_rfl,(fun a q=>nomatch q),fun C=>sound_dict⟩
 fld:=fun f hf=>by
  simp only [base,zAl,zBr,or_false] at hf
  rcases hf with rfl | rfl | rfl | rfl | rfl | rfl | rfl | rfl | rfl <;> (rw [typeLookup_type,builtinLookup_eq_fast]; kernel_rfl)
 mth:=fun f hf=>by
  simp only [base,zAl,zBr,or_false] at hf
  rcases hf with rfl | rfl | rfl | rfl | rfl | rfl | rfl <;> exact ⟨by rw [typeLookup_type,builtinLookup_eq_fast]; kernel_rfl,by decide +kernel⟩
end Mine
end
section
set_option autoImplicit false
set_option linter.unusedVariables false
set_option maxRecDepth 100000
namespace Mine
open PySem PySem.W PySem.Calls PyProof.Rows
noncomputable def eD (P:Params) (k:Str) (t:Nat) (v:Value):DictEntry:={ hash:=PyData.keyHash P k,key:=.str k t,val:=v }
noncomputable def lU :Obj:={ cls:=.type "tuple",data:=.seq #[] }
noncomputable def oo2 :Obj:={ cls:=.none,data:=.fields #[] }
noncomputable def oo3 :Obj:={ cls:=.type "code",data:=.fields #[.str "<module>" 182,.str "<module>" 183,.str "/claim/cut.py" 184,.int 1 0,.int 0 0,.int 0 0,.int 0 0,.int 0 0,.ref 11,.bool false,.int 181 0,.ref 12,.none,.none,.none,.none,.int 185 0,.int 1 0,.str "/claim/cut.py" 186] }
noncomputable def oo4 :Obj:={ cls:=.type "frame",slots:=#[some (.ref 13),some (.ref 3),some (.ref 3),none,some (.str "__main__" 164),none,some (.ref 0)] }
noncomputable def oo5 :Obj:={ cls:=.type "builtin_function_or_method",data:=.fields #[.builtin "type.__prepare__",.type "type"] }
noncomputable def oo6 (P:Params) (p0:Nat) (p1:Nat) (p2:Str) (p3:Nat) (p4:Nat) (p5:Int) (p6:Nat) (p7:Nat) (p8:Nat):Obj:={ cls:=.type "dict",data:=.dict #[eD P "__module__" p0 (.str "callsmith.errors" 187),eD P "__qualname__" p1 (.str p2 p3),eD P "__firstlineno__" p4 (.int p5 p6),eD P "__static_attributes__" p7 (.ref p8)] 4 }
noncomputable def oo7 (p0:Str) (p1:Nat) (p2:Nat) (p3:Nat) (p4:Int) (p5:Nat) (p6:Nat) (p7:Int) (p8:Nat):Obj:={ cls:=.type "code",data:=.fields #[.str p0 p1,.str p0 p2,.str "/claim/cut.py" p3,.int p4 0,.int 0 0,.int 0 0,.int 0 0,.int 0 0,.ref p5,.bool false,.int 181 0,.ref p6,.none,.none,.none,.none,.int p7 0,.int p4 0,.str "/claim/cut.py" p8] }
noncomputable def oo8 (p0:Nat) (p1:Nat):Obj:={ cls:=.type "frame",slots:=#[some (.ref p0),some (.ref 3),some (.ref p1),none,some (.str "callsmith.errors" 187),none,some (.ref 0)] }
noncomputable def oo9 (p0:Nat):Obj:={ cls:=.type "super",data:=.fields #[.ref p0,.ref p0,.ref p0] }
noncomputable def lZ (p0:Nat):Obj:={ cls:=.type "builtin_function_or_method",data:=.fields #[.builtin "object.__init_subclass__",.ref p0] }
noncomputable def oj :Obj:={ cls:=.type "tuple",data:=.seq #[.ref 24] }
noncomputable def nZ (P:Params) (p0:Nat) (p1:Nat) (p2:Int) (p3:Nat) (p4:Nat) (p5:Nat) (p6:Nat):Obj:={ cls:=.type "dict",data:=.dict #[eD P "__module__" p0 (.str "callsmith.errors" 187),eD P "__firstlineno__" p1 (.int p2 p3),eD P "__static_attributes__" p4 (.ref p5),eD P "__doc__" p6 (.none)] 2 }
noncomputable def oN (p0:Str) (p1:Nat) (p2:Nat) (p3:Nat) (p4:Nat) (p5:Nat):Obj:={ cls:=.type "type",data:=.cls { name:=p0,bases:=[.ref 24],mro:=[.ref p1,.ref 24,.type "ValueError",.type "Exception",.type "BaseException",.type "object"],ns:=p2,qualname:=p0 },slots:=#[some (.ref p3),none,some (.str p0 p4),some (.str p0 p5),some (.builtin "ValueError.__new__"),some (.bool true)] }
noncomputable def hc3 (P:Params):Obj:={ cls:=.type "dict",data:=.dict #[eD P "__name__" 165 (.str "callsmith.errors" 187),eD P "__doc__" 166 (.none),eD P "__package__" 167 (.none),eD P "__loader__" 168 (.builtin "__main__.__loader__#opaque"),eD P "__spec__" 169 (.none),eD P "__annotations__" 170 (.ref 6),eD P "__builtins__" 171 (.ref 4),eD P "__file__" 173 (.str "/claim/cut.py" 172),eD P "__cached__" 174 (.none),eD P "SmithError" 206 (.ref 24),eD P "NameTwice" 222 (.ref 37),eD P "NoSuchName" 238 (.ref 49),eD P "NoSuchFunction" 254 (.ref 61),eD P "WrongCount" 270 (.ref 73),eD P "TooTall" 286 (.ref 85),eD P "ByNought" 302 (.ref 97),eD P "TooGreat" 318 (.ref 109),eD P "TooDeep" 334 (.ref 121),eD P "Dry" 350 (.ref 133)] 19 }
noncomputable def hc12 (P:Params):Obj:={ cls:=.none,data:=.fields #[.int 2 0,.int 0 0,.ref 20,.int 4 0,.int 0 0,.ref 33,.int 6 0,.int 0 0,.ref 45,.int 8 0,.int 0 0,.ref 57,.int 10 0,.int 0 0,.ref 69,.int 12 0,.int 0 0,.ref 81,.int 14 0,.int 0 0,.ref 93,.int 16 0,.int 0 0,.ref 105,.int 18 0,.int 0 0,.ref 117,.int 20 0,.int 0 0,.ref 129] }
noncomputable def hc15 (P:Params):Obj:={ cls:=.type "tuple",data:=.seq #[.type "ValueError"] }
noncomputable def hc23 (P:Params):Obj:={ cls:=.type "dict",data:=.dict #[eD P "__module__" 196 (.str "callsmith.errors" 187),eD P "__firstlineno__" 200 (.int 2 199),eD P "__static_attributes__" 201 (.ref 22),eD P "__weakref__" 203 (.ref 25),eD P "__doc__" 204 (.none)] 3 }
noncomputable def hc24 (P:Params):Obj:={ cls:=.type "type",data:=.cls { name:="SmithError",bases:=[.type "ValueError"],mro:=[.ref 24,.type "ValueError",.type "Exception",.type "BaseException",.type "object"],ns:=23,qualname:="SmithError",subclasses:=[.ref 37,.ref 49,.ref 61,.ref 73,.ref 85,.ref 97,.ref 109,.ref 121,.ref 133] },slots:=#[some (.ref 15),none,some (.str "SmithError" 189),some (.str "SmithError" 197),some (.builtin "ValueError.__new__"),some (.bool true)] }
noncomputable def hc25 (P:Params):Obj:={ cls:=.type "getset_descriptor",data:=.fields #[.str "__weakref__" 202,.ref 24,.builtin "ExceptionGroup.__weakref__",.none] }
noncomputable def hpA (P:Params):Heap:=⟨#[boot_o_0 P,boot_o_1 P,boot_o_2 P,boot_o_3 P,boot_o_4 P,boot_o_5 P,boot_o_6 P,boot_o_7 P,boot_o_8 P,boot_o_9 P,boot_o_10 P,lU,oo2,oo3,oo4],{ }⟩
noncomputable def hpC (P:Params):Heap:=⟨#[boot_o_0 P,boot_o_1 P,boot_o_2 P,hc3 P,boot_o_4 P,boot_o_5 P,boot_o_6 P,boot_o_7 P,boot_o_8 P,boot_o_9 P,boot_o_10 P,lU,hc12 P,oo3,oo4,hc15 P,oo5,oo6 P 196 198 "SmithError" 197 200 2 199 201 22,lU,oo2,oo7 "SmithError" 191 192 193 2 18 19 194 195,oo8 20 17,lU,hc23 P,hc24 P,hc25 P,oo9 24,lZ 24,oj,oo5,oo6 P 214 216 "NameTwice" 215 218 4 217 219 35,lU,oo2,oo7 "NameTwice" 209 210 211 4 31 32 212 213,oo8 33 30,lU,nZ P 214 218 4 217 219 35 220,oN "NameTwice" 37 36 28 207 215,oo9 37,lZ 37,oj,oo5,oo6 P 230 232 "NoSuchName" 231 234 6 233 235 47,lU,oo2,oo7 "NoSuchName" 225 226 227 6 43 44 228 229,oo8 45 42,lU,nZ P 230 234 6 233 235 47 236,oN "NoSuchName" 49 48 40 223 231,oo9 49,lZ 49,oj,oo5,oo6 P 246 248 "NoSuchFunction" 247 250 8 249 251 59,lU,oo2,oo7 "NoSuchFunction" 241 242 243 8 55 56 244 245,oo8 57 54,lU,nZ P 246 250 8 249 251 59 252,oN "NoSuchFunction" 61 60 52 239 247,oo9 61,lZ 61,oj,oo5,oo6 P 262 264 "WrongCount" 263 266 10 265 267 71,lU,oo2,oo7 "WrongCount" 257 258 259 10 67 68 260 261,oo8 69 66,lU,nZ P 262 266 10 265 267 71 268,oN "WrongCount" 73 72 64 255 263,oo9 73,lZ 73,oj,oo5,oo6 P 278 280 "TooTall" 279 282 12 281 283 83,lU,oo2,oo7 "TooTall" 273 274 275 12 79 80 276 277,oo8 81 78,lU,nZ P 278 282 12 281 283 83 284,oN "TooTall" 85 84 76 271 279,oo9 85,lZ 85,oj,oo5,oo6 P 294 296 "ByNought" 295 298 14 297 299 95,lU,oo2,oo7 "ByNought" 289 290 291 14 91 92 292 293,oo8 93 90,lU,nZ P 294 298 14 297 299 95 300,oN "ByNought" 97 96 88 287 295,oo9 97,lZ 97,oj,oo5,oo6 P 310 312 "TooGreat" 311 314 16 313 315 107,lU,oo2,oo7 "TooGreat" 305 306 307 16 103 104 308 309,oo8 105 102,lU,nZ P 310 314 16 313 315 107 316,oN "TooGreat" 109 108 100 303 311,oo9 109,lZ 109,oj,oo5,oo6 P 326 328 "TooDeep" 327 330 18 329 331 119,lU,oo2,oo7 "TooDeep" 321 322 323 18 115 116 324 325,oo8 117 114,lU,nZ P 326 330 18 329 331 119 332,oN "TooDeep" 121 120 112 319 327,oo9 121,lZ 121,oj,oo5,oo6 P 342 344 "Dry" 343 346 20 345 347 131,lU,oo2,oo7 "Dry" 337 338 339 20 127 128 340 341,oo8 129 126,lU,nZ P 342 346 20 345 347 131 348,oN "Dry" 133 132 124 335 343,oo9 133,lZ 133],{ }⟩
noncomputable abbrev pp:Program:=PySem.Challenge.pw_uf030011_03
noncomputable abbrev zp:Pos:={ line:=0,col:=0,endLine:=0,endCol:=0 }
noncomputable abbrev pc:Pos:={ line:=20,col:=0,endLine:=21,endCol:=8 }
noncomputable abbrev an:Option Value:=some (.ref 6)
noncomputable def ev0:PySem.Env:={ scope:=pp.main.scope,locals:=mainNs,globals:=mainNs,cells:=[],code:=.ref 13,frame:=some 14 }
noncomputable abbrev bE:List Stmt:=behindTheImports pp
noncomputable abbrev cE:Code:=.body bE ev0
noncomputable abbrev sh0 (w:World) (os:OsState):Shared:=⟨boot_heap w.params,Array.mk [],boot_drawn,boot_toks,os⟩
noncomputable abbrev shA (w:World) (os:OsState):Shared:=⟨hpA w.params,Array.mk [],{},187,os⟩
noncomputable abbrev shC (w:World) (os:OsState):Shared:=⟨hpC w.params,Array.mk [],{},351,os⟩
set_option maxHeartbeats 0 in
theorem preA (w:World) (os:OsState):topGo treeTable pp w 11 an 12 (sh0 w os) (topStub pp)=some (shA w os,⟨denote treeTable cE,cE,zp,[topFrame zp]⟩):=by kernel_rfl
set_option maxHeartbeats 0 in
theorem blkA (w:World) (os:OsState):segRun treeTable pp w 11 an 1 1 (shA w os) (blockOf bE ev0 cE zp [topFrame zp])=some (.next,shA w os,cE,zp):=by kernel_rfl
set_option maxHeartbeats 0 in
theorem runA (w:World) (os:OsState):segRun treeTable pp w 11 an 1 2113 (shA w os) (piecesOf (bE.take 11) ev0 cE zp [topFrame zp])=some (.next,shC w os,cE,pc):=by kernel_rfl
noncomputable abbrev qq:Program:=PySem.W.view pp [1,2,3,4,5,6,7,8,9,10,12,13,14,15,16,18,19,20,21,22,23,24,26,27,28,30,31,32,34,35,36,37,38,39,40,41,42,43,44]
noncomputable abbrev hk:Hook:=xHook (pgP base pp) pp
noncomputable abbrev xt (s:Shared):Bool:=xlAt qq [] s && PySem.W.recOk [] s
set_option maxHeartbeats 0 in
theorem runB (w:World) (os:OsState):(topRun treeTable pp w 11 an 2000 (shC w os) (restOf (bE.drop 11) ev0 cE pc [topFrame zp])).map
  (fun s=>(staticsOk (importedModules pp.main.body) (boot_heap w.params) s.heap && namesBound pp s.heap && gensDone s && laidKept (boot_heap w.params) s.heap,openSeen qq [] (importedModules pp.main.body) xt true s,Hook.obs hk s))=some (true,openGood qq [],Hook.val hk w):=by kernel_rfl
theorem opB:opening pp=plainProg pp.main.scope.names:=by kernel_rfl
theorem fnB (s:Shared):fenceModules? pp s=some s:=by kernel_rfl
theorem szB (w:World):((boot_heap w.params).isNs mainGlobals && (Array.mk ([]:List GenState)).size == 0,(boot_heap w.params).objs.size,(boot_heap w.params).nsMap mainGlobals "__annotations__")=(true,11,an):=by kernel_rfl
theorem left:LeftO pp qq [] xt (Hook.obs hk) (Hook.val hk) 6000:=fun w=>by
 obtain ⟨⟨h,gs,d,k,os⟩,e,e'⟩:=zAo.mp (boot_open (N:=6000) opB (by decide +kernel) fnB w)
 obtain ⟨rfl,rfl,rfl,rfl⟩:h=boot_heap w.params/\gs=Array.mk []/\d=boot_drawn/\k=boot_toks:=by simpa using e'
 obtain ⟨z1,z2,z3⟩:_/\_/\_:=by simpa only [Prod.mk.injEq] using szB w
 obtain ⟨r,hr,hl⟩:=zAo.mp (runB w os)
 have a:=Prod.mk.inj hl
 obtain ⟨l1,b⟩:=a
 obtain ⟨l2,l3⟩:=Prod.mk.inj b
 have k1:=piece_app (runA w os) hr
 rw [List.take_append_drop] at k1
 have k2:=topRun_mono (6000 - (12+(1+(2113+2000)))) _ _ _ _ (go_top (preA w os) (piece_block (blkA w os) k1))
 have t:topFrom treeTable pp w 6000 ⟨boot_heap w.params,Array.mk [],boot_drawn,boot_toks,os⟩=some r:=by
  unfold topFrom
  dsimp only
  rw [z1,z2,z3,k2]
  show (match staticsOk (importedModules pp.main.body) (boot_heap w.params) r.heap && namesBound pp r.heap && gensDone r && laidKept (boot_heap w.params) r.heap with | true=>_ | false=>_)=_
  rw [l1]
 unfold openEnds
 rw [e,Option.bind_some,t,Option.map_some,l2,l3]
end Mine
end
section
set_option autoImplicit false
set_option linter.unusedVariables false
set_option maxRecDepth 100000
namespace Mine
open PySem
noncomputable abbrev PP:Pg:=pgP base PySem.Challenge.pw_uf030011_03
noncomputable abbrev wX (K n:Nat):Ctx:=ctxOf PP K (aw PP K n) (aw PP K (n - 4))
theorem iB {K n:Nat} {c f:Str} {vs:List AV} {st:St} {r:Ret} (h:(match PP.find c f with | some fn=>runFn (wX K n) fn vs st | none=>.stuck)=r):aw PP K (n+1) c f vs st=r:=by
 rw [kX]; exact h
noncomputable def jk (X:Ctx):D Fl:=ac (bn (az .Or [am (al (aa 0) (af (.int 0))) .Eq (af (.str "num")),am (al (aa 0) (af (.int 0))) .Eq (af (.str "name"))]) (ac (aI (bO [])) (af .next)) (af .next)) (ac (bn (am (al (aa 0) (af (.int 0))) .Eq (af (.str "let"))) (ac (aI (bO [al (aa 0) (af (.int 2)),al (aa 0) (af (.int 3))])) (af .next)) (af .next)) (ac (bn (am (al (aa 0) (af (.int 0))) .Eq (af (.str "call"))) (ac (aI (aW b4 false [al (aa 0) (af (.int 2))])) (af .next)) (af .next)) (ac (aI (aW b4 false [d4 (aa 0) (af (.int 1)) (af .none)])) (af .next))))
theorem mf (K n:Nat) (a:AV) (st:St):aw PP K (n+1) ⟨#[]⟩ "within" [a] st=bc (jk (wX K n) ⟨[(0,.val a)],st⟩):=iB (by kernel_rfl)
noncomputable def fz (X:Ctx):D Fl:=ac (aT 1 (af (.dct [] []))) (ac (cB (none,[2,3,4]) (ba (ae 0)) (ac (bn (am (aa 2) .NotIn (aa 1)) (ac (bj (aa 1) (ae 2) (aW aA false [aa 3])) (af .next)) (af .next)) (af .next))) (ac (aI (ae 1)) (af .next)))
theorem iY (K n:Nat) (a:AV) (st:St):aw PP K (n+1) ⟨#[]⟩ "counts_of" [a] st=bc (fz (wX K n) ⟨[(0,.val a)],st⟩):=iB (by kernel_rfl)
noncomputable def bY (X:Ctx):D Fl:=ac (bn (am (aa 1) .Gt (af (.int 12))) (ac (rais "TooTall") (af .next)) (af .next)) (ac (bn (az .And [am (al (aa 0) (af (.int 0))) .Eq (af (.str "name")),am (al (aa 0) (af (.int 1))) .NotIn (aa 2)]) (ac (rais "NoSuchName") (af .next)) (af .next)) (ac (bn (az .And [am (al (aa 0) (af (.int 0))) .Eq (af (.str "call")),am (al (aa 0) (af (.int 1))) .NotIn (aa 3)]) (ac (rais "NoSuchFunction") (af .next)) (af .next)) (ac (bn (az .And [am (al (aa 0) (af (.int 0))) .Eq (af (.str "call")),am (aW aA false [al (aa 0) (af (.int 2))]) .NotEq (al (aa 3) (al (aa 0) (af (.int 1))))]) (ac (rais "WrongCount") (af .next)) (af .next)) (ac (bn (am (al (aa 0) (af (.int 0))) .Eq (af (.str "let"))) (ac (cX (aU X "look" [al (aa 0) (af (.int 2)),aj .Add (aa 1) (af (.int 1)),ae 2,ae 3])) (ac (cX (aU X "look" [al (aa 0) (af (.int 3)),aj .Add (aa 1) (af (.int 1)),aj .Add (aa 2) (bO [al (aa 0) (af (.int 1))]),ae 3])) (af .next))) (ac (cB (some 4,[]) (ba (aU X "within" [ae 0])) (ac (cX (aU X "look" [ae 4,aj .Add (aa 1) (af (.int 1)),ae 2,ae 3])) (af .next))) (af .next))) (af .next)))))
theorem eE (K n:Nat) (a b c d:AV) (st:St):aw PP K (n+1) ⟨#[]⟩ "look" [a,b,c,d] st=bc (bY (wX K n) ⟨[(0,.val a),(1,.val b),(2,.val c),(3,.val d)],st⟩):=iB (by kernel_rfl)
noncomputable def iq (X:Ctx):D Fl:=ac (aL 1 (aU X "counts_of" [ae 0])) (ac (aT 2 (af (.dct [] []))) (ac (cB (none,[3,4,5]) (ba (ae 0)) (ac (bn (az .Or [am (aa 3) .In (aa 2),am (aW aA false [aW eB false [aa 4]]) .NotEq (aW aA false [aa 4])]) (ac (rais "NameTwice") (af .next)) (af .next)) (ac (bj (aa 2) (ae 3) (aW aA false [aa 4])) (ac (cX (aU X "look" [ae 5,af (.int 1),aW b4 false [aa 4],ae 1])) (af .next))))) (ac (aI (ae 2)) (af .next))))
theorem lC (K n:Nat) (a:AV) (st:St):aw PP K (n+1) ⟨#[]⟩ "checked" [a] st=bc (iq (wX K n) ⟨[(0,.val a)],st⟩):=iB (by kernel_rfl)
noncomputable def m5 (X:Ctx):D Fl:=ac (aL 1 (af (.int 1))) (ac (bn (am (al (aa 0) (af (.int 0))) .Eq (af (.str "choose"))) (ac (aL 1 (af (.int 2))) (af .next)) (af .next)) (ac (aI (aj .Add (aa 1) (aW biSum false [bP [] 1 (aU X "length" [ae 1]) (ba (aU X "within" [ae 0]))]))) (af .next)))
theorem rn_length (K n:Nat) (a:AV) (st:St):aw PP K (n+1) ⟨#[]⟩ "length" [a] st=bc (m5 (wX K n) ⟨[(0,.val a)],st⟩):=iB (by kernel_rfl)
noncomputable def nE (X:Ctx):D Fl:=ac (bn (am (al (aa 0) (af (.int 0))) .Eq (af (.str "let"))) (ac (aI (aW biMax false [aU X "lets" [al (aa 0) (af (.int 2))],aj .Add (af (.int 1)) (aU X "lets" [al (aa 0) (af (.int 3))])])) (af .next)) (af .next)) (ac (aI (aW biMax true [bP [] 1 (aU X "lets" [ae 1]) (ba (aU X "within" [ae 0]))])) (af .next))
theorem rn_lets (K n:Nat) (a:AV) (st:St):aw PP K (n+1) ⟨#[]⟩ "lets" [a] st=bc (nE (wX K n) ⟨[(0,.val a)],st⟩):=iB (by kernel_rfl)
noncomputable def jz (X:Ctx):D Fl:=ac (bn (az .Or [am (al (aa 0) (af (.int 0))) .Eq (af (.str "choose")),am (al (aa 0) (af (.int 0))) .Eq (af (.str "let"))]) (ac (aI (aW biMax false [bP [] 1 (aU X "height" [ae 1]) (ba (aU X "within" [ae 0]))])) (af .next)) (af .next)) (ac (aL 2 (af (.int 1))) (ac (cB (none,[3,1]) (fm .enum [aU X "within" [ae 0]]) (ac (aL 2 (aW biMax false [aa 2,aj .Add (aa 3) (aU X "height" [ae 1])])) (af .next))) (ac (aI (ae 2)) (af .next))))
theorem mT (K n:Nat) (a:AV) (st:St):aw PP K (n+1) ⟨#[]⟩ "height" [a] st=bc (jz (wX K n) ⟨[(0,.val a)],st⟩):=iB (by kernel_rfl)
noncomputable def i3 (X:Ctx):D Fl:=ac (aT 1 (af (.dct [] []))) (ac (aL 2 (af (.int 0))) (ac (cB (none,[3,4,5]) (ba (ae 0)) (ac (bj (aa 1) (ae 3) (aJ [ae 2,aW aA false [aa 4],aj .Add (aW aA false [aa 4]) (aU X "lets" [ae 5]),aU X "height" [ae 5]])) (ac (aT 2 (aj .Add (aj .Add (aa 2) (aU X "length" [ae 5])) (af (.int 1)))) (af .next)))) (ac (aI (ae 1)) (af .next))))
theorem n4 (K n:Nat) (a:AV) (st:St):aw PP K (n+1) ⟨#[]⟩ "starts_of" [a] st=bc (i3 (wX K n) ⟨[(0,.val a)],st⟩):=iB (by kernel_rfl)
noncomputable def ik (X:Ctx):D Fl:=ac (cX (aU X "checked" [ae 0])) (ac (aL 1 (nV X "Smith" [aU X "starts_of" [ae 0]])) (ac (cB (none,[2,3,4]) (ba (ae 0)) (ac (aT 5 (af (.dct [] []))) (ac (cB (none,[6,7]) (fm .enum [ae 3]) (ac (bj (aa 5) (ae 7) (ae 6)) (af .next))) (ac (cX (bz X (aa 1) "add" [ae 4,ae 5,aW aA false [aa 3]])) (ac (cX (dm (aQ (aa 1) "rows") (aJ [af (.str "back")]))) (af .next)))))) (ac (aI (nV X "Code" [aQ (aa 1) "rows",aQ (aa 1) "starts"])) (af .next))))
theorem kO (K n:Nat) (a:AV) (st:St):aw PP K (n+1) ⟨#[]⟩ "smithed" [a] st=bc (ik (wX K n) ⟨[(0,.val a)],st⟩):=iB (by kernel_rfl)
noncomputable def lr (X:Ctx):D Fl:=ac (bn (am (aa 0) .Eq (af (.str "sum"))) (ac (aI (aj .Add (aa 1) (aa 2))) (af .next)) (af .next)) (ac (bn (am (aa 0) .Eq (af (.str "less"))) (ac (aI (aj .Sub (aa 1) (aa 2))) (af .next)) (af .next)) (ac (bn (am (aa 0) .Eq (af (.str "times"))) (ac (aI (aj .Mult (aa 1) (aa 2))) (af .next)) (af .next)) (ac (bn (am (aa 0) .Eq (af (.str "part"))) (ac (aI (aj .FloorDiv (aa 1) (aa 2))) (af .next)) (af .next)) (ac (aI (aW kE false [am (aa 1) .Lt (aa 2)])) (af .next)))))
theorem rn_plain (K n:Nat) (a b c:AV) (st:St):aw PP K (n+1) ⟨#[]⟩ "plain" [a,b,c] st=bc (lr (wX K n) ⟨[(0,.val a),(1,.val b),(2,.val c)],st⟩):=iB (by kernel_rfl)
noncomputable def gR (X:Ctx):D Fl:=ac (bn (az .And [am (aa 0) .Eq (af (.str "part")),am (aa 2) .Eq (af (.int 0))]) (ac (rais "ByNought") (af .next)) (af .next)) (ac (aL 3 (aU X "plain" [ae 0,ae 1,ae 2])) (ac (bn (az .Or [am (aa 3) .Gt (af (.int 1000000000000)),am (aa 3) .Lt (dUn .USub (af (.int 1000000000000)))]) (ac (rais "TooGreat") (af .next)) (af .next)) (ac (aI (ae 3)) (af .next))))
theorem rn_reckoned (K n:Nat) (a b c:AV) (st:St):aw PP K (n+1) ⟨#[]⟩ "reckoned" [a,b,c] st=bc (gR (wX K n) ⟨[(0,.val a),(1,.val b),(2,.val c)],st⟩):=iB (by kernel_rfl)
noncomputable def ot (X:Ctx):D Fl:=ac (aL 4 (aU X "checked" [ae 0])) (ac (bn (am (aa 1) .NotIn (aa 4)) (ac (rais "NoSuchFunction") (af .next)) (af .next)) (ac (bn (am (aW aA false [aa 2]) .NotEq (al (aa 4) (ae 1))) (ac (rais "WrongCount") (af .next)) (af .next)) (ac (aL 5 (nV X "Teller" [ae 0,ae 3])) (ac (j7 X (ac (aL 6 (bz X (aa 5) "called" [ae 1,aW b4 false [aa 2]])) (af .next)) [("ByNought",none,ac (aI (aJ [af (.str "nought"),af .none,aQ (aa 5) "made"])) (af .next)),("TooGreat",none,ac (aI (aJ [af (.str "great"),af .none,aQ (aa 5) "made"])) (af .next)),("TooDeep",none,ac (aI (aJ [af (.str "deep"),af .none,aQ (aa 5) "made"])) (af .next)),("Dry",none,ac (aI (aJ [af (.str "dry"),af .none,aQ (aa 5) "made"])) (af .next))]) (ac (aI (aJ [af (.str "value"),ae 6,aQ (aa 5) "made"])) (af .next))))))
theorem rn_told (K n:Nat) (a b c d:AV) (st:St):aw PP K (n+1) ⟨#[]⟩ "told" [a,b,c,d] st=bc (ot (wX K n) ⟨[(0,.val a),(1,.val b),(2,.val c),(3,.val d)],st⟩):=iB (by kernel_rfl)
noncomputable def dT (X:Ctx):D Fl:=ac (bn (am (aa 1) .Lt (aW aA false [aa 0])) (ac (aI (al (aa 0) (ae 1))) (af .next)) (af .next)) (ac (aI (af (.int 0))) (af .next))
theorem ke (K n:Nat) (a b:AV) (st:St):aw PP K (n+1) ⟨#[]⟩ "_law_cell_at" [a,b] st=bc (dT (wX K n) ⟨[(0,.val a),(1,.val b)],st⟩):=iB (by kernel_rfl)
noncomputable def fX (X:Ctx):D Fl:=ac (aL 2 (af (.str "abcdefghijklmnopqrstuvwxyz"))) (ac (aT 3 (aj .FloorDiv (aa 0) (af (.int 4)))) (ac (aT 4 (aj .Mod (aa 1) (af (.int 8)))) (ac (bn (am (aj .Mod (aa 0) (af (.int 4))) .Eq (af (.int 1))) (ac (aT 5 (bP [(2,3),(3,2)] 1 (al (aa 3) (aj .Mod (aj .Add (aj .FloorDiv (aa 2) (af (.int 26))) (aj .Mult (aa 1) (aj .Add (af (.int 1)) (aj .Mod (aj .FloorDiv (aa 2) (af (.int 676))) (af (.int 25)))))) (af (.int 26)))) (fm .range [af (.int 7)]))) (ac (aI (aj .Add (al (aa 2) (aj .Mod (aj .Add (aa 3) (aj .FloorDiv (aa 1) (af (.int 8)))) (af (.int 26)))) (gh (d4 (aa 5) (af .none) (ae 4))))) (af .next))) (af .next)) (ac (bn (am (aj .Mod (aa 0) (af (.int 4))) .Eq (af (.int 2))) (ac (aT 5 (bP [(2,1),(3,3),(4,2)] 1 (al (aa 4) (aj .Mod (aj .Add (aj .Add (aa 3) (aa 1)) (aj .Mult (af (.int 8)) (aj .FloorDiv (aa 2) (af (.int 8))))) (af (.int 26)))) (fm .range [af (.int 8)]))) (ac (aI (gh (aj .Add (d4 (aa 5) (ae 4) (af .none)) (d4 (aa 5) (af .none) (ae 4))))) (af .next))) (af .next)) (ac (bn (am (aj .Mod (aa 0) (af (.int 4))) .Eq (af (.int 3))) (ac (aT 5 (bP [(2,3),(3,2)] 1 (al (aa 3) (aj .Mod (aj .Add (aa 2) (aj .Mult (af (.int 3)) (aa 1))) (af (.int 26)))) (fm .range [af (.int 8)]))) (ac (aT 4 (aj .Mod (aj .Add (aj .Add (aj .Mod (aa 1) (af (.int 7))) (af (.int 1))) (aj .FloorDiv (aa 1) (af (.int 7)))) (af (.int 8)))) (ac (aL 6 (al (aa 5) (ae 4))) (ac (bj (aa 5) (ae 4) (al (aa 5) (aj .Mod (aa 1) (af (.int 7))))) (ac (bj (aa 5) (aj .Mod (aa 1) (af (.int 7))) (ae 6)) (ac (aI (gh (aa 5))) (af .next))))))) (af .next)) (ac (aT 7 (aj .Add (af (.int 1)) (aj .Mod (aa 3) (af (.int 8))))) (ac (aT 8 (aj .Mod (aj .FloorDiv (aa 3) (af (.int 8))) (aa 7))) (ac (aT 5 (bP [(2,3),(3,2)] 1 (al (aa 3) (aj .Mod (aj .Add (aj .FloorDiv (aa 2) (af (.int 64))) (aj .Mult (aa 1) (aj .Add (af (.int 1)) (aj .Mod (aj .FloorDiv (aa 2) (af (.int 1664))) (af (.int 25)))))) (af (.int 26)))) (fm .range [ae 7]))) (ac (aI (aj .Add (aj .Add (gh (d4 (aa 5) (af .none) (ae 8))) (al (aa 2) (aj .Mod (aa 1) (af (.int 26))))) (gh (d4 (aa 5) (aj .Add (aa 8) (af (.int 1))) (af .none))))) (af .next))))))))))
theorem nW (K n:Nat) (a b:AV) (st:St):aw PP K (n+1) ⟨#[]⟩ "_law_word" [a,b] st=bc (fX (wX K n) ⟨[(0,.val a),(1,.val b)],st⟩):=iB (by kernel_rfl)
noncomputable def gC (X:Ctx):D Fl:=ac (bn (am (aa 1) .Gt (aW aA false [aa 0])) (ac (aI (af .none)) (af .next)) (af .next)) (ac (aT 4 (d4 (aa 0) (aj .Sub (aW aA false [aa 0]) (aa 1)) (af .none))) (ac (aT 5 (aj .Add (af (.int 1)) (aW biMax false [aj .Add (bO [af (.int 0)]) (bP [] 1 (al (aa 1) (af (.int 1))) (ba (ae 4)))]))) (ac (bn (am (aa 5) .Gt (af (.int 7))) (ac (aI (af .none)) (af .next)) (af .next)) (ac (aL 6 (aW ft false [bP [] 1 (al (aa 1) (af (.int 0))) (ba (ae 4))])) (ac (bn (ae 3) (ac (aL 6 (aJ [ae 6])) (af .next)) (af .next)) (ac (aI (aj .Add (d4 (aa 0) (af .none) (aj .Sub (aW aA false [aa 0]) (aa 1))) (bO [aJ [aj .Add (aa 2) (aa 6),ae 5]]))) (af .next)))))))
theorem lG (K n:Nat) (a b c d:AV) (st:St):aw PP K (n+1) ⟨#[]⟩ "_law_joined" [a,b,c,d] st=bc (gC (wX K n) ⟨[(0,.val a),(1,.val b),(2,.val c),(3,.val d)],st⟩):=iB (by kernel_rfl)
noncomputable def jT (X:Ctx):D Fl:=ac (aT 4 (aj .FloorDiv (aa 1) (af (.int 11)))) (ac (aT 5 (aj .Mod (aa 1) (af (.int 11)))) (ac (aL 6 (al (aj .Add (aa 2) (bO [af (.str "q")])) (aj .Mod (aa 4) (aj .Add (aW aA false [aa 2]) (af (.int 1)))))) (ac (bn (az .Or [az .And [am (aj .Mod (aa 4) (af (.int 7))) .Eq (af (.int 3)),am (aa 5) .Eq (af (.int 7))],am (aj .Mod (aa 4) (af (.int 30))) .Eq (af (.int 11))]) (ac (aL 6 (af (.str "r"))) (af .next)) (af .next)) (ac (aL 7 (af .none)) (ac (bn (am (aa 5) .Eq (af (.int 0))) (ac (bn (am (aj .Mod (aa 4) (af (.int 40))) .Eq (af (.int 7))) (ac (aL 6 (af (.str "nobody"))) (af .next)) (af .next)) (ac (aT 7 (aj .Add (aa 0) (bO [aJ [aJ [af (.str "name"),ae 6],af (.int 1)]]))) (af .next))) (af .next)) (ac (bn (dCmp2 (af (.int 0)) .Lt (aa 5) .Lt (af (.int 6))) (ac (aL 7 (aU X "_law_joined" [ae 0,af (.int 2),aJ [al (bO [af (.str "sum"),af (.str "less"),af (.str "times"),af (.str "part"),af (.str "below")]) (aj .Sub (aa 5) (af (.int 1)))],af (.bool false)])) (af .next)) (af .next)) (ac (bn (am (aa 5) .Eq (af (.int 6))) (ac (aL 7 (aU X "_law_joined" [ae 0,af (.int 3),aJ [af (.str "choose")],af (.bool false)])) (af .next)) (af .next)) (ac (bn (am (aa 5) .Eq (af (.int 7))) (ac (aL 7 (aU X "_law_joined" [ae 0,af (.int 2),aJ [af (.str "let"),ae 6],af (.bool false)])) (af .next)) (af .next)) (ac (bn (az .And [am (aa 5) .Eq (af (.int 7)),am (aj .Mod (aa 4) (af (.int 40))) .Eq (af (.int 5))]) (ac (aT 7 (aj .Add (aa 0) (bO [aJ [aJ [af (.str "let"),af (.str "r"),aJ [af (.str "sum"),aJ [af (.str "name"),af (.str "r")],aJ [af (.str "num"),af (.int 1)]],aJ [af (.str "name"),af (.str "r")]],af (.int 3)]]))) (af .next)) (af .next)) (ac (bn (am (aa 5) .Gt (af (.int 7))) (ac (aL 8 (al (aa 3) (aj .Mod (aa 4) (aW aA false [aa 3])))) (ac (aL 6 (al (aa 8) (af (.int 0)))) (ac (bn (am (aj .Mod (aj .FloorDiv (aa 4) (af (.int 31))) (af (.int 40))) .Eq (af (.int 5))) (ac (aL 6 (af (.str "nowhere"))) (af .next)) (af .next)) (ac (aL 7 (aU X "_law_joined" [ae 0,aj .Add (al (aa 8) (af (.int 1))) (aW kE false [am (aj .Mod (aj .FloorDiv (aa 4) (af (.int 31))) (af (.int 40))) .Eq (af (.int 3))]),aJ [af (.str "call"),ae 6],af (.bool true)])) (af .next))))) (af .next)) (ac (bn (am (aa 7) .Is (af .none)) (ac (aI (aj .Add (aa 0) (bO [aJ [aJ [af (.str "num"),aj .Sub (aj .Mod (aa 4) (af (.int 2000000000001))) (af (.int 1000000000000))],af (.int 1)]]))) (af .next)) (af .next)) (ac (aI (ae 7)) (af .next)))))))))))))
theorem rn__law_put (K n:Nat) (a b c d:AV) (st:St):aw PP K (n+1) ⟨#[]⟩ "_law_put" [a,b,c,d] st=bc (jT (wX K n) ⟨[(0,.val a),(1,.val b),(2,.val c),(3,.val d)],st⟩):=iB (by kernel_rfl)
noncomputable def iG (X:Ctx):D Fl:=ac (aT 4 (bO [])) (ac (cB (some 5,[]) (ba (ae 0)) (ac (aL 4 (aU X "_law_put" [ae 4,ae 5,ae 1,ae 2])) (af .next))) (ac (aL 6 (aJ [af (.str "num"),aW aA false [aa 0]])) (ac (cB (some 7,[]) (ba (d4 (aa 4) (dUn .USub (af (.int 3))) (af .none))) (ac (aL 6 (aJ [af (.str "sum"),ae 6,al (aa 7) (af (.int 0))])) (af .next))) (ac (cB (some 8,[]) (fm .range [ae 3]) (ac (aL 6 (aJ [af (.str "less"),aJ [af (.str "num"),ae 8],ae 6])) (af .next))) (ac (aI (aJ [af (.str "let"),af (.str "q"),aJ [af (.str "num"),af (.int 5)],ae 6])) (af .next))))))
theorem n9 (K n:Nat) (a b c d:AV) (st:St):aw PP K (n+1) ⟨#[]⟩ "_law_body" [a,b,c,d] st=bc (iG (wX K n) ⟨[(0,.val a),(1,.val b),(2,.val c),(3,.val d)],st⟩):=iB (by kernel_rfl)
noncomputable def f7 (X:Ctx):D Fl:=ac (aT 1 (aj .Add (af (.int 1)) (aj .Mod (aU X "_law_cell_at" [ae 0,af (.int 0)]) (af (.int 5))))) (ac (bn (am (aj .Mod (aj .FloorDiv (aU X "_law_cell_at" [ae 0,af (.int 0)]) (af (.int 5))) (af (.int 8))) .Eq (af (.int 1))) (ac (aL 1 (af (.int 20))) (af .next)) (af .next)) (ac (aT 2 (bO [])) (ac (cB (some 3,[]) (fm .range [ae 1]) (ac (aL 4 (aU X "_law_cell_at" [ae 0,aj .Add (af (.int 4)) (aa 3)])) (ac (aL 5 (ae 3)) (ac (bn (am (aj .Mod (aa 4) (af (.int 30))) .Eq (af (.int 11))) (ac (aT 5 (aj .Mod (aj .FloorDiv (aa 4) (af (.int 30))) (aj .Add (aa 3) (af (.int 1))))) (af .next)) (af .next)) (ac (aT 6 (bP [(4,0)] 1 (aU X "_law_word" [aU X "_law_cell_at" [ae 4,af (.int 2)],ae 1]) (fm .range [aj .Mod (aj .FloorDiv (aa 4) (af (.int 30))) (af (.int 5))]))) (ac (bn (az .And [am (aj .Mod (aj .FloorDiv (aa 4) (af (.int 150))) (af (.int 30))) .Eq (af (.int 7)),am (aW aA false [aa 6]) .Gt (af (.int 1))]) (ac (aT 6 (aj .Add (aa 6) (bO [al (aa 6) (af (.int 0))]))) (af .next)) (af .next)) (ac (cX (dm (aa 2) (aJ [aU X "_law_word" [aU X "_law_cell_at" [ae 0,af (.int 1)],ae 5],ae 6]))) (af .next)))))))) (ac (aT 8 (bP [] 1 (aJ [al (aa 1) (af (.int 0)),aW aA false [al (aa 1) (af (.int 1))]]) (ba (ae 2)))) (ac (aT 9 (bO [])) (ac (cB (none,[3,7]) (fm .enum [ae 2]) (ac (aT 10 (ll [(2,3),(3,1),(4,0)] 1 (some (am (aj .Mod (aa 1) (aa 3)) .Eq (aa 2))) (al (aa 4) (ae 1)) (fm .range [af (.int 4),aW iR false [aW aA false [aa 0],af (.int 204)]]))) (ac (aL 11 (af (.int 0))) (ac (bn (az .And [am (aa 3) .Eq (af (.int 0)),am (aj .Mod (aU X "_law_cell_at" [ae 0,af (.int 3)]) (af (.int 3))) .Eq (af (.int 1))]) (ac (aT 11 (aj .Add (af (.int 1)) (aj .Mod (aj .FloorDiv (aU X "_law_cell_at" [ae 0,af (.int 3)]) (af (.int 3))) (af (.int 15))))) (af .next)) (af .next)) (ac (cX (dm (aa 9) (aJ [al (aa 7) (af (.int 0)),aW ft false [al (aa 7) (af (.int 1))],aU X "_law_body" [ae 10,al (aa 7) (af (.int 1)),ae 8,ae 11]]))) (af .next)))))) (ac (aI (ae 9)) (af .next))))))))
theorem j8 (K n:Nat) (a:AV) (st:St):aw PP K (n+1) ⟨#[]⟩ "_law_program" [a] st=bc (f7 (wX K n) ⟨[(0,.val a)],st⟩):=iB (by kernel_rfl)
noncomputable def bq (X:Ctx):D Fl:=ac (bn (am (aa 3) .Gt (af (.int 12))) (ac (aI (af (.str "tall"))) (af .next)) (af .next)) (ac (bn (az .And [am (al (aa 0) (af (.int 0))) .Eq (af (.str "name")),am (al (aa 0) (af (.int 1))) .NotIn (aa 1)]) (ac (aI (af (.str "name"))) (af .next)) (af .next)) (ac (bn (az .And [am (al (aa 0) (af (.int 0))) .Eq (af (.str "call")),am (al (aa 0) (af (.int 1))) .NotIn (aa 2)]) (ac (aI (af (.str "function"))) (af .next)) (af .next)) (ac (bn (az .And [am (al (aa 0) (af (.int 0))) .Eq (af (.str "call")),am (aW aA false [al (aa 0) (af (.int 2))]) .NotEq (al (aa 2) (al (aa 0) (af (.int 1))))]) (ac (aI (af (.str "count"))) (af .next)) (af .next)) (ac (aT 4 (d4 (aa 0) (af (.int 1)) (af .none))) (ac (bn (am (al (aa 0) (af (.int 0))) .Eq (af (.str "call"))) (ac (aL 4 (al (aa 0) (af (.int 2)))) (af .next)) (af .next)) (ac (bn (am (al (aa 0) (af (.int 0))) .Eq (af (.str "let"))) (ac (aT 4 (d4 (aa 0) (af (.int 2)) (af .none))) (af .next)) (af .next)) (ac (bn (az .Or [am (al (aa 0) (af (.int 0))) .Eq (af (.str "num")),am (al (aa 0) (af (.int 0))) .Eq (af (.str "name"))]) (ac (aL 4 (aJ [])) (af .next)) (af .next)) (ac (cB (none,[5,6]) (fm .enum [ae 4]) (ac (aL 7 (ae 1)) (ac (bn (az .And [am (al (aa 0) (af (.int 0))) .Eq (af (.str "let")),am (aa 5) .Eq (af (.int 1))]) (ac (aT 7 (aj .Add (aa 1) (bO [al (aa 0) (af (.int 1))]))) (af .next)) (af .next)) (ac (aL 8 (aU X "_law_fault" [ae 6,ae 7,ae 2,aj .Add (aa 3) (af (.int 1))])) (ac (bn (am (aa 8) .NotEq (af (.str ""))) (ac (aI (ae 8)) (af .next)) (af .next)) (af .next)))))) (ac (aI (af (.str ""))) (af .next))))))))))
theorem cR (K n:Nat) (a b c d:AV) (st:St):aw PP K (n+1) ⟨#[]⟩ "_law_fault" [a,b,c,d] st=bc (bq (wX K n) ⟨[(0,.val a),(1,.val b),(2,.val c),(3,.val d)],st⟩):=iB (by kernel_rfl)
noncomputable def jU (X:Ctx):D Fl:=ac (aT 1 (af (.dct [] []))) (ac (cB (none,[2,3,4]) (ba (ae 0)) (ac (bn (am (aa 2) .NotIn (aa 1)) (ac (bj (aa 1) (ae 2) (aW aA false [aa 3])) (af .next)) (af .next)) (af .next))) (ac (aT 5 (bO [])) (ac (cB (none,[2,3,4]) (ba (ae 0)) (ac (bn (az .Or [am (aa 2) .In (aa 5),am (aW aA false [aW eB false [aa 3]]) .Lt (aW aA false [aa 3])]) (ac (aI (aJ [af (.str "twice"),ae 1])) (af .next)) (af .next)) (ac (cX (dm (aa 5) (ae 2))) (ac (aL 6 (aU X "_law_fault" [ae 4,aW b4 false [aa 3],ae 1,af (.int 1)])) (ac (bn (am (aa 6) .NotEq (af (.str ""))) (ac (aI (aJ [ae 6,ae 1])) (af .next)) (af .next)) (af .next)))))) (ac (aI (aJ [af (.str ""),ae 1])) (af .next)))))
theorem rn__law_due (K n:Nat) (a:AV) (st:St):aw PP K (n+1) ⟨#[]⟩ "_law_due" [a] st=bc (jU (wX K n) ⟨[(0,.val a)],st⟩):=iB (by kernel_rfl)
noncomputable def dQ (X:Ctx):D Fl:=ac (j7 X (ac (bn (am (aa 0) .Eq (af (.int 0))) (ac (cX (aU X "checked" [ae 1])) (af .next)) (af .next)) (ac (bn (am (aa 0) .Eq (af (.int 1))) (ac (cX (aU X "told" [ae 1,al (al (aa 1) (af (.int 0))) (af (.int 0)),aj .Mult (bO [af (.int 1)]) (aW aA false [al (al (aa 1) (af (.int 0))) (af (.int 1))]),af (.int 2)])) (af .next)) (af .next)) (ac (bn (am (aa 0) .Eq (af (.int 3))) (ac (cX (aU X "told" [ae 1,af (.str "missing"),bO [],af (.int 2)])) (af .next)) (af .next)) (ac (bn (am (aa 0) .Eq (af (.int 4))) (ac (cX (aU X "told" [ae 1,al (al (aa 1) (af (.int 0))) (af (.int 0)),aj .Mult (bO [af (.int 1)]) (af (.int 9)),af (.int 0)])) (af .next)) (af .next)) (ac (bn (am (aa 0) .Eq (af (.int 2))) (ac (cX (aU X "smithed" [ae 1])) (af .next)) (af .next)) (af .next)))))) [("NameTwice",none,ac (aI (af (.str "twice"))) (af .next)),("NoSuchName",none,ac (aI (af (.str "name"))) (af .next)),("NoSuchFunction",none,ac (aI (af (.str "function"))) (af .next)),("WrongCount",none,ac (aI (af (.str "count"))) (af .next)),("TooTall",none,ac (aI (af (.str "tall"))) (af .next))]) (ac (aI (af (.str ""))) (af .next))
theorem gg (K n:Nat) (a b:AV) (st:St):aw PP K (n+1) ⟨#[]⟩ "_law_refused" [a,b] st=bc (dQ (wX K n) ⟨[(0,.val a),(1,.val b)],st⟩):=iB (by kernel_rfl)
noncomputable def i5 (X:Ctx):D Fl:=ac (j7 X (ac (cX (aU X "checked" [ae 0])) (af .next)) [("SmithError",some 1,ac (aI (fE (aa 1) (isiV X.P))) (af .next))]) (ac (aI (af (.bool false))) (af .next))
theorem nF (K n:Nat) (a:AV) (st:St):aw PP K (n+1) ⟨#[]⟩ "_law_base" [a] st=bc (i5 (wX K n) ⟨[(0,.val a)],st⟩):=iB (by kernel_rfl)
noncomputable def sh_law (X:Ctx):D Fl:=ac (aL 1 (aU X "_law_program" [ae 0])) (ac (aL 2 (aU X "_law_due" [ae 1])) (ac (aT 3 (aW b4 false [aa 1])) (ac (cB (some 4,[]) (fm .range [af (.int 3)]) (ac (bn (az .Or [am (aU X "_law_refused" [ae 4,ae 3]) .NotEq (al (aa 2) (af (.int 0))),am (aa 3) .NotEq (aa 1)]) (ac (aI (af (.bool false))) (af .next)) (af .next)) (af .next))) (ac (bn (am (al (aa 2) (af (.int 0))) .NotEq (af (.str ""))) (ac (bn (az .Or [am (aU X "_law_refused" [af (.int 3),ae 3]) .NotEq (al (aa 2) (af (.int 0))),am (aU X "_law_refused" [af (.int 4),ae 3]) .NotEq (al (aa 2) (af (.int 0)))]) (ac (aI (af (.bool false))) (af .next)) (af .next)) (ac (aI (aU X "_law_base" [ae 3])) (af .next))) (af .next)) (ac (aL 5 (aU X "checked" [ae 3])) (ac (bn (az .Or [kh (fE (aa 5) (jq .dict)),am (fY (ae 5)) .NotEq (fY (al (aa 2) (af (.int 1))))]) (ac (aI (af (.bool false))) (af .next)) (af .next)) (ac (cB (some 6,[]) (ba (ae 5)) (ac (bn (az .Or [kh (fE (al (aa 5) (ae 6)) (jq .int)),fE (al (aa 5) (ae 6)) (jq .bool)]) (ac (aI (af (.bool false))) (af .next)) (af .next)) (af .next))) (ac (aI (am (aa 3) .Eq (aa 1))) (af .next)))))))))
theorem rn_law (K n:Nat) (a:AV) (st:St):aw PP K (n+1) ⟨#[]⟩ "law" [a] st=bc (sh_law (wX K n) ⟨[(0,.val a)],st⟩):=iB (by kernel_rfl)
noncomputable def eV (X:Ctx):D Fl:=ac (bM (aa 0) "rows" (ae 1)) (ac (bM (aa 0) "starts" (ae 2)) (af .next))
theorem je (K n:Nat) (a b c:AV) (st:St):aw PP K (n+1) "Code" "__init__" [a,b,c] st=bc (eV (wX K n) ⟨[(0,.val a),(1,.val b),(2,.val c)],st⟩):=iB (by kernel_rfl)
noncomputable def eC (X:Ctx):D Fl:=ac (bM (aa 0) "rows" (aH (bO []) toCel)) (ac (bM (aa 0) "starts" (ae 1)) (af .next))
theorem i6 (K n:Nat) (a b:AV) (st:St):aw PP K (n+1) "Smith" "__init__" [a,b] st=bc (eC (wX K n) ⟨[(0,.val a),(1,.val b)],st⟩):=iB (by kernel_rfl)
noncomputable def dU (X:Ctx):D Fl:=ac (cX (bz X (aa 0) "add" [al (aa 1) (af (.int 1)),ae 2,ae 3])) (ac (aT 4 (aj .Add (aW aA false [aQ (aa 0) "rows"]) (af (.int 1)))) (ac (aT 5 (aj .Add (aj .Add (aa 4) (aU X "length" [al (aa 1) (af (.int 2))])) (af (.int 1)))) (ac (cX (dm (aQ (aa 0) "rows") (aJ [af (.str "unless"),ae 5]))) (ac (cX (bz X (aa 0) "add" [al (aa 1) (af (.int 2)),ae 2,ae 3])) (ac (cX (dm (aQ (aa 0) "rows") (aJ [af (.str "skip"),aj .Add (aa 5) (aU X "length" [al (aa 1) (af (.int 3))])]))) (ac (cX (bz X (aa 0) "add" [al (aa 1) (af (.int 3)),ae 2,ae 3])) (af .next)))))))
theorem kg (K n:Nat) (a b c d:AV) (st:St):aw PP K (n+1) "Smith" "choose" [a,b,c,d] st=bc (dU (wX K n) ⟨[(0,.val a),(1,.val b),(2,.val c),(3,.val d)],st⟩):=iB (by kernel_rfl)
noncomputable def bf (X:Ctx):D Fl:=ac (bn (am (al (aa 1) (af (.int 0))) .Eq (af (.str "num"))) (ac (cX (dm (aQ (aa 0) "rows") (aJ [af (.str "push"),al (aa 1) (af (.int 1))]))) (af .next)) (ac (bn (am (al (aa 1) (af (.int 0))) .Eq (af (.str "name"))) (ac (cX (dm (aQ (aa 0) "rows") (aJ [af (.str "load"),al (aa 2) (al (aa 1) (af (.int 1)))]))) (af .next)) (ac (bn (am (al (aa 1) (af (.int 0))) .Eq (af (.str "choose"))) (ac (cX (bz X (aa 0) "choose" [ae 1,ae 2,ae 3])) (af .next)) (ac (bn (am (al (aa 1) (af (.int 0))) .Eq (af (.str "let"))) (ac (cX (bz X (aa 0) "add" [al (aa 1) (af (.int 2)),ae 2,ae 3])) (ac (cX (dm (aQ (aa 0) "rows") (aJ [af (.str "keep"),ae 3]))) (ac (aT 4 (aW oh false [aa 2])) (ac (bj (aa 4) (al (aa 1) (af (.int 1))) (ae 3)) (ac (cX (bz X (aa 0) "add" [al (aa 1) (af (.int 3)),ae 4,aj .Add (aa 3) (af (.int 1))])) (af .next)))))) (ac (cB (some 5,[]) (ba (aU X "within" [ae 1])) (ac (cX (bz X (aa 0) "add" [ae 5,ae 2,ae 3])) (af .next))) (ac (bn (am (al (aa 1) (af (.int 0))) .Eq (af (.str "call"))) (ac (aL 6 (al (aQ (aa 0) "starts") (al (aa 1) (af (.int 1))))) (ac (cX (dm (aQ (aa 0) "rows") (aJ [af (.str "call"),al (aa 6) (af (.int 0)),al (aa 6) (af (.int 1)),al (aa 6) (af (.int 2))]))) (af .next))) (ac (cX (dm (aQ (aa 0) "rows") (aJ [af (.str "do"),al (aa 1) (af (.int 0))]))) (af .next))) (af .next)))) (af .next))) (af .next))) (af .next))) (af .next)
theorem cK (K n:Nat) (a b c d:AV) (st:St):aw PP K (n+1) "Smith" "add" [a,b,c,d] st=bc (bf (wX K n) ⟨[(0,.val a),(1,.val b),(2,.val c),(3,.val d)],st⟩):=iB (by kernel_rfl)
noncomputable def ew (X:Ctx):D Fl:=ac (bM (aa 0) "functions" (aH (af (.dct [] [])) toCel)) (ac (cB (some 3,[]) (ba (ae 1)) (ac (bj (aQ (aa 0) "functions") (al (aa 3) (af (.int 0))) (ae 3)) (af .next))) (ac (bM (aa 0) "fuel" (ae 2)) (ac (bM (aa 0) "made" (af (.int 0))) (ac (bM (aa 0) "going" (af (.int 0))) (af .next)))))
theorem ij (K n:Nat) (a b c:AV) (st:St):aw PP K (n+1) "Teller" "__init__" [a,b,c] st=bc (ew (wX K n) ⟨[(0,.val a),(1,.val b),(2,.val c)],st⟩):=iB (by kernel_rfl)
noncomputable def bL (X:Ctx):D Fl:=ac (bn (am (aQ (aa 0) "going") .Eq (af (.int 20))) (ac (rais "TooDeep") (af .next)) (af .next)) (ac (bn (am (aQ (aa 0) "made") .Eq (aQ (aa 0) "fuel")) (ac (rais "Dry") (af .next)) (af .next)) (ac (bM (aa 0) "made" (aH (aj .Add (aQ (aa 0) "made") (af (.int 1))) toCel)) (ac (bM (aa 0) "going" (aH (aj .Add (aQ (aa 0) "going") (af (.int 1))) toCel)) (ac (aL 3 (al (aQ (aa 0) "functions") (ae 1))) (ac (aT 4 (af (.dct [] []))) (ac (cB (none,[5,6]) (fm .zip [al (aa 3) (af (.int 1)),ae 2]) (ac (bj (aa 4) (ae 5) (ae 6)) (af .next))) (ac (aL 7 (bz X (aa 0) "worth" [al (aa 3) (af (.int 2)),ae 4])) (ac (bM (aa 0) "going" (aH (aj .Sub (aQ (aa 0) "going") (af (.int 1))) toCel)) (ac (aI (ae 7)) (af .next))))))))))
theorem fk (K n:Nat) (a b c:AV) (st:St):aw PP K (n+1) "Teller" "called" [a,b,c] st=bc (bL (wX K n) ⟨[(0,.val a),(1,.val b),(2,.val c)],st⟩):=iB (by kernel_rfl)
noncomputable def aO (X:Ctx):D Fl:=ac (bn (am (al (aa 1) (af (.int 0))) .Eq (af (.str "num"))) (ac (aI (al (aa 1) (af (.int 1)))) (af .next)) (af .next)) (ac (bn (am (al (aa 1) (af (.int 0))) .Eq (af (.str "name"))) (ac (aI (al (aa 2) (al (aa 1) (af (.int 1))))) (af .next)) (af .next)) (ac (bn (am (al (aa 1) (af (.int 0))) .Eq (af (.str "choose"))) (ac (bn (am (bz X (aa 0) "worth" [al (aa 1) (af (.int 1)),ae 2]) .NotEq (af (.int 0))) (ac (aI (bz X (aa 0) "worth" [al (aa 1) (af (.int 2)),ae 2])) (af .next)) (af .next)) (ac (aI (bz X (aa 0) "worth" [al (aa 1) (af (.int 3)),ae 2])) (af .next))) (af .next)) (ac (bn (am (al (aa 1) (af (.int 0))) .Eq (af (.str "let"))) (ac (aT 3 (aW oh false [aa 2])) (ac (bj (aa 3) (al (aa 1) (af (.int 1))) (bz X (aa 0) "worth" [al (aa 1) (af (.int 2)),ae 2])) (ac (aI (bz X (aa 0) "worth" [al (aa 1) (af (.int 3)),ae 3])) (af .next)))) (af .next)) (ac (bn (am (al (aa 1) (af (.int 0))) .Eq (af (.str "call"))) (ac (aT 4 (bO [])) (ac (cB (some 5,[]) (ba (al (aa 1) (af (.int 2)))) (ac (cX (dm (aa 4) (bz X (aa 0) "worth" [ae 5,ae 2]))) (af .next))) (ac (aI (bz X (aa 0) "called" [al (aa 1) (af (.int 1)),ae 4])) (af .next)))) (af .next)) (ac (aL 5 (bz X (aa 0) "worth" [al (aa 1) (af (.int 1)),ae 2])) (ac (aL 6 (bz X (aa 0) "worth" [al (aa 1) (af (.int 2)),ae 2])) (ac (aI (aU X "reckoned" [al (aa 1) (af (.int 0)),ae 5,ae 6])) (af .next))))))))
theorem bW (K n:Nat) (a b c:AV) (st:St):aw PP K (n+1) "Teller" "worth" [a,b,c] st=bc (aO (wX K n) ⟨[(0,.val a),(1,.val b),(2,.val c)],st⟩):=iB (by kernel_rfl)
theorem tel_worth:(PP.find "Teller" "worth").isSome=true:=by kernel_rfl
theorem lP:(PP.find "Teller" "called").isSome=true:=by kernel_rfl
theorem sm_add:(PP.find "Smith" "add").isSome=true:=by kernel_rfl
theorem sm_choose:(PP.find "Smith" "choose").isSome=true:=by kernel_rfl
theorem cH (c:Str):PP.sub c c=true:=by show (seq c c || _)=true; rw [fi]; rfl
theorem sub_g1:PP.sub "TooGreat" "ByNought"=false:=by kernel_rfl
theorem sub_d1:PP.sub "TooDeep" "ByNought"=false:=by kernel_rfl
theorem sub_d2:PP.sub "TooDeep" "TooGreat"=false:=by kernel_rfl
theorem sub_y1:PP.sub "Dry" "ByNought"=false:=by kernel_rfl
theorem sub_y2:PP.sub "Dry" "TooGreat"=false:=by kernel_rfl
theorem sub_y3:PP.sub "Dry" "TooDeep"=false:=by kernel_rfl
noncomputable def RT (d:D Fl) (s:S) (r:Ret):Prop:=bc (d s)=r
theorem au {α β:Type} {m:D α} {f:α->D β} {s s':S} {a:α} (h:m s=.ok a s'):aH m f s=f a s':=by unfold aH; rw [h]; rfl
section
variable {t d:D AV} {a b k m:D Fl} {s s':S} {r:Ret} {v:AV} {i:Nat}
theorem RT.ifB {c:Bool} (h:t s=.ok (.bool c) s') (hk:RT (ac (bif c then a else b) k) s' r):RT (ac (bn t a b) k) s r:=by
 rw [← hk]
 unfold RT ac aH bn aH
 rw [h]
 cases c <;> rfl
theorem RT.ifT {φ:Prop} [Decidable φ] (hφ:φ) (h:t s=.ok (.bool (decide φ)) s') (hk:RT (ac a k) s' r):RT (ac (bn t a b) k) s r :=
 .ifB h (by rw [decide_eq_true hφ]; exact hk)
theorem RT.ifN {φ:Prop} [Decidable φ] (hφ:¬ φ) (h:t s=.ok (.bool (decide φ)) s') (hk:RT (ac b k) s' r):RT (ac (bn t a b) k) s r :=
 .ifB h (by rw [decide_eq_false hφ]; exact hk)
theorem RT.eqT {x y:Str} (hs:seq x y=true) (h:t s=.ok (.bool (seq x y)) s') (hk:RT (ac a k) s' r):RT (ac (bn t a b) k) s r :=
 .ifB h (by rw [hs]; exact hk)
theorem RT.eqN {x y:Str} (hs:seq x y=false) (h:t s=.ok (.bool (seq x y)) s') (hk:RT (ac b k) s' r):RT (ac (bn t a b) k) s r :=
 .ifB h (by rw [hs]; exact hk)
theorem RT.next (hk:RT k s r):RT (ac (af .next) k) s r:=hk
theorem RT.ret (h:d s=.ok v s') (e:.ok v s'.st=r):RT (ac (aI d) k) s r:=by
 rw [← e]
 unfold RT ac aH aI aH
 rw [h]; rfl
theorem RT.retO {o:Option AV} (h:d s=Mine.opt o s') (ho:o=some v) (e:.ok v s'.st=r):RT (ac (aI d) k) s r :=
 .ret (h.trans (by rw [ho]; rfl)) e
theorem RT.assoc (h:RT (ac a (ac m k)) s r):RT (ac (ac a m) k) s r:=by
 rw [← h]
 unfold RT ac aH
 cases ha:a s with
 | stuck=>rfl
 | exc c s'=>rfl
 | ok f s'=>cases f <;> rfl
theorem RT.go (h:a s=.ok .next s') (hk:RT k s' r):RT (ac a k) s r:=by
 rw [← hk]
 unfold RT ac aH
 rw [h]; rfl
theorem RT.nil (e:.ok .none s.st=r):RT (af .next) s r:=e
theorem bH (h:d s=.ok v s'):aL i d s=.ok .next ⟨ah i (.val v) s'.loc,s'.st⟩:=by
 show aH d _ s=_; rw [au h]; rfl
theorem bp (h:d s=.ok v s'):aT i d s=.ok .next ⟨ah i (oz true v) s'.loc,s'.st⟩:=by
 show aH d _ s=_; rw [au h]; rfl
theorem cF (h:d s=.ok v s'):cX d s=.ok .next s':=by
 show aH d _ s=_; rw [au h]; rfl
theorem RT.asg (h:d s=.ok v s') (hk:RT k ⟨ah i (.val v) s'.loc,s'.st⟩ r):RT (ac (aL i d) k) s r:=.go (bH h) hk
theorem RT.own (h:d s=.ok v s') (hk:RT k ⟨ah i (oz true v) s'.loc,s'.st⟩ r):RT (ac (aT i d) k) s r:=.go (bp h) hk
theorem RT.do (h:d s=.ok v s') (hk:RT k s' r):RT (ac (cX d) k) s r:=.go (cF h) hk
end
section
variable {X:Ctx} {f:Str} {d e:D AV} {es rs:List (D AV)} {vs:List AV} {v:AV} {s s₁ s₂:S} {st':St} {c:Bool}
theorem aN (h:br es s=.ok vs s₁) (hc:X.call ⟨#[]⟩ f vs s₁.st=.ok v st'):aU X f es s=.ok v ⟨s₁.loc,st'⟩:=by
 show aH (br es) _ s=_
 rw [au h]
 show ez (X.call ⟨#[]⟩ f vs s₁.st) s₁=_
 rw [hc]; rfl
theorem ai (h1:d s=.ok v s₁) (h2:br es s₁=.ok vs s₂):br (d::es) s=.ok (v::vs) s₂:=by
 show aH d _ s=_
 rw [au h1]
 show aH (br es) _ s₁=_
 rw [au h2]; rfl
theorem eP (h:d s=.ok (.bool c) s₁):az .Or (d::e::rs) s=bif c then .ok (.bool true) s₁ else az .Or (e::rs) s₁:=by
 show aH d _ s=_
 rw [au h]; cases c <;> rfl
theorem ci (h:d s=.ok (.bool c) s₁):az .And (d::e::rs) s=bif c then az .And (e::rs) s₁ else .ok (.bool false) s₁:=by
 show aH d _ s=_
 rw [au h]; cases c <;> rfl
theorem dB {l:List AV} (h:d s=.ok (.lst l) s₁):ba d s=.ok (.lst l) s₁:=by show aH d _ s=_; rw [au h]; rfl
end
section
variable {t:Option Nat × List Nat} {i:Nat} {ks:List Nat} {its:D AV} {l vs:List AV} {b k:D Fl} {x:AV} {rl:List AV} {s s₁ s₂:S} {r:Ret} {o:Out Fl}
theorem RT.forI (h:its s=.ok (.lst l) s₁) (hb:aX t b l s₁=.ok .next s₂) (hk:RT k s₂ r):RT (ac (cB t its b) k) s r :=
 .go (by show aH its _ s=_; rw [au h]; exact hb) hk
theorem RT.forT (h:its s=.ok (.tup l) s₁) (hb:aX (none,ks) b l s₁=.ok .next s₂) (hk:RT k s₂ r):RT (ac (cB (none,ks) its b) k) s r :=
 .go (by show aH its _ s=_; rw [au h]; exact hb) hk
theorem bG (h2:b ⟨ah i (.val x) s.loc,s.st⟩=.ok .next s₂) (h3:aX (some i,ks) b rl s₂=o):aX (some i,ks) b (x::rl) s=o:=by
 show aH b _ ⟨ah i (.val x) s.loc,s.st⟩=_
 rw [au h2]; exact h3
theorem RT.rais {c:Str} {k:D Fl} {s:S}:RT (ac (Mine.rais c) k) s (.exc c s.st):=rfl
end
section
variable {t:D AV} {a b k:D Fl} {s s':S}
theorem ifO {c:Bool} (h:t s=.ok (.bool c) s'):ac (bn t a b) k s=ac (bif c then a else b) k s':=by
 unfold ac aH bn aH
 rw [h]
 cases c <;> rfl
theorem hY (h:a s=.ok .next s'):ac a k s=k s':=by
 show aH a _ s=_; rw [au h]
end
theorem aP (x:Str):seq x x=true:=by rw [dn]; exact beq_self_eq_true x
theorem comp_go {α:Type} {tst:Option (D AV)} {elt:D AV} {cap:bF} {st:St} {t:Tg} {f g:α->AV} {p:α->Bool}:∀ {l:List α},(∀ x ∈ l,∃ s0 s',j9 t (f x) ⟨cap,st⟩=.ok () ⟨s0,st⟩/\iN tst ⟨s0,st⟩=.ok (p x) ⟨s',st⟩/\(p x=true->∃ s₂,elt ⟨s',st⟩=.ok (g x) ⟨s₂,st⟩))->cg t tst elt cap (l.map f) st=.ok ((l.filter p).map g) ⟨cap,st⟩
 | [],_=>rfl
 | x::r,h=>by
  obtain ⟨s0,s',e0,e,h2⟩:=h x zAb
  have ih:=comp_go fun y hy=>h y (zAc _ hy)
  show aH (j9 t (f x)) _ _=_
  rw [au e0]
  show aH (iN tst) _ _=_
  rw [au e]
  cases hp:p x with
  | false=>rw [List.filter_cons_of_neg (fun q=>nomatch hp.symm.trans q)]; exact ih
  | true =>
   obtain ⟨s₂,e2⟩:=h2 hp
   rw [List.filter_cons_of_pos hp]
   show aH elt _ _=_
   rw [au e2]
   show nj (g x) (cg t tst elt cap (r.map f) st)=_
   rw [ih]; rfl
theorem compG_at {α:Type} {caps:List (Nat × Nat)} {t:Tg} {tst:Option (D AV)} {elt its:D AV} {l:List α} {f g:α->AV} {p:α->Bool} {s s₁:S} (h:its s=.ok (.lst (l.map f)) s₁) (hl:l.length<=1000) (he:∀ x ∈ l,∃ s0 s',j9 t (f x) ⟨dY caps s₁.loc,s₁.st⟩=.ok () ⟨s0,s₁.st⟩/\iN tst ⟨s0,s₁.st⟩=.ok (p x) ⟨s',s₁.st⟩/\(p x=true->∃ s₂,elt ⟨s',s₁.st⟩=.ok (g x) ⟨s₂,s₁.st⟩)) :
  c9 caps t tst elt its s=.ok (.lst ((l.filter p).map g)) ⟨letGo caps s₁.loc,s₁.st⟩:=by
 have hs:(1000:Nat)<=sizeLine:=by decide +kernel
 show aH its _ s=_
 rw [au h]
 show (if (l.map f).length<=sizeLine then aH (cQ caps t tst elt (l.map f)) fun vs=>Mine.opt (bD vs) else stk) s₁=_
 rw [if_pos (by rw [zAe]; exact zAj hl hs)]
 have e:cQ caps t tst elt (l.map f) s₁=.ok ((l.filter p).map g) ⟨letGo caps s₁.loc,s₁.st⟩:=by unfold cQ; rw [comp_go he]
 rw [au e]
 unfold bD
 rw [if_pos (by rw [zAe]; exact zAj (zAj (List.length_filter_le p l) hl) hs)]; rfl
theorem compT_at {α:Type} {caps:List (Nat × Nat)} {k:Nat} {tst:Option (D AV)} {elt its:D AV} {l:List α} {f g:α->AV} {p:α->Bool} {s s₁:S} (h:its s=.ok (.lst (l.map f)) s₁) (hl:l.length<=1000) (he:∀ x ∈ l,∃ s',iN tst ⟨ah k (.val (f x)) (dY caps s₁.loc),s₁.st⟩=.ok (p x) ⟨s',s₁.st⟩/\(p x=true->∃ s₂,elt ⟨s',s₁.st⟩=.ok (g x) ⟨s₂,s₁.st⟩)) :
  ll caps k tst elt its s=.ok (.lst ((l.filter p).map g)) ⟨letGo caps s₁.loc,s₁.st⟩ :=
 compG_at h hl fun x hx=>(he x hx).elim fun s' q=>⟨_,s',rfl,q⟩
theorem iV {α:Type} {caps:List (Nat × Nat)} {k:Nat} {elt its:D AV} {l:List α} {f g:α->AV} {s s₁:S} (h:its s=.ok (.lst (l.map f)) s₁) (hl:l.length<=1000) (he:∀ x ∈ l,∃ s',elt ⟨ah k (.val (f x)) (dY caps s₁.loc),s₁.st⟩=.ok (g x) ⟨s',s₁.st⟩) :
  bP caps k elt its s=.ok (.lst (l.map g)) ⟨letGo caps s₁.loc,s₁.st⟩ :=
 (compT_at (p:=fun _=>true) h hl fun x hx=>⟨_,rfl,fun _=>he x hx⟩).trans (by rw [List.filter_eq_self.mpr fun _ _=>rfl])
section
variable {X:Ctx} {f c m:Str} {es:List (D AV)} {vs:List AV} {v ov:AV} {k a b:D Fl} {s s₁ s':S} {st':St} {r q:Ret} {kk k0:Nat} {d t od:D AV} {x:Str} {l:List (Str × AV)}
theorem dMeth_at (hm:(X.P.find c m).isSome=true) (ho:od s=.ok ov s) (hl:gc ov s=some (.obj c k0)) (hf:s.st[k0]?=some (.flds l)) (hes:br es s=.ok vs s₁) :
  bz X od m es s=ez (X.call c m (.obj c k0::vs) s₁.st) s₁:=by
 show ax (od s) _=_
 rw [ho]
 show ax (iA ov s) _=_
 unfold iA
 rw [hl]
 show (match s.st[k0]? with | some (.flds _)=>_ | _=>_)=_
 rw [hf]
 dsimp only
 rw [if_pos hm]
 show ax (br es s) _=_
 rw [hes]; rfl
theorem RT.retR (h:d s=ez q s₁) (hq:q=r):RT (ac (aI d) k) s r:=by
 subst hq
 show bc (ax (ax (d s) _) _)=_
 rw [h]
 cases q <;> rfl
theorem RT.asgR (h:d s=ez q s₁) (hq:q=.ok v st') (hk:RT k ⟨ah kk (.val v) s₁.loc,st'⟩ r):RT (ac (aL kk d) k) s r:=by
 rw [← hk]
 show bc (ax (ax (d s) _) _)=_
 rw [h,hq]; rfl
theorem RT.asgX (h:d s=.exc x s₁) (e:.exc x s₁.st=r):RT (ac (aL kk d) k) s r:=by
 rw [← e]
 show bc (ax (ax (d s) _) _)=_
 rw [h]; rfl
theorem RT.goX (h:a s=.exc x s') (e:.exc x s'.st=r):RT (ac a k) s r:=by
 rw [← e]
 show bc (ax (a s) _)=_
 rw [h]; rfl
theorem RT.ifX (h:t s=.exc x s') (e:.exc x s'.st=r):RT (ac (bn t a b) k) s r:=by
 rw [← e]
 show bc (ax (ax (t s) _) _)=_
 rw [h]; rfl
end
theorem cG {b i d:D AV} {S S₁ SA:Mine.S} {va vi:AV} {k:Nat} {w w':AV} (hd:d S=.ok va S₁) (hb:b S₁=.ok (.pl k) S₁) (hi:i S₁=.ok vi S₁) (hk:aq k S₁.loc=some (.own w)) (hp:fy vi va w=some w') (e:SA=⟨ah k (.own w') S₁.loc,S₁.st⟩):bj b i d S=.ok .next SA:=by
 subst e
 show aH d _ S=_
 rw [au hd]
 show aH b _ S₁=_
 rw [au hb]
 show aH i _ S₁=_
 rw [au hi]
 have hm:b8 (.pl k) (fy vi va) S₁=.ok () ⟨ah k (.own w') S₁.loc,S₁.st⟩:=by
  unfold b8
  dsimp only
  rw [hk]
  dsimp only
  rw [hp]
 show aH (b8 (.pl k) (fy vi va)) _ S₁=_
 rw [au hm]; rfl
theorem bZ {l:List AV} (h:l.length<=1000):bD l=some (.lst l):=if_pos (zAj h (by decide +kernel))
theorem lJ {l:List AV} {k:Nat} {v:AV} (h:l[k]?=some v):at? l (k:Int)=some v:=by
 unfold at?
 rw [if_pos (zCg k),zCa,h]
theorem kj {o e:D AV} {S S₁ SA:Mine.S} {k:Nat} {l:List AV} {v:AV} (ho:o S=.ok (.pl k) S) (hk:aq k S.loc=some (.own (.lst l))) (he:e S=.ok v S₁) (hk1:aq k S₁.loc=some (.own (.lst l))) (hl:l.length<=1000) (e₂:SA=⟨ah k (.own (.lst (l++[v]))) S₁.loc,S₁.st⟩):dm o e S=.ok .none SA:=by
 subst e₂
 show aH o _ S=_
 rw [au ho]
 have hc:eI (.pl k) S=.ok () S:=by
  unfold eI aS
  dsimp only
  rw [hk]; rfl
 show aH (eI (.pl k)) _ S=_
 rw [au hc]
 show aH e _ S=_
 rw [au he]
 have hm:b8 (.pl k) (appV v) S₁=.ok () ⟨ah k (.own (.lst (l++[v]))) S₁.loc,S₁.st⟩:=by
  unfold b8
  dsimp only
  rw [hk1]
  dsimp only
  rw [show appV v (.lst l)=some (.lst (l++[v])) from by
   show bD (l++[v])=_
   unfold bD
   rw [if_pos]
   rw [zAd]
   exact zAj (zBh hl 1) (show 1000+1<=sizeLine by decide +kernel)]
 show aH (b8 (.pl k) (appV v)) _ S₁=_
 rw [au hm]; rfl
theorem bJ {l r:D AV} {op:CmpOp} {a b:AV} {s s₁ s₂:S} (h1:l s=.ok a s₁) (h2:r s₁=.ok b s₂):am l op r s=aH (deref a) (fun a'=>aH (deref b) fun b'=>Mine.opt ((lH op a' b').map .bool)) s₂:=by
 show aH l _ s=_
 rw [au h1]
 show aH r _ s₁=_
 rw [au h2]
theorem bC {ks:List Nat} {vs rl:List AV} {b:D Fl} {s s₂:S} {o:Out Fl} (hl:zA4 ks.length vs.length=true) (h2:b ⟨fT ks vs s.loc,s.st⟩=.ok .next s₂) (h3:aX (none,ks) b rl s₂=o):aX (none,ks) b (.tup vs::rl) s=o:=by
 show aH (j9 (none,ks) (.tup vs)) _ s=_
 rw [au (a:=()) (s':=⟨fT ks vs s.loc,s.st⟩) (by unfold j9; dsimp only; rw [if_pos hl])]
 show aH b _ _=_
 rw [au h2]; exact h3
section
variable {X:Ctx} {b k:D Fl} {hs:Hs} {s s' s'':S} {r:Ret} {c:Str} {v:AV}
theorem RT.tryOk (h:b s=.ok .next s') (hk:RT k s' r):RT (ac (j7 X b hs) k) s r:=.go (by unfold j7 tryO; rw [h]) hk
theorem RT.tryX (h:b s=.exc c s') (hp:eY X.P.sub c s' hs=.ok (.ret v) s'') (e:.ok v s''.st=r):RT (ac (j7 X b hs) k) s r:=by
 rw [← e]
 show bc (ax (j7 X b hs s) _)=_
 unfold j7 tryO
 rw [h]
 dsimp only
 rw [hp]; rfl
end
section
variable {d e l r its elt:D AV} {s s₁ s₂:S} {v a b a' b' c c' i:AV} {kk n:Nat} {op:Operator}
theorem cP {o:Option AV} (h:d s=Mine.opt o s₁) (ho:o=some v):d s=.ok v s₁:=by rw [h,ho]; rfl
theorem aB (h1:l s=.ok a s₁) (h2:r s₁=.ok b s₂) (ha:aS a s₂=some a') (hb:aS b s₂=some b') (hv:binV op a' b'=some v):aj op l r s=.ok v s₂:=by
 have d1:deref a s₂=.ok a' s₂:=by unfold deref; rw [ha]
 have d2:deref b s₂=.ok b' s₂:=by unfold deref; rw [hb]
 unfold aj
 rw [au h1,au h2,au d1,au d2,hv]; rfl
theorem bx (h1:d s=.ok c s₁) (h2:e s₁=.ok i s₂) (hc:aS c s₂=some c') (hv:idxV c' i=some v):al d e s=.ok v s₂:=by
 have d1:deref c s₂=.ok c' s₂:=by unfold deref; rw [hc]
 unfold al
 rw [au h1,au h2,au d1,hv]; rfl
end
section
variable {L:bF} {st:St} {k j:Nat} {v c:AV} {lv:LV}
theorem k8:∀ {L:bF},aq k (ah j lv L)=if zA4 j k then some lv else aq k L
 | []=>rfl
 | (y,w)::r=>by
  by_cases h:zA4 y j=true
  ·have e:=zBm h
   subst e
   show aq k (if zA4 y y then (y,lv)::r else _)=_
   rw [if_pos h]
   show (if zA4 y k then some lv else aq k r)=(if zA4 y k then some lv else (if zA4 y k then some w else aq k r))
   split <;> rfl
  ·show aq k (if zA4 y j then _ else (y,w)::ah j lv r)=_
   rw [if_neg h]
   show (if zA4 y k then some w else aq k (ah j lv r))=(if zA4 j k then some lv else (if zA4 y k then some w else aq k r))
   rw [k8 (L:=r)]
   by_cases h1:zA4 y k=true
   ·have e:=zBm h1
    subst e
    have h2:¬ (zA4 j y=true):=fun q=>h (by rw [zBm q]; exact Nat.beq_refl y)
    rw [if_pos h1,if_neg h2,if_pos h1]
   ·rw [if_neg h1,if_neg h1]
theorem ay:aq k (ah k lv L)=some lv:=by rw [k8,if_pos (Nat.beq_refl k)]
theorem ag (h:zA4 j k=false):aq k (ah j lv L)=aq k L:=by rw [k8,h]; rfl
theorem aY (h:aq k L=some lv):aa k ⟨L,st⟩=.ok (.pl k) ⟨L,st⟩:=by unfold aa; rw [h]
theorem aZ (h:aq k L=some (.val v)):ae k ⟨L,st⟩=.ok v ⟨L,st⟩:=by unfold ae; rw [h]
theorem eL (h:aq k L=some (.own v)):ae k ⟨L,st⟩=.ok v ⟨ah k (.val v) L,st⟩:=by unfold ae; rw [h]
theorem gF (h:aq k L=some (.own c)):aS (.pl k) ⟨L,st⟩=some c:=by unfold aS; dsimp only; rw [h]
theorem gD {i:Int} (h:aq k L=some (.val (.int i))):aS (.pl k) ⟨L,st⟩=some (.int i):=by unfold aS; dsimp only; rw [h]
theorem dr_lst {l:List AV} (h:aq k L=some (.val (.lst l))):aS (.pl k) ⟨L,st⟩=some (.lst l):=by unfold aS; dsimp only; rw [h]
theorem b5 {l:List AV} (h:aq k L=some (.val (.tup l))):aS (.pl k) ⟨L,st⟩=some (.tup l):=by unfold aS; dsimp only; rw [h]
noncomputable def hasL (k:Nat) (l:List AV) (L:bF):Prop:=aq k L=some (.own (.lst l)) ∨ aq k L=some (.val (.lst l))
theorem hasL.dr {l:List AV} (h:hasL k l L):aS (.pl k) ⟨L,st⟩=some (.lst l):=h.elim gF dr_lst
theorem hasL.old {l:List AV} (h:hasL k l L) (q:zA4 j k=false):hasL k l (ah j lv L):=by
 unfold hasL; rw [ag q]; exact h
end
noncomputable def nr:Out Fl->Prop
 | .ok (.ret _) _=>False
 | _=>True
section
variable {t:D AV} {a b:D Fl} {s s' s₁:S} {o:Out Fl}
theorem bQ (h:a s=o) (ho:nr o):ac a (af .next) s=o:=by
 show ax (a s) _=_
 rw [h]
 cases o with
 | stuck=>rfl
 | exc c s'=>rfl
 | ok f s'=>cases f with
  | next=>rfl
  | ret v=>exact ho.elim
theorem cs_t (h:t s=.ok (.bool true) s₁) (ha:a s₁=o) (ho:nr o):ac (bn t a b) (af .next) s=o :=
 bQ (by show ax (t s) _=_; rw [h]; exact ha) ho
theorem cs_f (h:t s=.ok (.bool false) s₁) (hb:b s₁=o) (ho:nr o):ac (bn t a b) (af .next) s=o :=
 bQ (by show ax (t s) _=_; rw [h]; exact hb) ho
end
end Mine
end
section
set_option genSizeOf false
set_option genSizeOfSpec false
set_option genInjectivity false
set_option autoImplicit false
set_option linter.unusedVariables false
set_option maxRecDepth 100000
set_option genSizeOf false
set_option genSizeOfSpec false
set_option genInjectivity false
namespace Mine
open PySem
inductive Dw where
 | sum | less | times | part | below
inductive Bad where
 | nought | great | deep | dry
inductive Rl where
 | val (vs:List Int) (m:Int)
 | bad (c:Bad) (m:Int)
set_option genCtorIdx false
inductive Tr where
 | num (i:Int)
 | name (x:Str)
 | deed (w:Dw) (a b:Tr)
 | choose (a b c:Tr)
 | lt (x:Str) (a b:Tr)
 | call (f:Str) (l:Tr)
 | nil
 | cons (t r:Tr)
noncomputable def Dw.str:Dw->Str
 | .sum=>"sum" | .less=>"less" | .times=>"times" | .part=>"part" | .below=>"below"
noncomputable def Bad.xc:Bad->Str
 | .nought=>"ByNought" | .great=>"TooGreat" | .deep=>"TooDeep" | .dry=>"Dry"
noncomputable def Bad.word:Bad->Str
 | .nought=>"nought" | .great=>"great" | .deep=>"deep" | .dry=>"dry"
noncomputable def Rl.bind:Rl->(List Int->Int->Rl)->Rl
 | .val vs m,f=>f vs m
 | .bad c m,_=>.bad c m
noncomputable def raw:Dw->Int->Int->Int
 | .sum,x,y=>x+y
 | .less,x,y=>x - y
 | .times,x,y=>x * y
 | .part,x,y=>zAu x y
 | .below,x,y=>if decide (x < y) then 1 else 0
noncomputable def jo:Dw->Bool
 | .part=>true
 | _=>false
noncomputable def l4 (x:Int):Prop:=-1000000000000<=x/\x<=1000000000000
noncomputable def red (w:Dw) (x y m:Int):Rl :=
 if jo w=true/\y=0 then .bad .nought m
 else if raw w x y > 1000000000000 ∨ raw w x y < -1000000000000 then .bad .great m else .val [raw w x y] m
noncomputable abbrev Env:=List (Str × Int)
noncomputable abbrev hd (vs:List Int):Int:=vs.headD 0
noncomputable def iw (call:Str->List Int->Int->Rl):Tr->Env->Int->Rl
 | .num i,_,m=>.val [i] m
 | .name x,e,m=>.val [(aR x e).getD 0] m
 | .deed w a b,e,m=>(iw call a e m).bind fun x m=>(iw call b e m).bind fun y m=>red w (hd x) (hd y) m
 | .choose a b c,e,m=>(iw call a e m).bind fun x m=>if hd x=0 then iw call c e m else iw call b e m
 | .lt x a b,e,m=>(iw call a e m).bind fun v m=>iw call b ((x,hd v)::e) m
 | .call f l,e,m=>(iw call l e m).bind fun vs m=>call f vs m
 | .nil,_,m=>.val [] m
 | .cons t r,e,m=>(iw call t e m).bind fun v m=>(iw call r e m).bind fun vs m=>.val (hd v::vs) m
structure Fu where
 nm:Str
 ps:List Str
 bd:Tr
noncomputable def a9 (f:Str):List Fu->Option Fu
 | []=>none
 | u::r=>if seq f u.nm then some u else a9 f r
noncomputable def hV (fs:List Fu) (F:Int):Nat->Str->List Int->Int->Rl
 | 0,_,_,m=>.bad .deep m
 | g+1,f,vs,m=>if m=F then .bad .dry m else match a9 f fs with
  | some u=>iw (hV fs F g) u.bd (u.ps.zip vs).reverse (m+1)
  | none=>.bad .deep m
noncomputable def bl:AV->List AV
 | .tup l=>l
 | _=>[]
noncomputable def Tr.enc:Tr->AV
 | .num i=>.tup [.str "num",.int i]
 | .name x=>.tup [.str "name",.str x]
 | .deed w a b=>.tup [.str w.str,a.enc,b.enc]
 | .choose a b c=>.tup [.str "choose",a.enc,b.enc,c.enc]
 | .lt x a b=>.tup [.str "let",.str x,a.enc,b.enc]
 | .call f l=>.tup [.str "call",.str f,l.enc]
 | .nil=>.tup []
 | .cons t r=>.tup (t.enc::bl r.enc)
noncomputable def Fu.enc (u:Fu):AV:=.tup [.str u.nm,.tup (u.ps.map .str),u.bd.enc]
noncomputable def Tr.wf (sig:Str->Option Nat):Tr->Nat->List Str->Option Nat->Prop
 | .num i,h,_,k=>k=none/\0 < h/\l4 i
 | .name x,h,ns,k=>k=none/\0 < h/\x ∈ ns
 | .deed _ a b,h,ns,k=>k=none/\∃ h',h=h'+1/\a.wf sig h' ns none/\b.wf sig h' ns none
 | .choose a b c,h,ns,k=>k=none/\∃ h',h=h'+1/\a.wf sig h' ns none/\b.wf sig h' ns none/\c.wf sig h' ns none
 | .lt x a b,h,ns,k=>k=none/\∃ h',h=h'+1/\a.wf sig h' ns none/\b.wf sig h' (ns++[x]) none
 | .call f l,h,ns,k=>k=none/\∃ h',h=h'+1/\∃ c,sig f=some c/\c<=100/\l.wf sig h' ns (some c)
 | .nil,_,_,k=>k=some 0
 | .cons t r,h,ns,k=>∃ c,k=some (c+1)/\t.wf sig h ns none/\r.wf sig h ns (some c)
section
variable {sig:Str->Option Nat} {h:Nat} {ns:List Str} {t:Tr} {c:Nat}
theorem gZ:∀ {t:Tr} {c:Nat},t.wf sig h ns (some c)->t.enc=.tup (bl t.enc)/\(bl t.enc).length=c:=by
 intro t
 induction t with
 | num _=>intro c q; exact cC zAr q.1 rfl
 | name _=>intro c q; exact cC zAr q.1 rfl
 | deed _ _ _ _ _=>intro c q; exact cC zAr q.1 rfl
 | choose _ _ _ _ _ _=>intro c q; exact cC zAr q.1 rfl
 | lt _ _ _ _ _=>intro c q; exact cC zAr q.1 rfl
 | call _ _ _=>intro c q; exact cC zAr q.1 rfl
 | nil=>intro c q; cases q; exact ⟨rfl,rfl⟩
 | cons t r _ ih =>
  intro c q
  obtain ⟨c',e,h1,h2⟩:=q
  cases e
  exact ⟨rfl,congrArg (·+1) (ih h2).2⟩
end
noncomputable def Rl.good (k:Option Nat):Rl->Prop
 | .val vs _=>(∀ v ∈ vs,l4 v)/\vs.length=k.getD 1
 | .bad _ _=>True
theorem iJ {vs:List Int} (h:∀ v ∈ vs,l4 v):l4 (hd vs):=by
 cases vs with
 | nil=>exact ⟨by decide,by decide⟩
 | cons v r=>exact h v zAb
set_option tactic.hygienic true in
theorem red_good {w:Dw} {x y m:Int}:(red w x y m).good none:=by
 unfold red
 split
 ·exact trivial
 ·split
  ·exact trivial
  ·rename_i h
   exact ⟨fun v hv=>by rw [zAf.mp hv]; exact ⟨Int.not_lt.mp fun q=>h (.inr q),Int.not_lt.mp fun q=>h (.inl q)⟩,rfl⟩
theorem dC {k k':Option Nat} {r:Rl} {f:List Int->Int->Rl} (h:r.good k) (hf:∀ vs m,(∀ v ∈ vs,l4 v)->vs.length=k.getD 1->(f vs m).good k'):(r.bind f).good k':=by
 cases r with
 | val vs m=>exact hf vs m h.1 h.2
 | bad c m=>exact trivial
theorem mw {x:Str} {v:Int}:∀ {e:Env},aR x e=some v->∃ y,(y,v) ∈ e
 | (y,w)::r,h=>by
  have h:(if seq x y then some w else aR x r)=some v:=h
  cases e:seq x y with
  | true=>rw [e] at h; cases h; exact ⟨y,zAb⟩
  | false=>rw [e] at h; exact (mw h).imp fun _ q=>zAc _ q
theorem gz {sig:Str->Option Nat} {call:Str->List Int->Int->Rl} (hc:∀ f vs m,sig f=some vs.length->(∀ v ∈ vs,l4 v)->(call f vs m).good none):∀ (t:Tr) {h:Nat} {ns:List Str} {k:Option Nat} {e:Env} {m:Int},t.wf sig h ns k->(∀ p ∈ e,l4 p.2)->(iw call t e m).good k:=by
 intro t
 induction t with
 | num i=>intro h ns k e m q he; obtain ⟨rfl,_,hi⟩:=q; exact ⟨fun v hv=>by rw [zAf.mp hv]; exact hi,rfl⟩
 | name x =>
  intro h ns k e m q he
  obtain ⟨rfl,_,_⟩:=q
  refine ⟨fun v hv=>?_,rfl⟩
  rw [zAf.mp hv]
  cases hl:aR x e with
  | none=>exact ⟨by decide,by decide⟩
  | some v=>obtain ⟨y,q⟩:=mw hl; exact he _ q
 | deed w a b iha ihb =>
  intro h ns k e m q he
  obtain ⟨rfl,h',rfl,h1,h2⟩:=q
  exact dC (iha h1 he) fun x m _ _=>dC (ihb h2 he) fun y m _ _=>red_good
 | choose a b c iha ihb ihc =>
  intro h ns k e m q he
  obtain ⟨rfl,h',rfl,h1,h2,h3⟩:=q
  refine dC (iha h1 he) fun x m _ _=>?_
  split
  ·exact ihc h3 he
  ·exact ihb h2 he
 | lt x a b iha ihb =>
  intro h ns k e m q he
  obtain ⟨rfl,h',rfl,h1,h2⟩:=q
  refine dC (iha h1 he) fun v m hv _=>ihb h2 fun p hp=>?_
  rcases zAl.mp hp with rfl | hp
  ·exact iJ hv
  ·exact he p hp
 | call f l ih =>
  intro h ns k e m q he
  obtain ⟨rfl,h',rfl,c,h1,_,h2⟩:=q
  exact dC (ih h2 he) fun vs m hv hl=>hc f vs m (by rw [h1,hl]; rfl) hv
 | nil=>intro h ns k e m q he; cases q; exact ⟨(fun v hv=>nomatch hv),rfl⟩
 | cons t r iht ihr =>
  intro h ns k e m q he
  obtain ⟨c,rfl,h1,h2⟩:=q
  refine dC (iht h1 he) fun v m hv _=>dC (ihr h2 he) fun vs m hvs hl=>⟨fun x hx=>?_,congrArg (·+1) hl⟩
  rcases zAl.mp hx with rfl | hx
  ·exact iJ hv
  ·exact hvs x hx
noncomputable def bk (fs:List Fu) (f:Str):Option Nat:=(a9 f fs).map fun u=>u.ps.length
structure PW (fs:List Fu):Prop where
 nd:(fs.map (·.nm)).Nodup
 ps:∀ u ∈ fs,u.ps.Nodup/\u.ps.length<=100
 bd:∀ u ∈ fs,u.bd.wf (bk fs) 12 u.ps none
theorem eW {f:Str} {u:Fu}:∀ {fs:List Fu},a9 f fs=some u->u ∈ fs/\u.nm=f
 | v::r,h=>by
  have h:(if seq f v.nm then some v else a9 f r)=some u:=h
  cases e:seq f v.nm with
  | true=>rw [e] at h; cases h; rw [dn,beq_iff_eq] at e; exact ⟨zAb,e.symm⟩
  | false=>rw [e] at h; exact ⟨zAc _ (eW h).1,(eW h).2⟩
theorem callS_good {fs:List Fu} {F:Int} (P:PW fs):∀ (g:Nat) (f:Str) (vs:List Int) (m:Int),bk fs f=some vs.length->(∀ v ∈ vs,l4 v)->(hV fs F g f vs m).good none:=by
 intro g
 induction g with
 | zero=>intro f vs m _ _; exact trivial
 | succ g ih =>
  intro f vs m hs hv
  show (if m=F then Rl.bad .dry m else match a9 f fs with | some u=>iw (hV fs F g) u.bd (u.ps.zip vs).reverse (m+1) | none=>.bad .deep m).good none
  split
  ·exact trivial
  ·cases hf:a9 f fs with
   | none=>exact trivial
   | some u =>
    refine gz ih u.bd (P.bd u (eW hf).1) fun p hp=>hv _ ?_
    exact (List.of_mem_zip (List.mem_reverse.mp hp)).2
structure DEnv {α:Type} (f:α->AV) (ks ws:List AV) (e:List (Str × α)):Prop where
 len:ks.length=ws.length
 key:∀ k ∈ ks,∃ x,k=.str x
 get:∀ x,cW (.str x) ks ws=(aR x e).map f
theorem eS {k v:AV}:∀ {ks ws:List AV},ks.length=ws.length->(bX k ks).length=(cr k v ks ws).length/\(bX k ks).length<=ks.length+1
 | [],[],_=>⟨rfl,zAy _⟩
 | x::xs,w::ws,h=>by
  have ih:=eS (k:=k) (v:=v) (Nat.succ.inj h)
  show (if fg k x then x::xs else x::bX k xs).length=(if fg k x then v::ws else w::cr k v xs ws).length/\(if fg k x then x::xs else x::bX k xs).length<=_
  cases fg k x with
  | true=>exact ⟨h,zDc _⟩
  | false=>exact ⟨congrArg (·+1) ih.1,zBc ih.2⟩
 | [],_::_,h=>nomatch h
 | _::_,[],h=>nomatch h
theorem dSet_key {x:Str}:∀ {ks:List AV},(∀ k ∈ ks,∃ y,k=.str y)->∀ k ∈ bX (.str x) ks,∃ y,k=.str y
 | [],_,k,hk=>⟨x,zAf.mp hk⟩
 | z::zs,h,k,hk=>by
  have hk:k ∈ (if fg (.str x) z then z::zs else z::bX (.str x) zs):=hk
  cases e:fg (.str x) z with
  | true=>rw [e] at hk; exact h k hk
  | false =>
   rw [e] at hk
   rcases zAl.mp hk with rfl | hk
   ·exact h _ zAb
   ·exact dSet_key (fun k hk=>h k (zAc _ hk)) k hk
theorem seq_iff' {x y:Str}:seq x y=true ↔ x=y:=by rw [dn,beq_iff_eq]
theorem dGet_set {x y:Str} {v:AV}:∀ {ks ws:List AV},ks.length=ws.length->(∀ k ∈ ks,∃ y,k=.str y)->cW (.str y) (bX (.str x) ks) (cr (.str x) v ks ws)=if seq y x then some v else cW (.str y) ks ws
 | [],[],_,_=>rfl
 | z::zs,w::ws,h,hk=>by
  obtain ⟨z',rfl⟩:=hk _ zAb
  have ih:=dGet_set (x:=x) (y:=y) (v:=v) (Nat.succ.inj h) (fun k hk'=>hk k (zAc _ hk'))
  show cW (.str y) (if seq x z' then .str z'::zs else .str z'::bX (.str x) zs) (if seq x z' then v::ws else w::cr (.str x) v zs ws)=(if seq y x then some v else (if seq y z' then some w else cW (.str y) zs ws))
  cases e:seq x z' with
  | true =>
   obtain rfl:=seq_iff'.mp e
   show (if seq y x then some v else cW (.str y) zs ws)=_
   cases seq y x <;> rfl
  | false =>
   show (if seq y z' then some w else cW (.str y) (bX (.str x) zs) (cr (.str x) v zs ws))=_
   rw [ih]
   cases e1:seq y z' with
   | false=>rfl
   | true =>
    cases e2:seq y x with
    | false=>rfl
    | true =>
     obtain rfl:=seq_iff'.mp e1
     obtain rfl:=seq_iff'.mp e2
     rw [aP] at e; exact cC Bool.ctorIdx e rfl
 | [],_::_,h,_=>nomatch h
 | _::_,[],h,_=>nomatch h
theorem DEnv.set {α:Type} {f:α->AV} {ks ws:List AV} {e:List (Str × α)} {x:Str} {v:α} (h:DEnv f ks ws e):DEnv f (bX (.str x) ks) (cr (.str x) (f v) ks ws) ((x,v)::e) where
 len:=(eS h.len).1
 key:=dSet_key h.key
 get:=fun y=>by
  rw [dGet_set h.len h.key,h.get]
  show _=(if seq y x then some v else aR y e).map f
  cases seq y x <;> rfl
theorem DEnv.nil {α:Type} {f:α->AV}:DEnv f [] [] ([]:List (Str × α)):=⟨rfl,(fun k h=>nomatch h),fun x=>rfl⟩
theorem jc {x:Str} {v:AV} {ks ws:List AV} (h:ks.length<=1000):fy (.str x) v (.dct ks ws)=some (.dct (bX (.str x) ks) (cr (.str x) v ks ws)):=by
 show (if true && zB5 (ks.length+1) sizeLine then _ else none)=_
 rw [zC4 (zAj (zBc h) (by decide +kernel))]; rfl
end Mine
end
section
set_option autoImplicit false
set_option linter.unusedVariables false
set_option maxRecDepth 100000
namespace Mine
open PySem
theorem mG {x:Int} (h:l4 x):ch x=true:=decide_eq_true (by unfold l4 at h; lia)
theorem divOk_of {y:Int} (h:y ≠ 0) (hs:ch y=true):cN y=true:=by unfold cN; rw [decide_eq_false h,hs]; rfl
section
variable {K n:Nat} {st:St}
theorem plain_ok (w:Dw) {x y:Int} (hx:l4 x) (hy:jo w=true->y ≠ 0) (hy':l4 y):aw PP K (n+1) ⟨#[]⟩ "plain" [.str w.str,.int x,.int y] st=.ok (.int (raw w x y)) st:=by
 rw [rn_plain]
 show RT (lr _) _ _
 unfold lr
 cases w with
 | sum=>exact .eqT (aP _) rfl (.assoc (.ret rfl rfl))
 | less=>exact .eqN (x:="less") (y:="sum") (by decide +kernel) rfl (.next (.eqT (aP _) rfl (.assoc (.ret rfl rfl))))
 | times =>
  refine .eqN (x:="times") (y:="sum") (by decide +kernel) rfl (.next (.eqN (x:="times") (y:="less") (by decide +kernel) rfl (.next (.eqT (aP _) rfl (.assoc (.retO (o:=if ch x || ch y then some (.int (x * y)) else none) rfl ?_ rfl))))))
  rw [mG hx]; rfl
 | part =>
  refine .eqN (x:="part") (y:="sum") (by decide +kernel) rfl (.next (.eqN (x:="part") (y:="less") (by decide +kernel) rfl (.next (.eqN (x:="part") (y:="times") (by decide +kernel) rfl (.next (.eqT (aP _) rfl (.assoc (.retO (o:=if cN y then some (.int (zAu x y)) else none) rfl ?_ rfl))))))))
  rw [divOk_of (hy rfl) (mG hy')]; rfl
 | below =>
  refine .eqN (x:="below") (y:="sum") (by decide +kernel) rfl (.next (.eqN (x:="below") (y:="less") (by decide +kernel) rfl (.next (.eqN (x:="below") (y:="times") (by decide +kernel) rfl (.next (.eqN (x:="below") (y:="part") (by decide +kernel) rfl (.next (.ret rfl ?_))))))))
  rfl
end
section
variable {X:Ctx} {f:Str} {es:List (D AV)} {vs:List AV} {v:AV} {k:D Fl} {s s₁ s':S} {st':St} {r q:Ret} {kk:Nat} {c:Bool} {d e:D AV} {rs:List (D AV)} {x:Str}
theorem RT.asgFn (h:br es s=.ok vs s₁) (hc:X.call ⟨#[]⟩ f vs s₁.st=.ok v st') (hk:RT k ⟨ah kk (.val v) s₁.loc,st'⟩ r):RT (ac (aL kk (aU X f es)) k) s r:=by
 rw [← hk]
 unfold RT ac aH aL aH aU aH
 rw [h]
 show bc (ax (ax (ez (X.call ⟨#[]⟩ f vs s₁.st) s₁) _) _)=_
 rw [hc]; rfl
theorem RT.asgFnX (h:br es s=.ok vs s₁) (hc:X.call ⟨#[]⟩ f vs s₁.st=.exc x st') (e:.exc x st'=r):RT (ac (aL kk (aU X f es)) k) s r:=by
 rw [← e]
 unfold RT ac aH aL aH aU aH
 rw [h]
 show bc (ax (ax (ez (X.call ⟨#[]⟩ f vs s₁.st) s₁) _) _)=_
 rw [hc]; rfl
theorem RT.retFn (h:br es s=.ok vs s₁) (hc:X.call ⟨#[]⟩ f vs s₁.st=r):RT (ac (aI (aU X f es)) k) s r:=by
 unfold RT ac aH aI aH aU aH
 rw [h]
 show bc (ax (ax (ez (X.call ⟨#[]⟩ f vs s₁.st) s₁) _) _)=_
 rw [hc]
 cases r <;> rfl
end
noncomputable def Rl.ret (st:St):Rl->Ret
 | .val vs _=>.ok (.int (hd vs)) st
 | .bad c _=>.exc c.xc st
section
variable {K n:Nat} {st:St} {m:Int}
theorem lQ:∀ w:Dw,seq w.str "part"=jo w:=by intro w; cases w <;> decide +kernel
theorem reckoned_ok (w:Dw) {x y:Int} (hx:l4 x) (hy:l4 y):aw PP K (n+2) ⟨#[]⟩ "reckoned" [.str w.str,.int x,.int y] st=(red w x y m).ret st:=by
 rw [rn_reckoned]
 show RT (gR _) _ _
 unfold gR red
 generalize hX:wX K (n+1)=X
 have hcall:X.call=aw PP K (n+1):=by rw [← hX]; rfl
 have go:∀ (hp:jo w=true->y ≠ 0),RT (ac (aL 3 (aU X "plain" [ae 0,ae 1,ae 2])) (ac (bn (az .Or [am (aa 3) .Gt (af (.int 1000000000000)),am (aa 3) .Lt (dUn .USub (af (.int 1000000000000)))]) (ac (rais "TooGreat") (af .next)) (af .next)) (ac (aI (ae 3)) (af .next)))) ⟨[(0,.val (.str w.str)),(1,.val (.int x)),(2,.val (.int y))],st⟩
   ((if raw w x y > 1000000000000 ∨ raw w x y < -1000000000000 then Rl.bad .great m else .val [raw w x y] m).ret st):=fun hp=>by
  refine .asgFn (v:=.int (raw w x y)) (st':=st) rfl (by rw [hcall]; exact plain_ok w hx hp hy) ?_
  by_cases h1:(1000000000000:Int) < raw w x y
  ·rw [if_pos (.inl h1)]
   exact .ifB (c:=true) ((eP (c:=decide ((1000000000000:Int) < raw w x y)) rfl).trans (by rw [decide_eq_true h1]; rfl)) ((RT.assoc .rais))
  ·by_cases h2:raw w x y < -1000000000000
   ·rw [if_pos (.inr h2)]
    exact .ifB (c:=decide (raw w x y < -1000000000000)) ((eP (c:=decide ((1000000000000:Int) < raw w x y)) rfl).trans (by rw [decide_eq_false h1]; rfl)) (by rw [decide_eq_true h2]; exact (RT.assoc .rais))
   ·rw [if_neg (fun q=>q.elim h1 h2)]
    exact .ifB (c:=decide (raw w x y < -1000000000000)) ((eP (c:=decide ((1000000000000:Int) < raw w x y)) rfl).trans (by rw [decide_eq_false h1]; rfl)) (by rw [decide_eq_false h2]; exact .next (.ret rfl rfl))
 by_cases hp:jo w=true
 ·by_cases hy0:y=0
  ·rw [if_pos ⟨hp,hy0⟩]
   exact .ifB (c:=decide (y=0)) ((ci (c:=seq w.str "part") rfl).trans (by rw [lQ,hp]; rfl)) (by rw [decide_eq_true hy0]; exact (RT.assoc .rais))
  ·rw [if_neg fun q=>hy0 q.2]
   exact .ifB (c:=decide (y=0)) ((ci (c:=seq w.str "part") rfl).trans (by rw [lQ,hp]; rfl)) (by rw [decide_eq_false hy0]; exact .next (go fun _=>hy0))
 ·have hp':jo w=false:=zC0.mpr hp
  rw [if_neg fun q=>hp q.1]
  exact .ifB (c:=false) ((ci (c:=seq w.str "part") rfl).trans (by rw [lQ,hp']; rfl)) (.next (go fun q=>absurd q hp))
end
section
variable {i o:Nat} {c f m:Str} {s s':S} {l l':List (Str × AV)} {w:AV} {d:D AV} {X:Ctx} {es:List (D AV)} {vs:List AV}
theorem cM (hi:aq i s.loc=some (.val (.obj c o))) (h:s.st[o]?=some (.flds l)) (hf:gw f l=some w):aQ (aa i) f s=.ok w s:=by
 have h1:aa i s=.ok (.pl i) s:=by unfold aa; rw [hi]
 have h2:gc (.pl i) s=some (.obj c o):=by unfold gc; dsimp only; rw [hi]
 have h3:dR (.pl i) s=some (o,l):=by unfold dR; rw [h2]; dsimp only; rw [h]
 show aH (aa i) _ s=_
 rw [au h1]
 unfold mD
 rw [h3]; dsimp only; rw [hf]
theorem d7 (hd:d s=.ok w s') (hi:aq i s'.loc=some (.val (.obj c o))) (h:s'.st[o]?=some (.flds l)) (hl:zB5 l.length 100=true) (hs:ly f w l=l'):bM (aa i) f d s=.ok .next ⟨s'.loc,s'.st.set o (.flds l')⟩:=by
 have h1:aa i s'=.ok (.pl i) s':=by unfold aa; rw [hi]
 have h2:gc (.pl i) s'=some (.obj c o):=by unfold gc; dsimp only; rw [hi]
 have h3:dR (.pl i) s'=some (o,l):=by unfold dR; rw [h2]; dsimp only; rw [h]
 have h4:ie (.pl i) f w s'=.ok () ⟨s'.loc,s'.st.set o (.flds l')⟩:=by
  unfold ie
  rw [h3]; dsimp only
  rw [hl,hs]; rfl
 unfold bM
 rw [au hd,au h1,au h4]; rfl
theorem iK (hm:(X.P.find c m).isSome=true) (hi:aq i s.loc=some (.val (.obj c o))) (h:s.st[o]?=some (.flds l)) (hs:br es s=.ok vs s'):bz X (aa i) m es s=ez (X.call c m (.obj c o::vs) s'.st) s' :=
 dMeth_at (ov:=.pl i) hm (by unfold aa; rw [hi]) (by unfold gc; dsimp only; rw [hi]) h hs
end
section
variable {pre r:St} {a b c:AO}
theorem bb:(pre++a::r)[pre.length]?=some a:=by rw [zDe (zAy _),Nat.sub_self]; rfl
theorem gG:(pre++a::b::r)[pre.length+1]?=some b:=by rw [zDe (zCf _ 1),zCy]; rfl
theorem gn:(pre++a::r).set pre.length c=pre++c::r:=by rw [List.set_append_right _ _ (zAy _),Nat.sub_self]; rfl
theorem set_app1:(pre++a::b::r).set (pre.length+1) c=pre++a::c::r:=by rw [List.set_append_right _ _ (zCf _ 1),zCy]; rfl
end
noncomputable abbrev telF (b:Nat) (F m g:Int):List (Str × AV):=[("functions",.cel (b+1)),("fuel",.int F),("made",.int m),("going",.int g)]
noncomputable abbrev cz (pre:St) (F m g:Int) (fv:AV):St:=pre++[.flds (telF pre.length F m g),.cont fv]
noncomputable abbrev isT (b:Nat) (s:St):Prop:=∃ l,s[b]?=some (AO.flds l)
theorem dZ {pre:St} {F m g:Int} {fv:AV}:isT pre.length (cz pre F m g fv):=⟨_,bb⟩
noncomputable abbrev gY (K n b:Nat) (t kn:AV) (st:St):Ret:=aw PP K n "Teller" "worth" [.obj "Teller" b,t,kn] st
noncomputable abbrev cld (K n b:Nat) (f:AV) (l:List AV) (st:St):Ret:=aw PP K n "Teller" "called" [.obj "Teller" b,f,.lst l] st
noncomputable abbrev eh (b:Nat) (t kn:AV):bF:=[(0,.val (.obj "Teller" b)),(1,.val t),(2,.val kn)]
section
variable {K n b:Nat} {kn t a c d:AV} {s s₁ s₂:St} {i v y z:Int} {r:Ret} {x f:Str} {L L₁:bF}
theorem fD {p e:D AV} (h0:aq 0 L=some (.val (.obj "Teller" b))) (hs:isT b s) (he:br [p,e] ⟨L,s⟩=.ok [t,kn] ⟨L₁,s₁⟩):bz (wX K n) (aa 0) "worth" [p,e] ⟨L,s⟩=ez (gY K n b t kn s₁) ⟨L₁,s₁⟩ :=
 iK (X:=wX K n) (s:=⟨L,s⟩) tel_worth h0 hs.choose_spec he
theorem kW (h0:aq 0 L=some (.val (.obj "Teller" b))) (hs:isT b s) {p e:D AV} (he:br [p,e] ⟨L,s⟩=.ok [t,kn] ⟨L₁,s₁⟩) {q:Ret} (hq:gY K n b t kn s₁=q):bz (wX K n) (aa 0) "worth" [p,e] ⟨L,s⟩=ez q ⟨L₁,s₁⟩:=by rw [fD h0 hs he,hq]
theorem worth_num:gY K (n+1) b (.tup [.str "num",.int i]) kn s=.ok (.int i) s:=by
 show aw PP K (n+1) _ _ _ _=_
 rw [bW]
 show RT (aO _) _ _
 unfold aO
 exact .eqT (x:="num") (y:="num") (by decide +kernel) rfl (.assoc (.ret (v:=.int i) (s':=⟨eh b (.tup [.str "num",.int i]) kn,s⟩) rfl rfl))
theorem worth_name {ks ws:List AV} {w:AV} (h:cW (.str x) ks ws=some w):gY K (n+1) b (.tup [.str "name",.str x]) (.dct ks ws) s=.ok w s:=by
 show aw PP K (n+1) _ _ _ _=_
 rw [bW]
 show RT (aO _) _ _
 unfold aO
 exact .eqN (x:="name") (y:="num") (by decide +kernel) rfl (.next (.eqT (x:="name") (y:="name") (by decide +kernel) rfl (.assoc (.retO (o:=cW (.str x) ks ws) (s':=⟨eh b (.tup [.str "name",.str x]) (.dct ks ws),s⟩) rfl h rfl))))
theorem worth_bin (w:Dw) (hs:isT b s) :
  (∀ x s₁,gY K n b a kn s=.exc x s₁->gY K (n+1) b (.tup [.str w.str,a,c]) kn s=.exc x s₁) /\
  (∀ y s₁,gY K n b a kn s=.ok (.int y) s₁->isT b s₁->(∀ x s₂,gY K n b c kn s₁=.exc x s₂->gY K (n+1) b (.tup [.str w.str,a,c]) kn s=.exc x s₂) /\
   (∀ z s₂,gY K n b c kn s₁=.ok (.int z) s₂->gY K (n+1) b (.tup [.str w.str,a,c]) kn s=aw PP K n ⟨#[]⟩ "reckoned" [.str w.str,.int y,.int z] s₂)):=by
 have T:∀ {r:Ret},RT (ac (aL 5 (bz (wX K n) (aa 0) "worth" [al (aa 1) (af (.int 1)),ae 2])) (ac (aL 6 (bz (wX K n) (aa 0) "worth" [al (aa 1) (af (.int 2)),ae 2])) (ac (aI (aU (wX K n) "reckoned" [al (aa 1) (af (.int 0)),ae 5,ae 6])) (af .next)))) ⟨eh b (.tup [.str w.str,a,c]) kn,s⟩ r->gY K (n+1) b (.tup [.str w.str,a,c]) kn s=r:=fun h=>by
  show aw PP K (n+1) _ _ _ _=_
  rw [bW]
  show RT (aO (wX K n)) _ _
  unfold aO
  exact .eqN (x:=w.str) (y:="num") (by cases w <;> decide +kernel) rfl (.next (.eqN (x:=w.str) (y:="name") (by cases w <;> decide +kernel) rfl (.next (.eqN (x:=w.str) (y:="choose") (by cases w <;> decide +kernel) rfl (.next (.eqN (x:=w.str) (y:="let") (by cases w <;> decide +kernel) rfl (.next (.eqN (x:=w.str) (y:="call") (by cases w <;> decide +kernel) rfl (.next h)))))))))
 refine ⟨fun x s₁ h=>T (.asgX (kW (L₁:=eh b (.tup [.str w.str,a,c]) kn) rfl hs rfl h) rfl),fun y s₁ h h1=>⟨fun x s₂ h2=>T (.asgR (fD (L₁:=eh b (.tup [.str w.str,a,c]) kn) rfl hs rfl) h (.asgX (kW (L₁:=eh b (.tup [.str w.str,a,c]) kn++[(5,.val (.int y))]) rfl h1 rfl h2) rfl)),fun z s₂ h2=>T ?_⟩⟩
 refine .asgR (fD (L₁:=eh b (.tup [.str w.str,a,c]) kn) rfl hs rfl) h (.asgR (fD (L₁:=eh b (.tup [.str w.str,a,c]) kn++[(5,.val (.int y))]) rfl h1 rfl) h2 ?_)
 exact .retFn (X:=wX K n) (vs:=[.str w.str,.int y,.int z]) (s₁:=⟨eh b (.tup [.str w.str,a,c]) kn++[(5,.val (.int y)),(6,.val (.int z))],s₂⟩) rfl rfl
theorem nK (hs:isT b s) :
  (∀ x s₁,gY K n b a kn s=.exc x s₁->gY K (n+1) b (.tup [.str "choose",a,c,d]) kn s=.exc x s₁) /\
  (∀ i s₁,gY K n b a kn s=.ok (.int i) s₁->isT b s₁->gY K (n+1) b (.tup [.str "choose",a,c,d]) kn s=if i=0 then gY K n b d kn s₁ else gY K n b c kn s₁):=by
 refine ⟨fun x s₁ h=>?_,fun i s₁ h h1=>?_⟩ <;>
 (show aw PP K (n+1) _ _ _ _=_
  rw [bW]
  show RT (aO (wX K n)) _ _
  unfold aO
  refine .eqN (x:="choose") (y:="num") (by decide +kernel) rfl (.next (.eqN (x:="choose") (y:="name") (by decide +kernel) rfl (.next (.eqT (x:="choose") (y:="choose") (by decide +kernel) rfl (.assoc ?_))))))
 ·refine .ifX (s':=⟨eh b (.tup [.str "choose",a,c,d]) kn,s₁⟩) ?_ rfl
  show ax (bz (wX K n) (aa 0) "worth" _ _) _=_
  rw [kW (L₁:=eh b (.tup [.str "choose",a,c,d]) kn) rfl hs rfl h]; rfl
 ·have e:am (bz (wX K n) (aa 0) "worth" [al (aa 1) (af (.int 1)),ae 2]) .NotEq (af (.int 0)) ⟨eh b (.tup [.str "choose",a,c,d]) kn,s⟩=.ok (.bool (!decide (i=0))) ⟨eh b (.tup [.str "choose",a,c,d]) kn,s₁⟩:=by
   show ax (bz (wX K n) (aa 0) "worth" _ _) _=_
   rw [kW (L₁:=eh b (.tup [.str "choose",a,c,d]) kn) rfl hs rfl h]; rfl
  refine .ifB e ?_
  by_cases hi:i=0
  ·rw [if_pos hi,decide_eq_true hi]
   exact .next (.assoc (.retR (fD (L₁:=eh b (.tup [.str "choose",a,c,d]) kn) rfl h1 rfl) rfl))
  ·rw [if_neg hi,decide_eq_false hi]
   exact .assoc (.retR (fD (L₁:=eh b (.tup [.str "choose",a,c,d]) kn) rfl h1 rfl) rfl)
noncomputable abbrev mF (b:Nat) (t kn:AV) (ks ws:List AV):bF:=eh b t kn++[(3,.own (.dct ks ws))]
theorem worth_let {ks ws:List AV} (hs:isT b s) (hk:ks.length<=1000) :
  (∀ y s₁,gY K n b a (.dct ks ws) s=.exc y s₁->gY K (n+1) b (.tup [.str "let",.str x,a,c]) (.dct ks ws) s=.exc y s₁) /\
  (∀ y s₁,gY K n b a (.dct ks ws) s=.ok (.int y) s₁->isT b s₁->gY K (n+1) b (.tup [.str "let",.str x,a,c]) (.dct ks ws) s=gY K n b c (.dct (bX (.str x) ks) (cr (.str x) (.int y) ks ws)) s₁):=by
 refine ⟨fun y s₁ h=>?_,fun y s₁ h h1=>?_⟩ <;>
 (show aw PP K (n+1) _ _ _ _=_
  rw [bW]
  show RT (aO (wX K n)) _ _
  unfold aO
  refine .eqN (x:="let") (y:="num") (by decide +kernel) rfl (.next (.eqN (x:="let") (y:="name") (by decide +kernel) rfl (.next (.eqN (x:="let") (y:="choose") (by decide +kernel) rfl (.next (.eqT (x:="let") (y:="let") (by decide +kernel) rfl (.assoc ?_)))))))
  refine .go (s':=⟨mF b (.tup [.str "let",.str x,a,c]) (.dct ks ws) ks ws,s⟩) rfl (.assoc ?_)
  have hw:=kW (K:=K) (n:=n) (L:=mF b (.tup [.str "let",.str x,a,c]) (.dct ks ws) ks ws) (L₁:=mF b (.tup [.str "let",.str x,a,c]) (.dct ks ws) ks ws) (p:=al (aa 1) (af (.int 2))) (e:=ae 2) rfl hs rfl h)
 ·refine .goX (s':=⟨mF b (.tup [.str "let",.str x,a,c]) (.dct ks ws) ks ws,s₁⟩) ?_ rfl
  show ax (bz (wX K n) (aa 0) "worth" _ _) _=_
  rw [hw]; rfl
 ·refine .go (s':=⟨mF b (.tup [.str "let",.str x,a,c]) (.dct ks ws) (bX (.str x) ks) (cr (.str x) (.int y) ks ws),s₁⟩) (cG (S₁:=⟨mF b (.tup [.str "let",.str x,a,c]) (.dct ks ws) ks ws,s₁⟩) (hw.trans rfl) rfl rfl rfl (jc hk) rfl) (.assoc ?_)
  exact .retR (fD (L₁:=eh b (.tup [.str "let",.str x,a,c]) (.dct ks ws)++[(3,.val (.dct (bX (.str x) ks) (cr (.str x) (.int y) ks ws)))]) rfl h1 rfl) rfl
noncomputable abbrev wBd (K n:Nat):D Fl:=ac (cX (dm (aa 4) (bz (wX K n) (aa 0) "worth" [ae 5,ae 2]))) (af .next)
theorem worth_call {ts:List AV} :
  (∀ x L' s₁,aX (some 5,[]) (wBd K n) ts ⟨eh b (.tup [.str "call",.str f,.tup ts]) kn++[(4,.own (.lst []))],s⟩=.exc x ⟨L',s₁⟩->gY K (n+1) b (.tup [.str "call",.str f,.tup ts]) kn s=.exc x s₁) /\
  (∀ vs L' s₁,aX (some 5,[]) (wBd K n) ts ⟨eh b (.tup [.str "call",.str f,.tup ts]) kn++[(4,.own (.lst []))],s⟩=.ok .next ⟨L',s₁⟩->aq 0 L'=some (.val (.obj "Teller" b))->aq 1 L'=some (.val (.tup [.str "call",.str f,.tup ts]))->aq 4 L'=some (.own (.lst vs))->isT b s₁->gY K (n+1) b (.tup [.str "call",.str f,.tup ts]) kn s=cld K n b (.str f) vs s₁):=by
 refine ⟨fun x L' s₁ h=>?_,fun vs L' s₁ h g0 g1 g4 h1=>?_⟩ <;>
 (show aw PP K (n+1) _ _ _ _=_
  rw [bW]
  show RT (aO (wX K n)) _ _
  unfold aO
  refine .eqN (x:="call") (y:="num") (by decide +kernel) rfl (.next (.eqN (x:="call") (y:="name") (by decide +kernel) rfl (.next (.eqN (x:="call") (y:="choose") (by decide +kernel) rfl (.next (.eqN (x:="call") (y:="let") (by decide +kernel) rfl (.next (.eqT (x:="call") (y:="call") (by decide +kernel) rfl (.assoc ?_)))))))))
  refine .go (s':=⟨eh b (.tup [.str "call",.str f,.tup ts]) kn++[(4,.own (.lst []))],s⟩) rfl (.assoc ?_))
 ·refine .goX (s':=⟨L',s₁⟩) ?_ rfl
  exact h
 ·refine .forI (l:=ts) (s₁:=⟨eh b (.tup [.str "call",.str f,.tup ts]) kn++[(4,.own (.lst []))],s⟩) rfl h (.assoc ?_)
  have sq:br [al (aa 1) (af (.int 1)),ae 4] ⟨L',s₁⟩=.ok [.str f,.lst vs] ⟨ah 4 (.val (.lst vs)) L',s₁⟩:=ai (bx (aY g1) rfl (b5 g1) rfl) (ai (eL g4) rfl)
  exact .retR (iK (X:=wX K n) (s:=⟨L',s₁⟩) lP g0 h1.choose_spec sq) rfl
end
noncomputable def WR (pre:St) (F:Int) (fv:AV) (g:Nat):Rl->Ret->Prop
 | .val vs m,r=>r=.ok (.int (hd vs)) (cz pre F m (20 - (g:Int)) fv)
 | .bad c m,r=>∃ g',r=.exc c.xc (cz pre F m g' fv)
section
variable {K n g:Nat} {pre:St} {F m:Int} {fv:AV} {sig:Str->Option Nat} {call:Str->List Int->Int->Rl}
noncomputable def WL (K n:Nat) (pre:St) (F:Int) (fv:AV) (g:Nat) (ts:List AV) (tree kn:AV) (m:Int) (rl:Rl):Prop:=∀ (L:bF) (acc:List Int),acc.length+ts.length<=900->aq 0 L=some (.val (.obj "Teller" pre.length))->aq 1 L=some (.val tree)->aq 2 L=some (.val kn)->aq 4 L=some (.own (.lst (acc.map .int)))->match rl with
 | .val vs m'=>∃ L',aX (some 5,[]) (wBd K n) ts ⟨L,cz pre F m (20 - (g:Int)) fv⟩=.ok .next ⟨L',cz pre F m' (20 - (g:Int)) fv⟩/\aq 0 L'=some (.val (.obj "Teller" pre.length))/\aq 1 L'=some (.val tree)/\aq 4 L'=some (.own (.lst ((acc++vs).map .int)))
 | .bad c m'=>∃ L' g',aX (some 5,[]) (wBd K n) ts ⟨L,cz pre F m (20 - (g:Int)) fv⟩=.exc c.xc ⟨L',cz pre F m' g' fv⟩
theorem forGo_X {i:Nat} {b:D Fl} {x:AV} {rl:List AV} {s s₂:S} {c:Str} (h:b ⟨ah i (.val x) s.loc,s.st⟩=.exc c s₂):aX (some i,[]) b (x::rl) s=.exc c s₂:=by
 show aH b _ ⟨ah i (.val x) s.loc,s.st⟩=_
 unfold aH; rw [h]; rfl
theorem WL.nil {tree kn:AV}:WL K n pre F fv g [] tree kn m (.val [] m):=fun L acc _ h0 h1 h2 h4=>⟨L,rfl,h0,h1,by rw [zAt]; exact h4⟩
theorem WL.cons {t tree kn:AV} {ts:List AV} {r1:Rl} {f:Int->Rl} (h1:WR pre F fv g r1 (gY K n pre.length t kn (cz pre F m (20 - (g:Int)) fv))) (h2:∀ vs m',r1=.val vs m'->WL K n pre F fv g ts tree kn m' (f m')):WL K n pre F fv g (t::ts) tree kn m (r1.bind fun v m=>(f m).bind fun vs m=>.val (hd v::vs) m):=fun L acc hl g0 g1 g2 g4=>by
 have hl:acc.length+(ts.length+1)<=900:=hl
 have q0:aq 0 (ah 5 (.val t) L)=some (.val (.obj "Teller" pre.length)):=(ag (by decide)).trans g0
 have q1:aq 1 (ah 5 (.val t) L)=some (.val tree):=(ag (by decide)).trans g1
 have q2:aq 2 (ah 5 (.val t) L)=some (.val kn):=(ag (by decide)).trans g2
 have q4:aq 4 (ah 5 (.val t) L)=some (.own (.lst (acc.map .int))):=(ag (by decide)).trans g4
 have q5:aq 5 (ah 5 (.val t) L)=some (.val t):=ay
 generalize hq:ah 5 (.val t) L=L1 at q0 q1 q2 q4 q5
 have sq:∀ st,br [ae 5,ae 2] ⟨L1,st⟩=.ok [t,kn] ⟨L1,st⟩:=fun st=>ai (aZ q5) (ai (aZ q2) rfl)
 have hw:=fD (K:=K) (n:=n) (s:=cz pre F m (20 - (g:Int)) fv) q0 dZ (sq _)
 cases r1 with
 | bad c m' =>
  obtain ⟨g',e⟩:=h1
  rw [e] at hw
  refine ⟨L1,g',forGo_X (by
   rw [hq]
   show ax (ax (dm (aa 4) _ _) _) _=_
   have e2:dm (aa 4) (bz (wX K n) (aa 0) "worth" [ae 5,ae 2]) ⟨L1,cz pre F m (20 - (g:Int)) fv⟩=.exc c.xc ⟨L1,cz pre F m' g' fv⟩:=by
    have hc:eI (.pl 4) ⟨L1,cz pre F m (20 - (g:Int)) fv⟩=.ok () ⟨L1,cz pre F m (20 - (g:Int)) fv⟩:=by unfold eI; rw [gF q4]; rfl
    unfold dm
    rw [au (aY q4),au hc]
    show ax (bz _ _ _ _ _) _=_
    rw [hw]; rfl
   rw [e2]; rfl)⟩
 | val v m' =>
  have h1:gY K n pre.length t kn (cz pre F m (20 - (g:Int)) fv)=.ok (.int (hd v)) (cz pre F m' (20 - (g:Int)) fv):=h1
  rw [h1] at hw
  have e1:wBd K n ⟨L1,cz pre F m (20 - (g:Int)) fv⟩=.ok .next ⟨ah 4 (.own (.lst ((acc++[hd v]).map .int))) L1,cz pre F m' (20 - (g:Int)) fv⟩ :=
   bQ (o:=.ok .next _) (cF (kj (S₁:=⟨L1,cz pre F m' (20 - (g:Int)) fv⟩) (k:=4) (l:=acc.map .int) (v:=.int (hd v)) (aY q4) q4 (hw.trans rfl) q4 (by rw [zAe]; lia) (by rw [zAw]; rfl))) trivial
  have rest:=h2 v m' rfl (ah 4 (.own (.lst ((acc++[hd v]).map .int))) L1) (acc++[hd v]) (by rw [zAd]; show _+1+_<=_; lia) ((ag (by decide)).trans q0) ((ag (by decide)).trans q1) ((ag (by decide)).trans q2) ay
  show match (f m').bind fun vs m=>Rl.val (hd v::vs) m with | .val vs m'=>_ | .bad c m'=>_
  cases hf:f m' with
  | bad c m2 =>
   rw [hf] at rest
   obtain ⟨L',g',e⟩:=rest
   exact ⟨L',g',bG (by rw [hq]; exact e1) e⟩
  | val vs m2 =>
   rw [hf] at rest
   obtain ⟨L',e,f0,f1,f4⟩:=rest
   exact ⟨L',bG (by rw [hq]; exact e1) e,f0,f1,by rw [f4,zAm]; rfl⟩
noncomputable def WG (K n:Nat) (pre:St) (F:Int) (fv:AV) (g:Nat) (t:Tr) (kn:AV) (m:Int) (rl:Rl):Option Nat->Prop
 | none=>WR pre F fv g rl (gY K n pre.length t.enc kn (cz pre F m (20 - (g:Int)) fv))
 | some _=>∀ tree,WL K n pre F fv g (bl t.enc) tree kn m rl
theorem worth_ok (HC:∀ f vs m n,sig f=some vs.length->(∀ v ∈ vs,l4 v)->15 * g+1<=n->WR pre F fv g (call f vs m) (cld K n pre.length (.str f) (vs.map .int) (cz pre F m (20 - (g:Int)) fv)))
  (hg:∀ f vs m,sig f=some vs.length->(∀ v ∈ vs,l4 v)->(call f vs m).good none) :
  ∀ (t:Tr) {h:Nat} {ns:List Str} {k:Option Nat} {e:Env} {ks ws:List AV} {m:Int} {n:Nat},t.wf sig h ns k->DEnv .int ks ws e->ks.length+h<=900->(∀ x ∈ ns,(aR x e).isSome=true)->(∀ p ∈ e,l4 p.2)->15 * g+h+3<=n->WG K n pre F fv g t (.dct ks ws) m (iw call t e m) k:=by
 intro t
 induction t with
 | num i =>
  intro h ns k e ks ws m n q D hl hn he hN
  obtain ⟨rfl,h0,_⟩:=q
  obtain ⟨n,rfl⟩:∃ n',n=n'+1:=⟨n - 1,by lia⟩
  exact worth_num
 | name x =>
  intro h ns k e ks ws m n q D hl hn he hN
  obtain ⟨rfl,h0,hx⟩:=q
  obtain ⟨n,rfl⟩:∃ n',n=n'+1:=⟨n - 1,by lia⟩
  obtain ⟨v,hv⟩:=zAx.mp (hn x hx)
  show gY K (n+1) pre.length _ _ _=.ok (.int ((aR x e).getD 0)) _
  rw [hv]
  exact worth_name (by rw [D.get,hv]; rfl)
 | deed w a b iha ihb =>
  intro h ns k e ks ws m n q D hl hn he hN
  obtain ⟨rfl,h',rfl,h1,h2⟩:=q
  obtain ⟨n,rfl⟩:∃ n',n=n'+2+1:=⟨n - 3,by lia⟩
  have A:=iha (m:=m) (n:=n+2) h1 D (by lia) hn he (by lia)
  have B:=worth_bin (K:=K) (n:=n+2) (a:=a.enc) (c:=b.enc) (kn:=.dct ks ws) w (dZ (pre:=pre) (F:=F) (m:=m) (g:=20 - (g:Int)) (fv:=fv))
  have gA:=gz hg a (m:=m) h1 he
  show WR pre F fv g ((iw call a e m).bind _) (gY K (n+2+1) pre.length (.tup [.str w.str,a.enc,b.enc]) _ _)
  cases ha:iw call a e m with
  | bad c m1 =>
   rw [ha] at A
   obtain ⟨g',e1⟩:=A
   exact ⟨g',B.1 _ _ e1⟩
  | val x m1 =>
   rw [ha] at A gA
   have C:=B.2 _ _ A dZ
   have A2:=ihb (m:=m1) (n:=n+2) h2 D (by lia) hn he (by lia)
   have gB:=gz hg b (m:=m1) h2 he
   show WR pre F fv g ((iw call b e m1).bind _) _
   cases hb:iw call b e m1 with
   | bad c m2 =>
    rw [hb] at A2
    obtain ⟨g',e1⟩:=A2
    exact ⟨g',C.1 _ _ e1⟩
   | val y m2 =>
    rw [hb] at A2 gB
    show WR pre F fv g (red w (hd x) (hd y) m2) _
    rw [C.2 _ _ A2,reckoned_ok (m:=m2) w (iJ gA.1) (iJ gB.1)]
    unfold red
    split
    ·exact ⟨_,rfl⟩
    ·split
     ·exact ⟨_,rfl⟩
     ·rfl
 | choose a b c iha ihb ihc =>
  intro h ns k e ks ws m n q D hl hn he hN
  obtain ⟨rfl,h',rfl,h1,h2,h3⟩:=q
  obtain ⟨n,rfl⟩:∃ n',n=n'+1:=⟨n - 1,by lia⟩
  have A:=iha (m:=m) (n:=n) h1 D (by lia) hn he (by lia)
  have B:=nK (K:=K) (n:=n) (a:=a.enc) (c:=b.enc) (d:=c.enc) (kn:=.dct ks ws) (dZ (pre:=pre) (F:=F) (m:=m) (g:=20 - (g:Int)) (fv:=fv))
  show WR pre F fv g ((iw call a e m).bind _) (gY K (n+1) pre.length (.tup [.str "choose",a.enc,b.enc,c.enc]) _ _)
  cases ha:iw call a e m with
  | bad c m1 =>
   rw [ha] at A
   obtain ⟨g',e1⟩:=A
   exact ⟨g',B.1 _ _ e1⟩
  | val x m1 =>
   rw [ha] at A
   show WR pre F fv g (if hd x=0 then iw call c e m1 else iw call b e m1) _
   rw [B.2 _ _ A dZ]
   by_cases hx:hd x=0
   ·rw [if_pos hx,if_pos hx]; exact ihc h3 D (by lia) hn he (by lia)
   ·rw [if_neg hx,if_neg hx]; exact ihb h2 D (by lia) hn he (by lia)
 | lt x a b iha ihb =>
  intro h ns k e ks ws m n q D hl hn he hN
  obtain ⟨rfl,h',rfl,h1,h2⟩:=q
  obtain ⟨n,rfl⟩:∃ n',n=n'+1:=⟨n - 1,by lia⟩
  have A:=iha (m:=m) (n:=n) h1 D (by lia) hn he (by lia)
  have B:=worth_let (K:=K) (n:=n) (a:=a.enc) (c:=b.enc) (x:=x) (ks:=ks) (ws:=ws) (dZ (pre:=pre) (F:=F) (m:=m) (g:=20 - (g:Int)) (fv:=fv)) (by lia)
  have gA:=gz hg a (m:=m) h1 he
  show WR pre F fv g ((iw call a e m).bind _) (gY K (n+1) pre.length (.tup [.str "let",.str x,a.enc,b.enc]) _ _)
  cases ha:iw call a e m with
  | bad c m1 =>
   rw [ha] at A
   obtain ⟨g',e1⟩:=A
   exact ⟨g',B.1 _ _ e1⟩
  | val v m1 =>
   rw [ha] at A gA
   show WR pre F fv g (iw call b ((x,hd v)::e) m1) _
   rw [B.2 _ _ A dZ]
   refine ihb h2 D.set (by have:=(eS (k:=.str x) (v:=.int (hd v)) D.len).2; lia) (fun y hy=>?_) (fun p hp=>?_) (by lia)
   ·show (if seq y x then some (hd v) else aR y e).isSome=true
    cases hs:seq y x with
    | true=>rfl
    | false =>
     rcases zA8.mp hy with hy | hy
     ·exact hn y hy
     ·rw [zAf.mp hy,aP] at hs; exact cC Bool.ctorIdx hs rfl
   ·rcases zAl.mp hp with rfl | hp
    ·exact iJ gA.1
    ·exact he p hp
 | call f l ih =>
  intro h ns k e ks ws m n q D hl hn he hN
  obtain ⟨rfl,h',rfl,c,hc,hc1,h2⟩:=q
  obtain ⟨n,rfl⟩:∃ n',n=n'+1:=⟨n - 1,by lia⟩
  have A:=ih (m:=m) (n:=n) h2 D (by lia) hn he (by lia)
  have gA:=gz hg l (m:=m) h2 he
  obtain ⟨w1,w2⟩:=gZ h2
  have A:=A (.tup [.str "call",.str f,.tup (bl l.enc)]) (eh pre.length (.tup [.str "call",.str f,.tup (bl l.enc)]) (.dct ks ws)++[(4,.own (.lst []))]) [] (by rw [w2]; show 0+c<=900; lia) rfl rfl rfl rfl
  have B:=worth_call (K:=K) (n:=n) (b:=pre.length) (f:=f) (kn:=.dct ks ws) (s:=cz pre F m (20 - (g:Int)) fv) (ts:=bl l.enc)
  show WR pre F fv g ((iw call l e m).bind fun vs m=>call f vs m) (gY K (n+1) pre.length (.tup [.str "call",.str f,l.enc]) _ _)
  rw [w1]
  cases hl:iw call l e m with
  | bad c m1 =>
   rw [hl] at A
   obtain ⟨L',g',e1⟩:=A
   exact ⟨g',B.1 _ _ _ e1⟩
  | val vs m1 =>
   rw [hl] at A gA
   obtain ⟨L',e1,f0,f1,f4⟩:=A
   rw [B.2 _ _ _ e1 f0 f1 f4 dZ]
   exact HC f vs m1 n (by rw [hc,gA.2]; rfl) gA.1 (by lia)
 | nil =>
  intro h ns k e ks ws m n q D hl hn he hN
  cases q
  exact fun tree=>WL.nil
 | cons t r iht ihr =>
  intro h ns k e ks ws m n q D hl hn he hN
  obtain ⟨c,rfl,h1,h2⟩:=q
  exact fun tree=>WL.cons (iht h1 D hl hn he hN) fun vs m' _=>ihr h2 D hl hn he hN tree
end
theorem jv {α:Type} {x:Str} {v:α}:∀ {e:List (Str × α)},(x,v) ∈ e->(aR x e).isSome=true
 | (y,w)::r,h=>by
  show (if seq x y then some w else aR x r).isSome=true
  cases hs:seq x y with
  | true=>rfl
  | false =>
   rcases zAl.mp h with q | q
   ·cases q; rw [aP] at hs; exact cC Bool.ctorIdx hs rfl
   ·exact jv q
theorem zip_has {α:Type} {x:Str}:∀ {ps:List Str} {vs:List α},ps.length=vs.length->x ∈ ps->∃ v,(x,v) ∈ ps.zip vs
 | p::ps,v::vs,hl,h=>by
  rcases zAl.mp h with rfl | h
  ·exact ⟨v,zAb⟩
  ·exact (zip_has (Nat.succ.inj hl) h).imp fun _ q=>zAc _ q
 | _::_,[],hl,_=>nomatch hl
noncomputable abbrev cY (fs:List Fu):AV:=.dct (fs.map fun u=>.str u.nm) (fs.map Fu.enc)
theorem fn_get {f:Str}:∀ fs:List Fu,cW (.str f) (fs.map fun u=>.str u.nm) (fs.map Fu.enc)=(a9 f fs).map Fu.enc
 | []=>rfl
 | u::r=>by
  show (if seq f u.nm then some u.enc else cW (.str f) (r.map fun u=>.str u.nm) (r.map Fu.enc))=(if seq f u.nm then some u else a9 f r).map Fu.enc
  rw [fn_get r]
  cases seq f u.nm <;> rfl
noncomputable abbrev zB:D Fl:=ac (bj (aa 4) (ae 5) (ae 6)) (af .next)
theorem zip_loop {st:St} {o u:LV}:∀ (l:List (Str × Int)) (e:Env) (ks ws:List AV) (L:bF),DEnv .int ks ws e->ks.length+l.length<=500->aq 4 L=some (.own (.dct ks ws))->aq 0 L=some o->aq 3 L=some u ->
  ∃ L' ks' ws',aX (none,[5,6]) zB (l.map fun p=>.tup [.str p.1,.int p.2]) ⟨L,st⟩=.ok .next ⟨L',st⟩/\aq 0 L'=some o/\aq 3 L'=some u/\aq 4 L'=some (.own (.dct ks' ws'))/\DEnv .int ks' ws' (l.reverse++e)/\ks'.length<=ks.length+l.length
 | [],e,ks,ws,L,D,hl,h4,h0,h3=>⟨L,ks,ws,rfl,h0,h3,h4,D,zAy _⟩
 | (p,v)::r,e,ks,ws,L,D,hl,h4,h0,h3=>by
  have hl:ks.length+(r.length+1)<=500:=hl
  have hd:=(eS (k:=.str p) (v:=.int v) D.len).2
  have e1:zB ⟨ah 6 (.val (.int v)) (ah 5 (.val (.str p)) L),st⟩=.ok .next ⟨ah 4 (.own (.dct (bX (.str p) ks) (cr (.str p) (.int v) ks ws))) (ah 6 (.val (.int v)) (ah 5 (.val (.str p)) L)),st⟩ :=
   have q4:aq 4 (ah 6 (.val (.int v)) (ah 5 (.val (.str p)) L))=some (.own (.dct ks ws)):=(ag (by decide)).trans ((ag (by decide)).trans h4)
   bQ (o:=.ok .next _) (cG (S₁:=⟨ah 6 (.val (.int v)) (ah 5 (.val (.str p)) L),st⟩) (aZ ay) (aY q4) (aZ ((ag (by decide)).trans ay)) q4 (jc (by lia)) rfl) trivial
  obtain ⟨L',ks',ws',f1,f2,f3,f4,f5,f6⟩:=zip_loop (st:=st) (o:=o) (u:=u) r ((p,v)::e) (bX (.str p) ks) (cr (.str p) (.int v) ks ws) (ah 4 (.own (.dct (bX (.str p) ks) (cr (.str p) (.int v) ks ws))) (ah 6 (.val (.int v)) (ah 5 (.val (.str p)) L))) D.set (by lia) ay ((ag (by decide)).trans ((ag (by decide)).trans ((ag (by decide)).trans h0))) ((ag (by decide)).trans ((ag (by decide)).trans ((ag (by decide)).trans h3)))
  refine ⟨L',ks',ws',bC (vs:=[.str p,.int v]) rfl e1 f1,f2,f3,f4,by rw [List.reverse_cons,zAm]; exact f5,zAj f6 (by rw [zC6]; lia)⟩
section
variable {K:Nat} {pre:St} {F:Int} {fs:List Fu}
theorem nG {m m' g g':Int} {fv:AV}:(cz pre F m g fv).set pre.length (.flds (telF pre.length F m' g'))=cz pre F m' g' fv:=gn
noncomputable abbrev cL (b:Nat) (f:Str) (vs:List Int):bF:=[(0,.val (.obj "Teller" b)),(1,.val (.str f)),(2,.val (.lst (vs.map .int)))]
theorem eq_at {d:D AV} {x y:Int} {s:S} (h:d s=.ok (.int x) s):am d .Eq (af (.int y)) s=.ok (.bool (decide (x=y))) s:=(bJ h rfl).trans rfl
theorem zip_enc (ps:List Str) (vs:List Int):fQ (ps.map .str) (vs.map .int)=(ps.zip vs).map fun p=>.tup [.str p.1,.int p.2]:=by
 unfold fQ
 rw [List.zip_map,zCu]; rfl
theorem called_ok (P:PW fs):∀ (g:Nat) (f:Str) (vs:List Int) (m:Int) (n:Nat),bk fs f=some vs.length->(∀ v ∈ vs,l4 v)->15 * g+1<=n->g<=20->WR pre F (cY fs) g (hV fs F g f vs m) (cld K n pre.length (.str f) (vs.map .int) (cz pre F m (20 - (g:Int)) (cY fs))):=by
 intro g
 induction g with
 | zero =>
  intro f vs m n _ _ hN _
  obtain ⟨n,rfl⟩:∃ n',n=n'+1:=⟨n - 1,by lia⟩
  refine ⟨20,?_⟩
  show aw PP K (n+1) _ _ _ (cz pre F m (20 - 0) (cY fs))=_
  rw [fk,Int.sub_zero]
  show RT (bL (wX K n)) ⟨cL pre.length f vs,cz pre F m 20 (cY fs)⟩ _
  unfold bL
  exact .ifT (φ:=(20:Int)=20) rfl (eq_at (cM rfl bb (by kernel_rfl))) (.assoc .rais)
 | succ g ih =>
  intro f vs m n hs hv hN h20
  obtain ⟨n,rfl⟩:∃ n',n=n'+1:=⟨n - 1,by lia⟩
  obtain ⟨u,hu,hl⟩:=zAo.mp hs
  have hmem:=eW hu
  have hps:=P.ps u hmem.1
  obtain ⟨G,hGd⟩:∃ G:Int,G=20 - ((g+1:Nat):Int):=⟨_,rfl⟩
  have hG:G+1=20 - (g:Int):=by lia
  have hG2:G ≠ 20:=by lia
  have aG:∀ {m G:Int} {L:bF},aq 0 L=some (.val (.obj "Teller" pre.length))->aQ (aa 0) "going" ⟨L,cz pre F m G (cY fs)⟩=.ok (.int G) ⟨L,cz pre F m G (cY fs)⟩:=fun h=>cM h bb (by kernel_rfl)
  have aM:∀ {m G:Int} {L:bF},aq 0 L=some (.val (.obj "Teller" pre.length))->aQ (aa 0) "made" ⟨L,cz pre F m G (cY fs)⟩=.ok (.int m) ⟨L,cz pre F m G (cY fs)⟩:=fun h=>cM h bb (by kernel_rfl)
  have aF:aQ (aa 0) "fuel" ⟨cL pre.length f vs,cz pre F m G (cY fs)⟩=.ok (.int F) ⟨cL pre.length f vs,cz pre F m G (cY fs)⟩:=cM rfl bb (by kernel_rfl)
  have t1:=eq_at (y:=20) (aG (m:=m) (G:=G) (L:=cL pre.length f vs) rfl)
  have t2:am (aQ (aa 0) "made") .Eq (aQ (aa 0) "fuel") ⟨cL pre.length f vs,cz pre F m G (cY fs)⟩=.ok (.bool (decide (m=F))) ⟨cL pre.length f vs,cz pre F m G (cY fs)⟩:=(bJ (aM rfl) aF).trans rfl
  show WR pre F (cY fs) (g+1) (if m=F then Rl.bad .dry m else match a9 f fs with | some u=>iw (hV fs F g) u.bd (u.ps.zip vs).reverse (m+1) | none=>.bad .deep m) (aw PP K (n+1) _ _ _ (cz pre F m (20 - ((g+1:Nat):Int)) (cY fs)))
  rw [← hGd,fk]
  by_cases hm:m=F
  ·rw [if_pos hm]
   refine ⟨G,?_⟩
   show RT (bL (wX K n)) ⟨cL pre.length f vs,cz pre F m G (cY fs)⟩ _
   unfold bL
   exact .ifN hG2 t1 (.next (.ifT hm t2 (.assoc .rais)))
  rw [if_neg hm,hu]
  have e1:bM (aa 0) "made" (aH (aj .Add (aQ (aa 0) "made") (af (.int 1))) toCel) ⟨cL pre.length f vs,cz pre F m G (cY fs)⟩=.ok .next ⟨cL pre.length f vs,cz pre F (m+1) G (cY fs)⟩:=by
   have:=d7 (i:=0) (f:="made") (l':=telF pre.length F (m+1) G) (s':=⟨cL pre.length f vs,cz pre F m G (cY fs)⟩) ((au (aB (v:=.int (m+1)) (aM (m:=m) (G:=G) (L:=cL pre.length f vs) rfl) rfl rfl rfl rfl)).trans rfl:aH (aj .Add (aQ (aa 0) "made") (af (.int 1))) toCel _=_) rfl bb rfl (by kernel_rfl)
   rw [nG] at this; exact this
  have e2:bM (aa 0) "going" (aH (aj .Add (aQ (aa 0) "going") (af (.int 1))) toCel) ⟨cL pre.length f vs,cz pre F (m+1) G (cY fs)⟩=.ok .next ⟨cL pre.length f vs,cz pre F (m+1) (20 - (g:Int)) (cY fs)⟩:=by
   have:=d7 (i:=0) (f:="going") (l':=telF pre.length F (m+1) (G+1)) (s':=⟨cL pre.length f vs,cz pre F (m+1) G (cY fs)⟩) ((au (aB (v:=.int (G+1)) (aG (m:=m+1) (G:=G) (L:=cL pre.length f vs) rfl) rfl rfl rfl rfl)).trans rfl:aH (aj .Add (aQ (aa 0) "going") (af (.int 1))) toCel _=_) rfl bb rfl (by kernel_rfl)
   rw [nG,hG] at this; exact this
  have e3:aL 3 (al (aQ (aa 0) "functions") (ae 1)) ⟨cL pre.length f vs,cz pre F (m+1) (20 - (g:Int)) (cY fs)⟩=.ok .next ⟨cL pre.length f vs++[(3,.val u.enc)],cz pre F (m+1) (20 - (g:Int)) (cY fs)⟩:=by
   refine bH (v:=u.enc) (s':=⟨cL pre.length f vs,cz pre F (m+1) (20 - (g:Int)) (cY fs)⟩) (bx (c:=.cel (pre.length+1)) (c':=cY fs) (i:=.str f) (cM rfl bb (by kernel_rfl)) rfl ?_ ?_)
   ·show dq _ _=_
    unfold dq; rw [gG]
   ·show cW _ _ _=_
    rw [fn_get,hu]; rfl
  have e5:fm .zip [al (aa 3) (af (.int 1)),ae 2] ⟨cL pre.length f vs++[(3,.val u.enc),(4,.own (.dct [] []))],cz pre F (m+1) (20 - (g:Int)) (cY fs)⟩=.ok (.tup ((u.ps.zip vs).map fun p=>.tup [.str p.1,.int p.2])) ⟨cL pre.length f vs++[(3,.val u.enc),(4,.own (.dct [] []))],cz pre F (m+1) (20 - (g:Int)) (cY fs)⟩:=by
   rw [← zip_enc]; rfl
  have hz:(u.ps.zip vs).length=u.ps.length:=by rw [zCi,hl]; exact Nat.min_self _
  obtain ⟨L',ks',ws',e6,f0,f3,f4,D,hk⟩:=zip_loop (st:=cz pre F (m+1) (20 - (g:Int)) (cY fs)) (u.ps.zip vs) [] [] [] (cL pre.length f vs++[(3,.val u.enc),(4,.own (.dct [] []))]) .nil (by rw [hz]; show 0+_<=_; lia) rfl rfl rfl
  rw [zAt] at D
  have hk:ks'.length<=u.ps.length:=by rw [← hz]; exact zAj hk (by show 0+_<=_; lia)
  have W:=worth_ok (K:=K) (pre:=pre) (F:=F) (fv:=cY fs) (fun f vs m n a b c=>ih f vs m n a b c (by lia)) (callS_good P g) u.bd (m:=m+1) (n:=n) (P.bd u hmem.1) D (by lia) (fun x hx=>by
   obtain ⟨v,q⟩:=zip_has hl hx
   exact jv (List.mem_reverse.mpr q)) (fun p hp=>hv _ (List.of_mem_zip (List.mem_reverse.mp hp)).2) (by lia)
  have T:∀ {r:Ret},RT (ac (aL 7 (bz (wX K n) (aa 0) "worth" [al (aa 3) (af (.int 2)),ae 4])) (ac (bM (aa 0) "going" (aH (aj .Sub (aQ (aa 0) "going") (af (.int 1))) toCel)) (ac (aI (ae 7)) (af .next)))) ⟨L',cz pre F (m+1) (20 - (g:Int)) (cY fs)⟩ r->RT (bL (wX K n)) ⟨cL pre.length f vs,cz pre F m G (cY fs)⟩ r:=fun h =>
   .ifN hG2 t1 (.next (.ifN hm t2 (.next (.go e1 (.go e2 (.go e3 (.go (s':=⟨cL pre.length f vs++[(3,.val u.enc),(4,.own (.dct [] []))],cz pre F (m+1) (20 - (g:Int)) (cY fs)⟩) rfl (.forT e5 e6 h))))))))
  have sq:br [al (aa 3) (af (.int 2)),ae 4] ⟨L',cz pre F (m+1) (20 - (g:Int)) (cY fs)⟩=.ok [u.bd.enc,.dct ks' ws'] ⟨ah 4 (.val (.dct ks' ws')) L',cz pre F (m+1) (20 - (g:Int)) (cY fs)⟩:=ai (bx (aY f3) rfl (b5 f3) rfl) (ai (eL f4) rfl)
  have hw:=fD (K:=K) (n:=n) f0 dZ sq
  have g0:aq 0 (ah 4 (.val (.dct ks' ws')) L')=some (.val (.obj "Teller" pre.length)):=(ag (by decide)).trans f0
  generalize ah 4 (.val (.dct ks' ws')) L'=L2 at hw g0
  show WR pre F (cY fs) (g+1) (iw (hV fs F g) u.bd (u.ps.zip vs).reverse (m+1)) _
  have W:WR pre F (cY fs) g (iw (hV fs F g) u.bd (u.ps.zip vs).reverse (m+1)) _:=W
  cases hsem:iw (hV fs F g) u.bd (u.ps.zip vs).reverse (m+1) with
  | bad c m' =>
   rw [hsem] at W
   obtain ⟨g',e⟩:=W
   rw [e] at hw
   exact ⟨g',T (.asgX hw rfl)⟩
  | val ws m' =>
   rw [hsem] at W
   rw [show gY K n pre.length u.bd.enc (.dct ks' ws') (cz pre F (m+1) (20 - (g:Int)) (cY fs))=_ from W] at hw
   have g0':aq 0 (ah 7 (.val (.int (hd ws))) L2)=some (.val (.obj "Teller" pre.length)):=(ag (by decide)).trans g0
   show RT (bL (wX K n)) ⟨cL pre.length f vs,cz pre F m G (cY fs)⟩ (.ok (.int (hd ws)) (cz pre F m' (20 - ((g+1:Nat):Int)) (cY fs)))
   refine T (.asgR hw rfl (.go (s':=⟨ah 7 (.val (.int (hd ws))) L2,cz pre F m' (20 - ((g+1:Nat):Int)) (cY fs)⟩) ?_ (.ret (aZ ay) rfl)))
   have:=d7 (i:=0) (f:="going") (l':=telF pre.length F m' (20 - (g:Int) - 1)) (s':=⟨ah 7 (.val (.int (hd ws))) L2,cz pre F m' (20 - (g:Int)) (cY fs)⟩) ((au (aB (v:=.int (20 - (g:Int) - 1)) (aG (m:=m') (G:=20 - (g:Int)) (L:=ah 7 (.val (.int (hd ws))) L2) g0') rfl rfl rfl rfl)).trans rfl:aH (aj .Sub (aQ (aa 0) "going") (af (.int 1))) toCel _=_) g0' bb rfl (by kernel_rfl)
   rw [nG,show 20 - (g:Int) - 1=20 - ((g+1:Nat):Int) by lia] at this; exact this
end
noncomputable abbrev lk (K n:Nat) (t:AV) (lev:Int) (names:List AV) (cs:AV) (st:St):Ret:=aw PP K n ⟨#[]⟩ "look" [t,.int lev,.lst names,cs] st
noncomputable abbrev bw (t:AV) (lev:Int) (names:List AV) (cs:AV):bF:=[(0,.val t),(1,.val (.int lev)),(2,.val (.lst names)),(3,.val cs)]
section
variable {K n:Nat} {t a b cs:AV} {lev:Int} {names l:List AV} {s:St}
noncomputable abbrev No (d:D AV) (t:AV) (lev:Int) (names:List AV) (cs:AV) (s:St):Prop:=d ⟨bw t lev names cs,s⟩=.ok (.bool false) ⟨bw t lev names cs,s⟩
theorem look_for {body:D Fl} (hb:∀ c ∈ l,∀ L,(L=bw t lev names cs ∨ ∃ c',L=bw t lev names cs++[(4,.val c')])->body ⟨ah 4 (.val c) L,s⟩=.ok .next ⟨bw t lev names cs++[(4,.val c)],s⟩) :
  ∀ L,(L=bw t lev names cs ∨ ∃ c',L=bw t lev names cs++[(4,.val c')])->∃ L',aX (some 4,[]) body l ⟨L,s⟩=.ok .next ⟨L',s⟩:=by
 induction l with
 | nil=>exact fun L _=>⟨L,rfl⟩
 | cons c r ih =>
  intro L hL
  obtain ⟨L',e⟩:=ih (fun c' hc=>hb c' (zAc _ hc)) (bw t lev names cs++[(4,.val c)]) (.inr ⟨c,rfl⟩)
  exact ⟨L',bG (hb c zAb L hL) e⟩
theorem eU (h1:No (am (aa 1) .Gt (af (.int 12))) t lev names cs s) (h2:No (az .And [am (al (aa 0) (af (.int 0))) .Eq (af (.str "name")),am (al (aa 0) (af (.int 1))) .NotIn (aa 2)]) t lev names cs s)
  (h3:No (az .And [am (al (aa 0) (af (.int 0))) .Eq (af (.str "call")),am (al (aa 0) (af (.int 1))) .NotIn (aa 3)]) t lev names cs s)
  (h4:No (az .And [am (al (aa 0) (af (.int 0))) .Eq (af (.str "call")),am (aW aA false [al (aa 0) (af (.int 2))]) .NotEq (al (aa 3) (al (aa 0) (af (.int 1))))]) t lev names cs s)
  (h5:No (am (al (aa 0) (af (.int 0))) .Eq (af (.str "let"))) t lev names cs s) (hw:aw PP K n ⟨#[]⟩ "within" [t] s=.ok (.lst l) s) (hl:∀ c ∈ l,lk K n c (lev+1) names cs s=.ok .none s):lk K (n+1) t lev names cs s=.ok .none s:=by
 show aw PP K (n+1) _ _ _ _=_
 rw [eE]
 show RT (bY (wX K n)) _ _
 unfold bY
 refine .ifB h1 (.next (.ifB h2 (.next (.ifB h3 (.next (.ifB h4 (.next (.ifB h5 ?_))))))))
 obtain ⟨L',e⟩:=look_for (t:=t) (lev:=lev) (names:=names) (cs:=cs) (s:=s) (l:=l) (body:=ac (cX (aU (wX K n) "look" [ae 4,aj .Add (aa 1) (af (.int 1)),ae 2,ae 3])) (af .next))
  (fun c hc L hL=>by
   have key:ac (cX (aU (wX K n) "look" [ae 4,aj .Add (aa 1) (af (.int 1)),ae 2,ae 3])) (af .next) ⟨bw t lev names cs++[(4,.val c)],s⟩=.ok .next ⟨bw t lev names cs++[(4,.val c)],s⟩:=(hY (cF (aN (vs:=[c,.int (lev+1),.lst names,cs]) (s₁:=⟨bw t lev names cs++[(4,.val c)],s⟩) rfl (hl c hc)))).trans rfl
   rcases hL with rfl | ⟨c',rfl⟩ <;> exact key) (bw t lev names cs) (.inl rfl)
 exact .assoc (.forI (l:=l) (s₁:=⟨bw t lev names cs,s⟩) (dB (aN (vs:=[t]) (s₁:=⟨bw t lev names cs,s⟩) rfl hw)) e (.next (.nil rfl)))
theorem look_let {x:Str} (h1:No (am (aa 1) .Gt (af (.int 12))) (.tup [.str "let",.str x,a,b]) lev names cs s) (hn:names.length<=1000) (ha:lk K n a (lev+1) names cs s=.ok .none s) (hb:lk K n b (lev+1) (names++[.str x]) cs s=.ok .none s) :
  lk K (n+1) (.tup [.str "let",.str x,a,b]) lev names cs s=.ok .none s:=by
 show aw PP K (n+1) _ _ _ _=_
 rw [eE]
 show RT (bY (wX K n)) _ _
 unfold bY
 refine .ifB h1 (.next (.ifB (c:=false) (s':=⟨bw (.tup [.str "let",.str x,a,b]) lev names cs,s⟩) (by kernel_rfl) (.next (.ifB (c:=false) (s':=⟨bw (.tup [.str "let",.str x,a,b]) lev names cs,s⟩) (by kernel_rfl) (.next (.ifB (c:=false) (s':=⟨bw (.tup [.str "let",.str x,a,b]) lev names cs,s⟩) (by kernel_rfl) (.next (.ifB (c:=true) (s':=⟨bw (.tup [.str "let",.str x,a,b]) lev names cs,s⟩) (by kernel_rfl) (.assoc ?_)))))))))
 refine .do (v:=.none) (s':=⟨bw (.tup [.str "let",.str x,a,b]) lev names cs,s⟩) (aN (vs:=[a,.int (lev+1),.lst names,cs]) (s₁:=⟨bw (.tup [.str "let",.str x,a,b]) lev names cs,s⟩) rfl ha) (.assoc ?_)
 have hz:bD (names++[.str x])=some (.lst (names++[.str x])):=by
  unfold bD
  rw [if_pos]
  rw [zAd]
  exact zAj (zBh hn 1) (show 1000+1<=sizeLine by decide +kernel)
 refine .do (v:=.none) (s':=⟨bw (.tup [.str "let",.str x,a,b]) lev names cs,s⟩) (aN (vs:=[b,.int (lev+1),.lst (names++[AV.str x]),cs]) (s₁:=⟨bw (.tup [.str "let",.str x,a,b]) lev names cs,s⟩) ?_ hb) (.next (.nil rfl))
 refine ai (s₁:=⟨bw (.tup [.str "let",.str x,a,b]) lev names cs,s⟩) rfl (ai (s₁:=⟨bw (.tup [.str "let",.str x,a,b]) lev names cs,s⟩) rfl (ai (v:=.lst (names++[AV.str x])) (s₁:=⟨bw (.tup [.str "let",.str x,a,b]) lev names cs,s⟩) ?_ rfl))
 show Mine.opt (bD (names++[.str x])) _=_
 rw [hz]; rfl
end
noncomputable def gM:Tr->List AV
 | .deed _ a b=>[a.enc,b.enc]
 | .choose a b c=>[a.enc,b.enc,c.enc]
 | .lt _ a b=>[a.enc,b.enc]
 | .call _ l=>bl l.enc
 | _=>[]
section
variable {K n:Nat} {sig:Str->Option Nat} {st:St}
theorem dF {t:Tr} {h:Nat} {ns:List Str} (q:t.wf sig h ns none):aw PP K (n+1) ⟨#[]⟩ "within" [t.enc] st=.ok (.lst (gM t)) st:=by
 rw [mf]
 cases t with
 | num i=>kernel_rfl
 | name x=>kernel_rfl
 | deed w a b=>cases w <;> kernel_rfl
 | choose a b c=>kernel_rfl
 | lt x a b=>kernel_rfl
 | call f l =>
  obtain ⟨_,h',rfl,c,_,hc,h2⟩:=q
  obtain ⟨w1,w2⟩:=gZ h2
  show RT (jk (wX K n)) ⟨[(0,.val (.tup [.str "call",.str f,l.enc]))],st⟩ _
  rw [w1]
  refine .ifB (c:=false) (s':=⟨[(0,.val (.tup [.str "call",.str f,.tup (bl l.enc)]))],st⟩) (by kernel_rfl) (.next (.eqN (x:="call") (y:="let") (by decide +kernel) rfl (.next (.eqT (x:="call") (y:="call") (by decide +kernel) rfl (.assoc (.retO (o:=bD (bl l.enc)) (s':=⟨[(0,.val (.tup [.str "call",.str f,.tup (bl l.enc)]))],st⟩) rfl (bZ (by lia)) rfl))))))
 | nil=>cases q
 | cons t r=>obtain ⟨_,e,_⟩:=q; exact aC e
theorem jj:∀ ns:List Str,dataVs (ns.map .str)=true
 | []=>rfl
 | x::r=>jj r
theorem in_names {x:Str} {ns:List Str} (h:x ∈ ns):inV (.str x) (.lst (ns.map .str))=some true:=by
 have:∀ ns:List Str,x ∈ ns->((toDs (ns.map .str)).any fun y=>PyData.eqv y (kA (.str x)))=true:=by
  intro ns
  induction ns with
  | nil=>intro h; cases h
  | cons y r ih =>
   intro h
   show ((y == x) || _)=true
   rcases zAl.mp h with rfl | h
   ·rw [beq_self_eq_true]; rfl
   ·rw [ih h,Bool.or_true]
 show (if true && dataVs (ns.map .str) && decide (0<=64) then some ((toDs (ns.map .str)).any fun y=>PyData.eqv y (kA (.str x))) else none)=_
 rw [jj,this ns h]; rfl
noncomputable def CsOk (sig:Str->Option Nat) (ks ws:List AV):Prop:=∀ f c,sig f=some c->im (.str f) ks=true/\cW (.str f) ks ws=some (.int (c:Int))
noncomputable def LG (K n:Nat) (t:Tr) (lev:Int) (names:List AV) (cs:AV) (st:St):Option Nat->Prop
 | none=>lk K n t.enc lev names cs st=.ok .none st
 | some _=>∀ c ∈ bl t.enc,lk K n c lev names cs st=.ok .none st
theorem look_ok {ks ws:List AV} (C:CsOk sig ks ws):∀ (t:Tr) {h:Nat} {ns:List Str} {k:Option Nat} {n:Nat},t.wf sig h ns k->ns.length+h<=900->h+1<=n->LG K n t (13 - (h:Int)) (ns.map .str) (.dct ks ws) st k:=by
 intro t
 have lev:∀ {h:Nat} {names:List AV} {t:AV},0 < h->No (am (aa 1) .Gt (af (.int 12))) t (13 - (h:Int)) names (.dct ks ws) st:=fun {h names t} h0=>by
  show Out.ok (AV.bool (decide ((12:Int) < 13 - (h:Int)))) _=_
  rw [decide_eq_false (by lia)]
 induction t with
 | num i =>
  intro h ns k n q hl hN
  have q':=q
  obtain ⟨rfl,h0,_⟩:=q
  obtain ⟨n,rfl⟩:∃ n',n=n'+1+1:=⟨n - 2,by lia⟩
  exact eU (n:=n+1) (l:=[]) (lev h0) (by kernel_rfl) (by kernel_rfl) (by kernel_rfl) (by kernel_rfl) (dF q') (fun c hc=>nomatch hc)
 | name x =>
  intro h ns k n q hl hN
  have q':=q
  obtain ⟨rfl,h0,hx⟩:=q
  obtain ⟨n,rfl⟩:∃ n',n=n'+1+1:=⟨n - 2,by lia⟩
  refine eU (n:=n+1) (l:=[]) (lev h0) ?_ (by kernel_rfl) (by kernel_rfl) (by kernel_rfl) (dF q') (fun c hc=>nomatch hc)
  refine (ci (c:=seq "name" "name") rfl).trans ?_
  rw [aP]
  show Mine.opt (((inV (.str x) (.lst (ns.map .str))).map (!·)).map AV.bool) _=_
  rw [in_names hx]; rfl
 | deed w a b iha ihb =>
  intro h ns k n q hl hN
  have q':=q
  obtain ⟨rfl,h',rfl,h1,h2⟩:=q
  obtain ⟨n,rfl⟩:∃ n',n=n'+1+1:=⟨n - 2,by lia⟩
  refine eU (n:=n+1) (l:=gM (.deed w a b)) (lev (zCc _)) (by cases w <;> kernel_rfl) (by cases w <;> kernel_rfl) (by cases w <;> kernel_rfl) (by cases w <;> kernel_rfl) (dF q') fun c hc=>?_
  rw [show (13 - ((h'+1:Nat):Int)+1)=13 - (h':Int) by lia]
  rcases zAl.mp hc with rfl | hc
  ·exact iha h1 (by lia) (by lia)
  ·rw [zAf.mp hc]; exact ihb h2 (by lia) (by lia)
 | choose a b c iha ihb ihc =>
  intro h ns k n q hl hN
  have q':=q
  obtain ⟨rfl,h',rfl,h1,h2,h3⟩:=q
  obtain ⟨n,rfl⟩:∃ n',n=n'+1+1:=⟨n - 2,by lia⟩
  refine eU (n:=n+1) (l:=gM (.choose a b c)) (lev (zCc _)) (by kernel_rfl) (by kernel_rfl) (by kernel_rfl) (by kernel_rfl) (dF q') fun d hd=>?_
  rw [show (13 - ((h'+1:Nat):Int)+1)=13 - (h':Int) by lia]
  rcases zAl.mp hd with rfl | hd
  ·exact iha h1 (by lia) (by lia)
  ·rcases zAl.mp hd with rfl | hd
   ·exact ihb h2 (by lia) (by lia)
   ·rw [zAf.mp hd]; exact ihc h3 (by lia) (by lia)
 | lt x a b iha ihb =>
  intro h ns k n q hl hN
  obtain ⟨rfl,h',rfl,h1,h2⟩:=q
  obtain ⟨n,rfl⟩:∃ n',n=n'+1:=⟨n - 1,by lia⟩
  have e:(13 - ((h'+1:Nat):Int)+1)=13 - (h':Int):=by lia
  have hb:LG K n b (13 - (h':Int)) ((ns++[x]).map .str) (.dct ks ws) st none:=ihb h2 (by rw [zAd]; show _+1+_<=_; lia) (by lia)
  rw [zAw] at hb
  refine look_let (n:=n) (lev (zCc _)) (by rw [zAe]; lia) ?_ ?_
  ·rw [e]; exact iha h1 (by lia) (by lia)
  ·rw [e]; exact hb
 | call f l ih =>
  intro h ns k n q hl hN
  have q':=q
  obtain ⟨rfl,h',rfl,c,hc,hc1,h2⟩:=q
  obtain ⟨n,rfl⟩:∃ n',n=n'+1+1:=⟨n - 2,by lia⟩
  obtain ⟨w1,w2⟩:=gZ h2
  obtain ⟨c1,c2⟩:=C f c hc
  refine eU (n:=n+1) (l:=gM (.call f l)) (lev (zCc _)) (by kernel_rfl) ?_ ?_ (by kernel_rfl) (dF q') fun d hd=>?_
  ·refine (ci (c:=seq "call" "call") rfl).trans ?_
   rw [aP]
   show Mine.opt ((Option.map (!·) (some (im (.str f) ks))).map AV.bool) _=_
   rw [c1]; rfl
  ·refine (ci (c:=seq "call" "call") rfl).trans ?_
   rw [aP]
   have e1:aW aA false [al (aa 0) (af (.int 2))] ⟨bw (.tup [.str "call",.str f,.tup (bl l.enc)]) (13 - ((h'+1:Nat):Int)) (ns.map .str) (.dct ks ws),st⟩=.ok (.int ((bl l.enc).length:Int)) ⟨bw (.tup [.str "call",.str f,.tup (bl l.enc)]) (13 - ((h'+1:Nat):Int)) (ns.map .str) (.dct ks ws),st⟩:=rfl
   have e2:al (aa 3) (al (aa 0) (af (.int 1))) ⟨bw (.tup [.str "call",.str f,.tup (bl l.enc)]) (13 - ((h'+1:Nat):Int)) (ns.map .str) (.dct ks ws),st⟩=.ok (.int (c:Int)) ⟨bw (.tup [.str "call",.str f,.tup (bl l.enc)]) (13 - ((h'+1:Nat):Int)) (ns.map .str) (.dct ks ws),st⟩:=by
    show Mine.opt (cW (.str f) ks ws) _=_
    rw [c2]; rfl
   rw [w2] at e1
   show am _ _ _ ⟨bw (.tup [.str "call",.str f,l.enc]) _ _ _,st⟩=.ok _ ⟨bw (.tup [.str "call",.str f,l.enc]) _ _ _,st⟩
   rw [w1]
   refine (bJ e1 e2).trans ?_
   show Out.ok (AV.bool (!decide ((c:Int)=c))) _=_
   rw [decide_eq_true rfl]; rfl
  ·rw [show (13 - ((h'+1:Nat):Int)+1)=13 - (h':Int) by lia]
   exact ih h2 (by lia) (by lia) d hd
 | nil=>intro h ns k n q hl hN; cases q; exact fun c hc=>nomatch hc
 | cons t r iht ihr =>
  intro h ns k n q hl hN
  obtain ⟨c,rfl,h1,h2⟩:=q
  intro d hd
  rcases zAl.mp (show d ∈ t.enc::bl r.enc from hd) with rfl | hd
  ·exact iht h1 hl hN
  ·exact ihr h2 hl hN d hd
end
theorem g9 {f:Str} {g:Fu->AV}:∀ fs:List Fu,cW (.str f) (fs.map fun u=>.str u.nm) (fs.map g)=(a9 f fs).map g
 | []=>rfl
 | u::r=>by
  show (if seq f u.nm then some (g u) else cW (.str f) (r.map fun u=>.str u.nm) (r.map g))=(if seq f u.nm then some u else a9 f r).map g
  rw [g9 r]
  cases seq f u.nm <;> rfl
theorem sq_ne {x y:Str} (h:x ≠ y):seq x y=false:=zC0.mpr fun q=>h (seq_iff'.mp q)
theorem d6 {f:Str}:∀ fs:List Fu,im (.str f) (fs.map fun u=>.str u.nm)=(a9 f fs).isSome
 | []=>rfl
 | u::r=>by
  show (seq f u.nm || im (.str f) (r.map fun u=>.str u.nm))=(if seq f u.nm then some u else a9 f r).isSome
  rw [d6 r]
  cases seq f u.nm <;> rfl
theorem eo {f:Str}:∀ {fs:List Fu},f ∉ fs.map (·.nm)->a9 f fs=none
 | [],_=>rfl
 | u::r,h=>by
  show (if seq f u.nm then some u else a9 f r)=none
  rw [sq_ne (x:=f) (y:=u.nm) fun q=>h (by rw [q]; exact zAb)]
  exact eo fun q=>h (zAc _ q)
theorem dSet_new {k v:AV}:∀ {ks ws:List AV},im k ks=false->ks.length=ws.length->bX k ks=ks++[k]/\cr k v ks ws=ws++[v]
 | [],[],_,_=>⟨rfl,rfl⟩
 | x::xs,w::ws,h,hl=>by
  obtain ⟨h1,h2⟩:=Bool.or_eq_false_iff.mp (show (fg k x || im k xs)=false from h)
  have ih:=dSet_new (v:=v) h2 (Nat.succ.inj hl)
  show (if fg k x then x::xs else x::bX k xs)=_/\(if fg k x then v::ws else w::cr k v xs ws)=_
  rw [h1]
  exact ⟨congrArg (x::·) ih.1,congrArg (w::·) ih.2⟩
 | [],_::_,_,hl=>nomatch hl
 | _::_,[],_,hl=>nomatch hl
theorem jt {g:Fu->AV} {ds:List Fu} {u:Fu} (h:u.nm ∉ ds.map (·.nm)) (hl:ds.length<=900):fy (.str u.nm) (g u) (.dct (ds.map fun u=>.str u.nm) (ds.map g))=some (.dct ((ds++[u]).map fun u=>.str u.nm) ((ds++[u]).map g)):=by
 rw [jc (by rw [zAe]; lia)]
 have:=dSet_new (k:=.str u.nm) (v:=g u) (ks:=ds.map fun u=>.str u.nm) (ws:=ds.map g) (by rw [d6,eo h]; rfl) (by rw [zAe,zAe])
 rw [this.1,this.2,zAw,zAw]; rfl
noncomputable abbrev cnV (u:Fu):AV:=.int (u.ps.length:Int)
noncomputable abbrev b6 (fs:List Fu):AV:=.dct (fs.map fun u=>.str u.nm) (fs.map cnV)
theorem cs_ok (fs:List Fu):CsOk (bk fs) (fs.map fun u=>.str u.nm) (fs.map cnV):=fun f c h=>by
 obtain ⟨u,hu,hc⟩:=zAo.mp h
 rw [d6,g9,hu,← hc]; exact ⟨rfl,rfl⟩
theorem dH {ds r:List Fu} {u:Fu} (h:((ds++u::r).map (·.nm)).Nodup):u.nm ∉ ds.map (·.nm):=fun q=>by
 rw [zAw] at h
 exact (zCl.mp h).2.2 _ q _ (zAb) rfl
section
variable {K n:Nat} {st:St}
noncomputable abbrev ctB:D Fl:=ac (bn (am (aa 2) .NotIn (aa 1)) (ac (bj (aa 1) (ae 2) (aW aA false [aa 3])) (af .next)) (af .next)) (af .next)
theorem in_at {d e:D AV} {x:Str} {ks ws:List AV} {a b:AV} {s:S} (h1:d s=.ok a s) (h2:e s=.ok b s) (da:aS a s=some (.str x)) (db:aS b s=some (.dct ks ws)):am d .In e s=.ok (.bool (im (.str x) ks)) s/\am d .NotIn e s=.ok (.bool (!im (.str x) ks)) s:=by
 have d1:deref a s=.ok (.str x) s:=by unfold deref; rw [da]
 have d2:deref b s=.ok (.dct ks ws) s:=by unfold deref; rw [db]
 rw [bJ h1 h2,bJ h1 h2,au d1,au d1,au d2,au d2]; exact ⟨rfl,rfl⟩
theorem iu {L:bF} {k:Nat} {x:Str} (h:aq k L=some (.val (.str x))):aS (.pl k) ⟨L,st⟩=some (.str x):=by unfold aS; dsimp only; rw [h]
theorem gS {L:bF} {k:Nat} {l:List AV} (h:aq k L=some (.val (.tup l))):aW aA false [aa k] ⟨L,st⟩=.ok (.int (l.length:Int)) ⟨L,st⟩:=by
 have dr:deref (.pl k) ⟨L,st⟩=.ok (.tup l) ⟨L,st⟩:=by unfold deref; rw [b5 h]
 unfold aW
 rw [au (ai (aY h) rfl)]
 show aH (aH (deref (.pl k)) _) _ _=_
 rw [bR,au dr]; rfl
theorem jS {o:LV}:∀ (r ds:List Fu) (L:bF),((ds++r).map (·.nm)).Nodup->(ds++r).length<=900->aq 0 L=some o->aq 1 L=some (.own (b6 ds))->∃ L',aX (none,[2,3,4]) ctB (r.map Fu.enc) ⟨L,st⟩=.ok .next ⟨L',st⟩/\aq 1 L'=some (.own (b6 (ds++r)))
 | [],ds,L,_,_,h0,h1=>⟨L,rfl,by rw [zAt]; exact h1⟩
 | u::r,ds,L,hnd,hl,h0,h1=>by
  have hl':ds.length+(r.length+1)<=900:=by rw [zAd] at hl; exact hl
  have q1:aq 1 (ah 4 (.val u.bd.enc) (ah 3 (.val (.tup (u.ps.map .str))) (ah 2 (.val (.str u.nm)) L)))=some (.own (b6 ds)):=(ag (by decide)).trans ((ag (by decide)).trans ((ag (by decide)).trans h1))
  have q0:aq 0 (ah 4 (.val u.bd.enc) (ah 3 (.val (.tup (u.ps.map .str))) (ah 2 (.val (.str u.nm)) L)))=some o:=(ag (by decide)).trans ((ag (by decide)).trans ((ag (by decide)).trans h0))
  have q2:aq 2 (ah 4 (.val u.bd.enc) (ah 3 (.val (.tup (u.ps.map .str))) (ah 2 (.val (.str u.nm)) L)))=some (.val (.str u.nm)):=(ag (by decide)).trans ((ag (by decide)).trans ay)
  have q3:aq 3 (ah 4 (.val u.bd.enc) (ah 3 (.val (.tup (u.ps.map .str))) (ah 2 (.val (.str u.nm)) L)))=some (.val (.tup (u.ps.map .str))):=(ag (by decide)).trans ay
  generalize hq:ah 4 (.val u.bd.enc) (ah 3 (.val (.tup (u.ps.map .str))) (ah 2 (.val (.str u.nm)) L))=L1 at q0 q1 q2 q3
  have hn:=dH hnd
  have t:=(in_at (s:=⟨L1,st⟩) (aY q2) (aY q1) (iu q2) (gF q1)).2
  rw [d6,eo hn] at t
  have e1:ctB ⟨L1,st⟩=.ok .next ⟨ah 1 (.own (b6 (ds++[u]))) L1,st⟩:=by
   refine cs_t t (o:=.ok .next _) (bQ (cG (S₁:=⟨L1,st⟩) (gS q3) (aY q1) (aZ q2) q1 (w':=b6 (ds++[u])) ?_ rfl) trivial) trivial
   rw [zAe]; exact jt (g:=cnV) hn (by lia)
  have hnd':((ds++[u]++r).map (·.nm)).Nodup:=by rw [zAm]; exact hnd
  obtain ⟨L',f1,f2⟩:=jS r (ds++[u]) (ah 1 (.own (b6 (ds++[u]))) L1) hnd' (by rw [zAm]; exact hl) ((ag (by decide)).trans q0) ay
  refine ⟨L',bC (ks:=[2,3,4]) (vs:=[.str u.nm,.tup (u.ps.map .str),u.bd.enc]) rfl (by show ctB ⟨ah 4 _ (ah 3 _ (ah 2 _ L)),st⟩=_; rw [hq]; exact e1) f1,by rw [zAm] at f2; exact f2⟩
noncomputable abbrev bB (fs:List Fu):AV:=.lst (fs.map Fu.enc)
theorem counts_ok {fs:List Fu} (P:PW fs) (hl:fs.length<=900):aw PP K (n+1) ⟨#[]⟩ "counts_of" [bB fs] st=.ok (b6 fs) st:=by
 rw [iY]
 show RT (fz (wX K n)) ⟨[(0,.val (bB fs))],st⟩ _
 obtain ⟨L',f1,f2⟩:=jS (st:=st) fs [] [(0,.val (bB fs)),(1,.own (.dct [] []))] P.nd hl rfl rfl
 exact .go (s':=⟨[(0,.val (bB fs)),(1,.own (.dct [] []))],st⟩) rfl (.forI (l:=fs.map Fu.enc) (s₁:=⟨[(0,.val (bB fs)),(1,.own (.dct [] []))],st⟩) rfl f1 (.ret (eL f2) rfl))
theorem kK {x:Str}:∀ {l:List Str},x ∉ l->cw x l=false
 | [],_=>rfl
 | y::r,h=>by
  show (seq x y || cw x r)=false
  rw [sq_ne (x:=x) (y:=y) fun q=>h (by rw [q]; exact zAb),kK fun q=>h (zAc _ q)]; rfl
theorem oM:∀ (ss σ:List Str),(σ++ss).Nodup->b9 σ ss=σ++ss
 | [],σ,_=>by rw [zAt]; rfl
 | s::r,σ,h=>by
  show b9 (if cw s σ then σ else σ++[s]) r=_
  rw [kK fun q=>(zCl.mp h).2.2 _ q _ zAb rfl]
  show b9 (σ++[s]) r=_
  rw [oM r (σ++[s]) (by rw [zAm]; exact h),zAm]; rfl
theorem ii:∀ l:List Str,dN (l.map .str)=some l
 | []=>rfl
 | x::r=>by show (dN (r.map .str)).map _=_; rw [ii r]; rfl
noncomputable abbrev ckB (X:Ctx):D Fl:=ac (bn (az .Or [am (aa 3) .In (aa 2),am (aW aA false [aW eB false [aa 4]]) .NotEq (aW aA false [aa 4])]) (ac (rais "NameTwice") (af .next)) (af .next)) (ac (bj (aa 2) (ae 3) (aW aA false [aa 4])) (ac (cX (aU X "look" [ae 5,af (.int 1),aW b4 false [aa 4],ae 1])) (af .next)))
theorem cn {b:BiE} {k:Bool} {d:D AV} {a c v:AV} {s s₁:S} (h:d s=.ok a s₁) (ha:aS a s₁=some c) (hv:b.den k [c]=some v):aW b k [d] s=.ok v s₁:=by
 have dr:deref a s₁=.ok c s₁:=by unfold deref; rw [ha]
 unfold aW
 rw [au (ai h rfl)]
 show aH (aH (deref a) _) _ _=_
 rw [bR,au dr]
 show Mine.opt (b.den k [c]) _=_
 rw [hv]; rfl
theorem iX {fs:List Fu} (P:PW fs):∀ (r ds:List Fu) (L:bF),ds++r=fs->fs.length<=900->aq 1 L=some (.val (b6 fs))->aq 2 L=some (.own (b6 ds))->∃ L',aX (none,[3,4,5]) (ckB (wX K (n+13))) (r.map Fu.enc) ⟨L,st⟩=.ok .next ⟨L',st⟩/\aq 2 L'=some (.own (b6 fs))
 | [],ds,L,hf,_,h1,h2=>⟨L,rfl,by rw [← hf,zAt]; exact h2⟩
 | u::r,ds,L,hf,hl,h1,h2=>by
  have hu:u ∈ fs:=by rw [← hf]; exact zB7 _ zAb
  have hps:=P.ps u hu
  have hl':ds.length+(r.length+1)<=900:=by rw [← hf,zAd] at hl; exact hl
  have hn:u.nm ∉ ds.map (·.nm):=dH (r:=r) (by rw [hf]; exact P.nd)
  have q1:aq 1 (ah 5 (.val u.bd.enc) (ah 4 (.val (.tup (u.ps.map .str))) (ah 3 (.val (.str u.nm)) L)))=some (.val (b6 fs)):=(ag (by decide)).trans ((ag (by decide)).trans ((ag (by decide)).trans h1))
  have q2:aq 2 (ah 5 (.val u.bd.enc) (ah 4 (.val (.tup (u.ps.map .str))) (ah 3 (.val (.str u.nm)) L)))=some (.own (b6 ds)):=(ag (by decide)).trans ((ag (by decide)).trans ((ag (by decide)).trans h2))
  have q3:aq 3 (ah 5 (.val u.bd.enc) (ah 4 (.val (.tup (u.ps.map .str))) (ah 3 (.val (.str u.nm)) L)))=some (.val (.str u.nm)):=(ag (by decide)).trans ((ag (by decide)).trans ay)
  have q4:aq 4 (ah 5 (.val u.bd.enc) (ah 4 (.val (.tup (u.ps.map .str))) (ah 3 (.val (.str u.nm)) L)))=some (.val (.tup (u.ps.map .str))):=(ag (by decide)).trans ay
  have q5:aq 5 (ah 5 (.val u.bd.enc) (ah 4 (.val (.tup (u.ps.map .str))) (ah 3 (.val (.str u.nm)) L)))=some (.val u.bd.enc):=ay
  generalize hq:ah 5 (.val u.bd.enc) (ah 4 (.val (.tup (u.ps.map .str))) (ah 3 (.val (.str u.nm)) L))=L1 at q1 q2 q3 q4 q5
  have t1:=(in_at (s:=⟨L1,st⟩) (aY q3) (aY q2) (iu q3) (gF q2)).1
  rw [d6,eo hn] at t1
  have ln:=gS (st:=st) q4
  rw [zAe] at ln
  have ls:aW eB false [aa 4] ⟨L1,st⟩=.ok (.sett u.ps.length) ⟨L1,st⟩:=cn (aY q4) (b5 q4) (by
   show ((dN (u.ps.map .str)).bind fun ss=>if zB5 ss.length 4000 then some (AV.sett (b9 [] ss).length) else none)=_
   rw [ii]
   show (if zB5 u.ps.length 4000 then some (AV.sett (b9 [] u.ps).length) else none)=_
   rw [oM u.ps [] hps.1,zC4 (by lia)]; rfl)
  have ls2:aW aA false [aW eB false [aa 4]] ⟨L1,st⟩=.ok (.int (u.ps.length:Int)) ⟨L1,st⟩:=cn ls rfl rfl
  have t2:am (aW aA false [aW eB false [aa 4]]) .NotEq (aW aA false [aa 4]) ⟨L1,st⟩=.ok (.bool false) ⟨L1,st⟩:=(bJ ls2 ln).trans (by
   show Out.ok (AV.bool (!decide ((u.ps.length:Int)=u.ps.length))) _=_
   rw [decide_eq_true rfl]; rfl)
  have e2:bj (aa 2) (ae 3) (aW aA false [aa 4]) ⟨L1,st⟩=.ok .next ⟨ah 2 (.own (b6 (ds++[u]))) L1,st⟩:=cG (S₁:=⟨L1,st⟩) ln (aY q2) (aZ q3) q2 (jt (g:=cnV) hn (by lia)) rfl
  have p1:aq 1 (ah 2 (.own (b6 (ds++[u]))) L1)=some (.val (b6 fs)):=(ag (by decide)).trans q1
  have p4:aq 4 (ah 2 (.own (b6 (ds++[u]))) L1)=some (.val (.tup (u.ps.map .str))):=(ag (by decide)).trans q4
  have p5:aq 5 (ah 2 (.own (b6 (ds++[u]))) L1)=some (.val u.bd.enc):=(ag (by decide)).trans q5
  have p2:aq 2 (ah 2 (.own (b6 (ds++[u]))) L1)=some (.own (b6 (ds++[u]))):=ay
  generalize ah 2 (.own (b6 (ds++[u]))) L1=L2 at e2 p1 p2 p4 p5
  have lkk:LG K (n+13) u.bd (13 - ((12:Nat):Int)) (u.ps.map .str) (b6 fs) st none:=look_ok (cs_ok fs) u.bd (P.bd u hu) (by lia) (by lia)
  have sq:br [ae 5,af (.int 1),aW b4 false [aa 4],ae 1] ⟨L2,st⟩=.ok [u.bd.enc,.int 1,.lst (u.ps.map .str),b6 fs] ⟨L2,st⟩ :=
   ai (aZ p5) (ai rfl (ai (cn (aY p4) (b5 p4) (bZ (by rw [zAe]; lia))) (ai (aZ p1) rfl)))
  have e3:cX (aU (wX K (n+13)) "look" [ae 5,af (.int 1),aW b4 false [aa 4],ae 1]) ⟨L2,st⟩=.ok .next ⟨L2,st⟩:=cF (v:=.none) (aN sq lkk)
  have e1:ckB (wX K (n+13)) ⟨L1,st⟩=.ok .next ⟨L2,st⟩:=by
   refine (ifO (c:=false) (s':=⟨L1,st⟩) (by refine (eP (c:=false) t1).trans ?_; exact t2)).trans ?_
   exact (hY (s':=⟨L1,st⟩) rfl).trans ((hY e2).trans ((hY e3).trans rfl))
  obtain ⟨L',f1,f2⟩:=iX P r (ds++[u]) L2 (by rw [zAm]; exact hf) hl p1 p2
  exact ⟨L',bC (ks:=[3,4,5]) (vs:=[.str u.nm,.tup (u.ps.map .str),u.bd.enc]) rfl (by show ckB _ ⟨ah 5 _ (ah 4 _ (ah 3 _ L)),st⟩=_; rw [hq]; exact e1) f1,f2⟩
theorem iz {fs:List Fu} (P:PW fs) (hl:fs.length<=900):aw PP K (n+14) ⟨#[]⟩ "checked" [bB fs] st=.ok (b6 fs) st:=by
 rw [lC]
 show RT (iq (wX K (n+13))) ⟨[(0,.val (bB fs))],st⟩ _
 obtain ⟨L',f1,f2⟩:=iX (K:=K) (n:=n) (st:=st) P fs [] [(0,.val (bB fs)),(1,.val (b6 fs)),(2,.own (.dct [] []))] rfl hl rfl rfl
 refine .asg (v:=b6 fs) (s':=⟨[(0,.val (bB fs))],st⟩) (aN (vs:=[bB fs]) (s₁:=⟨[(0,.val (bB fs))],st⟩) rfl (counts_ok (n:=n+12) P hl)) ?_
 exact .go (s':=⟨[(0,.val (bB fs)),(1,.val (b6 fs)),(2,.own (.dct [] []))],st⟩) rfl (.forI (l:=fs.map Fu.enc) (s₁:=⟨[(0,.val (bB fs)),(1,.val (b6 fs)),(2,.own (.dct [] []))],st⟩) rfl f1 (.ret (eL f2) rfl))
end
theorem setSub_cel {b i d:D AV} {S S₁:Mine.S} {va vi:AV} {k:Nat} {w w':AV} (hd:d S=.ok va S₁) (hb:b S₁=.ok (.cel k) S₁) (hi:i S₁=.ok vi S₁) (hk:S₁.st[k]?=some (.cont w)) (hp:fy vi va w=some w'):bj b i d S=.ok .next ⟨S₁.loc,S₁.st.set k (.cont w')⟩:=by
 have hm:b8 (.cel k) (fy vi va) S₁=.ok () ⟨S₁.loc,S₁.st.set k (.cont w')⟩:=by
  unfold b8 dq
  dsimp only
  rw [hk]
  dsimp only
  rw [hp]
 unfold bj
 rw [au hd,au hb,au hi,au hm]; rfl
section
variable {K n:Nat} {pre:St} {F:Int} {fs:List Fu}
noncomputable abbrev iS (pre:St) (ds:List Fu):St:=pre++[.flds [("functions",.cel (pre.length+1))],.cont (cY ds)]
noncomputable abbrev inB2:D Fl:=ac (bj (aQ (aa 0) "functions") (al (aa 3) (af (.int 0))) (ae 3)) (af .next)
theorem mV {o2:LV}:∀ (r ds:List Fu) (L:bF),((ds++r).map (·.nm)).Nodup->(ds++r).length<=900->aq 0 L=some (.val (.obj "Teller" pre.length))->aq 2 L=some o2->∃ L',aX (some 3,[]) inB2 (r.map Fu.enc) ⟨L,iS pre ds⟩=.ok .next ⟨L',iS pre (ds++r)⟩/\aq 0 L'=some (.val (.obj "Teller" pre.length))/\aq 2 L'=some o2
 | [],ds,L,_,_,h0,h2=>⟨L,by rw [zAt]; rfl,h0,h2⟩
 | u::r,ds,L,hnd,hl,h0,h2=>by
  have hl':ds.length+(r.length+1)<=900:=by rw [zAd] at hl; exact hl
  have q0:aq 0 (ah 3 (.val u.enc) L)=some (.val (.obj "Teller" pre.length)):=(ag (by decide)).trans h0
  have q2:aq 2 (ah 3 (.val u.enc) L)=some o2:=(ag (by decide)).trans h2
  have q3:aq 3 (ah 3 (.val u.enc) L)=some (.val u.enc):=ay
  generalize hq:ah 3 (.val u.enc) L=L1 at q0 q2 q3
  have e1:inB2 ⟨L1,iS pre ds⟩=.ok .next ⟨L1,iS pre (ds++[u])⟩:=by
   have:=setSub_cel (S:=⟨L1,iS pre ds⟩) (S₁:=⟨L1,iS pre ds⟩) (b:=aQ (aa 0) "functions") (i:=al (aa 3) (af (.int 0))) (aZ q3) (cM q0 bb (by kernel_rfl)) (bx (aY q3) rfl (b5 q3) rfl) gG (jt (g:=Fu.enc) (dH hnd) (by lia))
   dsimp only at this
   rw [set_app1] at this
   exact bQ (o:=.ok .next _) this trivial
  obtain ⟨L',f1,f2,f3⟩:=mV r (ds++[u]) L1 (by rw [zAm]; exact hnd) (by rw [zAm]; exact hl) q0 q2
  exact ⟨L',bG (by rw [hq]; exact e1) (by rw [f1,zAm]; rfl),f2,f3⟩
theorem init_ok (P:PW fs) (hl:fs.length<=900):aw PP K (n+1) "Teller" "__init__" [.obj "Teller" pre.length,bB fs,.int F] (pre++[.flds []])=.ok .none (cz pre F 0 0 (cY fs)):=by
 rw [ij]
 show RT (ew (wX K n)) ⟨[(0,.val (.obj "Teller" pre.length)),(1,.val (bB fs)),(2,.val (.int F))],pre++[.flds []]⟩ _
 obtain ⟨L',f1,f2,f3⟩:=mV (pre:=pre) fs [] [(0,.val (.obj "Teller" pre.length)),(1,.val (bB fs)),(2,.val (.int F))] P.nd hl rfl rfl
 have e1:bM (aa 0) "functions" (aH (af (.dct [] [])) toCel) ⟨[(0,.val (.obj "Teller" pre.length)),(1,.val (bB fs)),(2,.val (.int F))],pre++[.flds []]⟩=.ok .next ⟨[(0,.val (.obj "Teller" pre.length)),(1,.val (bB fs)),(2,.val (.int F))],iS pre []⟩:=by
  have hd:aH (af (.dct [] [])) toCel ⟨[(0,.val (.obj "Teller" pre.length)),(1,.val (bB fs)),(2,.val (.int F))],pre++[.flds []]⟩=.ok (.cel (pre.length+1)) ⟨[(0,.val (.obj "Teller" pre.length)),(1,.val (bB fs)),(2,.val (.int F))],pre++[.flds [],.cont (.dct [] [])]⟩:=by
   show Out.ok (AV.cel (pre++[AO.flds []]).length) (⟨_,pre++[AO.flds []]++[AO.cont (.dct [] [])]⟩:S)=_
   rw [zAm,zAd]; rfl
  have:=d7 (i:=0) (f:="functions") (l':=[("functions",.cel (pre.length+1))]) hd rfl bb rfl (by kernel_rfl)
  dsimp only at this
  rw [gn] at this; exact this
 have sf:∀ {f:Str} {d:D AV} {w:AV} {l l':List (Str × AV)},d ⟨L',pre++[.flds l,.cont (cY fs)]⟩=.ok w ⟨L',pre++[.flds l,.cont (cY fs)]⟩->zB5 l.length 100=true->ly f w l=l'->bM (aa 0) f d ⟨L',pre++[.flds l,.cont (cY fs)]⟩=.ok .next ⟨L',pre++[.flds l',.cont (cY fs)]⟩:=fun h hl hs=>by
  have:=d7 (i:=0) h f2 bb hl hs
  dsimp only at this
  rw [gn] at this; exact this
 refine .go e1 (.forI (l:=fs.map Fu.enc) (s₁:=⟨[(0,.val (.obj "Teller" pre.length)),(1,.val (bB fs)),(2,.val (.int F))],iS pre []⟩) rfl f1 ?_)
 exact .go (sf (l':=[("functions",.cel (pre.length+1)),("fuel",.int F)]) (aZ f3) rfl (by kernel_rfl)) (.go (sf (w:=.int 0) (l':=[("functions",.cel (pre.length+1)),("fuel",.int F),("made",.int 0)]) rfl rfl (by kernel_rfl)) (.go (sf (w:=.int 0) (l':=telF pre.length F 0 0) rfl rfl (by kernel_rfl)) (.nil rfl)))
noncomputable def outV:Rl->AV
 | .val vs m=>.tup [.str "value",.int (hd vs),.int m]
 | .bad c m=>.tup [.str c.word,.none,.int m]
noncomputable abbrev hsR:Hs:=[("ByNought",none,ac (aI (aJ [af (.str "nought"),af .none,aQ (aa 5) "made"])) (af .next)),("TooGreat",none,ac (aI (aJ [af (.str "great"),af .none,aQ (aa 5) "made"])) (af .next)),("TooDeep",none,ac (aI (aJ [af (.str "deep"),af .none,aQ (aa 5) "made"])) (af .next)),("Dry",none,ac (aI (aJ [af (.str "dry"),af .none,aQ (aa 5) "made"])) (af .next))]
theorem pick_ok {L:bF} {st:St} {m:Int} (h1:aQ (aa 5) "made" ⟨L,st⟩=.ok (.int m) ⟨L,st⟩) (c:Bad):eY PP.sub c.xc ⟨L,st⟩ hsR=.ok (.ret (outV (.bad c m))) ⟨L,st⟩:=by
 have go:∀ {y:Str},j0 (ac (aI (aJ [af (.str y),af .none,aQ (aa 5) "made"])) (af .next) ⟨L,st⟩)=.ok (.ret (.tup [.str y,.none,.int m])) ⟨L,st⟩:=fun {y}=>by
  have h2:aJ [af (.str y),af .none,aQ (aa 5) "made"] ⟨L,st⟩=.ok (.tup [.str y,.none,.int m]) ⟨L,st⟩:=(au (ai rfl (ai rfl (ai h1 rfl)))).trans rfl
  show j0 (ax (ax (aJ _ _) _) _)=_
  rw [h2]; rfl
 cases c with
 | nought =>
  show (if PP.sub "ByNought" "ByNought" then _ else _)=_
  rw [cH]; exact go
 | great =>
  show (if PP.sub "TooGreat" "ByNought" then _ else (if PP.sub "TooGreat" "TooGreat" then _ else _))=_
  rw [sub_g1,cH]; exact go
 | deep =>
  show (if PP.sub "TooDeep" "ByNought" then _ else (if PP.sub "TooDeep" "TooGreat" then _ else (if PP.sub "TooDeep" "TooDeep" then _ else _)))=_
  rw [sub_d1,sub_d2,cH]; exact go
 | dry =>
  show (if PP.sub "Dry" "ByNought" then _ else (if PP.sub "Dry" "TooGreat" then _ else (if PP.sub "Dry" "TooDeep" then _ else (if PP.sub "Dry" "Dry" then _ else _))))=_
  rw [sub_y1,sub_y2,sub_y3,cH]; exact go
noncomputable abbrev mC (fs:List Fu) (f:Str) (vs:List Int) (F:Int):bF:=[(0,.val (bB fs)),(1,.val (.str f)),(2,.val (.lst (vs.map .int))),(3,.val (.int F)),(4,.val (b6 fs))]
theorem told_ok (P:PW fs) (hl:fs.length<=900) {f:Str} {vs:List Int} (hs:bk fs f=some vs.length) (hv:∀ v ∈ vs,l4 v) (hvl:vs.length<=900):∃ x y,aw PP K (n+306) ⟨#[]⟩ "told" [bB fs,.str f,.lst (vs.map .int),.int F] pre=.ok (outV (hV fs F 20 f vs 0)) (pre++[x,y]):=by
 obtain ⟨u,hu,hul⟩:=zAo.mp hs
 have C:=called_ok (K:=K) (pre:=pre) (F:=F) P 20 f vs 0 (n+305) hs hv (by lia) (by lia)
 rw [show (20 - ((20:Nat):Int))=0 from rfl] at C
 have hc:al (aa 4) (ae 1) ⟨mC fs f vs F,pre⟩=.ok (.int (vs.length:Int)) ⟨mC fs f vs F,pre⟩:=by
  show Mine.opt (cW (.str f) _ _) _=_
  rw [g9,hu,← hul]; rfl
 have hln:aW aA false [aa 2] ⟨mC fs f vs F,pre⟩=.ok (.int (vs.length:Int)) ⟨mC fs f vs F,pre⟩:=by
  have:aW aA false [aa 2] ⟨mC fs f vs F,pre⟩=.ok (.int ((vs.map AV.int).length:Int)) ⟨mC fs f vs F,pre⟩:=rfl
  rw [zAe] at this; exact this
 have T:∀ {r:Ret},RT (ac (j7 (wX K (n+305)) (ac (aL 6 (bz (wX K (n+305)) (aa 5) "called" [ae 1,aW b4 false [aa 2]])) (af .next)) hsR) (ac (aI (aJ [af (.str "value"),ae 6,aQ (aa 5) "made"])) (af .next))) ⟨mC fs f vs F++[(5,.val (.obj "Teller" pre.length))],cz pre F 0 0 (cY fs)⟩ r->aw PP K (n+306) ⟨#[]⟩ "told" [bB fs,.str f,.lst (vs.map .int),.int F] pre=r:=fun h=>by
  rw [rn_told]
  show RT (ot (wX K (n+305))) ⟨[(0,.val (bB fs)),(1,.val (.str f)),(2,.val (.lst (vs.map .int))),(3,.val (.int F))],pre⟩ _
  refine .asg (v:=b6 fs) (s':=⟨[(0,.val (bB fs)),(1,.val (.str f)),(2,.val (.lst (vs.map .int))),(3,.val (.int F))],pre⟩) (aN (vs:=[bB fs]) (s₁:=⟨[(0,.val (bB fs)),(1,.val (.str f)),(2,.val (.lst (vs.map .int))),(3,.val (.int F))],pre⟩) rfl (iz (n:=n+291) P hl)) ?_
  refine .ifB (c:=false) (s':=⟨mC fs f vs F,pre⟩) ?_ (.next (.ifB (c:=false) (s':=⟨mC fs f vs F,pre⟩) ?_ (.next ?_)))
  ·refine (in_at (a:=.pl 1) (b:=.pl 4) (s:=⟨mC fs f vs F,pre⟩) rfl rfl rfl rfl).2.trans ?_
   rw [d6,hu]; rfl
  ·refine (bJ hln hc).trans ?_
   show Out.ok (AV.bool (!decide ((vs.length:Int)=vs.length))) _=_
   rw [decide_eq_true rfl]; rfl
  ·exact .asgR (v:=.obj "Teller" pre.length) (st':=cz pre F 0 0 (cY fs)) (q:=ni pre.length "Teller" (aw PP K (n+301) "Teller" "__init__" [.obj "Teller" pre.length,bB fs,.int F] (pre++[.flds []]))) (s₁:=⟨mC fs f vs F,pre⟩) rfl (by rw [init_ok (n:=n+300) P hl]; rfl) h
 have sq:br [ae 1,aW b4 false [aa 2]] ⟨mC fs f vs F++[(5,.val (.obj "Teller" pre.length))],cz pre F 0 0 (cY fs)⟩=.ok [.str f,.lst (vs.map .int)] ⟨mC fs f vs F++[(5,.val (.obj "Teller" pre.length))],cz pre F 0 0 (cY fs)⟩ :=
  ai (s₁:=⟨mC fs f vs F++[(5,.val (.obj "Teller" pre.length))],cz pre F 0 0 (cY fs)⟩) rfl (ai (cn (a:=.pl 2) (c:=.lst (vs.map .int)) rfl rfl (bZ (by rw [zAe]; lia))) rfl)
 have hw:=iK (X:=wX K (n+305)) (c:="Teller") (m:="called") (o:=pre.length) (i:=5) lP rfl bb sq
 have hw:bz (wX K (n+305)) (aa 5) "called" [ae 1,aW b4 false [aa 2]] ⟨mC fs f vs F++[(5,.val (.obj "Teller" pre.length))],cz pre F 0 0 (cY fs)⟩=ez (cld K (n+305) pre.length (.str f) (vs.map .int) (cz pre F 0 0 (cY fs))) ⟨mC fs f vs F++[(5,.val (.obj "Teller" pre.length))],cz pre F 0 0 (cY fs)⟩:=hw
 cases hcs:hV fs F 20 f vs 0 with
 | bad c m =>
  rw [hcs] at C
  obtain ⟨g',e⟩:=C
  rw [e] at hw
  refine ⟨_,_,T (.tryX (c:=c.xc) (s':=⟨mC fs f vs F++[(5,.val (.obj "Teller" pre.length))],cz pre F m g' (cY fs)⟩) ?_ (pick_ok (cM rfl bb (by kernel_rfl)) c) rfl)⟩
  show ax (ax (bz _ _ _ _ _) _) _=_
  rw [hw]; rfl
 | val ws m =>
  rw [hcs] at C
  rw [show cld K (n+305) pre.length (.str f) (vs.map .int) (cz pre F 0 0 (cY fs))=_ from C] at hw
  refine ⟨_,_,T (.tryOk (s':=⟨mC fs f vs F++[(5,.val (.obj "Teller" pre.length)),(6,.val (.int (hd ws)))],cz pre F m 0 (cY fs)⟩) ?_ (.ret (v:=outV (.val ws m)) (s':=⟨mC fs f vs F++[(5,.val (.obj "Teller" pre.length)),(6,.val (.int (hd ws)))],cz pre F m 0 (cY fs)⟩) ?_ rfl))⟩
  ·exact (hY (s':=⟨mC fs f vs F++[(5,.val (.obj "Teller" pre.length)),(6,.val (.int (hd ws)))],cz pre F m 0 (cY fs)⟩) (bH (hw.trans rfl))).trans rfl
  ·exact (au (ai rfl (ai rfl (ai (cM rfl bb (by kernel_rfl)) rfl)))).trans rfl
end
noncomputable def len:Tr->Nat
 | .num _ | .name _=>1
 | .deed _ a b | .lt _ a b=>len a+len b+1
 | .choose a b c=>len a+len b+len c+2
 | .call _ l=>len l+1
 | .nil=>0
 | .cons t r=>len t+len r
noncomputable def ltN:Tr->Nat
 | .num _ | .name _ | .nil=>0
 | .deed _ a b | .cons a b=>max (ltN a) (ltN b)
 | .lt _ a b=>max (ltN a) (1+ltN b)
 | .choose a b c=>max (ltN a) (max (ltN b) (ltN c))
 | .call _ l=>ltN l
noncomputable def mxN:List Nat->Nat
 | []=>0
 | x::r=>max x (mxN r)
noncomputable def Mea (fn:Str) (h:Nat) (a:AV) (i:Nat):Prop:=∀ (K n:Nat) (st:St),h+1<=n->aw PP K n ⟨#[]⟩ fn [a] st=.ok (.int (i:Int)) st
noncomputable def MeaL (fn:Str) (h:Nat) (l:List AV) (agg:List Nat->Nat) (i:Nat):Prop:=∃ ps:List (AV × Nat),ps.map (·.1)=l/\(∀ p ∈ ps,Mea fn h p.1 p.2)/\agg (ps.map (·.2))=i
section
variable {fn:Str} {h:Nat} {agg:List Nat->Nat} {K n:Nat} {st:St} {L:bF} {t a b c:AV} {i j k:Nat}
theorem MeaL.two (ha:Mea fn h a i) (hb:Mea fn h b j):MeaL fn h [a,b] agg (agg [i,j]):=⟨[(a,i),(b,j)],rfl,fun p hp=>by
 rcases zAl.mp hp with rfl | hp
 ·exact ha
 ·rw [zAf.mp hp]; exact hb,rfl⟩
theorem MeaL.three (ha:Mea fn h a i) (hb:Mea fn h b j) (hc:Mea fn h c k):MeaL fn h [a,b,c] agg (agg [i,j,k]):=⟨[(a,i),(b,j),(c,k)],rfl,fun p hp=>by
 rcases zAl.mp hp with rfl | hp
 ·exact ha
 ·rcases zAl.mp hp with rfl | hp
  ·exact hb
  ·rw [zAf.mp hp]; exact hc,rfl⟩
theorem gx {ps:List (AV × Nat)} (h0:aq 0 L=some (.val t)) (hw:aw PP K n ⟨#[]⟩ "within" [t] st=.ok (.lst (ps.map (·.1))) st) (hp:∀ p ∈ ps,aw PP K n ⟨#[]⟩ fn [p.1] st=.ok (.int (p.2:Int)) st) (hl:ps.length<=1000) :
  bP [] 1 (aU (wX K n) fn [ae 1]) (ba (aU (wX K n) "within" [ae 0])) ⟨L,st⟩=.ok (.lst (ps.map fun p=>.int (p.2:Int))) ⟨L,st⟩ :=
 iV (l:=ps) (f:=(·.1)) (g:=fun p=>AV.int (p.2:Int)) (s:=⟨L,st⟩) (s₁:=⟨L,st⟩) (dB (aN (s₁:=⟨L,st⟩) (ai (aZ h0) rfl) hw)) hl fun p hq=>⟨_,aN (vs:=[p.1]) (s₁:=⟨[(1,.val p.1)],st⟩) rfl (hp p hq)⟩
theorem fI:∀ l:List (AV × Nat),cU (l.map fun p=>.int (p.2:Int))=some ((l.map (·.2)).map fun i:Nat=>(i:Int))
 | []=>rfl
 | x::r=>by show (cU (r.map fun p=>.int (p.2:Int))).map _=_; rw [fI r]; rfl
theorem sum_cast:∀ l:List Nat,(l.map fun i:Nat=>(i:Int)).sum=((l.sum:Nat):Int)
 | []=>rfl
 | x::r=>by rw [zA6,zCd,zCd,sum_cast r]; rfl
theorem length_node {ps:List (AV × Nat)} {own:Nat} {tg:Str} {tl:List AV} (ho:own=if seq tg "choose" then 2 else 1) (hw:∀ st,aw PP K n ⟨#[]⟩ "within" [.tup (.str tg::tl)] st=.ok (.lst (ps.map (·.1))) st) (hp:∀ p ∈ ps,∀ st,aw PP K n ⟨#[]⟩ "length" [p.1] st=.ok (.int (p.2:Int)) st) (hl:ps.length<=1000):aw PP K (n+1) ⟨#[]⟩ "length" [.tup (.str tg::tl)] st=.ok (.int ((own+(ps.map (·.2)).sum:Nat):Int)) st:=by
 rw [rn_length]
 show RT (m5 (wX K n)) ⟨[(0,.val (.tup (.str tg::tl)))],st⟩ _
 have fin:RT (ac (aI (aj .Add (aa 1) (aW biSum false [bP [] 1 (aU (wX K n) "length" [ae 1]) (ba (aU (wX K n) "within" [ae 0]))]))) (af .next)) ⟨[(0,.val (.tup (.str tg::tl))),(1,.val (.int (own:Int)))],st⟩ (.ok (.int ((own+(ps.map (·.2)).sum:Nat):Int)) st):=by
  have e1:=gx (fn:="length") (L:=[(0,.val (.tup (.str tg::tl))),(1,.val (.int (own:Int)))]) (st:=st) rfl (hw st) (fun p q=>hp p q st) hl
  have e2:aW biSum false [bP [] 1 (aU (wX K n) "length" [ae 1]) (ba (aU (wX K n) "within" [ae 0]))] ⟨[(0,.val (.tup (.str tg::tl))),(1,.val (.int (own:Int)))],st⟩=.ok (.int (((ps.map (·.2)).sum:Nat):Int)) ⟨[(0,.val (.tup (.str tg::tl))),(1,.val (.int (own:Int)))],st⟩:=cn e1 rfl (by
   show (cU (ps.map fun p=>.int (p.2:Int))).map (fun ns=>AV.int ns.sum)=_
   rw [fI]
   show some (AV.int _)=_
   rw [sum_cast])
  exact .ret (aB (a':=.int (own:Int)) rfl e2 rfl rfl rfl) rfl
 refine .go (s':=⟨[(0,.val (.tup (.str tg::tl))),(1,.val (.int 1))],st⟩) rfl (.ifB (c:=seq tg "choose") rfl ?_)
 cases hc:seq tg "choose" with
 | true=>rw [hc] at ho; subst ho; exact .assoc (.go (s':=⟨[(0,.val (.tup (.str tg::tl))),(1,.val (.int 2))],st⟩) rfl (.next fin))
 | false=>rw [hc] at ho; subst ho; exact .next fin
end
noncomputable def LnG (fn:Str) (agg:List Nat->Nat) (mu:Tr->Nat) (h:Nat) (t:Tr):Option Nat->Prop
 | none=>Mea fn h t.enc (mu t)
 | some _=>MeaL fn h (bl t.enc) agg (mu t)
section
variable {sig:Str->Option Nat}
theorem MeaL.len {fn:Str} {h:Nat} {agg:List Nat->Nat} {l:List AV} {i:Nat} {ps:List (AV × Nat)} (e:ps.map (·.1)=l):ps.length=l.length:=by rw [← e,zAe]
theorem Mea.up {fn:Str} {h h':Nat} {a:AV} {i:Nat} (q:Mea fn h a i) (hh:h<=h'):Mea fn h' a i:=fun K n st hn=>q K n st (by lia)
theorem jF:∀ (t:Tr) {h:Nat} {ns:List Str} {k:Option Nat},t.wf sig h ns k->LnG "length" List.sum len h t k:=by
 have nd:∀ {t:Tr} {h:Nat} {ns:List Str} {tg:Str} {tl:List AV} {i:Nat},t.wf sig (h+1) ns none->t.enc=.tup (.str tg::tl)->MeaL "length" h (gM t) List.sum i->(gM t).length<=1000->Mea "length" (h+1) t.enc ((if seq tg "choose" then 2 else 1)+i):=fun {t h ns tg tl i} q e m hl K n st hn=>by
  obtain ⟨n,rfl⟩:∃ n',n=n'+1:=⟨n - 1,by lia⟩
  obtain ⟨ps,e1,e2,e3⟩:=m
  rw [e,← e3]
  refine length_node rfl (fun st=>?_) (fun p hp st=>e2 p hp K n st (by lia)) (by rw [MeaL.len (fn:="") (h:=0) (agg:=List.sum) (i:=0) e1]; exact hl)
  obtain ⟨n,rfl⟩:∃ n',n=n'+1:=⟨n - 1,by lia⟩
  rw [← e,e1]; exact dF q
 intro t
 induction t with
 | num i =>
  intro h ns k q
  have q':=q
  obtain ⟨rfl,h0,_⟩:=q
  obtain ⟨h,rfl⟩:∃ h',h=h'+1:=⟨h - 1,by lia⟩
  exact nd (tg:="num") q' rfl ⟨[],rfl,(fun p hp=>nomatch hp),rfl⟩ (zBa _)
 | name x =>
  intro h ns k q
  have q':=q
  obtain ⟨rfl,h0,_⟩:=q
  obtain ⟨h,rfl⟩:∃ h',h=h'+1:=⟨h - 1,by lia⟩
  exact nd (tg:="name") q' rfl ⟨[],rfl,(fun p hp=>nomatch hp),rfl⟩ (zBa _)
 | deed w a b iha ihb =>
  intro h ns k q
  have q':=q
  obtain ⟨rfl,h',rfl,h1,h2⟩:=q
  have:=nd (tg:=w.str) q' rfl (.two (iha h1) (ihb h2)) (by decide:2<=1000)
  rw [show seq w.str "choose"=false by cases w <;> decide +kernel] at this
  show Mea _ _ _ (len a+len b+1)
  rw [show len a+len b+1=(if false=true then 2 else 1)+[len a,len b].sum by simp; lia]; exact this
 | choose a b c iha ihb ihc =>
  intro h ns k q
  have q':=q
  obtain ⟨rfl,h',rfl,h1,h2,h3⟩:=q
  have:=nd (tg:="choose") q' rfl (.three (iha h1) (ihb h2) (ihc h3)) (by decide:3<=1000)
  rw [aP] at this
  show Mea _ _ _ (len a+len b+len c+2)
  rw [show len a+len b+len c+2=(if true=true then 2 else 1)+[len a,len b,len c].sum by simp; lia]; exact this
 | lt x a b iha ihb =>
  intro h ns k q
  have q':=q
  obtain ⟨rfl,h',rfl,h1,h2⟩:=q
  have:=nd (tg:="let") q' rfl (.two (iha h1) (ihb h2)) (by decide:2<=1000)
  rw [show seq "let" "choose"=false by decide +kernel] at this
  show Mea _ _ _ (len a+len b+1)
  rw [show len a+len b+1=(if false=true then 2 else 1)+[len a,len b].sum by simp; lia]; exact this
 | call f l ih =>
  intro h ns k q
  have q':=q
  obtain ⟨rfl,h',rfl,c,_,hc,h2⟩:=q
  have:=nd (tg:="call") q' rfl (ih h2) (by show (bl l.enc).length<=1000; rw [(gZ h2).2]; lia)
  rw [show seq "call" "choose"=false by decide +kernel] at this
  show Mea _ _ _ (len l+1)
  rw [Nat.add_comm (len l) 1]; exact this
 | nil=>intro h ns k q; cases q; exact ⟨[],rfl,(fun p hp=>nomatch hp),rfl⟩
 | cons t r iht ihr =>
  intro h ns k q
  obtain ⟨c,rfl,h1,h2⟩:=q
  obtain ⟨ps,e1,e2,e3⟩:=ihr h2
  refine ⟨(t.enc,len t)::ps,congrArg (t.enc::·) e1,fun p hp=>?_,by show (len t::ps.map (·.2)).sum=_; rw [zCd,e3]; rfl⟩
  rcases zAl.mp hp with rfl | hp
  ·exact iht h1
  ·exact e2 p hp
end
theorem gU:∀ (r:List Nat) (x:Nat),(r.map fun i:Nat=>(i:Int)).foldl max (x:Int)=((max x (mxN r):Nat):Int)
 | [],x=>by show (x:Int)=((max x 0:Nat):Int); rw [Nat.max_zero]
 | y::r,x=>by
  show (r.map fun i:Nat=>(i:Int)).foldl max (max (x:Int) (y:Int))=((max x (max y (mxN r)):Nat):Int)
  rw [show max (x:Int) (y:Int)=((max x y:Nat):Int) by lia,gU r (max x y),Nat.max_assoc]
theorem maxL_nat:∀ l:List Nat,(gq (l.map fun i:Nat=>(i:Int))).getD 0=((mxN l:Nat):Int)
 | []=>rfl
 | x::r=>gU r x
theorem bi2_at {b:BiE} {k:Bool} {d e:D AV} {a c v a' c':AV} {s s₁ s₂:S} (h:d s=.ok a s₁) (h2:e s₁=.ok a' s₂) (ha:aS a s₂=some c) (ha':aS a' s₂=some c') (hv:b.den k [c,c']=some v):aW b k [d,e] s=.ok v s₂:=by
 have d1:deref a s₂=.ok c s₂:=by unfold deref; rw [ha]
 have d2:deref a' s₂=.ok c' s₂:=by unfold deref; rw [ha']
 have e1:gE [a,a'] s₂=.ok [c,c'] s₂:=by
  show aH (deref a) _ _=_
  rw [au d1]
  show aH (aH (deref a') _) _ _=_
  rw [bR,au d2]; rfl
 unfold aW
 rw [au (ai h (ai h2 rfl)),au e1,hv]; rfl
section
variable {K n:Nat} {st:St} {tg:Str} {tl:List AV} {ps:List (AV × Nat)}
theorem lets_node (hl:ps.length<=1000) (ht:seq tg "let"=false) (hw:aw PP K n ⟨#[]⟩ "within" [.tup (.str tg::tl)] st=.ok (.lst (ps.map (·.1))) st) (hp:∀ p ∈ ps,aw PP K n ⟨#[]⟩ "lets" [p.1] st=.ok (.int (p.2:Int)) st):aw PP K (n+1) ⟨#[]⟩ "lets" [.tup (.str tg::tl)] st=.ok (.int ((mxN (ps.map (·.2)):Nat):Int)) st:=by
 rw [rn_lets]
 show RT (nE (wX K n)) ⟨[(0,.val (.tup (.str tg::tl)))],st⟩ _
 have e1:=gx (fn:="lets") (L:=[(0,.val (.tup (.str tg::tl)))]) (st:=st) rfl hw hp hl
 refine .eqN (x:=tg) (y:="let") ht rfl (.next (.ret (cn (v:=.int ((mxN (ps.map (·.2)):Nat):Int)) e1 rfl ?_) rfl))
 show (cU (ps.map fun p=>.int (p.2:Int))).bind (fun ns=>some (AV.int ((gq ns).getD 0)))=_
 rw [fI]
 show some (AV.int _)=_
 rw [maxL_nat]
theorem lets_let {x a b:AV} {i j:Nat} (ha:aw PP K n ⟨#[]⟩ "lets" [a] st=.ok (.int (i:Int)) st) (hb:aw PP K n ⟨#[]⟩ "lets" [b] st=.ok (.int (j:Int)) st):aw PP K (n+1) ⟨#[]⟩ "lets" [.tup [.str "let",x,a,b]] st=.ok (.int ((max i (1+j):Nat):Int)) st:=by
 rw [rn_lets]
 show RT (nE (wX K n)) ⟨[(0,.val (.tup [.str "let",x,a,b]))],st⟩ _
 have e1:aU (wX K n) "lets" [al (aa 0) (af (.int 2))] ⟨[(0,.val (.tup [.str "let",x,a,b]))],st⟩=.ok (.int (i:Int)) ⟨[(0,.val (.tup [.str "let",x,a,b]))],st⟩:=aN (vs:=[a]) (s₁:=⟨[(0,.val (.tup [.str "let",x,a,b]))],st⟩) rfl ha
 have e2:aU (wX K n) "lets" [al (aa 0) (af (.int 3))] ⟨[(0,.val (.tup [.str "let",x,a,b]))],st⟩=.ok (.int (j:Int)) ⟨[(0,.val (.tup [.str "let",x,a,b]))],st⟩:=aN (vs:=[b]) (s₁:=⟨[(0,.val (.tup [.str "let",x,a,b]))],st⟩) rfl hb
 refine .eqT (x:="let") (y:="let") (by decide +kernel) rfl (.assoc (.ret (bi2_at (v:=.int ((max i (1+j):Nat):Int)) e1 (aB (v:=.int (1+(j:Int))) rfl e2 rfl rfl rfl) rfl rfl ?_) rfl))
 show some (AV.int (max (i:Int) (1+(j:Int))))=_
 rw [show max (i:Int) (1+(j:Int))=((max i (1+j):Nat):Int) by lia]
noncomputable def hfold:Nat->Nat->List Nat->Nat
 | _,x,[]=>x
 | k,x,i::r=>hfold (k+1) (max x (k+i)) r
noncomputable abbrev hB (X:Ctx):D Fl:=ac (aL 2 (aW biMax false [aa 2,aj .Add (aa 3) (aU X "height" [ae 1])])) (af .next)
theorem jH:∀ (ps:List (AV × Nat)) (k x:Nat) (L:bF),(∀ p ∈ ps,aw PP K n ⟨#[]⟩ "height" [p.1] st=.ok (.int (p.2:Int)) st)->aq 2 L=some (.val (.int (x:Int)))->∃ L',aX (none,[3,1]) (hB (wX K n)) (dW (k:Int) (ps.map (·.1))) ⟨L,st⟩=.ok .next ⟨L',st⟩/\aq 2 L'=some (.val (.int ((hfold k x (ps.map (·.2)):Nat):Int)))
 | [],k,x,L,_,h=>⟨L,rfl,h⟩
 | p::r,k,x,L,hp,h=>by
  have q2:aq 2 (ah 1 (.val p.1) (ah 3 (.val (.int (k:Int))) L))=some (.val (.int (x:Int))):=(ag (by decide)).trans ((ag (by decide)).trans h)
  have q1:aq 1 (ah 1 (.val p.1) (ah 3 (.val (.int (k:Int))) L))=some (.val p.1):=ay
  have q3:aq 3 (ah 1 (.val p.1) (ah 3 (.val (.int (k:Int))) L))=some (.val (.int (k:Int))):=(ag (by decide)).trans ay
  generalize hq:ah 1 (.val p.1) (ah 3 (.val (.int (k:Int))) L)=L1 at q1 q2 q3
  have e1:aU (wX K n) "height" [ae 1] ⟨L1,st⟩=.ok (.int (p.2:Int)) ⟨L1,st⟩:=aN (vs:=[p.1]) (s₁:=⟨L1,st⟩) (ai (aZ q1) rfl) (hp p zAb)
  have e2:hB (wX K n) ⟨L1,st⟩=.ok .next ⟨ah 2 (.val (.int ((max x (k+p.2):Nat):Int))) L1,st⟩:=by
   refine bQ (o:=.ok .next _) (bH (bi2_at (aY q2) (aB (v:=.int ((k:Int)+(p.2:Int))) (aY q3) e1 (gD q3) rfl rfl) (gD q2) rfl ?_)) trivial
   show some (AV.int (max (x:Int) ((k:Int)+(p.2:Int))))=_
   rw [show max (x:Int) ((k:Int)+(p.2:Int))=((max x (k+p.2):Nat):Int) by lia]
  obtain ⟨L',f1,f2⟩:=jH r (k+1) (max x (k+p.2)) _ (fun p q=>hp p (zAc _ q)) (ay (k:=2) (L:=L1) (lv:=.val (.int ((max x (k+p.2):Nat):Int))))
  exact ⟨L',bC (ks:=[3,1]) (vs:=[.int (k:Int),p.1]) rfl (by show hB _ ⟨ah 1 _ (ah 3 _ L),st⟩=_; rw [hq]; exact e2) f1,f2⟩
theorem height_big {p0:AV × Nat} (hl:(p0::ps).length<=1000) (ht:(seq tg "choose" || seq tg "let")=true) (hw:aw PP K n ⟨#[]⟩ "within" [.tup (.str tg::tl)] st=.ok (.lst ((p0::ps).map (·.1))) st) (hp:∀ p ∈ p0::ps,aw PP K n ⟨#[]⟩ "height" [p.1] st=.ok (.int (p.2:Int)) st):aw PP K (n+1) ⟨#[]⟩ "height" [.tup (.str tg::tl)] st=.ok (.int ((max p0.2 (mxN (ps.map (·.2))):Nat):Int)) st:=by
 rw [mT]
 show RT (jz (wX K n)) ⟨[(0,.val (.tup (.str tg::tl)))],st⟩ _
 have e1:=gx (fn:="height") (ps:=p0::ps) (L:=[(0,.val (.tup (.str tg::tl)))]) (st:=st) rfl hw hp hl
 refine .ifB (c:=true) (s':=⟨[(0,.val (.tup (.str tg::tl)))],st⟩) ?_ (.assoc (.ret (cn (v:=.int ((max p0.2 (mxN (ps.map (·.2))):Nat):Int)) e1 rfl ?_) rfl))
 ·refine (eP (c:=seq tg "choose") rfl).trans ?_
  cases h:seq tg "choose" with
  | true=>rfl
  | false=>rw [h] at ht; show Out.ok (AV.bool (seq tg "let")) _=_; rw [show seq tg "let"=true from ht]
 ·show (cU ((p0::ps).map fun p=>.int (p.2:Int))).bind (fun ns=>(gq ns).map AV.int)=_
  rw [fI]
  show some (AV.int _)=_
  rw [gU]
theorem height_node (ht:seq tg "choose"=false) (ht':seq tg "let"=false) (hw:aw PP K n ⟨#[]⟩ "within" [.tup (.str tg::tl)] st=.ok (.lst (ps.map (·.1))) st) (hp:∀ p ∈ ps,aw PP K n ⟨#[]⟩ "height" [p.1] st=.ok (.int (p.2:Int)) st):aw PP K (n+1) ⟨#[]⟩ "height" [.tup (.str tg::tl)] st=.ok (.int ((hfold 0 1 (ps.map (·.2)):Nat):Int)) st:=by
 rw [mT]
 show RT (jz (wX K n)) ⟨[(0,.val (.tup (.str tg::tl)))],st⟩ _
 obtain ⟨L',f1,f2⟩:=jH (K:=K) (n:=n) (st:=st) ps 0 1 [(0,.val (.tup (.str tg::tl))),(2,.val (.int 1))] hp rfl
 refine .ifB (c:=false) (s':=⟨[(0,.val (.tup (.str tg::tl)))],st⟩) ((eP (c:=seq tg "choose") rfl).trans (by rw [ht]; show Out.ok (AV.bool (seq tg "let")) _=_; rw [ht'])) (.next (.go (s':=⟨[(0,.val (.tup (.str tg::tl))),(2,.val (.int 1))],st⟩) rfl ?_))
 have e1:fm .enum [aU (wX K n) "within" [ae 0]] ⟨[(0,.val (.tup (.str tg::tl))),(2,.val (.int 1))],st⟩=.ok (.tup (dW 0 (ps.map (·.1)))) ⟨[(0,.val (.tup (.str tg::tl))),(2,.val (.int 1))],st⟩:=by
  unfold fm
  rw [au (ai (aN (vs:=[.tup (.str tg::tl)]) (s₁:=⟨[(0,.val (.tup (.str tg::tl))),(2,.val (.int 1))],st⟩) rfl hw) rfl)]; rfl
 exact .forT e1 f1 (.ret (aZ f2) rfl)
end
section
variable {sig:Str->Option Nat}
theorem dK {K n h:Nat} {st:St} {t:Tr} {ns:List Str} (q:t.wf sig h ns none) (hn:1<=n):aw PP K n ⟨#[]⟩ "within" [t.enc] st=.ok (.lst (gM t)) st:=by
 obtain ⟨n,rfl⟩:∃ n',n=n'+1:=⟨n - 1,by lia⟩
 exact dF q
theorem lets_ok:∀ (t:Tr) {h:Nat} {ns:List Str} {k:Option Nat},t.wf sig h ns k->LnG "lets" mxN ltN h t k:=by
 have nd:∀ {t:Tr} {h:Nat} {ns:List Str} {tg:Str} {tl:List AV} {i:Nat},t.wf sig (h+1) ns none->t.enc=.tup (.str tg::tl)->seq tg "let"=false->MeaL "lets" h (gM t) mxN i->(gM t).length<=1000->Mea "lets" (h+1) t.enc i:=fun {t h ns tg tl i} q e ht m hl K n st hn=>by
  obtain ⟨n,rfl⟩:∃ n',n=n'+1:=⟨n - 1,by lia⟩
  obtain ⟨ps,e1,e2,e3⟩:=m
  have hw:=dK (K:=K) (n:=n) (st:=st) q (by lia)
  rw [e,← e1] at hw
  rw [e,← e3]
  exact lets_node (by rw [MeaL.len (fn:="") (h:=0) (agg:=List.sum) (i:=0) e1]; exact hl) ht hw (fun p hp=>e2 p hp K n st (by lia))
 intro t
 induction t with
 | num i =>
  intro h ns k q
  have q':=q
  obtain ⟨rfl,h0,_⟩:=q
  obtain ⟨h,rfl⟩:∃ h',h=h'+1:=⟨h - 1,by lia⟩
  exact nd (tg:="num") q' rfl (by decide +kernel) ⟨[],rfl,(fun p hp=>nomatch hp),rfl⟩ (zBa _)
 | name x =>
  intro h ns k q
  have q':=q
  obtain ⟨rfl,h0,_⟩:=q
  obtain ⟨h,rfl⟩:∃ h',h=h'+1:=⟨h - 1,by lia⟩
  exact nd (tg:="name") q' rfl (by decide +kernel) ⟨[],rfl,(fun p hp=>nomatch hp),rfl⟩ (zBa _)
 | deed w a b iha ihb =>
  intro h ns k q
  have q':=q
  obtain ⟨rfl,h',rfl,h1,h2⟩:=q
  have:=nd (tg:=w.str) q' rfl (by cases w <;> decide +kernel) (.two (iha h1) (ihb h2)) (by decide:2<=1000)
  show Mea _ _ _ (max (ltN a) (ltN b))
  rw [show max (ltN a) (ltN b)=mxN [ltN a,ltN b] by show _=max (ltN a) (max (ltN b) 0); rw [Nat.max_zero]]; exact this
 | choose a b c iha ihb ihc =>
  intro h ns k q
  have q':=q
  obtain ⟨rfl,h',rfl,h1,h2,h3⟩:=q
  have:=nd (tg:="choose") q' rfl (by decide +kernel) (.three (iha h1) (ihb h2) (ihc h3)) (by decide:3<=1000)
  show Mea _ _ _ (max (ltN a) (max (ltN b) (ltN c)))
  rw [show max (ltN a) (max (ltN b) (ltN c))=mxN [ltN a,ltN b,ltN c] by show _=max (ltN a) (max (ltN b) (max (ltN c) 0)); rw [Nat.max_zero]]; exact this
 | lt x a b iha ihb =>
  intro h ns k q
  obtain ⟨rfl,h',rfl,h1,h2⟩:=q
  intro K n st hn
  obtain ⟨n,rfl⟩:∃ n',n=n'+1:=⟨n - 1,by lia⟩
  exact lets_let (iha h1 K n st (by lia)) (ihb h2 K n st (by lia))
 | call f l ih =>
  intro h ns k q
  have q':=q
  obtain ⟨rfl,h',rfl,c,_,hc,h2⟩:=q
  exact nd (tg:="call") q' rfl (by decide +kernel) (ih h2) (by show (bl l.enc).length<=1000; rw [(gZ h2).2]; lia)
 | nil=>intro h ns k q; cases q; exact ⟨[],rfl,(fun p hp=>nomatch hp),rfl⟩
 | cons t r iht ihr =>
  intro h ns k q
  obtain ⟨c,rfl,h1,h2⟩:=q
  obtain ⟨ps,e1,e2,e3⟩:=ihr h2
  refine ⟨(t.enc,ltN t)::ps,congrArg (t.enc::·) e1,fun p hp=>?_,by show max (ltN t) (mxN (ps.map (·.2)))=_; rw [e3]; rfl⟩
  rcases zAl.mp hp with rfl | hp
  ·exact iht h1
  ·exact e2 p hp
noncomputable def HeG (h:Nat) (t:Tr):Option Nat->Prop
 | none=>∃ i,Mea "height" h t.enc i
 | some _=>∃ i,MeaL "height" h (bl t.enc) mxN i
theorem height_ok:∀ (t:Tr) {h:Nat} {ns:List Str} {k:Option Nat},t.wf sig h ns k->HeG h t k:=by
 have nd:∀ {t:Tr} {h:Nat} {ns:List Str} {tg:Str} {tl:List AV} {i:Nat},t.wf sig (h+1) ns none->t.enc=.tup (.str tg::tl)->seq tg "choose"=false->seq tg "let"=false->MeaL "height" h (gM t) mxN i->∃ j,Mea "height" (h+1) t.enc j:=fun {t h ns tg tl i} q e ht ht' m=>by
  obtain ⟨ps,e1,e2,e3⟩:=m
  refine ⟨hfold 0 1 (ps.map (·.2)),fun K n st hn=>?_⟩
  obtain ⟨n,rfl⟩:∃ n',n=n'+1:=⟨n - 1,by lia⟩
  have hw:=dK (K:=K) (n:=n) (st:=st) q (by lia)
  rw [e,← e1] at hw
  rw [e]
  exact height_node ht ht' hw (fun p hp=>e2 p hp K n st (by lia))
 have bg:∀ {t:Tr} {h:Nat} {ns:List Str} {tg:Str} {tl:List AV} {i:Nat},t.wf sig (h+1) ns none->t.enc=.tup (.str tg::tl)->(seq tg "choose" || seq tg "let")=true->MeaL "height" h (gM t) mxN i->(gM t).length<=1000->gM t ≠ []->∃ j,Mea "height" (h+1) t.enc j:=fun {t h ns tg tl i} q e ht m hl hne=>by
  obtain ⟨ps,e1,e2,e3⟩:=m
  cases ps with
  | nil=>exact absurd e1.symm hne
  | cons p0 ps =>
   refine ⟨max p0.2 (mxN (ps.map (·.2))),fun K n st hn=>?_⟩
   obtain ⟨n,rfl⟩:∃ n',n=n'+1:=⟨n - 1,by lia⟩
   have hw:=dK (K:=K) (n:=n) (st:=st) q (by lia)
   rw [e,← e1] at hw
   rw [e]
   exact height_big (by rw [MeaL.len (fn:="") (h:=0) (agg:=List.sum) (i:=0) e1]; exact hl) ht hw (fun p hp=>e2 p hp K n st (by lia))
 intro t
 induction t with
 | num i =>
  intro h ns k q
  have q':=q
  obtain ⟨rfl,h0,_⟩:=q
  obtain ⟨h,rfl⟩:∃ h',h=h'+1:=⟨h - 1,by lia⟩
  exact nd (tg:="num") q' rfl (by decide +kernel) (by decide +kernel) ⟨[],rfl,(fun p hp=>nomatch hp),rfl⟩
 | name x =>
  intro h ns k q
  have q':=q
  obtain ⟨rfl,h0,_⟩:=q
  obtain ⟨h,rfl⟩:∃ h',h=h'+1:=⟨h - 1,by lia⟩
  exact nd (tg:="name") q' rfl (by decide +kernel) (by decide +kernel) ⟨[],rfl,(fun p hp=>nomatch hp),rfl⟩
 | deed w a b iha ihb =>
  intro h ns k q
  have q':=q
  obtain ⟨rfl,h',rfl,h1,h2⟩:=q
  obtain ⟨i,hi⟩:=iha h1
  obtain ⟨j,hj⟩:=ihb h2
  exact nd (tg:=w.str) q' rfl (by cases w <;> decide +kernel) (by cases w <;> decide +kernel) (.two hi hj)
 | choose a b c iha ihb ihc =>
  intro h ns k q
  have q':=q
  obtain ⟨rfl,h',rfl,h1,h2,h3⟩:=q
  obtain ⟨i,hi⟩:=iha h1
  obtain ⟨j,hj⟩:=ihb h2
  obtain ⟨l,hl⟩:=ihc h3
  exact bg (tg:="choose") q' rfl (by decide +kernel) (.three hi hj hl) (by decide:3<=1000) (fun q=>nomatch q)
 | lt x a b iha ihb =>
  intro h ns k q
  have q':=q
  obtain ⟨rfl,h',rfl,h1,h2⟩:=q
  obtain ⟨i,hi⟩:=iha h1
  obtain ⟨j,hj⟩:=ihb h2
  exact bg (tg:="let") q' rfl (by decide +kernel) (.two hi hj) (by decide:2<=1000) (fun q=>nomatch q)
 | call f l ih =>
  intro h ns k q
  have q':=q
  obtain ⟨rfl,h',rfl,c,_,hc,h2⟩:=q
  obtain ⟨i,hi⟩:=ih h2
  exact nd (tg:="call") q' rfl (by decide +kernel) (by decide +kernel) hi
 | nil=>intro h ns k q; cases q; exact ⟨0,[],rfl,(fun p hp=>nomatch hp),rfl⟩
 | cons t r iht ihr =>
  intro h ns k q
  obtain ⟨c,rfl,h1,h2⟩:=q
  obtain ⟨i,hi⟩:=iht h1
  obtain ⟨j,ps,e1,e2,e3⟩:=ihr h2
  refine ⟨_,(t.enc,i)::ps,congrArg (t.enc::·) e1,fun p hp=>?_,rfl⟩
  rcases zAl.mp hp with rfl | hp
  ·exact hi
  ·exact e2 p hp
end
end Mine
end
section
set_option genSizeOf false
set_option genSizeOfSpec false
set_option genInjectivity false
set_option autoImplicit false
set_option linter.unusedVariables false
set_option maxRecDepth 100000
set_option genSizeOf false
set_option genSizeOfSpec false
set_option genInjectivity false
set_option genCtorIdx false
namespace Mine
open PySem
inductive Rw where
 | push (i:Int)
 | load (k:Nat)
 | keep (k:Nat)
 | deed (w:Dw)
 | unl (n:Nat)
 | skp (n:Nat)
 | call (s:Nat × Nat × Nat)
 | back
noncomputable def Rw.enc:Rw->AV
 | .push i=>.tup [.str "push",.int i]
 | .load k=>.tup [.str "load",.int (k:Int)]
 | .keep k=>.tup [.str "keep",.int (k:Int)]
 | .deed w=>.tup [.str "do",.str w.str]
 | .unl n=>.tup [.str "unless",.int (n:Int)]
 | .skp n=>.tup [.str "skip",.int (n:Int)]
 | .call s=>.tup [.str "call",.int (s.1:Int),.int (s.2.1:Int),.int (s.2.2:Int)]
 | .back=>.tup [.str "back"]
noncomputable abbrev Sg:=List (Str × Nat)
noncomputable def comp (sf:Str->Nat × Nat × Nat):Tr->Sg->Nat->Nat->List Rw
 | .num i,_,_,_=>[.push i]
 | .name x,σ,_,_=>[.load ((aR x σ).getD 0)]
 | .deed w a b,σ,f,p=>comp sf a σ f p++(comp sf b σ f (p+len a)++[.deed w])
 | .choose a b c,σ,f,p=>comp sf a σ f p++(.unl (p+len a+1+len b+1)::(comp sf b σ f (p+len a+1)++(.skp (p+len a+1+len b+1+len c)::comp sf c σ f (p+len a+1+len b+1))))
 | .lt x a b,σ,f,p=>comp sf a σ f p++(.keep f::comp sf b ((x,f)::σ) (f+1) (p+len a+1))
 | .call g l,σ,f,p=>comp sf l σ f p++[.call (sf g)]
 | .nil,_,_,_=>[]
 | .cons t r,σ,f,p=>comp sf t σ f p++comp sf r σ f (p+len t)
theorem dg {sf:Str->Nat × Nat × Nat}:∀ (t:Tr) (σ:Sg) (f p:Nat),(comp sf t σ f p).length=len t:=by
 intro t
 induction t with
 | num i=>intro σ f p; rfl
 | name x=>intro σ f p; rfl
 | deed w a b iha ihb=>intro σ f p; simp only [comp,zAd,iha,ihb,List.length_singleton,len]; lia
 | choose a b c iha ihb ihc=>intro σ f p; simp only [comp,zAd,zC6,iha,ihb,ihc,len]; lia
 | lt x a b iha ihb=>intro σ f p; simp only [comp,zAd,zC6,iha,ihb,len]; lia
 | call g l ih=>intro σ f p; simp only [comp,zAd,ih,List.length_singleton,len]
 | nil=>intro σ f p; rfl
 | cons t r iht ihr=>intro σ f p; simp only [comp,zAd,iht,ihr,len]
noncomputable abbrev smF (b:Nat) (sv:AV):List (Str × AV):=[("rows",.cel (b+1)),("starts",sv)]
noncomputable abbrev sm (pre:St) (sv:AV) (R:List AV):St:=pre++[.flds (smF pre.length sv),.cont (.lst R)]
noncomputable abbrev og (K n b:Nat) (t sl:AV) (f:Nat) (st:St):Ret:=aw PP K n "Smith" "add" [.obj "Smith" b,t,sl,.int (f:Int)] st
noncomputable abbrev cy (b:Nat) (t sl:AV) (f:Nat):bF:=[(0,.val (.obj "Smith" b)),(1,.val t),(2,.val sl),(3,.val (.int (f:Int)))]
section
variable {K n:Nat} {pre:St} {sv sl t a b c v:AV} {R R1 R2 R3:List AV} {f:Nat} {L L₁:bF} {d e g:D AV} {x:Str}
theorem iv {i:Nat} {ta sl':AV} {f':Nat} (h0:aq i L=some (.val (.obj "Smith" pre.length))) (he:br [d,e,g] ⟨L,sm pre sv R⟩=.ok [ta,sl',.int (f':Int)] ⟨L₁,sm pre sv R⟩) (h:og K n pre.length ta sl' f' (sm pre sv R)=.ok .none (sm pre sv R1)) :
  cX (bz (wX K n) (aa i) "add" [d,e,g]) ⟨L,sm pre sv R⟩=.ok .next ⟨L₁,sm pre sv R1⟩ :=
 cF ((iK (X:=wX K n) (s:=⟨L,sm pre sv R⟩) sm_add h0 bb he).trans (congrArg (fun q=>ez q _) h))
theorem gK {i:Nat} (h0:aq i L=some (.val (.obj "Smith" pre.length))) (hd:d ⟨L,sm pre sv R⟩=.ok v ⟨L₁,sm pre sv R⟩) (hR:R.length<=1000):cX (dm (aQ (aa i) "rows") d) ⟨L,sm pre sv R⟩=.ok .next ⟨L₁,sm pre sv (R++[v])⟩:=by
 refine cF (v:=.none) ?_
 have ho:aQ (aa i) "rows" ⟨L,sm pre sv R⟩=.ok (.cel (pre.length+1)) ⟨L,sm pre sv R⟩:=cM h0 bb (by kernel_rfl)
 have hc:eI (.cel (pre.length+1)) ⟨L,sm pre sv R⟩=.ok () ⟨L,sm pre sv R⟩:=by
  unfold eI aS dq
  dsimp only
  rw [gG]; rfl
 have hz:appV v (.lst R)=some (.lst (R++[v])):=by
  show bD (R++[v])=_
  unfold bD
  rw [if_pos]
  rw [zAd]
  exact zAj (zBh hR 1) (show 1000+1<=sizeLine by decide +kernel)
 have hm:b8 (.cel (pre.length+1)) (appV v) ⟨L₁,sm pre sv R⟩=.ok () ⟨L₁,sm pre sv (R++[v])⟩:=by
  unfold b8 dq
  dsimp only
  rw [gG]
  dsimp only
  rw [hz]
  dsimp only
  rw [set_app1]
 unfold dm
 rw [au ho,au hc,au hd,au hm]; rfl
noncomputable abbrev aBd (K n:Nat):D Fl:=ac (cX (bz (wX K n) (aa 0) "add" [ae 5,ae 2,ae 3])) (af .next)
noncomputable def AL (K n:Nat) (pre:St) (sv:AV) (ts:List AV) (tree sl:AV) (f:Nat) (R R':List AV):Prop:=∀ L,aq 0 L=some (.val (.obj "Smith" pre.length))->aq 1 L=some (.val tree)->aq 2 L=some (.val sl)->aq 3 L=some (.val (.int (f:Int))) ->
 ∃ L',aX (some 5,[]) (aBd K n) ts ⟨L,sm pre sv R⟩=.ok .next ⟨L',sm pre sv R'⟩/\aq 0 L'=some (.val (.obj "Smith" pre.length))/\aq 1 L'=some (.val tree)
theorem AL.nil {tree:AV}:AL K n pre sv [] tree sl f R R:=fun L h0 h1 _ _=>⟨L,rfl,h0,h1⟩
theorem AL.cons {tree:AV} {ts:List AV} (h1:og K n pre.length t sl f (sm pre sv R)=.ok .none (sm pre sv R1)) (h2:AL K n pre sv ts tree sl f R1 R2):AL K n pre sv (t::ts) tree sl f R R2:=fun L g0 g1 g2 g3=>by
 have q0:aq 0 (ah 5 (.val t) L)=some (.val (.obj "Smith" pre.length)):=(ag (by decide)).trans g0
 have q1:aq 1 (ah 5 (.val t) L)=some (.val tree):=(ag (by decide)).trans g1
 have q2:aq 2 (ah 5 (.val t) L)=some (.val sl):=(ag (by decide)).trans g2
 have q3:aq 3 (ah 5 (.val t) L)=some (.val (.int (f:Int))):=(ag (by decide)).trans g3
 obtain ⟨L',f1,f2⟩:=h2 _ q0 q1 q2 q3
 exact ⟨L',bG (bQ (o:=.ok .next _) (iv q0 (ai (aZ ay) (ai (aZ q2) (ai (aZ q3) rfl))) h1) trivial) f1,f2⟩
theorem add_num {i:Int} (hR:R.length<=1000):og K (n+1) pre.length (.tup [.str "num",.int i]) sl f (sm pre sv R)=.ok .none (sm pre sv (R++[(Rw.push i).enc])):=by
 show aw PP K (n+1) _ _ _ _=_
 rw [cK]
 show RT (bf (wX K n)) _ _
 unfold bf
 exact .eqT (x:="num") (y:="num") (by decide +kernel) rfl (.assoc (.go (gK (L₁:=cy pre.length (.tup [.str "num",.int i]) sl f) (v:=(Rw.push i).enc) rfl rfl hR) (.next (.nil rfl))))
theorem add_name {ks ws:List AV} {j:Nat} (hR:R.length<=1000) (h:cW (.str x) ks ws=some (.int (j:Int))):og K (n+1) pre.length (.tup [.str "name",.str x]) (.dct ks ws) f (sm pre sv R)=.ok .none (sm pre sv (R++[(Rw.load j).enc])):=by
 show aw PP K (n+1) _ _ _ _=_
 rw [cK]
 show RT (bf (wX K n)) _ _
 unfold bf
 refine .eqN (x:="name") (y:="num") (by decide +kernel) rfl (.assoc (.eqT (x:="name") (y:="name") (by decide +kernel) rfl (.assoc (.go (gK (L₁:=cy pre.length (.tup [.str "name",.str x]) (.dct ks ws) f) (v:=(Rw.load j).enc) rfl ?_ hR) (.next (.next (.nil rfl)))))))
 have e:al (aa 2) (al (aa 1) (af (.int 1))) ⟨cy pre.length (.tup [.str "name",.str x]) (.dct ks ws) f,sm pre sv R⟩=.ok (.int (j:Int)) ⟨cy pre.length (.tup [.str "name",.str x]) (.dct ks ws) f,sm pre sv R⟩:=by
  show Mine.opt (cW (.str x) ks ws) _=_
  rw [h]; rfl
 exact (au (ai rfl (ai e rfl))).trans rfl
theorem add_deed (w:Dw) (hw:aw PP K n ⟨#[]⟩ "within" [.tup [.str w.str,a,b]] (sm pre sv R)=.ok (.lst [a,b]) (sm pre sv R)) (A:AL K n pre sv [a,b] (.tup [.str w.str,a,b]) sl f R R1) (hR:R1.length<=1000):og K (n+1) pre.length (.tup [.str w.str,a,b]) sl f (sm pre sv R)=.ok .none (sm pre sv (R1++[(Rw.deed w).enc])):=by
 show aw PP K (n+1) _ _ _ _=_
 rw [cK]
 show RT (bf (wX K n)) _ _
 unfold bf
 refine .eqN (x:=w.str) (y:="num") (by cases w <;> decide +kernel) rfl (.assoc (.eqN (x:=w.str) (y:="name") (by cases w <;> decide +kernel) rfl (.assoc (.eqN (x:=w.str) (y:="choose") (by cases w <;> decide +kernel) rfl (.assoc (.eqN (x:=w.str) (y:="let") (by cases w <;> decide +kernel) rfl (.assoc ?_)))))))
 obtain ⟨L',f1,f2,f3⟩:=A (cy pre.length (.tup [.str w.str,a,b]) sl f) rfl rfl rfl rfl
 refine .forI (l:=[a,b]) (s₁:=⟨cy pre.length (.tup [.str w.str,a,b]) sl f,sm pre sv R⟩) (dB (aN (vs:=[.tup [.str w.str,a,b]]) (s₁:=⟨cy pre.length (.tup [.str w.str,a,b]) sl f,sm pre sv R⟩) rfl hw)) f1 ?_
 have d0:al (aa 1) (af (.int 0)) ⟨L',sm pre sv R1⟩=.ok (.str w.str) ⟨L',sm pre sv R1⟩:=bx (aY f3) rfl (b5 f3) rfl
 refine .assoc (.eqN (x:=w.str) (y:="call") (by cases w <;> decide +kernel) ((bJ d0 rfl).trans rfl) (.assoc ?_))
 exact .go (gK f2 ((au (ai rfl (ai d0 rfl))).trans rfl) hR) (.next (.next (.next (.next (.next (.nil rfl))))))
theorem add_call {ts sks sws:List AV} {fn:Str} {s:Nat × Nat × Nat} {ht:AV} (hw:aw PP K n ⟨#[]⟩ "within" [.tup [.str "call",.str fn,.tup ts]] (sm pre (.dct sks sws) R)=.ok (.lst ts) (sm pre (.dct sks sws) R)) (A:AL K n pre (.dct sks sws) ts (.tup [.str "call",.str fn,.tup ts]) sl f R R1) (hR:R1.length<=1000) (hs:cW (.str fn) sks sws=some (.tup [.int (s.1:Int),.int (s.2.1:Int),.int (s.2.2:Int),ht])):og K (n+1) pre.length (.tup [.str "call",.str fn,.tup ts]) sl f (sm pre (.dct sks sws) R)=.ok .none (sm pre (.dct sks sws) (R1++[(Rw.call s).enc])):=by
 show aw PP K (n+1) _ _ _ _=_
 rw [cK]
 show RT (bf (wX K n)) _ _
 unfold bf
 refine .eqN (x:="call") (y:="num") (by decide +kernel) rfl (.assoc (.eqN (x:="call") (y:="name") (by decide +kernel) rfl (.assoc (.eqN (x:="call") (y:="choose") (by decide +kernel) rfl (.assoc (.eqN (x:="call") (y:="let") (by decide +kernel) rfl (.assoc ?_)))))))
 obtain ⟨L',f1,f2,f3⟩:=A (cy pre.length (.tup [.str "call",.str fn,.tup ts]) sl f) rfl rfl rfl rfl
 refine .forI (l:=ts) (s₁:=⟨cy pre.length (.tup [.str "call",.str fn,.tup ts]) sl f,sm pre (.dct sks sws) R⟩) (dB (aN (vs:=[.tup [.str "call",.str fn,.tup ts]]) (s₁:=⟨cy pre.length (.tup [.str "call",.str fn,.tup ts]) sl f,sm pre (.dct sks sws) R⟩) rfl hw)) f1 ?_
 have d0:al (aa 1) (af (.int 0)) ⟨L',sm pre (.dct sks sws) R1⟩=.ok (.str "call") ⟨L',sm pre (.dct sks sws) R1⟩:=bx (aY f3) rfl (b5 f3) rfl
 have d1:al (aQ (aa 0) "starts") (al (aa 1) (af (.int 1))) ⟨L',sm pre (.dct sks sws) R1⟩=.ok (.tup [.int (s.1:Int),.int (s.2.1:Int),.int (s.2.2:Int),ht]) ⟨L',sm pre (.dct sks sws) R1⟩:=bx (c:=.dct sks sws) (c':=.dct sks sws) (i:=.str fn) (cM f2 bb (by kernel_rfl)) (bx (aY f3) rfl (b5 f3) rfl) rfl hs
 refine .assoc (.eqT (x:="call") (y:="call") (by decide +kernel) ((bJ d0 rfl).trans rfl) (.assoc (.asg d1 (.assoc ?_))))
 have q6:aq 6 (ah 6 (.val (.tup [.int (s.1:Int),.int (s.2.1:Int),.int (s.2.2:Int),ht])) L')=some (.val (.tup [.int (s.1:Int),.int (s.2.1:Int),.int (s.2.2:Int),ht])):=ay
 have q0:aq 0 (ah 6 (.val (.tup [.int (s.1:Int),.int (s.2.1:Int),.int (s.2.2:Int),ht])) L')=some (.val (.obj "Smith" pre.length)):=(ag (by decide)).trans f2
 refine .go (gK (v:=(Rw.call s).enc) q0 ((au (ai rfl (ai (bx (aY q6) rfl (b5 q6) rfl) (ai (bx (aY q6) rfl (b5 q6) rfl) (ai (bx (aY q6) rfl (b5 q6) rfl) rfl))))).trans rfl) hR) (.next (.next (.next (.next (.next (.nil rfl))))))
theorem add_let {ks ws:List AV} (hk:ks.length<=1000) (ha:og K n pre.length a (.dct ks ws) f (sm pre sv R)=.ok .none (sm pre sv R1)) (hR:R1.length<=1000) (hb:og K n pre.length b (.dct (bX (.str x) ks) (cr (.str x) (.int (f:Int)) ks ws)) (f+1) (sm pre sv (R1++[(Rw.keep f).enc]))=.ok .none (sm pre sv R2)) :
  og K (n+1) pre.length (.tup [.str "let",.str x,a,b]) (.dct ks ws) f (sm pre sv R)=.ok .none (sm pre sv R2):=by
 show aw PP K (n+1) _ _ _ _=_
 rw [cK]
 show RT (bf (wX K n)) _ _
 unfold bf
 refine .eqN (x:="let") (y:="num") (by decide +kernel) rfl (.assoc (.eqN (x:="let") (y:="name") (by decide +kernel) rfl (.assoc (.eqN (x:="let") (y:="choose") (by decide +kernel) rfl (.assoc (.eqT (x:="let") (y:="let") (by decide +kernel) rfl (.assoc ?_)))))))
 refine .go (iv (L₁:=cy pre.length (.tup [.str "let",.str x,a,b]) (.dct ks ws) f) rfl rfl ha) (.assoc ?_)
 refine .go (gK (L₁:=cy pre.length (.tup [.str "let",.str x,a,b]) (.dct ks ws) f) (v:=(Rw.keep f).enc) rfl rfl hR) (.assoc ?_)
 refine .go (s':=⟨cy pre.length (.tup [.str "let",.str x,a,b]) (.dct ks ws) f++[(4,.own (.dct ks ws))],sm pre sv (R1++[(Rw.keep f).enc])⟩) rfl (.assoc ?_)
 refine .go (s':=⟨cy pre.length (.tup [.str "let",.str x,a,b]) (.dct ks ws) f++[(4,.own (.dct (bX (.str x) ks) (cr (.str x) (.int (f:Int)) ks ws)))],sm pre sv (R1++[(Rw.keep f).enc])⟩) (cG (S₁:=⟨cy pre.length (.tup [.str "let",.str x,a,b]) (.dct ks ws) f++[(4,.own (.dct ks ws))],sm pre sv (R1++[(Rw.keep f).enc])⟩) rfl rfl rfl rfl (jc hk) rfl) (.assoc ?_)
 exact .go (iv (L₁:=cy pre.length (.tup [.str "let",.str x,a,b]) (.dct ks ws) f++[(4,.val (.dct (bX (.str x) ks) (cr (.str x) (.int (f:Int)) ks ws)))]) rfl rfl hb) (.next (.next (.next (.next (.nil rfl)))))
end
end Mine
end
section
set_option autoImplicit false
set_option linter.unusedVariables false
set_option maxRecDepth 100000
namespace Mine
open PySem
section
variable {K n:Nat} {pre:St} {sv sl t a b c v:AV} {R R1 R2 R3:List AV} {f:Nat} {x:Str}
theorem add_choose {i j:Nat} (ha:og K n pre.length a sl f (sm pre sv R)=.ok .none (sm pre sv R1)) (hlb:∀ st,aw PP K n ⟨#[]⟩ "length" [b] st=.ok (.int (i:Int)) st) (hlc:∀ st,aw PP K n ⟨#[]⟩ "length" [c] st=.ok (.int (j:Int)) st) (hR1:R1.length<=1000)
  (hb:og K n pre.length b sl f (sm pre sv (R1++[(Rw.unl (R1.length+1+i+1)).enc]))=.ok .none (sm pre sv R2)) (hR:R2.length<=1000) (hc:og K n pre.length c sl f (sm pre sv (R2++[(Rw.skp (R1.length+1+i+1+j)).enc]))=.ok .none (sm pre sv R3)) :
  og K (n+2) pre.length (.tup [.str "choose",a,b,c]) sl f (sm pre sv R)=.ok .none (sm pre sv R3):=by
 have main:aw PP K (n+1) "Smith" "choose" [.obj "Smith" pre.length,.tup [.str "choose",a,b,c],sl,.int (f:Int)] (sm pre sv R)=.ok .none (sm pre sv R3):=by
  rw [kg]
  show RT (dU (wX K n)) ⟨cy pre.length (.tup [.str "choose",a,b,c]) sl f,sm pre sv R⟩ _
  unfold dU
  have at4:aW aA false [aQ (aa 0) "rows"] ⟨cy pre.length (.tup [.str "choose",a,b,c]) sl f,sm pre sv R1⟩=.ok (.int (R1.length:Int)) ⟨cy pre.length (.tup [.str "choose",a,b,c]) sl f,sm pre sv R1⟩:=cn (a:=.cel (pre.length+1)) (c:=.lst R1) (cM rfl bb (by kernel_rfl)) (by unfold aS dq; dsimp only; rw [gG]) rfl
  have e4:aT 4 (aj .Add (aW aA false [aQ (aa 0) "rows"]) (af (.int 1))) ⟨cy pre.length (.tup [.str "choose",a,b,c]) sl f,sm pre sv R1⟩=.ok .next ⟨cy pre.length (.tup [.str "choose",a,b,c]) sl f++[(4,.val (.int ((R1.length+1:Nat):Int)))],sm pre sv R1⟩:=bp (v:=.int ((R1.length+1:Nat):Int)) (s':=⟨cy pre.length (.tup [.str "choose",a,b,c]) sl f,sm pre sv R1⟩) (aB at4 rfl rfl rfl rfl)
  have e5:aT 5 (aj .Add (aj .Add (aa 4) (aU (wX K n) "length" [al (aa 1) (af (.int 2))])) (af (.int 1))) ⟨cy pre.length (.tup [.str "choose",a,b,c]) sl f++[(4,.val (.int ((R1.length+1:Nat):Int)))],sm pre sv R1⟩=.ok .next ⟨cy pre.length (.tup [.str "choose",a,b,c]) sl f++[(4,.val (.int ((R1.length+1:Nat):Int))),(5,.val (.int ((R1.length+1+i+1:Nat):Int)))],sm pre sv R1⟩ :=
   bp (v:=.int ((R1.length+1+i+1:Nat):Int)) (s':=⟨cy pre.length (.tup [.str "choose",a,b,c]) sl f++[(4,.val (.int ((R1.length+1:Nat):Int)))],sm pre sv R1⟩) (aB (a':=.int ((R1.length+1+i:Nat):Int)) (b':=.int 1) (aB (a':=.int ((R1.length+1:Nat):Int)) (b':=.int (i:Int)) rfl (aN (vs:=[b]) (s₁:=⟨cy pre.length (.tup [.str "choose",a,b,c]) sl f++[(4,.val (.int ((R1.length+1:Nat):Int)))],sm pre sv R1⟩) rfl (hlb _)) rfl rfl rfl) rfl rfl rfl rfl)
  have e6:aJ [af (.str "skip"),aj .Add (aa 5) (aU (wX K n) "length" [al (aa 1) (af (.int 3))])] ⟨cy pre.length (.tup [.str "choose",a,b,c]) sl f++[(4,.val (.int ((R1.length+1:Nat):Int))),(5,.val (.int ((R1.length+1+i+1:Nat):Int)))],sm pre sv R2⟩=.ok (Rw.skp (R1.length+1+i+1+j)).enc ⟨cy pre.length (.tup [.str "choose",a,b,c]) sl f++[(4,.val (.int ((R1.length+1:Nat):Int))),(5,.val (.int ((R1.length+1+i+1:Nat):Int)))],sm pre sv R2⟩ :=
   (au (ai rfl (ai (aB (v:=.int ((R1.length+1+i+1+j:Nat):Int)) (a':=.int ((R1.length+1+i+1:Nat):Int)) (b':=.int (j:Int)) rfl (aN (vs:=[c]) (s₁:=⟨cy pre.length (.tup [.str "choose",a,b,c]) sl f++[(4,.val (.int ((R1.length+1:Nat):Int))),(5,.val (.int ((R1.length+1+i+1:Nat):Int)))],sm pre sv R2⟩) rfl (hlc _)) rfl rfl rfl) rfl))).trans rfl
  refine .go (iv (L₁:=cy pre.length (.tup [.str "choose",a,b,c]) sl f) rfl rfl ha) (.go e4 (.go e5 ?_))
  refine .go (gK (L₁:=cy pre.length (.tup [.str "choose",a,b,c]) sl f++[(4,.val (.int ((R1.length+1:Nat):Int))),(5,.val (.int ((R1.length+1+i+1:Nat):Int)))]) (v:=(Rw.unl (R1.length+1+i+1)).enc) rfl rfl hR1) ?_
  refine .go (iv (L₁:=cy pre.length (.tup [.str "choose",a,b,c]) sl f++[(4,.val (.int ((R1.length+1:Nat):Int))),(5,.val (.int ((R1.length+1+i+1:Nat):Int)))]) rfl rfl hb) ?_
  refine .go (gK rfl e6 hR) ?_
  exact .go (iv (L₁:=cy pre.length (.tup [.str "choose",a,b,c]) sl f++[(4,.val (.int ((R1.length+1:Nat):Int))),(5,.val (.int ((R1.length+1+i+1:Nat):Int)))]) rfl rfl hc) (.nil rfl)
 show aw PP K (n+1+1) _ _ _ _=_
 rw [cK]
 show RT (bf (wX K (n+1))) _ _
 unfold bf
 refine .eqN (x:="choose") (y:="num") (by decide +kernel) rfl (.assoc (.eqN (x:="choose") (y:="name") (by decide +kernel) rfl (.assoc (.eqT (x:="choose") (y:="choose") (by decide +kernel) rfl (.assoc ?_)))))
 exact .go (s':=⟨cy pre.length (.tup [.str "choose",a,b,c]) sl f,sm pre sv R3⟩) (cF ((iK (X:=wX K (n+1)) (i:=0) (s:=⟨cy pre.length (.tup [.str "choose",a,b,c]) sl f,sm pre sv R⟩) (es:=[ae 1,ae 2,ae 3]) (s':=⟨cy pre.length (.tup [.str "choose",a,b,c]) sl f,sm pre sv R⟩) (vs:=[.tup [.str "choose",a,b,c],sl,.int (f:Int)]) sm_choose rfl bb rfl).trans (congrArg (fun q=>ez q _) main))) (.next (.next (.next (.next (.nil rfl)))))
end
noncomputable abbrev b3 (l:List Rw):List AV:=l.map Rw.enc
noncomputable def AG (K n:Nat) (pre:St) (sv sl:AV) (f:Nat) (t:Tr) (R R':List AV):Option Nat->Prop
 | none=>og K n pre.length t.enc sl f (sm pre sv R)=.ok .none (sm pre sv R')
 | some _=>∀ tree,AL K n pre sv (bl t.enc) tree sl f R R'
section
variable {K:Nat} {pre:St} {sig:Str->Option Nat} {sf:Str->Nat × Nat × Nat} {sks sws:List AV}
theorem add_ok (S:∀ f c,sig f=some c->∃ ht,cW (.str f) sks sws=some (.tup [.int ((sf f).1:Int),.int ((sf f).2.1:Int),.int ((sf f).2.2:Int),ht])) :
  ∀ (t:Tr) {h:Nat} {ns:List Str} {k:Option Nat} {σ:Sg} {ks ws:List AV} {f n:Nat} {R:List AV},t.wf sig h ns k->DEnv (fun i:Nat=>.int (i:Int)) ks ws σ->ks.length+h<=900->(∀ x ∈ ns,(aR x σ).isSome=true)->R.length+len t<=900->2 * h+2<=n->AG K n pre (.dct sks sws) (.dct ks ws) f t R (R++b3 (comp sf t σ f R.length)) k:=by
 intro t
 induction t with
 | num i =>
  intro h ns k σ ks ws f n R q D hk hn hl hN
  obtain ⟨rfl,h0,_⟩:=q
  obtain ⟨n,rfl⟩:∃ n',n=n'+1:=⟨n - 1,by lia⟩
  exact add_num (by lia)
 | name x =>
  intro h ns k σ ks ws f n R q D hk hn hl hN
  obtain ⟨rfl,h0,hx⟩:=q
  obtain ⟨n,rfl⟩:∃ n',n=n'+1:=⟨n - 1,by lia⟩
  obtain ⟨v,hv⟩:=zAx.mp (hn x hx)
  show og K (n+1) pre.length _ _ _ _=.ok .none (sm pre _ (R++[(Rw.load ((aR x σ).getD 0)).enc]))
  rw [hv]
  exact add_name (by lia) (by rw [D.get,hv]; rfl)
 | deed w a b iha ihb =>
  intro h ns k σ ks ws f n R q D hk hn hl hN
  have q':=q
  obtain ⟨rfl,h',rfl,h1,h2⟩:=q
  have hl:R.length+(len a+len b+1)<=900:=hl
  obtain ⟨n,rfl⟩:∃ n',n=n'+1:=⟨n - 1,by lia⟩
  have A:=iha (f:=f) (n:=n) (R:=R) h1 D (by lia) hn (by lia) (by lia)
  have l1:(R++b3 (comp sf a σ f R.length)).length=R.length+len a:=by rw [zAd,zAe,dg]
  have B:=ihb (f:=f) (n:=n) (R:=R++b3 (comp sf a σ f R.length)) h2 D (by lia) hn (by lia) (by lia)
  rw [l1] at B
  have:=add_deed (K:=K) (n:=n) (pre:=pre) (sv:=.dct sks sws) (sl:=.dct ks ws) (f:=f) (R:=R) w (dK q' (by lia)) (.cons A (.cons B .nil)) (by rw [zAd,l1,zAe,dg]; lia)
  show og K (n+1) pre.length (.tup [.str w.str,a.enc,b.enc]) _ _ _=.ok .none (sm pre _ (R++b3 (comp sf a σ f R.length++(comp sf b σ f (R.length+len a)++[.deed w]))))
  rw [this]
  unfold b3
  rw [zAw,zAw,← zAm,← zAm]; rfl
 | choose a b c iha ihb ihc =>
  intro h ns k σ ks ws f n R q D hk hn hl hN
  obtain ⟨rfl,h',rfl,h1,h2,h3⟩:=q
  have hl:R.length+(len a+len b+len c+2)<=900:=hl
  obtain ⟨n,rfl⟩:∃ n',n=n'+2:=⟨n - 2,by lia⟩
  have A:=iha (f:=f) (n:=n) (R:=R) h1 D (by lia) hn (by lia) (by lia)
  have l1:(R++b3 (comp sf a σ f R.length)).length=R.length+len a:=by rw [zAd,zAe,dg]
  have l2:(R++b3 (comp sf a σ f R.length)++[(Rw.unl (R.length+len a+1+len b+1)).enc]).length=R.length+len a+1:=by rw [zAd,l1]; rfl
  have B:=ihb (f:=f) (n:=n) (R:=R++b3 (comp sf a σ f R.length)++[(Rw.unl (R.length+len a+1+len b+1)).enc]) h2 D (by lia) hn (by lia) (by lia)
  rw [l2] at B
  have l3:(R++b3 (comp sf a σ f R.length)++[(Rw.unl (R.length+len a+1+len b+1)).enc]++b3 (comp sf b σ f (R.length+len a+1))++[(Rw.skp (R.length+len a+1+len b+1+len c)).enc]).length=R.length+len a+1+len b+1:=by rw [zAd,zAd,l2,zAe,dg]; rfl
  have C:=ihc (f:=f) (n:=n) (R:=R++b3 (comp sf a σ f R.length)++[(Rw.unl (R.length+len a+1+len b+1)).enc]++b3 (comp sf b σ f (R.length+len a+1))++[(Rw.skp (R.length+len a+1+len b+1+len c)).enc]) h3 D (by lia) hn (by lia) (by lia)
  rw [l3] at C
  have:=add_choose (K:=K) (n:=n) (pre:=pre) (sv:=.dct sks sws) (sl:=.dct ks ws) (f:=f) (R:=R) (i:=len b) (j:=len c) (R1:=R++b3 (comp sf a σ f R.length)) (R2:=R++b3 (comp sf a σ f R.length)++[(Rw.unl (R.length+len a+1+len b+1)).enc]++b3 (comp sf b σ f (R.length+len a+1))) A (fun st=>jF b h2 K n st (by lia)) (fun st=>jF c h3 K n st (by lia)) (by lia) (by rw [l1]; exact B) (by rw [zAd,l2,zAe,dg]; lia) (by rw [l1]; exact C)
  show og K (n+2) pre.length (.tup [.str "choose",a.enc,b.enc,c.enc]) _ _ _=_
  rw [this]
  simp only [comp,b3,zAw,zA6,zAm,List.cons_append,zDb]
 | lt x a b iha ihb =>
  intro h ns k σ ks ws f n R q D hk hn hl hN
  obtain ⟨rfl,h',rfl,h1,h2⟩:=q
  have hl:R.length+(len a+len b+1)<=900:=hl
  obtain ⟨n,rfl⟩:∃ n',n=n'+1:=⟨n - 1,by lia⟩
  have A:=iha (f:=f) (n:=n) (R:=R) h1 D (by lia) hn (by lia) (by lia)
  have l1:(R++b3 (comp sf a σ f R.length)).length=R.length+len a:=by rw [zAd,zAe,dg]
  have l2:(R++b3 (comp sf a σ f R.length)++[(Rw.keep f).enc]).length=R.length+len a+1:=by rw [zAd,l1]; rfl
  have B:=ihb (f:=f+1) (n:=n) (R:=R++b3 (comp sf a σ f R.length)++[(Rw.keep f).enc]) h2 (D.set (x:=x) (v:=f)) (by have:=(eS (k:=.str x) (v:=.int (f:Int)) D.len).2; lia) (fun y hy=>by
   show (if seq y x then some f else aR y σ).isSome=true
   cases hs:seq y x with
   | true=>rfl
   | false =>
    rcases zA8.mp hy with hy | hy
    ·exact hn y hy
    ·rw [zAf.mp hy,aP] at hs; exact cC Bool.ctorIdx hs rfl) (by lia) (by lia)
  rw [l2] at B
  have:=add_let (K:=K) (n:=n) (pre:=pre) (sv:=.dct sks sws) (f:=f) (R:=R) (x:=x) (by lia) A (by lia) B
  show og K (n+1) pre.length (.tup [.str "let",.str x,a.enc,b.enc]) _ _ _=_
  rw [this]
  simp only [comp,b3,zAw,zA6,zAm,List.cons_append,zDb]
 | call g l ih =>
  intro h ns k σ ks ws f n R q D hk hn hl hN
  have q':=q
  obtain ⟨rfl,h',rfl,c,hc,hc1,h2⟩:=q
  have hl:R.length+(len l+1)<=900:=hl
  obtain ⟨n,rfl⟩:∃ n',n=n'+1:=⟨n - 1,by lia⟩
  obtain ⟨w1,w2⟩:=gZ h2
  obtain ⟨ht,hs⟩:=S g c hc
  have A:=ih (f:=f) (n:=n) (R:=R) h2 D (by lia) hn (by lia) (by lia) (.tup [.str "call",.str g,.tup (bl l.enc)])
  have hw:=dK (K:=K) (n:=n) (st:=sm pre (.dct sks sws) R) q' (by lia)
  rw [show (Tr.call g l).enc=.tup [.str "call",.str g,.tup (bl l.enc)] from congrArg (fun z=>AV.tup [.str "call",.str g,z]) w1] at hw
  have:=add_call (K:=K) (n:=n) (pre:=pre) (sl:=.dct ks ws) (f:=f) (R:=R) hw A (by rw [zAd,zAe,dg]; lia) hs
  show og K (n+1) pre.length (.tup [.str "call",.str g,l.enc]) _ _ _=_
  rw [w1,this]
  simp only [comp,b3,zAw,zA6,zAm,List.map_nil]
 | nil =>
  intro h ns k σ ks ws f n R q D hk hn hl hN
  cases q
  intro tree
  rw [show R++b3 (comp sf .nil σ f R.length)=R from zAt R]
  exact AL.nil
 | cons t r iht ihr =>
  intro h ns k σ ks ws f n R q D hk hn hl hN
  obtain ⟨c,rfl,h1,h2⟩:=q
  have hl:R.length+(len t+len r)<=900:=hl
  intro tree
  have A:=iht (f:=f) (n:=n) (R:=R) h1 D hk hn (by lia) hN
  have l1:(R++b3 (comp sf t σ f R.length)).length=R.length+len t:=by rw [zAd,zAe,dg]
  have B:=ihr (f:=f) (n:=n) (R:=R++b3 (comp sf t σ f R.length)) h2 D hk hn (by lia) hN tree
  rw [l1] at B
  have:=AL.cons A B
  simp only [comp,b3,zAw,← zAm] at this ⊢
  exact this
end
noncomputable def tot:List Fu->Nat
 | []=>0
 | u::r=>len u.bd+1+tot r
noncomputable def fstOf (f:Str):List Fu->Nat
 | []=>0
 | u::r=>if seq f u.nm then 0 else len u.bd+1+fstOf f r
noncomputable def htOf (u:Fu):Nat:=Classical.epsilon fun i=>Mea "height" 12 u.bd.enc i
noncomputable def rmOf (u:Fu):Nat:=u.ps.length+ltN u.bd
noncomputable def stG (fs:List Fu) (u:Fu):AV:=.tup [.int (fstOf u.nm fs:Int),.int (u.ps.length:Int),.int (rmOf u:Int),.int (htOf u:Int)]
noncomputable def eA (fs:List Fu) (f:Str):Nat × Nat × Nat:=(fstOf f fs,((a9 f fs).map fun u=>(u.ps.length,rmOf u)).getD (0,0))
noncomputable abbrev du (fs:List Fu):AV:=.dct (fs.map fun u=>.str u.nm) (fs.map (stG fs))
theorem fst_at {u:Fu} {r:List Fu}:∀ {ds:List Fu},u.nm ∉ ds.map (·.nm)->fstOf u.nm (ds++u::r)=tot ds
 | [],_=>by show (if seq u.nm u.nm then 0 else _)=0; rw [aP]; rfl
 | d::ds,h=>by
  show (if seq u.nm d.nm then 0 else len d.bd+1+fstOf u.nm (ds++u::r))=len d.bd+1+tot ds
  rw [sq_ne (x:=u.nm) (y:=d.nm) fun q=>h (by rw [q]; exact zAb),fst_at fun q=>h (zAc _ q)]; rfl
theorem tot_app (ds:List Fu) (u:Fu):tot (ds++[u])=tot ds+len u.bd+1:=by
 induction ds with
 | nil=>show len u.bd+1+0=0+len u.bd+1; lia
 | cons d r ih=>show len d.bd+1+tot (r++[u])=len d.bd+1+tot r+len u.bd+1; rw [ih]; lia
section
variable {K n:Nat} {st:St} {fs:List Fu}
theorem starts_get (P:PW fs) {f:Str} {c:Nat} (h:bk fs f=some c):∃ ht,cW (.str f) (fs.map fun u=>.str u.nm) (fs.map (stG fs))=some (.tup [.int ((eA fs f).1:Int),.int ((eA fs f).2.1:Int),.int ((eA fs f).2.2:Int),ht]):=by
 obtain ⟨u,hu,hc⟩:=zAo.mp h
 refine ⟨.int (htOf u:Int),?_⟩
 unfold eA
 rw [g9,hu,← (eW hu).2]; rfl
noncomputable abbrev sB (X:Ctx):D Fl:=ac (bj (aa 1) (ae 3) (aJ [ae 2,aW aA false [aa 4],aj .Add (aW aA false [aa 4]) (aU X "lets" [ae 5]),aU X "height" [ae 5]])) (ac (aT 2 (aj .Add (aj .Add (aa 2) (aU X "length" [ae 5])) (af (.int 1)))) (af .next))
theorem jN (P:PW fs):∀ (r ds:List Fu) (L:bF),ds++r=fs->fs.length<=900->aq 1 L=some (.own (.dct (ds.map fun u=>.str u.nm) (ds.map (stG fs))))->aq 2 L=some (.val (.int (tot ds:Int)))->∃ L',aX (none,[3,4,5]) (sB (wX K (n+13))) (r.map Fu.enc) ⟨L,st⟩=.ok .next ⟨L',st⟩/\aq 1 L'=some (.own (du fs))
 | [],ds,L,hf,_,h1,h2=>⟨L,rfl,by rw [zAt] at hf; rw [h1,hf]⟩
 | u::r,ds,L,hf,hl,h1,h2=>by
  have hu:u ∈ fs:=by rw [← hf]; exact zB7 _ zAb
  have hl':ds.length+(r.length+1)<=900:=by rw [← hf,zAd] at hl; exact hl
  have hn:u.nm ∉ ds.map (·.nm):=dH (r:=r) (by rw [hf]; exact P.nd)
  have hfst:fstOf u.nm fs=tot ds:=by rw [← hf]; exact fst_at hn
  have q1:aq 1 (ah 5 (.val u.bd.enc) (ah 4 (.val (.tup (u.ps.map .str))) (ah 3 (.val (.str u.nm)) L)))=some (.own (.dct (ds.map fun u=>.str u.nm) (ds.map (stG fs)))):=(ag (by decide)).trans ((ag (by decide)).trans ((ag (by decide)).trans h1))
  have q2:aq 2 (ah 5 (.val u.bd.enc) (ah 4 (.val (.tup (u.ps.map .str))) (ah 3 (.val (.str u.nm)) L)))=some (.val (.int (tot ds:Int))):=(ag (by decide)).trans ((ag (by decide)).trans ((ag (by decide)).trans h2))
  have q3:aq 3 (ah 5 (.val u.bd.enc) (ah 4 (.val (.tup (u.ps.map .str))) (ah 3 (.val (.str u.nm)) L)))=some (.val (.str u.nm)):=(ag (by decide)).trans ((ag (by decide)).trans ay)
  have q4:aq 4 (ah 5 (.val u.bd.enc) (ah 4 (.val (.tup (u.ps.map .str))) (ah 3 (.val (.str u.nm)) L)))=some (.val (.tup (u.ps.map .str))):=(ag (by decide)).trans ay
  have q5:aq 5 (ah 5 (.val u.bd.enc) (ah 4 (.val (.tup (u.ps.map .str))) (ah 3 (.val (.str u.nm)) L)))=some (.val u.bd.enc):=ay
  generalize hq:ah 5 (.val u.bd.enc) (ah 4 (.val (.tup (u.ps.map .str))) (ah 3 (.val (.str u.nm)) L))=L1 at q1 q2 q3 q4 q5
  have ln:=gS (st:=st) q4
  rw [zAe] at ln
  have m1:aU (wX K (n+13)) "lets" [ae 5] ⟨L1,st⟩=.ok (.int (ltN u.bd:Int)) ⟨L1,st⟩:=aN (vs:=[u.bd.enc]) (s₁:=⟨L1,st⟩) (ai (aZ q5) rfl) (lets_ok u.bd (P.bd u hu) K (n+13) st (by lia))
  have m2:aU (wX K (n+13)) "height" [ae 5] ⟨L1,st⟩=.ok (.int (htOf u:Int)) ⟨L1,st⟩:=aN (vs:=[u.bd.enc]) (s₁:=⟨L1,st⟩) (ai (aZ q5) rfl) (Classical.epsilon_spec (p:=fun i=>Mea "height" 12 u.bd.enc i) (height_ok u.bd (P.bd u hu)) K (n+13) st (by lia))
  have e0:aJ [ae 2,aW aA false [aa 4],aj .Add (aW aA false [aa 4]) (aU (wX K (n+13)) "lets" [ae 5]),aU (wX K (n+13)) "height" [ae 5]] ⟨L1,st⟩=.ok (stG fs u) ⟨L1,st⟩:=by
   unfold stG
   rw [hfst]
   exact (au (ai (aZ q2) (ai ln (ai (aB (v:=.int (rmOf u:Int)) ln m1 rfl rfl rfl) (ai m2 rfl))))).trans rfl
  have e1:bj (aa 1) (ae 3) (aJ [ae 2,aW aA false [aa 4],aj .Add (aW aA false [aa 4]) (aU (wX K (n+13)) "lets" [ae 5]),aU (wX K (n+13)) "height" [ae 5]]) ⟨L1,st⟩=.ok .next ⟨ah 1 (.own (.dct ((ds++[u]).map fun u=>.str u.nm) ((ds++[u]).map (stG fs)))) L1,st⟩:=cG (S₁:=⟨L1,st⟩) e0 (aY q1) (aZ q3) q1 (jt (g:=stG fs) hn (by lia)) rfl
  have p2:aq 2 (ah 1 (.own (.dct ((ds++[u]).map fun u=>.str u.nm) ((ds++[u]).map (stG fs)))) L1)=some (.val (.int (tot ds:Int))):=(ag (by decide)).trans q2
  have p5:aq 5 (ah 1 (.own (.dct ((ds++[u]).map fun u=>.str u.nm) ((ds++[u]).map (stG fs)))) L1)=some (.val u.bd.enc):=(ag (by decide)).trans q5
  have p1:aq 1 (ah 1 (.own (.dct ((ds++[u]).map fun u=>.str u.nm) ((ds++[u]).map (stG fs)))) L1)=some (.own (.dct ((ds++[u]).map fun u=>.str u.nm) ((ds++[u]).map (stG fs)))):=ay
  generalize ah 1 (.own (.dct ((ds++[u]).map fun u=>.str u.nm) ((ds++[u]).map (stG fs)))) L1=L2 at e1 p1 p2 p5
  have m3:aU (wX K (n+13)) "length" [ae 5] ⟨L2,st⟩=.ok (.int (len u.bd:Int)) ⟨L2,st⟩:=aN (vs:=[u.bd.enc]) (s₁:=⟨L2,st⟩) (ai (aZ p5) rfl) (jF u.bd (P.bd u hu) K (n+13) st (by lia))
  have e2:aT 2 (aj .Add (aj .Add (aa 2) (aU (wX K (n+13)) "length" [ae 5])) (af (.int 1))) ⟨L2,st⟩=.ok .next ⟨ah 2 (.val (.int (tot (ds++[u]):Int))) L2,st⟩:=by
   rw [tot_app]
   exact bp (v:=.int ((tot ds+len u.bd+1:Nat):Int)) (aB (a':=.int ((tot ds+len u.bd:Nat):Int)) (b':=.int 1) (aB (a':=.int (tot ds:Int)) (b':=.int (len u.bd:Int)) (aY p2) m3 (gD p2) rfl rfl) rfl rfl rfl rfl)
  obtain ⟨L',f1,f2⟩:=jN P r (ds++[u]) (ah 2 (.val (.int (tot (ds++[u]):Int))) L2) (by rw [zAm]; exact hf) hl ((ag (by decide)).trans p1) ay
  exact ⟨L',bC (ks:=[3,4,5]) (vs:=[.str u.nm,.tup (u.ps.map .str),u.bd.enc]) rfl (by show sB _ ⟨ah 5 _ (ah 4 _ (ah 3 _ L)),st⟩=_; rw [hq]; exact (hY e1).trans ((hY e2).trans rfl)) f1,f2⟩
theorem starts_ok (P:PW fs) (hl:fs.length<=900):aw PP K (n+14) ⟨#[]⟩ "starts_of" [bB fs] st=.ok (du fs) st:=by
 rw [n4]
 show RT (i3 (wX K (n+13))) ⟨[(0,.val (bB fs))],st⟩ _
 obtain ⟨L',f1,f2⟩:=jN (K:=K) (n:=n) (st:=st) P fs [] [(0,.val (bB fs)),(1,.own (.dct [] [])),(2,.val (.int 0))] rfl hl rfl rfl
 exact .go (s':=⟨[(0,.val (bB fs)),(1,.own (.dct [] []))],st⟩) rfl (.go (s':=⟨[(0,.val (bB fs)),(1,.own (.dct [] [])),(2,.val (.int 0))],st⟩) rfl (.forI (l:=fs.map Fu.enc) (s₁:=⟨[(0,.val (bB fs)),(1,.own (.dct [] [])),(2,.val (.int 0))],st⟩) rfl f1 (.ret (eL f2) rfl)))
end
noncomputable def pix:Nat->List Str->Sg
 | _,[]=>[]
 | k,p::r=>(p,k)::pix (k+1) r
noncomputable def sg0 (u:Fu):Sg:=(pix 0 u.ps).reverse
noncomputable def code (sf:Str->Nat × Nat × Nat):List Fu->Nat->List Rw
 | [],_=>[]
 | u::r,p=>comp sf u.bd (sg0 u) u.ps.length p++.back::code sf r (p+len u.bd+1)
theorem pix_has {x:Str}:∀ {ps:List Str} {k:Nat},x ∈ ps->∃ i,(x,i) ∈ pix k ps
 | p::r,k,h=>by
  rcases zAl.mp h with rfl | h
  ·exact ⟨k,zAb⟩
  ·exact (pix_has h).imp fun _ q=>zAc _ q
noncomputable abbrev slB:D Fl:=ac (bj (aa 5) (ae 7) (ae 6)) (af .next)
theorem kM {st:St}:∀ (ps:List Str) (k:Nat) (σ:Sg) (ks ws:List AV) (L:bF),DEnv (fun i:Nat=>.int (i:Int)) ks ws σ->ks.length+ps.length<=500->aq 5 L=some (.own (.dct ks ws)) ->
  ∃ L' ks' ws',aX (none,[6,7]) slB (dW (k:Int) (ps.map .str)) ⟨L,st⟩=.ok .next ⟨L',st⟩/\(∀ j,j < 5->aq j L'=aq j L)/\aq 5 L'=some (.own (.dct ks' ws'))/\DEnv (fun i:Nat=>.int (i:Int)) ks' ws' ((pix k ps).reverse++σ)/\ks'.length<=ks.length+ps.length
 | [],k,σ,ks,ws,L,D,hl,h5=>⟨L,ks,ws,rfl,fun _ _=>rfl,h5,D,zAy _⟩
 | p::r,k,σ,ks,ws,L,D,hl,h5=>by
  have hl:ks.length+(r.length+1)<=500:=hl
  have hd:=(eS (k:=.str p) (v:=.int (k:Int)) D.len).2
  have q5:aq 5 (ah 7 (.val (.str p)) (ah 6 (.val (.int (k:Int))) L))=some (.own (.dct ks ws)):=(ag (by decide)).trans ((ag (by decide)).trans h5)
  have e1:slB ⟨ah 7 (.val (.str p)) (ah 6 (.val (.int (k:Int))) L),st⟩=.ok .next ⟨ah 5 (.own (.dct (bX (.str p) ks) (cr (.str p) (.int (k:Int)) ks ws))) (ah 7 (.val (.str p)) (ah 6 (.val (.int (k:Int))) L)),st⟩ :=
   bQ (o:=.ok .next _) (cG (S₁:=⟨ah 7 (.val (.str p)) (ah 6 (.val (.int (k:Int))) L),st⟩) (aZ ((ag (by decide)).trans ay)) (aY q5) (aZ ay) q5 (jc (by lia)) rfl) trivial
  obtain ⟨L',ks',ws',f1,f2,f3,f4,f5⟩:=kM (st:=st) r (k+1) ((p,k)::σ) (bX (.str p) ks) (cr (.str p) (.int (k:Int)) ks ws) (ah 5 (.own (.dct (bX (.str p) ks) (cr (.str p) (.int (k:Int)) ks ws))) (ah 7 (.val (.str p)) (ah 6 (.val (.int (k:Int))) L))) (D.set (v:=k)) (by lia) ay
  refine ⟨L',ks',ws',bC (ks:=[6,7]) (vs:=[.int (k:Int),.str p]) rfl e1 f1,fun j hj=>?_,f3,by show DEnv _ _ _ (((p,k)::pix (k+1) r).reverse++σ); rw [List.reverse_cons,zAm]; exact f4,zAj f5 (by rw [zC6]; lia)⟩
  have nb:∀ i,5<=i->zA4 i j=false:=fun i hi=>zC0.mpr fun q=>by have:=zBm q; lia
  rw [f2 j hj,ag (nb 5 (by decide)),ag (nb 7 (by decide)),ag (nb 6 (by decide))]
section
variable {K n:Nat} {pre:St} {fs:List Fu}
noncomputable abbrev mB (X:Ctx):D Fl:=ac (aT 5 (af (.dct [] []))) (ac (cB (none,[6,7]) (fm .enum [ae 3]) slB) (ac (cX (bz X (aa 1) "add" [ae 4,ae 5,aW aA false [aa 3]])) (ac (cX (dm (aQ (aa 1) "rows") (aJ [af (.str "back")]))) (af .next))))
theorem kL (P:PW fs):∀ (r:List Fu) (R:List AV) (L:bF),(∀ u ∈ r,u ∈ fs)->R.length+tot r<=900->aq 1 L=some (.val (.obj "Smith" pre.length))->∃ L',aX (none,[2,3,4]) (mB (wX K (n+26))) (r.map Fu.enc) ⟨L,sm pre (du fs) R⟩=.ok .next ⟨L',sm pre (du fs) (R++b3 (code (eA fs) r R.length))⟩/\aq 1 L'=some (.val (.obj "Smith" pre.length))
 | [],R,L,_,_,h1=>⟨L,by rw [show R++b3 (code (eA fs) [] R.length)=R from zAt R]; rfl,h1⟩
 | u::r,R,L,hm,hl,h1=>by
  have hl:R.length+(len u.bd+1+tot r)<=900:=hl
  have hu:u ∈ fs:=hm u zAb
  have hps:=P.ps u hu
  have q1:aq 1 (ah 4 (.val u.bd.enc) (ah 3 (.val (.tup (u.ps.map .str))) (ah 2 (.val (.str u.nm)) L)))=some (.val (.obj "Smith" pre.length)):=(ag (by decide)).trans ((ag (by decide)).trans ((ag (by decide)).trans h1))
  have q3:aq 3 (ah 4 (.val u.bd.enc) (ah 3 (.val (.tup (u.ps.map .str))) (ah 2 (.val (.str u.nm)) L)))=some (.val (.tup (u.ps.map .str))):=(ag (by decide)).trans ay
  have q4:aq 4 (ah 4 (.val u.bd.enc) (ah 3 (.val (.tup (u.ps.map .str))) (ah 2 (.val (.str u.nm)) L)))=some (.val u.bd.enc):=ay
  generalize hq:ah 4 (.val u.bd.enc) (ah 3 (.val (.tup (u.ps.map .str))) (ah 2 (.val (.str u.nm)) L))=L1 at q1 q3 q4
  have e5:aT 5 (af (.dct [] [])) ⟨L1,sm pre (du fs) R⟩=.ok .next ⟨ah 5 (.own (.dct [] [])) L1,sm pre (du fs) R⟩:=rfl
  have e6:fm .enum [ae 3] ⟨ah 5 (.own (.dct [] [])) L1,sm pre (du fs) R⟩=.ok (.tup (dW 0 (u.ps.map .str))) ⟨ah 5 (.own (.dct [] [])) L1,sm pre (du fs) R⟩:=by
   unfold fm
   rw [au (ai (aZ ((ag (by decide)).trans q3)) rfl)]; rfl
  obtain ⟨L2,ks,ws,f1,f2,f3,D,hk⟩:=kM (st:=sm pre (du fs) R) u.ps 0 [] [] [] (ah 5 (.own (.dct [] [])) L1) .nil (by show 0+_<=_; lia) ay
  rw [zAt] at D
  have hk:ks.length<=u.ps.length:=zAj hk (by show 0+_<=_; lia)
  have p1:aq 1 L2=some (.val (.obj "Smith" pre.length)):=(f2 1 (by decide)).trans ((ag (by decide)).trans q1)
  have p3:aq 3 L2=some (.val (.tup (u.ps.map .str))):=(f2 3 (by decide)).trans ((ag (by decide)).trans q3)
  have p4:aq 4 L2=some (.val u.bd.enc):=(f2 4 (by decide)).trans ((ag (by decide)).trans q4)
  have A:=add_ok (K:=K) (pre:=pre) (sf:=eA fs) (fun f c h=>starts_get P h) u.bd (f:=u.ps.length) (n:=n+26) (R:=R) (P.bd u hu) D (by lia) (fun x hx=>by
   obtain ⟨i,q⟩:=pix_has hx
   exact jv (List.mem_reverse.mpr q)) (by lia) (by lia)
  have g1:aq 1 (ah 5 (.val (.dct ks ws)) L2)=some (.val (.obj "Smith" pre.length)):=(ag (by decide)).trans p1
  have g3:aq 3 (ah 5 (.val (.dct ks ws)) L2)=some (.val (.tup (u.ps.map .str))):=(ag (by decide)).trans p3
  have ln:=gS (st:=sm pre (du fs) R) g3
  rw [zAe] at ln
  have e7:=iv (K:=K) (n:=n+26) (i:=1) (L:=L2) (L₁:=ah 5 (.val (.dct ks ws)) L2) (R:=R) p1 (ai (aZ p4) (ai (eL f3) (ai ln rfl))) A
  have l1:(R++b3 (comp (eA fs) u.bd (sg0 u) u.ps.length R.length)).length=R.length+len u.bd:=by rw [zAd,zAe,dg]
  have e8:=gK (i:=1) (L:=ah 5 (.val (.dct ks ws)) L2) (L₁:=ah 5 (.val (.dct ks ws)) L2) (pre:=pre) (sv:=du fs) (R:=R++b3 (comp (eA fs) u.bd (sg0 u) u.ps.length R.length)) (d:=aJ [af (.str "back")]) (v:=Rw.back.enc) g1 rfl (by lia)
  have body:mB (wX K (n+26)) ⟨L1,sm pre (du fs) R⟩=.ok .next ⟨ah 5 (.val (.dct ks ws)) L2,sm pre (du fs) (R++b3 (comp (eA fs) u.bd (sg0 u) u.ps.length R.length)++[Rw.back.enc])⟩:=by
   refine (hY e5).trans ((hY (s':=⟨L2,sm pre (du fs) R⟩) ?_).trans ((hY e7).trans ((hY e8).trans rfl)))
   show aH (fm .enum [ae 3]) _ _=_
   rw [au e6]; exact f1
  have l2:(R++b3 (comp (eA fs) u.bd (sg0 u) u.ps.length R.length)++[Rw.back.enc]).length=R.length+len u.bd+1:=by rw [zAd,l1]; rfl
  obtain ⟨L',z1,z2⟩:=kL P r (R++b3 (comp (eA fs) u.bd (sg0 u) u.ps.length R.length)++[Rw.back.enc]) (ah 5 (.val (.dct ks ws)) L2) (fun v hv=>hm v (zAc _ hv)) (by lia) g1
  refine ⟨L',bC (ks:=[2,3,4]) (vs:=[.str u.nm,.tup (u.ps.map .str),u.bd.enc]) rfl (by show mB _ ⟨ah 4 _ (ah 3 _ (ah 2 _ L)),_⟩=_; rw [hq]; exact body) ?_,z2⟩
  rw [z1,l2]
  simp only [code,b3,zAw,zA6,zAm,List.cons_append,zDb]
noncomputable abbrev cst (pre:St) (fs:List Fu):St:=pre++[.flds (smF pre.length (du fs)),.cont (.lst (b3 (code (eA fs) fs 0))),.flds (smF pre.length (du fs))]
theorem get_app2 {pre r:St} {a b c:AO}:(pre++a::b::c::r)[pre.length+2]?=some c:=by rw [zDe (zCf _ 2),zCy]; rfl
theorem set_app2 {pre r:St} {a b c d:AO}:(pre++a::b::c::r).set (pre.length+2) d=pre++a::b::d::r:=by rw [List.set_append_right _ _ (zCf _ 2),zCy]; rfl
theorem smithed_ok (P:PW fs) (hl:fs.length<=900) (ht:tot fs<=900):aw PP K (n+27) ⟨#[]⟩ "smithed" [bB fs] pre=.ok (.obj "Code" (pre.length+2)) (cst pre fs):=by
 rw [kO]
 show RT (ik (wX K (n+26))) ⟨[(0,.val (bB fs))],pre⟩ _
 refine .do (v:=b6 fs) (s':=⟨[(0,.val (bB fs))],pre⟩) (aN (vs:=[bB fs]) (s₁:=⟨[(0,.val (bB fs))],pre⟩) rfl (iz (n:=n+12) P hl)) ?_
 have hs:=aN (X:=wX K (n+26)) (f:="starts_of") (es:=[ae 0]) (vs:=[bB fs]) (s:=⟨[(0,.val (bB fs))],pre⟩) (s₁:=⟨[(0,.val (bB fs))],pre⟩) rfl (starts_ok (n:=n+12) P hl)
 have init:aw PP K (n+22) "Smith" "__init__" [.obj "Smith" pre.length,du fs] (pre++[.flds []])=.ok .none (sm pre (du fs) []):=by
  rw [i6]
  show RT (eC (wX K (n+21))) ⟨[(0,.val (.obj "Smith" pre.length)),(1,.val (du fs))],pre++[.flds []]⟩ _
  have hd:aH (bO []) toCel ⟨[(0,.val (.obj "Smith" pre.length)),(1,.val (du fs))],pre++[.flds []]⟩=.ok (.cel (pre.length+1)) ⟨[(0,.val (.obj "Smith" pre.length)),(1,.val (du fs))],pre++[.flds [],.cont (.lst [])]⟩:=by
   show Out.ok (AV.cel (pre++[AO.flds []]).length) (⟨_,pre++[AO.flds []]++[AO.cont (.lst [])]⟩:S)=_
   rw [zAm,zAd]; rfl
  have e1:=d7 (i:=0) (f:="rows") (l':=[("rows",.cel (pre.length+1))]) hd rfl bb rfl (by kernel_rfl)
  dsimp only at e1
  rw [gn] at e1
  have e2:=d7 (i:=0) (f:="starts") (d:=ae 1) (w:=du fs) (s:=⟨[(0,.val (.obj "Smith" pre.length)),(1,.val (du fs))],pre++[.flds [("rows",.cel (pre.length+1))],.cont (.lst [])]⟩) (s':=⟨[(0,.val (.obj "Smith" pre.length)),(1,.val (du fs))],pre++[.flds [("rows",.cel (pre.length+1))],.cont (.lst [])]⟩) (l':=smF pre.length (du fs)) rfl rfl bb rfl (by kernel_rfl)
  dsimp only at e2
  rw [gn] at e2
  exact .go e1 (.go e2 (.nil rfl))
 have e1:nV (wX K (n+26)) "Smith" [aU (wX K (n+26)) "starts_of" [ae 0]] ⟨[(0,.val (bB fs))],pre⟩=.ok (.obj "Smith" pre.length) ⟨[(0,.val (bB fs))],sm pre (du fs) []⟩:=by
  unfold nV
  rw [au (ai hs rfl)]
  show ez (ni pre.length "Smith" (aw PP K (n+22) "Smith" "__init__" [.obj "Smith" pre.length,du fs] (pre++[.flds []]))) _=_
  rw [init]; rfl
 obtain ⟨L',f1,f2⟩:=kL (K:=K) (n:=n) (pre:=pre) P fs [] [(0,.val (bB fs)),(1,.val (.obj "Smith" pre.length))] (fun u h=>h) (by show 0+_<=_; lia) rfl
 rw [zDb,List.length_nil] at f1
 refine .asg (s':=⟨[(0,.val (bB fs))],sm pre (du fs) []⟩) e1 (.forI (l:=fs.map Fu.enc) (s₁:=⟨[(0,.val (bB fs)),(1,.val (.obj "Smith" pre.length))],sm pre (du fs) []⟩) rfl f1 (.ret (s':=⟨L',cst pre fs⟩) ?_ rfl))
 have sq:br [aQ (aa 1) "rows",aQ (aa 1) "starts"] ⟨L',sm pre (du fs) (b3 (code (eA fs) fs 0))⟩=.ok [.cel (pre.length+1),du fs] ⟨L',sm pre (du fs) (b3 (code (eA fs) fs 0))⟩:=ai (cM f2 bb (by kernel_rfl)) (ai (cM f2 bb (by kernel_rfl)) rfl)
 have ln:(sm pre (du fs) (b3 (code (eA fs) fs 0))).length=pre.length+2:=zAd
 have cinit:aw PP K (n+22) "Code" "__init__" [.obj "Code" (pre.length+2),.cel (pre.length+1),du fs] (sm pre (du fs) (b3 (code (eA fs) fs 0))++[.flds []])=.ok .none (cst pre fs):=by
  rw [je]
  show _=Ret.ok .none (pre++[.flds (smF pre.length (du fs)),.cont (.lst (b3 (code (eA fs) fs 0))),.flds (smF pre.length (du fs))])
  generalize b3 (code (eA fs) fs 0)=R
  have g2:∀ l,(sm pre (du fs) R++[AO.flds l])[pre.length+2]?=some (.flds l):=fun l=>by rw [zAm]; exact get_app2
  have s2:∀ l l',(sm pre (du fs) R++[AO.flds l]).set (pre.length+2) (.flds l')=sm pre (du fs) R++[AO.flds l']:=fun l l'=>by rw [zAm,zAm]; exact set_app2
  show RT (eV (wX K (n+21))) ⟨[(0,.val (.obj "Code" (pre.length+2))),(1,.val (.cel (pre.length+1))),(2,.val (du fs))],sm pre (du fs) R++[.flds []]⟩ _
  have e1:=d7 (i:=0) (f:="rows") (d:=ae 1) (w:=.cel (pre.length+1)) (s:=⟨[(0,.val (.obj "Code" (pre.length+2))),(1,.val (.cel (pre.length+1))),(2,.val (du fs))],sm pre (du fs) R++[.flds []]⟩) (s':=⟨[(0,.val (.obj "Code" (pre.length+2))),(1,.val (.cel (pre.length+1))),(2,.val (du fs))],sm pre (du fs) R++[.flds []]⟩) (l':=[("rows",.cel (pre.length+1))]) rfl rfl (g2 _) rfl (by kernel_rfl)
  dsimp only at e1
  rw [s2] at e1
  have e2:=d7 (i:=0) (f:="starts") (d:=ae 2) (w:=du fs) (s:=⟨[(0,.val (.obj "Code" (pre.length+2))),(1,.val (.cel (pre.length+1))),(2,.val (du fs))],sm pre (du fs) R++[.flds [("rows",.cel (pre.length+1))]]⟩) (s':=⟨[(0,.val (.obj "Code" (pre.length+2))),(1,.val (.cel (pre.length+1))),(2,.val (du fs))],sm pre (du fs) R++[.flds [("rows",.cel (pre.length+1))]]⟩) (l':=smF pre.length (du fs)) rfl rfl (g2 _) rfl (by kernel_rfl)
  dsimp only at e2
  rw [s2] at e2
  refine .go e1 (.go e2 (.nil ?_))
  show Ret.ok .none (pre++_++_)=_
  rw [zAm]; rfl
 unfold nV
 rw [au sq]
 show ez (ni (sm pre (du fs) (b3 (code (eA fs) fs 0))).length "Code" (aw PP K (n+22) "Code" "__init__" (.obj "Code" (sm pre (du fs) (b3 (code (eA fs) fs 0))).length::[.cel (pre.length+1),du fs]) (sm pre (du fs) (b3 (code (eA fs) fs 0))++[.flds []]))) _=_
 rw [ln,cinit]; rfl
end
theorem clip_at {n:Nat} {i:Int} {k:Nat} (h:i=k) (hk:k<=n):clipAt n i=k:=by
 subst h; unfold clipAt; rw [if_neg (by lia)]; omega
section
variable {s:S} {st:St}
theorem cA {v c:AV} (h:aS v s=some c):deref v s=.ok c s:=by unfold deref; rw [h]
end
theorem fdiv_cast (k:Nat) (m:Nat):zAu (k:Int) (m:Int)=((k / m:Nat):Int):=by
 rw [Int.fdiv_eq_ediv_of_nonneg _ (zCg m)]; rfl
theorem okR_nat {k:Nat} (h:k<=1000):okR (k:Int)=true:=decide_eq_true (zBi (show (k:Int).natAbs<=1000 from h) (by decide))
theorem mn {m:Nat} (h:m<=1000):fW 0 (m:Int)=some (.lst ((List.range m).map fun i:Nat=>AV.int i)):=by
 unfold fW
 rw [okR_nat h]
 show some (AV.lst (eu 0 m))=_
 unfold eu
 rw [show ((m:Int) - 0).toNat=m by lia]
 exact congrArg (fun l=>some (AV.lst l)) (List.map_congr_left fun j _=>by rw [Int.zero_add])
theorem cj (x:Int) {m:Nat} (hm:0 < m):∃ j:Nat,j < m/\zAq x m=j:=by
 have h1:=Int.fmod_eq_emod_of_nonneg x (zCg m)
 have h2:=Int.emod_nonneg x (show (m:Int) ≠ 0 by lia)
 have h3:=Int.emod_lt_of_pos x (show (0:Int) < m by lia)
 exact ⟨(x % m).toNat,by lia,by rw [h1]; lia⟩
noncomputable def lt (x:Int):Nat:=97+(zAq x 26).toNat
noncomputable abbrev abc:Str:="abcdefghijklmnopqrstuvwxyz"
theorem abc_at:∀ j:Fin 26,abc.cps[j.val]?=some (97+j.val):=by decide +kernel
noncomputable abbrev S1 (c:Nat):AV:=.str ⟨#[c]⟩
theorem iZ (x:Int):idxV (.str abc) (.int (zAq x 26))=some (S1 (lt x)):=by
 obtain ⟨j,hj,hx⟩:=cj x (m:=26) (by decide)
 have hx:zAq x 26=j:=hx
 unfold lt
 rw [hx]
 show (if (0:Int)<=j then (abc.cps[(j:Int).toNat]?).map fun c=>AV.str ⟨#[c]⟩ else none)=_
 rw [if_pos (zCg j),zCa,abc_at ⟨j,hj⟩]; rfl
theorem mq:∀ l:List Nat,dN (l.map S1)=some (l.map fun c=>⟨#[c]⟩)
 | []=>rfl
 | c::r=>by
  show (dN (r.map S1)).map _=_
  rw [mq r]; rfl
theorem catS_S1:∀ l:List Nat,j5 (l.map fun c=>⟨#[c]⟩)=⟨l.toArray⟩
 | []=>rfl
 | c::r=>by
  show (⟨#[c]⟩:Str)++j5 (r.map fun c=>⟨#[c]⟩)=_
  rw [catS_S1 r]
  show (⟨#[c]++r.toArray⟩:Str)=_
  simp
theorem join_S1 {l:List Nat} (h:l.length<=1000):joinV (.lst (l.map S1))=some (.str ⟨l.toArray⟩):=by
 show ((dN (l.map S1)).bind fun ss=>mkSt (j5 ss))=_
 rw [mq]
 show mkSt (j5 (l.map fun c=>⟨#[c]⟩))=_
 rw [catS_S1]
 unfold mkSt
 rw [if_pos (show Str.length ⟨l.toArray⟩<=sizeLine from zAj (show l.toArray.size<=1000 by simpa using h) (by decide))]
theorem nP {l:List AV} {k:Nat} (h:k<=l.length):kJ (.lst l) .none (.int k)=some (.lst (l.take k)):=by
 show some (AV.lst ((l.drop 0).take (clipAt l.length k - 0)))=_
 rw [clip_at rfl h]; rfl
theorem kU {l:List AV} {k:Nat} (h:k<=l.length):kJ (.lst l) (.int k) .none=some (.lst (l.drop k)):=by
 show some (AV.lst ((l.drop (clipAt l.length k)).take (l.length - clipAt l.length k)))=_
 rw [clip_at rfl h,List.take_of_length_le (by rw [zB6]; exact zAy _)]
section
variable {d e l r its elt:D AV} {s s₁ s₂:S} {v a b a' b' c c' i:AV} {kk n:Nat} {op:Operator}
theorem iU {q:List Nat} (h:d s=.ok v s₁) (hv:aS v s₁=some (.lst (q.map S1))) (hq:q.length<=1000):gh d s=.ok (.str ⟨q.toArray⟩) s₁:=by
 have d1:deref v s₁=.ok (.lst (q.map S1)) s₁:=by unfold deref; rw [hv]
 unfold gh
 rw [au h,au d1,join_S1 hq]; rfl
theorem gu {caps:List (Nat × Nat)} {g:Nat->AV} (hi:its s=Mine.opt (fW 0 (n:Int)) s₁) (hl:n<=1000)
  (h:∀ j:Nat,j < n->∃ s',elt ⟨ah kk (.val (.int j)) (dY caps s₁.loc),s₁.st⟩=.ok (g j) ⟨s',s₁.st⟩) :
  bP caps kk elt its s=.ok (.lst ((List.range n).map g)) ⟨letGo caps s₁.loc,s₁.st⟩ :=
 iV (l:=List.range n) (f:=fun i:Nat=>AV.int i) (cP hi (mn hl)) (by rw [zBu]; exact hl) fun j hj=>h j (List.mem_range.mp hj)
end
theorem eg {l:List Nat} {n m:Nat} (h:l.length<=m):(l.take n).length<=m:=zAj (by rw [List.length_take]; exact zBz _ _) h
theorem i9 {l:List Nat} {n m:Nat} (h:l.length<=m):(l.drop n).length<=m:=zAj (by rw [zB6]; exact Nat.sub_le _ _) h
theorem nI {a b:List Nat} {m n:Nat} (h1:a.length<=m) (h2:b.length<=n):(a++b).length<=m+n:=by rw [zAd]; exact zCs h1 h2
theorem jO {a b:Nat} (h:a<=b) (hb:zB5 b 1000=true):a<=1000:=zAj h (zA9 hb)
theorem add_str {a b:List Nat} (h:a.length+b.length<=1000):binV .Add (.str ⟨a.toArray⟩) (.str ⟨b.toArray⟩)=some (.str ⟨(a++b).toArray⟩):=by
 show mkSt ((⟨a.toArray⟩:Str)++(⟨b.toArray⟩:Str))=_
 have e:((⟨a.toArray⟩:Str)++(⟨b.toArray⟩:Str))=⟨(a++b).toArray⟩:=by
  show (⟨a.toArray++b.toArray⟩:Str)=_
  simp
 unfold mkSt
 rw [e,if_pos (show Str.length ⟨(a++b).toArray⟩<=sizeLine from zAj (show (a++b).toArray.size<=1000 by simpa using h) (by decide))]
theorem gX {k:Nat} (h:1<=k) (h':k<=1000):cN (k:Int)=true:=by
 unfold cN ch; rw [decide_eq_false (by lia),decide_eq_true (by lia)]; rfl
noncomputable def iP (n:Nat) (f:Nat->Int):List Nat:=(List.range n).map fun j=>lt (f j)
theorem c8 (n:Nat) (f:Nat->Int):(iP n f).length=n:=by unfold iP; simp
theorem oG (n:Nat) (f:Nat->Int):(List.range n).map (fun j=>S1 (lt (f j)))=(iP n f).map S1:=by unfold iP; rw [zCu]; rfl
theorem ji (k:Nat) (m:Nat):zAq (k:Int) (m:Int)=((k % m:Nat):Int):=by
 rw [Int.fmod_eq_emod_of_nonneg _ (zCg m)]; rfl
noncomputable def lI (c:Int) (j:Nat):Int:=zAu (zAu c 4) 26+j * (1+zAq (zAu (zAu c 4) 676) 25)
noncomputable def f9 (c:Int) (k j:Nat):Int:=zAu c 4+j+8 * zAu (k:Int) 8
noncomputable def step3 (c:Int) (j:Nat):Int:=zAu c 4+3 * j
noncomputable def step0 (c:Int) (j:Nat):Int:=zAu (zAu c 4) 64+j * (1+zAq (zAu (zAu c 4) 1664) 25)
noncomputable def size0 (c:Int):Nat:=1+(zAq (zAu c 4) 8).toNat
noncomputable def at0 (c:Int):Nat:=(zAq (zAu (zAu c 4) 8) (size0 c)).toNat
noncomputable def cut3 (k:Nat):Nat:=(k % 7+1+k / 7) % 8
noncomputable def wL (c:Int) (k:Nat):List Nat :=
 if zAq c 4=1 then [lt (zAu c 4+zAu (k:Int) 8)]++(iP 7 (lI c)).take (k % 8)
 else if zAq c 4=2 then (iP 8 (f9 c k)).drop (k % 8)++(iP 8 (f9 c k)).take (k % 8)
 else if zAq c 4=3 then ((iP 8 (step3 c)).set (cut3 k) ((iP 8 (step3 c)).getD (k % 7) 0)).set (k % 7) ((iP 8 (step3 c)).getD (cut3 k) 0)
 else (iP (size0 c) (step0 c)).take (at0 c)++[lt k]++(iP (size0 c) (step0 c)).drop (at0 c+1)
noncomputable abbrev wrd (c:Int) (k:Nat):Str:=⟨(wL c k).toArray⟩
theorem at_S1 {l:List Nat} {k:Nat} (h:k < l.length):at? (l.map S1) (k:Int)=some (S1 (l.getD k 0)) :=
 lJ (by rw [zBv,zAv h,zB4,zAv h]; rfl)
theorem put_S1 {l:List Nat} {k x:Nat} (h:k < l.length):fy (.int k) (S1 x) (.lst (l.map S1))=some (.lst ((l.set k x).map S1)):=by
 show (if 0<=(k:Int)/\(k:Int).toNat < (l.map S1).length then some (AV.lst ((l.map S1).set (k:Int).toNat (S1 x))) else none)=_
 rw [zCa,if_pos ⟨zCg k,by simpa using h⟩,List.map_set]
section
variable {K n:Nat} {st:St}
theorem kG (l:List Int) (k:Nat):aw PP K (n+1) ⟨#[]⟩ "_law_cell_at" [.lst (l.map .int),.int k] st=.ok (.int (l.getD k 0)) st:=by
 rw [ke]
 show RT (dT _) _ _
 unfold dT
 by_cases h:(k:Int) < ((l.map AV.int).length:Int)
 ·have h':k < l.length:=by rw [zAe] at h; lia
  have hg:at? (l.map AV.int) (k:Int)=some (.int (l.getD k 0)):=lJ (by rw [zBv,zAv h',zB4,zAv h']; rfl)
  exact .ifT h rfl (.assoc (.ret (congrArg (fun o=>Mine.opt o ⟨_,st⟩) hg) rfl))
 ·refine .ifN h rfl (.next (.ret rfl ?_))
  rw [zAe] at h
  rw [zB4,List.getElem?_eq_none (by lia)]; rfl
theorem elt_row {r P Q:Int} {j:Nat} (hj:j < 10) (hP:∀ x,binV .FloorDiv (.int x) (.int P)=some (.int (zAu x P))) (hQ:∀ x,binV .FloorDiv (.int x) (.int Q)=some (.int (zAu x Q))) :
  al (aa 3) (aj .Mod (aj .Add (aj .FloorDiv (aa 2) (af (.int P))) (aj .Mult (aa 1) (aj .Add (af (.int 1)) (aj .Mod (aj .FloorDiv (aa 2) (af (.int Q))) (af (.int 25)))))) (af (.int 26))) ⟨[(2,.val (.int r)),(3,.val (.str abc)),(1,.val (.int j))],st⟩ =
  .ok (S1 (lt (zAu r P+j * (1+zAq (zAu r Q) 25)))) ⟨[(2,.val (.int r)),(3,.val (.str abc)),(1,.val (.int j))],st⟩:=by
 refine bx rfl (aB (a:=.int (zAu r P+j * (1+zAq (zAu r Q) 25))) (aB (aB rfl rfl rfl rfl (hP r)) (aB (v:=.int (j * (1+zAq (zAu r Q) 25))) rfl (aB rfl (aB (aB rfl rfl rfl rfl (hQ r)) rfl rfl rfl rfl) rfl rfl rfl) rfl rfl ?_) rfl rfl rfl) rfl rfl rfl rfl) rfl (iZ _)
 show (if ch j || ch (1+zAq (zAu r Q) 25) then some (AV.int (j * (1+zAq (zAu r Q) 25))) else none)=_
 rw [show ch j=true by unfold ch; simp; lia]; rfl
noncomputable abbrev gm (c k:Int) (cut:Nat) (o:bF):bF:=(0,.val (.int c))::(1,.val (.int k))::(2,.val (.str abc))::(3,.val (.int (zAu c 4)))::(4,.val (.int cut))::o
theorem iF {c k:Int} {j:Nat} {q:D Fl} {r:Ret} (hx:zAq k 8=j) (hk:RT q ⟨gm c k j [],st⟩ r):RT (ac (aL 2 (af (.str "abcdefghijklmnopqrstuvwxyz"))) (ac (aT 3 (aj .FloorDiv (aa 0) (af (.int 4)))) (ac (aT 4 (aj .Mod (aa 1) (af (.int 8)))) q))) ⟨[(0,.val (.int c)),(1,.val (.int k))],st⟩ r:=by
 have hk:RT q ⟨[(0,.val (.int c)),(1,.val (.int k)),(2,.val (.str abc)),(3,.val (.int (zAu c 4))),(4,.val (.int (zAq k 8)))],st⟩ r:=by rw [hx]; exact hk
 exact .go (s':=⟨[(0,.val (.int c)),(1,.val (.int k)),(2,.val (.str abc))],st⟩) rfl (.go (s':=⟨[(0,.val (.int c)),(1,.val (.int k)),(2,.val (.str abc)),(3,.val (.int (zAu c 4)))],st⟩) rfl (.go (s':=⟨[(0,.val (.int c)),(1,.val (.int k)),(2,.val (.str abc)),(3,.val (.int (zAu c 4))),(4,.val (.int (zAq k 8)))],st⟩) rfl hk))
theorem word_ok (c:Int) (k:Nat):aw PP K (n+1) ⟨#[]⟩ "_law_word" [.int c,.int (k:Int)] st=.ok (.str (wrd c k)) st:=by
 rw [nW]
 show RT (fX (wX K n)) ⟨[(0,.val (.int c)),(1,.val (.int (k:Int)))],st⟩ (.ok (.str (wrd c k)) st)
 unfold fX
 have hx:zAq (k:Int) 8=((k % 8:Nat):Int):=ji k 8
 have hk8:k % 8 < 8:=Nat.mod_lt _ (by decide)
 unfold wrd wL
 by_cases h1:zAq c 4=1
 ·rw [if_pos h1]
  refine (iF hx (.ifT h1 rfl (.assoc (.go (s':=⟨gm c k (k % 8) [(5,.own (.lst ((iP 7 (lI c)).map S1)))],st⟩) (bp (s':=⟨gm c k (k % 8) [],st⟩) (v:=.lst ((iP 7 (lI c)).map S1)) ?_) ?_))))
  ·rw [← oG]
   exact gu (n:=7) (s₁:=⟨gm c k (k % 8) [],st⟩) rfl (by decide) fun j hj=>⟨_,elt_row (by lia) (fun _=>rfl) (fun _=>rfl)⟩
  ·refine .assoc (.ret (aB (cP (s₁:=⟨gm c k (k % 8) [(5,.own (.lst ((iP 7 (lI c)).map S1)))],st⟩) rfl (iZ (zAu c 4+zAu (k:Int) 8))) (iU (q:=(iP 7 (lI c)).take (k % 8)) (cP (s₁:=⟨gm c k (k % 8) [(5,.own (.lst ((iP 7 (lI c)).map S1)))],st⟩) (o:=kJ (.lst ((iP 7 (lI c)).map S1)) .none (.int ((k % 8):Nat))) rfl (nP (by rw [zAe,c8]; exact Nat.le_of_lt_succ hk8))) (by rw [List.map_take]; rfl) ?_) rfl rfl (add_str (a:=[_]) ?_)) rfl)
   ·exact jO (eg (zCj (c8 _ _))) rfl
   ·exact jO (zCs (zAy 1) (eg (zCj (c8 _ _)))) rfl
 rw [if_neg h1]
 by_cases h2:zAq c 4=2
 ·rw [if_pos h2]
  refine (iF hx (.ifN h1 rfl (.next (.ifT h2 rfl (.assoc (.go (s':=⟨gm c k (k % 8) [(5,.own (.lst ((iP 8 (f9 c k)).map S1)))],st⟩) (bp (s':=⟨gm c k (k % 8) [],st⟩) (v:=.lst ((iP 8 (f9 c k)).map S1)) ?_) ?_))))))
  ·rw [← oG]
   exact gu (n:=8) (s₁:=⟨gm c k (k % 8) [],st⟩) rfl (by decide) fun j hj=>⟨_,cP rfl (iZ (f9 c k j))⟩
  ·refine .assoc (.ret (iU (q:=(iP 8 (f9 c k)).drop (k % 8)++(iP 8 (f9 c k)).take (k % 8)) (aB (v:=.lst (((iP 8 (f9 c k)).drop (k % 8)++(iP 8 (f9 c k)).take (k % 8)).map S1)) (cP (s₁:=⟨gm c k (k % 8) [(5,.own (.lst ((iP 8 (f9 c k)).map S1)))],st⟩) rfl (kU (l:=(iP 8 (f9 c k)).map S1) (k:=(k % 8)) ?_)) (cP rfl (nP (l:=(iP 8 (f9 c k)).map S1) (k:=(k % 8)) ?_)) rfl rfl ?_) rfl ?_) rfl)
   ·rw [zAe,c8]; exact zC3 hk8
   ·rw [zAe,c8]; exact zC3 hk8
   ·show bD _=_
    rw [← List.map_drop,← List.map_take,← zAw]
    exact bZ (by rw [zAe]; exact jO (nI (i9 (zCj (c8 _ _))) (eg (zCj (c8 _ _)))) rfl)
   ·exact jO (nI (i9 (zCj (c8 _ _))) (eg (zCj (c8 _ _)))) rfl
 rw [if_neg h2]
 by_cases h3:zAq c 4=3
 ·rw [if_pos h3]
  have ek:zAq (k:Int) 7=((k % 7:Nat):Int):=ji k 7
  have ec:zAq (zAq (k:Int) 7+1+zAu (k:Int) 7) 8=((cut3 k:Nat):Int):=by
   rw [ek,show zAu (k:Int) 7=((k / 7:Nat):Int) from fdiv_cast k 7]
   exact ji (k % 7+1+k / 7) 8
  have hk7:k % 7 < 7:=Nat.mod_lt _ (by decide)
  have hc8:cut3 k < 8:=Nat.mod_lt _ (by decide)
  generalize hR:iP 8 (step3 c)=R
  have hl:R.length=8:=by rw [← hR,c8]
  refine (iF hx (.ifN h1 rfl (.next (.ifN h2 rfl (.next (.ifT h3 rfl (.assoc (.go (s':=⟨gm c k (k % 8) [(5,.own (.lst (R.map S1)))],st⟩) (bp (s':=⟨gm c k (k % 8) [],st⟩) (v:=.lst (R.map S1)) ?_) ?_))))))))
  ·rw [← hR,← oG]
   exact gu (n:=8) (s₁:=⟨gm c k (k % 8) [],st⟩) rfl (by decide) fun j hj=>⟨_,cP rfl (iZ (step3 c j))⟩
  refine .assoc (.go (s':=⟨gm c k (cut3 k) [(5,.own (.lst (R.map S1)))],st⟩) (bp (v:=.int (cut3 k)) (cP (s₁:=⟨gm c k (k % 8) [(5,.own (.lst (R.map S1)))],st⟩) rfl (congrArg (fun x=>some (AV.int x)) ec))) ?_)
  refine .assoc (.go (s':=⟨gm c k (cut3 k) [(5,.own (.lst (R.map S1))),(6,.val (S1 (R.getD (cut3 k) 0)))],st⟩) (bH (cP (s₁:=⟨gm c k (cut3 k) [(5,.own (.lst (R.map S1)))],st⟩) rfl (at_S1 (by rw [hl]; exact hc8)))) ?_)
  refine .assoc (.go (s':=⟨gm c k (cut3 k) [(5,.own (.lst ((R.set (cut3 k) (R.getD (k % 7) 0)).map S1))),(6,.val (S1 (R.getD (cut3 k) 0)))],st⟩) ?_ ?_)
  ·have e1:al (aa 5) (aj .Mod (aa 1) (af (.int 7))) ⟨gm c k (cut3 k) [(5,.own (.lst (R.map S1))),(6,.val (S1 (R.getD (cut3 k) 0)))],st⟩=.ok (S1 (R.getD (k % 7) 0)) ⟨gm c k (cut3 k) [(5,.own (.lst (R.map S1))),(6,.val (S1 (R.getD (cut3 k) 0)))],st⟩ :=
    cP rfl (show at? (R.map S1) (zAq (k:Int) 7)=_ by rw [ek]; exact at_S1 (by rw [hl]; exact zBd hk7))
   unfold bj
   rw [au e1]
   show aH (b8 (.pl 5) (fy (.int (cut3 k)) (S1 (R.getD (k % 7) 0)))) _ _=_
   have e2:b8 (.pl 5) (fy (.int (cut3 k)) (S1 (R.getD (k % 7) 0))) ⟨gm c k (cut3 k) [(5,.own (.lst (R.map S1))),(6,.val (S1 (R.getD (cut3 k) 0)))],st⟩=.ok () ⟨gm c k (cut3 k) [(5,.own (.lst ((R.set (cut3 k) (R.getD (k % 7) 0)).map S1))),(6,.val (S1 (R.getD (cut3 k) 0)))],st⟩:=by
    show (match fy (.int (cut3 k)) (S1 (R.getD (k % 7) 0)) (.lst (R.map S1)) with | some c'=>_ | none=>_)=_
    rw [put_S1 (by rw [hl]; exact hc8)]; rfl
   rw [au e2]; rfl
  refine .assoc (.go (s':=⟨gm c k (cut3 k) [(5,.own (.lst (((R.set (cut3 k) (R.getD (k % 7) 0)).set (k % 7) (R.getD (cut3 k) 0)).map S1))),(6,.val (S1 (R.getD (cut3 k) 0)))],st⟩) ?_ ?_)
  ·have e2:b8 (.pl 5) (fy (.int (zAq (k:Int) 7)) (S1 (R.getD (cut3 k) 0))) ⟨gm c k (cut3 k) [(5,.own (.lst ((R.set (cut3 k) (R.getD (k % 7) 0)).map S1))),(6,.val (S1 (R.getD (cut3 k) 0)))],st⟩=.ok () ⟨gm c k (cut3 k) [(5,.own (.lst (((R.set (cut3 k) (R.getD (k % 7) 0)).set (k % 7) (R.getD (cut3 k) 0)).map S1))),(6,.val (S1 (R.getD (cut3 k) 0)))],st⟩:=by
    show (match fy (.int (zAq (k:Int) 7)) (S1 (R.getD (cut3 k) 0)) (.lst ((R.set (cut3 k) (R.getD (k % 7) 0)).map S1)) with | some c'=>_ | none=>_)=_
    rw [ek,put_S1 (by rw [List.length_set,hl]; exact zBd hk7)]; rfl
   show aH (b8 (.pl 5) (fy (.int (zAq (k:Int) 7)) (S1 (R.getD (cut3 k) 0)))) _ _=_
   rw [au e2]; rfl
  exact .assoc (.ret (iU (s₁:=⟨gm c k (cut3 k) [(5,.own (.lst (((R.set (cut3 k) (R.getD (k % 7) 0)).set (k % 7) (R.getD (cut3 k) 0)).map S1))),(6,.val (S1 (R.getD (cut3 k) 0)))],st⟩) (v:=.pl 5) rfl rfl (by rw [List.length_set,List.length_set,hl]; decide)) rfl)
 rw [if_neg h3]
 obtain ⟨q8,hq8,es⟩:=cj (zAu c 4) (m:=8) (by decide)
 have hsz:size0 c=1+q8:=by
  have es:zAq (zAu c 4) 8=q8:=es
  unfold size0; rw [es]; rfl
 have es:1+zAq (zAu c 4) 8=((1+q8:Nat):Int):=by
  have es:zAq (zAu c 4) 8=q8:=es
  rw [es]; lia
 obtain ⟨a0,ha0,ea⟩:=cj (zAu (zAu c 4) 8) (m:=1+q8) (by lia)
 have hat:at0 c=a0:=by unfold at0; rw [hsz,ea]; rfl
 rw [hsz,hat]
 generalize hR:iP (1+q8) (step0 c)=R
 have hl:R.length=1+q8:=by rw [← hR,c8]
 have h8:R.length<=8:=by lia
 refine (iF hx (.ifN h1 rfl (.next (.ifN h2 rfl (.next (.ifN h3 rfl (.next (.go (s':=⟨gm c k (k % 8) [(7,.val (.int (1+q8:Nat)))],st⟩) (bp (v:=.int (1+q8:Nat)) (cP (s₁:=⟨gm c k (k % 8) [],st⟩) rfl (congrArg (fun x=>some (AV.int x)) es))) ?_))))))))
 refine .go (s':=⟨gm c k (k % 8) [(7,.val (.int (1+q8:Nat))),(8,.val (.int a0))],st⟩) (bp (v:=.int a0) (cP (s₁:=⟨gm c k (k % 8) [(7,.val (.int (1+q8:Nat)))],st⟩) rfl ?_)) ?_
 ·show (if cN ((1+q8:Nat):Int) then some (AV.int (zAq (zAu (zAu c 4) 8) ((1+q8:Nat):Int))) else none)=_
  rw [gX (by lia) (by lia),ea]; rfl
 refine .go (s':=⟨gm c k (k % 8) [(7,.val (.int (1+q8:Nat))),(8,.val (.int a0)),(5,.own (.lst (R.map S1)))],st⟩) (bp (s':=⟨gm c k (k % 8) [(7,.val (.int (1+q8:Nat))),(8,.val (.int a0))],st⟩) (v:=.lst (R.map S1)) ?_) ?_
 ·rw [← hR,← oG]
  exact gu (n:=1+q8) (s₁:=⟨gm c k (k % 8) [(7,.val (.int (1+q8:Nat))),(8,.val (.int a0))],st⟩) rfl (by lia) fun j hj=>⟨_,elt_row (by lia) (fun _=>rfl) (fun _=>rfl)⟩
 refine .ret (aB (aB (iU (q:=R.take a0) (cP (s₁:=⟨gm c k (k % 8) [(7,.val (.int (1+q8:Nat))),(8,.val (.int a0)),(5,.own (.lst (R.map S1)))],st⟩) (o:=kJ (.lst (R.map S1)) .none (.int a0)) rfl (nP (by rw [zAe,hl]; exact zC3 ha0))) (by rw [List.map_take]; rfl) ?_) (cP (s₁:=⟨gm c k (k % 8) [(7,.val (.int (1+q8:Nat))),(8,.val (.int a0)),(5,.own (.lst (R.map S1)))],st⟩) rfl (iZ k)) rfl rfl (add_str (b:=[_]) ?_)) (iU (q:=R.drop (a0+1)) (cP (s₁:=⟨gm c k (k % 8) [(7,.val (.int (1+q8:Nat))),(8,.val (.int a0)),(5,.own (.lst (R.map S1)))],st⟩) (o:=kJ (.lst (R.map S1)) (.int ((a0+1:Nat):Int)) .none) rfl (kU (by rw [zAe,hl]; exact ha0))) (by rw [List.map_drop]; rfl) ?_) rfl rfl (add_str ?_)) rfl
 ·exact jO (eg h8) rfl
 ·exact jO (zCs (eg h8) (zAy 1)) rfl
 ·exact jO (i9 h8) rfl
 ·exact jO (zCs (nI (eg h8) (zAy 1)) (i9 h8)) rfl
variable {L:bF} {ns:List Int}
end
section
variable {sig:Str->Option Nat} {h c:Nat} {ns:List Str} {a b d:Tr} {x f:Str} {i:Int} {w:Dw}
theorem wf_deed (ha:a.wf sig h ns none) (hb:b.wf sig h ns none):(Tr.deed w a b).wf sig (h+1) ns none:=⟨rfl,h,rfl,ha,hb⟩
theorem wf_choose (ha:a.wf sig h ns none) (hb:b.wf sig h ns none) (hd:d.wf sig h ns none):(Tr.choose a b d).wf sig (h+1) ns none:=⟨rfl,h,rfl,ha,hb,hd⟩
theorem wf_let (ha:a.wf sig h ns none) (hb:b.wf sig h (ns++[x]) none):(Tr.lt x a b).wf sig (h+1) ns none:=⟨rfl,h,rfl,ha,hb⟩
theorem wf_call (hs:sig f=some c) (hc:c<=100) (ha:a.wf sig h ns (some c)):(Tr.call f a).wf sig (h+1) ns none:=⟨rfl,h,rfl,c,hs,hc,ha⟩
theorem wf_cons (ha:a.wf sig h ns none) (hb:b.wf sig h ns (some c)):(Tr.cons a b).wf sig h ns (some (c+1)):=⟨c,rfl,ha,hb⟩
end
section
variable {call:Str->List Int->Int->Rl} {t r a b c:Tr} {e:Env} {m m1 m2 v x:Int} {vs:List Int} {f y:Str} {rl:Rl}
end
noncomputable def oc (F:Int) (g:Nat) (m:Int) (w:Nat) (v:Int):Rl:=if w<=g/\m+w<=F then .val [v] (m+w) else if m+g<=F then .bad .deep (m+g) else .bad .dry F
section
variable {L:bF} {st:St} {K n k i:Nat} {ns:List Int} {d e:D AV} {s s₁:S} {x y:Int}
theorem cellk (h:aq k L=some (.val (.lst (ns.map .int)))):aU (wX K (n+1)) "_law_cell_at" [ae k,af (.int (i:Int))] ⟨L,st⟩=.ok (.int (ns.getD i 0)) ⟨L,st⟩ :=
 aN (vs:=[.lst (ns.map .int),.int (i:Int)]) (s₁:=⟨L,st⟩) (ai (aZ h) rfl) (kG ns i)
theorem ir {m:Nat} (hd:d s=.ok (.int x) s) (hm:cN (m:Int)=true):aj .Mod d (af (.int (m:Int))) s=.ok (.int (zAq x m)) s :=
 aB (a':=.int x) (b':=.int (m:Int)) hd rfl rfl rfl (by show (if cN (m:Int) then _ else _)=_; rw [if_pos hm])
theorem div_at {m:Nat} (hd:d s=.ok (.int x) s) (hm:cN (m:Int)=true):aj .FloorDiv d (af (.int (m:Int))) s=.ok (.int (zAu x m)) s :=
 aB (a':=.int x) (b':=.int (m:Int)) hd rfl rfl rfl (by show (if cN (m:Int) then _ else _)=_; rw [if_pos hm])
theorem small_nat {b:Nat} (h:b<=1000000):ch (b:Int)=true:=decide_eq_true (by lia)
theorem eJ (h:d s=.ok (.int x) s₁):am d .Eq (af (.int y)) s=.ok (.bool (decide (x=y))) s₁:=(bJ h rfl).trans rfl
end
noncomputable def trL:List Tr->Tr
 | []=>.nil
 | t::r=>.cons t (trL r)
theorem trL_enc:∀ l:List Tr,(trL l).enc=.tup (l.map Tr.enc)
 | []=>rfl
 | t::r=>by
  show AV.tup (t.enc::bl (trL r).enc)=_
  rw [trL_enc r]; rfl
theorem trL_len:∀ l:List Tr,len (trL l)=(l.map len).sum
 | []=>rfl
 | t::r=>by
  show len t+len (trL r)=_
  rw [trL_len r]; rfl
noncomputable abbrev It:=Tr × Nat
noncomputable def bu (p:It):AV:=.tup [p.1.enc,.int (p.2:Int)]
noncomputable def tall (l:List It):Nat:=mxN (l.map (·.2))
theorem oF {v lo hi:D AV} {s:S} {c a b c' r:AV} (h1:v s=.ok c s) (h2:lo s=.ok a s) (h3:hi s=.ok b s) (hc:aS c s=some c') (hv:kJ c' a b=some r):d4 v lo hi s=.ok r s:=by
 show aH v _ s=_
 rw [au h1]; show aH lo _ s=_
 rw [au h2]; show aH hi _ s=_
 rw [au h3]; show aH (deref c) _ s=_
 rw [au (cA hc),hv]; rfl
theorem ints_it:∀ l:List It,cU (l.map fun p=>.int (p.2:Int))=some ((l.map (·.2)).map fun i:Nat=>(i:Int))
 | []=>rfl
 | x::r=>by show (cU (r.map fun p=>.int (p.2:Int))).map _=_; rw [ints_it r]; rfl
theorem max_it (l:List It):biMax.den false [.lst (AV.int 0::l.map fun p=>.int (p.2:Int))]=some (.int (tall l:Int)):=by
 show ((cU (l.map fun p:It=>AV.int (p.2:Int))).map _).bind (fun ns=>(gq ns).map AV.int)=_
 rw [ints_it]
 show some (AV.int (((l.map (·.2)).map fun i:Nat=>(i:Int)).foldl max ((0:Nat):Int)))=_
 rw [gU,Nat.zero_max]; rfl
theorem tup_add {x y:List AV} (hx:x.isEmpty=false) (hy:y.isEmpty=false) (h:(x++y).length<=1000):binV .Add (.tup x) (.tup y)=some (.tup (x++y)):=by
 show (if x.isEmpty || y.isEmpty then none else mP (x++y))=_
 rw [hx,hy]
 exact if_pos (zAj h (by decide +kernel))
theorem cq {es:List (D AV)} {vs:List AV} {s s':S} (h:br es s=.ok vs s') (hl:zB5 vs.length 1000=true):aJ es s=.ok (.tup vs) s':=by
 show aH (br es) _ s=_
 rw [au h,show mP vs=some (.tup vs) from if_pos (zAj (zA9 hl) (by decide +kernel))]; rfl
theorem kq {es:List (D AV)} {vs:List AV} {s s':S} (h:br es s=.ok vs s') (hl:zB5 vs.length 1000=true):bO es s=.ok (.lst vs) s':=by
 show aH (br es) _ s=_
 rw [au h,show bD vs=some (.lst vs) from if_pos (zAj (zA9 hl) (by decide +kernel))]; rfl
noncomputable def jnT (c:Bool) (l:List It):List AV:=bif c then [.tup (l.map fun p=>p.1.enc)] else l.map fun p=>p.1.enc
noncomputable def jn (S:List It) (m:Nat) (fr:List AV) (c:Bool):AV :=
 if S.length < m ∨ 6 < tall (S.drop (S.length - m)) then .none
 else .lst ((S.take (S.length - m)).map bu++[.tup [.tup (fr++jnT c (S.drop (S.length - m))),.int ((1+tall (S.drop (S.length - m)):Nat):Int)]])
section
variable {K n m:Nat} {st:St} {S:List It} {fr:List AV} {c:Bool}
noncomputable def jL (S:List It) (m:Nat) (fr:List AV) (c:Bool) (r:bF):bF:=(0,.val (.lst (S.map bu)))::(1,.val (.int (m:Int)))::(2,.val (.tup fr))::(3,.val (.bool c))::r
theorem jlen {r:bF}:aW aA false [aa 0] ⟨jL S m fr c r,st⟩=.ok (.int (S.length:Int)) ⟨jL S m fr c r,st⟩:=by
 rw [← zAe (f:=bu)]; rfl
theorem jsub {r:bF} (h:m<=S.length):aj .Sub (aW aA false [aa 0]) (aa 1) ⟨jL S m fr c r,st⟩=.ok (.int ((S.length - m:Nat):Int)) ⟨jL S m fr c r,st⟩ :=
 aB jlen rfl rfl rfl (show some (AV.int ((S.length:Int) - (m:Int)))=_ by rw [Int.ofNat_sub h])
theorem jcomp {q:List It} {r:bF} {g:It->AV} {j:Int} (hq:q.length<=1000) (hg:∀ p ∈ q,idxV (bu p) (.int j)=some (g p)) :
  bP [] 1 (al (aa 1) (af (.int j))) (ba (ae 4)) ⟨jL S m fr c ((4,.val (.lst (q.map bu)))::r),st⟩=.ok (.lst (q.map g)) ⟨jL S m fr c ((4,.val (.lst (q.map bu)))::r),st⟩ :=
 iV (l:=q) (f:=bu) (g:=g) (s₁:=⟨jL S m fr c ((4,.val (.lst (q.map bu)))::r),st⟩) rfl hq fun p hp=>⟨_,bx (s₁:=⟨[(1,.val (bu p))],st⟩) rfl rfl rfl (hg p hp)⟩
theorem jcompO {q:List It} {g:It->AV} {j:Int} (hq:q.length<=1000) (hg:∀ p ∈ q,idxV (bu p) (.int j)=some (g p)) :
  bP [] 1 (al (aa 1) (af (.int j))) (ba (ae 4)) ⟨jL S m fr c [(4,.own (.lst (q.map bu)))],st⟩=.ok (.lst (q.map g)) ⟨jL S m fr c [(4,.val (.lst (q.map bu)))],st⟩ :=
 iV (l:=q) (f:=bu) (g:=g) (s₁:=⟨jL S m fr c [(4,.val (.lst (q.map bu)))],st⟩) rfl hq fun p hp=>⟨_,bx (s₁:=⟨[(1,.val (bu p))],st⟩) rfl rfl rfl (hg p hp)⟩
theorem joined_ok (hS:S.length<=400) (hf:fr.isEmpty=false) (hfl:fr.length<=10) (hc:c=true ∨ 1<=m):aw PP K (n+1) ⟨#[]⟩ "_law_joined" [.lst (S.map bu),.int (m:Int),.tup fr,.bool c] st=.ok (jn S m fr c) st:=by
 rw [lG]
 show RT (gC (wX K n)) ⟨jL S m fr c [],st⟩ _
 by_cases h1:S.length < m
 ·refine .ifT (φ:=(S.length:Int) < (m:Int)) (zC5.mpr h1) ((bJ (b:=.int (S.length:Int)) rfl jlen).trans rfl) (.assoc (.ret rfl ?_))
  unfold jn; rw [if_pos (.inl h1)]
 refine .ifN (φ:=(S.length:Int) < (m:Int)) (fun q=>h1 (zC5.mp q)) ((bJ (b:=.int (S.length:Int)) rfl jlen).trans rfl) (.next ?_)
 have hm:m<=S.length:=Nat.le_of_not_lt h1
 have hd:S.length - m<=(S.map bu).length:=by rw [zAe]; exact Nat.sub_le _ _
 have e4:d4 (aa 0) (aj .Sub (aW aA false [aa 0]) (aa 1)) (af .none) ⟨jL S m fr c [],st⟩=.ok (.lst ((S.drop (S.length - m)).map bu)) ⟨jL S m fr c [],st⟩:=by
  rw [List.map_drop]; exact oF rfl (jsub hm) rfl rfl (kU hd)
 generalize hq:S.drop (S.length - m)=q at e4
 have hql:q.length<=400:=by rw [← hq,zB6]; exact zAj (Nat.sub_le _ _) hS
 refine .go (s':=⟨jL S m fr c [(4,.own (.lst (q.map bu)))],st⟩) (bp e4) ?_
 have e5:aj .Add (af (.int 1)) (aW biMax false [aj .Add (bO [af (.int 0)]) (bP [] 1 (al (aa 1) (af (.int 1))) (ba (ae 4)))]) ⟨jL S m fr c [(4,.own (.lst (q.map bu)))],st⟩=.ok (.int ((1+tall q:Nat):Int)) ⟨jL S m fr c [(4,.val (.lst (q.map bu)))],st⟩ :=
  aB (a':=.int 1) rfl (cn (aB (a':=.lst [.int 0]) rfl (jcompO (g:=fun p=>.int (p.2:Int)) (zAj hql (by decide)) fun p hp=>rfl) rfl rfl (bZ (by rw [zAd,zAe]; exact zAj (zB3 hql 1) (by decide)))) rfl (max_it q)) rfl rfl (by show some (AV.int (1+(tall q:Int)))=_; rw [zCb]; rfl)
 refine .go (s':=⟨jL S m fr c [(4,.val (.lst (q.map bu))),(5,.val (.int ((1+tall q:Nat):Int)))],st⟩) (bp e5) ?_
 by_cases h2:6 < tall q
 ·refine .ifT (φ:=(7:Int) < ((1+tall q:Nat):Int)) (by lia) rfl (.assoc (.ret rfl ?_))
  unfold jn; rw [hq,if_pos (.inr h2)]
 refine .ifN (φ:=(7:Int) < ((1+tall q:Nat):Int)) (by lia) rfl (.next ?_)
 have hj:jn S m fr c=.lst ((S.take (S.length - m)).map bu++[.tup [.tup (fr++jnT c q),.int ((1+tall q:Nat):Int)]]):=by
  unfold jn; rw [hq,if_neg (fun z=>z.elim h1 h2)]
 have e6:aW ft false [bP [] 1 (al (aa 1) (af (.int 0))) (ba (ae 4))] ⟨jL S m fr c [(4,.val (.lst (q.map bu))),(5,.val (.int ((1+tall q:Nat):Int)))],st⟩=.ok (.tup (q.map fun p=>p.1.enc)) ⟨jL S m fr c [(4,.val (.lst (q.map bu))),(5,.val (.int ((1+tall q:Nat):Int)))],st⟩ :=
  cn (jcomp (g:=fun p=>p.1.enc) (zAj hql (by decide)) fun p hp=>rfl) rfl rfl
 refine .go (s':=⟨jL S m fr c [(4,.val (.lst (q.map bu))),(5,.val (.int ((1+tall q:Nat):Int))),(6,.val (.tup (q.map fun p=>p.1.enc)))],st⟩) (bH e6) ?_
 have hT:(jnT c q).isEmpty=false/\(jnT c q).length<=400:=by
  unfold jnT
  cases c with
  | true=>exact ⟨rfl,by show 1<=400; decide⟩
  | false =>
   refine ⟨?_,by show (q.map _).length<=400; rw [zAe]; exact hql⟩
   have h3:1<=q.length:=by
    rw [← hq,zB6,Nat.sub_sub_self hm]
    exact hc.elim (fun z=>nomatch z) id
   cases q with
   | nil=>exact absurd h3 (by decide)
   | cons x r=>rfl
 have key:RT (ac (aI (aj .Add (d4 (aa 0) (af .none) (aj .Sub (aW aA false [aa 0]) (aa 1))) (bO [aJ [aj .Add (aa 2) (aa 6),ae 5]]))) (af .next)) ⟨jL S m fr c [(4,.val (.lst (q.map bu))),(5,.val (.int ((1+tall q:Nat):Int))),(6,.val (.tup (jnT c q)))],st⟩ (.ok (jn S m fr c) st):=by
  have a1:d4 (aa 0) (af .none) (aj .Sub (aW aA false [aa 0]) (aa 1)) ⟨jL S m fr c [(4,.val (.lst (q.map bu))),(5,.val (.int ((1+tall q:Nat):Int))),(6,.val (.tup (jnT c q)))],st⟩=.ok (.lst ((S.take (S.length - m)).map bu)) ⟨jL S m fr c [(4,.val (.lst (q.map bu))),(5,.val (.int ((1+tall q:Nat):Int))),(6,.val (.tup (jnT c q)))],st⟩:=by
   rw [List.map_take]; exact oF rfl rfl (jsub hm) rfl (nP hd)
  have a2:aj .Add (aa 2) (aa 6) ⟨jL S m fr c [(4,.val (.lst (q.map bu))),(5,.val (.int ((1+tall q:Nat):Int))),(6,.val (.tup (jnT c q)))],st⟩=.ok (.tup (fr++jnT c q)) ⟨jL S m fr c [(4,.val (.lst (q.map bu))),(5,.val (.int ((1+tall q:Nat):Int))),(6,.val (.tup (jnT c q)))],st⟩ :=
   aB (a':=.tup fr) (b':=.tup (jnT c q)) rfl rfl rfl rfl (tup_add hf hT.1 (by rw [zAd]; exact zAj (zCs hfl hT.2) (by decide)))
  have a3:bO [aJ [aj .Add (aa 2) (aa 6),ae 5]] ⟨jL S m fr c [(4,.val (.lst (q.map bu))),(5,.val (.int ((1+tall q:Nat):Int))),(6,.val (.tup (jnT c q)))],st⟩=.ok (.lst [.tup [.tup (fr++jnT c q),.int ((1+tall q:Nat):Int)]]) ⟨jL S m fr c [(4,.val (.lst (q.map bu))),(5,.val (.int ((1+tall q:Nat):Int))),(6,.val (.tup (jnT c q)))],st⟩ :=
   kq (ai (cq (ai a2 rfl) rfl) rfl) rfl
  refine .ret (aB a1 a3 rfl rfl (bZ ?_)) (by rw [hj])
  rw [zAd,zAe,List.length_take]
  exact zAj (zBh (zAj (zBz _ _) hS) 1) (by decide)
 cases c with
 | true=>exact .ifB (c:=true) rfl (.assoc (.go (s':=⟨jL S m fr true [(4,.val (.lst (q.map bu))),(5,.val (.int ((1+tall q:Nat):Int))),(6,.val (.tup (jnT true q)))],st⟩) rfl (.next key)))
 | false=>exact .ifB (c:=false) rfl (.next key)
end
inductive Ft where
 | twice | name | fn | cnt | tall
noncomputable def Ft.word:Ft->Str
 | .twice=>"twice" | .name=>"name" | .fn=>"function" | .cnt=>"count" | .tall=>"tall"
noncomputable def Ft.xc:Ft->Str
 | .twice=>"NameTwice" | .name=>"NoSuchName" | .fn=>"NoSuchFunction" | .cnt=>"WrongCount" | .tall=>"TooTall"
noncomputable def nH (a b:Option Ft):Option Ft:=a.elim b some
theorem iH {a:Option Ft}:nH a none=a:=by cases a <;> rfl
noncomputable def dX (cs:Str->Option Nat):Tr->Nat->List Str->Option Ft
 | .num _,h,_=>h.casesOn (some .tall) fun _=>none
 | .name x,h,ns=>h.casesOn (some .tall) fun _=>if x ∈ ns then none else some .name
 | .deed _ a b,h,ns=>h.casesOn (some .tall) fun h=>nH (dX cs a h ns) (dX cs b h ns)
 | .choose a b c,h,ns=>h.casesOn (some .tall) fun h=>nH (dX cs a h ns) (nH (dX cs b h ns) (dX cs c h ns))
 | .lt x a b,h,ns=>h.casesOn (some .tall) fun h=>nH (dX cs a h ns) (dX cs b h (ns++[x]))
 | .call f l,h,ns=>h.casesOn (some .tall) fun h=>(cs f).elim (some .fn) fun c=>if (bl l.enc).length=c then dX cs l h ns else some .cnt
 | .nil,_,_=>none
 | .cons t r,h,ns=>nH (dX cs t h ns) (dX cs r h ns)
noncomputable def Tr.ok:Tr->Nat->Option Nat->Prop
 | .num i,h,k=>k=none/\0 < h/\l4 i
 | .name _,h,k=>k=none/\0 < h
 | .deed _ a b,h,k=>k=none/\∃ h',h=h'+1/\a.ok h' none/\b.ok h' none
 | .choose a b c,h,k=>k=none/\∃ h',h=h'+1/\a.ok h' none/\b.ok h' none/\c.ok h' none
 | .lt _ a b,h,k=>k=none/\∃ h',h=h'+1/\a.ok h' none/\b.ok h' none
 | .call _ l,h,k=>k=none/\∃ h',h=h'+1/\∃ c,c<=100/\l.ok h' (some c)
 | .nil,_,k=>k=some 0
 | .cons t r,h,k=>∃ c,k=some (c+1)/\t.ok h none/\r.ok h (some c)
theorem jb {h:Nat}:∀ {t:Tr} {c:Nat},t.ok h (some c)->t.enc=.tup (bl t.enc)/\(bl t.enc).length=c:=by
 intro t
 induction t with
 | num _=>intro c q; exact cC zAr q.1 rfl
 | name _=>intro c q; exact cC zAr q.1 rfl
 | deed _ _ _ _ _=>intro c q; exact cC zAr q.1 rfl
 | choose _ _ _ _ _ _=>intro c q; exact cC zAr q.1 rfl
 | lt _ _ _ _ _=>intro c q; exact cC zAr q.1 rfl
 | call _ _ _=>intro c q; exact cC zAr q.1 rfl
 | nil=>intro c q; cases q; exact ⟨rfl,rfl⟩
 | cons t r _ ih =>
  intro c q
  obtain ⟨c',e,h1,h2⟩:=q
  cases e
  exact ⟨rfl,congrArg (·+1) (ih h2).2⟩
theorem km:∀ (t:Tr) {h h':Nat} {k:Option Nat},h<=h'->t.ok h k->t.ok h' k:=by
 intro t
 have up:∀ {h h':Nat},h+1<=h'->∃ j,h'=j+1/\h<=j:=fun {h h'} q=>⟨h' - 1,(Nat.sub_add_cancel (zAj (zBc (zBa _)) q)).symm,Nat.le_sub_of_add_le q⟩
 induction t with
 | num i=>exact fun hh q=>⟨q.1,zBx q.2.1 hh,q.2.2⟩
 | name x=>exact fun hh q=>⟨q.1,zBx q.2 hh⟩
 | deed w a b iha ihb =>
  intro h h' k hh q
  obtain ⟨rfl,j,rfl,h1,h2⟩:=q
  obtain ⟨i,rfl,hi⟩:=up hh
  exact ⟨rfl,i,rfl,iha hi h1,ihb hi h2⟩
 | choose a b c iha ihb ihc =>
  intro h h' k hh q
  obtain ⟨rfl,j,rfl,h1,h2,h3⟩:=q
  obtain ⟨i,rfl,hi⟩:=up hh
  exact ⟨rfl,i,rfl,iha hi h1,ihb hi h2,ihc hi h3⟩
 | lt x a b iha ihb =>
  intro h h' k hh q
  obtain ⟨rfl,j,rfl,h1,h2⟩:=q
  obtain ⟨i,rfl,hi⟩:=up hh
  exact ⟨rfl,i,rfl,iha hi h1,ihb hi h2⟩
 | call f l ih =>
  intro h h' k hh q
  obtain ⟨rfl,j,rfl,c,hc,h2⟩:=q
  obtain ⟨i,rfl,hi⟩:=up hh
  exact ⟨rfl,i,rfl,c,hc,ih hi h2⟩
 | nil=>exact fun hh q=>q
 | cons t r iht ihr =>
  intro h h' k hh q
  obtain ⟨c,rfl,h1,h2⟩:=q
  exact ⟨c,rfl,iht hh h1,ihr hh h2⟩
theorem jw {a b:Option Ft} (h:nH a b=none):a=none/\b=none:=by
 cases a with
 | none=>exact ⟨rfl,h⟩
 | some f=>exact cC zAr h rfl
theorem wf_of {cs:Str->Option Nat}:∀ (t:Tr) {j h:Nat} {ns:List Str} {k:Option Nat},t.ok j k->dX cs t h ns=none->t.wf cs h ns k:=by
 intro t
 induction t with
 | num i=>intro j h ns k q e; cases h with
  | zero=>exact cC zAr e rfl
  | succ h=>exact ⟨q.1,zCc _,q.2.2⟩
 | name x=>intro j h ns k q e; cases h with
  | zero=>exact cC zAr e rfl
  | succ h =>
   have e:(if x ∈ ns then none else some Ft.name)=none:=e
   by_cases hx:x ∈ ns
   ·exact ⟨q.1,zCc _,hx⟩
   ·rw [if_neg hx] at e; exact cC zAr e rfl
 | deed w a b iha ihb=>intro j h ns k q e; cases h with
  | zero=>exact cC zAr e rfl
  | succ h =>
   obtain ⟨rfl,j',rfl,h1,h2⟩:=q
   obtain ⟨e1,e2⟩:=jw e
   exact wf_deed (iha h1 e1) (ihb h2 e2)
 | choose a b c iha ihb ihc=>intro j h ns k q e; cases h with
  | zero=>exact cC zAr e rfl
  | succ h =>
   obtain ⟨rfl,j',rfl,h1,h2,h3⟩:=q
   obtain ⟨e1,e2⟩:=jw e
   obtain ⟨e2,e3⟩:=jw e2
   exact wf_choose (iha h1 e1) (ihb h2 e2) (ihc h3 e3)
 | lt x a b iha ihb=>intro j h ns k q e; cases h with
  | zero=>exact cC zAr e rfl
  | succ h =>
   obtain ⟨rfl,j',rfl,h1,h2⟩:=q
   obtain ⟨e1,e2⟩:=jw e
   exact wf_let (iha h1 e1) (ihb h2 e2)
 | call f l ih=>intro j h ns k q e; cases h with
  | zero=>exact cC zAr e rfl
  | succ h =>
   obtain ⟨rfl,j',rfl,c,hc,h2⟩:=q
   have e:(cs f).elim (some Ft.fn) (fun c=>if (bl l.enc).length=c then dX cs l h ns else some .cnt)=none:=e
   cases hf:cs f with
   | none=>rw [hf] at e; exact cC zAr e rfl
   | some c' =>
    rw [hf] at e
    have e2:(if (bl l.enc).length=c' then dX cs l h ns else some .cnt)=none:=e
    clear e
    by_cases hl:(bl l.enc).length=c'
    ·rw [if_pos hl] at e2
     have:c=c':=by rw [← hl,(jb h2).2]
     subst this
     exact wf_call hf hc (ih h2 e2)
    ·rw [if_neg hl] at e2; exact cC zAr e2 rfl
 | nil=>intro j h ns k q e; exact q
 | cons t r iht ihr =>
  intro j h ns k q e
  obtain ⟨c,rfl,h1,h2⟩:=q
  obtain ⟨e1,e2⟩:=jw e
  exact wf_cons (iht h1 e1) (ihr h2 e2)
theorem trL_ok {h:Nat}:∀ l:List Tr,(∀ t ∈ l,t.ok h none)->(trL l).ok h (some l.length)
 | [],_=>rfl
 | t::r,q=>⟨_,rfl,q t zAb,trL_ok r fun x hx=>q x (zAc _ hx)⟩
theorem jy (x:Str) (ns:List Str):inV (.str x) (.lst (ns.map .str))=some (decide (x ∈ ns)):=by
 have:∀ ns:List Str,((toDs (ns.map .str)).any fun y=>PyData.eqv y (kA (.str x)))=decide (x ∈ ns):=by
  intro ns
  induction ns with
  | nil=>rfl
  | cons y r ih =>
   show ((y == x) || _)=_
   rw [ih]
   by_cases h:x=y
   ·subst h; simp
   ·have:(y == x)=false:=beq_eq_false_iff_ne.mpr fun q=>h q.symm
    simp [this,h]
 show (if true && dataVs (ns.map .str) && decide (0<=64) then some ((toDs (ns.map .str)).any fun y=>PyData.eqv y (kA (.str x))) else none)=_
 rw [jj,this ns]; rfl
structure CsIs (cs:Str->Option Nat) (ks ws:List AV):Prop where
 has:∀ f,im (.str f) ks=(cs f).isSome
 get:∀ f,cW (.str f) ks ws=(cs f).map fun c=>.int (c:Int)
noncomputable def rtF (st:St):Option Ft->Ret
 | none=>.ok .none st
 | some f=>.exc f.xc st
section
variable {K n:Nat} {t:AV} {lev:Int} {names:List AV} {cv:AV} {st:St}
noncomputable abbrev lkB (K n:Nat):D Fl:=ac (cX (aU (wX K n) "look" [ae 4,aj .Add (aa 1) (af (.int 1)),ae 2,ae 3])) (af .next)
structure KLoc (lev:Int) (names:List AV) (cv:AV) (L:bF):Prop where
 a1:aq 1 L=some (.val (.int lev))
 a2:aq 2 L=some (.val (.lst names))
 a3:aq 3 L=some (.val cv)
theorem KLoc.s4 {L:bF} {lv:LV} (h:KLoc lev names cv L):KLoc lev names cv (ah 4 lv L):=⟨(ag rfl).trans h.a1,(ag rfl).trans h.a2,(ag rfl).trans h.a3⟩
noncomputable def outF (L:bF) (st:St):Option Ft->Out Fl
 | none=>.ok .next ⟨L,st⟩
 | some f=>.exc f.xc ⟨L,st⟩
noncomputable def LK (K n:Nat) (lev:Int) (names:List AV) (cv:AV) (st:St) (ts:List AV) (r:Option Ft):Prop:=∀ L,KLoc lev names cv L->∃ L',aX (some 4,[]) (lkB K n) ts ⟨L,st⟩=outF L' st r
theorem LK.nil:LK K n lev names cv st [] none:=fun L _=>⟨L,rfl⟩
theorem LK.cons {ts:List AV} {r1 r2:Option Ft} (h1:lk K n t (lev+1) names cv st=rtF st r1) (h2:LK K n lev names cv st ts r2):LK K n lev names cv st (t::ts) (nH r1 r2):=fun L q=>by
 have q1:=q.s4 (lv:=.val t)
 have q4:aq 4 (ah 4 (.val t) L)=some (.val t):=ay
 have sq:br [ae 4,aj .Add (aa 1) (af (.int 1)),ae 2,ae 3] ⟨ah 4 (.val t) L,st⟩=.ok [t,.int (lev+1),.lst names,cv] ⟨ah 4 (.val t) L,st⟩ :=
  ai (aZ q4) (ai (aB (aY q1.a1) rfl (gD q1.a1) rfl rfl) (ai (aZ q1.a2) (ai (aZ q1.a3) rfl)))
 cases r1 with
 | none =>
  obtain ⟨L',e⟩:=h2 _ q1
  exact ⟨L',bG (bQ (o:=.ok .next _) (cF (aN (X:=wX K n) sq h1)) trivial) e⟩
 | some f =>
  refine ⟨ah 4 (.val t) L,?_⟩
  have e1:lkB K n ⟨ah 4 (.val t) L,st⟩=.exc f.xc ⟨ah 4 (.val t) L,st⟩:=by
   have h1:(wX K n).call ⟨#[]⟩ "look" [t,.int (lev+1),.lst names,cv] st=.exc f.xc st:=h1
   show ax (ax (ax (br _ _) _) _) _=_
   rw [sq]
   show ax (ax (ez ((wX K n).call ⟨#[]⟩ "look" [t,.int (lev+1),.lst names,cv] st) _) _) _=_
   rw [h1]; rfl
  show ax (lkB K n ⟨ah 4 (.val t) L,st⟩) _=_
  rw [e1]; rfl
theorem eZ {l:List AV} {r:Option Ft} (h1:No (am (aa 1) .Gt (af (.int 12))) t lev names cv st) (h2:No (az .And [am (al (aa 0) (af (.int 0))) .Eq (af (.str "name")),am (al (aa 0) (af (.int 1))) .NotIn (aa 2)]) t lev names cv st)
  (h3:No (az .And [am (al (aa 0) (af (.int 0))) .Eq (af (.str "call")),am (al (aa 0) (af (.int 1))) .NotIn (aa 3)]) t lev names cv st)
  (h4:No (az .And [am (al (aa 0) (af (.int 0))) .Eq (af (.str "call")),am (aW aA false [al (aa 0) (af (.int 2))]) .NotEq (al (aa 3) (al (aa 0) (af (.int 1))))]) t lev names cv st)
  (h5:No (am (al (aa 0) (af (.int 0))) .Eq (af (.str "let"))) t lev names cv st) (hw:aw PP K n ⟨#[]⟩ "within" [t] st=.ok (.lst l) st) (hl:LK K n lev names cv st l r):lk K (n+1) t lev names cv st=rtF st r:=by
 show aw PP K (n+1) _ _ _ _=_
 rw [eE]
 show RT (bY (wX K n)) ⟨bw t lev names cv,st⟩ _
 unfold bY
 refine .ifB h1 (.next (.ifB h2 (.next (.ifB h3 (.next (.ifB h4 (.next (.ifB h5 ?_))))))))
 obtain ⟨L',e⟩:=hl (bw t lev names cv) ⟨rfl,rfl,rfl⟩
 have hi:ba (aU (wX K n) "within" [ae 0]) ⟨bw t lev names cv,st⟩=.ok (.lst l) ⟨bw t lev names cv,st⟩:=dB (aN (vs:=[t]) (s₁:=⟨bw t lev names cv,st⟩) rfl hw)
 cases r with
 | none=>exact .assoc (.forI hi e (.next (.nil rfl)))
 | some f =>
  refine .assoc (.goX (x:=f.xc) (s':=⟨L',st⟩) ?_ rfl)
  show ax (ba _ _) _=_
  rw [hi]; exact e
theorem look_tall (h1:am (aa 1) .Gt (af (.int 12)) ⟨bw t lev names cv,st⟩=.ok (.bool true) ⟨bw t lev names cv,st⟩):lk K (n+1) t lev names cv st=.exc "TooTall" st:=by
 show aw PP K (n+1) _ _ _ _=_
 rw [eE]
 show RT (bY (wX K n)) ⟨bw t lev names cv,st⟩ _
 unfold bY
 exact .ifB h1 (.assoc .rais)
end
section
variable {K n:Nat} {st:St}
theorem eR {t:Tr} {h:Nat} (q:t.ok h none):aw PP K (n+1) ⟨#[]⟩ "within" [t.enc] st=.ok (.lst (gM t)) st:=by
 rw [mf]
 cases t with
 | num i=>kernel_rfl
 | name x=>kernel_rfl
 | deed w a b=>cases w <;> kernel_rfl
 | choose a b c=>kernel_rfl
 | lt x a b=>kernel_rfl
 | call f l =>
  obtain ⟨_,h',rfl,c,hc,h2⟩:=q
  obtain ⟨w1,w2⟩:=jb h2
  show RT (jk (wX K n)) ⟨[(0,.val (.tup [.str "call",.str f,l.enc]))],st⟩ _
  rw [w1]
  refine .ifB (c:=false) (s':=⟨[(0,.val (.tup [.str "call",.str f,.tup (bl l.enc)]))],st⟩) (by kernel_rfl) (.next (.eqN (x:="call") (y:="let") (by decide +kernel) rfl (.next (.eqT (x:="call") (y:="call") (by decide +kernel) rfl (.assoc (.retO (o:=bD (bl l.enc)) (s':=⟨[(0,.val (.tup [.str "call",.str f,.tup (bl l.enc)]))],st⟩) rfl (bZ (by lia)) rfl))))))
 | nil=>cases q
 | cons t r=>obtain ⟨_,e,_⟩:=q; exact aC e
end
section
variable {K:Nat} {st:St} {cs:Str->Option Nat} {ks ws:List AV}
noncomputable def LF (K n:Nat) (t:Tr) (h:Nat) (names:List AV) (cv:AV) (st:St) (r:Option Ft):Option Nat->Prop
 | none=>lk K n t.enc (13 - (h:Int)) names cv st=rtF st r
 | some _=>LK K n (12 - (h:Int)) names cv st (bl t.enc) r
theorem LK.two {n:Nat} {h:Nat} {names:List AV} {cv:AV} {a b:Tr} {r1 r2:Option Ft} (h1:LF K n a h names cv st r1 none) (h2:LF K n b h names cv st r2 none):LK K n (13 - ((h+1:Nat):Int)) names cv st [a.enc,b.enc] (nH r1 r2):=by
 have e:(13 - ((h+1:Nat):Int))+1=13 - (h:Int):=by lia
 have:=LK.cons (K:=K) (n:=n) (lev:=13 - ((h+1:Nat):Int)) (t:=a.enc) (by rw [e]; exact h1) (LK.cons (t:=b.enc) (by rw [e]; exact h2) LK.nil)
 rw [iH] at this; exact this
theorem doX {X:Ctx} {f x:Str} {es:List (D AV)} {vs:List AV} {s s₁:S} {st':St} (h:br es s=.ok vs s₁) (hc:X.call ⟨#[]⟩ f vs s₁.st=.exc x st'):cX (aU X f es) s=.exc x ⟨s₁.loc,st'⟩:=by
 show ax (ax (br es s) _) _=_
 rw [h]
 show ax (ez (X.call ⟨#[]⟩ f vs s₁.st) s₁) _=_
 rw [hc]; rfl
theorem look_letF {n:Nat} {a b cv:AV} {lv:Int} {names:List AV} {x:Str} {r1 r2:Option Ft} (h1:No (am (aa 1) .Gt (af (.int 12))) (.tup [.str "let",.str x,a,b]) lv names cv st) (hn:names.length<=1000) (A:lk K n a (lv+1) names cv st=rtF st r1) (B:lk K n b (lv+1) (names++[.str x]) cv st=rtF st r2) :
  lk K (n+1) (.tup [.str "let",.str x,a,b]) lv names cv st=rtF st (nH r1 r2):=by
 show aw PP K (n+1) _ _ _ _=_
 rw [eE]
 show RT (bY (wX K n)) ⟨bw (.tup [.str "let",.str x,a,b]) lv names cv,st⟩ _
 unfold bY
 refine .ifB h1 (.next (.ifB (c:=false) (s':=⟨bw (.tup [.str "let",.str x,a,b]) lv names cv,st⟩) (by kernel_rfl) (.next (.ifB (c:=false) (s':=⟨bw (.tup [.str "let",.str x,a,b]) lv names cv,st⟩) (by kernel_rfl) (.next (.ifB (c:=false) (s':=⟨bw (.tup [.str "let",.str x,a,b]) lv names cv,st⟩) (by kernel_rfl) (.next (.ifB (c:=true) (s':=⟨bw (.tup [.str "let",.str x,a,b]) lv names cv,st⟩) (by kernel_rfl) (.assoc ?_)))))))))
 have s1:br [al (aa 0) (af (.int 2)),aj .Add (aa 1) (af (.int 1)),ae 2,ae 3] ⟨bw (.tup [.str "let",.str x,a,b]) lv names cv,st⟩=.ok [a,.int (lv+1),.lst names,cv] ⟨bw (.tup [.str "let",.str x,a,b]) lv names cv,st⟩:=rfl
 have s2:br [al (aa 0) (af (.int 3)),aj .Add (aa 1) (af (.int 1)),aj .Add (aa 2) (bO [al (aa 0) (af (.int 1))]),ae 3] ⟨bw (.tup [.str "let",.str x,a,b]) lv names cv,st⟩=.ok [b,.int (lv+1),.lst (names++[.str x]),cv] ⟨bw (.tup [.str "let",.str x,a,b]) lv names cv,st⟩:=by
  refine ai (s₁:=⟨bw (.tup [.str "let",.str x,a,b]) lv names cv,st⟩) rfl (ai (s₁:=⟨bw (.tup [.str "let",.str x,a,b]) lv names cv,st⟩) rfl (ai (v:=.lst (names++[AV.str x])) (s₁:=⟨bw (.tup [.str "let",.str x,a,b]) lv names cv,st⟩) ?_ rfl))
  show Mine.opt (bD (names++[.str x])) _=_
  unfold bD
  rw [if_pos (by rw [zAd]; exact zAj (zBh hn 1) (show 1000+1<=sizeLine by decide +kernel))]; rfl
 cases r1 with
 | some f=>exact .goX (doX (X:=wX K n) s1 A) rfl
 | none =>
  refine .go (cF (aN (X:=wX K n) s1 A)) (.assoc ?_)
  cases r2 with
  | some f=>exact .goX (doX (X:=wX K n) s2 B) rfl
  | none=>exact .go (cF (aN (X:=wX K n) s2 B)) (.next (.nil rfl))
theorem look_flt (C:CsIs cs ks ws):∀ (t:Tr) {j h:Nat} {ns:List Str} {k:Option Nat} {n:Nat},t.ok j k->ns.length+h<=900->h+1<=n->LF K n t h (ns.map .str) (.dct ks ws) st (dX cs t h ns) k:=by
 intro t
 have lev:∀ {h:Nat} {names:List AV} {t:AV},No (am (aa 1) .Gt (af (.int 12))) t (13 - ((h+1:Nat):Int)) names (.dct ks ws) st:=fun {h names t}=>by
  show Out.ok (AV.bool (decide ((12:Int) < 13 - ((h+1:Nat):Int)))) _=_
  rw [decide_eq_false (by lia)]
 have tall:∀ {t:AV} {names:List AV} {n:Nat},1<=n->lk K n t (13 - ((0:Nat):Int)) names (.dct ks ws) st=.exc "TooTall" st:=fun {t names n} hn=>by
  obtain ⟨n,rfl⟩:∃ n',n=n'+1:=⟨n - 1,by lia⟩
  exact look_tall rfl
 induction t with
 | num i =>
  intro j h ns k n q hl hN
  have q':=q
  obtain ⟨rfl,h0,_⟩:=q
  cases h with
  | zero=>exact tall (by lia)
  | succ h =>
   obtain ⟨n,rfl⟩:∃ n',n=n'+1+1:=⟨n - 2,by lia⟩
   exact eZ (n:=n+1) (l:=[]) lev (by kernel_rfl) (by kernel_rfl) (by kernel_rfl) (by kernel_rfl) (eR q') LK.nil
 | name x =>
  intro j h ns k n q hl hN
  have q':=q
  obtain ⟨rfl,h0⟩:=q
  cases h with
  | zero=>exact tall (by lia)
  | succ h =>
   obtain ⟨n,rfl⟩:∃ n',n=n'+1+1:=⟨n - 2,by lia⟩
   have t2:az .And [am (al (aa 0) (af (.int 0))) .Eq (af (.str "name")),am (al (aa 0) (af (.int 1))) .NotIn (aa 2)] ⟨bw (.tup [.str "name",.str x]) (13 - ((h+1:Nat):Int)) (ns.map .str) (.dct ks ws),st⟩=.ok (.bool (!decide (x ∈ ns))) ⟨bw (.tup [.str "name",.str x]) (13 - ((h+1:Nat):Int)) (ns.map .str) (.dct ks ws),st⟩:=by
    refine (ci (c:=seq "name" "name") rfl).trans ?_
    rw [aP]
    show Mine.opt (((inV (.str x) (.lst (ns.map .str))).map (!·)).map AV.bool) _=_
    rw [jy]; rfl
   show lk K (n+1+1) _ _ _ _ _=rtF st (if x ∈ ns then none else some .name)
   by_cases hx:x ∈ ns
   ·rw [if_pos hx]
    rw [decide_eq_true hx] at t2
    exact eZ (n:=n+1) (l:=[]) lev t2 (by kernel_rfl) (by kernel_rfl) (by kernel_rfl) (eR q') LK.nil
   ·rw [if_neg hx]
    rw [decide_eq_false hx] at t2
    show aw PP K (n+1+1) _ _ _ _=_
    rw [eE]
    show RT (bY _) ⟨bw (.tup [.str "name",.str x]) (13 - ((h+1:Nat):Int)) (ns.map .str) (.dct ks ws),st⟩ _
    unfold bY
    exact .ifB lev (.next (.ifB t2 (.assoc .rais)))
 | deed w a b iha ihb =>
  intro j h ns k n q hl hN
  have q':=q
  obtain ⟨rfl,j',rfl,h1,h2⟩:=q
  cases h with
  | zero=>exact tall (by lia)
  | succ h =>
   obtain ⟨n,rfl⟩:∃ n',n=n'+1+1:=⟨n - 2,by lia⟩
   exact eZ (n:=n+1) (l:=gM (.deed w a b)) lev (by cases w <;> kernel_rfl) (by cases w <;> kernel_rfl) (by cases w <;> kernel_rfl) (by cases w <;> kernel_rfl) (eR q') (LK.two (iha h1 (by lia) (by lia)) (ihb h2 (by lia) (by lia)))
 | choose a b c iha ihb ihc =>
  intro j h ns k n q hl hN
  have q':=q
  obtain ⟨rfl,j',rfl,h1,h2,h3⟩:=q
  cases h with
  | zero=>exact tall (by lia)
  | succ h =>
   obtain ⟨n,rfl⟩:∃ n',n=n'+1+1:=⟨n - 2,by lia⟩
   have e:(13 - ((h+1:Nat):Int))+1=13 - (h:Int):=by lia
   have A:LF K (n+1) a h (ns.map .str) (.dct ks ws) st (dX cs a h ns) none:=iha h1 (by lia) (by lia)
   exact eZ (n:=n+1) (l:=gM (.choose a b c)) lev (by kernel_rfl) (by kernel_rfl) (by kernel_rfl) (by kernel_rfl) (eR q') (LK.cons (t:=a.enc) (by rw [e]; exact A) (LK.two (ihb h2 (by lia) (by lia)) (ihc h3 (by lia) (by lia))))
 | lt x a b iha ihb =>
  intro j h ns k n q hl hN
  obtain ⟨rfl,j',rfl,h1,h2⟩:=q
  cases h with
  | zero=>exact tall (by lia)
  | succ h =>
   obtain ⟨n,rfl⟩:∃ n',n=n'+1:=⟨n - 1,by lia⟩
   have e:(13 - ((h+1:Nat):Int))+1=13 - (h:Int):=by lia
   have A:LF K n a h (ns.map .str) (.dct ks ws) st (dX cs a h ns) none:=iha h1 (by lia) (by lia)
   have B:LF K n b h ((ns++[x]).map .str) (.dct ks ws) st (dX cs b h (ns++[x])) none:=ihb h2 (by rw [zAd]; show _+1+_<=_; lia) (by lia)
   have A:lk K n a.enc (13 - ((h+1:Nat):Int)+1) (ns.map .str) (.dct ks ws) st=rtF st (dX cs a h ns):=by rw [e]; exact A
   have B:lk K n b.enc (13 - ((h+1:Nat):Int)+1) (ns.map .str++[.str x]) (.dct ks ws) st=rtF st (dX cs b h (ns++[x])):=by rw [e]; rw [zAw] at B; exact B
   show lk K (n+1) (.tup [.str "let",.str x,a.enc,b.enc]) (13 - ((h+1:Nat):Int)) _ _ _=rtF st (nH (dX cs a h ns) (dX cs b h (ns++[x])))
   exact look_letF lev (by rw [zAe]; lia) A B
 | call f l ih =>
  intro j h ns k n q hl hN
  have q':=q
  obtain ⟨rfl,j',rfl,c,hc,h2⟩:=q
  cases h with
  | zero=>exact tall (by lia)
  | succ h =>
   obtain ⟨n,rfl⟩:∃ n',n=n'+1+1:=⟨n - 2,by lia⟩
   obtain ⟨w1,w2⟩:=jb h2
   have A:LK K (n+1) (12 - (h:Int)) (ns.map .str) (.dct ks ws) st (bl l.enc) (dX cs l h ns):=ih h2 (by lia) (by lia)
   rw [show (12 - (h:Int))=13 - ((h+1:Nat):Int) by lia] at A
   have t2:No (az .And [am (al (aa 0) (af (.int 0))) .Eq (af (.str "name")),am (al (aa 0) (af (.int 1))) .NotIn (aa 2)]) (.tup [.str "call",.str f,l.enc]) (13 - ((h+1:Nat):Int)) (ns.map .str) (.dct ks ws) st:=by kernel_rfl
   have t3:az .And [am (al (aa 0) (af (.int 0))) .Eq (af (.str "call")),am (al (aa 0) (af (.int 1))) .NotIn (aa 3)] ⟨bw (.tup [.str "call",.str f,l.enc]) (13 - ((h+1:Nat):Int)) (ns.map .str) (.dct ks ws),st⟩=.ok (.bool (!(cs f).isSome)) ⟨bw (.tup [.str "call",.str f,l.enc]) (13 - ((h+1:Nat):Int)) (ns.map .str) (.dct ks ws),st⟩:=by
    refine (ci (c:=seq "call" "call") rfl).trans ?_
    rw [aP]
    show Mine.opt ((Option.map (!·) (some (im (.str f) ks))).map AV.bool) _=_
    rw [C.has]; rfl
   show lk K (n+1+1) (.tup [.str "call",.str f,l.enc]) (13 - ((h+1:Nat):Int)) _ _ _=rtF st ((cs f).elim (some .fn) fun c=>if (bl l.enc).length=c then dX cs l h ns else some .cnt)
   cases hf:cs f with
   | none =>
    rw [hf] at t3
    show aw PP K (n+1+1) _ _ _ _=_
    rw [eE]
    show RT (bY _) ⟨bw (.tup [.str "call",.str f,l.enc]) (13 - ((h+1:Nat):Int)) (ns.map .str) (.dct ks ws),st⟩ _
    unfold bY
    exact .ifB lev (.next (.ifB t2 (.next (.ifB t3 (.assoc .rais)))))
   | some c' =>
    rw [hf] at t3
    have t4:az .And [am (al (aa 0) (af (.int 0))) .Eq (af (.str "call")),am (aW aA false [al (aa 0) (af (.int 2))]) .NotEq (al (aa 3) (al (aa 0) (af (.int 1))))] ⟨bw (.tup [.str "call",.str f,l.enc]) (13 - ((h+1:Nat):Int)) (ns.map .str) (.dct ks ws),st⟩=.ok (.bool (!decide (((bl l.enc).length:Int)=(c':Int)))) ⟨bw (.tup [.str "call",.str f,l.enc]) (13 - ((h+1:Nat):Int)) (ns.map .str) (.dct ks ws),st⟩:=by
     refine (ci (c:=seq "call" "call") rfl).trans ?_
     rw [aP]
     have e1:aW aA false [al (aa 0) (af (.int 2))] ⟨bw (.tup [.str "call",.str f,.tup (bl l.enc)]) (13 - ((h+1:Nat):Int)) (ns.map .str) (.dct ks ws),st⟩=.ok (.int ((bl l.enc).length:Int)) ⟨bw (.tup [.str "call",.str f,.tup (bl l.enc)]) (13 - ((h+1:Nat):Int)) (ns.map .str) (.dct ks ws),st⟩:=rfl
     have e2:al (aa 3) (al (aa 0) (af (.int 1))) ⟨bw (.tup [.str "call",.str f,.tup (bl l.enc)]) (13 - ((h+1:Nat):Int)) (ns.map .str) (.dct ks ws),st⟩=.ok (.int (c':Int)) ⟨bw (.tup [.str "call",.str f,.tup (bl l.enc)]) (13 - ((h+1:Nat):Int)) (ns.map .str) (.dct ks ws),st⟩:=by
      show Mine.opt (cW (.str f) ks ws) _=_
      rw [C.get,hf]; rfl
     rw [w1]
     exact (bJ e1 e2).trans rfl
    show _=rtF st (if (bl l.enc).length=c' then dX cs l h ns else some .cnt)
    by_cases hc:(bl l.enc).length=c'
    ·rw [if_pos hc]
     rw [decide_eq_true (by rw [hc])] at t4
     exact eZ (n:=n+1) (l:=gM (.call f l)) lev t2 t3 t4 (by kernel_rfl) (eR q') A
    ·rw [if_neg hc]
     rw [decide_eq_false (fun z=>hc (Int.ofNat_inj.mp z))] at t4
     show aw PP K (n+1+1) _ _ _ _=_
     rw [eE]
     show RT (bY _) ⟨bw (.tup [.str "call",.str f,l.enc]) (13 - ((h+1:Nat):Int)) (ns.map .str) (.dct ks ws),st⟩ _
     unfold bY
     exact .ifB lev (.next (.ifB t2 (.next (.ifB t3 (.next (.ifB t4 (.assoc .rais)))))))
 | nil=>intro j h ns k n q hl hN; cases q; exact LK.nil
 | cons t r iht ihr =>
  intro j h ns k n q hl hN
  obtain ⟨c,rfl,h1,h2⟩:=q
  have e:(12 - (h:Int))+1=13 - (h:Int):=by lia
  have A:LF K n t h (ns.map .str) (.dct ks ws) st (dX cs t h ns) none:=iht h1 hl hN
  exact LK.cons (t:=t.enc) (by rw [e]; exact A) (ihr h2 hl hN)
end
noncomputable abbrev lf (K n:Nat) (t:AV) (names:List AV) (cv:AV) (lev:Int) (st:St):Ret:=aw PP K n ⟨#[]⟩ "_law_fault" [t,.lst names,cv,.int lev] st
noncomputable abbrev fL (t:AV) (names:List AV) (cv:AV) (lev:Int):bF:=[(0,.val t),(1,.val (.lst names)),(2,.val cv),(3,.val (.int lev))]
noncomputable def rtW (st:St):Option Ft->Ret
 | none=>.ok (.str "") st
 | some f=>.ok (.str f.word) st
noncomputable def ki:Option Ft->Str
 | none=>""
 | some f=>f.word
theorem rtW_eq {st:St} {r:Option Ft}:rtW st r=.ok (.str (ki r)) st:=by cases r <;> rfl
noncomputable abbrev fC:D AV:=az .And [am (al (aa 0) (af (.int 0))) .Eq (af (.str "let")),am (aa 5) .Eq (af (.int 1))]
noncomputable abbrev fBd (K n:Nat):D Fl:=ac (aL 7 (ae 1)) (ac (bn fC (ac (aT 7 (aj .Add (aa 1) (bO [al (aa 0) (af (.int 1))]))) (af .next)) (af .next)) (ac (aL 8 (aU (wX K n) "_law_fault" [ae 6,ae 7,ae 2,aj .Add (aa 3) (af (.int 1))])) (ac (bn (am (aa 8) .NotEq (af (.str ""))) (ac (aI (ae 8)) (af .next)) (af .next)) (af .next))))
noncomputable abbrev fEnd (K n:Nat):D Fl:=ac (cB (none,[5,6]) (fm .enum [ae 4]) (fBd K n)) (ac (aI (af (.str ""))) (af .next))
noncomputable abbrev fPre (K n:Nat):D Fl:=ac (aT 4 (d4 (aa 0) (af (.int 1)) (af .none))) (ac (bn (am (al (aa 0) (af (.int 0))) .Eq (af (.str "call"))) (ac (aL 4 (al (aa 0) (af (.int 2)))) (af .next)) (af .next)) (ac (bn (am (al (aa 0) (af (.int 0))) .Eq (af (.str "let"))) (ac (aT 4 (d4 (aa 0) (af (.int 2)) (af .none))) (af .next)) (af .next)) (ac (bn (az .Or [am (al (aa 0) (af (.int 0))) .Eq (af (.str "num")),am (al (aa 0) (af (.int 0))) .Eq (af (.str "name"))]) (ac (aL 4 (aJ [])) (af .next)) (af .next)) (fEnd K n))))
structure FLoc (tl:List AV) (names:List AV) (cv:AV) (lev:Int) (L:bF):Prop where
 a0:aq 0 L=some (.val (.tup tl))
 a1:aq 1 L=some (.val (.lst names))
 a2:aq 2 L=some (.val cv)
 a3:aq 3 L=some (.val (.int lev))
section
variable {K n:Nat} {tl names:List AV} {cv:AV} {lev:Int} {st:St} {L:bF}
theorem FLoc.set {k:Nat} {lv:LV} (h:FLoc tl names cv lev L):FLoc tl names cv lev (ah (k+4) lv L):=⟨(ag rfl).trans h.a0,(ag rfl).trans h.a1,(ag rfl).trans h.a2,(ag rfl).trans h.a3⟩
noncomputable def outW (L:bF) (st:St):Option Ft->Out Fl
 | none=>.ok .next ⟨L,st⟩
 | some f=>.ok (.ret (.str f.word)) ⟨L,st⟩
theorem word_ne:∀ f:Ft,seq f.word ""=false:=by intro f; cases f <;> decide +kernel
theorem f_rest {part:AV} {nm:List AV} {lv:LV} {r:Option Ft} (q:FLoc tl names cv lev L) (h6:aq 6 L=some (.val part)) (h7:aq 7 L=some lv) (hlv:lv=.val (.lst nm) ∨ lv=.own (.lst nm)) (hc:lf K n part nm cv (lev+1) st=rtW st r) :
  ∃ L',ac (aL 8 (aU (wX K n) "_law_fault" [ae 6,ae 7,ae 2,aj .Add (aa 3) (af (.int 1))])) (ac (bn (am (aa 8) .NotEq (af (.str ""))) (ac (aI (ae 8)) (af .next)) (af .next)) (af .next)) ⟨L,st⟩=outW L' st r/\FLoc tl names cv lev L':=by
 have fin:∀ L1:bF,FLoc tl names cv lev L1->br [ae 6,ae 7,ae 2,aj .Add (aa 3) (af (.int 1))] ⟨L,st⟩=.ok [part,.lst nm,cv,.int (lev+1)] ⟨L1,st⟩->∃ L',ac (aL 8 (aU (wX K n) "_law_fault" [ae 6,ae 7,ae 2,aj .Add (aa 3) (af (.int 1))])) (ac (bn (am (aa 8) .NotEq (af (.str ""))) (ac (aI (ae 8)) (af .next)) (af .next)) (af .next)) ⟨L,st⟩=outW L' st r/\FLoc tl names cv lev L':=fun L1 q1 sq=>by
  rw [rtW_eq] at hc
  have e1:aL 8 (aU (wX K n) "_law_fault" [ae 6,ae 7,ae 2,aj .Add (aa 3) (af (.int 1))]) ⟨L,st⟩=.ok .next ⟨ah 8 (.val (.str (ki r))) L1,st⟩:=bH (aN (X:=wX K n) sq hc)
  have g8:aq 8 (ah 8 (.val (.str (ki r))) L1)=some (.val (.str (ki r))):=ay
  have q2:FLoc tl names cv lev (ah 8 (.val (.str (ki r))) L1):=q1.set (k:=4)
  generalize ah 8 (.val (.str (ki r))) L1=L2 at e1 g8 q2
  have e2:am (aa 8) .NotEq (af (.str "")) ⟨L2,st⟩=.ok (.bool (!seq (ki r) "")) ⟨L2,st⟩:=by
   refine (bJ (b:=.str "") (s₂:=⟨L2,st⟩) (aY g8) rfl).trans ?_
   rw [au (cA (iu g8))]; rfl
  refine ⟨L2,(hY e1).trans ?_,q2⟩
  cases r with
  | none=>exact (ifO e2).trans (by rw [show seq (ki none) ""=true from aP ""]; rfl)
  | some f =>
   refine (ifO e2).trans ?_
   rw [show seq (ki (some f)) ""=false from word_ne f]
   show ax (ax (ax (ae 8 ⟨L2,st⟩) _) _) _=_
   rw [aZ g8]; rfl
 rcases hlv with rfl | rfl
 ·exact fin L q (ai (aZ h6) (ai (aZ h7) (ai (aZ q.a2) (ai (aB (aY q.a3) rfl (gD q.a3) rfl rfl) rfl))))
 ·have q':=q.set (k:=3) (lv:=.val (.lst nm))
  exact fin _ q' (ai (aZ h6) (ai (eL h7) (ai (aZ q'.a2) (ai (aB (aY q'.a3) rfl (gD q'.a3) rfl rfl) rfl))))
noncomputable def FK (K n:Nat) (tl names:List AV) (cv:AV) (lev:Int) (st:St) (i:Int) (ts:List AV) (r:Option Ft):Prop:=∀ L,FLoc tl names cv lev L->∃ L',aX (none,[5,6]) (fBd K n) (dW i ts) ⟨L,st⟩=outW L' st r
theorem FK.nil {i:Int}:FK K n tl names cv lev st i [] none:=fun L _=>⟨L,rfl⟩
theorem fk_go {i:Int} {t:AV} {ts:List AV} {r1 r2:Option Ft} {L1:bF} (h1:fBd K n ⟨ah 6 (.val t) (ah 5 (.val (.int i)) L),st⟩=outW L1 st r1) (q1:FLoc tl names cv lev L1) (h2:FK K n tl names cv lev st (i+1) ts r2):∃ L',aX (none,[5,6]) (fBd K n) (dW i (t::ts)) ⟨L,st⟩=outW L' st (nH r1 r2):=by
 cases r1 with
 | none =>
  obtain ⟨L',e⟩:=h2 L1 q1
  exact ⟨L',bC (ks:=[5,6]) (vs:=[.int i,t]) rfl h1 e⟩
 | some f =>
  refine ⟨L1,?_⟩
  show aH (fBd K n) _ ⟨ah 6 (.val t) (ah 5 (.val (.int i)) L),st⟩=_
  rw [au h1]; rfl
theorem FK.cons {i:Int} {t:AV} {ts:List AV} {r1 r2:Option Ft} (hc:∀ L,FLoc tl names cv lev L->aq 5 L=some (.val (.int i))->fC ⟨L,st⟩=.ok (.bool false) ⟨L,st⟩) (h1:lf K n t names cv (lev+1) st=rtW st r1) (h2:FK K n tl names cv lev st (i+1) ts r2):FK K n tl names cv lev st i (t::ts) (nH r1 r2):=fun L q=>by
 have q1:FLoc tl names cv lev (ah 6 (.val t) (ah 5 (.val (.int i)) L)):=(q.set (k:=1)).set (k:=2)
 have g5:aq 5 (ah 6 (.val t) (ah 5 (.val (.int i)) L))=some (.val (.int i)):=(ag rfl).trans ay
 have g6:aq 6 (ah 6 (.val t) (ah 5 (.val (.int i)) L))=some (.val t):=ay
 generalize hL:ah 6 (.val t) (ah 5 (.val (.int i)) L)=L0 at q1 g5 g6
 have q2:FLoc tl names cv lev (ah 7 (.val (.lst names)) L0):=q1.set (k:=3)
 obtain ⟨L1,e1,q3⟩:=f_rest (K:=K) (n:=n) (st:=st) q2 ((ag rfl).trans g6) ay (.inl rfl) h1
 refine fk_go (L1:=L1) ?_ q3 h2
 rw [hL]
 exact (hY (bH (aZ q1.a1))).trans ((ifO (hc _ q2 ((ag rfl).trans g5))).trans e1)
theorem FK.last {x:Str} {a b:AV} {r:Option Ft} (hn:names.length<=1000) (h1:lf K n b (names++[.str x]) cv (lev+1) st=rtW st r):FK K n [.str "let",.str x,a,b] names cv lev st 1 [b] r:=fun L q=>by
 have q1:FLoc [.str "let",.str x,a,b] names cv lev (ah 6 (.val b) (ah 5 (.val (.int 1)) L)):=(q.set (k:=1)).set (k:=2)
 have g5:aq 5 (ah 6 (.val b) (ah 5 (.val (.int 1)) L))=some (.val (.int 1)):=(ag rfl).trans ay
 have g6:aq 6 (ah 6 (.val b) (ah 5 (.val (.int 1)) L))=some (.val b):=ay
 generalize hL:ah 6 (.val b) (ah 5 (.val (.int 1)) L)=L0 at q1 g5 g6
 have q2:FLoc [.str "let",.str x,a,b] names cv lev (ah 7 (.val (.lst names)) L0):=q1.set (k:=3)
 have p6:aq 6 (ah 7 (.val (.lst names)) L0)=some (.val b):=(ag rfl).trans g6
 have p5:aq 5 (ah 7 (.val (.lst names)) L0)=some (.val (.int 1)):=(ag rfl).trans g5
 have e0:aL 7 (ae 1) ⟨L0,st⟩=.ok .next ⟨ah 7 (.val (.lst names)) L0,st⟩:=bH (aZ q1.a1)
 generalize ah 7 (.val (.lst names)) L0=L2 at q2 p6 p5 e0
 have i0:al (aa 0) (af (.int 0)) ⟨L2,st⟩=.ok (.str "let") ⟨L2,st⟩:=bx (aY q2.a0) rfl (b5 q2.a0) rfl
 have i1:al (aa 0) (af (.int 1)) ⟨L2,st⟩=.ok (.str x) ⟨L2,st⟩:=bx (aY q2.a0) rfl (b5 q2.a0) rfl
 have c0:am (al (aa 0) (af (.int 0))) .Eq (af (.str "let")) ⟨L2,st⟩=.ok (.bool true) ⟨L2,st⟩:=(bJ i0 rfl).trans (by show Out.ok (AV.bool (seq "let" "let")) _=_; rw [aP])
 have c1:am (aa 5) .Eq (af (.int 1)) ⟨L2,st⟩=.ok (.bool true) ⟨L2,st⟩:=(bJ (b:=.int 1) (s₂:=⟨L2,st⟩) (aY p5) rfl).trans (by rw [au (cA (gD p5))]; rfl)
 have e7:aj .Add (aa 1) (bO [al (aa 0) (af (.int 1))]) ⟨L2,st⟩=.ok (.lst (names++[.str x])) ⟨L2,st⟩:=aB (aY q2.a1) (kq (ai i1 rfl) rfl) (dr_lst q2.a1) rfl (by
  show bD (names++[.str x])=_
  unfold bD
  rw [if_pos (by rw [zAd]; exact zAj (zBh hn 1) (show 1000+1<=sizeLine by decide +kernel))])
 have cc:fC ⟨L2,st⟩=.ok (.bool true) ⟨L2,st⟩:=(ci c0).trans c1
 have q3:FLoc [.str "let",.str x,a,b] names cv lev (ah 7 (.own (.lst (names++[.str x]))) L2):=q2.set (k:=3)
 obtain ⟨L1,e1,q4⟩:=f_rest (K:=K) (n:=n) (st:=st) q3 ((ag rfl).trans p6) ay (.inr rfl) h1
 have:=fk_go (K:=K) (n:=n) (L:=L) (i:=1) (t:=b) (ts:=[]) (r1:=r) (r2:=none) (L1:=L1) (st:=st) (by
  rw [hL]
  refine (hY e0).trans ((ifO cc).trans ?_)
  exact (show ac (ac (aT 7 _) (af .next)) _ _=_ from (hY (a:=ac (aT 7 (aj .Add (aa 1) (bO [al (aa 0) (af (.int 1))]))) (af .next)) (s':=⟨ah 7 (.own (.lst (names++[.str x]))) L2,st⟩) (bQ (o:=.ok .next _) (bp e7) trivial)).trans e1)) q4 FK.nil
 rw [iH] at this; exact this
theorem mR {parts:List AV} {r:Option Ft} (h:FK K n tl names cv lev st 0 parts r):RT (fEnd K n) ⟨fL (.tup tl) names cv lev++[(4,.val (.tup parts))],st⟩ (rtW st r):=by
 obtain ⟨L',e⟩:=h (fL (.tup tl) names cv lev++[(4,.val (.tup parts))]) ⟨rfl,rfl,rfl,rfl⟩
 have hi:fm .enum [ae 4] ⟨fL (.tup tl) names cv lev++[(4,.val (.tup parts))],st⟩=.ok (.tup (dW 0 parts)) ⟨fL (.tup tl) names cv lev++[(4,.val (.tup parts))],st⟩:=rfl
 cases r with
 | none=>exact .forT hi e (.ret (v:=.str "") (s':=⟨L',st⟩) rfl rfl)
 | some f =>
  have e2:cB (none,[5,6]) (fm .enum [ae 4]) (fBd K n) ⟨fL (.tup tl) names cv lev++[(4,.val (.tup parts))],st⟩=.ok (.ret (.str f.word)) ⟨L',st⟩:=by
   show aH (fm .enum [ae 4]) _ _=_
   rw [au hi]; exact e
  show bc (ax (cB (none,[5,6]) (fm .enum [ae 4]) (fBd K n) ⟨fL (.tup tl) names cv lev++[(4,.val (.tup parts))],st⟩) _)=_
  rw [e2]; rfl
noncomputable abbrev NoF (d:D AV) (t:AV) (names:List AV) (cv:AV) (lev:Int) (s:St):Prop:=d ⟨fL t names cv lev,s⟩=.ok (.bool false) ⟨fL t names cv lev,s⟩
theorem fh {r:Ret} (h1:NoF (am (aa 3) .Gt (af (.int 12))) (.tup tl) names cv lev st) (h2:NoF (az .And [am (al (aa 0) (af (.int 0))) .Eq (af (.str "name")),am (al (aa 0) (af (.int 1))) .NotIn (aa 1)]) (.tup tl) names cv lev st)
  (h3:NoF (az .And [am (al (aa 0) (af (.int 0))) .Eq (af (.str "call")),am (al (aa 0) (af (.int 1))) .NotIn (aa 2)]) (.tup tl) names cv lev st)
  (h4:NoF (az .And [am (al (aa 0) (af (.int 0))) .Eq (af (.str "call")),am (aW aA false [al (aa 0) (af (.int 2))]) .NotEq (al (aa 2) (al (aa 0) (af (.int 1))))]) (.tup tl) names cv lev st)
  (h:RT (fPre K n) ⟨fL (.tup tl) names cv lev,st⟩ r):lf K (n+1) (.tup tl) names cv lev st=r:=by
 show aw PP K (n+1) _ _ _ _=_
 rw [cR]
 show RT (bq (wX K n)) ⟨fL (.tup tl) names cv lev,st⟩ _
 unfold bq
 exact .ifB h1 (.next (.ifB h2 (.next (.ifB h3 (.next (.ifB h4 (.next h)))))))
end
section
variable {K n:Nat} {names:List AV} {cv:AV} {lev:Int} {st:St} {r:Ret}
theorem m0 {tag:Str} {rest:List AV} (ht:seq tag "let"=false):∀ L,FLoc (.str tag::rest) names cv lev L->fC ⟨L,st⟩=.ok (.bool false) ⟨L,st⟩:=fun L q=>by
 have i0:al (aa 0) (af (.int 0)) ⟨L,st⟩=.ok (.str tag) ⟨L,st⟩:=bx (aY q.a0) rfl (b5 q.a0) rfl
 have c0:am (al (aa 0) (af (.int 0))) .Eq (af (.str "let")) ⟨L,st⟩=.ok (.bool (seq tag "let")) ⟨L,st⟩:=(bJ i0 rfl).trans rfl
 rw [ht] at c0
 exact (ci c0).trans rfl
theorem fC_0 {rest:List AV}:∀ L,FLoc (.str "let"::rest) names cv lev L->aq 5 L=some (.val (.int 0))->fC ⟨L,st⟩=.ok (.bool false) ⟨L,st⟩:=fun L q g5=>by
 have i0:al (aa 0) (af (.int 0)) ⟨L,st⟩=.ok (.str "let") ⟨L,st⟩:=bx (aY q.a0) rfl (b5 q.a0) rfl
 have c0:am (al (aa 0) (af (.int 0))) .Eq (af (.str "let")) ⟨L,st⟩=.ok (.bool true) ⟨L,st⟩:=(bJ i0 rfl).trans (by show Out.ok (AV.bool (seq "let" "let")) _=_; rw [aP])
 refine (ci c0).trans ?_
 show am (aa 5) .Eq (af (.int 1)) ⟨L,st⟩=_
 exact (bJ (b:=.int 1) (s₂:=⟨L,st⟩) (aY g5) rfl).trans (by rw [au (cA (gD g5))]; rfl)
noncomputable abbrev FQ (K n:Nat) (tl names:List AV) (cv:AV) (lev:Int) (st:St) (parts:List AV):Prop:=∀ {r:Ret},RT (fEnd K n) ⟨fL (.tup tl) names cv lev++[(4,.val (.tup parts))],st⟩ r->RT (fPre K n) ⟨fL (.tup tl) names cv lev,st⟩ r
theorem pre_num {i:Int}:FQ K n [.str "num",.int i] names cv lev st []:=fun h =>
 .go (s':=⟨fL (.tup [.str "num",.int i]) names cv lev++[(4,.val (.tup [.int i]))],st⟩) (by kernel_rfl) (.ifB (c:=false) (s':=⟨fL (.tup [.str "num",.int i]) names cv lev++[(4,.val (.tup [.int i]))],st⟩) (by kernel_rfl) (.next (.ifB (c:=false) (s':=⟨fL (.tup [.str "num",.int i]) names cv lev++[(4,.val (.tup [.int i]))],st⟩) (by kernel_rfl) (.next (.ifB (c:=true) (s':=⟨fL (.tup [.str "num",.int i]) names cv lev++[(4,.val (.tup [.int i]))],st⟩) (by kernel_rfl) (.assoc (.go (s':=⟨fL (.tup [.str "num",.int i]) names cv lev++[(4,.val (.tup []))],st⟩) rfl (.next h))))))))
theorem pre_name {x:Str}:FQ K n [.str "name",.str x] names cv lev st []:=fun h =>
 .go (s':=⟨fL (.tup [.str "name",.str x]) names cv lev++[(4,.val (.tup [.str x]))],st⟩) (by kernel_rfl) (.ifB (c:=false) (s':=⟨fL (.tup [.str "name",.str x]) names cv lev++[(4,.val (.tup [.str x]))],st⟩) (by kernel_rfl) (.next (.ifB (c:=false) (s':=⟨fL (.tup [.str "name",.str x]) names cv lev++[(4,.val (.tup [.str x]))],st⟩) (by kernel_rfl) (.next (.ifB (c:=true) (s':=⟨fL (.tup [.str "name",.str x]) names cv lev++[(4,.val (.tup [.str x]))],st⟩) (by kernel_rfl) (.assoc (.go (s':=⟨fL (.tup [.str "name",.str x]) names cv lev++[(4,.val (.tup []))],st⟩) rfl (.next h))))))))
theorem mv {tag:Str} {rest:List AV} (s4:aT 4 (d4 (aa 0) (af (.int 1)) (af .none)) ⟨fL (.tup (.str tag::rest)) names cv lev,st⟩=.ok .next ⟨fL (.tup (.str tag::rest)) names cv lev++[(4,.val (.tup rest))],st⟩) (h1:seq tag "call"=false) (h2:seq tag "let"=false) (h3:seq tag "num"=false) (h4:seq tag "name"=false):FQ K n (.str tag::rest) names cv lev st rest:=fun h=>by
 have c:∀ y:Str,seq tag y=false->am (al (aa 0) (af (.int 0))) .Eq (af (.str y)) ⟨fL (.tup (.str tag::rest)) names cv lev++[(4,.val (.tup rest))],st⟩=.ok (.bool false) ⟨fL (.tup (.str tag::rest)) names cv lev++[(4,.val (.tup rest))],st⟩:=fun y hy=>by
  rw [← hy]; rfl
 exact .go s4 (.ifB (c _ h1) (.next (.ifB (c _ h2) (.next (.ifB ((eP (c _ h3)).trans (c _ h4)) (.next h))))))
noncomputable abbrev fM (tl:List AV) (names:List AV) (cv:AV) (lev:Int) (p:List AV):bF:=fL (.tup tl) names cv lev++[(4,.val (.tup p))]
theorem gO {tag y:Str} {rest p:List AV} {b:Bool} (h:seq tag y=b):am (al (aa 0) (af (.int 0))) .Eq (af (.str y)) ⟨fM (.str tag::rest) names cv lev p,st⟩=.ok (.bool b) ⟨fM (.str tag::rest) names cv lev p,st⟩:=by rw [← h]; rfl
theorem pre_let {x:Str} {a b:AV}:FQ K n [.str "let",.str x,a,b] names cv lev st [a,b]:=fun h=>by
 have e1:aT 4 (d4 (aa 0) (af (.int 1)) (af .none)) ⟨fL (.tup [.str "let",.str x,a,b]) names cv lev,st⟩=.ok .next ⟨fM [.str "let",.str x,a,b] names cv lev [.str x,a,b],st⟩:=by kernel_rfl
 have e2:aT 4 (d4 (aa 0) (af (.int 2)) (af .none)) ⟨fM [.str "let",.str x,a,b] names cv lev [.str x,a,b],st⟩=.ok .next ⟨fM [.str "let",.str x,a,b] names cv lev [a,b],st⟩:=by kernel_rfl
 have c1:=gO (names:=names) (cv:=cv) (lev:=lev) (st:=st) (tag:="let") (y:="call") (rest:=[.str x,a,b]) (p:=[.str x,a,b]) (b:=false) (by decide +kernel)
 have c2:=gO (names:=names) (cv:=cv) (lev:=lev) (st:=st) (tag:="let") (y:="let") (rest:=[.str x,a,b]) (p:=[.str x,a,b]) (b:=true) (aP _)
 have c3:=gO (names:=names) (cv:=cv) (lev:=lev) (st:=st) (tag:="let") (y:="num") (rest:=[.str x,a,b]) (p:=[a,b]) (b:=false) (by decide +kernel)
 have c4:=gO (names:=names) (cv:=cv) (lev:=lev) (st:=st) (tag:="let") (y:="name") (rest:=[.str x,a,b]) (p:=[a,b]) (b:=false) (by decide +kernel)
 have c5:az .Or [am (al (aa 0) (af (.int 0))) .Eq (af (.str "num")),am (al (aa 0) (af (.int 0))) .Eq (af (.str "name"))] ⟨fM [.str "let",.str x,a,b] names cv lev [a,b],st⟩=.ok (.bool false) ⟨fM [.str "let",.str x,a,b] names cv lev [a,b],st⟩:=(eP c3).trans c4
 exact .go e1 (.ifB c1 (.next (.ifB c2 (.assoc (.go e2 (.next (.ifB c5 (.next h))))))))
theorem pre_call {f:Str} {l:List AV}:FQ K n [.str "call",.str f,.tup l] names cv lev st l:=fun h=>by
 have e1:aT 4 (d4 (aa 0) (af (.int 1)) (af .none)) ⟨fL (.tup [.str "call",.str f,.tup l]) names cv lev,st⟩=.ok .next ⟨fM [.str "call",.str f,.tup l] names cv lev [.str f,.tup l],st⟩:=by kernel_rfl
 have e2:aL 4 (al (aa 0) (af (.int 2))) ⟨fM [.str "call",.str f,.tup l] names cv lev [.str f,.tup l],st⟩=.ok .next ⟨fM [.str "call",.str f,.tup l] names cv lev l,st⟩:=rfl
 have c1:=gO (names:=names) (cv:=cv) (lev:=lev) (st:=st) (tag:="call") (y:="call") (rest:=[.str f,.tup l]) (p:=[.str f,.tup l]) (b:=true) (aP _)
 have c2:=gO (names:=names) (cv:=cv) (lev:=lev) (st:=st) (tag:="call") (y:="let") (rest:=[.str f,.tup l]) (p:=l) (b:=false) (by decide +kernel)
 have c3:=gO (names:=names) (cv:=cv) (lev:=lev) (st:=st) (tag:="call") (y:="num") (rest:=[.str f,.tup l]) (p:=l) (b:=false) (by decide +kernel)
 have c4:=gO (names:=names) (cv:=cv) (lev:=lev) (st:=st) (tag:="call") (y:="name") (rest:=[.str f,.tup l]) (p:=l) (b:=false) (by decide +kernel)
 have c5:az .Or [am (al (aa 0) (af (.int 0))) .Eq (af (.str "num")),am (al (aa 0) (af (.int 0))) .Eq (af (.str "name"))] ⟨fM [.str "call",.str f,.tup l] names cv lev l,st⟩=.ok (.bool false) ⟨fM [.str "call",.str f,.tup l] names cv lev l,st⟩:=(eP c3).trans c4
 exact .go e1 (.ifB c1 (.assoc (.go e2 (.next (.ifB c2 (.next (.ifB c5 (.next h))))))))
end
section
variable {K:Nat} {st:St} {cs:Str->Option Nat} {ks ws:List AV}
noncomputable def FG (K n:Nat) (t:Tr) (h:Nat) (names:List AV) (cv:AV) (st:St) (r:Option Ft):Option Nat->Prop
 | none=>lf K n t.enc names cv (13 - (h:Int)) st=rtW st r
 | some _=>∀ (tag:Str) (rest:List AV) (i:Int),seq tag "let"=false->FK K n (.str tag::rest) names cv (12 - (h:Int)) st i (bl t.enc) r
theorem FG.at {n:Nat} {h:Nat} {names:List AV} {cv:AV} {a:Tr} {r:Option Ft} (h1:FG K n a h names cv st r none):lf K n a.enc names cv (13 - ((h+1:Nat):Int)+1) st=rtW st r:=by
 rw [show (13 - ((h+1:Nat):Int))+1=13 - (h:Int) by lia]; exact h1
theorem fault_flt (C:CsIs cs ks ws):∀ (t:Tr) {j h:Nat} {ns:List Str} {k:Option Nat} {n:Nat},t.ok j k->ns.length+h<=900->h+1<=n->FG K n t h (ns.map .str) (.dct ks ws) st (dX cs t h ns) k:=by
 intro t
 have lev:∀ {h:Nat} {names:List AV} {t:AV},NoF (am (aa 3) .Gt (af (.int 12))) t names (.dct ks ws) (13 - ((h+1:Nat):Int)) st:=fun {h names t}=>by
  show Out.ok (AV.bool (decide ((12:Int) < 13 - ((h+1:Nat):Int)))) _=_
  rw [decide_eq_false (by lia)]
 have tall:∀ {t:AV} {names:List AV} {n:Nat},1<=n->lf K n t names (.dct ks ws) (13 - ((0:Nat):Int)) st=.ok (.str "tall") st:=fun {t names n} hn=>by
  obtain ⟨n,rfl⟩:∃ n',n=n'+1:=⟨n - 1,by lia⟩
  show aw PP K (n+1) _ _ _ _=_
  rw [cR]
  show RT (bq (wX K n)) ⟨fL t names (.dct ks ws) (13 - ((0:Nat):Int)),st⟩ _
  unfold bq
  exact .ifB (c:=true) rfl (.assoc (.ret (v:=.str "tall") (s':=⟨fL t names (.dct ks ws) (13 - ((0:Nat):Int)),st⟩) rfl rfl))
 induction t with
 | num i =>
  intro j h ns k n q hl hN
  obtain ⟨rfl,h0,_⟩:=q
  cases h with
  | zero=>exact tall (by lia)
  | succ h =>
   obtain ⟨n,rfl⟩:∃ n',n=n'+1:=⟨n - 1,by lia⟩
   exact fh lev (by kernel_rfl) (by kernel_rfl) (by kernel_rfl) (pre_num (mR FK.nil))
 | name x =>
  intro j h ns k n q hl hN
  obtain ⟨rfl,h0⟩:=q
  cases h with
  | zero=>exact tall (by lia)
  | succ h =>
   obtain ⟨n,rfl⟩:∃ n',n=n'+1:=⟨n - 1,by lia⟩
   have t2:az .And [am (al (aa 0) (af (.int 0))) .Eq (af (.str "name")),am (al (aa 0) (af (.int 1))) .NotIn (aa 1)] ⟨fL (.tup [.str "name",.str x]) (ns.map .str) (.dct ks ws) (13 - ((h+1:Nat):Int)),st⟩=.ok (.bool (!decide (x ∈ ns))) ⟨fL (.tup [.str "name",.str x]) (ns.map .str) (.dct ks ws) (13 - ((h+1:Nat):Int)),st⟩:=by
    refine (ci (c:=seq "name" "name") rfl).trans ?_
    rw [aP]
    show Mine.opt (((inV (.str x) (.lst (ns.map .str))).map (!·)).map AV.bool) _=_
    rw [jy]; rfl
   show lf K (n+1) (.tup [.str "name",.str x]) _ _ _ _=rtW st (if x ∈ ns then none else some .name)
   by_cases hx:x ∈ ns
   ·rw [if_pos hx]
    rw [decide_eq_true hx] at t2
    exact fh lev t2 (by kernel_rfl) (by kernel_rfl) (pre_name (mR FK.nil))
   ·rw [if_neg hx]
    rw [decide_eq_false hx] at t2
    show aw PP K (n+1) _ _ _ _=_
    rw [cR]
    show RT (bq _) ⟨fL (.tup [.str "name",.str x]) (ns.map .str) (.dct ks ws) (13 - ((h+1:Nat):Int)),st⟩ _
    unfold bq
    exact .ifB lev (.next (.ifB t2 (.assoc (.ret (v:=.str "name") (s':=⟨fL (.tup [.str "name",.str x]) (ns.map .str) (.dct ks ws) (13 - ((h+1:Nat):Int)),st⟩) rfl rfl))))
 | deed w a b iha ihb =>
  intro j h ns k n q hl hN
  obtain ⟨rfl,j',rfl,h1,h2⟩:=q
  cases h with
  | zero=>exact tall (by lia)
  | succ h =>
   obtain ⟨n,rfl⟩:∃ n',n=n'+1:=⟨n - 1,by lia⟩
   have A:FG K n a h (ns.map .str) (.dct ks ws) st (dX cs a h ns) none:=iha h1 (by lia) (by lia)
   have B:FG K n b h (ns.map .str) (.dct ks ws) st (dX cs b h ns) none:=ihb h2 (by lia) (by lia)
   have hw:seq w.str "let"=false:=by cases w <;> decide +kernel
   have F:=FK.cons (K:=K) (n:=n) (tl:=[.str w.str,a.enc,b.enc]) (i:=0) (fun L q _=>m0 hw L q) A.at (FK.cons (fun L q _=>m0 hw L q) B.at FK.nil)
   rw [iH] at F
   exact fh lev (by cases w <;> kernel_rfl) (by cases w <;> kernel_rfl) (by cases w <;> kernel_rfl) (mv (by kernel_rfl) (by cases w <;> decide +kernel) hw (by cases w <;> decide +kernel) (by cases w <;> decide +kernel) (mR F))
 | choose a b c iha ihb ihc =>
  intro j h ns k n q hl hN
  obtain ⟨rfl,j',rfl,h1,h2,h3⟩:=q
  cases h with
  | zero=>exact tall (by lia)
  | succ h =>
   obtain ⟨n,rfl⟩:∃ n',n=n'+1:=⟨n - 1,by lia⟩
   have A:FG K n a h (ns.map .str) (.dct ks ws) st (dX cs a h ns) none:=iha h1 (by lia) (by lia)
   have B:FG K n b h (ns.map .str) (.dct ks ws) st (dX cs b h ns) none:=ihb h2 (by lia) (by lia)
   have D:FG K n c h (ns.map .str) (.dct ks ws) st (dX cs c h ns) none:=ihc h3 (by lia) (by lia)
   have hw:seq "choose" "let"=false:=by decide +kernel
   have F:=FK.cons (K:=K) (n:=n) (tl:=[.str "choose",a.enc,b.enc,c.enc]) (i:=0) (fun L q _=>m0 hw L q) A.at (FK.cons (fun L q _=>m0 hw L q) B.at (FK.cons (fun L q _=>m0 hw L q) D.at FK.nil))
   rw [iH] at F
   exact fh lev (by kernel_rfl) (by kernel_rfl) (by kernel_rfl) (mv (by kernel_rfl) (by decide +kernel) hw (by decide +kernel) (by decide +kernel) (mR F))
 | lt x a b iha ihb =>
  intro j h ns k n q hl hN
  obtain ⟨rfl,j',rfl,h1,h2⟩:=q
  cases h with
  | zero=>exact tall (by lia)
  | succ h =>
   obtain ⟨n,rfl⟩:∃ n',n=n'+1:=⟨n - 1,by lia⟩
   have A:FG K n a h (ns.map .str) (.dct ks ws) st (dX cs a h ns) none:=iha h1 (by lia) (by lia)
   have B:FG K n b h ((ns++[x]).map .str) (.dct ks ws) st (dX cs b h (ns++[x])) none:=ihb h2 (by rw [zAd]; show _+1+_<=_; lia) (by lia)
   have B:=B.at
   rw [zAw] at B
   exact fh lev (by kernel_rfl) (by kernel_rfl) (by kernel_rfl) (pre_let (mR (FK.cons (i:=0) fC_0 A.at (FK.last (by rw [zAe]; lia) B))))
 | call f l ih =>
  intro j h ns k n q hl hN
  obtain ⟨rfl,j',rfl,c,hc,h2⟩:=q
  cases h with
  | zero=>exact tall (by lia)
  | succ h =>
   obtain ⟨n,rfl⟩:∃ n',n=n'+1:=⟨n - 1,by lia⟩
   obtain ⟨w1,w2⟩:=jb h2
   have A:FG K n l h (ns.map .str) (.dct ks ws) st (dX cs l h ns) (some c):=ih h2 (by lia) (by lia)
   have A:=A "call" [.str f,.tup (bl l.enc)] 0 (by decide +kernel)
   rw [show (12 - (h:Int))=13 - ((h+1:Nat):Int) by lia] at A
   show lf K (n+1) (.tup [.str "call",.str f,l.enc]) _ _ (13 - ((h+1:Nat):Int)) _=rtW st ((cs f).elim (some .fn) fun c=>if (bl l.enc).length=c then dX cs l h ns else some .cnt)
   rw [w1]
   generalize hlv:(13 - ((h+1:Nat):Int))=lv at A
   have lev:NoF (am (aa 3) .Gt (af (.int 12))) (.tup [.str "call",.str f,.tup (bl l.enc)]) (ns.map .str) (.dct ks ws) lv st:=by rw [← hlv]; exact lev
   have t2:NoF (az .And [am (al (aa 0) (af (.int 0))) .Eq (af (.str "name")),am (al (aa 0) (af (.int 1))) .NotIn (aa 1)]) (.tup [.str "call",.str f,.tup (bl l.enc)]) (ns.map .str) (.dct ks ws) lv st:=by kernel_rfl
   have t3:az .And [am (al (aa 0) (af (.int 0))) .Eq (af (.str "call")),am (al (aa 0) (af (.int 1))) .NotIn (aa 2)] ⟨fL (.tup [.str "call",.str f,.tup (bl l.enc)]) (ns.map .str) (.dct ks ws) lv,st⟩=.ok (.bool (!(cs f).isSome)) ⟨fL (.tup [.str "call",.str f,.tup (bl l.enc)]) (ns.map .str) (.dct ks ws) lv,st⟩:=by
    refine (ci (c:=seq "call" "call") rfl).trans ?_
    rw [aP]
    show Mine.opt ((Option.map (!·) (some (im (.str f) ks))).map AV.bool) _=_
    rw [C.has]; rfl
   cases hf:cs f with
   | none =>
    rw [hf] at t3
    show aw PP K (n+1) _ _ _ _=_
    rw [cR]
    show RT (bq _) ⟨fL (.tup [.str "call",.str f,.tup (bl l.enc)]) (ns.map .str) (.dct ks ws) lv,st⟩ _
    unfold bq
    exact .ifB lev (.next (.ifB t2 (.next (.ifB t3 (.assoc (.ret (v:=.str "function") (s':=⟨fL (.tup [.str "call",.str f,.tup (bl l.enc)]) (ns.map .str) (.dct ks ws) lv,st⟩) rfl rfl))))))
   | some c' =>
    rw [hf] at t3
    have t4:az .And [am (al (aa 0) (af (.int 0))) .Eq (af (.str "call")),am (aW aA false [al (aa 0) (af (.int 2))]) .NotEq (al (aa 2) (al (aa 0) (af (.int 1))))] ⟨fL (.tup [.str "call",.str f,.tup (bl l.enc)]) (ns.map .str) (.dct ks ws) lv,st⟩=.ok (.bool (!decide (((bl l.enc).length:Int)=(c':Int)))) ⟨fL (.tup [.str "call",.str f,.tup (bl l.enc)]) (ns.map .str) (.dct ks ws) lv,st⟩:=by
     refine (ci (c:=seq "call" "call") rfl).trans ?_
     rw [aP]
     have e1:aW aA false [al (aa 0) (af (.int 2))] ⟨fL (.tup [.str "call",.str f,.tup (bl l.enc)]) (ns.map .str) (.dct ks ws) lv,st⟩=.ok (.int ((bl l.enc).length:Int)) ⟨fL (.tup [.str "call",.str f,.tup (bl l.enc)]) (ns.map .str) (.dct ks ws) lv,st⟩:=rfl
     have e2:al (aa 2) (al (aa 0) (af (.int 1))) ⟨fL (.tup [.str "call",.str f,.tup (bl l.enc)]) (ns.map .str) (.dct ks ws) lv,st⟩=.ok (.int (c':Int)) ⟨fL (.tup [.str "call",.str f,.tup (bl l.enc)]) (ns.map .str) (.dct ks ws) lv,st⟩:=by
      show Mine.opt (cW (.str f) ks ws) _=_
      rw [C.get,hf]; rfl
     exact (bJ e1 e2).trans rfl
    show _=rtW st (if (bl l.enc).length=c' then dX cs l h ns else some .cnt)
    by_cases hc:(bl l.enc).length=c'
    ·rw [if_pos hc]
     rw [decide_eq_true (by rw [hc])] at t4
     exact fh lev t2 t3 t4 (pre_call (mR A))
    ·rw [if_neg hc]
     rw [decide_eq_false (fun z=>hc (Int.ofNat_inj.mp z))] at t4
     show aw PP K (n+1) _ _ _ _=_
     rw [cR]
     show RT (bq _) ⟨fL (.tup [.str "call",.str f,.tup (bl l.enc)]) (ns.map .str) (.dct ks ws) lv,st⟩ _
     unfold bq
     exact .ifB lev (.next (.ifB t2 (.next (.ifB t3 (.next (.ifB t4 (.assoc (.ret (v:=.str "count") (s':=⟨fL (.tup [.str "call",.str f,.tup (bl l.enc)]) (ns.map .str) (.dct ks ws) lv,st⟩) rfl rfl))))))))
 | nil=>intro j h ns k n q hl hN; cases q; exact fun _ _ _ _=>FK.nil
 | cons t r iht ihr =>
  intro j h ns k n q hl hN
  obtain ⟨c,rfl,h1,h2⟩:=q
  have A:FG K n t h (ns.map .str) (.dct ks ws) st (dX cs t h ns) none:=iht h1 hl hN
  exact fun tag rest i ht=>FK.cons (t:=t.enc) (fun L q _=>m0 ht L q) (by rw [show (12 - (h:Int))+1=13 - (h:Int) by lia]; exact A) (ihr h2 hl hN tag rest (i+1) ht)
end
noncomputable def uq (ds:List Fu):List Fu->List Fu
 | []=>ds
 | u::r=>if (a9 u.nm ds).isSome then uq ds r else uq (ds++[u]) r
theorem mU {f:Str} {u:Fu}:∀ ds:List Fu,a9 f (ds++[u])=(a9 f ds).elim (if seq f u.nm then some u else none) some
 | []=>rfl
 | v::r=>by
  show (if seq f v.nm then some v else a9 f (r++[u]))=(if seq f v.nm then some v else a9 f r).elim _ _
  cases seq f v.nm with
  | true=>rfl
  | false=>exact mU r
theorem iE {f:Str}:∀ (r ds:List Fu),a9 f (uq ds r)=(a9 f ds).elim (a9 f r) some
 | [],ds=>by show a9 f ds=_; cases a9 f ds <;> rfl
 | u::r,ds=>by
  show a9 f (if (a9 u.nm ds).isSome then uq ds r else uq (ds++[u]) r)=(a9 f ds).elim (if seq f u.nm then some u else a9 f r) some
  cases h:(a9 u.nm ds).isSome with
  | true =>
   show a9 f (uq ds r)=_
   rw [iE r ds]
   cases hf:a9 f ds with
   | some v=>rfl
   | none =>
    show a9 f r=if seq f u.nm then some u else a9 f r
    cases e:seq f u.nm with
    | true=>rw [← seq_iff'.mp e,hf] at h; exact ff h
    | false=>rfl
  | false =>
   show a9 f (uq (ds++[u]) r)=_
   rw [iE r (ds++[u]),mU]
   cases a9 f ds with
   | some v=>rfl
   | none=>cases seq f u.nm <;> rfl
theorem cs_is (fs:List Fu):CsIs (bk fs) ((uq [] fs).map fun u=>.str u.nm) ((uq [] fs).map cnV) where
 has:=fun f=>by
  rw [d6,iE]
  show (a9 f fs).isSome=((a9 f fs).map _).isSome
  cases a9 f fs <;> rfl
 get:=fun f=>by
  rw [g9,iE]
  show (a9 f fs).map cnV=((a9 f fs).map _).map _
  rw [Option.map_map]; rfl
theorem fF {f:Str}:∀ {fs:List Fu},f ∈ fs.map (·.nm)->(a9 f fs).isSome=true
 | v::r,h=>by
  show (if seq f v.nm then some v else a9 f r).isSome=true
  cases e:seq f v.nm with
  | true=>rfl
  | false =>
   rcases zAl.mp h with q | q
   ·rw [q,aP] at e; exact ff e.symm
   ·exact fF q
theorem mO {f:Str} {fs:List Fu}:(a9 f fs).isSome=decide (f ∈ fs.map (·.nm)):=by
 by_cases h:f ∈ fs.map (·.nm)
 ·rw [fF h,decide_eq_true h]
 ·rw [eo h,decide_eq_false h]; rfl
section
variable {K n:Nat} {st:St}
theorem d3 {o:LV}:∀ (r ds:List Fu) (L:bF),ds.length+r.length<=900->aq 0 L=some o->aq 1 L=some (.own (b6 ds))->∃ L',aX (none,[2,3,4]) ctB (r.map Fu.enc) ⟨L,st⟩=.ok .next ⟨L',st⟩/\aq 0 L'=some o/\aq 1 L'=some (.own (b6 (uq ds r)))
 | [],ds,L,_,h0,h1=>⟨L,rfl,h0,h1⟩
 | u::r,ds,L,hl,h0,h1=>by
  have hl':ds.length+(r.length+1)<=900:=hl
  have q1:aq 1 (ah 4 (.val u.bd.enc) (ah 3 (.val (.tup (u.ps.map .str))) (ah 2 (.val (.str u.nm)) L)))=some (.own (b6 ds)):=(ag rfl).trans ((ag rfl).trans ((ag rfl).trans h1))
  have q0:aq 0 (ah 4 (.val u.bd.enc) (ah 3 (.val (.tup (u.ps.map .str))) (ah 2 (.val (.str u.nm)) L)))=some o:=(ag rfl).trans ((ag rfl).trans ((ag rfl).trans h0))
  have q2:aq 2 (ah 4 (.val u.bd.enc) (ah 3 (.val (.tup (u.ps.map .str))) (ah 2 (.val (.str u.nm)) L)))=some (.val (.str u.nm)):=(ag rfl).trans ((ag rfl).trans ay)
  have q3:aq 3 (ah 4 (.val u.bd.enc) (ah 3 (.val (.tup (u.ps.map .str))) (ah 2 (.val (.str u.nm)) L)))=some (.val (.tup (u.ps.map .str))):=(ag rfl).trans ay
  generalize hq:ah 4 (.val u.bd.enc) (ah 3 (.val (.tup (u.ps.map .str))) (ah 2 (.val (.str u.nm)) L))=L1 at q0 q1 q2 q3
  have t:=(in_at (s:=⟨L1,st⟩) (aY q2) (aY q1) (iu q2) (gF q1)).2
  rw [d6] at t
  show ∃ L',aX (none,[2,3,4]) ctB (u.enc::r.map Fu.enc) ⟨L,st⟩=.ok .next ⟨L',st⟩/\aq 0 L'=some o/\aq 1 L'=some (.own (b6 (if (a9 u.nm ds).isSome then uq ds r else uq (ds++[u]) r)))
  cases hd:(a9 u.nm ds).isSome with
  | true =>
   rw [hd] at t
   have e1:ctB ⟨L1,st⟩=.ok .next ⟨L1,st⟩:=cs_f t rfl trivial
   obtain ⟨L',f0,f1,f2⟩:=d3 (o:=o) r ds L1 (by lia) q0 q1
   exact ⟨L',bC (ks:=[2,3,4]) (vs:=[.str u.nm,.tup (u.ps.map .str),u.bd.enc]) rfl (by show ctB ⟨ah 4 _ (ah 3 _ (ah 2 _ L)),st⟩=_; rw [hq]; exact e1) f0,f1,f2⟩
  | false =>
   rw [hd] at t
   have hn:u.nm ∉ ds.map (·.nm):=fun z=>by rw [fF z] at hd; exact ff hd.symm
   have e1:ctB ⟨L1,st⟩=.ok .next ⟨ah 1 (.own (b6 (ds++[u]))) L1,st⟩:=by
    refine cs_t t (o:=.ok .next _) (bQ (cG (S₁:=⟨L1,st⟩) (gS q3) (aY q1) (aZ q2) q1 (w':=b6 (ds++[u])) ?_ rfl) trivial) trivial
    rw [zAe]; exact jt (g:=cnV) hn (by lia)
   obtain ⟨L',f0,f1,f2⟩:=d3 (o:=o) r (ds++[u]) (ah 1 (.own (b6 (ds++[u]))) L1) (by rw [zAd]; show _+1+_<=_; lia) ((ag rfl).trans q0) ay
   exact ⟨L',bC (ks:=[2,3,4]) (vs:=[.str u.nm,.tup (u.ps.map .str),u.bd.enc]) rfl (by show ctB ⟨ah 4 _ (ah 3 _ (ah 2 _ L)),st⟩=_; rw [hq]; exact e1) f0,f1,f2⟩
theorem counts_all {fs:List Fu} (hl:fs.length<=900):aw PP K (n+1) ⟨#[]⟩ "counts_of" [bB fs] st=.ok (b6 (uq [] fs)) st:=by
 rw [iY]
 show RT (fz (wX K n)) ⟨[(0,.val (bB fs))],st⟩ _
 obtain ⟨L',f1,_,f2⟩:=d3 (st:=st) fs [] [(0,.val (bB fs)),(1,.own (.dct [] []))] (by show 0+_<=_; lia) rfl rfl
 exact .go (s':=⟨[(0,.val (bB fs)),(1,.own (.dct [] []))],st⟩) rfl (.forI (l:=fs.map Fu.enc) (s₁:=⟨[(0,.val (bB fs)),(1,.own (.dct [] []))],st⟩) rfl f1 (.ret (eL f2) rfl))
end
theorem mh {x:Str}:∀ {l:List Str},cw x l=decide (x ∈ l)
 | []=>rfl
 | y::r=>by
  show (seq x y || cw x r)=_
  rw [mh]
  by_cases h:x=y
  ·subst h; rw [aP]; simp
  ·rw [sq_ne h]; simp [h]
theorem kz:∀ (ss σ:List Str),(b9 σ ss).length<=σ.length+ss.length
 | [],σ=>zAy _
 | s::r,σ=>by
  show (b9 (if cw s σ then σ else σ++[s]) r).length<=σ.length+(r.length+1)
  cases cw s σ with
  | true=>exact zAj (kz r σ) (by lia)
  | false=>exact zAj (kz r (σ++[s])) (by rw [zAd]; show _+1+_<=_; lia)
theorem once_dup:∀ (ss σ:List Str),σ.Nodup->¬ (σ++ss).Nodup->(b9 σ ss).length < σ.length+ss.length
 | [],σ,h,hn=>by rw [zAt] at hn; exact absurd h hn
 | s::r,σ,h,hn=>by
  show (b9 (if cw s σ then σ else σ++[s]) r).length < σ.length+(r.length+1)
  cases hm:cw s σ with
  | true=>exact zBi (kz r σ) (by lia)
  | false =>
   rw [mh] at hm
   have hs:s ∉ σ:=of_decide_eq_false hm
   have:=once_dup r (σ++[s]) (zCl.mpr ⟨h,zBp.mpr ⟨(fun q=>nomatch q),zC2⟩,fun a ha b hb q=>hs (by rw [zAf.mp hb] at q; exact q ▸ ha)⟩) (by rw [zAm]; exact hn)
   rw [zAd] at this
   exact zBx this (by show _+1+_<=_; lia)
theorem gQ (ps:List Str):((b9 [] ps).length=ps.length ↔ ps.Nodup)/\(b9 [] ps).length<=ps.length:=by
 have h1:=kz ps []
 refine ⟨⟨fun h=>?_,fun h=>by rw [oM ps [] h]; rfl⟩,by simpa using h1⟩
 by_cases hn:ps.Nodup
 ·exact hn
 ·have:=once_dup ps [] zC2 hn
  rw [h] at this
  exact absurd this (by show ¬ ps.length < 0+ps.length; lia)
noncomputable def iC (cs:Str->Option Nat) (ds:List Fu):List Fu->Option Ft
 | []=>none
 | u::r=>if u.nm ∈ ds.map (·.nm) ∨ ¬ u.ps.Nodup then some .twice else nH (dX cs u.bd 12 u.ps) (iC cs (ds++[u]) r)
theorem pw_of {cs:Str->Option Nat}:∀ (r ds:List Fu),(ds.map (·.nm)).Nodup->iC cs ds r=none->((ds++r).map (·.nm)).Nodup/\∀ u ∈ r,u.ps.Nodup/\dX cs u.bd 12 u.ps=none
 | [],ds,h,_=>⟨by rw [zAt]; exact h,fun u q=>nomatch q⟩
 | u::r,ds,h,e=>by
  have e:(if u.nm ∈ ds.map (·.nm) ∨ ¬ u.ps.Nodup then some Ft.twice else nH (dX cs u.bd 12 u.ps) (iC cs (ds++[u]) r))=none:=e
  by_cases hc:u.nm ∈ ds.map (·.nm) ∨ ¬ u.ps.Nodup
  ·rw [if_pos hc] at e; exact cC zAr e rfl
  ·rw [if_neg hc] at e
   obtain ⟨e1,e2⟩:=jw e
   have h':((ds++[u]).map (·.nm)).Nodup:=by
    rw [zAw]
    exact zCl.mpr ⟨h,zBp.mpr ⟨(fun q=>nomatch q),zC2⟩,fun a ha b hb q=>hc (.inl (by rw [zAf.mp hb] at q; have q:a=u.nm:=q; rw [← q]; exact ha))⟩
   obtain ⟨g1,g2⟩:=pw_of r (ds++[u]) h' e2
   refine ⟨by rw [zAm] at g1; exact g1,fun v hv=>?_⟩
   rcases zAl.mp hv with rfl | hv
   ·exact ⟨Classical.byContradiction fun z=>hc (.inr z),e1⟩
   ·exact g2 v hv
structure PS (fs:List Fu):Prop where
 ps:∀ u ∈ fs,u.ps.length<=100
 bd:∀ u ∈ fs,∃ j,j<=30/\u.bd.ok j none
theorem PS.pw {fs:List Fu} (P:PS fs) (h:iC (bk fs) [] fs=none):PW fs:=by
 obtain ⟨h1,h2⟩:=pw_of fs [] zC2 h
 exact ⟨h1,fun u hu=>⟨(h2 u hu).1,P.ps u hu⟩,fun u hu=>by obtain ⟨j,_,hj⟩:=P.bd u hu; exact wf_of u.bd hj (h2 u hu).2⟩
section
variable {K n:Nat} {st:St}
theorem set_at {L:bF} {k:Nat} {ps:List Str} (h:aq k L=some (.val (.tup (ps.map .str)))) (hp:ps.length<=100):aW aA false [aW eB false [aa k]] ⟨L,st⟩=.ok (.int ((b9 [] ps).length:Int)) ⟨L,st⟩/\aW aA false [aa k] ⟨L,st⟩=.ok (.int (ps.length:Int)) ⟨L,st⟩:=by
 have ln:=gS (st:=st) h
 rw [zAe] at ln
 refine ⟨cn (cn (v:=.sett (b9 [] ps).length) (aY h) (b5 h) ?_) rfl rfl,ln⟩
 show ((dN (ps.map .str)).bind fun ss=>if zB5 ss.length 4000 then some (AV.sett (b9 [] ss).length) else none)=_
 rw [ii]
 show (if zB5 ps.length 4000 then some (AV.sett (b9 [] ps).length) else none)=_
 rw [zC4 (by lia)]; rfl
theorem hZ {fs:List Fu} (P:PS fs):∀ (r ds:List Fu) (L:bF),(∀ u ∈ r,u ∈ fs)->ds.length+r.length<=900->aq 1 L=some (.val (b6 (uq [] fs)))->aq 2 L=some (.own (b6 ds)) ->
  ∃ L',aX (none,[3,4,5]) (ckB (wX K (n+13))) (r.map Fu.enc) ⟨L,st⟩=outF L' st (iC (bk fs) ds r)/\(iC (bk fs) ds r=none->aq 2 L'=some (.own (b6 (ds++r))))
 | [],ds,L,_,_,h1,h2=>⟨L,rfl,fun _=>by rw [zAt]; exact h2⟩
 | u::r,ds,L,hr,hl,h1,h2=>by
  have hu:u ∈ fs:=hr u zAb
  have hps:=P.ps u hu
  have hl':ds.length+(r.length+1)<=900:=hl
  have q1:aq 1 (ah 5 (.val u.bd.enc) (ah 4 (.val (.tup (u.ps.map .str))) (ah 3 (.val (.str u.nm)) L)))=some (.val (b6 (uq [] fs))):=(ag rfl).trans ((ag rfl).trans ((ag rfl).trans h1))
  have q2:aq 2 (ah 5 (.val u.bd.enc) (ah 4 (.val (.tup (u.ps.map .str))) (ah 3 (.val (.str u.nm)) L)))=some (.own (b6 ds)):=(ag rfl).trans ((ag rfl).trans ((ag rfl).trans h2))
  have q3:aq 3 (ah 5 (.val u.bd.enc) (ah 4 (.val (.tup (u.ps.map .str))) (ah 3 (.val (.str u.nm)) L)))=some (.val (.str u.nm)):=(ag rfl).trans ((ag rfl).trans ay)
  have q4:aq 4 (ah 5 (.val u.bd.enc) (ah 4 (.val (.tup (u.ps.map .str))) (ah 3 (.val (.str u.nm)) L)))=some (.val (.tup (u.ps.map .str))):=(ag rfl).trans ay
  have q5:aq 5 (ah 5 (.val u.bd.enc) (ah 4 (.val (.tup (u.ps.map .str))) (ah 3 (.val (.str u.nm)) L)))=some (.val u.bd.enc):=ay
  generalize hq:ah 5 (.val u.bd.enc) (ah 4 (.val (.tup (u.ps.map .str))) (ah 3 (.val (.str u.nm)) L))=L1 at q1 q2 q3 q4 q5
  have t1:=(in_at (s:=⟨L1,st⟩) (aY q3) (aY q2) (iu q3) (gF q2)).1
  rw [d6,mO] at t1
  obtain ⟨ls,ln⟩:=set_at (st:=st) q4 hps
  have t2:am (aW aA false [aW eB false [aa 4]]) .NotEq (aW aA false [aa 4]) ⟨L1,st⟩=.ok (.bool (decide (¬ u.ps.Nodup))) ⟨L1,st⟩:=(bJ ls ln).trans (by
   show Out.ok (AV.bool (!decide (((b9 [] u.ps).length:Int)=u.ps.length))) _=_
   congr 2
   by_cases hn:u.ps.Nodup
   ·rw [decide_eq_true (by rw [(gQ u.ps).1.mpr hn]),decide_eq_false (fun q=>q hn)]; rfl
   ·rw [decide_eq_false (fun q=>hn ((gQ u.ps).1.mp (Int.ofNat_inj.mp q))),decide_eq_true hn]; rfl)
  have tt:az .Or [am (aa 3) .In (aa 2),am (aW aA false [aW eB false [aa 4]]) .NotEq (aW aA false [aa 4])] ⟨L1,st⟩=.ok (.bool (decide (u.nm ∈ ds.map (·.nm) ∨ ¬ u.ps.Nodup))) ⟨L1,st⟩:=by
   refine (eP t1).trans ?_
   by_cases hm:u.nm ∈ ds.map (·.nm)
   ·rw [decide_eq_true hm,decide_eq_true (.inl hm)]; rfl
   ·rw [decide_eq_false hm]
    show am _ _ _ _=_
    rw [t2]
    congr 2
    exact decide_eq_decide.mpr ⟨.inr,fun q=>q.elim (fun z=>absurd z hm) id⟩
  have bd:∀ {o:Out Fl},ckB (wX K (n+13)) ⟨L1,st⟩=o->ckB (wX K (n+13)) ⟨fT [3,4,5] [.str u.nm,.tup (u.ps.map .str),u.bd.enc] L,st⟩=o:=fun h=>by
   show ckB _ ⟨ah 5 _ (ah 4 _ (ah 3 _ L)),st⟩=_
   rw [hq]; exact h
  have fx:∀ {f:Ft} {L':bF},ckB (wX K (n+13)) ⟨L1,st⟩=.exc f.xc ⟨L',st⟩->aX (none,[3,4,5]) (ckB (wX K (n+13))) ((u::r).map Fu.enc) ⟨L,st⟩=.exc f.xc ⟨L',st⟩:=fun {f L'} h=>by
   show aH (ckB (wX K (n+13))) _ ⟨fT [3,4,5] [.str u.nm,.tup (u.ps.map .str),u.bd.enc] L,st⟩=_
   unfold aH; rw [bd h]; rfl
  show ∃ L',_=outF L' st (if u.nm ∈ ds.map (·.nm) ∨ ¬ u.ps.Nodup then some Ft.twice else nH (dX (bk fs) u.bd 12 u.ps) (iC (bk fs) (ds++[u]) r))/\((if u.nm ∈ ds.map (·.nm) ∨ ¬ u.ps.Nodup then some Ft.twice else nH (dX (bk fs) u.bd 12 u.ps) (iC (bk fs) (ds++[u]) r))=none->_)
  by_cases hc:u.nm ∈ ds.map (·.nm) ∨ ¬ u.ps.Nodup
  ·rw [if_pos hc]
   rw [decide_eq_true hc] at tt
   exact ⟨L1,fx (f:=.twice) ((ifO tt).trans rfl),fun q=>cC zAr q rfl⟩
  rw [if_neg hc]
  rw [decide_eq_false hc] at tt
  have hn:u.nm ∉ ds.map (·.nm):=fun z=>hc (.inl z)
  have e2:bj (aa 2) (ae 3) (aW aA false [aa 4]) ⟨L1,st⟩=.ok .next ⟨ah 2 (.own (b6 (ds++[u]))) L1,st⟩:=cG (S₁:=⟨L1,st⟩) ln (aY q2) (aZ q3) q2 (jt (g:=cnV) hn (by lia)) rfl
  have p1:aq 1 (ah 2 (.own (b6 (ds++[u]))) L1)=some (.val (b6 (uq [] fs))):=(ag rfl).trans q1
  have p4:aq 4 (ah 2 (.own (b6 (ds++[u]))) L1)=some (.val (.tup (u.ps.map .str))):=(ag rfl).trans q4
  have p5:aq 5 (ah 2 (.own (b6 (ds++[u]))) L1)=some (.val u.bd.enc):=(ag rfl).trans q5
  have p2:aq 2 (ah 2 (.own (b6 (ds++[u]))) L1)=some (.own (b6 (ds++[u]))):=ay
  generalize ah 2 (.own (b6 (ds++[u]))) L1=L2 at e2 p1 p2 p4 p5
  obtain ⟨j,_,hj⟩:=P.bd u hu
  have lkk:lk K (n+13) u.bd.enc 1 (u.ps.map .str) (b6 (uq [] fs)) st=rtF st (dX (bk fs) u.bd 12 u.ps):=look_flt (cs_is fs) u.bd (h:=12) hj (by lia) (by lia)
  have sq:br [ae 5,af (.int 1),aW b4 false [aa 4],ae 1] ⟨L2,st⟩=.ok [u.bd.enc,.int 1,.lst (u.ps.map .str),b6 (uq [] fs)] ⟨L2,st⟩ :=
   ai (aZ p5) (ai rfl (ai (cn (aY p4) (b5 p4) (bZ (by rw [zAe]; lia))) (ai (aZ p1) rfl)))
  have go:∀ {o:Out Fl},ac (cX (aU (wX K (n+13)) "look" [ae 5,af (.int 1),aW b4 false [aa 4],ae 1])) (af .next) ⟨L2,st⟩=o->ckB (wX K (n+13)) ⟨L1,st⟩=o:=fun h=>(ifO tt).trans ((hY (s':=⟨L1,st⟩) rfl).trans ((hY e2).trans h))
  cases hf:dX (bk fs) u.bd 12 u.ps with
  | some f =>
   rw [hf] at lkk
   exact ⟨L2,fx (go (bQ (o:=.exc f.xc _) (doX (X:=wX K (n+13)) sq lkk) trivial)),fun q=>cC zAr q rfl⟩
  | none =>
   rw [hf] at lkk
   obtain ⟨L',f1,f2⟩:=hZ P r (ds++[u]) L2 (fun v hv=>hr v (zAc _ hv)) (by rw [zAd]; show _+1+_<=_; lia) p1 p2
   refine ⟨L',bC (ks:=[3,4,5]) (vs:=[.str u.nm,.tup (u.ps.map .str),u.bd.enc]) rfl (bd (go (bQ (o:=.ok .next _) (cF (aN (X:=wX K (n+13)) sq lkk)) trivial))) f1,fun q=>?_⟩
   have:=f2 q
   rw [zAm] at this; exact this
noncomputable def rtC (fs:List Fu) (st:St):Option Ft->Ret
 | none=>.ok (b6 fs) st
 | some f=>.exc f.xc st
theorem dL {fs:List Fu} (P:PS fs) (hl:fs.length<=900):aw PP K (n+14) ⟨#[]⟩ "checked" [bB fs] st=rtC fs st (iC (bk fs) [] fs):=by
 rw [lC]
 show RT (iq (wX K (n+13))) ⟨[(0,.val (bB fs))],st⟩ _
 obtain ⟨L',f1,f2⟩:=hZ (K:=K) (n:=n) (st:=st) P fs [] [(0,.val (bB fs)),(1,.val (b6 (uq [] fs))),(2,.own (.dct [] []))] (fun u h=>h) (by show 0+_<=_; lia) rfl rfl
 refine .asg (v:=b6 (uq [] fs)) (s':=⟨[(0,.val (bB fs))],st⟩) (aN (vs:=[bB fs]) (s₁:=⟨[(0,.val (bB fs))],st⟩) rfl (counts_all (n:=n+12) hl)) ?_
 refine .go (s':=⟨[(0,.val (bB fs)),(1,.val (b6 (uq [] fs))),(2,.own (.dct [] []))],st⟩) rfl ?_
 cases hc:iC (bk fs) [] fs with
 | none =>
  rw [hc] at f1
  exact .forI (l:=fs.map Fu.enc) (s₁:=⟨[(0,.val (bB fs)),(1,.val (b6 (uq [] fs))),(2,.own (.dct [] []))],st⟩) rfl f1 (.ret (eL (f2 hc)) rfl)
 | some f =>
  rw [hc] at f1
  exact .goX (x:=f.xc) (s':=⟨L',st⟩) f1 rfl
end
noncomputable abbrev duB (X:Ctx):D Fl:=ac (bn (az .Or [am (aa 2) .In (aa 5),am (aW aA false [aW eB false [aa 3]]) .Lt (aW aA false [aa 3])]) (ac (aI (aJ [af (.str "twice"),ae 1])) (af .next)) (af .next)) (ac (cX (dm (aa 5) (ae 2))) (ac (aL 6 (aU X "_law_fault" [ae 4,aW b4 false [aa 3],ae 1,af (.int 1)])) (ac (bn (am (aa 6) .NotEq (af (.str ""))) (ac (aI (aJ [ae 6,ae 1])) (af .next)) (af .next)) (af .next))))
noncomputable def outD (cD:AV) (L:bF) (st:St):Option Ft->Out Fl
 | none=>.ok .next ⟨L,st⟩
 | some f=>.ok (.ret (.tup [.str f.word,cD])) ⟨L,st⟩
structure DLoc (cD:AV) (ds:List Fu) (L:bF):Prop where
 a1:aq 1 L=some (.own cD) ∨ aq 1 L=some (.val cD)
 a5:aq 5 L=some (.own (.lst (ds.map fun u=>.str u.nm)))
section
variable {K n:Nat} {st:St} {cD:AV} {ds:List Fu} {L:bF}
theorem rd_cD (h:DLoc cD ds L):∃ L',ae 1 ⟨L,st⟩=.ok cD ⟨L',st⟩/\DLoc cD ds L'/\aq 1 L'=some (.val cD)/\∀ k,zA4 1 k=false->aq k L'=aq k L:=by
 rcases h.a1 with q | q
 ·exact ⟨_,eL q,⟨.inr ay,(ag rfl).trans h.a5⟩,ay,fun k hk=>ag hk⟩
 ·exact ⟨L,aZ q,h,q,fun k _=>rfl⟩
theorem DLoc.set {k:Nat} {lv:LV} (h:DLoc cD ds L) (h1:zA4 k 1=false) (h5:zA4 k 5=false):DLoc cD ds (ah k lv L):=⟨h.a1.imp (fun q=>(ag h1).trans q) fun q=>(ag h1).trans q,(ag h5).trans h.a5⟩
theorem due_turn {fs:List Fu} {u:Fu} (P:PS fs) (hu:u ∈ fs) (hd:ds.length<=800) (q:DLoc (b6 (uq [] fs)) ds L) (q2:aq 2 L=some (.val (.str u.nm))) (q3:aq 3 L=some (.val (.tup (u.ps.map .str)))) (q4:aq 4 L=some (.val u.bd.enc)) :
  ∃ L',duB (wX K (n+13)) ⟨L,st⟩=outD (b6 (uq [] fs)) L' st (if u.nm ∈ ds.map (·.nm) ∨ ¬ u.ps.Nodup then some .twice else dX (bk fs) u.bd 12 u.ps)/\((if u.nm ∈ ds.map (·.nm) ∨ ¬ u.ps.Nodup then some Ft.twice else dX (bk fs) u.bd 12 u.ps)=none->DLoc (b6 (uq [] fs)) (ds++[u]) L'):=by
 have hps:=P.ps u hu
 have t1:am (aa 2) .In (aa 5) ⟨L,st⟩=.ok (.bool (decide (u.nm ∈ ds.map (·.nm)))) ⟨L,st⟩:=by
  refine (bJ (aY q2) (aY q.a5)).trans ?_
  rw [au (cA (iu q2)),au (cA (gF q.a5))]
  show Mine.opt ((inV (.str u.nm) (.lst (ds.map fun u=>.str u.nm))).map AV.bool) _=_
  rw [show (ds.map fun u=>AV.str u.nm)=(ds.map (·.nm)).map .str by rw [zCu]; rfl,jy]; rfl
 obtain ⟨ls,ln⟩:=set_at (st:=st) q3 hps
 have t2:am (aW aA false [aW eB false [aa 3]]) .Lt (aW aA false [aa 3]) ⟨L,st⟩=.ok (.bool (decide (¬ u.ps.Nodup))) ⟨L,st⟩:=(bJ ls ln).trans (by
  show Out.ok (AV.bool (decide (((b9 [] u.ps).length:Int) < u.ps.length))) _=_
  congr 2
  have h2:=(gQ u.ps).2
  refine decide_eq_decide.mpr ⟨fun z hn=>?_,fun hn=>?_⟩
  ·rw [(gQ u.ps).1.mpr hn] at z; exact absurd z (Int.lt_irrefl _)
  ·exact zC5.mpr (Nat.lt_of_le_of_ne h2 fun z=>hn ((gQ u.ps).1.mp z)))
 have tt:az .Or [am (aa 2) .In (aa 5),am (aW aA false [aW eB false [aa 3]]) .Lt (aW aA false [aa 3])] ⟨L,st⟩=.ok (.bool (decide (u.nm ∈ ds.map (·.nm) ∨ ¬ u.ps.Nodup))) ⟨L,st⟩:=by
  refine (eP t1).trans ?_
  by_cases hm:u.nm ∈ ds.map (·.nm)
  ·rw [decide_eq_true hm,decide_eq_true (.inl hm)]; rfl
  ·rw [decide_eq_false hm]
   show am _ _ _ _=_
   rw [t2]
   congr 2
   exact decide_eq_decide.mpr ⟨.inr,fun q=>q.elim (fun z=>absurd z hm) id⟩
 have ret:∀ {L:bF} {d:D AV} {w:Str},DLoc (b6 (uq [] fs)) ds L ∨ DLoc (b6 (uq [] fs)) (ds++[u]) L->d ⟨L,st⟩=.ok (.str w) ⟨L,st⟩->∃ L',aI (aJ [d,ae 1]) ⟨L,st⟩=.ok (.ret (.tup [.str w,b6 (uq [] fs)])) ⟨L',st⟩:=fun {L d w} h hd=>by
  have key:∀ {L':bF},ae 1 ⟨L,st⟩=.ok (b6 (uq [] fs)) ⟨L',st⟩->aI (aJ [d,ae 1]) ⟨L,st⟩=.ok (.ret (.tup [.str w,b6 (uq [] fs)])) ⟨L',st⟩:=fun e=>by
   show aH (aJ [d,ae 1]) _ _=_
   rw [au (cq (vs:=[.str w,b6 (uq [] fs)]) (ai hd (ai e rfl)) rfl)]; rfl
  rcases h with h | h
  ·obtain ⟨L',e,_⟩:=rd_cD (st:=st) h; exact ⟨L',key e⟩
  ·obtain ⟨L',e,_⟩:=rd_cD (st:=st) h; exact ⟨L',key e⟩
 by_cases hc:u.nm ∈ ds.map (·.nm) ∨ ¬ u.ps.Nodup
 ·rw [if_pos hc]
  rw [decide_eq_true hc] at tt
  obtain ⟨L',e⟩:=ret (.inl q) (d:=af (.str "twice")) rfl
  refine ⟨L',(ifO tt).trans ?_,fun z=>cC zAr z rfl⟩
  show ax (ax (aI _ ⟨L,st⟩) _) _=_
  rw [e]; rfl
 rw [if_neg hc]
 rw [decide_eq_false hc] at tt
 have e5:cX (dm (aa 5) (ae 2)) ⟨L,st⟩=.ok .next ⟨ah 5 (.own (.lst ((ds++[u]).map fun u=>.str u.nm))) L,st⟩:=cF (kj (S₁:=⟨L,st⟩) (aY q.a5) q.a5 (aZ q2) q.a5 (by rw [zAe]; lia) (by rw [zAw]; rfl))
 have r1:DLoc (b6 (uq [] fs)) (ds++[u]) (ah 5 (.own (.lst ((ds++[u]).map fun u=>.str u.nm))) L):=⟨q.a1.imp (fun z=>(ag rfl).trans z) fun z=>(ag rfl).trans z,ay⟩
 have r3:aq 3 (ah 5 (.own (.lst ((ds++[u]).map fun u=>.str u.nm))) L)=some (.val (.tup (u.ps.map .str))):=(ag rfl).trans q3
 have r4:aq 4 (ah 5 (.own (.lst ((ds++[u]).map fun u=>.str u.nm))) L)=some (.val u.bd.enc):=(ag rfl).trans q4
 generalize ah 5 (.own (.lst ((ds++[u]).map fun u=>.str u.nm))) L=L1 at e5 r1 r3 r4
 obtain ⟨L2,e1,s1,s2,s3⟩:=rd_cD (st:=st) r1
 obtain ⟨j,_,hj⟩:=P.bd u hu
 have lkk:lf K (n+13) u.bd.enc (u.ps.map .str) (b6 (uq [] fs)) 1 st=rtW st (dX (bk fs) u.bd 12 u.ps):=fault_flt (cs_is fs) u.bd (h:=12) hj (by lia) (by lia)
 rw [rtW_eq] at lkk
 have sq:br [ae 4,aW b4 false [aa 3],ae 1,af (.int 1)] ⟨L1,st⟩=.ok [u.bd.enc,.lst (u.ps.map .str),b6 (uq [] fs),.int 1] ⟨L2,st⟩:=ai (aZ r4) (ai (cn (aY r3) (b5 r3) (bZ (by rw [zAe]; lia))) (ai e1 rfl))
 generalize dX (bk fs) u.bd 12 u.ps=r at lkk ⊢
 have e6:aL 6 (aU (wX K (n+13)) "_law_fault" [ae 4,aW b4 false [aa 3],ae 1,af (.int 1)]) ⟨L1,st⟩=.ok .next ⟨ah 6 (.val (.str (ki r))) L2,st⟩:=bH (aN (X:=wX K (n+13)) sq lkk)
 have v1:DLoc (b6 (uq [] fs)) (ds++[u]) (ah 6 (.val (.str (ki r))) L2):=s1.set rfl rfl
 have v6:aq 6 (ah 6 (.val (.str (ki r))) L2)=some (.val (.str (ki r))):=ay
 generalize ah 6 (.val (.str (ki r))) L2=L3 at e6 v1 v6
 have e7:am (aa 6) .NotEq (af (.str "")) ⟨L3,st⟩=.ok (.bool (!seq (ki r) "")) ⟨L3,st⟩:=by
  refine (bJ (b:=.str "") (s₂:=⟨L3,st⟩) (aY v6) rfl).trans ?_
  rw [au (cA (iu v6))]; rfl
 cases r with
 | none=>exact ⟨L3,(ifO tt).trans ((hY (s':=⟨L,st⟩) rfl).trans ((hY e5).trans ((hY e6).trans ((ifO e7).trans (by rw [show seq (ki none) ""=true from aP ""]; rfl))))),fun _=>v1⟩
 | some f =>
  obtain ⟨L',e8⟩:=ret (.inr v1) (aZ v6)
  refine ⟨L',(ifO tt).trans ((hY (s':=⟨L,st⟩) rfl).trans ((hY e5).trans ((hY e6).trans ((ifO e7).trans ?_)))),fun z=>cC zAr z rfl⟩
  rw [show seq (ki (some f)) ""=false from word_ne f]
  show ax (ax (aI _ ⟨L3,st⟩) _) _=_
  rw [e8]; rfl
theorem due_loop {fs:List Fu} (P:PS fs):∀ (r ds:List Fu) (L:bF),(∀ u ∈ r,u ∈ fs)->ds.length+r.length<=800->DLoc (b6 (uq [] fs)) ds L ->
  ∃ L',aX (none,[2,3,4]) (duB (wX K (n+13))) (r.map Fu.enc) ⟨L,st⟩=outD (b6 (uq [] fs)) L' st (iC (bk fs) ds r)/\(iC (bk fs) ds r=none->DLoc (b6 (uq [] fs)) (ds++r) L')
 | [],ds,L,_,_,h=>⟨L,rfl,fun _=>by rw [zAt]; exact h⟩
 | u::r,ds,L,hr,hl,h=>by
  have hl':ds.length+(r.length+1)<=800:=hl
  obtain ⟨L1,e1,h1⟩:=due_turn (K:=K) (n:=n) (st:=st) P (hr u zAb) (by lia) (L:=ah 4 (.val u.bd.enc) (ah 3 (.val (.tup (u.ps.map .str))) (ah 2 (.val (.str u.nm)) L))) (((h.set (k:=2) rfl rfl).set (k:=3) rfl rfl).set (k:=4) rfl rfl) ((ag rfl).trans ((ag rfl).trans ay)) ((ag rfl).trans ay) ay
  have ek:iC (bk fs) ds (u::r)=nH (if u.nm ∈ ds.map (·.nm) ∨ ¬ u.ps.Nodup then some .twice else dX (bk fs) u.bd 12 u.ps) (iC (bk fs) (ds++[u]) r):=by
   show (if u.nm ∈ ds.map (·.nm) ∨ ¬ u.ps.Nodup then some Ft.twice else nH _ _)=_
   by_cases hc:u.nm ∈ ds.map (·.nm) ∨ ¬ u.ps.Nodup
   ·rw [if_pos hc,if_pos hc]; rfl
   ·rw [if_neg hc,if_neg hc]
  rw [ek]
  generalize (if u.nm ∈ ds.map (·.nm) ∨ ¬ u.ps.Nodup then some Ft.twice else dX (bk fs) u.bd 12 u.ps)=r1 at e1 h1 ⊢
  cases r1 with
  | none =>
   obtain ⟨L',f1,f2⟩:=due_loop P r (ds++[u]) L1 (fun v hv=>hr v (zAc _ hv)) (by rw [zAd]; show _+1+_<=_; lia) (h1 rfl)
   refine ⟨L',bC (ks:=[2,3,4]) (vs:=[.str u.nm,.tup (u.ps.map .str),u.bd.enc]) rfl e1 f1,fun q=>?_⟩
   have:=f2 q
   rw [zAm] at this; exact this
  | some f =>
   refine ⟨L1,?_,fun q=>cC zAr q rfl⟩
   show aH (duB (wX K (n+13))) _ ⟨ah 4 (.val u.bd.enc) (ah 3 (.val (.tup (u.ps.map .str))) (ah 2 (.val (.str u.nm)) L)),st⟩=_
   rw [au e1]; rfl
theorem due_ok {fs:List Fu} (P:PS fs) (hl:fs.length<=800):aw PP K (n+14) ⟨#[]⟩ "_law_due" [bB fs] st=.ok (.tup [.str (ki (iC (bk fs) [] fs)),b6 (uq [] fs)]) st:=by
 rw [rn__law_due]
 show RT (jU (wX K (n+13))) ⟨[(0,.val (bB fs))],st⟩ _
 obtain ⟨L1,f1,f0,f2⟩:=d3 (st:=st) fs [] [(0,.val (bB fs)),(1,.own (.dct [] []))] (by show 0+_<=_; lia) rfl rfl
 obtain ⟨L2,g1,g2⟩:=due_loop (K:=K) (n:=n) (st:=st) P fs [] (ah 5 (.own (.lst [])) L1) (fun u h=>h) (by show 0+_<=_; lia) ⟨.inl ((ag rfl).trans f2),ay⟩
 have p0:aq 0 (ah 5 (.own (.lst [])) L1)=some (.val (bB fs)):=(ag rfl).trans f0
 refine .go (s':=⟨[(0,.val (bB fs)),(1,.own (.dct [] []))],st⟩) rfl (.forI (l:=fs.map Fu.enc) (s₁:=⟨[(0,.val (bB fs)),(1,.own (.dct [] []))],st⟩) rfl f1 ?_)
 refine .go (s':=⟨ah 5 (.own (.lst [])) L1,st⟩) rfl ?_
 have hi:ba (ae 0) ⟨ah 5 (.own (.lst [])) L1,st⟩=.ok (.lst (fs.map Fu.enc)) ⟨ah 5 (.own (.lst [])) L1,st⟩:=dB (aZ p0)
 cases hc:iC (bk fs) [] fs with
 | none =>
  rw [hc] at g1
  obtain ⟨L3,e3,_⟩:=rd_cD (st:=st) (g2 hc)
  exact .forI hi g1 (.ret (cq (vs:=[.str "",b6 (uq [] fs)]) (ai rfl (ai e3 rfl)) rfl) rfl)
 | some f =>
  rw [hc] at g1
  have e2:cB (none,[2,3,4]) (ba (ae 0)) (duB (wX K (n+13))) ⟨ah 5 (.own (.lst [])) L1,st⟩=.ok (.ret (.tup [.str f.word,b6 (uq [] fs)])) ⟨L2,st⟩:=by
   show aH (ba (ae 0)) _ _=_
   rw [au hi]; exact g1
  show bc (ax (cB (none,[2,3,4]) (ba (ae 0)) (duB (wX K (n+13))) ⟨ah 5 (.own (.lst [])) L1,st⟩) _)=_
  rw [e2]; rfl
end
theorem sb1:PP.sub "NoSuchName" "NameTwice"=false:=by kernel_rfl
theorem sb2:PP.sub "NoSuchFunction" "NameTwice"=false:=by kernel_rfl
theorem sb3:PP.sub "NoSuchFunction" "NoSuchName"=false:=by kernel_rfl
theorem sb4:PP.sub "WrongCount" "NameTwice"=false:=by kernel_rfl
theorem sb5:PP.sub "WrongCount" "NoSuchName"=false:=by kernel_rfl
theorem sb6:PP.sub "WrongCount" "NoSuchFunction"=false:=by kernel_rfl
theorem sb7:PP.sub "TooTall" "NameTwice"=false:=by kernel_rfl
theorem sb8:PP.sub "TooTall" "NoSuchName"=false:=by kernel_rfl
theorem sb9:PP.sub "TooTall" "NoSuchFunction"=false:=by kernel_rfl
theorem sb10:PP.sub "TooTall" "WrongCount"=false:=by kernel_rfl
theorem sbS:∀ f:Ft,PP.sub f.xc "SmithError"=true:=by intro f; cases f <;> kernel_rfl
theorem isX_ft:∀ f:Ft,PP.isX f.xc=true:=by intro f; cases f <;> kernel_rfl
noncomputable abbrev rH (w:Str):D Fl:=ac (aI (af (.str w))) (af .next)
noncomputable abbrev rHs:Hs:=[("NameTwice",none,rH "twice"),("NoSuchName",none,rH "name"),("NoSuchFunction",none,rH "function"),("WrongCount",none,rH "count"),("TooTall",none,rH "tall")]
theorem cV {c h:Str} {b:D Fl} {s:S} {r:Hs}:eY PP.sub c s ((h,none,b)::r)=if PP.sub c h then j0 (b s) else eY PP.sub c s r:=rfl
theorem pick_ft (f:Ft) {s:S}:eY PP.sub f.xc s rHs=.ok (.ret (.str f.word)) s:=by
 cases f with
 | twice=>rw [show Ft.xc .twice="NameTwice" from rfl,cV,cH]; rfl
 | name=>rw [show Ft.xc .name="NoSuchName" from rfl,cV,sb1,cV,cH]; rfl
 | fn=>rw [show Ft.xc .fn="NoSuchFunction" from rfl,cV,sb2,cV,sb3,cV,cH]; rfl
 | cnt=>rw [show Ft.xc .cnt="WrongCount" from rfl,cV,sb4,cV,sb5,cV,sb6,cV,cH]; rfl
 | tall=>rw [show Ft.xc .tall="TooTall" from rfl,cV,sb7,cV,sb8,cV,sb9,cV,sb10,cV,cH]; rfl
section
variable {K n:Nat} {st st':St} {fs:List Fu}
theorem lD (P:PS fs) (hl:fs.length<=900) {f:Ft} (hf:iC (bk fs) [] fs=some f) {a b c:AV}:aw PP K (n+15) ⟨#[]⟩ "told" [bB fs,a,b,c] st=.exc f.xc st:=by
 rw [rn_told]
 show RT (ot (wX K (n+14))) ⟨[(0,.val (bB fs)),(1,.val a),(2,.val b),(3,.val c)],st⟩ _
 have:=dL (K:=K) (n:=n) (st:=st) P hl
 rw [hf] at this
 exact .asgFnX (X:=wX K (n+14)) (vs:=[bB fs]) (s₁:=⟨[(0,.val (bB fs)),(1,.val a),(2,.val b),(3,.val c)],st⟩) rfl this rfl
theorem smithed_bad (P:PS fs) (hl:fs.length<=900) {f:Ft} (hf:iC (bk fs) [] fs=some f):aw PP K (n+15) ⟨#[]⟩ "smithed" [bB fs] st=.exc f.xc st:=by
 rw [kO]
 show RT (ik (wX K (n+14))) ⟨[(0,.val (bB fs))],st⟩ _
 have:=dL (K:=K) (n:=n) (st:=st) P hl
 rw [hf] at this
 exact .goX (doX (X:=wX K (n+14)) (vs:=[bB fs]) (s₁:=⟨[(0,.val (bB fs))],st⟩) rfl this) rfl
theorem repL_map:∀ n:Nat,j6 (.int 1) n=(zC1 n (1:Int)).map .int
 | 0=>rfl
 | n+1=>by show AV.int 1::j6 (.int 1) n=_; rw [repL_map n]; rfl
noncomputable abbrev rL (w:Int) (fs:List Fu):bF:=[(0,.val (.int w)),(1,.val (bB fs))]
noncomputable abbrev toA:List (D AV):=[ae 1,al (al (aa 1) (af (.int 0))) (af (.int 0)),aj .Mult (bO [af (.int 1)]) (aW aA false [al (al (aa 1) (af (.int 0))) (af (.int 1))]),af (.int 2)]
theorem toA_at {w:Int} {u:Fu} {r:List Fu} (hp:u.ps.length<=100):br toA ⟨rL w (u::r),st⟩=.ok [bB (u::r),.str u.nm,.lst ((zC1 u.ps.length (1:Int)).map .int),.int 2] ⟨rL w (u::r),st⟩:=by
 have e:aW aA false [al (al (aa 1) (af (.int 0))) (af (.int 1))] ⟨rL w (u::r),st⟩=.ok (.int (u.ps.length:Int)) ⟨rL w (u::r),st⟩:=by
  rw [← zAe (f:=AV.str)]; rfl
 refine ai rfl (ai rfl (ai (aB (a':=.lst [.int 1]) (b':=.int (u.ps.length:Int)) rfl e rfl rfl ?_) rfl))
 show (if ch (u.ps.length:Int) && zB5 (u.ps.length:Int).toNat 100000 then some (AV.lst (j6 (.int 1) (u.ps.length:Int).toNat)) else none)=_
 rw [zCa,small_nat (by lia),zC4 (by lia),repL_map]; rfl
noncomputable abbrev rfB (X:Ctx):D Fl:=ac (bn (am (aa 0) .Eq (af (.int 0))) (ac (cX (aU X "checked" [ae 1])) (af .next)) (af .next)) (ac (bn (am (aa 0) .Eq (af (.int 1))) (ac (cX (aU X "told" toA)) (af .next)) (af .next)) (ac (bn (am (aa 0) .Eq (af (.int 3))) (ac (cX (aU X "told" [ae 1,af (.str "missing"),bO [],af (.int 2)])) (af .next)) (af .next)) (ac (bn (am (aa 0) .Eq (af (.int 4))) (ac (cX (aU X "told" [ae 1,al (al (aa 1) (af (.int 0))) (af (.int 0)),aj .Mult (bO [af (.int 1)]) (af (.int 9)),af (.int 0)])) (af .next)) (af .next)) (ac (bn (am (aa 0) .Eq (af (.int 2))) (ac (cX (aU X "smithed" [ae 1])) (af .next)) (af .next)) (af .next)))))
theorem ref_x {w:Int} {f:Ft} {L:bF} (h:rfB (wX K n) ⟨rL w fs,st⟩=.exc f.xc ⟨L,st⟩):aw PP K (n+1) ⟨#[]⟩ "_law_refused" [.int w,bB fs] st=.ok (.str f.word) st:=by
 rw [gg]
 show RT (dQ (wX K n)) ⟨rL w fs,st⟩ _
 exact .tryX (hs:=rHs) h (pick_ft f) rfl
theorem ref_ok {w:Int} {L:bF} (h:rfB (wX K n) ⟨rL w fs,st⟩=.ok .next ⟨L,st'⟩):aw PP K (n+1) ⟨#[]⟩ "_law_refused" [.int w,bB fs] st=.ok (.str "") st':=by
 rw [gg]
 show RT (dQ (wX K n)) ⟨rL w fs,st⟩ _
 exact .tryOk (hs:=rHs) h (.ret (v:=.str "") (s':=⟨L,st'⟩) rfl rfl)
theorem thX {a k:D Fl} {x:Str} {s s':S} (h:a s=.exc x s'):ac a k s=.exc x s':=by
 show ax (a s) _=_; rw [h]; rfl
theorem ifX0 {t:D AV} {a b k:D Fl} {s:S} {x:Str} {s':S} (ht:t s=.ok (.bool true) s) (h:a s=.exc x s'):ac (bn t a b) k s=.exc x s':=(ifO ht).trans (thX h)
theorem dS {t:D AV} {a k:D Fl} {s:S} (ht:t s=.ok (.bool false) s):ac (bn t a (af .next)) k s=k s:=(ifO ht).trans (hY rfl)
theorem ifT0 {t:D AV} {a b k:D Fl} {s s':S} (ht:t s=.ok (.bool true) s) (h:a s=.ok .next s'):ac (bn t a b) k s=k s':=(ifO ht).trans (hY h)
theorem ref_bad (P:PS fs) (hl:fs.length<=900) (h0:fs ≠ []) {f:Ft} (hf:iC (bk fs) [] fs=some f) (w:Nat) (hw:w < 5):aw PP K (n+16) ⟨#[]⟩ "_law_refused" [.int (w:Int),bB fs] st=.ok (.str f.word) st:=by
 obtain ⟨u,r,rfl⟩:∃ u r,fs=u::r:=by cases fs with | nil=>exact absurd rfl h0 | cons u r=>exact ⟨u,r,rfl⟩
 have ck:=dL (K:=K) (n:=n+1) (st:=st) P hl
 rw [hf] at ck
 have hp:=P.ps u zAb
 match w,hw with
 | 0,_=>exact ref_x (n:=n+15) (L:=rL 0 (u::r)) (ifX0 rfl (thX (doX (X:=wX K (n+15)) (vs:=[bB (u::r)]) (s₁:=⟨rL 0 (u::r),st⟩) rfl ck)))
 | 1,_=>exact ref_x (n:=n+15) (L:=rL 1 (u::r)) ((dS rfl).trans (ifX0 rfl (thX (doX (X:=wX K (n+15)) (toA_at hp) (lD P hl hf)))))
 | 2,_=>exact ref_x (n:=n+15) (L:=rL 2 (u::r)) ((dS rfl).trans ((dS rfl).trans ((dS rfl).trans ((dS rfl).trans (ifX0 rfl (thX (doX (X:=wX K (n+15)) (vs:=[bB (u::r)]) (s₁:=⟨rL 2 (u::r),st⟩) rfl (smithed_bad P hl hf))))))))
 | 3,_=>exact ref_x (n:=n+15) (L:=rL 3 (u::r)) ((dS rfl).trans ((dS rfl).trans (ifX0 rfl (thX (doX (X:=wX K (n+15)) (vs:=[bB (u::r),.str "missing",.lst [],.int 2]) (s₁:=⟨rL 3 (u::r),st⟩) rfl (lD P hl hf))))))
 | 4,_=>exact ref_x (n:=n+15) (L:=rL 4 (u::r)) ((dS rfl).trans ((dS rfl).trans ((dS rfl).trans (ifX0 rfl (thX (doX (X:=wX K (n+15)) (vs:=[bB (u::r),.str u.nm,.lst (j6 (.int 1) 9),.int 0]) (s₁:=⟨rL 4 (u::r),st⟩) rfl (lD P hl hf)))))))
theorem ref_good (P:PW fs) (hl:fs.length<=900) (ht:Mine.tot fs<=900) (h0:fs ≠ []) (w:Nat) (hw:w < 3):∃ st',aw PP K (n+307) ⟨#[]⟩ "_law_refused" [.int (w:Int),bB fs] st=.ok (.str "") st':=by
 obtain ⟨u,r,rfl⟩:∃ u r,fs=u::r:=by cases fs with | nil=>exact absurd rfl h0 | cons u r=>exact ⟨u,r,rfl⟩
 have hp:=P.ps u zAb
 match w,hw with
 | 0,_=>exact ⟨st,ref_ok (n:=n+306) (L:=rL 0 (u::r)) ((ifT0 rfl (bQ (o:=.ok .next _) (cF (aN (X:=wX K (n+306)) (vs:=[bB (u::r)]) (s₁:=⟨rL 0 (u::r),st⟩) rfl (iz (n:=n+292) P hl))) trivial)).trans ((dS rfl).trans ((dS rfl).trans ((dS rfl).trans ((dS rfl).trans rfl)))))⟩
 | 1,_ =>
  have hs:bk (u::r) u.nm=some (zC1 u.ps.length (1:Int)).length:=by
   rw [List.length_replicate]
   show (if seq u.nm u.nm then some u else a9 u.nm r).map _=_
   rw [aP]; rfl
  obtain ⟨x,y,TO⟩:=told_ok (K:=K) (n:=n) (pre:=st) (F:=2) P hl hs (fun v hv=>by rw [List.eq_of_mem_replicate hv]; exact ⟨by decide,by decide⟩) (by rw [List.length_replicate]; lia)
  exact ⟨st++[x,y],ref_ok (n:=n+306) (L:=rL 1 (u::r)) ((dS rfl).trans ((ifT0 rfl (bQ (o:=.ok .next _) (cF (aN (X:=wX K (n+306)) (toA_at hp.2) TO)) trivial)).trans ((dS rfl).trans ((dS rfl).trans ((dS rfl).trans rfl)))))⟩
 | 2,_=>exact ⟨_,ref_ok (n:=n+306) (L:=rL 2 (u::r)) ((dS rfl).trans ((dS rfl).trans ((dS rfl).trans ((dS rfl).trans ((ifT0 rfl (bQ (o:=.ok .next _) (cF (aN (X:=wX K (n+306)) (vs:=[bB (u::r)]) (s₁:=⟨rL 2 (u::r),st⟩) rfl (smithed_ok (K:=K) (n:=n+279) (pre:=st) P hl ht))) trivial)).trans rfl)))))⟩
theorem base_ok' (P:PS fs) (hl:fs.length<=900) {f:Ft} (hf:iC (bk fs) [] fs=some f):aw PP K (n+15) ⟨#[]⟩ "_law_base" [bB fs] st=.ok (.bool true) st:=by
 rw [nF]
 show RT (i5 (wX K (n+14))) ⟨[(0,.val (bB fs))],st⟩ _
 have ck:=dL (K:=K) (n:=n) (st:=st) P hl
 rw [hf] at ck
 have eb:ac (cX (aU (wX K (n+14)) "checked" [ae 0])) (af .next) ⟨[(0,.val (bB fs))],st⟩=.exc f.xc ⟨[(0,.val (bB fs))],st⟩:=thX (doX (X:=wX K (n+14)) (vs:=[bB fs]) (s₁:=⟨[(0,.val (bB fs))],st⟩) rfl ck)
 refine .tryX (s'':=⟨[],st⟩) (v:=.bool true) eb ?_ rfl
 show (if PP.sub f.xc "SmithError" then kQ (ac (aI (fE (aa 1) (isiV PP))) (af .next) ⟨[(0,.val (bB fs)),(1,.val (.exc f.xc))],st⟩) else _)=_
 rw [sbS f]
 have e1:fE (aa 1) (isiV PP) ⟨[(0,.val (bB fs)),(1,.val (.exc f.xc))],st⟩=.ok (.bool true) ⟨[(0,.val (bB fs)),(1,.val (.exc f.xc))],st⟩:=by
  show Mine.opt ((if PP.isX f.xc then some true else none).map AV.bool) _=_
  rw [isX_ft f]; rfl
 show kQ (ax (ax (fE (aa 1) (isiV PP) _) _) _)=_
 rw [e1]; rfl
end
noncomputable def d8 (q:Str × Nat):AV:=.tup [.str q.1,.int (q.2:Int)]
noncomputable def wt (S:List It):Nat:=(S.map fun p=>len p.1).sum
noncomputable def IvO (S:List It):Prop:=∀ p ∈ S,p.1.ok p.2 none/\p.2<=7
theorem le_mxN:∀ {l:List Nat} {x:Nat},x ∈ l->x<=mxN l
 | y::r,x,h=>by
  show x<=max y (mxN r)
  rcases zAl.mp h with rfl | h
  ·exact Nat.le_max_left _ _
  ·exact zAj (le_mxN h) (Nat.le_max_right _ _)
theorem oq (a b:List It):wt (a++b)=wt a+wt b:=by unfold wt; rw [zAw,List.sum_append]
noncomputable def PutO (S:List It) (st:St) (rt:Ret):Prop:=∃ S':List It,rt=.ok (.lst (S'.map bu)) st/\IvO S'/\S'.length<=S.length+1/\wt S'<=wt S+5
noncomputable def JO (m:Nat) (fr:List AV) (c:Bool):Prop:=∀ q:List It,q.length=m->∃ t:Tr,t.enc=.tup (fr++jnT c q)/\(∀ h,(∀ p ∈ q,p.1.ok h none)->t.ok (h+1) none)/\len t<=wt q+2
theorem jo_case {S:List It} {m:Nat} {fr:List AV} {c:Bool} (I:IvO S) (ht:JO m fr c) :
  jn S m fr c=.none ∨ ∃ S':List It,jn S m fr c=.lst (S'.map bu)/\IvO S'/\S'.length<=S.length+1/\wt S'<=wt S+5:=by
 unfold jn
 by_cases h:S.length < m ∨ 6 < tall (S.drop (S.length - m))
 ·exact .inl (if_pos h)
 right
 rw [if_neg h]
 have hm:m<=S.length:=Nat.le_of_not_lt fun q=>h (.inl q)
 have h6:tall (S.drop (S.length - m))<=6:=Nat.le_of_not_lt fun q=>h (.inr q)
 have hS:S.take (S.length - m)++S.drop (S.length - m)=S:=List.take_append_drop _ _
 have hq:(S.drop (S.length - m)).length=m:=by rw [zB6,Nat.sub_sub_self hm]
 generalize S.drop (S.length - m)=q at h6 hS hq
 generalize S.take (S.length - m)=p at hS
 subst hS
 obtain ⟨t,e1,e2,e3⟩:=ht q hq
 refine ⟨p++[(t,1+tall q)],?_,fun x hx=>?_,?_,?_⟩
 ·rw [zAw,← e1]; rfl
 ·rcases zA8.mp hx with hx | hx
  ·exact I x (zCn _ hx)
  ·rw [zAf.mp hx]
   refine ⟨?_,by show 1+tall q<=7; lia⟩
   show t.ok (1+tall q) none
   rw [Nat.add_comm]
   exact e2 _ fun y hy=>km y.1 (le_mxN (List.mem_map_of_mem hy)) (I y (zB7 _ hy)).1
 ·rw [zAd,zAd]; exact zBh (zCf _ _) 1
 ·rw [oq,oq]
  show wt p+(len t+0)<=_
  lia
theorem two {q:List It} (h:q.length=2):∃ a b,q=[a,b]:=by
 match q,h with
 | [a,b],_=>exact ⟨a,b,rfl⟩
theorem three {q:List It} (h:q.length=3):∃ a b c,q=[a,b,c]:=by
 match q,h with
 | [a,b,c],_=>exact ⟨a,b,c,rfl⟩
theorem jo_deed (w:Dw):JO 2 [.str w.str] false:=fun q hq=>by
 obtain ⟨a,b,rfl⟩:=two hq
 refine ⟨.deed w a.1 b.1,rfl,fun h H=>⟨rfl,h,rfl,H a zAb,H b (zAc _ zAb)⟩,?_⟩
 show len a.1+len b.1+1<=len a.1+(len b.1+0)+2
 exact zB3 (by decide) _
theorem jo_choose:JO 3 [.str "choose"] false:=fun q hq=>by
 obtain ⟨a,b,c,rfl⟩:=three hq
 refine ⟨.choose a.1 b.1 c.1,rfl,fun h H=>⟨rfl,h,rfl,H a zAb,H b (zAc _ zAb),H c (zAc _ (zAc _ zAb))⟩,?_⟩
 show len a.1+len b.1+len c.1+2<=len a.1+(len b.1+(len c.1+0))+2
 rw [Nat.add_assoc (len a.1)]; exact zAy _
theorem jo_let {y:Str}:JO 2 [.str "let",.str y] false:=fun q hq=>by
 obtain ⟨a,b,rfl⟩:=two hq
 refine ⟨.lt y a.1 b.1,rfl,fun h H=>⟨rfl,h,rfl,H a zAb,H b (zAc _ zAb)⟩,?_⟩
 show len a.1+len b.1+1<=len a.1+(len b.1+0)+2
 exact zB3 (by decide) _
theorem jo_call {f:Str} {m:Nat} (h2:m<=100):JO m [.str "call",.str f] true:=fun q hq=>by
 refine ⟨.call f (trL (q.map (·.1))),?_,fun h H=>⟨rfl,h,rfl,m,h2,?_⟩,?_⟩
 ·show AV.tup [.str "call",.str f,(trL (q.map (·.1))).enc]=_
  rw [trL_enc,zCu]; rfl
 ·have:=trL_ok (h:=h) (q.map (·.1)) fun t ht=>by obtain ⟨p,hp,rfl⟩:=zBs.mp ht; exact H p hp
  rw [zAe,hq] at this; exact this
 ·show len (trL (q.map (·.1)))+1<=_
  rw [trL_len,zCu]
  exact zB3 (by decide) _
noncomputable def zp12 (X:Ctx):D Fl:=ac (aI (ae 7)) (af .next)
noncomputable def zp11 (X:Ctx):D Fl:=ac (bn (am (aa 7) .Is (af .none)) (ac (aI (aj .Add (aa 0) (bO [aJ [aJ [af (.str "num"),aj .Sub (aj .Mod (aa 4) (af (.int 2000000000001))) (af (.int 1000000000000))],af (.int 1)]]))) (af .next)) (af .next)) (zp12 X)
noncomputable def zp10 (X:Ctx):D Fl:=ac (bn (am (aa 5) .Gt (af (.int 7))) (ac (aL 8 (al (aa 3) (aj .Mod (aa 4) (aW aA false [aa 3])))) (ac (aL 6 (al (aa 8) (af (.int 0)))) (ac (bn (am (aj .Mod (aj .FloorDiv (aa 4) (af (.int 31))) (af (.int 40))) .Eq (af (.int 5))) (ac (aL 6 (af (.str "nowhere"))) (af .next)) (af .next)) (ac (aL 7 (aU X "_law_joined" [ae 0,aj .Add (al (aa 8) (af (.int 1))) (aW kE false [am (aj .Mod (aj .FloorDiv (aa 4) (af (.int 31))) (af (.int 40))) .Eq (af (.int 3))]),aJ [af (.str "call"),ae 6],af (.bool true)])) (af .next))))) (af .next)) (zp11 X)
noncomputable def zp9 (X:Ctx):D Fl:=ac (bn (az .And [am (aa 5) .Eq (af (.int 7)),am (aj .Mod (aa 4) (af (.int 40))) .Eq (af (.int 5))]) (ac (aT 7 (aj .Add (aa 0) (bO [aJ [aJ [af (.str "let"),af (.str "r"),aJ [af (.str "sum"),aJ [af (.str "name"),af (.str "r")],aJ [af (.str "num"),af (.int 1)]],aJ [af (.str "name"),af (.str "r")]],af (.int 3)]]))) (af .next)) (af .next)) (zp10 X)
noncomputable def zp8 (X:Ctx):D Fl:=ac (bn (am (aa 5) .Eq (af (.int 7))) (ac (aL 7 (aU X "_law_joined" [ae 0,af (.int 2),aJ [af (.str "let"),ae 6],af (.bool false)])) (af .next)) (af .next)) (zp9 X)
noncomputable def zp7 (X:Ctx):D Fl:=ac (bn (am (aa 5) .Eq (af (.int 6))) (ac (aL 7 (aU X "_law_joined" [ae 0,af (.int 3),aJ [af (.str "choose")],af (.bool false)])) (af .next)) (af .next)) (zp8 X)
noncomputable def zp6 (X:Ctx):D Fl:=ac (bn (dCmp2 (af (.int 0)) .Lt (aa 5) .Lt (af (.int 6))) (ac (aL 7 (aU X "_law_joined" [ae 0,af (.int 2),aJ [al (bO [af (.str "sum"),af (.str "less"),af (.str "times"),af (.str "part"),af (.str "below")]) (aj .Sub (aa 5) (af (.int 1)))],af (.bool false)])) (af .next)) (af .next)) (zp7 X)
noncomputable def zp5 (X:Ctx):D Fl:=ac (bn (am (aa 5) .Eq (af (.int 0))) (ac (bn (am (aj .Mod (aa 4) (af (.int 40))) .Eq (af (.int 7))) (ac (aL 6 (af (.str "nobody"))) (af .next)) (af .next)) (ac (aT 7 (aj .Add (aa 0) (bO [aJ [aJ [af (.str "name"),ae 6],af (.int 1)]]))) (af .next))) (af .next)) (zp6 X)
noncomputable def zS (S:List It) (cell:Int) (nm:List Str) (cs:List (Str × Nat)) (x k:Int) (y:Str) (r:bF):bF:=(0,.val (.lst (S.map bu)))::(1,.val (.int cell))::(2,.val (.lst (nm.map .str)))::(3,.val (.lst (cs.map d8)))::(4,.val (.int x))::(5,.val (.int k))::(6,.val (.str y))::r
noncomputable def MadeO (S:List It) (lv:LV):Prop:=lv=.val .none ∨ ∃ S':List It,(lv=.val (.lst (S'.map bu)) ∨ lv=.own (.lst (S'.map bu)))/\IvO S'/\S'.length<=S.length+1/\wt S'<=wt S+5
section
variable {K n:Nat} {st:St} {S:List It} {cell x k:Int} {nm:List Str} {cs:List (Str × Nat)} {y:Str} {r:bF} {rt:Ret}
theorem lM {t:Tr} {h:Nat} {d:D AV} {L:bF} (hS:S.length<=399) (hp:aa 0 ⟨L,st⟩=.ok (.pl 0) ⟨L,st⟩) (h0:aS (.pl 0) ⟨L,st⟩=some (.lst (S.map bu))) (hd:d ⟨L,st⟩=.ok t.enc ⟨L,st⟩):aj .Add (aa 0) (bO [aJ [d,af (.int (h:Int))]]) ⟨L,st⟩=.ok (.lst ((S++[(t,h)]).map bu)) ⟨L,st⟩:=by
 rw [zAw]
 exact aB (b':=.lst [.tup [t.enc,.int (h:Int)]]) hp (kq (ai (cq (ai hd rfl) rfl) rfl) rfl) h0 rfl (bZ (by rw [zAd,zAe]; exact zAj (zBh hS 1) (by decide)))
theorem oA {t:Tr} {h:Nat} (I:IvO S) (ht:t.ok h none) (hh:h<=7) (hl:len t<=5):IvO (S++[(t,h)])/\(S++[(t,h)]).length<=S.length+1/\wt (S++[(t,h)])<=wt S+5 :=
 ⟨fun p hp=>(zA8.mp hp).elim (I p) fun q=>by rw [zAf.mp q]; exact ⟨ht,hh⟩,by rw [zAd]; exact zAy _,by rw [oq]; exact zB3 (show len t+0<=5 from hl) _⟩
noncomputable def nb3 (x:Int):Int:=zAq x 2000000000001 - 1000000000000
theorem nb3_in (x:Int):l4 (nb3 x):=by
 obtain ⟨j,hj,e⟩:=cj x (m:=2000000000001) (by decide)
 unfold nb3
 rw [show zAq x 2000000000001=j from e]; exact ⟨by lia,by lia⟩
theorem md4 {m:Nat} (hm:cN (m:Int)=true):aj .Mod (aa 4) (af (.int (m:Int))) ⟨zS S cell nm cs x k y r,st⟩=.ok (.int (zAq x m)) ⟨zS S cell nm cs x k y r,st⟩ :=
 aB (a':=.int x) (b':=.int (m:Int)) rfl rfl rfl rfl (by show (if cN (m:Int) then _ else _)=_; rw [if_pos hm])
theorem zfin {lv:LV} (hS:S.length<=399) (I:IvO S) (hm:MadeO S lv):∃ rt,RT (zp11 (wX K n)) ⟨zS S cell nm cs x k y ((7,lv)::r),st⟩ rt/\PutO S st rt:=by
 rcases hm with rfl | ⟨S',rfl | rfl,h⟩
 ·refine ⟨_,.ifB (c:=true) rfl (.assoc (.ret (lM (t:=.num (nb3 x)) (h:=1) hS rfl rfl ?_) rfl)),S++[(.num (nb3 x),1)],rfl,oA I (show (Tr.num (nb3 x)).ok 1 none from ⟨rfl,Nat.one_pos,nb3_in x⟩) (by decide) (by show 1<=5; decide)⟩
  exact cq (vs:=[.str "num",.int (nb3 x)]) (ai rfl (ai (aB (a':=.int (zAq x 2000000000001)) (b':=.int 1000000000000) (md4 (m:=2000000000001) rfl) rfl rfl rfl rfl) rfl)) rfl
 ·exact ⟨_,.ifB (c:=false) rfl (.next (.ret (v:=.lst (S'.map bu)) (s':=⟨zS S cell nm cs x k y ((7,.val (.lst (S'.map bu)))::r),st⟩) rfl rfl)),S',rfl,h⟩
 ·exact ⟨_,.ifB (c:=false) rfl (.next (.ret (v:=.lst (S'.map bu)) (s':=⟨zS S cell nm cs x k y ((7,.val (.lst (S'.map bu)))::r),st⟩) rfl rfl)),S',rfl,h⟩
theorem kD {m:Nat} {fr:List AV} {c:Bool} (I:IvO S) (h:JO m fr c):MadeO S (.val (jn S m fr c)):=by
 rcases jo_case I h with e | ⟨S',e,h⟩
 ·rw [e]; exact .inl rfl
 ·exact .inr ⟨S',.inl (by rw [e]),h⟩
theorem oB {m:Nat} {fr:List AV} {c:Bool} {es:List (D AV)} {lv:LV} (hS:S.length<=399) (hf:fr.isEmpty=false) (hfl:fr.length<=10) (hc:c=true ∨ 1<=m) (he:br es ⟨zS S cell nm cs x k y ((7,lv)::r),st⟩=.ok [.lst (S.map bu),.int (m:Int),.tup fr,.bool c] ⟨zS S cell nm cs x k y ((7,lv)::r),st⟩):aL 7 (aU (wX K (n+1)) "_law_joined" es) ⟨zS S cell nm cs x k y ((7,lv)::r),st⟩=.ok .next ⟨zS S cell nm cs x k y ((7,.val (jn S m fr c))::r),st⟩ :=
 bH (aN he (joined_ok (zAj hS (by decide)) hf hfl hc))
noncomputable abbrev Z (i:D Fl) (S:List It) (st:St) (s:Mine.S):Prop:=∃ rt,RT i s rt/\PutO S st rt
theorem Z.sk {t:D AV} {a b:D Fl} {s:Mine.S} (ht:t s=.ok (.bool false) s) (h:Z b S st s):Z (ac (bn t a (af .next)) b) S st s:=h.imp fun rt q=>⟨.ifB ht (.next q.1),q.2⟩
theorem Z.go {t:D AV} {a b:D Fl} {s s':Mine.S} (ht:t s=.ok (.bool true) s) (ha:a s=.ok .next s') (h:Z b S st s'):Z (ac (bn t (ac a (af .next)) (af .next)) b) S st s:=h.imp fun rt q=>⟨.ifB ht (.assoc (.go ha (.next q.1))),q.2⟩
theorem z10 {kk:Nat} (hk:8<=kk) (hk':kk < 11) (hS:S.length<=399) (I:IvO S) (h0:0 < cs.length) (hcl:cs.length<=100) (hc:∀ q ∈ cs,q.2<=90) {lv:LV}:Z (zp10 (wX K (n+1))) S st ⟨zS S cell nm cs x (kk:Int) y [(7,lv)],st⟩:=by
 obtain ⟨i,hi,ei⟩:=cj x h0
 have l3:aW aA false [aa 3] ⟨zS S cell nm cs x (kk:Int) y [(7,lv)],st⟩=.ok (.int (cs.length:Int)) ⟨zS S cell nm cs x (kk:Int) y [(7,lv)],st⟩:=by rw [← zAe (f:=d8)]; rfl
 have e8:al (aa 3) (aj .Mod (aa 4) (aW aA false [aa 3])) ⟨zS S cell nm cs x (kk:Int) y [(7,lv)],st⟩=.ok (d8 cs[i]) ⟨zS S cell nm cs x (kk:Int) y [(7,lv)],st⟩ :=
  bx (i:=.int (i:Int)) (c':=.lst (cs.map d8)) rfl (by
   rw [← ei]
   exact aB (a':=.int x) (b':=.int (cs.length:Int)) rfl l3 rfl rfl (by show (if cN (cs.length:Int) then _ else _)=_; rw [if_pos (gX h0 (zAj hcl (by decide)))])) rfl (lJ (by rw [zBv,zAv hi]; rfl))
 have hq:=hc _ (List.getElem_mem hi)
 generalize cs[i]=q at e8 hq
 have gt:am (aa 5) .Gt (af (.int 7)) ⟨zS S cell nm cs x (kk:Int) y [(7,lv)],st⟩=.ok (.bool true) ⟨zS S cell nm cs x (kk:Int) y [(7,lv)],st⟩:=by
  show Out.ok (AV.bool (decide ((7:Int) < (kk:Int)))) _=_
  rw [decide_eq_true (by lia)]
 have md:∀ y:Str,aj .Mod (aj .FloorDiv (aa 4) (af (.int 31))) (af (.int 40)) ⟨zS S cell nm cs x (kk:Int) y [(7,lv),(8,.val (d8 q))],st⟩=.ok (.int (zAq (zAu x 31) 40)) ⟨zS S cell nm cs x (kk:Int) y [(7,lv),(8,.val (d8 q))],st⟩:=fun y=>ir (m:=40) (x:=zAu x 31) (aB (a':=.int x) (b':=.int 31) rfl rfl rfl rfl rfl) rfl
 have fin:∀ y:Str,Z (ac (aL 7 (aU (wX K (n+1)) "_law_joined" [ae 0,aj .Add (al (aa 8) (af (.int 1))) (aW kE false [am (aj .Mod (aj .FloorDiv (aa 4) (af (.int 31))) (af (.int 40))) .Eq (af (.int 3))]),aJ [af (.str "call"),ae 6],af (.bool true)])) (ac (af .next) (zp11 (wX K (n+1))))) S st ⟨zS S cell nm cs x (kk:Int) y [(7,lv),(8,.val (d8 q))],st⟩:=fun y=>by
  obtain ⟨b,hb,eb⟩:∃ b:Nat,b<=1/\aW kE false [am (aj .Mod (aj .FloorDiv (aa 4) (af (.int 31))) (af (.int 40))) .Eq (af (.int 3))] ⟨zS S cell nm cs x (kk:Int) y [(7,lv),(8,.val (d8 q))],st⟩=.ok (.int (b:Int)) ⟨zS S cell nm cs x (kk:Int) y [(7,lv),(8,.val (d8 q))],st⟩:=by
   have ec:=eJ (y:=3) (md y)
   cases hd:decide (zAq (zAu x 31) 40=3) with
   | true=>exact ⟨1,zAy _,cn (ec.trans (by rw [hd])) rfl rfl⟩
   | false=>exact ⟨0,zBa _,cn (ec.trans (by rw [hd])) rfl rfl⟩
  obtain ⟨rt,h1,h2⟩:=zfin (K:=K) (n:=n+1) (st:=st) (cell:=cell) (nm:=nm) (cs:=cs) (x:=x) (k:=(kk:Int)) (y:=y) (r:=[(8,.val (d8 q))]) hS I (kD (m:=q.2+b) (fr:=[.str "call",.str y]) (c:=true) I (jo_call (by lia)))
  refine ⟨rt,.go (oB (m:=q.2+b) (fr:=[.str "call",.str y]) (c:=true) hS rfl (by show 2<=10; decide) (.inl rfl) ?_) (.next h1),h2⟩
  exact ai rfl (ai (aB (a':=.int (q.2:Int)) (b':=.int (b:Int)) (bx (c:=.pl 8) (c':=d8 q) rfl rfl rfl rfl) eb rfl rfl (by show some (AV.int ((q.2:Int)+b))=_; rw [zCb])) rfl)
 have e5:=eJ (y:=5) (md q.1)
 cases hd:decide (zAq (zAu x 31) 40=5) with
 | true =>
  rw [hd] at e5
  obtain ⟨rt,h1,h2⟩:=fin "nowhere"
  exact ⟨rt,.ifB gt (.assoc (.go (s':=⟨zS S cell nm cs x (kk:Int) y [(7,lv),(8,.val (d8 q))],st⟩) (bH e8) (.assoc (.go (s':=⟨zS S cell nm cs x (kk:Int) q.1 [(7,lv),(8,.val (d8 q))],st⟩) rfl (.assoc (.ifB e5 (.assoc (.go (s':=⟨zS S cell nm cs x (kk:Int) "nowhere" [(7,lv),(8,.val (d8 q))],st⟩) rfl (.next (.assoc h1)))))))))),h2⟩
 | false =>
  rw [hd] at e5
  obtain ⟨rt,h1,h2⟩:=fin q.1
  exact ⟨rt,.ifB gt (.assoc (.go (s':=⟨zS S cell nm cs x (kk:Int) y [(7,lv),(8,.val (d8 q))],st⟩) (bH e8) (.assoc (.go (s':=⟨zS S cell nm cs x (kk:Int) q.1 [(7,lv),(8,.val (d8 q))],st⟩) rfl (.assoc (.ifB e5 (.next (.assoc h1)))))))),h2⟩
theorem zkind {kk:Nat} (hk:kk < 11) (hS:S.length<=399) (I:IvO S) (h0:0 < cs.length) (hcl:cs.length<=100) (hc:∀ q ∈ cs,q.2<=90):Z (zp5 (wX K (n+1))) S st ⟨zS S cell nm cs x (kk:Int) y [(7,.val .none)],st⟩:=by
 have fin:∀ {k:Int} {y:Str} {lv:LV},MadeO S lv->Z (zp11 (wX K (n+1))) S st ⟨zS S cell nm cs x k y [(7,lv)],st⟩:=fun h=>zfin hS I h
 have deed:∀ {k:Int} (w:Dw),al (bO [af (.str "sum"),af (.str "less"),af (.str "times"),af (.str "part"),af (.str "below")]) (aj .Sub (aa 5) (af (.int 1))) ⟨zS S cell nm cs x k y [(7,.val .none)],st⟩=.ok (.str w.str) ⟨zS S cell nm cs x k y [(7,.val .none)],st⟩->aL 7 (aU (wX K (n+1)) "_law_joined" [ae 0,af (.int 2),aJ [al (bO [af (.str "sum"),af (.str "less"),af (.str "times"),af (.str "part"),af (.str "below")]) (aj .Sub (aa 5) (af (.int 1)))],af (.bool false)]) ⟨zS S cell nm cs x k y [(7,.val .none)],st⟩=.ok .next ⟨zS S cell nm cs x k y [(7,.val (jn S 2 [.str w.str] false))],st⟩:=fun w h=>oB (m:=2) hS rfl (by show 1<=10; decide) (.inr (by decide)) (ai rfl (ai rfl (ai (cq (ai h rfl) rfl) rfl)))
 have D:∀ {k:Int} (w:Dw),Z (zp11 (wX K (n+1))) S st ⟨zS S cell nm cs x k y [(7,.val (jn S 2 [.str w.str] false))],st⟩:=fun w=>fin (kD I (jo_deed w))
 match kk,hk with
 | 0,_ =>
  have nmd:∀ y:Str,Z (zp6 (wX K (n+1))) S st ⟨zS S cell nm cs x 0 y [(7,.own (.lst ((S++[(Tr.name y,1)]).map bu)))],st⟩:=fun y=>.sk rfl (.sk rfl (.sk rfl (.sk rfl (.sk rfl (fin (.inr ⟨_,.inr rfl,oA I (show (Tr.name y).ok 1 none from ⟨rfl,Nat.one_pos⟩) (by decide) (by show 1<=5; decide)⟩))))))
  have e7:∀ y:Str,aT 7 (aj .Add (aa 0) (bO [aJ [aJ [af (.str "name"),ae 6],af (.int 1)]])) ⟨zS S cell nm cs x 0 y [(7,.val .none)],st⟩=.ok .next ⟨zS S cell nm cs x 0 y [(7,.own (.lst ((S++[(Tr.name y,1)]).map bu)))],st⟩:=fun y=>bp (lM (t:=.name y) (h:=1) (d:=aJ [af (.str "name"),ae 6]) (L:=zS S cell nm cs x 0 y [(7,.val .none)]) hS rfl rfl rfl)
  have e5:am (aj .Mod (aa 4) (af (.int 40))) .Eq (af (.int 7)) ⟨zS S cell nm cs x 0 y [(7,.val .none)],st⟩=.ok (.bool (decide (zAq x 40=7))) ⟨zS S cell nm cs x 0 y [(7,.val .none)],st⟩:=eJ (md4 (m:=40) rfl)
  cases hd:decide (zAq x 40=7) with
  | true =>
   rw [hd] at e5
   obtain ⟨rt,h1,h2⟩:=nmd "nobody"
   exact ⟨rt,.ifB (c:=true) rfl (.assoc (.ifB e5 (.assoc (.go (s':=⟨zS S cell nm cs x 0 "nobody" [(7,.val .none)],st⟩) rfl (.next (.assoc (.go (e7 "nobody") (.next h1)))))))),h2⟩
  | false =>
   rw [hd] at e5
   obtain ⟨rt,h1,h2⟩:=nmd y
   exact ⟨rt,.ifB (c:=true) rfl (.assoc (.ifB e5 (.next (.assoc (.go (e7 y) (.next h1)))))),h2⟩
 | 1,_=>exact .sk rfl (.go rfl (deed .sum rfl) (.sk rfl (.sk rfl (.sk rfl (.sk rfl (D .sum))))))
 | 2,_=>exact .sk rfl (.go rfl (deed .less rfl) (.sk rfl (.sk rfl (.sk rfl (.sk rfl (D .less))))))
 | 3,_=>exact .sk rfl (.go rfl (deed .times rfl) (.sk rfl (.sk rfl (.sk rfl (.sk rfl (D .times))))))
 | 4,_=>exact .sk rfl (.go rfl (deed .part rfl) (.sk rfl (.sk rfl (.sk rfl (.sk rfl (D .part))))))
 | 5,_=>exact .sk rfl (.go rfl (deed .below rfl) (.sk rfl (.sk rfl (.sk rfl (.sk rfl (D .below))))))
 | 6,_=>exact .sk rfl (.sk rfl (.go rfl (oB (m:=3) (fr:=[.str "choose"]) (c:=false) hS rfl (by show 1<=10; decide) (.inr (by decide)) rfl) (.sk rfl (.sk rfl (.sk rfl (fin (kD I jo_choose)))))))
 | 7,_ =>
  refine .sk rfl (.sk rfl (.sk rfl (.go rfl (oB (m:=2) (fr:=[.str "let",.str y]) (c:=false) hS rfl (by show 2<=10; decide) (.inr (by decide)) rfl) ?_)))
  have e5:am (aj .Mod (aa 4) (af (.int 40))) .Eq (af (.int 5)) ⟨zS S cell nm cs x 7 y [(7,.val (jn S 2 [.str "let",.str y] false))],st⟩=.ok (.bool (decide (zAq x 40=5))) ⟨zS S cell nm cs x 7 y [(7,.val (jn S 2 [.str "let",.str y] false))],st⟩:=eJ (md4 (m:=40) rfl)
  have e9:az .And [am (aa 5) .Eq (af (.int 7)),am (aj .Mod (aa 4) (af (.int 40))) .Eq (af (.int 5))] ⟨zS S cell nm cs x 7 y [(7,.val (jn S 2 [.str "let",.str y] false))],st⟩=.ok (.bool (decide (zAq x 40=5))) ⟨zS S cell nm cs x 7 y [(7,.val (jn S 2 [.str "let",.str y] false))],st⟩:=(ci (c:=true) rfl).trans e5
  cases hd:decide (zAq x 40=5) with
  | false=>rw [hd] at e9; exact .sk e9 (.sk rfl (fin (kD I jo_let)))
  | true =>
   rw [hd] at e9
   have e7:aT 7 (aj .Add (aa 0) (bO [aJ [aJ [af (.str "let"),af (.str "r"),aJ [af (.str "sum"),aJ [af (.str "name"),af (.str "r")],aJ [af (.str "num"),af (.int 1)]],aJ [af (.str "name"),af (.str "r")]],af (.int 3)]])) ⟨zS S cell nm cs x 7 y [(7,.val (jn S 2 [.str "let",.str y] false))],st⟩=.ok .next ⟨zS S cell nm cs x 7 y [(7,.own (.lst ((S++[(Tr.lt "r" (.deed .sum (.name "r") (.num 1)) (.name "r"),3)]).map bu)))],st⟩ :=
    bp (lM (t:=.lt "r" (.deed .sum (.name "r") (.num 1)) (.name "r")) (h:=3) (L:=zS S cell nm cs x 7 y [(7,.val (jn S 2 [.str "let",.str y] false))]) hS rfl rfl rfl)
   refine .go e9 e7 (.sk rfl (fin (.inr ⟨_,.inr rfl,oA I ?_ (by decide) (by show 5<=5; decide)⟩)))
   exact ⟨rfl,2,rfl,⟨rfl,1,rfl,⟨rfl,Nat.one_pos⟩,rfl,Nat.one_pos,by decide,by decide⟩,rfl,by decide⟩
 | 8,_=>exact .sk rfl (.sk rfl (.sk rfl (.sk rfl (.sk rfl (z10 (kk:=8) (by decide) (by decide) hS I h0 hcl hc)))))
 | 9,_=>exact .sk rfl (.sk rfl (.sk rfl (.sk rfl (.sk rfl (z10 (kk:=9) (by decide) (by decide) hS I h0 hcl hc)))))
 | 10,_=>exact .sk rfl (.sk rfl (.sk rfl (.sk rfl (.sk rfl (z10 (kk:=10) (by decide) (by decide) hS I h0 hcl hc)))))
end
section
variable {K n:Nat} {st:St} {S:List It} {cell x k:Int} {nm:List Str} {cs:List (Str × Nat)} {y:Str} {r:bF} {rt:Ret}
noncomputable abbrev z0 (S:List It) (cell:Int) (nm:List Str) (cs:List (Str × Nat)) (r:bF):bF:=(0,.val (.lst (S.map bu)))::(1,.val (.int cell))::(2,.val (.lst (nm.map .str)))::(3,.val (.lst (cs.map d8)))::r
theorem put_okO (hS:S.length<=399) (I:IvO S) (hnl:nm.length<=100) (h0:0 < cs.length) (hcl:cs.length<=100) (hc:∀ q ∈ cs,q.2<=90):PutO S st (aw PP K (n+2) ⟨#[]⟩ "_law_put" [.lst (S.map bu),.int cell,.lst (nm.map .str),.lst (cs.map d8)] st):=by
 rw [rn__law_put]
 obtain ⟨kk,hk,ek⟩:=cj cell (m:=11) (by decide)
 obtain ⟨i,hi,ei⟩:=cj (zAu cell 11) (m:=nm.length+1) (zCc _)
 generalize hx:zAu cell 11=x at ei
 have e4:aj .FloorDiv (aa 1) (af (.int 11)) ⟨z0 S cell nm cs [],st⟩=.ok (.int x) ⟨z0 S cell nm cs [],st⟩:=by rw [← hx]; exact aB (a':=.int cell) (b':=.int 11) rfl rfl rfl rfl rfl
 have e5:aj .Mod (aa 1) (af (.int 11)) ⟨z0 S cell nm cs [(4,.val (.int x))],st⟩=.ok (.int (kk:Int)) ⟨z0 S cell nm cs [(4,.val (.int x))],st⟩:=by rw [← ek]; exact aB (a':=.int cell) (b':=.int 11) rfl rfl rfl rfl rfl
 obtain ⟨y0,ey⟩:∃ y0:Str,((nm.map AV.str)++[AV.str "q"])[i]?=some (.str y0):=by
  rw [show (nm.map AV.str)++[AV.str "q"]=(nm++[("q":Str)]).map AV.str by rw [zAw]; rfl,zBv]
  have:i < (nm++[("q":Str)]).length:=by rw [zAd]; exact hi
  exact ⟨(nm++[("q":Str)])[i],by rw [zAv this]; rfl⟩
 have e6:al (aj .Add (aa 2) (bO [af (.str "q")])) (aj .Mod (aa 4) (aj .Add (aW aA false [aa 2]) (af (.int 1)))) ⟨z0 S cell nm cs [(4,.val (.int x)),(5,.val (.int (kk:Int)))],st⟩=.ok (.str y0) ⟨z0 S cell nm cs [(4,.val (.int x)),(5,.val (.int (kk:Int)))],st⟩:=by
  have l2:aW aA false [aa 2] ⟨z0 S cell nm cs [(4,.val (.int x)),(5,.val (.int (kk:Int)))],st⟩=.ok (.int (nm.length:Int)) ⟨z0 S cell nm cs [(4,.val (.int x)),(5,.val (.int (kk:Int)))],st⟩:=by rw [← zAe (f:=AV.str)]; rfl
  have ad:aj .Add (aW aA false [aa 2]) (af (.int 1)) ⟨z0 S cell nm cs [(4,.val (.int x)),(5,.val (.int (kk:Int)))],st⟩=.ok (.int ((nm.length+1:Nat):Int)) ⟨z0 S cell nm cs [(4,.val (.int x)),(5,.val (.int (kk:Int)))],st⟩:=aB (a':=.int (nm.length:Int)) (b':=.int 1) l2 rfl rfl rfl (by show some (AV.int ((nm.length:Int)+1))=_; rw [zCb]; rfl)
  have ls:aj .Add (aa 2) (bO [af (.str "q")]) ⟨z0 S cell nm cs [(4,.val (.int x)),(5,.val (.int (kk:Int)))],st⟩=.ok (.lst ((nm.map AV.str)++[.str "q"])) ⟨z0 S cell nm cs [(4,.val (.int x)),(5,.val (.int (kk:Int)))],st⟩:=aB (a':=.lst (nm.map .str)) (b':=.lst [.str "q"]) rfl rfl rfl rfl (bZ (by rw [zAd,zAe]; show _+1<=_; lia))
  refine bx (i:=.int (i:Int)) ls ?_ rfl (lJ ey)
  rw [← ei]
  exact aB (a':=.int x) (b':=.int ((nm.length+1:Nat):Int)) rfl ad rfl rfl (by show (if cN ((nm.length+1:Nat):Int) then _ else _)=_; rw [if_pos (gX (zBc (zBa _)) (by lia))])
 have z:=fun y=>zkind (K:=K) (n:=n) (st:=st) (cell:=cell) (nm:=nm) (cs:=cs) (x:=x) (y:=y) hk hS I h0 hcl hc
 have c3:∃ b:Bool,az .Or [az .And [am (aj .Mod (aa 4) (af (.int 7))) .Eq (af (.int 3)),am (aa 5) .Eq (af (.int 7))],am (aj .Mod (aa 4) (af (.int 30))) .Eq (af (.int 11))] ⟨zS S cell nm cs x (kk:Int) y0 [],st⟩=.ok (.bool b) ⟨zS S cell nm cs x (kk:Int) y0 [],st⟩:=by
  have a1:am (aj .Mod (aa 4) (af (.int 7))) .Eq (af (.int 3)) ⟨zS S cell nm cs x (kk:Int) y0 [],st⟩=.ok (.bool (decide (zAq x 7=3))) ⟨zS S cell nm cs x (kk:Int) y0 [],st⟩:=eJ (md4 (m:=7) rfl)
  have a3:am (aj .Mod (aa 4) (af (.int 30))) .Eq (af (.int 11)) ⟨zS S cell nm cs x (kk:Int) y0 [],st⟩=.ok (.bool (decide (zAq x 30=11))) ⟨zS S cell nm cs x (kk:Int) y0 [],st⟩:=eJ (md4 (m:=30) rfl)
  have a2:am (aa 5) .Eq (af (.int 7)) ⟨zS S cell nm cs x (kk:Int) y0 [],st⟩=.ok (.bool (decide ((kk:Int)=7))) ⟨zS S cell nm cs x (kk:Int) y0 [],st⟩:=rfl
  obtain ⟨b,hb⟩:∃ b:Bool,az .And [am (aj .Mod (aa 4) (af (.int 7))) .Eq (af (.int 3)),am (aa 5) .Eq (af (.int 7))] ⟨zS S cell nm cs x (kk:Int) y0 [],st⟩=.ok (.bool b) ⟨zS S cell nm cs x (kk:Int) y0 [],st⟩:=by
   refine Exists.imp (fun b h=>(ci a1).trans h) ?_
   cases decide (zAq x 7=3) with
   | true=>exact ⟨_,a2⟩
   | false=>exact ⟨_,rfl⟩
  refine Exists.imp (fun b h=>(eP hb).trans h) ?_
  cases b with
  | true=>exact ⟨_,rfl⟩
  | false=>exact ⟨_,a3⟩
 obtain ⟨b,c3⟩:=c3
 have T:∀ {rt:Ret},RT (ac (bn (az .Or [az .And [am (aj .Mod (aa 4) (af (.int 7))) .Eq (af (.int 3)),am (aa 5) .Eq (af (.int 7))],am (aj .Mod (aa 4) (af (.int 30))) .Eq (af (.int 11))]) (ac (aL 6 (af (.str "r"))) (af .next)) (af .next)) (ac (aL 7 (af .none)) (zp5 (wX K (n+1))))) ⟨zS S cell nm cs x (kk:Int) y0 [],st⟩ rt->RT (jT (wX K (n+1))) ⟨z0 S cell nm cs [],st⟩ rt:=fun h =>
  .go (s':=⟨z0 S cell nm cs [(4,.val (.int x))],st⟩) (bp e4) (.go (s':=⟨z0 S cell nm cs [(4,.val (.int x)),(5,.val (.int (kk:Int)))],st⟩) (bp e5) (.go (s':=⟨zS S cell nm cs x (kk:Int) y0 [],st⟩) (bH e6) h))
 cases b with
 | true =>
  obtain ⟨rt,h1,h2⟩:=z "r"
  have:=T (.ifB c3 (.assoc (.go (s':=⟨zS S cell nm cs x (kk:Int) "r" [],st⟩) rfl (.next (.go (s':=⟨zS S cell nm cs x (kk:Int) "r" [(7,.val .none)],st⟩) rfl h1)))))
  exact (show bc _=rt from this) ▸ h2
 | false =>
  obtain ⟨rt,h1,h2⟩:=z y0
  have:=T (.ifB c3 (.next (.go (s':=⟨zS S cell nm cs x (kk:Int) y0 [(7,.val .none)],st⟩) rfl h1)))
  exact (show bc _=rt from this) ▸ h2
end
noncomputable def bLo (cl:List Int) (nm:List Str) (cs:List (Str × Nat)) (tw:Nat) (lv:LV) (r:bF):bF:=(0,.val (.lst (cl.map .int)))::(1,.val (.lst (nm.map .str)))::(2,.val (.lst (cs.map d8)))::(3,.val (.int (tw:Int)))::(4,lv)::r
noncomputable abbrev puO (X:Ctx):D Fl:=ac (aL 4 (aU X "_law_put" [ae 4,ae 5,ae 1,ae 2])) (af .next)
noncomputable def r5 (r:bF):Prop:=r=[] ∨ ∃ v,r=[(5,v)]
noncomputable def isS (lv:LV) (S:List It):Prop:=lv=.own (.lst (S.map bu)) ∨ lv=.val (.lst (S.map bu))
section
variable {K n tw:Nat} {st:St} {S:List It} {cl:List Int} {nm:List Str} {cs:List (Str × Nat)} {r:bF} {lv:LV}
theorem body_stepO {c:Int} (hl:isS lv S) (hr:r5 r) (hS:S.length<=399) (I:IvO S) (hnl:nm.length<=100) (h0:0 < cs.length) (hcl:cs.length<=100) (hc:∀ q ∈ cs,q.2<=90) :
  ∃ S',puO (wX K (n+2)) ⟨ah 5 (.val (.int c)) (bLo cl nm cs tw lv r),st⟩=.ok .next ⟨bLo cl nm cs tw (.val (.lst (S'.map bu))) [(5,.val (.int c))],st⟩/\IvO S'/\S'.length<=S.length+1/\wt S'<=wt S+5:=by
 obtain ⟨S',e,h⟩:=put_okO (K:=K) (n:=n) (st:=st) (cell:=c) hS I hnl h0 hcl hc
 refine ⟨S',?_,h⟩
 have e0:ah 5 (.val (.int c)) (bLo cl nm cs tw lv r)=bLo cl nm cs tw lv [(5,.val (.int c))]:=by
  rcases hr with rfl | ⟨v,rfl⟩ <;> rfl
 rw [e0]
 have e1:br [ae 4,ae 5,ae 1,ae 2] ⟨bLo cl nm cs tw lv [(5,.val (.int c))],st⟩=.ok [.lst (S.map bu),.int c,.lst (nm.map .str),.lst (cs.map d8)] ⟨bLo cl nm cs tw (.val (.lst (S.map bu))) [(5,.val (.int c))],st⟩:=by
  rcases hl with rfl | rfl <;> rfl
 exact bQ (bH (aN e1 e)) trivial
theorem lg (hnl:nm.length<=100) (h0:0 < cs.length) (hcl:cs.length<=100) (hc:∀ q ∈ cs,q.2<=90):∀ (l:List Int) (S:List It) (lv:LV) (r:bF),isS lv S->r5 r->S.length+l.length<=399->IvO S ->
  ∃ S' lv' r',aX (some 5,[]) (puO (wX K (n+2))) (l.map .int) ⟨bLo cl nm cs tw lv r,st⟩=.ok .next ⟨bLo cl nm cs tw lv' r',st⟩/\isS lv' S'/\r5 r'/\IvO S'/\S'.length<=S.length+l.length/\wt S'<=wt S+5 * l.length
 | [],S,lv,r,hl,hr,hS,I=>⟨S,lv,r,rfl,hl,hr,I,zAy _,zAy _⟩
 | c::l,S,lv,r,hl,hr,hS,I=>by
  have hS':S.length+l.length+1<=399:=hS
  obtain ⟨S1,e1,I1,h1,h2⟩:=body_stepO (K:=K) (n:=n) (st:=st) (cl:=cl) (c:=c) (tw:=tw) hl hr (by lia) I hnl h0 hcl hc
  obtain ⟨S2,lv2,r2,e2,a1,a2,a3,a4,a5⟩:=lg hnl h0 hcl hc l S1 _ _ (.inr rfl) (.inr ⟨_,rfl⟩) (by lia) I1
  exact ⟨S2,lv2,r2,bG e1 e2,a1,a2,a3,by show _<=S.length+(l.length+1); lia,by show _<=wt S+5 * (l.length+1); lia⟩
theorem clip_m3 (n:Nat):clipAt n (-3)=n - 3:=by
 unfold clipAt; rw [if_pos (by decide)]; omega
theorem slc_m3 {l:List AV}:kJ (.lst l) (.int (-3)) .none=some (.lst (l.drop (l.length - 3))):=by
 show some (AV.lst ((l.drop (clipAt l.length (-3))).take (l.length - clipAt l.length (-3))))=_
 rw [clip_m3,List.take_of_length_le (by rw [zB6]; exact zAy _)]
noncomputable def sumT (b:Tr):List It->Tr
 | []=>b
 | p::r=>sumT (.deed .sum b p.1) r
theorem sumT_ok:∀ (T:List It) (b:Tr) (h:Nat),7<=h->b.ok h none->IvO T->(sumT b T).ok (h+T.length) none
 | [],b,h,_,hb,_=>hb
 | p::r,b,h,h7,hb,I=>by
  have:=sumT_ok r (.deed .sum b p.1) (h+1) (Nat.le_succ_of_le h7) ⟨rfl,h,rfl,hb,km p.1 (zAj (I p zAb).2 h7) (I p zAb).1⟩ fun q hq=>I q (zAc _ hq)
  rw [Nat.add_right_comm] at this; exact this
theorem sumT_len:∀ (T:List It) (b:Tr),len (sumT b T)=len b+wt T+T.length
 | [],b=>rfl
 | p::r,b=>by
  show len (sumT (.deed .sum b p.1) r)=len b+(len p.1+wt r)+(r.length+1)
  rw [sumT_len r]
  show len b+len p.1+1+wt r+r.length=_
  lia
noncomputable abbrev smB:D Fl:=ac (aL 6 (aJ [af (.str "sum"),ae 6,al (aa 7) (af (.int 0))])) (af .next)
theorem mL {st:St} {nv:AV}:∀ (T:List It) (b:Tr) (L:bF),aq 6 L=some (.val b.enc)->aq 3 L=some (.val nv)->∃ L',aX (some 7,[]) smB (T.map bu) ⟨L,st⟩=.ok .next ⟨L',st⟩/\aq 6 L'=some (.val (sumT b T).enc)/\aq 3 L'=some (.val nv)
 | [],b,L,h6,h1=>⟨L,rfl,h6,h1⟩
 | p::r,b,L,h6,h1=>by
  obtain ⟨L',e,a,c⟩:=mL (st:=st) (nv:=nv) r (.deed .sum b p.1) (ah 6 (.val (Tr.deed .sum b p.1).enc) (ah 7 (.val (bu p)) L)) ay (by rw [ag rfl,ag rfl]; exact h1)
  refine ⟨L',bG (s₂:=⟨ah 6 (.val (Tr.deed .sum b p.1).enc) (ah 7 (.val (bu p)) L),st⟩) ?_ e,a,c⟩
  have e7:aq 7 (ah 7 (.val (bu p)) L)=some (.val (bu p)):=ay
  exact bQ (bH (cq (vs:=[.str "sum",b.enc,p.1.enc]) (s':=⟨ah 7 (.val (bu p)) L,st⟩) (ai rfl (ai (aZ (by rw [ag rfl]; exact h6)) (ai (bx (aY e7) rfl (b5 e7) rfl) rfl))) rfl)) trivial
noncomputable abbrev twB:D Fl:=ac (aL 6 (aJ [af (.str "less"),aJ [af (.str "num"),ae 8],ae 6])) (af .next)
noncomputable def towT (b:Tr):List Nat->Tr
 | []=>b
 | k::r=>towT (.deed .less (.num (k:Int)) b) r
theorem tow_loop {st:St}:∀ (l:List Nat) (b:Tr) (L:bF),aq 6 L=some (.val b.enc)->∃ L',aX (some 8,[]) twB (l.map fun k:Nat=>.int (k:Int)) ⟨L,st⟩=.ok .next ⟨L',st⟩/\aq 6 L'=some (.val (towT b l).enc)
 | [],b,L,h6=>⟨L,rfl,h6⟩
 | k::r,b,L,h6=>by
  obtain ⟨L',e,a⟩:=tow_loop (st:=st) r (.deed .less (.num (k:Int)) b) (ah 6 (.val (Tr.deed .less (.num (k:Int)) b).enc) (ah 8 (.val (.int (k:Int))) L)) ay
  refine ⟨L',bG (s₂:=⟨ah 6 (.val (Tr.deed .less (.num (k:Int)) b).enc) (ah 8 (.val (.int (k:Int))) L),st⟩) ?_ e,a⟩
  have e8:aq 8 (ah 8 (.val (.int (k:Int))) L)=some (.val (.int (k:Int))):=ay
  exact bQ (bH (cq (vs:=[.str "less",.tup [.str "num",.int (k:Int)],b.enc]) (s':=⟨ah 8 (.val (.int (k:Int))) L,st⟩) (ai rfl (ai (cq (ai rfl (ai (aZ e8) rfl)) rfl) (ai (aZ (by rw [ag rfl]; exact h6)) rfl))) rfl)) trivial
theorem towT_ok:∀ (l:List Nat) (b:Tr) (h:Nat),1<=h->b.ok h none->(∀ k ∈ l,k<=100)->(towT b l).ok (h+l.length) none/\len (towT b l)=len b+2 * l.length
 | [],b,h,_,hb,_=>⟨hb,rfl⟩
 | k::r,b,h,h1,hb,hl=>by
  have hk:=hl k zAb
  obtain ⟨a,c⟩:=towT_ok r (.deed .less (.num (k:Int)) b) (h+1) (Nat.le_succ_of_le h1) ⟨rfl,h,rfl,⟨rfl,h1,by lia,by lia⟩,hb⟩ fun j hj=>hl j (zAc _ hj)
  rw [Nat.add_right_comm] at a
  refine ⟨a,?_⟩
  show len (towT (.deed .less (.num (k:Int)) b) r)=len b+2 * (r.length+1)
  rw [c]
  show 1+len b+1+2 * r.length=_
  lia
theorem body_okO (hcl':cl.length<=399) (hnl:nm.length<=100) (h0:0 < cs.length) (hcl:cs.length<=100) (hc:∀ q ∈ cs,q.2<=90) (ht:tw<=15) :
  ∃ t:Tr,aw PP K (n+3) ⟨#[]⟩ "_law_body" [.lst (cl.map .int),.lst (nm.map .str),.lst (cs.map d8),.int (tw:Int)] st=.ok t.enc st/\t.ok 30 none/\len t<=5 * cl.length+2 * tw+8:=by
 rw [n9]
 obtain ⟨S,lv,r,e1,hs,hr,I,h1,h2⟩:=lg (K:=K) (n:=n) (st:=st) (cl:=cl) (nm:=nm) (cs:=cs) (tw:=tw) hnl h0 hcl hc cl [] (.own (.lst [])) [] (.inl rfl) (.inl rfl) (by show 0+_<=_; lia) (fun p hp=>nomatch hp)
 have hT3:(S.drop (S.length - 3)).length<=3:=by rw [zB6]; lia
 have hTw:wt (S.drop (S.length - 3))<=wt S:=by
  have:=oq (S.take (S.length - 3)) (S.drop (S.length - 3))
  rw [List.take_append_drop] at this; lia
 have hTI:IvO (S.drop (S.length - 3)):=fun p hp=>I p (List.mem_of_mem_drop hp)
 have h4:aq 4 (bLo cl nm cs tw lv r)=some lv:=rfl
 have g4:aq 4 (ah 6 (.val (Tr.num (cl.length:Int)).enc) (bLo cl nm cs tw lv r))=some lv:=by rw [ag rfl]; exact h4
 obtain ⟨L',e2,h6,h7⟩:=mL (st:=st) (nv:=.int (tw:Int)) (S.drop (S.length - 3)) (.num (cl.length:Int)) (ah 6 (.val (Tr.num (cl.length:Int)).enc) (bLo cl nm cs tw lv r)) ay (by rw [ag rfl]; rfl)
 have hb:(sumT (.num (cl.length:Int)) (S.drop (S.length - 3))).ok 10 none:=km _ (by show 7+_<=10; lia) (sumT_ok _ _ 7 (zAy _) ⟨rfl,by decide,by lia,by lia⟩ hTI)
 have hbl:=sumT_len (S.drop (S.length - 3)) (.num (cl.length:Int))
 generalize hB:sumT (.num (cl.length:Int)) (S.drop (S.length - 3))=B at h6 hb hbl
 obtain ⟨L2,e3,k6⟩:=tow_loop (st:=st) (List.range tw) B L' h6
 obtain ⟨ho,hl2⟩:=towT_ok (List.range tw) B 10 (by decide) hb fun j hj=>by have:=List.mem_range.mp hj; lia
 rw [zBu] at ho hl2
 refine ⟨.lt "q" (.num 5) (towT B (List.range tw)),?_,⟨rfl,29,rfl,⟨rfl,by decide,by decide,by decide⟩,km _ (by lia) ho⟩,?_⟩
 ·show RT (iG (wX K (n+2))) ⟨[(0,.val (.lst (cl.map .int))),(1,.val (.lst (nm.map .str))),(2,.val (.lst (cs.map d8))),(3,.val (.int (tw:Int)))],st⟩ _
  refine .go (s':=⟨bLo cl nm cs tw (.own (.lst [])) [],st⟩) rfl (.forI (l:=cl.map .int) (s₁:=⟨bLo cl nm cs tw (.own (.lst [])) [],st⟩) rfl e1 ?_)
  refine .go (s':=⟨ah 6 (.val (Tr.num (cl.length:Int)).enc) (bLo cl nm cs tw lv r),st⟩) (bH (cq (vs:=[.str "num",.int (cl.length:Int)]) (s':=⟨bLo cl nm cs tw lv r,st⟩) (ai rfl (ai (by rw [← zAe (f:=AV.int)]; rfl) rfl)) rfl)) ?_
  have e4:aS (.pl 4) ⟨ah 6 (.val (Tr.num (cl.length:Int)).enc) (bLo cl nm cs tw lv r),st⟩=some (.lst (S.map bu)):=by
   rcases hs with rfl | rfl
   ·exact gF g4
   ·exact dr_lst g4
  refine .forI (l:=(S.drop (S.length - 3)).map bu) (s₁:=⟨ah 6 (.val (Tr.num (cl.length:Int)).enc) (bLo cl nm cs tw lv r),st⟩) (dB (oF (aY g4) rfl rfl e4 ?_)) e2 ?_
  ·rw [slc_m3,zAe,List.map_drop]
  have hr:fm .range [ae 3] ⟨L',st⟩=.ok (.lst ((List.range tw).map fun k:Nat=>.int (k:Int))) ⟨L',st⟩:=by
   show aH (br [ae 3]) _ _=_
   rw [au (ai (aZ h7) rfl)]
   show Mine.opt (fW 0 (tw:Int)) _=_
   unfold fW
   rw [show okR 0=true from rfl,show okR (tw:Int)=true from decide_eq_true (by lia)]
   show Out.ok (AV.lst (eu 0 (tw:Int))) _=_
   unfold eu
   rw [show ((tw:Int) - 0).toNat=tw by lia]
   congr 2
   exact List.map_congr_left fun k _=>by rw [Int.zero_add]
  exact .forI hr e3 (.ret (cq (vs:=[.str "let",.str "q",.tup [.str "num",.int 5],(towT B (List.range tw)).enc]) (s':=⟨L2,st⟩) (ai rfl (ai rfl (ai (v:=.tup [.str "num",.int 5]) (s₁:=⟨L2,st⟩) rfl (ai (aZ k6) rfl)))) rfl) rfl)
 ·show 1+len (towT B (List.range tw))+1<=_
  rw [hl2,hbl]
  have h2:wt S<=0+5 * cl.length:=h2
  show 1+(1+wt _+_+2 * tw)+1<=_
  lia
end
noncomputable abbrev Hd:=Str × List Str
noncomputable def cO (p:Hd):AV:=.tup [.str p.1,.lst (p.2.map .str)]
noncomputable def g0 (ns:List Int) (M:Nat) (lv:LV) (r:bF):bF:=(0,.val (.lst (ns.map .int)))::(1,.val (.int (M:Int)))::(2,lv)::r
noncomputable abbrev hdB (X:Ctx):D Fl:=ac (aL 4 (aU X "_law_cell_at" [ae 0,aj .Add (af (.int 4)) (aa 3)])) (ac (aL 5 (ae 3)) (ac (bn (am (aj .Mod (aa 4) (af (.int 30))) .Eq (af (.int 11))) (ac (aT 5 (aj .Mod (aj .FloorDiv (aa 4) (af (.int 30))) (aj .Add (aa 3) (af (.int 1))))) (af .next)) (af .next)) (ac (aT 6 (bP [(4,0)] 1 (aU X "_law_word" [aU X "_law_cell_at" [ae 4,af (.int 2)],ae 1]) (fm .range [aj .Mod (aj .FloorDiv (aa 4) (af (.int 30))) (af (.int 5))]))) (ac (bn (az .And [am (aj .Mod (aj .FloorDiv (aa 4) (af (.int 150))) (af (.int 30))) .Eq (af (.int 7)),am (aW aA false [aa 6]) .Gt (af (.int 1))]) (ac (aT 6 (aj .Add (aa 6) (bO [al (aa 6) (af (.int 0))]))) (af .next)) (af .next)) (ac (cX (dm (aa 2) (aJ [aU X "_law_word" [aU X "_law_cell_at" [ae 0,af (.int 1)],ae 5],ae 6]))) (af .next))))))
noncomputable def hS (ns:List Int) (M:Nat) (lv:LV) (i:Nat) (c:Int) (l:Nat) (r:bF):bF:=g0 ns M lv ((3,.val (.int (i:Int)))::(4,.val (.int c))::(5,.val (.int (l:Int)))::r)
section
variable {K n M i l:Nat} {st:St} {ns:List Int} {lv:LV} {c x:Int} {r:bF}
theorem modN {m:Nat} (h:1<=m) (h':m<=1000):binV .Mod (.int x) (.int (m:Int))=some (.int (zAq x m)):=by
 show (if cN (m:Int) then _ else _)=_
 rw [if_pos (gX h h')]
theorem dv4 {m:Nat} (hm:cN (m:Int)=true):aj .FloorDiv (aa 4) (af (.int (m:Int))) ⟨hS ns M lv i c l r,st⟩=.ok (.int (zAu c m)) ⟨hS ns M lv i c l r,st⟩ :=
 aB (a':=.int c) (b':=.int (m:Int)) rfl rfl rfl rfl (by show (if cN (m:Int) then _ else _)=_; rw [if_pos hm])
theorem mo4 {m:Nat} (hm:cN (m:Int)=true):aj .Mod (aa 4) (af (.int (m:Int))) ⟨hS ns M lv i c l r,st⟩=.ok (.int (zAq c m)) ⟨hS ns M lv i c l r,st⟩ :=
 aB (a':=.int c) (b':=.int (m:Int)) rfl rfl rfl rfl (by show (if cN (m:Int) then _ else _)=_; rw [if_pos hm])
theorem hd_end {ds:List AV} {nm:List Str} (hd:ds.length<=900):∃ p:Hd,p.2=nm/\ac (cX (dm (aa 2) (aJ [aU (wX K (n+1)) "_law_word" [aU (wX K (n+1)) "_law_cell_at" [ae 0,af (.int 1)],ae 5],ae 6]))) (af .next) ⟨hS ns M (.own (.lst ds)) i c l [(6,.own (.lst (nm.map .str)))],st⟩=.ok .next ⟨hS ns M (.own (.lst (ds++[cO p]))) i c l [(6,.val (.lst (nm.map .str)))],st⟩:=by
 refine ⟨(wrd (ns.getD 1 0) l,nm),rfl,?_⟩
 have c1:aU (wX K (n+1)) "_law_cell_at" [ae 0,af (.int 1)] ⟨hS ns M (.own (.lst ds)) i c l [(6,.own (.lst (nm.map .str)))],st⟩=.ok (.int (ns.getD 1 0)) ⟨hS ns M (.own (.lst ds)) i c l [(6,.own (.lst (nm.map .str)))],st⟩:=cellk (i:=1) (k:=0) rfl
 have w:aU (wX K (n+1)) "_law_word" [aU (wX K (n+1)) "_law_cell_at" [ae 0,af (.int 1)],ae 5] ⟨hS ns M (.own (.lst ds)) i c l [(6,.own (.lst (nm.map .str)))],st⟩=.ok (.str (wrd (ns.getD 1 0) l)) ⟨hS ns M (.own (.lst ds)) i c l [(6,.own (.lst (nm.map .str)))],st⟩ :=
  aN (vs:=[.int (ns.getD 1 0),.int (l:Int)]) (s₁:=⟨hS ns M (.own (.lst ds)) i c l [(6,.own (.lst (nm.map .str)))],st⟩) (ai c1 rfl) (word_ok _ l)
 have e:aJ [aU (wX K (n+1)) "_law_word" [aU (wX K (n+1)) "_law_cell_at" [ae 0,af (.int 1)],ae 5],ae 6] ⟨hS ns M (.own (.lst ds)) i c l [(6,.own (.lst (nm.map .str)))],st⟩=.ok (cO (wrd (ns.getD 1 0) l,nm)) ⟨hS ns M (.own (.lst ds)) i c l [(6,.val (.lst (nm.map .str)))],st⟩ :=
  cq (vs:=[.str (wrd (ns.getD 1 0) l),.lst (nm.map .str)]) (ai w (ai (v:=.lst (nm.map .str)) (s₁:=⟨hS ns M (.own (.lst ds)) i c l [(6,.val (.lst (nm.map .str)))],st⟩) rfl rfl)) rfl
 exact bQ (cF (kj (k:=2) rfl rfl e rfl (by lia) rfl)) trivial
theorem hd_names {k:Nat} (hk:zAq (zAu c 30) 5=(k:Int)) (h5:k < 5):bP [(4,0)] 1 (aU (wX K (n+1)) "_law_word" [aU (wX K (n+1)) "_law_cell_at" [ae 4,af (.int 2)],ae 1]) (fm .range [aj .Mod (aj .FloorDiv (aa 4) (af (.int 30))) (af (.int 5))]) ⟨hS ns M lv i c l r,st⟩=.ok (.lst (((List.range k).map (wrd (ns.getD 2 0))).map .str)) ⟨hS ns M lv i c l r,st⟩:=by
 rw [zCu]
 have m:aj .Mod (aj .FloorDiv (aa 4) (af (.int 30))) (af (.int 5)) ⟨hS ns M lv i c l r,st⟩=.ok (.int (k:Int)) ⟨hS ns M lv i c l r,st⟩:=by rw [← hk]; exact ir (m:=5) (dv4 (m:=30) rfl) rfl
 refine gu (caps:=[(4,0)]) (kk:=1) (n:=k) (g:=fun k=>.str (wrd (ns.getD 2 0) k)) (s:=⟨hS ns M lv i c l r,st⟩) (s₁:=⟨hS ns M lv i c l r,st⟩) ?_ (by lia) fun k hk=>⟨[(4,.val (.lst (ns.map .int))),(1,.val (.int (k:Int)))],?_⟩
 ·show aH (br _) _ _=_
  rw [au (ai m rfl)]; rfl
 have c1:aU (wX K (n+1)) "_law_cell_at" [ae 4,af (.int 2)] ⟨[(4,.val (.lst (ns.map .int))),(1,.val (.int (k:Int)))],st⟩=.ok (.int (ns.getD 2 0)) ⟨[(4,.val (.lst (ns.map .int))),(1,.val (.int (k:Int)))],st⟩:=cellk (i:=2) (k:=4) rfl
 exact aN (vs:=[.int (ns.getD 2 0),.int (k:Int)]) (s₁:=⟨[(4,.val (.lst (ns.map .int))),(1,.val (.int (k:Int)))],st⟩) (ai c1 rfl) (word_ok _ k)
theorem hd_mid {ds:List AV} {ct:D Fl} (hr:r=[] ∨ ∃ d,r=[(6,d)]):∃ nm:List Str,nm.length<=5/\ac (aT 6 (bP [(4,0)] 1 (aU (wX K (n+1)) "_law_word" [aU (wX K (n+1)) "_law_cell_at" [ae 4,af (.int 2)],ae 1]) (fm .range [aj .Mod (aj .FloorDiv (aa 4) (af (.int 30))) (af (.int 5))]))) (ac (bn (az .And [am (aj .Mod (aj .FloorDiv (aa 4) (af (.int 150))) (af (.int 30))) .Eq (af (.int 7)),am (aW aA false [aa 6]) .Gt (af (.int 1))]) (ac (aT 6 (aj .Add (aa 6) (bO [al (aa 6) (af (.int 0))]))) (af .next)) (af .next)) ct) ⟨hS ns M (.own (.lst ds)) i c l r,st⟩=ct ⟨hS ns M (.own (.lst ds)) i c l [(6,.own (.lst (nm.map .str)))],st⟩:=by
 obtain ⟨k,h5,hk⟩:=cj (zAu c 30) (m:=5) (by decide)
 have e6:=hd_names (K:=K) (n:=n) (M:=M) (i:=i) (l:=l) (st:=st) (ns:=ns) (lv:=.own (.lst ds)) (r:=r) hk h5
 generalize hnm:(List.range k).map (wrd (ns.getD 2 0))=nm at e6
 have hl:nm.length < 5:=by rw [← hnm,zAe,zBu]; exact h5
 have a6:aT 6 (bP [(4,0)] 1 (aU (wX K (n+1)) "_law_word" [aU (wX K (n+1)) "_law_cell_at" [ae 4,af (.int 2)],ae 1]) (fm .range [aj .Mod (aj .FloorDiv (aa 4) (af (.int 30))) (af (.int 5))])) ⟨hS ns M (.own (.lst ds)) i c l r,st⟩=.ok .next ⟨hS ns M (.own (.lst ds)) i c l [(6,.own (.lst (nm.map .str)))],st⟩:=by
  refine (bp e6).trans ?_
  rcases hr with rfl | ⟨d,rfl⟩ <;> rfl
 have l6:aW aA false [aa 6] ⟨hS ns M (.own (.lst ds)) i c l [(6,.own (.lst (nm.map .str)))],st⟩=.ok (.int (nm.length:Int)) ⟨hS ns M (.own (.lst ds)) i c l [(6,.own (.lst (nm.map .str)))],st⟩:=by rw [← zAe (f:=AV.str)]; rfl
 have a1:am (aj .Mod (aj .FloorDiv (aa 4) (af (.int 150))) (af (.int 30))) .Eq (af (.int 7)) ⟨hS ns M (.own (.lst ds)) i c l [(6,.own (.lst (nm.map .str)))],st⟩=.ok (.bool (decide (zAq (zAu c 150) 30=7))) ⟨hS ns M (.own (.lst ds)) i c l [(6,.own (.lst (nm.map .str)))],st⟩:=eJ (ir (m:=30) (dv4 (m:=150) rfl) rfl)
 have a2:am (aW aA false [aa 6]) .Gt (af (.int 1)) ⟨hS ns M (.own (.lst ds)) i c l [(6,.own (.lst (nm.map .str)))],st⟩=.ok (.bool (decide ((1:Int) < (nm.length:Int)))) ⟨hS ns M (.own (.lst ds)) i c l [(6,.own (.lst (nm.map .str)))],st⟩:=(bJ l6 rfl).trans rfl
 rw [hY a6]
 have no:az .And [am (aj .Mod (aj .FloorDiv (aa 4) (af (.int 150))) (af (.int 30))) .Eq (af (.int 7)),am (aW aA false [aa 6]) .Gt (af (.int 1))] ⟨hS ns M (.own (.lst ds)) i c l [(6,.own (.lst (nm.map .str)))],st⟩=.ok (.bool (decide (zAq (zAu c 150) 30=7) && decide ((1:Int) < (nm.length:Int)))) ⟨hS ns M (.own (.lst ds)) i c l [(6,.own (.lst (nm.map .str)))],st⟩:=by
  refine (ci a1).trans ?_
  cases decide (zAq (zAu c 150) 30=7) with
  | true=>exact a2
  | false=>rfl
 cases hb:(decide (zAq (zAu c 150) 30=7) && decide ((1:Int) < (nm.length:Int))) with
 | false=>rw [hb] at no; exact ⟨nm,zC3 hl,dS no⟩
 | true =>
  rw [hb] at no
  cases nm with
  | nil=>rw [zA0] at hb; exact absurd (of_decide_eq_true hb.2) (by decide)
  | cons y q =>
   refine ⟨(y::q)++[y],by rw [zAd]; exact hl,ifT0 no (bQ (o:=.ok .next ⟨hS ns M (.own (.lst ds)) i c l [(6,.own (.lst (((y::q)++[y]).map .str)))],st⟩) ?_ trivial)⟩
   have e:aj .Add (aa 6) (bO [al (aa 6) (af (.int 0))]) ⟨hS ns M (.own (.lst ds)) i c l [(6,.own (.lst ((y::q).map .str)))],st⟩=.ok (.lst ((y::q).map AV.str++[.str y])) ⟨hS ns M (.own (.lst ds)) i c l [(6,.own (.lst ((y::q).map .str)))],st⟩ :=
    aB (a:=.pl 6) (b:=.lst [.str y]) (a':=.lst ((y::q).map .str)) (b':=.lst [.str y]) rfl (kq (vs:=[.str y]) (s':=⟨hS ns M (.own (.lst ds)) i c l [(6,.own (.lst ((y::q).map .str)))],st⟩) (ai (v:=.str y) (s₁:=⟨hS ns M (.own (.lst ds)) i c l [(6,.own (.lst ((y::q).map .str)))],st⟩) rfl rfl) rfl) rfl rfl (bZ (by rw [zAd,zAe]; show (y::q).length+1<=_; lia))
   rw [zAw]
   exact bp e
theorem hd_turn {ds:List AV} {w:Int} (hr:r=[] ∨ ∃ a b d,r=[(4,a),(5,b),(6,d)]) (hd:ds.length<=900) (hi:i<=900):∃ (p:Hd) (a b d:LV),p.2.length<=5/\hdB (wX K (n+1)) ⟨g0 ns M (.own (.lst ds)) ((3,.val (.int (i:Int)))::r),st⟩=.ok .next ⟨g0 ns M (.own (.lst (ds++[cO p]))) [(3,.val (.int (i:Int))),(4,a),(5,b),(6,d)],st⟩:=by
 have c:aU (wX K (n+1)) "_law_cell_at" [ae 0,aj .Add (af (.int 4)) (aa 3)] ⟨g0 ns M (.own (.lst ds)) ((3,.val (.int (i:Int)))::r),st⟩=.ok (.int (ns.getD (4+i) 0)) ⟨g0 ns M (.own (.lst ds)) ((3,.val (.int (i:Int)))::r),st⟩ :=
  aN (vs:=[.lst (ns.map .int),.int ((4+i:Nat):Int)]) (s₁:=⟨g0 ns M (.own (.lst ds)) ((3,.val (.int (i:Int)))::r),st⟩) (ai rfl (ai (aB (a':=.int 4) (b':=.int (i:Int)) rfl rfl rfl rfl (by show some (AV.int (4+(i:Int)))=_; rw [zCb]; rfl)) rfl)) (kG ns (4+i))
 generalize ns.getD (4+i) 0=x at c
 obtain ⟨r5,hr5,e5⟩:∃ r5,(r5=[] ∨ ∃ d,r5=[(6,d)])/\∀ k:D Fl,ac (aL 4 (aU (wX K (n+1)) "_law_cell_at" [ae 0,aj .Add (af (.int 4)) (aa 3)])) (ac (aL 5 (ae 3)) k) ⟨g0 ns M (.own (.lst ds)) ((3,.val (.int (i:Int)))::r),st⟩=k ⟨hS ns M (.own (.lst ds)) i x i r5,st⟩:=by
  rcases hr with rfl | ⟨a,b,d,rfl⟩
  ·exact ⟨[],.inl rfl,fun k=>by rw [hY (bH c)]; exact hY rfl⟩
  ·exact ⟨[(6,d)],.inr ⟨d,rfl⟩,fun k=>by rw [hY (bH c)]; exact hY rfl⟩
 obtain ⟨l,el⟩:∃ l:Nat,∀ k:D Fl,ac (bn (am (aj .Mod (aa 4) (af (.int 30))) .Eq (af (.int 11))) (ac (aT 5 (aj .Mod (aj .FloorDiv (aa 4) (af (.int 30))) (aj .Add (aa 3) (af (.int 1))))) (af .next)) (af .next)) k ⟨hS ns M (.own (.lst ds)) i x i r5,st⟩=k ⟨hS ns M (.own (.lst ds)) i x l r5,st⟩:=by
  have a1:am (aj .Mod (aa 4) (af (.int 30))) .Eq (af (.int 11)) ⟨hS ns M (.own (.lst ds)) i x i r5,st⟩=.ok (.bool (decide (zAq x 30=11))) ⟨hS ns M (.own (.lst ds)) i x i r5,st⟩:=eJ (mo4 (m:=30) rfl)
  cases hb:decide (zAq x 30=11) with
  | false=>rw [hb] at a1; exact ⟨i,fun k=>dS a1⟩
  | true =>
   rw [hb] at a1
   obtain ⟨j,hj,ej⟩:=cj (zAu x 30) (m:=i+1) (zCc _)
   have ad:aj .Add (aa 3) (af (.int 1)) ⟨hS ns M (.own (.lst ds)) i x i r5,st⟩=.ok (.int ((i+1:Nat):Int)) ⟨hS ns M (.own (.lst ds)) i x i r5,st⟩:=aB (a':=.int (i:Int)) (b':=.int 1) rfl rfl rfl rfl (by show some (AV.int ((i:Int)+1))=_; rw [zCb]; rfl)
   have m:aj .Mod (aj .FloorDiv (aa 4) (af (.int 30))) (aj .Add (aa 3) (af (.int 1))) ⟨hS ns M (.own (.lst ds)) i x i r5,st⟩=.ok (.int (j:Int)) ⟨hS ns M (.own (.lst ds)) i x i r5,st⟩:=by
    rw [← ej]; exact aB (a':=.int (zAu x 30)) (b':=.int ((i+1:Nat):Int)) (dv4 (m:=30) rfl) ad rfl rfl (modN (zBc (zBa _)) (by lia))
   exact ⟨j,fun k=>ifT0 a1 (bQ (o:=.ok .next ⟨hS ns M (.own (.lst ds)) i x j r5,st⟩) (bp m) trivial)⟩
 obtain ⟨nm,hn,en⟩:=hd_mid (K:=K) (n:=n) (M:=M) (i:=i) (l:=l) (st:=st) (ns:=ns) (c:=x) (r:=r5) (ds:=ds) (ct:=ac (cX (dm (aa 2) (aJ [aU (wX K (n+1)) "_law_word" [aU (wX K (n+1)) "_law_cell_at" [ae 0,af (.int 1)],ae 5],ae 6]))) (af .next)) hr5
 obtain ⟨p,rfl,ep⟩:=hd_end (K:=K) (n:=n) (M:=M) (i:=i) (l:=l) (st:=st) (ns:=ns) (c:=x) (ds:=ds) (nm:=nm) hd
 exact ⟨p,_,_,_,hn,((e5 _).trans (el _)).trans (en.trans ep)⟩
theorem hd_loop {B:Nat} (hB:B<=800):∀ (l:List Nat) (hs:List Hd) (r:bF),(∀ i ∈ l,i<=900)->(r=[] ∨ ∃ z a b d,r=[(3,z),(4,a),(5,b),(6,d)])->(∀ p ∈ hs,p.2.length<=5)->hs.length+l.length<=B ->
  ∃ (hs':List Hd) (r':bF),((l=[]/\r'=r) ∨ ∃ z a b d,r'=[(3,z),(4,a),(5,b),(6,d)])/\(∀ p ∈ hs',p.2.length<=5)/\hs'.length=hs.length+l.length/\aX (some 3,[]) (hdB (wX K (n+1))) (l.map fun i:Nat=>.int (i:Int)) ⟨g0 ns M (.own (.lst (hs.map cO))) r,st⟩=.ok .next ⟨g0 ns M (.own (.lst (hs'.map cO))) r',st⟩
 | [],hs,r,_,hr,hp,_=>⟨hs,r,.inl ⟨rfl,rfl⟩,hp,rfl,rfl⟩
 | i::l,hs,r,hi,hr,hp,hl=>by
  have hl':hs.length+(l.length+1)<=B:=hl
  obtain ⟨r0,hr0,e0⟩:∃ r0,(r0=[] ∨ ∃ a b d,r0=[(4,a),(5,b),(6,d)])/\ah 3 (.val (.int (i:Int))) (g0 ns M (.own (.lst (hs.map cO))) r)=g0 ns M (.own (.lst (hs.map cO))) ((3,.val (.int (i:Int)))::r0):=by
   rcases hr with rfl | ⟨z,a,b,d,rfl⟩
   ·exact ⟨[],.inl rfl,rfl⟩
   ·exact ⟨_,.inr ⟨a,b,d,rfl⟩,rfl⟩
  obtain ⟨p,a,b,d,h1,e1⟩:=hd_turn (K:=K) (n:=n) (M:=M) (i:=i) (st:=st) (ns:=ns) (ds:=hs.map cO) (w:=0) hr0 (by rw [zAe]; lia) (hi i zAb)
  obtain ⟨hs',r',h2,h3,h4,e2⟩:=hd_loop hB l (hs++[p]) [(3,.val (.int (i:Int))),(4,a),(5,b),(6,d)] (fun j hj=>hi j (zAc _ hj)) (.inr ⟨_,_,_,_,rfl⟩) (fun q hq=>(zA8.mp hq).elim (hp q) fun z=>by rw [zAf.mp z]; exact h1) (by rw [zAd]; show hs.length+1+_<=_; lia)
  refine ⟨hs',r',.inr (h2.elim (fun z=>⟨_,_,_,_,z.2⟩) id),h3,by rw [h4,zAd]; show hs.length+1+l.length=hs.length+(l.length+1); lia,bG (s₂:=⟨g0 ns M (.own (.lst ((hs++[p]).map cO))) [(3,.val (.int (i:Int))),(4,a),(5,b),(6,d)],st⟩) ?_ e2⟩
  show hdB (wX K (n+1)) ⟨ah 3 (.val (.int (i:Int))) (g0 ns M (.own (.lst (hs.map cO))) r),st⟩=_
  rw [e0,zAw]
  exact e1
end
noncomputable def ixs (ns:List Int):List Nat:=List.range (min ns.length 204 - 4)
noncomputable def isC (M i k:Nat):Bool:=decide (zAq (4+(k:Int)) (M:Int)=(i:Int))
noncomputable def cls (ns:List Int) (M i:Nat):List Int:=((ixs ns).filter (isC M i)).map fun k=>ns.getD (4+k) 0
noncomputable def ctO (hs:List Hd):List (Str × Nat):=hs.map fun p=>(p.1,p.2.length)
noncomputable def g1 (ns:List Int) (M:Nat) (hs:List Hd) (i:Nat) (a b d:LV) (v8:LV) (lv:LV) (r:bF):bF:=g0 ns M (.val (.lst (hs.map cO))) ((3,.val (.int (i:Int)))::(4,a)::(5,b)::(6,d)::(8,v8)::(9,lv)::r)
section
variable {K n M i:Nat} {st:St} {ns:List Int} {hs:List Hd} {a b d v8 lv:LV} {r:bF}
theorem its7:fm .range [af (.int 4),aW iR false [aW aA false [aa 0],af (.int 204)]] ⟨g1 ns M hs i a b d v8 lv r,st⟩=.ok (.lst ((ixs ns).map fun k:Nat=>.int (4+(k:Int)))) ⟨g1 ns M hs i a b d v8 lv r,st⟩:=by
 have hm:aW iR false [aW aA false [aa 0],af (.int 204)] ⟨g1 ns M hs i a b d v8 lv r,st⟩=.ok (.int ((min ns.length 204:Nat):Int)) ⟨g1 ns M hs i a b d v8 lv r,st⟩:=by
  refine bi2_at (a:=.int (ns.length:Int)) (by rw [← zAe (f:=AV.int)]; rfl) rfl rfl rfl ?_
  show some (AV.int (min (ns.length:Int) 204))=_
  exact congrArg (fun z=>some (AV.int z)) (by lia)
 have e:br [af (.int 4),aW iR false [aW aA false [aa 0],af (.int 204)]] ⟨g1 ns M hs i a b d v8 lv r,st⟩=.ok [.int 4,.int ((min ns.length 204:Nat):Int)] ⟨g1 ns M hs i a b d v8 lv r,st⟩:=ai rfl (ai hm rfl)
 show aH (br _) _ _=_
 rw [au e]
 show Mine.opt (fW 4 ((min ns.length 204:Nat):Int)) _=_
 unfold fW eu ixs
 rw [okR_nat (zAj (zBz _ _) (by decide)),show (((min ns.length 204:Nat):Int) - 4).toNat=min ns.length 204 - 4 by lia]
 rfl
theorem cells7 (hM:1<=M) (hM':M<=1000):ll [(2,3),(3,1),(4,0)] 1 (some (am (aj .Mod (aa 1) (aa 3)) .Eq (aa 2))) (al (aa 4) (ae 1)) (fm .range [af (.int 4),aW iR false [aW aA false [aa 0],af (.int 204)]]) ⟨g1 ns M hs i a b d v8 lv r,st⟩=.ok (.lst ((cls ns M i).map .int)) ⟨g1 ns M hs i a b d v8 lv r,st⟩:=by
 unfold cls
 rw [zCu]
 refine compT_at (l:=ixs ns) (f:=fun k:Nat=>AV.int (4+(k:Int))) (g:=fun k=>.int (ns.getD (4+k) 0)) (p:=isC M i) its7 (by unfold ixs; rw [zBu]; lia) fun k hk=>?_
 have hk:k < min ns.length 204 - 4:=List.mem_range.mp hk
 refine ⟨[(2,.val (.int (i:Int))),(3,.val (.int (M:Int))),(4,.val (.lst (ns.map .int))),(1,.val (.int (4+(k:Int))))],?_,fun _=>⟨[(2,.val (.int (i:Int))),(3,.val (.int (M:Int))),(4,.val (.lst (ns.map .int))),(1,.val (.int (4+(k:Int))))],?_⟩⟩
 ·have e0:aj .Mod (aa 1) (aa 3) ⟨[(2,.val (.int (i:Int))),(3,.val (.int (M:Int))),(4,.val (.lst (ns.map .int))),(1,.val (.int (4+(k:Int))))],st⟩=.ok (.int (zAq (4+(k:Int)) (M:Int))) ⟨[(2,.val (.int (i:Int))),(3,.val (.int (M:Int))),(4,.val (.lst (ns.map .int))),(1,.val (.int (4+(k:Int))))],st⟩:=aB (a':=.int (4+(k:Int))) (b':=.int (M:Int)) rfl rfl rfl rfl (modN hM hM')
  have e:am (aj .Mod (aa 1) (aa 3)) .Eq (aa 2) ⟨[(2,.val (.int (i:Int))),(3,.val (.int (M:Int))),(4,.val (.lst (ns.map .int))),(1,.val (.int (4+(k:Int))))],st⟩=.ok (.bool (isC M i k)) ⟨[(2,.val (.int (i:Int))),(3,.val (.int (M:Int))),(4,.val (.lst (ns.map .int))),(1,.val (.int (4+(k:Int))))],st⟩ :=
   (bJ (r:=aa 2) (op:=.Eq) (b:=.pl 2) e0 rfl).trans rfl
  show aH (am (aj .Mod (aa 1) (aa 3)) .Eq (aa 2)) _ _=_
  rw [show ah 1 (LV.val (AV.int (4+(k:Int)))) (dY [(2,3),(3,1),(4,0)] (g1 ns M hs i a b d v8 lv r))=[(2,.val (.int (i:Int))),(3,.val (.int (M:Int))),(4,.val (.lst (ns.map .int))),(1,.val (.int (4+(k:Int))))] from rfl,au e]; rfl
 ·refine bx (c':=.lst (ns.map .int)) (i:=.int ((4+k:Nat):Int)) rfl (by rw [zCb]; rfl) rfl (lJ ?_)
  rw [zBv,zB4,zAv (show 4+k < ns.length by lia)]; rfl
end
theorem one_at (v:Int):∀ l:List Nat,l.Nodup->(l.map fun i:Nat=>(decide (v=(i:Int))).toNat).sum<=1
 | [],_=>zBa _
 | i::r,h=>by
  obtain ⟨h1,h2⟩:=zBp.mp h
  show (decide (v=(i:Int))).toNat+(r.map fun i:Nat=>(decide (v=(i:Int))).toNat).sum<=1
  by_cases hv:v=(i:Int)
  ·rw [decide_eq_true hv]
   have:∀ l:List Nat,i ∉ l->(l.map fun i:Nat=>(decide (v=(i:Int))).toNat).sum=0:=by
    intro l
    induction l with
    | nil=>exact fun _=>rfl
    | cons k s ih =>
     intro hk
     rw [zA6,zCd]
     rw [ih fun q=>hk (zAc _ q),decide_eq_false fun q=>hk (by rw [show k=i from Int.ofNat.inj (q.symm.trans hv)]; exact zAb)]; rfl
   rw [this r h1]; exact zAy _
  ·rw [decide_eq_false hv]
   show 0+_<=1
   rw [Nat.zero_add]; exact one_at v r h2
theorem part_le {M:Nat} {js:List Nat} (hj:js.Nodup):∀ l:List Nat,(js.map fun i=>(l.filter (isC M i)).length).sum<=l.length
 | []=>by
  show (js.map fun i=>0).sum<=0
  induction js with
  | nil=>exact zAy _
  | cons x r ih=>rw [zA6,zCd,Nat.zero_add]; exact ih (zBp.mp hj).2
 | k::r=>by
  have ih:=part_le (M:=M) hj r
  have h1:=one_at (zAq (4+(k:Int)) (M:Int)) js hj
  have e:∀ js:List Nat,(js.map fun i=>((k::r).filter (isC M i)).length).sum=(js.map fun i:Nat=>(decide (zAq (4+(k:Int)) (M:Int)=(i:Int))).toNat).sum+(js.map fun i=>(r.filter (isC M i)).length).sum:=by
   intro js
   induction js with
   | nil=>rfl
   | cons i s ih =>
    rw [zA6,zCd,zA6,zCd,zA6,zCd,ih]
    have:((k::r).filter (isC M i)).length=(decide (zAq (4+(k:Int)) (M:Int)=(i:Int))).toNat+(r.filter (isC M i)).length:=by
     show (match isC M i k with | true=>k::r.filter (isC M i) | false=>r.filter (isC M i)).length=(isC M i k).toNat+_
     cases isC M i k with
     | true=>exact Nat.add_comm _ 1
     | false=>exact (Nat.zero_add _).symm
    rw [this]; lia
  rw [e]
  show _<=r.length+1
  lia
theorem cls_len (ns:List Int) (M i:Nat):(cls ns M i).length<=200:=by
 unfold cls
 rw [zAe]
 refine zAj (List.length_filter_le ..) ?_
 unfold ixs; rw [zBu]; lia
theorem cls_sum (ns:List Int) (M:Nat) (h:ns.length<=63):((List.range M).map fun i=>(cls ns M i).length).sum<=59:=by
 have:=part_le (M:=M) (js:=List.range M) List.nodup_range (ixs ns)
 have h:(ixs ns).length<=59:=by unfold ixs; rw [zBu]; lia
 have e:((List.range M).map fun i=>(cls ns M i).length)=(List.range M).map fun i=>((ixs ns).filter (isC M i)).length:=List.map_congr_left fun i _=>by unfold cls; rw [zAe]
 rw [e]; exact zAj this h
noncomputable abbrev fnE (X:Ctx):D AV:=aJ [al (aa 7) (af (.int 0)),aW ft false [al (aa 7) (af (.int 1))],aU X "_law_body" [ae 10,al (aa 7) (af (.int 1)),ae 8,ae 11]]
noncomputable abbrev twF (X:Ctx):D Fl:=bn (az .And [am (aa 3) .Eq (af (.int 0)),am (aj .Mod (aU X "_law_cell_at" [ae 0,af (.int 3)]) (af (.int 3))) .Eq (af (.int 1))]) (ac (aT 11 (aj .Add (af (.int 1)) (aj .Mod (aj .FloorDiv (aU X "_law_cell_at" [ae 0,af (.int 3)]) (af (.int 3))) (af (.int 15))))) (af .next)) (af .next)
noncomputable abbrev prB (X:Ctx):D Fl:=ac (aT 10 (ll [(2,3),(3,1),(4,0)] 1 (some (am (aj .Mod (aa 1) (aa 3)) .Eq (aa 2))) (al (aa 4) (ae 1)) (fm .range [af (.int 4),aW iR false [aW aA false [aa 0],af (.int 204)]]))) (ac (aL 11 (af (.int 0))) (ac (twF X) (ac (cX (dm (aa 9) (fnE X))) (af .next))))
noncomputable abbrev ctV (hs:List Hd):AV:=.lst ((ctO hs).map d8)
noncomputable def is8 (v8:LV) (hs:List Hd):Prop:=v8=.own (ctV hs) ∨ v8=.val (ctV hs)
noncomputable abbrev tS (p:Hd) (c:LV) (t:Nat):bF:=[(7,.val (cO p)),(10,c),(11,.val (.int (t:Int)))]
noncomputable def tB (i:Nat):Nat:=if i=0 then 38 else 8
section
variable {K n M i tw:Nat} {st:St} {ns:List Int} {hs:List Hd} {a b d v8 lv:LV} {r:bF} {p:Hd}
theorem fn_at (h8:is8 v8 hs) (hp:p.2.length<=5) (hh:∀ q ∈ hs,q.2.length<=5) (h0:0 < hs.length) (hl:hs.length<=100) (ht:tw<=15) :
  ∃ t:Tr,fnE (wX K (n+3)) ⟨g1 ns M hs i a b d v8 lv (tS p (.own (.lst ((cls ns M i).map .int))) tw),st⟩=.ok (Fu.enc ⟨p.1,p.2,t⟩) ⟨g1 ns M hs i a b d (.val (ctV hs)) lv (tS p (.val (.lst ((cls ns M i).map .int))) tw),st⟩/\t.ok 30 none/\len t<=5 * (cls ns M i).length+2 * tw+8:=by
 obtain ⟨t,e,h1,h2⟩:=body_okO (K:=K) (n:=n) (st:=st) (cl:=cls ns M i) (nm:=p.2) (cs:=ctO hs) (tw:=tw) (zAj (cls_len ns M i) (by decide)) (zAj hp (by decide)) (by unfold ctO; rw [zAe]; exact h0) (by unfold ctO; rw [zAe]; exact hl) (fun q hq=>by
  unfold ctO at hq
  obtain ⟨z,hz,rfl⟩:=zBs.mp hq
  exact zAj (hh z hz) (by decide)) ht
 refine ⟨t,?_,h1,h2⟩
 have a1:aW ft false [al (aa 7) (af (.int 1))] ⟨g1 ns M hs i a b d v8 lv (tS p (.own (.lst ((cls ns M i).map .int))) tw),st⟩=.ok (.tup (p.2.map .str)) ⟨g1 ns M hs i a b d v8 lv (tS p (.own (.lst ((cls ns M i).map .int))) tw),st⟩ :=
  cn (a:=.lst (p.2.map .str)) (bx (c':=cO p) rfl rfl rfl rfl) rfl rfl
 have es:br [ae 10,al (aa 7) (af (.int 1)),ae 8,ae 11] ⟨g1 ns M hs i a b d v8 lv (tS p (.own (.lst ((cls ns M i).map .int))) tw),st⟩=.ok [.lst ((cls ns M i).map .int),.lst (p.2.map .str),ctV hs,.int (tw:Int)] ⟨g1 ns M hs i a b d (.val (ctV hs)) lv (tS p (.val (.lst ((cls ns M i).map .int))) tw),st⟩:=by
  rcases h8 with rfl | rfl <;> rfl
 exact cq (ai (v:=.str p.1) (s₁:=⟨g1 ns M hs i a b d v8 lv (tS p (.own (.lst ((cls ns M i).map .int))) tw),st⟩) rfl (ai a1 (ai (aN es e) rfl))) rfl
theorem tw_at {c:LV}:∃ tw:Nat,tw<=15/\2 * tw+8<=tB i/\∀ k:D Fl,ac (twF (wX K (n+1))) k ⟨g1 ns M hs i a b d v8 lv (tS p c 0),st⟩=k ⟨g1 ns M hs i a b d v8 lv (tS p c tw),st⟩:=by
 have c3:aU (wX K (n+1)) "_law_cell_at" [ae 0,af (.int 3)] ⟨g1 ns M hs i a b d v8 lv (tS p c 0),st⟩=.ok (.int (ns.getD 3 0)) ⟨g1 ns M hs i a b d v8 lv (tS p c 0),st⟩:=cellk (i:=3) (k:=0) rfl
 generalize ns.getD 3 0=x at c3
 have b1:am (aa 3) .Eq (af (.int 0)) ⟨g1 ns M hs i a b d v8 lv (tS p c 0),st⟩=.ok (.bool (decide ((i:Int)=0))) ⟨g1 ns M hs i a b d v8 lv (tS p c 0),st⟩:=rfl
 have b2:am (aj .Mod (aU (wX K (n+1)) "_law_cell_at" [ae 0,af (.int 3)]) (af (.int 3))) .Eq (af (.int 1)) ⟨g1 ns M hs i a b d v8 lv (tS p c 0),st⟩=.ok (.bool (decide (zAq x 3=1))) ⟨g1 ns M hs i a b d v8 lv (tS p c 0),st⟩:=eJ (ir (m:=3) c3 rfl)
 have no:az .And [am (aa 3) .Eq (af (.int 0)),am (aj .Mod (aU (wX K (n+1)) "_law_cell_at" [ae 0,af (.int 3)]) (af (.int 3))) .Eq (af (.int 1))] ⟨g1 ns M hs i a b d v8 lv (tS p c 0),st⟩=.ok (.bool (decide ((i:Int)=0) && decide (zAq x 3=1))) ⟨g1 ns M hs i a b d v8 lv (tS p c 0),st⟩:=by
  refine (ci b1).trans ?_
  cases decide ((i:Int)=0) with
  | true=>exact b2
  | false=>rfl
 cases hb:(decide ((i:Int)=0) && decide (zAq x 3=1)) with
 | false=>rw [hb] at no; exact ⟨0,by decide,by unfold tB; split <;> decide,fun k=>dS no⟩
 | true =>
  rw [hb] at no
  rw [zA0] at hb
  have hi:i=0:=Int.ofNat.inj (of_decide_eq_true hb.1)
  obtain ⟨j,hj,ej⟩:=cj (zAu x 3) (m:=15) (by decide)
  have m:aj .Add (af (.int 1)) (aj .Mod (aj .FloorDiv (aU (wX K (n+1)) "_law_cell_at" [ae 0,af (.int 3)]) (af (.int 3))) (af (.int 15))) ⟨g1 ns M hs i a b d v8 lv (tS p c 0),st⟩=.ok (.int ((1+j:Nat):Int)) ⟨g1 ns M hs i a b d v8 lv (tS p c 0),st⟩ :=
   aB (b:=.int (j:Int)) (a':=.int 1) (b':=.int (j:Int)) rfl (by rw [← ej]; exact ir (m:=15) (div_at (m:=3) c3 rfl) rfl) rfl rfl (by show some (AV.int (1+(j:Int)))=_; rw [zCb]; rfl)
  exact ⟨1+j,by lia,by unfold tB; rw [if_pos hi]; lia,fun k=>ifT0 no (bQ (o:=.ok .next ⟨g1 ns M hs i a b d v8 lv (tS p c (1+j)),st⟩) (bp m) trivial)⟩
theorem pr_turn {ds:List AV} (hr:r=[] ∨ ∃ x y,r=[(10,x),(11,y)]) (h8:is8 v8 hs) (hp:p.2.length<=5) (hh:∀ q ∈ hs,q.2.length<=5) (h0:0 < hs.length) (hl:hs.length<=100) (hM:1<=M) (hM':M<=100) (hd:ds.length<=900) :
  ∃ (t:Tr) (x y:LV),prB (wX K (n+3)) ⟨g1 ns M hs i a b d v8 (.own (.lst ds)) ((7,.val (cO p))::r),st⟩=.ok .next ⟨g1 ns M hs i a b d (.val (ctV hs)) (.own (.lst (ds++[Fu.enc ⟨p.1,p.2,t⟩]))) [(7,.val (cO p)),(10,x),(11,y)],st⟩/\t.ok 30 none/\len t<=5 * (cls ns M i).length+tB i:=by
 obtain ⟨tw,ht,hb,et⟩:=tw_at (K:=K) (n:=n+2) (st:=st) (ns:=ns) (M:=M) (i:=i) (hs:=hs) (a:=a) (b:=b) (d:=d) (v8:=v8) (p:=p) (lv:=.own (.lst ds)) (c:=.own (.lst ((cls ns M i).map .int)))
 obtain ⟨t,e,h1,h2⟩:=fn_at (K:=K) (n:=n) (st:=st) (ns:=ns) (M:=M) (i:=i) (a:=a) (b:=b) (d:=d) (p:=p) (lv:=.own (.lst ds)) h8 hp hh h0 hl ht
 refine ⟨t,.val (.lst ((cls ns M i).map .int)),.val (.int (tw:Int)),?_,h1,zAj h2 (by lia)⟩
 have s7:∀ k:D Fl,ac (aT 10 (ll [(2,3),(3,1),(4,0)] 1 (some (am (aj .Mod (aa 1) (aa 3)) .Eq (aa 2))) (al (aa 4) (ae 1)) (fm .range [af (.int 4),aW iR false [aW aA false [aa 0],af (.int 204)]]))) (ac (aL 11 (af (.int 0))) k) ⟨g1 ns M hs i a b d v8 (.own (.lst ds)) ((7,.val (cO p))::r),st⟩=k ⟨g1 ns M hs i a b d v8 (.own (.lst ds)) (tS p (.own (.lst ((cls ns M i).map .int))) 0),st⟩:=by
  intro k
  rw [hY (bp (cells7 hM (zAj hM' (by decide))))]
  rcases hr with rfl | ⟨x,y,rfl⟩ <;> exact hY rfl
 exact ((s7 _).trans (et _)).trans (bQ (cF (kj (k:=9) rfl rfl e rfl (by lia) rfl)) trivial)
noncomputable def PR (ns:List Int) (M:Nat):Nat->List Fu->Prop
 | _,[]=>True
 | i,u::fs=>(u.ps.length<=5/\u.bd.ok 30 none/\len u.bd<=5 * (cls ns M i).length+tB i)/\PR ns M (i+1) fs
noncomputable def g2 (ns:List Int) (M:Nat) (hs:List Hd) (z a b d v8 lv:LV) (r:bF):bF:=g0 ns M (.val (.lst (hs.map cO))) ((3,z)::(4,a)::(5,b)::(6,d)::(8,v8)::(9,lv)::r)
theorem pr_loop (hh:∀ q ∈ hs,q.2.length<=5) (h0:0 < hs.length) (hl:hs.length<=100) (hM:1<=M) (hM':M<=100):∀ (l:List Hd) (i:Nat) (gs:List Fu) (z v8:LV) (r:bF),(r=[] ∨ ∃ w x y,r=[(7,w),(10,x),(11,y)])->is8 v8 hs->(∀ q ∈ l,q ∈ hs)->gs.length+l.length<=900 ->
  ∃ (fs:List Fu) (z' v8':LV) (r':bF),aX (none,[3,7]) (prB (wX K (n+3))) (dW (i:Int) (l.map cO)) ⟨g2 ns M hs z a b d v8 (.own (.lst (gs.map Fu.enc))) r,st⟩=.ok .next ⟨g2 ns M hs z' a b d v8' (.own (.lst ((gs++fs).map Fu.enc))) r',st⟩/\PR ns M i fs/\fs.length=l.length
 | [],i,gs,z,v8,r,_,_,_,_=>⟨[],z,v8,r,by rw [zAt]; rfl,trivial,rfl⟩
 | p::l,i,gs,z,v8,r,hr,h8,hq,hg=>by
  have hg:gs.length+(l.length+1)<=900:=hg
  obtain ⟨r0,hr0,e0⟩:∃ r0,(r0=[] ∨ ∃ x y,r0=[(10,x),(11,y)])/\fT [3,7] [.int (i:Int),cO p] (g2 ns M hs z a b d v8 (.own (.lst (gs.map Fu.enc))) r)=g1 ns M hs i a b d v8 (.own (.lst (gs.map Fu.enc))) ((7,.val (cO p))::r0):=by
   rcases hr with rfl | ⟨w,x,y,rfl⟩
   ·exact ⟨[],.inl rfl,rfl⟩
   ·exact ⟨[(10,x),(11,y)],.inr ⟨x,y,rfl⟩,rfl⟩
  obtain ⟨t,x,y,e1,h1,h2⟩:=pr_turn (K:=K) (n:=n) (st:=st) (ns:=ns) (M:=M) (i:=i) (a:=a) (b:=b) (d:=d) (ds:=gs.map Fu.enc) hr0 h8 (hh p (hq p zAb)) hh h0 hl hM hM' (by rw [zAe]; lia)
  obtain ⟨fs,z',v',r',e2,P,hf⟩:=pr_loop hh h0 hl hM hM' l (i+1) (gs++[⟨p.1,p.2,t⟩]) (.val (.int (i:Int))) (.val (ctV hs)) [(7,.val (cO p)),(10,x),(11,y)] (.inr ⟨_,_,_,rfl⟩) (.inr rfl) (fun q h=>hq q (zAc _ h)) (by rw [zAd]; show gs.length+1+_<=_; lia)
  refine ⟨⟨p.1,p.2,t⟩::fs,z',v',r',?_,⟨⟨hh p (hq p zAb),h1,h2⟩,P⟩,congrArg (·+1) hf⟩
  refine bC (vs:=[.int (i:Int),cO p]) rfl (by rw [e0]; exact e1) ?_
  have e3:gs++[⟨p.1,p.2,t⟩]++fs=gs++⟨p.1,p.2,t⟩::fs:=by rw [zAm]; rfl
  rw [e3,zAw (l₁:=gs) (l₂:=[⟨p.1,p.2,t⟩])] at e2
  exact e2
end
noncomputable def mny (ns:List Int):Nat:=if zAq (zAu (ns.getD 0 0) 5) 8=1 then 20 else 1+(zAq (ns.getD 0 0) 5).toNat
theorem mny_le (ns:List Int):1<=mny ns/\mny ns<=20:=by
 unfold mny
 obtain ⟨j,hj,e⟩:=cj (ns.getD 0 0) (m:=5) (by decide)
 rw [show zAq (ns.getD 0 0) 5=j from e]
 split <;> exact ⟨by lia,by lia⟩
noncomputable abbrev cpE:D AV:=bP [] 1 (aJ [al (aa 1) (af (.int 0)),aW aA false [al (aa 1) (af (.int 1))]]) (ba (ae 2))
noncomputable abbrev pgR (X:Ctx):D Fl:=ac (aT 2 (bO [])) (ac (cB (some 3,[]) (fm .range [ae 1]) (hdB X)) (ac (aT 8 cpE) (ac (aT 9 (bO [])) (ac (cB (none,[3,7]) (fm .enum [ae 2]) (prB X)) (ac (aI (ae 9)) (af .next))))))
section
variable {K n:Nat} {st:St} {ns:List Int}
theorem cp_at {M:Nat} {hs:List Hd} {r:bF} (hl:hs.length<=1000):cpE ⟨g0 ns M (.own (.lst (hs.map cO))) r,st⟩=.ok (ctV hs) ⟨g0 ns M (.val (.lst (hs.map cO))) r,st⟩:=by
 unfold ctV ctO
 rw [zCu]
 refine iV (l:=hs) (f:=cO) (g:=d8 ∘ fun p:Hd=>(p.1,p.2.length)) (s₁:=⟨g0 ns M (.val (.lst (hs.map cO))) r,st⟩) rfl hl fun p hp=>⟨[(1,.val (cO p))],?_⟩
 have e:aW aA false [al (aa 1) (af (.int 1))] ⟨[(1,.val (cO p))],st⟩=.ok (.int (p.2.length:Int)) ⟨[(1,.val (cO p))],st⟩:=by rw [← zAe (f:=AV.str)]; rfl
 exact cq (vs:=[.str p.1,.int (p.2.length:Int)]) (s':=⟨[(1,.val (cO p))],st⟩) (ai (v:=.str p.1) (s₁:=⟨[(1,.val (cO p))],st⟩) rfl (ai e rfl)) rfl
theorem pr_rest:∃ fs,PR ns (mny ns) 0 fs/\fs.length=mny ns/\RT (pgR (wX K (n+3))) ⟨[(0,.val (.lst (ns.map .int))),(1,.val (.int (mny ns:Int)))],st⟩ (.ok (bB fs) st):=by
 have hm:=mny_le ns
 obtain ⟨hs,r',hr,hh,hn,e1⟩:=hd_loop (K:=K) (n:=n+2) (M:=mny ns) (st:=st) (ns:=ns) (B:=100) (by decide) (List.range (mny ns)) [] [] (fun i hi=>by have:=List.mem_range.mp hi; lia) (.inl rfl) (fun p hp=>nomatch hp) (by rw [zBu]; show 0+_<=_; lia)
 rw [zBu] at hn
 have hn:hs.length=mny ns:=hn.trans (Nat.zero_add _)
 obtain ⟨z,a,b,d,rfl⟩:∃ z a b d,r'=[(3,z),(4,a),(5,b),(6,d)]:=hr.elim (fun z=>by have:=congrArg List.length z.1; rw [zBu] at this; exact absurd this (by show ¬ mny ns=0; lia)) id
 obtain ⟨fs,z',v',r'',e2,P,hf⟩:=pr_loop (K:=K) (n:=n) (M:=mny ns) (st:=st) (ns:=ns) (hs:=hs) (a:=a) (b:=b) (d:=d) hh (by lia) (by lia) hm.1 (by lia) hs 0 [] z (.own (ctV hs)) [] (.inl rfl) (.inl rfl) (fun _ h=>h) (by show 0+_<=_; lia)
 refine ⟨fs,P,hf.trans hn,?_⟩
 refine .go (s':=⟨g0 ns (mny ns) (.own (.lst [])) [],st⟩) rfl (.forI (l:=(List.range (mny ns)).map fun i:Nat=>.int (i:Int)) (s₁:=⟨g0 ns (mny ns) (.own (.lst [])) [],st⟩) (cP rfl (mn (by lia))) e1 ?_)
 refine .go (s':=⟨g0 ns (mny ns) (.val (.lst (hs.map cO))) [(3,z),(4,a),(5,b),(6,d),(8,.own (ctV hs))],st⟩) (bp (cp_at (by lia))) ?_
 refine .go (s':=⟨g2 ns (mny ns) hs z a b d (.own (ctV hs)) (.own (.lst [])) [],st⟩) rfl ?_
 refine .forT (l:=dW 0 (hs.map cO)) (s₁:=⟨g2 ns (mny ns) hs z a b d (.own (ctV hs)) (.own (.lst [])) [],st⟩) rfl e2 ?_
 exact .ret (s':=⟨g2 ns (mny ns) hs z' a b d v' (.val (.lst (fs.map Fu.enc))) r'',st⟩) rfl rfl
theorem program_ok':∃ fs,PR ns (mny ns) 0 fs/\fs.length=mny ns/\aw PP K (n+4) ⟨#[]⟩ "_law_program" [.lst (ns.map .int)] st=.ok (bB fs) st:=by
 obtain ⟨fs,P,hf,h⟩:=pr_rest (K:=K) (n:=n) (st:=st) (ns:=ns)
 refine ⟨fs,P,hf,?_⟩
 rw [j8]
 show RT (f7 (wX K (n+3))) ⟨[(0,.val (.lst (ns.map .int)))],st⟩ _
 obtain ⟨j,hj,e⟩:=cj (ns.getD 0 0) (m:=5) (by decide)
 have c0:∀ L:bF,aq 0 L=some (.val (.lst (ns.map .int)))->aU (wX K (n+3)) "_law_cell_at" [ae 0,af (.int 0)] ⟨L,st⟩=.ok (.int (ns.getD 0 0)) ⟨L,st⟩:=fun L h=>cellk (n:=n+2) (i:=0) (k:=0) h
 have e1:aj .Add (af (.int 1)) (aj .Mod (aU (wX K (n+3)) "_law_cell_at" [ae 0,af (.int 0)]) (af (.int 5))) ⟨[(0,.val (.lst (ns.map .int)))],st⟩=.ok (.int ((1+j:Nat):Int)) ⟨[(0,.val (.lst (ns.map .int)))],st⟩ :=
  aB (b:=.int (j:Int)) (a':=.int 1) (b':=.int (j:Int)) rfl (by rw [← e]; exact ir (m:=5) (c0 _ rfl) rfl) rfl rfl (by show some (AV.int (1+(j:Int)))=_; rw [zCb]; rfl)
 refine .go (s':=⟨[(0,.val (.lst (ns.map .int))),(1,.val (.int ((1+j:Nat):Int)))],st⟩) (bp e1) ?_
 have e2:am (aj .Mod (aj .FloorDiv (aU (wX K (n+3)) "_law_cell_at" [ae 0,af (.int 0)]) (af (.int 5))) (af (.int 8))) .Eq (af (.int 1)) ⟨[(0,.val (.lst (ns.map .int))),(1,.val (.int ((1+j:Nat):Int)))],st⟩=.ok (.bool (decide (zAq (zAu (ns.getD 0 0) 5) 8=1))) ⟨[(0,.val (.lst (ns.map .int))),(1,.val (.int ((1+j:Nat):Int)))],st⟩:=eJ (ir (m:=8) (div_at (m:=5) (c0 _ rfl) rfl) rfl)
 unfold mny at h
 rw [show zAq (ns.getD 0 0) 5=j from e] at h
 by_cases h8:zAq (zAu (ns.getD 0 0) 5) 8=1
 ·rw [if_pos h8] at h
  exact .ifT h8 e2 (.assoc (.go (s':=⟨[(0,.val (.lst (ns.map .int))),(1,.val (.int ((20:Nat):Int)))],st⟩) rfl (.next h)))
 ·rw [if_neg h8] at h
  exact .ifN h8 e2 (.next h)
theorem PR.all {M:Nat}:∀ {fs:List Fu} {i:Nat},PR ns M i fs->∀ u ∈ fs,u.ps.length<=5/\u.bd.ok 30 none
 | u::fs,i,h,x,hx=>by
  rcases zAl.mp hx with rfl | hx
  ·exact ⟨h.1.1,h.1.2.1⟩
  ·exact PR.all h.2 x hx
 | [],_,_,_,hx=>nomatch hx
theorem PR.tot {M:Nat}:∀ {fs:List Fu} {i:Nat},PR ns M i fs->Mine.tot fs<=5 * ((List.range' i fs.length).map fun j=>(cls ns M j).length).sum+9 * fs.length+(if i=0 then 30 else 0)
 | [],_,_=>zBa _
 | u::fs,i,h=>by
  have ih:=PR.tot h.2
  have h1:=h.1.2.2
  rw [if_neg (Nat.succ_ne_zero i)] at ih
  show len u.bd+1+Mine.tot fs<=5 * ((cls ns M i).length+((List.range' (i+1) fs.length).map fun j=>(cls ns M j).length).sum)+9 * (fs.length+1)+_
  unfold tB at h1
  split at h1
  ·rw [if_pos (by assumption)]; lia
  ·rw [if_neg (by assumption)]; lia
theorem program_ok (h:ns.length<=63):∃ fs,PS fs/\fs ≠ []/\fs.length<=20/\Mine.tot fs<=900/\aw PP K (n+4) ⟨#[]⟩ "_law_program" [.lst (ns.map .int)] st=.ok (bB fs) st:=by
 obtain ⟨fs,P,hf,e⟩:=program_ok' (K:=K) (n:=n) (st:=st) (ns:=ns)
 have hm:=mny_le ns
 have ht:=P.tot
 rw [hf,show List.range' 0 (mny ns)=List.range (mny ns) from List.range_eq_range'.symm] at ht
 have hs:=cls_sum ns (mny ns) h
 exact ⟨fs,⟨fun u hu=>zAj (P.all u hu).1 (by decide),fun u hu=>⟨30,zAy _,(P.all u hu).2⟩⟩,fun z=>by rw [z] at hf; have:0=mny ns:=hf; lia,by lia,zAj ht (by rw [if_pos rfl]; lia),e⟩
end
noncomputable def Dat (k:Nat) (a:AV):Prop:=(gb a=true/\PyData.eqv (kA a) (kA a)=true)/\dG a<=k
section
variable {k:Nat} {l:List AV}
theorem Dat.int {i:Int}:Dat k (.int i):=⟨⟨rfl,beq_self_eq_true i⟩,zBa _⟩
theorem Dat.str {s:Str}:Dat k (.str s):=⟨⟨rfl,beq_self_eq_true s⟩,zBa _⟩
theorem dats:∀ {l:List AV},(∀ x ∈ l,Dat k x)->(dataVs l=true/\PyData.eqvAll (toDs l) (toDs l)=true)/\depthVs l<=k
 | [],_=>⟨⟨rfl,rfl⟩,zBa _⟩
 | x::r,h=>by
  have h1:=h x zAb
  have h2:=dats fun y hy=>h y (zAc _ hy)
  exact ⟨⟨zAk.mpr ⟨h1.1.1,h2.1.1⟩,zAk.mpr ⟨h1.1.2,h2.1.2⟩⟩,Nat.max_le.mpr ⟨h1.2,h2.2⟩⟩
theorem Dat.tup (h:∀ x ∈ l,Dat k x):Dat (k+1) (.tup l):=⟨(dats h).1,zBc (dats h).2⟩
theorem Dat.lst (h:∀ x ∈ l,Dat k x):Dat (k+1) (.lst l):=⟨(dats h).1,zBc (dats h).2⟩
theorem Dat.mono {a:AV} {j:Nat} (h:Dat k a) (q:k<=j):Dat j a:=⟨h.1,zAj h.2 q⟩
theorem Dat.eqL (h:∀ x ∈ l,Dat 63 x):eqV (.lst l) (.lst l)=some true:=by
 have d:=Dat.lst h
 show (if gb (.lst l) && gb (.lst l) && (decide (dG (.lst l)<=64) || decide (dG (.lst l)<=64)) then some (PyData.eqv (kA (.lst l)) (kA (.lst l))) else none)=_
 rw [d.1.1,decide_eq_true d.2,d.1.2]; rfl
theorem all2 {P:AV->Prop} {a b:AV} (ha:P a) (hb:P b):∀ x ∈ [a,b],P x:=fun x hx=>(zAl.mp hx).elim (fun e=>e ▸ ha) fun hx=>(zAf.mp hx) ▸ hb
theorem allc {P:AV->Prop} {a:AV} {l:List AV} (ha:P a) (hl:∀ x ∈ l,P x):∀ x ∈ a::l,P x:=fun x hx=>(zAl.mp hx).elim (fun e=>e ▸ ha) (hl x)
theorem alln {P:AV->Prop}:∀ x ∈ ([]:List AV),P x:=fun x hx=>nomatch hx
theorem allm {α:Type} {P:AV->Prop} {f:α->AV} {l:List α} (h:∀ a ∈ l,P (f a)):∀ x ∈ l.map f,P x:=fun x hx=>by obtain ⟨a,ha,rfl⟩:=zBs.mp hx; exact h a ha
end
theorem tr_dat:∀ (t:Tr) {h:Nat} {k:Option Nat},t.ok h k->(k=none->Dat (2 * h) t.enc)/\((∃ c,k=some c)->∀ x ∈ bl t.enc,Dat (2 * h) x):=by
 intro t
 have no:∀ {P:Prop},(∃ c,(none:Option Nat)=some c)->P:=fun q=>nomatch q
 induction t with
 | num i =>
  intro h k q
  obtain ⟨rfl,hp,_⟩:=q
  exact ⟨fun _=>(Dat.tup (k:=1) (all2 .str .int)).mono (by lia),no⟩
 | name x =>
  intro h k q
  obtain ⟨rfl,hp⟩:=q
  exact ⟨fun _=>(Dat.tup (k:=1) (all2 .str .str)).mono (by lia),no⟩
 | deed w a b iha ihb =>
  intro h k q
  obtain ⟨rfl,h',rfl,h1,h2⟩:=q
  exact ⟨fun _=>(Dat.tup (k:=2 * h') (allc .str (all2 ((iha h1).1 rfl) ((ihb h2).1 rfl)))).mono (by lia),no⟩
 | choose a b c iha ihb ihc =>
  intro h k q
  obtain ⟨rfl,h',rfl,h1,h2,h3⟩:=q
  exact ⟨fun _=>(Dat.tup (k:=2 * h') (allc .str (allc ((iha h1).1 rfl) (all2 ((ihb h2).1 rfl) ((ihc h3).1 rfl))))).mono (by lia),no⟩
 | lt x a b iha ihb =>
  intro h k q
  obtain ⟨rfl,h',rfl,h1,h2⟩:=q
  exact ⟨fun _=>(Dat.tup (k:=2 * h') (allc .str (allc .str (all2 ((iha h1).1 rfl) ((ihb h2).1 rfl))))).mono (by lia),no⟩
 | call f l ih =>
  intro h k q
  obtain ⟨rfl,h',rfl,c,_,h2⟩:=q
  refine ⟨fun _=>(Dat.tup (k:=2 * h'+1) (allc .str (all2 .str ?_))).mono (by lia),no⟩
  rw [(jb h2).1]
  exact Dat.tup ((ih h2).2 ⟨c,rfl⟩)
 | nil=>intro h k q; cases q; exact ⟨(fun q=>nomatch q),fun _=>alln⟩
 | cons t r iht ihr =>
  intro h k q
  obtain ⟨c,rfl,h1,h2⟩:=q
  exact ⟨(fun q=>nomatch q),fun _=>allc ((iht h1).1 rfl) ((ihr h2).2 ⟨c,rfl⟩)⟩
theorem pg_eq {fs:List Fu} (P:PS fs):eqV (bB fs) (bB fs)=some true :=
 Dat.eqL (allm fun u hu=>(Dat.tup (k:=60) (allc .str (all2 ((Dat.tup (k:=0) (allm fun x _=>.str)).mono (by decide)) (by obtain ⟨j,hj,h⟩:=P.bd u hu; exact ((tr_dat u.bd h).1 rfl).mono (by lia))))).mono (by decide))
theorem zip_cs:∀ fs:List Fu,fQ (fs.map fun u=>AV.str u.nm) (fs.map cnV)=fs.map fun u=>.tup [.str u.nm,cnV u]
 | []=>rfl
 | u::r=>congrArg (AV.tup [.str u.nm,cnV u]::·) (zip_cs r)
theorem itm_cs {fs:List Fu} (hl:fs.length<=900):itmV (b6 fs)=some (.lst (fs.map fun u=>.tup [.str u.nm,cnV u])):=by
 show bD (fQ (fs.map fun u=>AV.str u.nm) (fs.map cnV))=_
 rw [zip_cs]
 exact bZ (by rw [zAe]; exact zAj hl (by decide))
theorem itm_eq {fs:List Fu}:eqV (.lst (fs.map fun u=>.tup [.str u.nm,cnV u])) (.lst (fs.map fun u=>.tup [.str u.nm,cnV u]))=some true :=
 Dat.eqL (allm fun u _=>(Dat.tup (k:=0) (all2 .str .int)).mono (by decide))
theorem uq_nd:∀ (r ds:List Fu),((ds++r).map (·.nm)).Nodup->uq ds r=ds++r
 | [],ds,_=>(zAt ds).symm
 | u::r,ds,h=>by
  have hn:u.nm ∉ ds.map (·.nm):=fun q=>by
   rw [zAw] at h
   exact (zCl.mp h).2.2 u.nm q u.nm zAb rfl
  show (if (a9 u.nm ds).isSome then uq ds r else uq (ds++[u]) r)=_
  rw [mO,decide_eq_false hn,if_neg zAn,uq_nd r (ds++[u]) (by rw [zAm]; exact h),zAm]; rfl
theorem cmpE {l r:D AV} {a b a' b':AV} {t:Bool} {s s₁ s₂:S} (h1:l s=.ok a s₁) (h2:r s₁=.ok b s₂) (ha:aS a s₂=some a') (hb:aS b s₂=some b') (h:eqV a' b'=some t):am l .Eq r s=.ok (.bool t) s₂:=by
 rw [bJ h1 h2,au (cA ha),au (cA hb)]
 show Mine.opt ((eqV a' b').map AV.bool) _=_
 rw [h]; rfl
theorem cmpN {l r:D AV} {a b a' b':AV} {t:Bool} {s s₁ s₂:S} (h1:l s=.ok a s₁) (h2:r s₁=.ok b s₂) (ha:aS a s₂=some a') (hb:aS b s₂=some b') (h:eqV a' b'=some t):am l .NotEq r s=.ok (.bool (!t)) s₂:=by
 rw [bJ h1 h2,au (cA ha),au (cA hb)]
 show Mine.opt (((eqV a' b').map (!·)).map AV.bool) _=_
 rw [h]; rfl
theorem nO {a b:D AV} {s s₁ s₂:S} {t:Bool} (h1:a s=.ok (.bool false) s₁) (h2:b s₁=.ok (.bool t) s₂):az .Or [a,b] s=.ok (.bool t) s₂:=by
 rw [eP h1]; exact h2
noncomputable abbrev dueV (fs:List Fu):AV:=.tup [.str (ki (iC (bk fs) [] fs)),b6 (uq [] fs)]
noncomputable def lS (ns:List Int) (fs:List Fu) (v3:LV) (r:bF):bF:=(0,.val (.lst (ns.map .int)))::(1,.val (bB fs))::(2,.val (dueV fs))::(3,v3)::r
noncomputable abbrev vP (fs:List Fu):LV:=.val (bB fs)
noncomputable def is3 (v3:LV) (fs:List Fu):Prop:=v3=.own (bB fs) ∨ v3=vP fs
noncomputable abbrev wdE:D AV:=al (aa 2) (af (.int 0))
noncomputable abbrev wyB (X:Ctx):D Fl:=ac (bn (az .Or [am (aU X "_law_refused" [ae 4,ae 3]) .NotEq wdE,am (aa 3) .NotEq (aa 1)]) (ac (aI (af (.bool false))) (af .next)) (af .next)) (af .next)
section
variable {K n:Nat} {st:St} {ns:List Int} {fs:List Fu} {v3:LV} {r:bF}
theorem str_eq {x:Str}:eqV (.str x) (.str x)=some true:=by show some (seq x x)=_; rw [aP]
theorem lF {w:Nat} {z:Option LV} (P:PS fs) (h3:is3 v3 fs) (hr:r=[] ∨ ∃ z,r=[(4,z)]) {st':St} (h:aw PP K n ⟨#[]⟩ "_law_refused" [.int (w:Int),bB fs] st=.ok (.str (ki (iC (bk fs) [] fs))) st') :
  wyB (wX K n) ⟨ah 4 (.val (.int (w:Int))) (lS ns fs v3 r),st⟩=.ok .next ⟨lS ns fs (vP fs) [(4,.val (.int (w:Int)))],st'⟩:=by
 have e0:ah 4 (.val (.int (w:Int))) (lS ns fs v3 r)=lS ns fs v3 [(4,.val (.int (w:Int)))]:=by rcases hr with rfl | ⟨z,rfl⟩ <;> rfl
 rw [e0]
 have es:br [ae 4,ae 3] ⟨lS ns fs v3 [(4,.val (.int (w:Int)))],st⟩=.ok [.int (w:Int),bB fs] ⟨lS ns fs (vP fs) [(4,.val (.int (w:Int)))],st⟩:=by rcases h3 with rfl | rfl <;> rfl
 have c1:am (aU (wX K n) "_law_refused" [ae 4,ae 3]) .NotEq wdE ⟨lS ns fs v3 [(4,.val (.int (w:Int)))],st⟩=.ok (.bool false) ⟨lS ns fs (vP fs) [(4,.val (.int (w:Int)))],st'⟩ :=
  cmpN (r:=wdE) (aN es h) (b:=.str (ki (iC (bk fs) [] fs))) (s₂:=⟨lS ns fs (vP fs) [(4,.val (.int (w:Int)))],st'⟩) rfl rfl rfl str_eq
 have c2:am (aa 3) .NotEq (aa 1) ⟨lS ns fs (vP fs) [(4,.val (.int (w:Int)))],st'⟩=.ok (.bool false) ⟨lS ns fs (vP fs) [(4,.val (.int (w:Int)))],st'⟩ :=
  cmpN (a:=.pl 3) (b:=.pl 1) (a':=bB fs) (b':=bB fs) rfl rfl rfl rfl (pg_eq P)
 exact (ifO (nO c1 c2)).trans rfl
theorem ways (P:PS fs) (href:∀ (w:Nat) (st:St),w < 3->∃ st',aw PP K n ⟨#[]⟩ "_law_refused" [.int (w:Int),bB fs] st=.ok (.str (ki (iC (bk fs) [] fs))) st') :
  ∃ st',aX (some 4,[]) (wyB (wX K n)) [.int ((0:Nat):Int),.int ((1:Nat):Int),.int ((2:Nat):Int)] ⟨lS ns fs (.own (bB fs)) [],st⟩=.ok .next ⟨lS ns fs (vP fs) [(4,.val (.int ((2:Nat):Int)))],st'⟩:=by
 obtain ⟨st1,h1⟩:=href 0 st (by decide)
 obtain ⟨st2,h2⟩:=href 1 st1 (by decide)
 obtain ⟨st3,h3⟩:=href 2 st2 (by decide)
 exact ⟨st3,bG (lF (z:=none) P (.inl rfl) (.inl rfl) h1) (bG (lF (z:=none) P (.inr rfl) (.inr ⟨_,rfl⟩) h2) (bG (lF (z:=none) P (.inr rfl) (.inr ⟨_,rfl⟩) h3) rfl))⟩
end
noncomputable abbrev lwF (X:Ctx):D Fl:=ac (bn (az .Or [am (aU X "_law_refused" [af (.int 3),ae 3]) .NotEq wdE,am (aU X "_law_refused" [af (.int 4),ae 3]) .NotEq wdE]) (ac (aI (af (.bool false))) (af .next)) (af .next)) (ac (aI (aU X "_law_base" [ae 3])) (af .next))
noncomputable abbrev kyB:D Fl:=ac (bn (az .Or [kh (fE (al (aa 5) (ae 6)) (jq .int)),fE (al (aa 5) (ae 6)) (jq .bool)]) (ac (aI (af (.bool false))) (af .next)) (af .next)) (af .next)
noncomputable abbrev lwG (X:Ctx):D Fl:=ac (aL 5 (aU X "checked" [ae 3])) (ac (bn (az .Or [kh (fE (aa 5) (jq .dict)),am (fY (ae 5)) .NotEq (fY (al (aa 2) (af (.int 1))))]) (ac (aI (af (.bool false))) (af .next)) (af .next)) (ac (cB (some 6,[]) (ba (ae 5)) kyB) (ac (aI (am (aa 3) .Eq (aa 1))) (af .next))))
noncomputable abbrev z4:Nat × LV:=(4,.val (.int ((2:Nat):Int)))
section
variable {K n:Nat} {st:St} {ns:List Int} {fs:List Fu}
theorem law_bad {k:D Fl} (P:PS fs) (hl:fs.length<=20) (h0:fs ≠ []) {f:Ft} (hf:iC (bk fs) [] fs=some f):RT (ac (bn (am wdE .NotEq (af (.str ""))) (lwF (wX K (n+16))) (af .next)) k) ⟨lS ns fs (vP fs) [z4],st⟩ (.ok (.bool true) st):=by
 have e1:am wdE .NotEq (af (.str "")) ⟨lS ns fs (vP fs) [z4],st⟩=.ok (.bool true) ⟨lS ns fs (vP fs) [z4],st⟩ :=
  cmpN (a:=.str (ki (iC (bk fs) [] fs))) (b:=.str "") (t:=false) rfl rfl rfl rfl (by rw [hf]; cases f <;> kernel_rfl)
 have rf:∀ w:Nat,w < 5->am (aU (wX K (n+16)) "_law_refused" [af (.int (w:Int)),ae 3]) .NotEq wdE ⟨lS ns fs (vP fs) [z4],st⟩=.ok (.bool false) ⟨lS ns fs (vP fs) [z4],st⟩:=fun w hw =>
  cmpN (r:=wdE) (aN (vs:=[.int (w:Int),bB fs]) (s₁:=⟨lS ns fs (vP fs) [z4],st⟩) rfl (ref_bad P (zAj hl (by decide)) h0 hf w hw)) (b:=.str (ki (iC (bk fs) [] fs))) (s₂:=⟨lS ns fs (vP fs) [z4],st⟩) rfl rfl rfl (by rw [hf]; exact str_eq)
 refine .ifB (c:=true) e1 (.assoc (.ifB (c:=false) (nO (rf 3 (by decide)) (rf 4 (by decide))) (.next ?_)))
 have e2:aU (wX K (n+16)) "_law_base" [ae 3] ⟨lS ns fs (vP fs) [z4],st⟩=.ok (.bool true) ⟨lS ns fs (vP fs) [z4],st⟩:=aN (vs:=[bB fs]) (s₁:=⟨lS ns fs (vP fs) [z4],st⟩) rfl (base_ok' (n:=n+1) P (zAj hl (by decide)) hf)
 exact .assoc (.ret e2 rfl)
noncomputable def l5 (ns:List Int) (fs:List Fu) (r:bF):bF:=lS ns fs (vP fs) (z4::(5,.val (b6 fs))::r)
theorem key_turn {r:bF} {u:Fu} (hu:u ∈ fs) (hr:r=[] ∨ ∃ z,r=[(6,z)]):kyB ⟨ah 6 (.val (.str u.nm)) (l5 ns fs r),st⟩=.ok .next ⟨l5 ns fs [(6,.val (.str u.nm))],st⟩:=by
 have e0:ah 6 (.val (.str u.nm)) (l5 ns fs r)=l5 ns fs [(6,.val (.str u.nm))]:=by rcases hr with rfl | ⟨z,rfl⟩ <;> rfl
 rw [e0]
 obtain ⟨v,hv⟩:=zAx.mp (fF (f:=u.nm) (fs:=fs) (zBs.mpr ⟨u,hu,rfl⟩))
 have ix:al (aa 5) (ae 6) ⟨l5 ns fs [(6,.val (.str u.nm))],st⟩=.ok (cnV v) ⟨l5 ns fs [(6,.val (.str u.nm))],st⟩:=by
  refine bx (c':=b6 fs) (i:=.str u.nm) rfl rfl rfl ?_
  show cW (.str u.nm) _ _=_
  rw [g9,hv]; rfl
 have c1:kh (fE (al (aa 5) (ae 6)) (jq .int)) ⟨l5 ns fs [(6,.val (.str u.nm))],st⟩=.ok (.bool false) ⟨l5 ns fs [(6,.val (.str u.nm))],st⟩:=by
  unfold kh fE
  have:aH (al (aa 5) (ae 6)) (fun v=>aH (deref v) fun c=>Mine.opt ((jq .int c).map AV.bool)) ⟨l5 ns fs [(6,.val (.str u.nm))],st⟩=.ok (AV.bool true) ⟨l5 ns fs [(6,.val (.str u.nm))],st⟩:=by rw [au ix]; rfl
  rw [au this]; rfl
 have c2:fE (al (aa 5) (ae 6)) (jq .bool) ⟨l5 ns fs [(6,.val (.str u.nm))],st⟩=.ok (.bool false) ⟨l5 ns fs [(6,.val (.str u.nm))],st⟩:=by
  unfold fE
  rw [au ix]; rfl
 exact (ifO (nO c1 c2)).trans rfl
theorem key_loop:∀ (l:List Fu) (r:bF),(∀ u ∈ l,u ∈ fs)->(r=[] ∨ ∃ z,r=[(6,z)])->∃ r',aX (some 6,[]) kyB (l.map fun u=>.str u.nm) ⟨l5 ns fs r,st⟩=.ok .next ⟨l5 ns fs r',st⟩
 | [],r,_,_=>⟨r,rfl⟩
 | u::l,r,h,hr=>by
  obtain ⟨r',e⟩:=key_loop l [(6,.val (.str u.nm))] (fun v hv=>h v (zAc _ hv)) (.inr ⟨_,rfl⟩)
  exact ⟨r',bG (key_turn (h u zAb) hr) e⟩
theorem law_good (P:PS fs) (hl:fs.length<=20) (hf:iC (bk fs) [] fs=none):RT (ac (bn (am wdE .NotEq (af (.str ""))) (lwF (wX K (n+14))) (af .next)) (lwG (wX K (n+14)))) ⟨lS ns fs (vP fs) [z4],st⟩ (.ok (.bool true) st):=by
 have e1:am wdE .NotEq (af (.str "")) ⟨lS ns fs (vP fs) [z4],st⟩=.ok (.bool false) ⟨lS ns fs (vP fs) [z4],st⟩ :=
  cmpN (a:=.str (ki (iC (bk fs) [] fs))) (b:=.str "") (t:=true) rfl rfl rfl rfl (by rw [hf]; exact str_eq)
 have hu:uq [] fs=fs:=uq_nd fs [] (pw_of fs [] zC2 hf).1
 have ck:=dL (K:=K) (n:=n) (st:=st) P (zAj hl (by decide))
 rw [hf] at ck
 refine .ifB (c:=false) e1 (.next (.go (s':=⟨l5 ns fs [],st⟩) (bH (aN (vs:=[bB fs]) (s₁:=⟨lS ns fs (vP fs) [z4],st⟩) rfl ck)) ?_))
 have c1:kh (fE (aa 5) (jq .dict)) ⟨l5 ns fs [],st⟩=.ok (.bool false) ⟨l5 ns fs [],st⟩:=rfl
 have i1:fY (ae 5) ⟨l5 ns fs [],st⟩=.ok (.lst (fs.map fun u=>.tup [.str u.nm,cnV u])) ⟨l5 ns fs [],st⟩:=by
  have h:dDctV (ae 5) ⟨l5 ns fs [],st⟩=.ok (b6 fs) ⟨l5 ns fs [],st⟩:=rfl
  unfold fY
  rw [au h,itm_cs (zAj hl (by decide))]; rfl
 have i2:fY (al (aa 2) (af (.int 1))) ⟨l5 ns fs [],st⟩=.ok (.lst (fs.map fun u=>.tup [.str u.nm,cnV u])) ⟨l5 ns fs [],st⟩:=by
  have h:dDctV (al (aa 2) (af (.int 1))) ⟨l5 ns fs [],st⟩=.ok (b6 (uq [] fs)) ⟨l5 ns fs [],st⟩:=rfl
  rw [hu] at h
  unfold fY
  rw [au h,itm_cs (zAj hl (by decide))]; rfl
 refine .ifB (c:=false) (nO c1 (cmpN (t:=true) i1 i2 rfl rfl itm_eq)) (.next ?_)
 obtain ⟨r',e2⟩:=key_loop (st:=st) (ns:=ns) (fs:=fs) fs [] (fun _ h=>h) (.inl rfl)
 refine .forI (l:=fs.map fun u=>.str u.nm) (s₁:=⟨l5 ns fs [],st⟩) rfl e2 (.ret (v:=.bool true) (s':=⟨l5 ns fs r',st⟩) ?_ rfl)
 exact cmpE (a:=.pl 3) (b:=.pl 1) (a':=bB fs) (b':=bB fs) rfl rfl rfl rfl (pg_eq P)
theorem law_ok (ns:List Int) (h:ns.length<=63):∃ st,aw PP K (n+308) ⟨#[]⟩ "law" [.lst (ns.map .int)] []=.ok (.bool true) st:=by
 rw [rn_law]
 suffices h:∃ st,RT (sh_law (wX K (n+307))) ⟨[(0,.val (.lst (ns.map .int)))],[]⟩ (.ok (.bool true) st) from h
 obtain ⟨fs,P,h0,hl,ht,e1⟩:=program_ok (K:=K) (n:=n+303) (st:=[]) h
 have e2:=due_ok (K:=K) (n:=n+293) (st:=[]) P (zAj hl (by decide))
 have e3:aW b4 false [aa 1] ⟨[(0,.val (.lst (ns.map .int))),(1,.val (bB fs)),(2,.val (dueV fs))],[]⟩=.ok (bB fs) ⟨[(0,.val (.lst (ns.map .int))),(1,.val (bB fs)),(2,.val (dueV fs))],[]⟩:=cn (a:=.pl 1) rfl rfl (bZ (by rw [zAe]; lia))
 have T:∀ {st st':St},aX (some 4,[]) (wyB (wX K (n+307))) [.int ((0:Nat):Int),.int ((1:Nat):Int),.int ((2:Nat):Int)] ⟨lS ns fs (.own (bB fs)) [],[]⟩=.ok .next ⟨lS ns fs (vP fs) [z4],st⟩->RT (ac (bn (am wdE .NotEq (af (.str ""))) (lwF (wX K (n+307))) (af .next)) (lwG (wX K (n+307)))) ⟨lS ns fs (vP fs) [z4],st⟩ (.ok (.bool true) st')->RT (sh_law (wX K (n+307))) ⟨[(0,.val (.lst (ns.map .int)))],[]⟩ (.ok (.bool true) st'):=fun h1 h2 =>
  .go (s':=⟨[(0,.val (.lst (ns.map .int))),(1,.val (bB fs))],[]⟩) (bH (aN (vs:=[.lst (ns.map .int)]) (s₁:=⟨[(0,.val (.lst (ns.map .int)))],[]⟩) rfl e1)) (.go (s':=⟨[(0,.val (.lst (ns.map .int))),(1,.val (bB fs)),(2,.val (dueV fs))],[]⟩) (bH (aN (vs:=[bB fs]) (s₁:=⟨[(0,.val (.lst (ns.map .int))),(1,.val (bB fs))],[]⟩) rfl e2)) (.go (s':=⟨lS ns fs (.own (bB fs)) [],[]⟩) (bp e3) (.forI (s₁:=⟨lS ns fs (.own (bB fs)) [],[]⟩) rfl h1 h2)))
 cases hf:iC (bk fs) [] fs with
 | some f =>
  obtain ⟨st,h1⟩:=ways (K:=K) (n:=n+307) (st:=[]) (ns:=ns) P fun w st hw=>⟨st,by rw [hf]; exact ref_bad (n:=n+291) P (zAj hl (by decide)) h0 hf w (by lia)⟩
  exact ⟨st,T h1 (law_bad (n:=n+291) P hl h0 hf)⟩
 | none =>
  obtain ⟨st,h1⟩:=ways (K:=K) (n:=n+307) (st:=[]) (ns:=ns) P fun w st hw=>by
   rw [hf]; exact ref_good (n:=n) (P.pw hf) (zAj hl (by decide)) ht h0 w hw
  exact ⟨st,T h1 (law_good (n:=n+293) P hl hf)⟩
end
end Mine
end
open PySem PySem.W PyProof.Rows
namespace Mine
noncomputable abbrev p03:Program:=PySem.Challenge.pw_uf030011_03
theorem pure03 (ns:List Int) (h:ns.length<=63):∃ st,aw (pgP base p03) 10 550 ⟨#[]⟩ "law" [.lst (ns.map .int)] []=.ok (.bool true) st:=law_ok (K:=10) (n:=242) ns h
end Mine
set_option tactic.hygienic true
set_option maxRecDepth 100000 in
set_option maxHeartbeats 0 in
theorem PySem.Challenge.cw_uf030011_03_holds : PySem.Challenge.rw_uf030011_03.Holds := by
 w_on
 refine PySem.W.holds_law (by kernel_rfl) fun said=>?_
 refine PySem.W.holds_open (q:=Mine.qq) (loose:=[]) (Xt:=Mine.xt) (XP:=PySem.W.XL Mine.qq []) (Yf:=PySem.W.Hook.obs Mine.hk) (Ya:=PySem.W.Hook.val Mine.hk) (YP:=PySem.W.Hook.says Mine.hk) (N:=6000) Mine.left (PySem.W.Hook.of Mine.hk) (PySem.W.Hook.keeps Mine.hk) (fun s e=>PySem.W.xl_of s (Bool.and_eq_true_iff.mp e).1) PySem.W.XL.keeps (by rfl) (by rfl) (by rfl) (fun s e=>PySem.W.recFacts_of (Bool.and_eq_true_iff.mp e).2) (by rfl) (by first | assumption | decide +kernel) (by decide +kernel) ⟨rfl,rfl,rfl,rfl,rfl,by decide +kernel⟩ ?hw ?hc
 (case hw=>w_witness2)
 w_strict (
  intro w s₀ s₁ mg mb G Y fa o pm cd doc dV kV ho hd hcd hD hmg hg args vals as hpre hlay hrd hwl hlo
  clear hd hcd hD
  have hmg':mg "law"=some (.ref fa):=hmg
  clear hmg
  have T:=G.T
  have KI:Mine.SaysX (Mine.pgP Mine.base Mine.p03) s₁.heap/\Mine.SaysC Mine.base.flds Mine.p03 s₁.heap:=Y
  clear G Y
  wrow_args hpre hlay hrd hwl hlo
  rename_i ns hs hlay0 hL1 hr1 hl2 as1 as2 sa its as3 hL ra w1 r0 hI hr hcond hcond2
  have hso:s₁.heap.get? sa=some { cls:=.type "list",data:=.seq its.toArray }:=by
   cases w1 with
   | list h1 h2 =>
    obtain ⟨o',e1,_,m,e2⟩:=hL
    rw [h1] at e1; cases e1
    simp only [Data.seq.injEq] at e2
    rw [h1,e2.1]
  have hlen:ns.length<=63:=by omega
  obtain ⟨st,hrun⟩:=Mine.pure03 ns hlen
  refine Mine.run_view (B:=Mine.base) (p':=Mine.p03) (k:=10) (n:=550) Mine.base_ok T KI ?_ ?_ ?_ ?_ ?_ ?_ ?_ hmg' hso hI hlen (by omega) hrun fun s' hk hos hgens=>?_
  ·kernel_rfl
  ·kernel_rfl
  ·decide +kernel
  ·decide +kernel
  ·decide +kernel
  ·decide +kernel
  ·decide +kernel
  ·refine GoodW.toG ⟨.inl ⟨_,.bool true,[],rfl,?_,?_,?_,?_⟩,hk,hos,hgens.trans hg⟩
   ·intro cls; rfl
   ·exact .bool true
   ·wrow_post
   ·exact fun _=>⟨.nil,fun _ h=>nomatch h⟩)
