import PyProof.Rows.All
import PyProof.CollectIter
import PyProof.Draws
import PyProof.EnumMake
import PyProof.EqAt
import PyProof.P3Statements
import PyProof.InstLoad
import PyProof.ListRange
import PyProof.WalkInts
import PyProof.MaxThree
import PyProof.ObjNew
import PyProof.ZipIter
import PyProof.SeqI3
import PyProof.SliceMore
import PyProof.Rows.SumAny
import PyProof.Rows.CallKwBuiltin
import PyProof.Rows.TopObj
import PyProof.Rows.SetFrom
import Open.Row
import Open.Line
import OpenK.KMore
import Open.Boot
import KE.KDictOf
import KE.KRevIter
import Wide.All
import Wide.FinOn
import PySem.Challenge.RW_uf030011_12
set_option Elab.async false
set_option linter.unusedVariables false
set_option linter.unusedSimpArgs false
set_option tactic.hygienic false
set_option backward.match.sparseCases false
set_option bootstrap.genMatcherCode false
open PySem renaming wpAny_bind → zAa, wpAny_pure → zAk, wpAny_mono → zAv, wpAny_holding → zA0, wpAny_field → zBq, wpAny_seqItems → zBw, wpAny_newObj_type → zCc, wpAny_standAt → zCl, wpAny_setField_rec → zCx, wpAny_pyIter_tuple → zCy, codeAny_builtin → zDc, wpAny_letGo → zDg, wpAny_call_entry → zDn
open List renaming mem_cons_self → zAb, length_append → zAc, length_map → zAd, mem_cons_of_mem → zAe, getElem?_set_ne → zAf, mem_singleton → zAi, mem_cons → zAl, append_assoc → zAm, map_append → zAr, getElem?_append_left → zAt, getElem?_eq_getElem → zAw, append_nil → zAx, getElem?_eq_some_iff → zAz, mem_append → zA2, length_range → zA3, map_cons → zA4, getElem?_set_self → zA8, getElem?_append_right → zBa, all_eq_true → zBb, mem_map → zBe, mem_append_right → zBg, lookup_cons → zBh, mem_append_left → zBj, length_drop → zBm, nodup_cons → zBp, not_mem_nil → zBr, replicate → zBu, zip_cons_cons → zBv, getD_eq_getElem?_getD → zBy, getElem?_map → zB0, length_set → zB5, mem_reverse → zB6, isEmpty_iff → zB7, length_reverse → zCb, sum_cons → zCf, map_map → zCg, drop_eq_getElem_cons → zCk, length_take → zCp, length_cons → zCq, mem_range → zCr, take_append_drop → zCt, getElem?_concat_length → zCu, reverse_cons → zCz, of_mem_zip → zC6, map_take → zC7, take_of_length_le → zC9, map_inj_left → zDa, length_singleton → zDe, map_reverse → zDf, mem_of_getElem? → zDh, map_drop → zDj, nil_append → zDl, length_zip → zDm
open Option renaming bind_eq_some_iff → zAg, map_eq_some_iff → zAo, isSome_iff_exists → zA1, ctorIdx → zBt, isNone_iff_eq_none → zC1
open PySem.Heap renaming get?_push_of_some → zAh, get?_push_size → zAu, lt_size → zA5, get?_update_other → zBf, size_push → zB3, dictOf_iff → zCm, get?_update_self → zCv, get?_none_of_le → zDi
open Nat renaming le_trans → zAj, le_refl → zAy, zero_le → zA7, beq → zA9, le_add_right → zBc, le_of_ble_eq_true → zBd, lt_succ_of_lt → zBi, ne_of_lt → zBk, lt_of_lt_of_le → zBl, add_le_add_right → zBo, eq_of_beq_eq_true → zBs, succ_le_succ → zBx, add_le_add_left → zB2, min_le_right → zB8, add_sub_cancel_left → zB9, ble → zCd, lt_succ_self → zCe, ne_of_gt → zCh, le_of_eq → zCo, lt_of_le_of_lt → zCs, add_mul → zCw, add_le_add → zC3, succ_pos → zC4, le_of_lt → zC5, le_succ → zDd, mod_lt → zDk, le_antisymm → zDo
open Bool renaming and_eq_true_iff → zAn, false_ne_true → zAq, and_eq_true → zA6, or_eq_true_iff → zB1, not_eq_true' → zC0, eq_false_iff → zDb
open Int renaming fdiv → zAp, fmod → zAs, eq_ofNat_of_zero_le → zCa, natCast_nonneg → zCi, toNat_natCast → zCn, fmod_eq_emod_of_nonneg → zC2, natCast_add → zC8
open Array renaming getElem?_eq_some_iff → zBn, length_toList → zBz, getElem?_toList → zB4, getElem?_eq_getElem → zCj
section
set_option autoImplicit false
set_option genSizeOf false
set_option genSizeOfSpec false
set_option genInjectivity false
namespace Mine
open PySem
theorem aD {α:Type} {x:α} {P:Prop} (h:none=some x):P:=nomatch h
theorem ff {P:Prop} (h:false=true):P:=nomatch h
theorem eN {α:Type} (f:α->Nat) {a b:α} {P:Prop} (h:a=b) (q:zA9 (f a) (f b)=false):P:=by
 subst h; rw [Nat.beq_refl] at q; exact nomatch q
inductive AV where
 | none
 | bool (b:Bool)
 | int (i:Int)
 | str (s:Str)
 | tup (l:List AV)
 | lst (l:List AV)
 | dct (ks vs:List AV)
 | sett (n:Nat)
 | exc (c:Str)
 | obj (c:Str) (n:Nat)
 | cel (n:Nat)
 | pl (k:Nat)
 deriving Inhabited
inductive LV where
 | val (v:AV)
 | own (v:AV)
 deriving Inhabited
inductive AO where
 | flds (l:List (Str × AV))
 | cont (c:AV)
 deriving Inhabited
noncomputable abbrev St:=List AO
noncomputable abbrev bp:=List (Nat × LV)
structure S where
 loc:bp
 st:St
inductive Out (α:Type) where
 | ok (a:α) (s:S)
 | exc (c:Str) (s:S)
 | stuck
inductive Ret where
 | ok (v:AV) (st:St)
 | exc (c:Str) (st:St)
 | stuck
noncomputable abbrev D (α:Type):=S->Out α
inductive Fl where
 | next
 | ret (v:AV)
noncomputable def af {α:Type} (a:α):D α:=fun s=>.ok a s
noncomputable def stk {α:Type}:D α:=fun _=>.stuck
noncomputable def rais {α:Type} (c:Str):D α:=fun s=>.exc c s
noncomputable def ax {α β:Type} (o:Out α) (f:α->D β):Out β :=
 match o with
 | .ok a s'=>f a s'
 | .exc c s'=>.exc c s'
 | .stuck=>.stuck
noncomputable def aE {α β:Type} (m:D α) (f:α->D β):D β:=fun s=>ax (m s) f
noncomputable def opt {α:Type} (o:Option α):D α:=fun s=>match o with | some a=>.ok a s | none=>.stuck
noncomputable def bC {α:Type} (b:Bool) (d:D α):D α:=if b then d else stk
noncomputable def beqL:List Nat->List Nat->Bool
 | [],[]=>true
 | a::r,b::q=>zA9 a b && beqL r q
 | _,_=>false
noncomputable def seq (a b:Str):Bool:=beqL a.cps.toList b.cps.toList
noncomputable def aK {α:Type} (x:Str):List (Str × α)->Option α
 | []=>none
 | (y,w)::r=>if seq x y then some w else aK x r
noncomputable def dy (x:Str):List Str->Bool
 | []=>false
 | y::r=>seq x y || dy x r
noncomputable def aJ (x:Str):List (Str × NameKind)->Nat
 | []=>0
 | (y,_)::r=>if seq x y then 0 else aJ x r+1
noncomputable def ai {α:Type} (x:Nat) (v:α):List (Nat × α)->List (Nat × α)
 | []=>[(x,v)]
 | (y,w)::r=>if zA9 y x then (x,v)::r else (y,w)::ai x v r
noncomputable def al {α:Type} (x:Nat):List (Nat × α)->Option α
 | []=>none
 | (y,w)::r=>if zA9 y x then some w else al x r
noncomputable def kK (x:Str) (v:AV):List (Str × AV)->List (Str × AV)
 | []=>[(x,v)]
 | (y,w)::r=>if seq y x then (y,v)::r else (y,w)::kK x v r
noncomputable def fV (x:Str):List (Str × AV)->Option AV
 | []=>none
 | (y,w)::r=>if seq y x then some w else fV x r
theorem lookS_c {α:Type} {x y:Str} {w:α} {r:List (Str × α)}:aK x ((y,w)::r)=if seq x y then some w else aK x r:=rfl
theorem memS_c {x y:Str} {r:List Str}:dy x (y::r)=(seq x y || dy x r):=rfl
theorem setA_c {α:Type} {x y:Nat} {v w:α} {r:List (Nat × α)}:ai x v ((y,w)::r)=if zA9 y x then (x,v)::r else (y,w)::ai x v r:=rfl
theorem iy {α:Type} {x y:Nat} {w:α} {r:List (Nat × α)}:al x ((y,w)::r)=if zA9 y x then some w else al x r:=rfl
theorem setF_c {x y:Str} {v w:AV} {r:List (Str × AV)}:kK x v ((y,w)::r)=if seq y x then (y,v)::r else (y,w)::kK x v r:=rfl
theorem jM {x y:Str} {w:AV} {r:List (Str × AV)}:fV x ((y,w)::r)=if seq y x then some w else fV x r:=rfl
set_option tactic.hygienic true
mutual
noncomputable def eT:AV->Nat
 | .tup l | .lst l=>depthVs l+1
 | _=>0
noncomputable def depthVs:List AV->Nat
 | []=>0
 | x::r=>max (eT x) (depthVs r)
end
set_option tactic.hygienic false
set_option tactic.hygienic true
mutual
noncomputable def jg:AV->Bool
 | .none | .bool _ | .int _ | .str _=>true
 | .tup l | .lst l=>dataVs l
 | _=>false
noncomputable def dataVs:List AV->Bool
 | []=>true
 | x::r=>jg x && dataVs r
end
set_option tactic.hygienic false
set_option tactic.hygienic true
mutual
noncomputable def toD:AV->PyData
 | .none=>.none
 | .bool b=>.bool b
 | .int i=>.int i
 | .str s=>.str s
 | .tup l=>.tuple (toDs l)
 | .lst l=>.list (toDs l)
 | _=>.none
noncomputable def toDs:List AV->List PyData
 | []=>[]
 | x::r=>toD x::toDs r
end
set_option tactic.hygienic false
noncomputable def isNone:AV->Bool
 | .none=>true
 | _=>false
noncomputable def fe:AV->AV->Bool
 | .str a,.str b=>seq a b
 | _,_=>false
noncomputable def nM:AV->Bool
 | .str _=>true
 | _=>false
noncomputable def dI (k:AV):List AV->List AV->Option AV
 | x::xs,v::vs=>if fe k x then some v else dI k xs vs
 | _,_=>none
noncomputable def kH (k:AV):List AV->Bool
 | []=>false
 | x::xs=>fe k x || kH k xs
noncomputable def cG (k v:AV):List AV->List AV->List AV
 | x::xs,w::ws=>if fe k x then v::ws else w::cG k v xs ws
 | _,_=>[v]
noncomputable def ce (k:AV):List AV->List AV
 | []=>[k]
 | x::xs=>if fe k x then x::xs else x::ce k xs
noncomputable def gn:AV->Option Int
 | .int i=>some i
 | _=>none
noncomputable def strV:AV->Option Str
 | .str s=>some s
 | _=>none
noncomputable def fW:AV->Option (List AV)
 | .lst l=>some l
 | _=>none
noncomputable def tupV:AV->Option (List AV)
 | .tup l=>some l
 | _=>none
noncomputable def eqD (a b:AV):Option Bool:=if jg a && jg b && (decide (eT a<=64) || decide (eT b<=64)) then some (PyData.eqv (toD a) (toD b)) else none
noncomputable def eqI (a b:AV):Option Bool:=(gn a).elim (eqD a b) fun x=>(gn b).elim (eqD a b) fun y=>some (decide (x=y))
noncomputable def eqV (a b:AV):Option Bool:=(strV a).elim (eqI a b) fun x=>(strV b).elim (eqD a b) fun y=>some (seq x y)
noncomputable def d4:AV->Option Bool
 | .bool b=>some b
 | _=>none
noncomputable def on2 {α:Type} (a b:AV) (f:Int->Int->Option α):Option α:=(gn a).bind fun x=>(gn b).bind fun y=>f x y
noncomputable def lenV:AV->Option Nat
 | .tup l | .lst l=>some l.length
 | .str s=>some s.length
 | .dct ks _=>some ks.length
 | .sett n=>some n
 | _=>none
noncomputable def ew:AV->Option (List AV)
 | .tup l | .lst l=>some l
 | _=>none
noncomputable def at? (l:List AV) (i:Int):Option AV :=
 if 0<=i then l[i.toNat]? else if 0<=i+l.length then l[(i+l.length).toNat]? else none
noncomputable def idxV (c i:AV):Option AV :=
 match c with
 | .tup l=>(gn i).bind fun k=>if 0<=k then l[k.toNat]? else none
 | .lst l=>(gn i).bind (at? l)
 | .dct ks vs=>if nM i then dI i ks vs else none
 | .str s=>(gn i).bind fun k=>if 0<=k then (s.cps[k.toNat]?).map fun c=>.str ⟨#[c]⟩ else none
 | _=>none
noncomputable def partOf:AV->Option (Option Int)
 | .none=>some none
 | .int i=>some (some i)
 | _=>none
noncomputable def mK (l:List AV) (lo hi:AV):Option (List AV) :=
 (partOf lo).bind fun a=>(partOf hi).map fun b=>(l.drop (a.elim 0 (clipAt l.length))).take (b.elim l.length (clipAt l.length) - a.elim 0 (clipAt l.length))
noncomputable def fromTup (l:List AV) (lo hi:AV):Option AV:=if isNone hi then (gn lo).bind fun a=>if 1<=a/\a<=l.length then some (.tup (l.drop a.toNat)) else none else none
noncomputable def kC (c lo hi:AV):Option AV :=
 match c with
 | .tup l=>fromTup l lo hi
 | .lst l=>(mK l lo hi).map .lst
 | _=>none
noncomputable def bz (l:List AV):Option AV:=if l.length<=sizeLine then some (.lst l) else none
noncomputable def nC (l:List AV):Option AV:=if l.length<=sizeLine then some (.tup l) else none
noncomputable def mkSt (s:Str):Option AV:=if s.length<=sizeLine then some (.str s) else none
noncomputable def addV (a b:AV):Option AV :=
 match a with
 | .int x=>(gn b).map fun y=>.int (x+y)
 | .lst x=>(fW b).bind fun y=>bz (x++y)
 | .str x=>(strV b).bind fun y=>mkSt (x++y)
 | .tup x=>(tupV b).bind fun y=>if x.isEmpty || y.isEmpty then none else nC (x++y)
 | _=>none
noncomputable def b7 (x:Int):Bool:=decide (x.natAbs < 9223372036854775808)
noncomputable def eI (y:Int):Bool:=!decide (y=0) && b7 y
noncomputable def lw (x:AV):Nat->List AV
 | 0=>[]
 | n+1=>x::lw x n
noncomputable def repV (b:AV) (l:List AV):Option AV:=match l with
 | [x]=>(gn b).bind fun n=>if b7 n && zCd n.toNat 100000 then some (.lst (lw x n.toNat)) else none
 | _=>none
noncomputable def mO (op:Operator) (a b:AV):Option AV :=
 match op with
 | .Add=>addV a b
 | .Sub=>on2 a b fun x y=>some (.int (x - y))
 | .Mult=>(fW a).elim (on2 a b fun x y=>if b7 x || b7 y then some (.int (x * y)) else none) (repV b)
 | .FloorDiv=>on2 a b fun x y=>if eI y then some (.int (zAp x y)) else none
 | .Mod=>on2 a b fun x y=>if eI y then some (.int (zAs x y)) else none
 | .Pow=>on2 a b fun x y=>if 0<=y/\y<=20/\x.natAbs<=1000 then some (.int (x ^ y.toNat)) else none
 | _=>none
noncomputable def unV (op:UnaryOp) (a:AV):Option AV :=
 match op with
 | .Not=>(d4 a).map fun b=>.bool (!b)
 | .USub=>(gn a).map fun x=>.int (-x)
 | _=>none
noncomputable def inV (x c:AV):Option Bool :=
 match c with
 | .dct ks _=>if nM x then some (kH x ks) else none
 | .lst l=>if jg x && dataVs l && decide (eT x<=64) then some ((toDs l).any fun y=>PyData.eqv y (toD x)) else none
 | _=>none
noncomputable def kB (op:CmpOp) (a b:AV):Option Bool :=
 match op with
 | .Eq=>eqV a b
 | .NotEq=>(eqV a b).map (!·)
 | .Lt=>on2 a b fun x y=>some (decide (x < y))
 | .Gt=>on2 a b fun x y=>some (decide (y < x))
 | .LtE=>on2 a b fun x y=>some (decide (x<=y))
 | .GtE=>on2 a b fun x y=>some (decide (y<=x))
 | .Is=>if isNone b then some (isNone a) else none
 | .IsNot=>if isNone b then some (!isNone a) else none
 | .In=>inV a b
 | .NotIn=>(inV a b).map (!·)
noncomputable def fY (a b:Int):List AV:=(List.range (b - a).toNat).map fun (k:Nat)=>.int (a+(k:Int))
noncomputable def lZ (a b:List AV):List AV:=(a.zip b).map fun p=>.tup [p.1,p.2]
noncomputable def fj (k:Int):List AV->List AV
 | []=>[]
 | x::r=>.tup [.int k,x]::fj (k+1) r
structure Fn where
 params:List Str
 body:List Stmt
 names:List (Str × NameKind)
structure BiE where
 val:Value
 den:Bool->List AV->Option AV
 free:Bool
 cont:Bool
structure Pg where
 fns:List (Str × Str × Fn)
 classes:List Str
 excs:List (Str × List Str)
 consts:List (Str × Int)
 bi:List (Str × BiE)
 flds:List Str
 mths:List Str
 shared:List (Str × Str)
noncomputable def lx (c f:Str):List (Str × Str × Fn)->Option Fn
 | []=>none
 | (c',f',fn)::r=>if seq f f' && seq c c' then some fn else lx c f r
theorem findFn_c {c f c' f':Str} {fn:Fn} {r:List (Str × Str × Fn)}:lx c f ((c',f',fn)::r)=if seq f f' && seq c c' then some fn else lx c f r:=rfl
noncomputable def Pg.find (P:Pg) (c f:Str):Option Fn:=lx c f P.fns
noncomputable def Pg.sub (P:Pg) (c d:Str):Bool:=seq c d || (match aK c P.excs with | some l=>dy d l | none=>false)
noncomputable def Pg.hasFn (P:Pg) (f:Str):Bool:=(P.find ⟨#[]⟩ f).isSome
noncomputable def Pg.isCls (P:Pg) (c:Str):Bool:=dy c P.classes
noncomputable def Pg.isX (P:Pg) (c:Str):Bool:=(aK c P.excs).isSome
structure Ctx where
 P:Pg
 free:Bool
 call:Str->Str->List AV->St->Ret
 make:Str->List AV->St->Ret
 turns:Nat
noncomputable def Ctx.inH (X:Ctx):Ctx:={ X with free:=false,make:=fun _ _ _=>.stuck,call:=fun _ _ _ _=>.stuck }
noncomputable def mW (x:Str):Bool:=!(seq x "__debug__") && !(seq x "__classdict__")
noncomputable abbrev Sc:=List (Str × NameKind)
noncomputable def isLocK:Option NameKind->Bool
 | some .local | some .cell | some .free=>true
 | _=>false
noncomputable def isGlobK:Option NameKind->Bool
 | some .globalImplicit=>true
 | _=>false
noncomputable def isStK:Option NameKind->Bool
 | some .local | some .cell=>true
 | _=>false
noncomputable def oH:Option NameKind->Bool
 | some .local=>true
 | _=>false
noncomputable def lu (sc:Sc) (x:Str):Bool:=isLocK (aK x sc) && mW x
noncomputable def be (sc:Sc) (x:Str):Bool:=isGlobK (aK x sc) && mW x
noncomputable def ky (sc:Sc) (x:Str):Bool:=isStK (aK x sc) && mW x
noncomputable def isLo (sc:Sc) (x:Str):Bool:=oH (aK x sc) && mW x
noncomputable def ae (k:Nat):D AV:=fun s =>
 match al k s.loc with
 | some (.val v)=>.ok v s
 | some (.own v)=>.ok v { s with loc:=ai k (.val v) s.loc }
 | none=>.stuck
noncomputable def aa (k:Nat):D AV:=fun s =>
 match al k s.loc with
 | some _=>.ok (.pl k) s
 | none=>.stuck
noncomputable def gD (k:Nat) (v:LV):D Unit:=fun s=>.ok () { s with loc:=ai k v s.loc }
noncomputable def du (st:St) (n:Nat):Option AV:=match st[n]? with
 | some (.cont c)=>some c
 | _=>none
noncomputable def aT (v:AV) (s:S):Option AV :=
 match v with
 | .cel n=>du s.st n
 | .pl k=>(match al k s.loc with
  | some (.own c)=>some c
  | some (.val (.cel n))=>du s.st n
  | some (.val (.pl _))=>none
  | some (.val v)=>some v
  | none=>none)
 | v=>some v
noncomputable def deref (v:AV):D AV:=fun s=>match aT v s with
 | some c=>.ok c s
 | none=>.stuck
noncomputable def gE:List AV->D (List AV)
 | []=>af []
 | v::r=>aE (deref v) fun c=>aE (gE r) fun cs=>af (c::cs)
noncomputable def gf (v:AV) (s:S):Option AV :=
 match v with
 | .pl k=>(match al k s.loc with
  | some (.val v)=>some v
  | _=>none)
 | v=>some v
noncomputable def ix (v:AV):D AV:=fun s=>match gf v s with
 | some c=>.ok c s
 | none=>.stuck
noncomputable def d8 (v:AV) (s:S):Option (Nat × List (Str × AV)) :=
 match gf v s with
 | some (.obj _ n)=>(match s.st[n]? with | some (.flds l)=>some (n,l) | _=>none)
 | _=>none
noncomputable def nJ (o:AV) (f:Str):D AV:=fun s =>
 match d8 o s with
 | some (_,l)=>(match fV f l with
  | some w=>.ok w s
  | none=>.stuck)
 | none=>.stuck
noncomputable def ij (o:AV) (f:Str) (w:AV):D Unit:=fun s =>
 match d8 o s with
 | some (n,l)=>if zCd l.length 100 then .ok () { s with st:=s.st.set n (.flds (kK f w l)) } else .stuck
 | none=>.stuck
noncomputable def dZ (r:Ret):D AV:=fun s =>
 match r with
 | .ok v st=>.ok v { s with st:=st }
 | .exc c st=>.exc c { s with st:=st }
 | .stuck=>.stuck
noncomputable def fF (X:Ctx) (c f:Str) (vs:List AV):D AV:=fun s=>dZ (X.call c f vs s.st) s
noncomputable def dMake (X:Ctx) (c:Str) (vs:List AV):D AV:=fun s=>dZ (X.make c vs s.st) s
noncomputable def bI:List (D AV)->D (List AV)
 | []=>af []
 | m::r=>aE m fun v=>aE (bI r) fun vs=>af (v::vs)
noncomputable def fJ:AV->Bool
 | .lst _ | .dct _ _=>true
 | _=>false
noncomputable def toCel (v:AV):D AV:=fun s=>if fJ v then .ok (.cel s.st.length) { s with st:=s.st++[.cont v] } else .ok v s
noncomputable def bH (v:AV) (f:AV->Option AV):D Unit:=fun s =>
 let cel (n:Nat):Out Unit:=match du s.st n with
  | some c=>(match f c with | some c'=>.ok () { s with st:=s.st.set n (.cont c') } | none=>.stuck)
  | none=>.stuck
 match v with
 | .cel n=>cel n
 | .pl k=>(match al k s.loc with
  | some (.own c)=>(match f c with | some c'=>.ok () { s with loc:=ai k (.own c') s.loc } | none=>.stuck)
  | some (.val (.cel n))=>cel n
  | _=>.stuck)
 | _=>.stuck
noncomputable def eW (i v:AV) (c:AV):Option AV :=
 match c,i with
 | .lst l,.int i=>if 0<=i/\i.toNat < l.length then some (.lst (l.set i.toNat v)) else none
 | .dct ks vs,k=>if nM k && zCd (ks.length+1) sizeLine then some (.dct (ce k ks) (cG k v ks vs)) else none
 | _,_=>none
noncomputable def cR (e:Expr):Option Str:=if h:e.ctorIdx=23 then Expr.Name.elim (motive_1:=fun _=>Option Str) e h fun x _=>some x else none
noncomputable def tupE (e:Expr):Option (List Expr):=if h:e.ctorIdx=25 then Expr.Tuple.elim (motive_1:=fun _=>Option (List Expr)) e h fun ts _ _=>some ts else none
noncomputable def jm (sc:Sc) (e:Expr):Option (Option Nat × List Nat):=(cR e).elim ((tupE e).map fun ts=>(none,ts.map fun t=>aJ ((cR t).getD ⟨#[]⟩) sc)) fun x=>some (some (aJ x sc),[])
noncomputable def jw:List Nat->List AV->bp->bp
 | k::ks,v::vs,l=>jw ks vs (ai k (.val v) l)
 | _,_,l=>l
noncomputable def asgT (t:Option Nat × List Nat) (v:AV):D Unit:=fun s =>
 match t with
 | (some k,_)=>.ok () { s with loc:=ai k (.val v) s.loc }
 | (none,ks)=>(match v with
  | .tup vs=>if zA9 ks.length vs.length then .ok () { s with loc:=jw ks vs s.loc } else .stuck
  | _=>.stuck)
noncomputable def nmOk (ok:Str->Bool) (e:Expr):Bool:=(cR e).elim false ok
noncomputable def tgtOk (ok:Str->Bool) (e:Expr):Bool:=(cR e).elim ((tupE e).elim false fun ts=>ts.all (nmOk ok)) ok
noncomputable def bn (sc sc':Sc):List (Nat × Nat):=(sc'.filter fun p=>match p.2 with | .free=>true | _=>false).map fun p=>(aJ p.1 sc',aJ p.1 sc)
noncomputable def lvV:LV->AV
 | .val v | .own v=>v
noncomputable def dW:List (Nat × Nat)->bp->bp
 | [],_=>[]
 | (i,o)::r,l=>match al o l with
  | some lv=>(i,.val (lvV lv))::dW r l
  | none=>dW r l
noncomputable def letGo:List (Nat × Nat)->bp->bp
 | [],l=>l
 | (_,o)::r,l=>letGo r (match al o l with
  | some (.own v)=>ai o (.val v) l
  | _=>l)
noncomputable def consO (v:AV):Out (List AV)->Out (List AV)
 | .ok vs s=>.ok (v::vs) s
 | o=>o
noncomputable def lf:Option (D AV)->D Bool
 | none=>af true
 | some d=>aE d fun v=>opt (d4 v)
noncomputable def cO (k:Nat) (tst:Option (D AV)) (elt:D AV) (cap:bp):List AV->St->Out (List AV)
 | [],st=>.ok [] ⟨cap,st⟩
 | x::r,st=>aE (lf tst) (fun b=>if b then aE elt (fun v=>fun s=>consO v (cO k tst elt cap r s.st)) else fun s=>cO k tst elt cap r s.st) ⟨ai k (.val x) cap,st⟩
noncomputable def isFreeK:Option NameKind->Bool
 | some .free=>true
 | _=>false
noncomputable def isCellK:Option NameKind->Bool
 | some .cell | some .free=>true
 | _=>false
noncomputable def scOk (sc sc':Sc):Bool:=sc'.all fun p=>match p.2 with
 | .cell=>false
 | .local=>oH (aK p.1 sc')
 | .free=>isCellK (aK p.1 sc) && isFreeK (aK p.1 sc')
 | _=>true
noncomputable def cZ (caps:List (Nat × Nat)) (k:Nat) (tst:Option (D AV)) (elt:D AV) (items:List AV):D (List AV):=fun s =>
 match cO k tst elt (dW caps s.loc) items s.st with
 | .ok vs s'=>.ok vs ⟨letGo caps s.loc,s'.st⟩
 | .exc c s'=>.exc c ⟨letGo caps s.loc,s'.st⟩
 | .stuck=>.stuck
noncomputable def asL {β:Type} (v:AV) (f:List AV->D β):D β:=match v with
 | .lst l=>f l
 | _=>stk
noncomputable def cQ (caps:List (Nat × Nat)) (k:Nat) (tst:Option (D AV)) (elt:D AV) (its:D AV):D AV :=
 aE its fun v=>asL v fun l=>if l.length<=sizeLine then aE (cZ caps k tst elt l) fun vs=>opt (bz vs) else stk
noncomputable abbrev bG (caps:List (Nat × Nat)) (k:Nat) (elt:D AV) (its:D AV):D AV:=cQ caps k none elt its
noncomputable def bc (op:BoolOp):List (D AV)->D AV
 | []=>stk
 | [m]=>m
 | m::r=>aE m fun v=>aE (opt (d4 v)) fun t =>
  match op,t with
  | .And,false | .Or,true=>af v
  | _,_=>bc op r
noncomputable def aj (op:Operator) (l r:D AV):D AV:=aE l fun a=>aE r fun b=>aE (deref a) fun a'=>aE (deref b) fun b'=>opt (mO op a' b')
noncomputable def jz (d:D AV):D AV:=aE d fun a=>opt (unV .Not a)
noncomputable def dUn (op:UnaryOp) (e:D AV):D AV:=aE e fun a=>aE (deref a) fun a'=>opt (unV op a')
noncomputable def aB (l:D AV) (op:CmpOp) (r:D AV):D AV:=aE l fun a=>aE r fun b=>aE (deref a) fun a'=>aE (deref b) fun b'=>opt ((kB op a' b').map .bool)
noncomputable def aI (es:List (D AV)):D AV:=aE (bI es) fun vs=>opt (nC vs)
noncomputable def cF (es:List (D AV)):D AV:=aE (bI es) fun vs=>opt (bz vs)
noncomputable def am (v i:D AV):D AV:=aE v fun c=>aE i fun i=>aE (deref c) fun c'=>opt (idxV c' i)
noncomputable def cj (v lo hi:D AV):D AV:=aE v fun c=>aE lo fun a=>aE hi fun b=>aE (deref c) fun c'=>opt (kC c' a b)
noncomputable def aw (o:D AV) (f:Str):D AV:=aE o fun o=>nJ o f
noncomputable def bw (d:D AV):D AV:=aE d fun c=>opt ((ew c).map .lst)
noncomputable def fz (s:Str):Bool:=PyData.strOk s && zCd s.length sizeLine
noncomputable def dConst:Const->D AV
 | .none=>af .none
 | .bool b=>af (.bool b)
 | .int i=>af (.int i)
 | .str s=>if fz s then af (.str s) else stk
 | _=>stk
noncomputable def conE (e:Expr):Option Const:=if h:e.ctorIdx=19 then Expr.Constant.elim (motive_1:=fun _=>Option Const) e h fun c _ _=>some c else none
noncomputable def strC:Const->Option Str
 | .str s=>some s
 | _=>none
noncomputable def strE (e:Expr):Option Str:=(conE e).bind strC
noncomputable def litE (e:Expr):Option Str:=(strE e).bind fun s=>if fz s then some s else none
noncomputable def okStr (e:Expr):Bool:=(litE e).isSome
noncomputable def dJ (e:Expr):Bool:=(strE e).elim false fun s=>zA9 s.length 0
inductive ItK where
 | range | zip | enum
noncomputable def itNames:List (Str × ItK):=[("range",.range),("zip",.zip),("enumerate",.enum)]
inductive Callee where
 | fn | cls | xcls | bi (b:BiE) | it (k:ItK) | isi | rv | no
noncomputable def bZ (P:Pg) (id:Str):Callee:=if P.hasFn id then .fn else if P.isCls id then .cls else if P.isX id then .xcls else .no
noncomputable def fA:Callee->Bool
 | .no=>true
 | _=>false
noncomputable def biCal (P:Pg) (id:Str):Callee:=(aK id P.bi).elim ((aK id itNames).elim (if seq id "isinstance" then .isi else if seq id "reversed" then .rv else .no) .it) .bi
noncomputable def calleeOf (P:Pg) (id:Str) (sc:Sc):Callee :=
 if be sc id then (if fA (bZ P id) then biCal P id else bZ P id) else .no
noncomputable def okR (x:Int):Bool:=decide (x.natAbs < 1000000000000000000)
inductive Ty where
 | tuple | int | bool | str
noncomputable def tyNames:List (Str × Ty):=[("tuple",.tuple),("int",.int),("bool",.bool),("str",.str)]
noncomputable def tyNo:AV->Nat
 | .none=>0
 | .bool _=>1
 | .int _=>2
 | .str _=>3
 | .tup _=>4
 | _=>5
noncomputable def Ty.no:Ty->Nat
 | .bool=>1
 | .int=>2
 | .str=>3
 | .tuple=>4
noncomputable def subN (n m:Nat):Bool:=zA9 n m || (zA9 n 1 && zA9 m 2)
noncomputable def fh (t:Ty) (a:AV):Option Bool:=if zCd (tyNo a) 4 then some (subN (tyNo a) t.no) else none
noncomputable def gp (d:D AV) (f:AV->Option Bool):D AV:=aE d fun v=>aE (deref v) fun c=>opt ((f c).map .bool)
noncomputable def aS (b:BiE) (k:Bool) (es:List (D AV)):D AV:=aE (bI es) fun vs=>aE (gE vs) fun cs=>opt (b.den k cs)
noncomputable def iA (a n:Int):Option AV:=if okR a && okR n then some (.lst (fY a n)) else none
noncomputable def rangeD (vs:List AV):D AV:=opt (match vs with
 | [b]=>(gn b).bind fun n=>iA 0 n
 | [a,b]=>on2 a b iA
 | _=>none)
noncomputable def zipD (vs:List AV):D AV:=opt (match vs with
 | [a,b]=>(ew a).bind fun la=>(ew b).map fun lb=>.tup (lZ la lb)
 | _=>none)
noncomputable def enumD (vs:List AV):D AV:=opt (match vs with
 | [a]=>(ew a).map fun l=>.tup (fj 0 l)
 | _=>none)
noncomputable def itD:ItK->List AV->D AV
 | .range=>rangeD
 | .zip=>zipD
 | .enum=>enumD
noncomputable def hU (k:ItK) (es:List (D AV)):D AV:=aE (bI es) (itD k)
noncomputable def methK (X:Ctx) (m:Str) (es:List (D AV)):AV->D AV
 | .obj c n=>fun s=>(match s.st[n]? with
  | some (.flds _)=>(if (X.P.find c m).isSome then aE (bI es) fun vs=>fF X c m (.obj c n::vs) else stk) s
  | _=>.stuck)
 | _=>stk
noncomputable def aW (X:Ctx) (o:D AV) (m:Str) (es:List (D AV)):D AV:=aE o fun o=>aE (ix o) (methK X m es)
noncomputable def mkNm (P:Pg) (id:Str):Bool:=fA (bZ P id) && (aK id P.bi).elim false (·.cont)
noncomputable def isSl:Expr->Bool
 | .Slice _ _ none _=>true
 | _=>false
noncomputable def ft (P:Pg):Expr->Bool
 | .List .. | .ListComp .. | .Dict ..=>true
 | .BinOp ..=>true
 | .Subscript _ i _=>isSl i
 | .Call f _ _ _=>(cR f).elim false (mkNm P)
 | _=>false
noncomputable def fG (sc:Sc) (x:Str):Bool:=(aK x sc).isSome
noncomputable def my (P:Pg) (sc:Sc) (x:Str):Bool:=(aK x P.shared).elim false (fG sc)
noncomputable def nq (b:Bool) (d:D AV):D AV:=if b then aE d toCel else d
inductive Md where
 | v | p | i | r
noncomputable def cJ (md:Md) (d:D AV):D AV :=
 match md with
 | .i=>bw d
 | .r=>stk
 | _=>d
noncomputable def rvOnly (md:Md) (d:D AV):D AV :=
 match md with
 | .r=>d
 | _=>stk
noncomputable def mI (d:D AV):D AV:=aE d fun a=>opt ((fW a).bind fun l=>bz l.reverse)
noncomputable def locM (md:Md) (k:Nat):D AV :=
 match md with
 | .p=>aa k
 | _=>ae k
noncomputable def jx (X:Ctx) (x:Str) (md:Md) (sc:Sc):D AV:=if lu sc x then locM md (aJ x sc) else if be sc x then opt ((aK x X.P.consts).map .int) else stk
noncomputable def itOnly (md:Md) (d:D AV):D AV :=
 match md with
 | .i=>d
 | _=>stk
noncomputable def isLstV:AV->Bool
 | .lst _=>true
 | _=>false
noncomputable def dE (r:AV):D Unit:=fun s=>match aT r s with
 | some c=>if isLstV c then .ok () s else .stuck
 | none=>.stuck
noncomputable def pA (v:AV) (c:AV):Option AV:=(fW c).bind fun l=>bz (l++[v])
noncomputable def bY (o e:D AV):D AV:=aE o fun r=>aE (dE r) fun _=>aE e fun v=>aE (bH r (pA v)) fun _=>af .none
noncomputable def popV (c:AV):Option AV:=(fW c).map fun l=>.lst l.dropLast
noncomputable def lastV (c:AV):Option AV:=(fW c).bind fun l=>l.getLast?
noncomputable def fU (o:D AV):D AV:=aE o fun r=>aE (deref r) fun c=>aE (opt (lastV c)) fun x=>aE (bH r popV) fun _=>af x
noncomputable def eF:List AV->Option (List Str)
 | []=>some []
 | .str s::r=>(eF r).map (s::·)
 | _::_=>none
noncomputable def kJ:List Str->Str
 | []=>⟨#[]⟩
 | s::r=>s++kJ r
noncomputable def joinV (v:AV):Option AV:=(fW v).bind fun l=>(eF l).bind fun ss=>mkSt (kJ ss)
noncomputable def gk (d:D AV):D AV:=aE d fun v=>aE (deref v) fun c=>opt (joinV c)
noncomputable def oP (e:Expr):Bool:=!Nat.beq e.ctorIdx 22
noncomputable def isNm (e:Expr):Bool:=(cR e).isSome
noncomputable def callE (e:Expr):Option (Expr × List Expr × List Keyword):=if h:e.ctorIdx=16 then Expr.Call.elim (motive_1:=fun _=>Option (Expr × List Expr × List Keyword)) e h fun f a k _=>some (f,a,k) else none
noncomputable def kM (e:Expr):Bool:=(cR e).isSome || (callE e).elim false fun t=>(cR t.1).isSome && !t.2.1.isEmpty
noncomputable def fC (e:Expr):Bool:=zA9 e.ctorIdx 23 || zA9 e.ctorIdx 20 || zA9 e.ctorIdx 21
noncomputable def aX (X:Ctx) (id:Str) (es:List (D AV)):D AV:=aE (bI es) fun vs=>fF X ⟨#[]⟩ id vs
noncomputable def kI (X:Ctx) (id:Str) (es:List (D AV)):D AV:=aE (bI es) fun vs=>dMake X id vs
noncomputable def dExc (id:Str):D AV:=af (.exc id)
noncomputable def oY (ds:List (D AV)) (f:D AV->D AV):D AV:=match ds with
 | [d]=>f d
 | _=>stk
noncomputable def isNot:UnaryOp->Bool
 | .Not=>true
 | _=>false
noncomputable def unK (op:UnaryOp) (md:Md) (dv dp:D AV):D AV:=if isNot op then cJ md (jz dv) else cJ md (dUn op dp)
noncomputable def fP (es:List Expr):Option Str:=match es with
 | [_,e]=>cR e
 | _=>none
noncomputable def isiK (P:Pg) (md:Md) (o:Option Str) (dp:List (D AV)) (sc:Sc):D AV:=match o,dp with
 | some t,[d,_]=>bC (be sc t && fA (bZ P t)) ((aK t tyNames).elim stk fun k=>cJ md (gp d (fh k)))
 | _,_=>stk
noncomputable def oneLit (es:List Expr):Bool:=match es with
 | [e]=>okStr e
 | _=>false
noncomputable def oZ (args:List Expr):Bool:=match args with
 | [e]=>(callE e).elim false fun t=>(cR t.1).elim false fun x=>seq x "reversed"
 | _=>false
noncomputable def callK (X:Ctx) (md:Md) (id:Str) (args:List Expr) (dv dp dc dr:List (D AV)) (sc:Sc):Callee->D AV
 | .fn=>bC X.free (cJ md (aX X id dv))
 | .cls=>bC (X.free && (X.P.find id "__init__").isSome) (cJ md (kI X id dc))
 | .xcls=>bC (X.free && oneLit args) (cJ md (dExc id))
 | .bi b=>bif oZ args then bC ((b.val == .type "list") && X.free) (cJ md (oY dr mI)) else bC (!b.free || X.free) (cJ md (aS b false dp))
 | .rv=>rvOnly md (oY dv fun d=>d)
 | .it k=>bC X.free (itOnly md (hU k dv))
 | .isi=>isiK X.P md (fP args) dp sc
 | .no=>stk
noncomputable def zeroC:Const->Bool
 | .int i=>decide (i=0)
 | _=>false
noncomputable def o8 (e:Expr):Bool:=(conE e).elim false zeroC
noncomputable def o4 (kws:List Keyword):Bool:=match kws with
 | [k]=>(k.arg.elim false fun a=>seq a "default") && o8 k.value
 | _=>false
noncomputable def defK (md:Md) (dp:List (D AV)):Callee->D AV
 | .bi b=>cJ md (aS b true dp)
 | _=>stk
noncomputable def evCall (X:Ctx) (md:Md) (id:Str) (args:List Expr) (kws:List Keyword) (dv dp dc dr:List (D AV)) (sc:Sc):D AV :=
 bif kws.isEmpty then callK X md id args dv dp dc dr sc (calleeOf X.P id sc) else bC (o4 kws && X.free && !args.isEmpty) (defK md dp (calleeOf X.P id sc))
noncomputable def methC (X:Ctx) (md:Md) (dO:D AV) (m:Str) (noArgs:Bool) (dv:List (D AV)):D AV :=
 if seq m "pop" then bC noArgs (cJ md (fU dO))
 else if seq m "append" then oY dv fun e=>cJ md (bY dO e)
 else bC (dy m X.P.mths && X.free) (cJ md (aW X dO m dv))
noncomputable def evMeth (X:Ctx) (md:Md) (o:Expr) (dO:D AV) (m:Str) (apos pos:Pos) (args:List Expr) (kws:List Keyword) (dv dp:List (D AV)):D AV :=
 bC (kws.isEmpty && zA9 apos.endLine pos.line && args.all oP && zCd args.length 20) (if seq m "join" then oY dp fun e=>bC (dJ o) (cJ md (gk e)) else bC (fC o) (methC X md dO m args.isEmpty dv))
noncomputable def compOk (X:Ctx) (tgt:Expr) (isa:Int) (ifs:List Expr) (scope:Scope) (sc:Sc):Bool:=isa == 0 && zCd ifs.length 1 && (cR tgt).elim false (isLo scope.names) && scOk sc scope.names && scope.kind == .function && X.free
noncomputable def compK (X:Ctx) (md:Md) (tgt:Expr) (isa:Int) (ifs:List Expr) (scope:Scope) (sc:Sc) (tst:Option (D AV)) (delt dit:D AV):D AV :=
 bC (compOk X tgt isa ifs scope sc) (cJ md (cQ (bn sc scope.names) (aJ ((cR tgt).getD ⟨#[]⟩) scope.names) tst delt dit))
noncomputable def ou (l:D AV) (op:CmpOp) (m:D AV) (op':CmpOp) (r:D AV):D AV:=aE l fun a=>aE m fun b=>aE (deref a) fun a'=>aE (deref b) fun b'=>aE (opt (gn b')) fun i=>aE (opt (kB op a' (.int i))) fun t =>
 if t then aE r fun c=>aE (deref c) fun c'=>opt ((kB op' (.int i) c').map .bool) else af (.bool false)
noncomputable def cmpK (md:Md) (l:D AV) (ops:List CmpOp) (ds:List (D AV)):D AV:=match ops,ds with
 | [op],[d]=>cJ md (aB l op d)
 | [op,op'],[d,e]=>cJ md (ou l op d op' e)
 | _,_=>stk
set_option tactic.hygienic true
mutual
noncomputable def ev (X:Ctx):Expr->Md->Sc->D AV
 | .Constant c _ _,md,_=>cJ md (dConst c)
 | .Name x _,md,sc=>cJ md (jx X x md sc)
 | .BinOp l op r _,md,sc=>cJ md (aj op (ev X l .p sc) (ev X r .p sc))
 | .UnaryOp op e _,md,sc=>unK op md (ev X e .v sc) (ev X e .p sc)
 | .BoolOp op es _,md,sc=>cJ md (bc op (evs X es .v sc))
 | .Compare l ops cs _,md,sc=>cmpK md (ev X l .p sc) ops (evs X cs .p sc)
 | .Tuple es _ _,md,sc=>cJ md (aI (evs X es .v sc))
 | .List es _,md,sc=>cJ md (cF (evs X es .v sc))
 | .Dict [] [] _,md,_=>cJ md (af (.dct [] []))
 | .Attribute v f _,md,sc=>bC (kM v && dy f X.P.flds) (cJ md (aw (ev X v .p sc) f))
 | .Subscript v (.Slice lo hi none _) _,md,sc=>cJ md (cj (ev X v .p sc) (evo X lo sc) (evo X hi sc))
 | .Subscript v i _,md,sc=>cJ md (am (ev X v .p sc) (ev X i .v sc))
 | .ListComp elt [⟨tgt,iter,ifs,isa⟩] scope _,md,sc=>compK X md tgt isa ifs scope sc (evt X ifs scope.names) (ev X elt .v scope.names) (ev X iter .i sc)
 | .Call (.Name id _) args kws _,md,sc=>evCall X md id args kws (evs X args .v sc) (evs X args .p sc) (evcs X args sc) (evs X args .r sc) sc
 | .Call (.Attribute o m apos) args kws pos,md,sc=>evMeth X md o (ev X o .p sc) m apos pos args kws (evs X args .v sc) (evs X args .p sc)
 | _,_,_=>stk
noncomputable def evs (X:Ctx):List Expr->Md->Sc->List (D AV)
 | [],_,_=>[]
 | e::r,md,sc=>ev X e md sc::evs X r md sc
noncomputable def evt (X:Ctx):List Expr->Sc->Option (D AV)
 | [],_=>none
 | e::_,sc=>some (ev X e .v sc)
noncomputable def evcs (X:Ctx):List Expr->Sc->List (D AV)
 | [],_=>[]
 | e::r,sc=>nq (ft X.P e) (ev X e .v sc)::evcs X r sc
noncomputable def evo (X:Ctx):Option Expr->Sc->D AV
 | none,_=>af .none
 | some e,sc=>ev X e .v sc
end
set_option tactic.hygienic false
noncomputable def iY (own:Bool) (v:AV):LV:=if own && fJ v then .own v else .val v
noncomputable def ac (m:D Fl) (k:D Fl):D Fl:=aE m fun f=>match f with | .next=>k | .ret v=>af (.ret v)
noncomputable def bQ (t:D AV) (a b:D Fl):D Fl:=aE t fun v=>aE (opt (d4 v)) fun c=>if c then a else b
noncomputable def br (t:Option Nat × List Nat) (body:D Fl):List AV->D Fl
 | []=>af .next
 | x::r=>aE (asgT t x) fun _=>aE body fun f=>match f with
  | .next=>br t body r
  | .ret v=>af (.ret v)
noncomputable def asT (t:Option Nat × List Nat) (v:AV) (f:List AV->D Fl):D Fl:=match v with
 | .lst l=>f l
 | .tup l=>(match t.1 with | none=>f l | some _=>stk)
 | _=>stk
noncomputable def dU (t:Option Nat × List Nat) (its:D AV) (body:D Fl):D Fl:=aE its fun v=>asT t v fun l=>br t body l
noncomputable def bD (t:D AV) (body:D Fl):Nat->D Fl
 | 0=>stk
 | n+1=>aE t fun v=>aE (opt (d4 v)) fun c=>if c then aE body fun f=>(match f with
  | .next=>bD t body n
  | .ret v=>af (.ret v)) else af .next
noncomputable def aV (d:D AV):D Fl:=aE d fun a=>af (.ret a)
noncomputable def c8 (d:D AV):D Fl:=aE d fun _=>af .next
noncomputable def aL (k:Nat) (d:D AV):D Fl:=aE d fun a=>aE (gD k (.val a)) fun _=>af .next
noncomputable def bo (k:Nat) (d:D AV):D Fl:=aE d fun a=>aE (gD k (iY true a)) fun _=>af .next
noncomputable def aO (o:D AV) (f:Str) (d:D AV):D Fl:=aE d fun a=>aE o fun o=>aE (ij o f a) fun _=>af .next
noncomputable def bh (b i d:D AV):D Fl:=aE d fun a=>aE b fun c=>aE i fun i=>aE (bH c (eW i a)) fun _=>af .next
noncomputable def nG {α:Type} (o:Out α):Out α:=match o with
 | .exc _ _=>.stuck
 | o=>o
noncomputable abbrev Hs:=List (Str × D Fl)
noncomputable def ie (sub:Str->Str->Bool) (c:Str) (s':S):Hs->Out Fl
 | []=>.exc c s'
 | (h,b)::r=>if sub c h then nG (b s') else ie sub c s' r
noncomputable def tryO (X:Ctx) (o:Out Fl) (hs:Hs):Out Fl :=
 match o with
 | .exc c s'=>ie X.P.sub c s' hs
 | r=>r
noncomputable def kD (X:Ctx) (body:D Fl) (hs:Hs):D Fl:=fun s=>tryO X (body s) hs
noncomputable def ez (e:Expr):Bool:=!(zA9 e.ctorIdx 8 || zA9 e.ctorIdx 9 || zA9 e.ctorIdx 10)
noncomputable def nk (X:Ctx) (sc:Sc) (x:Str) (v:Expr):D Fl :=
 if ft X.P v then (if my X.P sc x then bC (ez v) (aL (aJ x sc) (nq true (ev X v .v sc))) else bo (aJ x sc) (ev X v .v sc)) else aL (aJ x sc) (ev X v .v sc)
noncomputable def exAsg (X:Ctx) (v:Expr) (sc:Sc):Expr->D Fl
 | .Name x _=>bC (ky sc x) (nk X sc x v)
 | .Attribute o f _=>bC (isNm o && dy f X.P.flds && ez v) (aO (ev X o .p sc) f (nq (ft X.P v) (ev X v .v sc)))
 | .Subscript b k _=>bC (ez v) (bh (ev X b .p sc) (ev X k .v sc) (ev X v .v sc))
 | _=>stk
noncomputable def isXc:Callee->Bool
 | .xcls=>true
 | _=>false
noncomputable def raisK (X:Ctx) (sc:Sc) (f:Expr) (args:List Expr) (kws:List Keyword):D Fl:=(cR f).elim stk fun id=>match args with
 | [e]=>bC (kws.isEmpty && isXc (calleeOf X.P id sc) && okStr e && X.free) (rais id)
 | _=>stk
noncomputable def pL (X:Ctx) (sc:Sc) (e c:Option Expr):D Fl:=bC c.isNone ((e.bind callE).elim stk fun t=>raisK X sc t.1 t.2.1 t.2.2)
noncomputable def isCallE (e:Expr):Bool:=zA9 e.ctorIdx 16
noncomputable def forK (X:Ctx) (t:Expr) (noElse:Bool) (sc:Sc) (dit:D AV) (dbody:D Fl):D Fl :=
 bC (noElse && tgtOk (ky sc) t && X.free) (match jm sc t with
  | some t'=>dU t' dit dbody
  | none=>stk)
noncomputable def tryK (X:Ctx) (b:Bool) (dbody:D Fl) (hs:Option Hs):D Fl:=bC b (match hs with
 | some hs'=>kD X dbody hs'
 | none=>stk)
noncomputable def exhK (X:Ctx) (sc:Sc) (n:Option Str) (full:Bool) (db:D Fl) (t:Option Expr) (r:Option Hs):Option Hs :=
 (t.bind cR).bind fun c=>r.bind fun r'=>if X.P.isX c && be sc c && full && n.isNone then some ((c,db)::r') else none
set_option tactic.hygienic true
mutual
noncomputable def ex (X:Ctx):Stmt->Sc->D Fl
 | .Return v _,sc=>aV (evo X v sc)
 | .If t a b _,sc=>bQ (ev X t .v sc) (exs X a sc) (exs X b sc)
 | .For t it body orelse _,sc=>forK X t orelse.isEmpty sc (ev X it .i sc) (exs X body sc)
 | .While t body orelse _,sc=>bC (orelse.isEmpty && X.free) (bD (ev X t .v sc) (exs X body sc) X.turns)
 | .Assign [t] v _,sc=>exAsg X v sc t
 | .Raise e c _,sc=>pL X sc e c
 | .Expr e _,sc=>bC (isCallE e) (c8 (ev X e .v sc))
 | .Try body hs orelse fin _,sc=>tryK X (orelse.isEmpty && fin.isEmpty && !hs.isEmpty) (exs X body sc) (exh X.inH hs sc)
 | _,_=>stk
noncomputable def exs (X:Ctx):List Stmt->Sc->D Fl
 | [],_=>af .next
 | s::r,sc=>ac (ex X s sc) (exs X r sc)
noncomputable def exh (X:Ctx):List ExceptHandler->Sc->Option Hs
 | [],_=>some []
 | .ExceptHandler t n body _::r,sc=>exhK X sc n (!body.isEmpty) (exs X body sc) t (exh X r sc)
end
set_option tactic.hygienic false
noncomputable def flowV:Fl->AV
 | .ret v=>v
 | _=>.none
noncomputable def bb (o:Out Fl):Ret :=
 match o with
 | .ok f s=>.ok (flowV f) s.st
 | .exc c s=>.exc c s.st
 | .stuck=>.stuck
noncomputable def fO (sc:Sc):List Str->List AV->bp
 | p::ps,v::vs=>(aJ p sc,.val v)::fO sc ps vs
 | _,_=>[]
noncomputable def runFn (X:Ctx) (fn:Fn) (vs:List AV) (st:St):Ret :=
 if zA9 fn.params.length vs.length then bb (exs X fn.body fn.names ⟨fO fn.names fn.params vs,st⟩) else .stuck
noncomputable def kj (n:Nat) (c:Str):Ret->Ret
 | .ok .none st'=>.ok (.obj c n) st'
 | .exc e st'=>.exc e st'
 | _=>.stuck
noncomputable def ctxOf (P:Pg) (K:Nat) (call call3:Str->Str->List AV->St->Ret):Ctx where
 P:=P
 free:=true
 call:=call
 make:=fun c vs st=>kj st.length c (call3 c "__init__" (.obj c st.length::vs) (st++[.flds []]))
 turns:=K
noncomputable def callF (P:Pg) (K n:Nat) (go:(m:Nat)->m < n->Str->Str->List AV->St->Ret):Str->Str->List AV->St->Ret:=fun c f vs st =>
 if h:0 < n then
  match P.find c f with
  | some fn=>runFn (ctxOf P K (go (n - 1) (Nat.sub_lt h Nat.one_pos)) (go (n - 1 - 4) (zCs (Nat.sub_le _ _) (Nat.sub_lt h Nat.one_pos)))) fn vs st
  | none=>.stuck
 else .stuck
noncomputable def au (P:Pg) (K:Nat):Nat->Str->Str->List AV->St->Ret:=WellFounded.fix Nat.lt_wfRel.wf (callF P K)
theorem lE {P:Pg} {K:Nat} {c f:Str} {vs:List AV} {st:St}:au P K 0 c f vs st=.stuck:=by
 unfold au
 rw [WellFounded.fix_eq]
 exact dif_neg (Nat.lt_irrefl 0)
theorem mD {P:Pg} {K n:Nat}:au P K (n+1)=fun c f vs st=>match P.find c f with | some fn=>runFn (ctxOf P K (au P K n) (au P K (n - 4))) fn vs st | none=>.stuck:=by
 unfold au
 rw [WellFounded.fix_eq]
 funext c f vs st
 exact dif_pos (zC4 n)
noncomputable def dD (a:Arguments):List Str:=a.args.map (·.arg)
noncomputable abbrev lim:Nat:=sizeLine
structure Cx where
 prog:Program
 w:World
 s0:Shared
 P:Pg
 clsA:Str->Option Addr
 mg:Str->Option Value
 mb:Str->Option Value
 fnA:Str->Str->Option Addr
 fnO:Addr->Obj
 fnD:Addr->FuncData
noncomputable abbrev Cx.M (C:Cx):Model:=model C.prog C.w
structure Wd where
 labs:List Addr
 own:Option Str->Option Addr
 tmp:Addr->Prop
 fr:Addr->Prop
 s:Shared
noncomputable abbrev Wd.h (W:Wd):Heap:=W.s.heap
noncomputable abbrev Wd.to (W:Wd) (h:Heap) (tk:Nat):Wd:={ W with s:={ W.s with heap:=h,toks:=tk } }
structure OthC (labs:List Addr) (own:Option Str->Option Addr) (b:Addr):Prop where
 lab:b ∉ labs
 own:∀ k,own k ≠ some b
structure FreeC (labs:List Addr) (own:Option Str->Option Addr) (tmp fr:Addr->Prop) (b:Addr):Prop where
 oth:OthC labs own b
 tmp:¬ tmp b
 fr:¬ fr b
noncomputable abbrev Wd.oth (W:Wd) (b:Addr):Prop:=OthC W.labs W.own b
noncomputable abbrev Wd.free (W:Wd) (b:Addr):Prop:=FreeC W.labs W.own W.tmp W.fr b
inductive Wd.mine (W:Wd) (a:Addr):Prop
 | new (h:W.h.get? a=none)
 | own {k:Option Str} (h:W.own k=some a)
structure Exo (o:Obj):Prop where
 dict:o.dict=none
 dat:∃ vs,o.data=.fields vs
 cls:(∃ a,o.cls=.ref a) ∨ o.cls=.type "traceback"
noncomputable abbrev Pln (o:Obj):Prop:=¬ Exo o
theorem Pln.type {o:Obj} {t:String} (h:o.cls=.type t) (h3:t ≠ "traceback"):Pln o:=fun q=>q.cls.elim (fun q=>q.elim fun _ q=>by rw [h] at q; exact eN Value.ctorIdx q rfl) fun q=>h3 (by rw [h] at q; injection q)
theorem Pln.inst {o:Obj} {d:Addr} (hd:o.dict=some d):Pln o:=fun q=>by rw [q.dict] at hd; exact aD hd
noncomputable abbrev sqO (ty:String) (vs:Array Value) (n:Nat):Obj:={ cls:=.type ty,data:=.seq vs n }
structure StrOk (s:Str):Prop where
 ok:PyData.strOk s=true
 sz:s.length<=lim
structure DRep (C:Cx) (o:Obj) (ss:List Str) (ws:List Value):Prop where
 is:o.IsDictOf (strKind C.prog C.w) (ss.zip ws)
 len:ss.length=ws.length
 sz:ws.length<=lim
 ok:∀ s ∈ ss,StrOk s
noncomputable def SetO (o:Obj) (n:Nat):Prop:=o.ExactSet/\∃ es ep t,o.data=.set es ep t/\t.fits es.size=true/\es.size=n/\n < 16777216
structure InstO (C:Cx) (c:Str) (d:Addr) (o:Obj):Prop where
 cls:∃ a,C.clsA c=some a/\o.cls=.ref a
 dict:o.dict=some d
 nocls:∀ cd,o.data ≠ .cls cd
 isC:C.P.isCls c=true
structure ExcO (C:Cx) (c:Str) (o:Obj):Prop where
 cls:∃ a,C.clsA c=some a/\o.cls=.ref a
 exo:Exo o
 isX:C.P.isX c=true
inductive SqC (h:Heap) (a:Addr) (T:String) (P:List Value->Prop):Prop
 | mk (vs:Array Value) (n:Nat) (h1:h.get? a=some (sqO T vs n)) (h2:vs.size<=lim) (h3:P vs.toList)
inductive DcC (C:Cx) (h:Heap) (a:Addr) (ks:List AV) (P:List Value->Prop):Prop
 | mk (o:Obj) (ss:List Str) (ws:List Value) (h1:h.get? a=some o) (h2:(a == sysModules)=false) (h3:ks=ss.map .str) (h4:DRep C o ss ws) (h5:P ws)
inductive ObC (C:Cx) (W:Wd) (a:Addr) (c:Str) (n:Nat):Prop
 | mk (o:Obj) (d:Addr) (h1:W.h.get? a=some o) (h2:W.labs[n]?=some d) (h3:InstO C c d o)
set_option tactic.hygienic true
mutual
noncomputable def VRep (C:Cx) (W:Wd):AV->Value->Prop
 | .none,v=>v=.none
 | .bool b,v=>v=.bool b
 | .int i,v=>∃ t,v=.int i t
 | .str s,v=>StrOk s/\∃ t,v=.str s t
 | .tup l,v=>∃ a,v=.ref a/\W.free a/\SqC W.h a "tuple" (VReps C W l)
 | .lst l,v=>∃ a,v=.ref a/\W.free a/\SqC W.h a "list" (VReps C W l)
 | .dct ks vs,v=>∃ a,v=.ref a/\W.free a/\DcC C W.h a ks (VReps C W vs)
 | .sett n,v=>∃ a,v=.ref a/\W.free a/\∃ o,W.h.get? a=some o/\SetO o n
 | .exc c,v=>∃ a,v=.ref a/\W.free a/\∃ o,W.h.get? a=some o/\ExcO C c o
 | .obj c n,v=>∃ a,v=.ref a/\W.free a/\ObC C W a c n
 | .cel n,v=>∃ a,v=.ref a/\W.labs[n]?=some a
 | .pl _,_=>False
noncomputable def VReps (C:Cx) (W:Wd):List AV->List Value->Prop
 | [],vs=>vs=[]
 | x::r,vs=>∃ v vs',vs=v::vs'/\VRep C W x v/\VReps C W r vs'
end
set_option tactic.hygienic false
noncomputable def CRep (C:Cx) (W:Wd) (h:Heap) (a:Addr):AV->Prop
 | .tup l=>SqC h a "tuple" (VReps C W l)
 | .lst l=>SqC h a "list" (VReps C W l)
 | .dct ks vs=>DcC C h a ks (VReps C W vs)
 | .sett n=>∃ o,h.get? a=some o/\SetO o n
 | _=>False
structure Grow (W W':Wd):Prop where
 lab:∀ {n:Nat} {a:Addr},W.labs[n]?=some a->W'.labs[n]?=some a
 kp:∀ {b:Addr} {o:Obj},W.h.get? b=some o->W.free b->Pln o->W'.h.get? b=some o
 fr:∀ {b:Addr} {o:Obj},W.h.get? b=some o->W.free b->W'.free b
 ex:∀ {b:Addr} {o:Obj},W.h.get? b=some o->W.free b->Exo o->∃ o',W'.h.get? b=some o'/\Exo o'/\o'.cls=o.cls
theorem eP {vs:Array Value} {n:Nat}:Pln (sqO "tuple" vs n):=.type rfl (by decide)
theorem eL {vs:Array Value} {n:Nat}:Pln (sqO "list" vs n):=.type rfl (by decide)
theorem DRep.pln {C:Cx} {o:Obj} {ss:List Str} {ws:List Value} (h:DRep C o ss ws):Pln o:=by
 obtain ⟨es,ep,h1,_⟩:=h.is
 exact .type h1.1 (by decide)
theorem SetO.pln {o:Obj} {n:Nat} (h:SetO o n):Pln o:=.type h.1.1 (by decide)
theorem InstO.pln {C:Cx} {c:Str} {d:Addr} {o:Obj} (h:InstO C c d o):Pln o:=.inst h.dict
theorem ExcO.same {C:Cx} {c:Str} {o o':Obj} (h:ExcO C c o) (e:Exo o') (q:o'.cls=o.cls):ExcO C c o':=⟨h.cls.imp fun _ z=>⟨z.1,q.trans z.2⟩,e,h.isX⟩
section
variable {C:Cx} {W W':Wd}
set_option tactic.hygienic true
mutual
theorem VRep.mono (g:Grow W W'):∀ {av:AV} {v:Value},VRep C W av v->VRep C W' av v
 | .none,_,h=>h
 | .bool _,_,h=>h
 | .int _,_,h=>h
 | .str _,_,h=>h
 | .tup _,_,h=>by obtain ⟨a,h1,h2,vs,n,h3,h4,h5⟩:=h; exact ⟨a,h1,g.fr h3 h2,vs,n,g.kp h3 h2 eP,h4,VReps.mono g h5⟩
 | .lst _,_,h=>by obtain ⟨a,h1,h2,vs,n,h3,h4,h5⟩:=h; exact ⟨a,h1,g.fr h3 h2,vs,n,g.kp h3 h2 eL,h4,VReps.mono g h5⟩
 | .dct _ _,_,h=>by obtain ⟨a,h1,h2,o,ss,ws,h3,h4,h5,h6,h7⟩:=h; exact ⟨a,h1,g.fr h3 h2,o,ss,ws,g.kp h3 h2 h6.pln,h4,h5,h6,VReps.mono g h7⟩
 | .sett _,_,h=>by obtain ⟨a,h1,h2,o,h3,h4⟩:=h; exact ⟨a,h1,g.fr h3 h2,o,g.kp h3 h2 h4.pln,h4⟩
 | .exc _,_,h=>by obtain ⟨a,h1,h2,o,h3,h4⟩:=h; obtain ⟨o',q1,q2,q3⟩:=g.ex h3 h2 h4.exo; exact ⟨a,h1,g.fr h3 h2,o',q1,h4.same q2 q3⟩
 | .obj _ _,_,h=>by obtain ⟨a,h1,h2,o,d,h3,h4,h5⟩:=h; exact ⟨a,h1,g.fr h3 h2,o,d,g.kp h3 h2 h5.pln,g.lab h4,h5⟩
 | .cel _,_,h=>by obtain ⟨a,h1,h2⟩:=h; exact ⟨a,h1,g.lab h2⟩
 | .pl _,_,h=>h.elim
theorem VReps.mono (g:Grow W W'):∀ {l:List AV} {vs:List Value},VReps C W l vs->VReps C W' l vs
 | [],_,h=>h
 | _::_,_,h=>by obtain ⟨v,vs',h1,h2,h3⟩:=h; exact ⟨v,vs',h1,VRep.mono g h2,VReps.mono g h3⟩
end
set_option tactic.hygienic false
theorem CRep.mono {h h':Heap} {a:Addr} {c:AV} (g:Grow W W') (k:∀ o,Pln o->h.get? a=some o->h'.get? a=some o) (x:CRep C W h a c):CRep C W' h' a c:=by
 cases c <;> first | exact x.elim | skip
 ·obtain ⟨vs,n,h1,h2,h3⟩:=x; exact ⟨vs,n,k _ eP h1,h2,h3.mono g⟩
 ·obtain ⟨vs,n,h1,h2,h3⟩:=x; exact ⟨vs,n,k _ eL h1,h2,h3.mono g⟩
 ·obtain ⟨o,ss,ws,h1,h2,h3,h4,h5⟩:=x; exact ⟨o,ss,ws,k _ h4.pln h1,h2,h3,h4,h5.mono g⟩
 ·obtain ⟨o,h1,h2⟩:=x; exact ⟨o,k _ h2.pln h1,h2⟩
theorem CRep.obj {h:Heap} {a:Addr} {c:AV} (x:CRep C W h a c):∃ o,h.get? a=some o/\Pln o:=by
 cases c <;> first | exact x.elim | skip
 ·obtain ⟨vs,n,h1,h2,h3⟩:=x; exact ⟨_,h1,eP⟩
 ·obtain ⟨vs,n,h1,h2,h3⟩:=x; exact ⟨_,h1,eL⟩
 ·obtain ⟨o,ss,ws,h1,h2,h3,h4,h5⟩:=x; exact ⟨o,h1,h4.pln⟩
 ·obtain ⟨o,h1,h2⟩:=x; exact ⟨o,h1,h2.pln⟩
theorem CRep.val {a:Addr} {c:AV} (x:CRep C W W.h a c) (f:W.free a):VRep C W c (.ref a):=by
 cases c <;> first | exact x.elim | exact ⟨a,rfl,f,x⟩
end
structure Ext (mu:Addr->Prop) (W W':Wd):Prop where
 dom:∀ {b:Addr} {o:Obj},W.h.get? b=some o->∃ o',W'.h.get? b=some o'
 labs:∃ r,W'.labs=W.labs++r/\∀ a ∈ r,W.mine a
 own:∀ {k:Option Str} {a:Addr},W'.own k=some a->W.mine a
 tmp:∀ {b:Addr} {o:Obj},W.h.get? b=some o->W.oth b->(W'.tmp b ↔ W.tmp b)
 fr:∀ {b:Addr} {o:Obj},W.h.get? b=some o->(W'.fr b ↔ W.fr b)
 keep:∀ {b:Addr} {o:Obj},W.h.get? b=some o->W.oth b->¬ W.fr b->Pln o->W'.h.get? b=some o
 exo:∀ {b:Addr} {o:Obj},W.h.get? b=some o->W.oth b->¬ W.fr b->Exo o->∃ o',W'.h.get? b=some o'/\Exo o'/\o'.cls=o.cls
 fc:∀ {b:Addr} {o:Obj},W.h.get? b=some o->W.fr b->¬ mu b->∃ o',W'.h.get? b=some o'/\o'.data=o.data
section
variable {mu mu':Addr->Prop} {W W' W'':Wd}
theorem aH {α:Type} {o:Option α} {a:α} (h1:o=some a) (h2:o=none):False:=by rw [h1] at h2; exact eN zBt h2 rfl
theorem oth_not {b:Addr} {o:Obj} (h:W.oth b) (e:W.h.get? b=some o):¬ W.mine b
 | .new q=>aH e q
 | .own q=>h.own _ q
theorem Ext.oth (x:Ext mu W W') {b:Addr} {o:Obj} (e:W.h.get? b=some o) (h:W.oth b):W'.oth b where
 lab:=fun q=>by
  obtain ⟨r,h1,h2⟩:=x.labs
  rw [h1] at q
  exact (zA2.mp q).elim h.lab fun z=>oth_not h e (h2 b z)
 own:=fun k q=>oth_not h e (x.own q)
theorem Ext.mine (x:Ext mu W W') {a:Addr} (h:W'.mine a):W.mine a:=by
 cases h with
 | own q=>exact x.own q
 | new q =>
  cases e:W.h.get? a with
  | none=>exact .new e
  | some o=>exact (x.dom e).elim fun _ z=>(aH z q).elim
theorem Ext.refl:Ext mu W W where
 dom:=fun e=>⟨_,e⟩
 labs:=⟨[],(zAx _).symm,fun _ q=>nomatch q⟩
 own:=.own
 tmp:=fun _ _=>.rfl
 fr:=fun _=>.rfl
 keep:=fun e _ _ _=>e
 exo:=fun e _ _ h=>⟨_,e,h,rfl⟩
 fc:=fun e _ _=>⟨_,e,rfl⟩
theorem Ext.trans (x:Ext mu W W') (y:Ext mu W' W''):Ext mu W W'' where
 dom:=fun e=>(x.dom e).elim fun _ q=>y.dom q
 labs:=by
  obtain ⟨r,h1,h2⟩:=x.labs
  obtain ⟨r',h3,h4⟩:=y.labs
  exact ⟨r++r',by rw [h3,h1,zAm],fun a q=>(zA2.mp q).elim (h2 a) fun z=>x.mine (h4 a z)⟩
 own:=fun q=>x.mine (y.own q)
 tmp:=fun e h=>(x.dom e).elim fun _ q=>(y.tmp q (x.oth e h)).trans (x.tmp e h)
 fr:=fun e=>(x.dom e).elim fun _ q=>(y.fr q).trans (x.fr e)
 keep:=fun e h f p=>y.keep (x.keep e h f p) (x.oth e h) (fun q=>f ((x.fr e).mp q)) p
 exo:=fun e h f p=>by
  obtain ⟨o',h1,h2,h3⟩:=x.exo e h f p
  obtain ⟨o'',h4,h5,h6⟩:=y.exo h1 (x.oth e h) (fun q=>f ((x.fr e).mp q)) h2
  exact ⟨o'',h4,h5,h6.trans h3⟩
 fc:=fun e h m=>by
  obtain ⟨o',h1,h2⟩:=x.fc e h m
  obtain ⟨o'',h4,h5⟩:=y.fc h1 ((x.fr e).mpr h) m
  exact ⟨o'',h4,h5.trans h2⟩
theorem Ext.weak (x:Ext mu W W') (h:∀ b,mu b->mu' b):Ext mu' W W':=⟨x.dom,x.labs,x.own,x.tmp,x.fr,x.keep,x.exo,fun e q m=>x.fc e q fun z=>m (h _ z)⟩
theorem Ext.free (x:Ext mu W W') {b:Addr} {o:Obj} (e:W.h.get? b=some o) (h:W.free b):W'.free b:=⟨x.oth e h.oth,fun q=>h.tmp ((x.tmp e h.oth).mp q),fun q=>h.fr ((x.fr e).mp q)⟩
theorem Ext.lab (x:Ext mu W W') {n:Nat} {a:Addr} (e:W.labs[n]?=some a):W'.labs[n]?=some a:=by
 obtain ⟨r,h1,_⟩:=x.labs
 rw [h1,zAt (zAz.mp e).1]; exact e
theorem Ext.grow (x:Ext mu W W'):Grow W W':=⟨x.lab,fun e h p=>x.keep e h.oth h.fr p,x.free,fun e h p=>x.exo e h.oth h.fr p⟩
end
inductive F2 {α β:Type} (R:α->β->Prop):List α->List β->Prop
 | nil:F2 R [] []
 | cons {a:α} {b:β} {l:List α} {m:List β} (h:R a b) (t:F2 R l m):F2 R (a::l) (b::m)
noncomputable abbrev Ge (h h':Heap):Prop:=∀ b o,h.get? b=some o->h'.get? b=some o
inductive RP (C:Cx) (W:Wd) (c:AV) (v:Value):Prop
 | val (r:VRep C W c v)
 | con {ad:Addr} (e:v=.ref ad) (r:CRep C W W.h ad c)
inductive Made (C:Cx) (W:Wd) (c:AV):Value->Shared->Prop
 | val {h:Heap} {tk:Nat} {v:Value} (g:Ge W.h h) (k:fJ c=false) (r:VRep C (W.to h tk) c v):Made C W c v { W.s with heap:=h,toks:=tk }
 | new {h:Heap} {tk:Nat} {ad:Addr} (g:Ge W.h h) (n:W.h.get? ad=none) (r:CRep C W h ad c):Made C W c (.ref ad) { W.s with heap:=h,toks:=tk }
noncomputable def cW (C:Cx) (b:BiE):Prop:=∀ (A:Around) (W:Wd) (k:Bool) (t:Tok) (cs:List AV) (vs:List Value) (c:AV) (E:Value->Shared->Prop),(k=true ∨ b.free=true->A.handled=none)->A.units<=8000->1 < W.h.objs.size->F2 (RP C W) cs vs->b.den k cs=some c->wpAny C.M A (call b.val vs (if k then [(("default":Str),.int 0 t)] else [])) (Made C W c) E W.s
structure FnOk (h:Heap) (fn:Fn) (a:Addr) (o:Obj) (fd:FuncData):Prop where
 obj:h.get? a=some o
 dat:o.data=.func fd
 body:fd.body=.stmts fn.body
 names:fd.scope.names=fn.names
 kind:fd.scope.kind=.function
 co:fd.scope.isCoroutine=false
 gen:fd.scope.isGenerator=false
 clo:fd.closure=[]
 glob:fd.globals=mainGlobals
 blt:fd.builtins=builtinsNs
 code:h.CodeRec fd.code fd.qualname
 bind:∀ vals:List Value,vals.length=fn.params.length->bindArgs fd ⟨vals,[]⟩=pure (fn.params.zip vals)
structure FnWr (fn:Fn):Prop where
 nodup:fn.params.Nodup
 par:∀ x ∈ fn.params,fn.names.lookup x=some .local ∨ fn.names.lookup x=some .cell
 nofree:∀ x,fn.names.lookup x ≠ some .free
inductive XOwn (C:Cx) (h:Heap) (c:Str):Prop
 | mk (a:Addr) (bm:List Value) (newId initId B:String) (hca:C.clsA c=some a) (hO:PyProof.Rows.OwnCls c a bm newId C.mg h) (hB:ExcBaseFacts B newId initId bm)
structure XcOk (C:Cx) (h:Heap):Prop where
 own:∀ c,C.P.isX c=true->XOwn C h c
 mat:∀ c d a b,C.P.isX c=true->C.P.isX d=true->C.clsA c=some a->C.clsA d=some b->∀ (e:Addr) (oe:Obj) (A:Around) (Q:Bool->Shared->Prop) (E:Value->Shared->Prop) (s:Shared),s.heap=h->h.get? e=some oe->oe.cls=.ref a ->
  Q (C.P.sub c d) s->wpAny C.M A (excMatches (.ref e) (.ref b)) Q E s
inductive ClsOk (C:Cx) (h:Heap) (c:Str):Prop
 | mk (a N:Addr) (nm q:Str) (bs:List Value) (sn:List Str) (sub:List Value) (col:Option Bool) (dd:Option Addr) (k0 k1 k2 k3 k5:Option Value) (mN:Str->Option Value) (z1:C.clsA c=some a) (z2:C.mg c=some (.ref a)) (hC:h.get? a=some (excClassObj nm q a N bs [.type "object"] true sn sub false col dd k0 k1 k2 k3 k5 "object.__new__")) (hN:h.Ns N mN)
  (hf:∀ f ∈ C.P.flds,mN f=none) (hg:mN "__getattribute__"=none/\mN "__getattr__"=none/\mN "__setattr__"=none)
  (hm:∀ m fn,C.P.find c m=some fn->∃ fa o,C.fnA c m=some fa/\mN m=some (.ref fa)/\h.get? fa=some o/\o.cls=.type "function")
structure StatH (C:Cx) (h:Heap):Prop where
 xc:XcOk C h
 cl:∀ c,C.P.isCls c=true->ClsOk C h c
 nolimit:h.NoLimit
 fn:∀ c f fn,C.P.find c f=some fn->∃ a,C.fnA c f=some a/\FnOk h fn a (C.fnO a) (C.fnD a)
 ns:h.Ns mainGlobals C.mg
 nb:h.Ns builtinsNs C.mb
noncomputable def stdNames:List (Str × Value):=[("range",.type "range"),("zip",.type "zip"),("enumerate",.type "enumerate"),("reversed",.type "reversed"),("isinstance",.builtin "isinstance"),("tuple",.type "tuple"),("int",.type "int"),("bool",.type "bool"),("str",.type "str"),("list",.type "list"),("dict",.type "dict")]
structure CxOk (C:Cx):Prop where
 st:∀ h:Heap,Ge C.s0.heap h->StatH C h
 wr:∀ c f fn,C.P.find c f=some fn->FnWr fn
 fnG:∀ f fn,C.P.find ⟨#[]⟩ f=some fn->∃ a,C.fnA ⟨#[]⟩ f=some a/\C.mg f=some (.ref a)
 const:∀ x i,C.P.consts.lookup x=some i->∃ t,C.mg x=some (.int i t)
 bi:∀ id b,aK id C.P.bi=some b->fA (bZ C.P id)=true->C.mg id=none/\C.mb id=some b.val
 bis:∀ p ∈ C.P.bi,(∀ a,p.2.val ≠ .ref a)/\cW C p.2
 std:∀ id v,stdNames.lookup id=some v->fA (bZ C.P id)=true->C.mg id=none/\C.mb id=some v
 fld:∀ f ∈ C.P.flds,typeLookup (.type "object") f=(Pure.pure none:Sem (Option Value))
 mth:∀ f ∈ C.P.mths,typeLookup (.type "object") f=(Pure.pure none:Sem (Option Value))/\f ∉ C.P.flds
structure Loose (C:Cx) (W:Wd) (b:Addr):Prop where
 st:C.s0.heap.get? b=none
 fr:W.free b
structure ExO (z:Bool) (C:Cx) (h:Heap) (c:Str) (e:Addr) (oe:Obj) (vs:Array Value):Prop where
 obj:h.get? e=some oe
 is:ExcO C c oe
 dat:oe.data=.fields vs
 ctx:z=true->vs[2]?=some .none
structure TbO (h:Heap) (e T:Addr) (vs:Array Value) (oT:Obj) (ts:Array Value) (fl:Value):Prop where
 at1:vs[1]?=some (.ref T)
 ne:T ≠ e
 obj:h.get? T=some oT
 exo:Exo oT
 dat:oT.data=.fields ts
 fl:ts[3]?=some fl
inductive IsTraced (z:Bool) (C:Cx) (W:Wd) (c:Str):Value->Prop
 | mk {e T:Addr} {oe oT:Obj} {vs ts:Array Value} {fl:Value} (l:Loose C W e) (lT:Loose C W T) (x:ExO z C W.h c e oe vs) (t:TbO W.h e T vs oT ts fl):IsTraced z C W c (.ref e)
inductive IsTrace (z:Bool) (C:Cx) (W:Wd) (c:Str):Value->Prop
 | no {e:Addr} {oe:Obj} {vs:Array Value} (l:Loose C W e) (x:ExO z C W.h c e oe vs) (h:vs[1]?=some .none):IsTrace z C W c (.ref e)
 | yes {v:Value} (t:IsTraced z C W c v):IsTrace z C W c v
inductive FRep (C:Cx) (W:Wd) (l:List (Str × AV)) (m:Str->Option Value):Prop
 | mk (non:∀ f,fV f l=none->m f=none) (val:∀ f av,fV f l=some av->∃ v,m f=some v/\VRep C W av v) (mem:∀ f av,fV f l=some av->f ∈ C.P.flds)
noncomputable def ORep (C:Cx) (W:Wd) (a:Addr):AO->Prop
 | .cont c=>CRep C W W.h a c
 | .flds l=>∃ m,W.h.Ns1 a m/\FRep C W l m
noncomputable def LRep (C:Cx) (W:Wd) (x:Str):LV->Value->Prop
 | .val a,v=>VRep C W a v
 | .own c,v=>∃ a,v=.ref a/\W.own (some x)=some a/\CRep C W W.h a c
structure InvC (C:Cx) (frs:List Env) (W:Wd) (st:St):Prop where
 sh:∃ h tk,W.s={ C.s0 with heap:=h,toks:=tk }
 stat:Ge C.s0.heap W.h
 lo:∀ b,¬ W.free b->C.s0.heap.get? b=none/\∃ o,W.h.get? b=some o
 nd:W.labs.Nodup
 ol:∀ k b,W.own k=some b->b ∉ W.labs/\¬ W.tmp b
 oi:∀ k k' b,W.own k=some b->W.own k'=some b->k=k'
 tl:∀ b,W.tmp b->b ∉ W.labs
 fl:∀ b,W.fr b->W.oth b/\¬ W.tmp b/\∀ o vs,W.h.get? b=some o->o.data ≠ .fields vs
 frs:∀ e ∈ frs,e.scope.kind ≠ .module/\∃ L,e.frame=some L/\W.fr L
 len:st.length=W.labs.length
 objs:∀ (n:Nat) (o:AO),st[n]?=some o->∃ a,W.labs[n]?=some a/\ORep C W a o
inductive RetP (z:Bool) (C:Cx) (frs:List Env) (W:Wd) (r:Ret):Result->Shared->Prop
 | ok {a:AV} {st:St} {v:Value} {W':Wd} (e:r=.ok a st) (x:Ext (fun _=>False) W W') (i:InvC C frs W' st) (o:∀ k,W'.own k=none) (q:VRep C W' a v):RetP z C frs W r (.ok (.ret v)) W'.s
 | exc {c:Str} {st:St} {v:Value} {W':Wd} (e:r=.exc c st) (x:Ext (fun _=>False) W W') (i:InvC C frs W' st) (o:∀ k,W'.own k=none) (t:IsTraced z C W' c v):RetP z C frs W r (.error v) W'.s
noncomputable def Room (A:Around) (n:Nat):Prop:=A.depth+n<=900/\A.units+4 * n<=7900
noncomputable def jD (C:Cx) (n:Nat) (call:Str->Str->List AV->St->Ret):Prop :=
 ∀ (c f:Str) (vs:List AV) (st:St),call c f vs st ≠ .stuck->∀ (A:Around) (frs:List Env) (W:Wd) (args:List Value) (fa:Addr),
  InvC C frs W st->(∀ k,W.own k=none)->VReps C W vs args->C.fnA c f=some fa->A.handled=none->A.frames=some frs->Room A n ->
  codeAny C.M A (.call (.ref fa) ⟨args,[]⟩) (RetP true C frs W (call c f vs st)) W.s
structure Fx where
 C:Cx
 T:Ctx
 A:Around
 env:Env
 frs:List Env
 fn:Bool
 nms:Sc
 n:Nat
structure Fx.Ok (X:Fx):Prop where
 cx:CxOk X.C
 P:X.T.P=X.C.P
 call:X.T.free=true->jD X.C X.n X.T.call
 make:X.T.free=true->∃ K,jD X.C (X.n - 4) (au X.C.P K (X.n - 4))/\X.T.make=fun c vs st=>kj st.length c (au X.C.P K (X.n - 4) c "__init__" (.obj c st.length::vs) (st++[.flds []]))
 hd:X.T.free=true->X.A.handled=none
 frames:X.A.frames=some X.frs
 kind:X.env.scope.kind=.function
 loc:∀ x,X.nms.lookup x=some .local->X.env.kindOf x=some .local
 cel:∀ x,(X.nms.lookup x=some .cell ∨ X.nms.lookup x=some .free)->(X.env.kindOf x=some .cell ∨ X.env.kindOf x=some .free)/\∃ c,X.env.cells.lookup x=some c
 glob:∀ x,X.nms.lookup x=some .globalImplicit->X.env.kindOf x=some .globalImplicit
 fcell:X.fn=true->∀ x,X.nms.lookup x=some .cell->X.env.kindOf x=some .cell
 inj:∀ x y c,X.env.cells.lookup x=some c->X.env.cells.lookup y=some c->x=y
 cl:∀ x c,X.env.cells.lookup x=some c->c ≠ X.env.locals
 room:Room X.A X.n
 globals:X.env.globals=mainGlobals
 builtins:X.env.builtins=builtinsNs
 frm:∃ e r,X.frs=e::r/\e.frame=X.env.frame
noncomputable def Fx.mu (X:Fx) (b:Addr):Prop:=b=X.env.locals ∨ (X.fn=true/\∃ x,X.env.cells.lookup x=some b)
inductive Fx.Val (X:Fx) (h:Heap) (x:Str) (v:Value):Prop
 | loc {m:Str->Option Value} (k:X.env.kindOf x=some .local) (n:h.Ns X.env.locals m) (e:m x=some v)
 | cell {c:Addr} (k:X.env.kindOf x=some .cell ∨ X.env.kindOf x=some .free) (l:X.env.cells.lookup x=some c) (e:h.IsCell c (some v))
structure InvF (X:Fx) (loc:bp) (W:Wd):Prop where
 lc:W.fr X.env.locals
 ns:∃ m,W.h.Ns X.env.locals m
 cells:∀ x c,X.env.cells.lookup x=some c->W.fr c/\∃ v,W.h.IsCell c v
 vars:∀ x lv,fG X.nms x=true->al (aJ x X.nms) loc=some lv->∃ v,X.Val W.h x v/\LRep X.C W x lv v
structure Inv (X:Fx) (S:S) (W:Wd):Prop where
 c:InvC X.C X.frs W S.st
 f:InvF X S.loc W
noncomputable abbrev EX (X:Fx) (ev:Bool) (W W':Wd):Prop:=Ext (fun b=>ev=false/\X.mu b) W W'
structure Good (X:Fx) (ev:Bool) (W:Wd) (S:S) (W':Wd):Prop where
 ext:EX X ev W W'
 inv:Inv X S W'
inductive OkP {α β:Type} (X:Fx) (ev:Bool) (R:Wd->β->α->Prop) (W:Wd) (o:Out β) (a:α):Shared->Prop
 | mk {b:β} {S:S} {W':Wd} (e:o=.ok b S) (g:Good X ev W S W') (r:R W' b a):OkP X ev R W o a W'.s
inductive ErP {β:Type} (X:Fx) (ev:Bool) (W:Wd) (o:Out β) (v:Value):Shared->Prop
 | mk {c:Str} {S:S} {W':Wd} (e:o=.exc c S) (g:Good X ev W S W') (t:IsTrace X.A.handled.isNone X.C W' c v):ErP X ev W o v W'.s
noncomputable def Snd {α β:Type} (X:Fx) (ev:Bool) (R:Wd->β->α->Prop) (m:Sem α) (o:Out β) (W:Wd):Prop :=
 o ≠ .stuck->wpAny X.C.M X.A m (OkP X ev R W o) (ErP X ev W o) W.s
noncomputable abbrev RV (X:Fx):Wd->AV->Value->Prop:=fun W a v=>VRep X.C W a v
section
variable {X:Fx} {ev:Bool} {α β γ δ:Type} {R:Wd->β->α->Prop} {R':Wd->δ->γ->Prop} {W W' W'':Wd} {S S':Mine.S}
theorem Good.refl (I:Inv X S W):Good X ev W S W:=⟨.refl,I⟩
theorem Good.trans (a:Good X ev W S W') (b:Good X ev W' S' W''):Good X ev W S' W'':=⟨a.ext.trans b.ext,b.inv⟩
theorem Good.weak (a:Good X ev W S W'):Good X false W S W':=⟨a.ext.weak fun _ q=>⟨rfl,q.2⟩,a.inv⟩
theorem OkP.pre {o:Out β} {a:α} {s:Shared} (g:Good X ev W S W') (x:OkP X ev R W' o a s):OkP X ev R W o a s:=by cases x with | mk e g' r=>exact .mk e (g.trans g') r
theorem ErP.pre {o:Out β} {v:Value} {s:Shared} (g:Good X ev W S W') (x:ErP X ev W' o v s):ErP X ev W o v s:=by cases x with | mk e g' r=>exact .mk e (g.trans g') r
theorem Snd.stk {m:Sem α}:Snd X ev R m .stuck W:=fun h=>absurd rfl h
theorem Snd.pure {a:α} {b:β} (I:Inv X S W) (h:R W b a):Snd X ev R (Pure.pure a) (.ok b S) W:=fun _=>zAk (.mk rfl (.refl I) h)
theorem Snd.bind {m:Sem α} {k:α->Sem γ} {o:Out β} {f:β->D δ} (h1:Snd X ev R m o W) (h2:∀ b a S' W',o=.ok b S'->Good X ev W S' W'->R W' b a->Snd X ev R' (k a) (f b S') W'):Snd X ev R' (m >>= k) (ax o f) W:=fun hne=>by
 have h0:o ≠ .stuck:=fun q=>hne (by rw [q]; rfl)
 refine zAa (zAv (h1 h0) (fun a s' q=>?_) fun e s' q=>?_)
 ·cases q with
  | mk e g r =>
   have:=h2 _ a _ _ e g r
   subst e
   exact zAv (this hne) (fun _ _ q=>q.pre g) fun _ _ q=>q.pre g
 ·cases q with
  | mk e g t=>subst e; exact .mk rfl g t
theorem Snd.step {m:Sem α} {k:α->Sem γ} {o:Out δ} (h:∀ E,wpAny X.C.M X.A m (fun a s'=>∃ W',W'.s=s'/\Good X ev W S W'/\Snd X ev R' (k a) o W') E W.s):Snd X ev R' (m >>= k) o W:=fun hne =>
 zAa (zAv (h _) (fun a s' q=>q.elim fun W' z=>by
  obtain ⟨rfl,g,h⟩:=z
  exact zAv (h hne) (fun _ _ q=>q.pre g) fun _ _ q=>q.pre g) fun _ _ q=>q)
theorem Snd.skip {m:Sem α} {k:α->Sem γ} {o:Out δ} {a:α} (h:∀ Q E,Q a W.s->wpAny X.C.M X.A m Q E W.s) (h':Snd X ev R' (k a) o W):Snd X ev R' (m >>= k) o W:=fun hne=>zAa (h _ _ (h' hne))
theorem Snd.stand {pos:Pos} {k:Unit->Sem γ} {o:Out δ} (h:Snd X ev R' (k ()) o W):Snd X ev R' (standAt pos >>= k) o W:=.skip (fun _ _ q=>zCl q) h
theorem Snd.wp {m m':Sem α} {o:Out β} (h:Snd X ev R m o W) (k:∀ Q E,wpAny X.C.M X.A m Q E W.s->wpAny X.C.M X.A m' Q E W.s):Snd X ev R m' o W:=fun hne=>k _ _ (h hne)
theorem Snd.holding {m:Sem α} {vs:List Value} {o:Out β} (h:Snd X ev R m o W):Snd X ev R (holding vs m) o W:=h.wp fun _ _=>zA0
theorem Snd.opt {m:Sem α} {o:Option β} (h:∀ b,o=some b->wpAny X.C.M X.A m (OkP X ev R W (.ok b S)) (fun _ _=>False) W.s):Snd X ev R m (opt o S) W:=by
 cases o with
 | none=>exact .stk
 | some b=>exact fun _=>zAv (h b rfl) (fun _ _ q=>q) fun _ _ q=>q.elim
theorem Snd.mono {m:Sem α} {o:Out β} {RC:Wd->β->α->Prop} (h:Snd X ev R m o W) (k:∀ W' b a,R W' b a->RC W' b a):Snd X ev RC m o W:=fun hne=>zAv (h hne) (fun _ _ q=>by cases q with | mk e g r=>exact .mk e g (k _ _ _ r)) fun _ _ q=>q
theorem Snd.weak {m:Sem α} {o:Out β} (h:Snd X ev R m o W):Snd X false R m o W:=fun hne =>
 zAv (h hne) (fun _ _ q=>by cases q with | mk e g r=>exact .mk e g.weak r) fun _ _ q=>by cases q with | mk e g r=>exact .mk e g.weak r
theorem Snd.of_eq {m:Sem α} {o o':Out β} (h:Snd X ev R m o W) (e:o'=o):Snd X ev R m o' W:=by subst e; exact h
theorem VRep.le {C:Cx} {mu:Addr->Prop} {a:AV} {v:Value} (h:VRep C W a v) (x:Ext mu W W'):VRep C W' a v:=h.mono x.grow
theorem VReps.le {C:Cx} {mu:Addr->Prop} {a:List AV} {v:List Value} (h:VReps C W a v) (x:Ext mu W W'):VReps C W' a v:=h.mono x.grow
end
end Mine
end
section
set_option autoImplicit false
set_option linter.unusedVariables false
namespace Mine
open PySem
structure Sim (C:Cx) (W:Wd) (ex:Addr->Prop) (h':Heap):Prop where
 dom:∀ {b:Addr} {o:Obj},W.h.get? b=some o->∃ o',h'.get? b=some o'
 kp:∀ {b:Addr} {o:Obj},W.h.get? b=some o->¬ ex b->(C.s0.heap.get? b=none->Pln o/\¬ W.fr b)->h'.get? b=some o
 exo:∀ {b:Addr} {o:Obj},W.h.get? b=some o->Exo o->∃ o',h'.get? b=some o'/\Exo o'/\o'.cls=o.cls
 fc:∀ {b:Addr} {o:Obj},W.h.get? b=some o->W.fr b->∃ o',h'.get? b=some o'/\o'.data=o.data
theorem Ge.sim {C:Cx} {W:Wd} {h':Heap} (g:Ge W.h h'):Sim C W (fun _=>False) h':=⟨fun e=>⟨_,g _ _ e⟩,fun e _ _=>g _ _ e,fun e x=>⟨_,g _ _ e,x,rfl⟩,fun e _=>⟨_,g _ _ e,rfl⟩⟩
theorem Ge.refl {h:Heap}:Ge h h:=fun _ _ e=>e
theorem Ge.push {h:Heap} {o:Obj}:Ge h (h.push o):=fun _ _ e=>zAh _ e
theorem get?_size {h:Heap}:h.get? h.objs.size=none:=by
 cases e:h.get? h.objs.size with
 | none=>rfl
 | some o=>exact absurd (zA5 e) (Nat.lt_irrefl _)
section
variable {C:Cx} {X:Fx} {frs:List Env} {mu:Addr->Prop} {ev:Bool} {ex:Addr->Prop} {W W' W₀:Wd} {st:St} {S:S} {loc:bp} {h':Heap} {tk:Nat}
theorem Sim.grow (m:Sim C W ex h') (hex:∀ b,ex b->W.tmp b):Grow W (W.to h' tk) :=
 ⟨id,fun e f p=>m.kp e (fun q=>f.tmp (hex _ q)) fun _=>⟨p,f.fr⟩,fun _ f=>f,fun e _ x=>m.exo e x⟩
theorem Ext.sim (x:Ext mu W₀ W) (m:Sim C W ex h') (hex:∀ b,ex b->W₀.h.get? b=none):Ext mu W₀ (W.to h' tk) where
 dom:=fun e=>(x.dom e).elim fun _ q=>m.dom q
 labs:=x.labs
 own:=x.own
 tmp:=x.tmp
 fr:=x.fr
 keep:=fun e h f p=>m.kp (x.keep e h f p) (fun q=>aH e (hex _ q)) fun _=>⟨p,fun q=>f ((x.fr e).mp q)⟩
 exo:=fun e h f p=>by
  obtain ⟨o',h1,h2,h3⟩:=x.exo e h f p
  obtain ⟨o'',h4,h5,h6⟩:=m.exo h1 h2
  exact ⟨o'',h4,h5,h6.trans h3⟩
 fc:=fun e h p=>by
  obtain ⟨o',h1,h2⟩:=x.fc e h p
  obtain ⟨o'',h4,h5⟩:=m.fc h1 ((x.fr e).mpr h)
  exact ⟨o'',h4,h5.trans h2⟩
theorem FRep.mono {l:List (Str × AV)} {m:Str->Option Value} (g:Grow W W') (x:FRep C W l m):FRep C W' l m:=by
 cases x with | mk h1 h2 h3=>exact ⟨h1,fun f av e=>(h2 f av e).imp fun _ q=>⟨q.1,q.2.mono g⟩,h3⟩
theorem ORep.mono {a:Addr} {o:AO} (g:Grow W W') (k:∀ o,Pln o->W.h.get? a=some o->W'.h.get? a=some o) (x:ORep C W a o):ORep C W' a o:=by
 cases o with
 | cont c=>exact CRep.mono g k x
 | flds l=>exact x.imp fun m q=>⟨by
   obtain ⟨o,es,ep,h1,h2,h3⟩:=q.1
   exact ⟨o,es,ep,k o (fun z=>z.dat.elim fun _ z=>by rw [h2] at z; exact eN Data.ctorIdx z rfl) h1,h2,h3⟩,q.2.mono g⟩
theorem LRep.mono {x:Str} {lv:LV} {v:Value} (g:Grow W W') (ho:∀ a,W.own (some x)=some a->W'.own (some x)=some a/\∀ o,Pln o->W.h.get? a=some o->W'.h.get? a=some o) (r:LRep C W x lv v):LRep C W' x lv v:=by
 cases lv with
 | val a=>exact VRep.mono g r
 | own c =>
  obtain ⟨a,h1,h2,h3⟩:=r
  exact ⟨a,h1,(ho a h2).1,h3.mono g (ho a h2).2⟩
theorem InvC.mus (I:InvC C frs W st) {b:Addr} (h:¬ W.free b):∃ o,W.h.get? b=some o:=(I.lo b h).2
theorem nf_lab {b:Addr} (h:b ∈ W.labs):¬ W.free b:=fun q=>q.oth.lab h
theorem fS {k:Option Str} {b:Addr} (h:W.own k=some b):¬ W.free b:=fun q=>q.oth.own k h
theorem jG {b:Addr} (h:W.tmp b):¬ W.free b:=fun q=>q.tmp h
theorem cA {b:Addr} (h:W.fr b):¬ W.free b:=fun q=>q.fr h
theorem cr {l:List Addr} {n:Nat} {a:Addr} (h:l[n]?=some a):a ∈ l:=zDh h
theorem InvC.sim (I:InvC C frs W st) (m:Sim C W ex h') (hex:∀ b,ex b->W.tmp b):InvC C frs (W.to h' tk) st where
 sh:=I.sh.elim fun h q=>q.elim fun t e=>⟨h',tk,by show ({ W.s with heap:=h',toks:=tk }:Shared)=_; rw [e]⟩
 stat:=fun b o e=>m.kp (I.stat b o e) (fun q=>aH e (I.lo b (jG (hex b q))).1) fun q=>(aH e q).elim
 lo:=fun b h=>⟨(I.lo b h).1,(I.lo b h).2.elim fun _ q=>m.dom q⟩
 nd:=I.nd
 ol:=I.ol
 oi:=I.oi
 tl:=I.tl
 fl:=fun b q=>⟨(I.fl b q).1,(I.fl b q).2.1,fun o vs e z=>by
  obtain ⟨o',h1⟩:=I.mus (cA q)
  obtain ⟨o'',h2,h3⟩:=m.fc h1 q
  rw [h2] at e; cases e
  exact (I.fl b q).2.2 o' vs h1 (h3.symm.trans z)⟩
 frs:=I.frs
 len:=I.len
 objs:=fun n o e=>(I.objs n o e).imp fun a q=>⟨q.1,q.2.mono (m.grow hex) fun o p e=>m.kp e (fun z=>I.tl _ (hex _ z) (cr q.1)) fun _=>⟨p,fun z=>(I.fl _ z).1.lab (cr q.1)⟩⟩
theorem kR {h h':Heap} {a:Addr} {m:Str->Option Value} (x:h.Ns a m) (k:∀ o,h.get? a=some o->∃ o',h'.get? a=some o'/\o'.data=o.data):h'.Ns a m:=by
 obtain ⟨o,es,ep,h1,h2,h3⟩:=x
 obtain ⟨o',h4,h5⟩:=k o h1
 exact ⟨o',es,ep,h4,h5.trans h2,h3⟩
theorem IsCell.same {h h':Heap} {a:Addr} {v:Option Value} (x:h.IsCell a v) (k:∀ o,h.get? a=some o->∃ o',h'.get? a=some o'/\o'.data=o.data):h'.IsCell a v:=by
 obtain ⟨o,h1,h2⟩:=x
 obtain ⟨o',h4,h5⟩:=k o h1
 exact ⟨o',h4,h5.trans h2⟩
noncomputable def d6 (W:Wd) (h':Heap) (b:Addr):Prop:=∀ o,W.h.get? b=some o->∃ o',h'.get? b=some o'/\o'.data=o.data
theorem Fx.Val.same {x:Str} {v:Value} (r:X.Val W.h x v) (kl:d6 W h' X.env.locals) (kc:∀ y c,X.env.cells.lookup y=some c->d6 W h' c):X.Val h' x v:=by
 cases r with
 | loc k n e=>exact .loc k (kR n kl) e
 | cell k l e=>exact .cell k l (IsCell.same e (kc _ _ l))
theorem Fx.Val.inj {h:Heap} {x:Str} {v v':Value} (a:X.Val h x v) (b:X.Val h x v'):v=v':=by
 cases a with
 | loc k n e=>cases b with
  | loc k' n' e' =>
   obtain ⟨o,es,ep,h1,h2,_,h4⟩:=n
   obtain ⟨o',es',ep',q1,q2,_,q4⟩:=n'
   rw [h1] at q1; cases q1
   rw [h2] at q2; cases q2
   exact Option.some.inj (e.symm.trans ((h4 x).symm.trans ((q4 x).trans e')))
  | cell k' l e'=>rcases k' with q | q <;> rw [k] at q <;> cases q
 | cell k l e=>cases b with
  | loc k' n' e'=>rcases k with q | q <;> rw [k'] at q <;> cases q
  | cell k' l' e' =>
   rw [l] at l'; cases l'
   obtain ⟨o,h1,h2⟩:=e
   obtain ⟨o',q1,q2⟩:=e'
   rw [h1] at q1; cases q1
   rw [h2] at q2; injection q2 with q2; exact Option.some.inj q2
theorem InvF.mono (I:InvF X loc W) (g:Grow W W') (kf:∀ b,W.fr b->W'.fr b) (kl:d6 W W'.h X.env.locals) (kc:∀ y c,X.env.cells.lookup y=some c->d6 W W'.h c)
  (ho:∀ x a,W.own (some x)=some a->W'.own (some x)=some a/\∀ o,Pln o->W.h.get? a=some o->W'.h.get? a=some o):InvF X loc W' where
 lc:=kf _ I.lc
 ns:=I.ns.imp fun _ q=>kR q kl
 cells:=fun x c e=>⟨kf _ (I.cells x c e).1,(I.cells x c e).2.imp fun _ q=>IsCell.same q (kc x c e)⟩
 vars:=fun x lv hn e=>(I.vars x lv hn e).imp fun v q=>⟨q.1.same kl kc,q.2.mono g (ho x)⟩
theorem Inv.fcSame (I:InvF X loc W) (m:∀ {b:Addr} {o:Obj},W.h.get? b=some o->W.fr b->∃ o',h'.get? b=some o'/\o'.data=o.data):d6 W h' X.env.locals/\∀ y c,X.env.cells.lookup y=some c->d6 W h' c :=
 ⟨fun o e=>m e I.lc,fun y c e o h=>m h (I.cells y c e).1⟩
theorem Inv.sim (I:Inv X S W) (m:Sim X.C W ex h') (hex:∀ b,ex b->W.tmp b):Inv X S (W.to h' tk) where
 c:=I.c.sim m hex
 f:=I.f.mono (m.grow hex) (fun _ q=>q) (Inv.fcSame I.f m.fc).1 (Inv.fcSame I.f m.fc).2 fun x a q=>⟨q,fun o p e=>m.kp e (fun z=>(I.c.ol _ _ q).2 (hex _ z)) fun _=>⟨p,fun z=>(I.c.fl _ z).1.own _ q⟩⟩
theorem Good.sim (G:Good X ev W₀ S W) (m:Sim X.C W ex h') (hex:∀ b,ex b->W.tmp b/\W₀.h.get? b=none):Good X ev W₀ S (W.to h' tk) :=
 ⟨G.ext.sim m fun b q=>(hex b q).2,G.inv.sim m fun b q=>(hex b q).1⟩
theorem Inv.ge (I:Inv X S W) (g:Ge W.h h') (tk:Nat):Good X ev W S (W.to h' tk):=(Good.refl I).sim (ex:=fun _=>False) g.sim fun _ q=>q.elim
theorem Inv.toks (I:Inv X S W) (tk:Nat):Good X ev W S (W.to W.h tk):=I.ge .refl tk
theorem Grow.less {own':Option Str->Option Addr} (h:∀ k b,own' k=some b->∃ k',W.own k'=some b):Grow W { W with own:=own' } :=
 ⟨id,fun e _ _=>e,fun _ f=>⟨⟨f.oth.lab,fun k q=>(h k _ q).elim fun _ z=>f.oth.own _ z⟩,f.tmp,f.fr⟩,fun e _ x=>⟨_,e,x,rfl⟩⟩
theorem Ext.less {own':Option Str->Option Addr} (h:∀ k b,own' k=some b->∃ k',W.own k'=some b):Ext mu W { W with own:=own' } where
 dom:=fun e=>⟨_,e⟩
 labs:=⟨[],(zAx _).symm,fun _ q=>nomatch q⟩
 own:=fun q=>(h _ _ q).elim fun _ z=>.own z
 tmp:=fun _ _=>.rfl
 fr:=fun _=>.rfl
 keep:=fun e _ _ _=>e
 exo:=fun e _ _ x=>⟨_,e,x,rfl⟩
 fc:=fun e _ _=>⟨_,e,rfl⟩
theorem InvC.less {own':Option Str->Option Addr} (I:InvC C frs W st) (h:∀ k b,own' k=some b->∃ k',W.own k'=some b) (hi:∀ k k' b,own' k=some b->own' k'=some b->k=k'):InvC C frs { W with own:=own' } st where
 sh:=I.sh
 stat:=I.stat
 lo:=fun b q=>I.lo b fun f=>q ⟨⟨f.oth.lab,fun k z=>(h k _ z).elim fun _ z=>f.oth.own _ z⟩,f.tmp,f.fr⟩
 nd:=I.nd
 ol:=fun k b q=>(h k b q).elim fun k' z=>I.ol k' b z
 oi:=hi
 tl:=I.tl
 fl:=fun b q=>⟨⟨(I.fl b q).1.lab,fun k z=>(h k _ z).elim fun _ z=>(I.fl b q).1.own _ z⟩,(I.fl b q).2⟩
 frs:=I.frs
 len:=I.len
 objs:=fun n o e=>(I.objs n o e).imp fun a q=>⟨q.1,q.2.mono (Grow.less h) fun _ _ e=>e⟩
noncomputable def jE (own:Option Str->Option Addr) (k:Option Str) (a:Option Addr):Option Str->Option Addr:=fun j=>if j=k then a else own j
theorem cB {own:Option Str->Option Addr} {k:Option Str} {a:Option Addr}:jE own k a k=a:=if_pos rfl
theorem c9 {own:Option Str->Option Addr} {k j:Option Str} {a:Option Addr} (h:j ≠ k):jE own k a j=own j:=if_neg h
theorem aN {own:Option Str->Option Addr} {k j:Option Str} {b:Addr} (h:jE own k none j=some b):j ≠ k/\own j=some b:=by
 by_cases q:j=k
 ·subst q; rw [cB] at h; exact aD h
 ·rw [c9 q] at h; exact ⟨q,h⟩
theorem setV {own:Option Str->Option Addr} {x:Str} {r:Option Addr} {a:Addr} (q:own (some x)=some a):jE own none r (some x)=some a:=(if_neg nofun).trans q
noncomputable abbrev Wd.drp (W:Wd) (k:Option Str):Wd:=⟨W.labs,jE W.own k none,W.tmp,W.fr,W.s⟩
noncomputable abbrev Wd.res (W:Wd) (h:Heap) (tk:Nat) (ad:Addr):Wd:=⟨W.labs,jE W.own none (some ad),W.tmp,W.fr,{ W.s with heap:=h,toks:=tk }⟩
theorem InvC.drop (I:InvC C frs W st) (k:Option Str):InvC C frs (W.drp k) st :=
 I.less (fun _ _ q=>⟨_,(aN q).2⟩) fun _ _ _ q q'=>I.oi _ _ _ (aN q).2 (aN q').2
end
section
variable {C:Cx} {X:Fx} {frs:List Env} {mu:Addr->Prop} {ev:Bool} {ex:Addr->Prop} {W W' W₀:Wd} {st:St} {S:S} {loc:bp} {h':Heap} {tk:Nat}
theorem Grow.fresh {ad:Addr} {own':Option Str->Option Addr} {labs':List Addr} (g:Ge W.h h') (n:W.h.get? ad=none) (hl:∃ r,labs'=W.labs++r/\∀ a ∈ r,a=ad) (ho:∀ k a,own' k=some a->a=ad ∨ ∃ k',W.own k'=some a):Grow W ⟨labs',own',W.tmp,W.fr,{ W.s with heap:=h',toks:=tk }⟩:=by
 obtain ⟨r,rfl,hr⟩:=hl
 have ne:∀ {b:Addr} {o:Obj},W.h.get? b=some o->b ≠ ad:=fun e q=>aH e (q ▸ n)
 exact ⟨fun e=>(zAt (zAz.mp e).1).trans e,fun e _ _=>g _ _ e,
  fun e f=>⟨⟨fun q=>(zA2.mp q).elim f.oth.lab fun z=>ne e (hr _ z),fun k q=>(ho k _ q).elim (ne e) fun z=>z.elim fun _ z=>f.oth.own _ z⟩,f.tmp,f.fr⟩,fun e _ x=>⟨_,g _ _ e,x,rfl⟩⟩
theorem InvC.res (I:InvC C frs W st) {ad:Addr} {o:Obj} (g:Ge W.h h') (n:W.h.get? ad=none) (ho:h'.get? ad=some o):InvC C frs (W.res h' tk ad) st:=by
 have gr:Grow W (W.res h' tk ad):=Grow.fresh g n ⟨[],(zAx _).symm,fun _ q=>nomatch q⟩ fun k a q=>by
  by_cases hk:k=none
  ·subst hk; rw [cB] at q; exact .inl (Option.some.inj q).symm
  ·rw [c9 hk] at q; exact .inr ⟨k,q⟩
 have ow:∀ {k b},jE W.own none (some ad) k=some b->(k=none/\b=ad) ∨ (k ≠ none/\W.own k=some b):=fun {k b} q=>by
  by_cases hk:k=none
  ·subst hk; rw [cB] at q; exact .inl ⟨rfl,(Option.some.inj q).symm⟩
  ·rw [c9 hk] at q; exact .inr ⟨hk,q⟩
 have na:∀ {b},¬ W.free b->b ≠ ad:=fun h q=>(I.mus h).elim fun _ z=>aH z (q ▸ n)
 exact {
  sh:=I.sh.elim fun h q=>q.elim fun t e=>⟨h',tk,by show ({ W.s with heap:=h',toks:=tk }:Shared)=_; rw [e]⟩
  stat:=fun b o e=>g _ _ (I.stat b o e)
  lo:=fun b h=>by
   by_cases hb:b=ad
   ·subst hb
    refine ⟨?_,o,ho⟩
    cases e:C.s0.heap.get? b with
    | none=>rfl
    | some o=>exact (aH (I.stat _ _ e) n).elim
   ·have:¬ W.free b:=fun f=>h ⟨⟨f.oth.lab,fun k q=>(ow q).elim (fun z=>hb z.2) fun z=>f.oth.own _ z.2⟩,f.tmp,f.fr⟩
    exact ⟨(I.lo b this).1,(I.lo b this).2.imp fun _ q=>g _ _ q⟩
  nd:=I.nd
  ol:=fun k b q=>by
   rcases ow q with ⟨_,rfl⟩ | ⟨_,q⟩
   ·exact ⟨fun z=>na (nf_lab z) rfl,fun z=>na (jG z) rfl⟩
   ·exact I.ol k b q
  oi:=fun k k' b q q'=>by
   rcases ow q with ⟨h1,h2⟩ | ⟨h1,h2⟩ <;> rcases ow q' with ⟨h3,h4⟩ | ⟨h3,h4⟩
   ·rw [h1,h3]
   ·exact absurd h2 (na (fS h4))
   ·exact absurd h4 (na (fS h2))
   ·exact I.oi _ _ _ h2 h4
  tl:=I.tl
  fl:=fun b q=>⟨⟨(I.fl b q).1.lab,fun k z=>(ow z).elim (fun z=>na (cA q) z.2) fun z=>(I.fl b q).1.own _ z.2⟩,(I.fl b q).2.1,fun o vs e=>(I.mus (cA q)).elim fun o' z=>(I.fl b q).2.2 o vs (z.trans ((g _ _ z).symm.trans e))⟩
  frs:=I.frs
  len:=I.len
  objs:=fun n o e=>(I.objs n o e).imp fun a q=>⟨q.1,q.2.mono gr fun _ _ e=>g _ _ e⟩ }
theorem Inv.res (I:Inv X S W) {ad:Addr} {o:Obj} (g:Ge W.h h') (n:W.h.get? ad=none) (ho:h'.get? ad=some o) :
  Good X ev W S (W.res h' tk ad)/\Grow W (W.res h' tk ad):=by
 have oo:∀ {k a},jE W.own none (some ad) k=some a->a=ad ∨ ∃ k',W.own k'=some a:=fun {k a} q=>by
  by_cases hk:k=none
  ·subst hk; rw [cB] at q; exact .inl (Option.some.inj q).symm
  ·rw [c9 hk] at q; exact .inr ⟨k,q⟩
 have gr:Grow W (W.res h' tk ad):=Grow.fresh g n ⟨[],(zAx _).symm,fun _ q=>nomatch q⟩ fun k a q=>oo q
 have same:∀ b,d6 W h' b:=fun b o e=>⟨o,g _ _ e,rfl⟩
 refine ⟨⟨⟨fun e=>⟨_,g _ _ e⟩,⟨[],(zAx _).symm,fun _ q=>nomatch q⟩,fun q=>(oo q).elim (fun z=>.new (z ▸ n)) fun z=>z.elim fun _ z=>.own z,fun _ _=>.rfl,fun _=>.rfl,fun e _ _ _=>g _ _ e,fun e _ _ x=>⟨_,g _ _ e,x,rfl⟩,fun e _ _=>⟨_,g _ _ e,rfl⟩⟩,I.c.res g n ho,?_⟩,gr⟩
 exact I.f.mono gr (fun _ q=>q) (same _) (fun _ c _=>same c) fun x a q=>⟨setV (own:=W.own) (r:=some ad) q,fun o _ e=>g _ _ e⟩
inductive RM (X:Fx) (W:Wd) (c:AV) (v:Value):Prop
 | val (k:fJ c=false) (r:VRep X.C W c v)
 | new {ad:Addr} (e:v=.ref ad) (k:fJ c=true) (o:W.own none=some ad) (r:CRep X.C W W.h ad c)
theorem kS {c:AV} {v:Value} {s':Shared} (I:Inv X S W) (m:Made X.C W c v s'):OkP X ev (RM X) W (.ok c S) v s':=by
 cases m with
 | val g k r=>exact .mk rfl (I.ge g _) (.val k r)
 | @new h tk ad g n r =>
  cases k:fJ c with
  | true =>
   obtain ⟨o,ho,_⟩:=r.obj
   obtain ⟨G,gr⟩:=I.res (ev:=ev) (tk:=tk) g n ho
   exact .mk (W':=W.res h tk ad) rfl G (.new rfl k (cB (own:=W.own) (k:=none) (a:=some ad)) (r.mono gr fun _ _ e=>e))
  | false =>
   have G:=I.ge (ev:=ev) g tk
   have f:W.free ad:=Classical.byContradiction fun h=>(I.c.mus h).elim fun _ z=>aH z n
   exact .mk (W':=W.to h tk) rfl G (.val k (CRep.val (W:=W.to h tk) (r.mono G.ext.grow fun _ _ e=>e) f))
theorem Snd.made {m:Sem Value} {o:Option AV} (I:Inv X S W) (h:∀ c,o=some c->wpAny X.C.M X.A m (Made X.C W c) (fun _ _=>False) W.s):Snd X ev (RM X) m (Mine.opt o S) W :=
 Snd.opt fun b hb=>zAv (h b hb) (fun _ _ q=>kS I q) fun _ _ q=>q
theorem Inv.drop (I:Inv X S W):Good X ev W S (W.drp none) where
 ext:=.less fun _ _ q=>⟨_,(aN q).2⟩
 inv:=⟨I.c.drop none,I.f.mono (.less fun _ _ q=>⟨_,(aN q).2⟩) (fun _ q=>q) (fun o e=>⟨o,e,rfl⟩) (fun _ _ _ o e=>⟨o,e,rfl⟩) fun x a q=>⟨setV (own:=W.own) (r:=none) q,fun _ _ e=>e⟩⟩
theorem RM.freeze {c:AV} {v:Value} (I:Inv X S W) (r:RM X W c v):∃ W',W'.s=W.s/\Good X ev W S W'/\VRep X.C W' c v:=by
 cases r with
 | val k r=>exact ⟨W,rfl,.refl I,r⟩
 | new e k o r =>
  subst e
  refine ⟨W.drp none,rfl,I.drop,CRep.val (W:=(W.drp none)) (r.mono (.less fun _ _ q=>⟨_,(aN q).2⟩) fun _ _ e=>e) ⟨⟨(I.c.ol _ _ o).1,fun k q=>?_⟩,(I.c.ol _ _ o).2,fun q=>(I.c.fl _ q).1.own _ o⟩⟩
  exact (aN q).1 (I.c.oi _ _ _ (aN q).2 o)
theorem Snd.freeze {m:Sem Value} {o:Out AV} (h:Snd X ev (RM X) m o W):Snd X ev (RV X) m o W:=fun hne =>
 zAv (h hne) (fun v s' q=>by
  cases q with
  | mk e g r =>
   obtain ⟨W',e',g',r'⟩:=r.freeze (ev:=ev) g.inv
   rw [← e']
   exact .mk e (g.trans g') r') fun _ _ q=>q
theorem last_get {α:Type} {l:List α} {a o:α} {m:Nat} (hm:l.length<=m) (e:(l++[a])[m]?=some o):m=l.length/\o=a:=by
 have h1:=(zAz.mp e).1
 rw [zAc] at h1
 obtain rfl:m=l.length:=zDo (Nat.le_of_lt_succ h1) hm
 rw [zCu] at e
 exact ⟨rfl,(Option.some.inj e).symm⟩
noncomputable abbrev Wd.cel (W:Wd) (ad:Addr):Wd:=⟨W.labs++[ad],jE W.own none none,W.tmp,W.fr,W.s⟩
theorem Grow.cel {ad:Addr} (ho:W.own none=some ad):Grow W (W.cel ad) :=
 ⟨fun e=>(zAt (zAz.mp e).1).trans e,fun e _ _=>e,
  fun e f=>⟨⟨fun q=>(zA2.mp q).elim f.oth.lab fun z=>f.oth.own none (zAi.mp z ▸ ho),fun k q=>f.oth.own _ (aN q).2⟩,f.tmp,f.fr⟩,fun e _ x=>⟨_,e,x,rfl⟩⟩
theorem InvC.cel (I:InvC C frs W st) {ad:Addr} {ao:AO} (ho:W.own none=some ad) (r:ORep C W ad ao):InvC C frs (W.cel ad) (st++[ao]) where
 sh:=I.sh
 stat:=I.stat
 lo:=fun b h=>I.lo b fun f=>h ⟨⟨fun q=>(zA2.mp q).elim f.oth.lab fun z=>f.oth.own none (zAi.mp z ▸ ho),fun k q=>f.oth.own _ (aN q).2⟩,f.tmp,f.fr⟩
 nd:=List.nodup_append.mpr ⟨I.nd,List.pairwise_singleton _ _,fun a h b hb q=>(I.ol _ _ ho).1 (zAi.mp hb ▸ q ▸ h)⟩
 ol:=fun k b q=>⟨fun z=>(zA2.mp z).elim (I.ol _ _ (aN q).2).1 fun z=>(aN q).1 (I.oi _ _ _ (aN q).2 (zAi.mp z ▸ ho)),(I.ol _ _ (aN q).2).2⟩
 oi:=fun k k' b q q'=>I.oi _ _ _ (aN q).2 (aN q').2
 tl:=fun b q z=>(zA2.mp z).elim (I.tl b q) fun z=>(I.ol _ _ ho).2 (zAi.mp z ▸ q)
 fl:=fun b q=>⟨⟨fun z=>(zA2.mp z).elim (I.fl b q).1.lab fun z=>(I.fl b q).1.own none (zAi.mp z ▸ ho),fun k z=>(I.fl b q).1.own _ (aN z).2⟩,(I.fl b q).2⟩
 frs:=I.frs
 len:=by show (st++[ao]).length=(W.labs++[ad]).length; rw [zAc,zAc,I.len]; rfl
 objs:=fun n o e=>by
  rcases Nat.lt_or_ge n st.length with hm | hm
  ·rw [zAt hm] at e
   exact (I.objs n o e).imp fun a q=>⟨(Grow.cel ho).lab q.1,q.2.mono (Grow.cel ho) fun _ _ e=>e⟩
  ·obtain ⟨rfl,rfl⟩:=last_get hm e
   exact ⟨ad,by show (W.labs++[ad])[st.length]?=_; rw [I.len]; exact zCu,r.mono (Grow.cel ho) fun _ _ e=>e⟩
theorem Ext.cel {ad:Addr} (ho:W.own none=some ad):Ext mu W (W.cel ad) where
 dom:=fun e=>⟨_,e⟩
 labs:=⟨[ad],rfl,fun a q=>zAi.mp q ▸ .own ho⟩
 own:=fun q=>.own (aN q).2
 tmp:=fun _ _=>.rfl
 fr:=fun _=>.rfl
 keep:=fun e _ _ _=>e
 exo:=fun e _ _ x=>⟨_,e,x,rfl⟩
 fc:=fun e _ _=>⟨_,e,rfl⟩
theorem Inv.cel (I:Inv X S W) {ad:Addr} {c:AV} (ho:W.own none=some ad) (r:CRep X.C W W.h ad c):Good X ev W ⟨S.loc,S.st++[.cont c]⟩ (W.cel ad) where
 ext:=.cel ho
 inv:=⟨I.c.cel ho (ao:=.cont c) r,I.f.mono (.cel ho) (fun _ q=>q) (fun o e=>⟨o,e,rfl⟩) (fun _ _ _ o e=>⟨o,e,rfl⟩) fun x a q=>⟨setV (own:=W.own) (r:=none) q,fun _ _ e=>e⟩⟩
theorem Snd.toCel {m:Sem Value} {o:Out AV} (h:Snd X ev (RM X) m o W):Snd X ev (RV X) m (ax o toCel) W:=fun hne =>
 zAv (h fun q=>hne (by rw [q]; rfl)) (fun v s' q=>by
  cases q with
  | @mk b S W' e g r =>
   subst e
   cases r with
   | val k r=>exact .mk (by show (if fJ b=true then _ else _)=_; rw [if_neg (by rw [k]; exact zAq)]) g r
   | @new ad e' k o r =>
    subst e'
    have hv:VRep X.C (W'.cel ad) (.cel S.st.length) (.ref ad):=⟨ad,rfl,by
     show (W'.labs++[ad])[S.st.length]?=_
     rw [g.inv.c.len]; exact zCu⟩
    exact .mk (W':=W'.cel ad) (show (if fJ b=true then _ else _)=_ from if_pos k) (g.trans (g.inv.cel o r)) hv) fun _ _ q=>by cases q with | mk e g t=>subst e; exact .mk rfl g t
end
end Mine
end
section
set_option autoImplicit false
set_option linter.unusedVariables false
namespace Mine
open PySem PyProof.Rows
theorem beq_nat {a b:Nat}:zA9 a b=true ↔ a=b:=⟨zBs,fun h=>by subst h; exact Nat.beq_refl a⟩
theorem eo {α:Type} {x:Nat} {v:α}:∀ {l:List (Nat × α)},al x (ai x v l)=some v
 | []=>by simp [ai,al]
 | (y,w)::r=>by
  rw [setA_c]
  by_cases h:zA9 y x=true
  ·rw [if_pos h]; simp [al]
  ·rw [if_neg h]; rw [iy]; rw [if_neg h]; exact eo
theorem cV {α:Type} {x y:Nat} {v:α} (hne:y ≠ x):∀ {l:List (Nat × α)},al y (ai x v l)=al y l
 | []=>by simp [ai,al,Ne.symm hne]
 | (z,w)::r=>by
  have hxy:¬ zA9 x y=true:=fun q=>hne (beq_nat.mp q).symm
  rw [setA_c]
  by_cases h:zA9 z x=true
  ·rw [if_pos h]; obtain rfl:=beq_nat.mp h; rw [iy,iy]; rw [if_neg hxy,if_neg hxy]
  ·rw [if_neg h]
   rw [iy,iy]
   by_cases hz:zA9 z y=true
   ·rw [if_pos hz,if_pos hz]
   ·rw [if_neg hz,if_neg hz]; exact cV hne
theorem beqL_iff:∀ {a b:List Nat},beqL a b=true ↔ a=b
 | [],[]=>⟨fun _=>rfl,fun _=>rfl⟩
 | [],_::_=>⟨fun h=>absurd h zAq,fun h=>nomatch h⟩
 | _::_,[]=>⟨fun h=>absurd h zAq,fun h=>nomatch h⟩
 | a::r,b::q=>by
  show (zA9 a b && beqL r q)=true ↔ _
  rw [zA6,beq_nat,beqL_iff,List.cons.injEq]
theorem seq_iff {a b:Str}:seq a b=true ↔ a=b:=by
 unfold seq
 rw [beqL_iff]
 constructor
 ·intro h; cases a; cases b; simp only [Str.mk.injEq]; exact Array.toList_inj.mp h
 ·intro h; rw [h]
theorem fi {a:Str}:seq a a=true:=seq_iff.mpr rfl
theorem dC {a b:Str}:seq a b=(a == b):=by
 rw [Bool.eq_iff_iff,seq_iff,beq_iff_eq]
theorem bJ {α:Type} {x:Str}:∀ {l:List (Str × α)},aK x l=l.lookup x
 | []=>rfl
 | (y,w)::r=>by
  rw [lookS_c]
  rw [zBh,dC]
  cases h:x == y with
  | true=>rfl
  | false=>exact bJ
theorem fw {x y:Str}:∀ {sc:Sc},fG sc x=true->aJ y sc=aJ x sc->y=x
 | [],h,_=>by simp [fG,aK] at h
 | (z,k)::r,h,e=>by
  unfold aJ at e
  by_cases hx:seq x z=true
  ·rw [if_pos hx] at e
   by_cases hy:seq y z=true
   ·rw [seq_iff.mp hy,seq_iff.mp hx]
   ·rw [if_neg hy] at e; cases e
  ·rw [if_neg hx] at e
   by_cases hy:seq y z=true
   ·rw [if_pos hy] at e; cases e
   ·rw [if_neg hy] at e
    refine fw (sc:=r) ?_ (Nat.succ.inj e)
    unfold fG at h; rw [lookS_c] at h
    rwa [if_neg hx] at h
section
variable {sc:Sc}
theorem mR {x:Str} (h:fz x=true):StrOk x:=by
 obtain ⟨h1,h2⟩:=zAn.mp h
 exact ⟨h1,zBd h2⟩
theorem f9 {x:Str} (h:mW x=true):(x == ("__debug__":Str))=false:=by
 unfold mW at h; rw [zA6] at h; rw [← dC]; simpa using h.1
theorem lM {x:Str} (h:mW x=true):(x == ("__classdict__":Str))=false:=by
 unfold mW at h; rw [zA6] at h; rw [← dC]; simpa using h.2
theorem isLoc_ok {x:Str} (h:lu sc x=true):mW x=true:=(zAn.mp h).2
theorem jQ {x:Str} (h:be sc x=true):mW x=true:=(zAn.mp h).2
theorem jA {x:Str} (h:lu sc x=true):fG sc x=true:=by
 have hl:=(zAn.mp h).1
 unfold fG
 revert hl; cases aK x sc with
 | none=>intro h; exact ff h
 | some k=>intro _; rfl
theorem isGlob_kind {x:Str} (h:be sc x=true):sc.lookup x=some .globalImplicit:=by
 have hl:=(zAn.mp h).1
 rw [bJ] at hl
 revert hl; cases sc.lookup x with
 | none=>intro h; exact ff h
 | some k=>cases k <;> intro h <;> first | rfl | exact ff h
end
section
variable {X:Fx} {ev:Bool} {W W':Wd} {S:S}
noncomputable abbrev SndE (X:Fx) (e:Expr) (d:D AV):Prop:=∀ S W,Inv X S W->Snd X true (RV X) (eval e X.env) (d S) W
set_option tactic.hygienic true in
theorem nF {c:Const} {k:Nat} {p:Pos}:SndE X (.Constant c k p) (dConst c):=by
 intro S W I
 cases c <;> first | exact .stk | skip
 ·exact fun _=>wpAny_Constant_none (.mk rfl (.refl I) rfl)
 ·exact fun _=>wpAny_Constant_bool (.mk rfl (.refl I) rfl)
 ·exact fun _=>wpAny_Constant_int (.mk (W':=W.to W.h (W.s.toks+1)) rfl (I.toks _) ⟨_,rfl⟩)
 ·rename_i x
  show Snd X _ _ _ ((if fz x then af (AV.str x) else Mine.stk) S) _
  by_cases h:fz x=true
  ·rw [if_pos h]
   exact fun _=>wpAny_Constant_str (.mk (W':=W.to W.h (W.s.toks+1)) rfl (I.toks _) ⟨mR h,_,rfl⟩)
  ·rw [if_neg h]; exact .stk
theorem lh {x:Str} {v:Value} {Q E:Value->Shared->Prop} (F:X.Ok) (hl:lu X.nms x=true) (r:X.Val W.h x v) (h:Q v W.s):wpAny X.C.M X.A (loadName X.env x) Q E W.s:=by
 cases r with
 | loc k n e=>exact wpAny_loadName_local F.kind k n e h
 | cell k l e =>
  rcases k with k | k
  ·exact wpAny_loadName_cell F.kind k l e h
  ·exact wpAny_loadName_free F.kind k l e h (lM (isLoc_ok hl))
theorem Inv.letgo (I:Inv X S W) {x:Str} {c:AV} (hn:fG X.nms x=true) (hx:al (aJ x X.nms) S.loc=some (.own c)) :
  ∃ v,X.Val W.h x v/\Good X ev W ⟨ai (aJ x X.nms) (.val c) S.loc,S.st⟩ (W.drp (some x))/\VRep X.C (W.drp (some x)) c v:=by
 obtain ⟨v,hv,a,rfl,ho,hc⟩:=I.f.vars x _ hn hx
 have gr:Grow W (W.drp (some x)):=.less fun _ _ q=>⟨_,(aN q).2⟩
 have rep:VRep X.C (W.drp (some x)) c (.ref a):=CRep.val (W:=W.drp (some x)) (hc.mono gr fun _ _ e=>e) ⟨⟨(I.c.ol _ _ ho).1,fun k q=>(aN q).1 (I.c.oi _ _ _ (aN q).2 ho)⟩,(I.c.ol _ _ ho).2,fun q=>(I.c.fl _ q).1.own _ ho⟩
 refine ⟨_,hv,⟨.less fun _ _ q=>⟨_,(aN q).2⟩,I.c.drop _,?_⟩,rep⟩
 refine ⟨I.f.lc,I.f.ns,I.f.cells,fun y lv hm e=>?_⟩
 by_cases hy:y=x
 ·subst hy
  rw [show al (aJ y X.nms) (ai (aJ y X.nms) (LV.val c) S.loc)=some (.val c) from eo] at e
  cases e
  exact ⟨_,hv,rep⟩
 ·rw [show al (aJ y X.nms) (ai (aJ x X.nms) (LV.val c) S.loc)=al (aJ y X.nms) S.loc from cV fun q=>hy (fw hn q)] at e
  exact (I.f.vars y lv hm e).imp fun _ q=>⟨q.1,q.2.mono gr fun a z=>⟨(c9 (own:=W.own) (k:=some x) (a:=none) fun q=>hy (Option.some.inj q)).trans z,fun _ _ e=>e⟩⟩
theorem snd_rdLoc (F:X.Ok) (I:Inv X S W) {x:Str} (hl:lu X.nms x=true):Snd X true (RV X) (loadName X.env x) (ae (aJ x X.nms) S) W:=by
 have hn:=jA hl
 unfold ae
 cases hv:al (aJ x X.nms) S.loc with
 | none=>exact .stk
 | some lv =>
  cases lv with
  | val a =>
   obtain ⟨v,h1,h2⟩:=I.f.vars x _ hn hv
   exact fun _=>lh F hl h1 (.mk rfl (.refl I) h2)
  | own c =>
   obtain ⟨v,h1,h2,h3⟩:=I.letgo hn hv
   exact fun _=>lh F hl h1 (.mk (W':=W.drp (some x)) rfl h2 h3)
noncomputable def RQ (X:Fx) (W:Wd) (a:AV) (v:Value):Prop:=match a with
 | .pl k=>∃ x,fG X.nms x=true/\aJ x X.nms=k/\X.Val W.h x v
 | a=>VRep X.C W a v
theorem RQ.of {a:AV} {v:Value} (r:VRep X.C W a v):RQ X W a v:=by
 cases a <;> first | exact r | exact r.elim
theorem RQ.le {a:AV} {v:Value} (r:RQ X W a v) (I:Inv X S W) (x:EX X true W W'):RQ X W' a v:=by
 cases a <;> first | exact VRep.le (C:=X.C) r x | skip
 obtain ⟨y,h1,h2,h3⟩:=r
 have:=Inv.fcSame (h':=W'.h) I.f fun e h=>x.fc e h fun q=>nomatch q.1
 exact ⟨y,h1,h2,h3.same this.1 this.2⟩
theorem snd_pkLoc (F:X.Ok) (I:Inv X S W) {x:Str} (hl:lu X.nms x=true):Snd X true (RQ X) (loadName X.env x) (aa (aJ x X.nms) S) W:=by
 unfold aa
 cases hv:al (aJ x X.nms) S.loc with
 | none=>exact .stk
 | some lv =>
  obtain ⟨v,h1,h2⟩:=I.f.vars x _ (jA hl) hv
  exact fun _=>lh F hl h1 (.mk rfl (.refl I) ⟨x,jA hl,rfl,h1⟩)
theorem lj {st:St} {k:Nat} {c:AV} (h:du st k=some c):st[k]?=some (.cont c):=by
 unfold du at h
 cases hk:st[k]? with
 | none=>rw [hk] at h; exact aD h
 | some o =>
  rw [hk] at h
  cases o with
  | cont c'=>exact congrArg (fun o=>o.map AO.cont) h
  | flds l=>exact aD h
theorem RQ.deref (I:Inv X S W) {a c:AV} {v:Value} (r:RQ X W a v) (e:aT a S=some c):RP X.C W c v:=by
 have cel:∀ k,VRep X.C W (.cel k) v->du S.st k=some c->RP X.C W c v:=fun k r e=>by
  obtain ⟨ad,h1,h2⟩:=I.c.objs k _ (lj e)
  obtain ⟨ad',rfl,q1⟩:=r
  rw [h1] at q1; cases q1
  exact .con rfl h2
 cases a <;> first | (obtain rfl:=Option.some.inj e; exact .val r) | exact cel _ r e | skip
 obtain ⟨x,h1,rfl,h3⟩:=r
 have e:(match al (aJ x X.nms) S.loc with | some (.own c)=>some c | some (.val (.cel n))=>du S.st n | some (.val (.pl _))=>none | some (.val v)=>some v | none=>none)=some c:=e
 cases hg:al (aJ x X.nms) S.loc with
 | none=>rw [hg] at e; exact aD e
 | some lv =>
  rw [hg] at e
  obtain ⟨v',q1,q2⟩:=I.f.vars x _ h1 hg
  obtain rfl:v=v':=h3.inj q1
  cases lv with
  | own c' =>
   obtain rfl:=Option.some.inj e
   obtain ⟨ad,rfl,_,q3⟩:=q2
   exact .con rfl q3
  | val w=>cases w <;> first | (obtain rfl:=Option.some.inj e; exact .val q2) | exact cel _ q2 e | exact aD e
theorem Snd.deref {α β:Type} {R:Wd->β->α->Prop} {m:Sem α} {a:AV} {v:Value} {f:AV->D β} (I:Inv X S W) (r:RQ X W a v) (hf:∀ a',RP X.C W a' v->Snd X ev R m (f a' S) W):Snd X ev R m (ax (Mine.deref a S) f) W:=by
 unfold Mine.deref
 cases hd:aT a S with
 | none=>exact .stk
 | some a'=>exact hf a' (r.deref I hd)
noncomputable abbrev jl (X:Fx) (e:Expr) (d:D AV):Prop:=∀ S W,Inv X S W->Snd X true (RQ X) (eval e X.env) (d S) W
theorem jI {x:Str} {Q E:Value->Shared->Prop} (F:X.Ok) (hg:be X.nms x=true) (h:wpAny X.C.M X.A (loadGlobal X.env x) Q E W.s):wpAny X.C.M X.A (loadName X.env x) Q E W.s:=by
 unfold loadName
 simp only [Env.blockKind,F.kind,F.glob x (isGlob_kind hg),ScopeKind.isAnnotationScope,Bool.false_and,Bool.false_eq_true,if_false]
 exact h
theorem Inv.st (I:Inv X S W) (F:X.Ok):StatH X.C W.h:=F.cx.st _ I.c.stat
theorem gT (F:X.Ok) (I:Inv X S W) {x:Str} (hg:be X.nms x=true):Snd X true (RV X) (loadName X.env x) (opt ((aK x X.T.P.consts).map .int) S) W:=by
 refine Snd.opt fun b hb=>?_
 obtain ⟨i,h1,rfl⟩:=zAo.mp hb
 obtain ⟨t,hm⟩:=F.cx.const x i (by rw [← F.P,← bJ]; exact h1)
 exact jI F hg (Calls.loadGlobal_global (by rw [F.globals]; exact (I.st F).ns) hm (.mk rfl (.refl I) ⟨_,rfl⟩))
theorem iZ (F:X.Ok) {x:Str} {p:Pos}:SndE X (.Name x p) (jx X.T x .v X.nms)/\jl X (.Name x p) (jx X.T x .p X.nms):=by
 by_cases hl:lu X.nms x=true
 ·have e:∀ md,jx X.T x md X.nms=locM md (aJ x X.nms):=fun md=>if_pos hl
  refine ⟨fun S W I=>?_,fun S W I=>?_⟩ <;> rw [e,eval_Name _ _ _ (f9 (isLoc_ok hl))]
  ·exact .stand (snd_rdLoc F I hl)
  ·exact .stand (snd_pkLoc F I hl)
 by_cases hg:be X.nms x=true
 ·have e:∀ md,jx X.T x md X.nms=opt ((aK x X.T.P.consts).map .int):=fun md=>(if_neg hl).trans (if_pos hg)
  refine ⟨fun S W I=>?_,fun S W I=>?_⟩ <;> rw [e,eval_Name _ _ _ (f9 (jQ hg))]
  ·exact .stand (gT F I hg)
  ·exact .stand ((gT F I hg).mono fun W b a r=>.of r)
 have e:∀ md,jx X.T x md X.nms=stk:=fun md=>(if_neg hl).trans (if_neg hg)
 refine ⟨fun S W I=>?_,fun S W I=>?_⟩ <;> rw [e] <;> exact .stk
end
theorem bN {a:AV} {i:Int} (h:gn a=some i):a=.int i:=by cases a <;> first | (cases h; rfl) | exact aD h
theorem jr {a:AV} {i:Str} (h:strV a=some i):a=.str i:=by cases a <;> first | (cases h; rfl) | exact aD h
theorem dq {a:AV} {i:List AV} (h:fW a=some i):a=.lst i:=by cases a <;> first | (cases h; rfl) | exact aD h
theorem np {a:AV} {i:List AV} (h:tupV a=some i):a=.tup i:=by cases a <;> first | (cases h; rfl) | exact aD h
theorem lY {α:Type} {a b:AV} {f:Int->Int->Option α} {c:α} (h:on2 a b f=some c):∃ x y,a=.int x/\b=.int y/\f x y=some c:=by
 obtain ⟨x,h1,h⟩:=zAg.mp h
 obtain ⟨y,h2,h⟩:=zAg.mp h
 exact ⟨x,y,bN h1,bN h2,h⟩
theorem em {α:Type} {p:Prop} [Decidable p] {x:Option α} {c:α} (h:(if p then x else none)=some c):p/\x=some c:=by
 by_cases hp:p
 ·rw [if_pos hp] at h; exact ⟨hp,h⟩
 ·rw [if_neg hp] at h; exact aD h
theorem bu {α:Type} {p:Prop} [Decidable p] {x c:α} (h:(if p then some x else none)=some c):p/\x=c:=(em h).imp id Option.some.inj
theorem dM {x:List AV} {c:AV} (h:bz x=some c):x.length<=sizeLine/\AV.lst x=c:=bu h
theorem mj {x:List AV} {c:AV} (h:nC x=some c):x.length<=sizeLine/\AV.tup x=c:=bu h
theorem nB {x:Str} {c:AV} (h:mkSt x=some c):x.length<=sizeLine/\AV.str x=c:=bu h
section
variable {C:Cx} {W:Wd}
theorem VReps.length:∀ {l:List AV} {vs:List Value},VReps C W l vs->vs.length=l.length
 | [],vs,h=>by obtain rfl:=h; rfl
 | x::r,vs,h=>by
  obtain ⟨v,vs',rfl,_,h3⟩:=h
  exact congrArg Nat.succ (VReps.length h3)
theorem VReps.nil:VReps C W [] []:=rfl
theorem VReps.cons {a:AV} {v:Value} {l:List AV} {vs:List Value} (h:VRep C W a v) (hr:VReps C W l vs):VReps C W (a::l) (v::vs):=⟨v,vs,rfl,h,hr⟩
theorem VReps.append:∀ {l l':List AV} {vs vs':List Value},VReps C W l vs->VReps C W l' vs'->VReps C W (l++l') (vs++vs')
 | [],l',vs,vs',h,h'=>by obtain rfl:=h; exact h'
 | x::r,l',vs,vs',h,h'=>by
  obtain ⟨v,vs'',rfl,h2,h3⟩:=h
  exact VReps.cons h2 (VReps.append h3 h')
theorem VReps.get:∀ {l:List AV} {vs:List Value} {i:Nat} {a:AV},VReps C W l vs->l[i]?=some a->∃ v,vs[i]?=some v/\VRep C W a v
 | [],vs,i,a,h,e=>nomatch e
 | x::r,vs,0,a,h,e=>by
  obtain ⟨v,vs',rfl,h2,h3⟩:=h
  cases e; exact ⟨v,rfl,h2⟩
 | x::r,vs,i+1,a,h,e=>by
  obtain ⟨v,vs',rfl,h2,h3⟩:=h
  exact VReps.get (i:=i) h3 e
theorem VReps.take:∀ {l:List AV} {vs:List Value} (n:Nat),VReps C W l vs->VReps C W (l.take n) (vs.take n)
 | [],vs,n,h=>by obtain rfl:=h; rw [List.take_nil,List.take_nil]; exact .nil
 | x::r,vs,0,h=>.nil
 | x::r,vs,n+1,h=>by
  obtain ⟨v,vs',rfl,h2,h3⟩:=h
  exact VReps.cons h2 (VReps.take n h3)
theorem VReps.drop:∀ {l:List AV} {vs:List Value} (n:Nat),VReps C W l vs->VReps C W (l.drop n) (vs.drop n)
 | [],vs,n,h=>by obtain rfl:=h; rw [List.drop_nil,List.drop_nil]; exact .nil
 | x::r,vs,0,h=>h
 | x::r,vs,n+1,h=>by
  obtain ⟨v,vs',rfl,h2,h3⟩:=h
  exact VReps.drop n h3
theorem VReps.size {l:List AV} {vs:Array Value} (h:VReps C W l vs.toList):vs.size=l.length:=zBz.symm.trans h.length
theorem VReps.fit {l:List AV} {vs:List Value} (h:VReps C W l vs) (hl:l.length<=lim):vs.toArray.size<=lim:=by
 show vs.length<=lim; rw [h.length]; exact hl
theorem RP.int {i:Int} {v:Value} (r:RP C W (.int i) v):∃ t,v=.int i t:=by cases r with | val r=>exact r | con e r=>exact r.elim
theorem RP.bool {i:Bool} {v:Value} (r:RP C W (.bool i) v):v=.bool i:=by cases r with | val r=>exact r | con e r=>exact r.elim
theorem RP.str {x:Str} {v:Value} (r:RP C W (.str x) v):StrOk x/\∃ t,v=.str x t:=by cases r with | val r=>exact r | con e r=>exact r.elim
theorem RP.lst {l:List AV} {v:Value} (r:RP C W (.lst l) v):∃ a,v=.ref a/\CRep C W W.h a (.lst l):=by cases r with | val r=>exact r.imp fun _ q=>⟨q.1,q.2.2⟩ | con e r=>exact ⟨_,e,r⟩
theorem RP.tup {l:List AV} {v:Value} (r:RP C W (.tup l) v):∃ a,v=.ref a/\CRep C W W.h a (.tup l):=by cases r with | val r=>exact r.imp fun _ q=>⟨q.1,q.2.2⟩ | con e r=>exact ⟨_,e,r⟩
theorem RP.dct {ks vs:List AV} {v:Value} (r:RP C W (.dct ks vs) v):∃ a,v=.ref a/\CRep C W W.h a (.dct ks vs):=by cases r with | val r=>exact r.imp fun _ q=>⟨q.1,q.2.2⟩ | con e r=>exact ⟨_,e,r⟩
theorem Made.int {i:Int} {t tk:Nat}:Made C W (.int i) (.int i t) { W.s with toks:=tk }:=.val (h:=W.h) (tk:=tk) .refl rfl ⟨_,rfl⟩
theorem Made.newLst {l:List AV} {vs:Array Value} {h:Heap} {tk ad n:Nat} (g:Ge W.h h) (nw:W.h.get? ad=none) (ob:h.get? ad=some (sqO "list" vs n)) (sz:vs.size<=lim) (hv:VReps C W l vs.toList):Made C W (.lst l) (.ref ad) { W.s with heap:=h,toks:=tk }:=.new g nw ⟨vs,n,ob,sz,hv⟩
theorem Made.pushLst {l:List AV} {vs:Array Value} {n:Nat} (sz:vs.size<=lim) (hv:VReps C W l vs.toList):Made C W (.lst l) (.ref W.h.objs.size) { W.s with heap:=W.h.push (sqO "list" vs n) }:=.new (h:=W.h.push (sqO "list" vs n)) (tk:=W.s.toks) .push get?_size ⟨vs,n,zAu _ rfl,sz,hv⟩
theorem Made.pushTup {l:List AV} {vs:Array Value} {n:Nat} (sz:vs.size<=lim) (hv:VReps C W l vs.toList):Made C W (.tup l) (.ref W.h.objs.size) { W.s with heap:=W.h.push (sqO "tuple" vs n) }:=.new (h:=W.h.push (sqO "tuple" vs n)) (tk:=W.s.toks) .push get?_size ⟨vs,n,zAu _ rfl,sz,hv⟩
end
section
variable {C:Cx} {A:Around} {W:Wd} {E:Value->Shared->Prop}
theorem kb {x:Int} (h:b7 x=true):x.natAbs < 9223372036854775808:=of_decide_eq_true h
theorem nX {x:Int} (h0:x ≠ 0) (h:b7 x=true):x.natAbs.log2 < 63:=(Nat.log2_lt (fun q=>h0 (Int.natAbs_eq_zero.mp q))).mpr (kb h)
set_option tactic.hygienic true in
theorem mo {x:Int} (h:b7 x=true):Builtin.Int.intBits x<=64:=by
 unfold Builtin.Int.intBits
 split
 ·exact zA7 _
 ·rename_i hx
  exact zBx (zC5 (nX (fun q=>hx (by rw [q]; rfl)) h))
theorem iG {a b:Str} (h1:PyData.strOk a=true) (h2:PyData.strOk b=true):PyData.strOk (a++b)=true:=by
 show ((a.cps++b.cps).all _)=true
 rw [Array.all_append]
 exact zAn.mpr ⟨h1,h2⟩
set_option tactic.hygienic true in
theorem wp_addV {a b c:AV} {va vb:Value} (ha:RP C W a va) (hb:RP C W b vb) (h:addV a b=some c):wpAny C.M A (binaryOp .Add va vb) (Made C W c) E W.s:=by
 cases a <;> first | (exact aD h; done) | skip
 ·obtain ⟨y,h1,rfl⟩:=zAo.mp h
  obtain rfl:=bN h1
  obtain ⟨t,rfl⟩:=ha.int; obtain ⟨u,rfl⟩:=hb.int
  exact add_int Made.int
 ·obtain ⟨y,h1,h⟩:=zAg.mp h
  obtain rfl:=jr h1
  obtain ⟨hsz,rfl⟩:=nB h
  obtain ⟨h1,t,rfl⟩:=ha.str; obtain ⟨h2,u,rfl⟩:=hb.str
  exact add_str (fun t' tk=>.val (h:=W.h) (tk:=tk) .refl rfl ⟨⟨iG h1.ok h2.ok,hsz⟩,_,rfl⟩) (by rw [← Str.length_append]; exact hsz)
 ·rename_i x
  obtain ⟨y,h1,h2⟩:=zAg.mp h
  obtain rfl:=np h1
  by_cases hne:(x.isEmpty || y.isEmpty)=true
  ·rw [if_pos hne] at h2; exact aD h2
  rw [if_neg hne] at h2
  obtain ⟨hsz,rfl⟩:=mj h2
  obtain ⟨p,rfl,vs,n,hp,hps,hv⟩:=ha.tup; obtain ⟨q,rfl,ws,m,hq,hqs,hw⟩:=hb.tup
  have hlen:vs.size+ws.size<=sizeLine:=by rw [hv.size,hw.size,← zAc]; exact hsz
  have hm:∀ {us:Array Value} {l:List AV},us.size=l.length->us.isEmpty=true->l.isEmpty=true:=fun e z=>by
   rw [zB7,List.eq_nil_iff_length_eq_zero,← e]; exact Array.isEmpty_iff_size_eq_zero.mp z
  refine P.add_tuple hp hq (fun z=>hne (zB1.mpr (.inl (hm hv.size z)))) (fun z=>hne (zB1.mpr (.inr (hm hw.size z)))) ?_ hlen
  exact Made.pushTup (vs:=vs++ws) (by rw [Array.size_append]; exact hlen) (by rw [Array.toList_append]; exact hv.append hw)
 ·obtain ⟨y,h1,h⟩:=zAg.mp h
  obtain rfl:=dq h1
  obtain ⟨hsz,rfl⟩:=dM h
  obtain ⟨p,rfl,vs,n,hp,hps,hv⟩:=ha.lst; obtain ⟨q,rfl,ws,m,hq,hqs,hw⟩:=hb.lst
  have hlen:vs.size+ws.size<=sizeLine:=by rw [hv.size,hw.size,← zAc]; exact hsz
  refine concat_meets ⟨_,hp,rfl⟩ ⟨_,hq,rfl⟩ noFill_list_add seq_list_add PySem.F.slot_list_add PySem.F.entry_list_add (PySem.F.args_list_add_2 _ _)
   (list_addW p q vs ws n m none none #[] #[] hlen) ⟨hp,hq,?_⟩
  exact Made.pushLst (vs:=vs++ws) (by rw [Array.size_append]; exact hlen) (by rw [Array.toList_append]; exact hv.append hw)
theorem lA {y:Int} (h:eI y=true):y ≠ 0/\b7 y=true:=by
 have h':=zAn.mp h
 exact ⟨fun q=>by rw [q] at h'; exact zAq h'.1,h'.2⟩
theorem m0 {x:AV} {v:Value} (h:VRep C W x v):∀ (n:Nat) (acc:Array Value) (l:List AV),VReps C W l acc.toList ->
  VReps C W (l++lw x n) (List.foldl (fun x1 x2=>x1++x2) acc (zBu n #[v])).toList
 | 0,acc,l,ha=>by rw [show l++lw x 0=l from zAx l]; exact ha
 | n+1,acc,l,ha=>by
  rw [List.replicate_succ,List.foldl_cons,show l++lw x (n+1)=(l++[x])++lw x n by rw [zAm]; rfl]
  exact m0 h n (acc++#[v]) (l++[x]) (by rw [Array.toList_append]; exact ha.append (VReps.cons h .nil))
theorem ke {x:AV}:∀ n,(lw x n).length=n
 | 0=>rfl
 | n+1=>congrArg Nat.succ (ke n)
theorem wp_repV {b c:AV} {l:List AV} {va vb:Value} (ha:RP C W (.lst l) va) (hb:RP C W b vb) (h:repV b l=some c):wpAny C.M A (binaryOp .Mult va vb) (Made C W c) E W.s:=by
 rcases l with _ | ⟨x,_ | ⟨_,_⟩⟩ <;> first | (exact aD h; done) | skip
 obtain ⟨n,h1,h⟩:=zAg.mp h
 obtain rfl:=bN h1
 obtain ⟨hn,rfl⟩:=bu h
 have hn:=zAn.mp hn
 obtain ⟨p,rfl,vs,k,hl,hps,hv⟩:=ha.lst; obtain ⟨u,rfl⟩:=hb.int
 obtain ⟨v,vs',hvs,hx,rfl⟩:=hv
 obtain rfl:vs=#[v]:=by rw [← Array.toArray_toList (xs:=vs),hvs]
 have hsm:=kb hn.1
 have hsz:n.toNat<=100000:=zBd hn.2
 refine wpAny_binaryOp_repeat_ref (T:="list") (U:="int") (by decide) ⟨_,hl,rfl⟩ (fun s'=>typeIs_int s' n u) noFill_list_mul F.fills_int_mul F.slot_int_rmul repeat_list F.slot_int_index.lookup
  (call_meets F.slot_int_rmul (typeIs_int W.s n u) F.entry_int_rmul (F.args_int_rmul_2 _ _) (int___rmul___int_list n u p #[v] k)
   ⟨hl,rfl,⟨_,hl,rfl⟩,call_meets F.slot_list_mul ⟨_,hl,rfl⟩ F.entry_list_mul (F.args_list_mul_2 _ _)
    (AutoListH.list___mul___list_int_3 p #[v] k n u (by simp [Builtin.List.listFitsIndex]; lia) (by have hq:sizeLine=16777216:=rfl; simp; lia) (by have hq:sizeLine=16777216:=rfl; simp [Builtin.List.listTooLong]; lia))
    ⟨hl,?_⟩⟩)
 have hr:=m0 (C:=C) hx n.toNat #[] [] .nil
 refine Made.pushLst (l:=lw x n.toNat) (vs:=List.foldl (fun x1 x2=>x1++x2) #[] (zBu n.toNat #[v])) ?_ hr
 rw [hr.size,zDl,ke]; exact zAj hsz (by decide +kernel)
theorem wp_binV {op:Operator} {a b c:AV} {va vb:Value} (ha:RP C W a va) (hb:RP C W b vb) (h:mO op a b=some c):wpAny C.M A (binaryOp op va vb) (Made C W c) E W.s:=by
 by_cases hop:op=.Add
 ·subst hop; exact wp_addV ha hb h
 have key:∀ {f:Int->Int->Option AV} {Q:Prop},on2 a b f=some c->(∀ x y t u,f x y=some c->va=.int x t->vb=.int y u->Q)->Q:=fun h k=>by
  obtain ⟨x,y,rfl,rfl,h⟩:=lY h
  obtain ⟨t,rfl⟩:=ha.int; obtain ⟨u,rfl⟩:=hb.int
  exact k x y t u h rfl rfl
 by_cases hmul:op=.Mult
 ·subst hmul
  cases hl:fW a with
  | some l=>obtain rfl:=dq hl; exact wp_repV ha hb h
  | none =>
  have h:(fW a).elim _ (repV b)=some c:=h
  rw [hl] at h
  refine key h fun x y t u h e1 e2=>?_
  subst e1; subst e2
  obtain ⟨hs,rfl⟩:=bu h
  exact PyProof.Rows.mul_int Made.int ((zB1.mp hs).elim (fun q=>IntMulOk.of_left (mo q)) fun q=>IntMulOk.of_right (mo q))
 cases op <;> first | exact absurd rfl hop | exact absurd rfl hmul | (exact aD h; done) | refine key h fun x y t u h e1 e2=>?_ <;> subst e1 <;> subst e2
 ·cases h; exact sub_int' Made.int
 ·obtain ⟨hs,rfl⟩:=bu h
  exact mod_int' (lA hs).1 Made.int
 ·obtain ⟨hs,rfl⟩:=bu h
  exact pow_int_small hs.1 (by lia) (by lia) Made.int
 ·obtain ⟨hs,rfl⟩:=bu h
  obtain ⟨h0,hy⟩:=lA hs
  exact PyProof.Rows.floordiv_int h0 Made.int (.inl (PyProof.noPylong_of_log2 (Nat.lt_trans (nX h0 hy) (by decide))))
theorem wp_unV {op:UnaryOp} {a c:AV} {va:Value} (ha:RP C W a va) (h:unV op a=some c):wpAny C.M A (unaryOp op va) (Made C W c) E W.s:=by
 cases op <;> first | (exact aD h; done) | skip
 ·cases a <;> first | (exact aD h; done) | skip
  cases h
  obtain rfl:=ha.bool
  exact not_value (wpAny_truthy_bool (.val (h:=W.h) (tk:=W.s.toks) .refl rfl rfl))
 ·obtain ⟨x,h1,rfl⟩:=zAo.mp h
  obtain rfl:=bN h1
  obtain ⟨t,rfl⟩:=ha.int
  exact PyProof.Rows.neg_int Made.int
end
section
variable {X:Fx} {W:Wd} {S:S}
noncomputable abbrev SndM (X:Fx) (e:Expr) (d:D AV):Prop:=∀ S W,Inv X S W->Snd X true (RM X) (eval e X.env) (d S) W
theorem SndM.v {e:Expr} {d:D AV} (h:SndM X e d):SndE X e d:=fun S W I=>(h S W I).freeze
theorem SndE.p {e:Expr} {d:D AV} (h:SndE X e d):jl X e d:=fun S W I=>(h S W I).mono fun _ _ _ r=>.of r
theorem snd_binop {l r:Expr} {op:Operator} {p:Pos} {dl dr:D AV} (hl:jl X l dl) (hr:jl X r dr):SndM X (.BinOp l op r p) (aj op dl dr):=fun S W I=>by
 rw [eval_BinOp]
 exact (hl S W I).bind fun a va S₁ WA _ GA rA=>(hr S₁ WA GA.inv).holding.bind fun b vb S₂ WB _ GB rB =>
  .stand (.deref GB.inv (rA.le GA.inv GB.ext) fun a' ra=>.deref GB.inv rB fun b' rb=>.made GB.inv fun c hc=>wpAny_operateT (wp_binV ra rb hc))
theorem snd_unop {e:Expr} {op:UnaryOp} {p:Pos} {d:D AV} (h:jl X e d):SndE X (.UnaryOp op e p) (dUn op d):=fun S W I=>by
 rw [show eval (.UnaryOp op e p) X.env=(do let v ← eval e X.env; standAt p; holding [v] (unaryOp op v)) from rfl]
 exact (h S W I).bind fun a va S₁ WA _ GA rA=>.stand (.deref GA.inv rA fun a' ra=>(Snd.made GA.inv fun c hc=>zA0 (wp_unV ra hc)).freeze)
end
section
variable {C:Cx} {W:Wd}
set_option tactic.hygienic true
mutual
theorem VRep.reads:∀ {a:AV} {v:Value},jg a=true->VRep C W a v->(∃ as,Reads W.h v (toD a) as)/\(toD a).canLay0=true
 | .none,v,_,r=>by obtain rfl:=r; exact ⟨⟨_,.none⟩,rfl⟩
 | .bool b,v,_,r=>by obtain rfl:=r; exact ⟨⟨_,.bool b⟩,rfl⟩
 | .int i,v,_,r=>by obtain ⟨t,rfl⟩:=r; exact ⟨⟨_,.int i t⟩,rfl⟩
 | .str x,v,_,r=>by obtain ⟨h1,t,rfl⟩:=r; exact ⟨⟨_,.str x t⟩,h1.ok⟩
 | .tup l,v,d,r=>by
  obtain ⟨a,rfl,_,vs,n,ha,_,hv⟩:=r
  obtain ⟨⟨as,hr⟩,hc⟩:=VReps.reads (l:=l) d hv
  exact ⟨⟨_,.tuple ha rfl rfl hr⟩,hc⟩
 | .lst l,v,d,r=>by
  obtain ⟨a,rfl,_,vs,n,ha,_,hv⟩:=r
  obtain ⟨⟨as,hr⟩,hc⟩:=VReps.reads (l:=l) d hv
  exact ⟨⟨_,.list ha rfl rfl hr⟩,hc⟩
 | .dct _ _,_,d,_=>absurd d zAq
 | .sett _,_,d,_=>absurd d zAq
 | .exc _,_,d,_=>absurd d zAq
 | .obj _ _,_,d,_=>absurd d zAq
 | .cel _,_,d,_=>absurd d zAq
 | .pl _,_,d,_=>absurd d zAq
theorem VReps.reads:∀ {l:List AV} {vs:List Value},dataVs l=true->VReps C W l vs->(∃ as,ReadsAll W.h vs (toDs l) as)/\PyData.canLayAll0 (toDs l)=true
 | [],vs,_,r=>by obtain rfl:=r; exact ⟨⟨_,.nil⟩,rfl⟩
 | x::l,vs,d,r=>by
  obtain ⟨v,vs',rfl,h1,h2⟩:=r
  have d':=zAn.mp d
  obtain ⟨⟨as,r1⟩,c1⟩:=VRep.reads d'.1 h1
  obtain ⟨⟨bs,r2⟩,c2⟩:=VReps.reads d'.2 h2
  exact ⟨⟨_,.cons r1 r2⟩,zAn.mpr ⟨c1,c2⟩⟩
end
set_option tactic.hygienic false
theorem RP.reads {a:AV} {v:Value} (hd:jg a=true) (r:RP C W a v):(∃ as,Reads W.h v (toD a) as)/\(toD a).canLay0=true:=by
 cases r with
 | val r=>exact r.reads hd
 | con e r =>
  subst e
  cases a <;> first | exact r.elim | (exact absurd hd zAq) | skip
  ·obtain ⟨vs,n,h1,h2,h3⟩:=r
   obtain ⟨⟨as,hr⟩,hc⟩:=h3.reads hd
   exact ⟨⟨_,.tuple h1 rfl rfl hr⟩,hc⟩
  ·obtain ⟨vs,n,h1,h2,h3⟩:=r
   obtain ⟨⟨as,hr⟩,hc⟩:=h3.reads hd
   exact ⟨⟨_,.list h1 rfl rfl hr⟩,hc⟩
end
set_option tactic.hygienic true
mutual
theorem gZ:∀ a:AV,(toD a).depth<=eT a
 | .none | .bool _ | .int _ | .str _ | .dct _ _ | .sett _ | .exc _ | .obj _ _ | .cel _ | .pl _=>zAy 0
 | .tup l=>zBx (depth_toDs l)
 | .lst l=>zBx (depth_toDs l)
theorem depth_toDs:∀ l:List AV,PyData.depthAll (toDs l)<=depthVs l
 | []=>zAy 0
 | x::r=>Nat.max_le.mpr ⟨zAj (gZ x) (Nat.le_max_left _ _),zAj (depth_toDs r) (Nat.le_max_right _ _)⟩
end
set_option tactic.hygienic false
theorem oj {u d e:Nat} (hu:u<=8000) (hd:d<=64) (he:e<=1):u+e+d < cLine:=zCs (zC3 (zC3 hu he) hd) (by decide)
structure EqSpec (a b:AV) (r:Bool):Prop where
 l:jg a=true
 s:jg b=true
 d:eT a<=64 ∨ eT b<=64
 e:r=PyData.eqv (toD a) (toD b)
theorem mJ {a b:AV} {r:Bool} (h:eqD a b=some r):EqSpec a b r:=by
 obtain ⟨hc,rfl⟩:=bu h
 have hc:=zAn.mp hc
 have h1:=zAn.mp hc.1
 exact ⟨h1.1,h1.2,(zB1.mp hc.2).imp of_decide_eq_true of_decide_eq_true,rfl⟩
theorem elim_two {α:Type} {o p:Option α} {d e:Option Bool} {f:α->α->Option Bool} {r:Bool} (h:(o.elim d fun x=>p.elim e fun y=>f x y)=some r):d=some r ∨ e=some r ∨ ∃ x y,o=some x/\p=some y/\f x y=some r:=by
 cases o with
 | none=>exact .inl h
 | some x=>cases p with
  | none=>exact .inr (.inl h)
  | some y=>exact .inr (.inr ⟨x,y,rfl,rfl,h⟩)
theorem eqV_spec {a b:AV} {r:Bool} (h:eqV a b=some r):EqSpec a b r:=by
 rcases elim_two h with h | h | ⟨x,y,h1,h2,h⟩
 ·rcases elim_two h with h | h | ⟨x,y,h1,h2,h⟩
  ·exact mJ h
  ·exact mJ h
  ·obtain rfl:=bN h1; obtain rfl:=bN h2; cases h; exact ⟨rfl,rfl,.inl (zA7 _),rfl⟩
 ·exact mJ h
 ·obtain rfl:=jr h1; obtain rfl:=jr h2; cases h; exact ⟨rfl,rfl,.inl (zA7 _),dC⟩
theorem min_depth {a b:AV} (h:eT a<=64 ∨ eT b<=64):min (toD a).depth (toD b).depth<=64:=h.elim (fun q=>zAj (Nat.min_le_left _ _) (zAj (gZ a) q)) fun q=>zAj (zB8 _ _) (zAj (gZ b) q)
section
variable {C:Cx} {A:Around} {W:Wd} {E:Value->Shared->Prop}
theorem Made.bool {b:Bool} {tk:Nat}:Made C W (.bool b) (.bool b) { W.s with toks:=tk }:=.val (h:=W.h) (tk:=tk) .refl rfl rfl
theorem wp_eqV {a b:AV} {va vb:Value} {r:Bool} (hu:A.units<=8000) (ha:RP C W a va) (hb:RP C W b vb) (h:eqV a b=some r) :
  wpAny C.M A (compareOp .Eq va vb) (Made C W (.bool r)) E W.s/\wpAny C.M A (compareOp .NotEq va vb) (Made C W (.bool (!r))) E W.s:=by
 obtain ⟨h1,h2,h3,rfl⟩:=eqV_spec h
 obtain ⟨⟨as,ra⟩,ca⟩:=ha.reads h1
 obtain ⟨⟨bs,rb⟩,cb⟩:=hb.reads h2
 have hd:A.units+min (toD a).depth (toD b).depth < cLine:=oj (e:=0) hu (min_depth h3) (zA7 _)
 exact ⟨SeqAt.compareEq_reads ra rb ca cb hd Made.bool,SeqAt.compareNe_reads ra rb ca cb hd Made.bool⟩
theorem mG {a:AV} {v:Value} (r:RP C W a v):isNone a=(v == Value.none):=by
 cases r with
 | val r =>
  cases a
  ·obtain rfl:=r; rfl
  ·obtain rfl:=r; rfl
  ·obtain ⟨t,rfl⟩:=r; rfl
  ·obtain ⟨_,t,rfl⟩:=r; rfl
  all_goals first | exact r.elim | (obtain ⟨_,rfl,_⟩:=r; rfl)
 | con e r=>subst e; cases a <;> first | exact r.elim | rfl
theorem hW {v:Value} {a:AV} (r:RP C W a v) (h:isNone a=true):v=Value.none:=beq_iff_eq.mp ((mG r).symm.trans h)
theorem kt {k:Str} {w:Value} {l:List (Str × Value)}:valueAt ((k,w)::l) k=some w:=by
 unfold valueAt; rw [List.find?_cons,show decide ((k,w).1=k)=true from decide_eq_true rfl]; rfl
theorem ja {k x:Str} {w:Value} {l:List (Str × Value)} (h:x ≠ k):valueAt ((x,w)::l) k=valueAt l k:=by
 unfold valueAt; rw [List.find?_cons,show decide ((x,w).1=k)=false from decide_eq_false h]
theorem seq_ne {k x:Str} (h:x ≠ k):seq k x=false:=by rw [dC]; exact beq_eq_false_iff_ne.mpr (Ne.symm h)
theorem j2 {k:Str}:∀ {ss:List Str} {ws:List Value},ss.length=ws.length->(valueAt (ss.zip ws) k).isSome=kH (.str k) (ss.map .str)
 | [],_,_=>rfl
 | _::_,[],h=>nomatch h
 | x::ss,w::ws,h=>by
  have ih:=j2 (k:=k) (ss:=ss) (ws:=ws) (Nat.succ.inj h)
  show (valueAt ((x,w)::ss.zip ws) k).isSome=(seq k x || kH (.str k) (ss.map .str))
  by_cases hx:x=k
  ·subst hx; rw [kt,fi]; rfl
  ·rw [ja hx,seq_ne hx,ih]; rfl
theorem j9 {k:Str} {x:AV}:∀ {ss:List Str} {ws:List Value} {vs:List AV},VReps C W vs ws->dI (.str k) (ss.map .str) vs=some x->∃ w,valueAt (ss.zip ws) k=some w/\VRep C W x w
 | [],_,_,_,h=>nomatch h
 | y::ss,ws,[],_,h=>nomatch h
 | y::ss,ws,v::vs,hv,h=>by
  obtain ⟨w,ws',rfl,h1,h2⟩:=hv
  have h:(if seq k y then some v else dI (.str k) (ss.map .str) vs)=some x:=h
  show ∃ w',valueAt ((y,w)::ss.zip ws') k=some w'/\_
  by_cases hx:y=k
  ·subst hx
   rw [fi,if_pos rfl] at h
   exact ⟨w,kt,Option.some.inj h ▸ h1⟩
  ·rw [seq_ne hx,if_neg zAq] at h
   rw [ja hx]
   exact j9 h2 h
set_option tactic.hygienic true in
theorem wp_in (hu:A.units<=8000) {a b:AV} {va vb:Value} (ha:RP C W a va) (hb:RP C W b vb) {r:Bool} (h:inV a b=some r) :
  wpAny C.M A (compareOp .In va vb) (Made C W (.bool r)) E W.s/\wpAny C.M A (compareOp .NotIn va vb) (Made C W (.bool (!r))) E W.s:=by
 cases b <;> first | (exact aD h; done) | skip
 ·rename_i l
  obtain ⟨hc,rfl⟩:=bu (p:=(jg a && dataVs l && decide (eT a<=64))=true) h
  have hc:=zAn.mp hc
  have h1:=zAn.mp hc.1
  obtain ⟨⟨as,ra⟩,ca⟩:=ha.reads h1.1
  obtain ⟨⟨bs,rb⟩,cb⟩:=hb.reads (a:=.lst l) h1.2
  have hd:A.units+1+min (PyData.depthAll (toDs l)) (toD a).depth < cLine:=oj hu (zAj (zB8 _ _) (zAj (gZ a) (of_decide_eq_true hc.2))) (zAy _)
  exact ⟨SeqAt.in_list_reads rb ra cb ca hd Made.bool,SeqAt.notIn_list_reads rb ra cb ca hd Made.bool⟩
 ·rename_i ks vs
  obtain ⟨ad,rfl,o,ss,ws,h1,h2,rfl,h3,h4⟩:=hb.dct
  obtain ⟨hk,rfl⟩:=bu (p:=nM a=true) h
  cases a <;> first | (exact ff hk; done) | skip
  rename_i x
  obtain ⟨_,t,rfl⟩:=ha.str
  have hD:W.h.DictOf (strKind C.prog C.w) ad (ss.zip ws):=zCm.mpr ⟨o,h1,h3.is⟩
  have e:=j2 (k:=x) h3.len
  exact ⟨wpAny_in_of (strKind_is C.prog C.w x t) h2 hD.mapOf (by rw [← e]; exact Made.bool),wpAny_notIn_of (strKind_is C.prog C.w x t) h2 hD.mapOf (by rw [← e]; exact Made.bool)⟩
theorem map_not {o:Option Bool} {r:Bool} (h:o.map (!·)=some r):∃ r',o=some r'/\r=!r':=(zAo.mp h).imp fun _ q=>⟨q.1,q.2.symm⟩
theorem wp_cmpV {op:CmpOp} {a b:AV} {va vb:Value} {r:Bool} (hu:A.units<=8000) (ha:RP C W a va) (hb:RP C W b vb) (h:kB op a b=some r):wpAny C.M A (compareOp op va vb) (Made C W (.bool r)) E W.s:=by
 have key:∀ {f:Int->Int->Option Bool},on2 a b f=some r->(∀ x y t u,f x y=some r->wpAny C.M A (compareOp op (.int x t) (.int y u)) (Made C W (.bool r)) E W.s)->wpAny C.M A (compareOp op va vb) (Made C W (.bool r)) E W.s:=fun h k=>by
  obtain ⟨x,y,rfl,rfl,h⟩:=lY h
  obtain ⟨t,rfl⟩:=ha.int; obtain ⟨u,rfl⟩:=hb.int; exact k x y t u h
 cases op <;> first | (cases h; done) | skip
 ·exact (wp_eqV hu ha hb h).1
 ·obtain ⟨r',h',rfl⟩:=map_not h
  exact (wp_eqV hu ha hb h').2
 ·exact key h fun x y t u q=>by obtain rfl:=Option.some.inj q; exact PyProof.Rows.lt_int Made.bool
 ·exact key h fun x y t u q=>by obtain rfl:=Option.some.inj q; exact PyProof.Rows.le_int Made.bool
 ·exact key h fun x y t u q=>by obtain rfl:=Option.some.inj q; exact PyProof.Rows.gt_int Made.bool
 ·exact key h fun x y t u q=>by obtain rfl:=Option.some.inj q; exact PyProof.Rows.ge_int Made.bool
 ·obtain ⟨hn,rfl⟩:=bu (p:=isNone b=true) h
  obtain rfl:=hW hb hn
  exact is_none (by rw [← mG ha]; exact Made.bool)
 ·obtain ⟨hn,rfl⟩:=bu (p:=isNone b=true) h
  obtain rfl:=hW hb hn
  exact isNot_none (by rw [← mG ha]; exact Made.bool)
 ·exact (wp_in hu ha hb h).1
 ·obtain ⟨r',h',rfl⟩:=map_not h
  exact (wp_in hu ha hb h').2
end
section
variable {X:Fx} {W:Wd} {S:S}
theorem Fx.Ok.units (F:X.Ok):X.A.units<=8000:=by have:=F.room.2; lia
noncomputable abbrev TrL (X:Fx) (R:Wd->AV->Value->Prop):List (Sem Value)->List (D AV)->Prop:=F2 fun t d=>∀ S W,Inv X S W->Snd X true R t (d S) W
noncomputable abbrev RB:Wd->Bool->Bool->Prop:=fun _ a b=>a=b
theorem iz {a:AV} {v:Value} (I:Inv X S W) (r:VRep X.C W a v):Snd X true RB (truthy v) (Mine.opt (d4 a) S) W:=by
 refine Snd.opt fun b hb=>?_
 cases a <;> first | (exact aD hb; done) | skip
 cases hb; obtain rfl:=r; exact wpAny_truthy_bool (.mk rfl (.refl I) rfl)
noncomputable abbrev trd (d:D AV):D Bool:=aE d fun v=>Mine.opt (d4 v)
theorem bO {α β γ:Type} (m:D α) (f:α->D β) (g:β->D γ):aE (aE m f) g=aE m fun a=>aE (f a) g:=by
 funext S; unfold aE ax; cases m S <;> rfl
theorem snd_boolOp {pos:Pos} {op:BoolOp} {ts:List (Sem Value)} {ds:List (D AV)} (h:TrL X (RV X) ts ds):∀ S W,Inv X S W->Snd X true (RV X) (boolOp pos op ts) (bc op ds S) W:=by
 induction h with
 | nil=>exact fun _ _ _=>.stk
 | cons h t ih =>
  cases t with
  | nil=>exact h
  | cons h' t' =>
   intro S W I
   refine Snd.bind (h S W I) fun a va S₁ WA _ GA rA=>.stand (Snd.bind (iz GA.inv rA).holding fun b b' S₂ WB _ GB rB=>?_)
   obtain rfl:b=b':=rB
   have hrec:=ih S₂ WB GB.inv
   cases op <;> cases b <;> first | exact .pure GB.inv (VRep.le rA GB.ext) | exact hrec
noncomputable abbrev SndT (X:Fx) (e:Expr) (d:D AV):Prop:=∀ S W,Inv X S W->Snd X true RB (isTrue e X.env (eval e X.env)) (trd d S) W
noncomputable abbrev TrT (X:Fx):List Expr->List (D AV)->Prop:=F2 (SndT X)
theorem Snd.bind_pure {ev:Bool} {α β:Type} {R:Wd->β->α->Prop} {m:Sem α} {o:Out β} {f:α->Sem α} (h:Snd X ev R m o W) (hf:∀ a,f a=Pure.pure a):Snd X ev R (m >>= f) o W:=by
 obtain rfl:f=Pure.pure:=funext hf
 exact h.wp fun Q E q=>zAa (zAv q (fun _ _ q=>zAk q) fun _ _ q=>q)
set_option tactic.hygienic true in
theorem trd_bool {op:BoolOp} {d d':D AV} {ds:List (D AV)}:trd (bc op (d::d'::ds))=aE (trd d) fun b=>match op,b with | .And,false=>af false | .Or,true=>af true | _,_=>trd (bc op (d'::ds)):=by
 funext S
 show ax (ax (d S) _) _=ax (ax (d S) _) _
 cases d S with
 | stuck=>rfl
 | exc c S'=>rfl
 | ok a S' =>
  show ax (ax (Mine.opt (d4 a) S') _) _=ax (Mine.opt (d4 a) S') _
  cases a <;> first | rfl | skip
  rename_i b
  cases op <;> cases b <;> rfl
theorem snd_allTrue {op:BoolOp} {es:List Expr} {ds:List (D AV)} (h:TrT X es ds):∀ S W,Inv X S W->Snd X true RB (allTrue op es X.env) (trd (bc op ds) S) W:=by
 induction h with
 | nil=>exact fun _ _ _=>.stk
 | cons h t ih =>
  cases t with
  | nil=>exact fun S W I=>Snd.bind_pure (h S W I) fun b=>by cases op <;> cases b <;> rfl
  | cons h' t' =>
   intro S W I
   rw [trd_bool]
   refine Snd.bind (h S W I) fun b b' S₂ WB _ GB rB=>?_
   obtain rfl:b=b':=rB
   have hrec:=ih S₂ WB GB.inv
   cases op <;> cases b <;> first | exact .pure GB.inv rfl | exact hrec
theorem Snd.cmp (hu:X.A.units<=8000) (I:Inv X S W) {op:CmpOp} {a b:AV} {va vb:Value} (ra:RP X.C W a va) (rb:RP X.C W b vb):Snd X true (RV X) (compareOp op va vb) (Mine.opt ((kB op a b).map .bool) S) W :=
 (Snd.made I fun c hc=>by obtain ⟨q,hq,rfl⟩:=zAo.mp hc; exact wp_cmpV hu ra rb hq).freeze
theorem snd_cmp (hu:X.A.units<=8000) {op:CmpOp} {pos:Pos} {t:Sem Value} {o:Out AV} {a:AV} {va:Value} (I:Inv X S W) (h:Snd X true (RQ X) t o W) (ha:RQ X W a va) :
  Snd X true (RV X) (compareChain pos va [op] [t]) (ax o fun b=>aE (Mine.deref a) fun a'=>aE (Mine.deref b) fun b'=>Mine.opt ((kB op a' b').map .bool)) W :=
 Snd.bind h.holding fun b vb S₁ WA _ GA rA=>.stand (.deref GA.inv (ha.le I GA.ext) fun a' ra=>.deref GA.inv rA fun b' r'=>(Snd.cmp hu GA.inv ra r').wp fun _ _=>wpAny_operateT)
theorem snd_test (hu:X.A.units<=8000) {op:CmpOp} {pos:Pos} {t:Sem Value} {o:Out AV} {a:AV} {va:Value} (I:Inv X S W) (h:Snd X true (RQ X) t o W) (ha:RQ X W a va) :
  Snd X true RB (testChain pos va [op] [t]) (ax o fun b=>aE (Mine.deref a) fun a'=>aE (Mine.deref b) fun b'=>aE (Mine.opt ((kB op a' b').map .bool)) fun v=>Mine.opt (d4 v)) W :=
 Snd.bind h.holding fun b vb S₁ WA _ GA rA=>.stand (.deref GA.inv (ha.le I GA.ext) fun a' ra=>.deref GA.inv rA fun b' r' =>
  Snd.bind ((Snd.cmp hu GA.inv ra r').wp fun _ _=>wpAny_operateT) fun c vc S₂ WB _ GB rB=>(iz GB.inv rB).holding)
theorem snd_link {α β:Type} {R:Wd->α->β->Prop} (hu:X.A.units<=8000) {op:CmpOp} {pos:Pos} {t:Sem Value} {o:Out AV} {a:AV} {va:Value} (I:Inv X S W) (h:Snd X true (RQ X) t o W) (ha:RQ X W a va)
  {K N:Value->Sem β} {k:Int->D α} {no:D α} (hT:∀ S₁ WA i u,Inv X S₁ WA->Snd X true R (K (.int i u)) (k i S₁) WA) (hF:∀ S₁ WA,Inv X S₁ WA->Snd X true R (N (.bool false)) (no S₁) WA) :
  Snd X true R (do
    let rv ← holding [va] t
    standAt pos
    let c ← holding [va,rv] (compareOp op va rv)
    release [va,rv] [c]
    if ← holding [c,rv] (truthy c) then K rv else N c)
   (ax o fun b=>aE (Mine.deref a) fun a'=>aE (Mine.deref b) fun b'=>aE (Mine.opt (gn b')) fun i=>aE (Mine.opt (kB op a' (.int i))) fun t=>if t then k i else no) W:=by
 refine Snd.bind h.holding fun b vb S₁ WA _ GA rA=>.stand (.deref GA.inv (ha.le I GA.ext) fun a' ra=>.deref GA.inv rA fun b' r'=>?_)
 cases hi:gn b' with
 | none=>exact .stk
 | some i =>
 obtain rfl:=bN hi
 show Snd _ _ _ _ (ax (Mine.opt (kB op a' (.int i)) S₁) _) _
 cases hq:kB op a' (.int i) with
 | none=>exact .stk
 | some q =>
  obtain ⟨u,rfl⟩:=r'.int
  have key:Snd X true (fun W b v=>b=q/\VRep X.C W (.bool b) v) (holding [va,.int i u] (compareOp op va (.int i u))) (.ok q S₁) WA:=fun _=>zA0 (zAv (wp_cmpV hu ra r' hq) (fun _ _ m=>by
   have:=kS (ev:=true) GA.inv m
   cases this with
   | mk e g r=>cases e; cases r with
    | val k r=>exact .mk rfl g ⟨rfl,r⟩
    | new _ k _ _=>exact ff k) fun _ _ q=>q)
  refine Snd.bind (o:=.ok q S₁) (f:=fun t=>if t then k i else no) key fun q' v S₂ WB e₂ GB rB=>?_
  cases e₂
  obtain ⟨_,rB⟩:=rB
  obtain rfl:v=.bool q:=rB
  refine .skip (fun _ _ q=>wpAny_release q) (.skip (a:=q) (fun _ _ z=>zA0 (wpAny_truthy_bool z)) ?_)
  cases q with
  | true=>exact hT _ _ _ _ GB.inv
  | false=>exact hF _ _ GB.inv
noncomputable abbrev RVs (X:Fx):Wd->List AV->List Value->Prop:=fun W l vs=>VReps X.C W l vs
structure ArgE (X:Fx) (R:Wd->AV->Value->Prop) (e:Expr) (d:D AV):Prop where
 snd:∀ S W,Inv X S W->Snd X true R (eval e X.env) (d S) W
 star:PySem.W.isStarred e=true->d=Mine.stk
noncomputable abbrev TrE (X:Fx) (R:Wd->AV->Value->Prop):List Expr->List (D AV)->Prop:=F2 (ArgE X R)
theorem bA {e:Expr} {es:List Expr} {env:Env} (h:¬ PySem.W.isStarred e=true):starEach (e::es) env=(false,eval e env)::starEach es env:=by
 cases e <;> first | rfl | exact absurd rfl h
noncomputable def RLs (R:Wd->AV->Value->Prop) (W:Wd) (l:List AV) (vs:List Value):Prop:=F2 (R W) l vs
theorem gI {R:Wd->AV->Value->Prop} (hR:∀ {S W W' a v},R W a v->Inv X S W->EX X true W W'->R W' a v) {pos:Pos} {es:List Expr} {ds:List (D AV)} (h:TrE X R es ds):∀ S W,Inv X S W->Snd X true (RLs R) (spliced (backTo pos (starEach es X.env))) (bI ds S) W:=by
 induction h with
 | nil=>exact fun S W I=>.pure I .nil
 | @cons e d es ds h t ih =>
  intro S W I
  by_cases hs:PySem.W.isStarred e=true
  ·rw [h.star hs]; exact .stk
  ·rw [bA hs]
   exact Snd.bind (h.snd S W I) fun a va S₁ WA _ GA rA=>.skip (a:=_) (fun _ _ q=>zAk q) (Snd.bind (ih S₁ WA GA.inv).holding fun vs ws S₂ WB _ GB rB=>.pure GB.inv (.cons (hR rA GA.inv GB.ext) rB))
theorem RLs.v {W:Wd} {l:List AV} {vs:List Value} (h:RLs (RV X) W l vs):VReps X.C W l vs:=by
 induction h with
 | nil=>exact .nil
 | cons h t ih=>exact .cons h ih
theorem iR {pos:Pos} {es:List Expr} {ds:List (D AV)} (h:TrE X (RV X) es ds) (I:Inv X S W):Snd X true (RVs X) (spliced (backTo pos (starEach es X.env))) (bI ds S) W :=
 (gI (R:=RV X) (fun r _ x=>VRep.le r x) h S W I).mono fun _ _ _ r=>r.v
theorem pP {l:List AV} {vs:List Value} (I:Inv X S W) (h:VReps X.C W l vs):Snd X true (RV X) (newTuple vs) (Mine.opt (nC l) S) W :=
 (Snd.made I fun b hb=>by
  obtain ⟨hsz,rfl⟩:=mj hb
  exact zCc (Made.pushTup (vs:=vs.toArray) (h.fit hsz) h) (h.fit hsz)).freeze
theorem snd_newList {l:List AV} {vs:List Value} (I:Inv X S W) (h:VReps X.C W l vs):Snd X true (RM X) (newList vs) (Mine.opt (bz l) S) W :=
 Snd.made I fun b hb=>by
  obtain ⟨hsz,rfl⟩:=dM hb
  exact zCc (Made.pushLst (vs:=vs.toArray) (h.fit hsz) h) (h.fit hsz)
theorem snd_tuple {es:List Expr} {ds:List (D AV)} {k:Nat} {p:Pos} (h:TrE X (RV X) es ds):SndE X (.Tuple es k p) (aI ds):=fun S W I=>by
 rw [arm_eval_Tuple]
 exact .stand (Snd.bind (iR h I) fun l vs S₁ WA _ GA rA=>pP GA.inv rA)
theorem snd_list {es:List Expr} {ds:List (D AV)} {p:Pos} (h:TrE X (RV X) es ds):SndM X (.List es p) (cF ds):=fun S W I=>by
 rw [arm_eval_List]
 exact .stand (Snd.bind (iR h I) fun l vs S₁ WA _ GA rA=>snd_newList GA.inv rA)
end
theorem fit {j n:Nat} (h:j < n) (hn:n<=lim):(j:Int) < 2 ^ 63:=by
 have hl:lim=16777216:=rfl
 lia
theorem fit_neg {k:Int} {n:Nat} (h:0<=k+n) (hn:n<=lim):-(n:Int)<=k/\-(2 ^ 63)<=k:=by
 have hl:lim=16777216:=rfl
 lia
set_option tactic.hygienic true in
theorem gV {slice:Expr} {o i:Value} (h:∀ a b p,slice ≠ .Slice a b none p):subscripted slice false o i=operate [o,i] (getItem o i):=by
 cases slice <;> first | rfl | skip
 rename_i a b c p
 cases c with
 | none=>exact absurd rfl (h a b p)
 | some _=>rfl
section
variable {C:Cx} {A:Around} {W:Wd} {E:Value->Shared->Prop}
theorem VRep.int {i:Int} {v:Value} {a:AV} (r:VRep C W a v) (h:gn a=some i):∃ t,v=.int i t:=by obtain rfl:=bN h; exact r
theorem kX {vs:Array Value} {l:List AV} {j:Nat} {a:AV} (hv:VReps C W l vs.toList) (h:l[j]?=some a):∃ x,vs[j]?=some x/\VRep C W a x/\j < vs.size:=by
 obtain ⟨x,hx,hr⟩:=hv.get h
 rw [zB4] at hx
 exact ⟨x,hx,hr,(zBn.mp hx).1⟩
theorem VRep.tk {a:AV} {v:Value} {tk:Nat} (r:VRep C W a v):VRep C (W.to W.h tk) a v:=r.mono ((Ge.sim (C:=C) .refl).grow fun _ q=>q.elim)
inductive Had (C:Cx) (W:Wd) (c:AV):Value->Shared->Prop
 | mk {tk:Nat} {v:Value} (r:VRep C (W.to W.h tk) c v):Had C W c v { W.s with toks:=tk }
set_option tactic.hygienic true in
theorem wp_idx {v slice:Expr} {c i r:AV} {va vi:Value} (hsl:∀ a b p,slice ≠ .Slice a b none p) (hc:RP C W c va) (hi:VRep C W i vi) (h:idxV c i=some r):wpAny C.M A (subscriptTail v slice va vi) (Had C W r) E W.s:=by
 have had:∀ {x:Value},VRep C W r x->Had C W r x W.s:=fun q=>.mk (W:=W) (tk:=W.s.toks) q
 cases c <;> first | (exact aD h; done) | skip
 ·rename_i x
  obtain ⟨k,h1,h⟩:=zAg.mp h
  obtain ⟨u,rfl⟩:=hi.int h1
  obtain ⟨h0,h⟩:=em h
  obtain ⟨j,rfl⟩:=zCa h0
  obtain ⟨ok,t,rfl⟩:=hc.str
  obtain ⟨cp,he,rfl⟩:=zAo.mp h
  have he:x.cps[j]?=some cp:=he
  have hlt:=(zBn.mp he).1
  refine tail_any (T:="str") (typeIs_str W.s x t) F.slot_str_getitem.lookup (PyProof.Rows.getItem_str (c:=cp) ?_ ?_ (.mk ⟨⟨?_,by show (1:Nat)<=lim; decide⟩,_,rfl⟩)) (gV hsl)
  ·rw [decide_eq_false (by lia),decide_eq_false (Int.not_le.mpr (fit hlt ok.sz))]; rfl
  ·rw [seqIndex_of h0 (show (j:Int) < x.length from Int.ofNat_lt.mpr hlt)]; exact he
  ·have hm:=Array.all_eq_true.mp (show x.cps.all (· < 0x110000)=true from ok.ok) j hlt
   rw [(zBn.mp he).2] at hm
   show (#[cp]).all (· < 0x110000)=true
   simpa using hm
 ·rename_i l
  obtain ⟨k,h1,h⟩:=zAg.mp h
  obtain ⟨u,rfl⟩:=hi.int h1
  obtain ⟨h0,h⟩:=em h
  obtain ⟨j,rfl⟩:=zCa h0
  obtain ⟨a,rfl,vs,n,ha,hsz,hv⟩:=hc.tup
  obtain ⟨x,hx,hr,hlt⟩:=kX hv h
  exact tail_any (T:="tuple") ⟨_,ha,rfl⟩ F.slot_tuple_getitem.lookup (PyProof.Rows.getItem_tuple (items:=vs) ⟨_,ha,rfl,n,rfl⟩ (by lia) (fit hlt hsz) (seqIndex_of h0 (Int.ofNat_lt.mpr hlt)) hx (had hr)) (gV hsl)
 ·rename_i l
  obtain ⟨k,h1,h⟩:=zAg.mp h
  obtain ⟨u,rfl⟩:=hi.int h1
  obtain ⟨a,rfl,vs,n,ha,hsz,hv⟩:=hc.lst
  have ha:W.h.PlainList a vs:=⟨n,ha⟩
  have fin:∀ {Q:wpAny C.M A (getItem (.ref a) (.int k u)) (Had C W r) E W.s},wpAny C.M A (subscriptTail v slice (.ref a) (.int k u)) (Had C W r) E W.s:=fun {Q}=>tail_any ha.isList.typeIs F.slot_list_getitem.lookup Q (gV hsl)
  unfold at? at h
  by_cases h0:0<=k
  ·rw [if_pos h0] at h
   obtain ⟨x,hx,hr,hlt⟩:=kX hv h
   obtain ⟨j,rfl⟩:=zCa h0
   exact fin (Q:=wpAny_getItem_list ha.isList h0 (fit hlt hsz) hx (had hr))
  ·rw [if_neg h0] at h
   obtain ⟨h2,h⟩:=em h
   obtain ⟨x,hx,hr,hlt⟩:=kX hv h
   rw [← hv.size] at h2 hx
   exact fin (Q:=wpAny_getItem_list_neg ha.isList (Int.not_le.mp h0) (fit_neg h2 hsz).1 (fit_neg h2 hsz).2 hx (had hr))
 ·rename_i ks vs
  obtain ⟨hk,h'⟩:=em (p:=nM i=true) h
  clear h
  cases i <;> first | (exact ff hk; done) | skip
  rename_i x
  obtain ⟨ad,rfl,o,ss,ws,h1,h2,rfl,h3,h4⟩:=hc.dct
  have hD:W.h.DictOf (strKind C.prog C.w) ad (ss.zip ws):=zCm.mpr ⟨o,h1,h3.is⟩
  obtain ⟨_,t,rfl⟩:=hi
  obtain ⟨w,hw,hr⟩:=j9 h4 h'
  exact tail_any hD.typeIs slot_dict_getitem.lookup (wpAny_getItem_of (strKind_is C.prog C.w x t) hD.mapOf hw (.mk hr.tk)) (gV hsl)
theorem part_of {a:AV} {v:Value} {k:Option Int} (r:VRep C W a v) (h:partOf a=some k):IsPart v k:=by
 cases a <;> first | (exact aD h; done) | skip
 ·obtain rfl:=r; cases h; exact .none
 ·obtain ⟨t,rfl⟩:=r; cases h; exact .int _ t
structure RSl (C:Cx) (W:Wd) (p:AV × AV) (sl:Addr) (vl vu:Value):Prop where
 is:W.h.IsSliceOf sl vl vu .none
 l:VRep C W p.1 vl
 u:VRep C W p.2 vu
set_option tactic.hygienic true in
theorem wp_slc {v:Expr} {lo hi:Option Expr} {p:Pos} {c r:AV} {ab:AV × AV} {va:Value} {sl:Addr} {vl vu:Value} (hc:RP C W c va) (hs:RSl C W ab sl vl vu) (h:kC c ab.1 ab.2=some r):wpAny C.M A (subscriptTail v (.Slice lo hi none p) va (.ref sl)) (Made C W r) E W.s:=by
 cases c <;> first | (exact aD h; done) | skip
 ·rename_i l
  obtain ⟨hn,h⟩:=em (p:=isNone ab.2=true) h
  obtain ⟨a,e1,h⟩:=zAg.mp h
  obtain ⟨⟨ha,hb⟩,rfl⟩:=bu h
  obtain ⟨j,rfl⟩:=zCa (Int.le_trans (by decide) ha)
  obtain ⟨u,rfl⟩:=hs.l.int e1
  obtain rfl:=hW (.val hs.u) hn
  obtain ⟨ad,rfl,vs,n,had,hsz,hv⟩:=hc.tup
  refine tail_any (T:="tuple") ⟨_,had,rfl⟩ F.slot_tuple_getitem.lookup (getItem_tuple_from (items:=vs) ⟨_,had,rfl,n,rfl⟩ hs.is (Int.ofNat_le.mp ha) (hv.size ▸ Int.ofNat_le.mp hb) ?_ hsz) rfl
  exact Made.pushTup (vs:=(vs.toList.drop j).toArray) (zAj (by show (vs.toList.drop j).length<=vs.size; rw [zBm,zBz]; exact Nat.sub_le _ _) hsz) (hv.drop j)
 ·rename_i l
  obtain ⟨l',h3,rfl⟩:=zAo.mp h
  obtain ⟨lo',e1,h4⟩:=zAg.mp h3
  obtain ⟨hi'',e2,rfl⟩:=zAo.mp h4
  obtain ⟨ad,rfl,vs,n,had,hsz,hv⟩:=hc.lst
  have had:W.h.PlainList ad vs:=⟨n,had⟩
  refine tail_any had.isList.typeIs F.slot_list_getitem.lookup (wpAny_getItem_list_slice had.isList hs.is (part_of hs.l e1) (part_of hs.u e2) .none (fun q=>nomatch q) ?_ hsz) rfl
  refine Made.pushLst (vs:=slicePick vs lo' hi'' none) (zAj (slicePick_size_le ..) hsz) ?_
  rw [slicePick_plain,hv.size]
  exact (hv.drop _).take _
end
section
variable {X:Fx} {W:Wd} {S:S}
theorem Snd.had {m:Sem Value} {o:Option AV} (I:Inv X S W) (h:∀ c,o=some c->wpAny X.C.M X.A m (Had X.C W c) (fun _ _=>False) W.s):Snd X true (RV X) m (Mine.opt o S) W :=
 Snd.opt fun b hb=>zAv (h b hb) (fun _ _ q=>by cases q with | @mk tk v r=>exact .mk (W':=W.to W.h tk) rfl (I.toks _) r) fun _ _ q=>q
noncomputable abbrev mT (X:Fx) (e:Option Expr) (d:D AV):Prop:=∀ S W,Inv X S W->Snd X true (RV X) (valueOrNone (evalOpt e X.env)) (d S) W
theorem sndO_none:mT X none (af .none):=fun S W I=>.pure I rfl
theorem snd_slice {lo hi:Option Expr} {p:Pos} {dl dh:D AV} (hl:mT X lo dl) (hh:mT X hi dh) (I:Inv X S W) :
  Snd X true (fun W p v=>∃ sl vl vu,v=.ref sl/\RSl X.C W p sl vl vu) (eval (.Slice lo hi none p) X.env) (ax (dl S) fun a=>aE dh fun b=>af (a,b)) W:=by
 rw [arm_eval_Slice]
 refine Snd.bind (hl S W I) fun a va S₁ WA _ GA rA=>Snd.bind (hh S₁ WA GA.inv).holding fun b vb S₂ WB _ GB rB=>.skip (fun _ _ q=>zA0 (zAk q)) fun _=>?_
 have G:=GB.inv.ge (ev:=true) (.push (o:={ cls:=.type "slice",data:=.fields #[va,vb,.none] })) WB.s.toks
 exact zCc (.mk (W':=WB.to (WB.h.push { cls:=.type "slice",data:=.fields #[va,vb,.none] }) WB.s.toks) rfl G ⟨_,va,vb,rfl,Heap.IsSliceOf.new ..,(rA.le GB.ext).le G.ext,rB.le G.ext⟩)
theorem mP {v:Expr} {lo hi:Option Expr} {p q:Pos} {dv dl dh:D AV} (hv:jl X v dv) (hl:mT X lo dl) (hh:mT X hi dh):SndM X (.Subscript v (.Slice lo hi none q) p) (cj dv dl dh):=fun S W I=>by
 rw [show eval (.Subscript v (.Slice lo hi none q) p) X.env=(do
   let o ← eval v X.env
   let i ← holding [o] (eval (.Slice lo hi none q) X.env)
   standAt p
   subscriptTail v (.Slice lo hi none q) o i) from rfl]
 refine Snd.bind (hv S W I) fun a va S₁ WA _ GA rA=>?_
 rw [show (aE dl fun x=>aE dh fun y=>aE (deref a) fun c'=>Mine.opt (kC c' x y))=aE (aE dl fun a=>aE dh fun b=>af (a,b)) fun q=>aE (deref a) fun c'=>Mine.opt (kC c' q.1 q.2) from by
  rw [bO]; congr 1; funext x; rw [bO]; rfl]
 refine Snd.bind (snd_slice hl hh GA.inv).holding fun i vi S₂ WB _ GB rB=>.stand ?_
 obtain ⟨sl,vl,vu,rfl,rB⟩:=rB
 exact .deref GB.inv (rA.le GA.inv GB.ext) fun c' hc'=>.made GB.inv fun r hr=>wp_slc hc' rB hr
theorem snd_sub_idx {v i:Expr} {p:Pos} {dv di:D AV} (hsl:∀ a b p,i ≠ .Slice a b none p) (hv:jl X v dv) (hi:SndE X i di):SndE X (.Subscript v i p) (am dv di):=fun S W I=>by
 rw [show eval (.Subscript v i p) X.env=(do
   let o ← eval v X.env
   let j ← holding [o] (eval i X.env)
   standAt p
   subscriptTail v i o j) from rfl]
 exact Snd.bind (hv S W I) fun a va S₁ WA _ GA rA=>Snd.bind (hi S₁ WA GA.inv).holding fun i vi S₂ WB _ GB rB =>
  .stand (.deref GB.inv (rA.le GA.inv GB.ext) fun c' hc'=>.had GB.inv fun r hr=>wp_idx hsl hc' rB hr)
end
section
variable {C:Cx} {X:Fx} {frs:List Env} {mu:Addr->Prop} {W W':Wd} {st:St} {S:S} {h':Heap} {tk:Nat} {b₀:Addr}
theorem Grow.frm (hf:W.fr b₀) (same:∀ b o,b ≠ b₀->W.h.get? b=some o->h'.get? b=some o):Grow W (W.to h' tk) :=
 ⟨id,fun e f _=>same _ _ (fun q=>f.fr (q ▸ hf)) e,fun _ f=>f,fun e f x=>⟨_,same _ _ (fun q=>f.fr (q ▸ hf)) e,x,rfl⟩⟩
theorem InvC.frm (I:InvC C frs W st) (hf:W.fr b₀) (same:∀ b o,b ≠ b₀->W.h.get? b=some o->h'.get? b=some o) (hat:∃ o,h'.get? b₀=some o/\∀ vs,o.data ≠ .fields vs):InvC C frs (W.to h' tk) st where
 sh:=I.sh.elim fun h q=>q.elim fun t e=>⟨h',tk,by show ({ W.s with heap:=h',toks:=tk }:Shared)=_; rw [e]⟩
 stat:=fun b o e=>same b o (fun q=>aH e (q ▸ (I.lo _ (cA hf)).1)) (I.stat b o e)
 lo:=fun b h=>⟨(I.lo b h).1,by
  by_cases hb:b=b₀
  ·exact hb ▸ hat.imp fun _ q=>q.1
  ·exact (I.lo b h).2.imp fun o q=>same b o hb q⟩
 nd:=I.nd
 ol:=I.ol
 oi:=I.oi
 tl:=I.tl
 fl:=fun b q=>⟨(I.fl b q).1,(I.fl b q).2.1,fun o vs e=>by
  by_cases hb:b=b₀
  ·subst hb
   obtain ⟨o',h1,h2⟩:=hat
   rw [h1] at e; cases e; exact h2 vs
  ·obtain ⟨o',h1⟩:=I.mus (cA q)
   rw [same b o' hb h1] at e; cases e
   exact (I.fl b q).2.2 _ vs h1⟩
 frs:=I.frs
 len:=I.len
 objs:=fun n o e=>(I.objs n o e).imp fun a q=>⟨q.1,q.2.mono (.frm hf same) fun o _=>same a o fun z=>(I.fl _ hf).1.lab (z ▸ cr q.1)⟩
theorem Ext.frm (hm:mu b₀) (hf:W.fr b₀) (same:∀ b o,b ≠ b₀->W.h.get? b=some o->h'.get? b=some o) (hat:∃ o,h'.get? b₀=some o):Ext mu W (W.to h' tk) where
 dom:=fun {b o} e=>by
  by_cases hb:b=b₀
  ·exact hb ▸ hat
  ·exact ⟨o,same b o hb e⟩
 labs:=⟨[],(zAx _).symm,fun _ q=>nomatch q⟩
 own:=fun q=>.own (W:=W) q
 tmp:=fun _ _=>.rfl
 fr:=fun _=>.rfl
 keep:=fun e _ f _=>same _ _ (fun q=>f (q ▸ hf)) e
 exo:=fun e _ f x=>⟨_,same _ _ (fun q=>f (q ▸ hf)) e,x,rfl⟩
 fc:=fun e _ m=>⟨_,same _ _ (fun q=>m (q ▸ hm)) e,rfl⟩
theorem ns_eq {h:Heap} {a:Addr} {m m':Str->Option Value} (x:h.Ns a m) (y:h.Ns a m') (n:Str):m n=m' n:=by
 obtain ⟨o,es,ep,h1,h2,_,h4⟩:=x
 obtain ⟨o',es',ep',q1,q2,_,q4⟩:=y
 rw [h1] at q1; cases q1
 rw [h2] at q2; cases q2
 exact (h4 n).symm.trans (q4 n)
structure Stored (X:Fx) (W:Wd) (x:Str) (v:Value) (b₀:Addr) (h':Heap):Prop where
 mu:X.mu b₀
 fr:W.fr b₀
 same:∀ b o,b ≠ b₀->W.h.get? b=some o->h'.get? b=some o
 hat:∃ o,h'.get? b₀=some o/\∀ vs,o.data ≠ .fields vs
 val:X.Val h' x v
 oth:∀ y u,y ≠ x->X.Val W.h y u->X.Val h' y u
 ns:∃ m,h'.Ns X.env.locals m
 cells:∀ y c,X.env.cells.lookup y=some c->∃ v,h'.IsCell c v
theorem Stored.good {own':Option Str->Option Addr} {x:Str} {v:Value} {lv:LV} (I:Inv X S W) (hn:fG X.nms x=true) (T:Stored X W x v b₀ h') (ho:∀ k b,own' k=some b->∃ k',W.own k'=some b) (hi:∀ k k' b,own' k=some b->own' k'=some b->k=k') (hk:∀ y,y ≠ x->own' (some y)=W.own (some y))
  (hlv:LRep X.C ⟨W.labs,own',W.tmp,W.fr,{ W.s with heap:=h',toks:=tk }⟩ x lv v):Good X false W ⟨ai (aJ x X.nms) lv S.loc,S.st⟩ ⟨W.labs,own',W.tmp,W.fr,{ W.s with heap:=h',toks:=tk }⟩:=by
 have g:Grow (W.to h' tk) ⟨W.labs,own',W.tmp,W.fr,{ W.s with heap:=h',toks:=tk }⟩:=Grow.less (W:=W.to h' tk) ho
 refine ⟨(Ext.frm (tk:=tk) ⟨rfl,T.mu⟩ T.fr T.same (T.hat.imp fun _ q=>q.1)).trans (Ext.less (W:=W.to h' tk) ho),?_,?_⟩
 ·exact InvC.less (W:=W.to h' tk) (I.c.frm T.fr T.same T.hat) ho hi
 refine ⟨I.f.lc,T.ns,fun y c e=>⟨(I.f.cells y c e).1,T.cells y c e⟩,fun y lv' hm e=>?_⟩
 by_cases hy:y=x
 ·subst hy
  rw [show al (aJ y X.nms) (ai (aJ y X.nms) lv S.loc)=some lv from eo] at e
  cases e
  exact ⟨v,T.val,hlv⟩
 ·rw [show al (aJ y X.nms) (ai (aJ x X.nms) lv S.loc)=al (aJ y X.nms) S.loc from cV fun q=>hy (fw hn q)] at e
  obtain ⟨u,h1,h2⟩:=I.f.vars y lv' hm e
  refine ⟨u,T.oth y u hy h1,LRep.mono g (fun a z=>⟨(hk y hy).trans z,fun _ _ e=>e⟩) (LRep.mono (.frm T.fr T.same) (fun a z=>⟨z,fun o _=>T.same a o fun q=>(I.c.fl _ T.fr).1.own _ (q ▸ z)⟩) h2)⟩
noncomputable def StOk (X:Fx) (x:Str):Prop:=X.nms.lookup x=some .local ∨ (X.fn=true/\X.nms.lookup x=some .cell)
theorem StOk.has {x:Str} (h:StOk X x):fG X.nms x=true:=by
 unfold fG; rw [bJ]
 rcases h with q | ⟨_,q⟩ <;> rw [q] <;> rfl
theorem nh {x:Str} {v:Value} {Q:Unit->Shared->Prop} {E:Value->Shared->Prop} (F:X.Ok) (I:Inv X S W) (hst:StOk X x) (hQ:∀ b₀ h' tk,Stored X W x v b₀ h'->Q () { W.s with heap:=h',toks:=tk }):wpAny X.C.M X.A (storeName X.env x v) Q E W.s:=by
 obtain ⟨m,hns⟩:=I.f.ns
 rcases hst with key | ⟨hfn,key⟩
 ·have hk:=F.loc x key
  refine wpAny_storeName_local hk hns (fun h' hn' hs'=>hQ X.env.locals h' _ ?_) (by rw [F.kind]; rfl)
  have same:∀ b o,b ≠ X.env.locals->W.h.get? b=some o->h'.get? b=some o:=fun b o hb e=>(hs'.2 b hb).trans e
  exact {
   mu:=.inl rfl
   fr:=I.f.lc
   same:=same
   hat:=by obtain ⟨o,es,ep,h1,h2,_⟩:=hn'; exact ⟨o,h1,fun vs q=>by rw [h2] at q; exact eN Data.ctorIdx q rfl⟩
   val:=.loc hk hn' (if_pos rfl)
   oth:=fun y u hy r=>by
    cases r with
    | loc k n e=>exact .loc k hn' ((if_neg hy).trans ((ns_eq hns n y).trans e))
    | cell k l e=>exact .cell k l (IsCell.same e fun o q=>⟨o,same _ o (F.cl _ _ l) q,rfl⟩)
   ns:=⟨_,hn'⟩
   cells:=fun y c e=>(I.f.cells y c e).2.imp fun _ r=>IsCell.same r fun o q=>⟨o,same _ o (F.cl _ _ e) q,rfl⟩ }
 ·obtain ⟨_,c,hc⟩:=F.cel x (.inl key)
  have hk:=F.fcell hfn x key
  obtain ⟨hfc,v₀,hv₀⟩:=I.f.cells x c hc
  refine wpAny_storeName_cell F.kind hk hc hv₀ fun h' hcl hs'=>hQ c h' W.s.toks ?_
  have same:∀ b o,b ≠ c->W.h.get? b=some o->h'.get? b=some o:=fun b o hb e=>(hs'.2 b hb).trans e
  have nsS:∀ {m},W.h.Ns X.env.locals m->h'.Ns X.env.locals m:=fun n=>kR n fun o q=>⟨o,same _ o (fun z=>F.cl _ _ hc z.symm) q,rfl⟩
  exact {
   mu:=.inr ⟨hfn,x,hc⟩
   fr:=hfc
   same:=same
   hat:=by obtain ⟨o,h1,h2⟩:=hcl; exact ⟨o,h1,fun vs q=>by rw [h2] at q; exact eN Data.ctorIdx q rfl⟩
   val:=.cell (.inl hk) hc hcl
   oth:=fun y u hy r=>by
    cases r with
    | loc k n e=>exact .loc k (nsS n) e
    | cell k l e=>exact .cell k l (IsCell.same e fun o q=>⟨o,same _ o (fun z=>hy (F.inj _ _ _ l (z ▸ hc))) q,rfl⟩)
   ns:=⟨m,nsS hns⟩
   cells:=fun y d e=>by
    by_cases hd:d=c
    ·exact ⟨_,hd ▸ hcl⟩
    ·exact (I.f.cells y d e).2.imp fun _ r=>IsCell.same r fun o q=>⟨o,same _ o hd q,rfl⟩ }
noncomputable abbrev RU:Wd->Unit->Unit->Prop:=fun _ _ _=>True
theorem oE {x:Str} {a:AV} {v:Value} (F:X.Ok) (I:Inv X S W) (hst:StOk X x) (h:VRep X.C W a v):Snd X false RU (storeName X.env x v) (gD (aJ x X.nms) (.val a) S) W:=fun _ =>
 nh F I hst fun b₀ h' tk T=>.mk (W':=⟨W.labs,jE W.own (some x) none,W.tmp,W.fr,{ W.s with heap:=h',toks:=tk }⟩) rfl
  (T.good (lv:=.val a) I hst.has (fun _ _ q=>⟨_,(aN q).2⟩) (fun _ _ _ q q'=>I.c.oi _ _ _ (aN q).2 (aN q').2) (fun y hy=>c9 fun q=>hy (Option.some.inj q)) ((h.mono (.frm T.fr T.same)).mono (Grow.less (W:=W.to h' tk) fun _ _ q=>⟨_,(aN q).2⟩))) trivial
noncomputable def ownX (own:Option Str->Option Addr) (x:Str):Option Str->Option Addr:=jE (jE own (some x) (own none)) none none
theorem fB {own:Option Str->Option Addr} {x:Str} {k:Option Str} {b:Addr} (h:ownX own x k=some b):k ≠ none/\((k=some x/\own none=some b) ∨ (k ≠ some x/\own k=some b)):=by
 obtain ⟨h1,h2⟩:=aN h
 refine ⟨h1,?_⟩
 by_cases hk:k=some x
 ·subst hk; rw [cB] at h2; exact .inl ⟨rfl,h2⟩
 ·rw [c9 hk] at h2; exact .inr ⟨hk,h2⟩
theorem iM {x:Str} {a:AV} {ad:Addr} (F:X.Ok) (I:Inv X S W) (hst:StOk X x) (ho:W.own none=some ad) (h:CRep X.C W W.h ad a):Snd X false RU (storeName X.env x (.ref ad)) (gD (aJ x X.nms) (.own a) S) W:=fun _=>by
 have hx:ownX W.own x (some x)=some ad:=(c9 (k:=none) (j:=some x) fun q=>nomatch q).trans ((cB (own:=W.own)).trans ho)
 have hle:∀ k b,ownX W.own x k=some b->∃ k',W.own k'=some b:=fun k b q=>(fB q).2.elim (fun z=>⟨_,z.2⟩) fun z=>⟨_,z.2⟩
 refine nh F I hst fun b₀ h' tk T=>.mk (W':=⟨W.labs,ownX W.own x,W.tmp,W.fr,{ W.s with heap:=h',toks:=tk }⟩) rfl
  (T.good (lv:=.own a) I hst.has hle (fun k k' b q q'=>?_) (fun y hy=>?_) ⟨ad,rfl,hx,?_⟩) trivial
 ·rcases (fB q).2 with ⟨h1,h2⟩ | ⟨h1,h2⟩ <;> rcases (fB q').2 with ⟨h3,h4⟩ | ⟨h3,h4⟩
  ·rw [h1,h3]
  ·exact absurd (I.c.oi _ _ _ h4 h2) (fB q').1
  ·exact absurd (I.c.oi _ _ _ h2 h4) (fB q).1
  ·exact I.c.oi _ _ _ h2 h4
 ·exact (c9 (k:=none) (j:=some y) fun q=>nomatch q).trans (c9 fun q=>hy (Option.some.inj q))
 ·exact (h.mono (.frm (tk:=tk) T.fr T.same) fun o _=>T.same ad o fun q=>(I.c.fl _ T.fr).1.own _ (q ▸ ho)).mono (Grow.less (W:=W.to h' tk) hle) fun _ _ e=>e
end
section
variable {X:Fx} {W:Wd} {S:S}
noncomputable def RF (X:Fx) (W:Wd) (f:Fl) (fl:Flow):Prop :=
 match f,fl with
 | .next,.next=>True
 | .ret a,.ret v=>VRep X.C W a v
 | _,_=>False
noncomputable abbrev cY (X:Fx) (st:Stmt) (d:D Fl):Prop:=X.fn=true->∀ S W,Inv X S W->Snd X false (RF X) (exec st X.env) (d S) W
noncomputable abbrev eJ (X:Fx) (st:List Stmt) (d:D Fl):Prop:=X.fn=true->∀ S W,Inv X S W->Snd X false (RF X) (execs st X.env) (d S) W
theorem sndSs_nil:eJ X [] (af .next):=fun _ S W I=>by rw [execs_nil]; exact .pure I trivial
theorem sndSs_cons {st:Stmt} {rest:List Stmt} {d dr:D Fl} (h:cY X st d) (hr:eJ X rest dr):eJ X (st::rest) (ac d dr):=fun hf S W I=>by
 rw [execs_cons]
 refine Snd.bind (h hf S W I) fun f fl S₁ WA _ GA rA=>?_
 cases f <;> cases fl <;> first | exact rA.elim | exact hr hf S₁ WA GA.inv | exact .pure GA.inv rA
theorem sndS_return {e:Option Expr} {p:Pos} {d:D AV} (h:mT X e d):cY X (.Return e p) (aV d):=fun hf S W I=>by
 cases e with
 | none =>
  rw [exec_Return_none]
  exact .stand (Snd.bind (m:=valueOrNone (evalOpt none X.env)) (k:=fun v=>(Pure.pure (Flow.ret v):Sem Flow)) (h S W I).weak fun a va S₁ WA _ GA rA=>.pure GA.inv rA)
 | some e =>
  rw [exec_Return_some]
  exact .stand (Snd.bind (h S W I).weak fun a va S₁ WA _ GA rA=>.pure GA.inv rA)
theorem sndS_if {t:Expr} {a b:List Stmt} {p:Pos} {d:D AV} {da db:D Fl} (ht:SndT X t d) (ha:eJ X a da) (hb:eJ X b db):cY X (.If t a b p) (bQ d da db):=fun hf S W I=>by
 unfold bQ
 rw [exec_If,← bO]
 refine .stand (Snd.bind (ht S W I).weak fun c c' S₁ WA _ GA rA=>?_)
 obtain rfl:c=c':=rA
 cases c with
 | true=>exact ha hf S₁ WA GA.inv
 | false=>exact hb hf S₁ WA GA.inv
theorem ck {e:Expr} {x:Str} (h:cR e=some x):∃ p,e=.Name x p:=by
 unfold cR at h
 by_cases q:e.ctorIdx=23
 ·rw [dif_pos q] at h
  exact Expr.Name.elim (motive_1:=fun e=>∀ q:e.ctorIdx=23,Expr.Name.elim (motive_1:=fun _=>Option Str) e q (fun x _=>some x)=some x->∃ p,e=.Name x p) e q (fun y p _ h=>⟨p,congrArg (Expr.Name · p) (Option.some.inj h)⟩) q h
 ·rw [dif_neg q] at h; exact aD h
theorem isSt_spec {sc:Sc} {x:Str} (h:ky sc x=true):sc.lookup x=some .local ∨ sc.lookup x=some .cell:=by
 obtain ⟨h1,h2⟩:=zAn.mp h
 rw [bJ] at h1
 revert h1
 cases sc.lookup x with
 | none=>intro h; exact ff h
 | some k=>cases k <;> intro h <;> first | exact .inl rfl | exact .inr rfl | exact ff h
theorem isLo_spec {sc:Sc} {x:Str} (h:isLo sc x=true):sc.lookup x=some .local:=by
 obtain ⟨h1,h2⟩:=zAn.mp h
 rw [bJ] at h1
 revert h1
 cases sc.lookup x with
 | none=>intro h; exact ff h
 | some k=>cases k <;> intro h <;> first | rfl | exact ff h
theorem k8 (hf:X.fn=true) {x:Str} (q:ky X.nms x=true):StOk X x:=(isSt_spec q).imp id fun z=>⟨hf,z⟩
theorem f8 {x:Str} {a:AV} {v:Value} (F:X.Ok) (I:Inv X S W) (hst:StOk X x) (h:VRep X.C W a v):Snd X false RU (bindName X.env x v) (gD (aJ x X.nms) (.val a) S) W:=(oE F I hst h).wp fun _ _ q=>wpAny_bindName q
theorem gc (F:X.Ok) {x:Str} {p' pos:Pos} {v:Expr} {d:D AV} (hsw:swapsWith v (some (.Name x p')) pos.line X.env=Pure.pure false) (hst:ky X.nms x=true) (h:SndE X v d):cY X (.Assign [.Name x p'] v pos) (aL (aJ x X.nms) d):=fun hf S W I=>by
 rw [exec_Assign_Name (hs:=hsw)]
 exact .stand (Snd.bind (h S W I).weak fun a va S₁ WA _ GA rA=>.stand (Snd.bind (f8 F GA.inv (k8 hf hst) rA) fun _ _ S₂ WB _ GB _=>.pure GB.inv trivial))
theorem gi (F:X.Ok) {x:Str} {p' pos:Pos} {v:Expr} {d:D AV} (hsw:swapsWith v (some (.Name x p')) pos.line X.env=Pure.pure false) (hst:ky X.nms x=true) (h:SndM X v d):cY X (.Assign [.Name x p'] v pos) (bo (aJ x X.nms) d):=fun hf S W I=>by
 rw [exec_Assign_Name (hs:=hsw)]
 refine .stand (Snd.bind (h S W I).weak fun a va S₁ WA _ GA rA=>.stand ?_)
 have hst':=k8 hf hst
 cases rA with
 | new e k o r =>
  subst e
  rw [show iY true a=.own a from if_pos k]
  exact Snd.bind ((iM F GA.inv hst' o r).wp fun _ _ q=>wpAny_bindName q) fun _ _ S₂ WB _ GB _=>.pure GB.inv trivial
 | val k r =>
  rw [show iY true a=.val a from if_neg (by show ¬ (fJ a)=true; rw [k]; exact zAq)]
  exact Snd.bind (f8 F GA.inv hst' r) fun _ _ S₂ WB _ GB _=>.pure GB.inv trivial
end
section
variable {C:Cx} {X:Fx} {ev:Bool} {W W' W₀:Wd} {S:S} {h':Heap} {tk:Nat} {z:Bool} {c:Str} {v:Value}
theorem Exo.map {o:Obj} (h:Exo o) (f:Array Value->Array Value):Exo (o.mapFields f)/\(o.mapFields f).cls=o.cls:=by
 obtain ⟨h1,⟨vs,h2⟩,h3⟩:=h
 obtain ⟨oc,od,dt,os⟩:=o
 subst h2
 exact ⟨⟨h1,⟨_,rfl⟩,h3⟩,rfl⟩
theorem ExcO.map {o:Obj} (h:ExcO C c o) (f:Array Value->Array Value):ExcO C c (o.mapFields f):=h.same (h.exo.map f).1 (h.exo.map f).2
theorem Good.exo (G:Good X ev W₀ S W) {e:Addr} {oe:Obj} (he:W.h.get? e=some oe) (hx:Exo oe) (l:Loose X.C W e) (f:Array Value->Array Value):Good X ev W₀ S (W.to (W.h.update e (Obj.mapFields f)) W.s.toks)/\(W.h.update e (Obj.mapFields f)).get? e=some (oe.mapFields f):=by
 have oth:∀ {b:Addr} {o:Obj},b ≠ e->W.h.get? b=some o->(W.h.update e (Obj.mapFields f)).get? b=some o:=fun hb q=>by rw [zBf _ _ (Ne.symm hb)]; exact q
 have self:(W.h.update e (Obj.mapFields f)).get? e=some (oe.mapFields f):=hx.dat.elim fun vs hd=>zCv _ he (Obj.isFreed_of_fields (Obj.data_mapFields hd f))
 refine ⟨G.sim (ex:=fun _=>False) ⟨fun {b o} q=>?_,fun {b o} q _ p=>oth (fun z=>?_) q,fun {b o} q x=>?_,fun {b o} q r=>⟨o,oth (fun z=>l.fr.fr (z ▸ r)) q,rfl⟩⟩ (fun _ q=>q.elim),self⟩
 ·by_cases hb:b=e
  ·subst hb; exact ⟨_,self⟩
  ·exact ⟨_,oth hb q⟩
 ·subst z
  rw [he] at q; cases q
  exact (p l.st).1 hx
 ·by_cases hb:b=e
  ·subst hb
   rw [he] at q; cases q
   exact ⟨_,self,hx.map f⟩
  ·exact ⟨_,oth hb q,x,rfl⟩
theorem Loose.to {b:Addr} (l:Loose C W b):Loose C (W.to h' tk) b:=⟨l.st,l.fr⟩
theorem Inv.loose (I:Inv X S W) {b:Addr} (h:W.h.get? b=none):Loose X.C W b where
 st:=by
  cases e:X.C.s0.heap.get? b with
  | none=>rfl
  | some o=>exact (aH (I.c.stat _ _ e) h).elim
 fr:=Classical.byContradiction fun q=>(I.c.mus q).elim fun _ z=>aH z h
theorem Inv.funFrames (I:Inv X S W):∀ l:List Env,(∀ e ∈ l,e ∈ X.frs)->W.h.FunFrames {} l
 | [],_=>trivial
 | e::r,h=>by
  obtain ⟨h1,L,h2,h3⟩:=I.c.frs e (h e zAb)
  obtain ⟨o,h4⟩:=I.c.mus (cA h3)
  exact ⟨h1,⟨L,o,h2,rfl,h4,fun vs=>(I.c.fl _ h3).2.2 o vs h4⟩,I.funFrames r fun e' he'=>h e' (zAe _ he')⟩
theorem Inv.slots (I:Inv X S W) {fs:List Addr} (hs:Heap.SlotsOnly fs W.h h') (hf:∀ b ∈ fs,W.fr b):Good X ev W S (W.to h' W.s.toks):=by
 have same:∀ {b:Addr} {o:Obj},¬ W.fr b->W.h.get? b=some o->h'.get? b=some o:=fun hb e=>(hs.2.1 _ fun q=>hb (hf _ q)).trans e
 refine (Good.refl I).sim (ex:=fun _=>False) ⟨fun {b o} q=>(hs.2.2 b o q).imp' _ fun _ z=>z,fun {b o} q _ p=>?_,fun {b o} q x=>?_,fun {b o} q r=>?_⟩ fun _ q=>q.elim
 ·by_cases r:W.fr b
  ·exact ((p (I.c.lo _ (cA r)).1).2 r).elim
  ·exact same r q
 ·obtain ⟨sl,e⟩:=hs.2.2 b o q
  exact ⟨_,e,⟨x.dict,x.dat,x.cls⟩,rfl⟩
 ·obtain ⟨sl,e⟩:=hs.2.2 b o q
  exact ⟨_,e,rfl⟩
theorem wp_frameOf {E:Value->Shared->Prop} {Q:Value->Shared->Prop} (F:X.Ok) (I:Inv X S W)
  (h:∀ L h',X.env.frame=some L->(∀ b o,W.free b->W.h.get? b=some o->h'.get? b=some o)->Good X true W S (W.to h' W.s.toks)->Q (.ref L) { W.s with heap:=h' }):wpAny X.C.M X.A (PySem.frameOf X.env) Q E W.s:=by
 obtain ⟨e,r,hfr,hfe⟩:=F.frm
 have hA:=F.frames
 rw [hfr] at hA
 unfold PySem.frameOf
 refine zAa (wpAny_frameEnvs hA ?_)
 have hdw:((e::r).dropWhile fun x=>x.frame != X.env.frame)=e::r:=by simp [List.dropWhile,hfe]
 rw [hdw]
 unfold frameObject
 refine zAa (zAa (wpAny_readyFrames_fun (base:={}) (I.funFrames (e::r) (by rw [hfr]; exact fun _ h=>h)) fun h₁ hsA=>zAk ?_))
 obtain ⟨_,L,h2,_⟩:=I.c.frs e (by rw [hfr]; exact zAb)
 rw [h2]
 have hf:∀ b ∈ (e::r).filterMap (·.frame),W.fr b:=fun b hb=>by
  obtain ⟨e',he',hb'⟩:=List.mem_filterMap.mp hb
  obtain ⟨_,L',q1,q2⟩:=I.c.frs e' (by rw [hfr]; exact he')
  rw [hb'] at q1; cases q1; exact q2
 exact zAk (h L h₁ (by rw [← hfe]; exact h2) (fun b o f e=>(hsA.2.1 b fun q=>f.fr (hf b q)).trans e) (I.slots hsA hf))
theorem wp_entry {E:Value->Shared->Prop} {Q:Unit->Shared->Prop} (F:X.Ok) (G:Good X true W₀ S W) {e L:Addr} {oe:Obj} {vs:Array Value} {head:Value} {hn:Bool} (hL:X.env.frame=some L)
  (l:Loose X.C W e) (hx:ExO z X.C W.h c e oe vs) (hsz:1 < vs.size)
  (h:∀ W',Good X true W₀ S W'->IsTraced z X.C W' c (.ref e)->Q () W'.s) :
  wpAny X.C.M X.A (do let a ← PySem.frameOf X.env; let pl ← entryPlaceOf L hn; let b ← EntryCells.newEntry head a .none (rawInt L) .none pl; setField (.ref e) 1 b) Q E W.s:=by
 refine zAa (wp_frameOf F G.inv fun L' h₁ hL' keep GA=>?_)
 have heA:h₁.get? e=some oe:=keep e oe l.fr hx.obj
 refine zAa (wpAny_entryPlaceOf fun pl hpl=>?_)
 unfold EntryCells.newEntry newFields
 refine zAa (zCc ?_ (hpl.sizeOk5 _ _ _ _ _))
 generalize hT:({ cls:=.type "traceback",dict:=none,data:=.fields ([head,.ref L',.none,rawInt L,.none]++(if pl.isEmpty then zBu 6 Value.none else pl)).toArray }:Obj)=oT
 have hTx:Exo oT:=by rw [← hT]; exact ⟨rfl,⟨_,rfl⟩,.inr rfl⟩
 have GB:Good X true W₀ S (W.to (h₁.push oT) W.s.toks):=(G.trans GA).trans (GA.inv.ge .push _)
 have heB:(h₁.push oT).get? e=some oe:=zAh _ heA
 have hTA:(h₁.push oT).get? h₁.objs.size=some oT:=zAu _ (by rw [← hT]; rfl)
 have lT:=GA.inv.loose (b:=h₁.objs.size) get?_size
 have hTe:h₁.objs.size ≠ e:=zCh (zA5 heA)
 refine wpAny_setField heB hx.dat hsz ?_
 obtain ⟨GC,heC⟩:=GB.exo heB hx.is.exo l.to (·.setIfInBounds 1 (Value.ref h₁.objs.size))
 refine h _ GC (.mk (T:=h₁.objs.size) (fl:=rawInt L) l.to lT.to ⟨heC,hx.is.map _,Obj.data_mapFields hx.dat _,fun q=>by rw [Array.getElem?_setIfInBounds,if_neg (by decide)]; exact hx.ctx q⟩ ⟨Array.getElem?_setIfInBounds_self_of_lt hsz,hTe,?_,hTx,(by rw [← hT]),?_⟩)
 ·show ((h₁.push oT).update e _).get? h₁.objs.size=_
  rw [zBf _ _ (Ne.symm hTe)]; exact hTA
 ·rcases hpl with rfl | ⟨_,_,_,_,_,_,_,rfl⟩ <;> simp
theorem dB {E:Value->Shared->Prop} {Q:Unit->Shared->Prop} (F:X.Ok) (G:Good X true W₀ S W) (t:IsTrace z X.C W c v) (h:∀ W',Good X true W₀ S W'->IsTraced z X.C W' c v->Q () W'.s):wpAny X.C.M X.A (noteFrame v X.env) Q E W.s:=by
 obtain ⟨e',r,hfr,hfe⟩:=F.frm
 obtain ⟨_,L,h2,_⟩:=G.inv.c.frs e' (by rw [hfr]; exact zAb)
 rw [hfe] at h2
 unfold noteFrame
 simp only [h2]
 cases t with
 | no l x ht =>
  refine zAa (zBq x.obj x.dat ht ?_)
  rw [if_neg (by decide)]
  exact wp_entry F G h2 l x (zBn.mp ht).1 h
 | yes t =>
  cases t with
  | @mk e T oe oT vs ts fl l lT x t =>
   refine zAa (zBq x.obj x.dat t.at1 ?_)
   rw [if_pos (show (Value.ref T != Value.none)=true from by simp)]
   refine zAa (zBq t.obj t.dat t.fl ?_)
   by_cases hfl:(fl == rawInt L)=true
   ·rw [if_pos hfl]
    exact zAk (h _ G (.mk l lT x t))
   ·rw [if_neg hfl]
    refine zAa (wpAny_setField t.obj t.dat (zBn.mp t.fl).1 ?_)
    obtain ⟨GC,heC⟩:=G.exo t.obj t.exo lT (·.setIfInBounds 3 Value.none)
    exact wp_entry F GC h2 l.to ⟨(zBf _ _ t.ne).trans x.obj,x.is,x.dat,x.ctx⟩ (zBn.mp t.at1).1 h
theorem cT {E:Value->Shared->Prop} {Q:Unit->Shared->Prop} {f:Option Addr} (G:Good X true W₀ S W) (t:IsTraced z X.C W c v) (h:∀ W',Good X true W₀ S W'->IsTraced z X.C W' c v->Q () W'.s) {A:Around}:wpAny X.C.M A (setFlight v f) Q E W.s:=by
 cases t with
 | @mk e T oe oT vs ts fl l lT x t =>
 unfold setFlight
 refine zAa (zBq x.obj x.dat t.at1 ?_)
 rw [if_pos (show (Value.ref T != Value.none)=true from by simp)]
 have hsz:=(zBn.mp t.fl).1
 refine wpAny_setField t.obj t.dat hsz ?_
 obtain ⟨GC,hTB⟩:=G.exo t.obj t.exo lT (·.setIfInBounds 3 (f.elim .none fun f=>rawInt f))
 exact h _ GC (.mk l.to lT.to ⟨(zBf _ _ t.ne).trans x.obj,x.is,x.dat,x.ctx⟩ ⟨t.at1,t.ne,hTB,(t.exo.map _).1,Obj.data_mapFields t.dat _,Array.getElem?_setIfInBounds_self_of_lt hsz⟩)
theorem wp_leaving {E:Value->Shared->Prop} {Q:Unit->Shared->Prop} (F:X.Ok) (G:Good X true W₀ S W) (t:IsTrace z X.C W c v) (h:∀ W',Good X true W₀ S W'->IsTraced z X.C W' c v->Q () W'.s):wpAny X.C.M X.A (leaving X.env v) Q E W.s :=
 zAa (dB F G t fun W' G' t'=>cT G' t' h)
theorem ref_ne {T:Addr}:¬ ((Value.ref T == Value.none)=true):=by simp
theorem jV {E:Value->Shared->Prop} (G:Good X true W₀ S W) (t:IsTraced z X.C W c v) (h:∀ W',Good X true W₀ S W'->IsTraced z X.C W' c v->E v W'.s):cameBackBy X.C.M X.A X.env E v W.s:=by
 have t0:=t
 cases t with
 | mk l lT x t =>
 unfold cameBackBy
 refine zAa (zBq x.obj x.dat t.at1 ?_)
 rw [if_neg ref_ne]
 exact cT G t0 h
theorem om {env:Env} {α:Type} {what:String} {Q:α->Shared->Prop} {E:Value->Shared->Prop} (G:Good X true W₀ S W) (t:IsTraced z X.C W c v) (h:∀ W',Good X true W₀ S W'->IsTraced z X.C W' c v->E v W'.s):wpAny X.C.M X.A (passOn what v env:Sem α) Q E W.s:=by
 have t0:=t
 cases t with
 | mk l lT x t =>
 unfold PySem.passOn
 refine zAa (zBq x.obj x.dat t.at1 ?_)
 rw [if_neg ref_ne]
 first
  | exact zAa (cT G t0 fun W' G' t'=>wpAny_throw (h W' G' t'))
  | exact zAa (zAk (zAa (cT G t0 fun W' G' t'=>wpAny_throw (h W' G' t'))))
end
theorem kq {kindOf:Str->Option NameKind} {x:Str}:∀ (b:List (Str × Value)) (m:Str->Option Value),(∀ p ∈ b,p.1 ≠ x)->bindL kindOf b m x=m x
 | [],m,_=>rfl
 | (n,v)::r,m,h=>by
  unfold bindL
  rw [kq r _ fun p hp=>h p (zAe _ hp)]
  split
  ·show (if x=n then some v else m x)=m x
   rw [if_neg (fun q=>h (n,v) zAb q.symm)]
  ·rfl
theorem j3 {kindOf:Str->Option NameKind} {x:Str}:∀ (b:List (Str × Value)) (m:Str->Option Value),(∀ p ∈ b,p.1 ≠ x)->bindC kindOf b m x=m x
 | [],m,_=>rfl
 | (n,v)::r,m,h=>by
  unfold bindC
  rw [j3 r _ fun p hp=>h p (zAe _ hp)]
  split
  ·rfl
  ·show (if x=n then some v else m x)=m x
   rw [if_neg (fun q=>h (n,v) zAb q.symm)]
theorem jT {ps:List Str} {vs:List Value} {p:Str × Value} (h:p ∈ ps.zip vs):p.1 ∈ ps:=(zC6 (show (p.1,p.2) ∈ ps.zip vs from h)).1
theorem nP {kindOf:Str->Option NameKind}:∀ (ps:List Str) (vs:List Value) (m cm:Str->Option Value),ps.Nodup->∀ (i:Nat) (x:Str) (v:Value),ps[i]?=some x->vs[i]?=some v ->
  (kindOf x=some .local->bindL kindOf (ps.zip vs) m x=some v)/\(kindOf x ≠ some .local->bindC kindOf (ps.zip vs) cm x=some v)
 | [],_,_,_,_,i,_,_,h,_=>by simp at h
 | _::_,[],_,_,_,i,_,_,_,h=>by simp at h
 | n::ps,w::vs,m,cm,hn,i,x,v,h1,h2=>by
  rw [zBp] at hn
  cases i with
  | zero =>
   simp at h1 h2
   subst h1; subst h2
   have hno:∀ p ∈ ps.zip vs,p.1 ≠ n:=fun p hp q=>hn.1 (q ▸ jT hp)
   rw [zBv]
   unfold bindL bindC
   rw [kq _ _ hno,j3 _ _ hno]
   constructor
   ·intro hk; rw [if_pos hk]; show (if n=n then some w else _)=_; rw [if_pos rfl]
   ·intro hk; rw [if_neg hk]; show (if n=n then some w else _)=_; rw [if_pos rfl]
  | succ i =>
   simp at h1 h2
   rw [zBv]
   unfold bindL bindC
   exact nP ps vs _ _ hn.2 i x v h1 h2
set_option tactic.hygienic true in
theorem args_get {sc:Sc} {x:Str} (hn:fG sc x=true):∀ (ps:List Str) (vs:List AV) (lv:LV),al (aJ x sc) (fO sc ps vs)=some lv->∃ (i:Nat) (a:AV),ps[i]?=some x/\vs[i]?=some a/\lv=.val a
 | [],_,_,h=>nomatch h
 | _::_,[],_,h=>nomatch h
 | p::ps,w::vs,lv,h=>by
  rw [show fO sc (p::ps) (w::vs)=(aJ p sc,.val w)::fO sc ps vs from rfl,iy] at h
  split at h
  ·rename_i q; cases h; exact ⟨0,w,by simp; exact fw hn (beq_nat.mp q),by simp,rfl⟩
  ·obtain ⟨i,a,h1,h2,h3⟩:=args_get hn ps vs lv h
   exact ⟨i+1,a,by simpa using h1,by simpa using h2,h3⟩
theorem fL {x:Str}:∀ (names:List (Str × NameKind)) (n:Nat) (acc:List (Str × Addr)),names.lookup x=some .cell ∨ (acc.lookup x).isSome=true->((cellsFrom n names acc).lookup x).isSome=true
 | [],_,_,h=>h.elim (fun e=>by exact aD e) id
 | (y,k)::r,n,acc,h=>by
  unfold cellsFrom
  by_cases hk:(k == .cell)=true
  ·rw [if_pos hk]
   refine fL r (n+1) ((y,n)::acc) ?_
   by_cases hy:(x == y)=true
   ·exact .inr (by rw [zBh,hy]; rfl)
   ·refine h.imp (fun e=>?_) fun e=>?_
    ·rw [zBh] at e; simpa only [hy] using e
    ·rw [zBh]; simpa only [hy] using e
  ·rw [if_neg hk]
   refine fL r n acc ?_
   by_cases hy:(x == y)=true
   ·refine .inr (h.elim (fun e=>?_) id)
    rw [zBh,hy] at e
    exact absurd (by rw [Option.some.inj e]; rfl) hk
   ·refine h.imp (fun e=>?_) id
    rw [zBh] at e; simpa only [hy] using e
noncomputable abbrev Wd.susp (W:Wd):Wd:=⟨W.labs,fun _=>none,fun b=>W.tmp b ∨ ∃ k,W.own k=some b,W.fr,W.s⟩
noncomputable abbrev Wd.back (W W':Wd):Wd:=⟨W'.labs,W.own,W.tmp,W.fr,W'.s⟩
noncomputable abbrev Wd.left (W W':Wd):Wd:=⟨W'.labs,fun _=>none,fun b=>W'.tmp b ∨ ∃ k,W'.own k=some b,W.fr,W'.s⟩
section
variable {C:Cx} {X:Fx} {frs:List Env} {W W' WA:Wd} {st st':St} {S:S} {z:Bool} {c:Str} {v:Value}
theorem Grow.susp:Grow W W.susp:=⟨id,fun e _ _=>e,fun _ f=>⟨⟨f.oth.lab,fun _ q=>nomatch q⟩,fun q=>q.elim f.tmp fun z=>z.elim fun _ z=>f.oth.own _ z,f.fr⟩,fun e _ x=>⟨_,e,x,rfl⟩⟩
theorem InvC.susp (I:InvC C frs W st):InvC C frs W.susp st where
 sh:=I.sh
 stat:=I.stat
 lo:=fun b h=>I.lo b fun f=>h ⟨⟨f.oth.lab,fun _ q=>nomatch q⟩,fun q=>q.elim f.tmp fun z=>z.elim fun _ z=>f.oth.own _ z,f.fr⟩
 nd:=I.nd
 ol:=fun k b q=>nomatch q
 oi:=fun k k' b q=>nomatch q
 tl:=fun b q=>q.elim (I.tl b) fun z=>z.elim fun _ z=>(I.ol _ _ z).1
 fl:=fun b q=>⟨⟨(I.fl b q).1.lab,fun _ q=>nomatch q⟩,fun z=>z.elim (I.fl b q).2.1 fun z=>z.elim fun _ z=>(I.fl b q).1.own _ z,(I.fl b q).2.2⟩
 frs:=I.frs
 len:=I.len
 objs:=fun n o e=>(I.objs n o e).imp fun a q=>⟨q.1,q.2.mono .susp fun _ _ e=>e⟩
theorem InvC.held {mu:Addr->Prop} (I:InvC C frs W st) (x:Ext mu W.susp W') {b:Addr} (h:W.susp.tmp b):W'.tmp b/\W'.oth b:=by
 obtain ⟨o,e⟩:=I.mus (b:=b) (h.elim jG fun z=>z.elim fun _ z=>fS z)
 have ho:W.susp.oth b:=⟨I.susp.tl b h,fun _ q=>nomatch q⟩
 exact ⟨(x.tmp e ho).mpr h,x.oth e ho⟩
theorem Grow.back (I:InvC C frs W st) (x:Ext (fun _=>False) W.susp W'):Grow W' (W.back W') :=
 ⟨id,fun e _ _=>e,fun e f=>⟨⟨f.oth.lab,fun k q=>f.tmp (I.held x (.inr ⟨k,q⟩)).1⟩,fun q=>f.tmp (I.held x (.inl q)).1,fun q=>(I.mus (cA q)).elim fun _ z=>f.fr ((x.fr z).mpr q)⟩,fun e _ x=>⟨_,e,x,rfl⟩⟩
theorem Ext.back (I:InvC C frs W st) (x:Ext (fun _=>False) W.susp W'):Ext (fun _=>False) W (W.back W') where
 dom:=x.dom
 labs:=x.labs.imp fun r q=>⟨q.1,fun a h=>by
  cases q.2 a h with
  | new e=>exact .new e
  | own e=>exact aD e⟩
 own:=fun q=>.own (W:=W) q
 tmp:=fun _ _=>.rfl
 fr:=fun _=>.rfl
 keep:=fun e h=>x.keep e ⟨h.lab,fun _ q=>nomatch q⟩
 exo:=fun e h=>x.exo e ⟨h.lab,fun _ q=>nomatch q⟩
 fc:=x.fc
theorem InvC.back (I:InvC C frs W st) (x:Ext (fun _=>False) W.susp W') (I':InvC C frs W' st'):InvC C frs (W.back W') st' where
 sh:=I'.sh
 stat:=I'.stat
 lo:=fun b h=>by
  by_cases f:W.free b
  ·refine I'.lo b fun f'=>h ⟨⟨f'.oth.lab,f.oth.own⟩,f.tmp,f.fr⟩
  ·exact ⟨(I.lo b f).1,(I.lo b f).2.elim fun _ e=>x.dom e⟩
 nd:=I'.nd
 ol:=fun k b q=>⟨(I.held x (.inr ⟨k,q⟩)).2.lab,(I.ol k b q).2⟩
 oi:=I.oi
 tl:=fun b q=>(I.held x (.inl q)).2.lab
 fl:=fun b q=>by
  obtain ⟨h1,h2,h3⟩:=I.fl b q
  obtain ⟨o,e⟩:=I.mus (cA q)
  refine ⟨⟨(x.oth e ⟨h1.lab,fun _ q=>nomatch q⟩).lab,h1.own⟩,h2,fun o' vs e' z=>?_⟩
  obtain ⟨o'',e'',hd⟩:=x.fc e q id
  obtain rfl:=Option.some.inj (e'.symm.trans e'')
  exact h3 o vs e (hd.symm.trans z)
 frs:=I.frs
 len:=I'.len
 objs:=fun n o e=>(I'.objs n o e).imp fun a q=>⟨q.1,q.2.mono (.back I x) fun _ _ e=>e⟩
theorem Inv.back (I:Inv X S W) (x:Ext (fun _=>False) W.susp W') (I':InvC X.C X.frs W' st'):Good X true W ⟨S.loc,st'⟩ (W.back W'):=by
 have y:=Ext.back I.c x
 refine ⟨y.weak fun _ q=>q.elim,I.c.back x I',I.f.mono y.grow (fun _ q=>q) (Inv.fcSame I.f fun e h=>y.fc e h id).1 (Inv.fcSame I.f fun e h=>y.fc e h id).2 fun k a q=>⟨q,fun o p e=>x.keep e ⟨(I.c.ol _ _ q).1,fun _ q=>nomatch q⟩ (fun z=>(I.c.fl _ z).1.own _ q) p⟩⟩
theorem IsTraced.grow (t:IsTraced z C W c v) (g:Grow W W') (hh:W'.h=W.h):IsTraced z C W' c v:=by
 cases t with
 | mk l lT x t=>exact .mk ⟨l.st,g.fr x.obj l.fr⟩ ⟨lT.st,g.fr t.obj lT.fr⟩ (hh ▸ x) (hh ▸ t)
end
noncomputable abbrev Wd.enter (W:Wd) (L:Addr) (cs:List (Str × Addr)) (h:Heap) (tk:Nat):Wd:=⟨W.labs,W.own,fun b=>W.tmp b ∨ False,fun b=>W.fr b ∨ (b=L ∨ ∃ x,cs.lookup x=some b),{ W.s with heap:=h,toks:=tk }⟩
section
variable {C:Cx} {frs:List Env} {W W':Wd} {st:St} {s₁:Shared}
theorem InvC.more (I:InvC C frs W st) {h':Heap} {tk:Nat} (g:Ge W.h h') {T N:Addr->Prop} (hT:∀ b,T b->W.h.get? b=none/\∃ o,h'.get? b=some o) (hN:∀ b,N b->W.h.get? b=none/\∃ o,h'.get? b=some o/\∀ vs,o.data ≠ .fields vs) (hTN:∀ b,T b->¬ N b) :
  Ext (fun _=>False) W ⟨W.labs,W.own,fun b=>W.tmp b ∨ T b,fun b=>W.fr b ∨ N b,{ W.s with heap:=h',toks:=tk }⟩/\InvC C frs ⟨W.labs,W.own,fun b=>W.tmp b ∨ T b,fun b=>W.fr b ∨ N b,{ W.s with heap:=h',toks:=tk }⟩ st:=by
 have nT:∀ {b o},W.h.get? b=some o->¬ T b:=fun e q=>aH e (hT _ q).1
 have nN:∀ {b o},W.h.get? b=some o->¬ N b:=fun e q=>aH e (hN _ q).1
 have fre:∀ {b},W.h.get? b=none->W.free b:=fun h=>Classical.byContradiction fun q=>(I.mus q).elim fun _ z=>aH z h
 have x:Ext (fun _=>False) W ⟨W.labs,W.own,fun b=>W.tmp b ∨ T b,fun b=>W.fr b ∨ N b,{ W.s with heap:=h',toks:=tk }⟩ :=
  ⟨fun e=>⟨_,g _ _ e⟩,⟨[],(zAx _).symm,fun _ q=>nomatch q⟩,fun q=>.own (W:=W) q,fun e _=>⟨fun q=>q.elim id fun z=>(nT e z).elim,.inl⟩,fun e=>⟨fun q=>q.elim id fun z=>(nN e z).elim,.inl⟩,fun e _ _ _=>g _ _ e,fun e _ _ x=>⟨_,g _ _ e,x,rfl⟩,fun e _ _=>⟨_,g _ _ e,rfl⟩⟩
 have s0:∀ {b},W.h.get? b=none->C.s0.heap.get? b=none:=fun {b} h=>by
  cases e:C.s0.heap.get? b with
  | none=>rfl
  | some o=>exact (aH (I.stat _ _ e) h).elim
 refine ⟨x,?_⟩
 exact {
  sh:=I.sh.elim fun h q=>q.elim fun t e=>⟨h',tk,by show ({ W.s with heap:=h',toks:=tk }:Shared)=_; rw [e]⟩
  stat:=fun b o e=>g _ _ (I.stat b o e)
  lo:=fun b h=>by
   by_cases f:W.free b
   ·by_cases t:T b
    ·exact ⟨s0 (hT b t).1,(hT b t).2⟩
    ·have n:N b:=Classical.byContradiction fun q=>h ⟨f.oth,fun z=>z.elim f.tmp t,fun z=>z.elim f.fr q⟩
     exact ⟨s0 (hN b n).1,(hN b n).2.imp fun _ z=>z.1⟩
   ·exact ⟨(I.lo b f).1,(I.lo b f).2.imp fun _ q=>g _ _ q⟩
  nd:=I.nd
  ol:=fun k b q=>⟨(I.ol k b q).1,fun z=>z.elim (I.ol k b q).2 fun z=>(I.mus (fS q)).elim fun _ e=>nT e z⟩
  oi:=I.oi
  tl:=fun b q=>q.elim (I.tl b) fun z=>(fre (hT b z).1).oth.lab
  fl:=fun b q=>by
   rcases q with q | q
   ·exact ⟨(I.fl b q).1,fun z=>z.elim (I.fl b q).2.1 fun z=>(I.mus (cA q)).elim fun _ e=>nT e z,fun o vs e=>(I.mus (cA q)).elim fun o' z=>(I.fl b q).2.2 o vs (z.trans ((g _ _ z).symm.trans e))⟩
   ·exact ⟨(fre (hN b q).1).oth,fun z=>z.elim (fre (hN b q).1).tmp fun z=>hTN b z q,fun o vs e=>(hN b q).2.elim fun o' z=>Option.some.inj (z.1.symm.trans e) ▸ z.2 vs⟩
  frs:=fun e he=>⟨(I.frs e he).1,(I.frs e he).2.imp fun _ q=>⟨q.1,.inl q.2⟩⟩
  len:=I.len
  objs:=fun n o e=>(I.objs n o e).imp fun a q=>⟨q.1,q.2.mono x.grow fun _ _ e=>g _ _ e⟩ }
theorem Grow.left {mu:Addr->Prop} (I:InvC C frs W st) (x:Ext mu W W'):Grow W' (W.left W') :=
 ⟨id,fun e _ _=>e,fun e f=>⟨⟨f.oth.lab,fun _ q=>nomatch q⟩,fun q=>q.elim f.tmp fun z=>z.elim fun _ z=>f.oth.own _ z,fun q=>(I.mus (cA q)).elim fun _ z=>f.fr ((x.fr z).mpr q)⟩,fun e _ x=>⟨_,e,x,rfl⟩⟩
theorem InvC.left {frs':List Env} {mu:Addr->Prop} {st':St} (I:InvC C frs W st) (ho:∀ k,W.own k=none) (hm:∀ b o,W.h.get? b=some o->¬ mu b) (x:Ext mu W W') (I':InvC C frs' W' st'):Ext (fun _=>False) W (W.left W')/\InvC C frs (W.left W') st':=by
 refine ⟨⟨x.dom,x.labs,(fun q=>nomatch q),fun {b o} e h=>?_,fun _=>.rfl,x.keep,x.exo,fun e h _=>x.fc e h (hm _ _ e)⟩,?_⟩
 ·refine ⟨fun q=>q.elim (x.tmp e h).mp fun z=>z.elim fun _ z=>?_,fun q=>.inl ((x.tmp e h).mpr q)⟩
  cases x.own z with
  | new q=>exact (aH e q).elim
  | own q=>rw [ho] at q; exact aD q
 exact {
  sh:=I'.sh
  stat:=I'.stat
  lo:=fun b h=>by
   by_cases f:W.fr b
   ·exact ⟨(I.lo b (cA f)).1,(I.lo b (cA f)).2.elim fun _ e=>x.dom e⟩
   ·exact I'.lo b fun f'=>h ⟨⟨f'.oth.lab,fun _ q=>nomatch q⟩,fun q=>q.elim f'.tmp fun z=>z.elim fun _ z=>f'.oth.own _ z,f⟩
  nd:=I'.nd
  ol:=fun k b q=>nomatch q
  oi:=fun k k' b q=>nomatch q
  tl:=fun b q=>q.elim (I'.tl b) fun z=>z.elim fun _ z=>(I'.ol _ _ z).1
  fl:=fun b q=>by
   have hf:W'.fr b:=(I.mus (cA q)).elim fun _ e=>(x.fr e).mpr q
   exact ⟨⟨(I'.fl b hf).1.lab,fun _ q=>nomatch q⟩,fun z=>z.elim (I'.fl b hf).2.1 fun z=>z.elim fun _ z=>(I'.fl b hf).1.own _ z,(I'.fl b hf).2.2⟩
  frs:=I.frs
  len:=I'.len
  objs:=fun n o e=>(I'.objs n o e).imp fun a q=>⟨q.1,q.2.mono (.left I x) fun _ _ e=>e⟩ }
end
noncomputable def flv:Flow->Value
 | .ret v=>v
 | _=>.none
theorem flow_val {X:Fx} {W:Wd} {f:Fl} {fl:Flow} (r:RF X W f fl):VRep X.C W (flowV f) (flv fl):=by
 cases f <;> cases fl <;> first | exact r.elim | exact r | rfl
theorem callOk_of {C:Cx} {T:Ctx} {n:Nat} (K:CxOk C) (hP:T.P=C.P) (hfree:T.free=true) (hcall:jD C n T.call) (hmake:∃ K,jD C (n - 4) (au C.P K (n - 4))/\T.make=fun c vs st=>kj st.length c (au C.P K (n - 4) c "__init__" (.obj c st.length::vs) (st++[.flds []])))
  (hss:∀ X:Fx,X.Ok->∀ ss,eJ X ss (exs X.T ss X.nms)):jD C (n+1) (fun c f vs st=>match C.P.find c f with | some fn=>runFn T fn vs st | none=>.stuck):=by
 intro c f vs st hne A frs W args fa I ho hargs hfa hh hfr room
 dsimp only at hne ⊢
 cases hf:C.P.find c f with
 | none=>rw [hf] at hne; exact absurd rfl hne
 | some fn =>
  rw [hf] at hne
  dsimp only at hne ⊢
  have hst:=K.st _ I.stat
  obtain ⟨a,ha,hfn⟩:=hst.fn c f fn hf
  rw [hfa] at ha; cases ha
  generalize C.fnD fa=fd at hfn
  generalize C.fnO fa=o at hfn
  have hw:=K.wr c f fn hf
  unfold runFn at hne ⊢
  by_cases hlen:zA9 fn.params.length vs.length=true
  case neg=>rw [if_neg hlen] at hne; exact absurd rfl hne
  rw [if_pos hlen] at hne ⊢
  have hlen':fn.params.length=vs.length:=beq_nat.mp hlen
  have hal:=hargs.length
  have hkind:∀ x ∈ fn.params.zip args,fd.scope.names.lookup x.1=some .local ∨ (fd.scope.names.lookup x.1=some .cell/\((cellsFrom (W.s.heap.objs.size+1) fd.scope.names []).lookup x.1).isSome=true):=fun x hx=>by
   rw [hfn.names]
   exact (hw.par x.1 (jT hx)).imp id fun q=>⟨q,fL _ _ _ (.inl q)⟩
  refine codeAny_call_cells (by have hr:A.depth+(n+1)<=900:=room.1; show A.depth < 1000; lia) hfn.obj hfn.dat hst.nolimit hfn.code hfn.body (hfn.bind args (by rw [hal,hlen'])) hfn.clo hkind (fun s₁ hin=>?_) hfn.co hfn.gen hfn.kind
  let env:=callEnvC fd W.s.heap.objs.size fa
  let X:Fx:=⟨C,T,A.deeper env,env,env::frs,true,fn.names,n⟩
  have henvk:∀ x,env.kindOf x=fn.names.lookup x:=fun x=>by show fd.scope.names.lookup x=_; rw [hfn.names]
  have hnew:∀ b,(b=env.locals ∨ ∃ x,env.cells.lookup x=some b)->W.h.get? b=none:=fun b q=>zDi (by
   rcases q with rfl | ⟨x,hx⟩
   ·exact hin.toInCall.fresh
   ·exact zC5 (zCs hin.toInCall.fresh (hin.above x b (mem_of_lookup hx))))
  obtain ⟨h₁,tkA,rfl⟩:=hin.toInCall.same
  obtain ⟨xA,IA⟩:=I.more (tk:=tkA) (T:=fun _=>False) (N:=fun b=>b=env.locals ∨ ∃ x,env.cells.lookup x=some b) hin.toInCall.keep (fun _ q=>q.elim) (fun b q=>⟨hnew b q,by
   rcases q with rfl | ⟨x,hx⟩
   ·obtain ⟨o,es,ep,h1,h2,_⟩:=hin.toInCall.ns; exact ⟨o,h1,fun vs q=>by rw [h2] at q; exact eN Data.ctorIdx q rfl⟩
   ·obtain ⟨o,h1,h2⟩:=hin.cell x _ hx; exact ⟨o,h1,fun vs q=>by rw [h2] at q; exact eN Data.ctorIdx q rfl⟩⟩) fun _ q=>q.elim
  have F:X.Ok:={
   cx:=K
   P:=hP
   call:=fun _=>hcall
   make:=fun _=>hmake
   hd:=fun _=>hh
   frames:=Around.frames_deeper hfr
   kind:=hfn.kind
   loc:=fun x hx=>by rw [henvk]; exact hx
   cel:=fun x hx=>by
    rcases hx with hx | hx
    ·refine ⟨.inl (by rw [henvk]; exact hx),?_⟩
     have:=fL fd.scope.names (W.s.heap.objs.size+1) [] (.inl (by rw [hfn.names]; exact hx))
     exact zA1.mp this
    ·exact absurd hx (hw.nofree x)
   glob:=fun x hx=>by rw [henvk]; exact hx
   fcell:=fun _ x hx=>by rw [henvk]; exact hx
   inj:=fun x y c h1 h2=>name_of_addr hin.apart (mem_of_lookup h1) (mem_of_lookup h2)
   cl:=fun x c h1=>zCh (hin.above x c (mem_of_lookup h1))
   room:=⟨by have hr:A.depth+(n+1)<=900:=room.1; show A.depth+1+n<=900; lia,by have hr:A.units+4 * (n+1)<=7900:=room.2; show A.units+3+4 * n<=7900; lia⟩
   globals:=hfn.glob
   builtins:=hfn.blt
   frm:=⟨env,frs,rfl,rfl⟩ }
  have IX:Inv X ⟨fO fn.names fn.params vs,st⟩ (W.enter env.locals env.cells h₁ tkA):=by
   refine ⟨⟨IA.sh,IA.stat,IA.lo,IA.nd,IA.ol,IA.oi,IA.tl,IA.fl,fun e he=>?_,IA.len,IA.objs⟩,⟨.inr (.inl rfl),⟨_,hin.toInCall.ns⟩,fun x c h=>⟨.inr (.inr ⟨x,h⟩),_,hin.cell x c h⟩,fun x lv hn hx=>?_⟩⟩
   ·rcases zAl.mp he with rfl | he
    ·exact ⟨by show fd.scope.kind ≠ _; rw [hfn.kind]; exact nofun,_,rfl,.inr (.inl rfl)⟩
    ·exact IA.frs e he
   ·obtain ⟨i,av,h1,h2,rfl⟩:=args_get hn _ _ _ hx
    obtain ⟨v,h3,h4⟩:=hargs.get h2
    have hb:=nP (kindOf:=env.kindOf) fn.params args (fun _=>none) (fun _=>none) hw.nodup i x v h1 h3
    refine ⟨v,?_,h4.le xA⟩
    rcases hw.par x (zDh h1) with q | q
    ·exact .loc (X:=X) ((henvk x).trans q) hin.toInCall.ns (hb.1 ((henvk x).trans q))
    ·obtain ⟨cc,hcc⟩:=(F.cel x (.inl q)).2
     refine .cell (X:=X) (.inl ((henvk x).trans q)) hcc ?_
     rw [← hb.2 (by rw [henvk,q]; exact nofun)]
     exact hin.cell x cc hcc
  have hbody:=hss X F fn.body rfl _ _ IX
  have hne':exs T fn.body fn.names ⟨fO fn.names fn.params vs,st⟩ ≠ .stuck:=fun q=>hne (by rw [q]; rfl)
  have nmu:∀ b o,W.h.get? b=some o->¬ (false=false/\X.mu b):=fun b o e q=>aH e (hnew b (q.2.imp id fun z=>z.2))
  refine zAv (hbody hne') (fun fl s' q=>?_) fun e s' q=>?_
  ·cases q with
   | mk e g r =>
    have y:=(xA.weak (fun _ q=>q.elim)).trans g.ext
    obtain ⟨xl,Il⟩:=I.left ho nmu y g.inv.c
    have hv:=(flow_val r).mono (.left I y)
    have he:bb (exs T fn.body fn.names ⟨fO fn.names fn.params vs,st⟩)=.ok _ _:=congrArg bb e
    cases fl <;> exact .ok (W':=W.left _) he xl Il (fun _=>rfl) hv
  ·cases q with
   | mk e g t =>
    refine wp_leaving F (.refl g.inv) t fun W'' G'' t''=>?_
    have y:=(xA.weak (fun _ q=>q.elim)).trans (g.trans G''.weak).ext
    obtain ⟨xl,Il⟩:=I.left ho nmu y G''.inv.c
    have he:bb (exs T fn.body fn.names ⟨fO fn.names fn.params vs,st⟩)=.exc _ _:=congrArg bb e
    have hz:X.A.handled.isNone=true:=by rw [show X.A.handled=none from hh]; rfl
    exact .exc (W':=W.left W'') he xl Il (fun _=>rfl) ((hz ▸ t'').grow (.left I y) rfl)
section
variable {X:Fx} {W:Wd} {S:S}
noncomputable abbrev RA (R:Wd->List AV->List Value->Prop):Wd->List AV->Args->Prop:=fun W l a=>a.kw=[]/\R W l a.pos
theorem pJ {M:Model} {A:Around} {E:Value->Shared->Prop} {s:Shared} {f:Value} {Q:Args->Shared->Prop} (h:Q ⟨[],[]⟩ s):wpAny M A (evalArgs f true [] []) Q E s:=by
 unfold evalArgs
 refine zAa (zAa (zAk (zAk ?_)))
 refine zAa (zAk ?_)
 refine zA0 ?_
 simp only [List.all_nil,if_true]
 exact zAa (zAk (zAa (zAk (zAk h))))
theorem fX {R:Wd->AV->Value->Prop} (hR:∀ {S W W' a v},R W a v->Inv X S W->EX X true W W'->R W' a v) {f:Value} {pos:Pos} {es:List Expr} {ds:List (D AV)} (h:TrE X R es ds) (I:Inv X S W):Snd X true (RA (RLs R)) (evalArgs f true (backTo pos (starEach es X.env)) []) (bI ds S) W:=by
 have hsp:=gI (R:=R) (pos:=pos) hR h S W I
 cases h with
 | nil=>exact fun _=>pJ (.mk rfl (.refl I) ⟨rfl,.nil⟩)
 | @cons e d es ds h t =>
  by_cases hs:PySem.W.isStarred e=true
  ·rw [h.star hs]; exact .stk
  ·rw [bA hs] at hsp ⊢
   exact fun hne=>Calls.evalArgs_plain (zAv (hsp hne) (fun vs s' q=>by cases q with | mk e g r=>exact .mk e g ⟨rfl,r⟩) fun _ _ q=>q)
theorem snd_callF (F:X.Ok) (hq:X.T.free=true) (I:Inv X S W) {c f:Str} {fa:Addr} (hfa:X.C.fnA c f=some fa) {vs:List AV} {args:List Value} (hv:VReps X.C W vs args):Snd X true (RV X) (call (.ref fa) args) (fF X.T c f vs S) W:=fun hne=>by
 have hne':X.T.call c f vs S.st ≠ .stuck:=fun q=>hne (by unfold fF dZ; rw [q])
 have hz:X.A.handled.isNone=true:=by rw [F.hd hq]; rfl
 refine wpAny_call (codeAny_mono (F.call hq c f vs S.st hne' X.A X.frs W.susp args fa I.c.susp (fun _=>rfl) (hv.mono .susp) hfa (F.hd hq) F.frames F.room) fun res s' hp=>?_)
 cases hp with
 | ok e x i o r=>exact .mk (W':=W.back _) (by unfold fF dZ; rw [e]) (I.back x i) (r.mono (.back I.c x))
 | exc e x i o t=>exact .mk (W':=W.back _) (by unfold fF dZ; rw [e]) (I.back x i) (.yes (hz ▸ t.grow (.back I.c x) rfl))
theorem iI (F:X.Ok) (hq:X.T.free=true) (I:Inv X S W) {c f:Str} {fa:Addr} {fn:Fn} (hfind:X.C.P.find c f=some fn) (hfa:X.C.fnA c f=some fa)
  {pos:Pos} {es:List Expr} {ds:List (D AV)} {fs:List AV} {first:List Value} (h:TrE X (RV X) es ds) (hf:VReps X.C W fs first) :
  Snd X true (RV X) (callWith pos (.ref fa) first (backTo pos (starEach es X.env)) []) (ax (bI ds S) fun vs=>fF X.T c f (fs++vs)) W:=fun hne=>by
 have h1:=fX (R:=RV X) (fun r _ x=>VRep.le r x) (f:=.ref fa) (pos:=pos) h I
 have h0:bI ds S ≠ .stuck:=fun q=>hne (by rw [q]; rfl)
 have ob:∀ {S W},Inv X S W->FnOk W.h fn fa (X.C.fnO fa) (X.C.fnD fa):=fun I=>by
  obtain ⟨a,ha,hfn⟩:=(I.st F).fn c f fn hfind
  rw [hfa] at ha; obtain rfl:=Option.some.inj ha
  exact hfn
 refine Calls.callWith_function (o:=X.C.fnO fa) (fd:=X.C.fnD fa) (zAv (h1 h0) (fun a s' q=>?_) fun e s' q=>?_)
 ·cases q with
  | @mk b S' W' e g r =>
   obtain ⟨ap,ak⟩:=a
   obtain rfl:ak=[]:=r.1
   refine ⟨⟨(ob g.inv).obj,(ob I).dat⟩,?_⟩
   have:=snd_callF (args:=first++ap) F hq g.inv hfa ((hf.le g.ext).append (RLs.v r.2))
   have he:ax (bI ds S) (fun vs=>fF X.T c f (fs++vs))=fF X.T c f (fs++b) S':=by rw [e]; rfl
   rw [he] at hne ⊢
   exact zAv (this hne) (fun _ _ q=>q.pre g) fun _ _ q=>q.pre g
 ·cases q with
  | mk e g t=>exact .mk (by rw [e]; rfl) g t
end
section
variable {C:Cx} {X:Fx} {ev:Bool} {W W' W₀:Wd} {S:S} {h':Heap} {tk:Nat}
noncomputable abbrev Wd.hold (W:Wd) (h:Heap) (tk:Nat) (wr:List Addr):Wd:=⟨W.labs,W.own,fun b=>W.tmp b ∨ b ∈ wr,W.fr,{ W.s with heap:=h,toks:=tk }⟩
theorem Inv.hold (I:Inv X S W) {wr:List Addr} (g:Ge W.h h') (hw:∀ b ∈ wr,(W.tmp b ∨ W.h.get? b=none)/\∃ o,h'.get? b=some o):Good X ev W S (W.hold h' tk wr):=by
 have old:∀ {b:Addr} {o:Obj},W.h.get? b=some o->b ∈ wr->W.tmp b:=fun e q=>(hw _ q).1.elim id fun z=>(aH e z).elim
 have gr:Grow W (W.hold h' tk wr):=⟨id,fun e _ _=>g _ _ e,fun e f=>⟨f.oth,fun q=>q.elim f.tmp fun z=>f.tmp (old e z),f.fr⟩,fun e _ x=>⟨_,g _ _ e,x,rfl⟩⟩
 have nt:∀ {b:Addr},¬ W.free b->¬ W.tmp b->b ∉ wr:=fun h1 h2 q=>(I.c.mus h1).elim fun _ e=>h2 (old e q)
 have same:∀ b,d6 W h' b:=fun b o e=>⟨o,g _ _ e,rfl⟩
 refine ⟨⟨fun e=>⟨_,g _ _ e⟩,⟨[],(zAx _).symm,fun _ q=>nomatch q⟩,fun q=>.own (W:=W) q,fun e _=>⟨fun q=>q.elim id (old e),.inl⟩,fun _=>.rfl,fun e _ _ _=>g _ _ e,fun e _ _ x=>⟨_,g _ _ e,x,rfl⟩,fun e _ _=>⟨_,g _ _ e,rfl⟩⟩,?_,I.f.mono gr (fun _ q=>q) (same _) (fun _ c _=>same c) fun x a q=>⟨q,fun o _ e=>g _ _ e⟩⟩
 exact {
  sh:=I.c.sh.elim fun h q=>q.elim fun t e=>⟨h',tk,by show ({ W.s with heap:=h',toks:=tk }:Shared)=_; rw [e]⟩
  stat:=fun b o e=>g _ _ (I.c.stat b o e)
  lo:=fun b h=>by
   by_cases f:W.free b
   ·have hb:b ∈ wr:=Classical.byContradiction fun q=>h ⟨f.oth,fun z=>z.elim f.tmp q,f.fr⟩
    exact ⟨(I.loose ((hw b hb).1.resolve_left f.tmp)).st,(hw b hb).2⟩
   ·exact ⟨(I.c.lo b f).1,(I.c.lo b f).2.imp fun _ e=>g _ _ e⟩
  nd:=I.c.nd
  ol:=fun k b q=>⟨(I.c.ol k b q).1,fun z=>z.elim (I.c.ol k b q).2 (nt (fS q) (I.c.ol k b q).2)⟩
  oi:=I.c.oi
  tl:=fun b q=>q.elim (I.c.tl b) fun z hl=>nt (nf_lab hl) (fun t=>I.c.tl b t hl) z
  fl:=fun b q=>⟨(I.c.fl b q).1,fun z=>z.elim (I.c.fl b q).2.1 (nt (cA q) (I.c.fl b q).2.1),fun o vs e=>(I.c.mus (cA q)).elim fun o' z=>(I.c.fl b q).2.2 o vs (z.trans ((g _ _ z).symm.trans e))⟩
  frs:=I.c.frs
  len:=I.c.len
  objs:=fun n o e=>(I.c.objs n o e).imp fun a q=>⟨q.1,q.2.mono gr fun _ _ e=>g _ _ e⟩ }
theorem ng {e:Expr} {x:List Expr} (h:tupE e=some x):∃ k p,e=.Tuple x k p:=by
 unfold tupE at h
 by_cases q:e.ctorIdx=25
 ·rw [dif_pos q] at h
  exact Expr.Tuple.elim (motive_1:=fun e=>∀ q:e.ctorIdx=25,Expr.Tuple.elim (motive_1:=fun _=>Option (List Expr)) e q (fun x _ _=>some x)=some x->∃ k p,e=.Tuple x k p) e q (fun y k p _ h=>⟨k,p,congrArg (Expr.Tuple · k p) (Option.some.inj h)⟩) q h
 ·rw [dif_neg q] at h; exact aD h
noncomputable def wrAll:List Nat->List AV->D Unit
 | k::ks,v::vs=>aE (gD k (.val v)) fun _=>wrAll ks vs
 | _,_=>af ()
theorem wrAll_eq:∀ (ks:List Nat) (vs:List AV) (S:Mine.S),wrAll ks vs S=.ok () { S with loc:=jw ks vs S.loc }
 | [],_,S=>rfl
 | _::_,[],S=>rfl
 | k::ks,v::vs,S=>by show wrAll ks vs _=_; rw [wrAll_eq ks vs]; rfl
noncomputable abbrev pO (sc:Sc) (ts:List Expr):List Nat:=ts.map fun t=>aJ ((cR t).getD ⟨#[]⟩) sc
theorem gx (F:X.Ok) (I:Inv X S W) {x:Str} {p:Pos} {a:AV} {v:Value} (hst:StOk X x) (h:VRep X.C W a v):Snd X false RU (assign (.Name x p) X.env v) (gD (aJ x X.nms) (.val a) S) W:=by
 rw [PySem.assign_Name]; exact .stand (f8 F I hst h)
theorem jW (F:X.Ok):∀ (ts:List Expr) (avs:List AV) (vs:List Value) (S:Mine.S) (W:Wd),ts.length=avs.length->(∀ t ∈ ts,∃ x p,t=.Name x p/\StOk X x)->Inv X S W->VReps X.C W avs vs ->
  Snd X false RU (assignInOrder ((assignEach ts X.env).map (·.2)) vs) (wrAll (pO X.nms ts) avs S) W
 | [],[],vs,S,W,_,ht,I,hv=>by obtain rfl:=hv; exact .pure I trivial
 | [],_::_,_,_,_,hl,_,_,_=>nomatch hl
 | _::_,[],_,_,_,hl,_,_,_=>nomatch hl
 | t::ts,a::avs,vs,S,W,hl,ht,I,hv=>by
  obtain ⟨x,p,rfl,hst⟩:=ht t zAb
  obtain ⟨v,vs',rfl,hv1,hv2⟩:=hv
  exact Snd.bind (gx F I hst hv1).holding fun _ _ S₁ WA _ GA _=>jW F ts avs vs' S₁ WA (Nat.succ.inj hl) (fun t' ht'=>ht t' (zAe _ ht')) GA.inv (hv2.le GA.ext)
theorem gj:∀ (ts:List Expr),(∀ t ∈ ts,∃ x p,t=.Name x p/\StOk X x)->(assignEach ts X.env).length=ts.length/\(assignEach ts X.env).findIdx? (·.1)=none
 | [],_=>⟨rfl,rfl⟩
 | t::ts,h=>by
  obtain ⟨x,p,rfl,_⟩:=h t zAb
  obtain ⟨h1,h2⟩:=gj ts fun t' ht'=>h t' (zAe _ ht')
  rw [show assignEach (.Name x p::ts) X.env=(false,fun v=>assign (.Name x p) X.env v)::assignEach ts X.env from rfl]
  exact ⟨by simp [h1],by simp [List.findIdx?_cons,h2]⟩
inductive TgOk (X:Fx):Expr->Option Nat × List Nat->Prop
 | nm {x:Str} {p:Pos} (h:StOk X x):TgOk X (.Name x p) (some (aJ x X.nms),[])
 | tp {ts:List Expr} {k:Nat} {p:Pos} (h:∀ t ∈ ts,∃ x p,t=.Name x p/\StOk X x):TgOk X (.Tuple ts k p) (none,pO X.nms ts)
theorem tgOk_of {ok:Str->Bool} {t:Expr} {t':Option Nat × List Nat} (h:tgtOk ok t=true) (hok:∀ x,ok x=true->StOk X x) (hs:jm X.nms t=some t'):TgOk X t t':=by
 unfold tgtOk at h
 unfold jm at hs
 cases hn:cR t with
 | some x =>
  rw [hn] at h hs
  obtain ⟨p,rfl⟩:=ck hn
  cases hs
  exact .nm (hok x h)
 | none =>
  rw [hn] at h hs
  obtain ⟨ts,ht,rfl⟩:=zAo.mp hs
  rw [ht] at h
  obtain ⟨k,p,rfl⟩:=ng ht
  refine .tp fun t ht=>?_
  have:=zBb.mp (show ts.all (nmOk ok)=true from h) t ht
  unfold nmOk at this
  cases hn:cR t with
  | none=>rw [hn] at this; exact ff this
  | some x=>rw [hn] at this; obtain ⟨p,rfl⟩:=ck hn; exact ⟨x,p,rfl,hok x this⟩
inductive ItemOk (C:Cx) (W:Wd) (h:Heap):AV->Value->Prop
 | val {a:AV} {v:Value} (r:VRep C W a v):ItemOk C W h a v
 | tup {as:List AV} {T:Addr} {vals:Array Value} (t:h.IsTuple T vals) (r:VReps C W as vals.toList):ItemOk C W h (.tup as) (.ref T)
noncomputable def jO (e:Expr):Bool:=(tupE e).isSome
set_option tactic.hygienic true in
theorem snd_assignT {t:Expr} {t':Option Nat × List Nat} {a:AV} {v:Value} (F:X.Ok) (hq:X.T.free=true) (I:Inv X S W) (hst:TgOk X t t') (h:ItemOk X.C W W.h a v) (hb:jO t=true ∨ VRep X.C W a v):Snd X false RU (assign t X.env v) (asgT t' a S) W:=by
 cases hst with
 | nm hx=>exact gx F I hx (hb.resolve_left zAq)
 | @tp ts k p hx =>
  cases a <;> first | exact .stk | skip
  rename_i avs
  show Snd _ _ _ _ (if zA9 (pO X.nms ts).length avs.length then _ else _) _
  by_cases hlen:zA9 (pO X.nms ts).length avs.length=true
  case neg=>rw [if_neg hlen]; exact .stk
  rw [if_pos hlen,← wrAll_eq]
  have hlen':ts.length=avs.length:=zAd _ ▸ beq_nat.mp hlen
  obtain ⟨e1,e2⟩:=gj ts hx
  obtain ⟨ad,vs,rfl,hit,hv⟩:∃ ad vs,v=.ref ad/\W.h.IsTuple ad vs/\VReps X.C W avs vs.toList:=by
   cases h with
   | val r=>obtain ⟨ad,rfl,_,vs,n,h1,_,hv⟩:=r; exact ⟨ad,vs,rfl,⟨_,h1,rfl,n,rfl⟩,hv⟩
   | tup t r=>exact ⟨_,_,rfl,t,r⟩
  intro hne
  refine wpAny_assign_Tuple (F.hd hq) hit (by rw [e1,hlen',hv.size]) e2 fun h' he=>?_
  have G:=I.ge (ev:=false) (fun b' o e=>he b' o (zBk (zA5 e)) e:Ge W.h h') W.s.toks
  exact zAv (jW F ts avs vs.toList S _ hlen' hx G.inv (hv.le G.ext) hne) (fun _ _ q=>q.pre G) fun _ _ q=>q.pre G
end
theorem Grow.trans {W W' W'':Wd} (a:Grow W W') (b:Grow W' W''):Grow W W'' where
 lab:=fun e=>b.lab (a.lab e)
 kp:=fun e f p=>b.kp (a.kp e f p) (a.fr e f) p
 fr:=fun {c o} e f=>by
  by_cases h:Exo o
  ·obtain ⟨o',q,_⟩:=a.ex e f h; exact b.fr q (a.fr e f)
  ·exact b.fr (a.kp e f h) (a.fr e f)
 ex:=fun e f x=>by
  obtain ⟨o',h1,h2,h3⟩:=a.ex e f x
  obtain ⟨o'',h4,h5,h6⟩:=b.ex h1 (a.fr e f) h2
  exact ⟨o'',h4,h5,h6.trans h3⟩
structure IterS (C:Cx) (A:Around) (h0:Heap) (W:Wd) (tb:Bool) (I:Addr) (fp wr:List Addr) (l:List AV) (St:Nat->Heap->Prop) (Mid:Nat->Value->Heap->Prop):Prop where
 frame:∀ i h h',St i h->(∀ b ∈ fp,∀ o,h.get? b=some o->h'.get? b=some o)->St i h'
 item:∀ i (s:Shared) (Q:Option Value->Shared->Prop) (E:Value->Shared->Prop),i < l.length->St i s.heap ->
  (∀ v h' tk,Mid i v h'->(∀ b o,b ∉ wr->s.heap.get? b=some o->h'.get? b=some o)->Q (some v) { s with heap:=h',toks:=tk })->wpAny C.M A (pyNext (.ref I)) Q E s
 go:∀ t i v (s:Shared) (Q:Unit->Shared->Prop) (E:Value->Shared->Prop),(tb=true->jO t=true)->(isNm t=true ∨ jO t=true)->i < l.length->Mid i v s.heap ->
  (∀ h' a,l[i]?=some a->ItemOk C W h' a v->(tb=false->VRep C W a v)->St (i+1) h'->(∀ b o,b ∉ wr->s.heap.get? b=some o->h'.get? b=some o)->Q () { s with heap:=h' })->wpAny C.M A (letOwnedTupleGo t (.ref I) v) Q E s
 done:∀ (s:Shared) (Q:Option Value->Shared->Prop) (E:Value->Shared->Prop),St l.length s.heap ->
  (∀ h' tk,(∀ b o,b ∉ wr->s.heap.get? b=some o->h'.get? b=some o)->Q none { s with heap:=h',toks:=tk })->wpAny C.M A (pyNext (.ref I)) Q E s
 self:∀ i (s:Shared) (Q E:Value->Shared->Prop),St i s.heap->Q (.ref I) s->wpAny C.M A (pyIter (.ref I)) Q E s
 wrs:∀ b ∈ wr,h0.get? b=none/\(W.tmp b ∨ W.h.get? b=none)
 wr0:tb=false->∀ b ∈ wr,W.h.get? b=none
 mid:tb=false->∀ i v h,i < l.length->Mid i v h->St (i+1) h/\∃ a,l[i]?=some a/\VRep C W a v
 fps:∀ b ∈ fp,b ∉ wr->∃ o,W.h.get? b=some o/\W.free b/\Pln o
 ex:∀ i h,St i h->∀ b ∈ wr,∃ o,h.get? b=some o/\Pln o
inductive ErT {β:Type} (X:Fx) (ev:Bool) (W:Wd) (o:Out β) (v:Value):Shared->Prop
 | mk {c:Str} {S:S} {W':Wd} (e:o=.exc c S) (g:Good X ev W S W') (t:IsTraced X.A.handled.isNone X.C W' c v):ErT X ev W o v W'.s
section
variable {X:Fx} {W W' W₀:Wd} {S:S} {h':Heap} {tk:Nat} {wr:List Addr}
theorem Good.turn {ev:Bool} (G:Good X ev W₀ S W) (hw:∀ b ∈ wr,W₀.h.get? b=none/\W.tmp b) (hp:∀ b ∈ wr,∃ o,W.h.get? b=some o/\Pln o) (hx:∀ b ∈ wr,∃ o,h'.get? b=some o) (k:∀ b o,b ∉ wr->W.h.get? b=some o->h'.get? b=some o):Good X ev W₀ S (W.to h' tk)/\Grow W (W.to h' tk):=by
 have m:Sim X.C W (· ∈ wr) h':=⟨fun {b o} e=>by
   by_cases hb:b ∈ wr
   ·exact hx b hb
   ·exact ⟨o,k b o hb e⟩,fun e h _=>k _ _ h e,fun {b o} e x=>⟨o,k b o (fun q=>(hp b q).elim fun _ z=>z.2 (Option.some.inj (z.1.symm.trans e) ▸ x)) e,x,rfl⟩,fun {b o} e f=>⟨o,k b o (fun q=>(G.inv.c.fl b f).2.1 (hw b q).2) e,rfl⟩⟩
 exact ⟨G.sim m fun b q=>⟨(hw b q).2,(hw b q).1⟩,m.grow fun b q=>(hw b q).2⟩
noncomputable abbrev Wd.over (W:Wd) (h:Heap) (tk:Nat) (wr:List Addr):Wd:=⟨W.labs,W.own,fun b=>W.tmp b/\b ∉ wr,W.fr,{ W.s with heap:=h,toks:=tk }⟩
theorem Good.over {ev:Bool} (G:Good X ev W₀ S W) (hw:∀ b ∈ wr,W₀.h.get? b=none/\W.tmp b) (k:∀ b o,b ∉ wr->W.h.get? b=some o->h'.get? b=some o):Good X ev W₀ S (W.over h' tk wr)/\Grow W (W.over h' tk wr):=by
 have I:=G.inv.c
 have nl:∀ {b},b ∈ W.labs->b ∉ wr:=fun h q=>I.tl _ (hw _ q).2 h
 have no:∀ {j b},W.own j=some b->b ∉ wr:=fun h q=>(I.ol _ _ h).2 (hw _ q).2
 have nf:∀ {b},W.fr b->b ∉ wr:=fun h q=>(I.fl _ h).2.1 (hw _ q).2
 have n0:∀ {b o},W₀.h.get? b=some o->b ∉ wr:=fun e q=>aH e (hw _ q).1
 have gr:Grow W (W.over h' tk wr):=⟨id,fun e f _=>k _ _ (fun q=>f.tmp (hw _ q).2) e,fun _ f=>⟨f.oth,fun q=>f.tmp q.1,f.fr⟩,fun e f x=>⟨_,k _ _ (fun q=>f.tmp (hw _ q).2) e,x,rfl⟩⟩
 refine ⟨⟨⟨fun e=>(G.ext.dom e).imp fun _ q=>k _ _ (n0 e) q,G.ext.labs,G.ext.own,fun e h=>⟨fun q=>(G.ext.tmp e h).mp q.1,fun q=>⟨(G.ext.tmp e h).mpr q,n0 e⟩⟩,G.ext.fr,fun e h f p=>k _ _ (n0 e) (G.ext.keep e h f p),fun e h f p=>(G.ext.exo e h f p).imp fun _ q=>⟨k _ _ (n0 e) q.1,q.2⟩,fun e h m=>(G.ext.fc e h m).imp fun _ q=>⟨k _ _ (n0 e) q.1,q.2⟩⟩,?_,G.inv.f.mono gr (fun _ q=>q) (fun o e=>⟨o,k _ _ (nf G.inv.f.lc) e,rfl⟩) (fun y c h o e=>⟨o,k _ _ (nf (G.inv.f.cells y c h).1) e,rfl⟩) fun x a q=>⟨q,fun o _ e=>k _ _ (no q) e⟩⟩,gr⟩
 exact {
  sh:=I.sh.elim fun h q=>q.elim fun t e=>⟨h',tk,by show ({ W.s with heap:=h',toks:=tk }:Shared)=_; rw [e]⟩
  stat:=fun b o e=>k _ _ (fun q=>aH e (I.lo b (jG (hw b q).2)).1) (I.stat b o e)
  lo:=fun b h=>by
   have hb:b ∉ wr:=fun q=>h ⟨⟨fun z=>nl z q,fun j z=>no z q⟩,fun z=>z.2 q,fun z=>nf z q⟩
   have:=I.lo b fun f=>h ⟨f.oth,fun z=>f.tmp z.1,f.fr⟩
   exact ⟨this.1,this.2.imp fun _ e=>k _ _ hb e⟩
  nd:=I.nd
  ol:=fun j b q=>⟨(I.ol j b q).1,fun z=>(I.ol j b q).2 z.1⟩
  oi:=I.oi
  tl:=fun b q=>I.tl b q.1
  fl:=fun b q=>⟨(I.fl b q).1,fun z=>(I.fl b q).2.1 z.1,fun o vs e=>(I.mus (cA q)).elim fun o' z=>(I.fl b q).2.2 o vs (z.trans ((k _ _ (nf q) z).symm.trans e))⟩
  frs:=I.frs
  len:=I.len
  objs:=fun n o e=>(I.objs n o e).imp fun a q=>⟨q.1,q.2.mono gr fun _ _ e=>k _ _ (nl (cr q.1)) e⟩ }
theorem hH {β:Type} {o:Out β} {c:Str} {S':Mine.S} {e:Value} (F:X.Ok) (ho:o=.exc c S') (G:Good X false W₀ S' W') (t:IsTrace X.A.handled.isNone X.C W' c e) {R:Result->Shared->Prop} (hR:∀ e s',ErT X false W₀ o e s'->R (.error e) s'):notedBy X.C.M X.A X.env (fun e s'=>R (.error e) s') e W'.s :=
 dB F (.refl G.inv) t fun W'' G'' t''=>hR e _ (.mk ho (G.trans G''.weak) t'')
structure LoopAt (X:Fx) (W₀ W:Wd) (wr:List Addr) (St:Nat->Heap->Prop) (i:Nat) (S:Mine.S) (W':Wd):Prop where
 good:Good X false W₀ S W'
 grow:Grow W W'
 held:∀ b ∈ wr,W'.tmp b
 st:St i W'.h
inductive ForI (X:Fx) (W₀ W:Wd) (wr:List Addr) (St:Nat->Heap->Prop) (t':Option Nat × List Nat) (dbody:D Fl) (l:List AV) (o:Out Fl):Nat->Shared->Prop
 | mk {i:Nat} {W':Wd} {S':Mine.S} (hi:i<=l.length) (L:LoopAt X W₀ W wr St i S' W') (h:br t' dbody (l.drop i) S'=o):ForI X W₀ W wr St t' dbody l o (l.length+1 - i) W'.s
theorem codeAny_for (F:X.Ok) (hq:X.T.free=true) {t:Expr} {t':Option Nat × List Nat} {body:List Stmt} {dbody:D Fl} {l:List AV} {I:Addr} {fp:List Addr} {St:Nat->Heap->Prop} {Mid:Nat->Value->Heap->Prop} (hst:TgOk X t t')
  (hbody:∀ S W,Inv X S W->Snd X false (RF X) (execs body X.env) (dbody S) W) {tb:Bool} (htb:tb=true->jO t=true) (G:Good X false W₀ S W) (It:IterS X.C X.A W₀.h W tb I fp wr l St Mid) (g:Ge W.h h') (hst0:St 0 h') (hne:br t' dbody l S ≠ .stuck)
  {R:Result->Shared->Prop} (hR:∀ f s',OkP X false (RF X) W₀ (br t' dbody l S) f s'->R (.ok f) s') (hRe:∀ e s',ErT X false W₀ (br t' dbody l S) e s'->R (.error e) s') :
  codeAny X.C.M X.A (.forLoop t (.ref I) body [] X.env) R { W.s with heap:=h',toks:=tk }:=by
 have hw:=It.wrs
 have Gh:=G.inv.hold (ev:=false) (tk:=tk) g fun b q=>⟨(hw b q).2,(It.ex 0 h' hst0 b q).imp fun _ z=>z.1⟩
 refine codeAny_forLoop_any (ForI X W₀ W wr St t' dbody l (br t' dbody l S)) ?_ (l.length+1)
  (.mk (i:=0) (W':=W.hold h' tk wr) (S':=S) (zA7 _) ⟨G.trans Gh,Gh.ext.grow,fun b q=>.inr q,hst0⟩ (by rw [List.drop_zero]))
 generalize br t' dbody l S=o at hne hR hRe
 rintro m _ (@⟨i,WA,S₁,hi,L,hgo⟩)
 by_cases hlt:i < l.length
 ·refine It.item i WA.s _ _ hlt L.st fun v h₁ tkA hMid hkA=>?_
  refine It.go t i v _ _ _ htb (by cases hst with | nm _=>exact .inl rfl | tp _=>exact .inr rfl) hlt hMid fun h₂ a ha hitem hval hSt' hkB=>?_
  have hdrop:l.drop i=a::l.drop (i+1):=by
   rw [← (zAz.mp ha).2]; exact zCk hlt
  rw [hdrop] at hgo
  have exA:=It.ex (i+1) h₂ hSt'
  obtain ⟨GB,grA⟩:=L.good.turn (tk:=tkA) (fun b q=>⟨(hw b q).1,L.held b q⟩) (It.ex i _ L.st) (fun b q=>(exA b q).imp fun _ z=>z.1) fun b o hb e=>hkB b o hb (hkA b o hb e)
  have grW:Grow W (WA.to h₂ tkA):=L.grow.trans grA
  have hitemA:ItemOk X.C (WA.to h₂ tkA) h₂ a v:=by
   cases hitem with
   | val r=>exact .val (r.mono grW)
   | tup t r=>exact .tup t (r.mono grW)
  have hvalA:jO t=true ∨ VRep X.C (WA.to h₂ tkA) a v:=by
   cases tb with
   | true=>exact .inl (htb rfl)
   | false=>exact .inr ((hval rfl).mono grW)
  have hasg:=snd_assignT F hq GB.inv hst hitemA hvalA
  have hgoB:ax (asgT t' a S₁) (fun _=>aE dbody fun f=>match f with | .next=>br t' dbody (l.drop (i+1)) | .ret v=>af (.ret v))=o:=hgo
  have hna:asgT t' a S₁ ≠ .stuck:=fun q=>hne (by rw [← hgoB,q]; rfl)
  refine zAv (hasg hna) (fun _ sA q=>?_) fun e sA q=>?_
  ·cases q with
   | @mk u Sa WC e₃ GC _ =>
   rw [e₃] at hgoB
   have hgoB:ax (dbody Sa) (fun f=>match f with | .next=>br t' dbody (l.drop (i+1)) | .ret v=>af (.ret v))=o:=hgoB
   have hnb:dbody Sa ≠ .stuck:=fun q=>hne (by rw [← hgoB,q]; rfl)
   have next:∀ {S₅ W₅},Good X false WC S₅ W₅->LoopAt X W₀ W wr St (i+1) S₅ W₅:=fun {S₅ W₅} G₅=>by
    have G₅A:Good X false (WA.to h₂ tkA) S₅ W₅:=GC.trans G₅
    have gr:Grow W W₅:=grW.trans G₅A.ext.grow
    have ho:∀ b ∈ wr,(WA.to h₂ tkA).oth b/\¬ WA.fr b:=fun b q=>⟨⟨GB.inv.c.tl b (L.held b q),fun k z=>(GB.inv.c.ol k b z).2 (L.held b q)⟩,fun z=>(GB.inv.c.fl b z).2.1 (L.held b q)⟩
    refine ⟨GB.trans G₅A,gr,fun b q=>(exA b q).elim fun o z=>(G₅A.ext.tmp z.1 (ho b q).1).mpr (L.held b q),It.frame (i+1) h₂ W₅.h hSt' fun b hb o e=>?_⟩
    by_cases hbw:b ∈ wr
    ·exact (exA b hbw).elim fun o' z=>by
      rw [Option.some.inj (e.symm.trans z.1)]
      exact G₅A.ext.keep z.1 (ho b hbw).1 (ho b hbw).2 z.2
    ·obtain ⟨o',z1,z2,z3⟩:=It.fps b hb hbw
     rw [Option.some.inj (e.symm.trans (grW.kp z1 z2 z3))]
     exact gr.kp z1 z2 z3
   refine zAv (hbody Sa WC GC.inv hnb) (fun fl s₅ q=>?_) fun e s₅ q=>?_
   ·cases q with
    | @mk f S₅ W₅ e₅ G₅ r₅ =>
    have L₅:=next G₅
    rw [e₅] at hgoB
    cases f <;> cases fl <;> first | exact r₅.elim | skip
    ·exact ⟨_,Nat.sub_lt_sub_left (zBi hlt) (zCe _),.mk hlt L₅ hgoB⟩
    ·exact hR _ _ (.mk hgoB.symm L₅.good r₅)
   ·cases q with
    | mk e₅ G₅ t₅=>exact hH F (o:=o) (by rw [← hgoB,e₅]; rfl) (next G₅).good t₅ hRe
  ·cases q with
   | mk e₃ GC tC=>exact hH F (o:=o) (by rw [← hgoB,e₃]; rfl) (GB.trans GC) tC hRe
 ·obtain rfl:i=l.length:=zDo hi (Nat.not_lt.mp hlt)
  refine It.done WA.s _ _ L.st fun h' tk hk=>?_
  dsimp only
  rw [execs_nil]
  rw [List.drop_length] at hgo
  exact zAk (hR _ _ (.mk (W':=WA.over h' tk wr) hgo.symm (L.good.over (fun b q=>⟨(hw b q).1,L.held b q⟩) hk).1 trivial))
noncomputable def itA (tb:Bool) (l:List AV):AV:=if tb then .tup l else .lst l
noncomputable def RIv (X:Fx) (h0:Heap) (W:Wd) (a:AV) (v:Value):Prop:=∃ tb l,a=itA tb l/\∀ (Q E:Value->Shared->Prop),
 (∀ I fp wr St Mid h' tk,IterS X.C X.A h0 W tb I fp wr l St Mid->Ge W.h h'->St 0 h'->Q (.ref I) { W.s with heap:=h',toks:=tk })->wpAny X.C.M X.A (pyIter v) Q E W.s
noncomputable abbrev SndI (X:Fx) (e:Expr) (d:D AV):Prop:=∀ S W,Inv X S W->Snd X true (RIv X W.h) (eval e X.env) (d S) W
theorem i8 {it:Expr} {env:Env} (h:∀ a b c,it ≠ .Set a b c) (x:Value):foldedSetIterable it env x=Pure.pure x:=by
 cases it <;> first | rfl | exact absurd rfl (h _ _ _)
theorem asT_it {t':Option Nat × List Nat} {tb:Bool} {l:List AV} {f:List AV->D Fl} (h:asT t' (itA tb l) f S ≠ .stuck):asT t' (itA tb l) f=f l/\(tb=true->t'.1=none):=by
 cases tb with
 | false=>exact ⟨rfl,fun q=>nomatch q⟩
 | true =>
  obtain ⟨o,ks⟩:=t'
  cases o with
  | none=>exact ⟨rfl,fun _=>rfl⟩
  | some k=>exact absurd rfl h
theorem sndS_for (F:X.Ok) (hq:X.T.free=true) {t it:Expr} {t':Option Nat × List Nat} {body:List Stmt} {p:Pos} {dit:D AV} {dbody:D Fl} (hset:∀ a b c,it ≠ .Set a b c) (hi:SndI X it dit) (hb:eJ X body dbody) (hst:X.fn=true->TgOk X t t'):cY X (.For t it body [] p) (dU t' dit dbody):=fun hf S W I hne=>by
 have hst:=hst hf
 have hne:ax (dit S) (fun v=>asT t' v fun l=>br t' dbody l) ≠ .stuck:=hne
 show wpAny _ _ _ (OkP X false (RF X) W (ax (dit S) fun v=>asT t' v fun l=>br t' dbody l)) (ErP X false W (ax (dit S) fun v=>asT t' v fun l=>br t' dbody l)) _
 have h0:dit S ≠ .stuck:=fun q=>hne (by rw [q]; rfl)
 refine wpAny_For (zAv (hi S W I h0) (fun v s₁ q=>?_) fun e s₁ q=>?_) (i8 hset)
 ·cases q with
  | @mk a S₁ WA e G r =>
  obtain ⟨tb,l,rfl,hit⟩:=r
  rw [e] at hne ⊢
  have hne:asT t' (itA tb l) (fun l=>br t' dbody l) S₁ ≠ .stuck:=hne
  obtain ⟨ea,htb⟩:=asT_it hne
  show wpAny _ _ _ (fun it s₂=>codeAny _ _ _ (fun r s'=>match r with | .ok f=>OkP X false (RF X) W (asT t' (itA tb l) (fun l=>br t' dbody l) S₁) f s' | .error e=>cameBackBy X.C.M X.A X.env (ErP X false W (asT t' (itA tb l) (fun l=>br t' dbody l) S₁)) e s') s₂) _ _
  rw [ea] at hne ⊢
  refine hit _ _ fun I fp wr St Mid h' tk It g st0=>?_
  refine codeAny_for F hq hst (hb hf) (fun q=>?_) G.weak It g st0 hne (fun f s' q=>q) fun e s' q=>?_
  ·cases hst with
   | nm _=>exact nomatch htb q
   | tp _=>rfl
  ·cases q with
   | mk e g t=>exact jV (.refl g.inv) t fun W'' G'' t''=>.mk e (g.trans G''.weak) (.yes t'')
 ·cases q with
  | mk e g t=>exact .mk (by rw [e]; rfl) g.weak t
end
set_option maxRecDepth 100000
section
variable {C:Cx} {A:Around} {h0:Heap} {W:Wd} {I:Addr} {fp wr:List Addr} {l:List AV} {St:Nat->Heap->Prop}
theorem gO {e:Expr} (h:jO e=true):∃ x k p,e=.Tuple x k p:=(zA1.mp h).elim fun x q=>⟨x,ng q⟩
theorem isNm_some {e:Expr} (h:isNm e=true):∃ x p,e=.Name x p:=(zA1.mp h).elim fun x q=>⟨x,ck q⟩
theorem IterS.ofW {P:Nat->Value->Prop} (Wk:Walks C.prog C.w A I fp wr l.length P St) (hP:∀ i v,P i v->i < l.length->∃ a,l[i]?=some a/\VRep C W a v) (hwr:∀ b ∈ wr,h0.get? b=none/\W.h.get? b=none)
  (hfp:∀ b ∈ fp,b ∉ wr->∃ o,W.h.get? b=some o/\W.free b/\Pln o) (hex:∀ i h,St i h->∀ b ∈ wr,∃ o,h.get? b=some o/\Pln o)
  (hown:∀ i (s:Shared),St i s.heap->∃ o,s.heap.get? I=some o/\((o.cls=.type "list_iterator" ∨ o.cls=.type "tuple_iterator")/\(∃ x y,o.data=.fields #[x,y]) ∨ ∃ x y z,o={ cls:=.type "range_iterator",data:=.fields #[x,y,z] })):IterS C A h0 W false I fp wr l St fun i v h=>P i v/\St (i+1) h:=by
 refine ⟨Wk.frame,fun i s Q E hi st hQ=>Wk.item i s Q E hi st fun v h' tk h1 h2 h3=>hQ v h' tk ⟨h1,h2⟩ h3,fun t i v s Q E _ ht hi hm hQ=>?_,Wk.done,Wk.self,fun b q=>⟨(hwr b q).1,.inr (hwr b q).2⟩,fun _ b q=>(hwr b q).2,fun _ i v h hi q=>⟨q.2,hP i v q.1 hi⟩,hfp,hex⟩
 obtain ⟨a,ha,hr⟩:=hP i v hm.1 hi
 have hQ':=hQ s.heap a ha (.val hr) (fun _=>hr) hm.2 fun _ _ _ e=>e
 rcases ht with ht | ht
 ·obtain ⟨x,p,rfl⟩:=isNm_some ht; exact zAk hQ'
 ·obtain ⟨ts,k,p,rfl⟩:=gO ht
  unfold letOwnedTupleGo
  cases v <;> first | exact zAk hQ' | skip
  obtain ⟨o,h1,h2⟩:=hown _ s hm.2
  refine zAa (wpAny_load h1 ?_)
  rcases h2 with ⟨h2,x,y,h3⟩ | ⟨x,y,z,rfl⟩
  ·rw [h3]
   rcases h2 with h2 | h2 <;> rw [h2] <;> exact zAk hQ'
  ·exact zAk hQ'
theorem items_at {vs:Array Value} {i:Nat} {v:Value} (hv:VReps C W l vs.toList) (h:vs[i]?=some v) (hlt:i < l.length):∃ a,l[i]?=some a/\VRep C W a v:=by
 obtain ⟨v',q1,q2,_⟩:=kX hv (zAw hlt)
 rw [h] at q1
 exact ⟨_,zAw hlt,Option.some.inj q1 ▸ q2⟩
theorem gz {ty:String} {o:Obj} (h:o.cls=.type ty) (hn:ty ≠ "traceback"):Pln o:=.type h hn
end
section
variable {X:Fx} {W W₀:Wd} {S:S}
theorem one_more {a ad:Addr} {o:Obj} (h:W.h.get? ad=some o) (f:W.free ad) (p:Pln o):∀ b ∈ [a,ad],b ∉ [a]->∃ o,W.h.get? b=some o/\W.free b/\Pln o:=fun b hb hn=>by
 rcases zAl.mp hb with rfl | hb
 ·exact absurd zAb hn
 ·exact zAi.mp hb ▸ ⟨o,h,f,p⟩
theorem oC (x:Ext (fun _=>False) W₀ W):∀ b ∈ [W.h.objs.size],W₀.h.get? b=none/\W.h.get? b=none:=fun b hb=>by
 rw [zAi.mp hb]
 refine ⟨?_,get?_size⟩
 cases e:W₀.h.get? W.h.objs.size with
 | none=>rfl
 | some o=>exact (x.dom e).elim fun _ q=>(aH q get?_size).elim
theorem ext0 (x:EX X true W₀ W):Ext (fun _=>False) W₀ W:=x.weak fun _ q=>nomatch q.1
theorem RIv.of_val (F:X.Ok) (hq:X.T.free=true) (x:EX X true W₀ W) {a:AV} {v:Value} {l:List AV} (r:VRep X.C W a v) (hi:ew a=some l):RIv X W₀.h W (.lst l) v:=by
 refine ⟨false,l,rfl,fun Q E hQ=>?_⟩
 cases a <;> first | (exact aD hi; done) | skip <;> obtain rfl:=Option.some.inj hi <;> obtain ⟨ad,rfl,hf,vs,n,hg,hsz,hv⟩:=r <;> have hne:ad ≠ W.h.objs.size:=zBk (zA5 hg)
 ·refine zCy ⟨_,hg,rfl,n,rfl⟩ (hQ W.h.objs.size _ _ _ _ _ W.s.toks (IterS.ofW (hv.size ▸ Walks.tuple (F.hd hq) W.h.objs.size ad hne vs) (fun i v hv' hlt=>items_at hv hv' hlt) (oC (ext0 x)) (one_more hg hf eP) (fun i h' q b hb=>q.1.elim fun o q=>⟨o,zAi.mp hb ▸ q.1,gz q.2.1 (by decide)⟩)
   fun i s q=>q.1.elim fun o q=>⟨o,q.1,.inl ⟨.inr q.2.1,_,_,q.2.2⟩⟩) .push ⟨⟨_,zAu _ rfl,rfl,rfl⟩,⟨_,zAh _ hg,rfl,n,rfl⟩⟩)
 ·refine wpAny_pyIter_list ⟨_,hg,rfl,n,rfl⟩ (hQ W.h.objs.size _ _ _ _ _ W.s.toks (IterS.ofW (hv.size ▸ Walks.list (F.hd hq) W.h.objs.size ad hne vs) (fun i v hv' hlt=>items_at hv hv' hlt) (oC (ext0 x)) (one_more hg hf eL) (fun i h' q b hb=>q.1.elim fun o q=>⟨o,zAi.mp hb ▸ q.1,gz q.2.1 (by decide)⟩)
   fun i s q=>q.1.elim fun o q=>⟨o,q.1,.inl ⟨.inl q.2.1,_,_,q.2.2⟩⟩) .push ⟨⟨_,zAu _ rfl,rfl,rfl⟩,⟨_,zAh _ hg,rfl,n,rfl⟩⟩)
theorem sndI_val (F:X.Ok) (hq:X.T.free=true) {e:Expr} {d:D AV} (h:SndE X e d):SndI X e (bw d):=fun S W I=>by
 refine fun hne=>?_
 have hne:ax (d S) (fun c=>Mine.opt ((ew c).map AV.lst)) ≠ .stuck:=hne
 refine zAv (h S W I fun q=>hne (by rw [q]; rfl)) (fun v s' q=>?_) fun v s' q=>?_
 ·cases q with
  | @mk a S' W' e g r =>
   rw [e] at hne
   cases hi:ew a with
   | none=>exact absurd (by show Mine.opt ((ew a).map AV.lst) S'=_; rw [hi]; rfl) hne
   | some l=>exact .mk (b:=.lst l) (S:=S') (by show ax (d S) _=_; rw [e]; show Mine.opt ((ew a).map AV.lst) S'=_; rw [hi]; rfl) g (RIv.of_val F hq g.ext r hi)
 ·cases q with
  | mk e g t=>exact .mk (by show ax (d S) _=_; rw [e]; rfl) g t
theorem eV (a b:Int):(fY a b).length=(b - a).toNat:=by simp [fY]
theorem rangeL_get {a b:Int} {i:Nat} (h:i < (b - a).toNat):(fY a b)[i]?=some (.int (a+i)):=by
 simp [fY,h]
theorem okR_spec {x:Int} (h:okR x=true):-(2 ^ 62)<=x/\x < 2 ^ 62:=by
 have:x.natAbs < 1000000000000000000:=of_decide_eq_true h
 lia
theorem RIv.of_range (F:X.Ok) (hq:X.T.free=true) (x:EX X true W₀ W) {a b:Int} {t u v:Tok} {ad:Addr} (hr:IsRange W.h ad a b 1 t u v) (ha:okR a=true) (hb:okR b=true):RIv X W₀.h W (.lst (fY a b)) (.ref ad):=by
 refine ⟨false,_,rfl,fun Q E hQ=>?_⟩
 obtain ⟨a1,a2⟩:=okR_spec ha
 obtain ⟨b1,b2⟩:=okR_spec hb
 have hsz:Builtin.Range.rangeSize a b 1=((b - a).toNat:Int):=by rw [rangeSize_one]; split <;> lia
 refine wpAny_pyIter_range hr (small_one a1 a2 b1 b2) (hQ W.h.objs.size [W.h.objs.size] _ _ _ _ W.s.toks (IterS.ofW ((eV a b) ▸ Walks.range (F.hd hq) W.h.objs.size a 1 (b - a).toNat) ?_ (oC (ext0 x)) (fun b hb hn=>absurd hb hn) (fun i h' q b hb=>⟨_,zAi.mp hb ▸ q,gz rfl (by decide)⟩) fun i s q=>⟨_,q,.inr ⟨_,_,_,rfl⟩⟩) .push ?_)
 ·rintro i v ⟨t,rfl⟩ hlt
  rw [eV] at hlt
  exact ⟨_,rangeL_get hlt,⟨t,by simp⟩⟩
 ·have e:IsRangeIter (W.h.push { cls:=.type "range_iterator",data:=.fields #[rawInt a,rawInt (Builtin.Range.rangeSize a b 1),rawInt 1] }) W.h.objs.size a (Builtin.Range.rangeSize a b 1) 1:=zAu _ rfl
  rw [hsz] at e ⊢
  show IsRangeIter _ _ _ _ _
  simpa [eV] using e
theorem two_ints {α:Type} {C:Cx} {a b:AV} {f:Int->Int->Option α} {c:α} {args:List Value} (h:on2 a b f=some c) (r:VReps C W [a,b] args):∃ x y t u,f x y=some c/\args=[.int x t,.int y u]:=by
 obtain ⟨x,y,rfl,rfl,h₁⟩:=lY h
 obtain ⟨v,_,rfl,⟨t,rfl⟩,v',_,rfl,⟨u,rfl⟩,rfl⟩:=r
 exact ⟨x,y,t,u,h₁,rfl⟩
noncomputable abbrev SndC (X:Fx) (k:ItK) (f:Value):Prop:=∀ S W₀ W vs args,EX X true W₀ W->Inv X S W->VReps X.C W vs args->Snd X true (RIv X W₀.h) (call f args) (itD k vs S) W
theorem wp_range (F:X.Ok) (hq:X.T.free=true):SndC X .range (.type "range"):=fun S W₀ W vs args x I r=>by
 refine Snd.opt fun b hb=>?_
 match vs,hb,r with
 | [a],hb,r =>
  obtain ⟨v,_,rfl,rA,rfl⟩:=r
  obtain ⟨n,h1,h⟩:=zAg.mp hb
  obtain ⟨hc,rfl⟩:=bu h
  obtain ⟨t,rfl⟩:=rA.int h1
  have G:=fun (o:Obj) (tk:Nat)=>I.ge (ev:=true) (.push (o:=o)) tk
  exact call_range_1 (.mk (W':=W.to _ _) rfl (G _ _) (RIv.of_range F hq (x.trans (G _ _).ext) (IsRange.new ..) rfl (zAn.mp hc).2))
 | [a,b],hb,r =>
  obtain ⟨x',y,t,u,h,rfl⟩:=two_ints hb r
  obtain ⟨hc,rfl⟩:=bu h
  have G:=fun (o:Obj) (tk:Nat)=>I.ge (ev:=true) (.push (o:=o)) tk
  exact call_range_2 (.mk (W':=W.to _ _) rfl (G _ _) (RIv.of_range F hq (x.trans (G _ _).ext) (IsRange.new ..) (zAn.mp hc).1 (zAn.mp hc).2))
theorem zip2_get {la lb:List AV} {i:Nat} {a b:AV} (ha:la[i]?=some a) (hb:lb[i]?=some b):(lZ la lb)[i]?=some (.tup [a,b]):=by
 unfold lZ
 rw [zB0,(List.getElem?_zip_eq_some (z:=(a,b))).mpr ⟨ha,hb⟩]; rfl
theorem gS (la lb:List AV):(lZ la lb).length=min la.length lb.length:=by simp [lZ]
theorem fH:∀ (l:List AV) (k:Int),(fj k l).length=l.length
 | [],_=>rfl
 | _::r,k=>congrArg Nat.succ (fH r (k+1))
theorem nY:∀ {l:List AV} {k:Int} {i:Nat} {a:AV},l[i]?=some a->(fj k l)[i]?=some (.tup [.int (k+i),a])
 | [],_,_,_,h=>nomatch h
 | x::r,k,0,a,h=>by cases h; exact congrArg (fun z=>some (AV.tup [.int z,x])) (Int.add_zero k).symm
 | x::r,k,i+1,a,h=>by
  have:=nY (l:=r) (k:=k+1) (i:=i) (a:=a) h
  rw [show k+1+(i:Int)=k+((i+1:Nat):Int) from by rw [Int.natCast_succ,Int.add_assoc,Int.add_comm 1]] at this
  exact this
end
section
variable {prog:Program} {w:World} {A:Around} {E:Value->Shared->Prop} {s:Shared}
theorem eR {it t:Addr} {i:Nat} {items:Array Value} {x:Value} {Q:Value->Shared->Prop} (hit:s.heap.IsTupleIter it t i)
  (ht:s.heap.IsTuple t items) (hx:items[i]?=some x)
  (hQ:∀ h',h'.IsTupleIter it t (i+1)->Heap.SameBut it s.heap h'->Q x { s with heap:=h' }) :
  wpAny (model prog w) A (Builtin.SmallTypes.nextOf (.ref it)) Q E s:=by
 obtain ⟨o,ho,hc,hd⟩:=id hit
 obtain ⟨ol,hol,_,nl,hdl⟩:=ht
 unfold Builtin.SmallTypes.nextOf
 refine zAa (wpAny_callSpecial?_slot (name:=Str.ofString "__next__") hit.typeIs F.slot_tuple_iterator_next
  (zDn F.slot_tuple_iterator_next hit.typeIs F.entry_tuple_iterator_next ?_ (F.args_tuple_iterator_next_1 _)))
 show wpAny _ _ (field (.ref it) 0 >>= _) _ _ s
 refine zAa (zBq ho hd (x:=.ref t) rfl ?_)
 show wpAny _ _ (if (Value.ref t == Value.none)=true then _ else _) _ _ s
 rw [if_neg (show ¬ ((Value.ref t == Value.none)=true) from zAq)]
 show wpAny _ _ (field (.ref it) 1 >>= _) _ _ s
 refine zAa (zBq ho hd (x:=.int i 0) rfl ?_)
 show wpAny _ _ (seqItems? (.ref t) >>= _) _ _ s
 refine zAa (zBw hol hdl ?_)
 simp only [zCn,hx]
 refine zAa (wpAny_setField ho hd (by simp) (zAk ⟨x,rfl,zAk (hQ _ ?_ (Heap.SameBut.update ..))⟩))
 exact ⟨_,zCv _ ho (Obj.isFreed_of_fields (Obj.data_mapFields hd _)),(Obj.cls_mapFields ..).trans hc,by
  rw [Obj.data_mapFields hd]; simp [rawInt]⟩
theorem eY {it t:Addr} {i:Nat} {items:Array Value} {Q:Value->Shared->Prop} (hh:A.handled=none)
  (hit:s.heap.IsTupleIter it t i) (ht:s.heap.IsTuple t items) (hx:items[i]?=none)
  (hE:∀ h' e,Heap.ExtBut it s.heap h'->(∃ o,h'.get? e=some o/\o.cls=.type "StopIteration")->E (.ref e) { s with heap:=h' }) :
  wpAny (model prog w) A (Builtin.SmallTypes.nextOf (.ref it)) Q E s:=by
 obtain ⟨o,ho,hc,hd⟩:=id hit
 obtain ⟨ol,hol,_,nl,hdl⟩:=ht
 unfold Builtin.SmallTypes.nextOf
 refine zAa (wpAny_callSpecial?_slot (name:=Str.ofString "__next__") hit.typeIs F.slot_tuple_iterator_next
  (zDn F.slot_tuple_iterator_next hit.typeIs F.entry_tuple_iterator_next ?_ (F.args_tuple_iterator_next_1 _)))
 show wpAny _ _ (field (.ref it) 0 >>= _) _ _ s
 refine zAa (zBq ho hd (x:=.ref t) rfl ?_)
 show wpAny _ _ (if (Value.ref t == Value.none)=true then _ else _) _ _ s
 rw [if_neg (show ¬ ((Value.ref t == Value.none)=true) from zAq)]
 show wpAny _ _ (field (.ref it) 1 >>= _) _ _ s
 refine zAa (zBq ho hd (x:=.int i 0) rfl ?_)
 show wpAny _ _ (seqItems? (.ref t) >>= _) _ _ s
 refine zAa (zBw hol hdl ?_)
 simp only [zCn,hx]
 refine zAa (wpAny_rule (zAa (wpAny_setField ho hd (by simp) ?_)))
 show wpAny _ _ (newExc (.type "StopIteration") [] >>= _) _ _ _
 refine zAa ?_
 simp only [newExc,newTuple]
 refine zAa (zCc ?_ (by size_fits))
 refine zAa (m:=firstArgMember _ _) (wpAny_of_eq (a:=Value.none) (by first | rfl | (simp only [firstArgMember]; rfl)) ?_)
 refine zCc ?_ (by size_fits)
 simp only [raiseNew]
 refine zAa (wpAny_handled ?_)
 first | rw [show A.in1.handled=none from hh] | rw [hh]
 refine zAa (zAk (wpAny_throw ?_))
 exact hE _ _ (((Heap.SameBut.update ..).extBut.push _).push _) ⟨_,zAu _ rfl,rfl⟩
theorem draws_tuple (hh:A.handled=none) (it l:Addr) (hne:l ≠ it) (items:Array Value):Draws prog w A it [it,l] items.size (fun i v=>items[i]?=some v) (fun i h=>h.IsTupleIter it l i/\h.IsTuple l items) where
 live:=fun _ _ st=>st.1.imp fun _ q=>q.1
 frame:=fun _ _ _ st hk=>⟨st.1.at fun o e=>hk it (by simp) o e,st.2.at fun o e=>hk l (by simp) o e⟩
 item:=fun i s Q E hi st hQ=>eR st.1 st.2 (x:=items[i]) (by simp [hi]) fun h' hit' hs'=>hQ _ h' s.toks (by simp [hi]) ⟨hit',st.2.extBut hs'.extBut hne⟩ hs'
 done:=fun s Q E st hE=>eY hh st.1 st.2 (by simp) hE
set_option tactic.hygienic true in
theorem hZ (l:Addr) (items:Array Value) :
  Meets (Builtin.«enumerate.__new__» ⟨[.type "enumerate",.ref l],[]⟩) (fun _ R s=>s.heap.IsTuple l items /\
   R (.ok (.ret (.ref (s.heap.push { cls:=.type "tuple_iterator",data:=.fields #[.ref l,.int 0 0] }).objs.size)))
    { s with heap:=(s.heap.push { cls:=.type "tuple_iterator",data:=.fields #[.ref l,.int 0 0] }).push { cls:=.type "enumerate",data:=.fields #[.none,.bool false,.ref s.heap.objs.size,rawInt 0,.none,.none] } }) :=
 .of_wp fun prog w A R s h=>by
  obtain ⟨hp,g,d,tk,os⟩:=s; obtain ⟨hl,h⟩:=h
  have hsub:=sub_enumerate
  have hL:Heap.IsTuple (Shared.heap ⟨hp,g,d,tk,os⟩) l items:=hl
  wp_walk
  refine wpAny_stack_any fun st=>zAk ?_
  split
  ·rename_i c _ _ _ _ _
   cases (c == Value.type "enumerate")
   ·wp_walk using zCy hL
    exact ⟨_,rfl,h⟩
   ·wp_walk using zCy hL
    exact ⟨_,rfl,h⟩
  ·wp_walk using zCy hL
   exact ⟨_,rfl,h⟩
theorem mM {l:Addr} {items:Array Value} {Q:Value->Shared->Prop} (hL:s.heap.IsTuple l items)
  (h:∀ h',IsEnum h' (s.heap.objs.size+1) s.heap.objs.size 0 .none->h'.IsTupleIter s.heap.objs.size l 0->(∀ b o,s.heap.get? b=some o->h'.get? b=some o)->Q (.ref (s.heap.objs.size+1)) { s with heap:=h' }) :
  wpAny (model prog w) A (call (.type "enumerate") [.ref l]) Q E s:=by
 refine callType_new F.called_enumerate (by decide) (F.typeCall_enumerate_1 _) (F.newCall_enumerate_1 _) (fun obj=>F.args_object_init_2 obj _) F.entry_enumerate_new (hZ l items) ⟨hL,?_⟩
 have hz:(s.heap.push { cls:=.type "tuple_iterator",data:=.fields #[.ref l,.int 0 0] }).objs.size=s.heap.objs.size+1:=zB3 ..
 show _/\_
 rw [hz]
 have he:IsEnum ((s.heap.push { cls:=.type "tuple_iterator",data:=.fields #[.ref l,.int 0 0] }).push
   { cls:=.type "enumerate",data:=.fields #[.none,.bool false,.ref s.heap.objs.size,rawInt 0,.none,.none] }) (s.heap.objs.size+1) s.heap.objs.size 0 .none:=by
  have:=zAu (s.heap.push { cls:=.type "tuple_iterator",data:=.fields #[.ref l,.int 0 0] })
   (o:={ cls:=.type "enumerate",data:=.fields #[.none,.bool false,.ref s.heap.objs.size,rawInt 0,.none,.none] }) rfl
  rw [hz] at this; exact this
 exact ⟨⟨_,he,rfl⟩,h _ he ⟨_,zAh _ (zAu _ rfl),rfl,rfl⟩ fun b o x=>zAh _ (zAh _ x)⟩
end
structure NextOk (prog:Program) (w:World) (A:Around) (i l:Addr) (xs:Array Value) (T:Nat->Heap->Prop):Prop where
 frame:∀ k h h',T k h->(∀ b o,b=i ∨ b=l->h.get? b=some o->h'.get? b=some o)->T k h'
 ex:∀ k h,T k h->∃ o,h.get? i=some o
 item:∀ k (s:Shared) (Q:Value->Shared->Prop) (E:Value->Shared->Prop) x,T k s.heap->xs[k]?=some x ->
  (∀ h',T (k+1) h'->Heap.SameBut i s.heap h'->Q x { s with heap:=h' })->wpAny (model prog w) A (Builtin.SmallTypes.nextOf (.ref i)) Q E s
 done:∀ k (s:Shared) (Q:Value->Shared->Prop) (E:Value->Shared->Prop),T k s.heap->xs[k]?=none ->
  (∀ h' e,Heap.ExtBut i s.heap h'->(∃ o,h'.get? e=some o/\o.cls=.type "StopIteration")->E (.ref e) { s with heap:=h' })->wpAny (model prog w) A (Builtin.SmallTypes.nextOf (.ref i)) Q E s
section
variable {prog:Program} {w:World} {A:Around} {E:Value->Shared->Prop} {s:Shared}
theorem nextOk_list (hh:A.handled=none) {i l:Addr} (hne:l ≠ i) (xs:Array Value):NextOk prog w A i l xs (fun k h=>h.IsListIter i l k/\h.IsList l xs) where
 frame:=fun k h h' st hk=>⟨st.1.at fun o e=>hk _ o (.inl rfl) e,st.2.at fun o e=>hk _ o (.inr rfl) e⟩
 ex:=fun k h ⟨⟨o,e,_⟩,_⟩=>⟨o,e⟩
 item:=fun k s Q E x st hx hQ=>wpAny_nextOf_list_item st.1 st.2 hx fun h' h1 h2=>hQ h' ⟨h1,st.2.extBut h2.extBut hne⟩ h2
 done:=fun k s Q E st hx hE=>wpAny_nextOf_list_end hh st.1 st.2 hx hE
theorem oU (hh:A.handled=none) {i l:Addr} (hne:l ≠ i) (xs:Array Value):NextOk prog w A i l xs (fun k h=>h.IsTupleIter i l k/\h.IsTuple l xs) where
 frame:=fun k h h' st hk=>⟨st.1.at fun o e=>hk _ o (.inl rfl) e,st.2.at fun o e=>hk _ o (.inr rfl) e⟩
 ex:=fun k h ⟨⟨o,e,_⟩,_⟩=>⟨o,e⟩
 item:=fun k s Q E x st hx hQ=>eR st.1 st.2 hx fun h' h1 h2=>hQ h' ⟨h1,st.2.extBut h2.extBut hne⟩ h2
 done:=fun k s Q E st hx hE=>eY hh st.1 st.2 hx hE
theorem zipS_item {z TI TO i1 i2 l1 l2:Addr} {k:Nat} {xs ys:Array Value} {x y a b:Value} {T1 T2:Nat->Heap->Prop} {Q:Value->Shared->Prop} (D:ZipApart z TI TO i1 i2 l1 l2)
  (N1:NextOk prog w A.in1 i1 l1 xs T1) (N2:NextOk prog w A.in1 i2 l2 ys T2)
  (hz:IsZip s.heap z TI TO .none) (hTI:IsPair s.heap TI (.ref i1) (.ref i2)) (hTO:IsPair s.heap TO a b)
  (h1:T1 k s.heap) (h2:T2 k s.heap) (hx:xs[k]?=some x) (hy:ys[k]?=some y)
  (hQ:∀ h',IsZip h' z TI TO (rawInt s.heap.objs.size)->IsPair h' TO x y->T1 (k+1) h'->T2 (k+1) h'->IsPair h' s.heap.objs.size x y->h'.objs.size=s.heap.objs.size+1 ->
   (∀ c o,c ≠ z->c ≠ TO->c ≠ i1->c ≠ i2->s.heap.get? c=some o->h'.get? c=some o)->Q (.ref s.heap.objs.size) { s with heap:=h' }) :
  wpAny (model prog w) A.in1 (Builtin.«zip.__next__» ⟨[.ref z],[]⟩) (fun fin s'=>∃ v,fin=.done (.ret v)/\Q v s') E s:=by
 show wpAny _ _ (field (.ref z) 2 >>= _) _ _ _
 refine zAa (zBq hz rfl (x:=.bool false) rfl ?_)
 show wpAny _ _ (field (.ref z) 3 >>= _) _ _ _
 refine zAa (zBq hz rfl (x:=.ref TI) rfl ?_)
 refine zAa (zBw hTI rfl ?_)
 show wpAny _ _ (Builtin.SmallTypes.ownedTupleIsFree (.ref z) >>= _) _ _ _
 refine zAa ?_
 unfold Builtin.SmallTypes.ownedTupleIsFree
 refine zAa (zBq hz rfl (x:=.none) rfl (zAk ?_))
 simp only [if_true]
 refine zAa (wpAny_rule ?_)
 refine zAa (zBq hz rfl (x:=.ref TO) rfl ?_)
 refine zAa (zCx hz (by simp) fun h₁ hzA hsA=>?_)
 replace hzA:IsZip h₁ z TI TO .ellipsis:=hzA
 refine zAa ?_
 simp only [List.zipIdx_cons,List.zipIdx_nil,List.forIn_cons,List.forIn_nil]
 refine zAa (zAa (wpAny_onRaise ?_))
 show wpAny _ _ (Builtin.SmallTypes.nextOf (.ref i1) >>= _) _ _ _
 have eqz:∀ {b i l:Addr},i ≠ z->l ≠ z->b=i ∨ b=l->b ≠ z:=fun p q r=>r.elim (· ▸ p) (· ▸ q)
 refine zAa (N1.item k _ _ _ x (N1.frame k _ _ h1 fun b o hb e=>hsA.extBut b o (hb.elim (· ▸ D.i1z) (· ▸ D.l1z)) e) hx fun h₂ h1B hsB=>zAk ?_)
 have hTOA:IsPair h₂ TO a b:=hsB.extBut _ _ D.TOi1 (hsA.extBut _ _ D.TOz hTO)
 refine zAa (zBw hTOA rfl ?_)
 refine zAa (wpAny_updateSeq_pair hTOA fun h₃ hTOB hsC=>?_)
 replace hTOB:IsPair h₃ TO x b:=hTOB
 refine zAa (zDg (zAk ?_))
 refine zAa (zAa (wpAny_onRaise ?_))
 show wpAny _ _ (Builtin.SmallTypes.nextOf (.ref i2) >>= _) _ _ _
 have h2A:T2 k h₃:=N2.frame k _ _ h2 fun b o hb e=>hsC.extBut b o (hb.elim (· ▸ D.TOi2.symm) (· ▸ D.l2TO)) (hsB.extBut b o (hb.elim (· ▸ D.i12.symm) (· ▸ D.l2i1)) (hsA.extBut b o (hb.elim (· ▸ D.i2z) (· ▸ D.l2z)) e))
 refine zAa (N2.item k _ _ _ y h2A hy fun h₄ h2₄ hs₄=>zAk ?_)
 have hTO₄:IsPair h₄ TO x b:=hs₄.extBut _ _ D.TOi2 hTOB
 refine zAa (zBw hTO₄ rfl ?_)
 refine zAa (wpAny_updateSeq_pair hTO₄ fun h₅ hTO₅ hs₅=>?_)
 replace hTO₅:IsPair h₅ TO x y:=hTO₅
 refine zAa (zDg (zAk (zAk ?_)))
 refine zAa (zBw hTO₅ rfl ?_)
 refine zAa (wpAny_newTuple ?_)
 have hsz:h₅.objs.size=s.heap.objs.size:=by rw [hs₅.1,hs₄.1,hsC.1,hsB.1,hsA.1]
 have hz₅:IsZip h₅ z TI TO .ellipsis:=hs₅.extBut _ _ D.TOz.symm (hs₄.extBut _ _ D.i2z.symm (hsC.extBut _ _ D.TOz.symm (hsB.extBut _ _ D.i1z.symm hzA)))
 have hk₅:∀ c o,c ≠ z->c ≠ TO->c ≠ i1->c ≠ i2->s.heap.get? c=some o->h₅.get? c=some o:=fun c o c1 c2 c3 c4 e =>
  hs₅.extBut _ _ c2 (hs₄.extBut _ _ c4 (hsC.extBut _ _ c2 (hsB.extBut _ _ c3 (hsA.extBut _ _ c1 e))))
 have h1₅:T1 (k+1) h₅:=N1.frame _ _ _ h1B fun b o hb e=>hs₅.extBut b o (hb.elim (· ▸ D.TOi1.symm) (· ▸ D.l1TO)) (hs₄.extBut b o (hb.elim (· ▸ D.i12) (· ▸ D.l1i2)) (hsC.extBut b o (hb.elim (· ▸ D.TOi1.symm) (· ▸ D.l1TO)) e))
 have h2₅:T2 (k+1) h₅:=N2.frame _ _ _ h2₄ fun b o hb e=>hs₅.extBut b o (hb.elim (· ▸ D.TOi2.symm) (· ▸ D.l2TO)) e
 have hzlt:z < h₅.objs.size:=zA5 hz₅
 show wpAny _ _ (Builtin.SmallTypes.ownedTupleHandOut (.ref z) (.ref h₅.objs.size) >>= _) _ _ _
 refine zAa ?_
 unfold Builtin.SmallTypes.ownedTupleHandOut
 have hz₆:IsZip (h₅.push { cls:=.type "tuple",data:=.seq #[x,y] }) z TI TO .ellipsis:=zAh _ hz₅
 refine zAa (zCx hz₆ (by simp) fun h₇ hz₇ hs₇=>?_)
 replace hz₇:IsZip h₇ z TI TO (rawInt h₅.objs.size):=hz₇
 refine zCx hz₇ (by simp) fun h₈ hz₈ hs₈=>?_
 replace hz₈:IsZip h₈ z TI TO (rawInt h₅.objs.size):=hz₈
 have up:∀ c o,c ≠ z->h₅.get? c=some o->h₈.get? c=some o:=fun c o c1 e=>hs₈.extBut _ _ c1 (hs₇.extBut _ _ c1 (zAh _ e))
 have hT₈:IsPair h₈ h₅.objs.size x y:=hs₈.extBut _ _ (zCh hzlt) (hs₇.extBut _ _ (zCh hzlt) (zAu _ rfl))
 have hz8:h₈.objs.size=h₅.objs.size+1:=by rw [hs₈.1,hs₇.1,zB3]
 rw [hsz] at hz₈ hT₈ hz8
 refine zAk ⟨_,rfl,?_⟩
 show Q (.ref h₅.objs.size) _
 rw [hsz]
 exact hQ h₈ hz₈ (up _ _ D.TOz hTO₅) (N1.frame _ _ _ h1₅ fun b o hb e=>up b o (hb.elim (· ▸ D.i1z) (· ▸ D.l1z)) e) (N2.frame _ _ _ h2₅ fun b o hb e=>up b o (hb.elim (· ▸ D.i2z) (· ▸ D.l2z)) e) hT₈ hz8
  fun c o c1 c2 c3 c4 e=>up c o c1 (hk₅ c o c1 c2 c3 c4 e)
theorem zipS_end {z TI TO i1 i2 l1 l2:Addr} {k:Nat} {xs ys:Array Value} {a b:Value} {T1 T2:Nat->Heap->Prop} {Q:Fin->Shared->Prop} (D:ZipApart z TI TO i1 i2 l1 l2)
  (N1:NextOk prog w A.in1 i1 l1 xs T1) (N2:NextOk prog w A.in1 i2 l2 ys T2)
  (hz:IsZip s.heap z TI TO .none) (hTI:IsPair s.heap TI (.ref i1) (.ref i2)) (hTO:IsPair s.heap TO a b)
  (h1:T1 k s.heap) (h2:T2 k s.heap) (hend:xs[k]?=none ∨ ys[k]?=none)
  (hE:∀ h' e,(∀ c o,c ≠ z->c ≠ TO->c ≠ i1->c ≠ i2->s.heap.get? c=some o->h'.get? c=some o)->(∃ o,h'.get? e=some o/\o.cls=.type "StopIteration")->E (.ref e) { s with heap:=h' }) :
  wpAny (model prog w) A.in1 (Builtin.«zip.__next__» ⟨[.ref z],[]⟩) Q E s:=by
 show wpAny _ _ (field (.ref z) 2 >>= _) _ _ _
 refine zAa (zBq hz rfl (x:=.bool false) rfl ?_)
 show wpAny _ _ (field (.ref z) 3 >>= _) _ _ _
 refine zAa (zBq hz rfl (x:=.ref TI) rfl ?_)
 refine zAa (zBw hTI rfl ?_)
 show wpAny _ _ (Builtin.SmallTypes.ownedTupleIsFree (.ref z) >>= _) _ _ _
 refine zAa ?_
 unfold Builtin.SmallTypes.ownedTupleIsFree
 refine zAa (zBq hz rfl (x:=.none) rfl (zAk ?_))
 simp only [if_true]
 refine zAa (wpAny_rule ?_)
 refine zAa (zBq hz rfl (x:=.ref TO) rfl ?_)
 refine zAa (zCx hz (by simp) fun h₁ hzA hsA=>?_)
 replace hzA:IsZip h₁ z TI TO .ellipsis:=hzA
 refine zAa ?_
 simp only [List.zipIdx_cons,List.zipIdx_nil,List.forIn_cons,List.forIn_nil]
 refine zAa (zAa (wpAny_onRaise ?_))
 show wpAny _ _ (Builtin.SmallTypes.nextOf (.ref i1) >>= _) _ _ _
 have h1A:T1 k h₁:=N1.frame k _ _ h1 fun b o hb e=>hsA.extBut b o (hb.elim (· ▸ D.i1z) (· ▸ D.l1z)) e
 cases hx:xs[k]? with
 | none =>
  refine zAa (N1.done k _ _ _ h1A hx fun h₂ e hsB he=>?_)
  obtain ⟨oe,hoe,hce⟩:=he
  have hzB:IsZip h₂ z TI TO .ellipsis:=hsB _ _ D.i1z.symm hzA
  have hez:e ≠ z:=fun x=>by subst x; rw [hzB] at hoe; cases hoe; simp at hce
  refine zCx hzB (by simp) fun h₃ _ hsC=>hE h₃ e (fun c o c1 _ c3 _ x=>hsC.extBut _ _ c1 (hsB _ _ c3 (hsA.extBut _ _ c1 x))) ⟨oe,hsC.extBut _ _ hez hoe,hce⟩
 | some x =>
  have hy:ys[k]?=none:=by rcases hend with h | h; rw [hx] at h; exact eN zBt h rfl; exact h
  refine zAa (N1.item k _ _ _ x h1A hx fun h₂ h1B hsB=>zAk ?_)
  have hTOA:IsPair h₂ TO a b:=hsB.extBut _ _ D.TOi1 (hsA.extBut _ _ D.TOz hTO)
  refine zAa (zBw hTOA rfl ?_)
  refine zAa (wpAny_updateSeq_pair hTOA fun h₃ hTOB hsC=>?_)
  refine zAa (zDg (zAk ?_))
  refine zAa (zAa (wpAny_onRaise ?_))
  show wpAny _ _ (Builtin.SmallTypes.nextOf (.ref i2) >>= _) _ _ _
  have h2A:T2 k h₃:=N2.frame k _ _ h2 fun b o hb e=>hsC.extBut b o (hb.elim (· ▸ D.TOi2.symm) (· ▸ D.l2TO)) (hsB.extBut b o (hb.elim (· ▸ D.i12.symm) (· ▸ D.l2i1)) (hsA.extBut b o (hb.elim (· ▸ D.i2z) (· ▸ D.l2z)) e))
  refine zAa (N2.done k _ _ _ h2A hy fun h₄ e hs₄ he=>?_)
  obtain ⟨oe,hoe,hce⟩:=he
  have hz₄:IsZip h₄ z TI TO .ellipsis:=hs₄ _ _ D.i2z.symm (hsC.extBut _ _ D.TOz.symm (hsB.extBut _ _ D.i1z.symm hzA))
  have hez:e ≠ z:=fun x=>by subst x; rw [hz₄] at hoe; cases hoe; simp at hce
  refine zCx hz₄ (by simp) fun h₅ _ hs₅=>hE h₅ e (fun c o c1 c2 c3 c4 x=>hs₅.extBut _ _ c1 (hs₄ _ _ c4 (hsC.extBut _ _ c2 (hsB.extBut _ _ c3 (hsA.extBut _ _ c1 x))))) ⟨oe,hs₅.extBut _ _ hez hoe,hce⟩
end
noncomputable def sqN (c:Bool):String:=bif c then "tuple" else "list"
noncomputable def itN (c:Bool):String:=bif c then "tuple_iterator" else "list_iterator"
noncomputable def SqAt (c:Bool) (h:Heap) (l:Addr) (xs:Array Value):Prop:=∃ o,h.get? l=some o/\o.cls=.type (sqN c)/\∃ n,o.data=.seq xs n
noncomputable def SqIt (c:Bool) (i l:Addr) (xs:Array Value) (k:Nat) (h:Heap):Prop:=(∃ o,h.get? i=some o/\o.cls=.type (itN c)/\o.data=.fields #[.ref l,.int k 0])/\SqAt c h l xs
section
variable {prog:Program} {w:World} {A:Around} {E:Value->Shared->Prop} {s:Shared}
theorem SqAt.push {c:Bool} {h:Heap} {l:Addr} {xs:Array Value} (x:SqAt c h l xs) (o:Obj):SqAt c (h.push o) l xs :=
 x.imp fun _ q=>⟨zAh o q.1,q.2⟩
theorem nj (hh:A.handled=none) {c:Bool} {i l:Addr} (hne:l ≠ i) (xs:Array Value):NextOk prog w A i l xs (SqIt c i l xs):=by
 cases c
 ·exact nextOk_list hh hne xs
 ·exact oU hh hne xs
theorem oa {c:Bool} {l:Addr} {xs:Array Value} {Q:Value->Shared->Prop} (hl:SqAt c s.heap l xs)
  (hQ:Q (.ref s.heap.objs.size) { s with heap:=s.heap.push { cls:=.type (itN c),data:=.fields #[.ref l,.int 0 0] } }):wpAny (model prog w) A (pyIter (.ref l)) Q E s:=by
 cases c
 ·exact wpAny_pyIter_list hl hQ
 ·exact zCy hl hQ
noncomputable abbrev zH1 (c:Bool) (h:Heap) (l:Addr):Heap:=h.push { cls:=.type (itN c),data:=.fields #[.ref l,.int 0 0] }
noncomputable abbrev zH2 (c d:Bool) (h:Heap) (l1 l2:Addr):Heap:=(zH1 c h l1).push { cls:=.type (itN d),data:=.fields #[.ref l2,.int 0 0] }
noncomputable abbrev zH3 (c d:Bool) (h:Heap) (l1 l2:Addr):Heap:=(zH2 c d h l1 l2).push { cls:=.type "tuple",data:=.seq #[.ref h.objs.size,.ref (zH1 c h l1).objs.size] }
noncomputable abbrev zH4 (c d:Bool) (h:Heap) (l1 l2:Addr):Heap:=(zH3 c d h l1 l2).push { cls:=.type "tuple",data:=.seq #[.none,.none] }
noncomputable abbrev zH5 (c d:Bool) (h:Heap) (l1 l2:Addr):Heap:=(zH4 c d h l1 l2).push { cls:=.type "zip",data:=.fields #[.none,.bool false,.bool false,.ref (zH2 c d h l1 l2).objs.size,.ref (zH3 c d h l1 l2).objs.size] }
theorem meets_zip (c d:Bool) (l1 l2:Addr) (xs ys:Array Value) :
  Meets (Builtin.«zip.__new__» ⟨[.type "zip",.ref l1,.ref l2],[]⟩) (fun _ R s=>SqAt c s.heap l1 xs/\SqAt d s.heap l2 ys /\
   R (.ok (.ret (.ref (zH4 c d s.heap l1 l2).objs.size))) { s with heap:=zH5 c d s.heap l1 l2 }) :=
 .of_wp fun prog w A R s h=>by
  obtain ⟨hp,g,dd,tk,os⟩:=s; obtain ⟨hl1,hl2,h⟩:=h
  have hsub:=sub_zip
  have hL1:SqAt c (Shared.heap ⟨hp,g,dd,tk,os⟩) l1 xs:=hl1
  have hL2:SqAt d (Shared.heap ⟨hp.push { cls:=.type (itN c),data:=.fields #[.ref l1,.int 0 0] },g,dd,tk,os⟩) l2 ys:=SqAt.push hl2 _
  wp_walk using oa hL1,oa hL2
  exact ⟨_,rfl,h⟩
noncomputable def ZipSt (c d:Bool) (z TI TO i1 i2 l1 l2:Addr) (xs ys:Array Value) (f0:Value) (k:Nat) (h:Heap):Prop :=
 IsZip h z TI TO f0/\IsPair h TI (.ref i1) (.ref i2)/\(∃ a b,IsPair h TO a b)/\SqIt c i1 l1 xs k h/\SqIt d i2 l2 ys k h
theorem call_zipS {c d:Bool} {l1 l2:Addr} {xs ys:Array Value} {Q:Value->Shared->Prop} (hl1:SqAt c s.heap l1 xs) (hl2:SqAt d s.heap l2 ys)
  (h:∀ h',ZipSt c d (s.heap.objs.size+4) (s.heap.objs.size+2) (s.heap.objs.size+3) s.heap.objs.size (s.heap.objs.size+1) l1 l2 xs ys .none 0 h' ->
   (∀ c o,s.heap.get? c=some o->h'.get? c=some o)->Q (.ref (s.heap.objs.size+4)) { s with heap:=h' }) :
  wpAny (model prog w) A (call (.type "zip") [.ref l1,.ref l2]) Q E s:=by
 refine callType_new F.called_zip (by decide) (F.typeCall_zip_2 _ _) (F.newCall_zip_2 _ _) (fun obj=>F.args_object_init_3 obj _ _) F.entry_zip_new
  (meets_zip c d l1 l2 xs ys) ⟨hl1,hl2,?_⟩
 have z1:(zH1 c s.heap l1).objs.size=s.heap.objs.size+1:=zB3 ..
 have z2:(zH2 c d s.heap l1 l2).objs.size=s.heap.objs.size+2:=by rw [zB3,z1]
 have z3:(zH3 c d s.heap l1 l2).objs.size=s.heap.objs.size+3:=by rw [zB3,z2]
 have z4:(zH4 c d s.heap l1 l2).objs.size=s.heap.objs.size+4:=by rw [zB3,z3]
 have g5:(zH5 c d s.heap l1 l2).get? (zH4 c d s.heap l1 l2).objs.size=some _:=zAu _ rfl
 have g4:(zH5 c d s.heap l1 l2).get? (zH3 c d s.heap l1 l2).objs.size=some _:=zAh _ (zAu _ rfl)
 have g3:(zH5 c d s.heap l1 l2).get? (zH2 c d s.heap l1 l2).objs.size=some _:=zAh _ (zAh _ (zAu _ rfl))
 have g2:(zH5 c d s.heap l1 l2).get? (zH1 c s.heap l1).objs.size=some _:=zAh _ (zAh _ (zAh _ (zAu _ rfl)))
 have g1:(zH5 c d s.heap l1 l2).get? s.heap.objs.size=some _:=zAh _ (zAh _ (zAh _ (zAh _ (zAu _ rfl))))
 have up:∀ c' o,s.heap.get? c'=some o->(zH5 c d s.heap l1 l2).get? c'=some o:=fun c' o x =>
  zAh _ (zAh _ (zAh _ (zAh _ (zAh _ x))))
 show _/\_
 rw [z2,z3,z4] at g5
 rw [z1,z2] at g3
 rw [z3] at g4
 rw [z1] at g2
 rw [z4]
 exact ⟨⟨_,g5,rfl⟩,h _ ⟨g5,g3,⟨_,_,g4⟩,⟨⟨_,g1,rfl,rfl⟩,hl1.imp fun _ q=>⟨up _ _ q.1,q.2⟩⟩,⟨⟨_,g2,rfl,rfl⟩,hl2.imp fun _ q=>⟨up _ _ q.1,q.2⟩⟩⟩ up⟩
end
section
variable {X:Fx} {W W₀:Wd} {S:S}
set_option tactic.hygienic true in
theorem nI {C:Cx} {A:Around} {h0:Heap} (hh:A.handled=none) {c d:Bool} {z TI TO i1 i2 l1 l2:Addr} {xs ys:Array Value} {la lb:List AV} (D:ZipApart z TI TO i1 i2 l1 l2)
  (hx:VReps C W la xs.toList) (hy:VReps C W lb ys.toList)
  (hfr:∀ b ∈ [z,TI,TO,i1,i2],h0.get? b=none/\(W.tmp b ∨ W.h.get? b=none)) (hl1:∃ o,W.h.get? l1=some o/\W.free l1/\Pln o) (hl2:∃ o,W.h.get? l2=some o/\W.free l2/\Pln o) :
  IterS C A h0 W true z [z,TI,TO,i1,i2,l1,l2] [z,TI,TO,i1,i2] (lZ la lb) (ZipSt c d z TI TO i1 i2 l1 l2 xs ys .none)
   fun i v h'=>∃ T x y,v=.ref T/\ZipSt c d z TI TO i1 i2 l1 l2 xs ys (rawInt T) (i+1) h'/\IsPair h' T x y/\xs[i]?=some x/\ys[i]?=some y/\T ≠ z:=by
 have N1:NextOk C.prog C.w A.in1 i1 l1 xs (SqIt c i1 l1 xs):=nj (by simpa using hh) D.l1i1 xs
 have N2:NextOk C.prog C.w A.in1 i2 l2 ys (SqIt d i2 l2 ys):=nj (by simpa using hh) D.l2i2 ys
 have e1:=hx.size
 have e2:=hy.size
 refine ⟨?_,?_,?_,?_,fun i s Q E st q=>wpAny_pyIter_zip st.1 q,hfr,nofun,nofun,?_,?_⟩
 ·intro i h h' ⟨q1,q2,⟨a,b,q3⟩,q4,q5⟩ hk
  exact ⟨hk z (.head _) _ q1,hk TI (.tail _ (.head _)) _ q2,⟨a,b,hk TO (.tail _ (.tail _ (.head _))) _ q3⟩,
   N1.frame i h h' q4 fun b o hb e=>hk b (hb.elim (· ▸ .tail _ (.tail _ (.tail _ (.head _)))) (· ▸ .tail _ (.tail _ (.tail _ (.tail _ (.tail _ (.head _))))))) o e,N2.frame i h h' q5 fun b o hb e=>hk b (hb.elim (· ▸ .tail _ (.tail _ (.tail _ (.tail _ (.head _))))) (· ▸ .tail _ (.tail _ (.tail _ (.tail _ (.tail _ (.tail _ (.head _)))))))) o e⟩
 ·intro i s Q E hi ⟨hz,hTI,⟨a,b,hTO⟩,h1,h2⟩ hQ
  rw [gS] at hi
  have hix:i < xs.size:=e1 ▸ zBl hi (Nat.min_le_left _ _)
  have hiy:i < ys.size:=e2 ▸ zBl hi (zB8 _ _)
  have hT:s.TypeIs (.ref z) "zip":=⟨_,hz,rfl⟩
  have hx':=zCj hix
  have hy':=zCj hiy
  unfold pyNext
  refine zAa (wpAny_attempt (wpAny_callSpecial?_slot (name:=Str.ofString "__next__") hT F.slot_zip_next
   (zDn F.slot_zip_next hT F.entry_zip_next (zipS_item D N1 N2 hz hTI hTO h1 h2 hx' hy' fun h' a1 a2 a3 a4 a5 a6 a7=>zAk (hQ _ h' s.toks ?_ ?_)) (F.args_zip_next_1 _))))
  ·exact ⟨_,_,_,rfl,⟨a1,a7 _ _ D.TIz D.TITO D.TIi1 D.TIi2 hTI,⟨_,_,a2⟩,a3,a4⟩,a5,hx',hy',zCh (zA5 hz)⟩
  ·exact fun c o hc e=>a7 c o (fun q=>hc (q ▸ .head _)) (fun q=>hc (q ▸ .tail _ (.tail _ (.head _)))) (fun q=>hc (q ▸ .tail _ (.tail _ (.tail _ (.head _))))) (fun q=>hc (q ▸ .tail _ (.tail _ (.tail _ (.tail _ (.head _)))))) e
 ·rintro t i v s Q E htb _ hi ⟨T,x,y,rfl,⟨hz,hTI,⟨a,b,hTO⟩,h1,h2⟩,hP,hx',hy',hTz⟩ hQ
  obtain ⟨ts,k,p,rfl⟩:=gO (htb rfl)
  rw [gS] at hi
  have ha:la[i]?=some la[i]:=zAw (zBl hi (Nat.min_le_left _ _))
  have hb:lb[i]?=some lb[i]:=zAw (zBl hi (zB8 _ _))
  obtain ⟨x',qx1,qx2⟩:=hx.get ha
  obtain ⟨y',qy1,qy2⟩:=hy.get hb
  rw [zB4,hx'] at qx1; cases qx1
  rw [zB4,hy'] at qy1; cases qy1
  refine wpAny_letOwnedTupleGo_zip hz fun h' hz' hs'=>hQ h' _ (zip2_get ha hb) (.tup (vals:=#[x,y]) ⟨_,hs'.extBut _ _ hTz hP,rfl,_,rfl⟩ ?_) (fun q=>nomatch q) ?_ fun c o hc e=>hs'.extBut _ _ (fun q=>hc (q ▸ .head _)) e
  ·exact .cons qx2 (.cons qy2 .nil)
  ·exact ⟨hz',hs'.extBut _ _ D.TIz hTI,⟨a,b,hs'.extBut _ _ D.TOz hTO⟩,N1.frame _ _ _ h1 fun b o hb e=>hs'.extBut b o (hb.elim (· ▸ D.i1z) (· ▸ D.l1z)) e,
    N2.frame _ _ _ h2 fun b o hb e=>hs'.extBut b o (hb.elim (· ▸ D.i2z) (· ▸ D.l2z)) e⟩
 ·intro s Q E ⟨hz,hTI,⟨a,b,hTO⟩,h1,h2⟩ hQ
  have hT:s.TypeIs (.ref z) "zip":=⟨_,hz,rfl⟩
  have hend:xs[(lZ la lb).length]?=none ∨ ys[(lZ la lb).length]?=none:=by
   rw [gS]
   rcases Nat.le_total la.length lb.length with q | q
   ·exact .inl (Array.getElem?_eq_none (by rw [e1,Nat.min_eq_left q]; exact zAy _))
   ·exact .inr (Array.getElem?_eq_none (by rw [e2,Nat.min_eq_right q]; exact zAy _))
  unfold pyNext
  refine zAa (wpAny_attempt (wpAny_callSpecial?_slot (name:=Str.ofString "__next__") hT F.slot_zip_next
   (zDn F.slot_zip_next hT F.entry_zip_next (zipS_end D N1 N2 hz hTI hTO h1 h2 hend fun h' e hk he=>?_) (F.args_zip_next_1 _))))
  obtain ⟨o,ho,hc⟩:=he
  refine zAa (wpAny_isInstance (T:="StopIteration") (b:=true) ⟨o,ho,hc⟩ isSubtype_stop ?_)
  exact zAk (hQ _ s.toks fun c o hc e=>hk c o (fun q=>hc (q ▸ .head _)) (fun q=>hc (q ▸ .tail _ (.tail _ (.head _)))) (fun q=>hc (q ▸ .tail _ (.tail _ (.tail _ (.head _))))) (fun q=>hc (q ▸ .tail _ (.tail _ (.tail _ (.tail _ (.head _)))))) e)
 ·intro b hb hn
  simp only [zAl,zBr,or_false] at hb hn
  rcases hb with rfl | rfl | rfl | rfl | rfl | rfl | rfl <;> first | (simp at hn; done) | assumption
 ·rintro i h ⟨q1,q2,⟨a,b,q3⟩,⟨⟨o1,q4,q4',_⟩,_⟩,⟨o2,q5,q5',_⟩,_⟩ b hb
  have pi:∀ {c:Bool} {o:Obj},o.cls=.type (itN c)->Pln o:=fun {c o} h=>by cases c <;> exact gz h (by decide)
  simp only [zAl,zBr,or_false] at hb
  rcases hb with rfl | rfl | rfl | rfl | rfl
  ·exact ⟨_,q1,gz rfl (by decide)⟩
  ·exact ⟨_,q2,eP⟩
  ·exact ⟨_,q3,eP⟩
  ·exact ⟨_,q4,pi q4'⟩
  ·exact ⟨_,q5,pi q5'⟩
theorem ox {C:Cx} {a:AV} {v:Value} {la:List AV} (r:VRep C W a v) (h:ew a=some la):∃ c ad xs,v=.ref ad/\SqAt c W.h ad xs/\(∃ o,W.h.get? ad=some o/\W.free ad/\Pln o)/\VReps C W la xs.toList:=by
 cases a <;> first | (exact aD h; done) | skip <;> cases h <;> obtain ⟨ad,rfl,hf,vs,n,hg,_,hv⟩:=r
 ·exact ⟨true,ad,vs,rfl,⟨_,hg,rfl,n,rfl⟩,⟨_,hg,hf,eP⟩,hv⟩
 ·exact ⟨false,ad,vs,rfl,⟨_,hg,rfl,n,rfl⟩,⟨_,hg,hf,eL⟩,hv⟩
theorem lt_ne {l m k:Nat} (h:l < m):l ≠ m+k:=zBk (zBl h (zBc m k))
theorem add_ne {m i j:Nat} (h:i ≠ j):m+i ≠ m+j:=fun q=>h (Nat.add_left_cancel q)
theorem zipApart_of {m l1 l2:Nat} (h1:l1 < m) (h2:l2 < m):ZipApart (m+4) (m+2) (m+3) m (m+1) l1 l2:=by
 constructor <;> first | exact lt_ne h1 | exact lt_ne h2 | exact zBk h1 | exact zBk h2 | exact add_ne (by decide) | exact add_ne (i:=0) (by decide) | exact add_ne (j:=0) (by decide)
theorem fresh_ge (x:Ext (fun _=>False) W₀ W) {b:Addr} (h:W.h.objs.size<=b):W₀.h.get? b=none/\W.h.get? b=none:=by
 have h0:W.h.get? b=none:=zDi h
 refine ⟨?_,h0⟩
 cases e:W₀.h.get? b with
 | none=>rfl
 | some o=>exact (x.dom e).elim fun _ q=>(aH q h0).elim
theorem wp_zip (F:X.Ok) (hq:X.T.free=true):SndC X .zip (.type "zip"):=fun S W₀ W vs args x I r=>by
 refine Snd.opt fun q hq'=>?_
 match vs,hq',r with
 | [a,b],hq',r =>
 obtain ⟨v,_,rfl,ra,v',_,rfl,rb,rfl⟩:=r
 obtain ⟨la,ha,h1⟩:=zAg.mp hq'
 obtain ⟨lb,hb,rfl⟩:=zAo.mp h1
 obtain ⟨c,l1,xs,rfl,hs1,hg1,hv1⟩:=ox ra ha
 obtain ⟨d,l2,ys,rfl,hs2,hg2,hv2⟩:=ox rb hb
 refine call_zipS hs1 hs2 fun h' hst hk=>?_
 have lt1:l1 < W.h.objs.size:=hs1.elim fun _ q=>zA5 q.1
 have lt2:l2 < W.h.objs.size:=hs2.elim fun _ q=>zA5 q.1
 have D:=zipApart_of lt1 lt2
 have It:=nI (C:=X.C) (A:=X.A) (h0:=W₀.h) (c:=c) (d:=d) (F.hd hq) D hv1 hv2 (fun b hb=>by
  have:=fresh_ge (ext0 x) (b:=b) (by
   simp only [zAl,zBr,or_false] at hb
   rcases hb with rfl | rfl | rfl | rfl | rfl <;> first | exact zAy _ | exact zBc _ _)
  exact ⟨this.1,.inr this.2⟩) hg1 hg2
 have G:=I.hold (ev:=true) (tk:=W.s.toks) (wr:=[W.h.objs.size+4,W.h.objs.size+2,W.h.objs.size+3,W.h.objs.size,W.h.objs.size+1]) hk fun b hb=>⟨(It.wrs b hb).2,(It.ex 0 h' hst b hb).imp fun _ q=>q.1⟩
 refine .mk (W':=W.hold h' W.s.toks [W.h.objs.size+4,W.h.objs.size+2,W.h.objs.size+3,W.h.objs.size,W.h.objs.size+1]) rfl G ⟨true,lZ la lb,rfl,fun Q E hQ=>?_⟩
 have It':=nI (C:=X.C) (A:=X.A) (h0:=W₀.h) (c:=c) (d:=d) (W:=W.hold h' W.s.toks [W.h.objs.size+4,W.h.objs.size+2,W.h.objs.size+3,W.h.objs.size,W.h.objs.size+1]) (F.hd hq) D (hv1.le G.ext) (hv2.le G.ext) (fun b hb=>⟨(It.wrs b hb).1,.inl (.inr hb)⟩) (hg1.imp fun _ q=>⟨hk _ _ q.1,G.ext.free q.1 q.2.1,q.2.2⟩) (hg2.imp fun _ q=>⟨hk _ _ q.1,G.ext.free q.1 q.2.1,q.2.2⟩)
 exact wpAny_pyIter_zip hst.1 (hQ _ _ _ _ _ h' W.s.toks It' .refl hst)
theorem IterS.ofT {C:Cx} {A:Around} {h0:Heap} {I:Addr} {fp wr:List Addr} {l:List AV} {Pt:Nat->Array Value->Prop} {St:Nat->Heap->Prop} {Mid:Nat->Addr->Heap->Prop} (Wk:WalksT C.prog C.w A I fp wr l.length Pt St Mid)
  (hP:∀ i vals,Pt i vals->i < l.length->∃ as,l[i]?=some (.tup as)/\VReps C W as vals.toList) (hwr:∀ b ∈ wr,h0.get? b=none/\(W.tmp b ∨ W.h.get? b=none)) (hfp:∀ b ∈ fp,b ∉ wr->∃ o,W.h.get? b=some o/\W.free b/\Pln o)
  (hex:∀ i h,St i h->∀ b ∈ wr,∃ o,h.get? b=some o/\Pln o):IterS C A h0 W true I fp wr l St fun i v h'=>∃ T vals,v=.ref T/\Pt i vals/\h'.IsTuple T vals/\Mid i T h':=by
 refine ⟨Wk.frame,fun i s Q E hi st hQ=>?_,fun t i v s Q E ht _ hi hm hQ=>?_,Wk.done,Wk.self,hwr,nofun,nofun,hfp,hex⟩
 ·exact Wk.item i s Q E hi st fun T vals h' tk h1 _ h3 h4 hk=>hQ _ h' tk ⟨T,vals,rfl,h1,h3,h4⟩ hk
 ·obtain ⟨ts,k,p,rfl⟩:=gO (ht rfl)
  obtain ⟨T,vals,rfl,h1,h2,h3⟩:=hm
  obtain ⟨as,ha,hr⟩:=hP i vals h1 hi
  exact Wk.go ts k p i T s Q E h3 fun h' st' hk=>hQ h' _ ha (.tup (h2.at fun o e=>hk T o (Wk.apart i T _ h3) e) hr) nofun st' hk
theorem wp_enum (F:X.Ok) (hq:X.T.free=true):SndC X .enum (.type "enumerate"):=fun S W₀ W vs args x I r=>by
 refine Snd.opt fun q hq'=>?_
 match vs,hq',r with
 | [a],hq',r =>
 obtain ⟨v,_,rfl,ra,rfl⟩:=r
 obtain ⟨l,hi,rfl⟩:=zAo.mp hq'
 have hh:=F.hd hq
 have key:∀ {ad:Addr} {o:Obj} {vs:Array Value} {h':Heap} {St:Nat->Heap->Prop},Draws X.C.prog X.C.w X.A.in1 W.h.objs.size [W.h.objs.size,ad] vs.size (fun i v=>vs[i]?=some v) St->(∀ i h,St i h->∃ o,h.get? W.h.objs.size=some o/\Pln o)->W.h.get? ad=some o->W.free ad->Pln o->VReps X.C W l vs.toList ->
   IsEnum h' (W.h.objs.size+1) W.h.objs.size 0 .none->St 0 h'->Ge W.h h'->OkP X true (RIv X W₀.h) W (.ok (.tup (fj 0 l)) S) (.ref (W.h.objs.size+1)) { W.s with heap:=h' }:=fun {ad o vs h' St} D hpl hg hf hp hv he hst hk=>by
  have hlt:ad < W.h.objs.size:=zA5 hg
  have hlen:vs.size=(fj 0 l).length:=by rw [fH]; exact hv.size
  have Wk:=WalksT.enumerateD D (W.h.objs.size+1) (Nat.succ_ne_self _) (fun q=>by
   rcases zAl.mp q with q | q
   ·exact Nat.succ_ne_self _ q
   ·exact zCh (zBi hlt) (zAi.mp q)) zAb
  rw [hlen] at Wk
  have ex:∀ (i:Nat) (h:Heap),((∃ old,IsEnum h (W.h.objs.size+1) W.h.objs.size i old)/\St i h)->∀ b ∈ [W.h.objs.size+1,W.h.objs.size],∃ o,h.get? b=some o/\Pln o:=fun i h st b hb=>by
   rcases zAl.mp hb with rfl | hb
   ·exact st.1.elim fun _ q=>⟨_,q,gz rfl (by decide)⟩
   ·rw [zAi.mp hb]; exact hpl _ _ st.2
  have fr:∀ b ∈ [W.h.objs.size+1,W.h.objs.size],W₀.h.get? b=none/\W.h.get? b=none:=fun b hb=>fresh_ge (ext0 x) (by
   rcases zAl.mp hb with rfl | hb
   ·exact zDd _
   ·rw [zAi.mp hb]; exact zAy _)
  have G:=I.hold (ev:=true) (tk:=W.s.toks) (wr:=[W.h.objs.size+1,W.h.objs.size]) hk fun b hb=>⟨.inr (fr b hb).2,(ex 0 h' ⟨⟨_,he⟩,hst⟩ b hb).imp fun _ q=>q.1⟩
  refine .mk (W':=W.hold h' W.s.toks [W.h.objs.size+1,W.h.objs.size]) rfl G ⟨true,fj 0 l,rfl,fun Q E hQ=>?_⟩
  refine Wk.self 0 _ Q E ⟨⟨_,he⟩,hst⟩ (hQ _ _ _ _ _ h' W.s.toks (.ofT Wk (fun i vals hp hi=>?_) (fun b hb=>⟨(fr b hb).1,.inl (.inr hb)⟩) (fun b hb hn=>?_) ex) .refl ⟨⟨_,he⟩,hst⟩)
  ·obtain ⟨t,x,hx,rfl⟩:=hp
   rw [fH] at hi
   have ha:=zAw hi
   obtain ⟨x',q1,q2⟩:=hv.get ha
   rw [zB4,hx] at q1; cases q1
   exact ⟨_,nY ha,VReps.cons ⟨t,by rw [Int.zero_add]⟩ (VReps.cons (q2.le G.ext) .nil)⟩
  ·rcases zAl.mp hb with rfl | hb
   ·exact absurd zAb hn
   ·rcases zAl.mp hb with rfl | hb
    ·exact absurd (zAe _ zAb) hn
    ·exact zAi.mp hb ▸ ⟨o,hk _ _ hg,G.ext.free hg hf,hp⟩
 cases a <;> first | (exact aD hi; done) | skip <;> obtain rfl:=Option.some.inj hi <;> obtain ⟨ad,rfl,hf,vs,m,hg,hsz,hv⟩:=ra
 ·have hI:W.h.IsTuple ad vs:=⟨_,hg,rfl,m,rfl⟩
  exact mM hI fun h' he hit hk=>key (draws_tuple (A:=X.A.in1) hh _ ad (zBk (zA5 hg)) vs) (fun i h q=>q.1.imp fun _ z=>⟨z.1,gz z.2.1 (by decide)⟩) hg hf eP hv he ⟨hit,hI.at fun o e=>hk _ o e⟩ hk
 ·have hI:W.h.IsList ad vs:=⟨_,hg,rfl,m,rfl⟩
  exact call_enumerate_list hI fun h' he hit _ hk=>key (Draws.list (A:=X.A.in1) hh _ ad (zBk (zA5 hg)) vs) (fun i h q=>q.1.imp fun _ z=>⟨z.1,gz z.2.1 (by decide)⟩) hg hf eL hv he ⟨hit,hI.at fun o e=>hk _ o e⟩ hk
end
section
variable {prog:Program} {w:World} {A:Around} {R:Result->Shared->Prop} {s:Shared}
theorem gH {elt iter:Expr} {ifs:List Expr} {x:Str} {p:Pos} {scope:Scope} {pos:Pos} {it acc:Value} {env:Env} (I:Nat->Shared->Prop)
  (turn:∀ n s,I n s->wpAny (model prog w) A (pyNext it) (fun r s₁=>match r with
   | none=>R (.ok .next) s₁
   | some v=>wpAny (model prog w) A (assign (.Name x p) env v) (fun _ s₂ =>
     wpAny (model prog w) A (forIn ifs true fun c r=>if r=true then do let ok ← isTrue c env (eval c env); pure (ForInStep.yield ok) else pure (ForInStep.yield r)) (fun ok sA =>
      if ok=true then wpAny (model prog w) A (eval elt env) (fun x s₄ =>
       wpAny (model prog w) A (call (.builtin "list.append") [acc,x]) (fun _ s₅=>∃ m,m < n/\I m s₅) (notedBy (model prog w) A env fun e s'=>R (.error e) s') s₄) (notedBy (model prog w) A env fun e s'=>R (.error e) s') sA
      else ∃ m,m < n/\I m sA) (notedBy (model prog w) A env fun e s'=>R (.error e) s') s₂) (notedBy (model prog w) A env fun e s'=>R (.error e) s') s₁) (notedBy (model prog w) A env fun e s'=>R (.error e) s') s)
  (n:Nat) (h:I n s):codeAny (model prog w) A (.compLoop (.ListComp elt [⟨.Name x p,iter,ifs,0⟩] scope pos) 0 it acc env) R s:=by
 refine codeAny_loop rfl I (fun n s hI=>?_) n h
 show wpAny _ A ((compTurn (.ListComp elt [⟨.Name x p,iter,ifs,0⟩] scope pos) 0 it acc env).onRaise (fun x=>do noteFrame x env; theTreesLotGoes x)) _ _ s
 refine wpAny_noted ?_
 rw [compTurn_list]
 refine zAa (zCl (zAa (zAv (turn n s hI) (fun r s₁ h₁=>?_) fun _ _ h'=>h')))
 cases r with
 | none=>exact zAk h₁
 | some v =>
  refine zAa (zAk (zAa (zAv h₁ (fun _ s₂ h₂=>zAa (zAv h₂ (fun ok sA h₃=>?_) fun _ _ h'=>h')) fun _ _ h'=>h')))
  cases ok with
  | false=>exact zAk ⟨rfl,h₃⟩
  | true=>exact zAa (zAa (zAv h₃ (fun x s₄ h₄=>zAa (zAv h₄ (fun _ s₅ h₅=>zAk (zAk ⟨rfl,h₅⟩)) fun _ _ h'=>h')) fun _ _ h'=>h'))
end
theorem ir {env:Env} (names₀:List (Str × NameKind)):∀ (names:List (Str × NameKind)) (acc:List (Str × Addr)),(∀ p ∈ names,p.2=.free->∃ c,env.cells.lookup p.1=some c) ->
  ∃ cl,(forIn names acc fun (x:Str × NameKind) (cs:List (Str × Addr))=>(match x with | (name,kind)=>if (kind == NameKind.free)=true then do let a ← cellOf env name; Pure.pure (ForInStep.yield ((name,a)::cs)) else Pure.pure (ForInStep.yield cs):Sem (ForInStep (List (Str × Addr)))))=Pure.pure cl /\
   (∀ x c,(x,c) ∈ cl->(x,c) ∈ acc ∨ (env.cells.lookup x=some c/\(x,NameKind.free) ∈ names))/\(∀ p ∈ names,p.2=.free->∃ c,(p.1,c) ∈ cl)/\∀ q ∈ acc,q ∈ cl
 | [],acc,_=>⟨acc,rfl,fun _ _ h=>.inl h,fun _ h=>(nomatch h),fun _ h=>h⟩
 | (x,k)::r,acc,h=>by
  by_cases hk:(k == NameKind.free)=true
  ·have hk':k=.free:=by simpa using hk
   obtain ⟨c,hc⟩:=h (x,k) zAb hk'
   obtain ⟨cl,h1,h2,h3,h4⟩:=ir names₀ r ((x,c)::acc) fun p hp=>h p (zAe _ hp)
   refine ⟨cl,?_,fun y d hy=>?_,fun p hp hf=>?_,fun q hq=>h4 q (zAe _ hq)⟩
   ·rw [List.forIn_cons]
    simp only [hk,if_true,cellOf,hc]
    exact h1
   ·rcases h2 y d hy with q | ⟨q1,q2⟩
    ·rcases zAl.mp q with z | z
     ·cases z; exact .inr ⟨hc,by rw [hk']; exact zAb⟩
     ·exact .inl z
    ·exact .inr ⟨q1,zAe _ q2⟩
   ·rcases zAl.mp hp with z | z
    ·subst z; exact ⟨c,h4 _ zAb⟩
    ·exact h3 p z hf
  ·obtain ⟨cl,h1,h2,h3,h4⟩:=ir names₀ r acc fun p hp=>h p (zAe _ hp)
   refine ⟨cl,?_,fun y d hy=>?_,fun p hp hf=>?_,h4⟩
   ·rw [List.forIn_cons]
    simp only [hk]
    exact h1
   ·exact (h2 y d hy).imp id fun q=>⟨q.1,zAe _ q.2⟩
   ·rcases zAl.mp hp with z | z
    ·subst z; exact absurd (by simpa using hf) hk
    ·exact h3 p z hf
theorem ic {α:Type}:∀ {l:List (Str × α)} {x:Str} {c:α},(x,c) ∈ l->(∀ d,(x,d) ∈ l->d=c)->l.lookup x=some c
 | [],_,_,h,_=>nomatch h
 | (y,d)::r,x,c,h,hd=>by
  rw [zBh]
  cases hq:x == y with
  | true =>
   have:x=y:=by simpa using hq
   subst this
   rw [hd d zAb]
  | false =>
   refine ic ?_ fun e he=>hd e (zAe _ he)
   rcases zAl.mp h with z | z
   ·cases z; simp at hq
   ·exact z
theorem oB {scope:Scope} {env:Env} (h:∀ p ∈ scope.names,p.2=.free->∃ c,env.cells.lookup p.1=some c) :
  ∃ cl,closureFor scope env=Pure.pure cl/\(∀ x c,cl.lookup x=some c->env.cells.lookup x=some c/\(x,NameKind.free) ∈ scope.names)/\∀ x,(x,NameKind.free) ∈ scope.names->∃ c,cl.lookup x=some c:=by
 obtain ⟨cl,h1,h2,h3,_⟩:=ir scope.names scope.names [] h
 refine ⟨cl,?_,fun x c hx=>?_,fun x hx=>?_⟩
 ·exact congrArg (fun m:Sem (List (Str × Addr))=>m >>= fun cs=>Pure.pure cs) h1
 ·rcases h2 x c (mem_of_lookup hx) with q | q
  ·cases q
  ·exact q
 ·obtain ⟨c,hc⟩:=h3 _ hx rfl
  obtain ⟨c',hc'⟩:=h _ hx rfl
  refine ⟨c,ic hc fun d hd=>?_⟩
  have e1:=h2 x d hd
  have e2:=h2 x c hc
  rcases e1 with z | ⟨z,_⟩
  ·cases z
  ·rcases e2 with y | ⟨y,_⟩
   ·cases y
   ·rw [z] at y; cases y; rfl
noncomputable abbrev nU (env:Env) (p:Str × NameKind):Str × NameKind:=match p with | (n,k)=>if (k == NameKind.free && env.scope.kind == .function && env.kindOf n == some .cell) then (n,NameKind.cell) else (n,k)
theorem relab_fst {env:Env} {m:Str} {k:NameKind}:∃ k',nU env (m,k)=(m,k')/\(k'=k ∨ (k=.free/\k'=.cell)):=by
 show ∃ k',(if (k == NameKind.free && env.scope.kind == .function && env.kindOf m == some .cell)=true then (m,NameKind.cell) else (m,k))=_/\_
 by_cases h:(k == NameKind.free && env.scope.kind == .function && env.kindOf m == some .cell)=true
 ·rw [if_pos h]
  have:=(zAn.mp (zAn.mp h).1).1
  exact ⟨_,rfl,.inr ⟨eq_of_beq this,rfl⟩⟩
 ·rw [if_neg h]; exact ⟨_,rfl,.inl rfl⟩
theorem lC {env:Env}:∀ {names:List (Str × NameKind)} {x:Str} {k:NameKind},names.lookup x=some k->(names.map (nU env)).lookup x=some k ∨ (k=.free/\(names.map (nU env)).lookup x=some .cell)
 | [],_,_,h=>nomatch h
 | (m,k)::r,x,k₀,h=>by
  obtain ⟨k',e,hk⟩:=relab_fst (env:=env) (m:=m) (k:=k)
  rw [zA4,e,zBh]
  rw [zBh] at h
  cases hx:x == m with
  | true =>
   rw [hx] at h
   obtain rfl:=Option.some.inj h
   exact hk.imp (fun q=>by rw [q]) fun q=>⟨q.1,by rw [q.2]⟩
  | false=>rw [hx] at h; exact lC h
theorem jh {env:Env} {names:List (Str × NameKind)} {x:Str} (h:names.lookup x=some .free):(names.map (nU env)).lookup x=some .cell ∨ (names.map (nU env)).lookup x=some .free :=
 (lC h).symm.imp (·.2) id
theorem o7 {env:Env} {names:List (Str × NameKind)} {x:Str} (h:names.lookup x=some .globalImplicit):(names.map (nU env)).lookup x=some .globalImplicit :=
 (lC h).elim id fun q=>nomatch q.1
theorem oS {k:Option NameKind} (h:oH k=true):k=some .local:=by
 cases k with
 | none=>exact ff h
 | some k=>cases k <;> first | rfl | exact ff h
theorem pM {k:Option NameKind} (h:isFreeK k=true):k=some .free:=by
 cases k with
 | none=>exact ff h
 | some k=>cases k <;> first | rfl | exact ff h
theorem pN {k:Option NameKind} (h:isCellK k=true):k=some .cell ∨ k=some .free:=by
 cases k with
 | none=>exact ff h
 | some k=>cases k <;> first | exact .inl rfl | exact .inr rfl | exact ff h
theorem mh {sc sc':List (Str × NameKind)} (h:scOk sc sc'=true):(∀ p ∈ sc',p.2 ≠ .cell)/\(∀ p ∈ sc',p.2=.local->sc'.lookup p.1=some .local)/\(∀ p ∈ sc',p.2=.free->(sc.lookup p.1=some .cell ∨ sc.lookup p.1=some .free)/\sc'.lookup p.1=some .free):=by
 have key:=fun p hp=>zBb.mp h p hp
 refine ⟨fun p hp q=>?_,fun p hp q=>?_,fun p hp q=>?_⟩
 ·have:=key p hp; rw [q] at this; exact ff this
 ·have:=key p hp; rw [q] at this; rw [← bJ]; exact oS this
 ·have:=key p hp; rw [q] at this
  obtain ⟨h1,h2⟩:=zAn.mp this
  rw [← bJ,← bJ]
  exact ⟨pN h1,pM h2⟩
noncomputable def preO (done:List AV):Out (List AV)->Out (List AV)
 | .ok vs s=>.ok (done++vs) s
 | o=>o
theorem preO_cons {done:List AV} {v:AV} {o:Out (List AV)}:preO done (consO v o)=preO (done++[v]) o:=by
 cases o <;> first | rfl | exact congrArg (fun x=>Out.ok x _) (List.append_cons ..)
noncomputable def Fx.comp (X:Fx) (scope:Scope) (cl:List (Str × Addr)) (D:Addr):Fx:=⟨X.C,X.T,X.A,compEnvC scope cl D X.env,X.frs,false,scope.names,X.n⟩
section
variable {X:Fx} {W W' B:Wd} {S:S}
theorem Fx.Ok.comp (F:X.Ok) {scope:Scope} {cl:List (Str × Addr)} {D:Addr} (hk:scope.kind=.function) (hok:scOk X.nms scope.names=true) (hcl:∀ x c,cl.lookup x=some c->X.env.cells.lookup x=some c/\(x,NameKind.free) ∈ scope.names) (hclx:∀ x,(x,NameKind.free) ∈ scope.names->∃ c,cl.lookup x=some c) (hD:∀ x c,cl.lookup x=some c->c ≠ D):(X.comp scope cl D).Ok where
 cx:=F.cx
 P:=F.P
 call:=F.call
 make:=F.make
 hd:=F.hd
 frames:=F.frames
 kind:=hk
 loc:=fun x h=>lookup_relabel_local h
 cel:=fun x h=>by
  obtain ⟨h1,h2,h3⟩:=mh hok
  rcases h with h | h
  ·exact absurd rfl (h1 _ (mem_of_lookup h))
  ·exact ⟨jh h,hclx x (mem_of_lookup h)⟩
 glob:=fun x h=>o7 h
 fcell:=fun h=>nomatch h
 inj:=fun x y c h1 h2=>F.inj x y c (hcl x c h1).1 (hcl y c h2).1
 cl:=hD
 room:=F.room
 globals:=F.globals
 builtins:=F.builtins
 frm:=F.frm
noncomputable def CapOk (X:Fx) (W:Wd) (cap:bp):Prop:=∀ x lv,fG X.nms x=true->al (aJ x X.nms) cap=some lv->∃ c v a,(X.env.kindOf x=some .cell ∨ X.env.kindOf x=some .free)/\X.env.cells.lookup x=some c/\W.h.IsCell c (some v)/\lv=.val a/\VRep X.C W a v
theorem CapOk.next {cap:bp} (h:CapOk X W cap) (g:Grow W W') (k:∀ x c,X.env.cells.lookup x=some c->d6 W W'.h c):CapOk X W' cap:=fun x lv hn e=>by
 obtain ⟨c,v,a,h1,h2,h3,h4,h5⟩:=h x lv hn e
 exact ⟨c,v,a,h1,h2,IsCell.same h3 (k x c h2),h4,h5.mono g⟩
theorem CapOk.inv {cap:bp} (h:CapOk X W cap) (I:Inv X S W):Inv X ⟨cap,S.st⟩ W:=⟨I.c,I.f.lc,I.f.ns,I.f.cells,fun x lv hn e=>by
 obtain ⟨c,v,a,h1,h2,h3,rfl,h5⟩:=h x lv hn e
 exact ⟨v,.cell h1 h2 h3,h5⟩⟩
structure CompAt (X:Fx) (B Wi:Wd) (cap:bp) (a:Addr) (wr:List Addr) (St:Nat->Heap->Prop) (i:Nat) (S:Mine.S) (W:Wd) (done:List AV) (ys:Array Value):Prop where
 good:Good X false B S W
 grow:Grow Wi W
 held:∀ b ∈ a::wr,W.tmp b
 st:St i W.h
 lst:W.h.PlainList a ys
 sz:ys.size<=i
 reps:VReps X.C W done ys.toList
 cap:CapOk X W cap
inductive CmP (X:Fx) (B:Wd) (a:Addr) (o:Out (List AV)):Result->Shared->Prop
 | ok {vs:List AV} {S S':Mine.S} {W:Wd} {ys:Array Value} (e:o=.ok vs S') (es:S.st=S'.st) (g:Good X false B S W) (h:W.tmp a) (l:W.h.PlainList a ys) (sz:ys.size<=lim) (r:VReps X.C W vs ys.toList):CmP X B a o (.ok .next) W.s
 | exc {c:Str} {S S':Mine.S} {W:Wd} {v:Value} (e:o=.exc c S') (es:S.st=S'.st) (g:Good X false B S W) (t:IsTraced X.A.handled.isNone X.C W c v):CmP X B a o (.error v) W.s
theorem cells_same (h:X.fn=false) (F:X.Ok) (I:InvF X S.loc W) (x:EX X false W W'):∀ y c,X.env.cells.lookup y=some c->d6 W W'.h c:=fun y c e o he=>x.fc he (I.cells y c e).1 fun q=>q.2.elim (F.cl _ _ e) fun z=>by rw [h] at z; exact ff z.1
noncomputable def TstOk (X:Fx):List Expr->Option (D AV)->Prop
 | [],none=>True
 | [e],some d=>SndT X e d
 | _,_=>False
theorem snd_tests {ifs:List Expr} {tst:Option (D AV)} (h:TstOk X ifs tst) (I:Inv X S W) :
  Snd X true RB (forIn ifs true fun c r=>if r=true then do let ok ← isTrue c X.env (eval c X.env); Pure.pure (ForInStep.yield ok) else Pure.pure (ForInStep.yield r)) (lf tst S) W:=by
 match ifs,tst,h with
 | [],none,_=>exact Snd.wp (m:=Pure.pure true) (.pure I rfl) fun Q E q=>q
 | [e],some d,h=>exact (h S W I).wp fun Q E q=>wpAny_tests_one q
inductive CmpI (X:Fx) (B Wi:Wd) (cap:bp) (a:Addr) (wr:List Addr) (St:Nat->Heap->Prop) (go:List AV->Mine.St->Out (List AV)) (l:List AV) (o:Out (List AV)):Nat->Shared->Prop
 | mk {i:Nat} {W':Wd} {S':Mine.S} {done:List AV} {ys:Array Value} (hi:i<=l.length) (L:CompAt X B Wi cap a wr St i S' W' done ys) (h:preO done (go (l.drop i) S'.st)=o):CmpI X B Wi cap a wr St go l o (l.length+1 - i) W'.s
theorem pB (F:X.Ok) (hfn:X.fn=false) {x:Str} {p:Pos} {elt iter:Expr} {ifs:List Expr} {scope:Scope} {pos:Pos} {tst:Option (D AV)} {delt:D AV} {l:List AV} {I a:Addr} {fp wr:List Addr} {St:Nat->Heap->Prop} {Mid:Nat->Value->Heap->Prop} {cap:bp} {h0:Heap} {WA Wi:Wd}
  (hst:StOk X x) (htst:TstOk X ifs tst) (helt:SndE X elt delt) (It:IterS X.C X.A h0 WA false I fp wr l St Mid) (hB:∀ b ∈ a::wr,B.h.get? b=none) (ha:a ∉ wr) (haf:a ∉ fp) (g₁:Grow WA Wi) (C0:CompAt X B Wi cap a wr St 0 S Wi [] #[]) (hlen:l.length<=lim)
  (hne:cO (aJ x X.nms) tst delt cap l S.st ≠ .stuck) {R:Result->Shared->Prop} (hR:∀ r s',CmP X B a (cO (aJ x X.nms) tst delt cap l S.st) r s'->R r s') :
  codeAny X.C.M X.A (.compLoop (.ListComp elt [⟨.Name x p,iter,ifs,0⟩] scope pos) 0 (.ref I) (.ref a) X.env) R Wi.s:=by
 refine gH (CmpI X B Wi cap a wr St (cO (aJ x X.nms) tst delt cap) l (cO (aJ x X.nms) tst delt cap l S.st)) ?_ (l.length+1)
  (.mk (i:=0) (done:=[]) (zA7 _) C0 (by rw [List.drop_zero]; cases cO (aJ x X.nms) tst delt cap l S.st <;> rfl))
 generalize cO (aJ x X.nms) tst delt cap l S.st=o at hne hR
 rintro m _ (@⟨i,W',S₁,done,ys,hi,L,hgo⟩)
 have hwr:∀ b ∈ wr,B.h.get? b=none/\W'.tmp b:=fun b q=>⟨hB b (zAe _ q),L.held b (zAe _ q)⟩
 by_cases hlt:i < l.length
 ·refine It.item i W'.s _ _ hlt L.st fun v h₁ tkA hMid hkA=>?_
  obtain ⟨hSt',a',ha',hr'⟩:=It.mid rfl i v h₁ hlt hMid
  have hdrop:l.drop i=a'::l.drop (i+1):=by
   rw [← (zAz.mp ha').2]; exact zCk hlt
  rw [hdrop] at hgo
  have exA:=It.ex (i+1) h₁ hSt'
  obtain ⟨GB,grA⟩:=L.good.turn (tk:=tkA) hwr (It.ex i _ L.st) (fun b q=>(exA b q).imp fun _ z=>z.1) hkA
  have capA:CapOk X (W'.to h₁ tkA) cap:=L.cap.next grA fun y c e o he=>⟨o,hkA c o (fun q=>(L.good.inv.c.fl c (L.good.inv.f.cells y c e).1).2.1 (hwr c q).2) he,rfl⟩
  have IB:=capA.inv GB.inv
  refine zAv (gx (p:=p) F IB hst ((hr'.mono (g₁.trans L.grow)).mono grA) nofun) (fun _ sA q=>?_) fun e sA q=>by cases q with | mk e _ _=>exact eN Out.ctorIdx e rfl
  cases q with
  | @mk u Sa WC e₃ GC _ =>
  cases e₃
  have ho:∀ b ∈ a::wr,(W'.to h₁ tkA).oth b/\¬ W'.fr b:=fun b q=>⟨⟨GB.inv.c.tl b (L.held b q),fun k z=>(GB.inv.c.ol k b z).2 (L.held b q)⟩,fun z=>(GB.inv.c.fl b z).2.1 (L.held b q)⟩
  have ob:∀ b ∈ a::wr,∃ o,h₁.get? b=some o/\Pln o:=fun b q=>(zAl.mp q).elim (fun z=>z ▸ L.lst.elim fun n e=>⟨_,hkA a _ ha e,eL⟩) (exA b)
  have next:∀ {S₅ W₅},Good X true WC S₅ W₅->Good X false B S₅ W₅/\Grow (W'.to h₁ tkA) W₅/\(∀ b ∈ a::wr,W₅.tmp b)/\St (i+1) W₅.h/\W₅.h.PlainList a ys/\CapOk X W₅ cap:=fun {S₅ W₅} G₅=>by
   have G₅A:Good X false (W'.to h₁ tkA) S₅ W₅:=GC.trans G₅.weak
   have keep:∀ b ∈ a::wr,∀ o,h₁.get? b=some o->W₅.h.get? b=some o:=fun b q o e=>(ob b q).elim fun o' z=>by
    rw [Option.some.inj (e.symm.trans z.1)]; exact G₅A.ext.keep z.1 (ho b q).1 (ho b q).2 z.2
   refine ⟨⟨GB.ext.trans G₅A.ext,G₅A.inv⟩,G₅A.ext.grow,fun b q=>(ob b q).elim fun o z=>(G₅A.ext.tmp z.1 (ho b q).1).mpr (L.held b q),It.frame (i+1) h₁ W₅.h hSt' fun b hb o e=>?_,(L.lst.at fun o e=>hkA a o ha e).at fun o e=>keep a zAb o e,capA.next G₅A.ext.grow (cells_same hfn F IB.f G₅A.ext)⟩
   by_cases hbw:b ∈ wr
   ·exact keep b (zAe _ hbw) o e
   ·obtain ⟨o',z1,z2,z3⟩:=It.fps b hb hbw
    have gW:=(g₁.trans L.grow).trans grA
    rw [Option.some.inj (e.symm.trans (gW.kp z1 z2 z3))]
    exact (gW.trans G₅A.ext.grow).kp z1 z2 z3
  have hgo:preO done (ax (lf tst ⟨ai (aJ x X.nms) (.val a') cap,S₁.st⟩) fun b=>if b then aE delt (fun v=>fun s=>consO v (cO (aJ x X.nms) tst delt cap (l.drop (i+1)) s.st)) else fun s=>cO (aJ x X.nms) tst delt cap (l.drop (i+1)) s.st)=o:=hgo
  have hnt:lf tst ⟨ai (aJ x X.nms) (.val a') cap,S₁.st⟩ ≠ .stuck:=fun q=>hne (by rw [← hgo,q]; rfl)
  refine zAv (snd_tests htst GC.inv hnt) (fun ok s₅ q=>?_) fun e s₆ q=>?_
  case' refine_2 =>
   cases q with
   | @mk c S₆ W₆ e₆ G₆ t₆ =>
   rw [e₆] at hgo
   have Gn:=(next G₆).1
   exact dB F (.refl G₆.inv) t₆ fun W'' G'' t''=>hR _ _ (.exc (S:=S₆) (S':=S₆) hgo.symm rfl (Gn.trans G''.weak) t'')
  cases q with
  | @mk bt S₅ W₅ e₅ G₅ r₅ =>
  obtain rfl:bt=ok:=r₅
  rw [e₅] at hgo
  cases bt with
  | false =>
   rw [if_neg zAq]
   obtain ⟨Gn,grn,hh,hS,hys,hcap⟩:=next G₅
   exact ⟨_,Nat.sub_lt_sub_left (zBi hlt) (zCe _),.mk hlt ⟨Gn,(L.grow.trans grA).trans grn,hh,hS,hys,Nat.le_succ_of_le L.sz,(L.reps.mono grA).mono grn,hcap⟩ hgo⟩
  | true =>
  rw [if_pos rfl]
  have hgo:preO done (ax (delt S₅) fun v s=>consO v (cO (aJ x X.nms) tst delt cap (l.drop (i+1)) s.st))=o:=hgo
  have hnd:delt S₅ ≠ .stuck:=fun q=>hne (by rw [← hgo,q]; rfl)
  refine zAv (helt _ W₅ G₅.inv hnd) (fun v s₆ q=>?_) fun e s₆ q=>?_
  ·cases q with
   | @mk av S₆ W₆ e₆ G₆ r₆ =>
   rw [e₆] at hgo
   obtain ⟨Gn,grn,hh,hS,hys,hcap⟩:=next (G₅.trans G₆)
   refine wpAny_list_append_plain hys (fun h₈ hys₈ hs₈=>?_) (zAj L.sz (zAj hi hlen))
   have hk₈:∀ b o,b ∉ [a]->W₆.h.get? b=some o->h₈.get? b=some o:=fun b o hb e=>(hs₈.2 b fun q=>hb (zAi.mpr q)).trans e
   obtain ⟨G₈,gr₈⟩:=Gn.turn (wr:=[a]) (tk:=W₆.s.toks) (fun b q=>zAi.mp q ▸ ⟨hB a zAb,hh a zAb⟩) (fun b q=>zAi.mp q ▸ hys.elim fun n e=>⟨_,e,eL⟩) (fun b q=>zAi.mp q ▸ hys₈.elim fun n e=>⟨_,e⟩) hk₈
   refine ⟨_,Nat.sub_lt_sub_left (zBi hlt) (zCe _),.mk (W':=W₆.to h₈ W₆.s.toks) (S':=S₆) (done:=done++[av]) (ys:=ys.push v) hlt ⟨G₈,(L.grow.trans grA).trans (grn.trans gr₈),hh,?_,hys₈,by rw [Array.size_push]; exact zBx L.sz,?_,hcap.next gr₈ fun y c e o he=>⟨o,hk₈ c o (fun q=>?_) he,rfl⟩⟩ (by rw [← preO_cons]; exact hgo)⟩
   ·exact It.frame (i+1) W₆.h h₈ hS fun b hb o e=>hk₈ b o (fun q=>haf (zAi.mp q ▸ hb)) e
   ·rw [Array.toList_push]; exact (((L.reps.mono grA).mono grn).append (.cons r₆ .nil)).mono gr₈
   ·exact (Gn.inv.c.fl c (Gn.inv.f.cells y c e).1).2.1 (zAi.mp q ▸ hh a zAb)
  ·cases q with
   | @mk c S₆ W₆ e₆ G₆ t₆ =>
   rw [e₆] at hgo
   have Gn:=(next (G₅.trans G₆)).1
   exact dB F (.refl G₆.inv) t₆ fun W'' G'' t''=>hR _ _ (.exc (S:=S₆) (S':=S₆) hgo.symm rfl (Gn.trans G''.weak) t'')
 ·obtain rfl:i=l.length:=zDo hi (Nat.not_lt.mp hlt)
  refine It.done W'.s _ _ L.st fun h' tk hk=>?_
  rw [List.drop_length] at hgo
  obtain ⟨G,gr⟩:=L.good.over (tk:=tk) hwr hk
  refine hR _ _ (.ok (S:=S₁) (S':=⟨cap,S₁.st⟩) (W:=W'.over h' tk wr) (hgo.symm.trans ?_) rfl G ⟨L.held a zAb,ha⟩ (L.lst.at fun o e=>hk a o ha e) (zAj L.sz hlen) (L.reps.mono gr))
  show Out.ok (done++[]) _=_
  rw [zAx]
end
theorem kO {i o:Nat} {r:List (Nat × Nat)} {l:bp}:letGo ((i,o)::r) l=letGo r (match al o l with | some (.own v)=>ai o (.val v) l | _=>l):=rfl
theorem eu:∀ (caps:List (Nat × Nat)) (l:bp) (x:Nat) (v:AV),(al x l=some (.val v)->al x (letGo caps l)=some (.val v))/\(al x l=some (.own v)->x ∈ caps.map (·.2)->al x (letGo caps l)=some (.val v))
 | [],l,x,v=>⟨fun h=>h,fun _ h=>(nomatch h)⟩
 | (i,y)::r,l,x,v=>by
  rw [kO]
  have step:∀ {l'},(al x l=some (.val v)->al x l'=some (.val v))->(al x l=some (.own v)->al x l'=some (.own v) ∨ al x l'=some (.val v))->(al x l=some (.own v)->x=y->al x l'=some (.val v)) ->
    (al x l=some (.val v)->al x (letGo r l')=some (.val v))/\(al x l=some (.own v)->x ∈ y::r.map (·.2)->al x (letGo r l')=some (.val v)):=fun {l'} h1 h2 h3=>by
   refine ⟨fun h=>(eu r l' x v).1 (h1 h),fun h hm=>?_⟩
   by_cases hxy:x=y
   ·exact (eu r l' x v).1 (h3 h hxy)
   ·rcases h2 h with q | q
    ·exact (eu r l' x v).2 q ((zAl.mp hm).resolve_left hxy)
    ·exact (eu r l' x v).1 q
  cases hy:al y l with
  | none=>exact step (fun h=>h) (fun h=>.inl h) fun h q=>by subst q; rw [h] at hy; exact eN zBt hy rfl
  | some lv =>
   cases lv with
   | val a=>exact step (fun h=>h) (fun h=>.inl h) fun h q=>by subst q; rw [h] at hy; cases hy
   | own c =>
    by_cases hxy:x=y
    ·subst hxy
     refine step (fun h=>by rw [h] at hy; cases hy) (fun h=>?_) fun h _=>?_
     ·rw [h] at hy; cases hy; exact .inr eo
     ·rw [h] at hy; cases hy; exact eo
    ·refine step (fun h=>by rw [show al x (ai y (LV.val c) l)=al x l from cV hxy]; exact h) (fun h=>.inl (by rw [show al x (ai y (LV.val c) l)=al x l from cV hxy]; exact h)) fun _ q=>absurd q hxy
set_option tactic.hygienic true in
theorem nn:∀ (caps:List (Nat × Nat)) (l:bp) (x:Nat) (lv:LV),al x (dW caps l)=some lv->∃ y v,(x,y) ∈ caps/\lv=.val v/\(al y l=some (.val v) ∨ al y l=some (.own v))
 | [],_,_,_,h=>nomatch h
 | (i,o)::r,l,x,lv,h=>by
  have ih:=nn r l x lv
  change al x (match al o l with | some lv=>(i,.val (lvV lv))::dW r l | none=>dW r l)=some lv at h
  cases hy:al o l with
  | none=>rw [hy] at h; obtain ⟨y,v,q1,q2⟩:=ih h; exact ⟨y,v,zAe _ q1,q2⟩
  | some q =>
   rw [hy] at h
   rw [iy] at h
   split at h
   ·rename_i e
    cases h
    obtain rfl:=beq_nat.mp e
    exact ⟨o,lvV q,zAb,rfl,by cases q <;> first | exact .inl hy | exact .inr hy⟩
   ·obtain ⟨y,v,q1,q2⟩:=ih h; exact ⟨y,v,zAe _ q1,q2⟩
theorem lN {sc sc':Sc} {q:Nat × Nat} (h:q ∈ bn sc sc'):∃ x,(x,NameKind.free) ∈ sc'/\q=(aJ x sc',aJ x sc):=by
 unfold bn at h
 obtain ⟨p,hp,rfl⟩:=zBe.mp h
 obtain ⟨h1,h2⟩:=List.mem_filter.mp hp
 obtain ⟨x,k⟩:=p
 cases k <;> first | (exact ff h2; done) | exact ⟨x,h1,rfl⟩
noncomputable def ownR (own:Option Str->Option Addr) (r:Option Addr):Option Str->Option Addr:=r.elim own fun a=>jE own none (some a)
noncomputable abbrev Wd.backR (W W':Wd) (r:Option Addr) (D:Addr):Wd:=⟨W'.labs,ownR W.own r,fun b=>W.tmp b ∨ b=D,W.fr,W'.s⟩
theorem dL {own:Option Str->Option Addr} {r:Option Addr} {k:Option Str} {b:Addr} (q:ownR own r k=some b):(k=none/\r=some b) ∨ ((r ≠ none->k ≠ none)/\own k=some b):=by
 cases r with
 | none=>exact .inr ⟨fun h=>absurd rfl h,q⟩
 | some a =>
  by_cases hk:k=none
  ·subst hk; rw [show ownR own (some a) none=some a from cB (own:=own) (k:=none)] at q; exact .inl ⟨rfl,q⟩
  ·rw [show ownR own (some a) k=own k from c9 (own:=own) hk] at q; exact .inr ⟨fun _=>hk,q⟩
section
variable {X:Fx} {W We W₀:Wd} {S:S} {st':St} {frs':List Env} {mu:Addr->Prop} {D:Addr}
theorem Inv.backR (I:Inv X S W) (x:Ext mu W.susp We) (hm:∀ b o,W.h.get? b=some o->¬ mu b) (I':InvC X.C frs' We st') {r:Option Addr} (ha:∀ a,r=some a->We.tmp a/\W.h.get? a=none) (hD:We.fr D) (hD0:W.h.get? D=none) :
  Good X true W ⟨S.loc,st'⟩ (W.backR We r D)/\Grow We (W.backR We r D):=by
 have na:∀ {b},¬ W.free b->r ≠ some b:=fun h q=>(I.c.mus h).elim fun _ z=>aH z (ha _ q).2
 have nD:∀ {b},¬ W.free b->b ≠ D:=fun h q=>(I.c.mus h).elim fun _ z=>aH z (q ▸ hD0)
 have gr:Grow We (W.backR We r D):=⟨id,fun e _ _=>e,fun e f=>⟨⟨f.oth.lab,fun k q=>(dL q).elim (fun z=>f.tmp (ha _ z.2).1) fun z=>f.tmp (I.c.held x (.inr ⟨k,z.2⟩)).1⟩,fun q=>q.elim (fun z=>f.tmp (I.c.held x (.inl z)).1) fun z=>f.fr (z ▸ hD),fun q=>(I.c.mus (cA q)).elim fun _ z=>f.fr ((x.fr z).mpr q)⟩,fun e _ x=>⟨_,e,x,rfl⟩⟩
 have y:Ext (fun _=>False) W (W.backR We r D):={
  dom:=x.dom
  labs:=x.labs.imp fun r q=>⟨q.1,fun a h=>by
   cases q.2 a h with
   | new e=>exact .new e
   | own e=>exact aD e⟩
  own:=fun q=>(dL q).elim (fun z=>.new (ha _ z.2).2) fun z=>.own z.2
  tmp:=fun e _=>⟨fun q=>q.elim id fun z=>(aH e (z ▸ hD0)).elim,.inl⟩
  fr:=fun _=>.rfl
  keep:=fun e h=>x.keep e ⟨h.lab,fun _ q=>nomatch q⟩
  exo:=fun e h=>x.exo e ⟨h.lab,fun _ q=>nomatch q⟩
  fc:=fun e h _=>x.fc e h (hm _ _ e) }
 refine ⟨⟨y.weak fun _ q=>q.elim,?_,I.f.mono y.grow (fun _ q=>q) (Inv.fcSame I.f fun e h=>y.fc e h id).1 (Inv.fcSame I.f fun e h=>y.fc e h id).2 fun k b q=>⟨?_,fun o p e=>x.keep e ⟨(I.c.ol _ _ q).1,fun _ q=>nomatch q⟩ (fun z=>(I.c.fl _ z).1.own _ q) p⟩⟩,gr⟩
 ·exact {
  sh:=I'.sh
  stat:=I'.stat
  lo:=fun b h=>by
   by_cases hba:r=some b
   ·exact ⟨(I.loose (ha _ hba).2).st,I'.mus (jG (ha _ hba).1)⟩
   by_cases hbD:b=D
   ·subst hbD; exact ⟨(I.loose hD0).st,I'.mus (cA hD)⟩
   by_cases f:W.free b
   ·exact I'.lo b fun f'=>h ⟨⟨f'.oth.lab,fun k q=>(dL q).elim (fun z=>hba z.2) fun z=>f.oth.own _ z.2⟩,fun q=>q.elim f.tmp hbD,f.fr⟩
   ·exact ⟨(I.c.lo b f).1,(I.c.lo b f).2.elim fun _ e=>x.dom e⟩
  nd:=I'.nd
  ol:=fun k b q=>by
   rcases dL q with ⟨_,q⟩ | ⟨_,q⟩
   ·exact ⟨I'.tl _ (ha _ q).1,fun z=>z.elim (fun z=>na (jG z) q) fun z=>(I'.fl D hD).2.1 (z ▸ (ha _ q).1)⟩
   ·exact ⟨(I.c.held x (.inr ⟨k,q⟩)).2.lab,fun z=>z.elim (I.c.ol k b q).2 (nD (fS q))⟩
  oi:=fun k k' b q q'=>by
   rcases dL q with ⟨h1,h2⟩ | ⟨h1,h2⟩ <;> rcases dL q' with ⟨h3,h4⟩ | ⟨h3,h4⟩
   ·rw [h1,h3]
   ·exact absurd h2 (na (fS h4))
   ·exact absurd h4 (na (fS h2))
   ·exact I.c.oi _ _ _ h2 h4
  tl:=fun b q=>q.elim (fun z=>(I.c.held x (.inl z)).2.lab) fun z=>z ▸ (I'.fl D hD).1.lab
  fl:=fun b q=>by
   obtain ⟨h1,h2,h3⟩:=I.c.fl b q
   obtain ⟨o,e⟩:=I.c.mus (cA q)
   refine ⟨⟨(x.oth e ⟨h1.lab,fun _ q=>nomatch q⟩).lab,fun k z=>(dL z).elim (fun z=>na (cA q) z.2) fun z=>h1.own _ z.2⟩,fun z=>z.elim h2 (nD (cA q)),fun o' vs e' z=>?_⟩
   obtain ⟨o'',e'',hd⟩:=x.fc e q (hm _ _ e)
   obtain rfl:=Option.some.inj (e'.symm.trans e'')
   exact h3 o vs e (hd.symm.trans z)
  frs:=I.c.frs
  len:=I'.len
  objs:=fun n o e=>(I'.objs n o e).imp fun a q=>⟨q.1,q.2.mono gr fun _ _ e=>e⟩ }
 ·cases r with
  | none=>exact q
  | some a=>exact setV (own:=W.own) (r:=some a) q
theorem Inv.letgoN:∀ (caps:List (Nat × Nat)) (S:Mine.S) (W:Wd),(∀ q ∈ caps,∃ x,fG X.nms x=true/\q.2=aJ x X.nms)->Inv X S W->∃ W',W'.s=W.s/\Good X true W ⟨letGo caps S.loc,S.st⟩ W'
 | [],S,W,_,I=>⟨W,rfl,.refl I⟩
 | (i,o)::r,S,W,hc,I=>by
  have hr:=fun q hq=>hc q (zAe _ hq)
  cases hx:al o S.loc with
  | none=>rw [kO,hx]; exact Inv.letgoN r S W hr I
  | some lv =>
   cases lv with
   | val a=>rw [kO,hx]; exact Inv.letgoN r S W hr I
   | own c =>
    obtain ⟨x,h1,h2⟩:=hc (i,o) zAb
    have h2:o=aJ x X.nms:=h2
    subst h2
    obtain ⟨v,_,G,_⟩:=I.letgo (ev:=true) h1 hx
    obtain ⟨W',e,G'⟩:=Inv.letgoN r _ _ hr G.inv
    rw [kO,hx]
    exact ⟨W',e,G.trans G'⟩
theorem IsTraced.over {z:Bool} {C:Cx} {W:Wd} {c:Str} {v:Value} {h':Heap} {tk:Nat} {wr:List Addr} (t:IsTraced z C W c v) (hw:∀ b ∈ wr,W.tmp b) (k:∀ b o,b ∉ wr->W.h.get? b=some o->h'.get? b=some o):IsTraced z C (W.over h' tk wr) c v:=by
 have lo:∀ {b},Loose C W b->Loose C (W.over h' tk wr) b:=fun l=>⟨l.st,l.fr.oth,fun q=>l.fr.tmp q.1,l.fr.fr⟩
 have nw:∀ {b},Loose C W b->b ∉ wr:=fun l q=>l.fr.tmp (hw _ q)
 cases t with
 | mk l lT x t=>exact .mk (lo l) (lo lT) ⟨k _ _ (nw l) x.obj,x.is,x.dat,x.ctx⟩ ⟨t.at1,t.ne,k _ _ (nw lT) t.obj,t.exo,t.dat,t.fl⟩
theorem hasN_of {x:Str} {sc:Sc} (h:sc.lookup x=some .cell ∨ sc.lookup x=some .free):fG sc x=true:=by
 unfold fG; rw [bJ]
 rcases h with z | z <;> rw [z] <;> rfl
theorem dComp_ok {caps:List (Nat × Nat)} {k:Nat} {tst:Option (Mine.D AV)} {delt:Mine.D AV} {l vs:List AV} {S S':Mine.S} (e:cO k tst delt (dW caps S.loc) l S.st=.ok vs S'):cZ caps k tst delt l S=.ok vs ⟨letGo caps S.loc,S'.st⟩:=by unfold cZ; rw [e]
theorem dComp_exc {caps:List (Nat × Nat)} {k:Nat} {tst:Option (Mine.D AV)} {delt:Mine.D AV} {l:List AV} {c:Str} {S S':Mine.S} (e:cO k tst delt (dW caps S.loc) l S.st=.exc c S'):cZ caps k tst delt l S=.exc c ⟨letGo caps S.loc,S'.st⟩:=by unfold cZ; rw [e]
structure CompDone (X:Fx) (W₀:Wd) (o:Out (List AV)) (a D:Addr) (vs:List AV) (S:Mine.S) (W:Wd):Prop where
 eq:o=.ok vs S
 good:Good X true W₀ S W
 own:W.own none=some a
 rep:CRep X.C W W.h a (.lst vs)
 tmp:W.tmp D
 new:W₀.h.get? D=none
 ns:∃ m,W.h.Ns D m
theorem comp_main (F:X.Ok) {elt iter:Expr} {ifs:List Expr} {x:Str} {xp:Pos} {scope:Scope} {p:Pos} {tst:Option (Mine.D AV)} {delt:Mine.D AV} {cl:List (Str × Addr)} {use:Option (Value->Sem Unit)} {l:List AV} {S₁:Mine.S} {v:Value} (hk:scope.kind=.function) (hok:scOk X.nms scope.names=true) (ht:scope.names.lookup x=some .local)
  (ht':∀ Y:Fx,Y.Ok->Y.T=X.T->Y.nms=scope.names->TstOk Y ifs tst) (he:∀ Y:Fx,Y.Ok->Y.T=X.T->Y.nms=scope.names->SndE Y elt delt)
  (hcl:∀ x c,cl.lookup x=some c->X.env.cells.lookup x=some c/\(x,NameKind.free) ∈ scope.names) (hclx:∀ x,(x,NameKind.free) ∈ scope.names->∃ c,cl.lookup x=some c) (hlen:l.length<=sizeLine)
  (GA:Good X true W₀ S₁ W) (hit:∀ (Q E:Value->Shared->Prop),(∀ I fp wr St Mid h' tk,IterS X.C X.A W₀.h W false I fp wr l St Mid->Ge W.h h'->St 0 h'->Q (.ref I) { W.s with heap:=h',toks:=tk })->wpAny X.C.M X.A (pyIter v) Q E W.s)
  (hne:cZ (bn X.nms scope.names) (aJ x scope.names) tst delt l S₁ ≠ .stuck) {Q E:Value->Shared->Prop}
  (hQ:∀ a D vs S₂ WB,CompDone X W₀ (cZ (bn X.nms scope.names) (aJ x scope.names) tst delt l S₁) a D vs S₂ WB->compPost X.C.M X.A E use Q (.ref a) D (.ok .next) WB.s)
  (hE:∀ e s',ErP X true W₀ (cZ (bn X.nms scope.names) (aJ x scope.names) tst delt l S₁) e s'->E e s') :
  wpAny X.C.M X.A (pyIter v) (fun it s₂=>wpAny X.C.M X.A (newList []) (fun acc sA =>
   wpAny X.C.M X.A (newFunctionEnv scope X.env.globals cl [] X.env.qual none .none (some X.env)) (fun cenv s₄ =>
    codeAny X.C.M X.A (.compStart (.ListComp elt [⟨.Name x xp,iter,ifs,0⟩] scope p) 0 it acc { cenv with scope:=relabel scope X.env }) (compPost X.C.M X.A E use Q acc cenv.locals) s₄) E sA) E s₂) E W.s:=by
 obtain ⟨hcell,hloc,hfree⟩:=mh hok
 refine hit _ _ fun I fp wr St Mid h₂ tk It g₂ st0=>?_
 have hcaps:∀ q ∈ bn X.nms scope.names,∃ x,fG X.nms x=true/\q.2=aJ x X.nms:=fun q hq=>by
  obtain ⟨x,h1,rfl⟩:=lN hq
  exact ⟨x,hasN_of (hfree _ h1 rfl).1,rfl⟩
 obtain ⟨Wl,eWl,Gl⟩:=GA.inv.letgoN (bn X.nms scope.names) _ _ hcaps
 have ehl:Wl.h=W.h:=by show Wl.s.heap=_; rw [eWl]
 refine zCc (wpAny_newFunctionEnv hcell (by intro y hy; simp at hy) (fun h₄ hns₄ hsb₄=>?_) hk)
 dsimp only at hns₄ hsb₄ ⊢
 generalize hH3:h₂.push { cls:=.type "list",dict:=none,data:=.seq ([]:List Value).toArray }=H3 at hns₄ hsb₄ ⊢
 have hsz3:H3.objs.size=h₂.objs.size+1:=by rw [← hH3,zB3]
 generalize hD:H3.objs.size=D at hns₄ hsb₄ ⊢
 generalize ha:h₂.objs.size=a at hsz3 ⊢
 have haD:a ≠ D:=by rw [← hD,hsz3]; exact zBk (zCe _)
 have ext:Ge h₂ h₄:=fun b o e=>hsb₄.extBut b o (by rw [← hD,hsz3,← ha]; exact zBk (zBi (zA5 e))) (zAh _ (hH3 ▸ zAh _ e))
 have hal:h₄.PlainList a #[]:=⟨_,hsb₄.extBut _ _ haD (zAh _ (hH3 ▸ ha ▸ zAu _ rfl))⟩
 have g₄:Ge Wl.susp.h h₄:=fun b o e=>ext b o (g₂ b o (ehl ▸ e))
 have n0:∀ {b},h₂.get? b=none->Wl.h.get? b=none:=fun {b} h=>by
  cases e:Wl.h.get? b with
  | none=>rfl
  | some o=>exact (aH (g₂ b o (ehl ▸ e)) h).elim
 have ha0:Wl.h.get? a=none:=n0 (ha ▸ get?_size)
 have hD0:Wl.h.get? D=none:=n0 (zDi (by rw [← hD,hsz3,← ha]; exact zDd _))
 have hwe:∀ b ∈ wr,∃ o,h₂.get? b=some o:=fun b q=>(It.ex 0 h₂ st0 b q).imp fun _ z=>z.1
 have haw:a ∉ wr:=fun q=>(hwe a q).elim fun _ z=>aH z (ha ▸ get?_size)
 have hDw:D ∉ wr:=fun q=>(hwe D q).elim fun _ z=>aH z (zDi (by rw [← hD,hsz3,← ha]; exact zDd _))
 have haf:a ∉ fp:=fun q=>(It.fps a q haw).elim fun _ z=>aH z.1 (ehl ▸ ha0)
 have hw0:∀ b ∈ a::wr,Wl.h.get? b=none:=fun b q=>(zAl.mp q).elim (fun z=>z ▸ ha0) fun z=>ehl ▸ It.wr0 rfl b z
 have hDo:∃ o,h₄.get? D=some o/\∀ vs,o.data ≠ .fields vs:=by obtain ⟨o,es,ep,h1,h2,_⟩:=hns₄; exact ⟨o,h1,fun vs q=>by rw [h2] at q; exact eN Data.ctorIdx q rfl⟩
 obtain ⟨xi,Ii⟩:=Gl.inv.c.susp.more (tk:=tk+([]:List (Str × Value)).length) (T:=fun b=>b ∈ a::wr) (N:=fun b=>b=D) g₄ (fun b q=>⟨hw0 b q,(zAl.mp q).elim (fun z=>z ▸ hal.elim fun _ e=>⟨_,e⟩) fun z=>(hwe b z).imp fun _ e=>ext _ _ e⟩)
  (fun b q=>q ▸ ⟨hD0,hDo⟩) fun b q z=>(zAl.mp q).elim (fun w=>haD (w ▸ z)) fun w=>hDw (z ▸ w)
 have F':=F.comp (cl:=cl) (D:=D) hk hok hcl hclx fun y c e q=>(Gl.inv.c.mus (cA (Gl.inv.f.cells y c (hcl y c e).1).1)).elim fun _ z=>aH z (q ▸ hD0)
 generalize hWi:(⟨Wl.susp.labs,Wl.susp.own,fun b=>Wl.susp.tmp b ∨ b ∈ a::wr,fun b=>Wl.susp.fr b ∨ b=D,{ Wl.susp.s with heap:=h₄,toks:=tk+([]:List (Str × Value)).length }⟩:Wd)=Wi at xi Ii
 have eWi:Wi.s={ W.s with heap:=h₄,toks:=tk+([]:List (Str × Value)).length }:=by rw [← hWi]; show ({ Wl.s with heap:=h₄,toks:=_ }:Shared)=_; rw [eWl]
 have ehi:Wi.h=h₄:=by show Wi.s.heap=_; rw [eWi]
 have gli:Grow Wl Wi:=Grow.susp.trans xi.grow
 have nmu:∀ b o,Wl.h.get? b=some o->¬ (false=false/\(X.comp scope cl D).mu b):=fun b o e q=>q.2.elim (fun z=>aH e (z ▸ hD0)) fun z=>nomatch z.1
 have Iin:Inv (X.comp scope cl D) ⟨[],S₁.st⟩ Wi:=by
  refine ⟨Ii,⟨?_,⟨fun x=>([]:List (Str × Value)).reverse.lookup x,?_⟩,fun y c e=>⟨?_,?_⟩,fun y lv _ e=>nomatch e⟩⟩
  ·rw [← hWi]; exact .inr rfl
  ·rw [ehi]; exact hns₄
  ·rw [← hWi]; exact .inl (Gl.inv.f.cells y c (hcl y c e).1).1
  ·exact (Gl.inv.f.cells y c (hcl y c e).1).2.imp fun _ r=>IsCell.same r fun o q=>⟨o,by rw [ehi]; exact g₄ _ _ q,rfl⟩
 have hcap:CapOk (X.comp scope cl D) Wi (dW (bn X.nms scope.names) S₁.loc):=fun y lv hny e=>by
  obtain ⟨z,v',hm,rfl,hg⟩:=nn _ _ _ _ e
  have hm2:=List.mem_map_of_mem (f:=(·.2)) hm
  obtain ⟨y',hmf,hxy⟩:=lN hm
  have hy':aJ y' scope.names=aJ y scope.names:=(congrArg Prod.fst hxy).symm
  have hz:z=aJ y' X.nms:=congrArg Prod.snd hxy
  obtain rfl:=fw hny hy'
  obtain ⟨c,hc⟩:=hclx y' hmf
  have hval:al (aJ y' X.nms) (letGo (bn X.nms scope.names) S₁.loc)=some (.val v'):=by
   rw [← hz]
   rcases hg with q | q
   ·exact (eu _ _ _ _).1 q
   ·exact (eu _ _ _ _).2 q hm2
  obtain ⟨u,hu,hrep⟩:=Gl.inv.f.vars y' _ (hasN_of (hfree _ hmf rfl).1) hval
  have hrep:VRep X.C Wl v' u:=hrep
  refine ⟨c,u,v',jh (hfree _ hmf rfl).2,hc,?_,rfl,hrep.mono gli⟩
  cases hu with
  | loc k n e=>rcases (F.cel y' (hfree _ hmf rfl).1).1 with q | q <;> rw [k] at q <;> cases q
  | cell k l' e =>
   rw [(hcl y' c hc).1] at l'; cases l'
   exact IsCell.same e fun o q=>⟨o,by rw [ehi]; exact g₄ _ _ q,rfl⟩
 have C0:CompAt (X.comp scope cl D) Wl.susp Wi (dW (bn X.nms scope.names) S₁.loc) a wr St 0 ⟨[],S₁.st⟩ Wi [] #[] :=
  ⟨⟨xi.weak fun _ q=>q.elim,Iin⟩,⟨id,fun e _ _=>e,fun _ f=>f,fun e _ x=>⟨_,e,x,rfl⟩⟩,fun b q=>by rw [← hWi]; exact .inr q,by rw [ehi]; exact It.frame 0 h₂ h₄ st0 fun b _ o e=>ext b o e,by rw [ehi]; exact hal,zA7 _,.nil,hcap⟩
 have hneC:cO (aJ x scope.names) tst delt (dW (bn X.nms scope.names) S₁.loc) l S₁.st ≠ .stuck:=fun q=>hne (by unfold cZ; rw [q])
 have loop:codeAny X.C.M X.A (.compLoop (.ListComp elt [⟨.Name x xp,iter,ifs,0⟩] scope p) 0 (.ref I) (.ref a) (compEnvC scope cl D X.env)) (compPost X.C.M X.A E use Q (.ref a) D) Wi.s:=by
  refine pB (X:=X.comp scope cl D) (B:=Wl.susp) F' rfl (.inl ht) (ht' _ F' rfl rfl) (he _ F' rfl rfl) It hw0 haw haf (Gl.ext.grow.trans gli) C0 hlen hneC fun r s' hp=>?_
  cases hp with
  | @ok vs S' S'' We ys e es g h li sz r =>
   have hDe:We.fr D:=(g.inv.f.lc:We.fr _)
   obtain ⟨G',gr'⟩:=Gl.inv.backR (r:=some a) g.ext nmu g.inv.c (fun b q=>Option.some.inj q ▸ ⟨h,ha0⟩) hDe hD0
   refine hQ a D vs ⟨letGo (bn X.nms scope.names) S₁.loc,S''.st⟩ (Wl.backR We (some a) D) ⟨dComp_ok e,(GA.trans Gl).trans (es ▸ G'),cB (own:=Wl.own) (k:=none) (a:=some a),?_,.inr rfl,?_,g.inv.f.ns⟩
   ·exact li.elim fun n ho=>⟨ys,n,ho,sz,r.mono gr'⟩
   ·cases e₀:W₀.h.get? D with
    | none=>rfl
    | some o=>exact ((GA.trans Gl).ext.dom e₀).elim fun _ q=>(aH q hD0).elim
  | @exc c S' S'' We v e es g t =>
   obtain ⟨m,hm⟩:=g.inv.f.ns
   refine ⟨m,hm,fun h' hs cenv' _=>?_⟩
   have hDe:We.fr D:=(g.inv.f.lc:We.fr _)
   obtain ⟨G',gr'⟩:=Gl.inv.backR (r:=none) g.ext nmu g.inv.c nofun hDe hD0
   have hk':∀ b o,b ∉ [D]->We.h.get? b=some o->h'.get? b=some o:=fun b o hb q=>(hs.2 b fun z=>hb (zAi.mpr z)).trans q
   have hw':∀ b ∈ [D],Wl.h.get? b=none/\(Wl.backR We none D).tmp b:=fun b q=>by obtain rfl:=zAi.mp q; exact ⟨hD0,.inr rfl⟩
   have GB:=(G'.over (tk:=We.s.toks) hw' hk').1
   refine om (.refl GB.inv) ((t.grow gr' rfl).over (fun b q=>(hw' b q).2) hk') fun W'' G'' t''=>hE _ _ (.mk (S:=⟨letGo (bn X.nms scope.names) S₁.loc,S''.st⟩) (dComp_exc e) (((GA.trans Gl).trans GB).trans (es ▸ G'')) (.yes t''))
 rw [← eWi]
 exact codeAny_compStart_list loop (It.self 0 _ _ _ (by show St 0 Wi.h; rw [ehi]; exact It.frame 0 h₂ h₄ st0 fun b _ o e=>ext b o e) loop)
end
section
variable {X:Fx} {W W' W₀:Wd} {S:S}
theorem CompDone.over {o:Out (List AV)} {a D:Addr} {vs:List AV} {S₂:Mine.S} (x:CompDone X W₀ o a D vs S₂ W) {h':Heap} (hs:Heap.SameBut D W.h h'):Good X true W₀ S₂ (W.over h' W.s.toks [D])/\CRep X.C (W.over h' W.s.toks [D]) h' a (.lst vs):=by
 have hk:∀ b o,b ∉ [D]->W.h.get? b=some o->h'.get? b=some o:=fun b o hb q=>(hs.2 b fun z=>hb (zAi.mpr z)).trans q
 obtain ⟨G,gr⟩:=x.good.over (tk:=W.s.toks) (wr:=[D]) (fun b q=>by obtain rfl:=zAi.mp q; exact ⟨x.new,x.tmp⟩) hk
 exact ⟨G,x.rep.mono gr fun o _ e=>hk a o (fun q=>(x.good.inv.c.ol _ _ x.own).2 (zAi.mp q ▸ x.tmp)) e⟩
structure CompE (X:Fx) (scope:Scope) (y:Str) (elt iter:Expr) (ifs:List Expr) (tst:Option (D AV)) (delt dit:D AV):Prop where
 set:∀ a b c,iter ≠ .Set a b c
 kind:scope.kind=.function
 ok:scOk X.nms scope.names=true
 tgt:scope.names.lookup y=some .local
 it:SndI X iter dit
 tst:∀ Y:Fx,Y.Ok->Y.T=X.T->Y.nms=scope.names->TstOk Y ifs tst
 elt:∀ Y:Fx,Y.Ok->Y.T=X.T->Y.nms=scope.names->SndE Y elt delt
theorem asL_ne {β:Type} {tb:Bool} {l:List AV} {f:List AV->D β} (h:asL (itA tb l) f S ≠ .stuck):tb=false:=by
 cases tb with
 | false=>rfl
 | true=>exact absurd rfl h
theorem ite_ne {α:Type} {p:Prop} [Decidable p] {d:D α} (h:(if p then d else stk) S ≠ .stuck):p/\(if p then d else stk)=d:=by
 by_cases q:p
 ·exact ⟨q,if_pos q⟩
 ·rw [if_neg q] at h; exact absurd rfl h
theorem oz (F:X.Ok) {scope:Scope} {y:Str} {yp p:Pos} {elt iter:Expr} {ifs:List Expr} {tst:Option (D AV)} {delt dit:D AV} {use:Option (Value->Sem Unit)} (K:CompE X scope y elt iter ifs tst delt dit) (I:Inv X S W) (hne:cQ (bn X.nms scope.names) (aJ y scope.names) tst delt dit S ≠ .stuck) {Q E:Value->Shared->Prop}
  (hQ:∀ a D vs S₂ WB o,cQ (bn X.nms scope.names) (aJ y scope.names) tst delt dit S=.ok (.lst vs) S₂->CompDone X W o a D vs S₂ WB->compPost X.C.M X.A E use Q (.ref a) D (.ok .next) WB.s)
  (hE:∀ e s',ErP X true W (cQ (bn X.nms scope.names) (aJ y scope.names) tst delt dit S) e s'->E e s') {pos:Pos} :
  wpAny X.C.M X.A (comprehension (.ListComp elt [⟨.Name y yp,iter,ifs,0⟩] scope p) scope X.env pos (newList []) false (eval iter X.env) use) Q E W.s:=by
 obtain ⟨hcell,hloc,hfree⟩:=mh K.ok
 obtain ⟨cl,hclos,hcl,hclx⟩:=oB (scope:=scope) (env:=X.env) fun q hq hf=>(F.cel q.1 (hfree q hq hf).1).2
 refine wpAny_comprehension_free (g:=⟨.Name y yp,iter,ifs,0⟩) (gs:=[]) rfl (i8 K.set) hclos K.kind (fun x hx hl=>hloc x hx hl) ?_
 have hne:ax (dit S) (fun v=>asL v fun l=>if l.length<=sizeLine then aE (cZ (bn X.nms scope.names) (aJ y scope.names) tst delt l) fun vs=>opt (bz vs) else stk) ≠ .stuck:=hne
 have hE:∀ e s',ErP X true W (ax (dit S) (fun v=>asL v fun l=>if l.length<=sizeLine then aE (cZ (bn X.nms scope.names) (aJ y scope.names) tst delt l) fun vs=>opt (bz vs) else stk)) e s'->E e s':=hE
 refine zAv (K.it S W I fun q=>hne (by rw [q]; rfl)) (fun v s₁ q=>?_) fun e s₁ q=>?_
 ·cases q with
  | @mk a S₁ WA e₁ GA rA =>
  obtain ⟨tb,l,rfl,hit⟩:=rA
  rw [e₁] at hne hE
  have hQ:∀ a D vs S₂ WB o,ax (dit S) (fun v=>asL v fun l=>if l.length<=sizeLine then aE (cZ (bn X.nms scope.names) (aJ y scope.names) tst delt l) fun vs=>opt (bz vs) else stk)=.ok (.lst vs) S₂->CompDone X W o a D vs S₂ WB->compPost X.C.M X.A E use Q (.ref a) D (.ok .next) WB.s:=hQ
  rw [e₁] at hQ
  obtain rfl:=asL_ne hne
  have hne:(if l.length<=sizeLine then aE (cZ (bn X.nms scope.names) (aJ y scope.names) tst delt l) fun vs=>opt (bz vs) else stk) S₁ ≠ .stuck:=hne
  obtain ⟨hlen,ei⟩:=ite_ne hne
  have hE:∀ e s',ErP X true W ((if l.length<=sizeLine then aE (cZ (bn X.nms scope.names) (aJ y scope.names) tst delt l) fun vs=>opt (bz vs) else stk) S₁) e s'->E e s':=hE
  have hQ:∀ a D vs S₂ WB o,(if l.length<=sizeLine then aE (cZ (bn X.nms scope.names) (aJ y scope.names) tst delt l) fun vs=>opt (bz vs) else stk) S₁=.ok (.lst vs) S₂->CompDone X W o a D vs S₂ WB->compPost X.C.M X.A E use Q (.ref a) D (.ok .next) WB.s:=hQ
  rw [ei] at hE hQ hne
  have hnd:cZ (bn X.nms scope.names) (aJ y scope.names) tst delt l S₁ ≠ .stuck:=fun q=>hne (by show ax _ _=_; rw [q]; rfl)
  refine comp_main F K.kind K.ok K.tgt K.tst K.elt hcl hclx hlen GA hit hnd (fun a D vs S₂ WB d=>hQ a D vs S₂ WB _ ?_ d) fun e s' q=>hE e s' ?_
  ·have hne:ax (cZ (bn X.nms scope.names) (aJ y scope.names) tst delt l S₁) (fun vs=>opt (bz vs)) ≠ .stuck:=hne
   show ax (cZ (bn X.nms scope.names) (aJ y scope.names) tst delt l S₁) (fun vs=>opt (bz vs))=_
   rw [d.eq] at hne ⊢
   have hne:opt (bz vs) S₂ ≠ .stuck:=hne
   show opt (bz vs) S₂=_
   cases hm:bz vs with
   | none=>rw [hm] at hne; exact absurd rfl hne
   | some b=>obtain ⟨_,rfl⟩:=dM hm; rfl
  ·cases q with
   | mk e g t=>exact .mk (by show ax _ _=_; rw [e]; rfl) g t
 ·cases q with
  | mk e g t=>exact hE _ _ (.mk (by rw [e]; rfl) g t)
theorem snd_comp (F:X.Ok) {scope:Scope} {y:Str} {yp p:Pos} {elt iter:Expr} {ifs:List Expr} {tst:Option (D AV)} {delt dit:D AV} (K:CompE X scope y elt iter ifs tst delt dit):SndM X (.ListComp elt [⟨.Name y yp,iter,ifs,0⟩] scope p) (cQ (bn X.nms scope.names) (aJ y scope.names) tst delt dit):=fun S W I hne=>by
 rw [eval_ListComp]
 refine oz (use:=none) F K I hne (fun a D vs S₂ WB o e d=>d.ns.imp fun m hm=>⟨hm,fun h' hs=>?_⟩) fun _ _ q=>q
 obtain ⟨G,r⟩:=d.over hs
 exact .mk (W':=WB.over h' WB.s.toks [D]) e G (.new rfl rfl d.own r)
theorem swaps_comp {elt:Expr} {gens:List Comprehension} {scope:Scope} {p p':Pos} {x:Str} {ln:Nat} {env:Env}:∃ b,swapsWith (.ListComp elt gens scope p) (some (.Name x p')) ln env=Pure.pure b:=⟨_,rfl⟩
theorem jk (F:X.Ok) {x y:Str} {p' yp pos p:Pos} {elt iter:Expr} {scope:Scope} {ifs:List Expr} {tst:Option (D AV)} {delt dit:D AV} (hst:ky X.nms x=true) (K:CompE X scope y elt iter ifs tst delt dit) :
  cY X (.Assign [.Name x p'] (.ListComp elt [⟨.Name y yp,iter,ifs,0⟩] scope p) pos) (bo (aJ x X.nms) (cQ (bn X.nms scope.names) (aJ y scope.names) tst delt dit)):=fun hf S W I=>by
 obtain ⟨b,hb⟩:=swaps_comp (elt:=elt) (gens:=[⟨.Name y yp,iter,ifs,0⟩]) (scope:=scope) (p:=p) (p':=p') (x:=x) (ln:=pos.line) (env:=X.env)
 cases b with
 | false=>exact gi F hb hst (snd_comp F K) hf S W I
 | true =>
  intro hne
  have hne:ax (cQ (bn X.nms scope.names) (aJ y scope.names) tst delt dit S) (fun a=>aE (gD (aJ x X.nms) (iY true a)) fun _=>af Fl.next) ≠ .stuck:=hne
  show wpAny _ _ _ (OkP X false (RF X) W (ax (cQ (bn X.nms scope.names) (aJ y scope.names) tst delt dit S) (fun a=>aE (gD (aJ x X.nms) (iY true a)) fun _=>af Fl.next))) (ErP X false W (ax (cQ (bn X.nms scope.names) (aJ y scope.names) tst delt dit S) (fun a=>aE (gD (aJ x X.nms) (iY true a)) fun _=>af Fl.next))) _
  rw [exec_Assign_Name_used (hs:=hb)]
  refine zAa (zCl (zAa ?_))
  show wpAny _ X.A (do let _ ← comprehension (.ListComp elt [⟨.Name y yp,iter,ifs,0⟩] scope p) scope X.env _ (newList []) false (eval iter X.env) (some (assign (.Name x p') X.env))) _ _ W.s
  refine zAa (zAv (oz (Q:=fun _ s'=>OkP X false (RF X) W (ax (cQ (bn X.nms scope.names) (aJ y scope.names) tst delt dit S) (fun a=>aE (gD (aJ x X.nms) (iY true a)) fun _=>af Fl.next)) Flow.next s') F K I (fun q=>hne (by rw [q]; rfl)) (fun a D vs S₂ WB o e d=>?_) fun e s' q=>?_) (fun _ s' hq=>zAk (zAk hq)) fun _ _ e=>e)
  ·refine wpAny_assign_Name (zAv (iM F d.good.inv (k8 hf hst) d.own d.rep nofun) (fun _ s'' q=>?_) fun _ _ q=>by cases q with | mk e _ _=>exact eN Out.ctorIdx e rfl)
   cases q with
   | @mk u SA WC e₃ GC _ =>
   cases e₃
   obtain ⟨m,hm⟩:=d.ns
   obtain ⟨o',es,ep,h1,h2,h3⟩:=hm
   have hoD:WB.oth D/\¬ WB.fr D:=⟨⟨d.good.inv.c.tl D d.tmp,fun k z=>(d.good.inv.c.ol k D z).2 d.tmp⟩,fun z=>(d.good.inv.c.fl D z).2.1 d.tmp⟩
   have hpl:Pln o':=fun z=>z.dat.elim fun _ z=>by rw [h2] at z; exact eN Data.ctorIdx z rfl
   refine ⟨m,⟨o',es,ep,GC.ext.keep h1 hoD.1 hoD.2 hpl,h2,h3⟩,fun h' hs=>?_⟩
   have G:=(d.good.weak.trans GC).over (tk:=WC.s.toks) (wr:=[D]) (h':=h') (fun b q=>by obtain rfl:=zAi.mp q; exact ⟨d.new,(GC.ext.tmp h1 hoD.1).mpr d.tmp⟩) fun b o hb q=>(hs.2 b fun z=>hb (zAi.mpr z)).trans q
   exact .mk (W':=WC.over h' WC.s.toks [D]) (by rw [e]; rfl) G.1 (show RF X _ .next .next from trivial)
  ·cases q with
   | mk e g t=>exact .mk (by rw [e]; rfl) g.weak t
end
noncomputable def setS (k:Str):List Str->List Str
 | []=>[k]
 | x::r=>if k=x then x::r else x::setS k r
noncomputable def setW (k:Str) (v:Value):List Str->List Value->List Value
 | x::xs,w::ws=>if k=x then v::ws else w::setW k v xs ws
 | _,_=>[v]
theorem px {k x:Str} {r:List Str}:setS k (x::r)=if k=x then x::r else x::setS k r:=rfl
theorem setW_c {k x:Str} {v w:Value} {r:List Str} {ws:List Value}:setW k v (x::r) (w::ws)=if k=x then v::ws else w::setW k v r ws:=rfl
theorem j0 {k:Str} {v:Value}:∀ {ss:List Str} {ws:List Value},ss.length=ws.length->(setS k ss).length=(setW k v ss ws).length/\(setW k v ss ws).length<=ws.length+1
 | [],[],_=>⟨rfl,zAy _⟩
 | [],_::_,h=>nomatch h
 | _::_,[],h=>nomatch h
 | x::ss,w::ws,h=>by
  have h':ss.length=ws.length:=Nat.succ.inj h
  have ih:=j0 (k:=k) (v:=v) h'
  rw [px,setW_c]
  by_cases hx:k=x
  ·rw [if_pos hx,if_pos hx]; exact ⟨congrArg Nat.succ h',zDd _⟩
  ·rw [if_neg hx,if_neg hx]; exact ⟨congrArg Nat.succ ih.1,zBx ih.2⟩
theorem mem_setS {k y:Str}:∀ {ss:List Str},y ∈ setS k ss->y=k ∨ y ∈ ss
 | [],h=>.inl (zAi.mp h)
 | x::r,h=>by
  rw [px] at h
  split at h
  ·exact .inr h
  ·rcases zAl.mp h with rfl | h
   ·exact .inr zAb
   ·exact (mem_setS h).imp id fun q=>zAe _ q
theorem map_same {k:Str} {v:Value}:∀ {ss:List Str} {ws:List Value},k ∉ ss->(ss.zip ws).map (fun kv=>if kv.1=k then (kv.1,v) else kv)=ss.zip ws
 | [],_,_=>rfl
 | _::_,[],_=>rfl
 | x::ss,w::ws,h=>by
  rw [zBv,zA4,map_same (fun q=>h (zAe _ q)),if_neg (fun (q:x=k)=>h (by rw [q]; exact zAb))]
theorem mE {k:Str} {v:Value}:∀ {ss:List Str} {ws:List Value},ss.length=ws.length->ss.Nodup->stored (ss.zip ws) k v=(setS k ss).zip (setW k v ss ws)
 | [],[],_,_=>rfl
 | [],_::_,h,_=>nomatch h
 | _::_,[],h,_=>nomatch h
 | x::ss,w::ws,h,hn=>by
  have h':ss.length=ws.length:=Nat.succ.inj h
  obtain ⟨hx',hn'⟩:=zBp.mp hn
  have ih:=mE (k:=k) (v:=v) h' hn'
  rw [px,setW_c]
  by_cases hx:k=x
  ·subst hx
   rw [if_pos rfl,if_pos rfl]
   unfold stored
   rw [zBv,if_pos (by simp),zA4,map_same hx',if_pos rfl]
   rfl
  ·rw [if_neg hx,if_neg hx,zBv,zBv,← ih]
   have hx2:¬ x=k:=fun q=>hx q.symm
   unfold stored
   rw [List.any_cons,show decide ((x,w).1=k)=false from decide_eq_false hx2,Bool.false_or]
   split
   ·rw [zA4,if_neg hx2]
   ·rfl
theorem setS_str {k:Str}:∀ {ss:List Str},(setS k ss).map AV.str=ce (.str k) (ss.map .str)
 | []=>rfl
 | x::r=>by
  rw [px,zA4]
  show _=if seq k x=true then AV.str x::r.map .str else .str x::ce (.str k) (r.map .str)
  by_cases hx:k=x
  ·subst hx; rw [if_pos rfl,fi,if_pos rfl,zA4]
  ·have e1:seq k x=false:=by rw [dC]; exact beq_eq_false_iff_ne.mpr hx
   rw [if_neg hx,e1,if_neg zAq,zA4,setS_str]
theorem wp_setAt {prog:Program} {w:World} {A:Around} {E:Value->Shared->Prop} {s:Shared} {l:Addr} {items:Array Value} {m:Nat} {k:Int} {t:Tok} {v:Value} {Q:Unit->Shared->Prop}
  (ho:s.heap.get? l=some { cls:=.type "list",data:=.seq items m }) (h0:0<=k) (hfit:k < 2 ^ 63) (hn:k < items.size)
  (hQ:∀ h',h'.PlainList l (items.setIfInBounds k.toNat v)->Heap.SameBut l s.heap h'->Q () { s with heap:=h' }):wpAny (model prog w) A (setItem (.ref l) (.int k t) v) Q E s:=by
 have hl:s.heap.IsList l items:=⟨_,ho,rfl,m,rfl⟩
 have hfin:(s.heap.update l (Obj.mapSeq (·.setIfInBounds k.toNat v))).PlainList l (items.setIfInBounds k.toNat v):=⟨_,IsL.update ho _⟩
 unfold setItem
 try with_reducible refine zA0 ?_
 refine zAa (wpAny_sequenceKey hl.typeIs (by decide) ?_)
 refine zAa (wpAny_callSpecial?_slot (name:=Str.ofString "__setitem__") hl.typeIs slot_list_setitem (zDn slot_list_setitem hl.typeIs entry_list_setitem ?_ (args_list_setitem _ _ _)))
 show wpAny _ _ (Builtin.List.listSubscript? (.int k t) >>= _) _ _ s
 refine zAa (wpAny_listSubscript_int (fitsIndex_of h0 hfit) ?_)
 clear hfit
 obtain ⟨j,rfl⟩:=zCa h0
 have hj:j < items.size:=by lia
 show wpAny _ _ ((seqItemAt l j >>= fun r=>pure (r.map (j,·))) >>= _) _ _ s
 refine zAa (zAa (wpAny_seqItemAt ho rfl (zAk ?_)))
 rw [zCj hj]
 show wpAny _ _ (setSeqItemAt l j v >>= _) _ _ s
 refine zAa (wpAny_setSeqItemAt ho rfl ?_)
 first
  | exact zAa (zAk (zAk ⟨.none,rfl,zAk (hQ _ hfin (Heap.SameBut.update ..))⟩))
  | exact zAk ⟨.none,rfl,zAk (hQ _ hfin (Heap.SameBut.update ..))⟩
section
variable {C:Cx} {X:Fx} {frs:List Env} {mu:Addr->Prop} {W:Wd} {st st':St} {S:S} {h':Heap} {tk:Nat} {ad:Addr}
structure ModA (W:Wd) (ad:Addr) (h':Heap):Prop where
 ours:¬ W.oth ad
 same:∀ b o,b ≠ ad->W.h.get? b=some o->h'.get? b=some o
 hat:∃ o,h'.get? ad=some o
theorem ModA.ne (m:ModA W ad h') {b:Addr} (h:W.oth b):b ≠ ad:=fun q=>m.ours (q ▸ h)
theorem ModA.grow (m:ModA W ad h'):Grow W (W.to h' tk):=⟨id,fun e f _=>m.same _ _ (m.ne f.oth) e,fun _ f=>f,fun e f x=>⟨_,m.same _ _ (m.ne f.oth) e,x,rfl⟩⟩
theorem ModA.ext (m:ModA W ad h') (I:InvC C frs W st):Ext mu W (W.to h' tk) where
 dom:=fun {b o} e=>by
  by_cases hb:b=ad
  ·exact hb ▸ m.hat
  ·exact ⟨o,m.same b o hb e⟩
 labs:=⟨[],(zAx _).symm,fun _ q=>nomatch q⟩
 own:=fun q=>.own (W:=W) q
 tmp:=fun _ _=>.rfl
 fr:=fun _=>.rfl
 keep:=fun e h _ _=>m.same _ _ (m.ne h) e
 exo:=fun e h _ x=>⟨_,m.same _ _ (m.ne h) e,x,rfl⟩
 fc:=fun e h _=>⟨_,m.same _ _ (m.ne (I.fl _ h).1) e,rfl⟩
theorem InvC.modA (I:InvC C frs W st) (m:ModA W ad h') (hl:st'.length=st.length) (ho:∀ (k:Nat) (o:AO),st'[k]?=some o->∃ a,W.labs[k]?=some a/\((a=ad/\ORep C (W.to h' tk) a o) ∨ (a ≠ ad/\ORep C W a o))):InvC C frs (W.to h' tk) st' where
 sh:=I.sh.elim fun h q=>q.elim fun t e=>⟨h',tk,by show ({ W.s with heap:=h',toks:=tk }:Shared)=_; rw [e]⟩
 stat:=fun b o e=>m.same b o (fun q=>m.ours ⟨fun z=>aH e (I.lo b (nf_lab (q ▸ z))).1,fun k z=>aH e (I.lo b (fS (q ▸ z))).1⟩) (I.stat b o e)
 lo:=fun b h=>⟨(I.lo b h).1,(I.lo b h).2.elim fun _ e=>(m.ext (mu:=fun _=>False) (tk:=tk) I).dom e⟩
 nd:=I.nd
 ol:=I.ol
 oi:=I.oi
 tl:=I.tl
 fl:=fun b q=>⟨(I.fl b q).1,(I.fl b q).2.1,fun o vs e=>(I.mus (cA q)).elim fun o' z=>(I.fl b q).2.2 o vs (z.trans ((m.same _ _ (m.ne (I.fl b q).1) z).symm.trans e))⟩
 frs:=I.frs
 len:=hl.trans I.len
 objs:=fun k o e=>(ho k o e).imp fun a q=>⟨q.1,q.2.elim (fun z=>z.2) fun z=>z.2.mono m.grow fun o _=>m.same a o z.1⟩
theorem get_inj:∀ {l:List Addr},l.Nodup->∀ {i j:Nat} {a:Addr},l[i]?=some a->l[j]?=some a->i=j
 | [],_,_,_,_,h1,_=>by simp at h1
 | _::_,_,0,0,_,_,_=>rfl
 | _::_,h,0,_+1,_,h1,h2=>by
   cases h1; exact absurd (zDh (by simpa using h2)) (zBp.mp h).1
 | _::_,h,_+1,0,_,h1,h2=>by
   cases h2; exact absurd (zDh (by simpa using h1)) (zBp.mp h).1
 | _::_,h,i+1,j+1,_,h1,h2=>by
   rw [get_inj (zBp.mp h).2 (i:=i) (j:=j) (by simpa using h1) (by simpa using h2)]
theorem ModA.fc (m:ModA W ad h') (I:Inv X S W):d6 W h' X.env.locals/\∀ y c,X.env.cells.lookup y=some c->d6 W h' c:=Inv.fcSame I.f fun e h=>⟨_,m.same _ _ (m.ne (I.c.fl _ h).1) e,rfl⟩
theorem Inv.modL (I:Inv X S W) {n:Nat} (hn:W.labs[n]?=some ad) (m:ModA W ad h') {o:AO} (r:ORep X.C (W.to h' tk) ad o):Good X true W ⟨S.loc,S.st.set n o⟩ (W.to h' tk) where
 ext:=m.ext I.c
 inv:=⟨I.c.modA m (zB5 ..) fun k q e=>by
   by_cases hk:n=k
   ·subst hk
    have hlt:n < S.st.length:=by rw [I.c.len]; exact (zAz.mp hn).1
    rw [zA8 hlt] at e
    cases e
    exact ⟨ad,hn,.inl ⟨rfl,r⟩⟩
   ·rw [zAf hk] at e
    exact (I.c.objs k q e).imp fun a z=>⟨z.1,.inr ⟨fun w=>hk (get_inj I.c.nd hn (w ▸ z.1)),z.2⟩⟩,
  I.f.mono m.grow (fun _ q=>q) (m.fc I).1 (m.fc I).2 fun x a q=>⟨q,fun o _ e=>m.same a o (fun z=>(I.c.ol _ _ q).1 (z ▸ cr hn)) e⟩⟩
theorem Inv.modO (I:Inv X S W) {x:Str} (hx:fG X.nms x=true) (ho:W.own (some x)=some ad) (hv:X.Val W.h x (.ref ad)) (m:ModA W ad h') {c:AV} (r:CRep X.C (W.to h' tk) h' ad c):Good X true W ⟨ai (aJ x X.nms) (.own c) S.loc,S.st⟩ (W.to h' tk) where
 ext:=m.ext I.c
 inv:=⟨I.c.modA m rfl fun k q e=>(I.c.objs k q e).imp fun a z=>⟨z.1,.inr ⟨fun w=>(I.c.ol _ _ ho).1 (w ▸ cr z.1),z.2⟩⟩,I.f.lc,I.f.ns.imp fun _ q=>kR q (m.fc I).1,fun y c e=>⟨(I.f.cells y c e).1,(I.f.cells y c e).2.imp fun _ q=>IsCell.same q ((m.fc I).2 y c e)⟩,fun y lv hm e=>by
   by_cases hy:y=x
   ·subst hy
    rw [show al (aJ y X.nms) (ai (aJ y X.nms) (LV.own c) S.loc)=some (.own c) from eo] at e
    cases e
    exact ⟨_,hv.same (m.fc I).1 (m.fc I).2,ad,rfl,ho,r⟩
   ·rw [show al (aJ y X.nms) (ai (aJ x X.nms) (LV.own c) S.loc)=al (aJ y X.nms) S.loc from cV fun q=>hy (fw hx q)] at e
    exact (I.f.vars y lv hm e).imp fun _ q=>⟨q.1.same (m.fc I).1 (m.fc I).2,q.2.mono m.grow fun a z=>⟨z,fun o _ e=>m.same a o (fun w=>hy (Option.some.inj (I.c.oi _ _ _ z (w ▸ ho)))) e⟩⟩⟩
inductive ModP (X:Fx) (W:Wd) (f:AV->Option AV) (v:Value) (o:Out Unit) (d:Option AV):Prop
 | mk (ad:Addr) (c c':AV) (S':Mine.S) (e1:o=.ok () S') (e2:d=some c) (e3:v=.ref ad) (e4:f c=some c') (r:CRep X.C W W.h ad c) (h:∀ h' tk,Heap.SameBut ad W.h h'->CRep X.C W h' ad c'->Good X true W S' (W.to h' tk)/\CRep X.C (W.to h' tk) h' ad c')
set_option tactic.hygienic true in
theorem modAt_spec (I:Inv X S W) {a:AV} {v:Value} (q:RQ X W a v) {f:AV->Option AV} (hne:bH a f S ≠ .stuck) :
  ModP X W f v (bH a f S) (aT a S):=by
 have mk:∀ {ad c' h'},¬ W.oth ad->Heap.SameBut ad W.h h'->CRep X.C W h' ad c'->ModA W ad h':=fun ho hs hc=>⟨ho,fun b o hb e=>(hs.2 b hb).trans e,hc.obj.imp fun _ z=>z.1⟩
 have cel:∀ k,VRep X.C W (.cel k) v->(match du S.st k with | some c=>(match f c with | some c'=>Out.ok () { S with st:=S.st.set k (.cont c') } | none=>.stuck) | none=>.stuck) ≠ .stuck ->
   ModP X W f v (match du S.st k with | some c=>(match f c with | some c'=>Out.ok () { S with st:=S.st.set k (.cont c') } | none=>.stuck) | none=>.stuck) (du S.st k):=fun k r hn=>by
  cases hc:du S.st k with
  | none=>rw [hc] at hn; exact absurd rfl hn
  | some c =>
   rw [hc] at hn
   dsimp only at hn ⊢
   cases hf:f c with
   | none=>rw [hf] at hn; exact absurd rfl hn
   | some c' =>
    obtain ⟨ad,h1,h2⟩:=I.c.objs k _ (lj hc)
    obtain ⟨ad',rfl,q1⟩:=r
    obtain rfl:=Option.some.inj (h1.symm.trans q1)
    refine ⟨ad,c,c',_,rfl,rfl,rfl,hf,h2,fun h' tk hs hc'=>?_⟩
    have m:=mk (fun z=>z.lab (cr h1)) hs hc'
    have r':CRep X.C (W.to h' tk) h' ad c':=hc'.mono m.grow fun _ _ e=>e
    exact ⟨I.modL h1 m (o:=.cont c') r',r'⟩
 cases a <;> first | exact absurd rfl hne | skip
 ·exact cel _ q hne
 ·rename_i k
  obtain ⟨x,hn,rfl,hv⟩:=q
  unfold bH at hne ⊢
  dsimp only at hne ⊢
  show ModP X W f v _ (match al (aJ x X.nms) S.loc with | some (.own c)=>some c | some (.val (.cel n))=>du S.st n | some (.val (.pl _))=>none | some (.val v)=>some v | none=>none)
  cases hx:al (aJ x X.nms) S.loc with
  | none=>rw [hx] at hne; exact absurd rfl hne
  | some lv =>
   obtain ⟨v',q1,q2⟩:=I.f.vars x _ hn hx
   obtain rfl:=hv.inj q1
   rw [hx] at hne
   cases lv with
   | own c =>
    dsimp only at hne ⊢
    cases hf:f c with
    | none=>rw [hf] at hne; exact absurd rfl hne
    | some c' =>
     obtain ⟨ad,rfl,q2,q3⟩:=q2
     refine ⟨ad,c,c',_,rfl,rfl,rfl,hf,q3,fun h' tk hs hc'=>?_⟩
     have m:=mk (fun z=>z.own _ q2) hs hc'
     have r':CRep X.C (W.to h' tk) h' ad c':=hc'.mono m.grow fun _ _ e=>e
     exact ⟨I.modO hn q2 hv m r',r'⟩
   | val a =>
    cases a <;> first | exact absurd rfl hne | exact cel _ q2 hne
theorem jS {α β:Type} {R:Wd->β->α->Prop} {m:Sem α} {b:β} {a:AV} {v:Value} {f:AV->Option AV} (I:Inv X S W) (q:RQ X W a v)
  (hm:∀ ad c c',aT a S=some c->v=.ref ad->f c=some c'->CRep X.C W W.h ad c->∀ (Q:α->Shared->Prop),(∀ u h' tk,Heap.SameBut ad W.h h'->CRep X.C W h' ad c'->(Grow W (W.to h' tk)->R (W.to h' tk) b u)->Q u { W.s with heap:=h',toks:=tk })->wpAny X.C.M X.A m Q (fun _ _=>False) W.s) :
  Snd X true R m (ax (bH a f S) fun _=>af b) W:=fun hne=>by
 have hn:bH a f S ≠ .stuck:=fun q=>hne (by rw [q]; rfl)
 obtain ⟨ad,c,c',S',e,h0,h1,h2,h3,h4⟩:=modAt_spec I q hn
 rw [e]
 exact zAv (hm ad c c' h0 h1 h2 h3 _ fun u h' tk hs hc hr=>.mk (W':=W.to h' tk) rfl (h4 h' tk hs hc).1 (hr (h4 h' tk hs hc).1.ext.grow)) (fun _ _ q=>q) fun _ _ q=>q.elim
theorem nO {k:Str} {av:AV} {v:Value} (hv:VRep C W av v):∀ {ss:List Str} {ws:List Value} {vs:List AV},ss.length=ws.length->VReps C W vs ws->VReps C W (cG (.str k) av (ss.map .str) vs) (setW k v ss ws)
 | [],[],vs,_,h=>VReps.cons hv VReps.nil
 | [],_::_,_,h,_=>nomatch h
 | _::_,[],_,h,_=>nomatch h
 | x::ss,w::ws,vs,hl,h=>by
  cases vs with
  | nil=>cases h
  | cons a r =>
   obtain ⟨_,_,e,h1,h2⟩:=h
   cases e
   rw [zA4,setW_c]; show VReps C W (if seq k _=true then _ else _) _
   by_cases hx:k=x
   ·subst hx; rw [if_pos rfl,fi,if_pos rfl]; exact VReps.cons hv h2
   ·have e1:seq k x=false:=by rw [dC]; exact beq_eq_false_iff_ne.mpr hx
    rw [if_neg hx,e1,if_neg zAq]
    exact VReps.cons h1 (nO hv (Nat.succ.inj hl) h2)
theorem VReps.set {a:AV} {v:Value} (h:VRep C W a v):∀ {l:List AV} {vs:List Value} {i:Nat},VReps C W l vs->VReps C W (l.set i a) (vs.set i v)
 | [],vs,i,r=>by obtain rfl:=r; rw [List.set_nil,List.set_nil]; exact VReps.nil
 | x::l,vs,0,r=>by obtain ⟨w,vs',rfl,h1,h2⟩:=r; exact VReps.cons h h2
 | x::l,vs,i+1,r=>by obtain ⟨w,vs',rfl,h1,h2⟩:=r; exact VReps.cons h1 (VReps.set h h2)
set_option tactic.hygienic true in
theorem wp_put {A:Around} {i a c c':AV} {vi va:Value} (hc:CRep C W W.h ad c) (ri:VRep C W i vi) (ra:VRep C W a va) (h:eW i a c=some c') {Q:Unit->Shared->Prop}
  (hQ:∀ h' tk,Heap.SameBut ad W.h h'->CRep C W h' ad c'->Q () { W.s with heap:=h',toks:=tk }):wpAny C.M A (setItem (.ref ad) vi va) Q (fun _ _=>False) W.s:=by
 cases c <;> first | (exact aD h; done) | skip
 ·rename_i l
  cases i <;> first | (exact aD h; done) | skip
  rename_i k
  obtain ⟨hk,rfl⟩:=bu (p:=0<=k/\k.toNat < l.length) h
  obtain ⟨t,rfl⟩:=ri
  obtain ⟨vs,m,ho,hsz,hv⟩:=hc
  obtain ⟨j,rfl⟩:=zCa hk.1
  have hj:j < vs.size:=by rw [hv.size]; exact hk.2
  refine wp_setAt ho hk.1 (fit hj hsz) (Int.ofNat_lt.mpr hj) fun h' hp hs=>hQ h' W.s.toks hs (hp.elim fun n e=>⟨_,n,e,by rw [Array.size_setIfInBounds]; exact hsz,?_⟩)
  rw [Array.toList_setIfInBounds]
  exact hv.set ra
 ·rename_i ks vs'
  cases i <;> first | (exact aD h; done) | skip
  rename_i y
  obtain ⟨hlen,rfl⟩:=bu (p:=(nM (.str y) && zCd (ks.length+1) sizeLine)=true) h
  have hlen:=zBd hlen
  obtain ⟨ok,t,rfl⟩:=ri
  obtain ⟨o,ss,ws,h1,h2,rfl,h4,h5⟩:=hc
  have hD:W.h.DictOf (strKind C.prog C.w) ad (ss.zip ws):=zCm.mpr ⟨o,h1,h4.is⟩
  have hnod:ss.Nodup:=by
   obtain ⟨_,_,_,_,_,_,q⟩:=h4.is
   rwa [List.map_fst_zip (zCo h4.len)] at q
  refine wpAny_setItem_pairs (strKind_is C.prog C.w y t) hD (fun h' hd' hs=>?_) (by rw [zDm]; exact zAj (zB8 _ _) h4.sz)
  rw [mE h4.len hnod] at hd'
  obtain ⟨o',ho',hdo⟩:=zCm.mp hd'
  have hlw:=j0 (k:=y) (v:=va) h4.len
  have hlk:(ss.map AV.str).length=ws.length:=by rw [zAd]; exact h4.len
  exact hQ h' _ hs ⟨o',setS y ss,setW y va ss ws,ho',h2,setS_str.symm,⟨hdo,hlw.1,zAj hlw.2 (by rw [← hlk]; exact hlen),fun z hz=>(mem_setS hz).elim (fun q=>q ▸ ok) (h4.ok z)⟩,nO ra h4.len h5⟩
theorem sndS_setSub {b k v:Expr} {sp pos:Pos} {db dk dv:D AV} (hsw:swapsWith v (some (.Subscript b k sp)) pos.line X.env=Pure.pure false)
  (hb:jl X b db) (hk:SndE X k dk) (hv:SndE X v dv):cY X (.Assign [.Subscript b k sp] v pos) (bh db dk dv):=fun hf S W I=>by
 rw [exec_Assign_Subscript _ _ _ _ _ hsw]
 refine .stand (Snd.bind (hv S W I).weak fun a va S₁ WA _ GA rA=>?_)
 have main:Snd X true RU (assign (.Subscript b k sp) X.env va) (ax (db S₁) fun c=>aE dk fun i=>aE (bH c (eW i a)) fun _=>af ()) WA:=by
  rw [assign_Subscript]
  refine Snd.bind (hb S₁ WA GA.inv).holding fun c vc S₂ WB _ GB rB=>Snd.bind (hk S₂ WB GB.inv).holding fun i vi SA WC _ GC rC=>.stand ?_
  refine jS GC.inv (rB.le GB.inv GC.ext) fun ad c₀ c' h0 h1 h2 h3 Q hQ=>?_
  subst h1
  exact zAa (zA0 (wp_put h3 rC ((rA.le GB.ext).le GC.ext) h2 fun h' tk hs hc=>wpAny_release (hQ () h' tk hs hc fun _=>trivial)))
 rw [show (aE db fun c=>aE dk fun i=>aE (bH c (eW i a)) fun _=>af Fl.next)=aE (aE db fun c=>aE dk fun i=>aE (bH c (eW i a)) fun _=>af ()) fun _=>af .next from by
  rw [bO]; congr 1; funext c; rw [bO]; congr 1; funext i; rw [bO]; rfl]
 exact Snd.bind main.weak fun _ _ S₂ WB _ GB _=>.pure GB.inv trivial
end
section
variable {X:Fx} {W:Wd} {S:S}
theorem bX {x:Str} {v:Value} {p:Pos} {Q E:Value->Shared->Prop} (F:X.Ok) (I:Inv X S W) (hg:be X.nms x=true) (h:X.C.mg x=none/\X.C.mb x=some v) (hQ:Q v W.s):wpAny X.C.M X.A (eval (.Name x p) X.env) Q E W.s:=by
 rw [eval_Name _ _ _ (f9 (jQ hg))]
 exact zAa (zCl (jI F hg (Calls.loadGlobal_builtin (by rw [F.globals]; exact (I.st F).ns) h.1 (by rw [F.builtins]; exact (I.st F).nb) h.2 hQ)))
theorem dQ {x:Str} {v:Value} {p:Pos} {Q E:Value->Shared->Prop} (F:X.Ok) (I:Inv X S W) (hg:be X.nms x=true) (h:X.C.mg x=some v) (hQ:Q v W.s):wpAny X.C.M X.A (eval (.Name x p) X.env) Q E W.s:=by
 rw [eval_Name _ _ _ (f9 (jQ hg))]
 exact zAa (zCl (jI F hg (Calls.loadGlobal_global (by rw [F.globals]; exact (I.st F).ns) h hQ)))
theorem lz {es:List Expr} {ds:List (D AV)} {R:Wd->AV->Value->Prop} {pos:Pos} (h:TrE X R es ds):∀ {S S':Mine.S} {vs:List AV},bI ds S=.ok vs S'->(backTo pos (starEach es X.env)).any (·.1)=false:=by
 induction h with
 | nil=>exact fun _=>rfl
 | @cons e d es ds h t ih =>
  intro S S' vs hd
  by_cases hs:PySem.W.isStarred e=true
  ·rw [h.star hs] at hd; exact eN Out.ctorIdx hd rfl
  ·rw [bA hs]
   have hd:ax (d S) (fun v=>aE (bI ds) fun vs=>af (v::vs))=.ok vs S':=hd
   cases h1:d S with
   | stuck=>rw [h1] at hd; exact eN Out.ctorIdx hd rfl
   | exc c S₁=>rw [h1] at hd; exact eN Out.ctorIdx hd rfl
   | ok a S₁ =>
    rw [h1] at hd
    have hd:ax (bI ds S₁) (fun vs=>af (a::vs))=.ok vs S':=hd
    cases h2:bI ds S₁ with
    | stuck=>rw [h2] at hd; exact eN Out.ctorIdx hd rfl
    | exc c S₂=>rw [h2] at hd; exact eN Out.ctorIdx hd rfl
    | ok b S₂=>exact ih h2
theorem jC {γ:Type} {R₀:Wd->AV->Value->Prop} {R:Wd->γ->Value->Prop} (hR:∀ {S W W' a v},R₀ W a v->Inv X S W->EX X true W W'->R₀ W' a v) {f:Value} (hf:∀ a,f ≠ .ref a) {pos:Pos} {first:List Value} {es:List Expr} {ds:List (D AV)} {k:List AV->D γ} (h:TrE X R₀ es ds) (I:Inv X S W)
  (hk:∀ vs args S' W',Good X true W S' W'->RLs R₀ W' vs args->Snd X true R (call f (first++args)) (k vs S') W'):Snd X true R (callWith pos f first (backTo pos (starEach es X.env)) []) (ax (bI ds S) k) W:=by
 unfold callWith
 refine Snd.bind (fX (R:=R₀) hR h I).holding fun vs a S₁ WA e GA rA=>.stand ?_
 obtain ⟨ap,ak⟩:=a
 obtain ⟨rfl,rA⟩:ak=[]/\_:=rA
 simp only [lz h e,List.any_nil,Bool.or_false]
 rw [show keeperOf f=Pure.pure .machine from by cases f <;> first | rfl | exact absurd rfl (hf _)]
 refine .skip (fun _ _ q=>zAk q) ?_
 exact (hk vs ap S₁ WA GA rA).wp fun Q E q=>zAa (zAv q (fun _ _ q=>zAa (zA0 (wpAny_point (zAk q)))) fun _ _ q=>q)
noncomputable abbrev kwD (k:Nat) (q kp:Pos):Keyword:=⟨some ("default":Str),.Constant (.int 0) k q,kp⟩
theorem snd_callD {γ:Type} {R₀:Wd->AV->Value->Prop} {R:Wd->γ->Value->Prop} (hR:∀ {S W W' a v},R₀ W a v->Inv X S W->EX X true W W'->R₀ W' a v) {f:Value} (hf:∀ a,f ≠ .ref a) {pos q kp:Pos} {n:Nat} {e:Expr} {es:List Expr} {ds:List (D AV)} {k:List AV->D γ} (h:TrE X R₀ (e::es) ds) (I:Inv X S W)
  (hk:∀ vs args t S' W',Good X true W S' W'->RLs R₀ W' vs args->Snd X true R (call f args [(("default":Str),.int 0 t)]) (k vs S') W'):Snd X true R (callWith pos f [] (backTo pos (starEach (e::es) X.env)) (backToKw pos (keywordEach [kwD n q kp] X.env))) (ax (bI ds S) k) W:=by
 have key:Snd X true (fun W l a=>RLs R₀ W l a.pos/\∃ t,a.kw=[(("default":Str),.int 0 t)]) (evalArgs f true (backTo pos (starEach (e::es) X.env)) (backToKw pos (keywordEach [kwD n q kp] X.env))) (bI ds S) W:=by
  have hsp:=gI (R:=R₀) (pos:=pos) hR h S W I
  cases h with
  | cons h t =>
  by_cases hs:PySem.W.isStarred e=true
  ·rw [h.star hs]; exact .stk
  ·rw [bA hs] at hsp ⊢
   intro hne
   refine evalArgs_kwB rfl (zAv (hsp hne) (fun vs s' q=>?_) fun _ _ q=>q)
   cases q with
   | @mk b S' W' e g r =>
    have G:=g.inv.toks (ev:=true) (W'.s.toks+1)
    refine kws_cons (wpAny_Constant_int (kws_nil (.mk (W':=W'.to W'.h (W'.s.toks+1)) e (g.trans G) ⟨?_,_,rfl⟩)))
    have lift:∀ {l:List AV} {m:List Value},F2 (R₀ W') l m->F2 (R₀ (W'.to W'.h (W'.s.toks+1))) l m:=fun h=>by
     induction h with
     | nil=>exact .nil
     | cons h _ ih=>exact .cons (hR h g.inv G.ext) ih
    exact lift r
 unfold callWith
 refine Snd.bind key.holding fun vs a S₁ WA e₁ GA rA=>.stand ?_
 obtain ⟨ap,ak⟩:=a
 obtain ⟨rA,t,rfl⟩:_/\∃ t,ak=[(("default":Str),.int 0 t)]:=rA
 simp only [lz h e₁]
 rw [show keeperOf f=Pure.pure .machine from by cases f <;> first | rfl | exact absurd rfl (hf _)]
 refine .skip (fun _ _ q=>zAk q) ?_
 exact (hk vs ap t S₁ WA GA rA).wp fun Q E q=>zAa (zAv q (fun _ _ q=>zAa (zA0 (wpAny_point (zAk q)))) fun _ _ q=>q)
theorem dj {id:Str} {p pos:Pos} {args:List Expr}:eval (.Call (.Name id p) args [] pos) X.env=(do let f ← eval (.Name id p) X.env; callWith pos f [] (backTo pos (starEach args X.env)) []):=rfl
theorem derefs_spec:∀ {vs:List AV} {args:List Value},RLs (RQ X) W vs args->Inv X S W->gE vs S=.stuck ∨ ∃ cs,gE vs S=.ok cs S/\F2 (RP X.C W) cs args:=by
 intro vs args h I
 induction h with
 | nil=>exact .inr ⟨[],rfl,.nil⟩
 | @cons a v l m h t ih =>
  cases hd:aT a S with
  | none=>exact .inl (show ax (deref a S) _=_ by unfold deref; rw [hd]; rfl)
  | some c =>
   have e1:gE (a::l) S=ax (gE l S) fun cs=>af (c::cs):=show ax (deref a S) _=_ by unfold deref; rw [hd]; rfl
   rcases ih with q | ⟨cs,q,r⟩
   ·exact .inl (by rw [e1,q]; rfl)
   ·exact .inr ⟨c::cs,by rw [e1,q]; rfl,.cons (h.deref I hd) r⟩
theorem Inv.size (I:Inv X S W) (F:X.Ok):1 < W.h.objs.size:=by
 obtain ⟨o,_,_,h1,_⟩:=(I.st F).ns
 exact Nat.lt_trans (by decide) (zA5 h1:(3:Nat) < _)
theorem snd_bi (F:X.Ok) {b:BiE} {id:Str} {k:Bool} {t:Tok} (hb:aK id X.C.P.bi=some b) (hf:k=true ∨ b.free=true->X.T.free=true) {args:List Value} {vs:List AV} (I:Inv X S W) (r:RLs (RQ X) W vs args):Snd X true (RM X) (call b.val args (if k then [(("default":Str),.int 0 t)] else [])) (ax (gE vs S) fun cs=>Mine.opt (b.den k cs)) W:=by
 rcases derefs_spec r I with q | ⟨cs,q,r⟩
 ·rw [q]; exact .stk
 ·rw [q]
  have hm:(id,b) ∈ X.C.P.bi:=by rw [bJ] at hb; exact mem_of_lookup hb
  exact Snd.made I fun c hc=>(F.cx.bis _ hm).2 X.A W k t cs args c _ (fun z=>F.hd (hf z)) F.units (I.size F) r hc
theorem snd_call_bi (F:X.Ok) {b:BiE} {id:Str} {p pos:Pos} {es:List Expr} {ds:List (D AV)} (hg:be X.nms id=true) (hb:aK id X.C.P.bi=some b) (hn:fA (bZ X.C.P id)=true) (hf:b.free=true->X.T.free=true) (h:TrE X (RQ X) es ds):SndM X (.Call (.Name id p) es [] pos) (aS b false ds):=fun S W I=>by
 rw [dj]
 refine .skip (fun _ _ q=>bX F I hg (F.cx.bi id b hb hn) q) ?_
 have hm:(id,b) ∈ X.C.P.bi:=by rw [bJ] at hb; exact mem_of_lookup hb
 exact jC (R₀:=RQ X) (fun r I x=>r.le I x) (F.cx.bis _ hm).1 h I fun vs args S' W' G r=>snd_bi (k:=false) (t:=0) F hb (fun z=>hf (z.resolve_left zAq)) G.inv r
theorem oQ (F:X.Ok) (hq:X.T.free=true) {b:BiE} {id:Str} {p pos q kp:Pos} {n:Nat} {e:Expr} {es:List Expr} {ds:List (D AV)} (hg:be X.nms id=true) (hb:aK id X.C.P.bi=some b) (hn:fA (bZ X.C.P id)=true) (h:TrE X (RQ X) (e::es) ds):SndM X (.Call (.Name id p) (e::es) [kwD n q kp] pos) (aS b true ds):=fun S W I=>by
 show Snd X true (RM X) (eval (.Name id p) X.env >>= fun f=>callWith pos f [] (backTo pos (starEach (e::es) X.env)) (backToKw pos (keywordEach [kwD n q kp] X.env))) _ W
 refine .skip (fun _ _ q=>bX F I hg (F.cx.bi id b hb hn) q) ?_
 have hm:(id,b) ∈ X.C.P.bi:=by rw [bJ] at hb; exact mem_of_lookup hb
 exact snd_callD (R₀:=RQ X) (fun r I x=>r.le I x) (F.cx.bis _ hm).1 h I fun vs args t S' W' G r=>snd_bi (k:=true) (t:=t) F hb (fun _=>hq) G.inv r
noncomputable def itTy:ItK->String
 | .range=>"range" | .zip=>"zip" | .enum=>"enumerate"
theorem snd_itC (F:X.Ok) (hq:X.T.free=true):∀ k,SndC X k (.type (itTy k))
 | .range=>wp_range F hq
 | .zip=>wp_zip F hq
 | .enum=>wp_enum F hq
theorem itNames_std {id:Str} {k:ItK} (h:aK id itNames=some k):stdNames.lookup id=some (.type (itTy k)):=by
 rw [bJ] at h
 exact zDa.mp (show (itNames.map fun q=>stdNames.lookup q.1)=itNames.map fun q=>some (.type (itTy q.2)) by kernel_rfl) _ (mem_of_lookup h)
theorem snd_call_it (F:X.Ok) (hq:X.T.free=true) {k:ItK} {id:Str} {p pos:Pos} {es:List Expr} {ds:List (D AV)} (hg:be X.nms id=true) (hk:aK id itNames=some k) (hn:fA (bZ X.C.P id)=true) (h:TrE X (RV X) es ds):SndI X (.Call (.Name id p) es [] pos) (hU k ds):=fun S W I=>by
 rw [dj]
 refine .skip (fun _ _ q=>bX F I hg (F.cx.std id _ (itNames_std hk) hn) q) ?_
 exact jC (R₀:=RV X) (f:=.type (itTy k)) (first:=[]) (fun r _ x=>VRep.le r x) (fun a q=>nomatch q) h I fun vs args S' W' G r=>snd_itC F hq k S' W W' vs args G.ext G.inv r.v
theorem base_eq {o:Expr} {m:Str} {env:Env} {w:Sem Value} (h:fC o=true):attributeBase o m env w=w:=by
 rcases zB1.mp h with h | h
 ·rcases zB1.mp h with h | h
  ·exact Expr.Name.elim (motive_1:=fun o=>attributeBase o m env w=w) o (zBs h) fun _ _=>rfl
  ·exact Expr.Attribute.elim (motive_1:=fun o=>attributeBase o m env w=w) o (zBs h) fun _ _ _=>rfl
 ·exact Expr.Subscript.elim (motive_1:=fun o=>attributeBase o m env w=w) o (zBs h) fun _ _ _=>rfl
theorem pos_eq {o:Expr} {env:Env} {apos pos:Pos} (h:zA9 apos.endLine pos.line=true) {few:Bool}:methodCallPos few o env apos pos=Pure.pure pos:=by
 have:(apos.endLine == pos.line)=true:=by rw [beq_iff_eq]; exact beq_nat.mp h
 unfold methodCallPos
 rw [this,Bool.or_true,if_pos rfl]
theorem form_of {es:List Expr} {env:Env} {pos:Pos} {k:Nat} (hs:∀ e ∈ es,PySem.W.isStarred e=false) (hk:k < 30):methodCallForm k (backTo pos (starEach es env)) []=true:=by
 unfold methodCallForm
 have key:∀ es:List Expr,(∀ e ∈ es,PySem.W.isStarred e=false)->(backTo pos (starEach es env)).all (!·.1)=true:=by
  intro es
  induction es with
  | nil=>intro _; rfl
  | cons e es ih =>
   intro hs
   rw [bA (by rw [hs e zAb]; exact zAq)]
   exact ih fun e' h'=>hs e' (zAe _ h')
 rw [key es hs]
 simp [hk]
structure MtOk (o:Expr) (apos pos:Pos) (args:List Expr):Prop where
 base:fC o=true ∨ ∃ c k p,o=.Constant c k p
 line:zA9 apos.endLine pos.line=true
 star:∀ e ∈ args,PySem.W.isStarred e=false
 few:args.length < 30
theorem fR {R:Wd->AV->Value->Prop} {o:Expr} {m:Str} {apos pos:Pos} {args:List Expr} {dO:D AV} {k:AV->D AV} (hM:MtOk o apos pos args) (ho:Snd X true (RQ X) (eval o X.env) (dO S) W)
  (hk:∀ a va S₁ WA,dO S=.ok a S₁->Good X true W S₁ WA->RQ X WA a va->k a S₁ ≠ .stuck->∃ f first,(∀ pl (Q:Value × List Value->Shared->Prop) E,Q (f,first) WA.s->wpAny X.C.M X.A (getMethod va m pl) Q E WA.s)/\Snd X true R (callWith pos f first (backTo pos (starEach args X.env)) []) (k a S₁) WA) :
  Snd X true R (eval (.Call (.Attribute o m apos) args [] pos) X.env) (ax (dO S) k) W:=by
 have hb:attributeBase o m X.env (eval o X.env)=eval o X.env:=hM.base.elim base_eq fun ⟨c,k,p,q⟩=>by subst q; rfl
 rw [arm_eval_Call,hb]
 refine Snd.bind ho fun a va S₁ WA e₁ GA rA=>.stand fun hne=>?_
 obtain ⟨f,first,h1,h2⟩:=hk a va S₁ WA e₁ GA rA hne
 unfold methodCall PySem.calleeOf
 have hform:methodCallForm (args.length+([]:List Keyword).length) (backTo pos (starEach args X.env)) (backToKw pos (keywordEach [] X.env))=true:=form_of hM.star hM.few
 rw [hform]
 simp only [if_true,pos_eq hM.line]
 exact zAa (zA0 (h1 _ _ _ (zAa (zAk (h2 hne)))))
end
section
variable {X:Fx} {W:Wd} {S:S}
noncomputable def atOne {β:Type} (k:AV->D β) (vs:List AV):D β:=match vs with
 | [v]=>k v
 | _=>stk
theorem bind_one {β:Type} {d:D AV} {k:AV->D β}:ax (d S) k=ax (bI [d] S) (atOne k):=by
 show _=ax (ax (d S) _) _
 cases d S <;> rfl
theorem snd_one {γ:Type} {R₀:Wd->AV->Value->Prop} {R:Wd->γ->Value->Prop} (hR:∀ {S W W' a v},R₀ W a v->Inv X S W->EX X true W W'->R₀ W' a v) {f:Value} (hf:∀ a,f ≠ .ref a) {pos:Pos} {first:List Value} {e:Expr} {d:D AV} {k:AV->D γ} (h:ArgE X R₀ e d) (I:Inv X S W)
  (hk:∀ a v S' W',Good X true W S' W'->R₀ W' a v->Snd X true R (call f (first++[v])) (k a S') W'):Snd X true R (callWith pos f first (backTo pos (starEach [e] X.env)) []) (ax (d S) k) W:=by
 rw [bind_one]
 refine jC (R₀:=R₀) hR hf (.cons h .nil) I fun vs args S' W' G r=>?_
 cases r with
 | nil=>exact .stk
 | cons h t=>cases t with
  | nil=>exact hk _ _ S' W' G h
  | cons _ _=>exact .stk
theorem ckLst_spec {a:AV} (h:dE a S ≠ .stuck):dE a S=.ok () S/\∃ l,aT a S=some (.lst l):=by
 unfold dE at h ⊢
 cases hc:aT a S with
 | none=>rw [hc] at h; exact absurd rfl h
 | some c =>
  rw [hc] at h
  cases c <;> first | exact absurd rfl h | exact ⟨rfl,_,rfl⟩
theorem ck_bind {β:Type} {a:AV} {f:Unit->D β} (h:ax (dE a S) f ≠ .stuck):ax (dE a S) f=f () S/\∃ l,aT a S=some (.lst l):=by
 obtain ⟨e,q⟩:=ckLst_spec (S:=S) (a:=a) fun q=>h (by rw [q]; rfl)
 exact ⟨by rw [e]; rfl,q⟩
theorem wp_app {a w:AV} {ad:Addr} {v:Value} (I:Inv X S W) (r:RQ X W a (.ref ad)) (rv:VRep X.C W w v):Snd X true (RV X) (call (.builtin "list.append") [.ref ad,v]) (ax (bH a (pA w) S) fun _=>af .none) W:=by
 refine jS (R:=RV X) I r fun ad' c c' h0 h1 h2 h3 Q hQ=>?_
 cases h1
 obtain ⟨l',q1,q2⟩:=zAg.mp h2
 obtain rfl:=dq q1
 obtain ⟨hlen,rfl⟩:=dM q2
 obtain ⟨vs,n,hp,hsz,hv⟩:=h3
 refine wpAny_list_append_plain ⟨n,hp⟩ (fun h' hp' hs'=>hQ _ h' W.s.toks hs' (hp'.elim fun m q=>⟨_,m,q,?_,?_⟩) fun _=>rfl) hsz
 ·rw [Array.size_push,hv.size]; rw [zAc] at hlen; exact hlen
 ·rw [Array.toList_push]; exact hv.append (VReps.cons rv .nil)
theorem snd_append {o e:Expr} {apos pos:Pos} {dO de:D AV} (hM:MtOk o apos pos [e]) (ho:Snd X true (RQ X) (eval o X.env) (dO S) W) (he:ArgE X (RV X) e de) :
  Snd X true (RV X) (eval (.Call (.Attribute o "append" apos) [e] [] pos) X.env) (bY dO de S) W:=by
 refine fR hM ho fun a va S₁ WA e₁ GA rA hne=>?_
 obtain ⟨e1,l,hd⟩:=ck_bind hne
 obtain ⟨ad,rfl,vs,m,hob,hsz,hv⟩:=(rA.deref GA.inv hd).lst
 refine ⟨.builtin "list.append",[.ref ad],fun pl Q E q=>getMethod_builtin ⟨_,hob,rfl⟩ PySem.F.plainAttrs_list slot_list_append type_list_append (fun a e=>by cases e; exact ⟨_,hob,rfl⟩) q,?_⟩
 show Snd _ _ _ _ (ax (dE a S₁) fun _=>aE de fun v=>aE (bH a (pA v)) fun _=>af AV.none) _
 rw [e1]
 exact snd_one (R₀:=RV X) (f:=.builtin "list.append") (first:=[.ref ad]) (fun r _ x=>VRep.le r x) (fun a z=>nomatch z) he GA.inv fun w v S' W' G r=>wp_app G.inv (rA.le GA.inv G.ext) r
theorem VReps.dropLast {C:Cx} {l:List AV} {vs:List Value} (h:VReps C W l vs):VReps C W l.dropLast vs.dropLast:=by
 rw [List.dropLast_eq_take,List.dropLast_eq_take,h.length]
 exact h.take _
theorem opt_ne {α β:Type} {o:Option α} {f:α->D β} (h:ax (Mine.opt o S) f ≠ .stuck):∃ x,o=some x/\ax (Mine.opt o S) f=f x S:=by
 cases o with
 | none=>exact absurd rfl h
 | some x=>exact ⟨x,rfl,rfl⟩
theorem deref_ne {β:Type} {a:AV} {f:AV->D β} (h:ax (Mine.deref a S) f ≠ .stuck):∃ c,aT a S=some c/\ax (Mine.deref a S) f=f c S:=by
 unfold Mine.deref at h ⊢
 cases hd:aT a S with
 | none=>rw [hd] at h; exact absurd rfl h
 | some c=>exact ⟨c,rfl,rfl⟩
theorem snd_pop {o:Expr} {apos pos:Pos} {dO:D AV} (hM:MtOk o apos pos []) (ho:Snd X true (RQ X) (eval o X.env) (dO S) W) :
  Snd X true (RV X) (eval (.Call (.Attribute o "pop" apos) [] [] pos) X.env) (fU dO S) W:=by
 refine fR hM ho fun a va S₁ WA e₁ GA rA hne=>?_
 obtain ⟨c,hd,e1⟩:=deref_ne hne
 show ∃ f first,_/\Snd _ _ _ _ (ax (deref a S₁) fun c=>aE (Mine.opt (lastV c)) fun x=>aE (bH a popV) fun _=>af x) _
 have hne:ax (Mine.opt (lastV c) S₁) (fun x=>aE (bH a popV) fun _=>af x) ≠ .stuck:=fun q=>hne (e1.trans q)
 obtain ⟨x,hla,e2⟩:=opt_ne hne
 rw [e1]
 show ∃ f first,_/\Snd _ _ _ _ (ax (Mine.opt (lastV c) S₁) _) _
 rw [e2]
 obtain ⟨l,q1,hla'⟩:=zAg.mp hla
 obtain rfl:=dq q1
 clear hla
 have hla:l.getLast?=some x:=hla'
 obtain ⟨ad,rfl,vs,m,hob,hsz,hv⟩:=(rA.deref GA.inv hd).lst
 refine ⟨.builtin "list.pop",[.ref ad],fun pl Q E q=>getMethod_list_of F.slot_list_pop F.type_list_pop ⟨_,hob,rfl,m,rfl⟩ ⟨_,hob,rfl⟩ q,?_⟩
 refine jS (R:=RV X) GA.inv rA fun ad' c c' h0 h1 h2 h3 Q hQ=>?_
 cases h1
 rw [hd] at h0; cases h0
 cases h2
 have hlen:=hv.size
 rw [List.getLast?_eq_getElem?] at hla
 obtain ⟨y,hy,ry⟩:=hv.get hla
 refine P.pop_list (y:=y) hob (by rw [hlen]; simpa using hy) ?_ hsz
 have hp:=IsL.update hob fun xs=>xs.eraseIdxIfInBounds (vs.size - 1)
 have hpos:vs.size - 1 < vs.size:=by
  have:=(zAz.mp hla).1
  rw [← hlen] at this; exact this
 have he:vs.eraseIdxIfInBounds (vs.size - 1)=vs.eraseIdx (vs.size - 1) hpos:=by rw [Array.eraseIdxIfInBounds,dif_pos hpos]
 rw [he] at hp
 refine hQ y _ WA.s.toks (Heap.SameBut.update ..) ⟨_,_,hp,?_,?_⟩ fun g=>ry.mono g
 ·rw [Array.size_eraseIdx]; exact zAj (Nat.sub_le _ _) hsz
 ·rw [Array.toList_eraseIdx,show vs.toList.eraseIdx (vs.size - 1)=vs.toList.dropLast from by rw [← zBz,List.eraseIdx_length_sub_one]]
  exact hv.dropLast
end
section
variable {C:Cx} {W:Wd}
set_option tactic.hygienic true in
theorem kh:∀ {l:List AV} {vs:List Value} {ss:List Str},VReps C W l vs->eF l=some ss->∃ ps:List (Str × Tok),vs=strValues ps/\ps.map (·.1)=ss/\∀ x ∈ ss,PyData.strOk x=true
 | [],vs,ss,h,e=>by cases e; exact ⟨[],h,rfl,fun _ q=>nomatch q⟩
 | x::r,vs,ss,h,e=>by
  obtain ⟨v,vs',rfl,h1,h2⟩:=h
  cases x <;> first | (exact aD e; done) | skip
  rename_i x
  obtain ⟨ss',hr,rfl⟩:=zAo.mp e
  obtain ⟨ps,rfl,rfl,h3⟩:=kh h2 hr
  obtain ⟨q1,t,rfl⟩:=h1
  refine ⟨(x,t)::ps,rfl,rfl,fun y hy=>?_⟩
  rcases zAl.mp hy with rfl | hy
  ·exact q1.ok
  ·exact h3 y hy
theorem catS_len:∀ ss:List Str,(kJ ss).length=(ss.map (·.length)).sum
 | []=>rfl
 | x::r=>by
  show (x++kJ r).length=_
  rw [zA4,zCf,← catS_len r]
  show (x.cps++(kJ r).cps).size=_
  rw [Array.size_append]; rfl
theorem nZ:∀ ss:List Str,Str.join ⟨#[]⟩ ss=kJ ss
 | []=>rfl
 | [x]=>by show x=x++(⟨#[]⟩:Str); cases x; show (⟨_⟩:Str)=⟨_++#[]⟩; rw [Array.append_empty]
 | x::y::r=>by
  show x++⟨#[]⟩++Str.join ⟨#[]⟩ (y::r)=x++kJ (y::r)
  rw [nZ (y::r)]
  cases x; show (⟨_++#[]++_⟩:Str)=⟨_++_⟩; rw [Array.append_empty]
theorem catS_ok:∀ ss:List Str,(∀ x ∈ ss,PyData.strOk x=true)->PyData.strOk (kJ ss)=true
 | [],_=>by with_unfolding_all rfl
 | x::r,h=>iG (h x zAb) (catS_ok r fun y hy=>h y (zAe _ hy))
theorem wp_join {A:Around} {a c:AV} {v:Value} {t:Tok} {E:Value->Shared->Prop} (r:RP C W a v) (h:joinV a=some c):wpAny C.M A (call (.builtin "str.join") [.str ⟨#[]⟩ t,v]) (Made C W c) E W.s:=by
 obtain ⟨l,h1,h2⟩:=zAg.mp h
 obtain rfl:=dq h1
 obtain ⟨ss,hs,h3⟩:=zAg.mp h2
 obtain ⟨hlen,rfl⟩:=nB h3
 obtain ⟨ad,rfl,vs,m,hg,hsz,hv⟩:=r.lst
 obtain ⟨ps,hps,hss,hok⟩:=kh hv hs
 have hvs:vs=(strValues ps).toArray:=by rw [← hps]
 refine SC.join (l:=ps) (texts:=ss) ⟨_,hg,rfl,m,by rw [hvs]⟩ hss ?_ fun t' k=>.val (h:=W.h) (tk:=k) .refl rfl ?_
 ·unfold JoinOk
  rw [StrLaws.joinTotal]
  have:=catS_len ss
  have hz:(⟨#[]⟩:Str).length=0:=rfl
  rw [hz,Nat.mul_zero,Nat.add_zero,← this]
  unfold Builtin.Str.tooLong
  simpa using hlen
 ·exact ⟨⟨catS_ok ss hok,hlen⟩,t',by rw [← nZ,← StrLaws.glued_eq_join]; rfl⟩
end
section
variable {X:Fx} {W:Wd} {S:S}
theorem m8 {e:Expr} {x:Const} (h:conE e=some x):∃ k p,e=.Constant x k p:=by
 unfold conE at h
 by_cases q:e.ctorIdx=19
 ·rw [dif_pos q] at h
  exact Expr.Constant.elim (motive_1:=fun e=>∀ q:e.ctorIdx=19,Expr.Constant.elim (motive_1:=fun _=>Option Const) e q (fun x _ _=>some x)=some x->∃ k p,e=.Constant x k p) e q (fun y k p _ h=>⟨k,p,congrArg (Expr.Constant · k p) (Option.some.inj h)⟩) q h
 ·rw [dif_neg q] at h; exact aD h
theorem strC_some {c:Const} {x:Str} (h:strC c=some x):c=.str x:=by cases c <;> first | (exact aD h; done) | (cases h; rfl)
theorem nV {e:Expr} {x:Str} (h:strE e=some x):∃ k p,e=.Constant (.str x) k p:=by
 obtain ⟨c,h1,h2⟩:=zAg.mp h
 rw [← strC_some h2]; exact m8 h1
theorem ii {o:Expr} (h:dJ o=true):∃ k p,o=.Constant (.str ⟨#[]⟩) k p:=by
 unfold dJ at h
 cases hs:strE o with
 | none=>rw [hs] at h; exact ff h
 | some x =>
  rw [hs] at h; obtain ⟨k,p,rfl⟩:=nV hs
  have:x.cps.size=0:=beq_nat.mp h
  obtain rfl:x=⟨#[]⟩:=by cases x; congr; exact Array.eq_empty_of_size_eq_zero this
  exact ⟨k,p,rfl⟩
theorem snd_join {o e:Expr} {apos pos:Pos} {d:D AV} (hM:MtOk o apos pos [e]) (ho:dJ o=true) (h:ArgE X (RQ X) e d) (I:Inv X S W):Snd X true (RV X) (eval (.Call (.Attribute o "join" apos) [e] [] pos) X.env) (gk d S) W:=by
 obtain ⟨k,p,rfl⟩:=ii ho
 have hc:Snd X true (RQ X) (eval (.Constant (.str ⟨#[]⟩) k p) X.env) (af (.str ⟨#[]⟩) S) W:=((nF (X:=X) (c:=.str ⟨#[]⟩) (k:=k) (p:=p) S W I).of_eq (by
  show _=(if fz ⟨#[]⟩ then af (AV.str ⟨#[]⟩) else Mine.stk) S; rw [if_pos (by decide +kernel)])).mono fun W b a r=>.of r
 refine fR (k:=fun _=>gk d) hM hc fun a va S₁ WA e₁ GA rA hne=>?_
 cases e₁
 obtain ⟨_,t,rfl⟩:VRep X.C WA (.str ⟨#[]⟩) va:=rA
 refine ⟨.builtin "str.join",[.str ⟨#[]⟩ t],fun pl Q E q=>by with_reducible exact GM.join q,?_⟩
 exact snd_one (R₀:=RQ X) (f:=.builtin "str.join") (first:=[.str ⟨#[]⟩ t]) (fun r I x=>r.le I x) (fun a z=>nomatch z) h GA.inv fun w v S' W' G r=>.deref G.inv r fun c r'=>(Snd.made G.inv fun b hb=>wp_join r' hb).freeze
end
section
variable {C:Cx} {X:Fx} {W:Wd} {S:S}
theorem jt {f:Str} {v:AV}:∀ {l:List (Str × AV)},fV f (kK f v l)=some v
 | []=>by show (if seq f f then some v else none)=some v; rw [fi]; rfl
 | (y,w)::r=>by
  rw [setF_c]
  by_cases h:seq y f=true
  ·rw [if_pos h]; rw [jM]; rw [if_pos h]
  ·rw [if_neg h]; rw [jM]; rw [if_neg h]; exact jt
theorem eg {f g:Str} {v:AV} (hne:g ≠ f):∀ {l:List (Str × AV)},fV g (kK f v l)=fV g l
 | []=>by
  have:seq f g=false:=by rw [dC]; exact beq_eq_false_iff_ne.mpr (Ne.symm hne)
  show (if seq f g then some v else none)=none; rw [this]; rfl
 | (y,w)::r=>by
  rw [setF_c]
  by_cases h:seq y f=true
  ·rw [if_pos h]
   have:¬ seq y g=true:=fun q=>hne (by rw [← seq_iff.mp h,seq_iff.mp q])
   rw [jM,jM]; rw [if_neg this,if_neg this]
  ·rw [if_neg h]
   rw [jM,jM]
   by_cases hz:seq y g=true
   ·rw [if_pos hz,if_pos hz]
   ·rw [if_neg hz,if_neg hz]; exact eg hne
set_option tactic.hygienic true in
theorem getF_mem {f:Str} {v:AV}:∀ {l:List (Str × AV)},fV f l=some v->f ∈ l.map (·.1)
 | [],h=>nomatch h
 | (y,w)::r,h=>by
  unfold fV at h
  split at h
  ·rename_i q; rw [← seq_iff.mp q]; exact zAb
  ·exact zAe _ (getF_mem h)
theorem RQ.look (I:Inv X S W) {a o:AV} {v:Value} (r:RQ X W a v) (e:gf a S=some o):VRep X.C W o v:=by
 cases a <;> first | (obtain rfl:=Option.some.inj e; exact r) | skip
 obtain ⟨x,h1,rfl,h3⟩:=r
 have e:(match al (aJ x X.nms) S.loc with | some (.val v)=>some v | _=>none)=some o:=e
 cases hg:al (aJ x X.nms) S.loc with
 | none=>rw [hg] at e; exact aD e
 | some lv =>
  rw [hg] at e
  obtain ⟨v',q1,q2⟩:=I.f.vars x _ h1 hg
  obtain rfl:v=v':=h3.inj q1
  cases lv with
  | own c=>exact aD e
  | val w=>obtain rfl:=Option.some.inj e; exact q2
structure ObjAt (C:Cx) (W:Wd) (c:Str) (k:Nat) (l:List (Str × AV)) (x a d:Addr) (m:Str->Option Value) (o:Obj):Prop where
 cls:C.clsA c=some a
 is:InstO C c d o
 lab:W.labs[k]?=some d
 fr:W.free x
 ob:W.h.get? x=some o
 inst:W.h.Inst x a m
 ns:W.h.Ns1 d m
 rep:FRep C W l m
inductive ObjP (C:Cx) (W:Wd) (c:Str) (k:Nat) (l:List (Str × AV)) (v:Value):Prop
 | mk (x a d:Addr) (m:Str->Option Value) (o:Obj) (e:v=.ref x) (O:ObjAt C W c k l x a d m o)
theorem obj_at (I:Inv X S W) {c:Str} {k:Nat} {v:Value} {l:List (Str × AV)} (r:VRep X.C W (.obj c k) v) (hst:S.st[k]?=some (.flds l)):ObjP X.C W c k l v:=by
 obtain ⟨x,rfl,hf,o,d,h1,h2,h3⟩:=r
 obtain ⟨d',q1,m,q3,q4⟩:=I.c.objs k _ hst
 obtain rfl:=Option.some.inj (h2.symm.trans q1)
 obtain ⟨a,ha,hc⟩:=h3.cls
 exact ⟨x,a,d,m,o,rfl,⟨ha,h3,h2,hf,h1,⟨o,h1,hc,h3.nocls,.inr ⟨d,h3.dict,fun z=>hf.oth.lab (z ▸ cr h2),q3⟩⟩,q3,q4⟩⟩
set_option tactic.hygienic true in
theorem ki {a:AV} {k:Nat} {l:List (Str × AV)} (h:d8 a S=some (k,l)):∃ c,gf a S=some (.obj c k)/\S.st[k]?=some (.flds l):=by
 unfold d8 at h
 cases hl:gf a S with
 | none=>rw [hl] at h; exact aD h
 | some o =>
  rw [hl] at h
  cases o <;> first | (exact aD h; done) | skip
  rename_i c k'
  have h:(match S.st[k']? with | some (.flds l)=>some (k',l) | _=>none)=some (k,l):=h
  cases hs:S.st[k']? with
  | none=>rw [hs] at h; exact aD h
  | some o =>
   rw [hs] at h
   cases o with
   | cont _=>exact aD h
   | flds l'=>cases h; exact ⟨c,rfl,hs⟩
theorem handed {av:AV} {v:Value} (r:VRep C W av v):handedOut v=Pure.pure v:=by
 cases av <;> first | (obtain rfl:=r; rfl) | (obtain ⟨_,rfl⟩:=r; rfl) | (obtain ⟨_,_,rfl⟩:=r; rfl) | (obtain ⟨_,rfl,_⟩:=r; rfl) | exact r.elim
theorem rdFld_spec {a w:AV} {f:Str} {S':Mine.S} (h:nJ a f S ≠ .stuck):∃ k l av,d8 a S=some (k,l)/\fV f l=some av/\nJ a f S=.ok av S:=by
 unfold nJ at h ⊢
 cases hf:d8 a S with
 | none=>rw [hf] at h; exact absurd rfl h
 | some q =>
  obtain ⟨k,l⟩:=q
  rw [hf] at h
  dsimp only at h ⊢
  cases hg:fV f l with
  | none=>rw [hg] at h; exact absurd rfl h
  | some av=>exact ⟨k,l,av,rfl,hg,rfl⟩
theorem snd_getAttr {a:AV} {v:Value} {f:Str} (F:X.Ok) (hf:f ∈ X.C.P.flds) (I:Inv X S W) (r:RQ X W a v):Snd X true (RV X) (getAttr v f true) (nJ a f S) W:=fun hne=>by
 obtain ⟨k,l,av,hfl,hg,e⟩:=rdFld_spec (w:=.none) (S':=S) hne
 obtain ⟨c,hl,hst⟩:=ki hfl
 obtain ⟨x,ca,d,m,o,rfl,O⟩:=obj_at I (r.look I hl) hst
 cases O.rep with | mk non val mem =>
 obtain ⟨w,h1,h2⟩:=val f av hg
 obtain ⟨a',N,nm,q,bs,sn,sub,col,dd,k0,k1,k2,k3,k5,mN,z1,_,hC,hN,hfN,⟨hg1,hg2,_⟩,_⟩:=(I.st F).cl c O.is.isC
 obtain rfl:=Option.some.inj (O.cls.symm.trans z1)
 exact load_attr hC hN hg1 (hfN f hf) (F.cx.fld f hf) O.inst h1 (handed h2) (.mk (W':=W.to W.h (W.s.toks+1)) e (I.toks _) h2.tk)
theorem mC {e:Expr} {t:Expr × List Expr × List Keyword} (h:Mine.callE e=some t):∃ p,e=.Call t.1 t.2.1 t.2.2 p:=by
 unfold callE at h
 by_cases q:e.ctorIdx=16
 ·rw [dif_pos q] at h
  exact Expr.Call.elim (motive_1:=fun e=>∀ q:e.ctorIdx=16,Expr.Call.elim (motive_1:=fun _=>Option (Expr × List Expr × List Keyword)) e q (fun f a k _=>some (f,a,k))=some t->∃ p,e=.Call t.1 t.2.1 t.2.2 p) e q (fun f a k p _ h=>⟨p,by rw [← Option.some.inj h]⟩) q h
 ·rw [dif_neg q] at h; exact aD h
theorem fldBase_eq {o:Expr} {m:Str} {env:Env} {w:Sem Value} (h:kM o=true):attributeBase o m env w=w:=by
 rcases zB1.mp h with h | h
 ·obtain ⟨x,q⟩:=zA1.mp h
  obtain ⟨p,rfl⟩:=ck q; rfl
 ·cases hc:callE o with
  | none=>rw [hc] at h; exact ff h
  | some t =>
   rw [hc] at h
   obtain ⟨p,rfl⟩:=mC hc
   obtain ⟨f,a,k⟩:=t
   obtain ⟨h1,h2⟩:=zAn.mp h
   obtain ⟨x,q⟩:=zA1.mp h1
   obtain ⟨q',rfl⟩:=ck q
   cases a with
   | nil=>exact ff h2
   | cons _ _=>rfl
theorem snd_attr {o:Expr} {f:Str} {p:Pos} {d:D AV} (ho:kM o=true) (F:X.Ok) (hf:f ∈ X.C.P.flds) (h:jl X o d):SndE X (.Attribute o f p) (aw d f):=fun S W I=>by
 rw [arm_eval_Attribute,fldBase_eq ho]
 refine Snd.bind (h S W I) fun a va S₁ WA _ GA rA=>.stand ?_
 exact (snd_getAttr F hf GA.inv rA).wp fun Q E q=>zAa (zAv (zA0 q) (fun _ _ q=>zAa (wpAny_letTemporaryGo (zAk q))) fun _ _ q=>q)
theorem FRep.set {l:List (Str × AV)} {m:Str->Option Value} {f:Str} {av:AV} {v:Value} (h:FRep C W l m) (r:VRep C W av v) (hf:f ∈ C.P.flds):FRep C W (kK f av l) fun y=>if y=f then some v else m y:=by
 cases h with | mk non val mem =>
 refine .mk (fun y e=>?_) (fun y bv e=>?_) fun y bv e=>?_ <;> by_cases hy:y=f
 ·subst hy; rw [jt] at e; exact eN zBt e rfl
 ·rw [eg hy] at e; rw [if_neg hy]; exact non y e
 ·subst hy; rw [jt] at e; cases e; exact ⟨v,if_pos rfl,r⟩
 ·rw [eg hy] at e; rw [if_neg hy]; exact val y bv e
 ·exact hy ▸ hf
 ·rw [eg hy] at e; exact mem y bv e
theorem wrFld_spec {a w:AV} {f:Str} (h:ij a f w S ≠ .stuck):∃ k l,d8 a S=some (k,l)/\l.length<=100/\ij a f w S=.ok () ⟨S.loc,S.st.set k (.flds (kK f w l))⟩:=by
 unfold ij at h ⊢
 cases hf:d8 a S with
 | none=>rw [hf] at h; exact absurd rfl h
 | some q =>
  obtain ⟨k,l⟩:=q
  rw [hf] at h
  dsimp only at h ⊢
  by_cases hl:zCd l.length 100=true
  ·exact ⟨k,l,rfl,zBd hl,by rw [if_pos hl]⟩
  ·rw [if_neg hl] at h; exact absurd rfl h
theorem snd_setAttr {a av:AV} {v w:Value} {f:Str} (F:X.Ok) (hf:f ∈ X.C.P.flds) (I:Inv X S W) (r:RQ X W a v) (ra:VRep X.C W av w):Snd X true RU (setAttr v f w) (ij a f av S) W:=fun hne=>by
 obtain ⟨k,l,hfl,hlen,e⟩:=wrFld_spec hne
 obtain ⟨c,hl,hst⟩:=ki hfl
 obtain ⟨x,ca,d,m,o,rfl,O⟩:=obj_at I (r.look I hl) hst
 obtain ⟨a',N,nm,q,bs,sn,sub,col,dd,k0,k1,k2,k3,k5,mN,z1,_,hC,hN,hfN,⟨hg1,hg2,hg3⟩,_⟩:=(I.st F).cl c O.is.isC
 obtain rfl:=Option.some.inj (O.cls.symm.trans z1)
 have hx:=O.ob
 have hdict:=O.is.dict
 have hxC:x ≠ ca:=fun z=>by
  subst z
  rw [hC] at hx; cases hx
  exact O.is.nocls _ rfl
 refine store_attr PySem.F.store_object hC hN hg3 (hfN f hf) (F.cx.fld f hf) hxC O.inst (fun h' tk' I' hk hsame=>?_) (ns:=l.map (·.1)) (fun y hy=>?_) (by rw [zAd]; exact zAj hlen (by decide))
 ·obtain ⟨o₁,e1,e2,e3,e4,e5⟩:=hsame o hx
  have ho:o₁=o:=by
   have:=e5 d hdict
   cases o; cases o₁
   simp only at e2 e3 e4 this hdict
   subst e2 e3 e4
   rw [this,hdict]
  have hs:∀ b o',b ≠ d->W.h.get? b=some o'->h'.get? b=some o':=fun b o' hb e=>by
   by_cases hbx:b=x
   ·subst hbx
    rw [e] at hx; cases hx
    rw [e1,ho]
   ·exact hk b o' hbx (fun o₀ dx q1 q2=>by
     have q1':W.h.get? x=some o:=hx
     rw [q1] at q1'; cases q1'
     rw [hdict] at q2; cases q2; exact hb) e
  have hns:h'.Ns1 d fun y=>if y=f then some w else m y:=by
   obtain ⟨o',q1,_,_,q4⟩:=I'
   rw [e1] at q1; cases q1
   rw [ho] at q4
   rcases q4 with ⟨q,_⟩ | ⟨d',q,_,q5⟩
   ·rw [hdict] at q; exact eN zBt q rfl
   ·rw [hdict] at q; cases q; exact q5
  have mA:ModA W d h':=⟨fun z=>z.lab (cr O.lab),hs,hns.elim fun o q=>q.elim fun _ q=>q.elim fun _ q=>⟨o,q.1⟩⟩
  have g:Grow W (W.to h' tk'):=mA.grow
  exact .mk (W':=W.to h' tk') e (I.modL O.lab mA (o:=.flds (kK f av l)) ⟨_,hns,(O.rep.set ra hf).mono g⟩) trivial
 ·cases O.rep with | mk non val mem =>
  cases hg:fV y l with
  | none=>exact absurd (non y hg) hy
  | some av=>exact getF_mem hg
theorem sndS_setFld {x f:Str} {xp ap pos:Pos} {v:Expr} {d dv:D AV} (F:X.Ok) (hf:f ∈ X.C.P.flds) (hsw:swapsWith v (some (.Attribute (.Name x xp) f ap)) pos.line X.env=Pure.pure false)
  (h:jl X (.Name x xp) d) (hv:SndE X v dv):cY X (.Assign [.Attribute (.Name x xp) f ap] v pos) (aO d f dv):=fun hfn S W I=>by
 rw [plainObj_exec_Assign_Attribute _ _ _ _ _ hsw]
 refine .stand (Snd.bind (hv S W I).weak fun a va S₁ WA _ GA rA=>?_)
 rw [assign_Attribute]
 have main:Snd X true RU (do
   let ov ← holding [va] (eval (.Name x xp) X.env)
   standAt ap.atName
   holding [va,ov] (setAttr ov f va)
   release [va,ov] []) (aE d (fun o=>aE (ij o f a) fun _=>af ()) S₁) WA :=
  Snd.bind (h S₁ WA GA.inv).holding fun o vo S₂ WB _ GB rB=>.stand (Snd.bind (snd_setAttr F hf GB.inv rB (rA.le GB.ext)).holding fun _ _ SA WC _ GC _=>fun _=>wpAny_release (.mk rfl (.refl GC.inv) trivial))
 have e:(aE d fun o=>aE (ij o f a) fun _=>af Fl.next)=aE (aE d fun o=>aE (ij o f a) fun _=>af ()) fun _=>af .next:=by
  rw [bO]; congr 1; funext c; rw [bO]; rfl
 rw [e]
 exact Snd.bind main.weak fun _ _ S₂ WB _ GB _=>.pure GB.inv trivial
set_option tactic.hygienic true in
theorem snd_meth (F:X.Ok) (hq:X.T.free=true) {o:Expr} {m:Str} {apos pos:Pos} {args:List Expr} {dO:D AV} {ds:List (D AV)} (hm:m ∈ X.C.P.mths) (hM:MtOk o apos pos args) (ho:Snd X true (RQ X) (eval o X.env) (dO S) W) (he:TrE X (RV X) args ds) :
  Snd X true (RV X) (eval (.Call (.Attribute o m apos) args [] pos) X.env) (aW X.T dO m ds S) W:=by
 refine fR hM ho fun a va S₁ WA e₁ GA rA hne=>?_
 have IA:=GA.inv
 cases hlo:gf a S₁ with
 | none=>exact absurd (show ax (ix a S₁) _=_ by unfold ix; rw [hlo]; rfl) hne
 | some o' =>
  have e1:aE (ix a) (methK X.T m ds) S₁=methK X.T m ds o' S₁:=by unfold aE ix; rw [hlo]; rfl
  rw [e1] at hne ⊢
  cases o' <;> first | exact absurd rfl hne | skip
  rename_i c k
  unfold methK at hne ⊢
  dsimp only at hne ⊢
  cases hao:S₁.st[k]? with
  | none=>rw [hao] at hne; exact absurd rfl hne
  | some ao =>
   cases ao with
   | cont cc=>rw [hao] at hne; exact absurd rfl hne
   | flds l =>
    rw [hao] at hne
    dsimp only at hne ⊢
    by_cases hf:(X.T.P.find c m).isSome=true
    case neg=>rw [if_neg hf] at hne; exact absurd rfl hne
    rw [if_pos hf]
    have hob:=rA.look IA hlo
    obtain ⟨x,ca,d,mA,o',rfl,O⟩:=obj_at IA hob hao
    rw [F.P] at hf
    obtain ⟨fn,hfind⟩:=zA1.mp hf
    obtain ⟨a',N,nm,q,bs,sn,sub,col,dd,k0,k1,k2,k3,k5,mN,z1,_,hC,hN,hfN,⟨hg1,hg2,hg3⟩,hms⟩:=(IA.st F).cl c O.is.isC
    obtain rfl:=Option.some.inj (O.cls.symm.trans z1)
    obtain ⟨fa,of,f1,f2,f3,f4⟩:=hms m fn hfind
    have hsh:mA m=none:=by
     cases O.rep with | mk non val mem =>
     cases hgm:fV m l with
     | none=>exact non m hgm
     | some av=>exact absurd (mem m av hgm) (F.cx.mth m hm).2
    exact ⟨.ref fa,[.ref x],fun pl Q E hq=>method_of hC hN hg1 hg2 f2 f3 f4 (F.cx.mth m hm).1 O.inst hsh hq,iI F hq IA hfind f1 (fs:=[.obj c k]) he (VReps.cons hob .nil)⟩
end
section
variable {C:Cx} {X:Fx} {W:Wd} {S:S}
theorem Inv.newObj (I:Inv X S W) {x d:Addr} {o:Obj} {h':Heap} (g:Ge W.h h') (hx:W.h.get? x=none) (hd:W.h.get? d=none) (hne:d ≠ x) (hox:h'.get? x=some o) (hns:h'.Ns1 d fun _=>none) {c:Str} (hi:InstO X.C c d o) :
  ∃ W',W'.s={ W.s with heap:=h' }/\Good X true W ⟨S.loc,S.st++[.flds []]⟩ W'/\VRep X.C W' (.obj c S.st.length) (.ref x):=by
 obtain ⟨od,es,ep,q1,q2⟩:=id hns
 obtain ⟨G,gr⟩:=I.res (ev:=true) (tk:=W.s.toks) g hd q1
 have ho:(W.res h' W.s.toks d).own none=some d:=cB (own:=W.own) (k:=none) (a:=some d)
 have hr:ORep X.C (W.res h' W.s.toks d) d (.flds []):=⟨_,hns,.mk (fun _ _=>rfl) (fun _ _ q=>nomatch q) fun _ _ q=>nomatch q⟩
 have IA:=G.inv
 have GB:Good X true (W.res h' W.s.toks d) ⟨S.loc,S.st++[.flds []]⟩ ((W.res h' W.s.toks d).cel d):=⟨.cel ho,IA.c.cel ho hr,IA.f.mono (.cel ho) (fun _ q=>q) (fun o e=>⟨o,e,rfl⟩) (fun _ _ _ o e=>⟨o,e,rfl⟩) fun y a q=>⟨setV (own:=(W.res h' W.s.toks d).own) (r:=none) q,fun _ _ e=>e⟩⟩
 have fx:=(I.loose hx).fr
 refine ⟨_,rfl,G.trans GB,x,rfl,⟨⟨fun q=>(zA2.mp q).elim fx.oth.lab fun z=>hne (zAi.mp z).symm,fun k q=>?_⟩,fx.tmp,fx.fr⟩,o,d,hox,?_,hi⟩
 ·have q1:=aN (own:=(W.res h' W.s.toks d).own) q
  exact fx.oth.own k ((c9 (own:=W.own) (k:=none) (a:=some d) q1.1).symm.trans q1.2)
 ·show (W.labs++[d])[S.st.length]?=some d
  rw [I.c.len]; exact zCu
theorem callW {c:Addr} {rest:List Value}:(Code.builtin "type.__call__" ⟨.ref c::rest,[]⟩).weight=1/\(Code.builtin "type.__call__" ⟨.ref c::rest,[]⟩).envs=[]/\(Code.builtin "type.__call__" ⟨.ref c::rest,[]⟩).cUnits=1:=by
 refine ⟨?_,?_,?_⟩ <;> kernel_rfl
theorem snd_make (F:X.Ok) (hq:X.T.free=true) (I:Inv X S W) {c:Str} (hc:X.C.P.isCls c=true) {ca:Addr} (hca:X.C.clsA c=some ca) {vs:List AV} {args:List Value} (hv:VReps X.C W vs args)
  (hinit:∃ fn,X.C.P.find c "__init__"=some fn):Snd X true (RV X) (call (.ref ca) args) (dMake X.T c vs S) W:=by
 obtain ⟨K,hcall,hmk⟩:=F.make hq
 unfold dMake
 rw [hmk]
 dsimp only
 intro hne
 obtain ⟨fn,hfind⟩:=hinit
 obtain ⟨a',N,nm,q,bs,sn,sub,col,dd,k0,k1,k2,k3,k5,mN,z1,_,hC,hN,hfN,_,hms⟩:=(I.st F).cl c hc
 rw [hca] at z1; cases z1
 obtain ⟨fa,of,f1,f2,f3,f4⟩:=hms _ fn hfind
 have hr:au X.C.P K (X.n - 4) c "__init__" (.obj c S.st.length::vs) (S.st++[.flds []]) ≠ .stuck:=fun q=>hne (by rw [q]; rfl)
 have h4:4 < X.n:=by
  rcases Nat.lt_or_ge 4 X.n with h | h
  ·exact h
  ·rw [Nat.sub_eq_zero_of_le h] at hr
   exact absurd lE hr
 refine wpAny_call_obj_init PySem.F.objNew hC hN f2 f3 f4 fun h' x dx hm=>?_
 obtain ⟨o,hox,hoc,hond,hod⟩:=id hm.inst
 have hdict:=hm.dict o hox
 have hns:dx ≠ x/\h'.Ns1 dx fun _=>none:=by
  rcases hod with ⟨z,_⟩ | ⟨d',z,z2,z3⟩
  ·rw [hdict] at z; exact eN zBt z rfl
  ·rw [hdict] at z; cases z; exact ⟨z2,z3⟩
 obtain ⟨WB,e₂,GB,hob⟩:=I.newObj (x:=x) (d:=dx) (o:=o) hm.keeps hm.newX hm.newD hns.1 hox hns.2 ⟨⟨ca,hca,hoc⟩,hdict,hond,hc⟩
 have hw:=callW (c:=ca) (rest:=args)
 have hA:X.A.under (.builtin "type.__call__" ⟨.ref ca::args,[]⟩)={ X.A with depth:=X.A.depth+1,guards:=(X.A.under (.builtin "type.__call__" ⟨.ref ca::args,[]⟩)).guards,units:=X.A.units+1 }:=by
  unfold Around.under
  rw [hw.1,hw.2.1,hw.2.2]; rfl
 have hroom:Room (X.A.under (.builtin "type.__call__" ⟨.ref ca::args,[]⟩)) (X.n - 4):=by
  rw [hA]
  have h1:=F.room.1
  have h2:=F.room.2
  exact ⟨by show X.A.depth+1+(X.n - 4)<=900; lia,by show X.A.units+1+4 * (X.n - 4)<=7900; lia⟩
 have hcl:=hcall c "__init__" (.obj c S.st.length::vs) (S.st++[.flds []]) hr (X.A.under (.builtin "type.__call__" ⟨.ref ca::args,[]⟩)) X.frs WB.susp (.ref x::args) fa GB.inv.c.susp (fun _=>rfl) (VReps.mono .susp (VReps.cons hob (hv.le GB.ext))) f1 (F.hd hq) (by rw [hA]; exact F.frames) hroom
 have hz:X.A.handled.isNone=true:=by rw [F.hd hq]; rfl
 have e'A:WB.susp.s={ W.s with heap:=h' }:=e₂
 rw [e'A] at hcl
 refine wpAny_call (codeAny_mono hcl fun res s' hp=>?_)
 cases hp with
 | @ok a st' v W' e xx i oo r =>
  rw [e] at hne ⊢
  cases a <;> first | exact absurd rfl hne | skip
  obtain rfl:=r
  exact ⟨rfl,.mk (W':=WB.back W') rfl (GB.trans (GB.inv.back xx i)) (VRep.mono (GB.inv.back xx i).ext.grow hob)⟩
 | @exc ec st' v W' e xx i oo t =>
  rw [e]
  exact .mk (W':=WB.back W') rfl (GB.trans (GB.inv.back xx i)) (.yes (hz ▸ t.grow (.back GB.inv.c xx) rfl))
theorem pD (F:X.Ok) (hq:X.T.free=true) {id:Str} {p pos:Pos} {args:List Expr} {ds:List (D AV)} (hg:be X.nms id=true) (hc:X.C.P.isCls id=true) (hinit:∃ fn,X.C.P.find id "__init__"=some fn) (h:TrE X (RV X) args ds):SndE X (.Call (.Name id p) args [] pos) (kI X.T id ds):=fun S W I=>by
 obtain ⟨ca,N,nm,q,bs,sn,sub,col,dd,k0,k1,k2,k3,k5,mN,z1,z2,_⟩:=(I.st F).cl id hc
 rw [dj]
 refine .skip (fun _ _ q=>dQ F I hg z2 q) ?_
 unfold callWith
 refine Snd.bind (fX (R:=RV X) (fun r _ x=>VRep.le r x) h I).holding fun b a S' W' hd G' r=>.stand ?_
 simp only [lz h hd,List.any_nil,Bool.or_false]
 obtain ⟨ca',N',nm',q',bs',sn',sub',col',dd',l0,l1,l2,l3,l5,mN',y1,y2,hC',_⟩:=(G'.inv.st F).cl id hc
 rw [z1] at y1; cases y1
 obtain ⟨ap,ak⟩:=a
 obtain ⟨rfl,r⟩:ak=[]/\RLs (RV X) W' b ap:=r
 refine .skip (fun Q E hq=>wpAny_keeperOf_exc hC' hq) ?_
 exact (snd_make F hq G'.inv hc z1 (RLs.v r) hinit).wp fun Q E q=>zAa (zAv q (fun _ _ q=>zAa (zA0 (wpAny_point (zAk q)))) fun _ _ q=>q)
theorem snd_call_fn (F:X.Ok) (hq:X.T.free=true) {id:Str} {p pos:Pos} {args:List Expr} {ds:List (D AV)} {fn:Fn} (hg:be X.nms id=true) (hf:X.C.P.find ⟨#[]⟩ id=some fn) (h:TrE X (RV X) args ds):SndE X (.Call (.Name id p) args [] pos) (aX X.T id ds):=fun S W I=>by
 obtain ⟨fa,h1,h2⟩:=F.cx.fnG id fn hf
 rw [dj]
 exact .skip (fun _ _ q=>dQ F I hg h2 q) (iI F hq I hf h1 (fs:=[]) h .nil)
end
theorem wp_raiseNew {prog:Program} {w:World} {A:Around} {E:Value->Shared->Prop} {s:Shared} {α:Type} {e:Addr} {Q:α->Shared->Prop} (hh:A.handled=none) (hE:E (.ref e) s):wpAny (model prog w) A (raiseNew (.ref e):Sem α) Q E s:=by
 unfold raiseNew
 refine zAa (wpAny_handled ?_)
 rw [hh]
 first | exact wpAny_throw hE | exact zAa (zAk (wpAny_throw hE))
section
variable {M:Model} {A:Around} {E:Value->Shared->Prop} {env:Env}
variable {nm q:Str} {C N:Addr} {bs bm:List Value} {hdct:Bool} {sn:List Str} {sub:List Value} {ab:Bool} {col:Option Bool} {dd:Option Addr} {k0 k1 k2 k3 k5:Option Value} {newId:String}
theorem oV {s:Shared} {x:Sem Value} {Q:Flow->Shared->Prop} (hbase:bm.contains (.type "BaseException")=true)
  (h:wpAny M A x (fun v s₁=>∃ e t,v=.ref e/\s₁.heap.get? C=some (excClassObj nm q C N bs bm hdct sn sub ab col dd k0 k1 k2 k3 k5 newId) /\
   s₁.heap.get? e=some { cls:=.ref C,data:=.fields #[.ref t,.none,.none,.none,.bool false,.none] }/\wpAny M A (raiseNew (.ref e):Sem Flow) Q E s₁) E s) :
  wpAny M A (raiseStmt env (some x) none) Q E s:=by
 have hcB:(Value.ref C::bm).contains (.type "BaseException")=true:=by rw [List.contains_cons,hbase,Bool.or_true]
 unfold raiseStmt
 refine zAa (zAv h (fun v s₁ h₁=>?_) fun _ _ x=>x)
 obtain ⟨e,t,rfl,hC,he,hE⟩:=h₁
 obtain ⟨hp,g,d,tk,os⟩:=s₁
 repeat (first | with_reducible refine wpAny_loadPart_at he ?_ | with_reducible refine wpAny_loadPart_at hC ?_ | (with_reducible refine wpAny_isSubtype_exc hC ?_; rw [hcB]) | wp_step)
 exact hE
end
section
variable {X:Fx} {W:Wd} {S:S}
inductive XObj (h:Heap) (C:Addr) (bmB:List Value) (newId:String):Prop
 | mk (bm:List Value) (N:Addr) (nm q:Str) (bs:List Value) (hdct:Bool) (sn:List Str) (sub:List Value) (ab:Bool) (col:Option Bool) (dd:Option Addr) (k0 k1 k2 k3 k5:Option Value) (mN:Str->Option Value) (hC:h.get? C=some (excClassObj nm q C N bs bm hdct sn sub ab col dd k0 k1 k2 k3 k5 newId)) (hN:h.Ns N mN) (hni:mN "__init__"=none) (hT:OwnTail h bmB bm)
theorem xobj {x:Str} {C:Addr} {bm:List Value} {newId:String} {mg:Str->Option Value} {h:Heap} (O:OwnCls x C bm newId mg h):XObj h C bm newId:=by
 obtain ⟨tl,N,nm,q,bs,hdct,sn,sub,ab,col,dd,k0,k1,k2,k3,k5,mN,hC,hN,hni,hT⟩:=O.obj
 exact ⟨tl,N,nm,q,bs,hdct,sn,sub,ab,col,dd,k0,k1,k2,k3,k5,mN,hC,hN,hni,hT⟩
noncomputable abbrev xcObj (a t:Addr):Obj:={ cls:=.ref a,data:=.fields #[.ref t,.none,.none,.none,.bool false,.none] }
theorem excO_new {id:Str} {a t:Addr} (hx:X.C.P.isX id=true) (ha:X.C.clsA id=some a):ExcO X.C id (xcObj a t):=⟨⟨a,ha,rfl⟩,⟨rfl,⟨_,rfl⟩,.inl ⟨a,rfl⟩⟩,hx⟩
theorem mY {id m:Str} {k:Nat} {p p' cp:Pos} {Q E:Value->Shared->Prop} (F:X.Ok) (I:Inv X S W) (hx:X.C.P.isX id=true) (hg:be X.nms id=true)
  (hQ:∀ a h' tk e t,X.C.clsA id=some a->Ge W.h h'->W.h.get? e=none->h'.get? e=some (xcObj a t)->Q (.ref e) { W.s with heap:=h',toks:=tk }):wpAny X.C.M X.A (eval (.Call (.Name id p) [.Constant (.str m) k p'] [] cp) X.env) Q E W.s:=by
 obtain ⟨a,bm,newId,initId,B,hca,hO,hB⟩:=(I.st F).xc.own id hx
 obtain ⟨tl,N,nm,q,bs,hdct,sn,sub,ab,col,dd,k0,k1,k2,k3,k5,mN,hC,hN,hni,hT⟩:=xobj hO
 refine wpAny_Call_ofName (dQ F I hg hO.bound ?_)
 unfold callWith
 refine zAa (zA0 ?_)
 refine Calls.evalArgs_plain (spliced_more (e:=.Constant (.str m) k p') (rest:=[]) ?_)
 refine wpAny_Constant_str ?_
 refine spliced_none ?_
 refine zAa (zCl ?_)
 have hpl:(backTo cp (starEach [Expr.Constant (.str m) k p'] X.env)).any (·.1)=false:=rfl
 simp only [hpl]
 refine zAa (wpAny_keeperOf_exc (C:=a) hC ?_)
 refine zAa (wpAny_call_exc_subT hB hT hC hN hni fun h' e hmade=>zAa (zA0 (wpAny_point (zAk ?_))))
 obtain ⟨t,ht,_,_⟩:=hmade.there
 exact hQ a h' (W.s.toks+1) e t hca hmade.keeps hmade.new ht
theorem snd_newExc {id m:Str} {k:Nat} {p p' cp:Pos} (F:X.Ok) (hx:X.C.P.isX id=true) (hg:be X.nms id=true):SndE X (.Call (.Name id p) [.Constant (.str m) k p'] [] cp) (dExc id):=fun S W I _ =>
 mY F I hx hg fun a h' tk e t ha g n ht=>.mk (W':=W.to h' tk) rfl (I.ge g tk) ⟨e,rfl,(I.loose n).fr,_,ht,excO_new hx ha⟩
theorem sndS_raise {id m:Str} {k:Nat} {p p' cp pos:Pos} (F:X.Ok) (hq:X.T.free=true) (hx:X.C.P.isX id=true) (hg:be X.nms id=true) :
  cY X (.Raise (some (.Call (.Name id p) [.Constant (.str m) k p'] [] cp)) none pos) (rais id):=fun hf S W I _=>by
 obtain ⟨a,bm,newId,initId,B,hca,hO,hB⟩:=(I.st F).xc.own id hx
 obtain ⟨tl,N,nm,q,bs,hdct,sn,sub,ab,col,dd,k0,k1,k2,k3,k5,mN,hC,hN,hni,hT⟩:=xobj hO
 rw [arm_exec_Raise]
 refine zAa (zCl ?_)
 refine oV (C:=a) (nm:=nm) (q:=q) (N:=N) (bs:=bs) (bm:=tl) (hdct:=hdct) (sn:=sn) (sub:=sub) (ab:=ab) (col:=col) (dd:=dd) (k0:=k0) (k1:=k1) (k2:=k2) (k3:=k3) (k5:=k5) (newId:=newId) (hT.hasType hB.hasBase) ?_
 refine zAa (mY F I hx hg fun a' h' tk e t ha g n ht=>zAa (zCl (zAk ?_)))
 obtain rfl:=Option.some.inj (hca.symm.trans ha)
 have l:=I.loose n
 exact ⟨e,t,rfl,g _ _ hC,ht,wp_raiseNew (F.hd hq) (.mk (W':=W.to h' tk) rfl (I.ge g tk) (.no ⟨l.st,l.fr⟩ ⟨ht,excO_new hx hca,rfl,fun _=>rfl⟩ rfl))⟩
end
section
variable {X:Fx} {W W₀:Wd} {S:S} {e:Value}
noncomputable abbrev Fx.mark (X:Fx) (e:Value):Fx:=⟨X.C,X.T.inH,X.A.mark (some e),X.env,X.frs,X.fn,X.nms,X.n⟩
theorem Fx.Ok.mark (F:X.Ok):(X.mark e).Ok :=
 { cx:=F.cx,P:=F.P,call:=fun q=>(zAq q).elim,make:=fun q=>(zAq q).elim,hd:=fun q=>(zAq q).elim,frames:=F.frames,kind:=F.kind,loc:=F.loc,cel:=F.cel,glob:=F.glob,fcell:=F.fcell,inj:=F.inj,cl:=F.cl,room:=F.room,globals:=F.globals,builtins:=F.builtins,frm:=F.frm }
theorem Inv.mark (I:Inv X S W):Inv (X.mark e) S W:=⟨I.c,I.f.lc,I.f.ns,I.f.cells,fun x lv h q=>(I.f.vars x lv h q).imp fun v z=>⟨by cases z.1 with
 | loc k n e=>exact .loc k n e
 | cell k l e=>exact .cell k l e,z.2⟩⟩
theorem Inv.unmark (I:Inv (X.mark e) S W):Inv X S W:=⟨I.c,I.f.lc,I.f.ns,I.f.cells,fun x lv h q=>(I.f.vars x lv h q).imp fun v z=>⟨by cases z.1 with
 | loc k n e=>exact .loc k n e
 | cell k l e=>exact .cell k l e,z.2⟩⟩
theorem Good.unmark {ev:Bool} (G:Good (X.mark e) ev W₀ S W):Good X ev W₀ S W:=⟨G.ext,G.inv.unmark⟩
structure HOk (X:Fx) (h:ExceptHandler) (q:Str × D Fl):Prop where
 is:∃ p b₀ bs pos,h=.ExceptHandler (some (.Name q.1 p)) none (b₀::bs) pos/\∀ e,eJ (X.mark e) (b₀::bs) q.2
 isX:X.C.P.isX q.1=true
 glob:be X.nms q.1=true
theorem noExc_ok {o:Out Fl} (h:nG o ≠ .stuck):∃ f S',o=.ok f S'/\nG o=.ok f S':=by
 cases o with
 | ok f S'=>exact ⟨f,S',rfl,rfl⟩
 | exc c S'=>exact absurd rfl h
 | stuck=>exact absurd rfl h
theorem wp_handle (F:X.Ok) (hf:X.fn=true) {c:Str} {v:Value} {hs:List ExceptHandler} {hs':Hs} (h:F2 (HOk X) hs hs') (G:Good X false W₀ S W) (t:IsTraced X.A.handled.isNone X.C W c v) (hne:ie X.T.P.sub c S hs' ≠ .stuck) :
  wpAny X.C.M X.A (handleBy v X.env hs) (OkP X false (RF X) W₀ (ie X.T.P.sub c S hs')) (ErP X false W₀ (ie X.T.P.sub c S hs')) W.s:=by
 induction h with
 | nil=>exact wpAny_handleBy_nil (om (.refl G.inv) t fun W' G' t'=>.mk rfl (G.trans G'.weak) (.yes t'))
 | @cons h₀ q r r' h t' ih =>
  obtain ⟨d,b⟩:=q
  obtain ⟨⟨p,b₀,bs,pos,rfl,hsb⟩,hxd,hgd⟩:=h
  have I:=G.inv
  cases t with
  | @mk e T oe oT vs ts fl l lT x tb =>
  refine wpAny_handleBy_cons ?_ (by intro q; exact eN Value.ctorIdx q rfl)
  obtain ⟨a,hca,hoc⟩:=x.is.cls
  obtain ⟨bd,_,_,_,_,hbd,hOd,_⟩:=(I.st F).xc.own d hxd
  refine codeAny_handlers_test (dQ (X:=X.mark (.ref e)) F.mark I.mark hgd hOd.bound ?_)
  refine (I.st F).xc.mat c d a bd x.is.isX hxd hca hbd e oe _ _ _ W.s rfl x.obj hoc ?_
  have ho:ie X.T.P.sub c S ((d,b)::r')=if X.T.P.sub c d then nG (b S) else ie X.T.P.sub c S r':=rfl
  rw [ho,F.P] at hne ⊢
  cases hm:X.C.P.sub c d with
  | false =>
   rw [hm,if_neg zAq] at hne
   rw [if_neg zAq]
   rw [← F.P] at hne ⊢
   exact ih hne
  | true =>
   rw [hm,if_pos rfl] at hne
   rw [if_pos rfl]
   obtain ⟨f,S',e1,e2⟩:=noExc_ok hne
   refine codeAny_handlers_suite (cT (X:=X.mark (.ref e)) (.refl I.mark) (.mk l lT x tb) fun WA GA tA=>?_)
   have hrun:=hsb (.ref e) hf S WA GA.inv (show b S ≠ _ by rw [e1]; exact nofun)
   dsimp only at hrun
   rw [e2]
   rw [e1] at hrun
   refine zAv hrun (fun fl sA q=>?_) fun _ _ q=>?_
   ·cases q with | mk e g r=>exact .mk e (G.trans (GA.weak.trans g).unmark) r
   ·cases q with | mk e g t=>exact eN Out.ctorIdx e rfl
theorem sndS_try (F:X.Ok) {body:List Stmt} {hs:List ExceptHandler} {hs':Hs} {pos:Pos} {db:D Fl} (hb:eJ X body db) (hh:F2 (HOk X) hs hs') (h0:hs ≠ []):cY X (.Try body hs [] [] pos) (kD X.T db hs'):=fun hf S W I=>by
 obtain ⟨h₀,r,rfl⟩:∃ h₀ r,hs=h₀::r:=by cases hs with | nil=>exact absurd rfl h0 | cons a b=>exact ⟨a,b,rfl⟩
 have hrun:=hb hf S W I
 unfold kD
 intro hne
 have h1:db S ≠ .stuck:=fun q=>hne (by rw [q]; rfl)
 refine wpAny_Try_except (zAv (hrun h1) (fun fl s₁ q=>?_) fun e s₁ q=>?_)
 ·cases q with
  | @mk f S₁ WA e g r =>
  have e':tryO X.T (db S) hs'=.ok f S₁:=by rw [e]; rfl
  rw [e']
  cases fl with
  | next=>rw [execs_nil]; exact zAk (.mk rfl g r)
  | _=>exact .mk rfl g r
 ·cases q with
  | @mk c S₁ WA e g t =>
  have e':tryO X.T (db S) hs'=ie X.T.P.sub c S₁ hs':=by rw [e]; rfl
  rw [e'] at hne ⊢
  exact dB F (.refl g.inv) t fun WB GB tB=>cT (.refl GB.inv) tB fun WC GC tC=>wp_handle F hf hh (g.trans (GB.trans GC).weak) tC hne
theorem sndS_expr (F:X.Ok) {f:Expr} {args:List Expr} {kws:List Keyword} {p pos:Pos} {d:D AV} (h:SndE X (.Call f args kws p) d):cY X (.Expr (.Call f args kws p) pos) (c8 d):=fun hf S W I=>by
 have hi:interactive X.env=false:=by unfold interactive; rw [F.kind]; rfl
 rw [exec_Expr _ _ _ hi rfl]
 exact .stand (Snd.bind (h S W I).weak fun a va S₁ WA _ GA rA=>fun _=>wpAny_dropValue (.mk rfl (.refl GA.inv) trivial))
end
section
variable {X:Fx} {W:Wd} {S:S}
noncomputable def whK (dt:D AV) (dbody:D Fl) (m:Nat):Bool->D Fl:=fun c=>if c then aE dbody (fun f=>match f with | .next=>bD dt dbody m | .ret v=>af (.ret v)) else af .next
theorem while_eq {dt:D AV} {dbody:D Fl} {m:Nat}:bD dt dbody (m+1) S=ax (trd dt S) (whK dt dbody m):=(congrFun (bO dt (fun v=>Mine.opt (d4 v)) _) S).symm
theorem sndS_while (F:X.Ok) {t:Expr} {body:List Stmt} {p:Pos} {dt:D AV} {dbody:D Fl} (ht:SndT X t dt) (hb:eJ X body dbody) (k:Nat):cY X (.While t body [] p) (bD dt dbody k):=fun hf S W I hne=>by
 have hE:∀ e s',ErT X false W (bD dt dbody k S) e s'->cameBackBy X.C.M X.A X.env (ErP X false W (bD dt dbody k S)) e s':=fun e s' q=>by
  cases q with | mk e g t=>exact jV (.refl g.inv) t fun W'' G'' t''=>.mk e (g.trans G''.weak) (.yes t'')
 refine wpAny_While (codeAny_whileLoop (fun m s'=>∃ W' S',W'.s=s'/\Good X false W S' W'/\bD dt dbody m S'=bD dt dbody k S) ?_ k ⟨W,S,rfl,.refl I,rfl⟩)
 generalize bD dt dbody k S=o at hne hE
 rintro m _ ⟨WA,S₁,rfl,GA,ho⟩
 cases m with
 | zero=>exact absurd ho.symm hne
 | succ m =>
  rw [while_eq] at ho
  have h1:trd dt S₁ ≠ .stuck:=fun q=>hne (by rw [← ho,q]; rfl)
  refine zAv (ht S₁ WA GA.inv h1) (fun b s₂ q=>?_) fun e s₂ q=>?_
  ·cases q with
   | @mk c S₂ WB e₂ GB rB =>
   obtain rfl:c=b:=rB
   rw [e₂] at ho
   have G'A:=GA.trans GB.weak
   cases c with
   | false =>
    rw [if_neg nofun,execs_nil]
    exact zAk (.mk ho.symm G'A trivial)
   | true =>
    rw [if_pos rfl]
    have ho:ax (dbody S₂) (fun f=>match f with | .next=>bD dt dbody m | .ret v=>af (.ret v))=o:=ho
    have h2:dbody S₂ ≠ .stuck:=fun q=>hne (by rw [← ho,q]; rfl)
    refine zAv (hb hf S₂ WB GB.inv h2) (fun fl sA q=>?_) fun e sA q=>?_
    ·cases q with
     | @mk f SA WC e₃ GC rC =>
     rw [e₃] at ho
     cases f <;> cases fl <;> first | exact rC.elim | skip
     ·exact ⟨m,zCe m,WC,SA,rfl,G'A.trans GC,ho⟩
     ·exact .mk ho.symm (G'A.trans GC) rC
    ·cases q with
     | mk e₃ GC tC=>exact hH (R:=fun r s'=>match r with | .ok f=>OkP X false (RF X) W o f s' | .error e=>cameBackBy X.C.M X.A X.env (ErP X false W o) e s') F (o:=o) (by rw [← ho,e₃]; rfl) (G'A.trans GC) tC hE
  ·cases q with
   | mk e₂ GB tB=>exact hH (R:=fun r s'=>match r with | .ok f=>OkP X false (RF X) W o f s' | .error e=>cameBackBy X.C.M X.A X.env (ErP X false W o) e s') F (o:=o) (by rw [← ho,e₂]; rfl) (GA.trans GB.weak) tB hE
end
noncomputable def eK:Ty->String
 | .tuple=>"tuple" | .int=>"int" | .bool=>"bool" | .str=>"str"
theorem tyNames_std {t:Str} {k:Ty} (h:aK t tyNames=some k):stdNames.lookup t=some (.type (eK k)):=by
 rw [bJ] at h
 exact zDa.mp (show (tyNames.map fun q=>stdNames.lookup q.1)=tyNames.map fun q=>some (.type (eK q.2)) by kernel_rfl) _ (mem_of_lookup h)
noncomputable def tyNs:Nat->String
 | 0=>"NoneType" | 1=>"bool" | 2=>"int" | 3=>"str" | _=>"tuple"
theorem ty_meta (t:Ty):typeOf (.type (eK t))=Pure.pure (.type "type"):=by cases t <;> kernel_rfl
noncomputable abbrev SubT (n:Nat) (t:Ty):Prop:=isSubtype (.type (tyNs n)) (.type (eK t))=Pure.pure (subN n t.no)/\(subN n t.no=true ∨ (Value.type (tyNs n) == Value.type (eK t))=false)
theorem sub_tab (t:Ty):∀ n,n<=4->SubT n t
 | 0,_ | 1,_ | 2,_ | 3,_ | 4,_=>by cases t <;> exact ⟨by rw [isSubtype_type]; kernel_rfl,by decide +kernel⟩
 | n+5,h=>absurd h (by lia)
section
variable {C:Cx} {A:Around} {W:Wd}
theorem Made.boolk {b:Bool} {tk:Nat}:Made C W (.bool b) (.bool b) { W.s with toks:=tk }:=.val (h:=W.h) (tk:=tk) .refl rfl rfl
theorem isi_no {a:AV} {v:Value} {t:Ty} {E:Value->Shared->Prop} (r:RP C W a v) (h:zCd (tyNo a) 4=true):W.s.TypeIs v (tyNs (tyNo a))/\((Value.type (tyNs (tyNo a)) == Value.type (eK t))=false->isSubtype (.type (tyNs (tyNo a))) (.type (eK t))=Pure.pure false->wpAny C.M A (call (.builtin "isinstance") [v,.type (eK t)]) (Made C W (.bool false)) E W.s):=by
 have hm:=ty_meta t
 have fin:∀ tk,Made C W (.bool false) (.bool false) { W.s with toks:=tk }:=fun tk=>.boolk
 cases a <;> first | exact ff h | skip
 ·obtain rfl:=hW r rfl
  exact ⟨rfl,fun hq hs=>call_isinstance (isinstance_false_none hq hm hs) (fin _)⟩
 ·obtain rfl:=r.bool
  exact ⟨rfl,fun hq hs=>call_isinstance (isinstance_false_bool hq hm hs) (fin _)⟩
 ·obtain ⟨_,rfl⟩:=r.int
  exact ⟨rfl,fun hq hs=>call_isinstance (isinstance_false_int hq hm hs) (fin _)⟩
 ·obtain ⟨_,_,rfl⟩:=r.str
  exact ⟨rfl,fun hq hs=>call_isinstance (isinstance_false_str hq hm hs) (fin _)⟩
 ·obtain ⟨ad,rfl,vs,m,ho,hsz,hv⟩:=r.tup
  exact ⟨⟨_,ho,rfl⟩,fun hq hs=>call_isinstance (isinstance_false_tuple hq hm hs) ⟨⟨_,ho,rfl⟩,fin _⟩⟩
theorem wp_isi {a:AV} {v:Value} {t:Ty} {b:Bool} {E:Value->Shared->Prop} (r:RP C W a v) (h:fh t a=some b) :
  wpAny C.M A (call (.builtin "isinstance") [v,.type (eK t)]) (Made C W (.bool b)) E W.s:=by
 obtain ⟨hk,rfl⟩:=bu h
 obtain ⟨hs,hq⟩:=sub_tab t _ (zBd hk)
 obtain ⟨h1,h2⟩:=isi_no (A:=A) (t:=t) (E:=E) r hk
 cases hb:subN (tyNo a) t.no with
 | true=>rw [hb] at hs; exact call_isinstance_yes h1 (ty_meta t) hs .boolk
 | false =>
  rw [hb] at hs hq
  exact h2 (hq.resolve_left zAq) hs
end
section
variable {X:Fx} {W:Wd} {S:S}
theorem bind_pur {α:Type} {o:Out α}:ax o af=o:=by cases o <;> rfl
theorem pQ (F:X.Ok) {id t:Str} {k:Ty} {p q pos:Pos} {e:Expr} {d:D AV} (hg:be X.nms id=true) (hid:seq id "isinstance"=true) (hno:fA (bZ X.C.P id)=true) (hgt:be X.nms t=true) (hnt:fA (bZ X.C.P t)=true) (hk:aK t tyNames=some k) (he:ArgE X (RQ X) e d):SndE X (.Call (.Name id p) [e,.Name t q] [] pos) (gp d (fh k)):=fun S W I=>by
 by_cases hst:PySem.W.isStarred e=true
 ·rw [he.star hst]; exact .stk
 rw [dj]
 refine .skip (fun _ _ q=>bX F I hg (F.cx.std id (.builtin "isinstance") (by rw [seq_iff.mp hid]; kernel_rfl) hno) q) ?_
 have key:Snd X true (fun W b a=>a.kw=[]/\∃ v,a.pos=[v,.type (eK k)]/\RQ X W b v) (evalArgs (.builtin "isinstance") true (backTo pos (starEach [e,.Name t q] X.env)) []) (d S) W:=by
  rw [bA hst,bA (e:=.Name t q) (fun z=>nomatch z)]
  have key:Snd X true (fun W b a=>∃ v,a=[v,.type (eK k)]/\RQ X W b v) (spliced (backTo pos ((false,eval e X.env)::(false,eval (.Name t q) X.env)::starEach [] X.env))) (ax (d S) af) W :=
   Snd.bind (he.snd S W I) fun a va S₁ WA _ GA rA=>.skip (a:=_) (fun _ _ q=>zAk q) (.skip (a:=[.type (eK k)]) (fun Q E q=>zA0 (zAa (bX F GA.inv hgt (F.cx.std t _ (tyNames_std hk) hnt) (zAa (zAk (zAa (zA0 (zAk (zAk q))))))))) (.pure GA.inv ⟨va,rfl,rA⟩))
  rw [bind_pur] at key
  exact fun hne=>Calls.evalArgs_plain (zAv (key hne) (fun vs s' q=>by cases q with | mk e g r=>exact .mk e g ⟨rfl,r⟩) fun _ _ q=>q)
 unfold callWith
 refine Snd.bind key.holding fun a ar S₁ WA _ GA rA=>.stand ?_
 obtain ⟨ap,ak⟩:=ar
 obtain ⟨rfl,v,rfl,rA⟩:ak=[]/\∃ v,ap=[v,.type (eK k)]/\RQ X WA a v:=rA
 have hpl:(backTo pos (starEach [e,.Name t q] X.env)).any (·.1)=false:=by
  rw [bA hst]; rfl
 simp only [hpl,List.any_nil,Bool.or_false]
 refine .skip (a:=.machine) (fun _ _ q=>zAk q) (.deref GA.inv rA fun c rc=>?_)
 refine Snd.wp ((Snd.made GA.inv fun b hb=>?_).freeze:Snd X true (RV X) (call (.builtin "isinstance") [v,.type (eK k)]) (Mine.opt ((fh k c).map .bool) S₁) WA) fun Q E q=>zAa (zAv q (fun _ _ q=>zAa (zA0 (wpAny_point (zAk q)))) fun _ _ q=>q)
 obtain ⟨b',hb',rfl⟩:=zAo.mp hb
 exact wp_isi rc hb'
end
theorem nolen_rv:typeLookup (.type "list_reverseiterator") "__len__"=pure none:=by rw [typeLookup_type,builtinLookup_eq_fast]; kernel_rfl
theorem hint_rv:typeLookup (.type "list_reverseiterator") "__length_hint__"=pure (some (.builtin "list_reverseiterator.__length_hint__")):=by rw [typeLookup_type,builtinLookup_eq_fast]; kernel_rfl
section
variable {prog:Program} {w:World} {A:Around} {E:Value->Shared->Prop} {s:Shared}
theorem mQ {Q:Value->Shared->Prop} {I l:Addr} {items:Array Value} (hh:A.handled=none) (hit:s.heap.IsRevIter I l ((items.size:Int) - 1)) (hl:s.heap.IsList l items) (hne:l ≠ I) (hn:items.size<=sizeLine)
  (hQ:∀ h' tk acc' c',(∀ b o,b ≠ I->s.heap.get? b=some o->h'.get? b=some o)->h'.get? s.heap.objs.size=some { cls:=.type "list",dict:=none,data:=.seq acc' c',slots:=#[] } ->
   ItemsOf (fun i v=>items[items.size - 1 - i]?=some v) acc' items.size->Q (.ref s.heap.objs.size) { s with heap:=h',toks:=tk }) :
  wpAny (model prog w) A (call (.type "list") [.ref I]) Q E s:=by
 have hIlt:I < s.heap.objs.size:=by obtain ⟨o,ho,_⟩:=hit; exact zA5 ho
 have hllt:l < s.heap.objs.size:=by obtain ⟨o,ho,_⟩:=hl; exact zA5 ho
 have hSI:s.heap.objs.size ≠ I:=zCh hIlt
 have hSf:s.heap.objs.size ∉ [I,l]:=fun hm=>(zAl.mp hm).elim hSI fun h=>zCh hllt (zAi.mp h)
 refine callType_codes (Q₁:=fun obj s₁=>obj=.ref s.heap.objs.size/\s₁={ s with heap:=s.heap.push { cls:=.type "list",data:=.seq #[] } }) F.called_list (F.typeCall_list_1 _) F.entry_list_init
  (code_list_new _ ⟨rfl,rfl⟩) fun obj s₁ h₁=>?_
 obtain ⟨rfl,rfl⟩:=h₁
 have hS:(s.heap.push { cls:=.type "list",data:=.seq #[] }).get? s.heap.objs.size=some { cls:=.type "list",data:=.seq #[] }:=zAu _ rfl
 refine ⟨⟨_,hS,rfl⟩,F.args_list_init_2 _ _,?_⟩
 show wpAny _ _ (do let old ← Builtin.List.listItems (.ref s.heap.objs.size); Builtin.List.listUpdate (.ref s.heap.objs.size) (fun _=>#[]); PySem.letGo old.toList.reverse; Builtin.List.listExtendWith (.ref s.heap.objs.size) (.ref I) .none) _ _ _
 refine zAa ?_
 unfold Builtin.List.listItems
 refine zAa (zBw hS rfl (zAk ?_))
 show wpAny _ _ (updateSeq s.heap.objs.size (fun _=>#[]) >>= fun _=>PySem.letGo (#[]:Array Value).toList.reverse >>= fun _=>Builtin.List.listExtendWith (.ref s.heap.objs.size) (.ref I) .none) _ _ _
 refine zAa (wpAny_updateSeq hS rfl ?_)
 have hSA:=zCv (Obj.mapSeq (fun _=>(#[]:Array Value))) hS rfl
 have oth:∀ b o,s.heap.get? b=some o->((s.heap.push { cls:=.type "list",data:=.seq #[] }).update s.heap.objs.size (Obj.mapSeq (fun _=>(#[]:Array Value)))).get? b=some o :=
  fun b o e=>(zBf _ _ (zCh (zA5 e))).trans (zAh _ e)
 refine zAa (zDg ?_)
 have hstA:0<=items.size/\((s.heap.push { cls:=.type "list",data:=.seq #[] }).update s.heap.objs.size (Obj.mapSeq (fun _=>(#[]:Array Value)))).IsRevIter I l ((items.size:Int) - 1 - ((0:Nat):Int))/\((s.heap.push { cls:=.type "list",data:=.seq #[] }).update s.heap.objs.size (Obj.mapSeq (fun _=>(#[]:Array Value)))).IsList l items :=
  ⟨zA7 _,by rw [show (items.size:Int) - 1 - ((0:Nat):Int)=(items.size:Int) - 1 from Int.sub_zero _]; exact hit.at fun o e=>oth _ _ e,hl.at fun o e=>oth _ _ e⟩
 generalize (s.heap.push { cls:=.type "list",data:=.seq #[] }).update s.heap.objs.size (Obj.mapSeq (fun _=>(#[]:Array Value)))=h2 at hSA oth hstA
 have W:=(Walks.listRev (prog:=prog) (w:=w) (A:=A.in1.in1) hh I l hne items).toS
 have hT:Shared.TypeIs { s with heap:=h2 } (.ref I) "list_reverseiterator":=hstA.2.1.typeIs
 have h1:Builtin.List.listSameRef (.ref s.heap.objs.size) (.ref I)=false:=by simp [Builtin.List.listSameRef,hSI]
 unfold Builtin.List.listExtendWith
 refine zAa (wpAny_typeOf hT ?_)
 rw [if_neg (by rw [h1]; decide)]
 refine zAa (wpAny_pyIter_revIter hstA.2.1 ?_)
 refine zAa (zA0 ?_)
 unfold Builtin.List.listLengthHint
 refine zAa (wpAny_specialOf hT nolen_rv ?_)
 show wpAny _ _ (specialOf (Value.ref I) (Str.ofString "__length_hint__") >>= _) _ _ _
 refine zAa (wpAny_specialOf hT hint_rv ?_)
 (generalize hid:("list_reverseiterator.__length_hint__":String)=id0; (fail_if_success (clear hid id0)); wp_delta; rw [show splitId id0=some ("list_reverseiterator","__length_hint__") from by subst hid; decide +kernel]; subst hid)
 refine zAa (wpAny_isInstance (b:=true) hT (by rw [isSubtype_type]; kernel_rfl) ?_)
 refine zAk ?_
 rw [if_neg (by decide)]
 refine zAk ⟨plainId_quiet F.plain_extend_loop _,codeAny_extend_loopS W hn _ hSf _ items.size 0 _ _ _ rfl (zA7 _) hstA hSA (ItemsOf.nil _) fun s' acc' c' hm hS' hacc=>?_⟩
 have e:=Moved.eq_with hm
 rw [e]
 exact ⟨rfl,hQ s'.heap s'.toks acc' c' (fun b o hb e=>hm.heap b o (fun q=>(zAl.mp q).elim (zBk (zA5 e)) fun q=>hb (zAi.mp q)) (oth b o e)) hS' hacc⟩
end
section
variable {X:Fx} {W:Wd} {S:S}
theorem items_rev {acc vs:Array Value} (h:ItemsOf (fun i v=>vs[vs.size - 1 - i]?=some v) acc vs.size):acc.toList=vs.toList.reverse:=by
 refine List.ext_getElem? fun i=>?_
 by_cases hi:i < vs.size
 ·have hi':i < acc.size:=by rw [h.1]; exact hi
  have e:=h.2 i acc[i] (zCj hi')
  rw [zB4,zCj hi',List.getElem?_reverse (by rw [zBz]; exact hi),zBz,zB4,e]
 ·rw [List.getElem?_eq_none (by rw [zBz,h.1]; exact Nat.not_lt.mp hi),List.getElem?_eq_none (by rw [zCb,zBz]; exact Nat.not_lt.mp hi)]
theorem VReps.rev {C:Cx} {W:Wd} {l:List AV} {vs:List Value} (h:VReps C W l vs):VReps C W l.reverse vs.reverse:=by
 induction l generalizing vs with
 | nil=>obtain rfl:=h; exact VReps.nil
 | cons a l ih =>
  obtain ⟨v,vs',rfl,h1,h2⟩:=h
  rw [zCz,zCz]
  exact (ih h2).append (.cons h1 .nil)
theorem snd_listRev (F:X.Ok) (hq:X.T.free=true) {id rid:Str} {p p' pos pos':Pos} {e:Expr} {d:D AV} (hg:be X.nms id=true) (hL:X.C.mg id=none/\X.C.mb id=some (.type "list")) (hgr:be X.nms rid=true) (hR:X.C.mg rid=none/\X.C.mb rid=some (.type "reversed")) (he:ArgE X (RV X) e d) :
  SndM X (.Call (.Name id p) [.Call (.Name rid p') [e] [] pos'] [] pos) (mI d):=fun S W I=>by
 by_cases hst:PySem.W.isStarred e=true
 ·rw [he.star hst]; exact .stk
 intro hne
 have hne:ax (d S) (fun a=>Mine.opt ((fW a).bind fun l=>bz l.reverse)) ≠ .stuck:=hne
 have h0:d S ≠ .stuck:=fun q=>hne (by rw [q]; rfl)
 show wpAny _ _ _ (OkP X true (RM X) W (ax (d S) fun a=>Mine.opt ((fW a).bind fun l=>bz l.reverse))) (ErP X true W (ax (d S) fun a=>Mine.opt ((fW a).bind fun l=>bz l.reverse))) _
 generalize ho:ax (d S) (fun a=>Mine.opt ((fW a).bind fun l=>bz l.reverse))=o at hne ⊢
 rw [dj]
 refine zAa (bX F I hg hL ?_)
 unfold callWith
 refine zAa (zA0 ?_)
 refine Calls.evalArgs_plain (spliced_more (e:=.Call (.Name rid p') [e] [] pos') (rest:=[]) ?_)
 rw [dj]
 refine zAa (bX F I hgr hR ?_)
 unfold callWith
 refine zAa (zA0 ?_)
 rw [bA hst]
 refine Calls.evalArgs_plain ?_
 refine zAa (zAv (he.snd S W I h0) (fun v s₁ q=>?_) fun e s₁ q=>?_)
 case refine_2 =>
  cases q with | mk e g t=>exact .mk (by rw [← ho,e]; rfl) g t
 cases q with
 | @mk a S₁ WA e₁ GA rA =>
 rw [e₁] at ho
 have ho:Mine.opt ((fW a).bind fun l=>bz l.reverse) S₁=o:=ho
 cases hl:fW a with
 | none=>rw [hl] at ho; exact absurd ho.symm hne
 | some l =>
 rw [hl] at ho
 obtain rfl:=dq hl
 have ho:Mine.opt (bz l.reverse) S₁=o:=ho
 cases hm:bz l.reverse with
 | none=>rw [hm] at ho; exact absurd ho.symm hne
 | some c =>
 rw [hm] at ho
 obtain ⟨hsz,rfl⟩:=dM hm
 obtain ⟨ad,rfl,hf,vs,n,hob,hvs,hv⟩:=rA
 refine zAa (zAk (zAa (zA0 (zAk (zAk ?_)))))
 refine zAa (zCl (zAa (m:=keeperOf (.type "reversed")) (zAk ?_)))
 have hL1:WA.h.IsList ad vs:=⟨_,hob,rfl,n,rfl⟩
 refine zAa (call_reversed_list hL1 ?_)
 refine zAa (zA0 (wpAny_point (zAk ?_)))
 refine spliced_none ?_
 refine zAa (zCl (zAa (m:=keeperOf (.type "list")) (zAk ?_)))
 have hlt:ad < WA.h.objs.size:=zA5 hob
 refine zAa (mQ (l:=ad) (items:=vs) (F.hd hq) ⟨_,zAu _ rfl,rfl,rfl⟩ ⟨_,zAh _ hob,rfl,n,rfl⟩ (zBk hlt) hvs fun h' tk acc' c' hk hS' hacc=>?_)
 refine zAa (zA0 (wpAny_point (zAk ?_)))
 have hns:(WA.h.push (revObj ad ((vs.size:Int) - 1))).objs.size=WA.h.objs.size+1:=zB3 ..
 have g:Ge WA.h h':=fun b o e=>hk b o (zBk (zA5 e)) (zAh _ e)
 rw [hns] at hS' ⊢
 rw [← ho]
 refine OkP.pre GA (kS GA.inv (.new (h:=h') (tk:=tk) g ?_ ⟨acc',c',hS',?_,?_⟩))
 ·cases e:WA.h.get? (WA.h.objs.size+1) with
  | none=>rfl
  | some o=>exact absurd (zA5 e) (Nat.not_lt.mpr (zDd _))
 ·rw [hacc.1]; exact hvs
 ·rw [items_rev hacc]; exact hv.rev
end
theorem sndO_some {X:Fx} {e:Expr} {d:D AV} (h:SndE X e d):mT X (some e) d:=fun S W I=>h S W I
noncomputable def SlOk:Expr->Prop
 | .Slice lo hi _ _=>∀ X:Fx,X.Ok->mT X lo (evo X.T lo X.nms)/\mT X hi (evo X.T hi X.nms)
 | .Attribute v _ _=>∀ X:Fx,X.Ok->jl X v (ev X.T v .p X.nms)
 | _=>True
inductive RvOk (X:Fx) (e:Expr) (d:D AV):Prop
 | no (h:d=Mine.stk)
 | rv {rid:Str} {p:Pos} {e1:Expr} {pos:Pos} (he:e=.Call (.Name rid p) [e1] [] pos) (hg:be X.nms rid=true) (hm:X.C.mg rid=none/\X.C.mb rid=some (.type "reversed")) (ha:ArgE X (RV X) e1 d)
structure Gd (e:Expr):Prop where
 v:∀ X:Fx,X.Ok->SndE X e (ev X.T e .v X.nms)
 p:∀ X:Fx,X.Ok->jl X e (ev X.T e .p X.nms)
 i:∀ X:Fx,X.Ok->X.T.free=true->SndI X e (ev X.T e .i X.nms)
 t:∀ X:Fx,X.Ok->SndT X e (ev X.T e .v X.nms)
 m:∀ X:Fx,X.Ok->ft X.T.P e=true->SndM X e (ev X.T e .v X.nms)
 r:∀ X:Fx,X.Ok->RvOk X e (ev X.T e .r X.nms)
 st:PySem.W.isStarred e=true->∀ T md sc,ev T e md sc=stk
 sl:SlOk e
section
variable {X:Fx} {W:Wd} {S:S}
noncomputable abbrev jj (e:Expr):Prop:=∀ env w,isTrue e env w=(do let v ← w; standAt e.pos; PySem.holding [v] (truthy v))
theorem pa {e:Expr} {d:D AV} (h:SndE X e d) (he:jj e):SndT X e d:=fun S W I=>by
 rw [he]
 exact Snd.bind (h S W I) fun a va S₁ WA _ GA rA=>.stand (iz GA.inv rA).holding
theorem post_stk {md:Md}:cJ md stk=stk:=by cases md <;> rfl
theorem bq {e:Expr} (h:∀ T md sc,ev T e md sc=stk) (hsl:SlOk e:=by trivial):Gd e where
 v:=fun X F S W I=>by rw [h]; exact .stk
 p:=fun X F S W I=>by rw [h]; exact .stk
 i:=fun X F _ S W I=>by rw [h]; exact .stk
 t:=fun X F S W I=>by rw [h]; exact .stk
 m:=fun X F _ S W I=>by rw [h]; exact .stk
 r:=fun X F=>.no (h ..)
 st:=fun _=>h
 sl:=hsl
inductive Is (X:Fx) (e:Expr):Prop
 | val (d:D AV) (h1:∀ md,ev X.T e md X.nms=cJ md d) (h2:SndE X e d) (h3:ft X.T.P e=true->SndM X e d) (h4:SndT X e d)
 | it (h1:ev X.T e .v X.nms=stk) (h2:ev X.T e .p X.nms=stk) (h5:ev X.T e .r X.nms=stk) (h3:X.T.free=true->SndI X e (ev X.T e .i X.nms))
 | rv (h1:ev X.T e .v X.nms=stk) (h2:ev X.T e .p X.nms=stk) (h3:ev X.T e .i X.nms=stk) (h5:RvOk X e (ev X.T e .r X.nms))
theorem dn {e:Expr} (h:∀ X:Fx,X.Ok->Is X e) (hs:PySem.W.isStarred e=false) (hsl:SlOk e:=by trivial):Gd e where
 v:=fun X F=>by
  cases h X F with
  | val d h1 h2 h3 h4=>rw [h1]; exact h2
  | it h1 | rv h1=>rw [h1]; exact fun _ _ _=>.stk
 p:=fun X F=>by
  cases h X F with
  | val d h1 h2 h3 h4=>rw [h1]; exact h2.p
  | it _ h2 | rv _ h2=>rw [h2]; exact fun _ _ _=>.stk
 i:=fun X F hq=>by
  cases h X F with
  | val d h1 h2 h3 h4=>rw [h1]; exact sndI_val F hq h2
  | it _ _ _ h3=>exact h3 hq
  | rv _ _ h3=>rw [h3]; exact fun _ _ _=>.stk
 t:=fun X F=>by
  cases h X F with
  | val d h1 h2 h3 h4=>rw [h1]; exact h4
  | it h1 | rv h1=>rw [h1]; exact fun _ _ _=>.stk
 m:=fun X F hm=>by
  cases h X F with
  | val d h1 h2 h3 h4=>rw [h1]; exact h3 hm
  | it h1 | rv h1=>rw [h1]; exact fun _ _ _=>.stk
 r:=fun X F=>by
  cases h X F with
  | val d h1 h2 h3 h4=>exact .no (h1 .r)
  | it _ _ h5=>exact .no h5
  | rv _ _ _ h5=>exact h5
 st:=fun q=>by rw [hs] at q; exact ff q
 sl:=hsl
theorem Is.stk' {e:Expr} (h:∀ md,ev X.T e md X.nms=stk):Is X e:=.val stk (fun md=>by rw [h,post_stk]) (fun _ _ _=>.stk) (fun _ _ _ _=>.stk) fun _ _ _=>.stk
theorem Is.e {e:Expr} (d:D AV) (h1:∀ md,ev X.T e md X.nms=cJ md d) (h2:SndE X e d) (hm:ft X.T.P e=false) (he:jj e):Is X e:=.val d h1 h2 (fun q=>by rw [hm] at q; exact ff q) (pa h2 he)
theorem Is.m {e:Expr} (d:D AV) (h1:∀ md,ev X.T e md X.nms=cJ md d) (h2:SndM X e d) (he:jj e):Is X e:=.val d h1 h2.v (fun _=>h2) (pa h2.v he)
theorem pf {T:Ctx} {sc:Sc} {md:Md} {R:Expr->D AV->Prop}:∀ {es:List Expr},(∀ e ∈ es,R e (ev T e md sc))->F2 R es (evs T es md sc)
 | [],_=>.nil
 | e::r,h=>.cons (h e zAb) (pf fun e' he=>h e' (zAe _ he))
theorem trL_of {R:Wd->AV->Value->Prop} {T:Ctx} {sc:Sc} {md:Md}:∀ {es:List Expr},(∀ e ∈ es,∀ S W,Inv X S W->Snd X true R (eval e X.env) (ev T e md sc S) W)->TrL X R (evalEach es X.env) (evs T es md sc)
 | [],_=>.nil
 | e::r,h=>.cons (h e zAb) (trL_of fun e' he=>h e' (zAe _ he))
theorem trT_of {es:List Expr} (h:∀ e ∈ es,Gd e) (F:X.Ok):TrT X es (evs X.T es .v X.nms):=pf fun e he=>(h e he).t X F
theorem lI {es:List Expr} (h:∀ e ∈ es,Gd e) (F:X.Ok):TrE X (RV X) es (evs X.T es .v X.nms):=pf fun e he=>⟨(h e he).v X F,fun q=>(h e he).st q _ .v _⟩
theorem trE_ofP {es:List Expr} (h:∀ e ∈ es,Gd e) (F:X.Ok):TrE X (RQ X) es (evs X.T es .p X.nms):=pf fun e he=>⟨(h e he).p X F,fun q=>(h e he).st q _ .p _⟩
theorem celIf_stk {b:Bool}:nq b stk=stk:=by cases b <;> rfl
theorem jy {b:Bool} {e:Expr} {d:D AV} (hv:SndE X e d) (hm:b=true->SndM X e d):SndE X e (nq b d):=fun S W I=>by
 cases b with
 | false=>exact hv S W I
 | true=>exact (hm rfl S W I).toCel
theorem trE_ofC (F:X.Ok):∀ {es:List Expr},(∀ e ∈ es,Gd e)->TrE X (RV X) es (evcs X.T es X.nms)
 | [],_=>.nil
 | e::r,h =>
  have g:=h e zAb
  .cons ⟨jy (g.v X F) (fun q=>g.m X F q),fun q=>by rw [g.st q,celIf_stk]⟩ (trE_ofC F fun e' he=>h e' (zAe _ he))
theorem lK {T:Ctx} {sc:Sc} {md:Md}:∀ {es:List Expr},(evs T es md sc).length=es.length
 | []=>rfl
 | e::r=>congrArg Nat.succ (lK (es:=r))
theorem marked_set {op:CmpOp} {e:Expr} {t:Sem Value} (h:∀ a b c,e ≠ .Set a b c):markedBehindIn op e t=t:=by
 unfold markedBehindIn
 rw [show behindInMarks op e=false from by cases e <;> first | rfl | exact absurd rfl (h _ _ _)]
theorem pI {o:Option Expr} (h:∀ e,o=some e->Gd e) (F:X.Ok):mT X o (evo X.T o X.nms):=by
 cases o with
 | none=>exact sndO_none
 | some e=>exact sndO_some ((h e rfl).v X F)
theorem gd_name {x:Str} {p:Pos}:Gd (.Name x p) where
 v:=fun X F=>(iZ F).1
 p:=fun X F=>(iZ F).2
 i:=fun X F hq=>sndI_val F hq (iZ F).1
 t:=fun X F=>pa (iZ F).1 fun _ _=>rfl
 m:=fun _ _ q=>nomatch q
 r:=fun _ _=>.no rfl
 st:=fun q=>nomatch q
 sl:=trivial
theorem guard_pos {α:Type} {b:Bool} {d:D α} (h:b=true):bC b d=d:=by subst h; rfl
theorem aY {α:Type} {b:Bool} {d:D α} (h:¬ b=true):bC b d=stk:=by
 cases b with
 | true=>exact absurd rfl h
 | false=>rfl
theorem one1_spec {ds:List (D AV)} (f:D AV->D AV) (h:∀ d,ds ≠ [d]):oY ds f=stk:=by
 match ds with
 | []=>rfl
 | [d]=>exact absurd rfl (h d)
 | _::_::_=>rfl
theorem one1_evs {T:Ctx} {sc:Sc} {md:Md} {es:List Expr} (f:D AV->D AV) (h:¬ ∃ e,es=[e]):oY (evs T es md sc) f=stk :=
 one1_spec f fun d q=>h (by
  have:=congrArg List.length q
  rw [lK] at this
  exact List.length_eq_one_iff.mp this)
noncomputable def CalOk (X:Fx) (id:Str):Callee->Prop
 | .fn=>be X.nms id=true/\∃ fn,X.C.P.find ⟨#[]⟩ id=some fn
 | .cls=>be X.nms id=true/\X.C.P.isCls id=true
 | .xcls=>be X.nms id=true/\X.C.P.isX id=true
 | .bi b=>be X.nms id=true/\fA (bZ X.C.P id)=true/\aK id X.C.P.bi=some b
 | .it k=>be X.nms id=true/\fA (bZ X.C.P id)=true/\aK id itNames=some k
 | .isi=>be X.nms id=true/\fA (bZ X.C.P id)=true/\seq id "isinstance"=true
 | .rv=>be X.nms id=true/\fA (bZ X.C.P id)=true/\seq id "reversed"=true
 | .no=>True
theorem eX (F:X.Ok) {id:Str}:CalOk X id (calleeOf X.T.P id X.nms):=by
 rw [F.P]
 unfold calleeOf
 by_cases hg:be X.nms id=true
 case neg=>rw [if_neg hg]; trivial
 rw [if_pos hg]
 by_cases hn:fA (bZ X.C.P id)=true
 ·rw [if_pos hn]
  unfold biCal
  cases hb:aK id X.C.P.bi with
  | some b=>exact ⟨hg,hn,hb⟩
  | none =>
   rw [Option.elim_none]
   cases hi:aK id itNames with
   | some k=>exact ⟨hg,hn,hi⟩
   | none =>
    rw [Option.elim_none]
    by_cases hs:seq id "isinstance"=true
    ·rw [if_pos hs]; exact ⟨hg,hn,hs⟩
    ·rw [if_neg hs]
     by_cases hr:seq id "reversed"=true
     ·rw [if_pos hr]; exact ⟨hg,hn,hr⟩
     ·rw [if_neg hr]; trivial
 ·rw [if_neg hn]
  unfold bZ
  by_cases h1:X.C.P.hasFn id=true
  ·rw [if_pos h1]; exact ⟨hg,zA1.mp h1⟩
  rw [if_neg h1]
  by_cases h2:X.C.P.isCls id=true
  ·rw [if_pos h2]; exact ⟨hg,h2⟩
  rw [if_neg h2]
  by_cases h3:X.C.P.isX id=true
  ·rw [if_pos h3]; exact ⟨hg,h3⟩
  ·rw [if_neg h3]; trivial
end
section
variable {X:Fx} {W:Wd} {S:S}
theorem kF {args:List Expr} {t:Str} (h:fP args=some t):∃ e q,args=[e,.Name t q]:=by
 match args,h with
 | [e,f],h=>obtain ⟨p,rfl⟩:=ck h; exact ⟨e,p,rfl⟩
theorem km {args:List Expr} (h:oneLit args=true):∃ m k p,args=[.Constant (.str m) k p]:=by
 match args,h with
 | [e],h =>
  obtain ⟨x,hx⟩:=zA1.mp (show (litE e).isSome=true from h)
  obtain ⟨y,h4,_⟩:=zAg.mp hx
  obtain ⟨k,q',rfl⟩:=nV h4
  exact ⟨y,k,q',rfl⟩
theorem zeroC_spec {c:Const} (h:zeroC c=true):c=.int 0:=by
 cases c <;> first | (exact ff h; done) | exact congrArg _ (of_decide_eq_true h)
theorem isDef0_spec {kws:List Keyword} (h:o4 kws=true):∃ k p kp,kws=[kwD k p kp]:=by
 match kws,h with
 | [⟨a,v,kp⟩],h =>
  obtain ⟨h1,h2⟩:=zAn.mp (show ((a.elim false fun a=>seq a "default") && o8 v)=true from h)
  cases a with
  | none=>exact ff h1
  | some a =>
   obtain rfl:=seq_iff.mp (show seq a "default"=true from h1)
   cases hv:conE v with
   | none=>unfold o8 at h2; rw [hv] at h2; exact ff h2
   | some c =>
   unfold o8 at h2; rw [hv] at h2
   obtain ⟨k,p,rfl⟩:=m8 hv
   obtain rfl:=zeroC_spec h2
   exact ⟨k,p,kp,rfl⟩
noncomputable abbrev im (id:Str) (p:Pos) (args:List Expr) (pos:Pos):Expr:=.Call (.Name id p) args [] pos
theorem mk_own {P:Pg} {id:Str} {p pos:Pos} {args:List Expr} {kws:List Keyword} (h:fA (bZ P id)=false):ft P (.Call (.Name id p) args kws pos)=false:=by
 show (fA (bZ P id) && _)=false
 rw [h]; rfl
theorem mk_it {P:Pg} {id:Str} {p pos:Pos} {args:List Expr} {kws:List Keyword} (h:aK id P.bi=none):ft P (.Call (.Name id p) args kws pos)=false:=by
 show (_ && (aK id P.bi).elim false (·.cont))=false
 rw [h]; exact Bool.and_false _
set_option tactic.hygienic true in
theorem is_call (F:X.Ok) {id:Str} {p pos:Pos} {args:List Expr} (h:∀ e ∈ args,Gd e):Is X (im id p args pos):=by
 have hsp:=eX F (id:=id)
 have hev:∀ md,ev X.T (im id p args pos) md X.nms=callK X.T md id args (evs X.T args .v X.nms) (evs X.T args .p X.nms) (evcs X.T args X.nms) (evs X.T args .r X.nms) X.nms (calleeOf X.T.P id X.nms):=fun md=>rfl
 have hno:calleeOf X.T.P id X.nms=.fn ∨ calleeOf X.T.P id X.nms=.cls ∨ calleeOf X.T.P id X.nms=.xcls->ft X.T.P (im id p args pos)=false:=fun q=>by
  refine mk_own ?_
  cases hn:fA (bZ X.T.P id) with
  | false=>rfl
  | true =>
   exfalso
   unfold calleeOf at q
   by_cases hg:be X.nms id=true
   ·rw [if_pos hg,if_pos hn] at q
    unfold biCal at q
    cases hb:aK id X.T.P.bi with
    | some b=>rw [hb] at q; rcases q with q | q | q <;> exact eN Callee.ctorIdx q rfl
    | none =>
     rw [hb,Option.elim_none] at q
     cases hi:aK id itNames with
     | some k=>rw [hi] at q; rcases q with q | q | q <;> exact eN Callee.ctorIdx q rfl
     | none =>
      rw [hi,Option.elim_none] at q
      by_cases hs:seq id "isinstance"=true
      ·rw [if_pos hs] at q; rcases q with q | q | q <;> exact eN Callee.ctorIdx q rfl
      ·rw [if_neg hs] at q
       by_cases hr:seq id "reversed"=true
       ·rw [if_pos hr] at q; rcases q with q | q | q <;> exact eN Callee.ctorIdx q rfl
       ·rw [if_neg hr] at q; rcases q with q | q | q <;> exact eN Callee.ctorIdx q rfl
   ·rw [if_neg hg] at q; rcases q with q | q | q <;> exact eN Callee.ctorIdx q rfl
 cases hc:calleeOf X.T.P id X.nms <;> rw [hc] at hsp hno <;> (have hev:=fun md=>(hev md).trans (by rw [hc]))
 case no=>exact .stk' fun md=>hev md
 case fn =>
  by_cases hf:X.T.free=true
  ·exact .e (aX X.T id (evs X.T args .v X.nms)) (fun md=>(hev md).trans (guard_pos hf)) (hsp.2.elim fun fn hfn=>snd_call_fn F hf hsp.1 hfn (lI h F)) (hno (.inl rfl)) fun _ _=>rfl
  ·exact .stk' fun md=>(hev md).trans (aY hf)
 case cls =>
  by_cases hf:(X.T.free && (X.T.P.find id "__init__").isSome)=true
  ·obtain ⟨h1,h2⟩:=zAn.mp hf
   exact .e (kI X.T id (evcs X.T args X.nms)) (fun md=>(hev md).trans (guard_pos hf)) (pD F h1 hsp.1 hsp.2 (by rw [← F.P]; exact zA1.mp h2) (trE_ofC F h)) (hno (.inr (.inl rfl))) fun _ _=>rfl
  ·exact .stk' fun md=>(hev md).trans (aY hf)
 case xcls =>
  by_cases hf:(X.T.free && oneLit args)=true
  ·obtain ⟨h1,h2⟩:=zAn.mp hf
   obtain ⟨m,k,q,rfl⟩:=km h2
   exact .e (dExc id) (fun md=>(hev md).trans (guard_pos hf)) (snd_newExc F hsp.2 hsp.1) (hno (.inr (.inr rfl))) fun _ _=>rfl
  ·exact .stk' fun md=>(hev md).trans (aY hf)
 case rv =>
  refine .rv (hev .v) (hev .p) (hev .i) ?_
  rw [show ev X.T (im id p args pos) .r X.nms=oY (evs X.T args .v X.nms) (fun d=>d) from hev .r]
  match args,h with
  | [e],h=>exact .rv rfl hsp.1 (F.cx.std id _ (by rw [seq_iff.mp hsp.2.2]; kernel_rfl) hsp.2.1) ⟨(h e zAb).v X F,fun q=>(h e zAb).st q _ .v _⟩
  | [],_=>exact .no rfl
  | _::_::_,_=>exact .no rfl
 case bi b =>
  by_cases hra:oZ args=true
  ·have hev:∀ md,ev X.T (im id p args pos) md X.nms=bC ((b.val == .type "list") && X.T.free) (cJ md (oY (evs X.T args .r X.nms) mI)):=fun md=>(hev md).trans (by show (bif oZ args then _ else _)=_; rw [hra]; rfl)
   by_cases hf:((b.val == .type "list") && X.T.free)=true
   case neg=>exact .stk' fun md=>(hev md).trans (aY hf)
   obtain ⟨hb1,hb2⟩:=zAn.mp hf
   have hev:=fun md=>(hev md).trans (guard_pos hf)
   match args,h with
   | [e],h =>
    cases (h e zAb).r X F with
    | no hn=>exact .stk' fun md=>(hev md).trans (by show cJ md (mI (ev X.T e .r X.nms))=_; rw [hn]; cases md <;> rfl)
    | @rv rid p' e1 pos' he hg hm ha =>
     subst he
     exact .m (mI (ev X.T (.Call (.Name rid p') [e1] [] pos') .r X.nms)) hev (snd_listRev F hb2 hsp.1 (by rw [← beq_iff_eq.mp hb1]; exact F.cx.bi id b hsp.2.2 hsp.2.1) hg hm ha) fun _ _=>rfl
   | [],_=>exact .stk' fun md=>(hev md).trans (by cases md <;> rfl)
   | _::_::_,_=>exact .stk' fun md=>(hev md).trans (by cases md <;> rfl)
  have hev:∀ md,ev X.T (im id p args pos) md X.nms=bC (!b.free || X.T.free) (cJ md (aS b false (evs X.T args .p X.nms))):=fun md=>(hev md).trans (by show (bif oZ args then _ else _)=_; rw [zDb.mpr hra]; rfl)
  by_cases hf:(!b.free || X.T.free)=true
  ·refine .m (aS b false (evs X.T args .p X.nms)) (fun md=>(hev md).trans (guard_pos hf)) (snd_call_bi F hsp.1 hsp.2.2 hsp.2.1 (fun q=>?_) (trE_ofP h F)) fun _ _=>rfl
   rw [q] at hf; exact hf
  ·exact .stk' fun md=>(hev md).trans (aY hf)
 case it k =>
  by_cases hf:X.T.free=true
  ·have hev:=fun md=>(hev md).trans (guard_pos hf)
   refine .it (hev .v) (hev .p) (hev .r) fun hq=>?_
   rw [show ev X.T (im id p args pos) .i X.nms=hU k (evs X.T args .v X.nms) from hev .i]
   exact snd_call_it F hq hsp.1 hsp.2.2 hsp.2.1 (lI h F)
  ·exact .stk' fun md=>(hev md).trans (aY hf)
 case isi =>
  have hev:∀ md,ev X.T (im id p args pos) md X.nms=isiK X.T.P md (fP args) (evs X.T args .p X.nms) X.nms:=hev
  cases hsn:fP args with
  | none=>exact .stk' fun md=>by rw [hev,hsn]; rfl
  | some t =>
  obtain ⟨e,q,rfl⟩:=kF hsn
  have hev:∀ md,ev X.T (im id p [e,.Name t q] pos) md X.nms=bC (be X.nms t && fA (bZ X.T.P t)) ((aK t tyNames).elim stk fun k=>cJ md (gp (ev X.T e .p X.nms) (fh k))):=fun md=>hev md
  by_cases hgt:(be X.nms t && fA (bZ X.T.P t))=true
  case neg=>exact .stk' fun md=>by rw [hev,aY hgt]
  cases hk:aK t tyNames with
  | none=>exact .stk' fun md=>by rw [hev,guard_pos hgt,hk]; rfl
  | some k =>
   obtain ⟨h1,h2⟩:=zAn.mp hgt
   rw [F.P] at h2
   have ge:=h e zAb
   have hm:ft X.T.P (im id p [e,.Name t q] pos)=false:=by
    have hc:=hc
    unfold calleeOf at hc
    rw [if_pos hsp.1,F.P,if_pos hsp.2.1] at hc
    unfold biCal at hc
    refine mk_it ?_
    rw [F.P]
    cases hb:aK id X.C.P.bi with
    | none=>rfl
    | some b=>rw [hb] at hc; exact eN Callee.ctorIdx hc rfl
   exact .e (gp (ev X.T e .p X.nms) (fh k)) (fun md=>by rw [hev,guard_pos hgt,hk]; rfl) (pQ F hsp.1 hsp.2.2 hsp.2.1 h1 h2 hk ⟨ge.p X F,fun q=>ge.st q _ .p _⟩) hm fun _ _=>rfl
set_option tactic.hygienic true in
theorem is_callK (F:X.Ok) {id:Str} {p pos:Pos} {args:List Expr} {k:Keyword} {ks:List Keyword} (h:∀ e ∈ args,Gd e):Is X (.Call (.Name id p) args (k::ks) pos):=by
 have hev:∀ md,ev X.T (.Call (.Name id p) args (k::ks) pos) md X.nms=bC (o4 (k::ks) && X.T.free && !args.isEmpty) (defK md (evs X.T args .p X.nms) (calleeOf X.T.P id X.nms)):=fun md=>rfl
 by_cases hd:(o4 (k::ks) && X.T.free && !args.isEmpty)=true
 case neg=>exact .stk' fun md=>by rw [hev,aY hd]
 have hev:=fun md=>(hev md).trans (guard_pos hd)
 simp only [zA6] at hd
 obtain ⟨⟨h1,h2⟩,h3⟩:=hd
 obtain ⟨k',q,kp,e'⟩:=isDef0_spec h1
 rw [e'] at hev ⊢
 have hsp:=eX F (id:=id)
 cases hc:calleeOf X.T.P id X.nms <;> rw [hc] at hsp <;> (have hev:=fun md=>(hev md).trans (by rw [hc])) <;> try exact .stk' fun md=>hev md
 rename_i b
 cases args with
 | nil=>exact ff h3
 | cons e es=>exact .m (aS b true (evs X.T (e::es) .p X.nms)) (fun md=>hev md) (oQ F h2 hsp.1 hsp.2.2 hsp.2.1 (trE_ofP h F)) fun _ _=>rfl
end
section
variable {X:Fx} {W:Wd} {S:S}
theorem trd_not {d:D AV}:trd (jz d)=aE (trd d) fun b=>af (!b):=by
 funext S
 unfold trd jz aE Mine.opt unV
 cases d S with
 | stuck=>rfl
 | exc c S'=>rfl
 | ok a S' =>
  dsimp only [ax]
  cases d4 a <;> rfl
theorem isTrue_not {x:Expr} {p:Pos} {env:Env} {w:Sem Value}:isTrue (.UnaryOp .Not x p) env w=(isTrue x env (eval x env) >>= fun b=>Pure.pure (!b)):=rfl
theorem snd_not {e:Expr} {p:Pos} {d:D AV} (h:SndE X e d):SndE X (.UnaryOp .Not e p) (jz d):=fun S W I=>by
 rw [show eval (.UnaryOp .Not e p) X.env=(do let v ← eval e X.env; standAt p; PySem.holding [v] (unaryOp .Not v)) from rfl]
 exact Snd.bind (h S W I) fun a va S₁ WA _ GA rA=>.stand (Snd.made GA.inv fun c hc=>wp_unV (.val rA) hc).freeze.holding
theorem gd_unop {op:UnaryOp} {e:Expr} {p:Pos} (h:Gd e):Gd (.UnaryOp op e p):=by
 by_cases hop:op=.Not
 ·subst hop
  refine dn (fun X F=>.val (jz (ev X.T e .v X.nms)) (fun md=>rfl) (snd_not (h.v X F)) (fun q=>nomatch q) fun S W I=>?_) rfl
  rw [trd_not,isTrue_not]
  exact Snd.bind (h.t X F S W I) fun a b S₁ WA _ GA rA=>.pure GA.inv (by rw [show a=b from rA])
 ·exact dn (fun X F=>.e (dUn op (ev X.T e .p X.nms)) (fun md=>by cases op <;> first | exact absurd rfl hop | rfl) (snd_unop (h.p X F)) rfl (fun env w=>by cases op <;> first | rfl | exact absurd rfl hop)) rfl
theorem gd_bool {op:BoolOp} {es:List Expr} {p:Pos} (h:∀ e ∈ es,Gd e):Gd (.BoolOp op es p) :=
 dn (fun X F=>.val (bc op (evs X.T es .v X.nms)) (fun md=>rfl)
  (fun S W I=>by rw [arm_eval_BoolOp]; exact snd_boolOp (trL_of fun e he=>(h e he).v X F) S W I) (fun q=>nomatch q)
  (fun S W I=>by
   rw [show isTrue (.BoolOp op es p) X.env (eval (.BoolOp op es p) X.env)=allTrue op es X.env from rfl]
   exact snd_allTrue (trT_of h F) S W I)) rfl
theorem gb {e:Expr} {op:CmpOp} (h:Gd e) (F:X.Ok) (I:Inv X S W):Snd X true (RQ X) (markedBehindIn op e (eval e X.env)) (ev X.T e .p X.nms S) W:=by
 by_cases hset:∃ a b c,e=.Set a b c
 ·obtain ⟨a,b,c,rfl⟩:=hset; exact .stk
 ·rw [marked_set fun a b c q=>hset ⟨a,b,c,q⟩]; exact h.p X F S W I
theorem gd_cmp1 {l e:Expr} {op:CmpOp} {p:Pos} (hl:Gd l) (he:Gd e):Gd (.Compare l [op] [e] p):=by
 refine dn (fun X F=>.val (aB (ev X.T l .p X.nms) op (ev X.T e .p X.nms)) (fun md=>rfl) (fun S W I=>?_) (fun q=>nomatch q) fun S W I=>?_) rfl
 ·rw [arm_eval_Compare]
  exact Snd.bind (hl.p X F S W I) fun a va S₁ WA _ GA rA=>snd_cmp F.units GA.inv (gb he F GA.inv) rA
 ·rw [show isTrue (.Compare l [op] [e] p) X.env (eval (.Compare l [op] [e] p) X.env)=(eval l X.env >>= fun v=>testChain p v [op] (markedEach [op] [e] (evalEach [e] X.env))) from rfl]
  unfold trd aB
  simp only [bO]
  exact Snd.bind (hl.p X F S W I) fun a va S₁ WA _ GA rA=>snd_test F.units GA.inv (gb he F GA.inv) rA
theorem bnd_ite {α β:Type} {b:Bool} {x y:D α} {f:α->D β}:aE (if b then x else y) f=if b then aE x f else aE y f:=by cases b <;> rfl
theorem gd_cmp2 {l e e':Expr} {op op':CmpOp} {p:Pos} (hl:Gd l) (he:Gd e) (he':Gd e'):Gd (.Compare l [op,op'] [e,e'] p):=by
 refine dn (fun X F=>.val (ou (ev X.T l .p X.nms) op (ev X.T e .p X.nms) op' (ev X.T e' .p X.nms)) (fun md=>rfl) (fun S W I=>?_) (fun q=>nomatch q) fun S W I=>?_) rfl
 ·rw [arm_eval_Compare]
  refine Snd.bind (hl.p X F S W I) fun a va S₁ WA _ GA rA=>?_
  exact snd_link F.units GA.inv (he.p X F S₁ WA GA.inv) rA (fun S₂ WB i u IB=>snd_cmp (a:=.int i) F.units IB (gb he' F IB) (RQ.of ⟨u,rfl⟩)) fun S₂ WB IB=>.pure IB rfl
 ·rw [show isTrue (.Compare l [op,op'] [e,e'] p) X.env (eval (.Compare l [op,op'] [e,e'] p) X.env)=(eval l X.env >>= fun v=>testChain p v [op,op'] (markedEach [op,op'] [e,e'] (evalEach [e,e'] X.env))) from rfl]
  unfold trd ou
  simp only [bO,bnd_ite]
  refine Snd.bind (hl.p X F S W I) fun a va S₁ WA _ GA rA=>?_
  refine snd_link F.units GA.inv (he.p X F S₁ WA GA.inv) rA (fun S₂ WB i u IB=>?_) fun S₂ WB IB=>.pure IB rfl
  exact snd_test (op:=op') (pos:=p) (a:=.int i) F.units IB (gb (op:=op') he' F IB) (RQ.of ⟨u,rfl⟩)
theorem gd_cmp {l:Expr} {ops:List CmpOp} {cs:List Expr} {p:Pos} (hl:Gd l) (h:∀ e ∈ cs,Gd e):Gd (.Compare l ops cs p):=by
 match ops,cs,h with
 | [op],[e],h=>exact gd_cmp1 hl (h e zAb)
 | [op,op'],[e,e'],h=>exact gd_cmp2 hl (h e zAb) (h e' (zAe _ zAb))
 | [],_,_=>exact bq fun T md sc=>rfl
 | [op],[],_=>exact bq fun T md sc=>rfl
 | [op],_::_::_,_=>exact bq fun T md sc=>rfl
 | [_,_],[],_=>exact bq fun T md sc=>rfl
 | [_,_],[_],_=>exact bq fun T md sc=>rfl
 | [_,_],_::_::_::_,_=>exact bq fun T md sc=>rfl
 | _::_::_::_,_,_=>exact bq fun T md sc=>rfl
set_option tactic.hygienic true in
theorem gd_sub {v i:Expr} {p:Pos} (hv:Gd v) (hi:Gd i):Gd (.Subscript v i p):=by
 by_cases hs:∃ lo hi q,i=.Slice lo hi none q
 ·obtain ⟨lo,hi',q,rfl⟩:=hs
  exact dn (fun X F=>.m (cj (ev X.T v .p X.nms) (evo X.T lo X.nms) (evo X.T hi' X.nms)) (fun md=>rfl) (mP (hv.p X F) (hi.sl X F).1 (hi.sl X F).2) fun _ _=>rfl) rfl
 ·have hsl:∀ a b p,i ≠ .Slice a b none p:=fun a b p q=>hs ⟨a,b,p,q⟩
  refine dn (fun X F=>.e (am (ev X.T v .p X.nms) (ev X.T i .v X.nms)) (fun md=>?_) (snd_sub_idx hsl (hv.p X F) (hi.v X F)) ?_ fun _ _=>rfl) rfl
  ·cases i <;> first | rfl | skip
   rename_i lo hi st q
   cases st with
   | none=>exact absurd rfl (hsl _ _ _)
   | some _=>rfl
  ·cases i <;> first | rfl | skip
   rename_i lo hi st q
   cases st with
   | none=>exact absurd rfl (hsl _ _ _)
   | some _=>rfl
theorem tst_ok {X:Fx} {sc:Sc} {Y:Fx} (FY:Y.Ok) (e1:Y.T=X.T) (e2:Y.nms=sc) {ifs:List Expr} (hl:zCd ifs.length 1=true) (hf:∀ e ∈ ifs,Gd e):TstOk Y ifs (evt X.T ifs sc):=by
 match ifs,hl,hf with
 | [],_,_=>exact trivial
 | [c],_,hf =>
  show SndT Y c (ev X.T c .v sc)
  rw [← e1,← e2]
  exact (hf c zAb).t Y FY
 | _::_::_,hl,_=>exact absurd (zBd hl) (by simp)
theorem comp_ev (F:X.Ok) {elt t iter:Expr} {ifs:List Expr} {isa:Int} {scope:Scope} {p:Pos} (he:Gd elt) (hi:Gd iter) (hf:∀ e ∈ ifs,Gd e) :
  (∀ md,ev X.T (.ListComp elt [⟨t,iter,ifs,isa⟩] scope p) md X.nms=stk) ∨ ∃ y yp,isa=0/\t=.Name y yp/\CompE X scope y elt iter ifs (evt X.T ifs scope.names) (ev X.T elt .v scope.names) (ev X.T iter .i X.nms) /\
   ∀ md,ev X.T (.ListComp elt [⟨t,iter,ifs,isa⟩] scope p) md X.nms=cJ md (cQ (bn X.nms scope.names) (aJ y scope.names) (evt X.T ifs scope.names) (ev X.T elt .v scope.names) (ev X.T iter .i X.nms)):=by
 by_cases hc:compOk X.T t isa ifs scope X.nms=true
 case neg=>exact .inl fun md=>aY hc
 have hev2:=fun md=>(guard_pos hc:ev X.T (.ListComp elt [⟨t,iter,ifs,isa⟩] scope p) md X.nms=_)
 unfold compOk at hc
 simp only [zA6,beq_iff_eq] at hc
 obtain ⟨⟨⟨⟨⟨h1,h2⟩,h3⟩,h4⟩,h5⟩,h6⟩:=hc
 by_cases hset:∃ a b c,iter=.Set a b c
 ·obtain ⟨a,b,c,rfl⟩:=hset
  exact .inl fun md=>(hev2 md).trans (by cases md <;> rfl)
 cases hn:cR t with
 | none=>rw [hn] at h3; exact ff h3
 | some y =>
  rw [hn] at h3
  obtain ⟨yp,rfl⟩:=ck hn
  exact .inr ⟨y,yp,h1,rfl,⟨fun a b c q=>hset ⟨a,b,c,q⟩,h5,h4,isLo_spec h3,hi.i X F h6,fun Y FY e1 e2=>tst_ok FY e1 e2 h2 hf,fun Y FY e1 e2=>by rw [← e1,← e2]; exact he.v Y FY⟩,hev2⟩
theorem gd_comp {elt t iter:Expr} {ifs:List Expr} {isa:Int} {scope:Scope} {p:Pos} (he:Gd elt) (hi:Gd iter) (hf:∀ e ∈ ifs,Gd e):Gd (.ListComp elt [⟨t,iter,ifs,isa⟩] scope p):=by
 refine dn (fun X F=>?_) rfl
 rcases comp_ev (t:=t) (ifs:=ifs) (isa:=isa) (scope:=scope) (p:=p) F he hi hf with h | ⟨y,yp,rfl,rfl,K,hev⟩
 ·exact .stk' h
 ·exact .m _ hev (snd_comp F K) fun _ _=>rfl
theorem ma {args:List Expr} (h:args.all oP=true):∀ e ∈ args,PySem.W.isStarred e=false:=fun e he=>by
 have:=zBb.mp h e he
 cases e <;> first | rfl | exact ff this
theorem memS_iff {x:Str}:∀ {l:List Str},dy x l=true ↔ x ∈ l
 | []=>⟨fun h=>(nomatch h),fun h=>(nomatch h)⟩
 | y::r=>by
  show (seq x y || dy x r)=true ↔ _
  rw [zB1,seq_iff,memS_iff,zAl]
theorem gd_attr {v:Expr} {f:Str} {p:Pos} (h:Gd v):Gd (.Attribute v f p):=by
 refine dn (fun X F=>?_) rfl h.p
 by_cases hc:(kM v && dy f X.T.P.flds)=true
 case neg=>exact .stk' fun md=>aY hc
 have hev:=fun md=>(guard_pos hc:ev X.T (.Attribute v f p) md X.nms=_)
 obtain ⟨h1,h2⟩:=zAn.mp hc
 rw [F.P] at h2
 exact .e (aw (ev X.T v .p X.nms) f) hev (snd_attr h1 F (memS_iff.mp h2) (h.p X F)) rfl fun _ _=>rfl
theorem gd_meth {o:Expr} {m:Str} {apos pos:Pos} {args:List Expr} {kws:List Keyword} (ho:∀ X:Fx,X.Ok->jl X o (ev X.T o .p X.nms)) (h:∀ e ∈ args,Gd e):Gd (.Call (.Attribute o m apos) args kws pos):=by
 by_cases hc:(kws.isEmpty && zA9 apos.endLine pos.line && args.all oP && zCd args.length 20)=true
 case neg=>exact bq fun T md sc=>aY hc
 have hev:∀ T md sc,ev T (.Call (.Attribute o m apos) args kws pos) md sc=if seq m "join" then oY (evs T args .p sc) fun e=>bC (dJ o) (cJ md (gk e)) else bC (fC o) (methC T md (ev T o .p sc) m args.isEmpty (evs T args .v sc)):=fun T md sc=>guard_pos hc
 simp only [zA6] at hc
 obtain ⟨⟨⟨hk,hl⟩,hst⟩,h20⟩:=hc
 obtain rfl:=zB7.mp hk
 have few:args.length < 30:=zCs (zBd h20) (by decide)
 by_cases hj:seq m "join"=true
 ·obtain rfl:=seq_iff.mp hj
  have hev:=fun T md sc=>(hev T md sc).trans (if_pos hj)
  by_cases ha:∃ e,args=[e]
  case neg=>exact bq fun T md sc=>(hev T md sc).trans (one1_evs _ ha)
  obtain ⟨e,rfl⟩:=ha
  have ge:=h e zAb
  by_cases hb:dJ o=true
  case neg=>exact bq fun T md sc=>(hev T md sc).trans (aY hb)
  exact dn (fun X F=>.e (gk (ev X.T e .p X.nms)) (fun md=>(hev _ _ _).trans (guard_pos hb)) (fun S W I=>snd_join ⟨.inr (by obtain ⟨k,p,q⟩:=ii hb; exact ⟨_,k,p,q⟩),hl,ma hst,few⟩ hb ⟨ge.p X F,fun q=>ge.st q _ .p _⟩ I) rfl fun _ _=>rfl) rfl
 have hev:=fun T md sc=>(hev T md sc).trans (if_neg hj)
 by_cases hb:fC o=true
 case neg=>exact bq fun T md sc=>(hev T md sc).trans (aY hb)
 have hev:=fun T md sc=>(hev T md sc).trans (guard_pos hb)
 have M:MtOk o apos pos args:=⟨.inl hb,hl,ma hst,few⟩
 by_cases h0:seq m "pop"=true
 ·obtain rfl:=seq_iff.mp h0
  have hev:=fun T md sc=>(hev T md sc).trans (if_pos h0)
  by_cases ha:args.isEmpty=true
  case neg=>exact bq fun T md sc=>(hev T md sc).trans (aY ha)
  obtain rfl:=zB7.mp ha
  exact dn (fun X F=>.e (fU (ev X.T o .p X.nms)) (fun md=>hev _ _ _) (fun S W I=>snd_pop M (ho X F S W I)) rfl fun _ _=>rfl) rfl
 have hev:=fun T md sc=>(hev T md sc).trans (if_neg h0)
 by_cases h1:seq m "append"=true
 ·obtain rfl:=seq_iff.mp h1
  have hev:=fun T md sc=>(hev T md sc).trans (if_pos h1)
  by_cases ha:∃ e,args=[e]
  case neg=>exact bq fun T md sc=>(hev T md sc).trans (one1_evs _ ha)
  obtain ⟨e,rfl⟩:=ha
  have ge:=h e zAb
  exact dn (fun X F=>.e (bY (ev X.T o .p X.nms) (ev X.T e .v X.nms)) (fun md=>hev _ _ _) (fun S W I=>snd_append M (ho X F S W I) ⟨ge.v X F,fun q=>ge.st q _ .v _⟩) rfl fun _ _=>rfl) rfl
 have hev:=fun T md sc=>(hev T md sc).trans (if_neg h1)
 refine dn (fun X F=>?_) rfl
 by_cases hg:(dy m X.T.P.mths && X.T.free)=true
 ·obtain ⟨h1,h2⟩:=zAn.mp hg
  rw [F.P] at h1
  exact .e (aW X.T (ev X.T o .p X.nms) m (evs X.T args .v X.nms)) (fun md=>(hev _ _ _).trans (guard_pos hg)) (fun S W I=>snd_meth F h2 (memS_iff.mp h1) M (ho X F S W I) (lI h F)) rfl fun _ _=>rfl
 ·exact .stk' fun md=>(hev _ _ _).trans (aY hg)
theorem mv (F:X.Ok) {pos:Pos}:SndM X (.Dict [] [] pos) (af (.dct [] [])):=fun S W I _=>by
 refine wpAny_Dict_empty ?_
 refine kS (S:=S) I (.new (h:=W.h.push { cls:=.type "dict",data:=.dict #[] }) (tk:=W.s.toks) .push get?_size ?_)
 obtain ⟨o,ho,hd⟩:=zCm.mp (Heap.DictOf.new (knd:=strKind X.C.prog X.C.w) W.h)
 exact ⟨o,[],[],ho,beq_eq_false_iff_ne.mpr (fun q=>by have:=I.size F; rw [show W.h.objs.size=1 from q] at this; exact absurd this (by decide)),rfl,⟨hd,rfl,zA7 _,fun _ q=>nomatch q⟩,rfl⟩
theorem gd_dict {ks:List (Option Expr)} {vs:List Expr} {p:Pos}:Gd (.Dict ks vs p):=by
 match ks,vs with
 | [],[]=>exact dn (fun X F=>.m (af (.dct [] [])) (fun md=>rfl) (mv F) fun _ _=>rfl) rfl
 | [],_::_=>exact bq fun T md sc=>rfl
 | _::_,_=>exact bq fun T md sc=>rfl
theorem gd_call {f:Expr} {pos:Pos} {args:List Expr} {kws:List Keyword} (hf:Gd f) (h:∀ e ∈ args,Gd e):Gd (.Call f args kws pos):=by
 cases f <;> first | exact gd_meth hf.sl h | exact bq fun T md sc=>rfl | skip
 cases kws with
 | nil=>exact dn (fun X F=>is_call F h) rfl
 | cons k ks=>exact dn (fun X F=>is_callK F h) rfl
set_option tactic.hygienic true
mutual
theorem gd:∀ e:Expr,Gd e
 | .Constant c k p=>dn (fun X F=>.e (dConst c) (fun md=>rfl) nF rfl fun _ _=>rfl) rfl
 | .Name x p=>gd_name
 | .BinOp l op r p=>dn (fun X F=>.m (aj op (ev X.T l .p X.nms) (ev X.T r .p X.nms)) (fun md=>rfl) (snd_binop ((gd l).p X F) ((gd r).p X F)) fun _ _=>rfl) rfl
 | .UnaryOp op e p=>gd_unop (gd e)
 | .BoolOp op es p=>gd_bool (gds es)
 | .Compare l ops cs p=>gd_cmp (gd l) (gds cs)
 | .Tuple es k p=>dn (fun X F=>.e (aI (evs X.T es .v X.nms)) (fun md=>rfl) (snd_tuple (lI (gds es) F)) rfl fun _ _=>rfl) rfl
 | .List es p=>dn (fun X F=>.m (cF (evs X.T es .v X.nms)) (fun md=>rfl) (snd_list (lI (gds es) F)) fun _ _=>rfl) rfl
 | .Subscript v i p=>gd_sub (gd v) (gd i)
 | .ListComp elt [⟨t,iter,ifs,isa⟩] scope p=>gd_comp (gd elt) (gd iter) (gds ifs)
 | .ListComp elt [] scope p=>bq fun T md sc=>rfl
 | .ListComp elt (⟨_,_,_,_⟩::_::_) scope p=>bq fun T md sc=>rfl
 | .Call f args kws p=>gd_call (gd f) (gds args)
 | .Slice lo hi st p=>bq (fun T md sc=>rfl) fun X F=>⟨pI (gdo lo) F,pI (gdo hi) F⟩
 | .Attribute v f p=>gd_attr (gd v)
 | .Dict ks vs p=>gd_dict
 | .NamedExpr ..=>bq fun T md sc=>rfl
 | .Lambda ..=>bq fun T md sc=>rfl
 | .IfExp ..=>bq fun T md sc=>rfl
 | .Set ..=>bq fun T md sc=>rfl
 | .SetComp ..=>bq fun T md sc=>rfl
 | .DictComp ..=>bq fun T md sc=>rfl
 | .GeneratorExp ..=>bq fun T md sc=>rfl
 | .Await ..=>bq fun T md sc=>rfl
 | .Yield ..=>bq fun T md sc=>rfl
 | .YieldFrom ..=>bq fun T md sc=>rfl
 | .FormattedValue ..=>bq fun T md sc=>rfl
 | .JoinedStr ..=>bq fun T md sc=>rfl
 | .Starred ..=>bq fun T md sc=>rfl
theorem gds:∀ es:List Expr,∀ e ∈ es,Gd e
 | [],_,h=>nomatch h
 | e::r,e',h=>(zAl.mp h).elim (fun q=>q ▸ gd e) (fun q=>gds r e' q)
theorem gdo:∀ o:Option Expr,∀ e,o=some e->Gd e
 | none,_,h=>nomatch h
 | some e,e',h=>Option.some.inj h ▸ gd e
end
set_option tactic.hygienic false
end
section
variable {X:Fx} {W:Wd} {S:S}
theorem aC {st:Stmt} {d:D Fl} (h:d=stk):cY X st d:=fun hf S W I=>by rw [h]; exact .stk
theorem gC {v:Expr} (h:ez v=true) (t:Option Expr) (ln:Nat) (env:Env):swapsWith v t ln env=Pure.pure false:=by
 cases v <;> first | rfl | exact ff h
theorem comp_stk {T:Ctx} {v:Expr} (h:ez v=false) (hl:∀ a b c d,v ≠ .ListComp a b c d):∀ md sc,ev T v md sc=stk:=fun md sc=>by
 cases v <;> first | (exact eN Bool.ctorIdx h rfl; done) | exact absurd rfl (hl _ _ _ _) | rfl
theorem g9 {T:Ctx} {sc:Sc} {x:Str} {v:Expr} (h:ev T v .v sc=stk):nk T sc x v=stk:=by
 unfold nk
 rw [h]
 cases ft T.P v with
 | false=>rfl
 | true=>cases my T.P sc x with
  | false=>rfl
  | true=>cases ez v <;> rfl
theorem gs_name (F:X.Ok) {x:Str} {p:Pos} {v:Expr} {pos:Pos} (hst:ky X.nms x=true):cY X (.Assign [.Name x p] v pos) (nk X.T X.nms x v):=by
 have g:=gd v
 by_cases hns:ez v=true
 ·have hsw:=gC hns (some (.Name x p)) pos.line X.env
  unfold nk
  by_cases hm:ft X.T.P v=true
  ·rw [if_pos hm]
   by_cases hs:my X.T.P X.nms x=true
   ·rw [if_pos hs,guard_pos hns]; exact gc F hsw hst (jy (g.v X F) fun _=>g.m X F hm)
   ·rw [if_neg hs]; exact gi F hsw hst (g.m X F hm)
  ·rw [if_neg hm]; exact gc F hsw hst (g.v X F)
 by_cases hl:∃ a b c d,v=.ListComp a b c d
 case neg=>exact aC (g9 (comp_stk (zDb.mpr hns) (fun a b c d q=>hl ⟨a,b,c,d,q⟩) _ _))
 obtain ⟨elt,gens,scope,q,rfl⟩:=hl
 match gens with
 | [⟨t,iter,ifs,isa⟩] =>
  rcases comp_ev (t:=t) (ifs:=ifs) (isa:=isa) (scope:=scope) (p:=q) F (gd elt) (gd iter) (fun e _=>gd e) with h | ⟨y,yp,rfl,rfl,K,hev⟩
  ·exact aC (g9 (h _))
  ·show cY X _ (if my X.T.P X.nms x then bC false _ else bo (aJ x X.nms) (ev X.T (.ListComp elt [⟨.Name y yp,iter,ifs,0⟩] scope q) .v X.nms))
   by_cases hs:my X.T.P X.nms x=true
   ·rw [if_pos hs]; exact aC rfl
   rw [if_neg hs,hev]
   exact jk F hst K
 | []=>exact aC (g9 rfl)
 | ⟨_,_,_,_⟩::_::_=>exact aC (g9 rfl)
set_option tactic.hygienic true in
theorem gs_assign (F:X.Ok) {ts:List Expr} {v:Expr} {pos:Pos}:cY X (.Assign ts v pos) (ex X.T (.Assign ts v pos) X.nms):=by
 match ts with
 | []=>exact aC rfl
 | _::_::_=>exact aC rfl
 | [e] =>
  show cY X _ (exAsg X.T v X.nms e)
  cases e <;> first | exact aC rfl | skip
  ·
   rename_i o f ap
   show cY X _ (bC (isNm o && dy f X.T.P.flds && ez v) (aO (ev X.T o .p X.nms) f (nq (ft X.T.P v) (ev X.T v .v X.nms))))
   by_cases hc:(isNm o && dy f X.T.P.flds && ez v)=true
   case neg=>exact aC (aY hc)
   rw [guard_pos hc]
   simp only [zA6] at hc
   obtain ⟨⟨h1,h2⟩,h3⟩:=hc
   obtain ⟨y,hy⟩:=zA1.mp h1
   obtain ⟨yp,rfl⟩:=ck hy
   rw [F.P] at h2
   exact sndS_setFld F (memS_iff.mp h2) (gC h3 _ _ X.env) ((gd _).p X F) (jy ((gd v).v X F) fun q=>(gd v).m X F q)
  ·
   rename_i b k sp
   show cY X _ (bC (ez v) (bh (ev X.T b .p X.nms) (ev X.T k .v X.nms) (ev X.T v .v X.nms)))
   by_cases hc:ez v=true
   case neg=>exact aC (aY hc)
   rw [guard_pos hc]
   exact sndS_setSub (gC hc _ _ X.env) ((gd b).p X F) ((gd k).v X F) ((gd v).v X F)
  ·
   rename_i x p
   show cY X _ (bC (ky X.nms x) (nk X.T X.nms x v))
   by_cases hst:ky X.nms x=true
   case neg=>exact aC (aY hst)
   rw [guard_pos hst]
   exact gs_name F hst
theorem gs_expr (F:X.Ok) {e:Expr} {p:Pos}:cY X (.Expr e p) (ex X.T (.Expr e p) X.nms):=by
 cases e <;> first | exact aC rfl | skip
 exact sndS_expr F ((gd _).v X F)
theorem gs_raise (F:X.Ok) {e c:Option Expr} {p:Pos}:cY X (.Raise e c p) (ex X.T (.Raise e c p) X.nms):=by
 show cY X _ (pL X.T X.nms e c)
 unfold pL
 cases c with
 | some _=>exact aC rfl
 | none =>
 show cY X _ ((e.bind Mine.callE).elim stk fun t=>raisK X.T X.nms t.1 t.2.1 t.2.2)
 cases hc:e.bind Mine.callE with
 | none=>exact aC rfl
 | some t =>
 obtain ⟨e,rfl,hc⟩:=zAg.mp hc
 obtain ⟨cp,rfl⟩:=mC hc
 obtain ⟨f,args,kws⟩:=t
 show cY X _ (raisK X.T X.nms f args kws)
 unfold raisK
 cases hn:cR f with
 | none=>exact aC rfl
 | some id =>
 obtain ⟨q,rfl⟩:=ck hn
 match args with
 | []=>exact aC rfl
 | _::_::_=>exact aC rfl
 | [a] =>
 show cY X _ (bC (kws.isEmpty && isXc (calleeOf X.T.P id X.nms) && okStr a && X.T.free) (rais id))
 by_cases hok:(kws.isEmpty && isXc (calleeOf X.T.P id X.nms) && okStr a && X.T.free)=true
 case neg=>exact aC (aY hok)
 rw [guard_pos hok]
 simp only [zA6] at hok
 obtain ⟨⟨⟨h0,h1⟩,h2⟩,h3⟩:=hok
 obtain rfl:=zB7.mp h0
 have hsp:=eX F (id:=id)
 cases hc:calleeOf X.T.P id X.nms <;> rw [hc] at h1 hsp <;> first | (exact ff h1; done) | skip
 obtain ⟨m,k,q',e'⟩:=km (args:=[a]) h2
 cases e'
 exact sndS_raise F h3 hsp.2 hsp.1
theorem gs_try (F:X.Ok) {body:List Stmt} {hs:List ExceptHandler} {orelse fin:List Stmt} {p:Pos} (hb:eJ X body (exs X.T body X.nms)) (hh:∀ hs',exh X.T.inH hs X.nms=some hs'->F2 (HOk X) hs hs') :
  cY X (.Try body hs orelse fin p) (ex X.T (.Try body hs orelse fin p) X.nms):=by
 show cY X _ (tryK X.T (orelse.isEmpty && fin.isEmpty && !hs.isEmpty) (exs X.T body X.nms) (exh X.T.inH hs X.nms))
 by_cases hc:(orelse.isEmpty && fin.isEmpty && !hs.isEmpty)=true
 case neg=>exact aC (aY hc)
 unfold tryK
 rw [guard_pos hc]
 simp only [zA6,zC0] at hc
 obtain ⟨⟨h1,h2⟩,h3⟩:=hc
 obtain rfl:=zB7.mp h1
 obtain rfl:=zB7.mp h2
 cases he:exh X.T.inH hs X.nms with
 | none=>exact aC rfl
 | some hs'=>exact sndS_try F hb (hh hs' he) (by rintro rfl; exact eN Bool.ctorIdx h3 rfl)
theorem gs_for (F:X.Ok) {t it:Expr} {body orelse:List Stmt} {p:Pos} (hb:eJ X body (exs X.T body X.nms)):cY X (.For t it body orelse p) (ex X.T (.For t it body orelse p) X.nms):=by
 show cY X _ (bC (orelse.isEmpty && tgtOk (ky X.nms) t && X.T.free) (match jm X.nms t with | some t'=>dU t' (ev X.T it .i X.nms) (exs X.T body X.nms) | none=>stk))
 by_cases hc:(orelse.isEmpty && tgtOk (ky X.nms) t && X.T.free)=true
 case neg=>exact aC (aY hc)
 rw [guard_pos hc]
 simp only [zA6] at hc
 obtain ⟨⟨h1,h2⟩,h3⟩:=hc
 obtain rfl:=zB7.mp h1
 by_cases hset:∃ a b c,it=.Set a b c
 ·obtain ⟨a,b,c,rfl⟩:=hset
  exact aC (by cases jm X.nms t <;> rfl)
 cases hs:jm X.nms t with
 | none=>exact aC rfl
 | some t'=>exact sndS_for F h3 (fun a b c q=>hset ⟨a,b,c,q⟩) ((gd it).i X F h3) hb fun hf=>tgOk_of h2 (fun x q=>k8 hf q) hs
theorem gs_while (F:X.Ok) {t:Expr} {body orelse:List Stmt} {p:Pos} (hb:eJ X body (exs X.T body X.nms)):cY X (.While t body orelse p) (ex X.T (.While t body orelse p) X.nms):=by
 by_cases hc:(orelse.isEmpty && X.T.free)=true
 case neg=>exact aC (aY hc)
 rw [show ex X.T (.While t body orelse p) X.nms=bD (ev X.T t .v X.nms) (exs X.T body X.nms) X.T.turns from guard_pos hc]
 obtain rfl:=zB7.mp (zAn.mp hc).1
 exact sndS_while F ((gd t).t X F) hb _
set_option tactic.hygienic true
mutual
theorem gs:∀ (st:Stmt) (X:Fx) (F:X.Ok),cY X st (ex X.T st X.nms)
 | .Return v p,X,F=>sndS_return (pI (gdo v) F)
 | .If t a b p,X,F=>sndS_if ((gd t).t X F) (gss a X F) (gss b X F)
 | .For t it body orelse p,X,F=>gs_for F (gss body X F)
 | .Assign ts v p,X,F=>gs_assign F
 | .Raise e c p,X,F=>gs_raise F
 | .Try body hs orelse fin p,X,F=>gs_try F (gss body X F) (fun hs' he=>gsh hs X F hs' he)
 | .Expr e p,X,F=>gs_expr F
 | .While t body orelse p,X,F=>gs_while F (gss body X F)
 | .Pass ..,X,F=>aC rfl
 | .FunctionDef ..,X,F=>aC rfl
 | .AsyncFunctionDef ..,X,F=>aC rfl
 | .ClassDef ..,X,F=>aC rfl
 | .Delete ..,X,F=>aC rfl
 | .TypeAlias ..,X,F=>aC rfl
 | .AugAssign ..,X,F=>aC rfl
 | .AnnAssign ..,X,F=>aC rfl
 | .AsyncFor ..,X,F=>aC rfl
 | .With ..,X,F=>aC rfl
 | .AsyncWith ..,X,F=>aC rfl
 | .Match ..,X,F=>aC rfl
 | .TryStar ..,X,F=>aC rfl
 | .Assert ..,X,F=>aC rfl
 | .Import ..,X,F=>aC rfl
 | .ImportFrom ..,X,F=>aC rfl
 | .Global ..,X,F=>aC rfl
 | .Nonlocal ..,X,F=>aC rfl
 | .Break ..,X,F=>aC rfl
 | .Continue ..,X,F=>aC rfl
theorem gss:∀ (st:List Stmt) (X:Fx) (F:X.Ok),eJ X st (exs X.T st X.nms)
 | [],X,F=>sndSs_nil
 | st::r,X,F=>sndSs_cons (gs st X F) (gss r X F)
theorem gsh:∀ (hs:List ExceptHandler) (X:Fx) (F:X.Ok) (hs':Hs),exh X.T.inH hs X.nms=some hs'->F2 (HOk X) hs hs'
 | [],X,F,hs',h=>by cases h; exact .nil
 | .ExceptHandler t nm body p::r,X,F,hs',h=>by
  replace h:exhK X.T.inH X.nms nm (!body.isEmpty) (exs X.T.inH body X.nms) t (exh X.T.inH r X.nms)=some hs':=h
  obtain ⟨d,h1,h2⟩:=zAg.mp h
  obtain ⟨e,rfl,h3⟩:=zAg.mp h1
  obtain ⟨q,rfl⟩:=ck h3
  obtain ⟨r',hr,h4⟩:=zAg.mp h2
  obtain ⟨hc,rfl⟩:=bu h4
  simp only [zA6] at hc
  obtain ⟨⟨⟨h5,h6⟩,h7⟩,h8⟩:=hc
  obtain rfl:=zC1.mp h8
  refine .cons ?_ (gsh r X F r' hr)
  cases body with
  | nil=>exact ff h7
  | cons b₀ bs=>exact ⟨⟨q,b₀,bs,p,rfl,fun e=>gss (b₀::bs) (X.mark e) F.mark⟩,by rw [← F.P]; exact h5,h6⟩
end
set_option tactic.hygienic false
theorem callOk {C:Cx} (K:CxOk C) {k:Nat} (n:Nat):jD C n (au C.P k n):=by
 induction n using Nat.strongRecOn with
 | ind n ih =>
  cases n with
  | zero=>exact fun c f vs st h=>absurd lE h
  | succ n =>
   have:=callOk_of (T:=ctxOf C.P k (au C.P k n) (au C.P k (n - 4))) K rfl rfl (ih n (by lia)) ⟨k,ih (n - 4) (by lia),rfl⟩ fun X F ss=>gss ss X F
   rw [mD]
   exact this
end
noncomputable def pF (f:AV->Option AV):Bool->List AV->Option AV
 | false,[a]=>f a
 | _,_=>none
noncomputable def intOf:AV->Option AV
 | .bool b=>some (.int (if b then 1 else 0))
 | _=>none
noncomputable def denMin (k:Bool) (cs:List AV):Option AV:=if k then none else match cs with
 | [a,b]=>on2 a b fun x y=>some (.int (min x y))
 | _=>none
noncomputable def tupOf:AV->Option AV
 | .lst l=>some (.tup l)
 | _=>none
noncomputable def dctOf:AV->Option AV
 | .dct ks vs=>some (.dct ks vs)
 | _=>none
noncomputable def az:BiE:=⟨.builtin "len",pF fun a=>(lenV a).map fun n=>.int n,false,false⟩
noncomputable def aZ:BiE:=⟨.type "list",pF fun a=>(ew a).bind bz,false,true⟩
noncomputable def dP:BiE:=⟨.type "tuple",pF tupOf,false,false⟩
noncomputable def biInt:BiE:=⟨.type "int",pF intOf,false,false⟩
noncomputable def biAbs:BiE:=⟨.builtin "abs",pF fun a=>(gn a).map fun i=>.int i.natAbs,false,false⟩
noncomputable def i9:BiE:=⟨.builtin "min",denMin,true,false⟩
noncomputable def pj:BiE:=⟨.type "dict",pF dctOf,false,true⟩
section
variable {C:Cx} {A:Around} {W:Wd} {E:Value->Shared->Prop}
theorem sizeLine_lt:(sizeLine:Int) < 2 ^ 63:=by unfold sizeLine; decide
theorem fits {k:Nat} (h:k<=sizeLine):(k:Int) < 2 ^ 63:=Int.lt_of_le_of_lt (Int.ofNat_le.mpr h) sizeLine_lt
theorem gQ {val:Value} {f:AV->Option AV} {b c:Bool} (h:∀ (A:Around) (W:Wd) (a c:AV) (v:Value) (E:Value->Shared->Prop),RP C W a v->f a=some c->1 < W.h.objs.size->(b=true->A.handled=none)->wpAny C.M A (call val [v]) (Made C W c) E W.s):cW C ⟨val,pF f,b,c⟩:=fun A W k t cs vs c E hf _ hz r e=>by
 cases k with
 | true=>cases e
 | false =>
  cases r with
  | nil=>cases e
  | cons r t=>cases t with
   | nil=>exact h A W _ c _ E r e hz fun q=>hf (.inr q)
   | cons _ _=>cases e
set_option tactic.hygienic true in
theorem sound_len:cW C az:=gQ fun A W a c v E r h hz _=>by
 obtain ⟨k,h',rfl⟩:=zAo.mp h
 clear h
 have h:=h'
 clear h'
 cases a <;> first | (cases h; done) | skip
 ·cases h
  obtain ⟨hs,t,rfl⟩:=r.str
  exact PyProof.Rows.len_str (Int.not_le.mpr (fits hs.sz)) Made.int
 ·cases h
  obtain ⟨ad,rfl,vs,m,ho,hsz,hv⟩:=r.tup
  rw [← hv.size]
  exact len_tuple (items:=vs) ⟨_,ho,rfl,m,rfl⟩ (fits hsz) Made.int
 ·cases h
  obtain ⟨ad,rfl,vs,m,ho,hsz,hv⟩:=r.lst
  rw [← hv.size]
  exact len_list (items:=vs) ⟨_,ho,rfl,m,rfl⟩ (fits hsz) Made.int
 ·cases h
  obtain ⟨ad,rfl,o,ss,ws,h1,h2,rfl,h4,h5⟩:=r.dct
  have hD:W.h.DictOf (strKind C.prog C.w) ad (ss.zip ws):=zCm.mpr ⟨o,h1,h4.is⟩
  have hl:(ss.zip ws).length=(ss.map AV.str).length:=by rw [zDm,zAd,h4.len,Nat.min_self]
  rw [← hl]
  exact call_len_dict h2 hD (by rw [hl,zAd,h4.len]; exact fits h4.sz) Made.int
 ·rename_i n
  cases h
  have:∃ ad o,v=.ref ad/\W.h.get? ad=some o/\SetO o n:=by
   cases r with
   | val r=>obtain ⟨ad,e,_,o,q⟩:=r; exact ⟨ad,o,e,q⟩
   | @con ad e r=>obtain ⟨o,q⟩:=r; exact ⟨ad,o,e,q⟩
  obtain ⟨ad,o,rfl,hg,hex,es,ep,t,hd,hf,rfl,hlt⟩:=this
  exact call_len_set hg hex hd hf (Int.lt_trans (Int.ofNat_lt.mpr hlt) (by decide)) Made.int
theorem sound_list:cW C aZ:=gQ fun A W a c v E r h hz _=>by
 obtain ⟨l,h1,h2⟩:=zAg.mp h
 obtain ⟨_,rfl⟩:=dM h2
 have key:∀ (ad:Addr) (vs:Array Value) (m:Nat) (Ty:String),(Ty="list" ∨ Ty="tuple")->W.h.get? ad=some { cls:=.type Ty,data:=.seq vs m }->vs.size<=lim->VReps C W l vs.toList ->
   wpAny C.M A (call (.type "list") [.ref ad]) (Made C W (.lst l)) E W.s:=fun ad vs m Ty hT ho hsz hv =>
  call_list_seq ad hT ho rfl rfl (fun h' c' hk hn=>Made.newLst (tk:=W.s.toks) hk get?_size hn hsz hv) hsz
 cases a <;> first | (cases h1; done) | skip
 ·cases h1; obtain ⟨ad,rfl,vs,m,ho,hsz,hv⟩:=r.tup
  exact key ad vs m "tuple" (.inr rfl) ho hsz hv
 ·cases h1; obtain ⟨ad,rfl,vs,m,ho,hsz,hv⟩:=r.lst
  exact key ad vs m "list" (.inl rfl) ho hsz hv
theorem sound_tuple:cW C dP:=gQ fun A W a c v E r h hz _=>by
 cases a <;> first | (cases h; done) | skip
 cases h
 obtain ⟨ad,rfl,vs,m,hg,hsz,hv⟩:=r.lst
 refine call_tuple_list (items:=vs) ⟨_,hg,rfl,m,rfl⟩ (fun h' hk=>?_) hsz
 refine .new (h:=h'.push (sqO "tuple" vs 0)) (tk:=W.s.toks) (fun b o e=>zAh _ (hk b o e)) ?_ ⟨vs,0,zAu _ rfl,hsz,hv⟩
 cases e:W.h.get? h'.objs.size with
 | none=>rfl
 | some o=>exact absurd (zA5 (hk _ _ e)) (Nat.lt_irrefl _)
theorem sound_int:cW C biInt:=gQ fun A W a c v E r h hz _=>by
 cases a <;> first | (cases h; done) | skip
 obtain rfl:=r.bool
 obtain rfl:=Option.some.inj h
 exact call_int_bool Made.int
theorem sound_abs:cW C biAbs:=gQ fun A W a c v E r h hz _=>by
 obtain ⟨i,h1,rfl⟩:=zAo.mp h
 obtain rfl:=bN h1
 obtain ⟨t,rfl⟩:=r.int
 refine PyProof.Rows.call_abs_int fun u tk=>?_
 rw [show (if i < 0 then -i else i)=((i.natAbs:Nat):Int) from by split <;> lia]
 exact Made.int
theorem sound_dict:cW C pj:=gQ fun A W a c v E r h hz _=>by
 cases a <;> first | (cases h; done) | skip
 cases h
 obtain ⟨ad,rfl,o,ss,ws,h1,h2,rfl,h4,h5⟩:=r.dct
 have hD:W.h.DictOf (strKind C.prog C.w) ad (ss.zip ws):=zCm.mpr ⟨o,h1,h4.is⟩
 refine kt_call_dict (knd:=strKind C.prog C.w) h2 hD (by rw [zDm]; exact zAj (zB8 _ _) h4.sz) fun h' hd hs=>?_
 obtain ⟨o',ho',hdo⟩:=zCm.mp hd
 exact .new (h:=h') (tk:=W.s.toks) (fun b o e=>(hs.2 b (zBk (zA5 e))).trans (zAh _ e)) get?_size ⟨o',ss,ws,ho',beq_eq_false_iff_ne.mpr (fun q=>by rw [show W.h.objs.size=1 from q] at hz; exact absurd hz (by decide)),rfl,⟨hdo,h4.len,h4.sz,h4.ok⟩,h5⟩
theorem Made.intk {i:Int} {t tk:Nat} {h:Heap} (g:Ge W.h h):Made C W (.int i) (.int i t) { W.s with heap:=h,toks:=tk }:=.val (h:=h) (tk:=tk) g rfl ⟨_,rfl⟩
theorem sound_min:cW C i9:=fun A W k t cs vs c E hf _ hz r e=>by
 have hh:=hf (.inr rfl)
 cases k with
 | true=>exact nomatch (show (none:Option AV)=some c from e)
 | false =>
  cases r with
  | nil=>exact nomatch (show (none:Option AV)=some c from e)
  | cons r1 t=>cases t with
   | nil=>exact nomatch (show (none:Option AV)=some c from e)
   | cons r2 t=>cases t with
    | nil =>
     obtain ⟨x,h1,e⟩:=zAg.mp (show on2 _ _ (fun x y=>some (AV.int (min x y)))=some c from e)
     obtain ⟨y,h2,e2⟩:=zAg.mp e
     obtain rfl:=bN h1; obtain rfl:=bN h2
     obtain ⟨t1,rfl⟩:=r1.int
     obtain ⟨t2,rfl⟩:=r2.int
     cases e2
     refine min_two_ints hh fun h' tk hk=>?_
     rw [Int.min_def]
     split
     ·rw [if_neg (by lia)]; exact .intk hk
     ·rw [if_pos (by lia)]; exact .intk hk
    | cons _ _=>exact nomatch (show (none:Option AV)=some c from e)
end
noncomputable def dg:List AV->Option (List Int)
 | []=>some []
 | .int i::r=>(dg r).map (i::·)
 | _::_=>none
noncomputable def gu:List Int->Option Int
 | []=>none
 | x::r=>some (r.foldl max x)
noncomputable def eS:List Str->List Str->List Str
 | σ,[]=>σ
 | σ,s::r=>eS (if dy s σ then σ else σ++[s]) r
noncomputable def denMax (k:Bool) (cs:List AV):Option AV:=match cs with
 | [a]=>(fW a).bind fun l=>(dg l).bind fun ns=>if k then some (.int ((gu ns).getD 0)) else (gu ns).map .int
 | [a,b]=>if k then none else on2 a b fun x y=>some (.int (max x y))
 | _=>none
noncomputable def biMax:BiE:=⟨.builtin "max",denMax,true,false⟩
noncomputable def sumOf (a:AV):Option AV:=(fW a).bind fun l=>(dg l).map fun ns=>.int ns.sum
noncomputable def biSum:BiE:=⟨.builtin "sum",pF sumOf,true,false⟩
noncomputable def setOf (a:AV):Option AV:=(tupV a).bind fun l=>(eF l).bind fun ss=>if zCd ss.length 4000 then some (.sett (eS [] ss).length) else none
noncomputable def mn:BiE:=⟨.type "set",pF setOf,true,false⟩
section
variable {prog:Program} {w:World} {A:Around} {E:Value->Shared->Prop} {R:Result->Shared->Prop} {I:Addr} {fp wr:List Addr} {P:Nat->Value->Prop} {St:Nat->Heap->Prop} {s:Shared}
noncomputable def Nums (ns:List Int) (P:Nat->Value->Prop):Prop:=∀ i v,P i v->∀ x,ns[i]?=some x->∃ t,v=.int x t
noncomputable def MaxS (S:Addr) (v:Value) (h:Heap):Prop:=∃ c,h.get? S=some { cls:=.type "list",dict:=none,data:=.seq #[v,v] c,slots:=#[] }
theorem max_turn {ns:List Int} (Wk:Walks prog w A.in1 I fp wr ns.length P St) (hv:Nums ns P) {kw:List (Str × Value)} {S:Addr} (hSf:S ∉ fp) :
  ∀ (r:List Int) (j:Nat) (s:Shared) (m:Int) (t:Tok),ns.drop j=r->j<=ns.length->St j s.heap->MaxS S (.int m t) s.heap ->
  (∀ h' tk t',(∀ b o,b ∉ wr->b ≠ S->s.heap.get? b=some o->h'.get? b=some o)->R (.ok (.ret (.int (r.foldl max m) t'))) { s with heap:=h',toks:=tk }) ->
  codeAny (model prog w) A (.builtin "max.loop" ⟨[.ref I,.none,.ref S],kw⟩) R s:=by
 have hSw:S ∉ wr:=fun h=>hSf (Wk.sub _ h)
 have hname:(toString "max"++toString ".loop":String)="max.loop":=by decide
 intro r
 induction r with
 | nil =>
  intro j s m t hr hj hst hS hR
  obtain ⟨c,hS⟩:=hS
  have hin:j=ns.length:=zDo hj (List.drop_eq_nil_iff.mp hr)
  refine zDc F.entry_max_loop ?_
  rw [Around.under_plainId F.plain_max_loop _]
  show wpAny _ A.in1 (seqItems? (.ref S) >>= _) _ _ s
  refine zAa (zBw hS rfl ?_)
  show wpAny _ A.in1 (tryCatch (pyNext (.ref I)) _ >>= _) _ _ s
  refine zAa (wpAny_tryCatch (Wk.done s _ _ (hin ▸ hst) fun h' tk hk'=>?_))
  show wpAny _ A.in1 (updateSeq S (fun _=>#[]) >>= _) _ _ _
  refine zAa (wpAny_updateSeq (hk' S _ hSw hS) rfl (zAa (zDg (zAk ?_))))
  exact hR _ tk t fun b o hbw hbS e=>(zBf _ _ (Ne.symm hbS)).trans (hk' b o hbw e)
 | cons x r ih =>
  intro j s m t hr hj hst hS hR
  obtain ⟨c,hS⟩:=hS
  have hlt:j < ns.length:=by
   refine Nat.lt_of_not_le fun h=>?_
   rw [List.drop_eq_nil_of_le h] at hr; exact eN List.ctorIdx hr rfl
  have hx:ns[j]?=some x:=by
   rw [zCk hlt] at hr
   rw [zAw hlt]; exact congrArg some (List.cons.inj hr).1
  have hr':ns.drop (j+1)=r:=by
   rw [zCk hlt] at hr; exact (List.cons.inj hr).2
  refine zDc F.entry_max_loop ?_
  rw [Around.under_plainId F.plain_max_loop _]
  show wpAny _ A.in1 (seqItems? (.ref S) >>= _) _ _ s
  refine zAa (zBw hS rfl ?_)
  show wpAny _ A.in1 (tryCatch (pyNext (.ref I)) _ >>= _) _ _ s
  refine zAa (wpAny_tryCatch (Wk.item j s _ _ hlt hst fun v h' tk hP hst' hk'=>?_))
  obtain ⟨u,rfl⟩:=hv j v hP x hx
  have hS':=hk' S _ hSw hS
  show wpAny _ A.in1 (tryCatch (holding [.int x u,.int x u] (richCompare .Gt (.int x u) (.int m t) >>= _)) _ >>= _) _ _ _
  refine zAa (wpAny_tryCatch (zA0 (zAa (CmpOf.ints_gt (P:=fun i v=>∃ t,v=.int (if i=0 then x else m) t) (fun i=>if i=0 then x else m) (fun _ _ h=>h) 0 1 _ _ _ _ _ ⟨u,rfl⟩ ⟨t,rfl⟩ ?_))))
  refine zAa (zA0 (wpAny_truthy_bool ?_))
  refine zAa (zDg (zAk ?_))
  by_cases hb:x > m
  ·rw [if_pos (by exact decide_eq_true hb)]
   refine zAa ?_
   refine wpAny_updateSeq hS' rfl (zAa (zDg ?_))
   rw [hname]
   refine zAk ⟨plainId_quiet F.plain_max_loop _,ih (j+1) _ x u hr' hlt (Wk.frame _ _ _ hst' fun b hbf o e=>?_) ⟨_,zCv _ hS' rfl⟩ fun h'' tk'' t' hk''=>?_⟩
   ·exact (zBf _ _ (fun h:S=b=>hSf (by rw [h]; exact hbf))).trans e
   ·have:=hR h'' tk'' t' fun b o hbw hbS e=>hk'' b o hbw hbS ((zBf _ _ (Ne.symm hbS)).trans (hk' b o hbw e))
    rw [List.foldl_cons,Int.max_eq_right (Int.le_of_lt hb)] at this; exact this
  ·rw [if_neg (by exact fun q=>hb (of_decide_eq_true q))]
   refine zAa (zDg ?_)
   rw [hname]
   refine zAk ⟨plainId_quiet F.plain_max_loop _,ih (j+1) _ m t hr' hlt hst' ⟨c,hS'⟩ fun h'' tk'' t' hk''=>?_⟩
   have:=hR h'' tk'' t' fun b o hbw hbS e=>hk'' b o hbw hbS (hk' b o hbw e)
   rw [List.foldl_cons,Int.max_eq_left (Int.not_lt.mp hb)] at this; exact this
theorem max_start {ns:List Int} (Wk:Walks prog w A.in1 I fp wr ns.length P St) (hv:Nums ns P) {kw:List (Str × Value)} {S:Addr} (hSf:S ∉ fp) (hst:St 0 s.heap) {c:Nat}
  (hS:s.heap.get? S=some { cls:=.type "list",dict:=none,data:=.seq #[] c,slots:=#[] })
  {res:Int} (hres:gu ns=some res ∨ gu ns=none/\∃ t r,kw=(("default":Str),.int res t)::r)
  (hR:∀ h' tk t',(∀ b o,b ∉ wr->b ≠ S->s.heap.get? b=some o->h'.get? b=some o)->R (.ok (.ret (.int res t'))) { s with heap:=h',toks:=tk }) :
  codeAny (model prog w) A (.builtin "max.loop" ⟨[.ref I,.none,.ref S],kw⟩) R s:=by
 have hSw:S ∉ wr:=fun h=>hSf (Wk.sub _ h)
 have hname:(toString "max"++toString ".loop":String)="max.loop":=by decide
 refine zDc F.entry_max_loop ?_
 rw [Around.under_plainId F.plain_max_loop _]
 show wpAny _ A.in1 (seqItems? (.ref S) >>= _) _ _ s
 refine zAa (zBw hS rfl ?_)
 show wpAny _ A.in1 (tryCatch (pyNext (.ref I)) _ >>= _) _ _ s
 cases ns with
 | nil =>
  obtain ⟨_,t,r,rfl⟩:=hres.resolve_left fun q=>nomatch q
  refine zAa (wpAny_tryCatch (Wk.done s _ _ hst fun h' tk hk'=>?_))
  refine zAa (wpAny_rule (zAk ?_))
  exact hR _ tk t fun b o hbw hbS e=>hk' b o hbw e
 | cons x r =>
  obtain hres:r.foldl max x=res:=Option.some.inj (hres.resolve_right fun q=>nomatch q.1)
  refine zAa (wpAny_tryCatch (Wk.item 0 s _ _ (Nat.zero_lt_succ _) hst fun v h' tk hP hst' hk'=>?_))
  obtain ⟨u,rfl⟩:=hv 0 v hP x rfl
  have hS':=hk' S _ hSw hS
  show wpAny _ A.in1 (updateSeq S (fun _=>#[.int x u,.int x u]) >>= _) _ _ _
  refine zAa (wpAny_updateSeq hS' rfl ?_)
  rw [hname]
  refine zAk ⟨plainId_quiet F.plain_max_loop _,max_turn Wk hv hSf r 1 _ x u rfl (zBx (zA7 _)) (Wk.frame _ _ _ hst' fun b hbf o e=>?_) ⟨_,zCv _ hS' rfl⟩ fun h'' tk'' t' hk''=>?_⟩
  ·exact (zBf _ _ (fun h:S=b=>hSf (by rw [h]; exact hbf))).trans e
  ·rw [hres]
   exact hR h'' tk'' t' fun b o hbw hbS e=>hk'' b o hbw hbS ((zBf _ _ (Ne.symm hbS)).trans (hk' b o hbw e))
theorem wpAny_max {x:Value} {kw:List (Str × Value)} {d:Option Value} {Q:Value->Shared->Prop} (ha:argsOk "max" ⟨[x],kw⟩) (hb:Builtin.Builtins.bindParams "max" ["key","default"] 0 ⟨[],kw⟩=pure [none,d]) (hd:(d.toList.map fun d=>(("default":Str),d))=kw)
  {ns:List Int} {res:Int} (hres:gu ns=some res ∨ gu ns=none/\∃ t r,kw=(("default":Str),.int res t)::r)
  (h:wpAny (model prog w) A.in1 (pyIter x) (fun it s₂=>∃ I fp wr P St,it=.ref I/\Walks prog w A.in1 I fp wr ns.length P St/\St 0 s₂.heap/\(∀ b ∈ fp,b < s₂.heap.objs.size)/\Nums ns P /\
   ∀ h' tk t',(∀ b o,b ∉ wr->s₂.heap.get? b=some o->h'.get? b=some o)->Q (.int res t') { s₂ with heap:=h',toks:=tk }) E s) :
  wpAny (model prog w) A (call (.builtin "max") [x] kw) Q E s:=by
 have hname:(toString "max"++toString ".loop":String)="max.loop":=by decide
 refine wpAny_call (codeAny_call_builtin F.plain_max F.entry_max ?_)
 have hck:checkBuiltinCall "max" ⟨[x],kw⟩=pure ():=by
  simp only [checkBuiltinCall,F.kind_max]
  unfold argsOk at ha
  cases hsig:Manifest.signature? "max" with
  | none=>rfl
  | some sig=>simp only [hsig] at ha; exact ha
 rw [hck]
 refine zAk ?_
 show wpAny _ A.in1 (Builtin.Builtins.bindParams "max" ["key","default"] 0 ⟨[],kw⟩ >>= _) _ _ s
 refine zAa (wpAny_of_eq hb ?_)
 refine zAa (zAk ?_)
 refine zAa (zAv h (fun it s₂ h₂=>?_) fun _ _ e=>e)
 obtain ⟨I,fp,wr,P,St,rfl,Wk,hst,hfp,hv,hQ⟩:=h₂
 refine zAa (zCc ?_)
 have hSf:s₂.heap.objs.size ∉ fp:=fun hm=>Nat.lt_irrefl _ (hfp _ hm)
 rw [hname,hd]
 refine zAk ⟨plainId_quiet F.plain_max_loop _,max_start Wk hv hSf (Wk.frame _ _ _ hst fun b _ o e=>zAh _ e) (zAu _ rfl) hres fun h' tk t' hk=>?_⟩
 exact hQ h' tk t' fun b o hbw e=>hk b o hbw (zBk (zA5 e)) (zAh _ e)
end
theorem mV:isSubtype (.type "tuple") (.type "set")=pure false:=by rw [isSubtype_type]; kernel_rfl
theorem ia:isSubtype (.type "tuple") (.type "frozenset")=pure false:=by rw [isSubtype_type]; kernel_rfl
theorem ny:∀ (r σ:List Str),(eS σ r).length<=σ.length+r.length
 | [],σ=>zAy _
 | s::r,σ=>by
  refine zAj (ny r (if dy s σ then σ else σ++[s])) ?_
  rw [zCq,← Nat.succ_add_eq_add_succ]
  refine zBo ?_ _
  split
  ·exact zDd _
  ·rw [zAc]; exact zAy _
theorem ml (k:Str):∀ σ:List Str,dy k σ=σ.any (fun y=>decide (k=y))
 | []=>rfl
 | y::r=>by
  rw [memS_c]
  rw [ml k r,List.any_cons,dC]
  congr 1
section
variable {prog:Program} {w:World} {A:Around} {E:Value->Shared->Prop} {R:Result->Shared->Prop} {I:Addr} {fp wr:List Addr} {n:Nat} {P:Nat->Value->Prop} {St:Nat->Heap->Prop} {s:Shared}
theorem setStr_loop (W:Walks prog w A.in1 I fp wr n P St) (S:Addr) (hSf:S ∉ fp) (ss:List Str) (hss:ss.length=n)
  (hval:∀ i v,P i v->∃ x t,ss[i]?=some x/\v=.str x t) (hok:∀ x ∈ ss,PyData.strOk x=true) (hb:n+1 < scanBound) :
  ∀ (k i:Nat) (σ:List Str) (s:Shared),n - i=k->i<=n->St i s.heap->σ.length<=i ->
   s.heap.SetOf (strKind prog w) S (fun k'=>dy k' σ) σ.length ->
   (∀ h' tk,(∀ b o,b ∉ S::wr->s.heap.get? b=some o->h'.get? b=some o)->h'.SetOf (strKind prog w) S (fun k'=>dy k' (eS σ (ss.drop i))) (eS σ (ss.drop i)).length->R (.ok (.ret .none)) { s with heap:=h',toks:=tk }) ->
   codeAny (model prog w) A (.builtin "set.update.loop" ⟨[.ref S,.ref I],[]⟩) R s:=by
 have hSw:S ∉ wr:=fun h=>hSf (W.sub _ h)
 intro k
 induction k with
 | zero =>
  intro i σ s hk hi hst hσ hS hR
  have hin:i=n:=zDo hi (Nat.le_of_sub_eq_zero hk)
  subst hin
  refine zDc F.entry_set_update_loop ?_
  rw [Around.under_plainId F.plain_set_update_loop _]
  show wpAny _ A.in1 (pyNext (.ref I) >>= _) _ _ s
  refine zAa (W.done s _ _ hst fun h' tk hm=>?_)
  show wpAny _ A.in1 (ret Value.none) _ _ _
  refine zAk (hR h' tk (fun b o hb e=>hm b o (fun q=>hb (zAe _ q)) e) ?_)
  rw [List.drop_of_length_le (zCo hss)]
  obtain ⟨o,es,ep,t,ho,rest⟩:=hS
  exact ⟨o,es,ep,t,hm S _ hSw ho,rest⟩
 | succ k ih =>
  intro i σ s hk hi hst hσ hS hR
  have hlt:i < n:=Nat.lt_of_sub_eq_succ hk
  refine zDc F.entry_set_update_loop ?_
  rw [Around.under_plainId F.plain_set_update_loop _]
  show wpAny _ A.in1 (pyNext (.ref I) >>= _) _ _ s
  refine zAa (W.item i s _ _ hlt hst fun v h₁ tk hP hst' hm=>?_)
  obtain ⟨x,t,hx,rfl⟩:=hval i v hP
  have hS':h₁.SetOf (strKind prog w) S (fun k'=>dy k' σ) σ.length:=by
   obtain ⟨o,es,ep,tb,ho,rest⟩:=hS
   exact ⟨o,es,ep,tb,hm S _ hSw ho,rest⟩
  have hkey:(strKind prog w).is x (.str x t)=true:=strKind_is _ _ _ _
  show wpAny _ A.in1 (holding [Value.str x t] (setAdd S (.str x t)) >>= _) _ _ _
  refine zAa (zA0 ?_)
  unfold setAdd
  refine zA0 ?_
  refine zAa ((strKind prog w).pyHash (k:=x) hkey ?_)
  refine wpAny_setAddHashed_of (knd:=strKind prog w) (s:={ s with heap:=h₁,toks:=tk+1 }) hkey rfl hS' (by omega) fun h' hsb hS2=>?_
  have hdrop:ss.drop i=x::ss.drop (i+1):=by
   have:=zAz.mp hx
   rw [← this.2]; exact zCk (hss ▸ hlt)
  have hSi:h'.SetOf (strKind prog w) S (fun k'=>dy k' (if dy x σ then σ else σ++[x])) (if dy x σ then σ else σ++[x]).length:=by
   refine SetOf_congr hS2 (fun k'=>?_) (by split <;> simp)
   by_cases hc:dy x σ=true
   ·rw [if_pos hc]
    by_cases e:k'=x
    ·subst e; rw [hc]; simp
    ·simp [e]
   ·rw [if_neg hc,ml,ml,List.any_append]
    simp
  have hσ':(if dy x σ then σ else σ++[x]).length<=i+1:=by split <;> (try rw [zAc,zDe]) <;> omega
  refine zAk ⟨plainId_quiet F.plain_set_update_loop _,ih (i+1) _ _ (by omega) hlt (W.frame _ _ _ hst' fun b hb o e=>?_) hσ' hSi fun h'' tk'' hm'' hS''=>?_⟩
  ·exact (hsb.2 b (fun h:b=S=>hSf (by rw [← h]; exact hb))).trans e
  ·refine hR h'' tk'' (fun b o hb e=>hm'' b o hb ?_) ?_
   ·exact (hsb.2 b (fun h:b=S=>hb (by rw [h]; exact zAb))).trans (hm b o (fun q=>hb (zAe _ q)) e)
   ·rw [hdrop]; exact hS''
set_option maxRecDepth 100000 in
set_option maxHeartbeats 3200000 in
theorem mS {l:Addr} {items:Array Value} {ss:List Str} {Q:Value->Shared->Prop}
  (hh:A.handled=none) (hl:s.heap.IsTuple l items) (hsz:ss.length=items.size) (hi:∀ (i:Nat) (v:Value),items[i]?=some v->∃ x t,ss[i]?=some x/\v=Value.str x t) (hok:∀ x ∈ ss,PyData.strOk x=true) (hb:items.size+1 < scanBound)
  (h:∀ (h':Heap) (tk:Nat),h'.SetOf (strKind prog w) s.heap.objs.size (fun k'=>dy k' (eS [] ss)) (eS [] ss).length ->
   (∀ b o,b < s.heap.objs.size->s.heap.get? b=some o->h'.get? b=some o)->Q (.ref s.heap.objs.size) { s with heap:=h',toks:=tk }) :
  wpAny (model prog w) A (call (.type "set") [.ref l]) Q E s:=by
 obtain ⟨c,tl,hmro⟩:=F.called_set.mro
 have hmade:=F.called_set.made
 have hsub:=F.called_set.sub
 refine wpAny_call (codeAny_of_tree ?_)
 show wpAny _ _ (callAny (.type "set") _) _ _ _
 refine zAk ⟨Code.quiet_builtin _ (by decide +kernel),zDc F.entry_type_call ?_⟩
 rw [Around.under_plain (weight_type_call_type "set" [.ref l] []) rfl]
 have h1:=F.called_set.notType
 have h2:=F.called_set.canCreate
 have hct:=F.typeCall_set_1 (.ref l)
 repeat (any_goals (first | assumption | wp_step))
 refine codeAny_mono (code_set_new_1 (.ref l) (E:=E) (Q₁:=fun obj s₁=>∃ led:Bool,obj=.ref s.heap.objs.size/\s₁={ s with heap:=s.heap.push { cls:=.type "set",dict:=none,data:=.set #[] 0 (.fresh 0 0 led) } }) fun led=>⟨led,rfl,rfl⟩) fun r s₁ hr=>?_
 cases r with
 | error e=>exact hr
 | ok fl =>
  cases fl with
  | ret obj =>
   obtain ⟨led,rfl,rfl⟩:=hr
   generalize hso:({ cls:=.type "set",dict:=none,data:=.set #[] 0 (.fresh 0 0 led) }:Obj)=so
   have hS:(s.heap.push so).get? s.heap.objs.size=some so:=zAu _ (by subst hso; rfl)
   have hT:Shared.TypeIs { s with heap:=s.heap.push so } (.ref s.heap.objs.size) "set":=⟨_,hS,by subst hso; rfl⟩
   have hli:=F.called_set.init.lookup
   have hbi:=F.called_set.init.bind (.ref s.heap.objs.size)
   repeat (any_goals (first | assumption | wp_step))
   refine codeAny_mono (codeAny_call_builtin (R:=wants (fun r s₂=>r=.none/\∃ h' tk,s₂={ s with heap:=h',toks:=tk } /\
     h'.SetOf (strKind prog w) s.heap.objs.size (fun k'=>dy k' (eS [] ss)) (eS [] ss).length /\
     (∀ b o,b < s.heap.objs.size->s.heap.get? b=some o->h'.get? b=some o)) E) F.called_set.init.plain F.entry_set_init (check_set_init_1 hT ?_)) fun rB s₂ hrA=>?_
   ·obtain ⟨ol,hol,hcl,nl,hdl⟩:=hl
    obtain ⟨ocls,odict,odata,oslots⟩:=ol
    simp only at hcl hdl
    subst hcl; subst hdl
    have hol':(s.heap.push so).get? l=some { cls:=.type "tuple",dict:=odict,data:=.seq items nl,slots:=oslots }:=zAh _ hol
    have hsls:=mV
    have hslf:=ia
    have hne:(Value.type "tuple" == Value.type "dict")=false:=by decide
    have hl1:(s.heap.push so).IsTuple l items:=⟨_,hol',rfl,nl,rfl⟩
    subst hso
    unfold Builtin.«set.__init__» noKeywords Builtin.Frozenset.updateFrom
    generalize hPI:pyIter=PI
    wp_walk
    subst hPI
    refine zCy hl1 ?_
    refine zAa (wpAny_runValue ?_)
    have hlS:l < s.heap.objs.size:=zA5 hol
    have hh3:A.in1.in1.in1.handled=none:=by simp [hh]
    generalize hso:({ cls:=.type "set",dict:=none,data:=.set #[] 0 (.fresh 0 0 led) }:Obj)=so at *
    have hneI:l ≠ (s.heap.push so).objs.size:=by
     rw [zB3]; exact zBk (zBi hlS)
    have hSf:s.heap.objs.size ∉ [(s.heap.push so).objs.size,l]:=by
     rw [zB3]; simp only [zAl,zAi,zBr,or_false,not_or]
     exact ⟨zBk (zCe _),zCh hlS⟩
    refine setStr_loop (Walks.tuple hh3 _ l hneI items) s.heap.objs.size
     hSf ss hsz hi hok hb (items.size - 0) 0 [] _ (by omega) (zA7 _)
     ⟨⟨_,zAu _ rfl,rfl,rfl⟩,(hl1.push _)⟩ (zAy _) ?hS0 ?hR
    case hS0 =>
     have hget:=zAh (h:=s.heap.push so) { cls:=.type "tuple_iterator",data:=.fields #[.ref l,.int 0 0] } hS
     subst hso
     exact SetOf_congr ((setObjOf_fresh (knd:=strKind prog w) led).setOf hget (by unfold scanBound; omega)) (fun _=>rfl) rfl
    case hR =>
     intro h' tk' hm hS'
     show wpAny _ _ _ _ _ _
     refine zAk ?_
     show wpAny _ _ (ret Value.none) _ _ _
     refine zAk ⟨rfl,h',tk',rfl,hS',fun b o hb e=>?_⟩
     have hb1:b ≠ s.heap.objs.size:=zBk hb
     have hb2:b ≠ (s.heap.push so).objs.size:=by
      rw [zB3]; exact zBk (zBi hb)
     exact hm b o (by simp only [zAl,zAi,zBr,or_false,not_or]; exact ⟨hb1,hb2⟩) (zAh _ (zAh _ e))
   ·cases rB with
    | error e=>exact hrA
    | ok flA =>
     cases flA with
     | ret r =>
      obtain ⟨rfl,h',tk,rfl,hS',hk'⟩:=hrA
      repeat (any_goals (first | assumption | wp_step))
      exact h _ _ hS' hk'
     | _=>exact hrA.elim
  | _=>exact hr.elim
end
section
variable {C:Cx} {A:Around} {W:Wd}
set_option tactic.hygienic true in
theorem nu:∀ {l:List AV} {ss:List Str} {vs:List Value},eF l=some ss->VReps C W l vs->ss.length=vs.length/\(∀ x ∈ ss,PyData.strOk x=true)/\∀ (i:Nat) (v:Value),vs[i]?=some v->∃ x t,ss[i]?=some x/\v=Value.str x t
 | [],ss,vs,h,r=>by
  obtain rfl:=r; cases h
  exact ⟨rfl,fun _ q=>(zBr q).elim,fun i v q=>nomatch q⟩
 | a::l,ss,vs,h,r=>by
  obtain ⟨v,vs',rfl,r1,r2⟩:=r
  cases a <;> first | (exact aD h; done) | skip
  rename_i x
  obtain ⟨ss',hl,rfl⟩:=zAo.mp h
  ·obtain ⟨h1,t,rfl⟩:=r1
   obtain ⟨q1,q2,q3⟩:=nu hl r2
   refine ⟨congrArg Nat.succ q1,fun y hy=>(zAl.mp hy).elim (fun e=>e ▸ h1.ok) (q2 y),fun i v q=>?_⟩
   cases i with
   | zero=>cases q; exact ⟨x,t,rfl,rfl⟩
   | succ i=>exact q3 i v q
theorem sound_set:cW C mn:=gQ fun A W a c v E r h hz hh=>by
 obtain ⟨l,h1,h2⟩:=zAg.mp h
 obtain rfl:=np h1
 obtain ⟨ss,hs,h3⟩:=zAg.mp h2
 obtain ⟨hn,rfl⟩:=bu h3
 have hn:=zBd hn
 obtain ⟨ad,rfl,vs,m,hg,hsz,hv⟩:=r.tup
 obtain ⟨q1,q2,q3⟩:=nu hs hv
 have q1:ss.length=vs.size:=by rw [q1,zBz]
 refine mS (hh rfl) ⟨_,hg,rfl,m,rfl⟩ q1 (fun i v e=>q3 i v (by rw [zB4]; exact e)) q2 (by unfold scanBound; omega) fun h' tk hS hk=>?_
 obtain ⟨o,es,ep,t,ho,hex,hd,_,_,_,hf,hlen⟩:=hS
 have:=ny ss []
 exact .new (h:=h') (tk:=tk) (fun b o e=>hk b o (zA5 e) e) get?_size ⟨o,ho,hex,es,ep,t,hd,hf,hlen,by simp at this; omega⟩
theorem nx:∀ {l:List AV} {ns:List Int} {vs:List Value},dg l=some ns->VReps C W l vs->∃ ps:List (Int × Tok),vs=ps.map (fun p=>Value.int p.1 p.2)/\ps.map (·.1)=ns
 | [],ns,vs,h,r=>by
  obtain rfl:=r; cases h; exact ⟨[],rfl,rfl⟩
 | a::l,ns,vs,h,r=>by
  obtain ⟨v,vs',rfl,r1,r2⟩:=r
  cases a <;> first | (exact aD h; done) | skip
  obtain ⟨ns',hl,rfl⟩:=zAo.mp h
  ·obtain ⟨t,rfl⟩:=r1
   obtain ⟨ps,rfl,rfl⟩:=nx hl r2
   exact ⟨(_,t)::ps,rfl,rfl⟩
theorem nR {l:List AV} {ns:List Int} {v:Value} (r:RP C W (.lst l) v) (hi:dg l=some ns):∃ (a:Addr) (ps:List (Int × Tok)),v=.ref a/\W.h.IsList a (intItems ps.toArray)/\ps.map (·.1)=ns:=by
 obtain ⟨ad,rfl,vs,m,hg,hsz,hv⟩:=r.lst
 obtain ⟨ps,hps,rfl⟩:=nx hi hv
 have hvs:vs=intItems ps.toArray:=by
  rw [← Array.toArray_toList (xs:=vs),hps]
  simp [intItems]
 subst hvs
 exact ⟨ad,ps,rfl,⟨_,hg,rfl,m,rfl⟩,rfl⟩
theorem sound_sum:cW C biSum:=gQ fun A W a c v E r h hz hh=>by
 obtain ⟨l,h1,h2⟩:=zAg.mp h
 obtain rfl:=dq h1
 obtain ⟨ns,hi,rfl⟩:=zAo.mp h2
 obtain ⟨ad,ps,rfl,hl,rfl⟩:=nR r hi
 refine sum_intListG (hh rfl) hl fun h' tk t' hk=>?_
 rw [preSum_eq,zC9 (by simp)]
 exact .intk hk
theorem wp_maxK {l:List AV} {ns:List Int} {v:Value} {kw:List (Str × Value)} {res:Int} {E:Value->Shared->Prop} (hh:A.handled=none) (r:RP C W (.lst l) v) (hi:dg l=some ns)
  (hk:(kw=[]/\gu ns=some res) ∨ ∃ t,kw=[(("default":Str),.int 0 t)]/\(gu ns).getD 0=res):wpAny C.M A (call (.builtin "max") [v] kw) (Made C W (.int res)) E W.s:=by
 obtain ⟨ad,ps,rfl,hl,rfl⟩:=nR r hi
 have key:∀ {kw:List (Str × Value)} {d:Option Value},argsOk "max" ⟨[.ref ad],kw⟩->Builtin.Builtins.bindParams "max" ["key","default"] 0 ⟨[],kw⟩=pure [none,d]->(d.toList.map fun d=>(("default":Str),d))=kw->(gu (ps.map (·.1))=some res ∨ gu (ps.map (·.1))=none/\∃ t r,kw=(("default":Str),.int res t)::r) ->
   wpAny C.M A (call (.builtin "max") [.ref ad] kw) (Made C W (.int res)) E W.s:=fun ha hb hd hres=>by
  refine wpAny_max ha hb hd hres (iter_intList hl fun s₂ e st hfp hlI=>?_)
  subst e
  refine ⟨_,_,_,_,_,rfl,by have:=Walks.list (prog:=C.prog) (w:=C.w) (A:=A.in1) hh _ ad hlI (intItems ps.toArray); rw [show (intItems ps.toArray).size=(ps.map (·.1)).length from by simp [intItems]] at this; exact this,st,hfp,fun i v hv x hx=>?_,fun h' tk t' hk=>?_⟩
  ·obtain ⟨t,rfl⟩:=intItems_at hv
   refine ⟨t,?_⟩
   rw [numAt_eq,zBy,show (ps.toArray.toList.map (·.1))[i]?=some x from hx]; rfl
  ·exact .intk (old_kept hk)
 rcases hk with ⟨rfl,hm⟩ | ⟨t,rfl,hm⟩
 ·exact key (d:=none) (F.args_max1 _) rfl rfl (.inl hm)
 ·refine key (d:=some (.int 0 t)) (by unfold argsOk; kernel_rfl) (by kernel_rfl) rfl ?_
  cases hq:gu (ps.map (·.1)) with
  | none=>rw [hq] at hm; exact .inr ⟨rfl,t,[],by rw [← hm]; rfl⟩
  | some m=>rw [hq] at hm; exact .inl (congrArg some hm)
set_option tactic.hygienic true in
theorem sound_max:cW C biMax:=fun A W k t cs vs c E hf _ hz r e=>by
 have hh:=hf (.inr rfl)
 cases r with
 | nil=>exact nomatch (show (none:Option AV)=some c from e)
 | cons r1 tl=>cases tl with
  | nil =>
   obtain ⟨l,h1,e⟩:=zAg.mp (show (fW _).bind (fun l=>(dg l).bind fun ns=>if k then some (AV.int ((gu ns).getD 0)) else (gu ns).map .int)=some c from e)
   obtain rfl:=dq h1
   obtain ⟨ns,hi,e2⟩:=zAg.mp e
   cases k with
   | true=>cases e2; exact wp_maxK hh r1 hi (.inr ⟨t,rfl,rfl⟩)
   | false =>
    obtain ⟨m,hm,rfl⟩:=zAo.mp e2
    exact wp_maxK hh r1 hi (.inl ⟨rfl,hm⟩)
  | cons r2 tl=>cases tl with
   | cons _ _=>exact nomatch (show (none:Option AV)=some c from e)
   | nil=>cases k with
    | true=>exact nomatch (show (none:Option AV)=some c from e)
    | false =>
     obtain ⟨x,h1,e⟩:=zAg.mp (show on2 _ _ (fun x y=>some (AV.int (max x y)))=some c from e)
     obtain ⟨y,h2,e2⟩:=zAg.mp e
     obtain rfl:=bN h1; obtain rfl:=bN h2
     obtain ⟨t1,rfl⟩:=r1.int
     obtain ⟨t2,rfl⟩:=r2.int
     cases e2
     refine max_two_ints hh fun h' tk hk=>?_
     rw [Int.max_def]
     split
     ·split
      ·exact .intk hk
      ·rename_i h1 h2; rw [show (_:Int)=_ from Int.le_antisymm h1 (Int.not_lt.mp h2)]; exact .intk hk
     ·rw [if_neg (by lia)]; exact .intk hk
end
theorem gm:∀ {ps:List Str} {vs:List Value} {x:Str},vs.length=ps.length->x ∈ ps->((ps.zip vs).lookup x).isSome=true
 | [],_,_,_,h=>nomatch h
 | p::ps,[],_,hl,_=>nomatch hl
 | p::ps,v::vs,x,hl,h=>by
  rw [zBv,zBh]
  by_cases hx:(x == p)=true
  ·rw [hx]; rfl
  ·rw [show (x == p)=false from by simpa using hx]
   exact gm (Nat.succ.inj hl) ((zAl.mp h).resolve_left fun q=>hx (by rw [q]; exact beq_self_eq_true _))
theorem eZ {α β:Type} {f g:α->Option β}:∀ {l:List α},(∀ x ∈ l,f x=g x)->l.filterMap f=l.filterMap g
 | [],_=>rfl
 | x::r,h=>by rw [List.filterMap_cons,List.filterMap_cons,h x zAb,eZ fun y hy=>h y (zAe _ hy)]
theorem ig:∀ {ps:List Str} {vs:List Value},vs.length=ps.length->ps.Nodup->(ps.filterMap fun n=>((ps.zip vs).lookup n).map (n,·))=ps.zip vs
 | [],[],_,_=>rfl
 | [],_::_,h,_=>nomatch h
 | _::_,[],h,_=>nomatch h
 | p::ps,v::vs,hl,hn=>by
  have hn':=zBp.mp hn
  have e:∀ n ∈ ps,(((p::ps).zip (v::vs)).lookup n).map (Prod.mk n)=((ps.zip vs).lookup n).map (Prod.mk n):=fun n h=>by
   rw [zBv,zBh,show (n == p)=false from by
    have:n ≠ p:=fun q=>hn'.1 (q ▸ h)
    simpa using this]
  rw [List.filterMap_cons]
  rw [show (((p::ps).zip (v::vs)).lookup p).map (Prod.mk p)=some (p,v) from by rw [zBv,zBh,beq_self_eq_true]; rfl]
  dsimp only
  rw [eZ e,ig (Nat.succ.inj hl) hn'.2]
  rfl
theorem mH {fd:FuncData} {ps:List Str} {vals:List Value} (h1:fd.params.posonlyargs=[]) (h2:fd.params.args.map (·.arg)=ps) (h3:fd.params.kwonlyargs=[]) (h4:fd.params.vararg=none) (h5:fd.params.kwarg=none) (h6:fd.defaults=.none)
  (hn:ps.Nodup) (hl:vals.length=ps.length):bindArgs fd ⟨vals,[]⟩=Pure.pure (ps.zip vals):=by
 obtain ⟨nm,qn,prs,bd,scp,gl,cl,df,kd,dc,pm,an,cd,ct,bt⟩:=fd
 obtain ⟨po,ar,va,ko,kds,ka,dfs⟩:=prs
 dsimp only at h1 h2 h3 h4 h5 h6
 subst h1 h2 h3 h4 h5 h6
 have hm:((ar.map (·.arg)).take ((ar.map (·.arg)).length - 0)).filter (fun n=>(((ar.map (·.arg)).zip vals).lookup n).isNone)=[]:=by
  rw [List.filter_eq_nil_iff]
  intro x hx
  have:=gm hl (List.mem_of_mem_take hx)
  simp [zC1,Option.isSome_iff_ne_none.mp this]
 have hg:¬ (vals.length > (ar.map (·.arg)).length):=by lia
 have hf:=ig hl hn
 have hd:∀ n:Nat,List.drop n (((none:Option (Array Value)).getD #[]).toList)=[]:=fun n=>List.drop_nil
 refine Eq.trans (if_neg (c:=(decide (vals.length > (ar.map (·.arg)).length) && true)=true) ?_) ?_
 ·rw [decide_eq_false hg]; exact zAq
 rw [hd]
 refine Eq.trans (if_neg ?_) ?_
 ·show ¬ ((!(((ar.map (·.arg)).take ((ar.map (·.arg)).length - 0)).filter (fun n=>(((ar.map (·.arg)).zip vals).lookup n).isNone)).isEmpty)=true)
  rw [hm]; exact zAq
 show (forIn (List.zip (List.drop ((ar.map (·.arg)).length - 0) (ar.map (·.arg))) ([]:List Value)) _ _ >>= _)=_
 rw [List.zip_nil_right]
 show (Pure.pure ((((ar.map (fun x:Arg=>x.arg))++[]).filterMap fun n=>(((ar.map (fun x:Arg=>x.arg)).zip vals).lookup n).map (n,·))):Sem (List (Str × Value)))=_
 rw [zAx,hf]
noncomputable def fnOfRec (d:DefRec):Str × Str × Fn:=(⟨#[]⟩,d.name,⟨dD d.params,d.body,d.scope.names⟩)
noncomputable def recOk (d:DefRec):Bool :=
 d.scope.kind == .function && !d.scope.isCoroutine && !d.scope.isGenerator && d.params.posonlyargs.isEmpty && d.params.kwonlyargs.isEmpty && d.params.vararg.isNone && d.params.kwarg.isNone &&
 decide (dD d.params).Nodup && (dD d.params).all (fun x=>d.scope.names.lookup x == some .local || d.scope.names.lookup x == some .cell) && d.scope.names.all fun q=>q.2 != .free
structure RecOk (d:DefRec):Prop where
 kind:d.scope.kind=.function
 co:d.scope.isCoroutine=false
 gen:d.scope.isGenerator=false
 po:d.params.posonlyargs=[]
 ko:d.params.kwonlyargs=[]
 va:d.params.vararg=none
 ka:d.params.kwarg=none
 nodup:(dD d.params).Nodup
 par:∀ x ∈ dD d.params,d.scope.names.lookup x=some .local ∨ d.scope.names.lookup x=some .cell
 nofree:∀ x,d.scope.names.lookup x ≠ some .free
theorem dN {α:Type} {x:Str} {v:α}:∀ {l:List (Str × α)},l.lookup x=some v->(x,v) ∈ l
 | [],h=>nomatch h
 | (y,w)::r,h=>by
  rw [zBh] at h
  by_cases hx:(x == y)=true
  ·rw [hx] at h; cases h; rw [eq_of_beq hx]; exact zAb
  ·rw [show (x == y)=false from by simpa using hx] at h; exact zAe _ (dN h)
theorem fM {d:DefRec} (h:recOk d=true):RecOk d:=by
 unfold recOk at h
 simp only [zA6,beq_iff_eq,zC0,decide_eq_true_eq,zBb,Bool.or_eq_true,zB7,zC1,bne_iff_ne] at h
 obtain ⟨⟨⟨⟨⟨⟨⟨⟨⟨h1,h2⟩,h3⟩,h4⟩,h5⟩,h6⟩,h7⟩,h8⟩,h9⟩,h10⟩:=h
 exact ⟨h1,h2,h3,h4,h5,h6,h7,h8,h9,fun x q=>h10 _ (dN q) rfl⟩
noncomputable def fnOfMeth (c:Str) (m:MethRec):Str × Str × Fn:=(c,m.name,⟨dD m.params,m.body,m.scope.names⟩)
noncomputable def excsOf (body:List Stmt):List (Str × List Str):=body.foldl (fun P s=>match s with
 | .ClassDef n bases _ _ _ _ _ _ _ _ _=>(match bases with
  | [b]=>(cR b).elim P fun m=>P++[(n,m::(aK m P).getD [])]
  | _=>P)
 | _=>P) []
noncomputable def intE:Expr->Option Int
 | .Constant c _ _=>(match c with | .int i=>some i | _=>none)
 | _=>none
noncomputable def constsOf (body:List Stmt):List (Str × Int):=body.filterMap fun s=>match s with
 | .Assign ts v _=>(match ts with | [t]=>(cR t).bind fun x=>(intE v).map fun i=>(x,i) | _=>none)
 | _=>none
noncomputable def pgP (B:Pg) (p:Program):Pg where
 fns:=(recsOf p).map fnOfRec++(plainsOf p []).flatMap fun c=>c.meths.map (fnOfMeth c.name)
 classes:=(plainsOf p []).map (·.name)
 excs:=excsOf p.main.body
 consts:=constsOf p.main.body
 bi:=B.bi
 flds:=B.flds
 mths:=B.mths
 shared:=B.shared
structure BaseOk (B:Pg):Prop where
 bi:∀ q ∈ B.bi,bootBuiltins q.1=some q.2.val/\(∀ a,q.2.val ≠ .ref a)/\∀ C,cW C q.2
 fld:∀ f ∈ B.flds,typeLookup (.type "object") f=(Pure.pure none:Sem (Option Value))
 mth:∀ f ∈ B.mths,typeLookup (.type "object") f=(Pure.pure none:Sem (Option Value))/\f ∉ B.flds
noncomputable def pg (m:MethRec):DefRec:=⟨m.name,m.params,m.body,m.scope,default⟩
noncomputable def eC (prog:Program) (w:World) (s₁:Shared) (P:Pg) (mg mb:Str->Option Value) (methA:Str->Str->Option Addr):Cx where
 prog:=prog
 w:=w
 s0:=s₁
 P:=P
 clsA:=fun c=>match mg c with | some (.ref a)=>some a | _=>none
 mg:=mg
 mb:=mb
 fnA:=fun c f=>if c=⟨#[]⟩ then (match mg f with | some (.ref a)=>some a | _=>none) else methA c f
 fnO:=fun a=>(s₁.heap.get? a).getD default
 fnD:=fun a=>match ((s₁.heap.get? a).getD default).data with | .func fd=>fd | _=>default
theorem lp:∀ {l:List ClsRec} {a b:ClsRec},(l.map (·.name)).Nodup->a ∈ l->b ∈ l->a.name=b.name->a=b
 | [],_,_,_,h,_,_=>nomatch h
 | x::r,a,b,hn,ha,hb,e=>by
  rw [zA4,zBp] at hn
  rcases zAl.mp ha with q | ha' <;> rcases zAl.mp hb with q' | hb'
  ·rw [q,q']
  ·subst q; exact absurd (e ▸ zBe.mpr ⟨b,hb',rfl⟩) hn.1
  ·subst q'; exact absurd (e ▸ zBe.mpr ⟨a,ha',rfl⟩) hn.1
  ·exact lp hn.2 ha' hb' e
set_option tactic.hygienic true in
theorem lB {c f:Str} {fn:Fn}:∀ {l:List (Str × Str × Fn)},lx c f l=some fn->(c,f,fn) ∈ l
 | [],h=>nomatch h
 | (c',f',fn')::r,h=>by
  rw [findFn_c] at h
  split at h
  ·rename_i q
   cases h
   rw [dC,dC] at q
   simp only [zA6,beq_iff_eq] at q
   rw [q.1,q.2]; exact zAb
  ·exact zAe _ (lB h)
noncomputable def jb (p:Program):Bool:=(plainsOf p []).all fun c=>!(c.name == ⟨#[]⟩) && !(decide ((plainsOf p []).map (·.name)).Nodup == false)
theorem iW {B:Pg} {p:Program} {c f:Str} {fn:Fn} (hn:jb p=true) (h:(pgP B p).find c f=some fn) :
  (c=⟨#[]⟩/\∃ d ∈ recsOf p,d.name=f/\fn=⟨dD d.params,d.body,d.scope.names⟩) ∨ (c ≠ ⟨#[]⟩/\∃ k ∈ plainsOf p [],k.name=c/\∃ m ∈ k.meths,m.name=f/\fn=⟨dD m.params,m.body,m.scope.names⟩):=by
 have hm:=lB h
 rcases zA2.mp hm with h1 | h1
 ·obtain ⟨d,hd,q⟩:=zBe.mp h1
  cases q
  exact .inl ⟨rfl,d,hd,rfl,rfl⟩
 ·obtain ⟨k,hk,q⟩:=List.mem_flatMap.mp h1
  obtain ⟨m,hmm,q⟩:=zBe.mp q
  cases q
  refine .inr ⟨?_,k,hk,rfl,m,hmm,rfl,rfl⟩
  have:=zBb.mp hn k hk
  simp only [zA6,zC0,beq_eq_false_iff_ne] at this
  exact this.1
section
variable {B:Pg} {p prog:Program} {w:World} {s₁:Shared} {mg mb:Str->Option Value} {methA:Str->Str->Option Addr} {loose:List Str} {mean:ExcName->Option Value}
noncomputable def PlainsOk (B:Pg) (p:Program) (mg:Str->Option Value) (methA:Str->Str->Option Addr) (h:Heap):Prop :=
 ∀ c ∈ plainsOf p [],∃ C N mN,mg c.name=some (.ref C)/\PlainAt h c C N mN/\(∀ f ∈ B.flds,mN f=none)/\∀ m ∈ c.meths,∀ fa,mN m.name=some (.ref fa)->methA c.name m.name=some fa
theorem PlainsOk.keeps {h h':Heap} (X:PlainsOk B p mg methA h) (k:∀ b o,h.get? b=some o->h'.get? b=some o):PlainsOk B p mg methA h' :=
 fun c hc=>(X c hc).imp fun _ q=>q.imp fun _ q=>q.imp fun _ q=>⟨q.1,q.2.1.keeps k,q.2.2⟩
noncomputable def kW (p:Program):List DefRec:=recsOf p++(plainsOf p []).flatMap fun c=>c.meths.map pg
theorem fnA_mk {P:Pg} {f:Str} {a:Addr} (h:mg f=some (.ref a)):(eC prog w s₁ P mg mb methA).fnA ⟨#[]⟩ f=some a:=by
 unfold eC; dsimp only; rw [if_pos rfl,h]
theorem fnA_mk' {P:Pg} {c f:Str} {a:Addr} (hc:c ≠ ⟨#[]⟩) (h:methA c f=some a):(eC prog w s₁ P mg mb methA).fnA c f=some a:=by
 unfold eC; dsimp only; rw [if_neg hc,h]
theorem fnOk_of {P:Pg} {h:Heap} {d:DefRec} {a:Addr} {o:Obj} {nm q:Str} {pm code doc:Value} (R:RecOk d) (h2:s₁.heap.get? a=some o) (e2:h.get? a=some o) (h3:o.data=.func (methDef nm q d.params d.body d.scope pm code doc)) (h4:h.CodeRec code q) :
  FnOk h ⟨dD d.params,d.body,d.scope.names⟩ a ((eC prog w s₁ P mg mb methA).fnO a) ((eC prog w s₁ P mg mb methA).fnD a):=by
 have eO:(eC prog w s₁ P mg mb methA).fnO a=o:=by show (s₁.heap.get? a).getD default=o; rw [h2]; rfl
 have eD:(eC prog w s₁ P mg mb methA).fnD a=methDef nm q d.params d.body d.scope pm code doc:=by
  show (match ((s₁.heap.get? a).getD default).data with | .func fd=>fd | _=>default)=_
  rw [h2]; show (match o.data with | .func fd=>fd | _=>default)=_; rw [h3]
 rw [eO,eD]
 exact {
  obj:=e2
  dat:=h3
  body:=rfl
  names:=rfl
  kind:=R.kind
  co:=R.co
  gen:=R.gen
  clo:=rfl
  glob:=rfl
  blt:=rfl
  code:=h4
  bind:=fun vals hl=>mH R.po rfl R.ko R.va R.ka rfl R.nodup hl }
theorem stat_top (BO:BaseOk B) (T:Top p loose mean mg mb s₁.heap) (TC:PlainsOk B p mg methA s₁.heap) (hn:jb p=true) (hok:(kW p).all recOk=true) (hxc:∀ h:Heap,(∀ b o,s₁.heap.get? b=some o->h.get? b=some o)->XcOk (eC prog w s₁ (pgP B p) mg mb methA) h):∀ h:Heap,Ge s₁.heap h->StatH (eC prog w s₁ (pgP B p) mg mb methA) h:=fun h hk=>by
 have T':=T.keeps hk
 refine ⟨hxc h hk,fun c hc=>?_,T'.nolimit,fun c f fn hf=>?_,T'.g,T'.b⟩
 ·obtain ⟨k,hk',rfl⟩:=zBe.mp (memS_iff.mp hc)
  obtain ⟨C,N,mN,h1,P,h3,h4⟩:=TC k hk'
  obtain ⟨nm,q,bs,sn,sub,col,dd,k0,k1,k2,k3,k5,e⟩:=P.cls.obj
  refine ⟨C,N,nm,q,bs,sn,sub,col,dd,k0,k1,k2,k3,k5,mN,?_,h1,hk _ _ e,P.cls.ns.keeps hk,h3,?_,fun m fn hf=>?_⟩
  ·show (match mg k.name with | some (.ref a)=>some a | _=>none)=_; rw [h1]
  ·have q:=fun n hn=>P.quiet n (zBj _ hn)
   exact ⟨q _ (by simp),q _ (by simp),q _ (by simp)⟩
  ·rcases iW hn hf with ⟨q,_⟩ | ⟨hne,k',hk'',hkn,m',hm',rfl,rfl⟩
   ·exfalso
    have:=zBb.mp hn k hk'
    simp only [zA6,zC0,beq_eq_false_iff_ne] at this
    exact this.1 q
   ·obtain rfl:k'=k:=by
     have:=zBb.mp hn k hk'
     simp only [zA6,zC0,beq_eq_false_iff_ne,ne_eq,beq_iff_eq,decide_eq_false_iff_not,Decidable.not_not] at this
     exact lp this.2 hk'' hk' hkn
    obtain ⟨fa,o,pm,cd,doc,q1,q2,q3,q4,q5⟩:=P.meths m' hm'
    exact ⟨fa,o,fnA_mk' hne (h4 m' hm' fa q1),q1,hk _ _ q2,q3⟩
 ·rcases iW hn hf with ⟨rfl,d,hd,rfl,rfl⟩ | ⟨hne,k',hk'',rfl,m',hm',rfl,rfl⟩
  ·have R:=fM (zBb.mp hok d (zBj _ hd))
   obtain ⟨a,o,pm,code,doc,h1,h2,h3,h4⟩:=T.fn d hd
   exact ⟨a,fnA_mk h1,fnOk_of R h2 (hk _ _ h2) h3 (h4.keeps hk)⟩
  ·have R:=fM (d:=pg m') (zBb.mp hok _ (zBg _ (List.mem_flatMap.mpr ⟨k',hk'',zBe.mpr ⟨m',hm',rfl⟩⟩)))
   obtain ⟨C,N,mN,h1,P,h3,h4⟩:=TC k' hk''
   obtain ⟨fa,o,pm,cd,doc,q1,q2,q3,q4,q5⟩:=P.meths m' hm'
   exact ⟨fa,fnA_mk' hne (h4 m' hm' fa q1),fnOk_of (d:=pg m') R q2 (hk _ _ q2) q4 (q5.keeps hk)⟩
noncomputable def ot (B:Pg):List Str:=B.bi.map (·.1)++stdNames.map (·.1)
theorem boot_std:∀ q ∈ stdNames,bootBuiltins q.1=some q.2:=by
 intro q hq
 simp only [stdNames,zAl,zBr,or_false] at hq
 rcases hq with rfl | rfl | rfl | rfl | rfl | rfl | rfl | rfl | rfl | rfl | rfl <;> kernel_rfl
noncomputable def oN (B:Pg) (p:Program) (loose:List Str):Bool:=(ot B).all fun x=>!startupNames.contains x && !loose.contains x && !((recsOf p).map (·.name)).contains x && !((litsOf p).map (·.1)).contains x && !((clssOf p loose).map (·.name)).contains x && !(x == "__name__")
theorem free_top (T:Top p loose mean mg mb s₁.heap) (hf:oN B p loose=true):∀ x ∈ ot B,mg x=none/\mb x=bootBuiltins x:=fun x hx=>by
 have:=zBb.mp hf x hx
 simp only [zA6,zC0,List.contains_eq_mem,decide_eq_false_iff_not,beq_eq_false_iff_ne] at this
 obtain ⟨⟨⟨⟨⟨h1,h2⟩,h3⟩,h4⟩,h5⟩,h6⟩:=this
 exact ⟨T.free x h1 h2 h3 h4 h5,T.builtins x h6⟩
theorem cx_top (BO:BaseOk B) (T:Top p loose mean mg mb s₁.heap) (TC:PlainsOk B p mg methA s₁.heap) (hxc:∀ h:Heap,(∀ b o,s₁.heap.get? b=some o->h.get? b=some o)->XcOk (eC prog w s₁ (pgP B p) mg mb methA) h) (hn:jb p=true) (hok:(kW p).all recOk=true) (hc:∀ x i,(pgP B p).consts.lookup x=some i->valOf p x=some (.int i)) (hf:oN B p loose=true):CxOk (eC prog w s₁ (pgP B p) mg mb methA) where
 st:=stat_top BO T TC hn hok hxc
 bi:=fun id b h _=>by
  have hm:(id,b) ∈ B.bi:=by rw [bJ] at h; exact dN h
  obtain ⟨h1,h2⟩:=free_top T hf id (zBj _ (zBe.mpr ⟨_,hm,rfl⟩))
  exact ⟨h1,h2.trans (BO.bi _ hm).1⟩
 bis:=fun q hq=>⟨(BO.bi q hq).2.1,(BO.bi q hq).2.2 _⟩
 std:=fun id v h _=>by
  have hm:=dN h
  obtain ⟨h1,h2⟩:=free_top T hf id (zBg _ (zBe.mpr ⟨_,hm,rfl⟩))
  exact ⟨h1,h2.trans (boot_std _ hm)⟩
 fld:=BO.fld
 mth:=BO.mth
 wr:=fun c f fn hf=>by
  rcases iW hn hf with ⟨rfl,d,hd,rfl,rfl⟩ | ⟨hne,k',hk'',rfl,m',hm',rfl,rfl⟩
  ·have R:=fM (zBb.mp hok d (zBj _ hd))
   exact ⟨R.nodup,R.par,R.nofree⟩
  ·have R:=fM (d:=pg m') (zBb.mp hok _ (zBg _ (List.mem_flatMap.mpr ⟨k',hk'',zBe.mpr ⟨m',hm',rfl⟩⟩)))
   exact ⟨R.nodup,R.par,R.nofree⟩
 fnG:=fun f fn hf=>by
  rcases iW hn hf with ⟨_,d,hd,rfl,rfl⟩ | ⟨hne,_⟩
  ·obtain ⟨a,o,pm,code,doc,h1,h2,h3,h4⟩:=T.fn d hd
   exact ⟨a,fnA_mk h1,h1⟩
  ·exact absurd rfl hne
 const:=fun x i h=>by
  obtain ⟨v,h1,h2⟩:=T.const x _ (hc x i h)
  have:=h2 s₁.heap
  cases this
  exact ⟨_,h1⟩
theorem n9 {C:Cx} {W:Wd} {vs:List Value} {ns:List Int} (h:IntsAre vs ns):VReps C W (ns.map .int) vs:=by
 induction h with
 | nil=>exact VReps.nil
 | cons _ t _ ih=>exact VReps.cons ⟨t,rfl⟩ ih
noncomputable abbrev wd0 (s:Shared):Wd:=⟨[],fun _=>none,fun _=>False,fun _=>False,s⟩
theorem free0 {s:Shared} {b:Addr}:(wd0 s).free b:=⟨⟨nofun,fun _ q=>nomatch q⟩,id,id⟩
theorem run_law (BO:BaseOk B) (T:Top p loose mean mg mb s₁.heap) (TC:PlainsOk B p mg methA s₁.heap) (hxc:∀ h:Heap,(∀ b o,s₁.heap.get? b=some o->h.get? b=some o)->XcOk (eC prog w s₁ (pgP B p) mg mb methA) h) (hnm:jb p=true) (hok:(kW p).all recOk=true) (hc:∀ x i,(pgP B p).consts.lookup x=some i->valOf p x=some (.int i)) (hf:oN B p loose=true)
  {name:Str} {fa sa:Addr} (hmg:mg name=some (.ref fa)) {ns:List Int} {its:List Value} (hso:s₁.heap.get? sa=some { cls:=.type "list",data:=.seq its.toArray }) (hI:IntsAre its ns) (hlen:ns.length<=63)
  {n k:Nat} (hn:n<=599) {st:St} (hrun:au (pgP B p) k n ⟨#[]⟩ name [.lst (ns.map .int)] []=.ok (.bool true) st) {Q E:Value->Shared->Prop}
  (hQ:∀ s',(∀ b o,s₁.heap.get? b=some o->s'.heap.get? b=some o)->s'.os=s₁.os->s'.gens=s₁.gens->Q (.bool true) s') :
  wpAny (model prog w) callerA (call (.ref fa) [.ref sa]) Q E s₁:=by
 have K:=cx_top (prog:=prog) (w:=w) (methA:=methA) BO T TC hxc hnm hok hc hf
 have CO:=callOk K (k:=k) n
 have hI0:InvC (eC prog w s₁ (pgP B p) mg mb methA) [] (wd0 s₁) []:={
  sh:=⟨s₁.heap,s₁.toks,rfl⟩
  stat:=fun b o h=>h
  lo:=fun b h=>absurd free0 h
  nd:=List.nodup_nil
  ol:=fun k b h=>nomatch h
  oi:=fun k k' b h=>nomatch h
  tl:=fun b h=>h.elim
  fl:=fun b h=>h.elim
  frs:=fun e h=>nomatch h
  len:=rfl
  objs:=fun n o h=>nomatch h }
 have hl:its.length=ns.length:=((n9 (C:=eC prog w s₁ (pgP B p) mg mb methA) (W:=wd0 s₁) hI).length).trans (zAd _)
 have hv:VReps (eC prog w s₁ (pgP B p) mg mb methA) (wd0 s₁) [.lst (ns.map .int)] [.ref sa]:=by
  refine VReps.cons ⟨sa,rfl,free0,its.toArray,_,hso,?_,n9 hI⟩ .nil
  show its.length<=lim
  rw [hl]; exact zAj hlen (by decide)
 refine wpAny_call ?_
 refine codeAny_mono (CO ⟨#[]⟩ name [.lst (ns.map .int)] [] (by show au (pgP B p) k n _ _ _ _ ≠ _; rw [hrun]; exact fun z=>nomatch z) callerA [] (wd0 s₁) [.ref sa] fa hI0 (fun _=>rfl) hv (fnA_mk hmg) rfl rfl ⟨zAj (zB2 hn (1+claimMargin)) (by decide),zAj (zB2 (Nat.mul_le_mul_left 4 hn) 4) (by decide)⟩) fun r s' h=>?_
 have h':RetP true (eC prog w s₁ (pgP B p) mg mb methA) [] (wd0 s₁) (au (pgP B p) k n ⟨#[]⟩ name [.lst (ns.map .int)] []) r s':=h
 rw [hrun] at h'
 cases h' with
 | exc e=>exact eN Ret.ctorIdx e rfl
 | ok e x i o q =>
  cases e
  obtain rfl:=q
  obtain ⟨h₂,tk,e⟩:=i.sh
  exact hQ _ i.stat (by rw [e]; rfl) (by rw [e]; rfl)
end
end Mine
end
section
set_option autoImplicit false
set_option linter.unusedVariables false
set_option maxRecDepth 100000
namespace Mine
open PySem PySem.W PySem.Spec PySem.Calls PyProof.Rows
section
variable {M:Model} {A:Around} {E:Value->Shared->Prop} {s:Shared}
end
section
variable {M:Model} {A:Around} {E:Value->Shared->Prop} {h:Heap} {g:Array GenState} {d:Drawn} {t:Nat} {os:OsState}
variable {nm q:Str} {a N:Addr} {bs bm:List Value} {hdct:Bool} {sn:List Str} {sub:List Value} {ab:Bool} {col:Option Bool} {dd:Option Addr} {k0 k1 k2 k3 k5:Option Value} {newId:String}
variable {nm' q':Str} {b N':Addr} {bs' bm':List Value} {hdct':Bool} {sn':List Str} {sub':List Value} {ab':Bool} {col':Option Bool} {dd':Option Addr} {l0 l1 l2 l3 l5:Option Value} {newId':String}
theorem exm_own {e:Addr} {oe:Obj} {Q:Bool->Shared->Prop} (ha:h.get? a=some (excClassObj nm q a N bs bm hdct sn sub ab col dd k0 k1 k2 k3 k5 newId))
  (hb:h.get? b=some (excClassObj nm' q' b N' bs' bm' hdct' sn' sub' ab' col' dd' l0 l1 l2 l3 l5 newId')) (he:h.get? e=some oe) (hcls:oe.cls=.ref a) (hbase:bm'.contains (.type "BaseException")=true)
  (hq:Q ((Value.ref a::bm).contains (.ref b)) ⟨h,g,d,t,os⟩):wpAny M A (excMatches (.ref e) (.ref b)) Q E ⟨h,g,d,t,os⟩:=by
 have hcB:(Value.ref b::bm').contains (.type "BaseException")=true:=by rw [List.contains_cons,hbase,Bool.or_true]
 have f:=tc_notTuple
 unfold excMatches
 cases hr:(Value.ref a::bm).contains (.ref b) <;> rw [hr] at hq <;>
  (repeat (first | (with_reducible refine wpAny_loadPart_at he ?_; rw [hcls]) | with_reducible refine wpAny_loadPart_at hb ?_ | (with_reducible refine wpAny_isSubtype_exc hb ?_; rw [hcB]) | (with_reducible refine wpAny_isSubtype_exc ha ?_; rw [hr]) | wp_step)) <;> exact hq
end
noncomputable def NsAt (h:Heap) (c:Str) (v:Value):Prop:=∃ o es ep,h.get? mainGlobals=some o/\o.data=.dict es ep/\nsFind es c=some v
theorem NsAt.keeps {h h':Heap} {c:Str} {v:Value} (x:NsAt h c v) (hk:∀ b o,h.get? b=some o->h'.get? b=some o):NsAt h' c v:=x.imp fun _ q=>q.imp fun _ q=>q.imp fun _ q=>⟨hk _ _ q.1,q.2⟩
noncomputable def refV:Value->Option Addr
 | .ref a=>some a
 | _=>none
noncomputable def clsD:Data->Option ClassData
 | .cls cd=>some cd
 | _=>none
noncomputable def seeX (s:Shared) (c d:Str):Option Bool:=(s.heap.nsMap mainGlobals c).bind fun v=>(refV v).bind fun a=>(s.heap.nsMap mainGlobals d).bind fun w=>(refV w).bind fun b=>(s.heap.get? a).bind fun o=>(clsD o.data).bind fun cd=>some (cd.mro.contains (.ref b))
theorem on {v:Value} {a:Addr} (h:refV v=some a):v=.ref a:=by
 cases v <;> first | (exact aD h; done) | (cases h; rfl)
theorem clsD_some {v:Data} {a:ClassData} (h:clsD v=some a):v=.cls a:=by
 cases v <;> first | (exact aD h; done) | (cases h; rfl)
noncomputable def SaysX (P:Pg) (h:Heap):Prop:=∀ c d,P.isX c=true->P.isX d=true->∃ a b o cd,NsAt h c (.ref a)/\NsAt h d (.ref b)/\h.get? a=some o/\o.data=.cls cd/\cd.mro.contains (.ref b)=P.sub c d
theorem pG {P:Pg} {c:Str} (h:P.isX c=true):∃ l,(c,l) ∈ P.excs:=by
 unfold Pg.isX at h
 obtain ⟨l,hl⟩:=zA1.mp h
 exact ⟨l,dN (by rw [← bJ]; exact hl)⟩
set_option tactic.hygienic true in
theorem oL {h:Heap} {c:Str} {v:Value} (e:h.nsMap mainGlobals c=some v):NsAt h c v:=by
 unfold Heap.nsMap at e
 cases ho:h.get? mainGlobals with
 | none=>rw [ho] at e; exact aD e
 | some o =>
  rw [ho] at e
  dsimp only at e
  split at e
  ·rename_i es ep hd; exact ⟨o,es,ep,ho,hd,e⟩
  ·exact aD e
theorem saysX_of {P:Pg} {s:Shared} (e:(P.excs.map fun c=>P.excs.map fun d=>seeX s c.1 d.1)=P.excs.map fun c=>P.excs.map fun d=>some (P.sub c.1 d.1)):SaysX P s.heap:=by
 intro c d hc hd
 obtain ⟨l,hl⟩:=pG hc
 obtain ⟨l',hl'⟩:=pG hd
 have h1:=zDa.mp e _ hl
 have h2:=zDa.mp h1 _ hl'
 dsimp only at h2
 obtain ⟨v,ha,h2⟩:=zAg.mp h2
 obtain ⟨a,ea,h2⟩:=zAg.mp h2
 obtain ⟨w,hb,h2⟩:=zAg.mp h2
 obtain ⟨b,eb,h2⟩:=zAg.mp h2
 obtain ⟨o,ho,h2⟩:=zAg.mp h2
 obtain ⟨cd,hcd,h2⟩:=zAg.mp h2
 rw [on ea] at ha; rw [on eb] at hb
 exact ⟨a,b,o,cd,oL ha,oL hb,ho,clsD_some hcd,Option.some.inj h2⟩
theorem SaysX.keeps {P:Pg} {h h':Heap} (x:SaysX P h) (hk:∀ b o,h.get? b=some o->h'.get? b=some o):SaysX P h':=fun c d hc hd =>
 (x c d hc hd).imp fun _ q=>q.imp fun _ q=>q.imp fun _ q=>q.imp fun _ q=>⟨q.1.keeps hk,q.2.1.keeps hk,hk _ _ q.2.2.1,q.2.2.2⟩
noncomputable def fldOk (fl:List Str) (h:Heap) (c:ClsRec):Bool:=match h.clsAt mainGlobals c.name with
 | some x=>fl.all fun f=>(h.nsMap x.2.2.ns f).isNone
 | none=>false
noncomputable def SaysC (fl:List Str) (p:Program) (h:Heap):Prop:=∀ c ∈ plainsOf p [],∃ C N mN,NsAt h c.name (.ref C)/\PlainAt h c C N mN/\∀ f ∈ fl,mN f=none
theorem SaysC.keeps {fl:List Str} {p:Program} {h h':Heap} (x:SaysC fl p h) (hk:∀ b o,h.get? b=some o->h'.get? b=some o):SaysC fl p h':=fun c hc =>
 (x c hc).imp fun _ q=>q.imp fun _ q=>q.imp fun _ q=>⟨q.1.keeps hk,q.2.1.keeps hk,q.2.2⟩
theorem saysC_of {fl:List Str} {p:Program} {s:Shared} (e:((plainsOf p []).map fun c=>(s.heap.plainShapeAt c,fldOk fl s.heap c))=(plainsOf p []).map fun c=>(some c.plainShape,true)):SaysC fl p s.heap:=by
 intro c hc
 have h1:=zDa.mp e c hc
 obtain ⟨C,N,h2,P⟩:=plainAt_of_shape (congrArg Prod.fst h1)
 refine ⟨C,N,_,oL h2,P,fun f hf=>?_⟩
 have h3:fldOk fl s.heap c=true:=congrArg Prod.snd h1
 unfold fldOk at h3
 cases hx:s.heap.clsAt mainGlobals c.name with
 | none=>rw [hx] at h3; exact ff h3
 | some x =>
  rw [hx] at h3
  obtain ⟨C',o,cd⟩:=x
  obtain ⟨g1,g2,g3⟩:=Heap.clsAt_spec hx
  obtain rfl:C=C':=by rw [h2] at g1; injection g1 with q; injection q
  obtain ⟨nm,q,bs,sn,sub,col,dd,k0,k1,k2,k3,k5,ho⟩:=P.cls.obj
  rw [g2] at ho; cases ho
  cases g3
  have:=zBb.mp h3 f hf
  exact zC1.mp this
noncomputable def xHook (P:Pg) (p:Program):Hook:=⟨List (List (Option Bool)) × List (Option PlainShape × Bool),
 fun s=>(P.excs.map fun c=>P.excs.map fun d=>seeX s c.1 d.1,(plainsOf p []).map fun c=>(s.heap.plainShapeAt c,fldOk P.flds s.heap c)),
 fun _=>(P.excs.map fun c=>P.excs.map fun d=>some (P.sub c.1 d.1),(plainsOf p []).map fun c=>(some c.plainShape,true)),fun _ h=>SaysX P h/\SaysC P.flds p h,
 fun _ _ e=>⟨saysX_of (congrArg Prod.fst e),saysC_of (congrArg Prod.snd e)⟩,fun _ _ _ x k=>⟨x.1.keeps k,x.2.keeps k⟩⟩
noncomputable def methAt (h:Heap) (mg:Str->Option Value) (c f:Str):Option Addr:=match mg c with
 | some (.ref C)=>(match h.get? C with
  | some o=>(match o.data with
   | .cls cd=>(match h.nsMap cd.ns f with | some (.ref a)=>some a | _=>none)
   | _=>none)
  | none=>none)
 | _=>none
theorem nsMap_of {h:Heap} {N:Addr} {mN:Str->Option Value} (x:h.Ns N mN) (f:Str):h.nsMap N f=mN f:=by
 obtain ⟨o,es,ep,h1,h2,_,h4⟩:=x
 unfold Heap.nsMap
 rw [h1]
 dsimp only
 rw [h2]
 exact h4 f
noncomputable def bmVE:List Value:=[.type "ValueError",.type "Exception",.type "BaseException",.type "object"]
noncomputable def nQ (P:Pg) (p:Program):Bool:=P.excs.all fun c=>specOf p c.1 == some ("ValueError.__new__",bmVE)
section
variable {p prog:Program} {w:World} {s₁:Shared} {P:Pg} {mg mb:Str->Option Value} {methA:Str->Str->Option Addr} {loose:List Str} {mean:ExcName->Option Value}
theorem oK {h:Heap} {c:Str} {v:Value} (G:h.Ns mainGlobals mg) (e:NsAt h c v):mg c=some v:=by
 obtain ⟨o,es,ep,h1,h2,h3⟩:=e
 obtain ⟨o',es',ep',k1,k2,_,k4⟩:=G
 rw [h1] at k1; cases k1
 rw [h2] at k2; cases k2
 rw [← k4,h3]
theorem xc_of (T:Top p loose mean mg mb s₁.heap) (X:SaysX P s₁.heap) (hs:nQ P p=true):∀ h:Heap,(∀ b o,s₁.heap.get? b=some o->h.get? b=some o)->XcOk (eC prog w s₁ P mg mb methA) h:=by
 intro h hk
 have T':=T.keeps hk
 have X':=X.keeps hk
 have one:∀ c,P.isX c=true->∃ a,(eC prog w s₁ P mg mb methA).clsA c=some a/\OwnCls c a bmVE "ValueError.__new__" mg h:=fun c hc=>by
  obtain ⟨l,hl⟩:=pG hc
  have h1:=beq_iff_eq.mp (zBb.mp hs _ hl)
  obtain ⟨C,O,_⟩:=T'.ownAt h1
  refine ⟨C,?_,O.own⟩
  show (match mg c with | some (.ref a)=>some a | _=>none)=_
  rw [O.bound]
 have sub:∀ c d a b,P.isX c=true->P.isX d=true->(eC prog w s₁ P mg mb methA).clsA c=some a->(eC prog w s₁ P mg mb methA).clsA d=some b->∀ {nm q N bs bm hdct sn sub ab col dd k0 k1 k2 k3 k5 newId},
   h.get? a=some (excClassObj nm q a N bs bm hdct sn sub ab col dd k0 k1 k2 k3 k5 newId)->(Value.ref a::bm).contains (.ref b)=P.sub c d:=fun c d a b hc hd ha hb=>by
  intro nm q N bs bm hdct sn sub ab col dd k0 k1 k2 k3 k5 newId hC
  obtain ⟨a',b',o,cd,n1,n2,h1,h2,h3⟩:=X' c d hc hd
  have e1:=oK T'.g n1
  have e2:=oK T'.g n2
  have ea:(eC prog w s₁ P mg mb methA).clsA c=some a':=by
   show (match mg c with | some (.ref a)=>some a | _=>none)=_
   rw [e1]
  have eb:(eC prog w s₁ P mg mb methA).clsA d=some b':=by
   show (match mg d with | some (.ref a)=>some a | _=>none)=_
   rw [e2]
  rw [ea] at ha; cases ha
  rw [eb] at hb; cases hb
  rw [hC] at h1; cases h1
  cases h2
  exact h3
 refine ⟨fun c hc=>?_,fun c d a b hc hd ha hb e oe A Q E s hs he hcl hQ=>?_⟩
 ·obtain ⟨a,h1,h2⟩:=one c hc
  exact ⟨a,bmVE,_,_,_,h1,h2,PySem.F.excBase_ValueError⟩
 ·subst hs
  obtain ⟨a',e1,O⟩:=one c hc
  rw [ha] at e1; cases e1
  obtain ⟨b',e2,O'⟩:=one d hd
  rw [hb] at e2; cases e2
  obtain ⟨bm,N,nm,q,bs,hdct,sn,sb,ab,col,dd,k0,k1,k2,k3,k5,mN,hC,_,_,_⟩:=xobj O
  obtain ⟨bm',N',nm',q',bs',hdct',sn',sb',ab',col',dd',l0,l1,l2,l3,l5,mN',hC',_,_,T2⟩:=xobj O'
  obtain ⟨hh,g,d',tk,os⟩:=s
  exact exm_own hC hC' he hcl (T2.hasType (by decide)) (by rw [sub c d a b hc hd ha hb hC]; exact hQ)
theorem plains_of {B:Pg} (T:Top p loose mean mg mb s₁.heap) (X:SaysC B.flds p s₁.heap):PlainsOk B p mg (methAt s₁.heap mg) s₁.heap:=fun c hc=>by
 obtain ⟨C,N,mN,h1,P,h3⟩:=X c hc
 have e1:=oK T.g h1
 refine ⟨C,N,mN,e1,P,h3,fun m hm fa hfa=>?_⟩
 obtain ⟨nm,q,bs,sn,sub,col,dd,k0,k1,k2,k3,k5,ho⟩:=P.cls.obj
 unfold methAt
 rw [e1]
 dsimp only
 rw [ho]
 show (match s₁.heap.nsMap N m.name with | some (.ref a)=>some a | _=>none)=_
 rw [nsMap_of P.cls.ns,hfa]
noncomputable def j4 (P:Pg) (p:Program):Bool:=P.consts.all fun c=>match valOf p c.1 with
 | some (.int j)=>c.2 == j
 | _=>false
theorem consts_of (h:j4 P p=true):∀ x i,P.consts.lookup x=some i->valOf p x=some (.int i):=fun x i hl=>by
 have:(match valOf p x with | some (.int j)=>i == j | _=>false)=true:=zBb.mp h _ (dN hl)
 cases hv:valOf p x with
 | none=>rw [hv] at this; exact ff this
 | some d =>
  rw [hv] at this
  cases d <;> first | (exact ff this; done) | skip
  rw [beq_iff_eq.mp this]
theorem SaysC.view {fl:List Str} {p':Program} {h:Heap} (X:SaysC fl p' h) (e:plainsOf p []=plainsOf p' []):SaysC fl p h:=fun c hc=>X c (e ▸ hc)
theorem run_view {B:Pg} {p':Program} (BO:BaseOk B) (T:Top p loose mean mg mb s₁.heap) (X:SaysX (pgP B p') s₁.heap/\SaysC B.flds p' s₁.heap) (e1:plainsOf p []=plainsOf p' []) (e2:pgP B p=pgP B p') (hs:nQ (pgP B p) p=true) (hnm:jb p=true) (hok:(kW p).all recOk=true) (hc:j4 (pgP B p) p=true) (hf:oN B p loose=true)
  {name:Str} {fa sa:Addr} (hmg:mg name=some (.ref fa)) {ns:List Int} {its:List Value} (hso:s₁.heap.get? sa=some { cls:=.type "list",data:=.seq its.toArray }) (hI:IntsAre its ns) (hlen:ns.length<=63)
  {n k:Nat} (hn:n<=599) {st:St} (hrun:au (pgP B p') k n ⟨#[]⟩ name [.lst (ns.map .int)] []=.ok (.bool true) st) {Q E:Value->Shared->Prop}
  (hQ:∀ s',(∀ b o,s₁.heap.get? b=some o->s'.heap.get? b=some o)->s'.os=s₁.os->s'.gens=s₁.gens->Q (.bool true) s') :
  wpAny (model prog w) callerA (call (.ref fa) [.ref sa]) Q E s₁ :=
 run_law BO T (plains_of T (X.2.view e1)) (xc_of T (e2 ▸ X.1) hs) hnm hok (consts_of hc) hf hmg hso hI hlen hn (by rw [e2]; exact hrun) hQ
end
end Mine
end
section
set_option autoImplicit false
set_option maxRecDepth 100000
namespace Mine
open PySem PyProof.Rows
noncomputable def base:Pg where
 fns:=[]
 classes:=[]
 excs:=[]
 consts:=[]
 bi:=[("len",az),("list",aZ),("tuple",dP),("int",biInt),("abs",biAbs),("min",i9),("max",biMax),("sum",biSum),("set",mn),("dict",pj)]
 flds:=["rows","starts","functions","fuel","made","going","stack","calls","place"]
 mths:=["called","worth","enter","leave","step","add","choose"]
 shared:=[("slots","low")]
theorem base_ok:BaseOk base where
 bi:=fun q hq=>by
  simp only [base,zAl,zBr,or_false] at hq
  rcases hq with rfl | rfl | rfl | rfl | rfl | rfl | rfl | rfl | rfl | rfl
  ·exact ⟨by kernel_rfl,(fun a q=>nomatch q),fun C=>sound_len⟩
  ·exact ⟨by kernel_rfl,(fun a q=>nomatch q),fun C=>sound_list⟩
  ·exact ⟨by kernel_rfl,(fun a q=>nomatch q),fun C=>sound_tuple⟩
  ·exact ⟨by kernel_rfl,(fun a q=>nomatch q),fun C=>sound_int⟩
  ·exact ⟨by kernel_rfl,(fun a q=>nomatch q),fun C=>sound_abs⟩
  ·exact ⟨by kernel_rfl,(fun a q=>nomatch q),fun C=>sound_min⟩
  ·exact ⟨by kernel_rfl,(fun a q=>nomatch q),fun C=>sound_max⟩
  ·exact ⟨by kernel_rfl,(fun a q=>nomatch q),fun C=>sound_sum⟩
  ·exact ⟨by kernel_rfl,(fun a q=>nomatch q),fun C=>sound_set⟩
  ·exact ⟨by kernel_rfl,(fun a q=>nomatch q),fun C=>sound_dict⟩
 fld:=fun f hf=>by
  simp only [base,zAl,zBr,or_false] at hf
  rcases hf with rfl | rfl | rfl | rfl | rfl | rfl | rfl | rfl | rfl <;> (rw [typeLookup_type,builtinLookup_eq_fast]; kernel_rfl)
 mth:=fun f hf=>by
  simp only [base,zAl,zBr,or_false] at hf
  rcases hf with rfl | rfl | rfl | rfl | rfl | rfl | rfl <;> exact ⟨by rw [typeLookup_type,builtinLookup_eq_fast]; kernel_rfl,by decide +kernel⟩
end Mine
end
section
set_option autoImplicit false
set_option linter.unusedVariables false
set_option maxRecDepth 100000
namespace Mine
open PySem PySem.W PySem.Calls PyProof.Rows
noncomputable def eD (P:Params) (k:Str) (t:Nat) (v:Value):DictEntry:={ hash:=PyData.keyHash P k,key:=.str k t,val:=v }
noncomputable def ha11 (P:Params):Obj:={ cls:=.type "tuple",data:=.seq #[] }
noncomputable def ha12 (P:Params):Obj:={ cls:=.none,data:=.fields #[] }
noncomputable def ha13 (P:Params):Obj:={ cls:=.type "code",data:=.fields #[.str "<module>" 182,.str "<module>" 183,.str "/claim/cut.py" 184,.int 1 0,.int 0 0,.int 0 0,.int 0 0,.int 0 0,.ref 11,.bool false,.int 181 0,.ref 12,.none,.none,.none,.none,.int 185 0,.int 1 0,.str "/claim/cut.py" 186] }
noncomputable def ha14 (P:Params):Obj:={ cls:=.type "frame",slots:=#[some (.ref 13),some (.ref 3),some (.ref 3),none,some (.str "__main__" 164),none,some (.ref 0)] }
noncomputable def hpA (P:Params):Heap:=⟨#[boot_o_0 P,boot_o_1 P,boot_o_2 P,boot_o_3 P,boot_o_4 P,boot_o_5 P,boot_o_6 P,boot_o_7 P,boot_o_8 P,boot_o_9 P,boot_o_10 P,ha11 P,ha12 P,ha13 P,ha14 P],{ }⟩
noncomputable def hc3 (P:Params):Obj:={ cls:=.type "dict",data:=.dict #[eD P "__name__" 165 (.str "callsmith.errors" 187),eD P "__doc__" 166 (.none),eD P "__package__" 167 (.none),eD P "__loader__" 168 (.builtin "__main__.__loader__#opaque"),eD P "__spec__" 169 (.none),eD P "__annotations__" 170 (.ref 6),eD P "__builtins__" 171 (.ref 4),eD P "__file__" 173 (.str "/claim/cut.py" 172),eD P "__cached__" 174 (.none),eD P "SmithError" 206 (.ref 24),eD P "NameTwice" 222 (.ref 37),eD P "NoSuchName" 238 (.ref 49),eD P "NoSuchFunction" 254 (.ref 61),eD P "WrongCount" 270 (.ref 73),eD P "TooTall" 286 (.ref 85),eD P "ByNought" 302 (.ref 97),eD P "TooGreat" 318 (.ref 109),eD P "TooDeep" 334 (.ref 121),eD P "Dry" 350 (.ref 133)] 19 }
noncomputable def hc11 (P:Params):Obj:={ cls:=.type "tuple",data:=.seq #[] }
noncomputable def hc12 (P:Params):Obj:={ cls:=.none,data:=.fields #[.int 2 0,.int 0 0,.ref 20,.int 4 0,.int 0 0,.ref 33,.int 6 0,.int 0 0,.ref 45,.int 8 0,.int 0 0,.ref 57,.int 10 0,.int 0 0,.ref 69,.int 12 0,.int 0 0,.ref 81,.int 14 0,.int 0 0,.ref 93,.int 16 0,.int 0 0,.ref 105,.int 18 0,.int 0 0,.ref 117,.int 20 0,.int 0 0,.ref 129] }
noncomputable def hc13 (P:Params):Obj:={ cls:=.type "code",data:=.fields #[.str "<module>" 182,.str "<module>" 183,.str "/claim/cut.py" 184,.int 1 0,.int 0 0,.int 0 0,.int 0 0,.int 0 0,.ref 11,.bool false,.int 181 0,.ref 12,.none,.none,.none,.none,.int 185 0,.int 1 0,.str "/claim/cut.py" 186] }
noncomputable def hc14 (P:Params):Obj:={ cls:=.type "frame",slots:=#[some (.ref 13),some (.ref 3),some (.ref 3),none,some (.str "__main__" 164),none,some (.ref 0)] }
noncomputable def hc15 (P:Params):Obj:={ cls:=.type "tuple",data:=.seq #[.type "ValueError"] }
noncomputable def hc16 (P:Params):Obj:={ cls:=.type "builtin_function_or_method",data:=.fields #[.builtin "type.__prepare__",.type "type"] }
noncomputable def hc17 (P:Params):Obj:={ cls:=.type "dict",data:=.dict #[eD P "__module__" 196 (.str "callsmith.errors" 187),eD P "__qualname__" 198 (.str "SmithError" 197),eD P "__firstlineno__" 200 (.int 2 199),eD P "__static_attributes__" 201 (.ref 22)] 4 }
noncomputable def hc18 (P:Params):Obj:={ cls:=.type "tuple",data:=.seq #[] }
noncomputable def hc19 (P:Params):Obj:={ cls:=.none,data:=.fields #[] }
noncomputable def hc20 (P:Params):Obj:={ cls:=.type "code",data:=.fields #[.str "SmithError" 191,.str "SmithError" 192,.str "/claim/cut.py" 193,.int 2 0,.int 0 0,.int 0 0,.int 0 0,.int 0 0,.ref 18,.bool false,.int 181 0,.ref 19,.none,.none,.none,.none,.int 194 0,.int 2 0,.str "/claim/cut.py" 195] }
noncomputable def hc21 (P:Params):Obj:={ cls:=.type "frame",slots:=#[some (.ref 20),some (.ref 3),some (.ref 17),none,some (.str "callsmith.errors" 187),none,some (.ref 0)] }
noncomputable def hc22 (P:Params):Obj:={ cls:=.type "tuple",data:=.seq #[] }
noncomputable def hc23 (P:Params):Obj:={ cls:=.type "dict",data:=.dict #[eD P "__module__" 196 (.str "callsmith.errors" 187),eD P "__firstlineno__" 200 (.int 2 199),eD P "__static_attributes__" 201 (.ref 22),eD P "__weakref__" 203 (.ref 25),eD P "__doc__" 204 (.none)] 3 }
noncomputable def hc24 (P:Params):Obj:={ cls:=.type "type",data:=.cls { name:="SmithError",bases:=[.type "ValueError"],mro:=[.ref 24,.type "ValueError",.type "Exception",.type "BaseException",.type "object"],ns:=23,qualname:="SmithError",subclasses:=[.ref 37,.ref 49,.ref 61,.ref 73,.ref 85,.ref 97,.ref 109,.ref 121,.ref 133] },slots:=#[some (.ref 15),none,some (.str "SmithError" 189),some (.str "SmithError" 197),some (.builtin "ValueError.__new__"),some (.bool true)] }
noncomputable def hc25 (P:Params):Obj:={ cls:=.type "getset_descriptor",data:=.fields #[.str "__weakref__" 202,.ref 24,.builtin "ExceptionGroup.__weakref__",.none] }
noncomputable def hc26 (P:Params):Obj:={ cls:=.type "super",data:=.fields #[.ref 24,.ref 24,.ref 24] }
noncomputable def hc27 (P:Params):Obj:={ cls:=.type "builtin_function_or_method",data:=.fields #[.builtin "object.__init_subclass__",.ref 24] }
noncomputable def hc28 (P:Params):Obj:={ cls:=.type "tuple",data:=.seq #[.ref 24] }
noncomputable def hc29 (P:Params):Obj:={ cls:=.type "builtin_function_or_method",data:=.fields #[.builtin "type.__prepare__",.type "type"] }
noncomputable def hc30 (P:Params):Obj:={ cls:=.type "dict",data:=.dict #[eD P "__module__" 214 (.str "callsmith.errors" 187),eD P "__qualname__" 216 (.str "NameTwice" 215),eD P "__firstlineno__" 218 (.int 4 217),eD P "__static_attributes__" 219 (.ref 35)] 4 }
noncomputable def hc31 (P:Params):Obj:={ cls:=.type "tuple",data:=.seq #[] }
noncomputable def hc32 (P:Params):Obj:={ cls:=.none,data:=.fields #[] }
noncomputable def hc33 (P:Params):Obj:={ cls:=.type "code",data:=.fields #[.str "NameTwice" 209,.str "NameTwice" 210,.str "/claim/cut.py" 211,.int 4 0,.int 0 0,.int 0 0,.int 0 0,.int 0 0,.ref 31,.bool false,.int 181 0,.ref 32,.none,.none,.none,.none,.int 212 0,.int 4 0,.str "/claim/cut.py" 213] }
noncomputable def hc34 (P:Params):Obj:={ cls:=.type "frame",slots:=#[some (.ref 33),some (.ref 3),some (.ref 30),none,some (.str "callsmith.errors" 187),none,some (.ref 0)] }
noncomputable def hc35 (P:Params):Obj:={ cls:=.type "tuple",data:=.seq #[] }
noncomputable def hc36 (P:Params):Obj:={ cls:=.type "dict",data:=.dict #[eD P "__module__" 214 (.str "callsmith.errors" 187),eD P "__firstlineno__" 218 (.int 4 217),eD P "__static_attributes__" 219 (.ref 35),eD P "__doc__" 220 (.none)] 2 }
noncomputable def hc37 (P:Params):Obj:={ cls:=.type "type",data:=.cls { name:="NameTwice",bases:=[.ref 24],mro:=[.ref 37,.ref 24,.type "ValueError",.type "Exception",.type "BaseException",.type "object"],ns:=36,qualname:="NameTwice" },slots:=#[some (.ref 28),none,some (.str "NameTwice" 207),some (.str "NameTwice" 215),some (.builtin "ValueError.__new__"),some (.bool true)] }
noncomputable def hc38 (P:Params):Obj:={ cls:=.type "super",data:=.fields #[.ref 37,.ref 37,.ref 37] }
noncomputable def hc39 (P:Params):Obj:={ cls:=.type "builtin_function_or_method",data:=.fields #[.builtin "object.__init_subclass__",.ref 37] }
noncomputable def hc40 (P:Params):Obj:={ cls:=.type "tuple",data:=.seq #[.ref 24] }
noncomputable def hc41 (P:Params):Obj:={ cls:=.type "builtin_function_or_method",data:=.fields #[.builtin "type.__prepare__",.type "type"] }
noncomputable def hc42 (P:Params):Obj:={ cls:=.type "dict",data:=.dict #[eD P "__module__" 230 (.str "callsmith.errors" 187),eD P "__qualname__" 232 (.str "NoSuchName" 231),eD P "__firstlineno__" 234 (.int 6 233),eD P "__static_attributes__" 235 (.ref 47)] 4 }
noncomputable def hc43 (P:Params):Obj:={ cls:=.type "tuple",data:=.seq #[] }
noncomputable def hc44 (P:Params):Obj:={ cls:=.none,data:=.fields #[] }
noncomputable def hc45 (P:Params):Obj:={ cls:=.type "code",data:=.fields #[.str "NoSuchName" 225,.str "NoSuchName" 226,.str "/claim/cut.py" 227,.int 6 0,.int 0 0,.int 0 0,.int 0 0,.int 0 0,.ref 43,.bool false,.int 181 0,.ref 44,.none,.none,.none,.none,.int 228 0,.int 6 0,.str "/claim/cut.py" 229] }
noncomputable def hc46 (P:Params):Obj:={ cls:=.type "frame",slots:=#[some (.ref 45),some (.ref 3),some (.ref 42),none,some (.str "callsmith.errors" 187),none,some (.ref 0)] }
noncomputable def hc47 (P:Params):Obj:={ cls:=.type "tuple",data:=.seq #[] }
noncomputable def hc48 (P:Params):Obj:={ cls:=.type "dict",data:=.dict #[eD P "__module__" 230 (.str "callsmith.errors" 187),eD P "__firstlineno__" 234 (.int 6 233),eD P "__static_attributes__" 235 (.ref 47),eD P "__doc__" 236 (.none)] 2 }
noncomputable def hc49 (P:Params):Obj:={ cls:=.type "type",data:=.cls { name:="NoSuchName",bases:=[.ref 24],mro:=[.ref 49,.ref 24,.type "ValueError",.type "Exception",.type "BaseException",.type "object"],ns:=48,qualname:="NoSuchName" },slots:=#[some (.ref 40),none,some (.str "NoSuchName" 223),some (.str "NoSuchName" 231),some (.builtin "ValueError.__new__"),some (.bool true)] }
noncomputable def hc50 (P:Params):Obj:={ cls:=.type "super",data:=.fields #[.ref 49,.ref 49,.ref 49] }
noncomputable def hc51 (P:Params):Obj:={ cls:=.type "builtin_function_or_method",data:=.fields #[.builtin "object.__init_subclass__",.ref 49] }
noncomputable def hc52 (P:Params):Obj:={ cls:=.type "tuple",data:=.seq #[.ref 24] }
noncomputable def hc53 (P:Params):Obj:={ cls:=.type "builtin_function_or_method",data:=.fields #[.builtin "type.__prepare__",.type "type"] }
noncomputable def hc54 (P:Params):Obj:={ cls:=.type "dict",data:=.dict #[eD P "__module__" 246 (.str "callsmith.errors" 187),eD P "__qualname__" 248 (.str "NoSuchFunction" 247),eD P "__firstlineno__" 250 (.int 8 249),eD P "__static_attributes__" 251 (.ref 59)] 4 }
noncomputable def hc55 (P:Params):Obj:={ cls:=.type "tuple",data:=.seq #[] }
noncomputable def hc56 (P:Params):Obj:={ cls:=.none,data:=.fields #[] }
noncomputable def hc57 (P:Params):Obj:={ cls:=.type "code",data:=.fields #[.str "NoSuchFunction" 241,.str "NoSuchFunction" 242,.str "/claim/cut.py" 243,.int 8 0,.int 0 0,.int 0 0,.int 0 0,.int 0 0,.ref 55,.bool false,.int 181 0,.ref 56,.none,.none,.none,.none,.int 244 0,.int 8 0,.str "/claim/cut.py" 245] }
noncomputable def hc58 (P:Params):Obj:={ cls:=.type "frame",slots:=#[some (.ref 57),some (.ref 3),some (.ref 54),none,some (.str "callsmith.errors" 187),none,some (.ref 0)] }
noncomputable def hc59 (P:Params):Obj:={ cls:=.type "tuple",data:=.seq #[] }
noncomputable def hc60 (P:Params):Obj:={ cls:=.type "dict",data:=.dict #[eD P "__module__" 246 (.str "callsmith.errors" 187),eD P "__firstlineno__" 250 (.int 8 249),eD P "__static_attributes__" 251 (.ref 59),eD P "__doc__" 252 (.none)] 2 }
noncomputable def hc61 (P:Params):Obj:={ cls:=.type "type",data:=.cls { name:="NoSuchFunction",bases:=[.ref 24],mro:=[.ref 61,.ref 24,.type "ValueError",.type "Exception",.type "BaseException",.type "object"],ns:=60,qualname:="NoSuchFunction" },slots:=#[some (.ref 52),none,some (.str "NoSuchFunction" 239),some (.str "NoSuchFunction" 247),some (.builtin "ValueError.__new__"),some (.bool true)] }
noncomputable def hc62 (P:Params):Obj:={ cls:=.type "super",data:=.fields #[.ref 61,.ref 61,.ref 61] }
noncomputable def hc63 (P:Params):Obj:={ cls:=.type "builtin_function_or_method",data:=.fields #[.builtin "object.__init_subclass__",.ref 61] }
noncomputable def hc64 (P:Params):Obj:={ cls:=.type "tuple",data:=.seq #[.ref 24] }
noncomputable def hc65 (P:Params):Obj:={ cls:=.type "builtin_function_or_method",data:=.fields #[.builtin "type.__prepare__",.type "type"] }
noncomputable def hc66 (P:Params):Obj:={ cls:=.type "dict",data:=.dict #[eD P "__module__" 262 (.str "callsmith.errors" 187),eD P "__qualname__" 264 (.str "WrongCount" 263),eD P "__firstlineno__" 266 (.int 10 265),eD P "__static_attributes__" 267 (.ref 71)] 4 }
noncomputable def hc67 (P:Params):Obj:={ cls:=.type "tuple",data:=.seq #[] }
noncomputable def hc68 (P:Params):Obj:={ cls:=.none,data:=.fields #[] }
noncomputable def hc69 (P:Params):Obj:={ cls:=.type "code",data:=.fields #[.str "WrongCount" 257,.str "WrongCount" 258,.str "/claim/cut.py" 259,.int 10 0,.int 0 0,.int 0 0,.int 0 0,.int 0 0,.ref 67,.bool false,.int 181 0,.ref 68,.none,.none,.none,.none,.int 260 0,.int 10 0,.str "/claim/cut.py" 261] }
noncomputable def hc70 (P:Params):Obj:={ cls:=.type "frame",slots:=#[some (.ref 69),some (.ref 3),some (.ref 66),none,some (.str "callsmith.errors" 187),none,some (.ref 0)] }
noncomputable def hc71 (P:Params):Obj:={ cls:=.type "tuple",data:=.seq #[] }
noncomputable def hc72 (P:Params):Obj:={ cls:=.type "dict",data:=.dict #[eD P "__module__" 262 (.str "callsmith.errors" 187),eD P "__firstlineno__" 266 (.int 10 265),eD P "__static_attributes__" 267 (.ref 71),eD P "__doc__" 268 (.none)] 2 }
noncomputable def hc73 (P:Params):Obj:={ cls:=.type "type",data:=.cls { name:="WrongCount",bases:=[.ref 24],mro:=[.ref 73,.ref 24,.type "ValueError",.type "Exception",.type "BaseException",.type "object"],ns:=72,qualname:="WrongCount" },slots:=#[some (.ref 64),none,some (.str "WrongCount" 255),some (.str "WrongCount" 263),some (.builtin "ValueError.__new__"),some (.bool true)] }
noncomputable def hc74 (P:Params):Obj:={ cls:=.type "super",data:=.fields #[.ref 73,.ref 73,.ref 73] }
noncomputable def hc75 (P:Params):Obj:={ cls:=.type "builtin_function_or_method",data:=.fields #[.builtin "object.__init_subclass__",.ref 73] }
noncomputable def hc76 (P:Params):Obj:={ cls:=.type "tuple",data:=.seq #[.ref 24] }
noncomputable def hc77 (P:Params):Obj:={ cls:=.type "builtin_function_or_method",data:=.fields #[.builtin "type.__prepare__",.type "type"] }
noncomputable def hc78 (P:Params):Obj:={ cls:=.type "dict",data:=.dict #[eD P "__module__" 278 (.str "callsmith.errors" 187),eD P "__qualname__" 280 (.str "TooTall" 279),eD P "__firstlineno__" 282 (.int 12 281),eD P "__static_attributes__" 283 (.ref 83)] 4 }
noncomputable def hc79 (P:Params):Obj:={ cls:=.type "tuple",data:=.seq #[] }
noncomputable def hc80 (P:Params):Obj:={ cls:=.none,data:=.fields #[] }
noncomputable def hc81 (P:Params):Obj:={ cls:=.type "code",data:=.fields #[.str "TooTall" 273,.str "TooTall" 274,.str "/claim/cut.py" 275,.int 12 0,.int 0 0,.int 0 0,.int 0 0,.int 0 0,.ref 79,.bool false,.int 181 0,.ref 80,.none,.none,.none,.none,.int 276 0,.int 12 0,.str "/claim/cut.py" 277] }
noncomputable def hc82 (P:Params):Obj:={ cls:=.type "frame",slots:=#[some (.ref 81),some (.ref 3),some (.ref 78),none,some (.str "callsmith.errors" 187),none,some (.ref 0)] }
noncomputable def hc83 (P:Params):Obj:={ cls:=.type "tuple",data:=.seq #[] }
noncomputable def hc84 (P:Params):Obj:={ cls:=.type "dict",data:=.dict #[eD P "__module__" 278 (.str "callsmith.errors" 187),eD P "__firstlineno__" 282 (.int 12 281),eD P "__static_attributes__" 283 (.ref 83),eD P "__doc__" 284 (.none)] 2 }
noncomputable def hc85 (P:Params):Obj:={ cls:=.type "type",data:=.cls { name:="TooTall",bases:=[.ref 24],mro:=[.ref 85,.ref 24,.type "ValueError",.type "Exception",.type "BaseException",.type "object"],ns:=84,qualname:="TooTall" },slots:=#[some (.ref 76),none,some (.str "TooTall" 271),some (.str "TooTall" 279),some (.builtin "ValueError.__new__"),some (.bool true)] }
noncomputable def hc86 (P:Params):Obj:={ cls:=.type "super",data:=.fields #[.ref 85,.ref 85,.ref 85] }
noncomputable def hc87 (P:Params):Obj:={ cls:=.type "builtin_function_or_method",data:=.fields #[.builtin "object.__init_subclass__",.ref 85] }
noncomputable def hc88 (P:Params):Obj:={ cls:=.type "tuple",data:=.seq #[.ref 24] }
noncomputable def hc89 (P:Params):Obj:={ cls:=.type "builtin_function_or_method",data:=.fields #[.builtin "type.__prepare__",.type "type"] }
noncomputable def hc90 (P:Params):Obj:={ cls:=.type "dict",data:=.dict #[eD P "__module__" 294 (.str "callsmith.errors" 187),eD P "__qualname__" 296 (.str "ByNought" 295),eD P "__firstlineno__" 298 (.int 14 297),eD P "__static_attributes__" 299 (.ref 95)] 4 }
noncomputable def hc91 (P:Params):Obj:={ cls:=.type "tuple",data:=.seq #[] }
noncomputable def hc92 (P:Params):Obj:={ cls:=.none,data:=.fields #[] }
noncomputable def hc93 (P:Params):Obj:={ cls:=.type "code",data:=.fields #[.str "ByNought" 289,.str "ByNought" 290,.str "/claim/cut.py" 291,.int 14 0,.int 0 0,.int 0 0,.int 0 0,.int 0 0,.ref 91,.bool false,.int 181 0,.ref 92,.none,.none,.none,.none,.int 292 0,.int 14 0,.str "/claim/cut.py" 293] }
noncomputable def hc94 (P:Params):Obj:={ cls:=.type "frame",slots:=#[some (.ref 93),some (.ref 3),some (.ref 90),none,some (.str "callsmith.errors" 187),none,some (.ref 0)] }
noncomputable def hc95 (P:Params):Obj:={ cls:=.type "tuple",data:=.seq #[] }
noncomputable def hc96 (P:Params):Obj:={ cls:=.type "dict",data:=.dict #[eD P "__module__" 294 (.str "callsmith.errors" 187),eD P "__firstlineno__" 298 (.int 14 297),eD P "__static_attributes__" 299 (.ref 95),eD P "__doc__" 300 (.none)] 2 }
noncomputable def hc97 (P:Params):Obj:={ cls:=.type "type",data:=.cls { name:="ByNought",bases:=[.ref 24],mro:=[.ref 97,.ref 24,.type "ValueError",.type "Exception",.type "BaseException",.type "object"],ns:=96,qualname:="ByNought" },slots:=#[some (.ref 88),none,some (.str "ByNought" 287),some (.str "ByNought" 295),some (.builtin "ValueError.__new__"),some (.bool true)] }
noncomputable def hc98 (P:Params):Obj:={ cls:=.type "super",data:=.fields #[.ref 97,.ref 97,.ref 97] }
noncomputable def hc99 (P:Params):Obj:={ cls:=.type "builtin_function_or_method",data:=.fields #[.builtin "object.__init_subclass__",.ref 97] }
noncomputable def hc100 (P:Params):Obj:={ cls:=.type "tuple",data:=.seq #[.ref 24] }
noncomputable def hc101 (P:Params):Obj:={ cls:=.type "builtin_function_or_method",data:=.fields #[.builtin "type.__prepare__",.type "type"] }
noncomputable def hc102 (P:Params):Obj:={ cls:=.type "dict",data:=.dict #[eD P "__module__" 310 (.str "callsmith.errors" 187),eD P "__qualname__" 312 (.str "TooGreat" 311),eD P "__firstlineno__" 314 (.int 16 313),eD P "__static_attributes__" 315 (.ref 107)] 4 }
noncomputable def hc103 (P:Params):Obj:={ cls:=.type "tuple",data:=.seq #[] }
noncomputable def hc104 (P:Params):Obj:={ cls:=.none,data:=.fields #[] }
noncomputable def hc105 (P:Params):Obj:={ cls:=.type "code",data:=.fields #[.str "TooGreat" 305,.str "TooGreat" 306,.str "/claim/cut.py" 307,.int 16 0,.int 0 0,.int 0 0,.int 0 0,.int 0 0,.ref 103,.bool false,.int 181 0,.ref 104,.none,.none,.none,.none,.int 308 0,.int 16 0,.str "/claim/cut.py" 309] }
noncomputable def hc106 (P:Params):Obj:={ cls:=.type "frame",slots:=#[some (.ref 105),some (.ref 3),some (.ref 102),none,some (.str "callsmith.errors" 187),none,some (.ref 0)] }
noncomputable def hc107 (P:Params):Obj:={ cls:=.type "tuple",data:=.seq #[] }
noncomputable def hc108 (P:Params):Obj:={ cls:=.type "dict",data:=.dict #[eD P "__module__" 310 (.str "callsmith.errors" 187),eD P "__firstlineno__" 314 (.int 16 313),eD P "__static_attributes__" 315 (.ref 107),eD P "__doc__" 316 (.none)] 2 }
noncomputable def hc109 (P:Params):Obj:={ cls:=.type "type",data:=.cls { name:="TooGreat",bases:=[.ref 24],mro:=[.ref 109,.ref 24,.type "ValueError",.type "Exception",.type "BaseException",.type "object"],ns:=108,qualname:="TooGreat" },slots:=#[some (.ref 100),none,some (.str "TooGreat" 303),some (.str "TooGreat" 311),some (.builtin "ValueError.__new__"),some (.bool true)] }
noncomputable def hc110 (P:Params):Obj:={ cls:=.type "super",data:=.fields #[.ref 109,.ref 109,.ref 109] }
noncomputable def hc111 (P:Params):Obj:={ cls:=.type "builtin_function_or_method",data:=.fields #[.builtin "object.__init_subclass__",.ref 109] }
noncomputable def hc112 (P:Params):Obj:={ cls:=.type "tuple",data:=.seq #[.ref 24] }
noncomputable def hc113 (P:Params):Obj:={ cls:=.type "builtin_function_or_method",data:=.fields #[.builtin "type.__prepare__",.type "type"] }
noncomputable def hc114 (P:Params):Obj:={ cls:=.type "dict",data:=.dict #[eD P "__module__" 326 (.str "callsmith.errors" 187),eD P "__qualname__" 328 (.str "TooDeep" 327),eD P "__firstlineno__" 330 (.int 18 329),eD P "__static_attributes__" 331 (.ref 119)] 4 }
noncomputable def hc115 (P:Params):Obj:={ cls:=.type "tuple",data:=.seq #[] }
noncomputable def hc116 (P:Params):Obj:={ cls:=.none,data:=.fields #[] }
noncomputable def hc117 (P:Params):Obj:={ cls:=.type "code",data:=.fields #[.str "TooDeep" 321,.str "TooDeep" 322,.str "/claim/cut.py" 323,.int 18 0,.int 0 0,.int 0 0,.int 0 0,.int 0 0,.ref 115,.bool false,.int 181 0,.ref 116,.none,.none,.none,.none,.int 324 0,.int 18 0,.str "/claim/cut.py" 325] }
noncomputable def hc118 (P:Params):Obj:={ cls:=.type "frame",slots:=#[some (.ref 117),some (.ref 3),some (.ref 114),none,some (.str "callsmith.errors" 187),none,some (.ref 0)] }
noncomputable def hc119 (P:Params):Obj:={ cls:=.type "tuple",data:=.seq #[] }
noncomputable def hc120 (P:Params):Obj:={ cls:=.type "dict",data:=.dict #[eD P "__module__" 326 (.str "callsmith.errors" 187),eD P "__firstlineno__" 330 (.int 18 329),eD P "__static_attributes__" 331 (.ref 119),eD P "__doc__" 332 (.none)] 2 }
noncomputable def hc121 (P:Params):Obj:={ cls:=.type "type",data:=.cls { name:="TooDeep",bases:=[.ref 24],mro:=[.ref 121,.ref 24,.type "ValueError",.type "Exception",.type "BaseException",.type "object"],ns:=120,qualname:="TooDeep" },slots:=#[some (.ref 112),none,some (.str "TooDeep" 319),some (.str "TooDeep" 327),some (.builtin "ValueError.__new__"),some (.bool true)] }
noncomputable def hc122 (P:Params):Obj:={ cls:=.type "super",data:=.fields #[.ref 121,.ref 121,.ref 121] }
noncomputable def hc123 (P:Params):Obj:={ cls:=.type "builtin_function_or_method",data:=.fields #[.builtin "object.__init_subclass__",.ref 121] }
noncomputable def hc124 (P:Params):Obj:={ cls:=.type "tuple",data:=.seq #[.ref 24] }
noncomputable def hc125 (P:Params):Obj:={ cls:=.type "builtin_function_or_method",data:=.fields #[.builtin "type.__prepare__",.type "type"] }
noncomputable def hc126 (P:Params):Obj:={ cls:=.type "dict",data:=.dict #[eD P "__module__" 342 (.str "callsmith.errors" 187),eD P "__qualname__" 344 (.str "Dry" 343),eD P "__firstlineno__" 346 (.int 20 345),eD P "__static_attributes__" 347 (.ref 131)] 4 }
noncomputable def hc127 (P:Params):Obj:={ cls:=.type "tuple",data:=.seq #[] }
noncomputable def hc128 (P:Params):Obj:={ cls:=.none,data:=.fields #[] }
noncomputable def hc129 (P:Params):Obj:={ cls:=.type "code",data:=.fields #[.str "Dry" 337,.str "Dry" 338,.str "/claim/cut.py" 339,.int 20 0,.int 0 0,.int 0 0,.int 0 0,.int 0 0,.ref 127,.bool false,.int 181 0,.ref 128,.none,.none,.none,.none,.int 340 0,.int 20 0,.str "/claim/cut.py" 341] }
noncomputable def hc130 (P:Params):Obj:={ cls:=.type "frame",slots:=#[some (.ref 129),some (.ref 3),some (.ref 126),none,some (.str "callsmith.errors" 187),none,some (.ref 0)] }
noncomputable def hc131 (P:Params):Obj:={ cls:=.type "tuple",data:=.seq #[] }
noncomputable def hc132 (P:Params):Obj:={ cls:=.type "dict",data:=.dict #[eD P "__module__" 342 (.str "callsmith.errors" 187),eD P "__firstlineno__" 346 (.int 20 345),eD P "__static_attributes__" 347 (.ref 131),eD P "__doc__" 348 (.none)] 2 }
noncomputable def hc133 (P:Params):Obj:={ cls:=.type "type",data:=.cls { name:="Dry",bases:=[.ref 24],mro:=[.ref 133,.ref 24,.type "ValueError",.type "Exception",.type "BaseException",.type "object"],ns:=132,qualname:="Dry" },slots:=#[some (.ref 124),none,some (.str "Dry" 335),some (.str "Dry" 343),some (.builtin "ValueError.__new__"),some (.bool true)] }
noncomputable def hc134 (P:Params):Obj:={ cls:=.type "super",data:=.fields #[.ref 133,.ref 133,.ref 133] }
noncomputable def hc135 (P:Params):Obj:={ cls:=.type "builtin_function_or_method",data:=.fields #[.builtin "object.__init_subclass__",.ref 133] }
noncomputable def hpC (P:Params):Heap:=⟨#[boot_o_0 P,boot_o_1 P,boot_o_2 P,hc3 P,boot_o_4 P,boot_o_5 P,boot_o_6 P,boot_o_7 P,boot_o_8 P,boot_o_9 P,boot_o_10 P,hc11 P,hc12 P,hc13 P,hc14 P,hc15 P,hc16 P,hc17 P,hc18 P,hc19 P,hc20 P,hc21 P,hc22 P,hc23 P,hc24 P,hc25 P,hc26 P,hc27 P,hc28 P,hc29 P,hc30 P,hc31 P,hc32 P,hc33 P,hc34 P,hc35 P,hc36 P,hc37 P,hc38 P,hc39 P,hc40 P,hc41 P,hc42 P,hc43 P,hc44 P,hc45 P,hc46 P,hc47 P,hc48 P,hc49 P,hc50 P,hc51 P,hc52 P,hc53 P,hc54 P,hc55 P,hc56 P,hc57 P,hc58 P,hc59 P,hc60 P,hc61 P,hc62 P,hc63 P,hc64 P,hc65 P,hc66 P,hc67 P,hc68 P,hc69 P,hc70 P,hc71 P,hc72 P,hc73 P,hc74 P,hc75 P,hc76 P,hc77 P,hc78 P,hc79 P,hc80 P,hc81 P,hc82 P,hc83 P,hc84 P,hc85 P,hc86 P,hc87 P,hc88 P,hc89 P,hc90 P,hc91 P,hc92 P,hc93 P,hc94 P,hc95 P,hc96 P,hc97 P,hc98 P,hc99 P,hc100 P,hc101 P,hc102 P,hc103 P,hc104 P,hc105 P,hc106 P,hc107 P,hc108 P,hc109 P,hc110 P,hc111 P,hc112 P,hc113 P,hc114 P,hc115 P,hc116 P,hc117 P,hc118 P,hc119 P,hc120 P,hc121 P,hc122 P,hc123 P,hc124 P,hc125 P,hc126 P,hc127 P,hc128 P,hc129 P,hc130 P,hc131 P,hc132 P,hc133 P,hc134 P,hc135 P],{ }⟩
noncomputable abbrev pp:Program:=PySem.Challenge.pw_uf030011_12
noncomputable abbrev zp:Pos:={ line:=0,col:=0,endLine:=0,endCol:=0 }
noncomputable abbrev pc:Pos:={ line:=20,col:=0,endLine:=21,endCol:=8 }
noncomputable abbrev an:Option Value:=some (.ref 6)
noncomputable def ev0:PySem.Env:={ scope:=pp.main.scope,locals:=mainNs,globals:=mainNs,cells:=[],code:=.ref 13,frame:=some 14 }
noncomputable abbrev bE:List Stmt:=behindTheImports pp
noncomputable abbrev cE:Code:=.body bE ev0
noncomputable abbrev sh0 (w:World) (os:OsState):Shared:=⟨boot_heap w.params,Array.mk [],boot_drawn,boot_toks,os⟩
noncomputable abbrev shA (w:World) (os:OsState):Shared:=⟨hpA w.params,Array.mk [],{},187,os⟩
noncomputable abbrev shC (w:World) (os:OsState):Shared:=⟨hpC w.params,Array.mk [],{},351,os⟩
set_option maxHeartbeats 0 in
theorem preA (w:World) (os:OsState):topGo treeTable pp w 11 an 12 (sh0 w os) (topStub pp)=some (shA w os,⟨denote treeTable cE,cE,zp,[topFrame zp]⟩):=by kernel_rfl
set_option maxHeartbeats 0 in
theorem blkA (w:World) (os:OsState):segRun treeTable pp w 11 an 1 1 (shA w os) (blockOf bE ev0 cE zp [topFrame zp])=some (.next,shA w os,cE,zp):=by kernel_rfl
set_option maxHeartbeats 0 in
theorem runA (w:World) (os:OsState):segRun treeTable pp w 11 an 1 2113 (shA w os) (piecesOf (bE.take 11) ev0 cE zp [topFrame zp])=some (.next,shC w os,cE,pc):=by kernel_rfl
noncomputable abbrev qq:Program:=PySem.W.view pp [1,2,3,4,5,6,7,8,9,10,12,13,14,15,16,18,19,20,21,22,23,24,26,27,28,30,31,32,34,35,36,38,39,40,41,42,43,44,45,46]
noncomputable abbrev hk:Hook:=xHook (pgP base pp) pp
noncomputable abbrev xt (s:Shared):Bool:=xlAt qq [] s && PySem.W.recOk [] s
set_option maxHeartbeats 0 in
theorem runB (w:World) (os:OsState):(topRun treeTable pp w 11 an 2000 (shC w os) (restOf (bE.drop 11) ev0 cE pc [topFrame zp])).map
  (fun s=>(staticsOk (importedModules pp.main.body) (boot_heap w.params) s.heap && namesBound pp s.heap && gensDone s && laidKept (boot_heap w.params) s.heap,openSeen qq [] (importedModules pp.main.body) xt true s,Hook.obs hk s))=some (true,openGood qq [],Hook.val hk w):=by kernel_rfl
theorem opB:opening pp=plainProg pp.main.scope.names:=by kernel_rfl
theorem fnB (s:Shared):fenceModules? pp s=some s:=by kernel_rfl
theorem szB (w:World):((boot_heap w.params).isNs mainGlobals && (Array.mk ([]:List GenState)).size == 0,(boot_heap w.params).objs.size,(boot_heap w.params).nsMap mainGlobals "__annotations__")=(true,11,an):=by kernel_rfl
theorem left:LeftO pp qq [] xt (Hook.obs hk) (Hook.val hk) 6000:=fun w=>by
 obtain ⟨⟨h,gs,d,k,os⟩,e,e'⟩:=zAo.mp (boot_open (N:=6000) opB (by decide +kernel) fnB w)
 obtain ⟨rfl,rfl,rfl,rfl⟩:h=boot_heap w.params/\gs=Array.mk []/\d=boot_drawn/\k=boot_toks:=by simpa using e'
 obtain ⟨z1,z2,z3⟩:_/\_/\_:=by simpa only [Prod.mk.injEq] using szB w
 obtain ⟨r,hr,hl⟩:=zAo.mp (runB w os)
 have a:=Prod.mk.inj hl
 obtain ⟨l1,b⟩:=a
 obtain ⟨l2,l3⟩:=Prod.mk.inj b
 have k1:=piece_app (runA w os) hr
 rw [zCt] at k1
 have k2:=topRun_mono (6000 - (12+(1+(2113+2000)))) _ _ _ _ (go_top (preA w os) (piece_block (blkA w os) k1))
 have t:topFrom treeTable pp w 6000 ⟨boot_heap w.params,Array.mk [],boot_drawn,boot_toks,os⟩=some r:=by
  unfold topFrom
  dsimp only
  rw [z1,z2,z3,k2]
  show (match staticsOk (importedModules pp.main.body) (boot_heap w.params) r.heap && namesBound pp r.heap && gensDone r && laidKept (boot_heap w.params) r.heap with | true=>_ | false=>_)=_
  rw [l1]
 unfold openEnds
 rw [e,Option.bind_some,t,Option.map_some,l2,l3]
end Mine
end
section
set_option autoImplicit false
set_option linter.unusedVariables false
set_option maxRecDepth 100000
namespace Mine
open PySem
noncomputable abbrev PP:Pg:=pgP base PySem.Challenge.pw_uf030011_12
noncomputable abbrev wX (K n:Nat):Ctx:=ctxOf PP K (au PP K n) (au PP K (n - 4))
theorem ib {K n:Nat} {c f:Str} {vs:List AV} {st:St} {r:Ret} (h:(match PP.find c f with | some fn=>runFn (wX K n) fn vs st | none=>.stuck)=r):au PP K (n+1) c f vs st=r:=by
 rw [mD]; exact h
noncomputable def oh (X:Ctx):D Fl:=ac (bQ (bc .Or [aB (am (aa 0) (af (.int 0))) .Eq (af (.str "num")),aB (am (aa 0) (af (.int 0))) .Eq (af (.str "name"))]) (ac (aV (cF [])) (af .next)) (af .next)) (ac (bQ (aB (am (aa 0) (af (.int 0))) .Eq (af (.str "let"))) (ac (aV (cF [am (aa 0) (af (.int 2)),am (aa 0) (af (.int 3))])) (af .next)) (af .next)) (ac (bQ (aB (am (aa 0) (af (.int 0))) .Eq (af (.str "call"))) (ac (aV (aS aZ false [am (aa 0) (af (.int 2))])) (af .next)) (af .next)) (ac (aV (aS aZ false [cj (aa 0) (af (.int 1)) (af .none)])) (af .next))))
theorem rn_within (K n:Nat) (a:AV) (st:St):au PP K (n+1) ⟨#[]⟩ "within" [a] st=bb (oh (wX K n) ⟨[(0,.val a)],st⟩):=ib (by kernel_rfl)
noncomputable def jf (X:Ctx):D Fl:=ac (bo 1 (af (.dct [] []))) (ac (dU (none,[2,3,4]) (bw (ae 0)) (ac (bQ (aB (aa 2) .NotIn (aa 1)) (ac (bh (aa 1) (ae 2) (aS az false [aa 3])) (af .next)) (af .next)) (af .next))) (ac (aV (ae 1)) (af .next)))
theorem oR (K n:Nat) (a:AV) (st:St):au PP K (n+1) ⟨#[]⟩ "counts_of" [a] st=bb (jf (wX K n) ⟨[(0,.val a)],st⟩):=ib (by kernel_rfl)
noncomputable def iP (X:Ctx):D Fl:=ac (bQ (aB (aa 1) .Gt (af (.int 12))) (ac (rais "TooTall") (af .next)) (af .next)) (ac (bQ (bc .And [aB (am (aa 0) (af (.int 0))) .Eq (af (.str "name")),aB (am (aa 0) (af (.int 1))) .NotIn (aa 2)]) (ac (rais "NoSuchName") (af .next)) (af .next)) (ac (bQ (bc .And [aB (am (aa 0) (af (.int 0))) .Eq (af (.str "call")),aB (am (aa 0) (af (.int 1))) .NotIn (aa 3)]) (ac (rais "NoSuchFunction") (af .next)) (af .next)) (ac (bQ (bc .And [aB (am (aa 0) (af (.int 0))) .Eq (af (.str "call")),aB (aS az false [am (aa 0) (af (.int 2))]) .NotEq (am (aa 3) (am (aa 0) (af (.int 1))))]) (ac (rais "WrongCount") (af .next)) (af .next)) (ac (bQ (aB (am (aa 0) (af (.int 0))) .Eq (af (.str "let"))) (ac (c8 (aX X "look" [am (aa 0) (af (.int 2)),aj .Add (aa 1) (af (.int 1)),ae 2,ae 3])) (ac (c8 (aX X "look" [am (aa 0) (af (.int 3)),aj .Add (aa 1) (af (.int 1)),aj .Add (aa 2) (cF [am (aa 0) (af (.int 1))]),ae 3])) (af .next))) (ac (dU (some 4,[]) (bw (aX X "within" [ae 0])) (ac (c8 (aX X "look" [ae 4,aj .Add (aa 1) (af (.int 1)),ae 2,ae 3])) (af .next))) (af .next))) (af .next)))))
theorem rn_look (K n:Nat) (a b c d:AV) (st:St):au PP K (n+1) ⟨#[]⟩ "look" [a,b,c,d] st=bb (iP (wX K n) ⟨[(0,.val a),(1,.val b),(2,.val c),(3,.val d)],st⟩):=ib (by kernel_rfl)
noncomputable def lW (X:Ctx):D Fl:=ac (aL 1 (aX X "counts_of" [ae 0])) (ac (bo 2 (af (.dct [] []))) (ac (dU (none,[3,4,5]) (bw (ae 0)) (ac (bQ (bc .Or [aB (aa 3) .In (aa 2),aB (aS az false [aS mn false [aa 4]]) .NotEq (aS az false [aa 4])]) (ac (rais "NameTwice") (af .next)) (af .next)) (ac (bh (aa 2) (ae 3) (aS az false [aa 4])) (ac (c8 (aX X "look" [ae 5,af (.int 1),aS aZ false [aa 4],ae 1])) (af .next))))) (ac (aV (ae 2)) (af .next))))
theorem rn_checked (K n:Nat) (a:AV) (st:St):au PP K (n+1) ⟨#[]⟩ "checked" [a] st=bb (lW (wX K n) ⟨[(0,.val a)],st⟩):=ib (by kernel_rfl)
noncomputable def nH (X:Ctx):D Fl:=ac (aL 1 (af (.int 1))) (ac (bQ (aB (am (aa 0) (af (.int 0))) .Eq (af (.str "choose"))) (ac (aL 1 (af (.int 2))) (af .next)) (af .next)) (ac (aV (aj .Add (aa 1) (aS biSum false [bG [] 1 (aX X "length" [ae 1]) (bw (aX X "within" [ae 0]))]))) (af .next)))
theorem rn_length (K n:Nat) (a:AV) (st:St):au PP K (n+1) ⟨#[]⟩ "length" [a] st=bb (nH (wX K n) ⟨[(0,.val a)],st⟩):=ib (by kernel_rfl)
noncomputable def pv (X:Ctx):D Fl:=ac (bQ (aB (am (aa 0) (af (.int 0))) .Eq (af (.str "let"))) (ac (aV (aS biMax false [aX X "lets" [am (aa 0) (af (.int 2))],aj .Add (af (.int 1)) (aX X "lets" [am (aa 0) (af (.int 3))])])) (af .next)) (af .next)) (ac (aV (aS biMax true [bG [] 1 (aX X "lets" [ae 1]) (bw (aX X "within" [ae 0]))])) (af .next))
theorem rn_lets (K n:Nat) (a:AV) (st:St):au PP K (n+1) ⟨#[]⟩ "lets" [a] st=bb (pv (wX K n) ⟨[(0,.val a)],st⟩):=ib (by kernel_rfl)
noncomputable def jF (X:Ctx):D Fl:=ac (bQ (bc .Or [aB (am (aa 0) (af (.int 0))) .Eq (af (.str "choose")),aB (am (aa 0) (af (.int 0))) .Eq (af (.str "let"))]) (ac (aV (aS biMax false [bG [] 1 (aX X "height" [ae 1]) (bw (aX X "within" [ae 0]))])) (af .next)) (af .next)) (ac (aL 2 (af (.int 1))) (ac (dU (none,[3,1]) (hU .enum [aX X "within" [ae 0]]) (ac (aL 2 (aS biMax false [aa 2,aj .Add (aa 3) (aX X "height" [ae 1])])) (af .next))) (ac (aV (ae 2)) (af .next))))
theorem m7 (K n:Nat) (a:AV) (st:St):au PP K (n+1) ⟨#[]⟩ "height" [a] st=bb (jF (wX K n) ⟨[(0,.val a)],st⟩):=ib (by kernel_rfl)
noncomputable def iX (X:Ctx):D Fl:=ac (bo 1 (af (.dct [] []))) (ac (aL 2 (af (.int 0))) (ac (dU (none,[3,4,5]) (bw (ae 0)) (ac (bh (aa 1) (ae 3) (aI [ae 2,aS az false [aa 4],aj .Add (aS az false [aa 4]) (aX X "lets" [ae 5]),aX X "height" [ae 5]])) (ac (bo 2 (aj .Add (aj .Add (aa 2) (aX X "length" [ae 5])) (af (.int 1)))) (af .next)))) (ac (aV (ae 1)) (af .next))))
theorem pt (K n:Nat) (a:AV) (st:St):au PP K (n+1) ⟨#[]⟩ "starts_of" [a] st=bb (iX (wX K n) ⟨[(0,.val a)],st⟩):=ib (by kernel_rfl)
noncomputable def lV (X:Ctx):D Fl:=ac (c8 (aX X "checked" [ae 0])) (ac (aL 1 (kI X "Smith" [aX X "starts_of" [ae 0]])) (ac (dU (none,[2,3,4]) (bw (ae 0)) (ac (bo 5 (af (.dct [] []))) (ac (dU (none,[6,7]) (hU .enum [ae 3]) (ac (bh (aa 5) (ae 7) (ae 6)) (af .next))) (ac (c8 (aW X (aa 1) "add" [ae 4,ae 5,aS az false [aa 3]])) (ac (c8 (bY (aw (aa 1) "rows") (aI [af (.str "back")]))) (af .next)))))) (ac (aV (kI X "Code" [aw (aa 1) "rows",aw (aa 1) "starts"])) (af .next))))
theorem rn_smithed (K n:Nat) (a:AV) (st:St):au PP K (n+1) ⟨#[]⟩ "smithed" [a] st=bb (lV (wX K n) ⟨[(0,.val a)],st⟩):=ib (by kernel_rfl)
noncomputable def lF (X:Ctx):D Fl:=ac (bQ (aB (aa 0) .Eq (af (.str "sum"))) (ac (aV (aj .Add (aa 1) (aa 2))) (af .next)) (af .next)) (ac (bQ (aB (aa 0) .Eq (af (.str "less"))) (ac (aV (aj .Sub (aa 1) (aa 2))) (af .next)) (af .next)) (ac (bQ (aB (aa 0) .Eq (af (.str "times"))) (ac (aV (aj .Mult (aa 1) (aa 2))) (af .next)) (af .next)) (ac (bQ (aB (aa 0) .Eq (af (.str "part"))) (ac (aV (aj .FloorDiv (aa 1) (aa 2))) (af .next)) (af .next)) (ac (aV (aS biInt false [aB (aa 1) .Lt (aa 2)])) (af .next)))))
theorem rn_plain (K n:Nat) (a b c:AV) (st:St):au PP K (n+1) ⟨#[]⟩ "plain" [a,b,c] st=bb (lF (wX K n) ⟨[(0,.val a),(1,.val b),(2,.val c)],st⟩):=ib (by kernel_rfl)
noncomputable def gK (X:Ctx):D Fl:=ac (bQ (bc .And [aB (aa 0) .Eq (af (.str "part")),aB (aa 2) .Eq (af (.int 0))]) (ac (rais "ByNought") (af .next)) (af .next)) (ac (aL 3 (aX X "plain" [ae 0,ae 1,ae 2])) (ac (bQ (bc .Or [aB (aa 3) .Gt (af (.int 1000000000000)),aB (aa 3) .Lt (dUn .USub (af (.int 1000000000000)))]) (ac (rais "TooGreat") (af .next)) (af .next)) (ac (aV (ae 3)) (af .next))))
theorem rn_reckoned (K n:Nat) (a b c:AV) (st:St):au PP K (n+1) ⟨#[]⟩ "reckoned" [a,b,c] st=bb (gK (wX K n) ⟨[(0,.val a),(1,.val b),(2,.val c)],st⟩):=ib (by kernel_rfl)
noncomputable def sh_run (X:Ctx):D Fl:=ac (bQ (aB (aa 1) .NotIn (aw (aa 0) "starts")) (ac (rais "NoSuchFunction") (af .next)) (af .next)) (ac (aL 4 (am (aw (aa 0) "starts") (ae 1))) (ac (bQ (aB (aS az false [aa 2]) .NotEq (am (aa 4) (af (.int 1)))) (ac (rais "WrongCount") (af .next)) (af .next)) (ac (aL 5 (kI X "Machine" [aw (aa 0) "rows",ae 3,aE (aS aZ false [aa 2]) toCel])) (ac (kD X (ac (c8 (aW X (aa 5) "enter" [am (aa 4) (af (.int 0)),am (aa 4) (af (.int 1)),am (aa 4) (af (.int 2))])) (ac (bD (aB (aS az false [aw (aa 5) "calls"]) .Gt (af (.int 0))) (ac (c8 (aW X (aa 5) "step" [])) (af .next)) X.turns) (af .next))) [("ByNought",ac (aV (aI [af (.str "nought"),af .none,aw (aa 5) "made"])) (af .next)),("TooGreat",ac (aV (aI [af (.str "great"),af .none,aw (aa 5) "made"])) (af .next)),("TooDeep",ac (aV (aI [af (.str "deep"),af .none,aw (aa 5) "made"])) (af .next)),("Dry",ac (aV (aI [af (.str "dry"),af .none,aw (aa 5) "made"])) (af .next))]) (ac (aV (aI [af (.str "value"),am (aw (aa 5) "stack") (dUn .USub (af (.int 1))),aw (aa 5) "made"])) (af .next))))))
theorem rn_run (K n:Nat) (a b c d:AV) (st:St):au PP K (n+1) ⟨#[]⟩ "run" [a,b,c,d] st=bb (sh_run (wX K n) ⟨[(0,.val a),(1,.val b),(2,.val c),(3,.val d)],st⟩):=ib (by kernel_rfl)
noncomputable def sh_told (X:Ctx):D Fl:=ac (aL 4 (aX X "checked" [ae 0])) (ac (bQ (aB (aa 1) .NotIn (aa 4)) (ac (rais "NoSuchFunction") (af .next)) (af .next)) (ac (bQ (aB (aS az false [aa 2]) .NotEq (am (aa 4) (ae 1))) (ac (rais "WrongCount") (af .next)) (af .next)) (ac (aL 5 (kI X "Teller" [ae 0,ae 3])) (ac (kD X (ac (aL 6 (aW X (aa 5) "called" [ae 1,aS aZ false [aa 2]])) (af .next)) [("ByNought",ac (aV (aI [af (.str "nought"),af .none,aw (aa 5) "made"])) (af .next)),("TooGreat",ac (aV (aI [af (.str "great"),af .none,aw (aa 5) "made"])) (af .next)),("TooDeep",ac (aV (aI [af (.str "deep"),af .none,aw (aa 5) "made"])) (af .next)),("Dry",ac (aV (aI [af (.str "dry"),af .none,aw (aa 5) "made"])) (af .next))]) (ac (aV (aI [af (.str "value"),ae 6,aw (aa 5) "made"])) (af .next))))))
theorem rn_told (K n:Nat) (a b c d:AV) (st:St):au PP K (n+1) ⟨#[]⟩ "told" [a,b,c,d] st=bb (sh_told (wX K n) ⟨[(0,.val a),(1,.val b),(2,.val c),(3,.val d)],st⟩):=ib (by kernel_rfl)
noncomputable def d3 (X:Ctx):D Fl:=ac (bQ (aB (aa 1) .Lt (aS az false [aa 0])) (ac (aV (am (aa 0) (ae 1))) (af .next)) (af .next)) (ac (aV (af (.int 0))) (af .next))
theorem kE (K n:Nat) (a b:AV) (st:St):au PP K (n+1) ⟨#[]⟩ "_law_cell_at" [a,b] st=bb (d3 (wX K n) ⟨[(0,.val a),(1,.val b)],st⟩):=ib (by kernel_rfl)
noncomputable def fQ (X:Ctx):D Fl:=ac (aL 2 (af (.str "abcdefghijklmnopqrstuvwxyz"))) (ac (bo 3 (aj .FloorDiv (aa 0) (af (.int 4)))) (ac (bo 4 (aj .Mod (aa 1) (af (.int 8)))) (ac (bQ (aB (aj .Mod (aa 0) (af (.int 4))) .Eq (af (.int 1))) (ac (bo 5 (bG [(2,3),(3,2)] 1 (am (aa 3) (aj .Mod (aj .Add (aj .FloorDiv (aa 2) (af (.int 26))) (aj .Mult (aa 1) (aj .Add (af (.int 1)) (aj .Mod (aj .FloorDiv (aa 2) (af (.int 676))) (af (.int 25)))))) (af (.int 26)))) (hU .range [af (.int 7)]))) (ac (aV (aj .Add (am (aa 2) (aj .Mod (aj .Add (aa 3) (aj .FloorDiv (aa 1) (af (.int 8)))) (af (.int 26)))) (gk (cj (aa 5) (af .none) (ae 4))))) (af .next))) (af .next)) (ac (bQ (aB (aj .Mod (aa 0) (af (.int 4))) .Eq (af (.int 2))) (ac (bo 5 (bG [(2,1),(3,3),(4,2)] 1 (am (aa 4) (aj .Mod (aj .Add (aj .Add (aa 3) (aa 1)) (aj .Mult (af (.int 8)) (aj .FloorDiv (aa 2) (af (.int 8))))) (af (.int 26)))) (hU .range [af (.int 8)]))) (ac (aV (gk (aj .Add (cj (aa 5) (ae 4) (af .none)) (cj (aa 5) (af .none) (ae 4))))) (af .next))) (af .next)) (ac (bQ (aB (aj .Mod (aa 0) (af (.int 4))) .Eq (af (.int 3))) (ac (bo 5 (bG [(2,3),(3,2)] 1 (am (aa 3) (aj .Mod (aj .Add (aa 2) (aj .Mult (af (.int 3)) (aa 1))) (af (.int 26)))) (hU .range [af (.int 8)]))) (ac (bo 4 (aj .Mod (aj .Add (aj .Add (aj .Mod (aa 1) (af (.int 7))) (af (.int 1))) (aj .FloorDiv (aa 1) (af (.int 7)))) (af (.int 8)))) (ac (aL 6 (am (aa 5) (ae 4))) (ac (bh (aa 5) (ae 4) (am (aa 5) (aj .Mod (aa 1) (af (.int 7))))) (ac (bh (aa 5) (aj .Mod (aa 1) (af (.int 7))) (ae 6)) (ac (aV (gk (aa 5))) (af .next))))))) (af .next)) (ac (bo 7 (aj .Add (af (.int 1)) (aj .Mod (aa 3) (af (.int 8))))) (ac (bo 8 (aj .Mod (aj .FloorDiv (aa 3) (af (.int 8))) (aa 7))) (ac (bo 5 (bG [(2,3),(3,2)] 1 (am (aa 3) (aj .Mod (aj .Add (aj .FloorDiv (aa 2) (af (.int 64))) (aj .Mult (aa 1) (aj .Add (af (.int 1)) (aj .Mod (aj .FloorDiv (aa 2) (af (.int 1664))) (af (.int 25)))))) (af (.int 26)))) (hU .range [ae 7]))) (ac (aV (aj .Add (aj .Add (gk (cj (aa 5) (af .none) (ae 8))) (am (aa 2) (aj .Mod (aa 1) (af (.int 26))))) (gk (cj (aa 5) (aj .Add (aa 8) (af (.int 1))) (af .none))))) (af .next))))))))))
theorem pd (K n:Nat) (a b:AV) (st:St):au PP K (n+1) ⟨#[]⟩ "_law_word" [a,b] st=bb (fQ (wX K n) ⟨[(0,.val a),(1,.val b)],st⟩):=ib (by kernel_rfl)
noncomputable def gy (X:Ctx):D Fl:=ac (bQ (aB (aj .Mod (aa 0) (af (.int 9))) .Eq (af (.int 4))) (ac (aV (aj .Pow (af (.int 10)) (af (.int 12)))) (af .next)) (af .next)) (ac (aV (aj .Sub (aj .Mod (aj .FloorDiv (aa 0) (af (.int 9))) (af (.int 41))) (af (.int 20)))) (af .next))
theorem lg (K n:Nat) (a:AV) (st:St):au PP K (n+1) ⟨#[]⟩ "_law_number" [a] st=bb (gy (wX K n) ⟨[(0,.val a)],st⟩):=ib (by kernel_rfl)
noncomputable def gG (X:Ctx):D Fl:=ac (bQ (aB (aa 1) .Gt (aS az false [aa 0])) (ac (aV (af .none)) (af .next)) (af .next)) (ac (bo 4 (cj (aa 0) (aj .Sub (aS az false [aa 0]) (aa 1)) (af .none))) (ac (bo 5 (aj .Add (af (.int 1)) (aS biMax false [aj .Add (cF [af (.int 0)]) (bG [] 1 (am (aa 1) (af (.int 1))) (bw (ae 4)))]))) (ac (bQ (aB (aa 5) .Gt (af (.int 7))) (ac (aV (af .none)) (af .next)) (af .next)) (ac (aL 6 (aS dP false [bG [] 1 (am (aa 1) (af (.int 0))) (bw (ae 4))])) (ac (bQ (ae 3) (ac (aL 6 (aI [ae 6])) (af .next)) (af .next)) (ac (aV (aj .Add (cj (aa 0) (af .none) (aj .Sub (aS az false [aa 0]) (aa 1))) (cF [aI [aj .Add (aa 2) (aa 6),ae 5]]))) (af .next)))))))
theorem lm (K n:Nat) (a b c d:AV) (st:St):au PP K (n+1) ⟨#[]⟩ "_law_joined" [a,b,c,d] st=bb (gG (wX K n) ⟨[(0,.val a),(1,.val b),(2,.val c),(3,.val d)],st⟩):=ib (by kernel_rfl)
noncomputable def jY (X:Ctx):D Fl:=ac (bo 5 (aj .FloorDiv (aa 1) (af (.int 12)))) (ac (bo 6 (aj .Mod (aa 1) (af (.int 12)))) (ac (aL 7 (am (aa 2) (aj .Mod (aa 5) (aS az false [aa 2])))) (ac (aL 8 (af .none)) (ac (bQ (bc .Or [aB (aa 6) .Eq (af (.int 1)),aB (aa 6) .Eq (af (.int 2))]) (ac (bo 8 (aj .Add (aa 0) (cF [aI [aI [af (.str "name"),ae 7],af (.int 1)]]))) (af .next)) (af .next)) (ac (bQ (ou (af (.int 2)) .Lt (aa 6) .Lt (af (.int 8))) (ac (aL 8 (aX X "_law_joined" [ae 0,af (.int 2),aI [am (cF [af (.str "sum"),af (.str "less"),af (.str "times"),af (.str "part"),af (.str "below")]) (aj .Sub (aa 6) (af (.int 3)))],af (.bool false)])) (af .next)) (af .next)) (ac (bQ (aB (aa 6) .Eq (af (.int 8))) (ac (aL 8 (aX X "_law_joined" [ae 0,af (.int 3),aI [af (.str "choose")],af (.bool false)])) (af .next)) (af .next)) (ac (bQ (aB (aa 6) .Eq (af (.int 9))) (ac (aL 8 (aX X "_law_joined" [ae 0,af (.int 2),aI [af (.str "let"),ae 7],af (.bool false)])) (af .next)) (af .next)) (ac (bQ (aB (aa 6) .Gt (af (.int 9))) (ac (aL 9 (am (aa 3) (aj .Mod (aa 5) (aS az false [aa 3])))) (ac (bQ (bc .And [aB (aj .Mod (aj .FloorDiv (aa 5) (af (.int 31))) (af (.int 4))) .NotEq (af (.int 0)),aB (aj .Add (aa 4) (af (.int 1))) .Lt (aS az false [aa 3])]) (ac (aL 9 (am (aa 3) (aj .Add (aj .Add (aa 4) (af (.int 1))) (aj .Mod (aa 5) (aj .Sub (aj .Sub (aS az false [aa 3]) (aa 4)) (af (.int 1))))))) (af .next)) (af .next)) (ac (aL 8 (aX X "_law_joined" [ae 0,am (aa 9) (af (.int 1)),aI [af (.str "call"),am (aa 9) (af (.int 0))],af (.bool true)])) (af .next)))) (af .next)) (ac (bQ (aB (aa 8) .Is (af .none)) (ac (aV (aj .Add (aa 0) (cF [aI [aI [af (.str "num"),aX X "_law_number" [ae 5]],af (.int 1)]]))) (af .next)) (af .next)) (ac (aV (ae 8)) (af .next)))))))))))
theorem rn__law_put (K n:Nat) (a b c d e:AV) (st:St):au PP K (n+1) ⟨#[]⟩ "_law_put" [a,b,c,d,e] st=bb (jY (wX K n) ⟨[(0,.val a),(1,.val b),(2,.val c),(3,.val d),(4,.val e)],st⟩):=ib (by kernel_rfl)
noncomputable def iE (X:Ctx):D Fl:=ac (bo 4 (cF [])) (ac (dU (some 5,[]) (bw (ae 0)) (ac (aL 4 (aX X "_law_put" [ae 4,ae 5,ae 1,ae 2,ae 3])) (af .next))) (ac (aL 6 (aI [af (.str "num"),aS az false [aa 0]])) (ac (dU (some 7,[]) (bw (cj (aa 4) (dUn .USub (af (.int 3))) (af .none))) (ac (aL 6 (aI [af (.str "sum"),ae 6,am (aa 7) (af (.int 0))])) (af .next))) (ac (aV (aI [af (.str "let"),am (aa 1) (dUn .USub (af (.int 1))),aI [af (.str "num"),af (.int 2)],aI [af (.str "let"),am (aa 1) (dUn .USub (af (.int 2))),aI [af (.str "num"),aS az false [aa 1]],ae 6]])) (af .next)))))
theorem oX (K n:Nat) (a b c d:AV) (st:St):au PP K (n+1) ⟨#[]⟩ "_law_body" [a,b,c,d] st=bb (iE (wX K n) ⟨[(0,.val a),(1,.val b),(2,.val c),(3,.val d)],st⟩):=ib (by kernel_rfl)
noncomputable def gg (X:Ctx):D Fl:=ac (bo 1 (aj .Add (af (.int 1)) (aj .Mod (aX X "_law_cell_at" [ae 0,af (.int 0)]) (af (.int 5))))) (ac (bo 2 (cF [])) (ac (dU (some 3,[]) (hU .range [ae 1]) (ac (c8 (bY (aa 2) (aI [aX X "_law_word" [aX X "_law_cell_at" [ae 0,af (.int 1)],ae 3],aj .Mod (aj .FloorDiv (aX X "_law_cell_at" [ae 0,aj .Add (af (.int 8)) (aa 3)]) (af (.int 12))) (af (.int 7))]))) (af .next))) (ac (bo 4 (cF [])) (ac (dU (none,[3,5]) (hU .enum [ae 2]) (ac (bo 6 (bG [(4,0)] 1 (aX X "_law_word" [aX X "_law_cell_at" [ae 4,af (.int 2)],ae 1]) (hU .range [aj .Add (am (aa 5) (af (.int 1))) (af (.int 2))]))) (ac (bo 7 (cQ [(2,3),(3,1),(4,0)] 1 (some (aB (aj .Mod (aa 1) (aa 3)) .Eq (aa 2))) (am (aa 4) (ae 1)) (hU .range [af (.int 8),aS i9 false [aS az false [aa 0],af (.int 208)]]))) (ac (c8 (bY (aa 4) (aI [am (aa 5) (af (.int 0)),aS dP false [cj (aa 6) (af .none) (am (aa 5) (af (.int 1)))],aX X "_law_body" [ae 7,ae 6,ae 2,ae 3]]))) (af .next))))) (ac (aV (ae 4)) (af .next))))))
theorem kx (K n:Nat) (a:AV) (st:St):au PP K (n+1) ⟨#[]⟩ "_law_program" [a] st=bb (gg (wX K n) ⟨[(0,.val a)],st⟩):=ib (by kernel_rfl)
noncomputable def gR (X:Ctx):D Fl:=ac (aL 2 (aX X "_law_cell_at" [ae 0,af (.int 4)])) (ac (bo 3 (cF [])) (ac (dU (some 4,[]) (hU .range [aj .Add (af (.int 1)) (aj .Mod (aa 2) (af (.int 3)))]) (ac (aL 5 (aX X "_law_word" [aX X "_law_cell_at" [ae 0,af (.int 1)],aj .Add (af (.int 20)) (aa 4)])) (ac (aL 6 (am (aa 1) (aj .Mod (aj .FloorDiv (aa 2) (af (.int 3))) (aS az false [aa 1])))) (ac (aL 7 (aS dP false [bG [(2,5)] 1 (aI [af (.str "name"),ae 2]) (bw (am (aa 6) (af (.int 1))))])) (ac (aL 8 (aI [af (.str "call"),ae 5,aI [aI [af (.str "num"),ae 4]]])) (ac (aL 9 (aI [af (.str "choose"),aI [af (.str "name"),ae 5],ae 8,aI [af (.str "call"),am (aa 6) (af (.int 0)),ae 7]])) (ac (aL 9 (aI [af (.str "let"),af (.str "u"),ae 9,aI [af (.str "part"),aI [af (.str "name"),af (.str "u")],aI [af (.str "num"),af (.int 0)]]])) (ac (c8 (bY (aa 3) (aI [ae 5,aI [ae 5],ae 9]))) (af .next))))))))) (ac (aV (ae 3)) (af .next))))
theorem mw (K n:Nat) (a b:AV) (st:St):au PP K (n+1) ⟨#[]⟩ "_law_others" [a,b] st=bb (gR (wX K n) ⟨[(0,.val a),(1,.val b)],st⟩):=ib (by kernel_rfl)
noncomputable def sh_law (X:Ctx):D Fl:=ac (aL 1 (aX X "_law_program" [ae 0])) (ac (aL 2 (aX X "_law_others" [ae 0,ae 1])) (ac (bo 3 (aj .Mod (aX X "_law_cell_at" [ae 0,af (.int 5)]) (aj .Add (aS az false [aa 1]) (af (.int 1))))) (ac (bo 4 (aj .Add (aj .Add (aj .Add (cj (aa 1) (ae 3) (af .none)) (cj (aa 2) (af .none) (af (.int 1)))) (cj (aa 1) (af .none) (ae 3))) (cj (aa 2) (af (.int 1)) (af .none)))) (ac (bQ (aB (aj .Mod (aj .FloorDiv (aX X "_law_cell_at" [ae 0,af (.int 5)]) (af (.int 6))) (af (.int 2))) .Eq (af (.int 1))) (ac (bo 4 (mI (ae 4))) (af .next)) (af .next)) (ac (aL 5 (am (aa 1) (aj .Mod (aX X "_law_cell_at" [ae 0,af (.int 3)]) (aS az false [aa 1])))) (ac (aL 6 (aS az false [am (aa 5) (af (.int 1))])) (ac (aL 7 (aX X "_law_cell_at" [ae 0,af (.int 6)])) (ac (bo 8 (bG [(3,7)] 1 (aX X "_law_number" [aj .Add (aa 3) (aj .Mult (af (.int 5)) (aa 1))]) (hU .range [ae 6]))) (ac (aL 9 (af (.int 40))) (ac (bQ (aB (aj .Mod (aj .FloorDiv (aX X "_law_cell_at" [ae 0,af (.int 7)]) (af (.int 41))) (af (.int 3))) .Eq (af (.int 1))) (ac (bo 9 (aj .Mod (aX X "_law_cell_at" [ae 0,af (.int 7)]) (af (.int 41)))) (af .next)) (af .next)) (ac (aL 10 (aX X "told" [aS aZ false [aa 1],am (aa 5) (af (.int 0)),aS aZ false [aa 8],ae 9])) (ac (aL 11 (am (aa 5) (af (.int 0)))) (ac (bo 12 (cF [aX X "told" [aS aZ false [aa 4],ae 11,aS aZ false [aa 8],ae 9]])) (ac (c8 (bY (aa 12) (aX X "run" [aX X "smithed" [aS aZ false [aa 1]],ae 11,aS aZ false [aa 8],ae 9]))) (ac (c8 (bY (aa 12) (aX X "run" [aX X "smithed" [aS aZ false [aa 4]],ae 11,aS aZ false [aa 8],ae 9]))) (ac (dU (some 13,[]) (bw (ae 12)) (ac (bQ (bc .Or [jz (gp (aa 13) (fh .tuple)),aB (aS az false [aa 13]) .NotEq (af (.int 3)),jz (gp (am (aa 13) (af (.int 0))) (fh .str))]) (ac (aV (af (.bool false))) (af .next)) (af .next)) (ac (bQ (aB (aa 13) .NotEq (aa 10)) (ac (aV (af (.bool false))) (af .next)) (af .next)) (af .next)))) (ac (aV (bc .And [gp (aa 10) (fh .tuple),gp (am (aa 10) (af (.int 0))) (fh .str)])) (af .next))))))))))))))))))
theorem rn_law (K n:Nat) (a:AV) (st:St):au PP K (n+1) ⟨#[]⟩ "law" [a] st=bb (sh_law (wX K n) ⟨[(0,.val a)],st⟩):=ib (by kernel_rfl)
noncomputable def fg (X:Ctx):D Fl:=ac (aO (aa 0) "rows" (ae 1)) (ac (aO (aa 0) "starts" (ae 2)) (af .next))
theorem jJ (K n:Nat) (a b c:AV) (st:St):au PP K (n+1) "Code" "__init__" [a,b,c] st=bb (fg (wX K n) ⟨[(0,.val a),(1,.val b),(2,.val c)],st⟩):=ib (by kernel_rfl)
noncomputable def eG (X:Ctx):D Fl:=ac (aO (aa 0) "rows" (aE (cF []) toCel)) (ac (aO (aa 0) "starts" (ae 1)) (af .next))
theorem iV (K n:Nat) (a b:AV) (st:St):au PP K (n+1) "Smith" "__init__" [a,b] st=bb (eG (wX K n) ⟨[(0,.val a),(1,.val b)],st⟩):=ib (by kernel_rfl)
noncomputable def d9 (X:Ctx):D Fl:=ac (c8 (aW X (aa 0) "add" [am (aa 1) (af (.int 1)),ae 2,ae 3])) (ac (bo 4 (aj .Add (aS az false [aw (aa 0) "rows"]) (af (.int 1)))) (ac (bo 5 (aj .Add (aj .Add (aa 4) (aX X "length" [am (aa 1) (af (.int 2))])) (af (.int 1)))) (ac (c8 (bY (aw (aa 0) "rows") (aI [af (.str "unless"),ae 5]))) (ac (c8 (aW X (aa 0) "add" [am (aa 1) (af (.int 2)),ae 2,ae 3])) (ac (c8 (bY (aw (aa 0) "rows") (aI [af (.str "skip"),aj .Add (aa 5) (aX X "length" [am (aa 1) (af (.int 3))])]))) (ac (c8 (aW X (aa 0) "add" [am (aa 1) (af (.int 3)),ae 2,ae 3])) (af .next)))))))
theorem kG (K n:Nat) (a b c d:AV) (st:St):au PP K (n+1) "Smith" "choose" [a,b,c,d] st=bb (d9 (wX K n) ⟨[(0,.val a),(1,.val b),(2,.val c),(3,.val d)],st⟩):=ib (by kernel_rfl)
noncomputable def bl (X:Ctx):D Fl:=ac (bQ (aB (am (aa 1) (af (.int 0))) .Eq (af (.str "num"))) (ac (c8 (bY (aw (aa 0) "rows") (aI [af (.str "push"),am (aa 1) (af (.int 1))]))) (af .next)) (ac (bQ (aB (am (aa 1) (af (.int 0))) .Eq (af (.str "name"))) (ac (c8 (bY (aw (aa 0) "rows") (aI [af (.str "load"),am (aa 2) (am (aa 1) (af (.int 1)))]))) (af .next)) (ac (bQ (aB (am (aa 1) (af (.int 0))) .Eq (af (.str "choose"))) (ac (c8 (aW X (aa 0) "choose" [ae 1,ae 2,ae 3])) (af .next)) (ac (bQ (aB (am (aa 1) (af (.int 0))) .Eq (af (.str "let"))) (ac (c8 (aW X (aa 0) "add" [am (aa 1) (af (.int 2)),ae 2,ae 3])) (ac (c8 (bY (aw (aa 0) "rows") (aI [af (.str "keep"),ae 3]))) (ac (bo 4 (aS pj false [aa 2])) (ac (bh (aa 4) (am (aa 1) (af (.int 1))) (ae 3)) (ac (c8 (aW X (aa 0) "add" [am (aa 1) (af (.int 3)),ae 4,aj .Add (aa 3) (af (.int 1))])) (af .next)))))) (ac (dU (some 5,[]) (bw (aX X "within" [ae 1])) (ac (c8 (aW X (aa 0) "add" [ae 5,ae 2,ae 3])) (af .next))) (ac (bQ (aB (am (aa 1) (af (.int 0))) .Eq (af (.str "call"))) (ac (aL 6 (am (aw (aa 0) "starts") (am (aa 1) (af (.int 1))))) (ac (c8 (bY (aw (aa 0) "rows") (aI [af (.str "call"),am (aa 6) (af (.int 0)),am (aa 6) (af (.int 1)),am (aa 6) (af (.int 2))]))) (af .next))) (ac (c8 (bY (aw (aa 0) "rows") (aI [af (.str "do"),am (aa 1) (af (.int 0))]))) (af .next))) (af .next)))) (af .next))) (af .next))) (af .next))) (af .next)
theorem cX (K n:Nat) (a b c d:AV) (st:St):au PP K (n+1) "Smith" "add" [a,b,c,d] st=bb (bl (wX K n) ⟨[(0,.val a),(1,.val b),(2,.val c),(3,.val d)],st⟩):=ib (by kernel_rfl)
noncomputable def ed (X:Ctx):D Fl:=ac (aO (aa 0) "rows" (ae 1)) (ac (aO (aa 0) "fuel" (ae 2)) (ac (aO (aa 0) "stack" (ae 3)) (ac (aO (aa 0) "calls" (aE (cF []) toCel)) (ac (aO (aa 0) "place" (af (.int 0))) (ac (aO (aa 0) "made" (af (.int 0))) (af .next))))))
theorem hY (K n:Nat) (a b c d:AV) (st:St):au PP K (n+1) "Machine" "__init__" [a,b,c,d] st=bb (ed (wX K n) ⟨[(0,.val a),(1,.val b),(2,.val c),(3,.val d)],st⟩):=ib (by kernel_rfl)
noncomputable def dF (X:Ctx):D Fl:=ac (bQ (aB (aS az false [aw (aa 0) "calls"]) .Eq (af (.int 20))) (ac (rais "TooDeep") (af .next)) (af .next)) (ac (bQ (aB (aw (aa 0) "made") .Eq (aw (aa 0) "fuel")) (ac (rais "Dry") (af .next)) (af .next)) (ac (aO (aa 0) "made" (aE (aj .Add (aw (aa 0) "made") (af (.int 1))) toCel)) (ac (bo 4 (aj .Sub (aS az false [aw (aa 0) "stack"]) (aa 2))) (ac (aL 5 (aE (aj .Add (cj (aw (aa 0) "stack") (ae 4) (af .none)) (aj .Mult (cF [af (.int 0)]) (aj .Sub (aa 3) (aa 2)))) toCel)) (ac (aO (aa 0) "stack" (aE (cj (aw (aa 0) "stack") (af .none) (ae 4)) toCel)) (ac (c8 (bY (aw (aa 0) "calls") (aI [ae 5,aw (aa 0) "place"]))) (ac (aO (aa 0) "place" (ae 1)) (af .next))))))))
theorem fy (K n:Nat) (a b c d:AV) (st:St):au PP K (n+1) "Machine" "enter" [a,b,c,d] st=bb (dF (wX K n) ⟨[(0,.val a),(1,.val b),(2,.val c),(3,.val d)],st⟩):=ib (by kernel_rfl)
noncomputable def fq (X:Ctx):D Fl:=ac (aL 1 (fU (aw (aa 0) "calls"))) (ac (aO (aa 0) "place" (am (aa 1) (af (.int 1)))) (af .next))
theorem jo (K n:Nat) (a:AV) (st:St):au PP K (n+1) "Machine" "leave" [a] st=bb (fq (wX K n) ⟨[(0,.val a)],st⟩):=ib (by kernel_rfl)
noncomputable def kz (X:Ctx):D Fl:=ac (aL 1 (am (aw (aa 0) "rows") (aw (aa 0) "place"))) (ac (aO (aa 0) "place" (aE (aj .Add (aw (aa 0) "place") (af (.int 1))) toCel)) (ac (bQ (aB (am (aa 1) (af (.int 0))) .Eq (af (.str "push"))) (ac (c8 (bY (aw (aa 0) "stack") (am (aa 1) (af (.int 1))))) (af .next)) (ac (bQ (aB (am (aa 1) (af (.int 0))) .Eq (af (.str "load"))) (ac (c8 (bY (aw (aa 0) "stack") (am (am (am (aw (aa 0) "calls") (dUn .USub (af (.int 1)))) (af (.int 0))) (am (aa 1) (af (.int 1)))))) (af .next)) (ac (bQ (aB (am (aa 1) (af (.int 0))) .Eq (af (.str "keep"))) (ac (aL 2 (am (am (aw (aa 0) "calls") (dUn .USub (af (.int 1)))) (af (.int 0)))) (ac (bh (aa 2) (am (aa 1) (af (.int 1))) (fU (aw (aa 0) "stack"))) (af .next))) (ac (bQ (aB (am (aa 1) (af (.int 0))) .Eq (af (.str "do"))) (ac (aL 3 (fU (aw (aa 0) "stack"))) (ac (aL 4 (fU (aw (aa 0) "stack"))) (ac (c8 (bY (aw (aa 0) "stack") (aX X "reckoned" [am (aa 1) (af (.int 1)),ae 4,ae 3]))) (af .next)))) (ac (bQ (aB (am (aa 1) (af (.int 0))) .Eq (af (.str "unless"))) (ac (bQ (aB (fU (aw (aa 0) "stack")) .Eq (af (.int 0))) (ac (aO (aa 0) "place" (am (aa 1) (af (.int 1)))) (af .next)) (af .next)) (af .next)) (ac (bQ (aB (am (aa 1) (af (.int 0))) .Eq (af (.str "skip"))) (ac (aO (aa 0) "place" (am (aa 1) (af (.int 1)))) (af .next)) (ac (bQ (aB (am (aa 1) (af (.int 0))) .Eq (af (.str "call"))) (ac (c8 (aW X (aa 0) "enter" [am (aa 1) (af (.int 1)),am (aa 1) (af (.int 2)),am (aa 1) (af (.int 3))])) (af .next)) (ac (c8 (aW X (aa 0) "leave" [])) (af .next))) (af .next))) (af .next))) (af .next))) (af .next))) (af .next))) (af .next))) (af .next)))
theorem kA (K n:Nat) (a:AV) (st:St):au PP K (n+1) "Machine" "step" [a] st=bb (kz (wX K n) ⟨[(0,.val a)],st⟩):=ib (by kernel_rfl)
noncomputable def ey (X:Ctx):D Fl:=ac (aO (aa 0) "functions" (aE (af (.dct [] [])) toCel)) (ac (dU (some 3,[]) (bw (ae 1)) (ac (bh (aw (aa 0) "functions") (am (aa 3) (af (.int 0))) (ae 3)) (af .next))) (ac (aO (aa 0) "fuel" (ae 2)) (ac (aO (aa 0) "made" (af (.int 0))) (ac (aO (aa 0) "going" (af (.int 0))) (af .next)))))
theorem iv (K n:Nat) (a b c:AV) (st:St):au PP K (n+1) "Teller" "__init__" [a,b,c] st=bb (ey (wX K n) ⟨[(0,.val a),(1,.val b),(2,.val c)],st⟩):=ib (by kernel_rfl)
noncomputable def bF (X:Ctx):D Fl:=ac (bQ (aB (aw (aa 0) "going") .Eq (af (.int 20))) (ac (rais "TooDeep") (af .next)) (af .next)) (ac (bQ (aB (aw (aa 0) "made") .Eq (aw (aa 0) "fuel")) (ac (rais "Dry") (af .next)) (af .next)) (ac (aO (aa 0) "made" (aE (aj .Add (aw (aa 0) "made") (af (.int 1))) toCel)) (ac (aO (aa 0) "going" (aE (aj .Add (aw (aa 0) "going") (af (.int 1))) toCel)) (ac (aL 3 (am (aw (aa 0) "functions") (ae 1))) (ac (bo 4 (af (.dct [] []))) (ac (dU (none,[5,6]) (hU .zip [am (aa 3) (af (.int 1)),ae 2]) (ac (bh (aa 4) (ae 5) (ae 6)) (af .next))) (ac (aL 7 (aW X (aa 0) "worth" [am (aa 3) (af (.int 2)),ae 4])) (ac (aO (aa 0) "going" (aE (aj .Sub (aw (aa 0) "going") (af (.int 1))) toCel)) (ac (aV (ae 7)) (af .next))))))))))
theorem fo (K n:Nat) (a b c:AV) (st:St):au PP K (n+1) "Teller" "called" [a,b,c] st=bb (bF (wX K n) ⟨[(0,.val a),(1,.val b),(2,.val c)],st⟩):=ib (by kernel_rfl)
noncomputable def aR (X:Ctx):D Fl:=ac (bQ (aB (am (aa 1) (af (.int 0))) .Eq (af (.str "num"))) (ac (aV (am (aa 1) (af (.int 1)))) (af .next)) (af .next)) (ac (bQ (aB (am (aa 1) (af (.int 0))) .Eq (af (.str "name"))) (ac (aV (am (aa 2) (am (aa 1) (af (.int 1))))) (af .next)) (af .next)) (ac (bQ (aB (am (aa 1) (af (.int 0))) .Eq (af (.str "choose"))) (ac (bQ (aB (aW X (aa 0) "worth" [am (aa 1) (af (.int 1)),ae 2]) .NotEq (af (.int 0))) (ac (aV (aW X (aa 0) "worth" [am (aa 1) (af (.int 2)),ae 2])) (af .next)) (af .next)) (ac (aV (aW X (aa 0) "worth" [am (aa 1) (af (.int 3)),ae 2])) (af .next))) (af .next)) (ac (bQ (aB (am (aa 1) (af (.int 0))) .Eq (af (.str "let"))) (ac (bo 3 (aS pj false [aa 2])) (ac (bh (aa 3) (am (aa 1) (af (.int 1))) (aW X (aa 0) "worth" [am (aa 1) (af (.int 2)),ae 2])) (ac (aV (aW X (aa 0) "worth" [am (aa 1) (af (.int 3)),ae 3])) (af .next)))) (af .next)) (ac (bQ (aB (am (aa 1) (af (.int 0))) .Eq (af (.str "call"))) (ac (bo 4 (cF [])) (ac (dU (some 5,[]) (bw (am (aa 1) (af (.int 2)))) (ac (c8 (bY (aa 4) (aW X (aa 0) "worth" [ae 5,ae 2]))) (af .next))) (ac (aV (aW X (aa 0) "called" [am (aa 1) (af (.int 1)),ae 4])) (af .next)))) (af .next)) (ac (aL 5 (aW X (aa 0) "worth" [am (aa 1) (af (.int 1)),ae 2])) (ac (aL 6 (aW X (aa 0) "worth" [am (aa 1) (af (.int 2)),ae 2])) (ac (aV (aX X "reckoned" [am (aa 1) (af (.int 0)),ae 5,ae 6])) (af .next))))))))
theorem b8 (K n:Nat) (a b c:AV) (st:St):au PP K (n+1) "Teller" "worth" [a,b,c] st=bb (aR (wX K n) ⟨[(0,.val a),(1,.val b),(2,.val c)],st⟩):=ib (by kernel_rfl)
theorem tel_worth:(PP.find "Teller" "worth").isSome=true:=by kernel_rfl
theorem lG:(PP.find "Teller" "called").isSome=true:=by kernel_rfl
theorem m_enter:(PP.find "Machine" "enter").isSome=true:=by kernel_rfl
theorem m_leave:(PP.find "Machine" "leave").isSome=true:=by kernel_rfl
theorem m_step:(PP.find "Machine" "step").isSome=true:=by kernel_rfl
theorem sm_add:(PP.find "Smith" "add").isSome=true:=by kernel_rfl
theorem sm_choose:(PP.find "Smith" "choose").isSome=true:=by kernel_rfl
theorem gX (c:Str):PP.sub c c=true:=by show (seq c c || _)=true; rw [fi]; rfl
theorem sub_g1:PP.sub "TooGreat" "ByNought"=false:=by kernel_rfl
theorem sub_d1:PP.sub "TooDeep" "ByNought"=false:=by kernel_rfl
theorem sub_d2:PP.sub "TooDeep" "TooGreat"=false:=by kernel_rfl
theorem sub_y1:PP.sub "Dry" "ByNought"=false:=by kernel_rfl
theorem sub_y2:PP.sub "Dry" "TooGreat"=false:=by kernel_rfl
theorem sub_y3:PP.sub "Dry" "TooDeep"=false:=by kernel_rfl
noncomputable def RT (d:D Fl) (s:S) (r:Ret):Prop:=bb (d s)=r
theorem aq {α β:Type} {m:D α} {f:α->D β} {s s':S} {a:α} (h:m s=.ok a s'):aE m f s=f a s':=by unfold aE; rw [h]; rfl
section
variable {t d:D AV} {a b k m:D Fl} {s s':S} {r:Ret} {v:AV} {i:Nat}
theorem RT.ifB {c:Bool} (h:t s=.ok (.bool c) s') (hk:RT (ac (bif c then a else b) k) s' r):RT (ac (bQ t a b) k) s r:=by
 rw [← hk]
 unfold RT ac aE bQ aE
 rw [h]
 cases c <;> rfl
theorem RT.ifT {φ:Prop} [Decidable φ] (hφ:φ) (h:t s=.ok (.bool (decide φ)) s') (hk:RT (ac a k) s' r):RT (ac (bQ t a b) k) s r :=
 .ifB h (by rw [decide_eq_true hφ]; exact hk)
theorem RT.ifN {φ:Prop} [Decidable φ] (hφ:¬ φ) (h:t s=.ok (.bool (decide φ)) s') (hk:RT (ac b k) s' r):RT (ac (bQ t a b) k) s r :=
 .ifB h (by rw [decide_eq_false hφ]; exact hk)
theorem RT.eqT {x y:Str} (hs:seq x y=true) (h:t s=.ok (.bool (seq x y)) s') (hk:RT (ac a k) s' r):RT (ac (bQ t a b) k) s r :=
 .ifB h (by rw [hs]; exact hk)
theorem RT.eqN {x y:Str} (hs:seq x y=false) (h:t s=.ok (.bool (seq x y)) s') (hk:RT (ac b k) s' r):RT (ac (bQ t a b) k) s r :=
 .ifB h (by rw [hs]; exact hk)
theorem RT.next (hk:RT k s r):RT (ac (af .next) k) s r:=hk
theorem RT.ret (h:d s=.ok v s') (e:.ok v s'.st=r):RT (ac (aV d) k) s r:=by
 rw [← e]
 unfold RT ac aE aV aE
 rw [h]; rfl
theorem RT.retO {o:Option AV} (h:d s=Mine.opt o s') (ho:o=some v) (e:.ok v s'.st=r):RT (ac (aV d) k) s r :=
 .ret (h.trans (by rw [ho]; rfl)) e
theorem RT.assoc (h:RT (ac a (ac m k)) s r):RT (ac (ac a m) k) s r:=by
 rw [← h]
 unfold RT ac aE
 cases ha:a s with
 | stuck=>rfl
 | exc c s'=>rfl
 | ok f s'=>cases f <;> rfl
theorem RT.go (h:a s=.ok .next s') (hk:RT k s' r):RT (ac a k) s r:=by
 rw [← hk]
 unfold RT ac aE
 rw [h]; rfl
theorem RT.nil (e:.ok .none s.st=r):RT (af .next) s r:=e
theorem aQ (h:d s=.ok v s'):aL i d s=.ok .next ⟨ai i (.val v) s'.loc,s'.st⟩:=by
 show aE d _ s=_; rw [aq h]; rfl
theorem bf (h:d s=.ok v s'):bo i d s=.ok .next ⟨ai i (iY true v) s'.loc,s'.st⟩:=by
 show aE d _ s=_; rw [aq h]; rfl
theorem cu (h:d s=.ok v s'):c8 d s=.ok .next s':=by
 show aE d _ s=_; rw [aq h]; rfl
theorem RT.asg (h:d s=.ok v s') (hk:RT k ⟨ai i (.val v) s'.loc,s'.st⟩ r):RT (ac (aL i d) k) s r:=.go (aQ h) hk
theorem RT.own (h:d s=.ok v s') (hk:RT k ⟨ai i (iY true v) s'.loc,s'.st⟩ r):RT (ac (bo i d) k) s r:=.go (bf h) hk
theorem RT.do (h:d s=.ok v s') (hk:RT k s' r):RT (ac (c8 d) k) s r:=.go (cu h) hk
end
section
variable {X:Ctx} {f:Str} {d e:D AV} {es rs:List (D AV)} {vs:List AV} {v:AV} {s s₁ s₂:S} {st':St} {c:Bool}
theorem a8 (h:bI es s=.ok vs s₁) (hc:X.call ⟨#[]⟩ f vs s₁.st=.ok v st'):aX X f es s=.ok v ⟨s₁.loc,st'⟩:=by
 show aE (bI es) _ s=_
 rw [aq h]
 show dZ (X.call ⟨#[]⟩ f vs s₁.st) s₁=_
 rw [hc]; rfl
theorem ag (h1:d s=.ok v s₁) (h2:bI es s₁=.ok vs s₂):bI (d::es) s=.ok (v::vs) s₂:=by
 show aE d _ s=_
 rw [aq h1]
 show aE (bI es) _ s₁=_
 rw [aq h2]; rfl
theorem j1 (h:d s=.ok (.bool c) s₁):bc .Or (d::e::rs) s=bif c then .ok (.bool true) s₁ else bc .Or (e::rs) s₁:=by
 show aE d _ s=_
 rw [aq h]; cases c <;> rfl
theorem gN (h:d s=.ok (.bool c) s₁):bc .And (d::e::rs) s=bif c then bc .And (e::rs) s₁ else .ok (.bool false) s₁:=by
 show aE d _ s=_
 rw [aq h]; cases c <;> rfl
theorem et {l:List AV} (h:d s=.ok (.lst l) s₁):bw d s=.ok (.lst l) s₁:=by show aE d _ s=_; rw [aq h]; rfl
end
section
variable {t:Option Nat × List Nat} {i:Nat} {ks:List Nat} {its:D AV} {l vs:List AV} {b k:D Fl} {x:AV} {rl:List AV} {s s₁ s₂:S} {r:Ret} {o:Out Fl}
theorem RT.forI (h:its s=.ok (.lst l) s₁) (hb:br t b l s₁=.ok .next s₂) (hk:RT k s₂ r):RT (ac (dU t its b) k) s r :=
 .go (by show aE its _ s=_; rw [aq h]; exact hb) hk
theorem RT.forT (h:its s=.ok (.tup l) s₁) (hb:br (none,ks) b l s₁=.ok .next s₂) (hk:RT k s₂ r):RT (ac (dU (none,ks) its b) k) s r :=
 .go (by show aE its _ s=_; rw [aq h]; exact hb) hk
theorem cf (h2:b ⟨ai i (.val x) s.loc,s.st⟩=.ok .next s₂) (h3:br (some i,ks) b rl s₂=o):br (some i,ks) b (x::rl) s=o:=by
 show aE b _ ⟨ai i (.val x) s.loc,s.st⟩=_
 rw [aq h2]; exact h3
theorem RT.rais {c:Str} {k:D Fl} {s:S}:RT (ac (Mine.rais c) k) s (.exc c s.st):=rfl
end
section
variable {t:D AV} {a b k:D Fl} {s s':S}
theorem ifO {c:Bool} (h:t s=.ok (.bool c) s'):ac (bQ t a b) k s=ac (bif c then a else b) k s':=by
 unfold ac aE bQ aE
 rw [h]
 cases c <;> rfl
theorem ji (h:a s=.ok .next s'):ac a k s=k s':=by
 show aE a _ s=_; rw [aq h]
end
theorem bS (x:Str):seq x x=true:=by rw [dC]; exact beq_self_eq_true x
theorem comp_go {α:Type} {tst:Option (D AV)} {elt:D AV} {cap:bp} {st:St} {k:Nat} {f g:α->AV} {p:α->Bool}:∀ {l:List α},(∀ x ∈ l,∃ s',lf tst ⟨ai k (.val (f x)) cap,st⟩=.ok (p x) ⟨s',st⟩/\(p x=true->∃ s₂,elt ⟨s',st⟩=.ok (g x) ⟨s₂,st⟩))->cO k tst elt cap (l.map f) st=.ok ((l.filter p).map g) ⟨cap,st⟩
 | [],_=>rfl
 | x::r,h=>by
  obtain ⟨s',e,h2⟩:=h x zAb
  have ih:=comp_go fun y hy=>h y (zAe _ hy)
  show aE (lf tst) _ _=_
  rw [aq e]
  cases hp:p x with
  | false=>rw [List.filter_cons_of_neg (fun q=>nomatch hp.symm.trans q)]; exact ih
  | true =>
   obtain ⟨s₂,e2⟩:=h2 hp
   rw [List.filter_cons_of_pos hp]
   show aE elt _ _=_
   rw [aq e2]
   show consO (g x) (cO k tst elt cap (r.map f) st)=_
   rw [ih]; rfl
theorem compT_at {α:Type} {caps:List (Nat × Nat)} {k:Nat} {tst:Option (D AV)} {elt its:D AV} {l:List α} {f g:α->AV} {p:α->Bool} {s s₁:S} (h:its s=.ok (.lst (l.map f)) s₁) (hl:l.length<=1000) (he:∀ x ∈ l,∃ s',lf tst ⟨ai k (.val (f x)) (dW caps s₁.loc),s₁.st⟩=.ok (p x) ⟨s',s₁.st⟩/\(p x=true->∃ s₂,elt ⟨s',s₁.st⟩=.ok (g x) ⟨s₂,s₁.st⟩)) :
  cQ caps k tst elt its s=.ok (.lst ((l.filter p).map g)) ⟨letGo caps s₁.loc,s₁.st⟩:=by
 have hs:(1000:Nat)<=sizeLine:=by decide +kernel
 show aE its _ s=_
 rw [aq h]
 show (if (l.map f).length<=sizeLine then aE (cZ caps k tst elt (l.map f)) fun vs=>Mine.opt (bz vs) else stk) s₁=_
 rw [if_pos (by rw [zAd]; exact zAj hl hs)]
 have e:cZ caps k tst elt (l.map f) s₁=.ok ((l.filter p).map g) ⟨letGo caps s₁.loc,s₁.st⟩:=by unfold cZ; rw [comp_go he]
 rw [aq e]
 unfold bz
 rw [if_pos (by rw [zAd]; exact zAj (zAj (List.length_filter_le p l) hl) hs)]; rfl
theorem iT {α:Type} {caps:List (Nat × Nat)} {k:Nat} {elt its:D AV} {l:List α} {f g:α->AV} {s s₁:S} (h:its s=.ok (.lst (l.map f)) s₁) (hl:l.length<=1000) (he:∀ x ∈ l,∃ s',elt ⟨ai k (.val (f x)) (dW caps s₁.loc),s₁.st⟩=.ok (g x) ⟨s',s₁.st⟩) :
  bG caps k elt its s=.ok (.lst (l.map g)) ⟨letGo caps s₁.loc,s₁.st⟩ :=
 (compT_at (p:=fun _=>true) h hl fun x hx=>⟨_,rfl,fun _=>he x hx⟩).trans (by rw [List.filter_eq_self.mpr fun _ _=>rfl])
section
variable {X:Ctx} {f c m:Str} {es:List (D AV)} {vs:List AV} {v ov:AV} {k a b:D Fl} {s s₁ s':S} {st':St} {r q:Ret} {kk k0:Nat} {d t od:D AV} {x:Str} {l:List (Str × AV)}
theorem dMeth_at (hm:(X.P.find c m).isSome=true) (ho:od s=.ok ov s) (hl:gf ov s=some (.obj c k0)) (hf:s.st[k0]?=some (.flds l)) (hes:bI es s=.ok vs s₁) :
  aW X od m es s=dZ (X.call c m (.obj c k0::vs) s₁.st) s₁:=by
 show ax (od s) _=_
 rw [ho]
 show ax (ix ov s) _=_
 unfold ix
 rw [hl]
 show (match s.st[k0]? with | some (.flds _)=>_ | _=>_)=_
 rw [hf]
 dsimp only
 rw [if_pos hm]
 show ax (bI es s) _=_
 rw [hes]; rfl
theorem RT.retR (h:d s=dZ q s₁) (hq:q=r):RT (ac (aV d) k) s r:=by
 subst hq
 show bb (ax (ax (d s) _) _)=_
 rw [h]
 cases q <;> rfl
theorem RT.asgR (h:d s=dZ q s₁) (hq:q=.ok v st') (hk:RT k ⟨ai kk (.val v) s₁.loc,st'⟩ r):RT (ac (aL kk d) k) s r:=by
 rw [← hk]
 show bb (ax (ax (d s) _) _)=_
 rw [h,hq]; rfl
theorem RT.asgX (h:d s=.exc x s₁) (e:.exc x s₁.st=r):RT (ac (aL kk d) k) s r:=by
 rw [← e]
 show bb (ax (ax (d s) _) _)=_
 rw [h]; rfl
theorem RT.goX (h:a s=.exc x s') (e:.exc x s'.st=r):RT (ac a k) s r:=by
 rw [← e]
 show bb (ax (a s) _)=_
 rw [h]; rfl
theorem RT.ifX (h:t s=.exc x s') (e:.exc x s'.st=r):RT (ac (bQ t a b) k) s r:=by
 rw [← e]
 show bb (ax (ax (t s) _) _)=_
 rw [h]; rfl
end
theorem dG {b i d:D AV} {S S₁ S₂:Mine.S} {va vi:AV} {k:Nat} {w w':AV} (hd:d S=.ok va S₁) (hb:b S₁=.ok (.pl k) S₁) (hi:i S₁=.ok vi S₁) (hk:al k S₁.loc=some (.own w)) (hp:eW vi va w=some w') (e:S₂=⟨ai k (.own w') S₁.loc,S₁.st⟩):bh b i d S=.ok .next S₂:=by
 subst e
 show aE d _ S=_
 rw [aq hd]
 show aE b _ S₁=_
 rw [aq hb]
 show aE i _ S₁=_
 rw [aq hi]
 have hm:bH (.pl k) (eW vi va) S₁=.ok () ⟨ai k (.own w') S₁.loc,S₁.st⟩:=by
  unfold bH
  dsimp only
  rw [hk]
  dsimp only
  rw [hp]
 show aE (bH (.pl k) (eW vi va)) _ S₁=_
 rw [aq hm]; rfl
theorem cN {l:List AV} (h:l.length<=1000):bz l=some (.lst l):=if_pos (zAj h (by decide +kernel))
theorem gM {l:List AV} {k:Nat} {v:AV} (h:l[k]?=some v):at? l (k:Int)=some v:=by
 unfold at?
 rw [if_pos (zCi k),zCn,h]
theorem gY {o e:D AV} {S S₁ S₂:Mine.S} {k:Nat} {l:List AV} {v:AV} (ho:o S=.ok (.pl k) S) (hk:al k S.loc=some (.own (.lst l))) (he:e S=.ok v S₁) (hk1:al k S₁.loc=some (.own (.lst l))) (hl:l.length<=1000) (e₂:S₂=⟨ai k (.own (.lst (l++[v]))) S₁.loc,S₁.st⟩):bY o e S=.ok .none S₂:=by
 subst e₂
 show aE o _ S=_
 rw [aq ho]
 have hc:dE (.pl k) S=.ok () S:=by
  unfold dE aT
  dsimp only
  rw [hk]; rfl
 show aE (dE (.pl k)) _ S=_
 rw [aq hc]
 show aE e _ S=_
 rw [aq he]
 have hm:bH (.pl k) (pA v) S₁=.ok () ⟨ai k (.own (.lst (l++[v]))) S₁.loc,S₁.st⟩:=by
  unfold bH
  dsimp only
  rw [hk1]
  dsimp only
  rw [show pA v (.lst l)=some (.lst (l++[v])) from by
   show bz (l++[v])=_
   unfold bz
   rw [if_pos]
   rw [zAc]
   exact zAj (zBo hl 1) (show 1000+1<=sizeLine by decide +kernel)]
 show aE (bH (.pl k) (pA v)) _ S₁=_
 rw [aq hm]; rfl
theorem bT {l r:D AV} {op:CmpOp} {a b:AV} {s s₁ s₂:S} (h1:l s=.ok a s₁) (h2:r s₁=.ok b s₂):aB l op r s=aE (deref a) (fun a'=>aE (deref b) fun b'=>Mine.opt ((kB op a' b').map .bool)) s₂:=by
 show aE l _ s=_
 rw [aq h1]
 show aE r _ s₁=_
 rw [aq h2]
theorem cq {ks:List Nat} {vs rl:List AV} {b:D Fl} {s s₂:S} {o:Out Fl} (hl:zA9 ks.length vs.length=true) (h2:b ⟨jw ks vs s.loc,s.st⟩=.ok .next s₂) (h3:br (none,ks) b rl s₂=o):br (none,ks) b (.tup vs::rl) s=o:=by
 show aE (asgT (none,ks) (.tup vs)) _ s=_
 rw [aq (a:=()) (s':=⟨jw ks vs s.loc,s.st⟩) (by unfold asgT; dsimp only; rw [if_pos hl])]
 show aE b _ _=_
 rw [aq h2]; exact h3
section
variable {X:Ctx} {b k:D Fl} {hs:Hs} {s s' s'':S} {r:Ret} {c:Str} {v:AV}
theorem RT.tryOk (h:b s=.ok .next s') (hk:RT k s' r):RT (ac (kD X b hs) k) s r:=.go (by unfold kD tryO; rw [h]) hk
theorem RT.tryX (h:b s=.exc c s') (hp:ie X.P.sub c s' hs=.ok (.ret v) s'') (e:.ok v s''.st=r):RT (ac (kD X b hs) k) s r:=by
 rw [← e]
 show bb (ax (kD X b hs s) _)=_
 unfold kD tryO
 rw [h]
 dsimp only
 rw [hp]; rfl
end
section
variable {d e l r its elt:D AV} {s s₁ s₂:S} {v a b a' b' c c' i:AV} {kk n:Nat} {op:Operator}
theorem cP {o:Option AV} (h:d s=Mine.opt o s₁) (ho:o=some v):d s=.ok v s₁:=by rw [h,ho]; rfl
theorem ay (h1:l s=.ok a s₁) (h2:r s₁=.ok b s₂) (ha:aT a s₂=some a') (hb:aT b s₂=some b') (hv:mO op a' b'=some v):aj op l r s=.ok v s₂:=by
 have d1:deref a s₂=.ok a' s₂:=by unfold deref; rw [ha]
 have d2:deref b s₂=.ok b' s₂:=by unfold deref; rw [hb]
 unfold aj
 rw [aq h1,aq h2,aq d1,aq d2,hv]; rfl
theorem aU (h1:d s=.ok c s₁) (h2:e s₁=.ok i s₂) (hc:aT c s₂=some c') (hv:idxV c' i=some v):am d e s=.ok v s₂:=by
 have d1:deref c s₂=.ok c' s₂:=by unfold deref; rw [hc]
 unfold am
 rw [aq h1,aq h2,aq d1,hv]; rfl
end
section
variable {L:bp} {st:St} {k j:Nat} {v c:AV} {lv:LV}
theorem lP:∀ {L:bp},al k (ai j lv L)=if zA9 j k then some lv else al k L
 | []=>rfl
 | (y,w)::r=>by
  by_cases h:zA9 y j=true
  ·have e:=zBs h
   subst e
   show al k (if zA9 y y then (y,lv)::r else _)=_
   rw [if_pos h]
   show (if zA9 y k then some lv else al k r)=(if zA9 y k then some lv else (if zA9 y k then some w else al k r))
   split <;> rfl
  ·show al k (if zA9 y j then _ else (y,w)::ai j lv r)=_
   rw [if_neg h]
   show (if zA9 y k then some w else al k (ai j lv r))=(if zA9 j k then some lv else (if zA9 y k then some w else al k r))
   rw [lP (L:=r)]
   by_cases h1:zA9 y k=true
   ·have e:=zBs h1
    subst e
    have h2:¬ (zA9 j y=true):=fun q=>h (by rw [zBs q]; exact Nat.beq_refl y)
    rw [if_pos h1,if_neg h2,if_pos h1]
   ·rw [if_neg h1,if_neg h1]
theorem aA:al k (ai k lv L)=some lv:=by rw [lP,if_pos (Nat.beq_refl k)]
theorem ah (h:zA9 j k=false):al k (ai j lv L)=al k L:=by rw [lP,h]; rfl
theorem ba (h:al k L=some lv):aa k ⟨L,st⟩=.ok (.pl k) ⟨L,st⟩:=by unfold aa; rw [h]
theorem bk (h:al k L=some (.val v)):ae k ⟨L,st⟩=.ok v ⟨L,st⟩:=by unfold ae; rw [h]
theorem gt (h:al k L=some (.own v)):ae k ⟨L,st⟩=.ok v ⟨ai k (.val v) L,st⟩:=by unfold ae; rw [h]
theorem mx (h:al k L=some (.own c)):aT (.pl k) ⟨L,st⟩=some c:=by unfold aT; dsimp only; rw [h]
theorem mz {i:Int} (h:al k L=some (.val (.int i))):aT (.pl k) ⟨L,st⟩=some (.int i):=by unfold aT; dsimp only; rw [h]
theorem ip {l:List AV} (h:al k L=some (.val (.lst l))):aT (.pl k) ⟨L,st⟩=some (.lst l):=by unfold aT; dsimp only; rw [h]
theorem bV {l:List AV} (h:al k L=some (.val (.tup l))):aT (.pl k) ⟨L,st⟩=some (.tup l):=by unfold aT; dsimp only; rw [h]
noncomputable def hasL (k:Nat) (l:List AV) (L:bp):Prop:=al k L=some (.own (.lst l)) ∨ al k L=some (.val (.lst l))
theorem hasL.pk {l:List AV} (h:hasL k l L):aa k ⟨L,st⟩=.ok (.pl k) ⟨L,st⟩:=h.elim ba ba
theorem hasL.dr {l:List AV} (h:hasL k l L):aT (.pl k) ⟨L,st⟩=some (.lst l):=h.elim mx ip
theorem hasL.old {l:List AV} (h:hasL k l L) (q:zA9 j k=false):hasL k l (ai j lv L):=by
 unfold hasL; rw [ah q]; exact h
end
noncomputable def nr:Out Fl->Prop
 | .ok (.ret _) _=>False
 | _=>True
section
variable {t:D AV} {a b:D Fl} {s s' s₁:S} {o:Out Fl}
theorem bP (h:a s=o) (ho:nr o):ac a (af .next) s=o:=by
 show ax (a s) _=_
 rw [h]
 cases o with
 | stuck=>rfl
 | exc c s'=>rfl
 | ok f s'=>cases f with
  | next=>rfl
  | ret v=>exact ho.elim
theorem pE (h:t s=.ok (.bool true) s₁) (ha:a s₁=o) (ho:nr o):ac (bQ t a b) (af .next) s=o :=
 bP (by show ax (t s) _=_; rw [h]; exact ha) ho
theorem dw (h:t s=.ok (.bool false) s₁) (hb:b s₁=o) (ho:nr o):ac (bQ t a b) (af .next) s=o :=
 bP (by show ax (t s) _=_; rw [h]; exact hb) ho
end
end Mine
end
section
set_option genSizeOf false
set_option genSizeOfSpec false
set_option genInjectivity false
set_option autoImplicit false
set_option linter.unusedVariables false
set_option maxRecDepth 100000
set_option genSizeOf false
set_option genSizeOfSpec false
set_option genInjectivity false
namespace Mine
open PySem
inductive Dw where
 | sum | less | times | part | below
inductive Bad where
 | nought | great | deep | dry
inductive Rl where
 | val (vs:List Int) (m:Int)
 | bad (c:Bad) (m:Int)
set_option genCtorIdx false
inductive Tr where
 | num (i:Int)
 | name (x:Str)
 | deed (w:Dw) (a b:Tr)
 | choose (a b c:Tr)
 | lt (x:Str) (a b:Tr)
 | call (f:Str) (l:Tr)
 | nil
 | cons (t r:Tr)
noncomputable def Dw.str:Dw->Str
 | .sum=>"sum" | .less=>"less" | .times=>"times" | .part=>"part" | .below=>"below"
noncomputable def Bad.xc:Bad->Str
 | .nought=>"ByNought" | .great=>"TooGreat" | .deep=>"TooDeep" | .dry=>"Dry"
noncomputable def Bad.word:Bad->Str
 | .nought=>"nought" | .great=>"great" | .deep=>"deep" | .dry=>"dry"
noncomputable def Rl.bind:Rl->(List Int->Int->Rl)->Rl
 | .val vs m,f=>f vs m
 | .bad c m,_=>.bad c m
noncomputable def raw:Dw->Int->Int->Int
 | .sum,x,y=>x+y
 | .less,x,y=>x - y
 | .times,x,y=>x * y
 | .part,x,y=>zAp x y
 | .below,x,y=>if decide (x < y) then 1 else 0
noncomputable def jP:Dw->Bool
 | .part=>true
 | _=>false
noncomputable def ik (x:Int):Prop:=-1000000000000<=x/\x<=1000000000000
noncomputable def red (w:Dw) (x y m:Int):Rl :=
 if jP w=true/\y=0 then .bad .nought m
 else if raw w x y > 1000000000000 ∨ raw w x y < -1000000000000 then .bad .great m else .val [raw w x y] m
noncomputable abbrev Env:=List (Str × Int)
noncomputable abbrev hd (vs:List Int):Int:=vs.headD 0
noncomputable def dS (call:Str->List Int->Int->Rl):Tr->Env->Int->Rl
 | .num i,_,m=>.val [i] m
 | .name x,e,m=>.val [(aK x e).getD 0] m
 | .deed w a b,e,m=>(dS call a e m).bind fun x m=>(dS call b e m).bind fun y m=>red w (hd x) (hd y) m
 | .choose a b c,e,m=>(dS call a e m).bind fun x m=>if hd x=0 then dS call c e m else dS call b e m
 | .lt x a b,e,m=>(dS call a e m).bind fun v m=>dS call b ((x,hd v)::e) m
 | .call f l,e,m=>(dS call l e m).bind fun vs m=>call f vs m
 | .nil,_,m=>.val [] m
 | .cons t r,e,m=>(dS call t e m).bind fun v m=>(dS call r e m).bind fun vs m=>.val (hd v::vs) m
structure Fu where
 nm:Str
 ps:List Str
 bd:Tr
noncomputable def bx (f:Str):List Fu->Option Fu
 | []=>none
 | u::r=>if seq f u.nm then some u else bx f r
noncomputable def b9 (fs:List Fu) (F:Int):Nat->Str->List Int->Int->Rl
 | 0,_,_,m=>.bad .deep m
 | g+1,f,vs,m=>if m=F then .bad .dry m else match bx f fs with
  | some u=>dS (b9 fs F g) u.bd (u.ps.zip vs).reverse (m+1)
  | none=>.bad .deep m
noncomputable def dT:AV->List AV
 | .tup l=>l
 | _=>[]
noncomputable def Tr.enc:Tr->AV
 | .num i=>.tup [.str "num",.int i]
 | .name x=>.tup [.str "name",.str x]
 | .deed w a b=>.tup [.str w.str,a.enc,b.enc]
 | .choose a b c=>.tup [.str "choose",a.enc,b.enc,c.enc]
 | .lt x a b=>.tup [.str "let",.str x,a.enc,b.enc]
 | .call f l=>.tup [.str "call",.str f,l.enc]
 | .nil=>.tup []
 | .cons t r=>.tup (t.enc::dT r.enc)
noncomputable def Fu.enc (u:Fu):AV:=.tup [.str u.nm,.tup (u.ps.map .str),u.bd.enc]
noncomputable def Tr.wf (sig:Str->Option Nat):Tr->Nat->List Str->Option Nat->Prop
 | .num i,h,_,k=>k=none/\0 < h/\ik i
 | .name x,h,ns,k=>k=none/\0 < h/\x ∈ ns
 | .deed _ a b,h,ns,k=>k=none/\∃ h',h=h'+1/\a.wf sig h' ns none/\b.wf sig h' ns none
 | .choose a b c,h,ns,k=>k=none/\∃ h',h=h'+1/\a.wf sig h' ns none/\b.wf sig h' ns none/\c.wf sig h' ns none
 | .lt x a b,h,ns,k=>k=none/\∃ h',h=h'+1/\a.wf sig h' ns none/\b.wf sig h' (ns++[x]) none
 | .call f l,h,ns,k=>k=none/\∃ h',h=h'+1/\∃ c,sig f=some c/\c<=100/\l.wf sig h' ns (some c)
 | .nil,_,_,k=>k=some 0
 | .cons t r,h,ns,k=>∃ c,k=some (c+1)/\t.wf sig h ns none/\r.wf sig h ns (some c)
section
variable {sig:Str->Option Nat} {h:Nat} {ns:List Str} {t:Tr} {c:Nat}
theorem g7:∀ {t:Tr} {c:Nat},t.wf sig h ns (some c)->t.enc=.tup (dT t.enc)/\(dT t.enc).length=c:=by
 intro t
 induction t with
 | num _=>intro c q; exact eN zBt q.1 rfl
 | name _=>intro c q; exact eN zBt q.1 rfl
 | deed _ _ _ _ _=>intro c q; exact eN zBt q.1 rfl
 | choose _ _ _ _ _ _=>intro c q; exact eN zBt q.1 rfl
 | lt _ _ _ _ _=>intro c q; exact eN zBt q.1 rfl
 | call _ _ _=>intro c q; exact eN zBt q.1 rfl
 | nil=>intro c q; cases q; exact ⟨rfl,rfl⟩
 | cons t r _ ih =>
  intro c q
  obtain ⟨c',e,h1,h2⟩:=q
  cases e
  exact ⟨rfl,congrArg (·+1) (ih h2).2⟩
end
noncomputable def Rl.good (k:Option Nat):Rl->Prop
 | .val vs _=>(∀ v ∈ vs,ik v)/\vs.length=k.getD 1
 | .bad _ _=>True
theorem eM {vs:List Int} (h:∀ v ∈ vs,ik v):ik (hd vs):=by
 cases vs with
 | nil=>exact ⟨by decide,by decide⟩
 | cons v r=>exact h v zAb
set_option tactic.hygienic true in
theorem red_good {w:Dw} {x y m:Int}:(red w x y m).good none:=by
 unfold red
 split
 ·exact trivial
 ·split
  ·exact trivial
  ·rename_i h
   exact ⟨fun v hv=>by rw [zAi.mp hv]; exact ⟨Int.not_lt.mp fun q=>h (.inr q),Int.not_lt.mp fun q=>h (.inl q)⟩,rfl⟩
theorem dH {k k':Option Nat} {r:Rl} {f:List Int->Int->Rl} (h:r.good k) (hf:∀ vs m,(∀ v ∈ vs,ik v)->vs.length=k.getD 1->(f vs m).good k'):(r.bind f).good k':=by
 cases r with
 | val vs m=>exact hf vs m h.1 h.2
 | bad c m=>exact trivial
theorem m4 {x:Str} {v:Int}:∀ {e:Env},aK x e=some v->∃ y,(y,v) ∈ e
 | (y,w)::r,h=>by
  have h:(if seq x y then some w else aK x r)=some v:=h
  cases e:seq x y with
  | true=>rw [e] at h; cases h; exact ⟨y,zAb⟩
  | false=>rw [e] at h; exact (m4 h).imp fun _ q=>zAe _ q
theorem cy {sig:Str->Option Nat} {call:Str->List Int->Int->Rl} (hc:∀ f vs m,sig f=some vs.length->(∀ v ∈ vs,ik v)->(call f vs m).good none):∀ (t:Tr) {h:Nat} {ns:List Str} {k:Option Nat} {e:Env} {m:Int},t.wf sig h ns k->(∀ p ∈ e,ik p.2)->(dS call t e m).good k:=by
 intro t
 induction t with
 | num i=>intro h ns k e m q he; obtain ⟨rfl,_,hi⟩:=q; exact ⟨fun v hv=>by rw [zAi.mp hv]; exact hi,rfl⟩
 | name x =>
  intro h ns k e m q he
  obtain ⟨rfl,_,_⟩:=q
  refine ⟨fun v hv=>?_,rfl⟩
  rw [zAi.mp hv]
  cases hl:aK x e with
  | none=>exact ⟨by decide,by decide⟩
  | some v=>obtain ⟨y,q⟩:=m4 hl; exact he _ q
 | deed w a b iha ihb =>
  intro h ns k e m q he
  obtain ⟨rfl,h',rfl,h1,h2⟩:=q
  exact dH (iha h1 he) fun x m _ _=>dH (ihb h2 he) fun y m _ _=>red_good
 | choose a b c iha ihb ihc =>
  intro h ns k e m q he
  obtain ⟨rfl,h',rfl,h1,h2,h3⟩:=q
  refine dH (iha h1 he) fun x m _ _=>?_
  split
  ·exact ihc h3 he
  ·exact ihb h2 he
 | lt x a b iha ihb =>
  intro h ns k e m q he
  obtain ⟨rfl,h',rfl,h1,h2⟩:=q
  refine dH (iha h1 he) fun v m hv _=>ihb h2 fun p hp=>?_
  rcases zAl.mp hp with rfl | hp
  ·exact eM hv
  ·exact he p hp
 | call f l ih =>
  intro h ns k e m q he
  obtain ⟨rfl,h',rfl,c,h1,_,h2⟩:=q
  exact dH (ih h2 he) fun vs m hv hl=>hc f vs m (by rw [h1,hl]; rfl) hv
 | nil=>intro h ns k e m q he; cases q; exact ⟨(fun v hv=>nomatch hv),rfl⟩
 | cons t r iht ihr =>
  intro h ns k e m q he
  obtain ⟨c,rfl,h1,h2⟩:=q
  refine dH (iht h1 he) fun v m hv _=>dH (ihr h2 he) fun vs m hvs hl=>⟨fun x hx=>?_,congrArg (·+1) hl⟩
  rcases zAl.mp hx with rfl | hx
  ·exact eM hv
  ·exact hvs x hx
noncomputable def bW (fs:List Fu) (f:Str):Option Nat:=(bx f fs).map fun u=>u.ps.length
structure PW (fs:List Fu):Prop where
 nd:(fs.map (·.nm)).Nodup
 ps:∀ u ∈ fs,u.ps.Nodup/\u.ps.length<=100
 bd:∀ u ∈ fs,u.bd.wf (bW fs) 12 u.ps none
theorem cD {f:Str} {u:Fu}:∀ {fs:List Fu},bx f fs=some u->u ∈ fs/\u.nm=f
 | v::r,h=>by
  have h:(if seq f v.nm then some v else bx f r)=some u:=h
  cases e:seq f v.nm with
  | true=>rw [e] at h; cases h; rw [dC,beq_iff_eq] at e; exact ⟨zAb,e.symm⟩
  | false=>rw [e] at h; exact ⟨zAe _ (cD h).1,(cD h).2⟩
theorem ga {fs:List Fu} {F:Int} (P:PW fs):∀ (g:Nat) (f:Str) (vs:List Int) (m:Int),bW fs f=some vs.length->(∀ v ∈ vs,ik v)->(b9 fs F g f vs m).good none:=by
 intro g
 induction g with
 | zero=>intro f vs m _ _; exact trivial
 | succ g ih =>
  intro f vs m hs hv
  show (if m=F then Rl.bad .dry m else match bx f fs with | some u=>dS (b9 fs F g) u.bd (u.ps.zip vs).reverse (m+1) | none=>.bad .deep m).good none
  split
  ·exact trivial
  ·cases hf:bx f fs with
   | none=>exact trivial
   | some u =>
    refine cy ih u.bd (P.bd u (cD hf).1) fun p hp=>hv _ ?_
    exact (zC6 (zB6.mp hp)).2
structure DEnv {α:Type} (f:α->AV) (ks ws:List AV) (e:List (Str × α)):Prop where
 len:ks.length=ws.length
 key:∀ k ∈ ks,∃ x,k=.str x
 get:∀ x,dI (.str x) ks ws=(aK x e).map f
theorem fD {k v:AV}:∀ {ks ws:List AV},ks.length=ws.length->(ce k ks).length=(cG k v ks ws).length/\(ce k ks).length<=ks.length+1
 | [],[],_=>⟨rfl,zAy _⟩
 | x::xs,w::ws,h=>by
  have ih:=fD (k:=k) (v:=v) (Nat.succ.inj h)
  show (if fe k x then x::xs else x::ce k xs).length=(if fe k x then v::ws else w::cG k v xs ws).length/\(if fe k x then x::xs else x::ce k xs).length<=_
  cases fe k x with
  | true=>exact ⟨h,zDd _⟩
  | false=>exact ⟨congrArg (·+1) ih.1,zBx ih.2⟩
 | [],_::_,h=>nomatch h
 | _::_,[],h=>nomatch h
theorem dSet_key {x:Str}:∀ {ks:List AV},(∀ k ∈ ks,∃ y,k=.str y)->∀ k ∈ ce (.str x) ks,∃ y,k=.str y
 | [],_,k,hk=>⟨x,zAi.mp hk⟩
 | z::zs,h,k,hk=>by
  have hk:k ∈ (if fe (.str x) z then z::zs else z::ce (.str x) zs):=hk
  cases e:fe (.str x) z with
  | true=>rw [e] at hk; exact h k hk
  | false =>
   rw [e] at hk
   rcases zAl.mp hk with rfl | hk
   ·exact h _ zAb
   ·exact dSet_key (fun k hk=>h k (zAe _ hk)) k hk
theorem seq_iff' {x y:Str}:seq x y=true ↔ x=y:=by rw [dC,beq_iff_eq]
theorem dGet_set {x y:Str} {v:AV}:∀ {ks ws:List AV},ks.length=ws.length->(∀ k ∈ ks,∃ y,k=.str y)->dI (.str y) (ce (.str x) ks) (cG (.str x) v ks ws)=if seq y x then some v else dI (.str y) ks ws
 | [],[],_,_=>rfl
 | z::zs,w::ws,h,hk=>by
  obtain ⟨z',rfl⟩:=hk _ zAb
  have ih:=dGet_set (x:=x) (y:=y) (v:=v) (Nat.succ.inj h) (fun k hk'=>hk k (zAe _ hk'))
  show dI (.str y) (if seq x z' then .str z'::zs else .str z'::ce (.str x) zs) (if seq x z' then v::ws else w::cG (.str x) v zs ws)=(if seq y x then some v else (if seq y z' then some w else dI (.str y) zs ws))
  cases e:seq x z' with
  | true =>
   obtain rfl:=seq_iff'.mp e
   show (if seq y x then some v else dI (.str y) zs ws)=_
   cases seq y x <;> rfl
  | false =>
   show (if seq y z' then some w else dI (.str y) (ce (.str x) zs) (cG (.str x) v zs ws))=_
   rw [ih]
   cases e1:seq y z' with
   | false=>rfl
   | true =>
    cases e2:seq y x with
    | false=>rfl
    | true =>
     obtain rfl:=seq_iff'.mp e1
     obtain rfl:=seq_iff'.mp e2
     rw [bS] at e; exact eN Bool.ctorIdx e rfl
 | [],_::_,h,_=>nomatch h
 | _::_,[],h,_=>nomatch h
theorem DEnv.set {α:Type} {f:α->AV} {ks ws:List AV} {e:List (Str × α)} {x:Str} {v:α} (h:DEnv f ks ws e):DEnv f (ce (.str x) ks) (cG (.str x) (f v) ks ws) ((x,v)::e) where
 len:=(fD h.len).1
 key:=dSet_key h.key
 get:=fun y=>by
  rw [dGet_set h.len h.key,h.get]
  show _=(if seq y x then some v else aK y e).map f
  cases seq y x <;> rfl
theorem DEnv.nil {α:Type} {f:α->AV}:DEnv f [] [] ([]:List (Str × α)):=⟨rfl,(fun k h=>nomatch h),fun x=>rfl⟩
theorem iL {x:Str} {v:AV} {ks ws:List AV} (h:ks.length<=1000):eW (.str x) v (.dct ks ws)=some (.dct (ce (.str x) ks) (cG (.str x) v ks ws)):=by
 show (if true && zCd (ks.length+1) sizeLine then _ else none)=_
 rw [Nat.ble_eq_true_of_le (zAj (zBx h) (by decide +kernel))]; rfl
end Mine
end
section
set_option autoImplicit false
set_option linter.unusedVariables false
set_option maxRecDepth 100000
namespace Mine
open PySem
theorem nL {x:Int} (h:ik x):b7 x=true:=decide_eq_true (by unfold ik at h; lia)
theorem divOk_of {y:Int} (h:y ≠ 0) (hs:b7 y=true):eI y=true:=by unfold eI; rw [decide_eq_false h,hs]; rfl
section
variable {K n:Nat} {st:St}
theorem plain_ok (w:Dw) {x y:Int} (hx:ik x) (hy:jP w=true->y ≠ 0) (hy':ik y):au PP K (n+1) ⟨#[]⟩ "plain" [.str w.str,.int x,.int y] st=.ok (.int (raw w x y)) st:=by
 rw [rn_plain]
 show RT (lF _) _ _
 unfold lF
 cases w with
 | sum=>exact .eqT (bS _) rfl (.assoc (.ret rfl rfl))
 | less=>exact .eqN (x:="less") (y:="sum") (by decide +kernel) rfl (.next (.eqT (bS _) rfl (.assoc (.ret rfl rfl))))
 | times =>
  refine .eqN (x:="times") (y:="sum") (by decide +kernel) rfl (.next (.eqN (x:="times") (y:="less") (by decide +kernel) rfl (.next (.eqT (bS _) rfl (.assoc (.retO (o:=if b7 x || b7 y then some (.int (x * y)) else none) rfl ?_ rfl))))))
  rw [nL hx]; rfl
 | part =>
  refine .eqN (x:="part") (y:="sum") (by decide +kernel) rfl (.next (.eqN (x:="part") (y:="less") (by decide +kernel) rfl (.next (.eqN (x:="part") (y:="times") (by decide +kernel) rfl (.next (.eqT (bS _) rfl (.assoc (.retO (o:=if eI y then some (.int (zAp x y)) else none) rfl ?_ rfl))))))))
  rw [divOk_of (hy rfl) (nL hy')]; rfl
 | below =>
  refine .eqN (x:="below") (y:="sum") (by decide +kernel) rfl (.next (.eqN (x:="below") (y:="less") (by decide +kernel) rfl (.next (.eqN (x:="below") (y:="times") (by decide +kernel) rfl (.next (.eqN (x:="below") (y:="part") (by decide +kernel) rfl (.next (.ret rfl ?_))))))))
  rfl
end
section
variable {X:Ctx} {f:Str} {es:List (D AV)} {vs:List AV} {v:AV} {k:D Fl} {s s₁ s':S} {st':St} {r q:Ret} {kk:Nat} {c:Bool} {d e:D AV} {rs:List (D AV)} {x:Str}
theorem RT.asgFn (h:bI es s=.ok vs s₁) (hc:X.call ⟨#[]⟩ f vs s₁.st=.ok v st') (hk:RT k ⟨ai kk (.val v) s₁.loc,st'⟩ r):RT (ac (aL kk (aX X f es)) k) s r:=by
 rw [← hk]
 unfold RT ac aE aL aE aX aE
 rw [h]
 show bb (ax (ax (dZ (X.call ⟨#[]⟩ f vs s₁.st) s₁) _) _)=_
 rw [hc]; rfl
theorem RT.retFn (h:bI es s=.ok vs s₁) (hc:X.call ⟨#[]⟩ f vs s₁.st=r):RT (ac (aV (aX X f es)) k) s r:=by
 unfold RT ac aE aV aE aX aE
 rw [h]
 show bb (ax (ax (dZ (X.call ⟨#[]⟩ f vs s₁.st) s₁) _) _)=_
 rw [hc]
 cases r <;> rfl
end
noncomputable def Rl.ret (st:St):Rl->Ret
 | .val vs _=>.ok (.int (hd vs)) st
 | .bad c _=>.exc c.xc st
section
variable {K n:Nat} {st:St} {m:Int}
theorem lq:∀ w:Dw,seq w.str "part"=jP w:=by intro w; cases w <;> decide +kernel
theorem jZ (w:Dw) {x y:Int} (hx:ik x) (hy:ik y):au PP K (n+2) ⟨#[]⟩ "reckoned" [.str w.str,.int x,.int y] st=(red w x y m).ret st:=by
 rw [rn_reckoned]
 show RT (gK _) _ _
 unfold gK red
 generalize hX:wX K (n+1)=X
 have hcall:X.call=au PP K (n+1):=by rw [← hX]; rfl
 have go:∀ (hp:jP w=true->y ≠ 0),RT (ac (aL 3 (aX X "plain" [ae 0,ae 1,ae 2])) (ac (bQ (bc .Or [aB (aa 3) .Gt (af (.int 1000000000000)),aB (aa 3) .Lt (dUn .USub (af (.int 1000000000000)))]) (ac (rais "TooGreat") (af .next)) (af .next)) (ac (aV (ae 3)) (af .next)))) ⟨[(0,.val (.str w.str)),(1,.val (.int x)),(2,.val (.int y))],st⟩
   ((if raw w x y > 1000000000000 ∨ raw w x y < -1000000000000 then Rl.bad .great m else .val [raw w x y] m).ret st):=fun hp=>by
  refine .asgFn (v:=.int (raw w x y)) (st':=st) rfl (by rw [hcall]; exact plain_ok w hx hp hy) ?_
  by_cases h1:(1000000000000:Int) < raw w x y
  ·rw [if_pos (.inl h1)]
   exact .ifB (c:=true) ((j1 (c:=decide ((1000000000000:Int) < raw w x y)) rfl).trans (by rw [decide_eq_true h1]; rfl)) ((RT.assoc .rais))
  ·by_cases h2:raw w x y < -1000000000000
   ·rw [if_pos (.inr h2)]
    exact .ifB (c:=decide (raw w x y < -1000000000000)) ((j1 (c:=decide ((1000000000000:Int) < raw w x y)) rfl).trans (by rw [decide_eq_false h1]; rfl)) (by rw [decide_eq_true h2]; exact (RT.assoc .rais))
   ·rw [if_neg (fun q=>q.elim h1 h2)]
    exact .ifB (c:=decide (raw w x y < -1000000000000)) ((j1 (c:=decide ((1000000000000:Int) < raw w x y)) rfl).trans (by rw [decide_eq_false h1]; rfl)) (by rw [decide_eq_false h2]; exact .next (.ret rfl rfl))
 by_cases hp:jP w=true
 ·by_cases hy0:y=0
  ·rw [if_pos ⟨hp,hy0⟩]
   exact .ifB (c:=decide (y=0)) ((gN (c:=seq w.str "part") rfl).trans (by rw [lq,hp]; rfl)) (by rw [decide_eq_true hy0]; exact (RT.assoc .rais))
  ·rw [if_neg fun q=>hy0 q.2]
   exact .ifB (c:=decide (y=0)) ((gN (c:=seq w.str "part") rfl).trans (by rw [lq,hp]; rfl)) (by rw [decide_eq_false hy0]; exact .next (go fun _=>hy0))
 ·have hp':jP w=false:=zDb.mpr hp
  rw [if_neg fun q=>hp q.1]
  exact .ifB (c:=false) ((gN (c:=seq w.str "part") rfl).trans (by rw [lq,hp']; rfl)) (.next (go fun q=>absurd q hp))
end
section
variable {i o:Nat} {c f m:Str} {s s':S} {l l':List (Str × AV)} {w:AV} {d:D AV} {X:Ctx} {es:List (D AV)} {vs:List AV}
theorem aP (hi:al i s.loc=some (.val (.obj c o))) (h:s.st[o]?=some (.flds l)) (hf:fV f l=some w):aw (aa i) f s=.ok w s:=by
 have h1:aa i s=.ok (.pl i) s:=by unfold aa; rw [hi]
 have h2:gf (.pl i) s=some (.obj c o):=by unfold gf; dsimp only; rw [hi]
 have h3:d8 (.pl i) s=some (o,l):=by unfold d8; rw [h2]; dsimp only; rw [h]
 show aE (aa i) _ s=_
 rw [aq h1]
 unfold nJ
 rw [h3]; dsimp only; rw [hf]
theorem cU (hd:d s=.ok w s') (hi:al i s'.loc=some (.val (.obj c o))) (h:s'.st[o]?=some (.flds l)) (hl:zCd l.length 100=true) (hs:kK f w l=l'):aO (aa i) f d s=.ok .next ⟨s'.loc,s'.st.set o (.flds l')⟩:=by
 have h1:aa i s'=.ok (.pl i) s':=by unfold aa; rw [hi]
 have h2:gf (.pl i) s'=some (.obj c o):=by unfold gf; dsimp only; rw [hi]
 have h3:d8 (.pl i) s'=some (o,l):=by unfold d8; rw [h2]; dsimp only; rw [h]
 have h4:ij (.pl i) f w s'=.ok () ⟨s'.loc,s'.st.set o (.flds l')⟩:=by
  unfold ij
  rw [h3]; dsimp only
  rw [hl,hs]; rfl
 unfold aO
 rw [aq hd,aq h1,aq h4]; rfl
theorem ef (hm:(X.P.find c m).isSome=true) (hi:al i s.loc=some (.val (.obj c o))) (h:s.st[o]?=some (.flds l)) (hs:bI es s=.ok vs s'):aW X (aa i) m es s=dZ (X.call c m (.obj c o::vs) s'.st) s' :=
 dMeth_at (ov:=.pl i) hm (by unfold aa; rw [hi]) (by unfold gf; dsimp only; rw [hi]) h hs
end
section
variable {pre r:St} {a b c:AO}
theorem a9:(pre++a::r)[pre.length]?=some a:=by rw [zBa (zAy _),Nat.sub_self]; rfl
theorem dY:(pre++a::b::r)[pre.length+1]?=some b:=by rw [zBa (zBc _ 1),zB9]; rfl
theorem gv:(pre++a::r).set pre.length c=pre++c::r:=by rw [List.set_append_right _ _ (zAy _),Nat.sub_self]; rfl
theorem mt:(pre++a::b::r).set (pre.length+1) c=pre++a::c::r:=by rw [List.set_append_right _ _ (zBc _ 1),zB9]; rfl
end
noncomputable abbrev telF (b:Nat) (F m g:Int):List (Str × AV):=[("functions",.cel (b+1)),("fuel",.int F),("made",.int m),("going",.int g)]
noncomputable abbrev cM (pre:St) (F m g:Int) (fv:AV):St:=pre++[.flds (telF pre.length F m g),.cont fv]
noncomputable abbrev isT (b:Nat) (s:St):Prop:=∃ l,s[b]?=some (AO.flds l)
theorem eh {pre:St} {F m g:Int} {fv:AV}:isT pre.length (cM pre F m g fv):=⟨_,a9⟩
noncomputable abbrev hJ (K n b:Nat) (t kn:AV) (st:St):Ret:=au PP K n "Teller" "worth" [.obj "Teller" b,t,kn] st
noncomputable abbrev cld (K n b:Nat) (f:AV) (l:List AV) (st:St):Ret:=au PP K n "Teller" "called" [.obj "Teller" b,f,.lst l] st
noncomputable abbrev eB (b:Nat) (t kn:AV):bp:=[(0,.val (.obj "Teller" b)),(1,.val t),(2,.val kn)]
section
variable {K n b:Nat} {kn t a c d:AV} {s s₁ s₂:St} {i v y z:Int} {r:Ret} {x f:Str} {L L₁:bp}
theorem fK {p e:D AV} (h0:al 0 L=some (.val (.obj "Teller" b))) (hs:isT b s) (he:bI [p,e] ⟨L,s⟩=.ok [t,kn] ⟨L₁,s₁⟩):aW (wX K n) (aa 0) "worth" [p,e] ⟨L,s⟩=dZ (hJ K n b t kn s₁) ⟨L₁,s₁⟩ :=
 ef (X:=wX K n) (s:=⟨L,s⟩) tel_worth h0 hs.choose_spec he
theorem mm (h0:al 0 L=some (.val (.obj "Teller" b))) (hs:isT b s) {p e:D AV} (he:bI [p,e] ⟨L,s⟩=.ok [t,kn] ⟨L₁,s₁⟩) {q:Ret} (hq:hJ K n b t kn s₁=q):aW (wX K n) (aa 0) "worth" [p,e] ⟨L,s⟩=dZ q ⟨L₁,s₁⟩:=by rw [fK h0 hs he,hq]
theorem worth_num:hJ K (n+1) b (.tup [.str "num",.int i]) kn s=.ok (.int i) s:=by
 show au PP K (n+1) _ _ _ _=_
 rw [b8]
 show RT (aR _) _ _
 unfold aR
 exact .eqT (x:="num") (y:="num") (by decide +kernel) rfl (.assoc (.ret (v:=.int i) (s':=⟨eB b (.tup [.str "num",.int i]) kn,s⟩) rfl rfl))
theorem worth_name {ks ws:List AV} {w:AV} (h:dI (.str x) ks ws=some w):hJ K (n+1) b (.tup [.str "name",.str x]) (.dct ks ws) s=.ok w s:=by
 show au PP K (n+1) _ _ _ _=_
 rw [b8]
 show RT (aR _) _ _
 unfold aR
 exact .eqN (x:="name") (y:="num") (by decide +kernel) rfl (.next (.eqT (x:="name") (y:="name") (by decide +kernel) rfl (.assoc (.retO (o:=dI (.str x) ks ws) (s':=⟨eB b (.tup [.str "name",.str x]) (.dct ks ws),s⟩) rfl h rfl))))
theorem worth_bin (w:Dw) (hs:isT b s) :
  (∀ x s₁,hJ K n b a kn s=.exc x s₁->hJ K (n+1) b (.tup [.str w.str,a,c]) kn s=.exc x s₁) /\
  (∀ y s₁,hJ K n b a kn s=.ok (.int y) s₁->isT b s₁->(∀ x s₂,hJ K n b c kn s₁=.exc x s₂->hJ K (n+1) b (.tup [.str w.str,a,c]) kn s=.exc x s₂) /\
   (∀ z s₂,hJ K n b c kn s₁=.ok (.int z) s₂->hJ K (n+1) b (.tup [.str w.str,a,c]) kn s=au PP K n ⟨#[]⟩ "reckoned" [.str w.str,.int y,.int z] s₂)):=by
 have T:∀ {r:Ret},RT (ac (aL 5 (aW (wX K n) (aa 0) "worth" [am (aa 1) (af (.int 1)),ae 2])) (ac (aL 6 (aW (wX K n) (aa 0) "worth" [am (aa 1) (af (.int 2)),ae 2])) (ac (aV (aX (wX K n) "reckoned" [am (aa 1) (af (.int 0)),ae 5,ae 6])) (af .next)))) ⟨eB b (.tup [.str w.str,a,c]) kn,s⟩ r->hJ K (n+1) b (.tup [.str w.str,a,c]) kn s=r:=fun h=>by
  show au PP K (n+1) _ _ _ _=_
  rw [b8]
  show RT (aR (wX K n)) _ _
  unfold aR
  exact .eqN (x:=w.str) (y:="num") (by cases w <;> decide +kernel) rfl (.next (.eqN (x:=w.str) (y:="name") (by cases w <;> decide +kernel) rfl (.next (.eqN (x:=w.str) (y:="choose") (by cases w <;> decide +kernel) rfl (.next (.eqN (x:=w.str) (y:="let") (by cases w <;> decide +kernel) rfl (.next (.eqN (x:=w.str) (y:="call") (by cases w <;> decide +kernel) rfl (.next h)))))))))
 refine ⟨fun x s₁ h=>T (.asgX (mm (L₁:=eB b (.tup [.str w.str,a,c]) kn) rfl hs rfl h) rfl),fun y s₁ h h1=>⟨fun x s₂ h2=>T (.asgR (fK (L₁:=eB b (.tup [.str w.str,a,c]) kn) rfl hs rfl) h (.asgX (mm (L₁:=eB b (.tup [.str w.str,a,c]) kn++[(5,.val (.int y))]) rfl h1 rfl h2) rfl)),fun z s₂ h2=>T ?_⟩⟩
 refine .asgR (fK (L₁:=eB b (.tup [.str w.str,a,c]) kn) rfl hs rfl) h (.asgR (fK (L₁:=eB b (.tup [.str w.str,a,c]) kn++[(5,.val (.int y))]) rfl h1 rfl) h2 ?_)
 exact .retFn (X:=wX K n) (vs:=[.str w.str,.int y,.int z]) (s₁:=⟨eB b (.tup [.str w.str,a,c]) kn++[(5,.val (.int y)),(6,.val (.int z))],s₂⟩) rfl rfl
theorem pq (hs:isT b s) :
  (∀ x s₁,hJ K n b a kn s=.exc x s₁->hJ K (n+1) b (.tup [.str "choose",a,c,d]) kn s=.exc x s₁) /\
  (∀ i s₁,hJ K n b a kn s=.ok (.int i) s₁->isT b s₁->hJ K (n+1) b (.tup [.str "choose",a,c,d]) kn s=if i=0 then hJ K n b d kn s₁ else hJ K n b c kn s₁):=by
 refine ⟨fun x s₁ h=>?_,fun i s₁ h h1=>?_⟩ <;>
 (show au PP K (n+1) _ _ _ _=_
  rw [b8]
  show RT (aR (wX K n)) _ _
  unfold aR
  refine .eqN (x:="choose") (y:="num") (by decide +kernel) rfl (.next (.eqN (x:="choose") (y:="name") (by decide +kernel) rfl (.next (.eqT (x:="choose") (y:="choose") (by decide +kernel) rfl (.assoc ?_))))))
 ·refine .ifX (s':=⟨eB b (.tup [.str "choose",a,c,d]) kn,s₁⟩) ?_ rfl
  show ax (aW (wX K n) (aa 0) "worth" _ _) _=_
  rw [mm (L₁:=eB b (.tup [.str "choose",a,c,d]) kn) rfl hs rfl h]; rfl
 ·have e:aB (aW (wX K n) (aa 0) "worth" [am (aa 1) (af (.int 1)),ae 2]) .NotEq (af (.int 0)) ⟨eB b (.tup [.str "choose",a,c,d]) kn,s⟩=.ok (.bool (!decide (i=0))) ⟨eB b (.tup [.str "choose",a,c,d]) kn,s₁⟩:=by
   show ax (aW (wX K n) (aa 0) "worth" _ _) _=_
   rw [mm (L₁:=eB b (.tup [.str "choose",a,c,d]) kn) rfl hs rfl h]; rfl
  refine .ifB e ?_
  by_cases hi:i=0
  ·rw [if_pos hi,decide_eq_true hi]
   exact .next (.assoc (.retR (fK (L₁:=eB b (.tup [.str "choose",a,c,d]) kn) rfl h1 rfl) rfl))
  ·rw [if_neg hi,decide_eq_false hi]
   exact .assoc (.retR (fK (L₁:=eB b (.tup [.str "choose",a,c,d]) kn) rfl h1 rfl) rfl)
noncomputable abbrev m6 (b:Nat) (t kn:AV) (ks ws:List AV):bp:=eB b t kn++[(3,.own (.dct ks ws))]
theorem worth_let {ks ws:List AV} (hs:isT b s) (hk:ks.length<=1000) :
  (∀ y s₁,hJ K n b a (.dct ks ws) s=.exc y s₁->hJ K (n+1) b (.tup [.str "let",.str x,a,c]) (.dct ks ws) s=.exc y s₁) /\
  (∀ y s₁,hJ K n b a (.dct ks ws) s=.ok (.int y) s₁->isT b s₁->hJ K (n+1) b (.tup [.str "let",.str x,a,c]) (.dct ks ws) s=hJ K n b c (.dct (ce (.str x) ks) (cG (.str x) (.int y) ks ws)) s₁):=by
 refine ⟨fun y s₁ h=>?_,fun y s₁ h h1=>?_⟩ <;>
 (show au PP K (n+1) _ _ _ _=_
  rw [b8]
  show RT (aR (wX K n)) _ _
  unfold aR
  refine .eqN (x:="let") (y:="num") (by decide +kernel) rfl (.next (.eqN (x:="let") (y:="name") (by decide +kernel) rfl (.next (.eqN (x:="let") (y:="choose") (by decide +kernel) rfl (.next (.eqT (x:="let") (y:="let") (by decide +kernel) rfl (.assoc ?_)))))))
  refine .go (s':=⟨m6 b (.tup [.str "let",.str x,a,c]) (.dct ks ws) ks ws,s⟩) rfl (.assoc ?_)
  have hw:=mm (K:=K) (n:=n) (L:=m6 b (.tup [.str "let",.str x,a,c]) (.dct ks ws) ks ws) (L₁:=m6 b (.tup [.str "let",.str x,a,c]) (.dct ks ws) ks ws) (p:=am (aa 1) (af (.int 2))) (e:=ae 2) rfl hs rfl h)
 ·refine .goX (s':=⟨m6 b (.tup [.str "let",.str x,a,c]) (.dct ks ws) ks ws,s₁⟩) ?_ rfl
  show ax (aW (wX K n) (aa 0) "worth" _ _) _=_
  rw [hw]; rfl
 ·refine .go (s':=⟨m6 b (.tup [.str "let",.str x,a,c]) (.dct ks ws) (ce (.str x) ks) (cG (.str x) (.int y) ks ws),s₁⟩) (dG (S₁:=⟨m6 b (.tup [.str "let",.str x,a,c]) (.dct ks ws) ks ws,s₁⟩) (hw.trans rfl) rfl rfl rfl (iL hk) rfl) (.assoc ?_)
  exact .retR (fK (L₁:=eB b (.tup [.str "let",.str x,a,c]) (.dct ks ws)++[(3,.val (.dct (ce (.str x) ks) (cG (.str x) (.int y) ks ws)))]) rfl h1 rfl) rfl
noncomputable abbrev wBd (K n:Nat):D Fl:=ac (c8 (bY (aa 4) (aW (wX K n) (aa 0) "worth" [ae 5,ae 2]))) (af .next)
theorem worth_call {ts:List AV} :
  (∀ x L' s₁,br (some 5,[]) (wBd K n) ts ⟨eB b (.tup [.str "call",.str f,.tup ts]) kn++[(4,.own (.lst []))],s⟩=.exc x ⟨L',s₁⟩->hJ K (n+1) b (.tup [.str "call",.str f,.tup ts]) kn s=.exc x s₁) /\
  (∀ vs L' s₁,br (some 5,[]) (wBd K n) ts ⟨eB b (.tup [.str "call",.str f,.tup ts]) kn++[(4,.own (.lst []))],s⟩=.ok .next ⟨L',s₁⟩->al 0 L'=some (.val (.obj "Teller" b))->al 1 L'=some (.val (.tup [.str "call",.str f,.tup ts]))->al 4 L'=some (.own (.lst vs))->isT b s₁->hJ K (n+1) b (.tup [.str "call",.str f,.tup ts]) kn s=cld K n b (.str f) vs s₁):=by
 refine ⟨fun x L' s₁ h=>?_,fun vs L' s₁ h g0 g1 g4 h1=>?_⟩ <;>
 (show au PP K (n+1) _ _ _ _=_
  rw [b8]
  show RT (aR (wX K n)) _ _
  unfold aR
  refine .eqN (x:="call") (y:="num") (by decide +kernel) rfl (.next (.eqN (x:="call") (y:="name") (by decide +kernel) rfl (.next (.eqN (x:="call") (y:="choose") (by decide +kernel) rfl (.next (.eqN (x:="call") (y:="let") (by decide +kernel) rfl (.next (.eqT (x:="call") (y:="call") (by decide +kernel) rfl (.assoc ?_)))))))))
  refine .go (s':=⟨eB b (.tup [.str "call",.str f,.tup ts]) kn++[(4,.own (.lst []))],s⟩) rfl (.assoc ?_))
 ·refine .goX (s':=⟨L',s₁⟩) ?_ rfl
  exact h
 ·refine .forI (l:=ts) (s₁:=⟨eB b (.tup [.str "call",.str f,.tup ts]) kn++[(4,.own (.lst []))],s⟩) rfl h (.assoc ?_)
  have sq:bI [am (aa 1) (af (.int 1)),ae 4] ⟨L',s₁⟩=.ok [.str f,.lst vs] ⟨ai 4 (.val (.lst vs)) L',s₁⟩:=ag (aU (ba g1) rfl (bV g1) rfl) (ag (gt g4) rfl)
  exact .retR (ef (X:=wX K n) (s:=⟨L',s₁⟩) lG g0 h1.choose_spec sq) rfl
end
noncomputable def WR (pre:St) (F:Int) (fv:AV) (g:Nat):Rl->Ret->Prop
 | .val vs m,r=>r=.ok (.int (hd vs)) (cM pre F m (20 - (g:Int)) fv)
 | .bad c m,r=>∃ g',r=.exc c.xc (cM pre F m g' fv)
section
variable {K n g:Nat} {pre:St} {F m:Int} {fv:AV} {sig:Str->Option Nat} {call:Str->List Int->Int->Rl}
noncomputable def WL (K n:Nat) (pre:St) (F:Int) (fv:AV) (g:Nat) (ts:List AV) (tree kn:AV) (m:Int) (rl:Rl):Prop:=∀ (L:bp) (acc:List Int),acc.length+ts.length<=900->al 0 L=some (.val (.obj "Teller" pre.length))->al 1 L=some (.val tree)->al 2 L=some (.val kn)->al 4 L=some (.own (.lst (acc.map .int)))->match rl with
 | .val vs m'=>∃ L',br (some 5,[]) (wBd K n) ts ⟨L,cM pre F m (20 - (g:Int)) fv⟩=.ok .next ⟨L',cM pre F m' (20 - (g:Int)) fv⟩/\al 0 L'=some (.val (.obj "Teller" pre.length))/\al 1 L'=some (.val tree)/\al 4 L'=some (.own (.lst ((acc++vs).map .int)))
 | .bad c m'=>∃ L' g',br (some 5,[]) (wBd K n) ts ⟨L,cM pre F m (20 - (g:Int)) fv⟩=.exc c.xc ⟨L',cM pre F m' g' fv⟩
theorem forGo_X {i:Nat} {b:D Fl} {x:AV} {rl:List AV} {s s₂:S} {c:Str} (h:b ⟨ai i (.val x) s.loc,s.st⟩=.exc c s₂):br (some i,[]) b (x::rl) s=.exc c s₂:=by
 show aE b _ ⟨ai i (.val x) s.loc,s.st⟩=_
 unfold aE; rw [h]; rfl
theorem WL.nil {tree kn:AV}:WL K n pre F fv g [] tree kn m (.val [] m):=fun L acc _ h0 h1 h2 h4=>⟨L,rfl,h0,h1,by rw [zAx]; exact h4⟩
theorem WL.cons {t tree kn:AV} {ts:List AV} {r1:Rl} {f:Int->Rl} (h1:WR pre F fv g r1 (hJ K n pre.length t kn (cM pre F m (20 - (g:Int)) fv))) (h2:∀ vs m',r1=.val vs m'->WL K n pre F fv g ts tree kn m' (f m')):WL K n pre F fv g (t::ts) tree kn m (r1.bind fun v m=>(f m).bind fun vs m=>.val (hd v::vs) m):=fun L acc hl g0 g1 g2 g4=>by
 have hl:acc.length+(ts.length+1)<=900:=hl
 have q0:al 0 (ai 5 (.val t) L)=some (.val (.obj "Teller" pre.length)):=(ah (by decide)).trans g0
 have q1:al 1 (ai 5 (.val t) L)=some (.val tree):=(ah (by decide)).trans g1
 have q2:al 2 (ai 5 (.val t) L)=some (.val kn):=(ah (by decide)).trans g2
 have q4:al 4 (ai 5 (.val t) L)=some (.own (.lst (acc.map .int))):=(ah (by decide)).trans g4
 have q5:al 5 (ai 5 (.val t) L)=some (.val t):=aA
 generalize hq:ai 5 (.val t) L=L1 at q0 q1 q2 q4 q5
 have sq:∀ st,bI [ae 5,ae 2] ⟨L1,st⟩=.ok [t,kn] ⟨L1,st⟩:=fun st=>ag (bk q5) (ag (bk q2) rfl)
 have hw:=fK (K:=K) (n:=n) (s:=cM pre F m (20 - (g:Int)) fv) q0 eh (sq _)
 cases r1 with
 | bad c m' =>
  obtain ⟨g',e⟩:=h1
  rw [e] at hw
  refine ⟨L1,g',forGo_X (by
   rw [hq]
   show ax (ax (bY (aa 4) _ _) _) _=_
   have e2:bY (aa 4) (aW (wX K n) (aa 0) "worth" [ae 5,ae 2]) ⟨L1,cM pre F m (20 - (g:Int)) fv⟩=.exc c.xc ⟨L1,cM pre F m' g' fv⟩:=by
    have hc:dE (.pl 4) ⟨L1,cM pre F m (20 - (g:Int)) fv⟩=.ok () ⟨L1,cM pre F m (20 - (g:Int)) fv⟩:=by unfold dE; rw [mx q4]; rfl
    unfold bY
    rw [aq (ba q4),aq hc]
    show ax (aW _ _ _ _ _) _=_
    rw [hw]; rfl
   rw [e2]; rfl)⟩
 | val v m' =>
  have h1:hJ K n pre.length t kn (cM pre F m (20 - (g:Int)) fv)=.ok (.int (hd v)) (cM pre F m' (20 - (g:Int)) fv):=h1
  rw [h1] at hw
  have e1:wBd K n ⟨L1,cM pre F m (20 - (g:Int)) fv⟩=.ok .next ⟨ai 4 (.own (.lst ((acc++[hd v]).map .int))) L1,cM pre F m' (20 - (g:Int)) fv⟩ :=
   bP (o:=.ok .next _) (cu (gY (S₁:=⟨L1,cM pre F m' (20 - (g:Int)) fv⟩) (k:=4) (l:=acc.map .int) (v:=.int (hd v)) (ba q4) q4 (hw.trans rfl) q4 (by rw [zAd]; lia) (by rw [zAr]; rfl))) trivial
  have rest:=h2 v m' rfl (ai 4 (.own (.lst ((acc++[hd v]).map .int))) L1) (acc++[hd v]) (by rw [zAc]; show _+1+_<=_; lia) ((ah (by decide)).trans q0) ((ah (by decide)).trans q1) ((ah (by decide)).trans q2) aA
  show match (f m').bind fun vs m=>Rl.val (hd v::vs) m with | .val vs m'=>_ | .bad c m'=>_
  cases hf:f m' with
  | bad c m2 =>
   rw [hf] at rest
   obtain ⟨L',g',e⟩:=rest
   exact ⟨L',g',cf (by rw [hq]; exact e1) e⟩
  | val vs m2 =>
   rw [hf] at rest
   obtain ⟨L',e,f0,f1,f4⟩:=rest
   exact ⟨L',cf (by rw [hq]; exact e1) e,f0,f1,by rw [f4,zAm]; rfl⟩
noncomputable def WG (K n:Nat) (pre:St) (F:Int) (fv:AV) (g:Nat) (t:Tr) (kn:AV) (m:Int) (rl:Rl):Option Nat->Prop
 | none=>WR pre F fv g rl (hJ K n pre.length t.enc kn (cM pre F m (20 - (g:Int)) fv))
 | some _=>∀ tree,WL K n pre F fv g (dT t.enc) tree kn m rl
theorem worth_ok (HC:∀ f vs m n,sig f=some vs.length->(∀ v ∈ vs,ik v)->15 * g+1<=n->WR pre F fv g (call f vs m) (cld K n pre.length (.str f) (vs.map .int) (cM pre F m (20 - (g:Int)) fv)))
  (hg:∀ f vs m,sig f=some vs.length->(∀ v ∈ vs,ik v)->(call f vs m).good none) :
  ∀ (t:Tr) {h:Nat} {ns:List Str} {k:Option Nat} {e:Env} {ks ws:List AV} {m:Int} {n:Nat},t.wf sig h ns k->DEnv .int ks ws e->ks.length+h<=900->(∀ x ∈ ns,(aK x e).isSome=true)->(∀ p ∈ e,ik p.2)->15 * g+h+3<=n->WG K n pre F fv g t (.dct ks ws) m (dS call t e m) k:=by
 intro t
 induction t with
 | num i =>
  intro h ns k e ks ws m n q D hl hn he hN
  obtain ⟨rfl,h0,_⟩:=q
  obtain ⟨n,rfl⟩:∃ n',n=n'+1:=⟨n - 1,by lia⟩
  exact worth_num
 | name x =>
  intro h ns k e ks ws m n q D hl hn he hN
  obtain ⟨rfl,h0,hx⟩:=q
  obtain ⟨n,rfl⟩:∃ n',n=n'+1:=⟨n - 1,by lia⟩
  obtain ⟨v,hv⟩:=zA1.mp (hn x hx)
  show hJ K (n+1) pre.length _ _ _=.ok (.int ((aK x e).getD 0)) _
  rw [hv]
  exact worth_name (by rw [D.get,hv]; rfl)
 | deed w a b iha ihb =>
  intro h ns k e ks ws m n q D hl hn he hN
  obtain ⟨rfl,h',rfl,h1,h2⟩:=q
  obtain ⟨n,rfl⟩:∃ n',n=n'+2+1:=⟨n - 3,by lia⟩
  have A:=iha (m:=m) (n:=n+2) h1 D (by lia) hn he (by lia)
  have B:=worth_bin (K:=K) (n:=n+2) (a:=a.enc) (c:=b.enc) (kn:=.dct ks ws) w (eh (pre:=pre) (F:=F) (m:=m) (g:=20 - (g:Int)) (fv:=fv))
  have gA:=cy hg a (m:=m) h1 he
  show WR pre F fv g ((dS call a e m).bind _) (hJ K (n+2+1) pre.length (.tup [.str w.str,a.enc,b.enc]) _ _)
  cases ha:dS call a e m with
  | bad c m1 =>
   rw [ha] at A
   obtain ⟨g',e1⟩:=A
   exact ⟨g',B.1 _ _ e1⟩
  | val x m1 =>
   rw [ha] at A gA
   have C:=B.2 _ _ A eh
   have A2:=ihb (m:=m1) (n:=n+2) h2 D (by lia) hn he (by lia)
   have gB:=cy hg b (m:=m1) h2 he
   show WR pre F fv g ((dS call b e m1).bind _) _
   cases hb:dS call b e m1 with
   | bad c m2 =>
    rw [hb] at A2
    obtain ⟨g',e1⟩:=A2
    exact ⟨g',C.1 _ _ e1⟩
   | val y m2 =>
    rw [hb] at A2 gB
    show WR pre F fv g (red w (hd x) (hd y) m2) _
    rw [C.2 _ _ A2,jZ (m:=m2) w (eM gA.1) (eM gB.1)]
    unfold red
    split
    ·exact ⟨_,rfl⟩
    ·split
     ·exact ⟨_,rfl⟩
     ·rfl
 | choose a b c iha ihb ihc =>
  intro h ns k e ks ws m n q D hl hn he hN
  obtain ⟨rfl,h',rfl,h1,h2,h3⟩:=q
  obtain ⟨n,rfl⟩:∃ n',n=n'+1:=⟨n - 1,by lia⟩
  have A:=iha (m:=m) (n:=n) h1 D (by lia) hn he (by lia)
  have B:=pq (K:=K) (n:=n) (a:=a.enc) (c:=b.enc) (d:=c.enc) (kn:=.dct ks ws) (eh (pre:=pre) (F:=F) (m:=m) (g:=20 - (g:Int)) (fv:=fv))
  show WR pre F fv g ((dS call a e m).bind _) (hJ K (n+1) pre.length (.tup [.str "choose",a.enc,b.enc,c.enc]) _ _)
  cases ha:dS call a e m with
  | bad c m1 =>
   rw [ha] at A
   obtain ⟨g',e1⟩:=A
   exact ⟨g',B.1 _ _ e1⟩
  | val x m1 =>
   rw [ha] at A
   show WR pre F fv g (if hd x=0 then dS call c e m1 else dS call b e m1) _
   rw [B.2 _ _ A eh]
   by_cases hx:hd x=0
   ·rw [if_pos hx,if_pos hx]; exact ihc h3 D (by lia) hn he (by lia)
   ·rw [if_neg hx,if_neg hx]; exact ihb h2 D (by lia) hn he (by lia)
 | lt x a b iha ihb =>
  intro h ns k e ks ws m n q D hl hn he hN
  obtain ⟨rfl,h',rfl,h1,h2⟩:=q
  obtain ⟨n,rfl⟩:∃ n',n=n'+1:=⟨n - 1,by lia⟩
  have A:=iha (m:=m) (n:=n) h1 D (by lia) hn he (by lia)
  have B:=worth_let (K:=K) (n:=n) (a:=a.enc) (c:=b.enc) (x:=x) (ks:=ks) (ws:=ws) (eh (pre:=pre) (F:=F) (m:=m) (g:=20 - (g:Int)) (fv:=fv)) (by lia)
  have gA:=cy hg a (m:=m) h1 he
  show WR pre F fv g ((dS call a e m).bind _) (hJ K (n+1) pre.length (.tup [.str "let",.str x,a.enc,b.enc]) _ _)
  cases ha:dS call a e m with
  | bad c m1 =>
   rw [ha] at A
   obtain ⟨g',e1⟩:=A
   exact ⟨g',B.1 _ _ e1⟩
  | val v m1 =>
   rw [ha] at A gA
   show WR pre F fv g (dS call b ((x,hd v)::e) m1) _
   rw [B.2 _ _ A eh]
   refine ihb h2 D.set (by have:=(fD (k:=.str x) (v:=.int (hd v)) D.len).2; lia) (fun y hy=>?_) (fun p hp=>?_) (by lia)
   ·show (if seq y x then some (hd v) else aK y e).isSome=true
    cases hs:seq y x with
    | true=>rfl
    | false =>
     rcases zA2.mp hy with hy | hy
     ·exact hn y hy
     ·rw [zAi.mp hy,bS] at hs; exact eN Bool.ctorIdx hs rfl
   ·rcases zAl.mp hp with rfl | hp
    ·exact eM gA.1
    ·exact he p hp
 | call f l ih =>
  intro h ns k e ks ws m n q D hl hn he hN
  obtain ⟨rfl,h',rfl,c,hc,hc1,h2⟩:=q
  obtain ⟨n,rfl⟩:∃ n',n=n'+1:=⟨n - 1,by lia⟩
  have A:=ih (m:=m) (n:=n) h2 D (by lia) hn he (by lia)
  have gA:=cy hg l (m:=m) h2 he
  obtain ⟨w1,w2⟩:=g7 h2
  have A:=A (.tup [.str "call",.str f,.tup (dT l.enc)]) (eB pre.length (.tup [.str "call",.str f,.tup (dT l.enc)]) (.dct ks ws)++[(4,.own (.lst []))]) [] (by rw [w2]; show 0+c<=900; lia) rfl rfl rfl rfl
  have B:=worth_call (K:=K) (n:=n) (b:=pre.length) (f:=f) (kn:=.dct ks ws) (s:=cM pre F m (20 - (g:Int)) fv) (ts:=dT l.enc)
  show WR pre F fv g ((dS call l e m).bind fun vs m=>call f vs m) (hJ K (n+1) pre.length (.tup [.str "call",.str f,l.enc]) _ _)
  rw [w1]
  cases hl:dS call l e m with
  | bad c m1 =>
   rw [hl] at A
   obtain ⟨L',g',e1⟩:=A
   exact ⟨g',B.1 _ _ _ e1⟩
  | val vs m1 =>
   rw [hl] at A gA
   obtain ⟨L',e1,f0,f1,f4⟩:=A
   rw [B.2 _ _ _ e1 f0 f1 f4 eh]
   exact HC f vs m1 n (by rw [hc,gA.2]; rfl) gA.1 (by lia)
 | nil =>
  intro h ns k e ks ws m n q D hl hn he hN
  cases q
  exact fun tree=>WL.nil
 | cons t r iht ihr =>
  intro h ns k e ks ws m n q D hl hn he hN
  obtain ⟨c,rfl,h1,h2⟩:=q
  exact fun tree=>WL.cons (iht h1 D hl hn he hN) fun vs m' _=>ihr h2 D hl hn he hN tree
end
theorem jH {α:Type} {x:Str} {v:α}:∀ {e:List (Str × α)},(x,v) ∈ e->(aK x e).isSome=true
 | (y,w)::r,h=>by
  show (if seq x y then some w else aK x r).isSome=true
  cases hs:seq x y with
  | true=>rfl
  | false =>
   rcases zAl.mp h with q | q
   ·cases q; rw [bS] at hs; exact eN Bool.ctorIdx hs rfl
   ·exact jH q
theorem zip_has {α:Type} {x:Str}:∀ {ps:List Str} {vs:List α},ps.length=vs.length->x ∈ ps->∃ v,(x,v) ∈ ps.zip vs
 | p::ps,v::vs,hl,h=>by
  rcases zAl.mp h with rfl | h
  ·exact ⟨v,zAb⟩
  ·exact (zip_has (Nat.succ.inj hl) h).imp fun _ q=>zAe _ q
 | _::_,[],hl,_=>nomatch hl
noncomputable abbrev dz (fs:List Fu):AV:=.dct (fs.map fun u=>.str u.nm) (fs.map Fu.enc)
theorem fn_get {f:Str}:∀ fs:List Fu,dI (.str f) (fs.map fun u=>.str u.nm) (fs.map Fu.enc)=(bx f fs).map Fu.enc
 | []=>rfl
 | u::r=>by
  show (if seq f u.nm then some u.enc else dI (.str f) (r.map fun u=>.str u.nm) (r.map Fu.enc))=(if seq f u.nm then some u else bx f r).map Fu.enc
  rw [fn_get r]
  cases seq f u.nm <;> rfl
noncomputable abbrev zB:D Fl:=ac (bh (aa 4) (ae 5) (ae 6)) (af .next)
theorem zip_loop {st:St} {o u:LV}:∀ (l:List (Str × Int)) (e:Env) (ks ws:List AV) (L:bp),DEnv .int ks ws e->ks.length+l.length<=500->al 4 L=some (.own (.dct ks ws))->al 0 L=some o->al 3 L=some u ->
  ∃ L' ks' ws',br (none,[5,6]) zB (l.map fun p=>.tup [.str p.1,.int p.2]) ⟨L,st⟩=.ok .next ⟨L',st⟩/\al 0 L'=some o/\al 3 L'=some u/\al 4 L'=some (.own (.dct ks' ws'))/\DEnv .int ks' ws' (l.reverse++e)/\ks'.length<=ks.length+l.length
 | [],e,ks,ws,L,D,hl,h4,h0,h3=>⟨L,ks,ws,rfl,h0,h3,h4,D,zAy _⟩
 | (p,v)::r,e,ks,ws,L,D,hl,h4,h0,h3=>by
  have hl:ks.length+(r.length+1)<=500:=hl
  have hd:=(fD (k:=.str p) (v:=.int v) D.len).2
  have e1:zB ⟨ai 6 (.val (.int v)) (ai 5 (.val (.str p)) L),st⟩=.ok .next ⟨ai 4 (.own (.dct (ce (.str p) ks) (cG (.str p) (.int v) ks ws))) (ai 6 (.val (.int v)) (ai 5 (.val (.str p)) L)),st⟩ :=
   have q4:al 4 (ai 6 (.val (.int v)) (ai 5 (.val (.str p)) L))=some (.own (.dct ks ws)):=(ah (by decide)).trans ((ah (by decide)).trans h4)
   bP (o:=.ok .next _) (dG (S₁:=⟨ai 6 (.val (.int v)) (ai 5 (.val (.str p)) L),st⟩) (bk aA) (ba q4) (bk ((ah (by decide)).trans aA)) q4 (iL (by lia)) rfl) trivial
  obtain ⟨L',ks',ws',f1,f2,f3,f4,f5,f6⟩:=zip_loop (st:=st) (o:=o) (u:=u) r ((p,v)::e) (ce (.str p) ks) (cG (.str p) (.int v) ks ws) (ai 4 (.own (.dct (ce (.str p) ks) (cG (.str p) (.int v) ks ws))) (ai 6 (.val (.int v)) (ai 5 (.val (.str p)) L))) D.set (by lia) aA ((ah (by decide)).trans ((ah (by decide)).trans ((ah (by decide)).trans h0))) ((ah (by decide)).trans ((ah (by decide)).trans ((ah (by decide)).trans h3)))
  refine ⟨L',ks',ws',cq (vs:=[.str p,.int v]) rfl e1 f1,f2,f3,f4,by rw [zCz,zAm]; exact f5,zAj f6 (by rw [zCq]; lia)⟩
section
variable {K:Nat} {pre:St} {F:Int} {fs:List Fu}
theorem oD {m m' g g':Int} {fv:AV}:(cM pre F m g fv).set pre.length (.flds (telF pre.length F m' g'))=cM pre F m' g' fv:=gv
noncomputable abbrev cL (b:Nat) (f:Str) (vs:List Int):bp:=[(0,.val (.obj "Teller" b)),(1,.val (.str f)),(2,.val (.lst (vs.map .int)))]
theorem eq_at {d:D AV} {x y:Int} {s:S} (h:d s=.ok (.int x) s):aB d .Eq (af (.int y)) s=.ok (.bool (decide (x=y))) s:=(bT h rfl).trans rfl
theorem zip_enc (ps:List Str) (vs:List Int):lZ (ps.map .str) (vs.map .int)=(ps.zip vs).map fun p=>.tup [.str p.1,.int p.2]:=by
 unfold lZ
 rw [List.zip_map,zCg]; rfl
theorem called_ok (P:PW fs):∀ (g:Nat) (f:Str) (vs:List Int) (m:Int) (n:Nat),bW fs f=some vs.length->(∀ v ∈ vs,ik v)->15 * g+1<=n->g<=20->WR pre F (dz fs) g (b9 fs F g f vs m) (cld K n pre.length (.str f) (vs.map .int) (cM pre F m (20 - (g:Int)) (dz fs))):=by
 intro g
 induction g with
 | zero =>
  intro f vs m n _ _ hN _
  obtain ⟨n,rfl⟩:∃ n',n=n'+1:=⟨n - 1,by lia⟩
  refine ⟨20,?_⟩
  show au PP K (n+1) _ _ _ (cM pre F m (20 - 0) (dz fs))=_
  rw [fo,Int.sub_zero]
  show RT (bF (wX K n)) ⟨cL pre.length f vs,cM pre F m 20 (dz fs)⟩ _
  unfold bF
  exact .ifT (φ:=(20:Int)=20) rfl (eq_at (aP rfl a9 (by kernel_rfl))) (.assoc .rais)
 | succ g ih =>
  intro f vs m n hs hv hN h20
  obtain ⟨n,rfl⟩:∃ n',n=n'+1:=⟨n - 1,by lia⟩
  obtain ⟨u,hu,hl⟩:=zAo.mp hs
  have hmem:=cD hu
  have hps:=P.ps u hmem.1
  obtain ⟨G,hGd⟩:∃ G:Int,G=20 - ((g+1:Nat):Int):=⟨_,rfl⟩
  have hG:G+1=20 - (g:Int):=by lia
  have hG2:G ≠ 20:=by lia
  have aG:∀ {m G:Int} {L:bp},al 0 L=some (.val (.obj "Teller" pre.length))->aw (aa 0) "going" ⟨L,cM pre F m G (dz fs)⟩=.ok (.int G) ⟨L,cM pre F m G (dz fs)⟩:=fun h=>aP h a9 (by kernel_rfl)
  have aM:∀ {m G:Int} {L:bp},al 0 L=some (.val (.obj "Teller" pre.length))->aw (aa 0) "made" ⟨L,cM pre F m G (dz fs)⟩=.ok (.int m) ⟨L,cM pre F m G (dz fs)⟩:=fun h=>aP h a9 (by kernel_rfl)
  have aF:aw (aa 0) "fuel" ⟨cL pre.length f vs,cM pre F m G (dz fs)⟩=.ok (.int F) ⟨cL pre.length f vs,cM pre F m G (dz fs)⟩:=aP rfl a9 (by kernel_rfl)
  have t1:=eq_at (y:=20) (aG (m:=m) (G:=G) (L:=cL pre.length f vs) rfl)
  have t2:aB (aw (aa 0) "made") .Eq (aw (aa 0) "fuel") ⟨cL pre.length f vs,cM pre F m G (dz fs)⟩=.ok (.bool (decide (m=F))) ⟨cL pre.length f vs,cM pre F m G (dz fs)⟩:=(bT (aM rfl) aF).trans rfl
  show WR pre F (dz fs) (g+1) (if m=F then Rl.bad .dry m else match bx f fs with | some u=>dS (b9 fs F g) u.bd (u.ps.zip vs).reverse (m+1) | none=>.bad .deep m) (au PP K (n+1) _ _ _ (cM pre F m (20 - ((g+1:Nat):Int)) (dz fs)))
  rw [← hGd,fo]
  by_cases hm:m=F
  ·rw [if_pos hm]
   refine ⟨G,?_⟩
   show RT (bF (wX K n)) ⟨cL pre.length f vs,cM pre F m G (dz fs)⟩ _
   unfold bF
   exact .ifN hG2 t1 (.next (.ifT hm t2 (.assoc .rais)))
  rw [if_neg hm,hu]
  have e1:aO (aa 0) "made" (aE (aj .Add (aw (aa 0) "made") (af (.int 1))) toCel) ⟨cL pre.length f vs,cM pre F m G (dz fs)⟩=.ok .next ⟨cL pre.length f vs,cM pre F (m+1) G (dz fs)⟩:=by
   have:=cU (i:=0) (f:="made") (l':=telF pre.length F (m+1) G) (s':=⟨cL pre.length f vs,cM pre F m G (dz fs)⟩) ((aq (ay (v:=.int (m+1)) (aM (m:=m) (G:=G) (L:=cL pre.length f vs) rfl) rfl rfl rfl rfl)).trans rfl:aE (aj .Add (aw (aa 0) "made") (af (.int 1))) toCel _=_) rfl a9 rfl (by kernel_rfl)
   rw [oD] at this; exact this
  have e2:aO (aa 0) "going" (aE (aj .Add (aw (aa 0) "going") (af (.int 1))) toCel) ⟨cL pre.length f vs,cM pre F (m+1) G (dz fs)⟩=.ok .next ⟨cL pre.length f vs,cM pre F (m+1) (20 - (g:Int)) (dz fs)⟩:=by
   have:=cU (i:=0) (f:="going") (l':=telF pre.length F (m+1) (G+1)) (s':=⟨cL pre.length f vs,cM pre F (m+1) G (dz fs)⟩) ((aq (ay (v:=.int (G+1)) (aG (m:=m+1) (G:=G) (L:=cL pre.length f vs) rfl) rfl rfl rfl rfl)).trans rfl:aE (aj .Add (aw (aa 0) "going") (af (.int 1))) toCel _=_) rfl a9 rfl (by kernel_rfl)
   rw [oD,hG] at this; exact this
  have e3:aL 3 (am (aw (aa 0) "functions") (ae 1)) ⟨cL pre.length f vs,cM pre F (m+1) (20 - (g:Int)) (dz fs)⟩=.ok .next ⟨cL pre.length f vs++[(3,.val u.enc)],cM pre F (m+1) (20 - (g:Int)) (dz fs)⟩:=by
   refine aQ (v:=u.enc) (s':=⟨cL pre.length f vs,cM pre F (m+1) (20 - (g:Int)) (dz fs)⟩) (aU (c:=.cel (pre.length+1)) (c':=dz fs) (i:=.str f) (aP rfl a9 (by kernel_rfl)) rfl ?_ ?_)
   ·show du _ _=_
    unfold du; rw [dY]
   ·show dI _ _ _=_
    rw [fn_get,hu]; rfl
  have e5:hU .zip [am (aa 3) (af (.int 1)),ae 2] ⟨cL pre.length f vs++[(3,.val u.enc),(4,.own (.dct [] []))],cM pre F (m+1) (20 - (g:Int)) (dz fs)⟩=.ok (.tup ((u.ps.zip vs).map fun p=>.tup [.str p.1,.int p.2])) ⟨cL pre.length f vs++[(3,.val u.enc),(4,.own (.dct [] []))],cM pre F (m+1) (20 - (g:Int)) (dz fs)⟩:=by
   rw [← zip_enc]; rfl
  have hz:(u.ps.zip vs).length=u.ps.length:=by rw [zDm,hl]; exact Nat.min_self _
  obtain ⟨L',ks',ws',e6,f0,f3,f4,D,hk⟩:=zip_loop (st:=cM pre F (m+1) (20 - (g:Int)) (dz fs)) (u.ps.zip vs) [] [] [] (cL pre.length f vs++[(3,.val u.enc),(4,.own (.dct [] []))]) .nil (by rw [hz]; show 0+_<=_; lia) rfl rfl rfl
  rw [zAx] at D
  have hk:ks'.length<=u.ps.length:=by rw [← hz]; exact zAj hk (by show 0+_<=_; lia)
  have W:=worth_ok (K:=K) (pre:=pre) (F:=F) (fv:=dz fs) (fun f vs m n a b c=>ih f vs m n a b c (by lia)) (ga P g) u.bd (m:=m+1) (n:=n) (P.bd u hmem.1) D (by lia) (fun x hx=>by
   obtain ⟨v,q⟩:=zip_has hl hx
   exact jH (zB6.mpr q)) (fun p hp=>hv _ (zC6 (zB6.mp hp)).2) (by lia)
  have T:∀ {r:Ret},RT (ac (aL 7 (aW (wX K n) (aa 0) "worth" [am (aa 3) (af (.int 2)),ae 4])) (ac (aO (aa 0) "going" (aE (aj .Sub (aw (aa 0) "going") (af (.int 1))) toCel)) (ac (aV (ae 7)) (af .next)))) ⟨L',cM pre F (m+1) (20 - (g:Int)) (dz fs)⟩ r->RT (bF (wX K n)) ⟨cL pre.length f vs,cM pre F m G (dz fs)⟩ r:=fun h =>
   .ifN hG2 t1 (.next (.ifN hm t2 (.next (.go e1 (.go e2 (.go e3 (.go (s':=⟨cL pre.length f vs++[(3,.val u.enc),(4,.own (.dct [] []))],cM pre F (m+1) (20 - (g:Int)) (dz fs)⟩) rfl (.forT e5 e6 h))))))))
  have sq:bI [am (aa 3) (af (.int 2)),ae 4] ⟨L',cM pre F (m+1) (20 - (g:Int)) (dz fs)⟩=.ok [u.bd.enc,.dct ks' ws'] ⟨ai 4 (.val (.dct ks' ws')) L',cM pre F (m+1) (20 - (g:Int)) (dz fs)⟩:=ag (aU (ba f3) rfl (bV f3) rfl) (ag (gt f4) rfl)
  have hw:=fK (K:=K) (n:=n) f0 eh sq
  have g0:al 0 (ai 4 (.val (.dct ks' ws')) L')=some (.val (.obj "Teller" pre.length)):=(ah (by decide)).trans f0
  generalize ai 4 (.val (.dct ks' ws')) L'=L2 at hw g0
  show WR pre F (dz fs) (g+1) (dS (b9 fs F g) u.bd (u.ps.zip vs).reverse (m+1)) _
  have W:WR pre F (dz fs) g (dS (b9 fs F g) u.bd (u.ps.zip vs).reverse (m+1)) _:=W
  cases hsem:dS (b9 fs F g) u.bd (u.ps.zip vs).reverse (m+1) with
  | bad c m' =>
   rw [hsem] at W
   obtain ⟨g',e⟩:=W
   rw [e] at hw
   exact ⟨g',T (.asgX hw rfl)⟩
  | val ws m' =>
   rw [hsem] at W
   rw [show hJ K n pre.length u.bd.enc (.dct ks' ws') (cM pre F (m+1) (20 - (g:Int)) (dz fs))=_ from W] at hw
   have g0':al 0 (ai 7 (.val (.int (hd ws))) L2)=some (.val (.obj "Teller" pre.length)):=(ah (by decide)).trans g0
   show RT (bF (wX K n)) ⟨cL pre.length f vs,cM pre F m G (dz fs)⟩ (.ok (.int (hd ws)) (cM pre F m' (20 - ((g+1:Nat):Int)) (dz fs)))
   refine T (.asgR hw rfl (.go (s':=⟨ai 7 (.val (.int (hd ws))) L2,cM pre F m' (20 - ((g+1:Nat):Int)) (dz fs)⟩) ?_ (.ret (bk aA) rfl)))
   have:=cU (i:=0) (f:="going") (l':=telF pre.length F m' (20 - (g:Int) - 1)) (s':=⟨ai 7 (.val (.int (hd ws))) L2,cM pre F m' (20 - (g:Int)) (dz fs)⟩) ((aq (ay (v:=.int (20 - (g:Int) - 1)) (aG (m:=m') (G:=20 - (g:Int)) (L:=ai 7 (.val (.int (hd ws))) L2) g0') rfl rfl rfl rfl)).trans rfl:aE (aj .Sub (aw (aa 0) "going") (af (.int 1))) toCel _=_) g0' a9 rfl (by kernel_rfl)
   rw [oD,show 20 - (g:Int) - 1=20 - ((g+1:Nat):Int) by lia] at this; exact this
end
noncomputable abbrev lk (K n:Nat) (t:AV) (lev:Int) (names:List AV) (cs:AV) (st:St):Ret:=au PP K n ⟨#[]⟩ "look" [t,.int lev,.lst names,cs] st
noncomputable abbrev dm (t:AV) (lev:Int) (names:List AV) (cs:AV):bp:=[(0,.val t),(1,.val (.int lev)),(2,.val (.lst names)),(3,.val cs)]
section
variable {K n:Nat} {t a b cs:AV} {lev:Int} {names l:List AV} {s:St}
noncomputable abbrev No (d:D AV) (t:AV) (lev:Int) (names:List AV) (cs:AV) (s:St):Prop:=d ⟨dm t lev names cs,s⟩=.ok (.bool false) ⟨dm t lev names cs,s⟩
theorem look_for {body:D Fl} (hb:∀ c ∈ l,∀ L,(L=dm t lev names cs ∨ ∃ c',L=dm t lev names cs++[(4,.val c')])->body ⟨ai 4 (.val c) L,s⟩=.ok .next ⟨dm t lev names cs++[(4,.val c)],s⟩) :
  ∀ L,(L=dm t lev names cs ∨ ∃ c',L=dm t lev names cs++[(4,.val c')])->∃ L',br (some 4,[]) body l ⟨L,s⟩=.ok .next ⟨L',s⟩:=by
 induction l with
 | nil=>exact fun L _=>⟨L,rfl⟩
 | cons c r ih =>
  intro L hL
  obtain ⟨L',e⟩:=ih (fun c' hc=>hb c' (zAe _ hc)) (dm t lev names cs++[(4,.val c)]) (.inr ⟨c,rfl⟩)
  exact ⟨L',cf (hb c zAb L hL) e⟩
theorem fu (h1:No (aB (aa 1) .Gt (af (.int 12))) t lev names cs s) (h2:No (bc .And [aB (am (aa 0) (af (.int 0))) .Eq (af (.str "name")),aB (am (aa 0) (af (.int 1))) .NotIn (aa 2)]) t lev names cs s)
  (h3:No (bc .And [aB (am (aa 0) (af (.int 0))) .Eq (af (.str "call")),aB (am (aa 0) (af (.int 1))) .NotIn (aa 3)]) t lev names cs s)
  (h4:No (bc .And [aB (am (aa 0) (af (.int 0))) .Eq (af (.str "call")),aB (aS az false [am (aa 0) (af (.int 2))]) .NotEq (am (aa 3) (am (aa 0) (af (.int 1))))]) t lev names cs s)
  (h5:No (aB (am (aa 0) (af (.int 0))) .Eq (af (.str "let"))) t lev names cs s) (hw:au PP K n ⟨#[]⟩ "within" [t] s=.ok (.lst l) s) (hl:∀ c ∈ l,lk K n c (lev+1) names cs s=.ok .none s):lk K (n+1) t lev names cs s=.ok .none s:=by
 show au PP K (n+1) _ _ _ _=_
 rw [rn_look]
 show RT (iP (wX K n)) _ _
 unfold iP
 refine .ifB h1 (.next (.ifB h2 (.next (.ifB h3 (.next (.ifB h4 (.next (.ifB h5 ?_))))))))
 obtain ⟨L',e⟩:=look_for (t:=t) (lev:=lev) (names:=names) (cs:=cs) (s:=s) (l:=l) (body:=ac (c8 (aX (wX K n) "look" [ae 4,aj .Add (aa 1) (af (.int 1)),ae 2,ae 3])) (af .next))
  (fun c hc L hL=>by
   have key:ac (c8 (aX (wX K n) "look" [ae 4,aj .Add (aa 1) (af (.int 1)),ae 2,ae 3])) (af .next) ⟨dm t lev names cs++[(4,.val c)],s⟩=.ok .next ⟨dm t lev names cs++[(4,.val c)],s⟩:=(ji (cu (a8 (vs:=[c,.int (lev+1),.lst names,cs]) (s₁:=⟨dm t lev names cs++[(4,.val c)],s⟩) rfl (hl c hc)))).trans rfl
   rcases hL with rfl | ⟨c',rfl⟩ <;> exact key) (dm t lev names cs) (.inl rfl)
 exact .assoc (.forI (l:=l) (s₁:=⟨dm t lev names cs,s⟩) (et (a8 (vs:=[t]) (s₁:=⟨dm t lev names cs,s⟩) rfl hw)) e (.next (.nil rfl)))
theorem look_let {x:Str} (h1:No (aB (aa 1) .Gt (af (.int 12))) (.tup [.str "let",.str x,a,b]) lev names cs s) (hn:names.length<=1000) (ha:lk K n a (lev+1) names cs s=.ok .none s) (hb:lk K n b (lev+1) (names++[.str x]) cs s=.ok .none s) :
  lk K (n+1) (.tup [.str "let",.str x,a,b]) lev names cs s=.ok .none s:=by
 show au PP K (n+1) _ _ _ _=_
 rw [rn_look]
 show RT (iP (wX K n)) _ _
 unfold iP
 refine .ifB h1 (.next (.ifB (c:=false) (s':=⟨dm (.tup [.str "let",.str x,a,b]) lev names cs,s⟩) (by kernel_rfl) (.next (.ifB (c:=false) (s':=⟨dm (.tup [.str "let",.str x,a,b]) lev names cs,s⟩) (by kernel_rfl) (.next (.ifB (c:=false) (s':=⟨dm (.tup [.str "let",.str x,a,b]) lev names cs,s⟩) (by kernel_rfl) (.next (.ifB (c:=true) (s':=⟨dm (.tup [.str "let",.str x,a,b]) lev names cs,s⟩) (by kernel_rfl) (.assoc ?_)))))))))
 refine .do (v:=.none) (s':=⟨dm (.tup [.str "let",.str x,a,b]) lev names cs,s⟩) (a8 (vs:=[a,.int (lev+1),.lst names,cs]) (s₁:=⟨dm (.tup [.str "let",.str x,a,b]) lev names cs,s⟩) rfl ha) (.assoc ?_)
 have hz:bz (names++[.str x])=some (.lst (names++[.str x])):=by
  unfold bz
  rw [if_pos]
  rw [zAc]
  exact zAj (zBo hn 1) (show 1000+1<=sizeLine by decide +kernel)
 refine .do (v:=.none) (s':=⟨dm (.tup [.str "let",.str x,a,b]) lev names cs,s⟩) (a8 (vs:=[b,.int (lev+1),.lst (names++[AV.str x]),cs]) (s₁:=⟨dm (.tup [.str "let",.str x,a,b]) lev names cs,s⟩) ?_ hb) (.next (.nil rfl))
 refine ag (s₁:=⟨dm (.tup [.str "let",.str x,a,b]) lev names cs,s⟩) rfl (ag (s₁:=⟨dm (.tup [.str "let",.str x,a,b]) lev names cs,s⟩) rfl (ag (v:=.lst (names++[AV.str x])) (s₁:=⟨dm (.tup [.str "let",.str x,a,b]) lev names cs,s⟩) ?_ rfl))
 show Mine.opt (bz (names++[.str x])) _=_
 rw [hz]; rfl
end
noncomputable def jK:Tr->List AV
 | .deed _ a b=>[a.enc,b.enc]
 | .choose a b c=>[a.enc,b.enc,c.enc]
 | .lt _ a b=>[a.enc,b.enc]
 | .call _ l=>dT l.enc
 | _=>[]
section
variable {K n:Nat} {sig:Str->Option Nat} {st:St}
theorem dK {t:Tr} {h:Nat} {ns:List Str} (q:t.wf sig h ns none):au PP K (n+1) ⟨#[]⟩ "within" [t.enc] st=.ok (.lst (jK t)) st:=by
 rw [rn_within]
 cases t with
 | num i=>kernel_rfl
 | name x=>kernel_rfl
 | deed w a b=>cases w <;> kernel_rfl
 | choose a b c=>kernel_rfl
 | lt x a b=>kernel_rfl
 | call f l =>
  obtain ⟨_,h',rfl,c,_,hc,h2⟩:=q
  obtain ⟨w1,w2⟩:=g7 h2
  show RT (oh (wX K n)) ⟨[(0,.val (.tup [.str "call",.str f,l.enc]))],st⟩ _
  rw [w1]
  refine .ifB (c:=false) (s':=⟨[(0,.val (.tup [.str "call",.str f,.tup (dT l.enc)]))],st⟩) (by kernel_rfl) (.next (.eqN (x:="call") (y:="let") (by decide +kernel) rfl (.next (.eqT (x:="call") (y:="call") (by decide +kernel) rfl (.assoc (.retO (o:=bz (dT l.enc)) (s':=⟨[(0,.val (.tup [.str "call",.str f,.tup (dT l.enc)]))],st⟩) rfl (cN (by lia)) rfl))))))
 | nil=>cases q
 | cons t r=>obtain ⟨_,e,_⟩:=q; exact aD e
theorem nW:∀ ns:List Str,dataVs (ns.map .str)=true
 | []=>rfl
 | x::r=>nW r
theorem in_names {x:Str} {ns:List Str} (h:x ∈ ns):inV (.str x) (.lst (ns.map .str))=some true:=by
 have:∀ ns:List Str,x ∈ ns->((toDs (ns.map .str)).any fun y=>PyData.eqv y (toD (.str x)))=true:=by
  intro ns
  induction ns with
  | nil=>intro h; cases h
  | cons y r ih =>
   intro h
   show ((y == x) || _)=true
   rcases zAl.mp h with rfl | h
   ·rw [beq_self_eq_true]; rfl
   ·rw [ih h,Bool.or_true]
 show (if true && dataVs (ns.map .str) && decide (0<=64) then some ((toDs (ns.map .str)).any fun y=>PyData.eqv y (toD (.str x))) else none)=_
 rw [nW,this ns h]; rfl
noncomputable def CsOk (sig:Str->Option Nat) (ks ws:List AV):Prop:=∀ f c,sig f=some c->kH (.str f) ks=true/\dI (.str f) ks ws=some (.int (c:Int))
noncomputable def LG (K n:Nat) (t:Tr) (lev:Int) (names:List AV) (cs:AV) (st:St):Option Nat->Prop
 | none=>lk K n t.enc lev names cs st=.ok .none st
 | some _=>∀ c ∈ dT t.enc,lk K n c lev names cs st=.ok .none st
theorem look_ok {ks ws:List AV} (C:CsOk sig ks ws):∀ (t:Tr) {h:Nat} {ns:List Str} {k:Option Nat} {n:Nat},t.wf sig h ns k->ns.length+h<=900->h+1<=n->LG K n t (13 - (h:Int)) (ns.map .str) (.dct ks ws) st k:=by
 intro t
 have lev:∀ {h:Nat} {names:List AV} {t:AV},0 < h->No (aB (aa 1) .Gt (af (.int 12))) t (13 - (h:Int)) names (.dct ks ws) st:=fun {h names t} h0=>by
  show Out.ok (AV.bool (decide ((12:Int) < 13 - (h:Int)))) _=_
  rw [decide_eq_false (by lia)]
 induction t with
 | num i =>
  intro h ns k n q hl hN
  have q':=q
  obtain ⟨rfl,h0,_⟩:=q
  obtain ⟨n,rfl⟩:∃ n',n=n'+1+1:=⟨n - 2,by lia⟩
  exact fu (n:=n+1) (l:=[]) (lev h0) (by kernel_rfl) (by kernel_rfl) (by kernel_rfl) (by kernel_rfl) (dK q') (fun c hc=>nomatch hc)
 | name x =>
  intro h ns k n q hl hN
  have q':=q
  obtain ⟨rfl,h0,hx⟩:=q
  obtain ⟨n,rfl⟩:∃ n',n=n'+1+1:=⟨n - 2,by lia⟩
  refine fu (n:=n+1) (l:=[]) (lev h0) ?_ (by kernel_rfl) (by kernel_rfl) (by kernel_rfl) (dK q') (fun c hc=>nomatch hc)
  refine (gN (c:=seq "name" "name") rfl).trans ?_
  rw [bS]
  show Mine.opt (((inV (.str x) (.lst (ns.map .str))).map (!·)).map AV.bool) _=_
  rw [in_names hx]; rfl
 | deed w a b iha ihb =>
  intro h ns k n q hl hN
  have q':=q
  obtain ⟨rfl,h',rfl,h1,h2⟩:=q
  obtain ⟨n,rfl⟩:∃ n',n=n'+1+1:=⟨n - 2,by lia⟩
  refine fu (n:=n+1) (l:=jK (.deed w a b)) (lev (zC4 _)) (by cases w <;> kernel_rfl) (by cases w <;> kernel_rfl) (by cases w <;> kernel_rfl) (by cases w <;> kernel_rfl) (dK q') fun c hc=>?_
  rw [show (13 - ((h'+1:Nat):Int)+1)=13 - (h':Int) by lia]
  rcases zAl.mp hc with rfl | hc
  ·exact iha h1 (by lia) (by lia)
  ·rw [zAi.mp hc]; exact ihb h2 (by lia) (by lia)
 | choose a b c iha ihb ihc =>
  intro h ns k n q hl hN
  have q':=q
  obtain ⟨rfl,h',rfl,h1,h2,h3⟩:=q
  obtain ⟨n,rfl⟩:∃ n',n=n'+1+1:=⟨n - 2,by lia⟩
  refine fu (n:=n+1) (l:=jK (.choose a b c)) (lev (zC4 _)) (by kernel_rfl) (by kernel_rfl) (by kernel_rfl) (by kernel_rfl) (dK q') fun d hd=>?_
  rw [show (13 - ((h'+1:Nat):Int)+1)=13 - (h':Int) by lia]
  rcases zAl.mp hd with rfl | hd
  ·exact iha h1 (by lia) (by lia)
  ·rcases zAl.mp hd with rfl | hd
   ·exact ihb h2 (by lia) (by lia)
   ·rw [zAi.mp hd]; exact ihc h3 (by lia) (by lia)
 | lt x a b iha ihb =>
  intro h ns k n q hl hN
  obtain ⟨rfl,h',rfl,h1,h2⟩:=q
  obtain ⟨n,rfl⟩:∃ n',n=n'+1:=⟨n - 1,by lia⟩
  have e:(13 - ((h'+1:Nat):Int)+1)=13 - (h':Int):=by lia
  have hb:LG K n b (13 - (h':Int)) ((ns++[x]).map .str) (.dct ks ws) st none:=ihb h2 (by rw [zAc]; show _+1+_<=_; lia) (by lia)
  rw [zAr] at hb
  refine look_let (n:=n) (lev (zC4 _)) (by rw [zAd]; lia) ?_ ?_
  ·rw [e]; exact iha h1 (by lia) (by lia)
  ·rw [e]; exact hb
 | call f l ih =>
  intro h ns k n q hl hN
  have q':=q
  obtain ⟨rfl,h',rfl,c,hc,hc1,h2⟩:=q
  obtain ⟨n,rfl⟩:∃ n',n=n'+1+1:=⟨n - 2,by lia⟩
  obtain ⟨w1,w2⟩:=g7 h2
  obtain ⟨c1,c2⟩:=C f c hc
  refine fu (n:=n+1) (l:=jK (.call f l)) (lev (zC4 _)) (by kernel_rfl) ?_ ?_ (by kernel_rfl) (dK q') fun d hd=>?_
  ·refine (gN (c:=seq "call" "call") rfl).trans ?_
   rw [bS]
   show Mine.opt ((Option.map (!·) (some (kH (.str f) ks))).map AV.bool) _=_
   rw [c1]; rfl
  ·refine (gN (c:=seq "call" "call") rfl).trans ?_
   rw [bS]
   have e1:aS az false [am (aa 0) (af (.int 2))] ⟨dm (.tup [.str "call",.str f,.tup (dT l.enc)]) (13 - ((h'+1:Nat):Int)) (ns.map .str) (.dct ks ws),st⟩=.ok (.int ((dT l.enc).length:Int)) ⟨dm (.tup [.str "call",.str f,.tup (dT l.enc)]) (13 - ((h'+1:Nat):Int)) (ns.map .str) (.dct ks ws),st⟩:=rfl
   have e2:am (aa 3) (am (aa 0) (af (.int 1))) ⟨dm (.tup [.str "call",.str f,.tup (dT l.enc)]) (13 - ((h'+1:Nat):Int)) (ns.map .str) (.dct ks ws),st⟩=.ok (.int (c:Int)) ⟨dm (.tup [.str "call",.str f,.tup (dT l.enc)]) (13 - ((h'+1:Nat):Int)) (ns.map .str) (.dct ks ws),st⟩:=by
    show Mine.opt (dI (.str f) ks ws) _=_
    rw [c2]; rfl
   rw [w2] at e1
   show aB _ _ _ ⟨dm (.tup [.str "call",.str f,l.enc]) _ _ _,st⟩=.ok _ ⟨dm (.tup [.str "call",.str f,l.enc]) _ _ _,st⟩
   rw [w1]
   refine (bT e1 e2).trans ?_
   show Out.ok (AV.bool (!decide ((c:Int)=c))) _=_
   rw [decide_eq_true rfl]; rfl
  ·rw [show (13 - ((h'+1:Nat):Int)+1)=13 - (h':Int) by lia]
   exact ih h2 (by lia) (by lia) d hd
 | nil=>intro h ns k n q hl hN; cases q; exact fun c hc=>nomatch hc
 | cons t r iht ihr =>
  intro h ns k n q hl hN
  obtain ⟨c,rfl,h1,h2⟩:=q
  intro d hd
  rcases zAl.mp (show d ∈ t.enc::dT r.enc from hd) with rfl | hd
  ·exact iht h1 hl hN
  ·exact ihr h2 hl hN d hd
end
theorem iQ {f:Str} {g:Fu->AV}:∀ fs:List Fu,dI (.str f) (fs.map fun u=>.str u.nm) (fs.map g)=(bx f fs).map g
 | []=>rfl
 | u::r=>by
  show (if seq f u.nm then some (g u) else dI (.str f) (r.map fun u=>.str u.nm) (r.map g))=(if seq f u.nm then some u else bx f r).map g
  rw [iQ r]
  cases seq f u.nm <;> rfl
theorem sq_ne {x y:Str} (h:x ≠ y):seq x y=false:=zDb.mpr fun q=>h (seq_iff'.mp q)
theorem fT {f:Str}:∀ fs:List Fu,kH (.str f) (fs.map fun u=>.str u.nm)=(bx f fs).isSome
 | []=>rfl
 | u::r=>by
  show (seq f u.nm || kH (.str f) (r.map fun u=>.str u.nm))=(if seq f u.nm then some u else bx f r).isSome
  rw [fT r]
  cases seq f u.nm <;> rfl
theorem fI {f:Str}:∀ {fs:List Fu},f ∉ fs.map (·.nm)->bx f fs=none
 | [],_=>rfl
 | u::r,h=>by
  show (if seq f u.nm then some u else bx f r)=none
  rw [sq_ne (x:=f) (y:=u.nm) fun q=>h (by rw [q]; exact zAb)]
  exact fI fun q=>h (zAe _ q)
theorem dSet_new {k v:AV}:∀ {ks ws:List AV},kH k ks=false->ks.length=ws.length->ce k ks=ks++[k]/\cG k v ks ws=ws++[v]
 | [],[],_,_=>⟨rfl,rfl⟩
 | x::xs,w::ws,h,hl=>by
  obtain ⟨h1,h2⟩:=Bool.or_eq_false_iff.mp (show (fe k x || kH k xs)=false from h)
  have ih:=dSet_new (v:=v) h2 (Nat.succ.inj hl)
  show (if fe k x then x::xs else x::ce k xs)=_/\(if fe k x then v::ws else w::cG k v xs ws)=_
  rw [h1]
  exact ⟨congrArg (x::·) ih.1,congrArg (w::·) ih.2⟩
 | [],_::_,_,hl=>nomatch hl
 | _::_,[],_,hl=>nomatch hl
theorem pC {g:Fu->AV} {ds:List Fu} {u:Fu} (h:u.nm ∉ ds.map (·.nm)) (hl:ds.length<=900):eW (.str u.nm) (g u) (.dct (ds.map fun u=>.str u.nm) (ds.map g))=some (.dct ((ds++[u]).map fun u=>.str u.nm) ((ds++[u]).map g)):=by
 rw [iL (by rw [zAd]; lia)]
 have:=dSet_new (k:=.str u.nm) (v:=g u) (ks:=ds.map fun u=>.str u.nm) (ws:=ds.map g) (by rw [fT,fI h]; rfl) (by rw [zAd,zAd])
 rw [this.1,this.2,zAr,zAr]; rfl
noncomputable abbrev cnV (u:Fu):AV:=.int (u.ps.length:Int)
noncomputable abbrev iB (fs:List Fu):AV:=.dct (fs.map fun u=>.str u.nm) (fs.map cnV)
theorem cs_ok (fs:List Fu):CsOk (bW fs) (fs.map fun u=>.str u.nm) (fs.map cnV):=fun f c h=>by
 obtain ⟨u,hu,hc⟩:=zAo.mp h
 rw [fT,iQ,hu,← hc]; exact ⟨rfl,rfl⟩
theorem dR {ds r:List Fu} {u:Fu} (h:((ds++u::r).map (·.nm)).Nodup):u.nm ∉ ds.map (·.nm):=fun q=>by
 rw [zAr] at h
 exact (List.nodup_append.mp h).2.2 _ q _ (zAb) rfl
section
variable {K n:Nat} {st:St}
noncomputable abbrev ctB:D Fl:=ac (bQ (aB (aa 2) .NotIn (aa 1)) (ac (bh (aa 1) (ae 2) (aS az false [aa 3])) (af .next)) (af .next)) (af .next)
theorem in_at {d e:D AV} {x:Str} {ks ws:List AV} {a b:AV} {s:S} (h1:d s=.ok a s) (h2:e s=.ok b s) (da:aT a s=some (.str x)) (db:aT b s=some (.dct ks ws)):aB d .In e s=.ok (.bool (kH (.str x) ks)) s/\aB d .NotIn e s=.ok (.bool (!kH (.str x) ks)) s:=by
 have d1:deref a s=.ok (.str x) s:=by unfold deref; rw [da]
 have d2:deref b s=.ok (.dct ks ws) s:=by unfold deref; rw [db]
 rw [bT h1 h2,bT h1 h2,aq d1,aq d1,aq d2,aq d2]; exact ⟨rfl,rfl⟩
theorem dr_str {L:bp} {k:Nat} {x:Str} (h:al k L=some (.val (.str x))):aT (.pl k) ⟨L,st⟩=some (.str x):=by unfold aT; dsimp only; rw [h]
theorem kQ {L:bp} {k:Nat} {l:List AV} (h:al k L=some (.val (.tup l))):aS az false [aa k] ⟨L,st⟩=.ok (.int (l.length:Int)) ⟨L,st⟩:=by
 have dr:deref (.pl k) ⟨L,st⟩=.ok (.tup l) ⟨L,st⟩:=by unfold deref; rw [bV h]
 unfold aS
 rw [aq (ag (ba h) rfl)]
 show aE (aE (deref (.pl k)) _) _ _=_
 rw [bO,aq dr]; rfl
theorem jX {o:LV}:∀ (r ds:List Fu) (L:bp),((ds++r).map (·.nm)).Nodup->(ds++r).length<=900->al 0 L=some o->al 1 L=some (.own (iB ds))->∃ L',br (none,[2,3,4]) ctB (r.map Fu.enc) ⟨L,st⟩=.ok .next ⟨L',st⟩/\al 1 L'=some (.own (iB (ds++r)))
 | [],ds,L,_,_,h0,h1=>⟨L,rfl,by rw [zAx]; exact h1⟩
 | u::r,ds,L,hnd,hl,h0,h1=>by
  have hl':ds.length+(r.length+1)<=900:=by rw [zAc] at hl; exact hl
  have q1:al 1 (ai 4 (.val u.bd.enc) (ai 3 (.val (.tup (u.ps.map .str))) (ai 2 (.val (.str u.nm)) L)))=some (.own (iB ds)):=(ah (by decide)).trans ((ah (by decide)).trans ((ah (by decide)).trans h1))
  have q0:al 0 (ai 4 (.val u.bd.enc) (ai 3 (.val (.tup (u.ps.map .str))) (ai 2 (.val (.str u.nm)) L)))=some o:=(ah (by decide)).trans ((ah (by decide)).trans ((ah (by decide)).trans h0))
  have q2:al 2 (ai 4 (.val u.bd.enc) (ai 3 (.val (.tup (u.ps.map .str))) (ai 2 (.val (.str u.nm)) L)))=some (.val (.str u.nm)):=(ah (by decide)).trans ((ah (by decide)).trans aA)
  have q3:al 3 (ai 4 (.val u.bd.enc) (ai 3 (.val (.tup (u.ps.map .str))) (ai 2 (.val (.str u.nm)) L)))=some (.val (.tup (u.ps.map .str))):=(ah (by decide)).trans aA
  generalize hq:ai 4 (.val u.bd.enc) (ai 3 (.val (.tup (u.ps.map .str))) (ai 2 (.val (.str u.nm)) L))=L1 at q0 q1 q2 q3
  have hn:=dR hnd
  have t:=(in_at (s:=⟨L1,st⟩) (ba q2) (ba q1) (dr_str q2) (mx q1)).2
  rw [fT,fI hn] at t
  have e1:ctB ⟨L1,st⟩=.ok .next ⟨ai 1 (.own (iB (ds++[u]))) L1,st⟩:=by
   refine pE t (o:=.ok .next _) (bP (dG (S₁:=⟨L1,st⟩) (kQ q3) (ba q1) (bk q2) q1 (w':=iB (ds++[u])) ?_ rfl) trivial) trivial
   rw [zAd]; exact pC (g:=cnV) hn (by lia)
  have hnd':((ds++[u]++r).map (·.nm)).Nodup:=by rw [zAm]; exact hnd
  obtain ⟨L',f1,f2⟩:=jX r (ds++[u]) (ai 1 (.own (iB (ds++[u]))) L1) hnd' (by rw [zAm]; exact hl) ((ah (by decide)).trans q0) aA
  refine ⟨L',cq (ks:=[2,3,4]) (vs:=[.str u.nm,.tup (u.ps.map .str),u.bd.enc]) rfl (by show ctB ⟨ai 4 _ (ai 3 _ (ai 2 _ L)),st⟩=_; rw [hq]; exact e1) f1,by rw [zAm] at f2; exact f2⟩
noncomputable abbrev bU (fs:List Fu):AV:=.lst (fs.map Fu.enc)
theorem counts_ok {fs:List Fu} (P:PW fs) (hl:fs.length<=900):au PP K (n+1) ⟨#[]⟩ "counts_of" [bU fs] st=.ok (iB fs) st:=by
 rw [oR]
 show RT (jf (wX K n)) ⟨[(0,.val (bU fs))],st⟩ _
 obtain ⟨L',f1,f2⟩:=jX (st:=st) fs [] [(0,.val (bU fs)),(1,.own (.dct [] []))] P.nd hl rfl rfl
 exact .go (s':=⟨[(0,.val (bU fs)),(1,.own (.dct [] []))],st⟩) rfl (.forI (l:=fs.map Fu.enc) (s₁:=⟨[(0,.val (bU fs)),(1,.own (.dct [] []))],st⟩) rfl f1 (.ret (gt f2) rfl))
theorem lJ {x:Str}:∀ {l:List Str},x ∉ l->dy x l=false
 | [],_=>rfl
 | y::r,h=>by
  show (seq x y || dy x r)=false
  rw [sq_ne (x:=x) (y:=y) fun q=>h (by rw [q]; exact zAb),lJ fun q=>h (zAe _ q)]; rfl
theorem once_nd:∀ (ss σ:List Str),(σ++ss).Nodup->eS σ ss=σ++ss
 | [],σ,_=>by rw [zAx]; rfl
 | s::r,σ,h=>by
  show eS (if dy s σ then σ else σ++[s]) r=_
  rw [lJ fun q=>(List.nodup_append.mp h).2.2 _ q _ zAb rfl]
  show eS (σ++[s]) r=_
  rw [once_nd r (σ++[s]) (by rw [zAm]; exact h),zAm]; rfl
theorem ld:∀ l:List Str,eF (l.map .str)=some l
 | []=>rfl
 | x::r=>by show (eF (r.map .str)).map _=_; rw [ld r]; rfl
noncomputable abbrev ckB (X:Ctx):D Fl:=ac (bQ (bc .Or [aB (aa 3) .In (aa 2),aB (aS az false [aS mn false [aa 4]]) .NotEq (aS az false [aa 4])]) (ac (rais "NameTwice") (af .next)) (af .next)) (ac (bh (aa 2) (ae 3) (aS az false [aa 4])) (ac (c8 (aX X "look" [ae 5,af (.int 1),aS aZ false [aa 4],ae 1])) (af .next)))
theorem cg {b:BiE} {k:Bool} {d:D AV} {a c v:AV} {s s₁:S} (h:d s=.ok a s₁) (ha:aT a s₁=some c) (hv:b.den k [c]=some v):aS b k [d] s=.ok v s₁:=by
 have dr:deref a s₁=.ok c s₁:=by unfold deref; rw [ha]
 unfold aS
 rw [aq (ag h rfl)]
 show aE (aE (deref a) _) _ _=_
 rw [bO,aq dr]
 show Mine.opt (b.den k [c]) _=_
 rw [hv]; rfl
theorem iF {fs:List Fu} (P:PW fs):∀ (r ds:List Fu) (L:bp),ds++r=fs->fs.length<=900->al 1 L=some (.val (iB fs))->al 2 L=some (.own (iB ds))->∃ L',br (none,[3,4,5]) (ckB (wX K (n+13))) (r.map Fu.enc) ⟨L,st⟩=.ok .next ⟨L',st⟩/\al 2 L'=some (.own (iB fs))
 | [],ds,L,hf,_,h1,h2=>⟨L,rfl,by rw [← hf,zAx]; exact h2⟩
 | u::r,ds,L,hf,hl,h1,h2=>by
  have hu:u ∈ fs:=by rw [← hf]; exact zBg _ zAb
  have hps:=P.ps u hu
  have hl':ds.length+(r.length+1)<=900:=by rw [← hf,zAc] at hl; exact hl
  have hn:u.nm ∉ ds.map (·.nm):=dR (r:=r) (by rw [hf]; exact P.nd)
  have q1:al 1 (ai 5 (.val u.bd.enc) (ai 4 (.val (.tup (u.ps.map .str))) (ai 3 (.val (.str u.nm)) L)))=some (.val (iB fs)):=(ah (by decide)).trans ((ah (by decide)).trans ((ah (by decide)).trans h1))
  have q2:al 2 (ai 5 (.val u.bd.enc) (ai 4 (.val (.tup (u.ps.map .str))) (ai 3 (.val (.str u.nm)) L)))=some (.own (iB ds)):=(ah (by decide)).trans ((ah (by decide)).trans ((ah (by decide)).trans h2))
  have q3:al 3 (ai 5 (.val u.bd.enc) (ai 4 (.val (.tup (u.ps.map .str))) (ai 3 (.val (.str u.nm)) L)))=some (.val (.str u.nm)):=(ah (by decide)).trans ((ah (by decide)).trans aA)
  have q4:al 4 (ai 5 (.val u.bd.enc) (ai 4 (.val (.tup (u.ps.map .str))) (ai 3 (.val (.str u.nm)) L)))=some (.val (.tup (u.ps.map .str))):=(ah (by decide)).trans aA
  have q5:al 5 (ai 5 (.val u.bd.enc) (ai 4 (.val (.tup (u.ps.map .str))) (ai 3 (.val (.str u.nm)) L)))=some (.val u.bd.enc):=aA
  generalize hq:ai 5 (.val u.bd.enc) (ai 4 (.val (.tup (u.ps.map .str))) (ai 3 (.val (.str u.nm)) L))=L1 at q1 q2 q3 q4 q5
  have t1:=(in_at (s:=⟨L1,st⟩) (ba q3) (ba q2) (dr_str q3) (mx q2)).1
  rw [fT,fI hn] at t1
  have ln:=kQ (st:=st) q4
  rw [zAd] at ln
  have ls:aS mn false [aa 4] ⟨L1,st⟩=.ok (.sett u.ps.length) ⟨L1,st⟩:=cg (ba q4) (bV q4) (by
   show ((eF (u.ps.map .str)).bind fun ss=>if zCd ss.length 4000 then some (AV.sett (eS [] ss).length) else none)=_
   rw [ld]
   show (if zCd u.ps.length 4000 then some (AV.sett (eS [] u.ps).length) else none)=_
   rw [once_nd u.ps [] hps.1,Nat.ble_eq_true_of_le (by lia)]; rfl)
  have ls2:aS az false [aS mn false [aa 4]] ⟨L1,st⟩=.ok (.int (u.ps.length:Int)) ⟨L1,st⟩:=cg ls rfl rfl
  have t2:aB (aS az false [aS mn false [aa 4]]) .NotEq (aS az false [aa 4]) ⟨L1,st⟩=.ok (.bool false) ⟨L1,st⟩:=(bT ls2 ln).trans (by
   show Out.ok (AV.bool (!decide ((u.ps.length:Int)=u.ps.length))) _=_
   rw [decide_eq_true rfl]; rfl)
  have e2:bh (aa 2) (ae 3) (aS az false [aa 4]) ⟨L1,st⟩=.ok .next ⟨ai 2 (.own (iB (ds++[u]))) L1,st⟩:=dG (S₁:=⟨L1,st⟩) ln (ba q2) (bk q3) q2 (pC (g:=cnV) hn (by lia)) rfl
  have p1:al 1 (ai 2 (.own (iB (ds++[u]))) L1)=some (.val (iB fs)):=(ah (by decide)).trans q1
  have p4:al 4 (ai 2 (.own (iB (ds++[u]))) L1)=some (.val (.tup (u.ps.map .str))):=(ah (by decide)).trans q4
  have p5:al 5 (ai 2 (.own (iB (ds++[u]))) L1)=some (.val u.bd.enc):=(ah (by decide)).trans q5
  have p2:al 2 (ai 2 (.own (iB (ds++[u]))) L1)=some (.own (iB (ds++[u]))):=aA
  generalize ai 2 (.own (iB (ds++[u]))) L1=L2 at e2 p1 p2 p4 p5
  have lkk:LG K (n+13) u.bd (13 - ((12:Nat):Int)) (u.ps.map .str) (iB fs) st none:=look_ok (cs_ok fs) u.bd (P.bd u hu) (by lia) (by lia)
  have sq:bI [ae 5,af (.int 1),aS aZ false [aa 4],ae 1] ⟨L2,st⟩=.ok [u.bd.enc,.int 1,.lst (u.ps.map .str),iB fs] ⟨L2,st⟩ :=
   ag (bk p5) (ag rfl (ag (cg (ba p4) (bV p4) (cN (by rw [zAd]; lia))) (ag (bk p1) rfl)))
  have e3:c8 (aX (wX K (n+13)) "look" [ae 5,af (.int 1),aS aZ false [aa 4],ae 1]) ⟨L2,st⟩=.ok .next ⟨L2,st⟩:=cu (v:=.none) (a8 sq lkk)
  have e1:ckB (wX K (n+13)) ⟨L1,st⟩=.ok .next ⟨L2,st⟩:=by
   refine (ifO (c:=false) (s':=⟨L1,st⟩) (by refine (j1 (c:=false) t1).trans ?_; exact t2)).trans ?_
   exact (ji (s':=⟨L1,st⟩) rfl).trans ((ji e2).trans ((ji e3).trans rfl))
  obtain ⟨L',f1,f2⟩:=iF P r (ds++[u]) L2 (by rw [zAm]; exact hf) hl p1 p2
  exact ⟨L',cq (ks:=[3,4,5]) (vs:=[.str u.nm,.tup (u.ps.map .str),u.bd.enc]) rfl (by show ckB _ ⟨ai 5 _ (ai 4 _ (ai 3 _ L)),st⟩=_; rw [hq]; exact e1) f1,f2⟩
theorem lQ {fs:List Fu} (P:PW fs) (hl:fs.length<=900):au PP K (n+14) ⟨#[]⟩ "checked" [bU fs] st=.ok (iB fs) st:=by
 rw [rn_checked]
 show RT (lW (wX K (n+13))) ⟨[(0,.val (bU fs))],st⟩ _
 obtain ⟨L',f1,f2⟩:=iF (K:=K) (n:=n) (st:=st) P fs [] [(0,.val (bU fs)),(1,.val (iB fs)),(2,.own (.dct [] []))] rfl hl rfl rfl
 refine .asg (v:=iB fs) (s':=⟨[(0,.val (bU fs))],st⟩) (a8 (vs:=[bU fs]) (s₁:=⟨[(0,.val (bU fs))],st⟩) rfl (counts_ok (n:=n+12) P hl)) ?_
 exact .go (s':=⟨[(0,.val (bU fs)),(1,.val (iB fs)),(2,.own (.dct [] []))],st⟩) rfl (.forI (l:=fs.map Fu.enc) (s₁:=⟨[(0,.val (bU fs)),(1,.val (iB fs)),(2,.own (.dct [] []))],st⟩) rfl f1 (.ret (gt f2) rfl))
end
theorem setSub_cel {b i d:D AV} {S S₁:Mine.S} {va vi:AV} {k:Nat} {w w':AV} (hd:d S=.ok va S₁) (hb:b S₁=.ok (.cel k) S₁) (hi:i S₁=.ok vi S₁) (hk:S₁.st[k]?=some (.cont w)) (hp:eW vi va w=some w'):bh b i d S=.ok .next ⟨S₁.loc,S₁.st.set k (.cont w')⟩:=by
 have hm:bH (.cel k) (eW vi va) S₁=.ok () ⟨S₁.loc,S₁.st.set k (.cont w')⟩:=by
  unfold bH du
  dsimp only
  rw [hk]
  dsimp only
  rw [hp]
 unfold bh
 rw [aq hd,aq hb,aq hi,aq hm]; rfl
section
variable {K n:Nat} {pre:St} {F:Int} {fs:List Fu}
noncomputable abbrev iS (pre:St) (ds:List Fu):St:=pre++[.flds [("functions",.cel (pre.length+1))],.cont (dz ds)]
noncomputable abbrev inB2:D Fl:=ac (bh (aw (aa 0) "functions") (am (aa 3) (af (.int 0))) (ae 3)) (af .next)
theorem nS {o2:LV}:∀ (r ds:List Fu) (L:bp),((ds++r).map (·.nm)).Nodup->(ds++r).length<=900->al 0 L=some (.val (.obj "Teller" pre.length))->al 2 L=some o2->∃ L',br (some 3,[]) inB2 (r.map Fu.enc) ⟨L,iS pre ds⟩=.ok .next ⟨L',iS pre (ds++r)⟩/\al 0 L'=some (.val (.obj "Teller" pre.length))/\al 2 L'=some o2
 | [],ds,L,_,_,h0,h2=>⟨L,by rw [zAx]; rfl,h0,h2⟩
 | u::r,ds,L,hnd,hl,h0,h2=>by
  have hl':ds.length+(r.length+1)<=900:=by rw [zAc] at hl; exact hl
  have q0:al 0 (ai 3 (.val u.enc) L)=some (.val (.obj "Teller" pre.length)):=(ah (by decide)).trans h0
  have q2:al 2 (ai 3 (.val u.enc) L)=some o2:=(ah (by decide)).trans h2
  have q3:al 3 (ai 3 (.val u.enc) L)=some (.val u.enc):=aA
  generalize hq:ai 3 (.val u.enc) L=L1 at q0 q2 q3
  have e1:inB2 ⟨L1,iS pre ds⟩=.ok .next ⟨L1,iS pre (ds++[u])⟩:=by
   have:=setSub_cel (S:=⟨L1,iS pre ds⟩) (S₁:=⟨L1,iS pre ds⟩) (b:=aw (aa 0) "functions") (i:=am (aa 3) (af (.int 0))) (bk q3) (aP q0 a9 (by kernel_rfl)) (aU (ba q3) rfl (bV q3) rfl) dY (pC (g:=Fu.enc) (dR hnd) (by lia))
   dsimp only at this
   rw [mt] at this
   exact bP (o:=.ok .next _) this trivial
  obtain ⟨L',f1,f2,f3⟩:=nS r (ds++[u]) L1 (by rw [zAm]; exact hnd) (by rw [zAm]; exact hl) q0 q2
  exact ⟨L',cf (by rw [hq]; exact e1) (by rw [f1,zAm]; rfl),f2,f3⟩
theorem init_ok (P:PW fs) (hl:fs.length<=900):au PP K (n+1) "Teller" "__init__" [.obj "Teller" pre.length,bU fs,.int F] (pre++[.flds []])=.ok .none (cM pre F 0 0 (dz fs)):=by
 rw [iv]
 show RT (ey (wX K n)) ⟨[(0,.val (.obj "Teller" pre.length)),(1,.val (bU fs)),(2,.val (.int F))],pre++[.flds []]⟩ _
 obtain ⟨L',f1,f2,f3⟩:=nS (pre:=pre) fs [] [(0,.val (.obj "Teller" pre.length)),(1,.val (bU fs)),(2,.val (.int F))] P.nd hl rfl rfl
 have e1:aO (aa 0) "functions" (aE (af (.dct [] [])) toCel) ⟨[(0,.val (.obj "Teller" pre.length)),(1,.val (bU fs)),(2,.val (.int F))],pre++[.flds []]⟩=.ok .next ⟨[(0,.val (.obj "Teller" pre.length)),(1,.val (bU fs)),(2,.val (.int F))],iS pre []⟩:=by
  have hd:aE (af (.dct [] [])) toCel ⟨[(0,.val (.obj "Teller" pre.length)),(1,.val (bU fs)),(2,.val (.int F))],pre++[.flds []]⟩=.ok (.cel (pre.length+1)) ⟨[(0,.val (.obj "Teller" pre.length)),(1,.val (bU fs)),(2,.val (.int F))],pre++[.flds [],.cont (.dct [] [])]⟩:=by
   show Out.ok (AV.cel (pre++[AO.flds []]).length) (⟨_,pre++[AO.flds []]++[AO.cont (.dct [] [])]⟩:S)=_
   rw [zAm,zAc]; rfl
  have:=cU (i:=0) (f:="functions") (l':=[("functions",.cel (pre.length+1))]) hd rfl a9 rfl (by kernel_rfl)
  dsimp only at this
  rw [gv] at this; exact this
 have sf:∀ {f:Str} {d:D AV} {w:AV} {l l':List (Str × AV)},d ⟨L',pre++[.flds l,.cont (dz fs)]⟩=.ok w ⟨L',pre++[.flds l,.cont (dz fs)]⟩->zCd l.length 100=true->kK f w l=l'->aO (aa 0) f d ⟨L',pre++[.flds l,.cont (dz fs)]⟩=.ok .next ⟨L',pre++[.flds l',.cont (dz fs)]⟩:=fun h hl hs=>by
  have:=cU (i:=0) h f2 a9 hl hs
  dsimp only at this
  rw [gv] at this; exact this
 refine .go e1 (.forI (l:=fs.map Fu.enc) (s₁:=⟨[(0,.val (.obj "Teller" pre.length)),(1,.val (bU fs)),(2,.val (.int F))],iS pre []⟩) rfl f1 ?_)
 exact .go (sf (l':=[("functions",.cel (pre.length+1)),("fuel",.int F)]) (bk f3) rfl (by kernel_rfl)) (.go (sf (w:=.int 0) (l':=[("functions",.cel (pre.length+1)),("fuel",.int F),("made",.int 0)]) rfl rfl (by kernel_rfl)) (.go (sf (w:=.int 0) (l':=telF pre.length F 0 0) rfl rfl (by kernel_rfl)) (.nil rfl)))
noncomputable def mU:Rl->AV
 | .val vs m=>.tup [.str "value",.int (hd vs),.int m]
 | .bad c m=>.tup [.str c.word,.none,.int m]
noncomputable abbrev hsR:Hs:=[("ByNought",ac (aV (aI [af (.str "nought"),af .none,aw (aa 5) "made"])) (af .next)),("TooGreat",ac (aV (aI [af (.str "great"),af .none,aw (aa 5) "made"])) (af .next)),("TooDeep",ac (aV (aI [af (.str "deep"),af .none,aw (aa 5) "made"])) (af .next)),("Dry",ac (aV (aI [af (.str "dry"),af .none,aw (aa 5) "made"])) (af .next))]
theorem o0 {L:bp} {st:St} {m:Int} (h1:aw (aa 5) "made" ⟨L,st⟩=.ok (.int m) ⟨L,st⟩) (c:Bad):ie PP.sub c.xc ⟨L,st⟩ hsR=.ok (.ret (mU (.bad c m))) ⟨L,st⟩:=by
 have go:∀ {y:Str},nG (ac (aV (aI [af (.str y),af .none,aw (aa 5) "made"])) (af .next) ⟨L,st⟩)=.ok (.ret (.tup [.str y,.none,.int m])) ⟨L,st⟩:=fun {y}=>by
  have h2:aI [af (.str y),af .none,aw (aa 5) "made"] ⟨L,st⟩=.ok (.tup [.str y,.none,.int m]) ⟨L,st⟩:=(aq (ag rfl (ag rfl (ag h1 rfl)))).trans rfl
  show nG (ax (ax (aI _ _) _) _)=_
  rw [h2]; rfl
 cases c with
 | nought =>
  show (if PP.sub "ByNought" "ByNought" then _ else _)=_
  rw [gX]; exact go
 | great =>
  show (if PP.sub "TooGreat" "ByNought" then _ else (if PP.sub "TooGreat" "TooGreat" then _ else _))=_
  rw [sub_g1,gX]; exact go
 | deep =>
  show (if PP.sub "TooDeep" "ByNought" then _ else (if PP.sub "TooDeep" "TooGreat" then _ else (if PP.sub "TooDeep" "TooDeep" then _ else _)))=_
  rw [sub_d1,sub_d2,gX]; exact go
 | dry =>
  show (if PP.sub "Dry" "ByNought" then _ else (if PP.sub "Dry" "TooGreat" then _ else (if PP.sub "Dry" "TooDeep" then _ else (if PP.sub "Dry" "Dry" then _ else _))))=_
  rw [sub_y1,sub_y2,sub_y3,gX]; exact go
noncomputable abbrev n7 (fs:List Fu) (f:Str) (vs:List Int) (F:Int):bp:=[(0,.val (bU fs)),(1,.val (.str f)),(2,.val (.lst (vs.map .int))),(3,.val (.int F)),(4,.val (iB fs))]
theorem told_ok (P:PW fs) (hl:fs.length<=900) {f:Str} {vs:List Int} (hs:bW fs f=some vs.length) (hv:∀ v ∈ vs,ik v) (hvl:vs.length<=900):∃ x y,au PP K (n+306) ⟨#[]⟩ "told" [bU fs,.str f,.lst (vs.map .int),.int F] pre=.ok (mU (b9 fs F 20 f vs 0)) (pre++[x,y]):=by
 obtain ⟨u,hu,hul⟩:=zAo.mp hs
 have C:=called_ok (K:=K) (pre:=pre) (F:=F) P 20 f vs 0 (n+305) hs hv (by lia) (by lia)
 rw [show (20 - ((20:Nat):Int))=0 from rfl] at C
 have hc:am (aa 4) (ae 1) ⟨n7 fs f vs F,pre⟩=.ok (.int (vs.length:Int)) ⟨n7 fs f vs F,pre⟩:=by
  show Mine.opt (dI (.str f) _ _) _=_
  rw [iQ,hu,← hul]; rfl
 have hln:aS az false [aa 2] ⟨n7 fs f vs F,pre⟩=.ok (.int (vs.length:Int)) ⟨n7 fs f vs F,pre⟩:=by
  have:aS az false [aa 2] ⟨n7 fs f vs F,pre⟩=.ok (.int ((vs.map AV.int).length:Int)) ⟨n7 fs f vs F,pre⟩:=rfl
  rw [zAd] at this; exact this
 have T:∀ {r:Ret},RT (ac (kD (wX K (n+305)) (ac (aL 6 (aW (wX K (n+305)) (aa 5) "called" [ae 1,aS aZ false [aa 2]])) (af .next)) hsR) (ac (aV (aI [af (.str "value"),ae 6,aw (aa 5) "made"])) (af .next))) ⟨n7 fs f vs F++[(5,.val (.obj "Teller" pre.length))],cM pre F 0 0 (dz fs)⟩ r->au PP K (n+306) ⟨#[]⟩ "told" [bU fs,.str f,.lst (vs.map .int),.int F] pre=r:=fun h=>by
  rw [rn_told]
  show RT (sh_told (wX K (n+305))) ⟨[(0,.val (bU fs)),(1,.val (.str f)),(2,.val (.lst (vs.map .int))),(3,.val (.int F))],pre⟩ _
  refine .asg (v:=iB fs) (s':=⟨[(0,.val (bU fs)),(1,.val (.str f)),(2,.val (.lst (vs.map .int))),(3,.val (.int F))],pre⟩) (a8 (vs:=[bU fs]) (s₁:=⟨[(0,.val (bU fs)),(1,.val (.str f)),(2,.val (.lst (vs.map .int))),(3,.val (.int F))],pre⟩) rfl (lQ (n:=n+291) P hl)) ?_
  refine .ifB (c:=false) (s':=⟨n7 fs f vs F,pre⟩) ?_ (.next (.ifB (c:=false) (s':=⟨n7 fs f vs F,pre⟩) ?_ (.next ?_)))
  ·refine (in_at (a:=.pl 1) (b:=.pl 4) (s:=⟨n7 fs f vs F,pre⟩) rfl rfl rfl rfl).2.trans ?_
   rw [fT,hu]; rfl
  ·refine (bT hln hc).trans ?_
   show Out.ok (AV.bool (!decide ((vs.length:Int)=vs.length))) _=_
   rw [decide_eq_true rfl]; rfl
  ·exact .asgR (v:=.obj "Teller" pre.length) (st':=cM pre F 0 0 (dz fs)) (q:=kj pre.length "Teller" (au PP K (n+301) "Teller" "__init__" [.obj "Teller" pre.length,bU fs,.int F] (pre++[.flds []]))) (s₁:=⟨n7 fs f vs F,pre⟩) rfl (by rw [init_ok (n:=n+300) P hl]; rfl) h
 have sq:bI [ae 1,aS aZ false [aa 2]] ⟨n7 fs f vs F++[(5,.val (.obj "Teller" pre.length))],cM pre F 0 0 (dz fs)⟩=.ok [.str f,.lst (vs.map .int)] ⟨n7 fs f vs F++[(5,.val (.obj "Teller" pre.length))],cM pre F 0 0 (dz fs)⟩ :=
  ag (s₁:=⟨n7 fs f vs F++[(5,.val (.obj "Teller" pre.length))],cM pre F 0 0 (dz fs)⟩) rfl (ag (cg (a:=.pl 2) (c:=.lst (vs.map .int)) rfl rfl (cN (by rw [zAd]; lia))) rfl)
 have hw:=ef (X:=wX K (n+305)) (c:="Teller") (m:="called") (o:=pre.length) (i:=5) lG rfl a9 sq
 have hw:aW (wX K (n+305)) (aa 5) "called" [ae 1,aS aZ false [aa 2]] ⟨n7 fs f vs F++[(5,.val (.obj "Teller" pre.length))],cM pre F 0 0 (dz fs)⟩=dZ (cld K (n+305) pre.length (.str f) (vs.map .int) (cM pre F 0 0 (dz fs))) ⟨n7 fs f vs F++[(5,.val (.obj "Teller" pre.length))],cM pre F 0 0 (dz fs)⟩:=hw
 cases hcs:b9 fs F 20 f vs 0 with
 | bad c m =>
  rw [hcs] at C
  obtain ⟨g',e⟩:=C
  rw [e] at hw
  refine ⟨_,_,T (.tryX (c:=c.xc) (s':=⟨n7 fs f vs F++[(5,.val (.obj "Teller" pre.length))],cM pre F m g' (dz fs)⟩) ?_ (o0 (aP rfl a9 (by kernel_rfl)) c) rfl)⟩
  show ax (ax (aW _ _ _ _ _) _) _=_
  rw [hw]; rfl
 | val ws m =>
  rw [hcs] at C
  rw [show cld K (n+305) pre.length (.str f) (vs.map .int) (cM pre F 0 0 (dz fs))=_ from C] at hw
  refine ⟨_,_,T (.tryOk (s':=⟨n7 fs f vs F++[(5,.val (.obj "Teller" pre.length)),(6,.val (.int (hd ws)))],cM pre F m 0 (dz fs)⟩) ?_ (.ret (v:=mU (.val ws m)) (s':=⟨n7 fs f vs F++[(5,.val (.obj "Teller" pre.length)),(6,.val (.int (hd ws)))],cM pre F m 0 (dz fs)⟩) ?_ rfl))⟩
  ·exact (ji (s':=⟨n7 fs f vs F++[(5,.val (.obj "Teller" pre.length)),(6,.val (.int (hd ws)))],cM pre F m 0 (dz fs)⟩) (aQ (hw.trans rfl))).trans rfl
  ·exact (aq (ag rfl (ag rfl (ag (aP rfl a9 (by kernel_rfl)) rfl)))).trans rfl
end
noncomputable def len:Tr->Nat
 | .num _ | .name _=>1
 | .deed _ a b | .lt _ a b=>len a+len b+1
 | .choose a b c=>len a+len b+len c+2
 | .call _ l=>len l+1
 | .nil=>0
 | .cons t r=>len t+len r
noncomputable def ltN:Tr->Nat
 | .num _ | .name _ | .nil=>0
 | .deed _ a b | .cons a b=>max (ltN a) (ltN b)
 | .lt _ a b=>max (ltN a) (1+ltN b)
 | .choose a b c=>max (ltN a) (max (ltN b) (ltN c))
 | .call _ l=>ltN l
noncomputable def mxN:List Nat->Nat
 | []=>0
 | x::r=>max x (mxN r)
noncomputable def Mea (fn:Str) (h:Nat) (a:AV) (i:Nat):Prop:=∀ (K n:Nat) (st:St),h+1<=n->au PP K n ⟨#[]⟩ fn [a] st=.ok (.int (i:Int)) st
noncomputable def MeaL (fn:Str) (h:Nat) (l:List AV) (agg:List Nat->Nat) (i:Nat):Prop:=∃ ps:List (AV × Nat),ps.map (·.1)=l/\(∀ p ∈ ps,Mea fn h p.1 p.2)/\agg (ps.map (·.2))=i
section
variable {fn:Str} {h:Nat} {agg:List Nat->Nat} {K n:Nat} {st:St} {L:bp} {t a b c:AV} {i j k:Nat}
theorem MeaL.two (ha:Mea fn h a i) (hb:Mea fn h b j):MeaL fn h [a,b] agg (agg [i,j]):=⟨[(a,i),(b,j)],rfl,fun p hp=>by
 rcases zAl.mp hp with rfl | hp
 ·exact ha
 ·rw [zAi.mp hp]; exact hb,rfl⟩
theorem MeaL.three (ha:Mea fn h a i) (hb:Mea fn h b j) (hc:Mea fn h c k):MeaL fn h [a,b,c] agg (agg [i,j,k]):=⟨[(a,i),(b,j),(c,k)],rfl,fun p hp=>by
 rcases zAl.mp hp with rfl | hp
 ·exact ha
 ·rcases zAl.mp hp with rfl | hp
  ·exact hb
  ·rw [zAi.mp hp]; exact hc,rfl⟩
theorem gP {ps:List (AV × Nat)} (h0:al 0 L=some (.val t)) (hw:au PP K n ⟨#[]⟩ "within" [t] st=.ok (.lst (ps.map (·.1))) st) (hp:∀ p ∈ ps,au PP K n ⟨#[]⟩ fn [p.1] st=.ok (.int (p.2:Int)) st) (hl:ps.length<=1000) :
  bG [] 1 (aX (wX K n) fn [ae 1]) (bw (aX (wX K n) "within" [ae 0])) ⟨L,st⟩=.ok (.lst (ps.map fun p=>.int (p.2:Int))) ⟨L,st⟩ :=
 iT (l:=ps) (f:=(·.1)) (g:=fun p=>AV.int (p.2:Int)) (s:=⟨L,st⟩) (s₁:=⟨L,st⟩) (et (a8 (s₁:=⟨L,st⟩) (ag (bk h0) rfl) hw)) hl fun p hq=>⟨_,a8 (vs:=[p.1]) (s₁:=⟨[(1,.val p.1)],st⟩) rfl (hp p hq)⟩
theorem fN:∀ l:List (AV × Nat),dg (l.map fun p=>.int (p.2:Int))=some ((l.map (·.2)).map fun i:Nat=>(i:Int))
 | []=>rfl
 | x::r=>by show (dg (r.map fun p=>.int (p.2:Int))).map _=_; rw [fN r]; rfl
theorem sum_cast:∀ l:List Nat,(l.map fun i:Nat=>(i:Int)).sum=((l.sum:Nat):Int)
 | []=>rfl
 | x::r=>by rw [zA4,zCf,zCf,sum_cast r]; rfl
theorem length_node {ps:List (AV × Nat)} {own:Nat} {tg:Str} {tl:List AV} (ho:own=if seq tg "choose" then 2 else 1) (hw:∀ st,au PP K n ⟨#[]⟩ "within" [.tup (.str tg::tl)] st=.ok (.lst (ps.map (·.1))) st) (hp:∀ p ∈ ps,∀ st,au PP K n ⟨#[]⟩ "length" [p.1] st=.ok (.int (p.2:Int)) st) (hl:ps.length<=1000):au PP K (n+1) ⟨#[]⟩ "length" [.tup (.str tg::tl)] st=.ok (.int ((own+(ps.map (·.2)).sum:Nat):Int)) st:=by
 rw [rn_length]
 show RT (nH (wX K n)) ⟨[(0,.val (.tup (.str tg::tl)))],st⟩ _
 have fin:RT (ac (aV (aj .Add (aa 1) (aS biSum false [bG [] 1 (aX (wX K n) "length" [ae 1]) (bw (aX (wX K n) "within" [ae 0]))]))) (af .next)) ⟨[(0,.val (.tup (.str tg::tl))),(1,.val (.int (own:Int)))],st⟩ (.ok (.int ((own+(ps.map (·.2)).sum:Nat):Int)) st):=by
  have e1:=gP (fn:="length") (L:=[(0,.val (.tup (.str tg::tl))),(1,.val (.int (own:Int)))]) (st:=st) rfl (hw st) (fun p q=>hp p q st) hl
  have e2:aS biSum false [bG [] 1 (aX (wX K n) "length" [ae 1]) (bw (aX (wX K n) "within" [ae 0]))] ⟨[(0,.val (.tup (.str tg::tl))),(1,.val (.int (own:Int)))],st⟩=.ok (.int (((ps.map (·.2)).sum:Nat):Int)) ⟨[(0,.val (.tup (.str tg::tl))),(1,.val (.int (own:Int)))],st⟩:=cg e1 rfl (by
   show (dg (ps.map fun p=>.int (p.2:Int))).map (fun ns=>AV.int ns.sum)=_
   rw [fN]
   show some (AV.int _)=_
   rw [sum_cast])
  exact .ret (ay (a':=.int (own:Int)) rfl e2 rfl rfl rfl) rfl
 refine .go (s':=⟨[(0,.val (.tup (.str tg::tl))),(1,.val (.int 1))],st⟩) rfl (.ifB (c:=seq tg "choose") rfl ?_)
 cases hc:seq tg "choose" with
 | true=>rw [hc] at ho; subst ho; exact .assoc (.go (s':=⟨[(0,.val (.tup (.str tg::tl))),(1,.val (.int 2))],st⟩) rfl (.next fin))
 | false=>rw [hc] at ho; subst ho; exact .next fin
end
noncomputable def LnG (fn:Str) (agg:List Nat->Nat) (mu:Tr->Nat) (h:Nat) (t:Tr):Option Nat->Prop
 | none=>Mea fn h t.enc (mu t)
 | some _=>MeaL fn h (dT t.enc) agg (mu t)
section
variable {sig:Str->Option Nat}
theorem MeaL.len {fn:Str} {h:Nat} {agg:List Nat->Nat} {l:List AV} {i:Nat} {ps:List (AV × Nat)} (e:ps.map (·.1)=l):ps.length=l.length:=by rw [← e,zAd]
theorem Mea.up {fn:Str} {h h':Nat} {a:AV} {i:Nat} (q:Mea fn h a i) (hh:h<=h'):Mea fn h' a i:=fun K n st hn=>q K n st (by lia)
theorem jR:∀ (t:Tr) {h:Nat} {ns:List Str} {k:Option Nat},t.wf sig h ns k->LnG "length" List.sum len h t k:=by
 have nd:∀ {t:Tr} {h:Nat} {ns:List Str} {tg:Str} {tl:List AV} {i:Nat},t.wf sig (h+1) ns none->t.enc=.tup (.str tg::tl)->MeaL "length" h (jK t) List.sum i->(jK t).length<=1000->Mea "length" (h+1) t.enc ((if seq tg "choose" then 2 else 1)+i):=fun {t h ns tg tl i} q e m hl K n st hn=>by
  obtain ⟨n,rfl⟩:∃ n',n=n'+1:=⟨n - 1,by lia⟩
  obtain ⟨ps,e1,e2,e3⟩:=m
  rw [e,← e3]
  refine length_node rfl (fun st=>?_) (fun p hp st=>e2 p hp K n st (by lia)) (by rw [MeaL.len (fn:="") (h:=0) (agg:=List.sum) (i:=0) e1]; exact hl)
  obtain ⟨n,rfl⟩:∃ n',n=n'+1:=⟨n - 1,by lia⟩
  rw [← e,e1]; exact dK q
 intro t
 induction t with
 | num i =>
  intro h ns k q
  have q':=q
  obtain ⟨rfl,h0,_⟩:=q
  obtain ⟨h,rfl⟩:∃ h',h=h'+1:=⟨h - 1,by lia⟩
  exact nd (tg:="num") q' rfl ⟨[],rfl,(fun p hp=>nomatch hp),rfl⟩ (zA7 _)
 | name x =>
  intro h ns k q
  have q':=q
  obtain ⟨rfl,h0,_⟩:=q
  obtain ⟨h,rfl⟩:∃ h',h=h'+1:=⟨h - 1,by lia⟩
  exact nd (tg:="name") q' rfl ⟨[],rfl,(fun p hp=>nomatch hp),rfl⟩ (zA7 _)
 | deed w a b iha ihb =>
  intro h ns k q
  have q':=q
  obtain ⟨rfl,h',rfl,h1,h2⟩:=q
  have:=nd (tg:=w.str) q' rfl (.two (iha h1) (ihb h2)) (by decide:2<=1000)
  rw [show seq w.str "choose"=false by cases w <;> decide +kernel] at this
  show Mea _ _ _ (len a+len b+1)
  rw [show len a+len b+1=(if false=true then 2 else 1)+[len a,len b].sum by simp; lia]; exact this
 | choose a b c iha ihb ihc =>
  intro h ns k q
  have q':=q
  obtain ⟨rfl,h',rfl,h1,h2,h3⟩:=q
  have:=nd (tg:="choose") q' rfl (.three (iha h1) (ihb h2) (ihc h3)) (by decide:3<=1000)
  rw [bS] at this
  show Mea _ _ _ (len a+len b+len c+2)
  rw [show len a+len b+len c+2=(if true=true then 2 else 1)+[len a,len b,len c].sum by simp; lia]; exact this
 | lt x a b iha ihb =>
  intro h ns k q
  have q':=q
  obtain ⟨rfl,h',rfl,h1,h2⟩:=q
  have:=nd (tg:="let") q' rfl (.two (iha h1) (ihb h2)) (by decide:2<=1000)
  rw [show seq "let" "choose"=false by decide +kernel] at this
  show Mea _ _ _ (len a+len b+1)
  rw [show len a+len b+1=(if false=true then 2 else 1)+[len a,len b].sum by simp; lia]; exact this
 | call f l ih =>
  intro h ns k q
  have q':=q
  obtain ⟨rfl,h',rfl,c,_,hc,h2⟩:=q
  have:=nd (tg:="call") q' rfl (ih h2) (by show (dT l.enc).length<=1000; rw [(g7 h2).2]; lia)
  rw [show seq "call" "choose"=false by decide +kernel] at this
  show Mea _ _ _ (len l+1)
  rw [Nat.add_comm (len l) 1]; exact this
 | nil=>intro h ns k q; cases q; exact ⟨[],rfl,(fun p hp=>nomatch hp),rfl⟩
 | cons t r iht ihr =>
  intro h ns k q
  obtain ⟨c,rfl,h1,h2⟩:=q
  obtain ⟨ps,e1,e2,e3⟩:=ihr h2
  refine ⟨(t.enc,len t)::ps,congrArg (t.enc::·) e1,fun p hp=>?_,by show (len t::ps.map (·.2)).sum=_; rw [zCf,e3]; rfl⟩
  rcases zAl.mp hp with rfl | hp
  ·exact iht h1
  ·exact e2 p hp
end
theorem g8:∀ (r:List Nat) (x:Nat),(r.map fun i:Nat=>(i:Int)).foldl max (x:Int)=((max x (mxN r):Nat):Int)
 | [],x=>by show (x:Int)=((max x 0:Nat):Int); rw [Nat.max_zero]
 | y::r,x=>by
  show (r.map fun i:Nat=>(i:Int)).foldl max (max (x:Int) (y:Int))=((max x (max y (mxN r)):Nat):Int)
  rw [show max (x:Int) (y:Int)=((max x y:Nat):Int) by lia,g8 r (max x y),Nat.max_assoc]
theorem maxL_nat:∀ l:List Nat,(gu (l.map fun i:Nat=>(i:Int))).getD 0=((mxN l:Nat):Int)
 | []=>rfl
 | x::r=>g8 r x
theorem bi2_at {b:BiE} {k:Bool} {d e:D AV} {a c v a' c':AV} {s s₁ s₂:S} (h:d s=.ok a s₁) (h2:e s₁=.ok a' s₂) (ha:aT a s₂=some c) (ha':aT a' s₂=some c') (hv:b.den k [c,c']=some v):aS b k [d,e] s=.ok v s₂:=by
 have d1:deref a s₂=.ok c s₂:=by unfold deref; rw [ha]
 have d2:deref a' s₂=.ok c' s₂:=by unfold deref; rw [ha']
 have e1:gE [a,a'] s₂=.ok [c,c'] s₂:=by
  show aE (deref a) _ _=_
  rw [aq d1]
  show aE (aE (deref a') _) _ _=_
  rw [bO,aq d2]; rfl
 unfold aS
 rw [aq (ag h (ag h2 rfl)),aq e1,hv]; rfl
section
variable {K n:Nat} {st:St} {tg:Str} {tl:List AV} {ps:List (AV × Nat)}
theorem lets_node (hl:ps.length<=1000) (ht:seq tg "let"=false) (hw:au PP K n ⟨#[]⟩ "within" [.tup (.str tg::tl)] st=.ok (.lst (ps.map (·.1))) st) (hp:∀ p ∈ ps,au PP K n ⟨#[]⟩ "lets" [p.1] st=.ok (.int (p.2:Int)) st):au PP K (n+1) ⟨#[]⟩ "lets" [.tup (.str tg::tl)] st=.ok (.int ((mxN (ps.map (·.2)):Nat):Int)) st:=by
 rw [rn_lets]
 show RT (pv (wX K n)) ⟨[(0,.val (.tup (.str tg::tl)))],st⟩ _
 have e1:=gP (fn:="lets") (L:=[(0,.val (.tup (.str tg::tl)))]) (st:=st) rfl hw hp hl
 refine .eqN (x:=tg) (y:="let") ht rfl (.next (.ret (cg (v:=.int ((mxN (ps.map (·.2)):Nat):Int)) e1 rfl ?_) rfl))
 show (dg (ps.map fun p=>.int (p.2:Int))).bind (fun ns=>some (AV.int ((gu ns).getD 0)))=_
 rw [fN]
 show some (AV.int _)=_
 rw [maxL_nat]
theorem lets_let {x a b:AV} {i j:Nat} (ha:au PP K n ⟨#[]⟩ "lets" [a] st=.ok (.int (i:Int)) st) (hb:au PP K n ⟨#[]⟩ "lets" [b] st=.ok (.int (j:Int)) st):au PP K (n+1) ⟨#[]⟩ "lets" [.tup [.str "let",x,a,b]] st=.ok (.int ((max i (1+j):Nat):Int)) st:=by
 rw [rn_lets]
 show RT (pv (wX K n)) ⟨[(0,.val (.tup [.str "let",x,a,b]))],st⟩ _
 have e1:aX (wX K n) "lets" [am (aa 0) (af (.int 2))] ⟨[(0,.val (.tup [.str "let",x,a,b]))],st⟩=.ok (.int (i:Int)) ⟨[(0,.val (.tup [.str "let",x,a,b]))],st⟩:=a8 (vs:=[a]) (s₁:=⟨[(0,.val (.tup [.str "let",x,a,b]))],st⟩) rfl ha
 have e2:aX (wX K n) "lets" [am (aa 0) (af (.int 3))] ⟨[(0,.val (.tup [.str "let",x,a,b]))],st⟩=.ok (.int (j:Int)) ⟨[(0,.val (.tup [.str "let",x,a,b]))],st⟩:=a8 (vs:=[b]) (s₁:=⟨[(0,.val (.tup [.str "let",x,a,b]))],st⟩) rfl hb
 refine .eqT (x:="let") (y:="let") (by decide +kernel) rfl (.assoc (.ret (bi2_at (v:=.int ((max i (1+j):Nat):Int)) e1 (ay (v:=.int (1+(j:Int))) rfl e2 rfl rfl rfl) rfl rfl ?_) rfl))
 show some (AV.int (max (i:Int) (1+(j:Int))))=_
 rw [show max (i:Int) (1+(j:Int))=((max i (1+j):Nat):Int) by lia]
noncomputable def hfold:Nat->Nat->List Nat->Nat
 | _,x,[]=>x
 | k,x,i::r=>hfold (k+1) (max x (k+i)) r
noncomputable abbrev hB (X:Ctx):D Fl:=ac (aL 2 (aS biMax false [aa 2,aj .Add (aa 3) (aX X "height" [ae 1])])) (af .next)
theorem jU:∀ (ps:List (AV × Nat)) (k x:Nat) (L:bp),(∀ p ∈ ps,au PP K n ⟨#[]⟩ "height" [p.1] st=.ok (.int (p.2:Int)) st)->al 2 L=some (.val (.int (x:Int)))->∃ L',br (none,[3,1]) (hB (wX K n)) (fj (k:Int) (ps.map (·.1))) ⟨L,st⟩=.ok .next ⟨L',st⟩/\al 2 L'=some (.val (.int ((hfold k x (ps.map (·.2)):Nat):Int)))
 | [],k,x,L,_,h=>⟨L,rfl,h⟩
 | p::r,k,x,L,hp,h=>by
  have q2:al 2 (ai 1 (.val p.1) (ai 3 (.val (.int (k:Int))) L))=some (.val (.int (x:Int))):=(ah (by decide)).trans ((ah (by decide)).trans h)
  have q1:al 1 (ai 1 (.val p.1) (ai 3 (.val (.int (k:Int))) L))=some (.val p.1):=aA
  have q3:al 3 (ai 1 (.val p.1) (ai 3 (.val (.int (k:Int))) L))=some (.val (.int (k:Int))):=(ah (by decide)).trans aA
  generalize hq:ai 1 (.val p.1) (ai 3 (.val (.int (k:Int))) L)=L1 at q1 q2 q3
  have e1:aX (wX K n) "height" [ae 1] ⟨L1,st⟩=.ok (.int (p.2:Int)) ⟨L1,st⟩:=a8 (vs:=[p.1]) (s₁:=⟨L1,st⟩) (ag (bk q1) rfl) (hp p zAb)
  have e2:hB (wX K n) ⟨L1,st⟩=.ok .next ⟨ai 2 (.val (.int ((max x (k+p.2):Nat):Int))) L1,st⟩:=by
   refine bP (o:=.ok .next _) (aQ (bi2_at (ba q2) (ay (v:=.int ((k:Int)+(p.2:Int))) (ba q3) e1 (mz q3) rfl rfl) (mz q2) rfl ?_)) trivial
   show some (AV.int (max (x:Int) ((k:Int)+(p.2:Int))))=_
   rw [show max (x:Int) ((k:Int)+(p.2:Int))=((max x (k+p.2):Nat):Int) by lia]
  obtain ⟨L',f1,f2⟩:=jU r (k+1) (max x (k+p.2)) _ (fun p q=>hp p (zAe _ q)) (aA (k:=2) (L:=L1) (lv:=.val (.int ((max x (k+p.2):Nat):Int))))
  exact ⟨L',cq (ks:=[3,1]) (vs:=[.int (k:Int),p.1]) rfl (by show hB _ ⟨ai 1 _ (ai 3 _ L),st⟩=_; rw [hq]; exact e2) f1,f2⟩
theorem height_big {p0:AV × Nat} (hl:(p0::ps).length<=1000) (ht:(seq tg "choose" || seq tg "let")=true) (hw:au PP K n ⟨#[]⟩ "within" [.tup (.str tg::tl)] st=.ok (.lst ((p0::ps).map (·.1))) st) (hp:∀ p ∈ p0::ps,au PP K n ⟨#[]⟩ "height" [p.1] st=.ok (.int (p.2:Int)) st):au PP K (n+1) ⟨#[]⟩ "height" [.tup (.str tg::tl)] st=.ok (.int ((max p0.2 (mxN (ps.map (·.2))):Nat):Int)) st:=by
 rw [m7]
 show RT (jF (wX K n)) ⟨[(0,.val (.tup (.str tg::tl)))],st⟩ _
 have e1:=gP (fn:="height") (ps:=p0::ps) (L:=[(0,.val (.tup (.str tg::tl)))]) (st:=st) rfl hw hp hl
 refine .ifB (c:=true) (s':=⟨[(0,.val (.tup (.str tg::tl)))],st⟩) ?_ (.assoc (.ret (cg (v:=.int ((max p0.2 (mxN (ps.map (·.2))):Nat):Int)) e1 rfl ?_) rfl))
 ·refine (j1 (c:=seq tg "choose") rfl).trans ?_
  cases h:seq tg "choose" with
  | true=>rfl
  | false=>rw [h] at ht; show Out.ok (AV.bool (seq tg "let")) _=_; rw [show seq tg "let"=true from ht]
 ·show (dg ((p0::ps).map fun p=>.int (p.2:Int))).bind (fun ns=>(gu ns).map AV.int)=_
  rw [fN]
  show some (AV.int _)=_
  rw [g8]
theorem height_node (ht:seq tg "choose"=false) (ht':seq tg "let"=false) (hw:au PP K n ⟨#[]⟩ "within" [.tup (.str tg::tl)] st=.ok (.lst (ps.map (·.1))) st) (hp:∀ p ∈ ps,au PP K n ⟨#[]⟩ "height" [p.1] st=.ok (.int (p.2:Int)) st):au PP K (n+1) ⟨#[]⟩ "height" [.tup (.str tg::tl)] st=.ok (.int ((hfold 0 1 (ps.map (·.2)):Nat):Int)) st:=by
 rw [m7]
 show RT (jF (wX K n)) ⟨[(0,.val (.tup (.str tg::tl)))],st⟩ _
 obtain ⟨L',f1,f2⟩:=jU (K:=K) (n:=n) (st:=st) ps 0 1 [(0,.val (.tup (.str tg::tl))),(2,.val (.int 1))] hp rfl
 refine .ifB (c:=false) (s':=⟨[(0,.val (.tup (.str tg::tl)))],st⟩) ((j1 (c:=seq tg "choose") rfl).trans (by rw [ht]; show Out.ok (AV.bool (seq tg "let")) _=_; rw [ht'])) (.next (.go (s':=⟨[(0,.val (.tup (.str tg::tl))),(2,.val (.int 1))],st⟩) rfl ?_))
 have e1:hU .enum [aX (wX K n) "within" [ae 0]] ⟨[(0,.val (.tup (.str tg::tl))),(2,.val (.int 1))],st⟩=.ok (.tup (fj 0 (ps.map (·.1)))) ⟨[(0,.val (.tup (.str tg::tl))),(2,.val (.int 1))],st⟩:=by
  unfold hU
  rw [aq (ag (a8 (vs:=[.tup (.str tg::tl)]) (s₁:=⟨[(0,.val (.tup (.str tg::tl))),(2,.val (.int 1))],st⟩) rfl hw) rfl)]; rfl
 exact .forT e1 f1 (.ret (bk f2) rfl)
end
section
variable {sig:Str->Option Nat}
theorem dX {K n h:Nat} {st:St} {t:Tr} {ns:List Str} (q:t.wf sig h ns none) (hn:1<=n):au PP K n ⟨#[]⟩ "within" [t.enc] st=.ok (.lst (jK t)) st:=by
 obtain ⟨n,rfl⟩:∃ n',n=n'+1:=⟨n - 1,by lia⟩
 exact dK q
theorem lets_ok:∀ (t:Tr) {h:Nat} {ns:List Str} {k:Option Nat},t.wf sig h ns k->LnG "lets" mxN ltN h t k:=by
 have nd:∀ {t:Tr} {h:Nat} {ns:List Str} {tg:Str} {tl:List AV} {i:Nat},t.wf sig (h+1) ns none->t.enc=.tup (.str tg::tl)->seq tg "let"=false->MeaL "lets" h (jK t) mxN i->(jK t).length<=1000->Mea "lets" (h+1) t.enc i:=fun {t h ns tg tl i} q e ht m hl K n st hn=>by
  obtain ⟨n,rfl⟩:∃ n',n=n'+1:=⟨n - 1,by lia⟩
  obtain ⟨ps,e1,e2,e3⟩:=m
  have hw:=dX (K:=K) (n:=n) (st:=st) q (by lia)
  rw [e,← e1] at hw
  rw [e,← e3]
  exact lets_node (by rw [MeaL.len (fn:="") (h:=0) (agg:=List.sum) (i:=0) e1]; exact hl) ht hw (fun p hp=>e2 p hp K n st (by lia))
 intro t
 induction t with
 | num i =>
  intro h ns k q
  have q':=q
  obtain ⟨rfl,h0,_⟩:=q
  obtain ⟨h,rfl⟩:∃ h',h=h'+1:=⟨h - 1,by lia⟩
  exact nd (tg:="num") q' rfl (by decide +kernel) ⟨[],rfl,(fun p hp=>nomatch hp),rfl⟩ (zA7 _)
 | name x =>
  intro h ns k q
  have q':=q
  obtain ⟨rfl,h0,_⟩:=q
  obtain ⟨h,rfl⟩:∃ h',h=h'+1:=⟨h - 1,by lia⟩
  exact nd (tg:="name") q' rfl (by decide +kernel) ⟨[],rfl,(fun p hp=>nomatch hp),rfl⟩ (zA7 _)
 | deed w a b iha ihb =>
  intro h ns k q
  have q':=q
  obtain ⟨rfl,h',rfl,h1,h2⟩:=q
  have:=nd (tg:=w.str) q' rfl (by cases w <;> decide +kernel) (.two (iha h1) (ihb h2)) (by decide:2<=1000)
  show Mea _ _ _ (max (ltN a) (ltN b))
  rw [show max (ltN a) (ltN b)=mxN [ltN a,ltN b] by show _=max (ltN a) (max (ltN b) 0); rw [Nat.max_zero]]; exact this
 | choose a b c iha ihb ihc =>
  intro h ns k q
  have q':=q
  obtain ⟨rfl,h',rfl,h1,h2,h3⟩:=q
  have:=nd (tg:="choose") q' rfl (by decide +kernel) (.three (iha h1) (ihb h2) (ihc h3)) (by decide:3<=1000)
  show Mea _ _ _ (max (ltN a) (max (ltN b) (ltN c)))
  rw [show max (ltN a) (max (ltN b) (ltN c))=mxN [ltN a,ltN b,ltN c] by show _=max (ltN a) (max (ltN b) (max (ltN c) 0)); rw [Nat.max_zero]]; exact this
 | lt x a b iha ihb =>
  intro h ns k q
  obtain ⟨rfl,h',rfl,h1,h2⟩:=q
  intro K n st hn
  obtain ⟨n,rfl⟩:∃ n',n=n'+1:=⟨n - 1,by lia⟩
  exact lets_let (iha h1 K n st (by lia)) (ihb h2 K n st (by lia))
 | call f l ih =>
  intro h ns k q
  have q':=q
  obtain ⟨rfl,h',rfl,c,_,hc,h2⟩:=q
  exact nd (tg:="call") q' rfl (by decide +kernel) (ih h2) (by show (dT l.enc).length<=1000; rw [(g7 h2).2]; lia)
 | nil=>intro h ns k q; cases q; exact ⟨[],rfl,(fun p hp=>nomatch hp),rfl⟩
 | cons t r iht ihr =>
  intro h ns k q
  obtain ⟨c,rfl,h1,h2⟩:=q
  obtain ⟨ps,e1,e2,e3⟩:=ihr h2
  refine ⟨(t.enc,ltN t)::ps,congrArg (t.enc::·) e1,fun p hp=>?_,by show max (ltN t) (mxN (ps.map (·.2)))=_; rw [e3]; rfl⟩
  rcases zAl.mp hp with rfl | hp
  ·exact iht h1
  ·exact e2 p hp
noncomputable def HeG (h:Nat) (t:Tr):Option Nat->Prop
 | none=>∃ i,Mea "height" h t.enc i
 | some _=>∃ i,MeaL "height" h (dT t.enc) mxN i
theorem height_ok:∀ (t:Tr) {h:Nat} {ns:List Str} {k:Option Nat},t.wf sig h ns k->HeG h t k:=by
 have nd:∀ {t:Tr} {h:Nat} {ns:List Str} {tg:Str} {tl:List AV} {i:Nat},t.wf sig (h+1) ns none->t.enc=.tup (.str tg::tl)->seq tg "choose"=false->seq tg "let"=false->MeaL "height" h (jK t) mxN i->∃ j,Mea "height" (h+1) t.enc j:=fun {t h ns tg tl i} q e ht ht' m=>by
  obtain ⟨ps,e1,e2,e3⟩:=m
  refine ⟨hfold 0 1 (ps.map (·.2)),fun K n st hn=>?_⟩
  obtain ⟨n,rfl⟩:∃ n',n=n'+1:=⟨n - 1,by lia⟩
  have hw:=dX (K:=K) (n:=n) (st:=st) q (by lia)
  rw [e,← e1] at hw
  rw [e]
  exact height_node ht ht' hw (fun p hp=>e2 p hp K n st (by lia))
 have bg:∀ {t:Tr} {h:Nat} {ns:List Str} {tg:Str} {tl:List AV} {i:Nat},t.wf sig (h+1) ns none->t.enc=.tup (.str tg::tl)->(seq tg "choose" || seq tg "let")=true->MeaL "height" h (jK t) mxN i->(jK t).length<=1000->jK t ≠ []->∃ j,Mea "height" (h+1) t.enc j:=fun {t h ns tg tl i} q e ht m hl hne=>by
  obtain ⟨ps,e1,e2,e3⟩:=m
  cases ps with
  | nil=>exact absurd e1.symm hne
  | cons p0 ps =>
   refine ⟨max p0.2 (mxN (ps.map (·.2))),fun K n st hn=>?_⟩
   obtain ⟨n,rfl⟩:∃ n',n=n'+1:=⟨n - 1,by lia⟩
   have hw:=dX (K:=K) (n:=n) (st:=st) q (by lia)
   rw [e,← e1] at hw
   rw [e]
   exact height_big (by rw [MeaL.len (fn:="") (h:=0) (agg:=List.sum) (i:=0) e1]; exact hl) ht hw (fun p hp=>e2 p hp K n st (by lia))
 intro t
 induction t with
 | num i =>
  intro h ns k q
  have q':=q
  obtain ⟨rfl,h0,_⟩:=q
  obtain ⟨h,rfl⟩:∃ h',h=h'+1:=⟨h - 1,by lia⟩
  exact nd (tg:="num") q' rfl (by decide +kernel) (by decide +kernel) ⟨[],rfl,(fun p hp=>nomatch hp),rfl⟩
 | name x =>
  intro h ns k q
  have q':=q
  obtain ⟨rfl,h0,_⟩:=q
  obtain ⟨h,rfl⟩:∃ h',h=h'+1:=⟨h - 1,by lia⟩
  exact nd (tg:="name") q' rfl (by decide +kernel) (by decide +kernel) ⟨[],rfl,(fun p hp=>nomatch hp),rfl⟩
 | deed w a b iha ihb =>
  intro h ns k q
  have q':=q
  obtain ⟨rfl,h',rfl,h1,h2⟩:=q
  obtain ⟨i,hi⟩:=iha h1
  obtain ⟨j,hj⟩:=ihb h2
  exact nd (tg:=w.str) q' rfl (by cases w <;> decide +kernel) (by cases w <;> decide +kernel) (.two hi hj)
 | choose a b c iha ihb ihc =>
  intro h ns k q
  have q':=q
  obtain ⟨rfl,h',rfl,h1,h2,h3⟩:=q
  obtain ⟨i,hi⟩:=iha h1
  obtain ⟨j,hj⟩:=ihb h2
  obtain ⟨l,hl⟩:=ihc h3
  exact bg (tg:="choose") q' rfl (by decide +kernel) (.three hi hj hl) (by decide:3<=1000) (fun q=>nomatch q)
 | lt x a b iha ihb =>
  intro h ns k q
  have q':=q
  obtain ⟨rfl,h',rfl,h1,h2⟩:=q
  obtain ⟨i,hi⟩:=iha h1
  obtain ⟨j,hj⟩:=ihb h2
  exact bg (tg:="let") q' rfl (by decide +kernel) (.two hi hj) (by decide:2<=1000) (fun q=>nomatch q)
 | call f l ih =>
  intro h ns k q
  have q':=q
  obtain ⟨rfl,h',rfl,c,_,hc,h2⟩:=q
  obtain ⟨i,hi⟩:=ih h2
  exact nd (tg:="call") q' rfl (by decide +kernel) (by decide +kernel) hi
 | nil=>intro h ns k q; cases q; exact ⟨0,[],rfl,(fun p hp=>nomatch hp),rfl⟩
 | cons t r iht ihr =>
  intro h ns k q
  obtain ⟨c,rfl,h1,h2⟩:=q
  obtain ⟨i,hi⟩:=iht h1
  obtain ⟨j,ps,e1,e2,e3⟩:=ihr h2
  refine ⟨_,(t.enc,i)::ps,congrArg (t.enc::·) e1,fun p hp=>?_,rfl⟩
  rcases zAl.mp hp with rfl | hp
  ·exact hi
  ·exact e2 p hp
end
end Mine
end
section
set_option genSizeOf false
set_option genSizeOfSpec false
set_option genInjectivity false
set_option autoImplicit false
set_option linter.unusedVariables false
set_option maxRecDepth 100000
set_option genSizeOf false
set_option genSizeOfSpec false
set_option genInjectivity false
set_option genCtorIdx false
namespace Mine
open PySem
inductive Rw where
 | push (i:Int)
 | load (k:Nat)
 | keep (k:Nat)
 | deed (w:Dw)
 | unl (n:Nat)
 | skp (n:Nat)
 | call (s:Nat × Nat × Nat)
 | back
noncomputable def Rw.enc:Rw->AV
 | .push i=>.tup [.str "push",.int i]
 | .load k=>.tup [.str "load",.int (k:Int)]
 | .keep k=>.tup [.str "keep",.int (k:Int)]
 | .deed w=>.tup [.str "do",.str w.str]
 | .unl n=>.tup [.str "unless",.int (n:Int)]
 | .skp n=>.tup [.str "skip",.int (n:Int)]
 | .call s=>.tup [.str "call",.int (s.1:Int),.int (s.2.1:Int),.int (s.2.2:Int)]
 | .back=>.tup [.str "back"]
noncomputable abbrev Sg:=List (Str × Nat)
noncomputable def comp (sf:Str->Nat × Nat × Nat):Tr->Sg->Nat->Nat->List Rw
 | .num i,_,_,_=>[.push i]
 | .name x,σ,_,_=>[.load ((aK x σ).getD 0)]
 | .deed w a b,σ,f,p=>comp sf a σ f p++(comp sf b σ f (p+len a)++[.deed w])
 | .choose a b c,σ,f,p=>comp sf a σ f p++(.unl (p+len a+1+len b+1)::(comp sf b σ f (p+len a+1)++(.skp (p+len a+1+len b+1+len c)::comp sf c σ f (p+len a+1+len b+1))))
 | .lt x a b,σ,f,p=>comp sf a σ f p++(.keep f::comp sf b ((x,f)::σ) (f+1) (p+len a+1))
 | .call g l,σ,f,p=>comp sf l σ f p++[.call (sf g)]
 | .nil,_,_,_=>[]
 | .cons t r,σ,f,p=>comp sf t σ f p++comp sf r σ f (p+len t)
theorem bB {sf:Str->Nat × Nat × Nat}:∀ (t:Tr) (σ:Sg) (f p:Nat),(comp sf t σ f p).length=len t:=by
 intro t
 induction t with
 | num i=>intro σ f p; rfl
 | name x=>intro σ f p; rfl
 | deed w a b iha ihb=>intro σ f p; simp only [comp,zAc,iha,ihb,zDe,len]; lia
 | choose a b c iha ihb ihc=>intro σ f p; simp only [comp,zAc,zCq,iha,ihb,ihc,len]; lia
 | lt x a b iha ihb=>intro σ f p; simp only [comp,zAc,zCq,iha,ihb,len]; lia
 | call g l ih=>intro σ f p; simp only [comp,zAc,ih,zDe,len]
 | nil=>intro σ f p; rfl
 | cons t r iht ihr=>intro σ f p; simp only [comp,zAc,iht,ihr,len]
noncomputable abbrev smF (b:Nat) (sv:AV):List (Str × AV):=[("rows",.cel (b+1)),("starts",sv)]
noncomputable abbrev sm (pre:St) (sv:AV) (R:List AV):St:=pre++[.flds (smF pre.length sv),.cont (.lst R)]
noncomputable abbrev oA (K n b:Nat) (t sl:AV) (f:Nat) (st:St):Ret:=au PP K n "Smith" "add" [.obj "Smith" b,t,sl,.int (f:Int)] st
noncomputable abbrev cH (b:Nat) (t sl:AV) (f:Nat):bp:=[(0,.val (.obj "Smith" b)),(1,.val t),(2,.val sl),(3,.val (.int (f:Int)))]
section
variable {K n:Nat} {pre:St} {sv sl t a b c v:AV} {R R1 R2 R3:List AV} {f:Nat} {L L₁:bp} {d e g:D AV} {x:Str}
theorem iw {i:Nat} {ta sl':AV} {f':Nat} (h0:al i L=some (.val (.obj "Smith" pre.length))) (he:bI [d,e,g] ⟨L,sm pre sv R⟩=.ok [ta,sl',.int (f':Int)] ⟨L₁,sm pre sv R⟩) (h:oA K n pre.length ta sl' f' (sm pre sv R)=.ok .none (sm pre sv R1)) :
  c8 (aW (wX K n) (aa i) "add" [d,e,g]) ⟨L,sm pre sv R⟩=.ok .next ⟨L₁,sm pre sv R1⟩ :=
 cu ((ef (X:=wX K n) (s:=⟨L,sm pre sv R⟩) sm_add h0 a9 he).trans (congrArg (fun q=>dZ q _) h))
theorem gF {i:Nat} (h0:al i L=some (.val (.obj "Smith" pre.length))) (hd:d ⟨L,sm pre sv R⟩=.ok v ⟨L₁,sm pre sv R⟩) (hR:R.length<=1000):c8 (bY (aw (aa i) "rows") d) ⟨L,sm pre sv R⟩=.ok .next ⟨L₁,sm pre sv (R++[v])⟩:=by
 refine cu (v:=.none) ?_
 have ho:aw (aa i) "rows" ⟨L,sm pre sv R⟩=.ok (.cel (pre.length+1)) ⟨L,sm pre sv R⟩:=aP h0 a9 (by kernel_rfl)
 have hc:dE (.cel (pre.length+1)) ⟨L,sm pre sv R⟩=.ok () ⟨L,sm pre sv R⟩:=by
  unfold dE aT du
  dsimp only
  rw [dY]; rfl
 have hz:pA v (.lst R)=some (.lst (R++[v])):=by
  show bz (R++[v])=_
  unfold bz
  rw [if_pos]
  rw [zAc]
  exact zAj (zBo hR 1) (show 1000+1<=sizeLine by decide +kernel)
 have hm:bH (.cel (pre.length+1)) (pA v) ⟨L₁,sm pre sv R⟩=.ok () ⟨L₁,sm pre sv (R++[v])⟩:=by
  unfold bH du
  dsimp only
  rw [dY]
  dsimp only
  rw [hz]
  dsimp only
  rw [mt]
 unfold bY
 rw [aq ho,aq hc,aq hd,aq hm]; rfl
noncomputable abbrev aBd (K n:Nat):D Fl:=ac (c8 (aW (wX K n) (aa 0) "add" [ae 5,ae 2,ae 3])) (af .next)
noncomputable def AL (K n:Nat) (pre:St) (sv:AV) (ts:List AV) (tree sl:AV) (f:Nat) (R R':List AV):Prop:=∀ L,al 0 L=some (.val (.obj "Smith" pre.length))->al 1 L=some (.val tree)->al 2 L=some (.val sl)->al 3 L=some (.val (.int (f:Int))) ->
 ∃ L',br (some 5,[]) (aBd K n) ts ⟨L,sm pre sv R⟩=.ok .next ⟨L',sm pre sv R'⟩/\al 0 L'=some (.val (.obj "Smith" pre.length))/\al 1 L'=some (.val tree)
theorem AL.nil {tree:AV}:AL K n pre sv [] tree sl f R R:=fun L h0 h1 _ _=>⟨L,rfl,h0,h1⟩
theorem AL.cons {tree:AV} {ts:List AV} (h1:oA K n pre.length t sl f (sm pre sv R)=.ok .none (sm pre sv R1)) (h2:AL K n pre sv ts tree sl f R1 R2):AL K n pre sv (t::ts) tree sl f R R2:=fun L g0 g1 g2 g3=>by
 have q0:al 0 (ai 5 (.val t) L)=some (.val (.obj "Smith" pre.length)):=(ah (by decide)).trans g0
 have q1:al 1 (ai 5 (.val t) L)=some (.val tree):=(ah (by decide)).trans g1
 have q2:al 2 (ai 5 (.val t) L)=some (.val sl):=(ah (by decide)).trans g2
 have q3:al 3 (ai 5 (.val t) L)=some (.val (.int (f:Int))):=(ah (by decide)).trans g3
 obtain ⟨L',f1,f2⟩:=h2 _ q0 q1 q2 q3
 exact ⟨L',cf (bP (o:=.ok .next _) (iw q0 (ag (bk aA) (ag (bk q2) (ag (bk q3) rfl))) h1) trivial) f1,f2⟩
theorem add_num {i:Int} (hR:R.length<=1000):oA K (n+1) pre.length (.tup [.str "num",.int i]) sl f (sm pre sv R)=.ok .none (sm pre sv (R++[(Rw.push i).enc])):=by
 show au PP K (n+1) _ _ _ _=_
 rw [cX]
 show RT (bl (wX K n)) _ _
 unfold bl
 exact .eqT (x:="num") (y:="num") (by decide +kernel) rfl (.assoc (.go (gF (L₁:=cH pre.length (.tup [.str "num",.int i]) sl f) (v:=(Rw.push i).enc) rfl rfl hR) (.next (.nil rfl))))
theorem add_name {ks ws:List AV} {j:Nat} (hR:R.length<=1000) (h:dI (.str x) ks ws=some (.int (j:Int))):oA K (n+1) pre.length (.tup [.str "name",.str x]) (.dct ks ws) f (sm pre sv R)=.ok .none (sm pre sv (R++[(Rw.load j).enc])):=by
 show au PP K (n+1) _ _ _ _=_
 rw [cX]
 show RT (bl (wX K n)) _ _
 unfold bl
 refine .eqN (x:="name") (y:="num") (by decide +kernel) rfl (.assoc (.eqT (x:="name") (y:="name") (by decide +kernel) rfl (.assoc (.go (gF (L₁:=cH pre.length (.tup [.str "name",.str x]) (.dct ks ws) f) (v:=(Rw.load j).enc) rfl ?_ hR) (.next (.next (.nil rfl)))))))
 have e:am (aa 2) (am (aa 1) (af (.int 1))) ⟨cH pre.length (.tup [.str "name",.str x]) (.dct ks ws) f,sm pre sv R⟩=.ok (.int (j:Int)) ⟨cH pre.length (.tup [.str "name",.str x]) (.dct ks ws) f,sm pre sv R⟩:=by
  show Mine.opt (dI (.str x) ks ws) _=_
  rw [h]; rfl
 exact (aq (ag rfl (ag e rfl))).trans rfl
theorem add_deed (w:Dw) (hw:au PP K n ⟨#[]⟩ "within" [.tup [.str w.str,a,b]] (sm pre sv R)=.ok (.lst [a,b]) (sm pre sv R)) (A:AL K n pre sv [a,b] (.tup [.str w.str,a,b]) sl f R R1) (hR:R1.length<=1000):oA K (n+1) pre.length (.tup [.str w.str,a,b]) sl f (sm pre sv R)=.ok .none (sm pre sv (R1++[(Rw.deed w).enc])):=by
 show au PP K (n+1) _ _ _ _=_
 rw [cX]
 show RT (bl (wX K n)) _ _
 unfold bl
 refine .eqN (x:=w.str) (y:="num") (by cases w <;> decide +kernel) rfl (.assoc (.eqN (x:=w.str) (y:="name") (by cases w <;> decide +kernel) rfl (.assoc (.eqN (x:=w.str) (y:="choose") (by cases w <;> decide +kernel) rfl (.assoc (.eqN (x:=w.str) (y:="let") (by cases w <;> decide +kernel) rfl (.assoc ?_)))))))
 obtain ⟨L',f1,f2,f3⟩:=A (cH pre.length (.tup [.str w.str,a,b]) sl f) rfl rfl rfl rfl
 refine .forI (l:=[a,b]) (s₁:=⟨cH pre.length (.tup [.str w.str,a,b]) sl f,sm pre sv R⟩) (et (a8 (vs:=[.tup [.str w.str,a,b]]) (s₁:=⟨cH pre.length (.tup [.str w.str,a,b]) sl f,sm pre sv R⟩) rfl hw)) f1 ?_
 have d0:am (aa 1) (af (.int 0)) ⟨L',sm pre sv R1⟩=.ok (.str w.str) ⟨L',sm pre sv R1⟩:=aU (ba f3) rfl (bV f3) rfl
 refine .assoc (.eqN (x:=w.str) (y:="call") (by cases w <;> decide +kernel) ((bT d0 rfl).trans rfl) (.assoc ?_))
 exact .go (gF f2 ((aq (ag rfl (ag d0 rfl))).trans rfl) hR) (.next (.next (.next (.next (.next (.nil rfl))))))
theorem add_call {ts sks sws:List AV} {fn:Str} {s:Nat × Nat × Nat} {ht:AV} (hw:au PP K n ⟨#[]⟩ "within" [.tup [.str "call",.str fn,.tup ts]] (sm pre (.dct sks sws) R)=.ok (.lst ts) (sm pre (.dct sks sws) R)) (A:AL K n pre (.dct sks sws) ts (.tup [.str "call",.str fn,.tup ts]) sl f R R1) (hR:R1.length<=1000) (hs:dI (.str fn) sks sws=some (.tup [.int (s.1:Int),.int (s.2.1:Int),.int (s.2.2:Int),ht])):oA K (n+1) pre.length (.tup [.str "call",.str fn,.tup ts]) sl f (sm pre (.dct sks sws) R)=.ok .none (sm pre (.dct sks sws) (R1++[(Rw.call s).enc])):=by
 show au PP K (n+1) _ _ _ _=_
 rw [cX]
 show RT (bl (wX K n)) _ _
 unfold bl
 refine .eqN (x:="call") (y:="num") (by decide +kernel) rfl (.assoc (.eqN (x:="call") (y:="name") (by decide +kernel) rfl (.assoc (.eqN (x:="call") (y:="choose") (by decide +kernel) rfl (.assoc (.eqN (x:="call") (y:="let") (by decide +kernel) rfl (.assoc ?_)))))))
 obtain ⟨L',f1,f2,f3⟩:=A (cH pre.length (.tup [.str "call",.str fn,.tup ts]) sl f) rfl rfl rfl rfl
 refine .forI (l:=ts) (s₁:=⟨cH pre.length (.tup [.str "call",.str fn,.tup ts]) sl f,sm pre (.dct sks sws) R⟩) (et (a8 (vs:=[.tup [.str "call",.str fn,.tup ts]]) (s₁:=⟨cH pre.length (.tup [.str "call",.str fn,.tup ts]) sl f,sm pre (.dct sks sws) R⟩) rfl hw)) f1 ?_
 have d0:am (aa 1) (af (.int 0)) ⟨L',sm pre (.dct sks sws) R1⟩=.ok (.str "call") ⟨L',sm pre (.dct sks sws) R1⟩:=aU (ba f3) rfl (bV f3) rfl
 have d1:am (aw (aa 0) "starts") (am (aa 1) (af (.int 1))) ⟨L',sm pre (.dct sks sws) R1⟩=.ok (.tup [.int (s.1:Int),.int (s.2.1:Int),.int (s.2.2:Int),ht]) ⟨L',sm pre (.dct sks sws) R1⟩:=aU (c:=.dct sks sws) (c':=.dct sks sws) (i:=.str fn) (aP f2 a9 (by kernel_rfl)) (aU (ba f3) rfl (bV f3) rfl) rfl hs
 refine .assoc (.eqT (x:="call") (y:="call") (by decide +kernel) ((bT d0 rfl).trans rfl) (.assoc (.asg d1 (.assoc ?_))))
 have q6:al 6 (ai 6 (.val (.tup [.int (s.1:Int),.int (s.2.1:Int),.int (s.2.2:Int),ht])) L')=some (.val (.tup [.int (s.1:Int),.int (s.2.1:Int),.int (s.2.2:Int),ht])):=aA
 have q0:al 0 (ai 6 (.val (.tup [.int (s.1:Int),.int (s.2.1:Int),.int (s.2.2:Int),ht])) L')=some (.val (.obj "Smith" pre.length)):=(ah (by decide)).trans f2
 refine .go (gF (v:=(Rw.call s).enc) q0 ((aq (ag rfl (ag (aU (ba q6) rfl (bV q6) rfl) (ag (aU (ba q6) rfl (bV q6) rfl) (ag (aU (ba q6) rfl (bV q6) rfl) rfl))))).trans rfl) hR) (.next (.next (.next (.next (.next (.nil rfl))))))
theorem add_let {ks ws:List AV} (hk:ks.length<=1000) (ha:oA K n pre.length a (.dct ks ws) f (sm pre sv R)=.ok .none (sm pre sv R1)) (hR:R1.length<=1000) (hb:oA K n pre.length b (.dct (ce (.str x) ks) (cG (.str x) (.int (f:Int)) ks ws)) (f+1) (sm pre sv (R1++[(Rw.keep f).enc]))=.ok .none (sm pre sv R2)) :
  oA K (n+1) pre.length (.tup [.str "let",.str x,a,b]) (.dct ks ws) f (sm pre sv R)=.ok .none (sm pre sv R2):=by
 show au PP K (n+1) _ _ _ _=_
 rw [cX]
 show RT (bl (wX K n)) _ _
 unfold bl
 refine .eqN (x:="let") (y:="num") (by decide +kernel) rfl (.assoc (.eqN (x:="let") (y:="name") (by decide +kernel) rfl (.assoc (.eqN (x:="let") (y:="choose") (by decide +kernel) rfl (.assoc (.eqT (x:="let") (y:="let") (by decide +kernel) rfl (.assoc ?_)))))))
 refine .go (iw (L₁:=cH pre.length (.tup [.str "let",.str x,a,b]) (.dct ks ws) f) rfl rfl ha) (.assoc ?_)
 refine .go (gF (L₁:=cH pre.length (.tup [.str "let",.str x,a,b]) (.dct ks ws) f) (v:=(Rw.keep f).enc) rfl rfl hR) (.assoc ?_)
 refine .go (s':=⟨cH pre.length (.tup [.str "let",.str x,a,b]) (.dct ks ws) f++[(4,.own (.dct ks ws))],sm pre sv (R1++[(Rw.keep f).enc])⟩) rfl (.assoc ?_)
 refine .go (s':=⟨cH pre.length (.tup [.str "let",.str x,a,b]) (.dct ks ws) f++[(4,.own (.dct (ce (.str x) ks) (cG (.str x) (.int (f:Int)) ks ws)))],sm pre sv (R1++[(Rw.keep f).enc])⟩) (dG (S₁:=⟨cH pre.length (.tup [.str "let",.str x,a,b]) (.dct ks ws) f++[(4,.own (.dct ks ws))],sm pre sv (R1++[(Rw.keep f).enc])⟩) rfl rfl rfl rfl (iL hk) rfl) (.assoc ?_)
 exact .go (iw (L₁:=cH pre.length (.tup [.str "let",.str x,a,b]) (.dct ks ws) f++[(4,.val (.dct (ce (.str x) ks) (cG (.str x) (.int (f:Int)) ks ws)))]) rfl rfl hb) (.next (.next (.next (.next (.nil rfl)))))
end
end Mine
end
section
set_option autoImplicit false
set_option linter.unusedVariables false
set_option maxRecDepth 100000
namespace Mine
open PySem
section
variable {K n:Nat} {pre:St} {sv sl t a b c v:AV} {R R1 R2 R3:List AV} {f:Nat} {x:Str}
theorem add_choose {i j:Nat} (ha:oA K n pre.length a sl f (sm pre sv R)=.ok .none (sm pre sv R1)) (hlb:∀ st,au PP K n ⟨#[]⟩ "length" [b] st=.ok (.int (i:Int)) st) (hlc:∀ st,au PP K n ⟨#[]⟩ "length" [c] st=.ok (.int (j:Int)) st) (hR1:R1.length<=1000)
  (hb:oA K n pre.length b sl f (sm pre sv (R1++[(Rw.unl (R1.length+1+i+1)).enc]))=.ok .none (sm pre sv R2)) (hR:R2.length<=1000) (hc:oA K n pre.length c sl f (sm pre sv (R2++[(Rw.skp (R1.length+1+i+1+j)).enc]))=.ok .none (sm pre sv R3)) :
  oA K (n+2) pre.length (.tup [.str "choose",a,b,c]) sl f (sm pre sv R)=.ok .none (sm pre sv R3):=by
 have main:au PP K (n+1) "Smith" "choose" [.obj "Smith" pre.length,.tup [.str "choose",a,b,c],sl,.int (f:Int)] (sm pre sv R)=.ok .none (sm pre sv R3):=by
  rw [kG]
  show RT (d9 (wX K n)) ⟨cH pre.length (.tup [.str "choose",a,b,c]) sl f,sm pre sv R⟩ _
  unfold d9
  have at4:aS az false [aw (aa 0) "rows"] ⟨cH pre.length (.tup [.str "choose",a,b,c]) sl f,sm pre sv R1⟩=.ok (.int (R1.length:Int)) ⟨cH pre.length (.tup [.str "choose",a,b,c]) sl f,sm pre sv R1⟩:=cg (a:=.cel (pre.length+1)) (c:=.lst R1) (aP rfl a9 (by kernel_rfl)) (by unfold aT du; dsimp only; rw [dY]) rfl
  have e4:bo 4 (aj .Add (aS az false [aw (aa 0) "rows"]) (af (.int 1))) ⟨cH pre.length (.tup [.str "choose",a,b,c]) sl f,sm pre sv R1⟩=.ok .next ⟨cH pre.length (.tup [.str "choose",a,b,c]) sl f++[(4,.val (.int ((R1.length+1:Nat):Int)))],sm pre sv R1⟩:=bf (v:=.int ((R1.length+1:Nat):Int)) (s':=⟨cH pre.length (.tup [.str "choose",a,b,c]) sl f,sm pre sv R1⟩) (ay at4 rfl rfl rfl rfl)
  have e5:bo 5 (aj .Add (aj .Add (aa 4) (aX (wX K n) "length" [am (aa 1) (af (.int 2))])) (af (.int 1))) ⟨cH pre.length (.tup [.str "choose",a,b,c]) sl f++[(4,.val (.int ((R1.length+1:Nat):Int)))],sm pre sv R1⟩=.ok .next ⟨cH pre.length (.tup [.str "choose",a,b,c]) sl f++[(4,.val (.int ((R1.length+1:Nat):Int))),(5,.val (.int ((R1.length+1+i+1:Nat):Int)))],sm pre sv R1⟩ :=
   bf (v:=.int ((R1.length+1+i+1:Nat):Int)) (s':=⟨cH pre.length (.tup [.str "choose",a,b,c]) sl f++[(4,.val (.int ((R1.length+1:Nat):Int)))],sm pre sv R1⟩) (ay (a':=.int ((R1.length+1+i:Nat):Int)) (b':=.int 1) (ay (a':=.int ((R1.length+1:Nat):Int)) (b':=.int (i:Int)) rfl (a8 (vs:=[b]) (s₁:=⟨cH pre.length (.tup [.str "choose",a,b,c]) sl f++[(4,.val (.int ((R1.length+1:Nat):Int)))],sm pre sv R1⟩) rfl (hlb _)) rfl rfl rfl) rfl rfl rfl rfl)
  have e6:aI [af (.str "skip"),aj .Add (aa 5) (aX (wX K n) "length" [am (aa 1) (af (.int 3))])] ⟨cH pre.length (.tup [.str "choose",a,b,c]) sl f++[(4,.val (.int ((R1.length+1:Nat):Int))),(5,.val (.int ((R1.length+1+i+1:Nat):Int)))],sm pre sv R2⟩=.ok (Rw.skp (R1.length+1+i+1+j)).enc ⟨cH pre.length (.tup [.str "choose",a,b,c]) sl f++[(4,.val (.int ((R1.length+1:Nat):Int))),(5,.val (.int ((R1.length+1+i+1:Nat):Int)))],sm pre sv R2⟩ :=
   (aq (ag rfl (ag (ay (v:=.int ((R1.length+1+i+1+j:Nat):Int)) (a':=.int ((R1.length+1+i+1:Nat):Int)) (b':=.int (j:Int)) rfl (a8 (vs:=[c]) (s₁:=⟨cH pre.length (.tup [.str "choose",a,b,c]) sl f++[(4,.val (.int ((R1.length+1:Nat):Int))),(5,.val (.int ((R1.length+1+i+1:Nat):Int)))],sm pre sv R2⟩) rfl (hlc _)) rfl rfl rfl) rfl))).trans rfl
  refine .go (iw (L₁:=cH pre.length (.tup [.str "choose",a,b,c]) sl f) rfl rfl ha) (.go e4 (.go e5 ?_))
  refine .go (gF (L₁:=cH pre.length (.tup [.str "choose",a,b,c]) sl f++[(4,.val (.int ((R1.length+1:Nat):Int))),(5,.val (.int ((R1.length+1+i+1:Nat):Int)))]) (v:=(Rw.unl (R1.length+1+i+1)).enc) rfl rfl hR1) ?_
  refine .go (iw (L₁:=cH pre.length (.tup [.str "choose",a,b,c]) sl f++[(4,.val (.int ((R1.length+1:Nat):Int))),(5,.val (.int ((R1.length+1+i+1:Nat):Int)))]) rfl rfl hb) ?_
  refine .go (gF rfl e6 hR) ?_
  exact .go (iw (L₁:=cH pre.length (.tup [.str "choose",a,b,c]) sl f++[(4,.val (.int ((R1.length+1:Nat):Int))),(5,.val (.int ((R1.length+1+i+1:Nat):Int)))]) rfl rfl hc) (.nil rfl)
 show au PP K (n+1+1) _ _ _ _=_
 rw [cX]
 show RT (bl (wX K (n+1))) _ _
 unfold bl
 refine .eqN (x:="choose") (y:="num") (by decide +kernel) rfl (.assoc (.eqN (x:="choose") (y:="name") (by decide +kernel) rfl (.assoc (.eqT (x:="choose") (y:="choose") (by decide +kernel) rfl (.assoc ?_)))))
 exact .go (s':=⟨cH pre.length (.tup [.str "choose",a,b,c]) sl f,sm pre sv R3⟩) (cu ((ef (X:=wX K (n+1)) (i:=0) (s:=⟨cH pre.length (.tup [.str "choose",a,b,c]) sl f,sm pre sv R⟩) (es:=[ae 1,ae 2,ae 3]) (s':=⟨cH pre.length (.tup [.str "choose",a,b,c]) sl f,sm pre sv R⟩) (vs:=[.tup [.str "choose",a,b,c],sl,.int (f:Int)]) sm_choose rfl a9 rfl).trans (congrArg (fun q=>dZ q _) main))) (.next (.next (.next (.next (.nil rfl)))))
end
noncomputable abbrev bK (l:List Rw):List AV:=l.map Rw.enc
noncomputable def AG (K n:Nat) (pre:St) (sv sl:AV) (f:Nat) (t:Tr) (R R':List AV):Option Nat->Prop
 | none=>oA K n pre.length t.enc sl f (sm pre sv R)=.ok .none (sm pre sv R')
 | some _=>∀ tree,AL K n pre sv (dT t.enc) tree sl f R R'
section
variable {K:Nat} {pre:St} {sig:Str->Option Nat} {sf:Str->Nat × Nat × Nat} {sks sws:List AV}
theorem add_ok (S:∀ f c,sig f=some c->∃ ht,dI (.str f) sks sws=some (.tup [.int ((sf f).1:Int),.int ((sf f).2.1:Int),.int ((sf f).2.2:Int),ht])) :
  ∀ (t:Tr) {h:Nat} {ns:List Str} {k:Option Nat} {σ:Sg} {ks ws:List AV} {f n:Nat} {R:List AV},t.wf sig h ns k->DEnv (fun i:Nat=>.int (i:Int)) ks ws σ->ks.length+h<=900->(∀ x ∈ ns,(aK x σ).isSome=true)->R.length+len t<=900->2 * h+2<=n->AG K n pre (.dct sks sws) (.dct ks ws) f t R (R++bK (comp sf t σ f R.length)) k:=by
 intro t
 induction t with
 | num i =>
  intro h ns k σ ks ws f n R q D hk hn hl hN
  obtain ⟨rfl,h0,_⟩:=q
  obtain ⟨n,rfl⟩:∃ n',n=n'+1:=⟨n - 1,by lia⟩
  exact add_num (by lia)
 | name x =>
  intro h ns k σ ks ws f n R q D hk hn hl hN
  obtain ⟨rfl,h0,hx⟩:=q
  obtain ⟨n,rfl⟩:∃ n',n=n'+1:=⟨n - 1,by lia⟩
  obtain ⟨v,hv⟩:=zA1.mp (hn x hx)
  show oA K (n+1) pre.length _ _ _ _=.ok .none (sm pre _ (R++[(Rw.load ((aK x σ).getD 0)).enc]))
  rw [hv]
  exact add_name (by lia) (by rw [D.get,hv]; rfl)
 | deed w a b iha ihb =>
  intro h ns k σ ks ws f n R q D hk hn hl hN
  have q':=q
  obtain ⟨rfl,h',rfl,h1,h2⟩:=q
  have hl:R.length+(len a+len b+1)<=900:=hl
  obtain ⟨n,rfl⟩:∃ n',n=n'+1:=⟨n - 1,by lia⟩
  have A:=iha (f:=f) (n:=n) (R:=R) h1 D (by lia) hn (by lia) (by lia)
  have l1:(R++bK (comp sf a σ f R.length)).length=R.length+len a:=by rw [zAc,zAd,bB]
  have B:=ihb (f:=f) (n:=n) (R:=R++bK (comp sf a σ f R.length)) h2 D (by lia) hn (by lia) (by lia)
  rw [l1] at B
  have:=add_deed (K:=K) (n:=n) (pre:=pre) (sv:=.dct sks sws) (sl:=.dct ks ws) (f:=f) (R:=R) w (dX q' (by lia)) (.cons A (.cons B .nil)) (by rw [zAc,l1,zAd,bB]; lia)
  show oA K (n+1) pre.length (.tup [.str w.str,a.enc,b.enc]) _ _ _=.ok .none (sm pre _ (R++bK (comp sf a σ f R.length++(comp sf b σ f (R.length+len a)++[.deed w]))))
  rw [this]
  unfold bK
  rw [zAr,zAr,← zAm,← zAm]; rfl
 | choose a b c iha ihb ihc =>
  intro h ns k σ ks ws f n R q D hk hn hl hN
  obtain ⟨rfl,h',rfl,h1,h2,h3⟩:=q
  have hl:R.length+(len a+len b+len c+2)<=900:=hl
  obtain ⟨n,rfl⟩:∃ n',n=n'+2:=⟨n - 2,by lia⟩
  have A:=iha (f:=f) (n:=n) (R:=R) h1 D (by lia) hn (by lia) (by lia)
  have l1:(R++bK (comp sf a σ f R.length)).length=R.length+len a:=by rw [zAc,zAd,bB]
  have l2:(R++bK (comp sf a σ f R.length)++[(Rw.unl (R.length+len a+1+len b+1)).enc]).length=R.length+len a+1:=by rw [zAc,l1]; rfl
  have B:=ihb (f:=f) (n:=n) (R:=R++bK (comp sf a σ f R.length)++[(Rw.unl (R.length+len a+1+len b+1)).enc]) h2 D (by lia) hn (by lia) (by lia)
  rw [l2] at B
  have l3:(R++bK (comp sf a σ f R.length)++[(Rw.unl (R.length+len a+1+len b+1)).enc]++bK (comp sf b σ f (R.length+len a+1))++[(Rw.skp (R.length+len a+1+len b+1+len c)).enc]).length=R.length+len a+1+len b+1:=by rw [zAc,zAc,l2,zAd,bB]; rfl
  have C:=ihc (f:=f) (n:=n) (R:=R++bK (comp sf a σ f R.length)++[(Rw.unl (R.length+len a+1+len b+1)).enc]++bK (comp sf b σ f (R.length+len a+1))++[(Rw.skp (R.length+len a+1+len b+1+len c)).enc]) h3 D (by lia) hn (by lia) (by lia)
  rw [l3] at C
  have:=add_choose (K:=K) (n:=n) (pre:=pre) (sv:=.dct sks sws) (sl:=.dct ks ws) (f:=f) (R:=R) (i:=len b) (j:=len c) (R1:=R++bK (comp sf a σ f R.length)) (R2:=R++bK (comp sf a σ f R.length)++[(Rw.unl (R.length+len a+1+len b+1)).enc]++bK (comp sf b σ f (R.length+len a+1))) A (fun st=>jR b h2 K n st (by lia)) (fun st=>jR c h3 K n st (by lia)) (by lia) (by rw [l1]; exact B) (by rw [zAc,l2,zAd,bB]; lia) (by rw [l1]; exact C)
  show oA K (n+2) pre.length (.tup [.str "choose",a.enc,b.enc,c.enc]) _ _ _=_
  rw [this]
  simp only [comp,bK,zAr,zA4,zAm,List.cons_append,zDl]
 | lt x a b iha ihb =>
  intro h ns k σ ks ws f n R q D hk hn hl hN
  obtain ⟨rfl,h',rfl,h1,h2⟩:=q
  have hl:R.length+(len a+len b+1)<=900:=hl
  obtain ⟨n,rfl⟩:∃ n',n=n'+1:=⟨n - 1,by lia⟩
  have A:=iha (f:=f) (n:=n) (R:=R) h1 D (by lia) hn (by lia) (by lia)
  have l1:(R++bK (comp sf a σ f R.length)).length=R.length+len a:=by rw [zAc,zAd,bB]
  have l2:(R++bK (comp sf a σ f R.length)++[(Rw.keep f).enc]).length=R.length+len a+1:=by rw [zAc,l1]; rfl
  have B:=ihb (f:=f+1) (n:=n) (R:=R++bK (comp sf a σ f R.length)++[(Rw.keep f).enc]) h2 (D.set (x:=x) (v:=f)) (by have:=(fD (k:=.str x) (v:=.int (f:Int)) D.len).2; lia) (fun y hy=>by
   show (if seq y x then some f else aK y σ).isSome=true
   cases hs:seq y x with
   | true=>rfl
   | false =>
    rcases zA2.mp hy with hy | hy
    ·exact hn y hy
    ·rw [zAi.mp hy,bS] at hs; exact eN Bool.ctorIdx hs rfl) (by lia) (by lia)
  rw [l2] at B
  have:=add_let (K:=K) (n:=n) (pre:=pre) (sv:=.dct sks sws) (f:=f) (R:=R) (x:=x) (by lia) A (by lia) B
  show oA K (n+1) pre.length (.tup [.str "let",.str x,a.enc,b.enc]) _ _ _=_
  rw [this]
  simp only [comp,bK,zAr,zA4,zAm,List.cons_append,zDl]
 | call g l ih =>
  intro h ns k σ ks ws f n R q D hk hn hl hN
  have q':=q
  obtain ⟨rfl,h',rfl,c,hc,hc1,h2⟩:=q
  have hl:R.length+(len l+1)<=900:=hl
  obtain ⟨n,rfl⟩:∃ n',n=n'+1:=⟨n - 1,by lia⟩
  obtain ⟨w1,w2⟩:=g7 h2
  obtain ⟨ht,hs⟩:=S g c hc
  have A:=ih (f:=f) (n:=n) (R:=R) h2 D (by lia) hn (by lia) (by lia) (.tup [.str "call",.str g,.tup (dT l.enc)])
  have hw:=dX (K:=K) (n:=n) (st:=sm pre (.dct sks sws) R) q' (by lia)
  rw [show (Tr.call g l).enc=.tup [.str "call",.str g,.tup (dT l.enc)] from congrArg (fun z=>AV.tup [.str "call",.str g,z]) w1] at hw
  have:=add_call (K:=K) (n:=n) (pre:=pre) (sl:=.dct ks ws) (f:=f) (R:=R) hw A (by rw [zAc,zAd,bB]; lia) hs
  show oA K (n+1) pre.length (.tup [.str "call",.str g,l.enc]) _ _ _=_
  rw [w1,this]
  simp only [comp,bK,zAr,zA4,zAm,List.map_nil]
 | nil =>
  intro h ns k σ ks ws f n R q D hk hn hl hN
  cases q
  intro tree
  rw [show R++bK (comp sf .nil σ f R.length)=R from zAx R]
  exact AL.nil
 | cons t r iht ihr =>
  intro h ns k σ ks ws f n R q D hk hn hl hN
  obtain ⟨c,rfl,h1,h2⟩:=q
  have hl:R.length+(len t+len r)<=900:=hl
  intro tree
  have A:=iht (f:=f) (n:=n) (R:=R) h1 D hk hn (by lia) hN
  have l1:(R++bK (comp sf t σ f R.length)).length=R.length+len t:=by rw [zAc,zAd,bB]
  have B:=ihr (f:=f) (n:=n) (R:=R++bK (comp sf t σ f R.length)) h2 D hk hn (by lia) hN tree
  rw [l1] at B
  have:=AL.cons A B
  simp only [comp,bK,zAr,← zAm] at this ⊢
  exact this
end
noncomputable def tot:List Fu->Nat
 | []=>0
 | u::r=>len u.bd+1+tot r
noncomputable def fstOf (f:Str):List Fu->Nat
 | []=>0
 | u::r=>if seq f u.nm then 0 else len u.bd+1+fstOf f r
noncomputable def htOf (u:Fu):Nat:=Classical.epsilon fun i=>Mea "height" 12 u.bd.enc i
noncomputable def rmOf (u:Fu):Nat:=u.ps.length+ltN u.bd
noncomputable def iC (fs:List Fu) (u:Fu):AV:=.tup [.int (fstOf u.nm fs:Int),.int (u.ps.length:Int),.int (rmOf u:Int),.int (htOf u:Int)]
noncomputable def cK (fs:List Fu) (f:Str):Nat × Nat × Nat:=(fstOf f fs,((bx f fs).map fun u=>(u.ps.length,rmOf u)).getD (0,0))
noncomputable abbrev dA (fs:List Fu):AV:=.dct (fs.map fun u=>.str u.nm) (fs.map (iC fs))
theorem fst_at {u:Fu} {r:List Fu}:∀ {ds:List Fu},u.nm ∉ ds.map (·.nm)->fstOf u.nm (ds++u::r)=tot ds
 | [],_=>by show (if seq u.nm u.nm then 0 else _)=0; rw [bS]; rfl
 | d::ds,h=>by
  show (if seq u.nm d.nm then 0 else len d.bd+1+fstOf u.nm (ds++u::r))=len d.bd+1+tot ds
  rw [sq_ne (x:=u.nm) (y:=d.nm) fun q=>h (by rw [q]; exact zAb),fst_at fun q=>h (zAe _ q)]; rfl
theorem tot_app (ds:List Fu) (u:Fu):tot (ds++[u])=tot ds+len u.bd+1:=by
 induction ds with
 | nil=>show len u.bd+1+0=0+len u.bd+1; lia
 | cons d r ih=>show len d.bd+1+tot (r++[u])=len d.bd+1+tot r+len u.bd+1; rw [ih]; lia
section
variable {K n:Nat} {st:St} {fs:List Fu}
theorem starts_get (P:PW fs) {f:Str} {c:Nat} (h:bW fs f=some c):∃ ht,dI (.str f) (fs.map fun u=>.str u.nm) (fs.map (iC fs))=some (.tup [.int ((cK fs f).1:Int),.int ((cK fs f).2.1:Int),.int ((cK fs f).2.2:Int),ht]):=by
 obtain ⟨u,hu,hc⟩:=zAo.mp h
 refine ⟨.int (htOf u:Int),?_⟩
 unfold cK
 rw [iQ,hu,← (cD hu).2]; rfl
noncomputable abbrev sB (X:Ctx):D Fl:=ac (bh (aa 1) (ae 3) (aI [ae 2,aS az false [aa 4],aj .Add (aS az false [aa 4]) (aX X "lets" [ae 5]),aX X "height" [ae 5]])) (ac (bo 2 (aj .Add (aj .Add (aa 2) (aX X "length" [ae 5])) (af (.int 1)))) (af .next))
theorem kg (P:PW fs):∀ (r ds:List Fu) (L:bp),ds++r=fs->fs.length<=900->al 1 L=some (.own (.dct (ds.map fun u=>.str u.nm) (ds.map (iC fs))))->al 2 L=some (.val (.int (tot ds:Int)))->∃ L',br (none,[3,4,5]) (sB (wX K (n+13))) (r.map Fu.enc) ⟨L,st⟩=.ok .next ⟨L',st⟩/\al 1 L'=some (.own (dA fs))
 | [],ds,L,hf,_,h1,h2=>⟨L,rfl,by rw [zAx] at hf; rw [h1,hf]⟩
 | u::r,ds,L,hf,hl,h1,h2=>by
  have hu:u ∈ fs:=by rw [← hf]; exact zBg _ zAb
  have hl':ds.length+(r.length+1)<=900:=by rw [← hf,zAc] at hl; exact hl
  have hn:u.nm ∉ ds.map (·.nm):=dR (r:=r) (by rw [hf]; exact P.nd)
  have hfst:fstOf u.nm fs=tot ds:=by rw [← hf]; exact fst_at hn
  have q1:al 1 (ai 5 (.val u.bd.enc) (ai 4 (.val (.tup (u.ps.map .str))) (ai 3 (.val (.str u.nm)) L)))=some (.own (.dct (ds.map fun u=>.str u.nm) (ds.map (iC fs)))):=(ah (by decide)).trans ((ah (by decide)).trans ((ah (by decide)).trans h1))
  have q2:al 2 (ai 5 (.val u.bd.enc) (ai 4 (.val (.tup (u.ps.map .str))) (ai 3 (.val (.str u.nm)) L)))=some (.val (.int (tot ds:Int))):=(ah (by decide)).trans ((ah (by decide)).trans ((ah (by decide)).trans h2))
  have q3:al 3 (ai 5 (.val u.bd.enc) (ai 4 (.val (.tup (u.ps.map .str))) (ai 3 (.val (.str u.nm)) L)))=some (.val (.str u.nm)):=(ah (by decide)).trans ((ah (by decide)).trans aA)
  have q4:al 4 (ai 5 (.val u.bd.enc) (ai 4 (.val (.tup (u.ps.map .str))) (ai 3 (.val (.str u.nm)) L)))=some (.val (.tup (u.ps.map .str))):=(ah (by decide)).trans aA
  have q5:al 5 (ai 5 (.val u.bd.enc) (ai 4 (.val (.tup (u.ps.map .str))) (ai 3 (.val (.str u.nm)) L)))=some (.val u.bd.enc):=aA
  generalize hq:ai 5 (.val u.bd.enc) (ai 4 (.val (.tup (u.ps.map .str))) (ai 3 (.val (.str u.nm)) L))=L1 at q1 q2 q3 q4 q5
  have ln:=kQ (st:=st) q4
  rw [zAd] at ln
  have m1:aX (wX K (n+13)) "lets" [ae 5] ⟨L1,st⟩=.ok (.int (ltN u.bd:Int)) ⟨L1,st⟩:=a8 (vs:=[u.bd.enc]) (s₁:=⟨L1,st⟩) (ag (bk q5) rfl) (lets_ok u.bd (P.bd u hu) K (n+13) st (by lia))
  have m2:aX (wX K (n+13)) "height" [ae 5] ⟨L1,st⟩=.ok (.int (htOf u:Int)) ⟨L1,st⟩:=a8 (vs:=[u.bd.enc]) (s₁:=⟨L1,st⟩) (ag (bk q5) rfl) (Classical.epsilon_spec (p:=fun i=>Mea "height" 12 u.bd.enc i) (height_ok u.bd (P.bd u hu)) K (n+13) st (by lia))
  have e0:aI [ae 2,aS az false [aa 4],aj .Add (aS az false [aa 4]) (aX (wX K (n+13)) "lets" [ae 5]),aX (wX K (n+13)) "height" [ae 5]] ⟨L1,st⟩=.ok (iC fs u) ⟨L1,st⟩:=by
   unfold iC
   rw [hfst]
   exact (aq (ag (bk q2) (ag ln (ag (ay (v:=.int (rmOf u:Int)) ln m1 rfl rfl rfl) (ag m2 rfl))))).trans rfl
  have e1:bh (aa 1) (ae 3) (aI [ae 2,aS az false [aa 4],aj .Add (aS az false [aa 4]) (aX (wX K (n+13)) "lets" [ae 5]),aX (wX K (n+13)) "height" [ae 5]]) ⟨L1,st⟩=.ok .next ⟨ai 1 (.own (.dct ((ds++[u]).map fun u=>.str u.nm) ((ds++[u]).map (iC fs)))) L1,st⟩:=dG (S₁:=⟨L1,st⟩) e0 (ba q1) (bk q3) q1 (pC (g:=iC fs) hn (by lia)) rfl
  have p2:al 2 (ai 1 (.own (.dct ((ds++[u]).map fun u=>.str u.nm) ((ds++[u]).map (iC fs)))) L1)=some (.val (.int (tot ds:Int))):=(ah (by decide)).trans q2
  have p5:al 5 (ai 1 (.own (.dct ((ds++[u]).map fun u=>.str u.nm) ((ds++[u]).map (iC fs)))) L1)=some (.val u.bd.enc):=(ah (by decide)).trans q5
  have p1:al 1 (ai 1 (.own (.dct ((ds++[u]).map fun u=>.str u.nm) ((ds++[u]).map (iC fs)))) L1)=some (.own (.dct ((ds++[u]).map fun u=>.str u.nm) ((ds++[u]).map (iC fs)))):=aA
  generalize ai 1 (.own (.dct ((ds++[u]).map fun u=>.str u.nm) ((ds++[u]).map (iC fs)))) L1=L2 at e1 p1 p2 p5
  have m3:aX (wX K (n+13)) "length" [ae 5] ⟨L2,st⟩=.ok (.int (len u.bd:Int)) ⟨L2,st⟩:=a8 (vs:=[u.bd.enc]) (s₁:=⟨L2,st⟩) (ag (bk p5) rfl) (jR u.bd (P.bd u hu) K (n+13) st (by lia))
  have e2:bo 2 (aj .Add (aj .Add (aa 2) (aX (wX K (n+13)) "length" [ae 5])) (af (.int 1))) ⟨L2,st⟩=.ok .next ⟨ai 2 (.val (.int (tot (ds++[u]):Int))) L2,st⟩:=by
   rw [tot_app]
   exact bf (v:=.int ((tot ds+len u.bd+1:Nat):Int)) (ay (a':=.int ((tot ds+len u.bd:Nat):Int)) (b':=.int 1) (ay (a':=.int (tot ds:Int)) (b':=.int (len u.bd:Int)) (ba p2) m3 (mz p2) rfl rfl) rfl rfl rfl rfl)
  obtain ⟨L',f1,f2⟩:=kg P r (ds++[u]) (ai 2 (.val (.int (tot (ds++[u]):Int))) L2) (by rw [zAm]; exact hf) hl ((ah (by decide)).trans p1) aA
  exact ⟨L',cq (ks:=[3,4,5]) (vs:=[.str u.nm,.tup (u.ps.map .str),u.bd.enc]) rfl (by show sB _ ⟨ai 5 _ (ai 4 _ (ai 3 _ L)),st⟩=_; rw [hq]; exact (ji e1).trans ((ji e2).trans rfl)) f1,f2⟩
theorem starts_ok (P:PW fs) (hl:fs.length<=900):au PP K (n+14) ⟨#[]⟩ "starts_of" [bU fs] st=.ok (dA fs) st:=by
 rw [pt]
 show RT (iX (wX K (n+13))) ⟨[(0,.val (bU fs))],st⟩ _
 obtain ⟨L',f1,f2⟩:=kg (K:=K) (n:=n) (st:=st) P fs [] [(0,.val (bU fs)),(1,.own (.dct [] [])),(2,.val (.int 0))] rfl hl rfl rfl
 exact .go (s':=⟨[(0,.val (bU fs)),(1,.own (.dct [] []))],st⟩) rfl (.go (s':=⟨[(0,.val (bU fs)),(1,.own (.dct [] [])),(2,.val (.int 0))],st⟩) rfl (.forI (l:=fs.map Fu.enc) (s₁:=⟨[(0,.val (bU fs)),(1,.own (.dct [] [])),(2,.val (.int 0))],st⟩) rfl f1 (.ret (gt f2) rfl)))
end
noncomputable def pix:Nat->List Str->Sg
 | _,[]=>[]
 | k,p::r=>(p,k)::pix (k+1) r
noncomputable def sg0 (u:Fu):Sg:=(pix 0 u.ps).reverse
noncomputable def code (sf:Str->Nat × Nat × Nat):List Fu->Nat->List Rw
 | [],_=>[]
 | u::r,p=>comp sf u.bd (sg0 u) u.ps.length p++.back::code sf r (p+len u.bd+1)
theorem pix_has {x:Str}:∀ {ps:List Str} {k:Nat},x ∈ ps->∃ i,(x,i) ∈ pix k ps
 | p::r,k,h=>by
  rcases zAl.mp h with rfl | h
  ·exact ⟨k,zAb⟩
  ·exact (pix_has h).imp fun _ q=>zAe _ q
noncomputable abbrev slB:D Fl:=ac (bh (aa 5) (ae 7) (ae 6)) (af .next)
theorem mq {st:St}:∀ (ps:List Str) (k:Nat) (σ:Sg) (ks ws:List AV) (L:bp),DEnv (fun i:Nat=>.int (i:Int)) ks ws σ->ks.length+ps.length<=500->al 5 L=some (.own (.dct ks ws)) ->
  ∃ L' ks' ws',br (none,[6,7]) slB (fj (k:Int) (ps.map .str)) ⟨L,st⟩=.ok .next ⟨L',st⟩/\(∀ j,j < 5->al j L'=al j L)/\al 5 L'=some (.own (.dct ks' ws'))/\DEnv (fun i:Nat=>.int (i:Int)) ks' ws' ((pix k ps).reverse++σ)/\ks'.length<=ks.length+ps.length
 | [],k,σ,ks,ws,L,D,hl,h5=>⟨L,ks,ws,rfl,fun _ _=>rfl,h5,D,zAy _⟩
 | p::r,k,σ,ks,ws,L,D,hl,h5=>by
  have hl:ks.length+(r.length+1)<=500:=hl
  have hd:=(fD (k:=.str p) (v:=.int (k:Int)) D.len).2
  have q5:al 5 (ai 7 (.val (.str p)) (ai 6 (.val (.int (k:Int))) L))=some (.own (.dct ks ws)):=(ah (by decide)).trans ((ah (by decide)).trans h5)
  have e1:slB ⟨ai 7 (.val (.str p)) (ai 6 (.val (.int (k:Int))) L),st⟩=.ok .next ⟨ai 5 (.own (.dct (ce (.str p) ks) (cG (.str p) (.int (k:Int)) ks ws))) (ai 7 (.val (.str p)) (ai 6 (.val (.int (k:Int))) L)),st⟩ :=
   bP (o:=.ok .next _) (dG (S₁:=⟨ai 7 (.val (.str p)) (ai 6 (.val (.int (k:Int))) L),st⟩) (bk ((ah (by decide)).trans aA)) (ba q5) (bk aA) q5 (iL (by lia)) rfl) trivial
  obtain ⟨L',ks',ws',f1,f2,f3,f4,f5⟩:=mq (st:=st) r (k+1) ((p,k)::σ) (ce (.str p) ks) (cG (.str p) (.int (k:Int)) ks ws) (ai 5 (.own (.dct (ce (.str p) ks) (cG (.str p) (.int (k:Int)) ks ws))) (ai 7 (.val (.str p)) (ai 6 (.val (.int (k:Int))) L))) (D.set (v:=k)) (by lia) aA
  refine ⟨L',ks',ws',cq (ks:=[6,7]) (vs:=[.int (k:Int),.str p]) rfl e1 f1,fun j hj=>?_,f3,by show DEnv _ _ _ (((p,k)::pix (k+1) r).reverse++σ); rw [zCz,zAm]; exact f4,zAj f5 (by rw [zCq]; lia)⟩
  have nb:∀ i,5<=i->zA9 i j=false:=fun i hi=>zDb.mpr fun q=>by have:=zBs q; lia
  rw [f2 j hj,ah (nb 5 (by decide)),ah (nb 7 (by decide)),ah (nb 6 (by decide))]
section
variable {K n:Nat} {pre:St} {fs:List Fu}
noncomputable abbrev mB (X:Ctx):D Fl:=ac (bo 5 (af (.dct [] []))) (ac (dU (none,[6,7]) (hU .enum [ae 3]) slB) (ac (c8 (aW X (aa 1) "add" [ae 4,ae 5,aS az false [aa 3]])) (ac (c8 (bY (aw (aa 1) "rows") (aI [af (.str "back")]))) (af .next))))
theorem lS (P:PW fs):∀ (r:List Fu) (R:List AV) (L:bp),(∀ u ∈ r,u ∈ fs)->R.length+tot r<=900->al 1 L=some (.val (.obj "Smith" pre.length))->∃ L',br (none,[2,3,4]) (mB (wX K (n+26))) (r.map Fu.enc) ⟨L,sm pre (dA fs) R⟩=.ok .next ⟨L',sm pre (dA fs) (R++bK (code (cK fs) r R.length))⟩/\al 1 L'=some (.val (.obj "Smith" pre.length))
 | [],R,L,_,_,h1=>⟨L,by rw [show R++bK (code (cK fs) [] R.length)=R from zAx R]; rfl,h1⟩
 | u::r,R,L,hm,hl,h1=>by
  have hl:R.length+(len u.bd+1+tot r)<=900:=hl
  have hu:u ∈ fs:=hm u zAb
  have hps:=P.ps u hu
  have q1:al 1 (ai 4 (.val u.bd.enc) (ai 3 (.val (.tup (u.ps.map .str))) (ai 2 (.val (.str u.nm)) L)))=some (.val (.obj "Smith" pre.length)):=(ah (by decide)).trans ((ah (by decide)).trans ((ah (by decide)).trans h1))
  have q3:al 3 (ai 4 (.val u.bd.enc) (ai 3 (.val (.tup (u.ps.map .str))) (ai 2 (.val (.str u.nm)) L)))=some (.val (.tup (u.ps.map .str))):=(ah (by decide)).trans aA
  have q4:al 4 (ai 4 (.val u.bd.enc) (ai 3 (.val (.tup (u.ps.map .str))) (ai 2 (.val (.str u.nm)) L)))=some (.val u.bd.enc):=aA
  generalize hq:ai 4 (.val u.bd.enc) (ai 3 (.val (.tup (u.ps.map .str))) (ai 2 (.val (.str u.nm)) L))=L1 at q1 q3 q4
  have e5:bo 5 (af (.dct [] [])) ⟨L1,sm pre (dA fs) R⟩=.ok .next ⟨ai 5 (.own (.dct [] [])) L1,sm pre (dA fs) R⟩:=rfl
  have e6:hU .enum [ae 3] ⟨ai 5 (.own (.dct [] [])) L1,sm pre (dA fs) R⟩=.ok (.tup (fj 0 (u.ps.map .str))) ⟨ai 5 (.own (.dct [] [])) L1,sm pre (dA fs) R⟩:=by
   unfold hU
   rw [aq (ag (bk ((ah (by decide)).trans q3)) rfl)]; rfl
  obtain ⟨L2,ks,ws,f1,f2,f3,D,hk⟩:=mq (st:=sm pre (dA fs) R) u.ps 0 [] [] [] (ai 5 (.own (.dct [] [])) L1) .nil (by show 0+_<=_; lia) aA
  rw [zAx] at D
  have hk:ks.length<=u.ps.length:=zAj hk (by show 0+_<=_; lia)
  have p1:al 1 L2=some (.val (.obj "Smith" pre.length)):=(f2 1 (by decide)).trans ((ah (by decide)).trans q1)
  have p3:al 3 L2=some (.val (.tup (u.ps.map .str))):=(f2 3 (by decide)).trans ((ah (by decide)).trans q3)
  have p4:al 4 L2=some (.val u.bd.enc):=(f2 4 (by decide)).trans ((ah (by decide)).trans q4)
  have A:=add_ok (K:=K) (pre:=pre) (sf:=cK fs) (fun f c h=>starts_get P h) u.bd (f:=u.ps.length) (n:=n+26) (R:=R) (P.bd u hu) D (by lia) (fun x hx=>by
   obtain ⟨i,q⟩:=pix_has hx
   exact jH (zB6.mpr q)) (by lia) (by lia)
  have g1:al 1 (ai 5 (.val (.dct ks ws)) L2)=some (.val (.obj "Smith" pre.length)):=(ah (by decide)).trans p1
  have g3:al 3 (ai 5 (.val (.dct ks ws)) L2)=some (.val (.tup (u.ps.map .str))):=(ah (by decide)).trans p3
  have ln:=kQ (st:=sm pre (dA fs) R) g3
  rw [zAd] at ln
  have e7:=iw (K:=K) (n:=n+26) (i:=1) (L:=L2) (L₁:=ai 5 (.val (.dct ks ws)) L2) (R:=R) p1 (ag (bk p4) (ag (gt f3) (ag ln rfl))) A
  have l1:(R++bK (comp (cK fs) u.bd (sg0 u) u.ps.length R.length)).length=R.length+len u.bd:=by rw [zAc,zAd,bB]
  have e8:=gF (i:=1) (L:=ai 5 (.val (.dct ks ws)) L2) (L₁:=ai 5 (.val (.dct ks ws)) L2) (pre:=pre) (sv:=dA fs) (R:=R++bK (comp (cK fs) u.bd (sg0 u) u.ps.length R.length)) (d:=aI [af (.str "back")]) (v:=Rw.back.enc) g1 rfl (by lia)
  have body:mB (wX K (n+26)) ⟨L1,sm pre (dA fs) R⟩=.ok .next ⟨ai 5 (.val (.dct ks ws)) L2,sm pre (dA fs) (R++bK (comp (cK fs) u.bd (sg0 u) u.ps.length R.length)++[Rw.back.enc])⟩:=by
   refine (ji e5).trans ((ji (s':=⟨L2,sm pre (dA fs) R⟩) ?_).trans ((ji e7).trans ((ji e8).trans rfl)))
   show aE (hU .enum [ae 3]) _ _=_
   rw [aq e6]; exact f1
  have l2:(R++bK (comp (cK fs) u.bd (sg0 u) u.ps.length R.length)++[Rw.back.enc]).length=R.length+len u.bd+1:=by rw [zAc,l1]; rfl
  obtain ⟨L',z1,z2⟩:=lS P r (R++bK (comp (cK fs) u.bd (sg0 u) u.ps.length R.length)++[Rw.back.enc]) (ai 5 (.val (.dct ks ws)) L2) (fun v hv=>hm v (zAe _ hv)) (by lia) g1
  refine ⟨L',cq (ks:=[2,3,4]) (vs:=[.str u.nm,.tup (u.ps.map .str),u.bd.enc]) rfl (by show mB _ ⟨ai 4 _ (ai 3 _ (ai 2 _ L)),_⟩=_; rw [hq]; exact body) ?_,z2⟩
  rw [z1,l2]
  simp only [code,bK,zAr,zA4,zAm,List.cons_append,zDl]
noncomputable abbrev cst (pre:St) (fs:List Fu):St:=pre++[.flds (smF pre.length (dA fs)),.cont (.lst (bK (code (cK fs) fs 0))),.flds (smF pre.length (dA fs))]
theorem lU {pre r:St} {a b c:AO}:(pre++a::b::c::r)[pre.length+2]?=some c:=by rw [zBa (zBc _ 2),zB9]; rfl
theorem set_app2 {pre r:St} {a b c d:AO}:(pre++a::b::c::r).set (pre.length+2) d=pre++a::b::d::r:=by rw [List.set_append_right _ _ (zBc _ 2),zB9]; rfl
theorem smithed_ok (P:PW fs) (hl:fs.length<=900) (ht:tot fs<=900):au PP K (n+27) ⟨#[]⟩ "smithed" [bU fs] pre=.ok (.obj "Code" (pre.length+2)) (cst pre fs):=by
 rw [rn_smithed]
 show RT (lV (wX K (n+26))) ⟨[(0,.val (bU fs))],pre⟩ _
 refine .do (v:=iB fs) (s':=⟨[(0,.val (bU fs))],pre⟩) (a8 (vs:=[bU fs]) (s₁:=⟨[(0,.val (bU fs))],pre⟩) rfl (lQ (n:=n+12) P hl)) ?_
 have hs:=a8 (X:=wX K (n+26)) (f:="starts_of") (es:=[ae 0]) (vs:=[bU fs]) (s:=⟨[(0,.val (bU fs))],pre⟩) (s₁:=⟨[(0,.val (bU fs))],pre⟩) rfl (starts_ok (n:=n+12) P hl)
 have init:au PP K (n+22) "Smith" "__init__" [.obj "Smith" pre.length,dA fs] (pre++[.flds []])=.ok .none (sm pre (dA fs) []):=by
  rw [iV]
  show RT (eG (wX K (n+21))) ⟨[(0,.val (.obj "Smith" pre.length)),(1,.val (dA fs))],pre++[.flds []]⟩ _
  have hd:aE (cF []) toCel ⟨[(0,.val (.obj "Smith" pre.length)),(1,.val (dA fs))],pre++[.flds []]⟩=.ok (.cel (pre.length+1)) ⟨[(0,.val (.obj "Smith" pre.length)),(1,.val (dA fs))],pre++[.flds [],.cont (.lst [])]⟩:=by
   show Out.ok (AV.cel (pre++[AO.flds []]).length) (⟨_,pre++[AO.flds []]++[AO.cont (.lst [])]⟩:S)=_
   rw [zAm,zAc]; rfl
  have e1:=cU (i:=0) (f:="rows") (l':=[("rows",.cel (pre.length+1))]) hd rfl a9 rfl (by kernel_rfl)
  dsimp only at e1
  rw [gv] at e1
  have e2:=cU (i:=0) (f:="starts") (d:=ae 1) (w:=dA fs) (s:=⟨[(0,.val (.obj "Smith" pre.length)),(1,.val (dA fs))],pre++[.flds [("rows",.cel (pre.length+1))],.cont (.lst [])]⟩) (s':=⟨[(0,.val (.obj "Smith" pre.length)),(1,.val (dA fs))],pre++[.flds [("rows",.cel (pre.length+1))],.cont (.lst [])]⟩) (l':=smF pre.length (dA fs)) rfl rfl a9 rfl (by kernel_rfl)
  dsimp only at e2
  rw [gv] at e2
  exact .go e1 (.go e2 (.nil rfl))
 have e1:kI (wX K (n+26)) "Smith" [aX (wX K (n+26)) "starts_of" [ae 0]] ⟨[(0,.val (bU fs))],pre⟩=.ok (.obj "Smith" pre.length) ⟨[(0,.val (bU fs))],sm pre (dA fs) []⟩:=by
  unfold kI
  rw [aq (ag hs rfl)]
  show dZ (kj pre.length "Smith" (au PP K (n+22) "Smith" "__init__" [.obj "Smith" pre.length,dA fs] (pre++[.flds []]))) _=_
  rw [init]; rfl
 obtain ⟨L',f1,f2⟩:=lS (K:=K) (n:=n) (pre:=pre) P fs [] [(0,.val (bU fs)),(1,.val (.obj "Smith" pre.length))] (fun u h=>h) (by show 0+_<=_; lia) rfl
 rw [zDl,List.length_nil] at f1
 refine .asg (s':=⟨[(0,.val (bU fs))],sm pre (dA fs) []⟩) e1 (.forI (l:=fs.map Fu.enc) (s₁:=⟨[(0,.val (bU fs)),(1,.val (.obj "Smith" pre.length))],sm pre (dA fs) []⟩) rfl f1 (.ret (s':=⟨L',cst pre fs⟩) ?_ rfl))
 have sq:bI [aw (aa 1) "rows",aw (aa 1) "starts"] ⟨L',sm pre (dA fs) (bK (code (cK fs) fs 0))⟩=.ok [.cel (pre.length+1),dA fs] ⟨L',sm pre (dA fs) (bK (code (cK fs) fs 0))⟩:=ag (aP f2 a9 (by kernel_rfl)) (ag (aP f2 a9 (by kernel_rfl)) rfl)
 have ln:(sm pre (dA fs) (bK (code (cK fs) fs 0))).length=pre.length+2:=zAc
 have cinit:au PP K (n+22) "Code" "__init__" [.obj "Code" (pre.length+2),.cel (pre.length+1),dA fs] (sm pre (dA fs) (bK (code (cK fs) fs 0))++[.flds []])=.ok .none (cst pre fs):=by
  rw [jJ]
  show _=Ret.ok .none (pre++[.flds (smF pre.length (dA fs)),.cont (.lst (bK (code (cK fs) fs 0))),.flds (smF pre.length (dA fs))])
  generalize bK (code (cK fs) fs 0)=R
  have g2:∀ l,(sm pre (dA fs) R++[AO.flds l])[pre.length+2]?=some (.flds l):=fun l=>by rw [zAm]; exact lU
  have s2:∀ l l',(sm pre (dA fs) R++[AO.flds l]).set (pre.length+2) (.flds l')=sm pre (dA fs) R++[AO.flds l']:=fun l l'=>by rw [zAm,zAm]; exact set_app2
  show RT (fg (wX K (n+21))) ⟨[(0,.val (.obj "Code" (pre.length+2))),(1,.val (.cel (pre.length+1))),(2,.val (dA fs))],sm pre (dA fs) R++[.flds []]⟩ _
  have e1:=cU (i:=0) (f:="rows") (d:=ae 1) (w:=.cel (pre.length+1)) (s:=⟨[(0,.val (.obj "Code" (pre.length+2))),(1,.val (.cel (pre.length+1))),(2,.val (dA fs))],sm pre (dA fs) R++[.flds []]⟩) (s':=⟨[(0,.val (.obj "Code" (pre.length+2))),(1,.val (.cel (pre.length+1))),(2,.val (dA fs))],sm pre (dA fs) R++[.flds []]⟩) (l':=[("rows",.cel (pre.length+1))]) rfl rfl (g2 _) rfl (by kernel_rfl)
  dsimp only at e1
  rw [s2] at e1
  have e2:=cU (i:=0) (f:="starts") (d:=ae 2) (w:=dA fs) (s:=⟨[(0,.val (.obj "Code" (pre.length+2))),(1,.val (.cel (pre.length+1))),(2,.val (dA fs))],sm pre (dA fs) R++[.flds [("rows",.cel (pre.length+1))]]⟩) (s':=⟨[(0,.val (.obj "Code" (pre.length+2))),(1,.val (.cel (pre.length+1))),(2,.val (dA fs))],sm pre (dA fs) R++[.flds [("rows",.cel (pre.length+1))]]⟩) (l':=smF pre.length (dA fs)) rfl rfl (g2 _) rfl (by kernel_rfl)
  dsimp only at e2
  rw [s2] at e2
  refine .go e1 (.go e2 (.nil ?_))
  show Ret.ok .none (pre++_++_)=_
  rw [zAm]; rfl
 unfold kI
 rw [aq sq]
 show dZ (kj (sm pre (dA fs) (bK (code (cK fs) fs 0))).length "Code" (au PP K (n+22) "Code" "__init__" (.obj "Code" (sm pre (dA fs) (bK (code (cK fs) fs 0))).length::[.cel (pre.length+1),dA fs]) (sm pre (dA fs) (bK (code (cK fs) fs 0))++[.flds []]))) _=_
 rw [ln,cinit]; rfl
end
noncomputable def fZ (l:List Int):List AV:=(l.map .int).reverse
theorem jc {l:List Int}:(fZ l).length=l.length:=by unfold fZ; rw [zCb,zAd]
theorem ivs_cons {x:Int} {l:List Int}:fZ (x::l)=fZ l++[.int x]:=zCz
theorem lL {a b:List Int}:fZ (a++b)=fZ b++fZ a:=by unfold fZ; rw [zAr,List.reverse_append]
theorem oG {l r:List AV} {x:AV} {i:Int} (h:i=-1 - (r.length:Int)):at? (l++x::r) i=some x:=by
 have hl:(l++x::r).length=l.length+1+r.length:=by rw [zAc,zCq]; lia
 unfold at?
 rw [if_neg (by lia),if_pos (by lia),show (i+((l++x::r).length:Int)).toNat=l.length by lia,zBa (zAy _),Nat.sub_self]; rfl
theorem og {l:List AV} (h:l.length<=1000000):bz l=some (.lst l):=if_pos (zAj h (by decide +kernel))
noncomputable abbrev cw (o rr:Nat) (F:Int) (a p:Nat) (md:Int):List (Str × AV):=[("rows",.cel rr),("fuel",.int F),("stack",.cel a),("calls",.cel (o+1)),("place",.int p),("made",.int md)]
noncomputable abbrev eU (fs:List (Nat × Nat)):List AV:=fs.map fun x=>.tup [.cel x.1,.int x.2]
structure Rq (o rr:Nat) (R:List AV) (F:Int) (st:St) (p:Nat) (md:Int) (a:Nat) (sk:List Int) (fs:List (Nat × Nat)):Prop where
 ob:st[o]?=some (.flds (cw o rr F a p md))
 rw:st[rr]?=some (.cont (.lst R))
 sk:st[a]?=some (.cont (.lst (fZ sk)))
 cl:st[o+1]?=some (.cont (.lst (eU fs)))
 n1:a ≠ o+1
 n4:rr ≠ a
 n6:rr ≠ o+1
structure Rp (o rr:Nat) (R:List AV) (F:Int) (st:St) (p:Nat) (md:Int) (a:Nat) (sk:List Int) (fs:List (Nat × Nat)) (b q:Nat) (sl:List Int):Prop where
 rq:Rq o rr R F st p md a sk (fs++[(b,q)])
 sl:st[b]?=some (.cont (.lst (sl.map .int)))
 n2:b ≠ o+1
 n3:a ≠ b
 n5:rr ≠ b
theorem k7 {st:St} {i:Nat} {x y:AO} (h:st[i]?=some x):(st.set i y)[i]?=some y:=by
 rw [zA8 (zAz.mp h).1]
theorem ej {st:St} {i k:Nat} {l:List (Str × AV)} {c:AV} (h:st[i]?=some (.flds l)) (h':st[k]?=some (.cont c)):i ≠ k:=fun q=>by rw [q,h'] at h; cases h
theorem cC {st:St} {i:Nat} {x:AO} (h:st[i]?=some x):i < st.length:=(zAz.mp h).1
section
variable {o rr:Nat} {R:List AV} {F md md':Int} {st:St} {p p' a:Nat} {sk sk':List Int} {fs:List (Nat × Nat)} {b q:Nat} {sl sl':List Int}
theorem Rq.plc (I:Rq o rr R F st p md a sk fs):Rq o rr R F (st.set o (.flds (cw o rr F a p' md'))) p' md' a sk fs where
 ob:=k7 I.ob
 rw:=by rw [zAf (ej I.ob I.rw)]; exact I.rw
 sk:=by rw [zAf (ej I.ob I.sk)]; exact I.sk
 cl:=by rw [zAf (ej I.ob I.cl)]; exact I.cl
 n1:=I.n1
 n4:=I.n4
 n6:=I.n6
theorem Rq.stk (I:Rq o rr R F st p md a sk fs):Rq o rr R F (st.set a (.cont (.lst (fZ sk')))) p md a sk' fs where
 ob:=by rw [zAf (ej I.ob I.sk).symm]; exact I.ob
 rw:=by rw [zAf I.n4.symm]; exact I.rw
 sk:=k7 I.sk
 cl:=by rw [zAf I.n1]; exact I.cl
 n1:=I.n1
 n4:=I.n4
 n6:=I.n6
theorem Rp.plc (I:Rp o rr R F st p md a sk fs b q sl):Rp o rr R F (st.set o (.flds (cw o rr F a p' md'))) p' md' a sk fs b q sl :=
 ⟨I.rq.plc,by rw [zAf (ej I.rq.ob I.sl)]; exact I.sl,I.n2,I.n3,I.n5⟩
theorem Rp.stk (I:Rp o rr R F st p md a sk fs b q sl):Rp o rr R F (st.set a (.cont (.lst (fZ sk')))) p md a sk' fs b q sl :=
 ⟨I.rq.stk,by rw [zAf I.n3]; exact I.sl,I.n2,I.n3,I.n5⟩
theorem Rp.slt (I:Rp o rr R F st p md a sk fs b q sl):Rp o rr R F (st.set b (.cont (.lst (sl'.map .int)))) p md a sk fs b q sl' where
 rq:=⟨by rw [zAf (ej I.rq.ob I.sl).symm]; exact I.rq.ob,by rw [zAf I.n5.symm]; exact I.rq.rw,by rw [zAf I.n3.symm]; exact I.rq.sk,by rw [zAf I.n2]; exact I.rq.cl,I.rq.n1,I.rq.n4,I.rq.n6⟩
 sl:=k7 I.sl
 n2:=I.n2
 n3:=I.n3
 n5:=I.n5
variable {e:bp} {d:D AV} {s:S}
noncomputable abbrev mc (o:Nat) (e:bp) (st:St):S:=⟨(0,.val (.obj "Machine" o))::e,st⟩
theorem cS {L:bp} {n:Nat} {c:AV} (h:st[n]?=some (.cont c)):aT (.cel n) ⟨L,st⟩=some c:=by unfold aT du; dsimp only; rw [h]
theorem fE {v c:AV} (h:aT v s=some c):deref v s=.ok c s:=by unfold deref; rw [h]
theorem jB {L:bp} {n:Nat} {c c':AV} {f:AV->Option AV} (h:st[n]?=some (.cont c)) (hf:f c=some c'):bH (.cel n) f ⟨L,st⟩=.ok () ⟨L,st.set n (.cont c')⟩:=by
 unfold bH du; dsimp only; rw [h]; dsimp only; rw [hf]
theorem app_cel {L L':bp} {st':St} {n:Nat} {l:List AV} {v:AV} {x y:D AV} (hx:x ⟨L,st⟩=.ok (.cel n) ⟨L,st⟩) (h:st[n]?=some (.cont (.lst l))) (hy:y ⟨L,st⟩=.ok v ⟨L',st'⟩) (h':st'[n]?=some (.cont (.lst l))) (hl:l.length<=900000):bY x y ⟨L,st⟩=.ok .none ⟨L',st'.set n (.cont (.lst (l++[v])))⟩:=by
 have hc:dE (.cel n) ⟨L,st⟩=.ok () ⟨L,st⟩:=by unfold dE; rw [cS h]; rfl
 have hm:bH (.cel n) (pA v) ⟨L',st'⟩=.ok () ⟨L',st'.set n (.cont (.lst (l++[v])))⟩:=jB h' (og (by rw [zAc]; show _+1<=_; lia))
 unfold bY
 rw [aq hx,aq hc,aq hy,aq hm]; rfl
theorem pop_cel {L:bp} {n:Nat} {l:List AV} {v:AV} {x:D AV} (hx:x ⟨L,st⟩=.ok (.cel n) ⟨L,st⟩) (h:st[n]?=some (.cont (.lst (l++[v])))):fU x ⟨L,st⟩=.ok v ⟨L,st.set n (.cont (.lst l))⟩:=by
 have hm:bH (.cel n) popV ⟨L,st⟩=.ok () ⟨L,st.set n (.cont (.lst l))⟩:=jB h (by show some (AV.lst (l++[v]).dropLast)=_; rw [List.dropLast_concat])
 have hv:lastV (.lst (l++[v]))=some v:=by show (l++[v]).getLast?=_; rw [List.getLast?_concat]
 unfold fU
 rw [aq hx,aq (fE (cS h)),hv]
 show aE (bH (.cel n) popV) _ _=_
 rw [aq hm]; rfl
noncomputable abbrev je:D AV:=aw (aa 0) "stack"
noncomputable abbrev topD:D AV:=am (am (aw (aa 0) "calls") (dUn .USub (af (.int 1)))) (af (.int 0))
theorem ph {x:Int} (I:Rp o rr R F st p md a sk fs b q sl) (hd:d (mc o e st)=.ok (.int x) (mc o e st)) (hl:sk.length<=900000):bY je d (mc o e st)=.ok .none (mc o e (st.set a (.cont (.lst (fZ (x::sk)))))):=by
 rw [ivs_cons]
 exact app_cel (aP rfl I.rq.ob (by kernel_rfl)) I.rq.sk hd I.rq.sk (by rw [jc]; exact hl)
theorem oW {x:Int} (I:Rp o rr R F st p md a (x::sk) fs b q sl):fU je (mc o e st)=.ok (.int x) (mc o e (st.set a (.cont (.lst (fZ sk))))) :=
 pop_cel (aP rfl I.rq.ob (by kernel_rfl)) (by rw [← ivs_cons]; exact I.rq.sk)
theorem top_fr (I:Rp o rr R F st p md a sk fs b q sl):topD (mc o e st)=.ok (.cel b) (mc o e st):=by
 refine aU (c:=.tup [.cel b,.int q]) (c':=.tup [.cel b,.int q]) (i:=.int 0) (aU (c:=.cel (o+1)) (c':=.lst (eU (fs++[(b,q)]))) (i:=.int (-1)) (aP rfl I.rq.ob (by kernel_rfl)) rfl (cS I.rq.cl) ?_) rfl rfl rfl
 show at? (eU (fs++[(b,q)])) (-1)=_
 unfold eU
 rw [zAr]
 exact oG (r:=[]) rfl
end
noncomputable def nmR:Rw->Str
 | .push _=>"push" | .load _=>"load" | .keep _=>"keep" | .deed _=>"do" | .unl _=>"unless" | .skp _=>"skip" | .call ..=>"call" | .back=>"back"
noncomputable abbrev isR (y:Str):D AV:=aB (am (aa 1) (af (.int 0))) .Eq (af (.str y))
noncomputable abbrev mi:D AV:=am (aa 1) (af (.int 1))
noncomputable abbrev c7 (X:Ctx):D Fl:=ac (bQ (isR "call") (ac (c8 (aW X (aa 0) "enter" [mi,am (aa 1) (af (.int 2)),am (aa 1) (af (.int 3))])) (af .next)) (ac (c8 (aW X (aa 0) "leave" [])) (af .next))) (af .next)
noncomputable abbrev c6 (X:Ctx):D Fl:=ac (bQ (isR "skip") (ac (aO (aa 0) "place" mi) (af .next)) (c7 X)) (af .next)
noncomputable abbrev c5 (X:Ctx):D Fl:=ac (bQ (isR "unless") (ac (bQ (aB (fU je) .Eq (af (.int 0))) (ac (aO (aa 0) "place" mi) (af .next)) (af .next)) (af .next)) (c6 X)) (af .next)
noncomputable abbrev c4 (X:Ctx):D Fl:=ac (bQ (isR "do") (ac (aL 3 (fU je)) (ac (aL 4 (fU je)) (ac (c8 (bY je (aX X "reckoned" [mi,ae 4,ae 3]))) (af .next)))) (c5 X)) (af .next)
noncomputable abbrev c3 (X:Ctx):D Fl:=ac (bQ (isR "keep") (ac (aL 2 topD) (ac (bh (aa 2) mi (fU je)) (af .next))) (c4 X)) (af .next)
noncomputable abbrev c2 (X:Ctx):D Fl:=ac (bQ (isR "load") (ac (c8 (bY je (am topD mi))) (af .next)) (c3 X)) (af .next)
noncomputable abbrev c1 (X:Ctx):D Fl:=ac (bQ (isR "push") (ac (c8 (bY je mi)) (af .next)) (c2 X)) (af .next)
section
variable {X:Ctx} {r:Rw} {e:bp} {st:St} {out:Out Fl}
noncomputable abbrev mr (o:Nat) (r:Rw) (e:bp) (st:St):S:=mc o ((1,.val (r.enc))::e) st
variable {o rr:Nat} {rows:List AV} {F md:Int} {p a:Nat} {sk:List Int} {fs:List (Nat × Nat)} {b q:Nat} {sl:List Int} {K n:Nat}
theorem isR_at {y:Str}:isR y (mr o r e st)=.ok (.bool (seq (nmR r) y)) (mr o r e st):=by cases r <;> kernel_rfl
theorem ll {y:Str} (h:seq (nmR r) y=true):isR y (mr o r e st)=.ok (.bool true) (mr o r e st):=by rw [isR_at,h]
theorem cn {y:Str} (h:seq (nmR r) y=false):isR y (mr o r e st)=.ok (.bool false) (mr o r e st):=by rw [isR_at,h]
theorem lR {d:D AV} {s:S} {e:bp} {k:Nat} (hd:d s=.ok (.int (k:Int)) (mc o e st)) (h:st[o]?=some (.flds (cw o rr F a p md))):aO (aa 0) "place" d s=.ok .next (mc o e (st.set o (.flds (cw o rr F a k md)))):=cU hd rfl h rfl (by kernel_rfl)
theorem step_pre (I:Rp o rr rows F st p md a sk fs b q sl) (hr:rows[p]?=some (r.enc)) (h:∀ X,X.call=au PP K n->X.P=PP->c1 X (mr o r [] (st.set o (.flds (cw o rr F a (p+1) md))))=out) (ho:nr out):au PP K (n+1) "Machine" "step" [.obj "Machine" o] st=bb out:=by
 rw [kA]
 generalize hX:wX K n=X
 have hcall:X.call=au PP K n:=by rw [← hX]; rfl
 have hmeth:X.P=PP:=by rw [← hX]; rfl
 have g1:aL 1 (am (aw (aa 0) "rows") (aw (aa 0) "place")) (mc o [] st)=.ok .next (mr o r [] st) :=
  aQ (s':=mc o [] st) (v:=r.enc) (aU (c:=.cel rr) (c':=.lst rows) (i:=.int (p:Int)) (aP rfl I.rq.ob (by kernel_rfl)) (aP rfl I.rq.ob (by kernel_rfl)) (cS I.rq.rw) (gM hr))
 have h3:aw (aa 0) "place" (mr o r [] st)=.ok (.int (p:Int)) (mr o r [] st):=aP rfl I.rq.ob (by kernel_rfl)
 have h4:aE (aj .Add (aw (aa 0) "place") (af (.int 1))) toCel (mr o r [] st)=.ok (.int ((p+1:Nat):Int)) (mr o r [] st):=(aq (ay (v:=.int ((p+1:Nat):Int)) h3 rfl rfl rfl rfl)).trans rfl
 have g2:=lR h4 I.rq.ob
 show bb (ac _ (ac _ (c1 X)) _)=_
 rw [ji g1,ji g2,h X hcall hmeth]
theorem k_push {i:Int} (I:Rp o rr rows F st p md a sk fs b q sl) (hl:sk.length<=900000):c1 X (mr o (.push i) [] st)=.ok .next (mr o (.push i) [] (st.set a (.cont (.lst (fZ (i::sk)))))) :=
 pE (ll (by kernel_rfl)) (bP (cu (ph I rfl hl)) trivial) trivial
theorem k_load {k:Nat} {x:Int} (I:Rp o rr rows F st p md a sk fs b q sl) (hx:sl[k]?=some x) (hl:sk.length<=900000):c1 X (mr o (.load k) [] st)=.ok .next (mr o (.load k) [] (st.set a (.cont (.lst (fZ (x::sk)))))):=by
 refine dw (cn (by kernel_rfl)) (pE (ll (by kernel_rfl)) (bP (cu (ph I ?_ hl)) trivial) trivial) trivial
 exact aU (c:=.cel b) (c':=.lst (sl.map .int)) (i:=.int (k:Int)) (top_fr I) rfl (cS I.sl) (gM (by rw [zB0,hx]; rfl))
theorem k_keep {k:Nat} {x:Int} (I:Rp o rr rows F st p md a (x::sk) fs b q sl) (hk:k < sl.length):c1 X (mr o (.keep k) [] st)=.ok .next (mr o (.keep k) [(2,.val (.cel b))] ((st.set a (.cont (.lst (fZ sk)))).set b (.cont (.lst ((sl.set k x).map .int))))):=by
 refine dw (cn (by kernel_rfl)) (dw (cn (by kernel_rfl)) (pE (ll (by kernel_rfl)) ?_ trivial) trivial) trivial
 have g1:aL 2 topD (mr o (.keep k) [] st)=.ok .next (mr o (.keep k) [(2,.val (.cel b))] st):=aQ (top_fr I)
 refine (ji g1).trans (bP ?_ trivial)
 unfold bh
 rw [aq (oW I)]
 show aE (bH (.pl 2) (eW (.int k) (.int x))) _ _=_
 have h:bH (.pl 2) (eW (.int k) (.int x)) (mr o (.keep k) [(2,.val (.cel b))] (st.set a (.cont (.lst (fZ sk)))))=.ok () (mr o (.keep k) [(2,.val (.cel b))] ((st.set a (.cont (.lst (fZ sk)))).set b (.cont (.lst ((sl.set k x).map .int))))) :=
  jB (L:=_) (I.stk (sk':=sk)).sl (by
   show (if 0<=(k:Int)/\(k:Int).toNat < (sl.map AV.int).length then some (AV.lst ((sl.map AV.int).set (k:Int).toNat (.int x))) else none)=_
   rw [zCn,if_pos ⟨zCi k,by rw [zAd]; exact hk⟩,List.map_set])
 rw [aq h]; rfl
theorem k_skip {k:Nat} (I:Rp o rr rows F st p md a sk fs b q sl):c1 X (mr o (.skp k) [] st)=.ok .next (mr o (.skp k) [] (st.set o (.flds (cw o rr F a k md)))) :=
 dw (cn (by kernel_rfl)) (dw (cn (by kernel_rfl)) (dw (cn (by kernel_rfl)) (dw (cn (by kernel_rfl)) (dw (cn (by kernel_rfl)) (pE (ll (by kernel_rfl)) (bP (lR (k:=k) (by kernel_rfl) I.rq.ob) trivial) trivial) trivial) trivial) trivial) trivial) trivial
theorem k_unl {k:Nat} {x:Int} (I:Rp o rr rows F st p md a (x::sk) fs b q sl):c1 X (mr o (.unl k) [] st)=.ok .next (mr o (.unl k) [] (if x=0 then (st.set a (.cont (.lst (fZ sk)))).set o (.flds (cw o rr F a k md)) else st.set a (.cont (.lst (fZ sk))))):=by
 refine dw (cn (by kernel_rfl)) (dw (cn (by kernel_rfl)) (dw (cn (by kernel_rfl)) (dw (cn (by kernel_rfl)) (pE (ll (by kernel_rfl)) ?_ trivial) trivial) trivial) trivial) trivial
 have ht:aB (fU je) .Eq (af (.int 0)) (mr o (.unl k) [] st)=.ok (.bool (decide (x=0))) (mr o (.unl k) [] (st.set a (.cont (.lst (fZ sk))))):=(bT (oW I) rfl).trans rfl
 by_cases hx:x=0
 ·rw [if_pos hx]
  rw [decide_eq_true hx] at ht
  exact pE ht (bP (lR (k:=k) (by kernel_rfl) (I.stk (sk':=sk)).rq.ob) trivial) trivial
 ·rw [if_neg hx]
  rw [decide_eq_false hx] at ht
  exact dw ht rfl trivial
noncomputable abbrev eH (st:St) (a:Nat) (x:Int) (sk:List Int):St:=(st.set a (.cont (.lst (fZ (x::sk))))).set a (.cont (.lst (fZ sk)))
theorem ly {x y:Int} {w:Dw} (I:Rp o rr rows F st p md a (y::x::sk) fs b q sl) (h:c8 (bY je (aX X "reckoned" [mi,ae 4,ae 3])) (mr o (.deed w) [(3,.val (.int y)),(4,.val (.int x))] (eH st a x sk))=out) (ho:nr out):c1 X (mr o (.deed w) [] st)=out:=by
 refine dw (cn (by cases w <;> kernel_rfl)) (dw (cn (by cases w <;> kernel_rfl)) (dw (cn (by cases w <;> kernel_rfl)) (pE (ll (by cases w <;> kernel_rfl)) ?_ ho) ho) ho) ho
 have g1:aL 3 (fU je) (mr o (.deed w) [] st)=.ok .next (mr o (.deed w) [(3,.val (.int y))] (st.set a (.cont (.lst (fZ (x::sk)))))):=aQ (oW I)
 have g2:aL 4 (fU je) (mr o (.deed w) [(3,.val (.int y))] (st.set a (.cont (.lst (fZ (x::sk))))))=.ok .next (mr o (.deed w) [(3,.val (.int y)),(4,.val (.int x))] (eH st a x sk)):=aQ (oW (I.stk (sk':=x::sk)))
 exact (ji g1).trans ((ji g2).trans (bP h ho))
theorem deed_sq {x y:Int} {w:Dw} {S:St}:bI [mi,ae 4,ae 3] (mr o (.deed w) [(3,.val (.int y)),(4,.val (.int x))] S)=.ok [.str w.str,.int x,.int y] (mr o (.deed w) [(3,.val (.int y)),(4,.val (.int x))] S):=by kernel_rfl
theorem k_deed {x y z:Int} {w:Dw} (I:Rp o rr rows F st p md a (y::x::sk) fs b q sl) (hX:X.call ⟨#[]⟩ "reckoned" [.str w.str,.int x,.int y] (eH st a x sk)=.ok (.int z) (eH st a x sk)) (hl:sk.length<=900000) :
  c1 X (mr o (.deed w) [] st)=.ok .next (mr o (.deed w) [(3,.val (.int y)),(4,.val (.int x))] ((eH st a x sk).set a (.cont (.lst (fZ (z::sk)))))) :=
 ly I (cu (ph ((I.stk (sk':=x::sk)).stk (sk':=sk)) (a8 deed_sq hX) hl)) trivial
theorem k_deedX {x y:Int} {w:Dw} {c:Str} (I:Rp o rr rows F st p md a (y::x::sk) fs b q sl) (hX:X.call ⟨#[]⟩ "reckoned" [.str w.str,.int x,.int y] (eH st a x sk)=.exc c (eH st a x sk)):c1 X (mr o (.deed w) [] st)=.exc c (mr o (.deed w) [(3,.val (.int y)),(4,.val (.int x))] (eH st a x sk)):=by
 refine ly I ?_ trivial
 have I2:=(I.stk (sk':=x::sk)).stk (sk':=sk)
 have hc:dE (.cel a) (mr o (.deed w) [(3,.val (.int y)),(4,.val (.int x))] (eH st a x sk))=.ok () (mr o (.deed w) [(3,.val (.int y)),(4,.val (.int x))] (eH st a x sk)):=by unfold dE; rw [cS I2.rq.sk]; rfl
 have ho:je (mr o (.deed w) [(3,.val (.int y)),(4,.val (.int x))] (eH st a x sk))=.ok (.cel a) (mr o (.deed w) [(3,.val (.int y)),(4,.val (.int x))] (eH st a x sk)):=aP rfl I2.rq.ob (by kernel_rfl)
 have hf:aX X "reckoned" [mi,ae 4,ae 3] (mr o (.deed w) [(3,.val (.int y)),(4,.val (.int x))] (eH st a x sk))=.exc c (mr o (.deed w) [(3,.val (.int y)),(4,.val (.int x))] (eH st a x sk)):=by
  unfold aX
  rw [aq deed_sq]
  show dZ (X.call _ _ _ _) _=_
  rw [hX]; rfl
 show ax (bY _ _ _) _=_
 unfold bY
 rw [aq ho,aq hc]
 show ax (ax (aX _ _ _ _) _) _=_
 rw [hf]; rfl
end
theorem kP {n:Nat} {i:Int} {k:Nat} (h:i=k) (hk:k<=n):clipAt n i=k:=by
 subst h; unfold clipAt; rw [if_neg (by lia)]; omega
theorem slice_to {a b:List AV} {i:Int} (h:i=a.length):mK (a++b) .none (.int i)=some a:=by
 show some (((a++b).drop 0).take (clipAt (a++b).length i - 0))=_
 rw [kP (k:=a.length) h (by rw [zAc]; exact zBc _ _),List.drop_zero,Nat.sub_zero,List.take_left]
theorem slice_from {a b:List AV} {i:Int} (h:i=a.length):mK (a++b) (.int i) .none=some b:=by
 show some (((a++b).drop (clipAt (a++b).length i)).take ((a++b).length - clipAt (a++b).length i))=_
 rw [kP (k:=a.length) h (by rw [zAc]; exact zBc _ _),List.drop_left,zC9 (by rw [zAc]; lia)]
theorem nE:∀ m:Nat,lw (.int 0) m=(zBu m (0:Int)).map .int
 | 0=>rfl
 | m+1=>by show AV.int 0::lw (.int 0) m=_; rw [nE m]; rfl
theorem kN {st:St} {i:Nat} {x y:AO} (h:st[i]?=some x):(st++[y])[i]?=some x:=by
 rw [zAt (zAz.mp h).1]; exact h
section
variable {o rr:Nat} {X:Ctx} {st:St} {R:List AV} {F md:Int} {p a first count room:Nat} {as sk sl:List Int} {fs:List (Nat × Nat)} {b q:Nat} {K n:Nat}
theorem leave_ok (I:Rp o rr R F st p md a sk fs b q sl):au PP K (n+1) "Machine" "leave" [.obj "Machine" o] st=.ok .none ((st.set (o+1) (.cont (.lst (eU fs)))).set o (.flds (cw o rr F a q md))):=by
 rw [jo]
 show RT (fq (wX K n)) (mc o [] st) _
 have ee:eU (fs++[(b,q)])=eU fs++[.tup [.cel b,.int q]]:=by unfold eU; rw [zAr]; rfl
 have h2:fU (aw (aa 0) "calls") (mc o [] st)=.ok (.tup [.cel b,.int q]) (mc o [] (st.set (o+1) (.cont (.lst (eU fs))))):=pop_cel (aP rfl I.rq.ob (by kernel_rfl)) (by rw [← ee]; exact I.rq.cl)
 refine .go (s':=mc o [(1,.val (.tup [.cel b,.int q]))] (st.set (o+1) (.cont (.lst (eU fs))))) (aQ h2) (.go (lR (rr:=rr) (F:=F) (a:=a) (p:=p) (md:=md) (k:=q) rfl ?_) (.nil rfl))
 rw [zAf (ej I.rq.ob I.rq.cl).symm]; exact I.rq.ob
theorem Rq.app {x:AO} (I:Rq o rr R F st p md a sk fs):Rq o rr R F (st++[x]) p md a sk fs:=⟨kN I.ob,kN I.rw,kN I.sk,kN I.cl,I.n1,I.n4,I.n6⟩
noncomputable abbrev cI (first count room:Nat) (e:bp):bp:=(1,.val (.int first))::(2,.val (.int count))::(3,.val (.int room))::e
theorem kT {s:S} {d:D AV} {m:Nat} {c:List AV} (hd:d s=.ok (.cel m) s) (h:s.st[m]?=some (.cont (.lst c))):aS az false [d] s=.ok (.int c.length) s:=cg hd (cS (L:=s.loc) h) rfl
theorem slc_at {s:S} {d lo hi:D AV} {m:Nat} {c x:List AV} {u v:AV} (hd:d s=.ok (.cel m) s) (h1:lo s=.ok u s) (h2:hi s=.ok v s) (h:s.st[m]?=some (.cont (.lst c))) (hs:mK c u v=some x):cj d lo hi s=.ok (.lst x) s:=by
 unfold cj
 rw [aq hd,aq h1,aq h2,aq (fE (cS (L:=s.loc) h))]
 show Mine.opt ((mK c u v).map AV.lst) s=_
 rw [hs]; rfl
theorem jq (I:Rq o rr R F st p md a sk fs) (hf:fs.length=20 ∨ (fs.length < 20/\md=F)):au PP K (n+1) "Machine" "enter" [.obj "Machine" o,.int first,.int count,.int room] st=.exc (if fs.length=20 then Bad.deep.xc else Bad.dry.xc) st:=by
 rw [fy]
 show RT (dF (wX K n)) (mc o (cI first count room []) st) _
 have t1:aB (aS az false [aw (aa 0) "calls"]) .Eq (af (.int 20)) (mc o (cI first count room []) st)=.ok (.bool (decide (((eU fs).length:Int)=20))) (mc o (cI first count room []) st):=(bT (kT (aP rfl I.ob (by kernel_rfl)) I.cl) rfl).trans rfl
 have t2:aB (aw (aa 0) "made") .Eq (aw (aa 0) "fuel") (mc o (cI first count room []) st)=.ok (.bool (decide (md=F))) (mc o (cI first count room []) st):=(bT (a:=.int md) (b:=.int F) (aP rfl I.ob (by kernel_rfl)) (aP rfl I.ob (by kernel_rfl))).trans rfl
 rcases hf with h | ⟨h,h'⟩
 ·rw [if_pos h]
  exact .ifT (by rw [zAd]; lia) t1 (.assoc .rais)
 ·rw [if_neg (by lia)]
  exact .ifN (by rw [zAd]; lia) t1 (.next (.ifT h' t2 (.assoc .rais)))
noncomputable def gh (o rr:Nat) (F:Int) (st:St) (p:Nat) (md:Int) (a first room:Nat) (as sk:List Int) (fs:List (Nat × Nat)):St :=
 ((((st.set o (.flds (cw o rr F a p (md+1)))++[AO.cont (.lst ((as.reverse++zBu (room - as.length) 0).map AV.int))])++[AO.cont (.lst (fZ sk))]).set o (.flds (cw o rr F (st.length+1) p (md+1)))).set (o+1) (.cont (.lst (eU (fs++[(st.length,p)]))))).set o (.flds (cw o rr F (st.length+1) first (md+1)))
theorem entSt_ok (I:Rq o rr R F st p md a (as++sk) fs):Rp o rr R F (gh o rr F st p md a first room as sk fs) first (md+1) (st.length+1) sk fs st.length p (as.reverse++zBu (room - as.length) 0):=by
 have l5:=cC I.ob
 have l6:=cC I.cl
 have l3:=cC I.rw
 have n0:=ej I.ob I.rw
 have n6:=I.n6
 unfold gh
 refine ⟨⟨?_,?_,?_,?_,by lia,by lia,I.n6⟩,?_,by lia,by lia,by lia⟩
 ·rw [zA8 (by simp; lia)]
 ·rw [zAf n0,zAf (Ne.symm n6),zAf n0,zAt (by simp; lia),zAt (by simp; lia),zAf n0]; exact I.rw
 ·rw [zAf (by lia),zAf (by lia),zAf (by lia),zBa (by simp)]
  simp
 ·rw [zAf (by lia),zA8 (by simp; lia)]
 ·rw [zAf (by lia),zAf (by lia),zAf (by lia),zAt (by simp),zBa (by simp)]
  simp
theorem n8:(gh o rr F st p md a first room as sk fs).length=st.length+2:=by unfold gh; simp
theorem entSt_fr {x:Nat} (h5:x ≠ o) (h6:x ≠ o+1) (h:x < st.length):(gh o rr F st p md a first room as sk fs)[x]?=st[x]?:=by
 unfold gh
 rw [zAf (by lia),zAf (by lia),zAf (by lia),zAt (by simp; lia),zAt (by simp; lia),zAf (by lia)]
theorem addL {x y:D AV} {l l':List AV} {s:S} (ha:x s=.ok (.lst l) s) (hb:y s=.ok (.lst l') s) (hl:(l++l').length<=1000000):aj .Add x y s=.ok (.lst (l++l')) s:=ay ha hb rfl rfl (og hl)
theorem enter_ok (I:Rq o rr R F st p md a (as++sk) fs) (hf:fs.length < 20) (hd:md ≠ F) (hc:count=as.length) (hr:count<=room) (hr':room<=5000) :
  au PP K (n+1) "Machine" "enter" [.obj "Machine" o,.int first,.int count,.int room] st=.ok .none (gh o rr F st p md a first room as sk fs):=by
 rw [fy]
 show RT (dF (wX K n)) (mc o (cI first count room []) st) _
 have a2:aw (aa 0) "made" (mc o (cI first count room []) st)=.ok (.int md) (mc o (cI first count room []) st):=aP rfl I.ob (by kernel_rfl)
 have t1:aB (aS az false [aw (aa 0) "calls"]) .Eq (af (.int 20)) (mc o (cI first count room []) st)=.ok (.bool (decide (((eU fs).length:Int)=20))) (mc o (cI first count room []) st):=(bT (kT (aP rfl I.ob (by kernel_rfl)) I.cl) rfl).trans rfl
 have t2:aB (aw (aa 0) "made") .Eq (aw (aa 0) "fuel") (mc o (cI first count room []) st)=.ok (.bool (decide (md=F))) (mc o (cI first count room []) st):=(bT (b:=.int F) a2 (aP rfl I.ob (by kernel_rfl))).trans rfl
 refine .ifN (by rw [zAd]; lia) t1 (.next (.ifN hd t2 (.next ?_)))
 have u1:aE (aj .Add (aw (aa 0) "made") (af (.int 1))) toCel (mc o (cI first count room []) st)=.ok (.int (md+1)) (mc o (cI first count room []) st):=(aq (ay (v:=.int (md+1)) a2 rfl rfl rfl rfl)).trans rfl
 refine .go (cU (f:="made") u1 rfl I.ob rfl (l':=cw o rr F a p (md+1)) (by kernel_rfl)) ?_
 have I1:=I.plc (p':=p) (md':=md+1)
 have hN:(st.set o (.flds (cw o rr F a p (md+1)))).length=st.length:=zB5
 have lo:=cC I.ob
 unfold gh
 show RT _ ⟨(0,.val (.obj "Machine" o))::cI first count room [],st.set o (.flds (cw o rr F a p (md+1)))⟩ _
 generalize st.set o (.flds (cw o rr F a p (md+1)))=st1 at I1 hN ⊢
 rw [← hN]
 clear a2 t1 t2 u1 I
 have b1:∀ {e:bp},aw (aa 0) "stack" (mc o (cI first count room e) st1)=.ok (.cel a) (mc o (cI first count room e) st1):=aP rfl I1.ob (by kernel_rfl)
 have u2:aj .Sub (aS az false [aw (aa 0) "stack"]) (aa 2) (mc o (cI first count room []) st1)=.ok (.int sk.length) (mc o (cI first count room []) st1):=by
  refine ay (kT b1 I1.sk) (b:=.pl 2) (b':=.int (count:Int)) rfl rfl rfl ?_
  show some (AV.int (((fZ (as++sk)).length:Nat) - (count:Int)))=_
  rw [jc,hc,show ((((as++sk).length:Nat):Int) - as.length)=sk.length by simp; lia]
 refine .go (s':=mc o (cI first count room [(4,.val (.int sk.length))]) st1) (bf u2) ?_
 have hiv:fZ as=as.reverse.map .int:=by unfold fZ; rw [zDf]
 have u3:cj (aw (aa 0) "stack") (ae 4) (af .none) (mc o (cI first count room [(4,.val (.int sk.length))]) st1)=.ok (.lst (fZ as)) (mc o (cI first count room [(4,.val (.int sk.length))]) st1) :=
  slc_at (v:=.none) b1 rfl rfl I1.sk (by rw [lL]; exact slice_from (by rw [jc]))
 have u4:aj .Mult (cF [af (.int 0)]) (aj .Sub (aa 3) (aa 2)) (mc o (cI first count room [(4,.val (.int sk.length))]) st1)=.ok (.lst ((zBu (room - as.length) (0:Int)).map .int)) (mc o (cI first count room [(4,.val (.int sk.length))]) st1):=by
  show Mine.opt (if b7 ((room:Int) - count) && zCd ((room:Int) - count).toNat 100000 then some (AV.lst (lw (.int 0) ((room:Int) - count).toNat)) else none) _=_
  rw [show ((room:Int) - count).toNat=room - as.length by lia,show b7 ((room:Int) - count)=true from decide_eq_true (by lia),show zCd (room - as.length) 100000=true from Nat.ble_eq_true_of_le (by lia),nE]; rfl
 have u5:aE (aj .Add (cj (aw (aa 0) "stack") (ae 4) (af .none)) (aj .Mult (cF [af (.int 0)]) (aj .Sub (aa 3) (aa 2)))) toCel (mc o (cI first count room [(4,.val (.int sk.length))]) st1)=.ok (.cel st1.length) (mc o (cI first count room [(4,.val (.int sk.length))]) (st1++[AO.cont (.lst ((as.reverse++zBu (room - as.length) 0).map AV.int))])):=by
  rw [aq (addL u3 u4 (by rw [zAc,jc]; simp; lia)),hiv,← zAr]; rfl
 refine .go (s':=mc o (cI first count room [(4,.val (.int sk.length)),(5,.val (.cel st1.length))]) (st1++[AO.cont (.lst ((as.reverse++zBu (room - as.length) 0).map AV.int))])) (aQ u5) ?_
 have I2:=I1.app (x:=.cont (.lst ((as.reverse++zBu (room - as.length) 0).map .int)))
 have hN2:(st1++[AO.cont (.lst ((as.reverse++zBu (room - as.length) (0:Int)).map AV.int))]).length=st1.length+1:=zAc
 generalize st1++[AO.cont (.lst ((as.reverse++zBu (room - as.length) 0).map AV.int))]=st2 at I2 hN2 ⊢
 have u6:cj (aw (aa 0) "stack") (af .none) (ae 4) (mc o (cI first count room [(4,.val (.int sk.length)),(5,.val (.cel st1.length))]) st2)=.ok (.lst (fZ sk)) (mc o (cI first count room [(4,.val (.int sk.length)),(5,.val (.cel st1.length))]) st2) :=
  slc_at (u:=.none) (aP rfl I2.ob (by kernel_rfl)) rfl rfl I2.sk (by rw [lL]; exact slice_to (by rw [jc]))
 have u7:aE (cj (aw (aa 0) "stack") (af .none) (ae 4)) toCel (mc o (cI first count room [(4,.val (.int sk.length)),(5,.val (.cel st1.length))]) st2)=.ok (.cel (st1.length+1)) (mc o (cI first count room [(4,.val (.int sk.length)),(5,.val (.cel st1.length))]) (st2++[AO.cont (.lst (fZ sk))])):=by
  rw [aq u6,← hN2]; rfl
 have I3:=I2.app (x:=.cont (.lst (fZ sk)))
 refine .go (cU (f:="stack") u7 rfl I3.ob rfl (l':=cw o rr F (st1.length+1) p (md+1)) (by kernel_rfl)) ?_
 have c3:((st2++[AO.cont (.lst (fZ sk))]).set o (.flds (cw o rr F (st1.length+1) p (md+1))))[o+1]?=some (.cont (.lst (eU fs))):=by rw [zAf (by lia)]; exact I3.cl
 have o3:((st2++[AO.cont (.lst (fZ sk))]).set o (.flds (cw o rr F (st1.length+1) p (md+1))))[o]?=some (.flds (cw o rr F (st1.length+1) p (md+1))):=k7 I3.ob
 show RT _ ⟨(0,.val (.obj "Machine" o))::cI first count room [(4,.val (.int sk.length)),(5,.val (.cel st1.length))],(st2++[AO.cont (.lst (fZ sk))]).set o (.flds (cw o rr F (st1.length+1) p (md+1)))⟩ _
 generalize (st2++[AO.cont (.lst (fZ sk))]).set o (.flds (cw o rr F (st1.length+1) p (md+1)))=st3 at c3 o3 ⊢
 have h0:aw (aa 0) "place" (mc o (cI first count room [(4,.val (.int sk.length)),(5,.val (.cel st1.length))]) st3)=.ok (.int p) (mc o (cI first count room [(4,.val (.int sk.length)),(5,.val (.cel st1.length))]) st3):=aP rfl o3 (by kernel_rfl)
 have u8:bY (aw (aa 0) "calls") (aI [ae 5,aw (aa 0) "place"]) (mc o (cI first count room [(4,.val (.int sk.length)),(5,.val (.cel st1.length))]) st3)=.ok .none (mc o (cI first count room [(4,.val (.int sk.length)),(5,.val (.cel st1.length))]) (st3.set (o+1) (.cont (.lst (eU (fs++[(st1.length,p)])))))):=by
  have e:eU (fs++[(st1.length,p)])=eU fs++[.tup [.cel st1.length,.int p]]:=by unfold eU; rw [zAr]; rfl
  rw [e]
  exact app_cel (aP rfl o3 (by kernel_rfl)) c3 ((aq (ag rfl (ag h0 rfl))).trans rfl) c3 (by rw [zAd]; lia)
 refine .go (cu u8) (.go (lR (rr:=rr) (F:=F) (a:=st1.length+1) (p:=p) (md:=md+1) (k:=first) rfl ?_) (.nil rfl))
 rw [zAf (by lia)]; exact o3
end
noncomputable abbrev wT:D AV:=aB (aS az false [aw (aa 5) "calls"]) .Gt (af (.int 0))
noncomputable abbrev wB (X:Ctx):D Fl:=ac (c8 (aW X (aa 5) "step" [])) (af .next)
noncomputable def runs (X:Ctx) (L:bp) (n:Nat) (st st':St):Prop:=∀ k,bD wT (wB X) (k+n) ⟨L,st⟩=bD wT (wB X) k ⟨L,st'⟩
noncomputable def fails (X:Ctx) (L:bp) (n:Nat) (st:St) (c:Str) (st':St):Prop:=∀ k,bD wT (wB X) (k+n) ⟨L,st⟩=.exc c ⟨L,st'⟩
section
variable {o rr:Nat} {X:Ctx} {L:bp} {K n m m':Nat} {st st' st'':St} {R:List AV} {F md:Int} {p a:Nat} {sk:List Int} {fs:List (Nat × Nat)} {b q:Nat} {sl:List Int} {c:Str}
theorem runs.refl:runs X L 0 st st:=fun k=>rfl
theorem runs.trans (h:runs X L m st st') (h':runs X L m' st' st''):runs X L (m'+m) st st'':=fun k=>by rw [← Nat.add_assoc,h,h']
theorem runs.fails (h:runs X L m st st') (h':fails X L m' st' c st''):fails X L (m'+m) st c st'':=fun k=>by rw [← Nat.add_assoc,h,h']
structure XOk (X:Ctx) (L:bp) (o K n:Nat):Prop where
 call:X.call=au PP K (n+4)
 meth:X.P=PP
 loc:al 5 L=some (.val (.obj "Machine" o))
theorem wT_at {l:List (Str × AV)} {x:List AV} (hL:al 5 L=some (.val (.obj "Machine" o))) (ho:st[o]?=some (.flds l)) (hf:fV "calls" l=some (.cel (o+1))) (hc:st[o+1]?=some (.cont (.lst x))):wT ⟨L,st⟩=.ok (.bool (decide ((0:Int) < x.length))) ⟨L,st⟩ :=
 (bT (kT (aP hL ho hf) hc) rfl).trans rfl
theorem turn {out:Out Fl} (H:XOk X L o K n) (I:Rp o rr R F st p md a sk fs b q sl) (hs:wB X ⟨L,st⟩=out):∀ k,bD wT (wB X) (k+1) ⟨L,st⟩=ax out (fun f=>match f with | .next=>bD wT (wB X) k | .ret v=>af (.ret v)):=fun k=>by
 show aE wT _ _=_
 rw [aq (wT_at H.loc I.rq.ob (by kernel_rfl) I.rq.cl),decide_eq_true (by simp)]
 show aE (wB X) _ _=_
 unfold aE; rw [hs] <;> rfl
theorem step_m (H:XOk X L o K n) (I:Rp o rr R F st p md a sk fs b q sl):aW X (aa 5) "step" [] ⟨L,st⟩=dZ (au PP K (n+4) "Machine" "step" [.obj "Machine" o] st) ⟨L,st⟩:=by
 rw [ef (s:=⟨L,st⟩) (by rw [H.meth]; exact m_step) H.loc I.rq.ob rfl,H.call]
theorem run_ok (H:XOk X L o K n) (I:Rp o rr R F st p md a sk fs b q sl) (h:au PP K (n+4) "Machine" "step" [.obj "Machine" o] st=.ok .none st'):runs X L 1 st st' :=
 turn H I (bP (cu (v:=.none) (by rw [step_m H I,h]; rfl)) trivial)
theorem run_exc (H:XOk X L o K n) (I:Rp o rr R F st p md a sk fs b q sl) (h:au PP K (n+4) "Machine" "step" [.obj "Machine" o] st=.exc c st'):fails X L 1 st c st' :=
 turn (out:=.exc c ⟨L,st'⟩) H I (bP (by show ax (aW X _ _ _ _) _=_; rw [step_m H I,h]; rfl) trivial)
end
noncomputable def RowsAt (R:List AV) (p:Nat) (l:List Rw):Prop:=∀ i r,l[i]?=some r->R[p+i]?=some r.enc
theorem RowsAt.cons {R:List AV} {p:Nat} {r:Rw} {l:List Rw} (h:RowsAt R p (r::l)):R[p]?=some r.enc/\RowsAt R (p+1) l :=
 ⟨h 0 r rfl,fun i r' hi=>by rw [Nat.add_assoc,Nat.add_comm 1 i]; exact h (i+1) r' hi⟩
theorem RowsAt.app {R:List AV} {p:Nat} {l l':List Rw} (h:RowsAt R p (l++l')):RowsAt R p l/\RowsAt R (p+l.length) l' :=
 ⟨fun i r hi=>h i r (by rw [zAt (zAz.mp hi).1]; exact hi),fun i r hi=>by rw [Nat.add_assoc]; exact h (l.length+i) r (by rw [zBa (zBc _ _),zB9]; exact hi)⟩
structure Keep (o:Nat) (st st':St) (a0 b:Nat):Prop where
 le:st.length<=st'.length
 eq:∀ z,z < st.length->z ≠ o->z ≠ o+1->z ≠ a0->z ≠ b->st'[z]?=st[z]?
theorem Keep.refl {o:Nat} {st:St} {a0 b:Nat}:Keep o st st a0 b:=⟨zAy _,fun _ _ _ _ _ _=>rfl⟩
theorem Keep.set {o:Nat} {st st':St} {a0 b i:Nat} {x:AO} (h:Keep o st st' a0 b) (hi:i=o ∨ i=a0 ∨ i=b):Keep o st (st'.set i x) a0 b :=
 ⟨by rw [zB5]; exact h.le,fun z hz h0 h1 ha hb=>by
  rw [zAf fun q=>by rcases hi with e | e | e <;> subst e <;> first | exact h0 q.symm | exact ha q.symm | exact hb q.symm]
  exact h.eq z hz h0 h1 ha hb⟩
theorem Keep.trans {o:Nat} {st st' st'':St} {a0 a1 b:Nat} (h:Keep o st st' a0 b) (ha:a1=a0 ∨ st.length<=a1) (h':Keep o st' st'' a1 b):Keep o st st'' a0 b :=
 ⟨zAj h.le h'.le,fun z hz h0 h1 hz0 hb=>(h'.eq z (zBl hz h.le) h0 h1 (fun q=>ha.elim (fun e=>hz0 (q.trans e)) fun e=>Nat.lt_irrefl _ (zBl (q ▸ hz) e)) hb).trans (h.eq z hz h0 h1 hz0 hb)⟩
section
variable {o rr:Nat} {X:Ctx} {L:bp} {R:List AV} {F md:Int} {K n:Nat} {st st1:St} {a0 a1 b q f f' p p' T T' T1:Nat} {sk sk1 sl sl1:List Int} {fs:List (Nat × Nat)} {rl:Rl}
inductive MoV (o rr:Nat) (X:Ctx) (L:bp) (R:List AV) (F:Int) (fs:List (Nat × Nat)) (b q:Nat) (st:St) (a0:Nat) (sk:List Int) (f:Nat) (sl:List Int) (p' T:Nat) (vs:List Int) (md':Int):Prop
 | mk (k:Nat) (st':St) (a':Nat) (sl':List Int) (h1:k<=T) (h2:runs X L k st st') (h3:Rp o rr R F st' p' md' a' (vs.reverse++sk) fs b q sl') (h4:sl'.take f=sl.take f) (h5:sl'.length=sl.length) (h6:Keep o st st' a0 b) (h7:a'=a0 ∨ st.length<=a')
inductive MoB (o rr:Nat) (X:Ctx) (L:bp) (F:Int) (b:Nat) (st:St) (a0 T:Nat) (c:Bad) (md':Int):Prop
 | mk (k:Nat) (st':St) (a' p2:Nat) (h1:k<=T) (h2:fails X L k st c.xc st') (h3:st'[o]?=some (.flds (cw o rr F a' p2 md'))) (h4:Keep o st st' a0 b)
noncomputable def MO (o rr:Nat) (X:Ctx) (L:bp) (R:List AV) (F:Int) (fs:List (Nat × Nat)) (b q:Nat) (st:St) (a0:Nat) (sk:List Int) (f:Nat) (sl:List Int) (p' T:Nat):Rl->Prop
 | .val vs md'=>MoV o rr X L R F fs b q st a0 sk f sl p' T vs md'
 | .bad c md'=>MoB o rr X L F b st a0 T c md'
theorem MO.mono (m:MO o rr X L R F fs b q st a0 sk f sl p' T rl) (h:T<=T'):MO o rr X L R F fs b q st a0 sk f sl p' T' rl:=by
 cases rl with
 | val vs md'=>obtain ⟨k,s,a,l,h1,h2,h3,h4,h5,h6,h7⟩:=m; exact ⟨k,s,a,l,zAj h1 h,h2,h3,h4,h5,h6,h7⟩
 | bad c md'=>obtain ⟨k,s,a,l,h1,h2,h3,h4⟩:=m; exact ⟨k,s,a,l,zAj h1 h,h2,h3,h4⟩
theorem MO.done {vs:List Int} (I:Rp o rr R F st p md a0 (vs.reverse++sk) fs b q sl):MO o rr X L R F fs b q st a0 sk f sl p 0 (.val vs md) :=
 ⟨0,st,a0,sl,zAy _,.refl,I,rfl,rfl,.refl,.inl rfl⟩
theorem MO.after {k1:Nat} (r:runs X L k1 st st1) (hk:Keep o st st1 a0 b) (ha:a1=a0 ∨ st.length<=a1) (ht:sl1.take f=sl.take f) (hn:sl1.length=sl.length) (m:MO o rr X L R F fs b q st1 a1 sk f sl1 p' T rl):MO o rr X L R F fs b q st a0 sk f sl p' (T+k1) rl:=by
 cases rl with
 | val vs md' =>
  obtain ⟨k,s,a,l,h1,h2,h3,h4,h5,h6,h7⟩:=m
  exact ⟨k+k1,s,a,l,zBo h1 _,r.trans h2,h3,h4.trans ht,h5.trans hn,hk.trans ha h6,h7.elim (fun e=>e ▸ ha) fun e=>.inr (zAj hk.le e)⟩
 | bad c md' =>
  obtain ⟨k,s,a,p2,h1,h2,h3,h4⟩:=m
  exact ⟨k+k1,s,a,p2,zBo h1 _,r.fails h2,h3,hk.trans ha h4⟩
theorem MO.bind {r1:Rl} {g:List Int->Int->Rl} {p1:Nat} (m:MO o rr X L R F fs b q st a0 sk1 f sl p1 T1 r1) (h:∀ vs md' st' a' sl',r1=.val vs md'->Rp o rr R F st' p1 md' a' (vs.reverse++sk1) fs b q sl'->sl'.take f=sl.take f->sl'.length=sl.length->MO o rr X L R F fs b q st' a' sk f sl' p' T (g vs md')):MO o rr X L R F fs b q st a0 sk f sl p' (T+T1) (r1.bind g):=by
 cases r1 with
 | bad c md'=>obtain ⟨k,s,a,p2,h1,h2,h3,h4⟩:=m; exact ⟨k,s,a,p2,zAj h1 (Nat.le_add_left _ _),h2,h3,h4⟩
 | val vs md' =>
  obtain ⟨k,s,a,l,h1,h2,h3,h4,h5,h6,h7⟩:=m
  exact (MO.after h2 h6 h7 h4 h5 (h vs md' s a l rfl h3 h4 h5)).mono (zB2 h1 _)
theorem gJ (H:XOk X L o K n) (I:Rp o rr R F st p md a0 sk fs b q sl) {r:Rw} (hr:R[p]?=some r.enc) {e:bp} {st':St} (h1:∀ X',X'.call=au PP K (n+3)->X'.P=PP->c1 X' (mr o r [] (st.set o (.flds (cw o rr F a0 (p+1) md))))=.ok .next (mr o r e st')):runs X L 1 st st' :=
 run_ok H I ((step_pre I hr h1 trivial).trans rfl)
theorem py (H:XOk X L o K n) (I:Rp o rr R F st p md a0 sk fs b q sl) {r:Rw} (hr:R[p]?=some r.enc) {e:bp} {st':St} {c:Str} (h1:∀ X',X'.call=au PP K (n+3)->X'.P=PP->c1 X' (mr o r [] (st.set o (.flds (cw o rr F a0 (p+1) md))))=.exc c (mr o r e st')):fails X L 1 st c st' :=
 run_exc H I ((step_pre I hr h1 trivial).trans rfl)
variable (H:XOk X L o K n)
include H
theorem mo_push {i:Int} (I:Rp o rr R F st p md a0 sk1 fs b q sl) (hr:R[p]?=some (Rw.push i).enc) (hl:sk1.length<=900000) (h:∀ st',Rp o rr R F st' (p+1) md a0 (i::sk1) fs b q sl->MO o rr X L R F fs b q st' a0 sk f sl p' T rl):MO o rr X L R F fs b q st a0 sk f sl p' (T+1) rl :=
 .after (gJ H I hr fun X' _ _=>k_push I.plc hl) ((Keep.refl.set (.inl rfl)).set (.inr (.inl rfl))) (.inl rfl) rfl rfl (h _ I.plc.stk)
theorem mo_load {k:Nat} {x:Int} (I:Rp o rr R F st p md a0 sk1 fs b q sl) (hr:R[p]?=some (Rw.load k).enc) (hx:sl[k]?=some x) (hl:sk1.length<=900000) (h:∀ st',Rp o rr R F st' (p+1) md a0 (x::sk1) fs b q sl->MO o rr X L R F fs b q st' a0 sk f sl p' T rl):MO o rr X L R F fs b q st a0 sk f sl p' (T+1) rl :=
 .after (gJ H I hr fun X' _ _=>k_load I.plc hx hl) ((Keep.refl.set (.inl rfl)).set (.inr (.inl rfl))) (.inl rfl) rfl rfl (h _ I.plc.stk)
theorem mo_keep {k:Nat} {x:Int} (I:Rp o rr R F st p md a0 (x::sk1) fs b q sl) (hr:R[p]?=some (Rw.keep k).enc) (hk:k < sl.length) (hf:f<=k) (h:∀ st',Rp o rr R F st' (p+1) md a0 sk1 fs b q (sl.set k x)->MO o rr X L R F fs b q st' a0 sk f (sl.set k x) p' T rl):MO o rr X L R F fs b q st a0 sk f sl p' (T+1) rl :=
 .after (gJ H I hr fun X' _ _=>k_keep I.plc hk) (((Keep.refl.set (.inl rfl)).set (.inr (.inl rfl))).set (.inr (.inr rfl))) (.inl rfl) (List.take_set_of_le hf) zB5 (h _ I.plc.stk.slt)
theorem mo_skip {k:Nat} (I:Rp o rr R F st p md a0 sk1 fs b q sl) (hr:R[p]?=some (Rw.skp k).enc) (h:∀ st',Rp o rr R F st' k md a0 sk1 fs b q sl->MO o rr X L R F fs b q st' a0 sk f sl p' T rl):MO o rr X L R F fs b q st a0 sk f sl p' (T+1) rl :=
 .after (gJ H I hr fun X' _ _=>k_skip I.plc) ((Keep.refl.set (.inl rfl)).set (.inl rfl)) (.inl rfl) rfl rfl (h _ I.plc.plc)
theorem mo_unl {k:Nat} {x:Int} (I:Rp o rr R F st p md a0 (x::sk1) fs b q sl) (hr:R[p]?=some (Rw.unl k).enc) (h:∀ st',Rp o rr R F st' (if x=0 then k else p+1) md a0 sk1 fs b q sl->MO o rr X L R F fs b q st' a0 sk f sl p' T rl):MO o rr X L R F fs b q st a0 sk f sl p' (T+1) rl:=by
 refine .after (gJ H I hr fun X' _ _=>k_unl I.plc) ?_ (.inl rfl) rfl rfl (h _ ?_)
 ·by_cases hx:x=0
  ·rw [if_pos hx]; exact ((Keep.refl.set (.inl rfl)).set (.inr (.inl rfl))).set (.inl rfl)
  ·rw [if_neg hx]; exact (Keep.refl.set (.inl rfl)).set (.inr (.inl rfl))
 ·by_cases hx:x=0
  ·rw [if_pos hx,if_pos hx]; exact I.plc.stk.plc
  ·rw [if_neg hx,if_neg hx]; exact I.plc.stk
theorem mo_deed {w:Dw} {x y:Int} (I:Rp o rr R F st p md a0 (y::x::sk) fs b q sl) (hr:R[p]?=some (Rw.deed w).enc) (hx:ik x) (hy:ik y) (hl:sk.length<=900000):MO o rr X L R F fs b q st a0 sk f sl (p+1) 1 (red w x y md):=by
 have hk:∀ X':Ctx,X'.call=au PP K (n+3)->∀ st,X'.call ⟨#[]⟩ "reckoned" [.str w.str,.int x,.int y] st=(red w x y md).ret st:=fun X' h st=>by rw [h]; exact jZ (n:=n+1) w hx hy
 cases hz:red w x y md with
 | val vs m =>
  rw [hz] at hk
  have e:vs=[hd vs]/\m=md:=by
   unfold red at hz
   split at hz
   ·cases hz
   ·split at hz
    ·cases hz
    ·cases hz; exact ⟨rfl,rfl⟩
  have:=MO.after (f:=f) (gJ H I hr fun X' h _=>k_deed (z:=hd vs) I.plc (hk X' h _) hl) ((((Keep.refl.set (.inl rfl)).set (.inr (.inl rfl))).set (.inr (.inl rfl))).set (.inr (.inl rfl))) (.inl rfl) rfl rfl (MO.done (X:=X) (L:=L) (sk:=sk) (f:=f) (vs:=[hd vs]) I.plc.stk.stk.stk)
  rw [e.1,e.2]
  exact this
 | bad c m =>
  rw [hz] at hk
  have e:m=md:=by
   unfold red at hz
   split at hz
   ·cases hz; rfl
   ·split at hz
    ·cases hz; rfl
    ·cases hz
  exact ⟨1,_,a0,p+1,zAy _,py H I hr fun X' h _=>k_deedX I.plc (hk X' h _),by rw [e]; exact I.plc.stk.stk.rq.ob,((Keep.refl.set (.inl rfl)).set (.inr (.inl rfl))).set (.inr (.inl rfl))⟩
end
noncomputable def SR (ns:List Str) (σ:Sg) (e:Env) (sl:List Int) (f:Nat):Prop:=∀ x ∈ ns,∃ k v,aK x σ=some k/\aK x e=some v/\sl[k]?=some v/\k < f
theorem take_get {l l':List Int} {f k:Nat} (h:l'.take f=l.take f) (hk:k < f):l'[k]?=l[k]?:=by
 rw [← List.getElem?_take_of_lt (l:=l') hk,← List.getElem?_take_of_lt (l:=l) hk,h]
theorem SR.same {ns:List Str} {σ:Sg} {e:Env} {sl sl':List Int} {f:Nat} (h:SR ns σ e sl f) (ht:sl'.take f=sl.take f):SR ns σ e sl' f:=fun x hx=>by
 obtain ⟨k,v,h1,h2,h3,h4⟩:=h x hx
 exact ⟨k,v,h1,h2,(take_get ht h4).trans h3,h4⟩
theorem SR.let_ {ns:List Str} {σ:Sg} {e:Env} {sl:List Int} {f:Nat} {x:Str} {v:Int} (h:SR ns σ e sl f) (hf:f < sl.length):SR (ns++[x]) ((x,f)::σ) ((x,v)::e) (sl.set f v) (f+1):=fun y hy=>by
 show ∃ k w,(if seq y x then some f else aK y σ)=some k/\(if seq y x then some v else aK y e)=some w/\_/\_
 cases hs:seq y x with
 | true=>exact ⟨f,v,rfl,rfl,zA8 hf,zCe _⟩
 | false =>
  have hy':y ∈ ns:=by
   rcases zA2.mp hy with hy | hy
   ·exact hy
   ·rw [zAi.mp hy,bS] at hs; cases hs
  obtain ⟨k,w,h1,h2,h3,h4⟩:=h y hy'
  exact ⟨k,w,h1,h2,by rw [zAf (zCh h4)]; exact h3,zBi h4⟩
theorem gU {vs:List Int} (h:vs.length=1):vs=[hd vs]:=by
 rcases vs with _ | ⟨v,_ | ⟨w,r⟩⟩
 ·cases h
 ·rfl
 ·cases h
theorem take_le {l l':List Int} {f f':Nat} (h:l'.take f'=l.take f') (hf:f<=f'):l'.take f=l.take f:=by
 have:=congrArg (List.take f) h
 rw [List.take_take,List.take_take,Nat.min_eq_left hf] at this; exact this
section
variable {o rr:Nat} {X:Ctx} {L:bp} {R:List AV} {F:Int} {K n:Nat} {b q g C:Nat} {fs:List (Nat × Nat)} {sig:Str->Option Nat} {sf:Str->Nat × Nat × Nat} {call:Str->List Int->Int->Rl}
theorem tree_ok (H:XOk X L o K n) (hC:1<=C)
  (HC:∀ fn vs st md a0 sk sl p f0,sig fn=some vs.length->(∀ v ∈ vs,ik v)->R[p]?=some (Rw.call (sf fn)).enc->sk.length+2000 * g<=50000->vs.length<=100->Rp o rr R F st p md a0 (vs.reverse++sk) fs b q sl->MO o rr X L R F fs b q st a0 sk f0 sl (p+1) C (call fn vs md))
  (hg:∀ f vs m,sig f=some vs.length->(∀ v ∈ vs,ik v)->(call f vs m).good none) :
  ∀ (t:Tr) {h:Nat} {ns:List Str} {k:Option Nat} {σ:Sg} {e:Env} {f p:Nat} {st:St} {md:Int} {a0:Nat} {sk sl:List Int},t.wf sig h ns k->RowsAt R p (comp sf t σ f p)->SR ns σ e sl f->f+ltN t<=sl.length->(∀ x ∈ e,ik x.2)->sk.length+k.getD 0+101 * h+2000 * g<=50000->Rp o rr R F st p md a0 sk fs b q sl->MO o rr X L R F fs b q st a0 sk f sl (p+len t) (len t * C) (dS call t e md):=by
 intro t
 induction t with
 | num i =>
  intro h ns k σ e f p st md a0 sk sl w r S hf he hl I
  obtain ⟨rfl,h0,_⟩:=w
  exact (mo_push H I r.cons.1 (by lia) fun st' I'=>.done (vs:=[i]) I').mono (by show 0+1<=1 * C; lia)
 | name x =>
  intro h ns k σ e f p st md a0 sk sl w r S hf he hl I
  obtain ⟨rfl,h0,hx⟩:=w
  obtain ⟨j,v,h1,h2,h3,h4⟩:=S x hx
  have r0:R[p]?=some (Rw.load ((aK x σ).getD 0)).enc:=r.cons.1
  rw [h1] at r0
  show MO _ _ _ _ _ _ _ _ _ _ _ _ _ _ _ _ (.val [(aK x e).getD 0] md)
  rw [h2]
  exact (mo_load H I r0 h3 (by lia) fun st' I'=>.done (vs:=[v]) I').mono (by show 0+1<=1 * C; lia)
 | deed w a b' iha ihb =>
  intro h ns k σ e f p st md a0 sk sl ww r S hf he hl I
  obtain ⟨rfl,h',rfl,h1,h2⟩:=ww
  have hf:f+max (ltN a) (ltN b')<=sl.length:=hf
  have hl:sk.length+0+101 * (h'+1)+2000 * g<=50000:=hl
  obtain ⟨ra,rb⟩:=RowsAt.app r
  rw [bB] at rb
  obtain ⟨rb,rc⟩:=RowsAt.app rb
  rw [bB] at rc
  have gA:=cy hg a (m:=md) h1 he
  refine ((iha h1 ra S (by lia) he (by show _+0+_+_<=_; lia) I).bind (T:=len b' * C+1) fun vs md' st' a' sl' hv I' ht hn=>?_).mono (by show _<=(len a+len b'+1) * C; rw [zCw,zCw]; lia)
  rw [hv] at gA
  rw [gU gA.2] at I' ⊢
  have gB:=cy hg b' (m:=md') h2 he
  refine ((ihb (sk:=hd vs::sk) h2 rb (S.same ht) (by lia) he (by show sk.length+1+0+_+_<=_; lia) I').bind (T:=1) fun ws md2 st2 a2 sl2 hw I2 ht2 hn2=>?_).mono (by lia)
  rw [hw] at gB
  rw [gU gB.2] at I2 ⊢
  have:=mo_deed (f:=f) (sk:=sk) H I2 rc.cons.1 (eM gA.1) (eM gB.1) (by lia)
  rw [show p+len a+len b'+1=p+len (.deed w a b') from by show _=p+(len a+len b'+1); lia] at this
  exact this
 | choose a b' c iha ihb ihc =>
  intro h ns k σ e f p st md a0 sk sl ww r S hf he hl I
  obtain ⟨rfl,h',rfl,h1,h2,h3⟩:=ww
  have hf:f+max (ltN a) (max (ltN b') (ltN c))<=sl.length:=hf
  have hl:sk.length+0+101 * (h'+1)+2000 * g<=50000:=hl
  obtain ⟨ra,r1⟩:=RowsAt.app r
  rw [bB] at r1
  obtain ⟨ru,r2⟩:=r1.cons
  obtain ⟨rb,r3⟩:=RowsAt.app r2
  rw [bB] at r3
  obtain ⟨rs,rc⟩:=r3.cons
  have gA:=cy hg a (m:=md) h1 he
  refine ((iha h1 ra S (by lia) he (by show _+0+_+_<=_; lia) I).bind (T:=len b' * C+len c * C+2) fun vs md' st' a' sl' hv I' ht hn=>?_).mono (by show _<=(len a+len b'+len c+2) * C; rw [zCw,zCw,zCw]; lia)
  rw [hv] at gA
  rw [gU gA.2] at I' ⊢
  refine mo_unl (T:=len b' * C+len c * C+1) H I' ru fun st2 I2=>?_
  show MO _ _ _ _ _ _ _ _ _ _ _ _ _ _ _ _ (if hd vs=0 then dS call c e md' else dS call b' e md')
  have ep:p+len (.choose a b' c)=p+len a+1+len b'+1+len c:=by show p+(len a+len b'+len c+2)=_; lia
  by_cases hx:hd vs=0
  ·rw [if_pos hx]
   have I2:Rp o rr R F st2 (p+len a+1+len b'+1) md' a' sk fs b q sl':=by
    have I3:=I2
    rw [show (if hd vs=0 then p+len a+1+len b'+1 else p+len a+1)=p+len a+1+len b'+1 from if_pos hx] at I3; exact I3
   rw [ep]
   exact (ihc h3 rc (S.same ht) (by lia) he (by show _+0+_+_<=_; lia) I2).mono (by lia)
  ·rw [if_neg hx]
   have I2:Rp o rr R F st2 (p+len a+1) md' a' sk fs b q sl':=by
    have I3:=I2
    rw [show (if hd vs=0 then p+len a+1+len b'+1 else p+len a+1)=p+len a+1 from if_neg hx] at I3; exact I3
   have B:=ihb h2 rb (S.same ht) (by lia) he (by show _+0+_+_<=_; lia) I2
   have:=B.bind (T:=1) (g:=fun vs m=>.val vs m) (p':=p+len (.choose a b' c)) (sk:=sk) fun ws md2 st3 a3 sl3 _ I3 _ _=>mo_skip H I3 rs fun st4 I4=>by rw [ep]; exact .done I4
   have e1:(dS call b' e md').bind (fun vs m=>Rl.val vs m)=dS call b' e md':=by cases dS call b' e md' <;> rfl
   rw [e1] at this
   exact this.mono (by lia)
 | lt x a b' iha ihb =>
  intro h ns k σ e f p st md a0 sk sl ww r S hf he hl I
  obtain ⟨rfl,h',rfl,h1,h2⟩:=ww
  have hf:f+max (ltN a) (1+ltN b')<=sl.length:=hf
  have hl:sk.length+0+101 * (h'+1)+2000 * g<=50000:=hl
  obtain ⟨ra,r1⟩:=RowsAt.app r
  rw [bB] at r1
  obtain ⟨rk,rb⟩:=r1.cons
  have gA:=cy hg a (m:=md) h1 he
  refine ((iha h1 ra S (by lia) he (by show _+0+_+_<=_; lia) I).bind (T:=len b' * C+1) fun vs md' st' a' sl' hv I' ht hn=>?_).mono (by show _<=(len a+len b'+1) * C; rw [zCw,zCw]; lia)
  rw [hv] at gA
  rw [gU gA.2] at I' ⊢
  refine mo_keep H I' rk (by lia) (zAy f) fun st2 I2=>?_
  have B:=ihb (f:=f+1) (sk:=sk) h2 rb ((S.same ht).let_ (x:=x) (v:=hd vs) (by lia)) (by rw [zB5]; lia) (fun y hy=>by
   rcases zAl.mp hy with rfl | hy
   ·exact eM gA.1
   ·exact he y hy) (by show _+0+_+_<=_; lia) I2
  rw [show p+len a+1+len b'=p+len (.lt x a b') from by show _=p+(len a+len b'+1); lia] at B
  show MO _ _ _ _ _ _ _ _ _ _ _ _ _ _ _ _ (dS call b' ((x,hd vs)::e) md')
  cases hb:dS call b' ((x,hd vs)::e) md' with
  | val ws m=>rw [hb] at B; obtain ⟨k1,s,a2,l,z1,z2,z3,z4,z5,z6,z7⟩:=B; exact ⟨k1,s,a2,l,z1,z2,z3,take_le z4 (zDd f),z5,z6,z7⟩
  | bad c m=>rw [hb] at B; exact B
 | call fn l ih =>
  intro h ns k σ e f p st md a0 sk sl ww r S hf he hl I
  obtain ⟨rfl,h',rfl,c,hc,hc1,h2⟩:=ww
  have hl:sk.length+0+101 * (h'+1)+2000 * g<=50000:=hl
  obtain ⟨ra,r1⟩:=RowsAt.app r
  rw [bB] at r1
  have gA:=cy hg l (m:=md) h2 he
  refine ((ih h2 ra S hf he (by show _+c+_+_<=_; lia) I).bind (T:=C) fun vs md' st' a' sl' hv I' ht hn=>?_).mono (by show _<=(len l+1) * C; rw [zCw]; lia)
  rw [hv] at gA
  have hlen:vs.length=c:=gA.2
  exact HC fn vs st' md' a' sk sl' (p+len l) f (by rw [hc,hlen]) gA.1 r1.cons.1 (by lia) (by lia) I'
 | nil =>
  intro h ns k σ e f p st md a0 sk sl w r S hf he hl I
  cases w
  exact MO.mono (.done (vs:=[]) I) (zA7 _)
 | cons t r iht ihr =>
  intro h ns k σ e f p st md a0 sk sl w rw' S hf he hl I
  obtain ⟨c,rfl,h1,h2⟩:=w
  have hf:f+max (ltN t) (ltN r)<=sl.length:=hf
  have hl:sk.length+(c+1)+101 * h+2000 * g<=50000:=hl
  obtain ⟨ra,rb⟩:=RowsAt.app rw'
  rw [bB] at rb
  have gA:=cy hg t (m:=md) h1 he
  refine ((iht h1 ra S (by lia) he (by show _+0+_+_<=_; lia) I).bind (T:=len r * C) fun vs md' st' a' sl' hv I' ht hn=>?_).mono (by show _<=(len t+len r) * C; rw [zCw]; lia)
  rw [hv] at gA
  rw [gU gA.2] at I' ⊢
  have B:=ihr (sk:=hd vs::sk) h2 rb (S.same ht) (by lia) he (by show sk.length+1+c+_+_<=_; lia) I'
  rw [show p+len t+len r=p+len (.cons t r) from by show _=p+(len t+len r); lia] at B
  show MO _ _ _ _ _ _ _ _ _ _ _ _ _ _ _ _ ((dS call r e md').bind fun vs' m=>.val (hd [hd vs]::vs') m)
  cases hb:dS call r e md' with
  | val ws m =>
   rw [hb] at B
   obtain ⟨k1,s,a2,l,z1,z2,z3,z4,z5,z6,z7⟩:=B
   refine ⟨k1,s,a2,l,z1,z2,?_,z4,z5,z6,z7⟩
   rw [show (hd [hd vs]::ws).reverse++sk=ws.reverse++(hd vs::sk) from by rw [zCz,zAm]; rfl]
   exact z3
  | bad c m=>rw [hb] at B; exact B
end
section
variable {o rr:Nat} {X:Ctx} {L:bp} {rows:List AV} {F md:Int} {n p a:Nat} {sk sl sl':List Int} {K:Nat} {st:St} {fs:List (Nat × Nat)} {b q b' q':Nat} {s:Nat × Nat × Nat} {out:Out Fl}
theorem k_call {Rt:Ret} (I:Rp o rr rows F st p md a sk fs b q sl) (hX:X.call=au PP K (n+1)) (hM:X.P=PP)
  (hc:au PP K (n+1) "Machine" "enter" [.obj "Machine" o,.int (s.1:Int),.int (s.2.1:Int),.int (s.2.2:Int)] st=Rt) (ho:ax (dZ Rt (mr o (.call s) [] st)) (fun _=>af Fl.next)=out) (hn:nr out):c1 X (mr o (.call s) [] st)=out:=by
 refine dw (cn (by kernel_rfl)) (dw (cn (by kernel_rfl)) (dw (cn (by kernel_rfl)) (dw (cn (by kernel_rfl)) (dw (cn (by kernel_rfl)) (dw (cn (by kernel_rfl)) (pE (ll (by kernel_rfl)) (bP ?_ hn) hn) hn) hn) hn) hn) hn) hn
 show ax (aW X _ _ _ _) _=_
 have hs:bI [mi,am (aa 1) (af (.int 2)),am (aa 1) (af (.int 3))] (mr o (.call s) [] st)=.ok [.int (s.1:Int),.int (s.2.1:Int),.int (s.2.2:Int)] (mr o (.call s) [] st):=by kernel_rfl
 rw [ef (s:=mr o (.call s) [] st) (c:="Machine") (o:=o) (by rw [hM]; exact m_enter) rfl I.rq.ob hs,hX,hc]
 exact ho
theorem k_back (I:Rp o rr rows F st p md a sk fs b q sl) (hX:X.call=au PP K (n+1)) (hM:X.P=PP):c1 X (mr o .back [] st)=.ok .next (mr o .back [] ((st.set (o+1) (.cont (.lst (eU fs)))).set o (.flds (cw o rr F a q md)))):=by
 refine dw (cn (by kernel_rfl)) (dw (cn (by kernel_rfl)) (dw (cn (by kernel_rfl)) (dw (cn (by kernel_rfl)) (dw (cn (by kernel_rfl)) (dw (cn (by kernel_rfl)) (dw (cn (by kernel_rfl)) (bP (cu (v:=.none) ?_) trivial) trivial) trivial) trivial) trivial) trivial) trivial) trivial
 rw [ef (s:=mr o .back [] st) (c:="Machine") (o:=o) (by rw [hM]; exact m_leave) rfl I.rq.ob rfl,hX,leave_ok I]; rfl
theorem run_back (H:XOk X L o K n) (I:Rp o rr rows F st p md a sk fs b q sl) (hr:rows[p]?=some Rw.back.enc):runs X L 1 st (((st.set o (.flds (cw o rr F a (p+1) md))).set (o+1) (.cont (.lst (eU fs)))).set o (.flds (cw o rr F a q md))) :=
 gJ H I hr fun X' h1 h2=>k_back (n:=n+2) I.plc h1 h2
theorem back_to (H:XOk X L o K n) (I:Rp o rr rows F st p md a sk (fs++[(b,q)]) b' q' sl') (hr:rows[p]?=some Rw.back.enc) (hb:st[b]?=some (.cont (.lst (sl.map .int)))) (h7:b ≠ o+1) (hab:a ≠ b) (h3:rr ≠ b) :
  ∃ st',runs X L 1 st st'/\Rp o rr rows F st' q' md a sk fs b q sl/\st'.length=st.length/\∀ z,z ≠ o->z ≠ o+1->st'[z]?=st[z]?:=by
 have hb6:b ≠ o:=fun e=>by rw [e,I.rq.ob] at hb; cases hb
 have ha6:a ≠ o:=fun e=>by have:=I.rq.sk; rw [e,I.rq.ob] at this; cases this
 have hr6:=(ej I.rq.ob I.rq.rw)
 have l6:=cC I.rq.ob
 have l7:=cC I.rq.cl
 refine ⟨_,run_back H I hr,⟨⟨?_,?_,?_,?_,I.rq.n1,I.rq.n4,I.rq.n6⟩,?_,h7,hab,h3⟩,by simp,fun z h6 h7=>?_⟩
 ·rw [zA8 (by simp; lia)]
 ·rw [zAf hr6,zAf (Ne.symm I.rq.n6),zAf hr6]; exact I.rq.rw
 ·rw [zAf (Ne.symm ha6),zAf (Ne.symm I.rq.n1),zAf (Ne.symm ha6)]; exact I.rq.sk
 ·rw [zAf (by lia),zA8 (by simp; lia)]
 ·rw [zAf (Ne.symm hb6),zAf (Ne.symm h7),zAf (Ne.symm hb6)]; exact hb
 ·rw [zAf (Ne.symm h6),zAf (Ne.symm h7),zAf (Ne.symm h6)]
end
theorem iN {α:Type} {x:Str} {v:α}:∀ {l:List (Str × α)},(l.map (·.1)).Nodup->(x,v) ∈ l->aK x l=some v
 | (y,w)::r,hn,h=>by
  show (if seq x y then some w else aK x r)=some v
  have hn':=zBp.mp hn
  rcases zAl.mp h with e | h
  ·cases e; rw [bS]; rfl
  ·rw [sq_ne (x:=x) (y:=y) fun q=>hn'.1 (by rw [← q]; exact zBe.mpr ⟨(x,v),h,rfl⟩)]
   exact iN hn'.2 h
theorem pix_fst:∀ (k:Nat) (ps:List Str),(pix k ps).map (·.1)=ps
 | _,[]=>rfl
 | k,p::r=>congrArg (p::·) (pix_fst (k+1) r)
theorem pix_at:∀ {k i:Nat} {ps:List Str} {x:Str},ps[i]?=some x->(x,k+i) ∈ pix k ps
 | k,0,p::r,x,h=>by cases h; exact zAb
 | k,i+1,p::r,x,h=>by
  have:=pix_at (k:=k+1) (i:=i) (ps:=r) h
  rw [show k+(i+1)=k+1+i by lia]; exact zAe _ this
theorem SR_args {ps:List Str} {vs:List Int} {zs:List Int} (hn:ps.Nodup) (hl:ps.length=vs.length):SR ps (pix 0 ps).reverse (ps.zip vs).reverse (vs++zs) ps.length:=fun x hx=>by
 obtain ⟨i,hi,e⟩:=List.mem_iff_getElem.mp hx
 have hv:i < vs.length:=hl ▸ hi
 refine ⟨i,vs[i],iN ?_ ?_,iN ?_ ?_,by rw [zAt hv,zAw hv],hi⟩
 ·rw [zDf,pix_fst]; exact List.pairwise_reverse.mpr (hn.imp fun h=>h.symm)
 ·have:=pix_at (k:=0) (i:=i) (ps:=ps) (x:=x) (by rw [zAw hi,e])
  rw [Nat.zero_add] at this; exact zB6.mpr this
 ·rw [zDf]
  have e2:(ps.zip vs).map (·.1)=ps:=List.map_fst_zip (zCo hl)
  rw [e2]; exact List.pairwise_reverse.mpr (hn.imp fun h=>h.symm)
 ·refine zB6.mpr (List.mem_iff_getElem.mpr ⟨i,by rw [zDm]; lia,?_⟩)
  rw [List.getElem_zip,e]
theorem mZ {sf:Str->Nat × Nat × Nat} {f:Str} {u:Fu}:∀ {fs:List Fu} (p:Nat),bx f fs=some u->∃ l r,code sf fs p=l++((comp sf u.bd (sg0 u) u.ps.length (p+fstOf f fs)++[.back])++r)/\l.length=fstOf f fs
 | v::r,p,h=>by
  have h:(if seq f v.nm then some v else bx f r)=some u:=h
  show ∃ l r',_=l++((comp sf u.bd (sg0 u) u.ps.length (p+(if seq f v.nm then 0 else len v.bd+1+fstOf f r))++[.back])++r')/\l.length=(if seq f v.nm then 0 else len v.bd+1+fstOf f r)
  cases e:seq f v.nm with
  | true =>
   rw [e] at h
   have h:=Option.some.inj h
   subst h
   exact ⟨[],code sf r (p+len v.bd+1),by show _=[]++((comp sf v.bd (sg0 v) v.ps.length (p+0)++[.back])++_); rw [Nat.add_zero,zAm]; rfl,rfl⟩
  | false =>
   rw [e] at h
   obtain ⟨l,r',h1,h2⟩:=mZ (p+len v.bd+1) h
   refine ⟨comp sf v.bd (sg0 v) v.ps.length p++.back::l,r',?_,?_⟩
   ·show comp sf v.bd (sg0 v) v.ps.length p++.back::code sf r (p+len v.bd+1)=_
    rw [h1,show p+len v.bd+1+fstOf f r=p+(len v.bd+1+fstOf f r) by lia]
    simp only [zAm,List.cons_append,Bool.false_eq_true,if_false]
   ·rw [zAc,bB,zCq,h2]; show _=len v.bd+1+fstOf f r; lia
theorem code_at {sf:Str->Nat × Nat × Nat} {f:Str} {u:Fu} {fs:List Fu} (h:bx f fs=some u):RowsAt (bK (code sf fs 0)) (fstOf f fs) (comp sf u.bd (sg0 u) u.ps.length (fstOf f fs)++[.back]):=fun i r hi=>by
 obtain ⟨l,r',h1,h2⟩:=mZ (sf:=sf) 0 h
 rw [Nat.zero_add] at h1
 unfold bK
 rw [h1,← h2,zB0,zBa (zBc _ _),zB9,h2,zAt (zAz.mp hi).1,hi]; rfl
noncomputable def cb:Nat->Nat
 | 0=>1
 | g+1=>901 * cb g+3
theorem cb_pos:∀ g,1<=cb g
 | 0=>zAy _
 | g+1=>by show 1<=901 * cb g+3; lia
section
variable {o rr:Nat} {X:Ctx} {L:bp} {F:Int} {K n:Nat} {fs0:List Fu}
theorem call_ok (P:PW fs0) (hlen:∀ u ∈ fs0,len u.bd<=900/\rmOf u<=5000) (H:XOk X L o K n):∀ (g:Nat) (fs:List (Nat × Nat)) (b q:Nat) (fn:Str) (vs:List Int) (st:St) (md:Int) (a0:Nat) (sk sl:List Int) (p f0:Nat),fs.length+1+g=20->bW fs0 fn=some vs.length->(∀ v ∈ vs,ik v)->(bK (code (cK fs0) fs0 0))[p]?=some (Rw.call (cK fs0 fn)).enc->sk.length+2000 * g<=50000->vs.length<=100->Rp o rr (bK (code (cK fs0) fs0 0)) F st p md a0 (vs.reverse++sk) fs b q sl->MO o rr X L (bK (code (cK fs0) fs0 0)) F fs b q st a0 sk f0 sl (p+1) (cb g) (b9 fs0 F g fn vs md):=by
 intro g
 induction g with
 | zero =>
  intro fs b q fn vs st md a0 sk sl p f0 hfs hs hv hr hl hl2 I
  refine ⟨1,_,a0,p+1,zAy _,py H I hr fun X' h1 h2=>k_call (n:=n+2) I.plc h1 h2 (jq (n:=n+2) (R:=bK (code (cK fs0) fs0 0)) I.plc.rq (.inl (by rw [zAc]; exact hfs))) (by rw [if_pos (by rw [zAc]; exact hfs)]; rfl) trivial,I.plc.rq.ob,Keep.refl.set (.inl rfl)⟩
 | succ g ih =>
  intro fs b q fn vs st md a0 sk sl p f0 hfs hs hv hr hl hl2 I
  obtain ⟨u,hu,hul⟩:=zAo.mp hs
  have hmem:=(cD hu).1
  have hps:=P.ps u hmem
  have hln:=hlen u hmem
  have hf20:(fs++[(b,q)]).length=fs.length+1:=zAc
  show MO _ _ _ _ _ _ _ _ _ _ _ _ _ _ _ _ (if md=F then Rl.bad .dry md else match bx fn fs0 with | some u=>dS (b9 fs0 F g) u.bd (u.ps.zip vs).reverse (md+1) | none=>.bad .deep md)
  by_cases hm:md=F
  ·rw [if_pos hm]
   exact ⟨1,_,a0,p+1,cb_pos _,py H I hr fun X' h1 h2=>k_call (n:=n+2) I.plc h1 h2 (jq (n:=n+2) (R:=bK (code (cK fs0) fs0 0)) I.plc.rq (.inr ⟨by lia,hm⟩)) (by rw [if_neg (by lia)]; rfl) trivial,I.plc.rq.ob,Keep.refl.set (.inl rfl)⟩
  rw [if_neg hm,hu]
  have hsf:cK fs0 fn=(fstOf fn fs0,vs.length,rmOf u):=by unfold cK; rw [hu,← hul]; rfl
  have hrm:vs.length<=rmOf u:=by rw [← hul]; exact zBc _ _
  have hr':=hr
  rw [hsf] at hr'
  have hN:(st.set o (.flds (cw o rr F a0 (p+1) md))).length=st.length:=zB5
  have I0:=I.plc (p':=p+1) (md':=md)
  have r1:=gJ H I hr' (e:=[]) fun X' h1 h2=>k_call (n:=n+2) I0 h1 h2 (enter_ok (n:=n+2) (first:=fstOf fn fs0) (count:=vs.length) (room:=rmOf u) (as:=vs.reverse) (sk:=sk) I0.rq (by lia) hm (by rw [zCb]) hrm hln.2) rfl trivial
  have I1:=entSt_ok (first:=fstOf fn fs0) (room:=rmOf u) (as:=vs.reverse) (sk:=sk) I0.rq
  have l1:=n8 (o:=o) (rr:=rr) (F:=F) (st:=st.set o (.flds (cw o rr F a0 (p+1) md))) (p:=p+1) (md:=md) (a:=a0) (first:=fstOf fn fs0) (room:=rmOf u) (as:=vs.reverse) (sk:=sk) (fs:=fs++[(b,q)])
  have fr1:∀ z,z < st.length->z ≠ o->z ≠ o+1->(gh o rr F (st.set o (.flds (cw o rr F a0 (p+1) md))) (p+1) md a0 (fstOf fn fs0) (rmOf u) vs.reverse sk (fs++[(b,q)]))[z]?=st[z]?:=fun z hz h0 h1=>by
   rw [entSt_fr h0 h1 (by rw [hN]; exact hz),zAf (Ne.symm h0)]
  rw [hN] at I1 l1
  rw [List.reverse_reverse,zCb] at I1
  generalize gh o rr F (st.set o (.flds (cw o rr F a0 (p+1) md))) (p+1) md a0 (fstOf fn fs0) (rmOf u) vs.reverse sk (fs++[(b,q)])=st1 at r1 I1 l1 fr1
  have rw1:=(code_at (sf:=cK fs0) hu).app
  rw [bB] at rw1
  have B:=tree_ok (g:=g) (C:=cb g) (sig:=bW fs0) (sf:=cK fs0) (call:=b9 fs0 F g) H (cb_pos g) (fun fn' vs' st' md' a' sk' sl' p' f' h1 h2 h3 h4 h5 h6=>ih (fs++[(b,q)]) st.length (p+1) fn' vs' st' md' a' sk' sl' p' f' (by rw [hf20]; lia) h1 h2 h3 h4 h5 h6) (ga P g) u.bd (h:=12) (ns:=u.ps) (k:=none) (P.bd u hmem) rw1.1 (SR_args hps.1 hul) (by rw [zAc,List.length_replicate]; show u.ps.length+ltN u.bd<=_; unfold rmOf at hrm ⊢; lia) (fun x hx=>hv _ (zC6 (zB6.mp hx)).2) (by show sk.length+0+101 * 12+2000 * g<=50000; lia) I1
  have hcm:len u.bd * cb g<=900 * cb g:=Nat.mul_le_mul_right _ hln.1
  show MO _ _ _ _ _ _ _ _ _ _ _ _ _ _ _ (901 * cb g+3) (dS (b9 fs0 F g) u.bd (u.ps.zip vs).reverse (md+1))
  cases hsem:dS (b9 fs0 F g) u.bd (u.ps.zip vs).reverse (md+1) with
  | bad c m =>
   rw [hsem] at B
   obtain ⟨k,s,a,p2,z1,z2,z3,z6⟩:=B
   have z6l:=z6.le
   exact ⟨k+1,s,a,p2,by lia,r1.fails z2,z3,⟨by lia,fun z hz h0 h1 ha hb=>by rw [z6.eq z (by lia) h0 h1 (by lia) (by lia),fr1 z hz h0 h1]⟩⟩
  | val ws m =>
   rw [hsem] at B
   obtain ⟨k,s2,a2,sl2,z1,z2,z3,z4,z5,z6,z7⟩:=B
   have lb:=cC I.sl
   have z6l:=z6.le
   have b6:b ≠ o:=fun e=>by have:=I.sl; rw [e,I.rq.ob] at this; cases this
   have hb2:s2[b]?=some (.cont (.lst (sl.map .int))):=by
    rw [z6.eq b (by lia) b6 I.n2 (by lia) (by lia),fr1 b lb b6 I.n2]; exact I.sl
   obtain ⟨s3,y1,y2,y3,y4⟩:=back_to H z3 rw1.2.cons.1 hb2 I.n2 (by rcases z7 with e | e <;> lia) I.n5
   exact ⟨1+(k+1),s3,a2,sl,by lia,(r1.trans z2).trans y1,y2,rfl,rfl,⟨by lia,fun z hz h0 h1 ha hb=>by rw [y4 z h0 h1,z6.eq z (by lia) h0 h1 (by lia) (by lia),fr1 z hz h0 h1]⟩,.inr (by rcases z7 with e | e <;> lia)⟩
end
section
variable {K n:Nat} {F:Int} {fs:List Fu} {ci rr:Nat} {st0:St} {f:Str} {vs:List Int} {u:Fu}
theorem while_end {X:Ctx} {L:bp} {o:Nat} {st:St} {l:List (Str × AV)} (hL:al 5 L=some (.val (.obj "Machine" o))) (ho:st[o]?=some (.flds l)) (hf:fV "calls" l=some (.cel (o+1))) (hc:st[o+1]?=some (.cont (.lst []))) (k:Nat):bD wT (wB X) (k+1) ⟨L,st⟩=.ok .next ⟨L,st⟩:=by
 show aE wT _ _=_
 rw [aq (wT_at hL ho hf hc)]; rfl
noncomputable abbrev mst (st0:St) (rr:Nat) (F:Int) (vs:List Int):St:=st0++[.cont (.lst (vs.map .int)),.flds (cw (st0.length+1) rr F st0.length 0 0),.cont (.lst [])]
theorem minit_ok:au PP K (n+1) "Machine" "__init__" [.obj "Machine" (st0.length+1),.cel rr,.int F,.cel st0.length] (st0++[.cont (.lst (vs.map .int)),.flds []])=.ok .none (mst st0 rr F vs):=by
 rw [hY]
 generalize hL:([(0,.val (.obj "Machine" (st0.length+1))),(1,.val (.cel rr)),(2,.val (.int F)),(3,.val (.cel st0.length))]:bp)=L
 have g0:al 0 L=some (.val (.obj "Machine" (st0.length+1))):=by rw [← hL]; rfl
 have g1:al 1 L=some (.val (.cel rr)):=by rw [← hL]; rfl
 have g2:al 2 L=some (.val (.int F)):=by rw [← hL]; rfl
 have g3:al 3 L=some (.val (.cel st0.length)):=by rw [← hL]; rfl
 show RT (ed (wX K n)) ⟨L,st0++[.cont (.lst (vs.map .int)),.flds []]⟩ _
 have sf:∀ {f:Str} {d:D AV} {w:AV} {l l':List (Str × AV)} {s:S} {r:St},d s=.ok w ⟨L,st0++.cont (.lst (vs.map .int))::.flds l::r⟩->zCd l.length 100=true->kK f w l=l'->aO (aa 0) f d s=.ok .next ⟨L,st0++.cont (.lst (vs.map .int))::.flds l'::r⟩:=fun h hl hs=>by
  have:=cU (i:=0) h g0 dY hl hs
  dsimp only at this
  rw [mt] at this; exact this
 have hd:aE (cF []) toCel ⟨L,st0++[.cont (.lst (vs.map .int)),.flds [("rows",.cel rr),("fuel",.int F),("stack",.cel st0.length)]]⟩=.ok (.cel (st0.length+1+1)) ⟨L,st0++[.cont (.lst (vs.map .int)),.flds [("rows",.cel rr),("fuel",.int F),("stack",.cel st0.length)],.cont (.lst [])]⟩:=by
  show Out.ok (AV.cel (st0++[AO.cont (.lst (vs.map .int)),AO.flds [("rows",.cel rr),("fuel",.int F),("stack",.cel st0.length)]]).length) (⟨L,(st0++[AO.cont (.lst (vs.map .int)),AO.flds [("rows",.cel rr),("fuel",.int F),("stack",.cel st0.length)]])++[AO.cont (.lst [])]⟩:S)=_
  rw [zAm,zAc]; rfl
 exact .go (sf (l':=[("rows",.cel rr)]) (bk g1) rfl (by kernel_rfl)) (.go (sf (l':=[("rows",.cel rr),("fuel",.int F)]) (bk g2) rfl (by kernel_rfl)) (.go (sf (l':=[("rows",.cel rr),("fuel",.int F),("stack",.cel st0.length)]) (bk g3) rfl (by kernel_rfl)) (.go (sf (l':=[("rows",.cel rr),("fuel",.int F),("stack",.cel st0.length),("calls",.cel (st0.length+1+1))]) hd rfl (by kernel_rfl)) (.go (sf (w:=.int 0) (l':=[("rows",.cel rr),("fuel",.int F),("stack",.cel st0.length),("calls",.cel (st0.length+1+1)),("place",.int 0)]) rfl rfl (by kernel_rfl)) (.go (sf (w:=.int 0) (l':=cw (st0.length+1) rr F st0.length 0 0) rfl rfl (by kernel_rfl)) (.nil rfl))))))
noncomputable abbrev mL (ci:Nat) (f:Str) (vs:List Int) (F:Int):bp:=[(0,.val (.obj "Code" ci)),(1,.val (.str f)),(2,.val (.lst (vs.map .int))),(3,.val (.int F))]
noncomputable abbrev ruL5 (ci:Nat) (f:Str) (vs:List Int) (F:Int) (fs:List Fu) (u:Fu) (o:Nat):bp:=mL ci f vs F++[(4,.val (iC fs u)),(5,.val (.obj "Machine" o))]
noncomputable abbrev enD (X:Ctx):D Fl:=c8 (aW X (aa 5) "enter" [am (aa 4) (af (.int 0)),am (aa 4) (af (.int 1)),am (aa 4) (af (.int 2))])
theorem run_to {r:Ret} (hu:bx f fs=some u) (hl:u.ps.length=vs.length) (hv:vs.length<=900) (hci:st0[ci]?=some (.flds [("rows",.cel rr),("starts",dA fs)])) (h:RT (ac (kD (wX K (n+5)) (ac (enD (wX K (n+5))) (ac (bD wT (wB (wX K (n+5))) K) (af .next))) hsR) (ac (aV (aI [af (.str "value"),am (aw (aa 5) "stack") (dUn .USub (af (.int 1))),aw (aa 5) "made"])) (af .next))) ⟨ruL5 ci f vs F fs u (st0.length+1),mst st0 rr F vs⟩ r) :
  au PP K (n+6) ⟨#[]⟩ "run" [.obj "Code" ci,.str f,.lst (vs.map .int),.int F] st0=r:=by
 rw [rn_run]
 show RT (sh_run (wX K (n+5))) ⟨mL ci f vs F,st0⟩ _
 have a1:aw (aa 0) "starts" ⟨mL ci f vs F,st0⟩=.ok (dA fs) ⟨mL ci f vs F,st0⟩:=aP rfl hci (by kernel_rfl)
 have t1:=(in_at (d:=aa 1) (a:=.pl 1) (x:=f) (s:=⟨mL ci f vs F,st0⟩) rfl a1 rfl rfl).2
 rw [fT,hu] at t1
 have g4:aL 4 (am (aw (aa 0) "starts") (ae 1)) ⟨mL ci f vs F,st0⟩=.ok .next ⟨mL ci f vs F++[(4,.val (iC fs u))],st0⟩:=aQ (v:=iC fs u) (s':=⟨mL ci f vs F,st0⟩) (aU (c':=dA fs) (i:=.str f) a1 rfl rfl (by show dI _ _ _=_; rw [iQ,hu]; rfl))
 have ln:aS az false [aa 2] ⟨mL ci f vs F++[(4,.val (iC fs u))],st0⟩=.ok (.int (vs.length:Int)) ⟨mL ci f vs F++[(4,.val (iC fs u))],st0⟩:=cg (a:=.pl 2) (c:=.lst (vs.map .int)) rfl rfl (by show some (AV.int ((vs.map AV.int).length:Int))=_; rw [zAd])
 have t2:aB (aS az false [aa 2]) .NotEq (am (aa 4) (af (.int 1))) ⟨mL ci f vs F++[(4,.val (iC fs u))],st0⟩=.ok (.bool false) ⟨mL ci f vs F++[(4,.val (iC fs u))],st0⟩:=by
  refine (bT ln (b:=.int (u.ps.length:Int)) (s₂:=⟨mL ci f vs F++[(4,.val (iC fs u))],st0⟩) rfl).trans ?_
  rw [hl]
  show Out.ok (AV.bool (!decide ((vs.length:Int)=vs.length))) _=_
  rw [decide_eq_true rfl]; rfl
 have lc:aS aZ false [aa 2] ⟨mL ci f vs F++[(4,.val (iC fs u))],st0⟩=.ok (.lst (vs.map .int)) ⟨mL ci f vs F++[(4,.val (iC fs u))],st0⟩:=cg (a:=.pl 2) (c:=.lst (vs.map .int)) rfl rfl (cN (by rw [zAd]; lia))
 have lc2:aE (aS aZ false [aa 2]) toCel ⟨mL ci f vs F++[(4,.val (iC fs u))],st0⟩=.ok (.cel st0.length) ⟨mL ci f vs F++[(4,.val (iC fs u))],st0++[.cont (.lst (vs.map .int))]⟩:=by rw [aq lc]; rfl
 have sq:bI [aw (aa 0) "rows",ae 3,aE (aS aZ false [aa 2]) toCel] ⟨mL ci f vs F++[(4,.val (iC fs u))],st0⟩=.ok [.cel rr,.int F,.cel st0.length] ⟨mL ci f vs F++[(4,.val (iC fs u))],st0++[.cont (.lst (vs.map .int))]⟩ :=
  ag (aP rfl hci (by kernel_rfl)) (ag (s₁:=⟨mL ci f vs F++[(4,.val (iC fs u))],st0⟩) rfl (ag lc2 rfl))
 have e5:kI (wX K (n+5)) "Machine" [aw (aa 0) "rows",ae 3,aE (aS aZ false [aa 2]) toCel] ⟨mL ci f vs F++[(4,.val (iC fs u))],st0⟩=.ok (.obj "Machine" (st0.length+1)) ⟨mL ci f vs F++[(4,.val (iC fs u))],mst st0 rr F vs⟩:=by
  unfold kI
  rw [aq sq]
  show dZ (kj (st0++[AO.cont (.lst (vs.map .int))]).length "Machine" (au PP K (n+1) "Machine" "__init__" (.obj "Machine" (st0++[AO.cont (.lst (vs.map .int))]).length::[.cel rr,.int F,.cel st0.length]) ((st0++[AO.cont (.lst (vs.map .int))])++[.flds []]))) _=_
  rw [show (st0++[AO.cont (.lst (vs.map .int))]).length=st0.length+1 from zAc,zAm]
  show dZ (kj _ _ (au PP K (n+1) "Machine" "__init__" _ (st0++[.cont (.lst (vs.map .int)),.flds []]))) _=_
  rw [minit_ok]; rfl
 exact .ifB (c:=false) t1 (.next (.go g4 (.ifB (c:=false) t2 (.next (.go (aQ e5) h)))))
theorem run_ok' (P:PW fs) (hlen:∀ u ∈ fs,len u.bd<=900/\rmOf u<=5000) (hs:bW fs f=some vs.length) (hv:∀ v ∈ vs,ik v) (hci:st0[ci]?=some (.flds [("rows",.cel rr),("starts",dA fs)])) (hrr:st0[rr]?=some (.cont (.lst (bK (code (cK fs) fs 0))))) (hK:cb 20+10<=K) :
  ∃ st',au PP K (n+6) ⟨#[]⟩ "run" [.obj "Code" ci,.str f,.lst (vs.map .int),.int F] st0=.ok (mU (b9 fs F 20 f vs 0)) st'/\st0.length<=st'.length/\∀ i,i < st0.length->st'[i]?=st0[i]?:=by
 obtain ⟨u,hu,hul⟩:=zAo.mp hs
 have hmem:=(cD hu).1
 have hps:=P.ps u hmem
 have hln:=hlen u hmem
 have lr:=cC hrr
 have T:=fun (r:Ret)=>run_to (K:=K) (n:=n) (F:=F) (rr:=rr) (r:=r) hu hul (by lia) hci
 have H:XOk (wX K (n+5)) (ruL5 ci f vs F fs u (st0.length+1)) (st0.length+1) K (n+1):=⟨rfl,rfl,rfl⟩
 have Q:Rq (st0.length+1) rr (bK (code (cK fs) fs 0)) F (mst st0 rr F vs) 0 0 st0.length (vs.reverse++[]) []:=by
  refine ⟨dY,?_,?_,lU,by lia,by lia,by lia⟩
  ·rw [zAt lr]; exact hrr
  ·rw [a9,zAx]; unfold fZ; rw [zDf,List.reverse_reverse]
 have hN:(mst st0 rr F vs).length=st0.length+3:=zAc
 have fr0:∀ i,i < st0.length->(mst st0 rr F vs)[i]?=st0[i]?:=fun i hi=>zAt hi
 have sq:bI [am (aa 4) (af (.int 0)),am (aa 4) (af (.int 1)),am (aa 4) (af (.int 2))] ⟨ruL5 ci f vs F fs u (st0.length+1),mst st0 rr F vs⟩=.ok [.int (fstOf f fs:Nat),.int (vs.length:Nat),.int (rmOf u:Nat)] ⟨ruL5 ci f vs F fs u (st0.length+1),mst st0 rr F vs⟩:=by
  rw [← hul,← (cD hu).2]; rfl
 have me:∀ {Rt:Ret},au PP K (n+5) "Machine" "enter" [.obj "Machine" (st0.length+1),.int (fstOf f fs:Nat),.int (vs.length:Nat),.int (rmOf u:Nat)] (mst st0 rr F vs)=Rt->aW (wX K (n+5)) (aa 5) "enter" [am (aa 4) (af (.int 0)),am (aa 4) (af (.int 1)),am (aa 4) (af (.int 2))] ⟨ruL5 ci f vs F fs u (st0.length+1),mst st0 rr F vs⟩=dZ Rt ⟨ruL5 ci f vs F fs u (st0.length+1),mst st0 rr F vs⟩:=fun h=>by
  rw [ef (s:=⟨ruL5 ci f vs F fs u (st0.length+1),mst st0 rr F vs⟩) (c:="Machine") (o:=st0.length+1) m_enter rfl Q.ob sq]
  exact congrArg (fun q=>dZ q _) h
 generalize hL5:ruL5 ci f vs F fs u (st0.length+1)=L5 at T H sq me
 generalize hst:mst st0 rr F vs=st6 at T Q hN fr0 sq me
 have hsub:(wX K (n+5)).P.sub=PP.sub:=rfl
 generalize hX:wX K (n+5)=X at T H me hsub
 clear hst hL5 sq
 have atM:∀ {st:St} {a p:Nat} {m:Int},st[st0.length+1]?=some (.flds (cw (st0.length+1) rr F a p m))->aw (aa 5) "made" ⟨L5,st⟩=.ok (.int m) ⟨L5,st⟩:=fun h=>aP H.loc h (by kernel_rfl)
 show ∃ st',_=Ret.ok (mU (if (0:Int)=F then Rl.bad .dry 0 else match bx f fs with | some u=>dS (b9 fs F 19) u.bd (u.ps.zip vs).reverse (0+1) | none=>.bad .deep 0)) st'/\_
 by_cases hF:(0:Int)=F
 ·rw [if_pos hF]
  have e:=me (jq (n:=n+4) (first:=fstOf f fs) (count:=vs.length) (room:=rmOf u) Q (.inr ⟨by decide,hF⟩))
  refine ⟨st6,T _ (RT.tryX (s':=⟨L5,st6⟩) (s'':=⟨L5,st6⟩) (c:=Bad.dry.xc) ?_ (by rw [hsub]; exact o0 (atM Q.ob) .dry) rfl),by lia,fr0⟩
  show ax (ax (aW X (aa 5) "enter" _ _) _) _=_
  rw [e]; rfl
 rw [if_neg hF,hu]
 have en:=me (enter_ok (n:=n+4) (first:=fstOf f fs) (count:=vs.length) (room:=rmOf u) (as:=vs.reverse) (sk:=[]) Q (by decide) hF (by rw [zCb]) (by rw [← hul]; exact zBc _ _) hln.2)
 have I:=entSt_ok (first:=fstOf f fs) (room:=rmOf u) (as:=vs.reverse) (sk:=[]) Q
 have l1:=n8 (o:=st0.length+1) (rr:=rr) (F:=F) (st:=st6) (p:=0) (md:=0) (a:=st0.length) (first:=fstOf f fs) (room:=rmOf u) (as:=vs.reverse) (sk:=[]) (fs:=[])
 have fr1:∀ i,i < st0.length->(gh (st0.length+1) rr F st6 0 0 st0.length (fstOf f fs) (rmOf u) vs.reverse [] [])[i]?=st0[i]?:=fun i hi=>by rw [entSt_fr (by lia) (by lia) (by lia)]; exact fr0 i hi
 rw [List.reverse_reverse,zCb] at I
 generalize gh (st0.length+1) rr F st6 0 0 st0.length (fstOf f fs) (rmOf u) vs.reverse [] []=st7 at en I l1 fr1
 have rw1:=(code_at (sf:=cK fs) hu).app
 rw [bB] at rw1
 have B:=tree_ok (g:=19) (C:=cb 19) (sig:=bW fs) (sf:=cK fs) (call:=b9 fs F 19) H (cb_pos 19) (fun fn' vs' st' md' a' sk' sl' p' f' h1 h2 h3 h4 h5 h6=>call_ok P hlen H 19 [] st6.length 0 fn' vs' st' md' a' sk' sl' p' f' rfl h1 h2 h3 h4 h5 h6) (ga P 19) u.bd (h:=12) (ns:=u.ps) (k:=none) (P.bd u hmem) rw1.1 (SR_args hps.1 hul) (by rw [zAc,List.length_replicate]; show u.ps.length+ltN u.bd<=_; unfold rmOf; lia) (fun x hx=>hv _ (zC6 (zB6.mp hx)).2) (by decide) I
 have hcm:len u.bd * cb 19<=900 * cb 19:=Nat.mul_le_mul_right _ hln.1
 have hKK:901 * cb 19+13<=K:=hK
 have body:∀ {out:Out Fl},bD wT (wB X) K ⟨L5,st7⟩=out->nr out->ac (enD X) (ac (bD wT (wB X) K) (af .next)) ⟨L5,st6⟩=out:=fun h hn=>by
  refine (ji (cu (v:=.none) (s':=⟨L5,st7⟩) ?_)).trans (bP h hn)
  rw [en]; rfl
 generalize cb 19=C at B hcm hKK
 show ∃ st',_=Ret.ok (mU (dS (b9 fs F 19) u.bd (u.ps.zip vs).reverse (0+1))) st'/\_
 cases hsem:dS (b9 fs F 19) u.bd (u.ps.zip vs).reverse (0+1) with
 | bad c m =>
  rw [hsem] at B
  obtain ⟨k,s2,a2,p2,z1,z2,z3,z4⟩:=B
  have z4l:=z4.le
  have h4:=z2 (K - k)
  rw [Nat.sub_add_cancel (by lia)] at h4
  exact ⟨s2,T _ (RT.tryX (body h4 trivial) (by rw [hsub]; exact o0 (atM z3) c) rfl),by lia,fun i hi=>by rw [z4.eq i (by lia) (by lia) (by lia) (by lia) (by lia)]; exact fr1 i hi⟩
 | val ws m =>
  rw [hsem] at B
  obtain ⟨k,s2,a2,sl2,z1,z2,z3,z4,z5,z6,z7⟩:=B
  have z6l:=z6.le
  have r3:=run_back H z3 rw1.2.cons.1
  have hall:=z2.trans r3
  have gl:ws.length=1:=by have:=cy (ga (F:=F) P 19) u.bd (m:=(0+1:Int)) (P.bd u hmem) (e:=(u.ps.zip vs).reverse) (fun x hx=>hv _ (zC6 (zB6.mp hx)).2); rw [hsem] at this; exact this.2
  have hsk:=z3.rq.sk
  rw [gU gl] at hsk
  have l6:=cC z3.rq.ob
  have l7:=cC z3.rq.cl
  have ha6:a2 ≠ st0.length+1:=fun e=>by have:=z3.rq.sk; rw [e,z3.rq.ob] at this; cases this
  have ha7:=z3.rq.n1
  generalize hs3:((s2.set (st0.length+1) (.flds (cw (st0.length+1) rr F a2 (fstOf f fs+len u.bd+1) m))).set (st0.length+1+1) (.cont (.lst (eU [])))).set (st0.length+1) (.flds (cw (st0.length+1) rr F a2 0 m))=s3 at hall
  have hl3:s3.length=s2.length:=by rw [← hs3]; simp
  have ob3:s3[st0.length+1]?=some (.flds (cw (st0.length+1) rr F a2 0 m)):=by rw [← hs3,zA8 (by simp; lia)]
  have cl3:s3[st0.length+1+1]?=some (.cont (.lst [])):=by rw [← hs3,zAf (by lia),zA8 (by simp; lia)]; rfl
  have sk3:s3[a2]?=some (.cont (.lst [.int (hd ws)])):=by
   rw [← hs3,zAf (Ne.symm ha6),zAf (Ne.symm ha7),zAf (Ne.symm ha6)]; exact hsk
  have h4:=hall (K - (1+k))
  rw [Nat.sub_add_cancel (by lia),show K - (1+k)=(K - (2+k))+1 by lia,while_end H.loc ob3 (by kernel_rfl) cl3] at h4
  refine ⟨s3,T _ (RT.tryOk (body h4 trivial) (.ret (v:=mU (.val ws m)) (s':=⟨L5,s3⟩) ?_ rfl)),by lia,fun i hi=>?_⟩
  ·have q2:aw (aa 5) "stack" ⟨L5,s3⟩=.ok (.cel a2) ⟨L5,s3⟩:=aP H.loc ob3 (by kernel_rfl)
   have q3:am (aw (aa 5) "stack") (dUn .USub (af (.int 1))) ⟨L5,s3⟩=.ok (.int (hd ws)) ⟨L5,s3⟩:=aU (i:=.int (-1)) q2 rfl (cS sk3) rfl
   exact (aq (ag rfl (ag q3 (ag (atM ob3) rfl)))).trans rfl
  ·rw [← hs3,zAf (by lia),zAf (by lia),zAf (by lia),z6.eq i (by lia) (by lia) (by lia) (by lia) (by lia)]; exact fr1 i hi
end
theorem nK (k:Nat) (m:Nat):zAp (k:Int) (m:Int)=((k / m:Nat):Int):=by
 rw [Int.fdiv_eq_ediv_of_nonneg _ (zCi m)]; rfl
theorem okR_nat {k:Nat} (h:k<=1000):okR (k:Int)=true:=decide_eq_true (zCs (show (k:Int).natAbs<=1000 from h) (by decide))
theorem ju {m:Nat} (h:m<=1000):iA 0 (m:Int)=some (.lst ((List.range m).map fun i:Nat=>AV.int i)):=by
 unfold iA
 rw [okR_nat h]
 show some (AV.lst (fY 0 m))=_
 unfold fY
 rw [show ((m:Int) - 0).toNat=m by lia]
 exact congrArg (fun l=>some (AV.lst l)) (List.map_congr_left fun j _=>by rw [Int.zero_add])
theorem bR (x:Int) {m:Nat} (hm:0 < m):∃ j:Nat,j < m/\zAs x m=j:=by
 have h1:=zC2 x (zCi m)
 have h2:=Int.emod_nonneg x (show (m:Int) ≠ 0 by lia)
 have h3:=Int.emod_lt_of_pos x (show (0:Int) < m by lia)
 exact ⟨(x % m).toNat,by lia,by rw [h1]; lia⟩
noncomputable def lt (x:Int):Nat:=97+(zAs x 26).toNat
noncomputable abbrev abc:Str:="abcdefghijklmnopqrstuvwxyz"
theorem abc_at:∀ j:Fin 26,abc.cps[j.val]?=some (97+j.val):=by decide +kernel
noncomputable abbrev S1 (c:Nat):AV:=.str ⟨#[c]⟩
theorem iH (x:Int):idxV (.str abc) (.int (zAs x 26))=some (S1 (lt x)):=by
 obtain ⟨j,hj,hx⟩:=bR x (m:=26) (by decide)
 have hx:zAs x 26=j:=hx
 unfold lt
 rw [hx]
 show (if (0:Int)<=j then (abc.cps[(j:Int).toNat]?).map fun c=>AV.str ⟨#[c]⟩ else none)=_
 rw [if_pos (zCi j),zCn,abc_at ⟨j,hj⟩]; rfl
theorem oq:∀ l:List Nat,eF (l.map S1)=some (l.map fun c=>⟨#[c]⟩)
 | []=>rfl
 | c::r=>by
  show (eF (r.map S1)).map _=_
  rw [oq r]; rfl
theorem catS_S1:∀ l:List Nat,kJ (l.map fun c=>⟨#[c]⟩)=⟨l.toArray⟩
 | []=>rfl
 | c::r=>by
  show (⟨#[c]⟩:Str)++kJ (r.map fun c=>⟨#[c]⟩)=_
  rw [catS_S1 r]
  show (⟨#[c]++r.toArray⟩:Str)=_
  simp
theorem join_S1 {l:List Nat} (h:l.length<=1000):joinV (.lst (l.map S1))=some (.str ⟨l.toArray⟩):=by
 show ((eF (l.map S1)).bind fun ss=>mkSt (kJ ss))=_
 rw [oq]
 show mkSt (kJ (l.map fun c=>⟨#[c]⟩))=_
 rw [catS_S1]
 unfold mkSt
 rw [if_pos (show Str.length ⟨l.toArray⟩<=sizeLine from zAj (show l.toArray.size<=1000 by simpa using h) (by decide))]
theorem iq {l:List AV} {k:Nat} (h:k<=l.length):kC (.lst l) .none (.int k)=some (.lst (l.take k)):=by
 show some (AV.lst ((l.drop 0).take (clipAt l.length k - 0)))=_
 rw [kP rfl h]; rfl
theorem gL {l:List AV} {k:Nat} (h:k<=l.length):kC (.lst l) (.int k) .none=some (.lst (l.drop k)):=by
 show some (AV.lst ((l.drop (clipAt l.length k)).take (l.length - clipAt l.length k)))=_
 rw [kP rfl h,zC9 (by rw [zBm]; exact zAy _)]
section
variable {d e l r its elt:D AV} {s s₁ s₂:S} {v a b a' b' c c' i:AV} {kk n:Nat} {op:Operator}
theorem iO {q:List Nat} (h:d s=.ok v s₁) (hv:aT v s₁=some (.lst (q.map S1))) (hq:q.length<=1000):gk d s=.ok (.str ⟨q.toArray⟩) s₁:=by
 have d1:deref v s₁=.ok (.lst (q.map S1)) s₁:=by unfold deref; rw [hv]
 unfold gk
 rw [aq h,aq d1,join_S1 hq]; rfl
theorem fb {caps:List (Nat × Nat)} {g:Nat->AV} (hi:its s=Mine.opt (iA 0 (n:Int)) s₁) (hl:n<=1000)
  (h:∀ j:Nat,j < n->∃ s',elt ⟨ai kk (.val (.int j)) (dW caps s₁.loc),s₁.st⟩=.ok (g j) ⟨s',s₁.st⟩) :
  bG caps kk elt its s=.ok (.lst ((List.range n).map g)) ⟨letGo caps s₁.loc,s₁.st⟩ :=
 iT (l:=List.range n) (f:=fun i:Nat=>AV.int i) (cP hi (ju hl)) (by rw [zA3]; exact hl) fun j hj=>h j (zCr.mp hj)
end
theorem eA {l:List Nat} {n m:Nat} (h:l.length<=m):(l.take n).length<=m:=zAj (by rw [zCp]; exact zB8 _ _) h
theorem iK {l:List Nat} {n m:Nat} (h:l.length<=m):(l.drop n).length<=m:=zAj (by rw [zBm]; exact Nat.sub_le _ _) h
theorem oJ {a b:List Nat} {m n:Nat} (h1:a.length<=m) (h2:b.length<=n):(a++b).length<=m+n:=by rw [zAc]; exact zC3 h1 h2
theorem kr {a b:Nat} (h:a<=b) (hb:zCd b 1000=true):a<=1000:=zAj h (zBd hb)
theorem add_str {a b:List Nat} (h:a.length+b.length<=1000):mO .Add (.str ⟨a.toArray⟩) (.str ⟨b.toArray⟩)=some (.str ⟨(a++b).toArray⟩):=by
 show mkSt ((⟨a.toArray⟩:Str)++(⟨b.toArray⟩:Str))=_
 have e:((⟨a.toArray⟩:Str)++(⟨b.toArray⟩:Str))=⟨(a++b).toArray⟩:=by
  show (⟨a.toArray++b.toArray⟩:Str)=_
  simp
 unfold mkSt
 rw [e,if_pos (show Str.length ⟨(a++b).toArray⟩<=sizeLine from zAj (show (a++b).toArray.size<=1000 by simpa using h) (by decide))]
theorem nc {k:Nat} (h:1<=k) (h':k<=1000):eI (k:Int)=true:=by
 unfold eI b7; rw [decide_eq_false (by lia),decide_eq_true (by lia)]; rfl
noncomputable def fm (n:Nat) (f:Nat->Int):List Nat:=(List.range n).map fun j=>lt (f j)
theorem cv (n:Nat) (f:Nat->Int):(fm n f).length=n:=by unfold fm; simp
theorem oI (n:Nat) (f:Nat->Int):(List.range n).map (fun j=>S1 (lt (f j)))=(fm n f).map S1:=by unfold fm; rw [zCg]; rfl
theorem jv (k:Nat) (m:Nat):zAs (k:Int) (m:Int)=((k % m:Nat):Int):=by
 rw [zC2 _ (zCi m)]; rfl
noncomputable def lX (c:Int) (j:Nat):Int:=zAp (zAp c 4) 26+j * (1+zAs (zAp (zAp c 4) 676) 25)
noncomputable def eE (c:Int) (k j:Nat):Int:=zAp c 4+j+8 * zAp (k:Int) 8
noncomputable def oy (c:Int) (j:Nat):Int:=zAp c 4+3 * j
noncomputable def mX (c:Int) (j:Nat):Int:=zAp (zAp c 4) 64+j * (1+zAs (zAp (zAp c 4) 1664) 25)
noncomputable def gw (c:Int):Nat:=1+(zAs (zAp c 4) 8).toNat
noncomputable def at0 (c:Int):Nat:=(zAs (zAp (zAp c 4) 8) (gw c)).toNat
noncomputable def cut3 (k:Nat):Nat:=(k % 7+1+k / 7) % 8
noncomputable def wL (c:Int) (k:Nat):List Nat :=
 if zAs c 4=1 then [lt (zAp c 4+zAp (k:Int) 8)]++(fm 7 (lX c)).take (k % 8)
 else if zAs c 4=2 then (fm 8 (eE c k)).drop (k % 8)++(fm 8 (eE c k)).take (k % 8)
 else if zAs c 4=3 then ((fm 8 (oy c)).set (cut3 k) ((fm 8 (oy c)).getD (k % 7) 0)).set (k % 7) ((fm 8 (oy c)).getD (cut3 k) 0)
 else (fm (gw c) (mX c)).take (at0 c)++[lt k]++(fm (gw c) (mX c)).drop (at0 c+1)
noncomputable abbrev kY (c:Int) (k:Nat):Str:=⟨(wL c k).toArray⟩
theorem at_S1 {l:List Nat} {k:Nat} (h:k < l.length):at? (l.map S1) (k:Int)=some (S1 (l.getD k 0)) :=
 gM (by rw [zB0,zAw h,zBy,zAw h]; rfl)
theorem put_S1 {l:List Nat} {k x:Nat} (h:k < l.length):eW (.int k) (S1 x) (.lst (l.map S1))=some (.lst ((l.set k x).map S1)):=by
 show (if 0<=(k:Int)/\(k:Int).toNat < (l.map S1).length then some (AV.lst ((l.map S1).set (k:Int).toNat (S1 x))) else none)=_
 rw [zCn,if_pos ⟨zCi k,by simpa using h⟩,List.map_set]
section
variable {K n:Nat} {st:St}
theorem mf (l:List Int) (k:Nat):au PP K (n+1) ⟨#[]⟩ "_law_cell_at" [.lst (l.map .int),.int k] st=.ok (.int (l.getD k 0)) st:=by
 rw [kE]
 show RT (d3 _) _ _
 unfold d3
 by_cases h:(k:Int) < ((l.map AV.int).length:Int)
 ·have h':k < l.length:=by rw [zAd] at h; lia
  have hg:at? (l.map AV.int) (k:Int)=some (.int (l.getD k 0)):=gM (by rw [zB0,zAw h',zBy,zAw h']; rfl)
  exact .ifT h rfl (.assoc (.ret (congrArg (fun o=>Mine.opt o ⟨_,st⟩) hg) rfl))
 ·refine .ifN h rfl (.next (.ret rfl ?_))
  rw [zAd] at h
  rw [zBy,List.getElem?_eq_none (by lia)]; rfl
theorem elt_row {r P Q:Int} {j:Nat} (hj:j < 10) (hP:∀ x,mO .FloorDiv (.int x) (.int P)=some (.int (zAp x P))) (hQ:∀ x,mO .FloorDiv (.int x) (.int Q)=some (.int (zAp x Q))) :
  am (aa 3) (aj .Mod (aj .Add (aj .FloorDiv (aa 2) (af (.int P))) (aj .Mult (aa 1) (aj .Add (af (.int 1)) (aj .Mod (aj .FloorDiv (aa 2) (af (.int Q))) (af (.int 25)))))) (af (.int 26))) ⟨[(2,.val (.int r)),(3,.val (.str abc)),(1,.val (.int j))],st⟩ =
  .ok (S1 (lt (zAp r P+j * (1+zAs (zAp r Q) 25)))) ⟨[(2,.val (.int r)),(3,.val (.str abc)),(1,.val (.int j))],st⟩:=by
 refine aU rfl (ay (a:=.int (zAp r P+j * (1+zAs (zAp r Q) 25))) (ay (ay rfl rfl rfl rfl (hP r)) (ay (v:=.int (j * (1+zAs (zAp r Q) 25))) rfl (ay rfl (ay (ay rfl rfl rfl rfl (hQ r)) rfl rfl rfl rfl) rfl rfl rfl) rfl rfl ?_) rfl rfl rfl) rfl rfl rfl rfl) rfl (iH _)
 show (if b7 j || b7 (1+zAs (zAp r Q) 25) then some (AV.int (j * (1+zAs (zAp r Q) 25))) else none)=_
 rw [show b7 j=true by unfold b7; simp; lia]; rfl
noncomputable abbrev gq (c k:Int) (cut:Nat) (o:bp):bp:=(0,.val (.int c))::(1,.val (.int k))::(2,.val (.str abc))::(3,.val (.int (zAp c 4)))::(4,.val (.int cut))::o
theorem jd {c k:Int} {j:Nat} {q:D Fl} {r:Ret} (hx:zAs k 8=j) (hk:RT q ⟨gq c k j [],st⟩ r):RT (ac (aL 2 (af (.str "abcdefghijklmnopqrstuvwxyz"))) (ac (bo 3 (aj .FloorDiv (aa 0) (af (.int 4)))) (ac (bo 4 (aj .Mod (aa 1) (af (.int 8)))) q))) ⟨[(0,.val (.int c)),(1,.val (.int k))],st⟩ r:=by
 have hk:RT q ⟨[(0,.val (.int c)),(1,.val (.int k)),(2,.val (.str abc)),(3,.val (.int (zAp c 4))),(4,.val (.int (zAs k 8)))],st⟩ r:=by rw [hx]; exact hk
 exact .go (s':=⟨[(0,.val (.int c)),(1,.val (.int k)),(2,.val (.str abc))],st⟩) rfl (.go (s':=⟨[(0,.val (.int c)),(1,.val (.int k)),(2,.val (.str abc)),(3,.val (.int (zAp c 4)))],st⟩) rfl (.go (s':=⟨[(0,.val (.int c)),(1,.val (.int k)),(2,.val (.str abc)),(3,.val (.int (zAp c 4))),(4,.val (.int (zAs k 8)))],st⟩) rfl hk))
theorem oF (c:Int) (k:Nat):au PP K (n+1) ⟨#[]⟩ "_law_word" [.int c,.int (k:Int)] st=.ok (.str (kY c k)) st:=by
 rw [pd]
 show RT (fQ (wX K n)) ⟨[(0,.val (.int c)),(1,.val (.int (k:Int)))],st⟩ (.ok (.str (kY c k)) st)
 unfold fQ
 have hx:zAs (k:Int) 8=((k % 8:Nat):Int):=jv k 8
 have hk8:k % 8 < 8:=zDk _ (by decide)
 unfold kY wL
 by_cases h1:zAs c 4=1
 ·rw [if_pos h1]
  refine (jd hx (.ifT h1 rfl (.assoc (.go (s':=⟨gq c k (k % 8) [(5,.own (.lst ((fm 7 (lX c)).map S1)))],st⟩) (bf (s':=⟨gq c k (k % 8) [],st⟩) (v:=.lst ((fm 7 (lX c)).map S1)) ?_) ?_))))
  ·rw [← oI]
   exact fb (n:=7) (s₁:=⟨gq c k (k % 8) [],st⟩) rfl (by decide) fun j hj=>⟨_,elt_row (by lia) (fun _=>rfl) (fun _=>rfl)⟩
  ·refine .assoc (.ret (ay (cP (s₁:=⟨gq c k (k % 8) [(5,.own (.lst ((fm 7 (lX c)).map S1)))],st⟩) rfl (iH (zAp c 4+zAp (k:Int) 8))) (iO (q:=(fm 7 (lX c)).take (k % 8)) (cP (s₁:=⟨gq c k (k % 8) [(5,.own (.lst ((fm 7 (lX c)).map S1)))],st⟩) (o:=kC (.lst ((fm 7 (lX c)).map S1)) .none (.int ((k % 8):Nat))) rfl (iq (by rw [zAd,cv]; exact Nat.le_of_lt_succ hk8))) (by rw [zC7]; rfl) ?_) rfl rfl (add_str (a:=[_]) ?_)) rfl)
   ·exact kr (eA (zCo (cv _ _))) rfl
   ·exact kr (zC3 (zAy 1) (eA (zCo (cv _ _)))) rfl
 rw [if_neg h1]
 by_cases h2:zAs c 4=2
 ·rw [if_pos h2]
  refine (jd hx (.ifN h1 rfl (.next (.ifT h2 rfl (.assoc (.go (s':=⟨gq c k (k % 8) [(5,.own (.lst ((fm 8 (eE c k)).map S1)))],st⟩) (bf (s':=⟨gq c k (k % 8) [],st⟩) (v:=.lst ((fm 8 (eE c k)).map S1)) ?_) ?_))))))
  ·rw [← oI]
   exact fb (n:=8) (s₁:=⟨gq c k (k % 8) [],st⟩) rfl (by decide) fun j hj=>⟨_,cP rfl (iH (eE c k j))⟩
  ·refine .assoc (.ret (iO (q:=(fm 8 (eE c k)).drop (k % 8)++(fm 8 (eE c k)).take (k % 8)) (ay (v:=.lst (((fm 8 (eE c k)).drop (k % 8)++(fm 8 (eE c k)).take (k % 8)).map S1)) (cP (s₁:=⟨gq c k (k % 8) [(5,.own (.lst ((fm 8 (eE c k)).map S1)))],st⟩) rfl (gL (l:=(fm 8 (eE c k)).map S1) (k:=(k % 8)) ?_)) (cP rfl (iq (l:=(fm 8 (eE c k)).map S1) (k:=(k % 8)) ?_)) rfl rfl ?_) rfl ?_) rfl)
   ·rw [zAd,cv]; exact zC5 hk8
   ·rw [zAd,cv]; exact zC5 hk8
   ·show bz _=_
    rw [← zDj,← zC7,← zAr]
    exact cN (by rw [zAd]; exact kr (oJ (iK (zCo (cv _ _))) (eA (zCo (cv _ _)))) rfl)
   ·exact kr (oJ (iK (zCo (cv _ _))) (eA (zCo (cv _ _)))) rfl
 rw [if_neg h2]
 by_cases h3:zAs c 4=3
 ·rw [if_pos h3]
  have ek:zAs (k:Int) 7=((k % 7:Nat):Int):=jv k 7
  have ec:zAs (zAs (k:Int) 7+1+zAp (k:Int) 7) 8=((cut3 k:Nat):Int):=by
   rw [ek,show zAp (k:Int) 7=((k / 7:Nat):Int) from nK k 7]
   exact jv (k % 7+1+k / 7) 8
  have hk7:k % 7 < 7:=zDk _ (by decide)
  have hc8:cut3 k < 8:=zDk _ (by decide)
  generalize hR:fm 8 (oy c)=R
  have hl:R.length=8:=by rw [← hR,cv]
  refine (jd hx (.ifN h1 rfl (.next (.ifN h2 rfl (.next (.ifT h3 rfl (.assoc (.go (s':=⟨gq c k (k % 8) [(5,.own (.lst (R.map S1)))],st⟩) (bf (s':=⟨gq c k (k % 8) [],st⟩) (v:=.lst (R.map S1)) ?_) ?_))))))))
  ·rw [← hR,← oI]
   exact fb (n:=8) (s₁:=⟨gq c k (k % 8) [],st⟩) rfl (by decide) fun j hj=>⟨_,cP rfl (iH (oy c j))⟩
  refine .assoc (.go (s':=⟨gq c k (cut3 k) [(5,.own (.lst (R.map S1)))],st⟩) (bf (v:=.int (cut3 k)) (cP (s₁:=⟨gq c k (k % 8) [(5,.own (.lst (R.map S1)))],st⟩) rfl (congrArg (fun x=>some (AV.int x)) ec))) ?_)
  refine .assoc (.go (s':=⟨gq c k (cut3 k) [(5,.own (.lst (R.map S1))),(6,.val (S1 (R.getD (cut3 k) 0)))],st⟩) (aQ (cP (s₁:=⟨gq c k (cut3 k) [(5,.own (.lst (R.map S1)))],st⟩) rfl (at_S1 (by rw [hl]; exact hc8)))) ?_)
  refine .assoc (.go (s':=⟨gq c k (cut3 k) [(5,.own (.lst ((R.set (cut3 k) (R.getD (k % 7) 0)).map S1))),(6,.val (S1 (R.getD (cut3 k) 0)))],st⟩) ?_ ?_)
  ·have e1:am (aa 5) (aj .Mod (aa 1) (af (.int 7))) ⟨gq c k (cut3 k) [(5,.own (.lst (R.map S1))),(6,.val (S1 (R.getD (cut3 k) 0)))],st⟩=.ok (S1 (R.getD (k % 7) 0)) ⟨gq c k (cut3 k) [(5,.own (.lst (R.map S1))),(6,.val (S1 (R.getD (cut3 k) 0)))],st⟩ :=
    cP rfl (show at? (R.map S1) (zAs (k:Int) 7)=_ by rw [ek]; exact at_S1 (by rw [hl]; exact zBi hk7))
   unfold bh
   rw [aq e1]
   show aE (bH (.pl 5) (eW (.int (cut3 k)) (S1 (R.getD (k % 7) 0)))) _ _=_
   have e2:bH (.pl 5) (eW (.int (cut3 k)) (S1 (R.getD (k % 7) 0))) ⟨gq c k (cut3 k) [(5,.own (.lst (R.map S1))),(6,.val (S1 (R.getD (cut3 k) 0)))],st⟩=.ok () ⟨gq c k (cut3 k) [(5,.own (.lst ((R.set (cut3 k) (R.getD (k % 7) 0)).map S1))),(6,.val (S1 (R.getD (cut3 k) 0)))],st⟩:=by
    show (match eW (.int (cut3 k)) (S1 (R.getD (k % 7) 0)) (.lst (R.map S1)) with | some c'=>_ | none=>_)=_
    rw [put_S1 (by rw [hl]; exact hc8)]; rfl
   rw [aq e2]; rfl
  refine .assoc (.go (s':=⟨gq c k (cut3 k) [(5,.own (.lst (((R.set (cut3 k) (R.getD (k % 7) 0)).set (k % 7) (R.getD (cut3 k) 0)).map S1))),(6,.val (S1 (R.getD (cut3 k) 0)))],st⟩) ?_ ?_)
  ·have e2:bH (.pl 5) (eW (.int (zAs (k:Int) 7)) (S1 (R.getD (cut3 k) 0))) ⟨gq c k (cut3 k) [(5,.own (.lst ((R.set (cut3 k) (R.getD (k % 7) 0)).map S1))),(6,.val (S1 (R.getD (cut3 k) 0)))],st⟩=.ok () ⟨gq c k (cut3 k) [(5,.own (.lst (((R.set (cut3 k) (R.getD (k % 7) 0)).set (k % 7) (R.getD (cut3 k) 0)).map S1))),(6,.val (S1 (R.getD (cut3 k) 0)))],st⟩:=by
    show (match eW (.int (zAs (k:Int) 7)) (S1 (R.getD (cut3 k) 0)) (.lst ((R.set (cut3 k) (R.getD (k % 7) 0)).map S1)) with | some c'=>_ | none=>_)=_
    rw [ek,put_S1 (by rw [zB5,hl]; exact zBi hk7)]; rfl
   show aE (bH (.pl 5) (eW (.int (zAs (k:Int) 7)) (S1 (R.getD (cut3 k) 0)))) _ _=_
   rw [aq e2]; rfl
  exact .assoc (.ret (iO (s₁:=⟨gq c k (cut3 k) [(5,.own (.lst (((R.set (cut3 k) (R.getD (k % 7) 0)).set (k % 7) (R.getD (cut3 k) 0)).map S1))),(6,.val (S1 (R.getD (cut3 k) 0)))],st⟩) (v:=.pl 5) rfl rfl (by rw [zB5,zB5,hl]; decide)) rfl)
 rw [if_neg h3]
 obtain ⟨q8,hq8,es⟩:=bR (zAp c 4) (m:=8) (by decide)
 have hsz:gw c=1+q8:=by
  have es:zAs (zAp c 4) 8=q8:=es
  unfold gw; rw [es]; rfl
 have es:1+zAs (zAp c 4) 8=((1+q8:Nat):Int):=by
  have es:zAs (zAp c 4) 8=q8:=es
  rw [es]; lia
 obtain ⟨a0,ha0,ea⟩:=bR (zAp (zAp c 4) 8) (m:=1+q8) (by lia)
 have hat:at0 c=a0:=by unfold at0; rw [hsz,ea]; rfl
 rw [hsz,hat]
 generalize hR:fm (1+q8) (mX c)=R
 have hl:R.length=1+q8:=by rw [← hR,cv]
 have h8:R.length<=8:=by lia
 refine (jd hx (.ifN h1 rfl (.next (.ifN h2 rfl (.next (.ifN h3 rfl (.next (.go (s':=⟨gq c k (k % 8) [(7,.val (.int (1+q8:Nat)))],st⟩) (bf (v:=.int (1+q8:Nat)) (cP (s₁:=⟨gq c k (k % 8) [],st⟩) rfl (congrArg (fun x=>some (AV.int x)) es))) ?_))))))))
 refine .go (s':=⟨gq c k (k % 8) [(7,.val (.int (1+q8:Nat))),(8,.val (.int a0))],st⟩) (bf (v:=.int a0) (cP (s₁:=⟨gq c k (k % 8) [(7,.val (.int (1+q8:Nat)))],st⟩) rfl ?_)) ?_
 ·show (if eI ((1+q8:Nat):Int) then some (AV.int (zAs (zAp (zAp c 4) 8) ((1+q8:Nat):Int))) else none)=_
  rw [nc (by lia) (by lia),ea]; rfl
 refine .go (s':=⟨gq c k (k % 8) [(7,.val (.int (1+q8:Nat))),(8,.val (.int a0)),(5,.own (.lst (R.map S1)))],st⟩) (bf (s':=⟨gq c k (k % 8) [(7,.val (.int (1+q8:Nat))),(8,.val (.int a0))],st⟩) (v:=.lst (R.map S1)) ?_) ?_
 ·rw [← hR,← oI]
  exact fb (n:=1+q8) (s₁:=⟨gq c k (k % 8) [(7,.val (.int (1+q8:Nat))),(8,.val (.int a0))],st⟩) rfl (by lia) fun j hj=>⟨_,elt_row (by lia) (fun _=>rfl) (fun _=>rfl)⟩
 refine .ret (ay (ay (iO (q:=R.take a0) (cP (s₁:=⟨gq c k (k % 8) [(7,.val (.int (1+q8:Nat))),(8,.val (.int a0)),(5,.own (.lst (R.map S1)))],st⟩) (o:=kC (.lst (R.map S1)) .none (.int a0)) rfl (iq (by rw [zAd,hl]; exact zC5 ha0))) (by rw [zC7]; rfl) ?_) (cP (s₁:=⟨gq c k (k % 8) [(7,.val (.int (1+q8:Nat))),(8,.val (.int a0)),(5,.own (.lst (R.map S1)))],st⟩) rfl (iH k)) rfl rfl (add_str (b:=[_]) ?_)) (iO (q:=R.drop (a0+1)) (cP (s₁:=⟨gq c k (k % 8) [(7,.val (.int (1+q8:Nat))),(8,.val (.int a0)),(5,.own (.lst (R.map S1)))],st⟩) (o:=kC (.lst (R.map S1)) (.int ((a0+1:Nat):Int)) .none) rfl (gL (by rw [zAd,hl]; exact ha0))) (by rw [zDj]; rfl) ?_) rfl rfl (add_str ?_)) rfl
 ·exact kr (eA h8) rfl
 ·exact kr (zC3 (eA h8) (zAy 1)) rfl
 ·exact kr (iK h8) rfl
 ·exact kr (zC3 (oJ (eA h8) (zAy 1)) (iK h8)) rfl
variable {L:bp} {ns:List Int}
end
theorem o5 {x y:Int} (h:lt x=lt y) (h1:-26 < x - y) (h2:x - y < 26):x=y:=by
 unfold lt at h
 rw [zC2 _ (by decide),zC2 _ (by decide)] at h
 lia
theorem oO {n:Nat} {f:Nat->Int} {j:Nat} (h:j < n):(fm n f)[j]?=some (lt (f j)):=by
 unfold fm; simp [h]
theorem at0_lt (c:Int):at0 c < gw c:=by
 have hs:1<=gw c:=zBc 1 _
 obtain ⟨j,hj,hx⟩:=bR (zAp (zAp c 4) 8) (m:=gw c) (by lia)
 unfold at0; rw [hx]; lia
noncomputable def pi3 (k j:Nat):Nat:=if j=k % 7 then cut3 k else if j=cut3 k then k % 7 else j
theorem pi3_ne:∀ k m:Fin 25,k.val < m.val->∃ j:Fin 8,pi3 k.val j.val ≠ pi3 m.val j.val:=by decide +kernel
theorem get3 {f:Nat->Int} {k j:Nat} (hj:j < 8):(((fm 8 f).set (cut3 k) ((fm 8 f).getD (k % 7) 0)).set (k % 7) ((fm 8 f).getD (cut3 k) 0))[j]?=some (lt (f (pi3 k j))):=by
 have hk7:k % 7 < 8:=zBi (zDk _ (by decide))
 have hc8:cut3 k < 8:=zDk _ (by decide)
 have hl:(fm 8 f).length=8:=cv 8 f
 have gd:∀ i,i < 8->(fm 8 f).getD i 0=lt (f i):=fun i hi=>by rw [zBy,oO hi]; rfl
 rw [gd _ hk7,gd _ hc8]
 unfold pi3
 by_cases h1:j=k % 7
 ·rw [if_pos h1,h1,zA8 (by rw [zB5,hl]; exact hk7)]
 ·rw [if_neg h1,zAf (Ne.symm h1)]
  by_cases h2:j=cut3 k
  ·rw [if_pos h2,h2,zA8 (by rw [hl]; exact hc8)]
  ·rw [if_neg h2,zAf (Ne.symm h2),oO hj]
theorem wL_ne {c:Int} {k m:Nat} (h:k < m) (hm:m < 25):wL c k ≠ wL c m:=by
 intro e
 have fk:∀ x y:Nat,zAp (x:Int) ((y:Nat):Int)=((x / y:Nat):Int):=nK
 unfold wL at e
 by_cases c1:zAs c 4=1
 ·rw [if_pos c1,if_pos c1] at e
  have hl:=congrArg List.length e
  have hh:=congrArg (·[0]?) e
  simp only [zAc,zCp,cv,zDe] at hl
  have hh:lt (zAp c 4+zAp (k:Int) 8)=lt (zAp c 4+zAp (m:Int) 8):=Option.some.inj hh
  have h8:∀ x:Nat,zAp (x:Int) 8=((x / 8:Nat):Int):=fun x=>fk x 8
  rw [h8,h8] at hh
  have:=o5 hh (by lia) (by lia)
  lia
 rw [if_neg c1,if_neg c1] at e
 by_cases c2:zAs c 4=2
 ·rw [if_pos c2,if_pos c2] at e
  have hh:=congrArg (·[0]?) e
  have hk8:∀ x:Nat,x % 8 < 8:=fun x=>zDk _ (by decide)
  have g:∀ x:Nat,((fm 8 (eE c x)).drop (x % 8)++(fm 8 (eE c x)).take (x % 8))[0]?=some (lt (zAp c 4+x)):=fun x=>by
   rw [zAt (by rw [zBm,cv]; exact Nat.sub_pos_of_lt (hk8 x)),List.getElem?_drop,Nat.add_zero,oO (hk8 x)]
   unfold eE
   rw [show zAp (x:Int) 8=((x / 8:Nat):Int) from fk x 8,show zAp c 4+((x % 8:Nat):Int)+8 * ((x / 8:Nat):Int)=zAp c 4+(x:Int) by lia]
  simp only [g] at hh
  have:=o5 (Option.some.inj hh) (by lia) (by lia)
  lia
 rw [if_neg c2,if_neg c2] at e
 by_cases c3:zAs c 4=3
 ·rw [if_pos c3,if_pos c3] at e
  obtain ⟨j,hj⟩:=pi3_ne ⟨k,by lia⟩ ⟨m,hm⟩ h
  have hh:=congrArg (·[j.val]?) e
  simp only [get3 j.isLt] at hh
  have hb:∀ x:Nat,pi3 x j.val < 8:=fun x=>by
   unfold pi3
   split
   ·exact zDk _ (by decide)
   ·split
    ·exact zBi (zDk _ (by decide))
    ·exact j.isLt
  have b1:=hb k
  have b2:=hb m
  unfold oy at hh
  have:=o5 (Option.some.inj hh) (by lia) (by lia)
  exact hj (by show pi3 k j.val=pi3 m j.val; lia)
 rw [if_neg c3,if_neg c3] at e
 have h3:=at0_lt c
 have hh:=congrArg (·[at0 c]?) e
 have hl:((fm (gw c) (mX c)).take (at0 c)).length=at0 c:=by rw [zCp,cv]; exact Nat.min_eq_left (zC5 h3)
 have g:∀ x:Nat,((fm (gw c) (mX c)).take (at0 c)++[x]++(fm (gw c) (mX c)).drop (at0 c+1))[at0 c]?=some x:=fun x=>by
  rw [zAt (by rw [zAc,hl]; exact zCe _),zBa (zCo hl),hl,Nat.sub_self]; rfl
 simp only [g] at hh
 have:=o5 (Option.some.inj hh) (by lia) (by lia)
 lia
theorem wrd_ne {c:Int} {k m:Nat} (h:k ≠ m) (hk:k < 25) (hm:m < 25):kY c k ≠ kY c m:=fun e=>by
 have e:wL c k=wL c m:=by simpa [kY] using e
 rcases Nat.lt_or_gt_of_ne h with q | q
 ·exact wL_ne q hm e
 ·exact wL_ne q hk e.symm
section
variable {sig:Str->Option Nat} {h c:Nat} {ns:List Str} {a b d:Tr} {x f:Str} {i:Int} {w:Dw}
theorem io (hi:ik i):(Tr.num i).wf sig (h+1) ns none:=⟨rfl,zC4 _,hi⟩
theorem kZ (hx:x ∈ ns):(Tr.name x).wf sig (h+1) ns none:=⟨rfl,zC4 _,hx⟩
theorem iD (ha:a.wf sig h ns none) (hb:b.wf sig h ns none):(Tr.deed w a b).wf sig (h+1) ns none:=⟨rfl,h,rfl,ha,hb⟩
theorem hV (ha:a.wf sig h ns none) (hb:b.wf sig h ns none) (hd:d.wf sig h ns none):(Tr.choose a b d).wf sig (h+1) ns none:=⟨rfl,h,rfl,ha,hb,hd⟩
theorem jN (ha:a.wf sig h ns none) (hb:b.wf sig h (ns++[x]) none):(Tr.lt x a b).wf sig (h+1) ns none:=⟨rfl,h,rfl,ha,hb⟩
theorem iJ (hs:sig f=some c) (hc:c<=100) (ha:a.wf sig h ns (some c)):(Tr.call f a).wf sig (h+1) ns none:=⟨rfl,h,rfl,c,hs,hc,ha⟩
theorem wf_nil:Tr.nil.wf sig h ns (some 0):=rfl
theorem oM (ha:a.wf sig h ns none) (hb:b.wf sig h ns (some c)):(Tr.cons a b).wf sig h ns (some (c+1)):=⟨c,rfl,ha,hb⟩
end
section
variable {call:Str->List Int->Int->Rl} {t r a b c:Tr} {e:Env} {m m1 m2 v x:Int} {vs:List Int} {f y:Str} {rl:Rl}
end
noncomputable def oc (F:Int) (g:Nat) (m:Int) (w:Nat) (v:Int):Rl:=if w<=g/\m+w<=F then .val [v] (m+w) else if m+g<=F then .bad .deep (m+g) else .bad .dry F
theorem out_form (rl:Rl):∃ s v m,mU rl=.tup [.str s,v,.int m]/\(v=.none ∨ ∃ i,v=.int i):=by
 cases rl with
 | val vs m=>exact ⟨_,_,_,rfl,.inr ⟨_,rfl⟩⟩
 | bad c m=>exact ⟨_,_,_,rfl,.inl rfl⟩
theorem eqV3 {s:Str} {m:Int} {v:AV} (h:v=.none ∨ ∃ i,v=.int i):eqV (.tup [.str s,v,.int m]) (.tup [.str s,v,.int m])=some true:=by
 rcases h with rfl | ⟨i,rfl⟩
 ·show some ((s == s) && (true && ((m == m) && true)))=_
  rw [beq_self_eq_true,beq_self_eq_true]; rfl
 ·show some ((s == s) && ((i == i) && ((m == m) && true)))=_
  rw [beq_self_eq_true,beq_self_eq_true,beq_self_eq_true]; rfl
section
variable {L:bp} {st:St} {K n k i:Nat} {ns:List Int} {d e:D AV} {s s₁:S} {x y:Int}
theorem lH (h:al k L=some (.val (.lst (ns.map .int)))):aX (wX K (n+1)) "_law_cell_at" [ae k,af (.int (i:Int))] ⟨L,st⟩=.ok (.int (ns.getD i 0)) ⟨L,st⟩ :=
 a8 (vs:=[.lst (ns.map .int),.int (i:Int)]) (s₁:=⟨L,st⟩) (ag (bk h) rfl) (mf ns i)
theorem iu {m:Nat} (hd:d s=.ok (.int x) s) (hm:eI (m:Int)=true):aj .Mod d (af (.int (m:Int))) s=.ok (.int (zAs x m)) s :=
 ay (a':=.int x) (b':=.int (m:Int)) hd rfl rfl rfl (by show (if eI (m:Int) then _ else _)=_; rw [if_pos hm])
theorem div_at {m:Nat} (hd:d s=.ok (.int x) s) (hm:eI (m:Int)=true):aj .FloorDiv d (af (.int (m:Int))) s=.ok (.int (zAp x m)) s :=
 ay (a':=.int x) (b':=.int (m:Int)) hd rfl rfl rfl (by show (if eI (m:Int) then _ else _)=_; rw [if_pos hm])
theorem mul_ok (h:b7 x=true):mO .Mult (.int x) (.int y)=some (.int (x * y)):=by
 show (if b7 x || b7 y then some (AV.int (x * y)) else none)=_
 rw [h]; rfl
theorem pz (h:d s=.ok (.int x) s₁):aB d .Eq (af (.int y)) s=.ok (.bool (decide (x=y))) s₁:=(bT h rfl).trans rfl
end
theorem kL {sig:Str->Option Nat}:∀ (t:Tr) {h h':Nat} {ns ns':List Str} {k:Option Nat},h<=h'->(∀ x ∈ ns,x ∈ ns')->t.wf sig h ns k->t.wf sig h' ns' k:=by
 intro t
 have up:∀ {h h':Nat},h+1<=h'->∃ j,h'=j+1/\h<=j:=fun {h h'} q=>⟨h' - 1,(Nat.sub_add_cancel (zAj (zBx (zA7 _)) q)).symm,Nat.le_sub_of_add_le q⟩
 induction t with
 | num i=>exact fun hh hn q=>⟨q.1,zBl q.2.1 hh,q.2.2⟩
 | name x=>exact fun hh hn q=>⟨q.1,zBl q.2.1 hh,hn _ q.2.2⟩
 | deed w a b iha ihb =>
  intro h h' ns ns' k hh hn q
  obtain ⟨rfl,j,rfl,h1,h2⟩:=q
  obtain ⟨i,rfl,hi⟩:=up hh
  exact iD (iha hi hn h1) (ihb hi hn h2)
 | choose a b c iha ihb ihc =>
  intro h h' ns ns' k hh hn q
  obtain ⟨rfl,j,rfl,h1,h2,h3⟩:=q
  obtain ⟨i,rfl,hi⟩:=up hh
  exact hV (iha hi hn h1) (ihb hi hn h2) (ihc hi hn h3)
 | lt x a b iha ihb =>
  intro h h' ns ns' k hh hn q
  obtain ⟨rfl,j,rfl,h1,h2⟩:=q
  obtain ⟨i,rfl,hi⟩:=up hh
  exact jN (iha hi hn h1) (ihb hi (fun y hy=>zA2.mpr ((zA2.mp hy).imp (hn y) id)) h2)
 | call f l ih =>
  intro h h' ns ns' k hh hn q
  obtain ⟨rfl,j,rfl,c,h1,hc,h2⟩:=q
  obtain ⟨i,rfl,hi⟩:=up hh
  exact iJ h1 hc (ih hi hn h2)
 | nil=>exact fun hh hn q=>q
 | cons t r iht ihr =>
  intro h h' ns ns' k hh hn q
  obtain ⟨c,rfl,h1,h2⟩:=q
  exact oM (iht hh hn h1) (ihr hh hn h2)
noncomputable def trL:List Tr->Tr
 | []=>.nil
 | t::r=>.cons t (trL r)
theorem o9:∀ l:List Tr,(trL l).enc=.tup (l.map Tr.enc)
 | []=>rfl
 | t::r=>by
  show AV.tup (t.enc::dT (trL r).enc)=_
  rw [o9 r]; rfl
theorem pH {sig:Str->Option Nat} {h:Nat} {ns:List Str}:∀ l:List Tr,(∀ t ∈ l,t.wf sig h ns none)->(trL l).wf sig h ns (some l.length)
 | [],_=>wf_nil
 | t::r,q=>oM (q t zAb) (pH r fun x hx=>q x (zAe _ hx))
theorem trL_len:∀ l:List Tr,len (trL l)=(l.map len).sum
 | []=>rfl
 | t::r=>by
  show len t+len (trL r)=_
  rw [trL_len r]; rfl
noncomputable abbrev It:=Tr × Nat
noncomputable def bj (p:It):AV:=.tup [p.1.enc,.int (p.2:Int)]
noncomputable def tall (l:List It):Nat:=mxN (l.map (·.2))
theorem eQ {v lo hi:D AV} {s:S} {c a b c' r:AV} (h1:v s=.ok c s) (h2:lo s=.ok a s) (h3:hi s=.ok b s) (hc:aT c s=some c') (hv:kC c' a b=some r):cj v lo hi s=.ok r s:=by
 show aE v _ s=_
 rw [aq h1]; show aE lo _ s=_
 rw [aq h2]; show aE hi _ s=_
 rw [aq h3]; show aE (deref c) _ s=_
 rw [aq (fE hc),hv]; rfl
theorem ints_it:∀ l:List It,dg (l.map fun p=>.int (p.2:Int))=some ((l.map (·.2)).map fun i:Nat=>(i:Int))
 | []=>rfl
 | x::r=>by show (dg (r.map fun p=>.int (p.2:Int))).map _=_; rw [ints_it r]; rfl
theorem max_it (l:List It):biMax.den false [.lst (AV.int 0::l.map fun p=>.int (p.2:Int))]=some (.int (tall l:Int)):=by
 show ((dg (l.map fun p:It=>AV.int (p.2:Int))).map _).bind (fun ns=>(gu ns).map AV.int)=_
 rw [ints_it]
 show some (AV.int (((l.map (·.2)).map fun i:Nat=>(i:Int)).foldl max ((0:Nat):Int)))=_
 rw [g8,Nat.zero_max]; rfl
theorem tup_add {x y:List AV} (hx:x.isEmpty=false) (hy:y.isEmpty=false) (h:(x++y).length<=1000):mO .Add (.tup x) (.tup y)=some (.tup (x++y)):=by
 show (if x.isEmpty || y.isEmpty then none else nC (x++y))=_
 rw [hx,hy]
 exact if_pos (zAj h (by decide +kernel))
theorem bM {es:List (D AV)} {vs:List AV} {s s':S} (h:bI es s=.ok vs s') (hl:zCd vs.length 1000=true):aI es s=.ok (.tup vs) s':=by
 show aE (bI es) _ s=_
 rw [aq h,show nC vs=some (.tup vs) from if_pos (zAj (zBd hl) (by decide +kernel))]; rfl
theorem o6 {es:List (D AV)} {vs:List AV} {s s':S} (h:bI es s=.ok vs s') (hl:zCd vs.length 1000=true):cF es s=.ok (.lst vs) s':=by
 show aE (bI es) _ s=_
 rw [aq h,show bz vs=some (.lst vs) from if_pos (zAj (zBd hl) (by decide +kernel))]; rfl
noncomputable def pK (c:Bool) (l:List It):List AV:=bif c then [.tup (l.map fun p=>p.1.enc)] else l.map fun p=>p.1.enc
noncomputable def jn (S:List It) (m:Nat) (fr:List AV) (c:Bool):AV :=
 if S.length < m ∨ 6 < tall (S.drop (S.length - m)) then .none
 else .lst ((S.take (S.length - m)).map bj++[.tup [.tup (fr++pK c (S.drop (S.length - m))),.int ((1+tall (S.drop (S.length - m)):Nat):Int)]])
section
variable {K n m:Nat} {st:St} {S:List It} {fr:List AV} {c:Bool}
noncomputable def jL (S:List It) (m:Nat) (fr:List AV) (c:Bool) (r:bp):bp:=(0,.val (.lst (S.map bj)))::(1,.val (.int (m:Int)))::(2,.val (.tup fr))::(3,.val (.bool c))::r
theorem jlen {r:bp}:aS az false [aa 0] ⟨jL S m fr c r,st⟩=.ok (.int (S.length:Int)) ⟨jL S m fr c r,st⟩:=by
 rw [← zAd (f:=bj)]; rfl
theorem jsub {r:bp} (h:m<=S.length):aj .Sub (aS az false [aa 0]) (aa 1) ⟨jL S m fr c r,st⟩=.ok (.int ((S.length - m:Nat):Int)) ⟨jL S m fr c r,st⟩ :=
 ay jlen rfl rfl rfl (show some (AV.int ((S.length:Int) - (m:Int)))=_ by rw [Int.ofNat_sub h])
theorem jcomp {q:List It} {r:bp} {g:It->AV} {j:Int} (hq:q.length<=1000) (hg:∀ p ∈ q,idxV (bj p) (.int j)=some (g p)) :
  bG [] 1 (am (aa 1) (af (.int j))) (bw (ae 4)) ⟨jL S m fr c ((4,.val (.lst (q.map bj)))::r),st⟩=.ok (.lst (q.map g)) ⟨jL S m fr c ((4,.val (.lst (q.map bj)))::r),st⟩ :=
 iT (l:=q) (f:=bj) (g:=g) (s₁:=⟨jL S m fr c ((4,.val (.lst (q.map bj)))::r),st⟩) rfl hq fun p hp=>⟨_,aU (s₁:=⟨[(1,.val (bj p))],st⟩) rfl rfl rfl (hg p hp)⟩
theorem jcompO {q:List It} {g:It->AV} {j:Int} (hq:q.length<=1000) (hg:∀ p ∈ q,idxV (bj p) (.int j)=some (g p)) :
  bG [] 1 (am (aa 1) (af (.int j))) (bw (ae 4)) ⟨jL S m fr c [(4,.own (.lst (q.map bj)))],st⟩=.ok (.lst (q.map g)) ⟨jL S m fr c [(4,.val (.lst (q.map bj)))],st⟩ :=
 iT (l:=q) (f:=bj) (g:=g) (s₁:=⟨jL S m fr c [(4,.val (.lst (q.map bj)))],st⟩) rfl hq fun p hp=>⟨_,aU (s₁:=⟨[(1,.val (bj p))],st⟩) rfl rfl rfl (hg p hp)⟩
theorem joined_ok (hS:S.length<=400) (hf:fr.isEmpty=false) (hfl:fr.length<=10) (hc:c=true ∨ 1<=m):au PP K (n+1) ⟨#[]⟩ "_law_joined" [.lst (S.map bj),.int (m:Int),.tup fr,.bool c] st=.ok (jn S m fr c) st:=by
 rw [lm]
 show RT (gG (wX K n)) ⟨jL S m fr c [],st⟩ _
 by_cases h1:S.length < m
 ·refine .ifT (φ:=(S.length:Int) < (m:Int)) (Int.ofNat_lt.mpr h1) ((bT (b:=.int (S.length:Int)) rfl jlen).trans rfl) (.assoc (.ret rfl ?_))
  unfold jn; rw [if_pos (.inl h1)]
 refine .ifN (φ:=(S.length:Int) < (m:Int)) (fun q=>h1 (Int.ofNat_lt.mp q)) ((bT (b:=.int (S.length:Int)) rfl jlen).trans rfl) (.next ?_)
 have hm:m<=S.length:=Nat.le_of_not_lt h1
 have hd:S.length - m<=(S.map bj).length:=by rw [zAd]; exact Nat.sub_le _ _
 have e4:cj (aa 0) (aj .Sub (aS az false [aa 0]) (aa 1)) (af .none) ⟨jL S m fr c [],st⟩=.ok (.lst ((S.drop (S.length - m)).map bj)) ⟨jL S m fr c [],st⟩:=by
  rw [zDj]; exact eQ rfl (jsub hm) rfl rfl (gL hd)
 generalize hq:S.drop (S.length - m)=q at e4
 have hql:q.length<=400:=by rw [← hq,zBm]; exact zAj (Nat.sub_le _ _) hS
 refine .go (s':=⟨jL S m fr c [(4,.own (.lst (q.map bj)))],st⟩) (bf e4) ?_
 have e5:aj .Add (af (.int 1)) (aS biMax false [aj .Add (cF [af (.int 0)]) (bG [] 1 (am (aa 1) (af (.int 1))) (bw (ae 4)))]) ⟨jL S m fr c [(4,.own (.lst (q.map bj)))],st⟩=.ok (.int ((1+tall q:Nat):Int)) ⟨jL S m fr c [(4,.val (.lst (q.map bj)))],st⟩ :=
  ay (a':=.int 1) rfl (cg (ay (a':=.lst [.int 0]) rfl (jcompO (g:=fun p=>.int (p.2:Int)) (zAj hql (by decide)) fun p hp=>rfl) rfl rfl (cN (by rw [zAc,zAd]; exact zAj (zB2 hql 1) (by decide)))) rfl (max_it q)) rfl rfl (by show some (AV.int (1+(tall q:Int)))=_; rw [zC8]; rfl)
 refine .go (s':=⟨jL S m fr c [(4,.val (.lst (q.map bj))),(5,.val (.int ((1+tall q:Nat):Int)))],st⟩) (bf e5) ?_
 by_cases h2:6 < tall q
 ·refine .ifT (φ:=(7:Int) < ((1+tall q:Nat):Int)) (by lia) rfl (.assoc (.ret rfl ?_))
  unfold jn; rw [hq,if_pos (.inr h2)]
 refine .ifN (φ:=(7:Int) < ((1+tall q:Nat):Int)) (by lia) rfl (.next ?_)
 have hj:jn S m fr c=.lst ((S.take (S.length - m)).map bj++[.tup [.tup (fr++pK c q),.int ((1+tall q:Nat):Int)]]):=by
  unfold jn; rw [hq,if_neg (fun z=>z.elim h1 h2)]
 have e6:aS dP false [bG [] 1 (am (aa 1) (af (.int 0))) (bw (ae 4))] ⟨jL S m fr c [(4,.val (.lst (q.map bj))),(5,.val (.int ((1+tall q:Nat):Int)))],st⟩=.ok (.tup (q.map fun p=>p.1.enc)) ⟨jL S m fr c [(4,.val (.lst (q.map bj))),(5,.val (.int ((1+tall q:Nat):Int)))],st⟩ :=
  cg (jcomp (g:=fun p=>p.1.enc) (zAj hql (by decide)) fun p hp=>rfl) rfl rfl
 refine .go (s':=⟨jL S m fr c [(4,.val (.lst (q.map bj))),(5,.val (.int ((1+tall q:Nat):Int))),(6,.val (.tup (q.map fun p=>p.1.enc)))],st⟩) (aQ e6) ?_
 have hT:(pK c q).isEmpty=false/\(pK c q).length<=400:=by
  unfold pK
  cases c with
  | true=>exact ⟨rfl,by show 1<=400; decide⟩
  | false =>
   refine ⟨?_,by show (q.map _).length<=400; rw [zAd]; exact hql⟩
   have h3:1<=q.length:=by
    rw [← hq,zBm,Nat.sub_sub_self hm]
    exact hc.elim (fun z=>nomatch z) id
   cases q with
   | nil=>exact absurd h3 (by decide)
   | cons x r=>rfl
 have key:RT (ac (aV (aj .Add (cj (aa 0) (af .none) (aj .Sub (aS az false [aa 0]) (aa 1))) (cF [aI [aj .Add (aa 2) (aa 6),ae 5]]))) (af .next)) ⟨jL S m fr c [(4,.val (.lst (q.map bj))),(5,.val (.int ((1+tall q:Nat):Int))),(6,.val (.tup (pK c q)))],st⟩ (.ok (jn S m fr c) st):=by
  have a1:cj (aa 0) (af .none) (aj .Sub (aS az false [aa 0]) (aa 1)) ⟨jL S m fr c [(4,.val (.lst (q.map bj))),(5,.val (.int ((1+tall q:Nat):Int))),(6,.val (.tup (pK c q)))],st⟩=.ok (.lst ((S.take (S.length - m)).map bj)) ⟨jL S m fr c [(4,.val (.lst (q.map bj))),(5,.val (.int ((1+tall q:Nat):Int))),(6,.val (.tup (pK c q)))],st⟩:=by
   rw [zC7]; exact eQ rfl rfl (jsub hm) rfl (iq hd)
  have a2:aj .Add (aa 2) (aa 6) ⟨jL S m fr c [(4,.val (.lst (q.map bj))),(5,.val (.int ((1+tall q:Nat):Int))),(6,.val (.tup (pK c q)))],st⟩=.ok (.tup (fr++pK c q)) ⟨jL S m fr c [(4,.val (.lst (q.map bj))),(5,.val (.int ((1+tall q:Nat):Int))),(6,.val (.tup (pK c q)))],st⟩ :=
   ay (a':=.tup fr) (b':=.tup (pK c q)) rfl rfl rfl rfl (tup_add hf hT.1 (by rw [zAc]; exact zAj (zC3 hfl hT.2) (by decide)))
  have a3:cF [aI [aj .Add (aa 2) (aa 6),ae 5]] ⟨jL S m fr c [(4,.val (.lst (q.map bj))),(5,.val (.int ((1+tall q:Nat):Int))),(6,.val (.tup (pK c q)))],st⟩=.ok (.lst [.tup [.tup (fr++pK c q),.int ((1+tall q:Nat):Int)]]) ⟨jL S m fr c [(4,.val (.lst (q.map bj))),(5,.val (.int ((1+tall q:Nat):Int))),(6,.val (.tup (pK c q)))],st⟩ :=
   o6 (ag (bM (ag a2 rfl) rfl) rfl) rfl
  refine .ret (ay a1 a3 rfl rfl (cN ?_)) (by rw [hj])
  rw [zAc,zAd,zCp]
  exact zAj (zBo (zAj (zB8 _ _) hS) 1) (by decide)
 cases c with
 | true=>exact .ifB (c:=true) rfl (.assoc (.go (s':=⟨jL S m fr true [(4,.val (.lst (q.map bj))),(5,.val (.int ((1+tall q:Nat):Int))),(6,.val (.tup (pK true q)))],st⟩) rfl (.next key)))
 | false=>exact .ifB (c:=false) rfl (.next key)
end
noncomputable def nbr (c:Int):Int:=if zAs c 9=4 then 1000000000000 else zAs (zAp c 9) 41 - 20
theorem nbr_in (c:Int):ik (nbr c):=by
 unfold nbr
 split
 ·exact ⟨by decide,by decide⟩
 ·obtain ⟨j,hj,e⟩:=bR (zAp c 9) (m:=41) (by decide)
  rw [show zAs (zAp c 9) 41=j from e]; exact ⟨by lia,by lia⟩
theorem nz {K n:Nat} {st:St} (c:Int):au PP K (n+1) ⟨#[]⟩ "_law_number" [.int c] st=.ok (.int (nbr c)) st:=by
 rw [lg]
 have md:aj .Mod (aa 0) (af (.int 9)) ⟨[(0,.val (.int c))],st⟩=.ok (.int (zAs c 9)) ⟨[(0,.val (.int c))],st⟩:=ay (a':=.int c) (b':=.int 9) rfl rfl rfl rfl rfl
 have dv:aj .FloorDiv (aa 0) (af (.int 9)) ⟨[(0,.val (.int c))],st⟩=.ok (.int (zAp c 9)) ⟨[(0,.val (.int c))],st⟩:=ay (a':=.int c) (b':=.int 9) rfl rfl rfl rfl rfl
 show RT (gy (wX K n)) ⟨[(0,.val (.int c))],st⟩ _
 unfold nbr
 by_cases h0:zAs c 9=4
 ·rw [if_pos h0]
  exact .ifT (φ:=zAs c 9=4) h0 (pz md) (.assoc (.ret rfl rfl))
 ·rw [if_neg h0]
  exact .ifN (φ:=zAs c 9=4) h0 (pz md) (.next (.ret (ay (a':=.int (zAs (zAp c 9) 41)) (b':=.int 20) (iu (m:=41) dv rfl) rfl rfl rfl rfl) rfl))
noncomputable def wt (S:List It):Nat:=(S.map fun p=>len p.1).sum
noncomputable def Iv (sig:Str->Option Nat) (ns:List Str) (S:List It):Prop:=∀ p ∈ S,p.1.wf sig p.2 ns none/\p.2<=7
theorem le_mxN:∀ {l:List Nat} {x:Nat},x ∈ l->x<=mxN l
 | y::r,x,h=>by
  show x<=max y (mxN r)
  rcases zAl.mp h with rfl | h
  ·exact Nat.le_max_left _ _
  ·exact zAj (le_mxN h) (Nat.le_max_right _ _)
theorem pe (a b:List It):wt (a++b)=wt a+wt b:=by unfold wt; rw [zAr,List.sum_append]
theorem jn_case {sig:Str->Option Nat} {ns:List Str} {S:List It} {m:Nat} {fr:List AV} {c:Bool} (I:Iv sig ns S)
  (ht:∀ q:List It,q.length=m->(∀ p ∈ q,p ∈ S)->∃ t:Tr,t.enc=.tup (fr++pK c q)/\(∀ h,(∀ p ∈ q,p.1.wf sig h ns none)->t.wf sig (h+1) ns none)/\len t<=wt q+2) :
  jn S m fr c=.none ∨ ∃ S':List It,jn S m fr c=.lst (S'.map bj)/\Iv sig ns S'/\S'.length<=S.length+1/\wt S'<=wt S+2:=by
 unfold jn
 by_cases h:S.length < m ∨ 6 < tall (S.drop (S.length - m))
 ·exact .inl (if_pos h)
 right
 rw [if_neg h]
 have hm:m<=S.length:=Nat.le_of_not_lt fun q=>h (.inl q)
 have h6:tall (S.drop (S.length - m))<=6:=Nat.le_of_not_lt fun q=>h (.inr q)
 have hS:S.take (S.length - m)++S.drop (S.length - m)=S:=zCt _ _
 have hq:(S.drop (S.length - m)).length=m:=by rw [zBm,Nat.sub_sub_self hm]
 generalize S.drop (S.length - m)=q at h6 hS hq
 generalize S.take (S.length - m)=p at hS
 subst hS
 obtain ⟨t,e1,e2,e3⟩:=ht q hq fun x hx=>zBg _ hx
 refine ⟨p++[(t,1+tall q)],?_,fun x hx=>?_,?_,?_⟩
 ·rw [zAr,← e1]; rfl
 ·rcases zA2.mp hx with hx | hx
  ·exact I x (zBj _ hx)
  ·rw [zAi.mp hx]
   refine ⟨?_,by show 1+tall q<=7; lia⟩
   show t.wf sig (1+tall q) ns none
   rw [Nat.add_comm]
   exact e2 _ fun y hy=>kL y.1 (le_mxN (List.mem_map_of_mem hy)) (fun _ z=>z) (I y (zBg _ hy)).1
 ·rw [zAc,zAc]; exact zBo (zBc _ _) 1
 ·rw [pe,pe]
  show wt p+(len t+0)<=_
  lia
noncomputable def b0 (q:Str × Nat):AV:=.tup [.str q.1,.int (q.2:Int)]
noncomputable def pS (S:List It) (cell:Int) (nm:List Str) (cs:List (Str × Nat)) (j:Nat) (x k:Int) (y:Str) (r:bp):bp:=(0,.val (.lst (S.map bj)))::(1,.val (.int cell))::(2,.val (.lst (nm.map .str)))::(3,.val (.lst (cs.map b0)))::(4,.val (.int (j:Int)))::(5,.val (.int x))::(6,.val (.int k))::(7,.val (.str y))::r
noncomputable def pfB (X:Ctx):D Fl:=ac (bQ (aB (aa 8) .Is (af .none)) (ac (aV (aj .Add (aa 0) (cF [aI [aI [af (.str "num"),aX X "_law_number" [ae 5]],af (.int 1)]]))) (af .next)) (af .next)) (ac (aV (ae 8)) (af .next))
section
variable {K n j:Nat} {st:St} {S:List It} {cell x k:Int} {nm:List Str} {cs:List (Str × Nat)} {y:Str} {r:bp} {sig:Str->Option Nat} {ns:List Str}
theorem stk_add {t:Tr} {d:D AV} {L:bp} (hS:S.length<=399) (hp:aa 0 ⟨L,st⟩=.ok (.pl 0) ⟨L,st⟩) (h0:aT (.pl 0) ⟨L,st⟩=some (.lst (S.map bj))) (hd:d ⟨L,st⟩=.ok t.enc ⟨L,st⟩):aj .Add (aa 0) (cF [aI [d,af (.int 1)]]) ⟨L,st⟩=.ok (.lst ((S++[(t,1)]).map bj)) ⟨L,st⟩:=by
 rw [zAr]
 exact ay (b':=.lst [.tup [t.enc,.int 1]]) hp (o6 (ag (bM (ag hd rfl) rfl) rfl) rfl) h0 rfl (cN (by rw [zAc,zAd]; exact zAj (zBo hS 1) (by decide)))
theorem fin_none (hS:S.length<=399):RT (pfB (wX K (n+1))) ⟨pS S cell nm cs j x k y ((8,.val .none)::r),st⟩ (.ok (.lst ((S++[(Tr.num (nbr x),1)]).map bj)) st) :=
 .ifB (c:=true) rfl (.assoc (.ret (stk_add (t:=.num (nbr x)) hS rfl rfl (bM (ag rfl (ag (a8 (vs:=[.int x]) (s₁:=⟨pS S cell nm cs j x k y ((8,.val .none)::r),st⟩) rfl (nz x)) rfl)) rfl)) rfl))
theorem fin_val {l:List AV}:RT (pfB (wX K (n+1))) ⟨pS S cell nm cs j x k y ((8,.val (.lst l))::r),st⟩ (.ok (.lst l) st) :=
 .ifB (c:=false) rfl (.next (.ret (s':=⟨pS S cell nm cs j x k y ((8,.val (.lst l))::r),st⟩) rfl rfl))
theorem fin_own {l:List AV}:RT (pfB (wX K (n+1))) ⟨pS S cell nm cs j x k y ((8,.own (.lst l))::r),st⟩ (.ok (.lst l) st) :=
 .ifB (c:=false) rfl (.next (.ret (s':=⟨pS S cell nm cs j x k y ((8,.val (.lst l))::r),st⟩) rfl rfl))
noncomputable def lO (sig:Str->Option Nat) (ns:List Str) (S:List It) (st:St) (rt:Ret):Prop:=∃ S':List It,rt=.ok (.lst (S'.map bj)) st/\Iv sig ns S'/\S'.length<=S.length+1/\wt S'<=wt S+2
theorem lD {t:Tr} (I:Iv sig ns S) (ht:t.wf sig 1 ns none) (hl:len t<=2):lO sig ns S st (.ok (.lst ((S++[(t,1)]).map bj)) st) :=
 ⟨_,rfl,fun p hp=>(zA2.mp hp).elim (I p) fun q=>by rw [zAi.mp q]; exact ⟨ht,show 1<=7 by decide⟩,by rw [zAc]; exact zAy _,by rw [pe]; exact zB2 (show len t+0<=2 from hl) _⟩
theorem fin_jn {m:Nat} {fr:List AV} {c:Bool} (hS:S.length<=399) (I:Iv sig ns S)
  (ht:∀ q:List It,q.length=m->(∀ p ∈ q,p ∈ S)->∃ t:Tr,t.enc=.tup (fr++pK c q)/\(∀ h,(∀ p ∈ q,p.1.wf sig h ns none)->t.wf sig (h+1) ns none)/\len t<=wt q+2) :
  ∃ rt,RT (pfB (wX K (n+1))) ⟨pS S cell nm cs j x k y ((8,.val (jn S m fr c))::r),st⟩ rt/\lO sig ns S st rt:=by
 rcases jn_case I ht with e | ⟨S',e,h⟩
 ·rw [e]; exact ⟨_,fin_none hS,lD I (io (nbr_in x)) (by show 1<=2; decide)⟩
 ·rw [e]; exact ⟨_,fin_val,S',rfl,h⟩
end
noncomputable def ptB (X:Ctx):D Fl:=ac (bQ (bc .Or [aB (aa 6) .Eq (af (.int 1)),aB (aa 6) .Eq (af (.int 2))]) (ac (bo 8 (aj .Add (aa 0) (cF [aI [aI [af (.str "name"),ae 7],af (.int 1)]]))) (af .next)) (af .next)) (ac (bQ (ou (af (.int 2)) .Lt (aa 6) .Lt (af (.int 8))) (ac (aL 8 (aX X "_law_joined" [ae 0,af (.int 2),aI [am (cF [af (.str "sum"),af (.str "less"),af (.str "times"),af (.str "part"),af (.str "below")]) (aj .Sub (aa 6) (af (.int 3)))],af (.bool false)])) (af .next)) (af .next)) (ac (bQ (aB (aa 6) .Eq (af (.int 8))) (ac (aL 8 (aX X "_law_joined" [ae 0,af (.int 3),aI [af (.str "choose")],af (.bool false)])) (af .next)) (af .next)) (ac (bQ (aB (aa 6) .Eq (af (.int 9))) (ac (aL 8 (aX X "_law_joined" [ae 0,af (.int 2),aI [af (.str "let"),ae 7],af (.bool false)])) (af .next)) (af .next)) (ac (bQ (aB (aa 6) .Gt (af (.int 9))) (ac (aL 9 (am (aa 3) (aj .Mod (aa 5) (aS az false [aa 3])))) (ac (bQ (bc .And [aB (aj .Mod (aj .FloorDiv (aa 5) (af (.int 31))) (af (.int 4))) .NotEq (af (.int 0)),aB (aj .Add (aa 4) (af (.int 1))) .Lt (aS az false [aa 3])]) (ac (aL 9 (am (aa 3) (aj .Add (aj .Add (aa 4) (af (.int 1))) (aj .Mod (aa 5) (aj .Sub (aj .Sub (aS az false [aa 3]) (aa 4)) (af (.int 1))))))) (af .next)) (af .next)) (ac (aL 8 (aX X "_law_joined" [ae 0,am (aa 9) (af (.int 1)),aI [af (.str "call"),am (aa 9) (af (.int 0))],af (.bool true)])) (af .next)))) (af .next)) (ac (bQ (aB (aa 8) .Is (af .none)) (ac (aV (aj .Add (aa 0) (cF [aI [aI [af (.str "num"),aX X "_law_number" [ae 5]],af (.int 1)]]))) (af .next)) (af .next)) (ac (aV (ae 8)) (af .next)))))))
noncomputable abbrev cq1:D AV:=bc .Or [aB (aa 6) .Eq (af (.int 1)),aB (aa 6) .Eq (af (.int 2))]
noncomputable abbrev cq2:D AV:=ou (af (.int 2)) .Lt (aa 6) .Lt (af (.int 8))
noncomputable abbrev cq3:D AV:=aB (aa 6) .Eq (af (.int 8))
noncomputable abbrev cq4:D AV:=aB (aa 6) .Eq (af (.int 9))
noncomputable abbrev cq5:D AV:=aB (aa 6) .Gt (af (.int 9))
noncomputable abbrev dwD:D AV:=am (cF [af (.str "sum"),af (.str "less"),af (.str "times"),af (.str "part"),af (.str "below")]) (aj .Sub (aa 6) (af (.int 3)))
structure Cd (b1 b2 b3 b4 b5:Bool) (k:Int):Prop where
 h1:∀ S cell nm cs j x y r st,cq1 ⟨pS S cell nm cs j x k y r,st⟩=.ok (.bool b1) ⟨pS S cell nm cs j x k y r,st⟩
 h2:∀ S cell nm cs j x y r st,cq2 ⟨pS S cell nm cs j x k y r,st⟩=.ok (.bool b2) ⟨pS S cell nm cs j x k y r,st⟩
 h3:∀ S cell nm cs j x y r st,cq3 ⟨pS S cell nm cs j x k y r,st⟩=.ok (.bool b3) ⟨pS S cell nm cs j x k y r,st⟩
 h4:∀ S cell nm cs j x y r st,cq4 ⟨pS S cell nm cs j x k y r,st⟩=.ok (.bool b4) ⟨pS S cell nm cs j x k y r,st⟩
 h5:∀ S cell nm cs j x y r st,cq5 ⟨pS S cell nm cs j x k y r,st⟩=.ok (.bool b5) ⟨pS S cell nm cs j x k y r,st⟩
noncomputable def isDw (w:Dw) (k:Int):Prop:=∀ S cell nm cs j x y r st,dwD ⟨pS S cell nm cs j x k y r,st⟩=.ok (.str w.str) ⟨pS S cell nm cs j x k y r,st⟩
noncomputable abbrev pu (S:List It) (t:Tr):List It:=S++[(t,1)]
section
variable {K n j:Nat} {st:St} {S:List It} {cell x k:Int} {nm:List Str} {cs:List (Str × Nat)} {y:Str} {r:bp} {sig:Str->Option Nat} {ns:List Str} {rt:Ret}
theorem pt0 (C:Cd false false false false false k) (h:RT (pfB (wX K (n+1))) ⟨pS S cell nm cs j x k y ((8,.val .none)::r),st⟩ rt):RT (ptB (wX K (n+1))) ⟨pS S cell nm cs j x k y ((8,.val .none)::r),st⟩ rt :=
 .ifB (C.h1 ..) (.next (.ifB (C.h2 ..) (.next (.ifB (C.h3 ..) (.next (.ifB (C.h4 ..) (.next (.ifB (C.h5 ..) (.next h)))))))))
theorem pt1 (C:Cd true false false false false k) (hS:S.length<=399) (h:RT (pfB (wX K (n+1))) ⟨pS S cell nm cs j x k y [(8,.own (.lst ((pu S (.name y)).map bj)))],st⟩ rt):RT (ptB (wX K (n+1))) ⟨pS S cell nm cs j x k y [(8,.val .none)],st⟩ rt :=
 .ifB (C.h1 ..) (.assoc (.go (s':=⟨pS S cell nm cs j x k y [(8,.own (.lst ((pu S (.name y)).map bj)))],st⟩) (bf (stk_add (t:=.name y) (d:=aI [af (.str "name"),ae 7]) (L:=pS S cell nm cs j x k y [(8,.val .none)]) hS rfl rfl rfl)) (.next (.ifB (C.h2 ..) (.next (.ifB (C.h3 ..) (.next (.ifB (C.h4 ..) (.next (.ifB (C.h5 ..) (.next h)))))))))))
theorem jn_go {m:Nat} {fr:List AV} {c:Bool} {es:List (D AV)} (hS:S.length<=399) (hf:fr.isEmpty=false) (hfl:fr.length<=10) (hc:c=true ∨ 1<=m) (he:bI es ⟨pS S cell nm cs j x k y ((8,.val .none)::r),st⟩=.ok [.lst (S.map bj),.int (m:Int),.tup fr,.bool c] ⟨pS S cell nm cs j x k y ((8,.val .none)::r),st⟩):aL 8 (aX (wX K (n+1)) "_law_joined" es) ⟨pS S cell nm cs j x k y ((8,.val .none)::r),st⟩=.ok .next ⟨pS S cell nm cs j x k y ((8,.val (jn S m fr c))::r),st⟩ :=
 aQ (a8 he (joined_ok (zAj hS (by decide)) hf hfl hc))
theorem pt2 {w:Dw} (C:Cd false true false false false k) (hw:isDw w k) (hS:S.length<=399) (h:RT (pfB (wX K (n+1))) ⟨pS S cell nm cs j x k y [(8,.val (jn S 2 [.str w.str] false))],st⟩ rt):RT (ptB (wX K (n+1))) ⟨pS S cell nm cs j x k y [(8,.val .none)],st⟩ rt :=
 .ifB (C.h1 ..) (.next (.ifB (C.h2 ..) (.assoc (.go (jn_go (m:=2) (fr:=[.str w.str]) (c:=false) hS rfl (by show 1<=10; decide) (.inr (by decide)) (ag rfl (ag rfl (ag (bM (ag (hw ..) rfl) rfl) rfl)))) (.next (.ifB (C.h3 ..) (.next (.ifB (C.h4 ..) (.next (.ifB (C.h5 ..) (.next h)))))))))))
theorem pt3 (C:Cd false false true false false k) (hS:S.length<=399) (h:RT (pfB (wX K (n+1))) ⟨pS S cell nm cs j x k y [(8,.val (jn S 3 [.str "choose"] false))],st⟩ rt):RT (ptB (wX K (n+1))) ⟨pS S cell nm cs j x k y [(8,.val .none)],st⟩ rt :=
 .ifB (C.h1 ..) (.next (.ifB (C.h2 ..) (.next (.ifB (C.h3 ..) (.assoc (.go (jn_go (m:=3) (fr:=[.str "choose"]) (c:=false) hS rfl (by show 1<=10; decide) (.inr (by decide)) rfl) (.next (.ifB (C.h4 ..) (.next (.ifB (C.h5 ..) (.next h)))))))))))
theorem pt4 (C:Cd false false false true false k) (hS:S.length<=399) (h:RT (pfB (wX K (n+1))) ⟨pS S cell nm cs j x k y [(8,.val (jn S 2 [.str "let",.str y] false))],st⟩ rt):RT (ptB (wX K (n+1))) ⟨pS S cell nm cs j x k y [(8,.val .none)],st⟩ rt :=
 .ifB (C.h1 ..) (.next (.ifB (C.h2 ..) (.next (.ifB (C.h3 ..) (.next (.ifB (C.h4 ..) (.assoc (.go (jn_go (m:=2) (fr:=[.str "let",.str y]) (c:=false) hS rfl (by show 2<=10; decide) (.inr (by decide)) rfl) (.next (.ifB (C.h5 ..) (.next h)))))))))))
end
section
variable {K n j:Nat} {st:St} {S:List It} {cell x k:Int} {nm:List Str} {cs:List (Str × Nat)} {y:Str} {r:bp} {sig:Str->Option Nat} {ns:List Str} {rt:Ret}
theorem modL {m:Nat} (h:1<=m) (h':m<=1000):mO .Mod (.int x) (.int (m:Int))=some (.int (zAs x m)):=by
 show (if eI (m:Int) then _ else _)=_
 rw [if_pos (nc h h')]
theorem len3:aS az false [aa 3] ⟨pS S cell nm cs j x k y r,st⟩=.ok (.int (cs.length:Int)) ⟨pS S cell nm cs j x k y r,st⟩:=by
 rw [← zAd (f:=b0)]; rfl
theorem at3 {d:D AV} {i:Nat} (hi:i < cs.length) (hd:d ⟨pS S cell nm cs j x k y r,st⟩=.ok (.int (i:Int)) ⟨pS S cell nm cs j x k y r,st⟩):∃ q ∈ cs,am (aa 3) d ⟨pS S cell nm cs j x k y r,st⟩=.ok (b0 q) ⟨pS S cell nm cs j x k y r,st⟩:=by
 refine ⟨cs[i],List.getElem_mem hi,aU (c':=.lst (cs.map b0)) rfl hd rfl ?_⟩
 exact gM (by rw [zB0,zAw hi]; rfl)
noncomputable abbrev cqA:D AV:=aB (aj .Mod (aj .FloorDiv (aa 5) (af (.int 31))) (af (.int 4))) .NotEq (af (.int 0))
noncomputable abbrev cqB:D AV:=aB (aj .Add (aa 4) (af (.int 1))) .Lt (aS az false [aa 3])
theorem cond5:∃ b:Bool,bc .And [cqA,cqB] ⟨pS S cell nm cs j x k y r,st⟩=.ok (.bool b) ⟨pS S cell nm cs j x k y r,st⟩/\(b=true->j+1 < cs.length):=by
 have a:cqA ⟨pS S cell nm cs j x k y r,st⟩=.ok (.bool (!decide (zAs (zAp x 31) 4=0))) ⟨pS S cell nm cs j x k y r,st⟩:=(bT (iu (m:=4) (x:=zAp x 31) (ay (a':=.int x) (b':=.int 31) rfl rfl rfl rfl rfl) rfl) rfl).trans rfl
 have b:cqB ⟨pS S cell nm cs j x k y r,st⟩=.ok (.bool (decide ((j:Int)+1 < (cs.length:Int)))) ⟨pS S cell nm cs j x k y r,st⟩:=(bT (a:=.int ((j:Int)+1)) (ay (a':=.int (j:Int)) (b':=.int 1) rfl rfl rfl rfl rfl) len3).trans rfl
 rw [gN a]
 cases !decide (zAs (zAp x 31) 4=0) with
 | false=>exact ⟨false,rfl,fun q=>nomatch q⟩
 | true=>exact ⟨_,b,fun q=>by have:=of_decide_eq_true q; lia⟩
theorem pt5 (C:Cd false false false false true k) (hS:S.length<=399) (hc0:0 < cs.length) (hcl:cs.length<=100) (hj:j < cs.length)
  (h:∀ q ∈ cs,∃ rt,RT (pfB (wX K (n+1))) ⟨pS S cell nm cs j x k y [(8,.val (jn S q.2 [.str "call",.str q.1] true)),(9,.val (b0 q))],st⟩ rt/\lO sig ns S st rt):∃ rt,RT (ptB (wX K (n+1))) ⟨pS S cell nm cs j x k y [(8,.val .none)],st⟩ rt/\lO sig ns S st rt:=by
 obtain ⟨i,hi,ei⟩:=bR x hc0
 obtain ⟨q,hq,e9⟩:=at3 (S:=S) (cell:=cell) (nm:=nm) (j:=j) (x:=x) (k:=k) (y:=y) (r:=[(8,.val .none)]) (st:=st) (d:=aj .Mod (aa 5) (aS az false [aa 3])) hi (by rw [← ei]; exact ay (a':=.int x) (b':=.int (cs.length:Int)) rfl len3 rfl rfl (modL hc0 (zAj hcl (by decide))))
 have fin:∀ q ∈ cs,∃ rt,RT (ac (aL 8 (aX (wX K (n+1)) "_law_joined" [ae 0,am (aa 9) (af (.int 1)),aI [af (.str "call"),am (aa 9) (af (.int 0))],af (.bool true)])) (ac (af .next) (pfB (wX K (n+1))))) ⟨pS S cell nm cs j x k y [(8,.val .none),(9,.val (b0 q))],st⟩ rt/\lO sig ns S st rt:=fun q hq=>by
  obtain ⟨rt,h1,h2⟩:=h q hq
  exact ⟨rt,.go (jn_go (m:=q.2) (fr:=[.str "call",.str q.1]) (c:=true) (r:=[(9,.val (b0 q))]) hS rfl (by show 2<=10; decide) (.inl rfl) rfl) (.next h1),h2⟩
 obtain ⟨b,eb,hb⟩:=cond5 (S:=S) (cell:=cell) (nm:=nm) (cs:=cs) (j:=j) (x:=x) (k:=k) (y:=y) (r:=[(8,.val .none),(9,.val (b0 q))]) (st:=st)
 cases b with
 | false =>
  obtain ⟨rt,h1,h2⟩:=fin q hq
  exact ⟨rt,.ifB (C.h1 ..) (.next (.ifB (C.h2 ..) (.next (.ifB (C.h3 ..) (.next (.ifB (C.h4 ..) (.next (.ifB (C.h5 ..) (.assoc (.go (s':=⟨pS S cell nm cs j x k y [(8,.val .none),(9,.val (b0 q))],st⟩) (aQ e9) (.assoc (.ifB eb (.next (.assoc h1)))))))))))))),h2⟩
 | true =>
  have hj1:=hb rfl
  obtain ⟨m,hm⟩:∃ m,cs.length=j+1+m:=⟨cs.length - (j+1),(Nat.add_sub_cancel' (zC5 hj1)).symm⟩
  obtain ⟨i',hi',ei'⟩:=bR x (m:=m) (by lia)
  obtain ⟨q',hq',e9'⟩:=at3 (S:=S) (cell:=cell) (nm:=nm) (cs:=cs) (j:=j) (x:=x) (k:=k) (y:=y) (r:=[(8,.val .none),(9,.val (b0 q))]) (st:=st) (i:=j+1+i') (d:=aj .Add (aj .Add (aa 4) (af (.int 1))) (aj .Mod (aa 5) (aj .Sub (aj .Sub (aS az false [aa 3]) (aa 4)) (af (.int 1))))) (by lia)
   (ay (a:=.int ((j:Int)+1)) (b:=.int (i':Int)) (a':=.int ((j:Int)+1)) (b':=.int (i':Int)) (ay (a':=.int (j:Int)) (b':=.int 1) rfl rfl rfl rfl rfl) (by
    rw [← ei']
    exact ay (a':=.int x) (b':=.int (m:Int)) rfl (ay (a':=.int ((cs.length:Int) - j)) (b':=.int 1) (ay (a':=.int (cs.length:Int)) (b':=.int (j:Int)) len3 rfl rfl rfl rfl) rfl rfl rfl (by show some (AV.int ((cs.length:Int) - j - 1))=_; rw [show (cs.length:Int) - j - 1=m by lia])) rfl rfl (modL (by lia) (by lia))) rfl rfl (by show some (AV.int ((j:Int)+1+i'))=_; rw [show ((j:Int)+1+i')=((j+1+i':Nat):Int) by lia]))
  obtain ⟨rt,h1,h2⟩:=fin q' hq'
  exact ⟨rt,.ifB (C.h1 ..) (.next (.ifB (C.h2 ..) (.next (.ifB (C.h3 ..) (.next (.ifB (C.h4 ..) (.next (.ifB (C.h5 ..) (.assoc (.go (s':=⟨pS S cell nm cs j x k y [(8,.val .none),(9,.val (b0 q))],st⟩) (aQ e9) (.assoc (.ifB eb (.assoc (.go (s':=⟨pS S cell nm cs j x k y [(8,.val .none),(9,.val (b0 q'))],st⟩) (aQ e9') (.next (.assoc h1)))))))))))))))),h2⟩
end
section
variable {K n j:Nat} {st:St} {S:List It} {cell x k:Int} {nm:List Str} {cs:List (Str × Nat)} {y:Str} {r:bp} {sig:Str->Option Nat} {ns:List Str} {rt:Ret}
noncomputable def JT (sig:Str->Option Nat) (ns:List Str) (m:Nat) (fr:List AV) (c:Bool):Prop:=∀ q:List It,q.length=m->∃ t:Tr,t.enc=.tup (fr++pK c q)/\(∀ h,(∀ p ∈ q,p.1.wf sig h ns none)->t.wf sig (h+1) ns none)/\len t<=wt q+2
theorem two {q:List It} (h:q.length=2):∃ a b,q=[a,b]:=by
 rcases q with _ | ⟨a,_ | ⟨b,_ | ⟨c,q⟩⟩⟩
 ·cases h
 ·cases h
 ·exact ⟨a,b,rfl⟩
 ·cases h
theorem three {q:List It} (h:q.length=3):∃ a b c,q=[a,b,c]:=by
 rcases q with _ | ⟨a,q⟩
 ·cases h
 ·obtain ⟨b,c,rfl⟩:=two (Nat.succ.inj h); exact ⟨a,b,c,rfl⟩
theorem jt_deed (w:Dw):JT sig ns 2 [.str w.str] false:=fun q hq=>by
 obtain ⟨a,b,rfl⟩:=two hq
 refine ⟨.deed w a.1 b.1,rfl,fun h H=>iD (H a zAb) (H b (zAe _ zAb)),?_⟩
 show len a.1+len b.1+1<=len a.1+(len b.1+0)+2
 exact zB2 (by decide) _
theorem jt_choose:JT sig ns 3 [.str "choose"] false:=fun q hq=>by
 obtain ⟨a,b,c,rfl⟩:=three hq
 refine ⟨.choose a.1 b.1 c.1,rfl,fun h H=>hV (H a zAb) (H b (zAe _ zAb)) (H c (zAe _ (zAe _ zAb))),?_⟩
 show len a.1+len b.1+len c.1+2<=len a.1+(len b.1+(len c.1+0))+2
 rw [Nat.add_assoc (len a.1)]; exact zAy _
theorem jt_let:JT sig ns 2 [.str "let",.str y] false:=fun q hq=>by
 obtain ⟨a,b,rfl⟩:=two hq
 refine ⟨.lt y a.1 b.1,rfl,fun h H=>jN (H a zAb) (kL b.1 (zAy _) (fun z hz=>zBj _ hz) (H b (zAe _ zAb))),?_⟩
 show len a.1+len b.1+1<=len a.1+(len b.1+0)+2
 exact zB2 (by decide) _
theorem jt_call {f:Str} {m:Nat} (h1:sig f=some m) (h2:m<=100):JT sig ns m [.str "call",.str f] true:=fun q hq=>by
 refine ⟨.call f (trL (q.map (·.1))),?_,fun h H=>iJ h1 h2 ?_,?_⟩
 ·show AV.tup [.str "call",.str f,(trL (q.map (·.1))).enc]=_
  rw [o9,zCg]; rfl
 ·have:=pH (sig:=sig) (h:=h) (ns:=ns) (q.map (·.1)) fun t ht=>by obtain ⟨p,hp,rfl⟩:=zBe.mp ht; exact H p hp
  rw [zAd,hq] at this; exact this
 ·show len (trL (q.map (·.1)))+1<=_
  rw [trL_len,zCg]
  exact zB2 (by decide) _
theorem put_kind {kk:Nat} (hk:kk < 12) (hS:S.length<=399) (I:Iv sig ns S) (hy:y ∈ ns) (hcl:cs.length<=100) (hj:j < cs.length) (hsig:∀ q ∈ cs,sig q.1=some q.2/\q.2<=100) :
  ∃ rt,RT (ptB (wX K (n+1))) ⟨pS S cell nm cs j x (kk:Int) y [(8,.val .none)],st⟩ rt/\lO sig ns S st rt:=by
 have J:∀ {m fr c k r},JT sig ns m fr c->∃ rt,RT (pfB (wX K (n+1))) ⟨pS S cell nm cs j x k y ((8,.val (jn S m fr c))::r),st⟩ rt/\lO sig ns S st rt:=fun h=>fin_jn hS I fun q hq _=>h q hq
 have D:∀ {k:Int} (w:Dw),Cd false true false false false k->isDw w k->∃ rt,RT (ptB (wX K (n+1))) ⟨pS S cell nm cs j x k y [(8,.val .none)],st⟩ rt/\lO sig ns S st rt:=fun w C hw=>by
  obtain ⟨rt,h1,h2⟩:=J (r:=[]) (jt_deed w)
  exact ⟨rt,pt2 C hw hS h1,h2⟩
 have N:∀ {k:Int},Cd true false false false false k->∃ rt,RT (ptB (wX K (n+1))) ⟨pS S cell nm cs j x k y [(8,.val .none)],st⟩ rt/\lO sig ns S st rt:=fun C=>⟨_,pt1 C hS fin_own,lD I (kZ hy) (by show 1<=2; decide)⟩
 have Cl:∀ {k:Int},Cd false false false false true k->∃ rt,RT (ptB (wX K (n+1))) ⟨pS S cell nm cs j x k y [(8,.val .none)],st⟩ rt/\lO sig ns S st rt:=fun C=>pt5 C hS (zCs (zA7 _) hj) hcl hj fun q hq=>J (jt_call (hsig q hq).1 (hsig q hq).2)
 match kk,hk with
 | 0,_=>exact ⟨_,pt0 ⟨fun _ _ _ _ _ _ _ _ _=>rfl,fun _ _ _ _ _ _ _ _ _=>rfl,fun _ _ _ _ _ _ _ _ _=>rfl,fun _ _ _ _ _ _ _ _ _=>rfl,fun _ _ _ _ _ _ _ _ _=>rfl⟩ (fin_none hS),lD I (io (nbr_in x)) (by show 1<=2; decide)⟩
 | 1,_=>exact N ⟨fun _ _ _ _ _ _ _ _ _=>rfl,fun _ _ _ _ _ _ _ _ _=>rfl,fun _ _ _ _ _ _ _ _ _=>rfl,fun _ _ _ _ _ _ _ _ _=>rfl,fun _ _ _ _ _ _ _ _ _=>rfl⟩
 | 2,_=>exact N ⟨fun _ _ _ _ _ _ _ _ _=>rfl,fun _ _ _ _ _ _ _ _ _=>rfl,fun _ _ _ _ _ _ _ _ _=>rfl,fun _ _ _ _ _ _ _ _ _=>rfl,fun _ _ _ _ _ _ _ _ _=>rfl⟩
 | 3,_=>exact D .sum ⟨fun _ _ _ _ _ _ _ _ _=>rfl,fun _ _ _ _ _ _ _ _ _=>rfl,fun _ _ _ _ _ _ _ _ _=>rfl,fun _ _ _ _ _ _ _ _ _=>rfl,fun _ _ _ _ _ _ _ _ _=>rfl⟩ fun _ _ _ _ _ _ _ _ _=>rfl
 | 4,_=>exact D .less ⟨fun _ _ _ _ _ _ _ _ _=>rfl,fun _ _ _ _ _ _ _ _ _=>rfl,fun _ _ _ _ _ _ _ _ _=>rfl,fun _ _ _ _ _ _ _ _ _=>rfl,fun _ _ _ _ _ _ _ _ _=>rfl⟩ fun _ _ _ _ _ _ _ _ _=>rfl
 | 5,_=>exact D .times ⟨fun _ _ _ _ _ _ _ _ _=>rfl,fun _ _ _ _ _ _ _ _ _=>rfl,fun _ _ _ _ _ _ _ _ _=>rfl,fun _ _ _ _ _ _ _ _ _=>rfl,fun _ _ _ _ _ _ _ _ _=>rfl⟩ fun _ _ _ _ _ _ _ _ _=>rfl
 | 6,_=>exact D .part ⟨fun _ _ _ _ _ _ _ _ _=>rfl,fun _ _ _ _ _ _ _ _ _=>rfl,fun _ _ _ _ _ _ _ _ _=>rfl,fun _ _ _ _ _ _ _ _ _=>rfl,fun _ _ _ _ _ _ _ _ _=>rfl⟩ fun _ _ _ _ _ _ _ _ _=>rfl
 | 7,_=>exact D .below ⟨fun _ _ _ _ _ _ _ _ _=>rfl,fun _ _ _ _ _ _ _ _ _=>rfl,fun _ _ _ _ _ _ _ _ _=>rfl,fun _ _ _ _ _ _ _ _ _=>rfl,fun _ _ _ _ _ _ _ _ _=>rfl⟩ fun _ _ _ _ _ _ _ _ _=>rfl
 | 8,_ =>
  obtain ⟨rt,h1,h2⟩:=J (r:=[]) (jt_choose (sig:=sig) (ns:=ns))
  exact ⟨rt,pt3 ⟨fun _ _ _ _ _ _ _ _ _=>rfl,fun _ _ _ _ _ _ _ _ _=>rfl,fun _ _ _ _ _ _ _ _ _=>rfl,fun _ _ _ _ _ _ _ _ _=>rfl,fun _ _ _ _ _ _ _ _ _=>rfl⟩ hS h1,h2⟩
 | 9,_ =>
  obtain ⟨rt,h1,h2⟩:=J (r:=[]) (jt_let (sig:=sig) (ns:=ns) (y:=y))
  exact ⟨rt,pt4 ⟨fun _ _ _ _ _ _ _ _ _=>rfl,fun _ _ _ _ _ _ _ _ _=>rfl,fun _ _ _ _ _ _ _ _ _=>rfl,fun _ _ _ _ _ _ _ _ _=>rfl,fun _ _ _ _ _ _ _ _ _=>rfl⟩ hS h1,h2⟩
 | 10,_=>exact Cl ⟨fun _ _ _ _ _ _ _ _ _=>rfl,fun _ _ _ _ _ _ _ _ _=>rfl,fun _ _ _ _ _ _ _ _ _=>rfl,fun _ _ _ _ _ _ _ _ _=>rfl,fun _ _ _ _ _ _ _ _ _=>rfl⟩
 | 11,_=>exact Cl ⟨fun _ _ _ _ _ _ _ _ _=>rfl,fun _ _ _ _ _ _ _ _ _=>rfl,fun _ _ _ _ _ _ _ _ _=>rfl,fun _ _ _ _ _ _ _ _ _=>rfl,fun _ _ _ _ _ _ _ _ _=>rfl⟩
theorem put_ok (hS:S.length<=399) (I:Iv sig ns S) (hn0:0 < nm.length) (hnl:nm.length<=100) (hns:∀ y ∈ nm,y ∈ ns) (hcl:cs.length<=100) (hj:j < cs.length) (hsig:∀ q ∈ cs,sig q.1=some q.2/\q.2<=100) :
  lO sig ns S st (au PP K (n+2) ⟨#[]⟩ "_law_put" [.lst (S.map bj),.int cell,.lst (nm.map .str),.lst (cs.map b0),.int (j:Int)] st):=by
 rw [rn__law_put]
 obtain ⟨kk,hk,ek⟩:=bR cell (m:=12) (by decide)
 obtain ⟨i,hi,ei⟩:=bR (zAp cell 12) hn0
 obtain ⟨rt,h1,h2⟩:=put_kind (K:=K) (n:=n) (st:=st) (cell:=cell) (nm:=nm) (x:=zAp cell 12) hk hS I (hns _ (List.getElem_mem hi)) hcl hj hsig
 have e:RT (jY (wX K (n+1))) ⟨[(0,.val (.lst (S.map bj))),(1,.val (.int cell)),(2,.val (.lst (nm.map .str))),(3,.val (.lst (cs.map b0))),(4,.val (.int (j:Int)))],st⟩ rt:=by
  have e5:aj .FloorDiv (aa 1) (af (.int 12)) ⟨[(0,.val (.lst (S.map bj))),(1,.val (.int cell)),(2,.val (.lst (nm.map .str))),(3,.val (.lst (cs.map b0))),(4,.val (.int (j:Int)))],st⟩=.ok (.int (zAp cell 12)) ⟨[(0,.val (.lst (S.map bj))),(1,.val (.int cell)),(2,.val (.lst (nm.map .str))),(3,.val (.lst (cs.map b0))),(4,.val (.int (j:Int)))],st⟩:=ay (a':=.int cell) (b':=.int 12) rfl rfl rfl rfl rfl
  have e6:aj .Mod (aa 1) (af (.int 12)) ⟨[(0,.val (.lst (S.map bj))),(1,.val (.int cell)),(2,.val (.lst (nm.map .str))),(3,.val (.lst (cs.map b0))),(4,.val (.int (j:Int))),(5,.val (.int (zAp cell 12)))],st⟩=.ok (.int (zAs cell 12)) ⟨[(0,.val (.lst (S.map bj))),(1,.val (.int cell)),(2,.val (.lst (nm.map .str))),(3,.val (.lst (cs.map b0))),(4,.val (.int (j:Int))),(5,.val (.int (zAp cell 12)))],st⟩:=ay (a':=.int cell) (b':=.int 12) rfl rfl rfl rfl rfl
  refine .go (s':=⟨[(0,.val (.lst (S.map bj))),(1,.val (.int cell)),(2,.val (.lst (nm.map .str))),(3,.val (.lst (cs.map b0))),(4,.val (.int (j:Int))),(5,.val (.int (zAp cell 12)))],st⟩) (bf e5) ?_
  refine .go (s':=⟨[(0,.val (.lst (S.map bj))),(1,.val (.int cell)),(2,.val (.lst (nm.map .str))),(3,.val (.lst (cs.map b0))),(4,.val (.int (j:Int))),(5,.val (.int (zAp cell 12))),(6,.val (.int (kk:Int)))],st⟩) (by rw [← ek]; exact bf e6) ?_
  have e7:aj .Mod (aa 5) (aS az false [aa 2]) ⟨[(0,.val (.lst (S.map bj))),(1,.val (.int cell)),(2,.val (.lst (nm.map .str))),(3,.val (.lst (cs.map b0))),(4,.val (.int (j:Int))),(5,.val (.int (zAp cell 12))),(6,.val (.int (kk:Int)))],st⟩=.ok (.int (i:Int)) ⟨[(0,.val (.lst (S.map bj))),(1,.val (.int cell)),(2,.val (.lst (nm.map .str))),(3,.val (.lst (cs.map b0))),(4,.val (.int (j:Int))),(5,.val (.int (zAp cell 12))),(6,.val (.int (kk:Int)))],st⟩:=by
   rw [← ei]
   exact ay (b:=.int (nm.length:Int)) (a':=.int (zAp cell 12)) (b':=.int (nm.length:Int)) rfl (by rw [← zAd (f:=AV.str)]; rfl) rfl rfl (modL hn0 (zAj hnl (by decide)))
  have e8:am (aa 2) (aj .Mod (aa 5) (aS az false [aa 2])) ⟨[(0,.val (.lst (S.map bj))),(1,.val (.int cell)),(2,.val (.lst (nm.map .str))),(3,.val (.lst (cs.map b0))),(4,.val (.int (j:Int))),(5,.val (.int (zAp cell 12))),(6,.val (.int (kk:Int)))],st⟩=.ok (.str nm[i]) ⟨[(0,.val (.lst (S.map bj))),(1,.val (.int cell)),(2,.val (.lst (nm.map .str))),(3,.val (.lst (cs.map b0))),(4,.val (.int (j:Int))),(5,.val (.int (zAp cell 12))),(6,.val (.int (kk:Int)))],st⟩:=aU (c':=.lst (nm.map .str)) rfl e7 rfl (gM (by rw [zB0,zAw hi]; rfl))
  exact .go (s':=⟨pS S cell nm cs j (zAp cell 12) (kk:Int) nm[i] [],st⟩) (aQ e8) (.go (s':=⟨pS S cell nm cs j (zAp cell 12) (kk:Int) nm[i] [(8,.val .none)],st⟩) rfl h1)
 exact (show bb _=rt from e) ▸ h2
end
noncomputable def bL (cl:List Int) (nm:List Str) (cs:List (Str × Nat)) (j:Nat) (lv:LV) (r:bp):bp:=(0,.val (.lst (cl.map .int)))::(1,.val (.lst (nm.map .str)))::(2,.val (.lst (cs.map b0)))::(3,.val (.int (j:Int)))::(4,lv)::r
noncomputable abbrev puB (X:Ctx):D Fl:=ac (aL 4 (aX X "_law_put" [ae 4,ae 5,ae 1,ae 2,ae 3])) (af .next)
noncomputable def r5 (r:bp):Prop:=r=[] ∨ ∃ v,r=[(5,v)]
noncomputable def isS (lv:LV) (S:List It):Prop:=lv=.own (.lst (S.map bj)) ∨ lv=.val (.lst (S.map bj))
section
variable {K n j:Nat} {st:St} {S:List It} {cl:List Int} {nm:List Str} {cs:List (Str × Nat)} {r:bp} {sig:Str->Option Nat} {ns:List Str} {lv:LV}
theorem body_step {c:Int} (hl:isS lv S) (hr:r5 r) (hS:S.length<=399) (I:Iv sig ns S) (hn0:0 < nm.length) (hnl:nm.length<=100) (hns:∀ y ∈ nm,y ∈ ns) (hcl:cs.length<=100) (hj:j < cs.length) (hsig:∀ q ∈ cs,sig q.1=some q.2/\q.2<=100) :
  ∃ S',puB (wX K (n+2)) ⟨ai 5 (.val (.int c)) (bL cl nm cs j lv r),st⟩=.ok .next ⟨bL cl nm cs j (.val (.lst (S'.map bj))) [(5,.val (.int c))],st⟩/\Iv sig ns S'/\S'.length<=S.length+1/\wt S'<=wt S+2:=by
 obtain ⟨S',e,h⟩:=put_ok (K:=K) (n:=n) (st:=st) (cell:=c) hS I hn0 hnl hns hcl hj hsig
 refine ⟨S',?_,h⟩
 have e0:ai 5 (.val (.int c)) (bL cl nm cs j lv r)=bL cl nm cs j lv [(5,.val (.int c))]:=by
  rcases hr with rfl | ⟨v,rfl⟩ <;> rfl
 rw [e0]
 have e1:bI [ae 4,ae 5,ae 1,ae 2,ae 3] ⟨bL cl nm cs j lv [(5,.val (.int c))],st⟩=.ok [.lst (S.map bj),.int c,.lst (nm.map .str),.lst (cs.map b0),.int (j:Int)] ⟨bL cl nm cs j (.val (.lst (S.map bj))) [(5,.val (.int c))],st⟩:=by
  rcases hl with rfl | rfl <;> rfl
 exact bP (aQ (a8 e1 e)) trivial
theorem nA (hn0:0 < nm.length) (hnl:nm.length<=100) (hns:∀ y ∈ nm,y ∈ ns) (hcl:cs.length<=100) (hj:j < cs.length) (hsig:∀ q ∈ cs,sig q.1=some q.2/\q.2<=100):∀ (l:List Int) (S:List It) (lv:LV) (r:bp),isS lv S->r5 r->S.length+l.length<=399->Iv sig ns S ->
  ∃ S' lv' r',br (some 5,[]) (puB (wX K (n+2))) (l.map .int) ⟨bL cl nm cs j lv r,st⟩=.ok .next ⟨bL cl nm cs j lv' r',st⟩/\isS lv' S'/\r5 r'/\Iv sig ns S'/\S'.length<=S.length+l.length/\wt S'<=wt S+2 * l.length
 | [],S,lv,r,hl,hr,hS,I=>⟨S,lv,r,rfl,hl,hr,I,zAy _,zAy _⟩
 | c::l,S,lv,r,hl,hr,hS,I=>by
  have hS':S.length+l.length+1<=399:=hS
  obtain ⟨S1,e1,I1,h1,h2⟩:=body_step (K:=K) (n:=n) (st:=st) (cl:=cl) (c:=c) hl hr (by lia) I hn0 hnl hns hcl hj hsig
  obtain ⟨S2,lv2,r2,e2,a1,a2,a3,a4,a5⟩:=nA hn0 hnl hns hcl hj hsig l S1 _ _ (.inr rfl) (.inr ⟨_,rfl⟩) (by lia) I1
  exact ⟨S2,lv2,r2,cf e1 e2,a1,a2,a3,by show _<=S.length+(l.length+1); lia,by show _<=wt S+2 * (l.length+1); lia⟩
end
theorem clip_m3 (n:Nat):clipAt n (-3)=n - 3:=by
 unfold clipAt; rw [if_pos (by decide)]; omega
theorem slc_m3 {l:List AV}:kC (.lst l) (.int (-3)) .none=some (.lst (l.drop (l.length - 3))):=by
 show some (AV.lst ((l.drop (clipAt l.length (-3))).take (l.length - clipAt l.length (-3))))=_
 rw [clip_m3,zC9 (by rw [zBm]; exact zAy _)]
noncomputable def sumT (b:Tr):List It->Tr
 | []=>b
 | p::r=>sumT (.deed .sum b p.1) r
theorem sumT_wf {sig:Str->Option Nat} {ns:List Str}:∀ (T:List It) (b:Tr) (h:Nat),7<=h->b.wf sig h ns none->Iv sig ns T->(sumT b T).wf sig (h+T.length) ns none
 | [],b,h,_,hb,_=>hb
 | p::r,b,h,h7,hb,I=>by
  have:=sumT_wf r (.deed .sum b p.1) (h+1) (Nat.le_succ_of_le h7) (iD hb (kL p.1 (zAj (I p zAb).2 h7) (fun _ z=>z) (I p zAb).1)) fun q hq=>I q (zAe _ hq)
  rw [Nat.add_right_comm] at this; exact this
theorem sumT_len:∀ (T:List It) (b:Tr),len (sumT b T)=len b+wt T+T.length
 | [],b=>rfl
 | p::r,b=>by
  show len (sumT (.deed .sum b p.1) r)=len b+(len p.1+wt r)+(r.length+1)
  rw [sumT_len r]
  show len b+len p.1+1+wt r+r.length=_
  lia
noncomputable abbrev smB:D Fl:=ac (aL 6 (aI [af (.str "sum"),ae 6,am (aa 7) (af (.int 0))])) (af .next)
theorem sum_loop {st:St} {nv:AV}:∀ (T:List It) (b:Tr) (L:bp),al 6 L=some (.val b.enc)->al 1 L=some (.val nv)->∃ L',br (some 7,[]) smB (T.map bj) ⟨L,st⟩=.ok .next ⟨L',st⟩/\al 6 L'=some (.val (sumT b T).enc)/\al 1 L'=some (.val nv)
 | [],b,L,h6,h1=>⟨L,rfl,h6,h1⟩
 | p::r,b,L,h6,h1=>by
  obtain ⟨L',e,a,c⟩:=sum_loop (st:=st) (nv:=nv) r (.deed .sum b p.1) (ai 6 (.val (Tr.deed .sum b p.1).enc) (ai 7 (.val (bj p)) L)) aA (by rw [ah rfl,ah rfl]; exact h1)
  refine ⟨L',cf (s₂:=⟨ai 6 (.val (Tr.deed .sum b p.1).enc) (ai 7 (.val (bj p)) L),st⟩) ?_ e,a,c⟩
  have e7:al 7 (ai 7 (.val (bj p)) L)=some (.val (bj p)):=aA
  exact bP (aQ (bM (vs:=[.str "sum",b.enc,p.1.enc]) (s':=⟨ai 7 (.val (bj p)) L,st⟩) (ag rfl (ag (bk (by rw [ah rfl]; exact h6)) (ag (aU (ba e7) rfl (bV e7) rfl) rfl))) rfl)) trivial
section
variable {K n j:Nat} {st:St} {cl:List Int} {ps:List Str} {x y:Str} {cs:List (Str × Nat)} {sig:Str->Option Nat}
theorem body_ok (hc:cl.length<=399) (hps:ps.length<=90) (hcl:cs.length<=100) (hj:j < cs.length) (hsig:∀ q ∈ cs,sig q.1=some q.2/\q.2<=100) :
  ∃ t:Tr,au PP K (n+3) ⟨#[]⟩ "_law_body" [.lst (cl.map .int),.lst ((ps++[y,x]).map .str),.lst (cs.map b0),.int (j:Int)] st=.ok t.enc st/\t.wf sig 12 ps none/\len t<=2 * cl.length+8:=by
 rw [oX]
 have hnl:(ps++[y,x]).length=ps.length+2:=by rw [zAc]; rfl
 obtain ⟨S,lv,r,e1,hs,hr,I,h1,h2⟩:=nA (K:=K) (n:=n) (st:=st) (cl:=cl) (nm:=ps++[y,x]) (cs:=cs) (j:=j) (sig:=sig) (ns:=ps++[x]++[y]) (by lia) (by lia) (fun z hz=>by
  rcases zA2.mp hz with q | q
  ·exact zBj _ (zBj _ q)
  ·rcases zAl.mp q with rfl | q
   ·exact zBg _ (List.mem_singleton_self _)
   ·exact zBj _ (zBg _ q)) hcl hj hsig cl [] (.own (.lst [])) [] (.inl rfl) (.inl rfl) (by show 0+_<=_; lia) (fun p hp=>nomatch hp)
 have hS:S.drop (S.length - 3)++[]=S.drop (S.length - 3):=zAx _
 have hT3:(S.drop (S.length - 3)).length<=3:=by rw [zBm]; lia
 have hTw:wt (S.drop (S.length - 3))<=wt S:=by
  have:=pe (S.take (S.length - 3)) (S.drop (S.length - 3))
  rw [zCt] at this; lia
 have hTI:Iv sig (ps++[x]++[y]) (S.drop (S.length - 3)):=fun p hp=>I p (List.mem_of_mem_drop hp)
 have h4:al 4 (bL cl (ps++[y,x]) cs j lv r)=some lv:=rfl
 have g4:al 4 (ai 6 (.val (Tr.num (cl.length:Int)).enc) (bL cl (ps++[y,x]) cs j lv r))=some lv:=by rw [ah rfl]; exact h4
 obtain ⟨L',e2,h6,h7⟩:=sum_loop (st:=st) (nv:=.lst ((ps++[y,x]).map .str)) (S.drop (S.length - 3)) (.num (cl.length:Int)) (ai 6 (.val (Tr.num (cl.length:Int)).enc) (bL cl (ps++[y,x]) cs j lv r)) aA (by rw [ah rfl]; rfl)
 have hb:(sumT (.num (cl.length:Int)) (S.drop (S.length - 3))).wf sig 10 (ps++[x]++[y]) none:=kL _ (by show 7+_<=10; lia) (fun _ z=>z) (sumT_wf _ _ 7 (zAy _) (io ⟨by lia,by lia⟩) hTI)
 refine ⟨.lt x (.num 2) (.lt y (.num ((ps++[y,x]).length:Int)) (sumT (.num (cl.length:Int)) (S.drop (S.length - 3)))),?_,jN (io ⟨by decide,by decide⟩) (jN (io ⟨by lia,by lia⟩) hb),?_⟩
 ·show RT (iE (wX K (n+2))) ⟨[(0,.val (.lst (cl.map .int))),(1,.val (.lst ((ps++[y,x]).map .str))),(2,.val (.lst (cs.map b0))),(3,.val (.int (j:Int)))],st⟩ _
  refine .go (s':=⟨bL cl (ps++[y,x]) cs j (.own (.lst [])) [],st⟩) rfl (.forI (l:=cl.map .int) (s₁:=⟨bL cl (ps++[y,x]) cs j (.own (.lst [])) [],st⟩) rfl e1 ?_)
  refine .go (s':=⟨ai 6 (.val (Tr.num (cl.length:Int)).enc) (bL cl (ps++[y,x]) cs j lv r),st⟩) (aQ (bM (vs:=[.str "num",.int (cl.length:Int)]) (s':=⟨bL cl (ps++[y,x]) cs j lv r,st⟩) (ag rfl (ag (by rw [← zAd (f:=AV.int)]; rfl) rfl)) rfl)) ?_
  have e4:aT (.pl 4) ⟨ai 6 (.val (Tr.num (cl.length:Int)).enc) (bL cl (ps++[y,x]) cs j lv r),st⟩=some (.lst (S.map bj)):=by
   rcases hs with rfl | rfl
   ·exact mx g4
   ·exact ip g4
  refine .forI (l:=(S.drop (S.length - 3)).map bj) (s₁:=⟨ai 6 (.val (Tr.num (cl.length:Int)).enc) (bL cl (ps++[y,x]) cs j lv r),st⟩) (et (eQ (ba g4) rfl rfl e4 ?_)) e2 ?_
  ·rw [slc_m3,zAd,zDj]
  have i1:am (aa 1) (dUn .USub (af (.int 1))) ⟨L',st⟩=.ok (.str x) ⟨L',st⟩:=aU (ba h7) rfl (ip h7) (by
   show at? ((ps++[y,x]).map AV.str) (-1)=_
   rw [show (ps++[y,x]).map AV.str=(ps++[y]).map AV.str++AV.str x::[] by rw [← List.map_singleton,← zAr,zAm]; rfl]
   exact oG rfl)
  have i2:am (aa 1) (dUn .USub (af (.int 2))) ⟨L',st⟩=.ok (.str y) ⟨L',st⟩:=aU (ba h7) rfl (ip h7) (by
   show at? ((ps++[y,x]).map AV.str) (-2)=_
   rw [zAr]
   exact oG rfl)
  have i3:aS az false [aa 1] ⟨L',st⟩=.ok (.int ((ps++[y,x]).length:Int)) ⟨L',st⟩:=cg (ba h7) (ip h7) (by rw [← zAd (f:=AV.str)]; rfl)
  exact .ret (s':=⟨L',st⟩) (bM (ag rfl (ag i1 (ag (s₁:=⟨L',st⟩) rfl (ag (bM (ag rfl (ag i2 (ag (bM (ag rfl (ag i3 rfl)) rfl) (ag (bk h6) rfl)))) rfl) rfl)))) rfl) rfl
 ·show 1+(1+len (sumT _ _)+1)+1<=_
  rw [sumT_len]
  have h2:wt S<=0+2 * cl.length:=h2
  show 1+(1+(1+wt _+_)+1)+1<=_
  lia
end
noncomputable def cnt (ns:List Int) (i:Nat):Nat:=(zAs (zAp (ns.getD (8+i) 0) 12) 7).toNat
noncomputable def cs1 (ns:List Int) (i:Nat):Str × Nat:=(kY (ns.getD 1 0) i,cnt ns i)
noncomputable def g0 (ns:List Int) (M:Nat) (lv:LV) (r:bp):bp:=(0,.val (.lst (ns.map .int)))::(1,.val (.int (M:Int)))::(2,lv)::r
noncomputable abbrev ctE (X:Ctx):D AV:=aI [aX X "_law_word" [aX X "_law_cell_at" [ae 0,af (.int 1)],ae 3],aj .Mod (aj .FloorDiv (aX X "_law_cell_at" [ae 0,aj .Add (af (.int 8)) (aa 3)]) (af (.int 12))) (af (.int 7))]
noncomputable abbrev ctF (X:Ctx):D Fl:=ac (c8 (bY (aa 2) (ctE X))) (af .next)
noncomputable def r3 (r:bp):Prop:=r=[] ∨ ∃ v,r=[(3,v)]
section
variable {K n M:Nat} {st:St} {ns:List Int} {lv:LV}
theorem cnt_eq (i:Nat):zAs (zAp (ns.getD (8+i) 0) 12) 7=(cnt ns i:Int)/\cnt ns i < 7:=by
 unfold cnt
 obtain ⟨j,hj,e⟩:=bR (zAp (ns.getD (8+i) 0) 12) (m:=7) (by decide)
 rw [show zAs (zAp (ns.getD (8+i) 0) 12) 7=j from e]; exact ⟨rfl,hj⟩
theorem ct_at {i:Nat}:ctE (wX K (n+1)) ⟨g0 ns M lv [(3,.val (.int (i:Int)))],st⟩=.ok (b0 (cs1 ns i)) ⟨g0 ns M lv [(3,.val (.int (i:Int)))],st⟩:=by
 have c1:aX (wX K (n+1)) "_law_cell_at" [ae 0,af (.int 1)] ⟨g0 ns M lv [(3,.val (.int (i:Int)))],st⟩=.ok (.int (ns.getD 1 0)) ⟨g0 ns M lv [(3,.val (.int (i:Int)))],st⟩:=lH (i:=1) (k:=0) rfl
 have w:aX (wX K (n+1)) "_law_word" [aX (wX K (n+1)) "_law_cell_at" [ae 0,af (.int 1)],ae 3] ⟨g0 ns M lv [(3,.val (.int (i:Int)))],st⟩=.ok (.str (kY (ns.getD 1 0) i)) ⟨g0 ns M lv [(3,.val (.int (i:Int)))],st⟩ :=
  a8 (vs:=[.int (ns.getD 1 0),.int (i:Int)]) (s₁:=⟨g0 ns M lv [(3,.val (.int (i:Int)))],st⟩) (ag c1 rfl) (oF _ i)
 have c:aX (wX K (n+1)) "_law_cell_at" [ae 0,aj .Add (af (.int 8)) (aa 3)] ⟨g0 ns M lv [(3,.val (.int (i:Int)))],st⟩=.ok (.int (ns.getD (8+i) 0)) ⟨g0 ns M lv [(3,.val (.int (i:Int)))],st⟩ :=
  a8 (vs:=[.lst (ns.map .int),.int ((8+i:Nat):Int)]) (s₁:=⟨g0 ns M lv [(3,.val (.int (i:Int)))],st⟩) (ag rfl (ag (ay (a':=.int 8) (b':=.int (i:Int)) rfl rfl rfl rfl (by show some (AV.int (8+(i:Int)))=_; rw [zC8]; rfl)) rfl)) (mf ns (8+i))
 have m:=iu (m:=7) (div_at (m:=12) c rfl) rfl
 have m:aj .Mod (aj .FloorDiv (aX (wX K (n+1)) "_law_cell_at" [ae 0,aj .Add (af (.int 8)) (aa 3)]) (af (.int 12))) (af (.int 7)) ⟨g0 ns M lv [(3,.val (.int (i:Int)))],st⟩=.ok (.int (cnt ns i:Int)) ⟨g0 ns M lv [(3,.val (.int (i:Int)))],st⟩:=by
  rw [← (cnt_eq i).1]; exact m
 exact bM (ag w (ag m rfl)) rfl
theorem ct_loop:∀ (l:List Nat) (ds:List (Str × Nat)) (r:bp),r3 r->ds.length+l.length<=900->∃ r',((l=[]/\r'=r) ∨ ∃ v,r'=[(3,v)])/\br (some 3,[]) (ctF (wX K (n+1))) (l.map fun i:Nat=>.int (i:Int)) ⟨g0 ns M (.own (.lst (ds.map b0))) r,st⟩=.ok .next ⟨g0 ns M (.own (.lst ((ds++l.map (cs1 ns)).map b0))) r',st⟩
 | [],ds,r,hr,_=>⟨r,.inl ⟨rfl,rfl⟩,by rw [List.map_nil,List.map_nil,zAx]; rfl⟩
 | i::l,ds,r,hr,hl=>by
  have hl':ds.length+(l.length+1)<=900:=hl
  obtain ⟨r',h',e⟩:=ct_loop l (ds++[cs1 ns i]) [(3,.val (.int (i:Int)))] (.inr ⟨_,rfl⟩) (by rw [zAc]; show ds.length+1+_<=_; lia)
  refine ⟨r',.inr (h'.elim (fun z=>⟨_,z.2⟩) id),cf (s₂:=⟨g0 ns M (.own (.lst ((ds++[cs1 ns i]).map b0))) [(3,.val (.int (i:Int)))],st⟩) ?_ (by rw [e,zAm]; rfl)⟩
  have e0:ai 3 (.val (.int (i:Int))) (g0 ns M (.own (.lst (ds.map b0))) r)=g0 ns M (.own (.lst (ds.map b0))) [(3,.val (.int (i:Int)))]:=by rcases hr with rfl | ⟨v,rfl⟩ <;> rfl
  show ctF (wX K (n+1)) ⟨ai 3 (.val (.int (i:Int))) (g0 ns M (.own (.lst (ds.map b0))) r),st⟩=_
  rw [e0,zAr]
  exact bP (cu (gY (k:=2) rfl rfl ct_at rfl (by rw [zAd]; lia) rfl)) trivial
end
noncomputable def g1 (ns:List Int) (M:Nat) (cs:List (Str × Nat)) (i:Nat) (lv:LV) (q:Str × Nat) (r:bp):bp:=(0,.val (.lst (ns.map .int)))::(1,.val (.int (M:Int)))::(2,.val (.lst (cs.map b0)))::(3,.val (.int (i:Int)))::(4,lv)::(5,.val (b0 q))::r
noncomputable def nms (ns:List Int) (c:Nat):List Str:=(List.range (c+2)).map (kY (ns.getD 2 0))
section
variable {K n M i:Nat} {st:St} {ns:List Int} {cs:List (Str × Nat)} {lv:LV} {q:Str × Nat} {r:bp}
theorem names6 (hq:q.2<=100):bG [(4,0)] 1 (aX (wX K (n+1)) "_law_word" [aX (wX K (n+1)) "_law_cell_at" [ae 4,af (.int 2)],ae 1]) (hU .range [aj .Add (am (aa 5) (af (.int 1))) (af (.int 2))]) ⟨g1 ns M cs i lv q r,st⟩=.ok (.lst ((nms ns q.2).map .str)) ⟨g1 ns M cs i lv q r,st⟩:=by
 unfold nms
 rw [zCg]
 refine fb (caps:=[(4,0)]) (kk:=1) (n:=q.2+2) (g:=fun k=>.str (kY (ns.getD 2 0) k)) (s:=⟨g1 ns M cs i lv q r,st⟩) (s₁:=⟨g1 ns M cs i lv q r,st⟩) rfl (by lia) fun k hk=>⟨[(4,.val (.lst (ns.map .int))),(1,.val (.int (k:Int)))],?_⟩
 have c1:aX (wX K (n+1)) "_law_cell_at" [ae 4,af (.int 2)] ⟨[(4,.val (.lst (ns.map .int))),(1,.val (.int (k:Int)))],st⟩=.ok (.int (ns.getD 2 0)) ⟨[(4,.val (.lst (ns.map .int))),(1,.val (.int (k:Int)))],st⟩:=lH (i:=2) (k:=4) rfl
 exact a8 (vs:=[.int (ns.getD 2 0),.int (k:Int)]) (s₁:=⟨[(4,.val (.lst (ns.map .int))),(1,.val (.int (k:Int)))],st⟩) (ag c1 rfl) (oF _ k)
end
noncomputable def ixs (ns:List Int):List Nat:=List.range (min ns.length 208 - 8)
noncomputable def isC (M i k:Nat):Bool:=decide (zAs (8+(k:Int)) (M:Int)=(i:Int))
noncomputable def cls (ns:List Int) (M i:Nat):List Int:=((ixs ns).filter (isC M i)).map fun k=>ns.getD (8+k) 0
section
variable {K n M i:Nat} {st:St} {ns:List Int} {cs:List (Str × Nat)} {lv:LV} {q:Str × Nat} {r:bp}
theorem its7:hU .range [af (.int 8),aS i9 false [aS az false [aa 0],af (.int 208)]] ⟨g1 ns M cs i lv q r,st⟩=.ok (.lst ((ixs ns).map fun k:Nat=>.int (8+(k:Int)))) ⟨g1 ns M cs i lv q r,st⟩:=by
 have hm:aS i9 false [aS az false [aa 0],af (.int 208)] ⟨g1 ns M cs i lv q r,st⟩=.ok (.int ((min ns.length 208:Nat):Int)) ⟨g1 ns M cs i lv q r,st⟩:=by
  refine bi2_at (a:=.int (ns.length:Int)) (by rw [← zAd (f:=AV.int)]; rfl) rfl rfl rfl ?_
  show some (AV.int (min (ns.length:Int) 208))=_
  exact congrArg (fun z=>some (AV.int z)) (by lia)
 have e:bI [af (.int 8),aS i9 false [aS az false [aa 0],af (.int 208)]] ⟨g1 ns M cs i lv q r,st⟩=.ok [.int 8,.int ((min ns.length 208:Nat):Int)] ⟨g1 ns M cs i lv q r,st⟩:=ag rfl (ag hm rfl)
 show aE (bI _) _ _=_
 rw [aq e]
 show Mine.opt (iA 8 ((min ns.length 208:Nat):Int)) _=_
 unfold iA fY ixs
 rw [okR_nat (zAj (zB8 _ _) (by decide)),show (((min ns.length 208:Nat):Int) - 8).toNat=min ns.length 208 - 8 by lia]
 rfl
theorem cells7 (hM:1<=M) (hM':M<=1000):cQ [(2,3),(3,1),(4,0)] 1 (some (aB (aj .Mod (aa 1) (aa 3)) .Eq (aa 2))) (am (aa 4) (ae 1)) (hU .range [af (.int 8),aS i9 false [aS az false [aa 0],af (.int 208)]]) ⟨g1 ns M cs i lv q r,st⟩=.ok (.lst ((cls ns M i).map .int)) ⟨g1 ns M cs i lv q r,st⟩:=by
 unfold cls
 rw [zCg]
 refine compT_at (l:=ixs ns) (f:=fun k:Nat=>AV.int (8+(k:Int))) (g:=fun k=>.int (ns.getD (8+k) 0)) (p:=isC M i) its7 (by unfold ixs; rw [zA3]; lia) fun k hk=>?_
 have hk:k < min ns.length 208 - 8:=zCr.mp hk
 refine ⟨[(2,.val (.int (i:Int))),(3,.val (.int (M:Int))),(4,.val (.lst (ns.map .int))),(1,.val (.int (8+(k:Int))))],?_,fun _=>⟨[(2,.val (.int (i:Int))),(3,.val (.int (M:Int))),(4,.val (.lst (ns.map .int))),(1,.val (.int (8+(k:Int))))],?_⟩⟩
 ·have e0:aj .Mod (aa 1) (aa 3) ⟨[(2,.val (.int (i:Int))),(3,.val (.int (M:Int))),(4,.val (.lst (ns.map .int))),(1,.val (.int (8+(k:Int))))],st⟩=.ok (.int (zAs (8+(k:Int)) (M:Int))) ⟨[(2,.val (.int (i:Int))),(3,.val (.int (M:Int))),(4,.val (.lst (ns.map .int))),(1,.val (.int (8+(k:Int))))],st⟩:=ay (a':=.int (8+(k:Int))) (b':=.int (M:Int)) rfl rfl rfl rfl (modL hM hM')
  have e:aB (aj .Mod (aa 1) (aa 3)) .Eq (aa 2) ⟨[(2,.val (.int (i:Int))),(3,.val (.int (M:Int))),(4,.val (.lst (ns.map .int))),(1,.val (.int (8+(k:Int))))],st⟩=.ok (.bool (isC M i k)) ⟨[(2,.val (.int (i:Int))),(3,.val (.int (M:Int))),(4,.val (.lst (ns.map .int))),(1,.val (.int (8+(k:Int))))],st⟩ :=
   (bT (r:=aa 2) (op:=.Eq) (b:=.pl 2) e0 rfl).trans rfl
  show aE (aB (aj .Mod (aa 1) (aa 3)) .Eq (aa 2)) _ _=_
  rw [show ai 1 (LV.val (AV.int (8+(k:Int)))) (dW [(2,3),(3,1),(4,0)] (g1 ns M cs i lv q r))=[(2,.val (.int (i:Int))),(3,.val (.int (M:Int))),(4,.val (.lst (ns.map .int))),(1,.val (.int (8+(k:Int))))] from rfl,aq e]; rfl
 ·refine aU (c':=.lst (ns.map .int)) (i:=.int ((8+k:Nat):Int)) rfl (by rw [zC8]; rfl) rfl (gM ?_)
  rw [zB0,zBy,zAw (show 8+k < ns.length by lia)]; rfl
end
theorem one_at (v:Int):∀ l:List Nat,l.Nodup->(l.map fun i:Nat=>(decide (v=(i:Int))).toNat).sum<=1
 | [],_=>zA7 _
 | i::r,h=>by
  obtain ⟨h1,h2⟩:=zBp.mp h
  show (decide (v=(i:Int))).toNat+(r.map fun i:Nat=>(decide (v=(i:Int))).toNat).sum<=1
  by_cases hv:v=(i:Int)
  ·rw [decide_eq_true hv]
   have:∀ l:List Nat,i ∉ l->(l.map fun i:Nat=>(decide (v=(i:Int))).toNat).sum=0:=by
    intro l
    induction l with
    | nil=>exact fun _=>rfl
    | cons k s ih =>
     intro hk
     rw [zA4,zCf]
     rw [ih fun q=>hk (zAe _ q),decide_eq_false fun q=>hk (by rw [show k=i from Int.ofNat.inj (q.symm.trans hv)]; exact zAb)]; rfl
   rw [this r h1]; exact zAy _
  ·rw [decide_eq_false hv]
   show 0+_<=1
   rw [Nat.zero_add]; exact one_at v r h2
theorem part_le {M:Nat} {js:List Nat} (hj:js.Nodup):∀ l:List Nat,(js.map fun i=>(l.filter (isC M i)).length).sum<=l.length
 | []=>by
  show (js.map fun i=>0).sum<=0
  induction js with
  | nil=>exact zAy _
  | cons x r ih=>rw [zA4,zCf,Nat.zero_add]; exact ih (zBp.mp hj).2
 | k::r=>by
  have ih:=part_le (M:=M) hj r
  have h1:=one_at (zAs (8+(k:Int)) (M:Int)) js hj
  have e:∀ js:List Nat,(js.map fun i=>((k::r).filter (isC M i)).length).sum=(js.map fun i:Nat=>(decide (zAs (8+(k:Int)) (M:Int)=(i:Int))).toNat).sum+(js.map fun i=>(r.filter (isC M i)).length).sum:=by
   intro js
   induction js with
   | nil=>rfl
   | cons i s ih =>
    rw [zA4,zCf,zA4,zCf,zA4,zCf,ih]
    have:((k::r).filter (isC M i)).length=(decide (zAs (8+(k:Int)) (M:Int)=(i:Int))).toNat+(r.filter (isC M i)).length:=by
     show (match isC M i k with | true=>k::r.filter (isC M i) | false=>r.filter (isC M i)).length=(isC M i k).toNat+_
     cases isC M i k with
     | true=>exact Nat.add_comm _ 1
     | false=>exact (Nat.zero_add _).symm
    rw [this]; lia
  rw [e]
  show _<=r.length+1
  lia
theorem cls_sum (ns:List Int) (M:Nat):((List.range M).map fun i=>(cls ns M i).length).sum<=200:=by
 have:=part_le (M:=M) (js:=List.range M) List.nodup_range (ixs ns)
 have h:(ixs ns).length<=200:=by unfold ixs; rw [zA3]; lia
 have e:((List.range M).map fun i=>(cls ns M i).length)=(List.range M).map fun i=>((ixs ns).filter (isC M i)).length:=List.map_congr_left fun i _=>by unfold cls; rw [zAd]
 rw [e]; exact zAj this h
noncomputable def ni (ns:List Int) (c:Nat):List Str:=(List.range c).map (kY (ns.getD 2 0))
theorem nms_eq (ns:List Int) (c:Nat):nms ns c=ni ns c++[kY (ns.getD 2 0) c,kY (ns.getD 2 0) (c+1)]:=by
 unfold nms ni
 rw [List.range_succ,List.range_succ,zAr,zAr,zAm]; rfl
noncomputable abbrev fnE (X:Ctx):D AV:=aI [am (aa 5) (af (.int 0)),aS dP false [cj (aa 6) (af .none) (am (aa 5) (af (.int 1)))],aX X "_law_body" [ae 7,ae 6,ae 2,ae 3]]
section
variable {K n M i:Nat} {st:St} {ns:List Int} {cs:List (Str × Nat)} {lv:LV} {q:Str × Nat} {r:bp} {sig:Str->Option Nat}
theorem fn_at (hq:q.2<=80) (hcl:cs.length<=100) (hi:i < cs.length) (hsig:∀ q ∈ cs,sig q.1=some q.2/\q.2<=100) (hc:(cls ns M i).length<=399) :
  ∃ t:Tr,fnE (wX K (n+3)) ⟨g1 ns M cs i lv q [(6,.own (.lst ((nms ns q.2).map .str))),(7,.own (.lst ((cls ns M i).map .int)))],st⟩=.ok (Fu.enc ⟨q.1,ni ns q.2,t⟩) ⟨g1 ns M cs i lv q [(6,.val (.lst ((nms ns q.2).map .str))),(7,.val (.lst ((cls ns M i).map .int)))],st⟩/\t.wf sig 12 (ni ns q.2) none/\len t<=2 * (cls ns M i).length+8:=by
 have hpl:(ni ns q.2).length=q.2:=by unfold ni; rw [zAd,zA3]
 obtain ⟨t,e,h1,h2⟩:=body_ok (K:=K) (n:=n) (st:=st) (cl:=cls ns M i) (ps:=ni ns q.2) (x:=kY (ns.getD 2 0) (q.2+1)) (y:=kY (ns.getD 2 0) q.2) (cs:=cs) (j:=i) (sig:=sig) hc (by lia) hcl hi hsig
 refine ⟨t,?_,h1,h2⟩
 rw [← nms_eq] at e
 have a1:aS dP false [cj (aa 6) (af .none) (am (aa 5) (af (.int 1)))] ⟨g1 ns M cs i lv q [(6,.own (.lst ((nms ns q.2).map .str))),(7,.own (.lst ((cls ns M i).map .int)))],st⟩=.ok (.tup ((ni ns q.2).map .str)) ⟨g1 ns M cs i lv q [(6,.own (.lst ((nms ns q.2).map .str))),(7,.own (.lst ((cls ns M i).map .int)))],st⟩:=by
  have s:kC (.lst ((nms ns q.2).map .str)) .none (.int (q.2:Int))=some (.lst ((ni ns q.2).map .str)):=by
   rw [nms_eq,iq (by rw [zAd,zAc,hpl]; exact zBc _ _),← zC7,List.take_left' hpl]
  exact cg (eQ rfl rfl rfl rfl s) rfl rfl
 have a2:aX (wX K (n+3)) "_law_body" [ae 7,ae 6,ae 2,ae 3] ⟨g1 ns M cs i lv q [(6,.own (.lst ((nms ns q.2).map .str))),(7,.own (.lst ((cls ns M i).map .int)))],st⟩=.ok t.enc ⟨g1 ns M cs i lv q [(6,.val (.lst ((nms ns q.2).map .str))),(7,.val (.lst ((cls ns M i).map .int)))],st⟩ :=
  a8 (vs:=[.lst ((cls ns M i).map .int),.lst ((nms ns q.2).map .str),.lst (cs.map b0),.int (i:Int)]) (s₁:=⟨g1 ns M cs i lv q [(6,.val (.lst ((nms ns q.2).map .str))),(7,.val (.lst ((cls ns M i).map .int)))],st⟩) rfl e
 exact bM (ag (s₁:=⟨g1 ns M cs i lv q [(6,.own (.lst ((nms ns q.2).map .str))),(7,.own (.lst ((cls ns M i).map .int)))],st⟩) rfl (ag a1 (ag a2 rfl))) rfl
end
noncomputable abbrev prB (X:Ctx):D Fl:=ac (bo 6 (bG [(4,0)] 1 (aX X "_law_word" [aX X "_law_cell_at" [ae 4,af (.int 2)],ae 1]) (hU .range [aj .Add (am (aa 5) (af (.int 1))) (af (.int 2))]))) (ac (bo 7 (cQ [(2,3),(3,1),(4,0)] 1 (some (aB (aj .Mod (aa 1) (aa 3)) .Eq (aa 2))) (am (aa 4) (ae 1)) (hU .range [af (.int 8),aS i9 false [aS az false [aa 0],af (.int 208)]]))) (ac (c8 (bY (aa 4) (fnE X))) (af .next)))
noncomputable def r6 (r:bp):Prop:=r=[] ∨ ∃ a b,r=[(6,a),(7,b)]
section
variable {K n M i:Nat} {st:St} {ns:List Int} {cs:List (Str × Nat)} {q:Str × Nat} {r:bp} {sig:Str->Option Nat} {ds:List AV}
theorem pr_turn (hr:r6 r) (hM:1<=M) (hM':M<=100) (hq:q.2<=80) (hcl:cs.length<=100) (hi:i < cs.length) (hsig:∀ q ∈ cs,sig q.1=some q.2/\q.2<=100) (hc:(cls ns M i).length<=399) (hd:ds.length<=900) :
  ∃ t:Tr,prB (wX K (n+3)) ⟨g1 ns M cs i (.own (.lst ds)) q r,st⟩=.ok .next ⟨g1 ns M cs i (.own (.lst (ds++[Fu.enc ⟨q.1,ni ns q.2,t⟩]))) q [(6,.val (.lst ((nms ns q.2).map .str))),(7,.val (.lst ((cls ns M i).map .int)))],st⟩/\t.wf sig 12 (ni ns q.2) none/\len t<=2 * (cls ns M i).length+8:=by
 obtain ⟨t,e,h⟩:=fn_at (K:=K) (n:=n) (st:=st) (ns:=ns) (M:=M) (lv:=.own (.lst ds)) hq hcl hi hsig hc
 refine ⟨t,?_,h⟩
 have s7:∃ r',r'=[(6,.own (.lst ((nms ns q.2).map .str))),(7,.own (.lst ((cls ns M i).map .int)))]/\ac (bo 6 (bG [(4,0)] 1 (aX (wX K (n+3)) "_law_word" [aX (wX K (n+3)) "_law_cell_at" [ae 4,af (.int 2)],ae 1]) (hU .range [aj .Add (am (aa 5) (af (.int 1))) (af (.int 2))]))) (ac (bo 7 (cQ [(2,3),(3,1),(4,0)] 1 (some (aB (aj .Mod (aa 1) (aa 3)) .Eq (aa 2))) (am (aa 4) (ae 1)) (hU .range [af (.int 8),aS i9 false [aS az false [aa 0],af (.int 208)]]))) (ac (c8 (bY (aa 4) (fnE (wX K (n+3))))) (af .next))) ⟨g1 ns M cs i (.own (.lst ds)) q r,st⟩=ac (c8 (bY (aa 4) (fnE (wX K (n+3))))) (af .next) ⟨g1 ns M cs i (.own (.lst ds)) q r',st⟩:=by
  refine ⟨_,rfl,?_⟩
  rcases hr with rfl | ⟨a,b,rfl⟩
  ·rw [ji (bf (names6 (n:=n+2) (by lia))),ji (s':=⟨g1 ns M cs i (.own (.lst ds)) q [(6,.own (.lst ((nms ns q.2).map .str))),(7,.own (.lst ((cls ns M i).map .int)))],st⟩) (bf (s':=⟨g1 ns M cs i (.own (.lst ds)) q [(6,.own (.lst ((nms ns q.2).map .str)))],st⟩) (cells7 hM (by lia)))]
  ·rw [ji (bf (names6 (n:=n+2) (by lia))),ji (s':=⟨g1 ns M cs i (.own (.lst ds)) q [(6,.own (.lst ((nms ns q.2).map .str))),(7,.own (.lst ((cls ns M i).map .int)))],st⟩) (bf (s':=⟨g1 ns M cs i (.own (.lst ds)) q [(6,.own (.lst ((nms ns q.2).map .str))),(7,b)],st⟩) (cells7 hM (by lia)))]
 obtain ⟨r',rfl,e7⟩:=s7
 show ac _ _ _=_
 rw [e7]
 exact bP (cu (gY (k:=4) rfl rfl e rfl (by lia) rfl)) trivial
end
noncomputable def PR (sig:Str->Option Nat) (ns:List Int) (M:Nat):Nat->List (Str × Nat)->List Fu->Prop
 | _,[],[]=>True
 | i,q::l,u::fs=>(u.nm=q.1/\u.ps=ni ns q.2/\u.bd.wf sig 12 u.ps none/\len u.bd<=2 * (cls ns M i).length+8)/\PR sig ns M (i+1) l fs
 | _,_,_=>False
noncomputable def g2 (ns:List Int) (M:Nat) (cs:List (Str × Nat)) (v:LV) (lv:LV) (r:bp):bp:=(0,.val (.lst (ns.map .int)))::(1,.val (.int (M:Int)))::(2,.val (.lst (cs.map b0)))::(3,v)::(4,lv)::r
noncomputable def r7 (r:bp):Prop:=r=[] ∨ ∃ z a b,r=[(5,z),(6,a),(7,b)]
section
variable {K n M:Nat} {st:St} {ns:List Int} {cs:List (Str × Nat)} {sig:Str->Option Nat}
theorem pr_loop (hM:1<=M) (hM':M<=100) (hcl:cs.length<=100) (hsig:∀ q ∈ cs,sig q.1=some q.2/\q.2<=80) (hc:∀ i,(cls ns M i).length<=399):∀ (l:List (Str × Nat)) (i:Nat) (gs:List Fu) (v:LV) (r:bp),r7 r->i+l.length=cs.length->(∀ q ∈ l,q ∈ cs)->gs.length+l.length<=900 ->
  ∃ fs v' r',br (none,[3,5]) (prB (wX K (n+3))) (fj (i:Int) (l.map b0)) ⟨g2 ns M cs v (.own (.lst (gs.map Fu.enc))) r,st⟩=.ok .next ⟨g2 ns M cs v' (.own (.lst ((gs++fs).map Fu.enc))) r',st⟩/\PR sig ns M i l fs
 | [],i,gs,v,r,hr,_,_,_=>⟨[],v,r,by rw [zAx]; rfl,trivial⟩
 | q::l,i,gs,v,r,hr,hi,hl,hg=>by
  have hi:i+(l.length+1)=cs.length:=hi
  have hg:gs.length+(l.length+1)<=900:=hg
  have e0:∃ r0,r6 r0/\jw [3,5] [.int (i:Int),b0 q] (g2 ns M cs v (.own (.lst (gs.map Fu.enc))) r)=g1 ns M cs i (.own (.lst (gs.map Fu.enc))) q r0:=by
   rcases hr with rfl | ⟨z,a,b,rfl⟩
   ·exact ⟨[],.inl rfl,rfl⟩
   ·exact ⟨[(6,a),(7,b)],.inr ⟨a,b,rfl⟩,rfl⟩
  obtain ⟨r0,hr0,e0⟩:=e0
  have hs:=hsig q (hl q zAb)
  obtain ⟨t,e1,h1,h2⟩:=pr_turn (K:=K) (n:=n) (st:=st) (ns:=ns) (M:=M) (i:=i) (cs:=cs) (q:=q) (sig:=sig) (ds:=gs.map Fu.enc) hr0 hM hM' hs.2 hcl (by lia) (fun p hp=>⟨(hsig p hp).1,zAj (hsig p hp).2 (by decide)⟩) (hc i) (by rw [zAd]; lia)
  obtain ⟨fs,v',r',e2,P⟩:=pr_loop hM hM' hcl hsig hc l (i+1) (gs++[⟨q.1,ni ns q.2,t⟩]) (.val (.int (i:Int))) [(5,.val (b0 q)),(6,.val (.lst ((nms ns q.2).map .str))),(7,.val (.lst ((cls ns M i).map .int)))] (.inr ⟨_,_,_,rfl⟩) (by lia) (fun p hp=>hl p (zAe _ hp)) (by rw [zAc]; show gs.length+1+_<=_; lia)
  refine ⟨⟨q.1,ni ns q.2,t⟩::fs,v',r',?_,⟨rfl,rfl,h1,h2⟩,P⟩
  refine cq (vs:=[.int (i:Int),b0 q]) rfl (by rw [e0]; exact e1) ?_
  have e3:gs++[⟨q.1,ni ns q.2,t⟩]++fs=gs++⟨q.1,ni ns q.2,t⟩::fs:=by rw [zAm]; rfl
  rw [e3,zAr (l₁:=gs) (l₂:=[⟨q.1,ni ns q.2,t⟩])] at e2
  exact e2
end
noncomputable def mny (ns:List Int):Nat:=1+(zAs (ns.getD 0 0) 5).toNat
theorem mF (ns:List Int):1<=mny ns/\mny ns<=5:=by
 unfold mny
 obtain ⟨j,hj,e⟩:=bR (ns.getD 0 0) (m:=5) (by decide)
 rw [show zAs (ns.getD 0 0) 5=j from e]
 exact ⟨by lia,by lia⟩
noncomputable def kU (ns:List Int):List (Str × Nat):=(List.range (mny ns)).map (cs1 ns)
section
variable {K n:Nat} {st:St} {ns:List Int} {sig:Str->Option Nat}
theorem pr_rest {r:Ret} (hsig:∀ q ∈ kU ns,sig q.1=some q.2/\q.2<=80) (hc:∀ i,(cls ns (mny ns) i).length<=399) :
  ∃ fs,PR sig ns (mny ns) 0 (kU ns) fs/\RT (ac (bo 2 (cF [])) (ac (dU (some 3,[]) (hU .range [ae 1]) (ctF (wX K (n+3)))) (ac (bo 4 (cF [])) (ac (dU (none,[3,5]) (hU .enum [ae 2]) (prB (wX K (n+3)))) (ac (aV (ae 4)) (af .next)))))) ⟨[(0,.val (.lst (ns.map .int))),(1,.val (.int (mny ns:Int)))],st⟩ (.ok (bU fs) st):=by
 have hm:=mF ns
 obtain ⟨r',hr,e1⟩:=ct_loop (K:=K) (n:=n+2) (M:=mny ns) (st:=st) (ns:=ns) (List.range (mny ns)) [] [] (.inl rfl) (by rw [zA3]; show 0+_<=_; lia)
 obtain ⟨v,rfl⟩:∃ v,r'=[(3,v)]:=hr.elim (fun z=>by have:=congrArg List.length z.1; rw [zA3] at this; exact absurd this (by show ¬ mny ns=0; lia)) id
 have hl:(kU ns).length=mny ns:=by unfold kU; rw [zAd,zA3]
 obtain ⟨fs,v',r'',e2,P⟩:=pr_loop (K:=K) (n:=n) (M:=mny ns) (st:=st) (ns:=ns) (cs:=kU ns) (sig:=sig) hm.1 (by lia) (by lia) hsig hc (kU ns) 0 [] v [] (.inl rfl) (Nat.zero_add _) (fun _ h=>h) (by show 0+_<=_; lia)
 refine ⟨fs,P,?_⟩
 refine .go (s':=⟨g0 ns (mny ns) (.own (.lst [])) [],st⟩) rfl (.forI (l:=(List.range (mny ns)).map fun i:Nat=>.int (i:Int)) (s₁:=⟨g0 ns (mny ns) (.own (.lst [])) [],st⟩) (cP rfl (ju (by lia))) e1 ?_)
 refine .go (s':=⟨(0,.val (.lst (ns.map .int)))::(1,.val (.int (mny ns:Int)))::(2,.own (.lst ((kU ns).map b0)))::(3,v)::[(4,.own (.lst []))],st⟩) rfl ?_
 refine .forT (l:=fj 0 ((kU ns).map b0)) (s₁:=⟨g2 ns (mny ns) (kU ns) v (.own (.lst [])) [],st⟩) rfl e2 ?_
 exact .ret (s':=⟨g2 ns (mny ns) (kU ns) v' (.val (.lst (fs.map Fu.enc))) r'',st⟩) rfl rfl
theorem program_ok' (hsig:∀ q ∈ kU ns,sig q.1=some q.2/\q.2<=80) (hc:∀ i,(cls ns (mny ns) i).length<=399):∃ fs,PR sig ns (mny ns) 0 (kU ns) fs/\au PP K (n+4) ⟨#[]⟩ "_law_program" [.lst (ns.map .int)] st=.ok (bU fs) st:=by
 obtain ⟨fs,P,h⟩:=pr_rest (K:=K) (n:=n) (st:=st) (r:=.stuck) hsig hc
 refine ⟨fs,P,?_⟩
 rw [kx]
 show RT (gg (wX K (n+3))) ⟨[(0,.val (.lst (ns.map .int)))],st⟩ _
 obtain ⟨j,hj,e⟩:=bR (ns.getD 0 0) (m:=5) (by decide)
 have c0:∀ L:bp,al 0 L=some (.val (.lst (ns.map .int)))->aX (wX K (n+3)) "_law_cell_at" [ae 0,af (.int 0)] ⟨L,st⟩=.ok (.int (ns.getD 0 0)) ⟨L,st⟩:=fun L h=>lH (n:=n+2) (i:=0) (k:=0) h
 have e1:aj .Add (af (.int 1)) (aj .Mod (aX (wX K (n+3)) "_law_cell_at" [ae 0,af (.int 0)]) (af (.int 5))) ⟨[(0,.val (.lst (ns.map .int)))],st⟩=.ok (.int ((1+j:Nat):Int)) ⟨[(0,.val (.lst (ns.map .int)))],st⟩ :=
  ay (b:=.int (j:Int)) (a':=.int 1) (b':=.int (j:Int)) rfl (by rw [← e]; exact iu (m:=5) (c0 _ rfl) rfl) rfl rfl (by show some (AV.int (1+(j:Int)))=_; rw [zC8]; rfl)
 unfold mny at h
 rw [show zAs (ns.getD 0 0) 5=j from e] at h
 exact .go (s':=⟨[(0,.val (.lst (ns.map .int))),(1,.val (.int ((1+j:Nat):Int)))],st⟩) (bf e1) h
end
section
variable {sig:Str->Option Nat} {ns:List Int} {M:Nat}
theorem PR.find:∀ {l:List (Str × Nat)} {fs:List Fu} {i:Nat},PR sig ns M i l fs->∀ f,(bx f fs).map (fun u=>u.ps.length)=aK f l
 | [],[],_,_,f=>rfl
 | q::l,u::fs,i,h,f=>by
  obtain ⟨⟨h1,h2,_⟩,h3⟩:=h
  show (if seq f u.nm then some u else bx f fs).map _=if seq f q.1 then some q.2 else aK f l
  rw [h1]
  cases seq f q.1 with
  | true=>show some u.ps.length=some q.2; rw [h2]; unfold ni; rw [zAd,zA3]
  | false=>exact PR.find h3 f
 | [],_::_,_,h,_=>h.elim
 | _::_,[],_,h,_=>h.elim
theorem PR.names:∀ {l:List (Str × Nat)} {fs:List Fu} {i:Nat},PR sig ns M i l fs->fs.map (·.nm)=l.map (·.1)
 | [],[],_,_=>rfl
 | q::l,u::fs,i,h=>by rw [zA4,zA4,h.1.1,PR.names h.2]
 | [],_::_,_,h=>h.elim
 | _::_,[],_,h=>h.elim
theorem PR.all:∀ {l:List (Str × Nat)} {fs:List Fu} {i:Nat},PR sig ns M i l fs->∀ u ∈ fs,∃ q ∈ l,u.ps=ni ns q.2/\u.bd.wf sig 12 u.ps none
 | q::l,u::fs,i,h,x,hx=>by
  rcases zAl.mp hx with rfl | hx
  ·exact ⟨q,zAb,h.1.2.1,h.1.2.2.1⟩
  ·obtain ⟨p,hp,z⟩:=PR.all h.2 x hx; exact ⟨p,zAe _ hp,z⟩
 | [],[],_,_,_,hx=>nomatch hx
 | [],_::_,_,h,_,_=>h.elim
 | _::_,[],_,h,_,_=>h.elim
end
noncomputable abbrev sg (ns:List Int) (f:Str):Option Nat:=aK f (kU ns)
theorem wnd {c:Int} {m:Nat} (hm:m<=25):((List.range m).map (kY c)).Nodup:=by
 show List.Pairwise (· ≠ ·) _
 rw [List.pairwise_map]
 exact List.Pairwise.imp_of_mem (fun ha hb z=>wrd_ne z (zBl (zCr.mp ha) hm) (zBl (zCr.mp hb) hm)) (List.nodup_range (n:=m))
section
variable {ns:List Int} {fs:List Fu}
theorem csL_fst:(kU ns).map (·.1)=(List.range (mny ns)).map (kY (ns.getD 1 0)):=by unfold kU; rw [zCg]; rfl
theorem csL_nd:((kU ns).map (·.1)).Nodup:=by rw [csL_fst]; exact wnd (zAj (mF ns).2 (by decide))
theorem csL_le {q:Str × Nat} (hq:q ∈ kU ns):q.2 < 7:=by obtain ⟨i,_,rfl⟩:=zBe.mp hq; exact (cnt_eq i).2
theorem sg_ok:∀ q ∈ kU ns,sg ns q.1=some q.2/\q.2<=80:=fun q hq=>⟨iN csL_nd hq,zAj (zC5 (csL_le hq)) (by decide)⟩
theorem cls_len (M i:Nat):(cls ns M i).length<=399:=by
 unfold cls ixs
 rw [zAd]
 refine zAj (List.length_filter_le _ _) ?_
 rw [zA3]; lia
theorem PR.tot {sig:Str->Option Nat} {M:Nat}:∀ {l:List (Str × Nat)} {fs:List Fu} {i:Nat},PR sig ns M i l fs->tot fs<=2 * ((List.range' i l.length).map fun j=>(cls ns M j).length).sum+9 * l.length/\fs.length=l.length
 | [],[],_,_=>⟨zAy _,rfl⟩
 | q::l,u::fs,i,h=>by
  obtain ⟨ih,il⟩:=PR.tot h.2
  have h4:=h.1.2.2.2
  refine ⟨?_,congrArg (·+1) il⟩
  show len u.bd+1+Mine.tot fs<=2 * ((List.range' i (l.length+1)).map _).sum+9 * (l.length+1)
  rw [List.range'_succ,zA4,zCf]
  lia
 | [],_::_,_,h=>h.elim
 | _::_,[],_,h=>h.elim
theorem PR.pw (P:PR (sg ns) ns (mny ns) 0 (kU ns) fs):PW fs/\Mine.tot fs<=900/\fs.length=mny ns:=by
 have hl:(kU ns).length=mny ns:=by unfold kU; rw [zAd,zA3]
 have hs:bW fs=sg ns:=funext fun f=>P.find f
 refine ⟨⟨by rw [P.names]; exact csL_nd,fun u hu=>?_,fun u hu=>?_⟩,?_,by rw [P.tot.2,hl]⟩
 ·obtain ⟨q,hq,e,_⟩:=P.all u hu
  have:=csL_le hq
  rw [e]
  exact ⟨wnd (by lia),by unfold ni; rw [zAd,zA3]; lia⟩
 ·obtain ⟨q,hq,_,h⟩:=P.all u hu
  rw [hs]; exact h
 ·have h1:=P.tot.1
  rw [hl,← List.range_eq_range'] at h1
  have h2:=cls_sum ns (mny ns)
  have h3:=(mF ns).2
  lia
end
theorem ltN_le:∀ t:Tr,ltN t<=len t:=by
 intro t
 induction t with
 | num _=>exact zA7 _
 | name _=>exact zA7 _
 | nil=>exact zA7 _
 | deed _ a b iha ihb=>exact Nat.max_le.mpr ⟨by show _<=len a+len b+1; lia,by show _<=len a+len b+1; lia⟩
 | choose a b c iha ihb ihc=>exact Nat.max_le.mpr ⟨by show _<=len a+len b+len c+2; lia,Nat.max_le.mpr ⟨by show _<=len a+len b+len c+2; lia,by show _<=len a+len b+len c+2; lia⟩⟩
 | lt _ a b iha ihb=>exact Nat.max_le.mpr ⟨by show _<=len a+len b+1; lia,by show _<=len a+len b+1; lia⟩
 | call _ l ih=>exact zAj ih (by show _<=len l+1; lia)
 | cons a b iha ihb=>exact Nat.max_le.mpr ⟨by show _<=len a+len b; lia,by show _<=len a+len b; lia⟩
theorem tot_ge:∀ {fs:List Fu} {u:Fu},u ∈ fs->len u.bd<=tot fs
 | v::r,u,h=>by
  show _<=len v.bd+1+tot r
  rcases zAl.mp h with rfl | h
  ·lia
  ·have:=tot_ge h; lia
theorem room_ok {fs:List Fu} (P:PW fs) (ht:tot fs<=900):∀ u ∈ fs,len u.bd<=900/\rmOf u<=5000:=fun u hu=>by
 have h1:=tot_ge hu
 have h2:=ltN_le u.bd
 have h3:=(P.ps u hu).2
 unfold rmOf
 exact ⟨by lia,by lia⟩
theorem wf_sig {sig sig':Str->Option Nat} (hs:∀ f c,sig f=some c->sig' f=some c):∀ (t:Tr) {h:Nat} {ns:List Str} {k:Option Nat},t.wf sig h ns k->t.wf sig' h ns k:=by
 intro t
 induction t with
 | num i=>exact fun q=>q
 | name x=>exact fun q=>q
 | deed w a b iha ihb =>
  intro h ns k q
  obtain ⟨rfl,j,rfl,h1,h2⟩:=q
  exact iD (iha h1) (ihb h2)
 | choose a b c iha ihb ihc =>
  intro h ns k q
  obtain ⟨rfl,j,rfl,h1,h2,h3⟩:=q
  exact hV (iha h1) (ihb h2) (ihc h3)
 | lt x a b iha ihb =>
  intro h ns k q
  obtain ⟨rfl,j,rfl,h1,h2⟩:=q
  exact jN (iha h1) (ihb h2)
 | call f l ih =>
  intro h ns k q
  obtain ⟨rfl,j,rfl,c,h1,hc,h2⟩:=q
  exact iJ (hs _ _ h1) hc (ih h2)
 | nil=>exact fun q=>q
 | cons t r iht ihr =>
  intro h ns k q
  obtain ⟨c,rfl,h1,h2⟩:=q
  exact oM (iht h1) (ihr h2)
theorem f7 {r r':Rl} {f g:List Int->Int->Rl} (h:r=r') (hf:∀ vs m,f vs m=g vs m):r.bind f=r'.bind g:=by
 subst h
 cases r with
 | val vs m=>exact hf vs m
 | bad c m=>rfl
theorem sem_in {sig:Str->Option Nat} {call call':Str->List Int->Int->Rl} (hc:∀ f vs m,(sig f).isSome=true->call f vs m=call' f vs m):∀ (t:Tr) {h:Nat} {ns:List Str} {k:Option Nat} {e:Env} {m:Int},t.wf sig h ns k->dS call t e m=dS call' t e m:=by
 intro t
 induction t with
 | num i=>exact fun _=>rfl
 | name x=>exact fun _=>rfl
 | deed w a b iha ihb =>
  intro h ns k e m q
  obtain ⟨rfl,j,rfl,h1,h2⟩:=q
  exact f7 (iha h1) fun _ _=>f7 (ihb h2) fun _ _=>rfl
 | choose a b c iha ihb ihc =>
  intro h ns k e m q
  obtain ⟨rfl,j,rfl,h1,h2,h3⟩:=q
  refine f7 (iha h1) fun x m=>?_
  rw [ihc h3,ihb h2]
 | lt x a b iha ihb =>
  intro h ns k e m q
  obtain ⟨rfl,j,rfl,h1,h2⟩:=q
  exact f7 (iha h1) fun _ _=>ihb h2
 | call f l ih =>
  intro h ns k e m q
  obtain ⟨rfl,j,rfl,c,h1,_,h2⟩:=q
  exact f7 (ih h2) fun vs m=>hc f vs m (by rw [h1]; rfl)
 | nil=>exact fun _=>rfl
 | cons t r iht ihr =>
  intro h ns k e m q
  obtain ⟨c,rfl,h1,h2⟩:=q
  exact f7 (iht h1) fun _ _=>f7 (ihr h2) fun _ _=>rfl
theorem callS_in {fs gs:List Fu} {F:Int} (P:PW fs) (hf:∀ f,(bW fs f).isSome=true->bx f gs=bx f fs):∀ (g:Nat) (f:Str) (vs:List Int) (m:Int),(bW fs f).isSome=true->b9 gs F g f vs m=b9 fs F g f vs m:=by
 intro g
 induction g with
 | zero=>exact fun _ _ _ _=>rfl
 | succ g ih =>
  intro f vs m hs
  show (if m=F then Rl.bad .dry m else match bx f gs with | some u=>dS (b9 gs F g) u.bd (u.ps.zip vs).reverse (m+1) | none=>.bad .deep m)=(if m=F then Rl.bad .dry m else match bx f fs with | some u=>dS (b9 fs F g) u.bd (u.ps.zip vs).reverse (m+1) | none=>.bad .deep m)
  rw [hf f hs]
  cases hu:bx f fs with
  | none=>rfl
  | some u =>
   show (if m=F then Rl.bad .dry m else dS (b9 gs F g) u.bd (u.ps.zip vs).reverse (m+1))=if m=F then Rl.bad .dry m else dS (b9 fs F g) u.bd (u.ps.zip vs).reverse (m+1)
   rw [sem_in ih u.bd (P.bd u (cD hu).1)]
theorem iU:∀ {fs:List Fu} {u:Fu},(fs.map (·.nm)).Nodup->u ∈ fs->bx u.nm fs=some u
 | v::r,u,h,hu=>by
  have h':=zBp.mp h
  show (if seq u.nm v.nm then some v else bx u.nm r)=_
  rcases zAl.mp hu with rfl | hu
  ·rw [bS]; rfl
  ·rw [sq_ne (x:=u.nm) (y:=v.nm) fun e=>h'.1 (zBe.mpr ⟨u,hu,e⟩)]; exact iU h'.2 hu
theorem k6:∀ fs:List Fu,tot fs=(fs.map fun u=>len u.bd+1).sum
 | []=>rfl
 | u::r=>by show len u.bd+1+tot r=_; rw [k6 r]; rfl
theorem find_in {fs gs:List Fu} (nd:(gs.map (·.nm)).Nodup) (sub:∀ u ∈ fs,u ∈ gs) (f:Str) (h:(bW fs f).isSome=true):bx f gs=bx f fs:=by
 cases hu:bx f fs with
 | none=>unfold bW at h; rw [hu] at h; exact ff h
 | some u =>
  obtain ⟨h1,h2⟩:=cD hu
  rw [← h2]; exact iU nd (sub u h1)
noncomputable def pr (nm:Str) (k:Nat) (one:Fu):Tr:=.lt "u" (.choose (.name nm) (.call nm (trL [.num (k:Int)])) (.call one.nm (trL (one.ps.map fun _=>.name nm)))) (.deed .part (.name "u") (.num 0))
noncomputable def oth (c1:Int) (one:Fu) (k:Nat):Fu:=⟨kY c1 (20+k),[kY c1 (20+k)],pr (kY c1 (20+k)) k one⟩
theorem cap1 {L:bp} {a i:Nat} {x:AV} (h1:al a L=some (.val x)):dW [(i,a)] L=[(i,.val x)]/\letGo [(i,a)] L=L:=by
 constructor
 ·show (match al a L with | some lv=>(i,LV.val (lvV lv))::[] | none=>[])=_
  rw [h1]; rfl
 ·show (match al a L with | some (LV.own v)=>ai a (LV.val v) L | _=>L)=_
  rw [h1]
section
variable {K n:Nat} {st:St} {ns:List Int} {fs:List Fu} {u:Fu} {L:bp}
theorem pick_fu (h1:1<=fs.length) (h2:fs.length<=900) (x:Int):∃ u ∈ fs,∀ {d:D AV} {L:bp} {st:St},al 1 L=some (.val (bU fs))->d ⟨L,st⟩=.ok (.int x) ⟨L,st⟩->am (aa 1) (aj .Mod d (aS az false [aa 1])) ⟨L,st⟩=.ok u.enc ⟨L,st⟩:=by
 obtain ⟨j,hj,e⟩:=bR x (m:=fs.length) h1
 refine ⟨fs[j],List.getElem_mem hj,fun {d L st} h hd=>?_⟩
 have el:aS az false [aa 1] ⟨L,st⟩=.ok (.int (fs.length:Int)) ⟨L,st⟩:=cg (ba h) (ip h) (by rw [← zAd (f:=Fu.enc)]; rfl)
 refine aU (i:=.int (j:Int)) (ba h) (ay (a':=.int x) (b':=.int (fs.length:Int)) hd el rfl rfl ((modL h1 (by lia)).trans (by rw [e]))) (ip h) (gM ?_)
 rw [zB0,zAw hj]; rfl
noncomputable abbrev otB (X:Ctx):D Fl:=ac (aL 5 (aX X "_law_word" [aX X "_law_cell_at" [ae 0,af (.int 1)],aj .Add (af (.int 20)) (aa 4)])) (ac (aL 6 (am (aa 1) (aj .Mod (aj .FloorDiv (aa 2) (af (.int 3))) (aS az false [aa 1])))) (ac (aL 7 (aS dP false [bG [(2,5)] 1 (aI [af (.str "name"),ae 2]) (bw (am (aa 6) (af (.int 1))))])) (ac (aL 8 (aI [af (.str "call"),ae 5,aI [aI [af (.str "num"),ae 4]]])) (ac (aL 9 (aI [af (.str "choose"),aI [af (.str "name"),ae 5],ae 8,aI [af (.str "call"),am (aa 6) (af (.int 0)),ae 7]])) (ac (aL 9 (aI [af (.str "let"),af (.str "u"),ae 9,aI [af (.str "part"),aI [af (.str "name"),af (.str "u")],aI [af (.str "num"),af (.int 0)]]])) (ac (c8 (bY (aa 3) (aI [ae 5,aI [ae 5],ae 9]))) (af .next)))))))
noncomputable def Lo (ns:List Int) (fs:List Fu) (ds:List Fu) (L:bp):Prop:=al 0 L=some (.val (.lst (ns.map .int)))/\al 1 L=some (.val (bU fs))/\al 2 L=some (.val (.int (ns.getD 4 0)))/\al 3 L=some (.own (bU ds))
theorem Lo.set {ds:List Fu} {k:Nat} {lv:LV} (h:Lo ns fs ds L):Lo ns fs ds (ai (k+4) lv L) :=
 ⟨(ah rfl).trans h.1,(ah rfl).trans h.2.1,(ah rfl).trans h.2.2.1,(ah rfl).trans h.2.2.2⟩
theorem ot_turn {ds:List Fu} {k:Nat} (hps:u.ps.length<=100) (hds:ds.length<=100) (hu:∀ {d:D AV} {L:bp} {st:St},al 1 L=some (.val (bU fs))->d ⟨L,st⟩=.ok (.int (zAp (ns.getD 4 0) 3)) ⟨L,st⟩->am (aa 1) (aj .Mod d (aS az false [aa 1])) ⟨L,st⟩=.ok u.enc ⟨L,st⟩)
  (hL:Lo ns fs ds L) (h4:al 4 L=some (.val (.int (k:Int)))):∃ L',otB (wX K (n+1)) ⟨L,st⟩=.ok .next ⟨L',st⟩/\Lo ns fs (ds++[oth (ns.getD 1 0) u k]) L':=by
 generalize hnm:kY (ns.getD 1 0) (20+k)=nm
 have e5:aX (wX K (n+1)) "_law_word" [aX (wX K (n+1)) "_law_cell_at" [ae 0,af (.int 1)],aj .Add (af (.int 20)) (aa 4)] ⟨L,st⟩=.ok (.str nm) ⟨L,st⟩:=by
  have a:=ay (op:=.Add) (l:=af (.int 20)) (r:=aa 4) (s:=⟨L,st⟩) (s₁:=⟨L,st⟩) (a':=.int 20) (b':=.int (k:Int)) (v:=.int ((20+k:Nat):Int)) rfl (ba h4) rfl (mz h4) (by show some (AV.int (20+(k:Int)))=_; rw [zC8]; rfl)
  rw [← hnm]
  exact a8 (s₁:=⟨L,st⟩) (ag (lH (i:=1) (k:=0) hL.1) (ag a rfl)) (oF _ (20+k))
 have L1:Lo ns fs ds (ai 5 (.val (.str nm)) L):=hL.set (k:=1)
 have f5:al 5 (ai 5 (.val (.str nm)) L)=some (.val (.str nm)):=aA
 have f4:al 4 (ai 5 (.val (.str nm)) L)=some (.val (.int (k:Int))):=(ah rfl).trans h4
 generalize hA:ai 5 (.val (.str nm)) L=La at L1 f5 f4
 have e6:am (aa 1) (aj .Mod (aj .FloorDiv (aa 2) (af (.int 3))) (aS az false [aa 1])) ⟨La,st⟩=.ok u.enc ⟨La,st⟩:=hu L1.2.1 (ay (a':=.int (ns.getD 4 0)) (b':=.int 3) (ba L1.2.2.1) rfl (mz L1.2.2.1) rfl rfl)
 have L2:Lo ns fs ds (ai 6 (.val u.enc) La):=L1.set (k:=2)
 have g5:al 5 (ai 6 (.val u.enc) La)=some (.val (.str nm)):=(ah rfl).trans f5
 have g4:al 4 (ai 6 (.val u.enc) La)=some (.val (.int (k:Int))):=(ah rfl).trans f4
 have g6:al 6 (ai 6 (.val u.enc) La)=some (.val u.enc):=aA
 generalize hB:ai 6 (.val u.enc) La=Lb at L2 g5 g4 g6
 generalize hargs:(AV.tup (u.ps.map fun _=>(Tr.name nm).enc))=args
 have e7:aS dP false [bG [(2,5)] 1 (aI [af (.str "name"),ae 2]) (bw (am (aa 6) (af (.int 1))))] ⟨Lb,st⟩=.ok args ⟨Lb,st⟩:=by
  have c:=cap1 (i:=2) g5
  have h:=iT (caps:=[(2,5)]) (k:=1) (elt:=aI [af (.str "name"),ae 2]) (its:=bw (am (aa 6) (af (.int 1)))) (l:=u.ps) (f:=AV.str) (g:=fun _=>(Tr.name nm).enc) (s:=⟨Lb,st⟩) (s₁:=⟨Lb,st⟩) (by
   have e:am (aa 6) (af (.int 1)) ⟨Lb,st⟩=.ok (.tup (u.ps.map .str)) ⟨Lb,st⟩:=aU (ba g6) rfl (bV g6) rfl
   show aE (am _ _) _ _=_; rw [aq e]; rfl) (by lia) (fun x hx=>⟨[(2,.val (.str nm)),(1,.val (.str x))],by
   show aI _ ⟨ai 1 _ (dW [(2,5)] Lb),st⟩=_
   rw [c.1]; rfl⟩)
  rw [show (S.mk Lb st).loc=Lb from rfl,c.2] at h
  rw [← hargs]
  exact cg h rfl rfl
 have L3:Lo ns fs ds (ai 7 (.val args) Lb):=L2.set (k:=3)
 have i5:al 5 (ai 7 (.val args) Lb)=some (.val (.str nm)):=(ah rfl).trans g5
 have i4:al 4 (ai 7 (.val args) Lb)=some (.val (.int (k:Int))):=(ah rfl).trans g4
 have i6:al 6 (ai 7 (.val args) Lb)=some (.val u.enc):=(ah rfl).trans g6
 have i7:al 7 (ai 7 (.val args) Lb)=some (.val args):=aA
 generalize hC:ai 7 (.val args) Lb=Lc at L3 i5 i4 i6 i7
 have e8:aI [af (.str "call"),ae 5,aI [aI [af (.str "num"),ae 4]]] ⟨Lc,st⟩=.ok (Tr.call nm (trL [.num (k:Int)])).enc ⟨Lc,st⟩:=bM (ag rfl (ag (bk i5) (ag (bM (ag (bM (ag rfl (ag (bk i4) rfl)) rfl) rfl) rfl) rfl))) rfl
 generalize h8:(Tr.call nm (trL [.num (k:Int)])).enc=ca at e8
 have L4:Lo ns fs ds (ai 8 (.val ca) Lc):=L3.set (k:=4)
 have j5:al 5 (ai 8 (.val ca) Lc)=some (.val (.str nm)):=(ah rfl).trans i5
 have j6:al 6 (ai 8 (.val ca) Lc)=some (.val u.enc):=(ah rfl).trans i6
 have j7:al 7 (ai 8 (.val ca) Lc)=some (.val args):=(ah rfl).trans i7
 have j8:al 8 (ai 8 (.val ca) Lc)=some (.val ca):=aA
 generalize hD:ai 8 (.val ca) Lc=Ld at L4 j5 j6 j7 j8
 generalize h9:AV.tup [.str "choose",.tup [.str "name",.str nm],ca,.tup [.str "call",.str u.nm,args]]=ch
 have e9:aI [af (.str "choose"),aI [af (.str "name"),ae 5],ae 8,aI [af (.str "call"),am (aa 6) (af (.int 0)),ae 7]] ⟨Ld,st⟩=.ok ch ⟨Ld,st⟩:=by
  rw [← h9]
  exact bM (ag rfl (ag (bM (ag rfl (ag (bk j5) rfl)) rfl) (ag (bk j8) (ag (bM (ag rfl (ag (aU (ba j6) rfl (bV j6) rfl) (ag (bk j7) rfl))) rfl) rfl)))) rfl
 have L5:Lo ns fs ds (ai 9 (.val ch) Ld):=L4.set (k:=5)
 have k5:al 5 (ai 9 (.val ch) Ld)=some (.val (.str nm)):=(ah rfl).trans j5
 have k9:al 9 (ai 9 (.val ch) Ld)=some (.val ch):=aA
 generalize hE:ai 9 (.val ch) Ld=Le at L5 k5 k9
 have e10:aI [af (.str "let"),af (.str "u"),ae 9,aI [af (.str "part"),aI [af (.str "name"),af (.str "u")],aI [af (.str "num"),af (.int 0)]]] ⟨Le,st⟩=.ok (pr nm k u).enc ⟨Le,st⟩:=by
  have:(pr nm k u).enc=.tup [.str "let",.str "u",ch,.tup [.str "part",.tup [.str "name",.str "u"],.tup [.str "num",.int 0]]]:=by
   rw [← h9,← h8,← hargs]
   show AV.tup [_,_,.tup [_,_,_,.tup [_,_,(trL (u.ps.map fun _=>Tr.name nm)).enc]],_]=_
   rw [o9,zCg]; rfl
  rw [this]
  exact bM (ag rfl (ag (s₁:=⟨Le,st⟩) rfl (ag (bk k9) (ag (s₁:=⟨Le,st⟩) rfl rfl)))) rfl
 have L6:Lo ns fs ds (ai 9 (.val (pr nm k u).enc) Le):=L5.set (k:=5)
 have m5:al 5 (ai 9 (.val (pr nm k u).enc) Le)=some (.val (.str nm)):=(ah rfl).trans k5
 have m9:al 9 (ai 9 (.val (pr nm k u).enc) Le)=some (.val (pr nm k u).enc):=aA
 generalize hF:ai 9 (.val (pr nm k u).enc) Le=Lf at L6 m5 m9
 have e11:aI [ae 5,aI [ae 5],ae 9] ⟨Lf,st⟩=.ok (oth (ns.getD 1 0) u k).enc ⟨Lf,st⟩:=by
  unfold oth
  rw [hnm]
  exact bM (ag (bk m5) (ag (bM (ag (bk m5) rfl) rfl) (ag (bk m9) rfl))) rfl
 have e12:=gY (S₂:=⟨ai 3 (.own (.lst (ds.map Fu.enc++[(oth (ns.getD 1 0) u k).enc]))) Lf,st⟩) (ba (st:=st) L6.2.2.2) L6.2.2.2 e11 L6.2.2.2 (by rw [zAd]; lia) rfl
 refine ⟨ai 3 (.own (.lst (ds.map Fu.enc++[(oth (ns.getD 1 0) u k).enc]))) Lf,?_,(ah rfl).trans L6.1,(ah rfl).trans L6.2.1,(ah rfl).trans L6.2.2.1,by rw [aA]; show _=some (LV.own (.lst ((ds++[_]).map Fu.enc))); rw [zAr]; rfl⟩
 have s5:=aQ (i:=5) e5
 have s6:=aQ (i:=6) e6
 have s7:=aQ (i:=7) e7
 have s8:=aQ (i:=8) e8
 have s9:=aQ (i:=9) e9
 have s10:=aQ (i:=9) e10
 dsimp only at s5 s6 s7 s8 s9 s10
 rw [hA] at s5; rw [hB] at s6; rw [hC] at s7; rw [hD] at s8; rw [hE] at s9; rw [hF] at s10
 exact (ji s5).trans ((ji s6).trans ((ji s7).trans ((ji s8).trans ((ji s9).trans ((ji s10).trans (bP (cu e12) trivial))))))
end
section
variable {K n:Nat} {st:St} {ns:List Int} {fs:List Fu} {u:Fu}
theorem ot_loop (hps:u.ps.length<=100) (hu:∀ {d:D AV} {L:bp} {st:St},al 1 L=some (.val (bU fs))->d ⟨L,st⟩=.ok (.int (zAp (ns.getD 4 0) 3)) ⟨L,st⟩->am (aa 1) (aj .Mod d (aS az false [aa 1])) ⟨L,st⟩=.ok u.enc ⟨L,st⟩) :
  ∀ (l:List Nat) (ds:List Fu) (L:bp),ds.length+l.length<=100->Lo ns fs ds L->∃ L',br (some 4,[]) (otB (wX K (n+1))) (l.map fun i:Nat=>.int (i:Int)) ⟨L,st⟩=.ok .next ⟨L',st⟩/\Lo ns fs (ds++l.map (oth (ns.getD 1 0) u)) L'
 | [],ds,L,_,hL=>⟨L,rfl,by rw [List.map_nil,zAx]; exact hL⟩
 | k::l,ds,L,hl,hL=>by
  have hl':ds.length+(l.length+1)<=100:=hl
  obtain ⟨L1,e1,h1⟩:=ot_turn (K:=K) (n:=n) (st:=st) (L:=ai 4 (.val (.int (k:Int))) L) (k:=k) hps (by lia) hu (hL.set (k:=0)) aA
  obtain ⟨L2,e2,h2⟩:=ot_loop hps hu l (ds++[oth (ns.getD 1 0) u k]) L1 (by rw [zAc]; show ds.length+1+_<=_; lia) h1
  exact ⟨L2,cf e1 e2,by rw [zAm] at h2; exact h2⟩
noncomputable def oth3 (ns:List Int):Nat:=1+(zAs (ns.getD 4 0) 3).toNat
theorem pb (ns:List Int):1<=oth3 ns/\oth3 ns<=3:=by
 unfold oth3
 obtain ⟨j,hj,e⟩:=bR (ns.getD 4 0) (m:=3) (by decide)
 rw [show zAs (ns.getD 4 0) 3=j from e]; exact ⟨by lia,by lia⟩
noncomputable def ku (ns:List Int) (u:Fu):List Fu:=(List.range (oth3 ns)).map (oth (ns.getD 1 0) u)
theorem others_ok (h1:1<=fs.length) (h2:fs.length<=900) (hps:∀ u ∈ fs,u.ps.length<=100):∃ u ∈ fs,au PP K (n+2) ⟨#[]⟩ "_law_others" [.lst (ns.map .int),bU fs] st=.ok (bU (ku ns u)) st:=by
 obtain ⟨u,hm,hu⟩:=pick_fu h1 h2 (zAp (ns.getD 4 0) 3)
 refine ⟨u,hm,?_⟩
 rw [mw]
 show RT (gR (wX K (n+1))) ⟨[(0,.val (.lst (ns.map .int))),(1,.val (bU fs))],st⟩ _
 have hl:=pb ns
 obtain ⟨L',e,h⟩:=ot_loop (K:=K) (n:=n) (st:=st) (hps u hm) hu (List.range (oth3 ns)) [] [(0,.val (.lst (ns.map .int))),(1,.val (bU fs)),(2,.val (.int (ns.getD 4 0))),(3,.own (.lst []))] (by rw [zA3]; show 0+_<=_; lia) ⟨rfl,rfl,rfl,rfl⟩
 have e4:hU .range [aj .Add (af (.int 1)) (aj .Mod (aa 2) (af (.int 3)))] ⟨[(0,.val (.lst (ns.map .int))),(1,.val (bU fs)),(2,.val (.int (ns.getD 4 0))),(3,.own (.lst []))],st⟩=.ok (.lst ((List.range (oth3 ns)).map fun i:Nat=>.int (i:Int))) ⟨[(0,.val (.lst (ns.map .int))),(1,.val (bU fs)),(2,.val (.int (ns.getD 4 0))),(3,.own (.lst []))],st⟩:=by
  obtain ⟨j,hj,q⟩:=bR (ns.getD 4 0) (m:=3) (by decide)
  have q':zAs (ns.getD 4 0) 3=j:=q
  have e0:aj .Add (af (.int 1)) (aj .Mod (aa 2) (af (.int 3))) ⟨[(0,.val (.lst (ns.map .int))),(1,.val (bU fs)),(2,.val (.int (ns.getD 4 0))),(3,.own (.lst []))],st⟩=.ok (.int (oth3 ns:Int)) ⟨[(0,.val (.lst (ns.map .int))),(1,.val (bU fs)),(2,.val (.int (ns.getD 4 0))),(3,.own (.lst []))],st⟩:=by
   unfold oth3
   rw [q']
   exact ay (op:=.Add) (a':=.int 1) (b':=.int (j:Int)) (b:=.int (j:Int)) (s₁:=⟨[(0,.val (.lst (ns.map .int))),(1,.val (bU fs)),(2,.val (.int (ns.getD 4 0))),(3,.own (.lst []))],st⟩) rfl (by rw [← q']; exact ay (op:=.Mod) (a':=.int (ns.getD 4 0)) (b':=.int 3) rfl rfl rfl rfl rfl) rfl rfl (by show some (AV.int (1+(j:Int)))=some (AV.int ((1+(j:Int).toNat:Nat):Int)); rw [zCn,zC8]; rfl)
  show aE (bI _) _ _=_
  rw [aq (ag e0 rfl)]
  exact cP rfl (ju (by lia))
 refine .go (s':=⟨[(0,.val (.lst (ns.map .int))),(1,.val (bU fs)),(2,.val (.int (ns.getD 4 0)))],st⟩) (aQ (lH (i:=4) (k:=0) rfl)) (.go (s':=⟨[(0,.val (.lst (ns.map .int))),(1,.val (bU fs)),(2,.val (.int (ns.getD 4 0))),(3,.own (.lst []))],st⟩) rfl (.forI e4 e (.ret (s':=⟨ai 3 (.val (bU (ku ns u))) L',st⟩) (gt h.2.2.2) rfl)))
theorem nums_len:∀ (l:List Str) (x:Str),len (trL (l.map fun _=>Tr.name x))=l.length
 | [],_=>rfl
 | _::r,x=>by show 1+len (trL (r.map fun _=>Tr.name x))=r.length+1; rw [nums_len r x,Nat.add_comm]
theorem oth_wf {sig:Str->Option Nat} {nm:Str} {k:Nat} (hk:k<=100) (h1:sig nm=some 1) (h2:sig u.nm=some u.ps.length) (h3:u.ps.length<=100):(pr nm k u).wf sig 12 [nm] none :=
 jN (hV (kZ zAb) (iJ h1 (by decide) (pH [Tr.num (k:Int)] fun t ht=>by rw [zAi.mp ht]; exact io ⟨by lia,by lia⟩)) (iJ h2 h3 (by
  have:=pH (sig:=sig) (h:=9) (ns:=[nm]) (u.ps.map fun _=>Tr.name nm) fun t ht=>by obtain ⟨_,_,rfl⟩:=zBe.mp ht; exact kZ zAb
  rw [zAd] at this; exact this))) (iD (kZ (zBg _ zAb)) (io ⟨by decide,by decide⟩))
theorem wix {c:Int}:∀ {l:List Nat},(∀ k ∈ l,k < 25)->l.Nodup->(l.map (kY c)).Nodup:=fun {l} h hn=>by
 show List.Pairwise (· ≠ ·) _
 rw [List.pairwise_map]
 exact List.Pairwise.imp_of_mem (fun ha hb z=>wrd_ne z (h _ ha) (h _ hb)) hn
theorem tot_le {B:Nat}:∀ {l:List Fu},(∀ v ∈ l,len v.bd+1<=B)->tot l<=l.length * B
 | [],_=>zA7 _
 | v::r,h=>by
  have h1:=h v zAb
  have h2:=tot_le fun w hw=>h w (zAe _ hw)
  show len v.bd+1+tot r<=(r.length+1) * B
  rw [zCw,Nat.one_mul]; lia
theorem among_ok {gs:List Fu} (P:PR (sg ns) ns (mny ns) 0 (kU ns) fs) (hu:u ∈ fs) (hp:gs.Perm (fs++ku ns u)):PW gs/\tot gs<=900/\gs.length<=900/\∀ f,(bW fs f).isSome=true->bx f gs=bx f fs:=by
 obtain ⟨PF,ht,hl⟩:=P.pw
 have hm:=mF ns
 have h3:=pb ns
 have nm2:(fs++ku ns u).map (·.nm)=(List.range (mny ns)++(List.range (oth3 ns)).map (20+·)).map (kY (ns.getD 1 0)):=by
  rw [zAr,zAr,P.names,csL_fst]
  unfold ku
  rw [zCg,zCg]; rfl
 have nd:(gs.map (·.nm)).Nodup:=by
  rw [(hp.map _).nodup_iff,nm2]
  refine wix (fun k hk=>?_) (List.nodup_append.mpr ⟨List.nodup_range,?_,fun a ha b hb e=>?_⟩)
  ·rcases zA2.mp hk with q | q
   ·have:=zCr.mp q; lia
   ·obtain ⟨i,hi,rfl⟩:=zBe.mp q
    have:=zCr.mp hi
    show 20+i < 25
    lia
  ·show List.Pairwise (· ≠ ·) _
   rw [List.pairwise_map]
   exact List.Pairwise.imp (fun h e=>h (Nat.add_left_cancel e)) (List.nodup_range (n:=oth3 ns))
  ·obtain ⟨i,hi,rfl⟩:=zBe.mp hb
   have:=zCr.mp ha
   have e:a=20+i:=e
   lia
 have sub:∀ v ∈ fs,v ∈ gs:=fun v hv=>hp.mem_iff.mpr (zBj _ hv)
 have hfi:=find_in nd sub
 have hs:∀ f c,bW fs f=some c->bW gs f=some c:=fun f c h=>by
  have:=hfi f (by rw [h]; rfl)
  unfold bW at h ⊢
  rw [this]; exact h
 have sgm:∀ v ∈ gs,bW gs v.nm=some v.ps.length:=fun v hv=>by unfold bW; rw [iU nd hv]; rfl
 have hup:=(PF.ps u hu).2
 have cases:∀ v ∈ gs,v ∈ fs ∨ ∃ k,k<=100/\v=oth (ns.getD 1 0) u k:=fun v hv=>by
  rcases zA2.mp (hp.mem_iff.mp hv) with q | q
  ·exact .inl q
  ·obtain ⟨k,hk,rfl⟩:=zBe.mp q
   have:=zCr.mp hk
   exact .inr ⟨k,by lia,rfl⟩
 refine ⟨⟨nd,fun v hv=>?_,fun v hv=>?_⟩,?_,?_,hfi⟩
 ·rcases cases v hv with q | ⟨k,_,rfl⟩
  ·exact PF.ps v q
  ·exact ⟨zBp.mpr ⟨zBr,List.nodup_nil⟩,show 1<=100 by decide⟩
 ·rcases cases v hv with q | ⟨k,hk,rfl⟩
  ·exact wf_sig hs v.bd (PF.bd v q)
  ·exact oth_wf hk (sgm _ hv) (sgm u (sub u hu)) hup
 ·have e:tot gs=tot fs+tot (ku ns u):=by rw [k6,(hp.map _).sum_nat,zAr,List.sum_append,← k6,← k6]
  have h1:=P.tot.1
  rw [show (kU ns).length=mny ns by unfold kU; rw [zAd,zA3],← List.range_eq_range'] at h1
  have h2:=cls_sum ns (mny ns)
  have h4:=tot_le (B:=111) (l:=ku ns u) fun v hv=>by
   obtain ⟨k,hk,rfl⟩:=zBe.mp hv
   show 1+(1+0+1)+(len (trL (u.ps.map fun _=>Tr.name (kY (ns.getD 1 0) (20+k))))+1)+2+(1+1+1)+1+1<=111
   rw [nums_len]; lia
  rw [show (ku ns u).length=oth3 ns by unfold ku; rw [zAd,zA3]] at h4
  rw [e]; lia
 ·rw [hp.length_eq,zAc]
  unfold ku
  rw [zAd,zA3]; lia
end
section
variable {K n:Nat} {st:St} {L:bp} {l:List AV} {j:Nat}
theorem pR (h:hasL j l L) (hl:l.length<=1000):aS aZ false [aa j] ⟨L,st⟩=.ok (.lst l) ⟨L,st⟩:=cg h.pk h.dr (cN hl)
theorem not_at {d:D AV} {s s₁:S} {t:Bool} (h:d s=.ok (.bool t) s₁):jz d s=.ok (.bool (!t)) s₁:=by
 unfold jz; rw [aq h]; rfl
theorem pn {d:D AV} {s s₁:S} {v c:AV} {t:Ty} {b:Bool} (h:d s=.ok v s₁) (hc:aT v s₁=some c) (hb:fh t c=some b):gp d (fh t) s=.ok (.bool b) s₁:=by
 unfold gp; rw [aq h,aq (fE hc),hb]; rfl
theorem or3 {a b c:D AV} {s:S} {t:Bool} (h1:a s=.ok (.bool false) s) (h2:b s=.ok (.bool false) s) (h3:c s=.ok (.bool t) s):bc .Or [a,b,c] s=.ok (.bool t) s:=by
 rw [j1 h1]
 show bc .Or [b,c] s=_
 rw [j1 h2]; exact h3
noncomputable abbrev cz:D Fl:=ac (bQ (bc .Or [jz (gp (aa 13) (fh .tuple)),aB (aS az false [aa 13]) .NotEq (af (.int 3)),jz (gp (am (aa 13) (af (.int 0))) (fh .str))]) (ac (aV (af (.bool false))) (af .next)) (af .next)) (ac (bQ (aB (aa 13) .NotEq (aa 10)) (ac (aV (af (.bool false))) (af .next)) (af .next)) (af .next))
theorem cz_ok {w:Str} {v:AV} {m:Int} (hv:v=.none ∨ ∃ i,v=.int i) (h13:al 13 L=some (.val (.tup [.str w,v,.int m]))) (h10:al 10 L=some (.val (.tup [.str w,v,.int m]))):cz ⟨L,st⟩=.ok .next ⟨L,st⟩:=by
 have e1:jz (gp (aa 13) (fh .tuple)) ⟨L,st⟩=.ok (.bool false) ⟨L,st⟩:=not_at (t:=true) (pn (ba h13) (bV h13) rfl)
 have e2:aB (aS az false [aa 13]) .NotEq (af (.int 3)) ⟨L,st⟩=.ok (.bool false) ⟨L,st⟩:=(bT (cg (v:=.int 3) (ba h13) (bV h13) rfl) rfl).trans rfl
 have i0:am (aa 13) (af (.int 0)) ⟨L,st⟩=.ok (.str w) ⟨L,st⟩:=aU (ba h13) rfl (bV h13) rfl
 have e3:jz (gp (am (aa 13) (af (.int 0))) (fh .str)) ⟨L,st⟩=.ok (.bool false) ⟨L,st⟩:=not_at (t:=true) (pn i0 rfl rfl)
 have e4:aB (aa 13) .NotEq (aa 10) ⟨L,st⟩=.ok (.bool false) ⟨L,st⟩:=by
  rw [bT (ba h13) (ba h10),aq (fE (bV h13)),aq (fE (bV h10)),show kB .NotEq (.tup [.str w,v,.int m]) (.tup [.str w,v,.int m])=some false by show (eqV _ _).map _=_; rw [eqV3 hv]; rfl]; rfl
 exact (ifO (c:=false) (or3 e1 e2 e3)).trans ((ji (s':=⟨L,st⟩) rfl).trans (dw e4 rfl trivial))
theorem cz_loop {w:Str} {v:AV} {m:Int} (hv:v=.none ∨ ∃ i,v=.int i):∀ (l:List Unit) (L:bp),al 10 L=some (.val (.tup [.str w,v,.int m]))->∃ L',br (some 13,[]) cz (l.map fun _=>.tup [.str w,v,.int m]) ⟨L,st⟩=.ok .next ⟨L',st⟩/\al 10 L'=some (.val (.tup [.str w,v,.int m]))
 | [],L,h=>⟨L,rfl,h⟩
 | _::r,L,h=>by
  have h':al 10 (ai 13 (.val (.tup [.str w,v,.int m])) L)=some (.val (.tup [.str w,v,.int m])):=(ah rfl).trans h
  obtain ⟨L',e,q⟩:=cz_loop hv r _ h'
  exact ⟨L',cf (cz_ok hv aA h') e,q⟩
variable {fs:List Fu} {u:Fu} {vs:List Int} {F:Int}
theorem told1 {jp:Nat} {nmD:D AV} (P:PW fs) (hl:fs.length<=900) (hs:bW fs u.nm=some vs.length) (hv:∀ v ∈ vs,ik v) (hvl:vs.length<=900) (hp:hasL jp (fs.map Fu.enc) L) (hn:∀ st,nmD ⟨L,st⟩=.ok (.str u.nm) ⟨L,st⟩) (h8:hasL 8 (vs.map .int) L) (h9:al 9 L=some (.val (.int F))) :
  ∃ st',aX (wX K (n+306)) "told" [aS aZ false [aa jp],nmD,aS aZ false [aa 8],ae 9] ⟨L,st⟩=.ok (mU (b9 fs F 20 u.nm vs 0)) ⟨L,st'⟩:=by
 obtain ⟨x,y,TO⟩:=told_ok (K:=K) (n:=n) (pre:=st) (F:=F) P hl hs hv hvl
 exact ⟨_,a8 (s₁:=⟨L,st⟩) (ag (pR hp (by rw [zAd]; lia)) (ag (hn st) (ag (pR h8 (by rw [zAd]; lia)) (ag (bk h9) rfl)))) TO⟩
theorem run1 {jp:Nat} {nmD:D AV} (P:PW fs) (hl:fs.length<=900) (ht:tot fs<=900) (hK:cb 20+10<=K) (hs:bW fs u.nm=some vs.length) (hv:∀ v ∈ vs,ik v) (hvl:vs.length<=900) (hp:hasL jp (fs.map Fu.enc) L) (hn:∀ st,nmD ⟨L,st⟩=.ok (.str u.nm) ⟨L,st⟩) (h8:hasL 8 (vs.map .int) L) (h9:al 9 L=some (.val (.int F))) :
  ∃ st',aX (wX K (n+306)) "run" [aX (wX K (n+306)) "smithed" [aS aZ false [aa jp]],nmD,aS aZ false [aa 8],ae 9] ⟨L,st⟩=.ok (mU (b9 fs F 20 u.nm vs 0)) ⟨L,st'⟩:=by
 have sm:aX (wX K (n+306)) "smithed" [aS aZ false [aa jp]] ⟨L,st⟩=.ok (.obj "Code" (st.length+2)) ⟨L,cst st fs⟩:=a8 (s₁:=⟨L,st⟩) (ag (pR hp (by rw [zAd]; lia)) rfl) (smithed_ok (K:=K) (n:=n+279) (pre:=st) P hl ht)
 obtain ⟨st',RU,_⟩:=run_ok' (K:=K) (n:=n+300) (F:=F) (st0:=cst st fs) (ci:=st.length+2) (rr:=st.length+1) (f:=u.nm) (vs:=vs) P (room_ok P ht) hs hv lU dY hK
 exact ⟨st',a8 (s₁:=⟨L,cst st fs⟩) (ag sm (ag (hn _) (ag (pR h8 (by rw [zAd]; lia)) (ag (bk h9) rfl)))) RU⟩
end
section
variable {K n:Nat} {st:St} {L:bp} {fs gs:List Fu} {u:Fu} {vs:List Int} {F:Int}
noncomputable abbrev tlD (X:Ctx):D Fl:=ac (aL 10 (aX X "told" [aS aZ false [aa 1],am (aa 5) (af (.int 0)),aS aZ false [aa 8],ae 9])) (ac (aL 11 (am (aa 5) (af (.int 0)))) (ac (bo 12 (cF [aX X "told" [aS aZ false [aa 4],ae 11,aS aZ false [aa 8],ae 9]])) (ac (c8 (bY (aa 12) (aX X "run" [aX X "smithed" [aS aZ false [aa 1]],ae 11,aS aZ false [aa 8],ae 9]))) (ac (c8 (bY (aa 12) (aX X "run" [aX X "smithed" [aS aZ false [aa 4]],ae 11,aS aZ false [aa 8],ae 9]))) (ac (dU (some 13,[]) (bw (ae 12)) cz) (ac (aV (bc .And [gp (aa 10) (fh .tuple),gp (am (aa 10) (af (.int 0))) (fh .str)])) (af .next)))))))
structure Tl (fs gs:List Fu) (u:Fu) (vs:List Int) (F:Int) (L:bp):Prop where
 l1:hasL 1 (fs.map Fu.enc) L
 l4:hasL 4 (gs.map Fu.enc) L
 l5:al 5 L=some (.val u.enc)
 l8:hasL 8 (vs.map .int) L
 l9:al 9 L=some (.val (.int F))
theorem Tl.set {k:Nat} {lv:LV} (h:Tl fs gs u vs F L):Tl fs gs u vs F (ai (k+10) lv L) :=
 ⟨h.l1.old rfl,h.l4.old rfl,(ah rfl).trans h.l5,h.l8.old rfl,(ah rfl).trans h.l9⟩
theorem tail12 (P:PW fs) (hl:fs.length<=900) (ht:tot fs<=900) (Q:PW gs) (hl':gs.length<=900) (ht':tot gs<=900) (hf:∀ f,(bW fs f).isSome=true->bx f gs=bx f fs) (hK:cb 20+10<=K) (hs:bW fs u.nm=some vs.length) (hv:∀ v ∈ vs,ik v) (hvl:vs.length<=900) (T:Tl fs gs u vs F L) :
  ∃ st',RT (tlD (wX K (n+306))) ⟨L,st⟩ (.ok (.bool true) st'):=by
 have hss:(bW fs u.nm).isSome=true:=by rw [hs]; rfl
 have hs':bW gs u.nm=some vs.length:=by unfold bW at hs ⊢; rw [hf _ hss]; exact hs
 have ec:=callS_in (F:=F) P hf 20 u.nm vs 0 hss
 have i5:∀ {L:bp} (st:St),al 5 L=some (.val u.enc)->am (aa 5) (af (.int 0)) ⟨L,st⟩=.ok (.str u.nm) ⟨L,st⟩:=fun st h=>aU (ba h) rfl (bV h) rfl
 obtain ⟨s1,e10⟩:=told1 (K:=K) (n:=n) (st:=st) P hl hs hv hvl T.l1 (fun st=>i5 st T.l5) T.l8 T.l9
 obtain ⟨w,v,m,ho,hov⟩:=out_form (b9 fs F 20 u.nm vs 0)
 rw [ho] at e10
 have T1:=T.set (k:=0) (lv:=.val (.tup [.str w,v,.int m]))
 have g10:al 10 (ai 10 (.val (.tup [.str w,v,.int m])) L)=some (.val (.tup [.str w,v,.int m])):=aA
 have s10:=aQ (i:=10) e10
 dsimp only at s10
 generalize ai 10 (.val (.tup [.str w,v,.int m])) L=L1 at T1 g10 s10
 have s11:=aQ (i:=11) (i5 s1 T1.l5)
 dsimp only at s11
 have T2:=T1.set (k:=1) (lv:=.val (.str u.nm))
 have f10:al 10 (ai 11 (.val (.str u.nm)) L1)=some (.val (.tup [.str w,v,.int m])):=(ah rfl).trans g10
 have f11:al 11 (ai 11 (.val (.str u.nm)) L1)=some (.val (.str u.nm)):=aA
 generalize ai 11 (.val (.str u.nm)) L1=L2 at T2 f10 f11 s11
 obtain ⟨s2,e12⟩:=told1 (K:=K) (n:=n) (st:=s1) Q hl' hs' hv hvl T2.l4 (fun st=>bk f11) T2.l8 T2.l9
 rw [ec,ho] at e12
 have s12:=bf (i:=12) (o6 (vs:=[.tup [.str w,v,.int m]]) (ag (es:=[]) (vs:=[]) (s₂:=⟨L2,s2⟩) e12 rfl) rfl)
 dsimp only at s12
 have T3:=T2.set (k:=2) (lv:=iY true (.lst [.tup [.str w,v,.int m]]))
 have h10:al 10 (ai 12 (iY true (.lst [.tup [.str w,v,.int m]])) L2)=some (.val (.tup [.str w,v,.int m])):=(ah rfl).trans f10
 have h11:al 11 (ai 12 (iY true (.lst [.tup [.str w,v,.int m]])) L2)=some (.val (.str u.nm)):=(ah rfl).trans f11
 have h12:al 12 (ai 12 (iY true (.lst [.tup [.str w,v,.int m]])) L2)=some (.own (.lst [.tup [.str w,v,.int m]])):=aA
 generalize ai 12 (iY true (.lst [.tup [.str w,v,.int m]])) L2=L3 at T3 h10 h11 h12 s12
 obtain ⟨s3,r1⟩:=run1 (K:=K) (n:=n) (st:=s2) P hl ht hK hs hv hvl T3.l1 (fun st=>bk h11) T3.l8 T3.l9
 rw [ho] at r1
 have s13:=cu (gY (S₂:=⟨ai 12 (.own (.lst ([.tup [.str w,v,.int m]]++[.tup [.str w,v,.int m]]))) L3,s3⟩) (ba h12) h12 r1 h12 (by show 1<=1000; decide) rfl)
 have T4:=T3.set (k:=2) (lv:=.own (.lst ([.tup [.str w,v,.int m]]++[.tup [.str w,v,.int m]])))
 have k10:al 10 (ai 12 (.own (.lst ([.tup [.str w,v,.int m]]++[.tup [.str w,v,.int m]]))) L3)=some (.val (.tup [.str w,v,.int m])):=(ah rfl).trans h10
 have k11:al 11 (ai 12 (.own (.lst ([.tup [.str w,v,.int m]]++[.tup [.str w,v,.int m]]))) L3)=some (.val (.str u.nm)):=(ah rfl).trans h11
 have k12:al 12 (ai 12 (.own (.lst ([.tup [.str w,v,.int m]]++[.tup [.str w,v,.int m]]))) L3)=some (.own (.lst ([.tup [.str w,v,.int m]]++[.tup [.str w,v,.int m]]))):=aA
 generalize ai 12 (.own (.lst ([.tup [.str w,v,.int m]]++[.tup [.str w,v,.int m]]))) L3=L4 at T4 k10 k11 k12 s13
 obtain ⟨s4,r2⟩:=run1 (K:=K) (n:=n) (st:=s3) Q hl' ht' hK hs' hv hvl T4.l4 (fun st=>bk k11) T4.l8 T4.l9
 rw [ec,ho] at r2
 have s14:=cu (gY (S₂:=⟨ai 12 (.own (.lst ([(),(),()].map fun _=>.tup [.str w,v,.int m]))) L4,s4⟩) (ba k12) k12 r2 k12 (by show 2<=1000; decide) rfl)
 have m10:al 10 (ai 12 (.own (.lst ([(),(),()].map fun _=>.tup [.str w,v,.int m]))) L4)=some (.val (.tup [.str w,v,.int m])):=(ah rfl).trans k10
 have m12:al 12 (ai 12 (.own (.lst ([(),(),()].map fun _=>.tup [.str w,v,.int m]))) L4)=some (.own (.lst ([(),(),()].map fun _=>.tup [.str w,v,.int m]))):=aA
 generalize ai 12 (.own (.lst ([(),(),()].map fun _=>.tup [.str w,v,.int m]))) L4=L5 at m10 m12 s14
 have n10:al 10 (ai 12 (.val (.lst ([(),(),()].map fun _=>.tup [.str w,v,.int m]))) L5)=some (.val (.tup [.str w,v,.int m])):=(ah rfl).trans m10
 obtain ⟨L6,e6,q10⟩:=cz_loop (st:=s4) hov [(),(),()] (ai 12 (.val (.lst ([(),(),()].map fun _=>.tup [.str w,v,.int m]))) L5) n10
 have i0:am (aa 10) (af (.int 0)) ⟨L6,s4⟩=.ok (.str w) ⟨L6,s4⟩:=aU (ba q10) rfl (bV q10) rfl
 have fin:bc .And [gp (aa 10) (fh .tuple),gp (am (aa 10) (af (.int 0))) (fh .str)] ⟨L6,s4⟩=.ok (.bool true) ⟨L6,s4⟩:=by
  rw [gN (c:=true) (pn (ba q10) (bV q10) rfl)]
  exact pn i0 rfl rfl
 exact ⟨s4,.go s10 (.go s11 (.go s12 (.go s13 (.go s14 (.forI (et (gt m12)) e6 (.ret fin rfl))))))⟩
end
section
variable {K n:Nat} {ns:List Int} {fs ms gs:List Fu}
theorem add_lst {a b:List AV} (h:(a++b).length<=1000):mO .Add (.lst a) (.lst b)=some (.lst (a++b)):=cN h
noncomputable def vl12 (c:Int) (k:Nat):List Int:=(List.range k).map fun i:Nat=>nbr (c+5 * (i:Int))
noncomputable def f4 (ns:List Int) (fs ms:List Fu) (c:Nat) (lv:LV) (r:bp):bp:=(0,.val (.lst (ns.map .int)))::(1,.val (bU fs))::(2,.val (bU ms))::(3,.val (.int (c:Int)))::(4,lv)::r
noncomputable abbrev v8D (X:Ctx):D AV:=bG [(3,7)] 1 (aX X "_law_number" [aj .Add (aa 3) (aj .Mult (af (.int 5)) (aa 1))]) (hU .range [ae 6])
noncomputable abbrev mdD (X:Ctx):D Fl:=ac (aL 5 (am (aa 1) (aj .Mod (aX X "_law_cell_at" [ae 0,af (.int 3)]) (aS az false [aa 1])))) (ac (aL 6 (aS az false [am (aa 5) (af (.int 1))])) (ac (aL 7 (aX X "_law_cell_at" [ae 0,af (.int 6)])) (ac (bo 8 (v8D X)) (ac (aL 9 (af (.int 40))) (ac (bQ (aB (aj .Mod (aj .FloorDiv (aX X "_law_cell_at" [ae 0,af (.int 7)]) (af (.int 41))) (af (.int 3))) .Eq (af (.int 1))) (ac (bo 9 (aj .Mod (aX X "_law_cell_at" [ae 0,af (.int 7)]) (af (.int 41)))) (af .next)) (af .next)) (tlD X))))))
theorem mid12 {c:Nat} {lv:LV} (P:PW fs) (h1:1<=fs.length) (hl:fs.length<=900) (ht:tot fs<=900) (Q:PW gs) (hl':gs.length<=900) (ht':tot gs<=900) (hf:∀ f,(bW fs f).isSome=true->bx f gs=bx f fs) (hK:cb 20+10<=K) (hlv:lv=.own (bU gs) ∨ lv=.val (bU gs)) :
  ∃ st',RT (mdD (wX K (n+306))) ⟨f4 ns fs ms c lv [],[]⟩ (.ok (.bool true) st'):=by
 obtain ⟨u,hm,hu⟩:=pick_fu h1 hl (ns.getD 3 0)
 have hps:=(P.ps u hm).2
 have cl:∀ (i:Nat) {L:bp},al 0 L=some (.val (.lst (ns.map .int)))->aX (wX K (n+306)) "_law_cell_at" [ae 0,af (.int (i:Int))] ⟨L,[]⟩=.ok (.int (ns.getD i 0)) ⟨L,[]⟩:=fun i {L} h=>lH (n:=n+305) (k:=0) h
 generalize hvs:vl12 (ns.getD 6 0) u.ps.length=vs
 have hvl:vs.length=u.ps.length:=by rw [← hvs]; unfold vl12; rw [zAd,zA3]
 have hin:∀ v ∈ vs,ik v:=fun v hv=>by
  rw [← hvs] at hv
  obtain ⟨k,_,rfl⟩:=zBe.mp hv
  exact nbr_in _
 have hsg:bW fs u.nm=some vs.length:=by unfold bW; rw [iU P.nd hm,hvl]; rfl
 have e6:aS az false [am (aa 5) (af (.int 1))] ⟨f4 ns fs ms c lv [(5,.val u.enc)],[]⟩=.ok (.int (u.ps.length:Int)) ⟨f4 ns fs ms c lv [(5,.val u.enc)],[]⟩ :=
  cg (a:=.tup (u.ps.map .str)) (s₁:=⟨f4 ns fs ms c lv [(5,.val u.enc)],[]⟩) (aU (c':=u.enc) rfl rfl rfl rfl) rfl (by rw [← zAd (f:=AV.str)]; rfl)
 have e8:v8D (wX K (n+306)) ⟨f4 ns fs ms c lv [(5,.val u.enc),(6,.val (.int (u.ps.length:Int))),(7,.val (.int (ns.getD 6 0)))],[]⟩=.ok (.lst (vs.map .int)) ⟨f4 ns fs ms c lv [(5,.val u.enc),(6,.val (.int (u.ps.length:Int))),(7,.val (.int (ns.getD 6 0)))],[]⟩:=by
  rw [← hvs]
  unfold vl12
  rw [zCg]
  refine fb (caps:=[(3,7)]) (kk:=1) (n:=u.ps.length) (g:=fun k=>.int (nbr (ns.getD 6 0+5 * (k:Int)))) (s₁:=⟨f4 ns fs ms c lv [(5,.val u.enc),(6,.val (.int (u.ps.length:Int))),(7,.val (.int (ns.getD 6 0)))],[]⟩) rfl (by lia) fun k hk=>⟨[(3,.val (.int (ns.getD 6 0))),(1,.val (.int (k:Int)))],?_⟩
  have m:aj .Mult (af (.int 5)) (aa 1) ⟨[(3,.val (.int (ns.getD 6 0))),(1,.val (.int (k:Int)))],[]⟩=.ok (.int (5 * (k:Int))) ⟨[(3,.val (.int (ns.getD 6 0))),(1,.val (.int (k:Int)))],[]⟩:=ay (a':=.int 5) (b':=.int (k:Int)) rfl rfl rfl rfl (mul_ok rfl)
  exact a8 (vs:=[.int (ns.getD 6 0+5 * (k:Int))]) (s₁:=⟨[(3,.val (.int (ns.getD 6 0))),(1,.val (.int (k:Int)))],[]⟩) (ag (ay (a':=.int (ns.getD 6 0)) (b':=.int (5 * (k:Int))) rfl m rfl rfl rfl) rfl) (nz _)
 have tl:∀ F:Int,∃ st',RT (tlD (wX K (n+306))) ⟨f4 ns fs ms c lv [(5,.val u.enc),(6,.val (.int (u.ps.length:Int))),(7,.val (.int (ns.getD 6 0))),(8,.own (.lst (vs.map .int))),(9,.val (.int F))],[]⟩ (.ok (.bool true) st'):=fun F =>
  tail12 (F:=F) P hl ht Q hl' ht' hf hK hsg hin (by lia) ⟨.inr rfl,hlv.imp (fun h=>by rw [h]; rfl) fun h=>by rw [h]; rfl,rfl,.inl rfl,rfl⟩
 have d7:aB (aj .Mod (aj .FloorDiv (aX (wX K (n+306)) "_law_cell_at" [ae 0,af (.int 7)]) (af (.int 41))) (af (.int 3))) .Eq (af (.int 1)) ⟨f4 ns fs ms c lv [(5,.val u.enc),(6,.val (.int (u.ps.length:Int))),(7,.val (.int (ns.getD 6 0))),(8,.own (.lst (vs.map .int))),(9,.val (.int 40))],[]⟩=.ok (.bool (decide (zAs (zAp (ns.getD 7 0) 41) 3=1))) ⟨f4 ns fs ms c lv [(5,.val u.enc),(6,.val (.int (u.ps.length:Int))),(7,.val (.int (ns.getD 6 0))),(8,.own (.lst (vs.map .int))),(9,.val (.int 40))],[]⟩:=pz (iu (m:=3) (div_at (m:=41) (cl 7 rfl) rfl) rfl)
 suffices h:∃ st',RT (ac (bQ (aB (aj .Mod (aj .FloorDiv (aX (wX K (n+306)) "_law_cell_at" [ae 0,af (.int 7)]) (af (.int 41))) (af (.int 3))) .Eq (af (.int 1))) (ac (bo 9 (aj .Mod (aX (wX K (n+306)) "_law_cell_at" [ae 0,af (.int 7)]) (af (.int 41)))) (af .next)) (af .next)) (tlD (wX K (n+306)))) ⟨f4 ns fs ms c lv [(5,.val u.enc),(6,.val (.int (u.ps.length:Int))),(7,.val (.int (ns.getD 6 0))),(8,.own (.lst (vs.map .int))),(9,.val (.int 40))],[]⟩ (.ok (.bool true) st') by
  obtain ⟨st',h⟩:=h
  exact ⟨st',.go (s':=⟨f4 ns fs ms c lv [(5,.val u.enc)],[]⟩) (aQ (hu (L:=f4 ns fs ms c lv []) rfl (cl 3 rfl))) (.go (s':=⟨f4 ns fs ms c lv [(5,.val u.enc),(6,.val (.int (u.ps.length:Int)))],[]⟩) (aQ e6) (.go (s':=⟨f4 ns fs ms c lv [(5,.val u.enc),(6,.val (.int (u.ps.length:Int))),(7,.val (.int (ns.getD 6 0)))],[]⟩) (aQ (cl 6 rfl)) (.go (s':=⟨f4 ns fs ms c lv [(5,.val u.enc),(6,.val (.int (u.ps.length:Int))),(7,.val (.int (ns.getD 6 0))),(8,.own (.lst (vs.map .int)))],[]⟩) (bf e8) (.go (s':=⟨f4 ns fs ms c lv [(5,.val u.enc),(6,.val (.int (u.ps.length:Int))),(7,.val (.int (ns.getD 6 0))),(8,.own (.lst (vs.map .int))),(9,.val (.int 40))],[]⟩) rfl h))))⟩
 by_cases h7:zAs (zAp (ns.getD 7 0) 41) 3=1
 ·obtain ⟨st',h⟩:=tl (zAs (ns.getD 7 0) 41)
  exact ⟨st',.ifT h7 d7 (.assoc (.go (s':=⟨f4 ns fs ms c lv [(5,.val u.enc),(6,.val (.int (u.ps.length:Int))),(7,.val (.int (ns.getD 6 0))),(8,.own (.lst (vs.map .int))),(9,.val (.int (zAs (ns.getD 7 0) 41)))],[]⟩) (bf (iu (m:=41) (cl 7 rfl) rfl)) (.next h)))⟩
 ·obtain ⟨st',h⟩:=tl 40
  exact ⟨st',.ifN h7 d7 (.next h)⟩
end
section
variable {K n:Nat} {ns:List Int} {fs ms gs:List Fu}
noncomputable def amg (fs ms:List Fu) (c:Nat):List Fu:=fs.drop c++ms.take 1++fs.take c++ms.drop 1
theorem amg_perm (fs ms:List Fu) (c:Nat):(amg fs ms c).Perm (fs++ms):=by
 have h:((fs.drop c++ms.take 1++fs.take c)++ms.drop 1).Perm ((fs.take c++(fs.drop c++ms.take 1))++ms.drop 1):=List.perm_append_comm.append_right _
 have e:(fs.take c++(fs.drop c++ms.take 1))++ms.drop 1=fs++ms:=by
  rw [← zAm,zCt,zAm,zCt]
 rw [e] at h; exact h
theorem law_ok (ns:List Int) (hK:cb 20+10<=K):∃ st,au PP K (n+307) ⟨#[]⟩ "law" [.lst (ns.map .int)] []=.ok (.bool true) st:=by
 rw [rn_law]
 suffices h:∃ st,RT (sh_law (wX K (n+306))) ⟨[(0,.val (.lst (ns.map .int)))],[]⟩ (.ok (.bool true) st) from h
 obtain ⟨fs,PRf,e1⟩:=program_ok' (K:=K) (n:=n+302) (st:=[]) (ns:=ns) (sig:=sg ns) sg_ok (cls_len (mny ns))
 obtain ⟨P,ht,hl⟩:=PRf.pw
 have hm:=mF ns
 obtain ⟨u,hu,e2⟩:=others_ok (K:=K) (n:=n+304) (st:=[]) (ns:=ns) (fs:=fs) (by lia) (by lia) fun v hv=>(P.ps v hv).2
 generalize hms:ku ns u=ms at e2
 have hml:ms.length<=3/\1<=ms.length:=by
  have:=pb ns
  rw [← hms]; unfold ku; rw [zAd,zA3]; exact ⟨this.2,this.1⟩
 obtain ⟨c,hc,ec⟩:=bR (ns.getD 5 0) (m:=fs.length+1) (zC4 _)
 have cl:∀ {L:bp},al 0 L=some (.val (.lst (ns.map .int)))->aX (wX K (n+306)) "_law_cell_at" [ae 0,af (.int 5)] ⟨L,[]⟩=.ok (.int (ns.getD 5 0)) ⟨L,[]⟩:=fun {L} h=>lH (n:=n+305) (i:=5) (k:=0) h
 let L2:bp:=[(0,.val (.lst (ns.map .int))),(1,.val (bU fs)),(2,.val (bU ms))]
 let L3:bp:=[(0,.val (.lst (ns.map .int))),(1,.val (bU fs)),(2,.val (bU ms)),(3,.val (.int (c:Int)))]
 have e3:aj .Mod (aX (wX K (n+306)) "_law_cell_at" [ae 0,af (.int 5)]) (aj .Add (aS az false [aa 1]) (af (.int 1))) ⟨L2,[]⟩=.ok (.int (c:Int)) ⟨L2,[]⟩:=by
  have el:aS az false [aa 1] ⟨L2,[]⟩=.ok (.int (fs.length:Int)) ⟨L2,[]⟩:=cg (c:=bU fs) rfl rfl (by rw [← zAd (f:=Fu.enc)]; rfl)
  refine ay (a':=.int (ns.getD 5 0)) (b':=.int ((fs.length+1:Nat):Int)) (cl rfl) (ay (op:=.Add) (a':=.int (fs.length:Int)) (b':=.int 1) (v:=.int ((fs.length+1:Nat):Int)) el rfl rfl rfl rfl) rfl rfl ((modL (zBx (zA7 _)) (by lia)).trans (by rw [ec]))
 have hcl:c<=(fs.map Fu.enc).length:=by rw [zAd]; lia
 have hdl:(fs.drop c).length<=900:=by rw [zBm]; lia
 have htl:(fs.take c).length<=900:=by rw [zCp]; lia
 have e4:aj .Add (aj .Add (aj .Add (cj (aa 1) (ae 3) (af .none)) (cj (aa 2) (af .none) (af (.int 1)))) (cj (aa 1) (af .none) (ae 3))) (cj (aa 2) (af (.int 1)) (af .none)) ⟨L3,[]⟩=.ok (bU (amg fs ms c)) ⟨L3,[]⟩:=by
  have a1:cj (aa 1) (ae 3) (af .none) ⟨L3,[]⟩=.ok (bU (fs.drop c)) ⟨L3,[]⟩:=by
   show _=Out.ok (AV.lst ((fs.drop c).map Fu.enc)) _
   rw [zDj]; exact eQ rfl rfl rfl rfl (gL hcl)
  have a2:cj (aa 2) (af .none) (af (.int 1)) ⟨L3,[]⟩=.ok (bU (ms.take 1)) ⟨L3,[]⟩:=by
   show _=Out.ok (AV.lst ((ms.take 1).map Fu.enc)) _
   rw [zC7]; exact eQ rfl rfl rfl rfl (iq (k:=1) (by rw [zAd]; exact hml.2))
  have a3:cj (aa 1) (af .none) (ae 3) ⟨L3,[]⟩=.ok (bU (fs.take c)) ⟨L3,[]⟩:=by
   show _=Out.ok (AV.lst ((fs.take c).map Fu.enc)) _
   rw [zC7]; exact eQ rfl rfl rfl rfl (iq hcl)
  have a4:cj (aa 2) (af (.int 1)) (af .none) ⟨L3,[]⟩=.ok (bU (ms.drop 1)) ⟨L3,[]⟩:=by
   show _=Out.ok (AV.lst ((ms.drop 1).map Fu.enc)) _
   rw [zDj]; exact eQ rfl rfl rfl rfl (gL (k:=1) (by rw [zAd]; exact hml.2))
  have ad:∀ {d e:D AV} {a b:List Fu},d ⟨L3,[]⟩=.ok (bU a) ⟨L3,[]⟩->e ⟨L3,[]⟩=.ok (bU b) ⟨L3,[]⟩->a.length+b.length<=1000->aj .Add d e ⟨L3,[]⟩=.ok (bU (a++b)) ⟨L3,[]⟩:=fun {d e a b} h1 h2 hl=>by
   show _=Out.ok (AV.lst ((a++b).map Fu.enc)) _
   rw [zAr]
   exact ay h1 h2 rfl rfl (add_lst (by rw [zAc,zAd,zAd]; exact hl))
  have t1:(ms.take 1).length<=3:=by rw [zCp]; lia
  have t2:(ms.drop 1).length<=3:=by rw [zBm]; lia
  have s1:(fs.drop c).length+(fs.take c).length=fs.length:=by rw [zBm,zCp]; lia
  exact ad (ad (ad a1 a2 (by lia)) a3 (by rw [zAc]; lia)) a4 (by rw [zAc,zAc]; lia)
 have hp:=amg_perm fs ms c
 have go:∀ (gs:List Fu) (lv:LV),gs.Perm (fs++ms)->lv=.own (bU gs) ∨ lv=.val (bU gs)->∃ st',RT (mdD (wX K (n+306))) ⟨f4 ns fs ms c lv [],[]⟩ (.ok (.bool true) st'):=fun gs lv hp hlv=>by
  obtain ⟨Q,q1,q2,q3⟩:=among_ok (gs:=gs) (u:=u) PRf hu (by rw [hms]; exact hp)
  exact mid12 P (by lia) (by lia) ht Q q2 q1 q3 hK hlv
 have front:∀ {k:D Fl},(∃ st',RT k ⟨f4 ns fs ms c (.own (bU (amg fs ms c))) [],[]⟩ (.ok (.bool true) st'))->∃ st',RT (ac (aL 1 (aX (wX K (n+306)) "_law_program" [ae 0])) (ac (aL 2 (aX (wX K (n+306)) "_law_others" [ae 0,ae 1])) (ac (bo 3 (aj .Mod (aX (wX K (n+306)) "_law_cell_at" [ae 0,af (.int 5)]) (aj .Add (aS az false [aa 1]) (af (.int 1))))) (ac (bo 4 (aj .Add (aj .Add (aj .Add (cj (aa 1) (ae 3) (af .none)) (cj (aa 2) (af .none) (af (.int 1)))) (cj (aa 1) (af .none) (ae 3))) (cj (aa 2) (af (.int 1)) (af .none)))) k)))) ⟨[(0,.val (.lst (ns.map .int)))],[]⟩ (.ok (.bool true) st'):=fun ⟨st',h⟩ =>
  ⟨st',.go (s':=⟨[(0,.val (.lst (ns.map .int))),(1,.val (bU fs))],[]⟩) (aQ (a8 (vs:=[.lst (ns.map .int)]) (s₁:=⟨[(0,.val (.lst (ns.map .int)))],[]⟩) rfl e1)) (.go (s':=⟨L2,[]⟩) (aQ (a8 (vs:=[.lst (ns.map .int),bU fs]) (s₁:=⟨[(0,.val (.lst (ns.map .int))),(1,.val (bU fs))],[]⟩) rfl e2)) (.go (s':=⟨L3,[]⟩) (bf e3) (.go (s':=⟨f4 ns fs ms c (.own (bU (amg fs ms c))) [],[]⟩) (bf e4) h)))⟩
 refine front ?_
 have d5:aB (aj .Mod (aj .FloorDiv (aX (wX K (n+306)) "_law_cell_at" [ae 0,af (.int 5)]) (af (.int 6))) (af (.int 2))) .Eq (af (.int 1)) ⟨f4 ns fs ms c (.own (bU (amg fs ms c))) [],[]⟩=.ok (.bool (decide (zAs (zAp (ns.getD 5 0) 6) 2=1))) ⟨f4 ns fs ms c (.own (bU (amg fs ms c))) [],[]⟩:=pz (iu (m:=2) (div_at (m:=6) (cl rfl) rfl) rfl)
 by_cases h5:zAs (zAp (ns.getD 5 0) 6) 2=1
 ·obtain ⟨st',h⟩:=go (amg fs ms c).reverse (.own (bU (amg fs ms c).reverse)) ((List.reverse_perm _).trans hp) (.inl rfl)
  have er:mI (ae 4) ⟨f4 ns fs ms c (.own (bU (amg fs ms c))) [],[]⟩=.ok (bU (amg fs ms c).reverse) ⟨f4 ns fs ms c (.val (bU (amg fs ms c))) [],[]⟩:=by
   show Mine.opt (bz ((amg fs ms c).map Fu.enc).reverse) _=_
   rw [← zDf,cN (by rw [zAd,zCb,hp.length_eq,zAc]; lia)]; rfl
  exact ⟨st',.ifT h5 d5 (.assoc (.go (s':=⟨f4 ns fs ms c (.own (bU (amg fs ms c).reverse)) [],[]⟩) (bf er) (.next h)))⟩
 ·obtain ⟨st',h⟩:=go (amg fs ms c) _ hp (.inl rfl)
  exact ⟨st',.ifN h5 d5 (.next h)⟩
end
end Mine
end
open PySem PySem.W PyProof.Rows
namespace Mine
noncomputable abbrev p12:Program:=PySem.Challenge.pw_uf030011_12
theorem pure12 (ns:List Int) (h:ns.length<=63):∃ st,au (pgP base p12) (cb 20+10) 400 ⟨#[]⟩ "law" [.lst (ns.map .int)] []=.ok (.bool true) st:=law_ok (K:=cb 20+10) (n:=93) ns (zAy _)
end Mine
set_option tactic.hygienic true
set_option maxRecDepth 100000 in
set_option maxHeartbeats 0 in
theorem PySem.Challenge.cw_uf030011_12_holds : PySem.Challenge.rw_uf030011_12.Holds := by
 w_on
 refine PySem.W.holds_law (by kernel_rfl) fun said=>?_
 refine PySem.W.holds_open (q:=Mine.qq) (loose:=[]) (Xt:=Mine.xt) (XP:=PySem.W.XL Mine.qq []) (Yf:=PySem.W.Hook.obs Mine.hk) (Ya:=PySem.W.Hook.val Mine.hk) (YP:=PySem.W.Hook.says Mine.hk) (N:=6000) Mine.left (PySem.W.Hook.of Mine.hk) (PySem.W.Hook.keeps Mine.hk) (fun s e=>PySem.W.xl_of s (Bool.and_eq_true_iff.mp e).1) PySem.W.XL.keeps (by rfl) (by rfl) (by rfl) (fun s e=>PySem.W.recFacts_of (Bool.and_eq_true_iff.mp e).2) (by rfl) (by first | assumption | decide +kernel) (by decide +kernel) ⟨rfl,rfl,rfl,rfl,rfl,by decide +kernel⟩ ?hw ?hc
 (case hw=>w_witness2)
 w_strict (
  intro w s₀ s₁ mg mb G Y fa o pm cd doc dV kV ho hd hcd hD hmg hg args vals as hpre hlay hrd hwl hlo
  clear hd hcd hD
  have hmg':mg "law"=some (.ref fa):=hmg
  clear hmg
  have T:=G.T
  have KI:Mine.SaysX (Mine.pgP Mine.base Mine.p12) s₁.heap/\Mine.SaysC Mine.base.flds Mine.p12 s₁.heap:=Y
  clear G Y
  wrow_args hpre hlay hrd hwl hlo
  rename_i ns hs hlay0 hL1 hr1 hl2 as1 as2 sa its as3 hL ra w1 r0 hI hr hcond hcond2
  have hso:s₁.heap.get? sa=some { cls:=.type "list",data:=.seq its.toArray }:=by
   cases w1 with
   | list h1 h2 =>
    obtain ⟨o',e1,_,m,e2⟩:=hL
    rw [h1] at e1; cases e1
    simp only [Data.seq.injEq] at e2
    rw [h1,e2.1]
  have hlen:ns.length<=63:=by omega
  obtain ⟨st,hrun⟩:=Mine.pure12 ns hlen
  refine Mine.run_view (B:=Mine.base) (p':=Mine.p12) (k:=Mine.cb 20+10) (n:=400) Mine.base_ok T KI ?_ ?_ ?_ ?_ ?_ ?_ ?_ hmg' hso hI hlen (by omega) hrun fun s' hk hos hgens=>?_
  ·kernel_rfl
  ·kernel_rfl
  ·decide +kernel
  ·decide +kernel
  ·decide +kernel
  ·decide +kernel
  ·decide +kernel
  ·refine GoodW.toG ⟨.inl ⟨_,.bool true,[],rfl,?_,?_,?_,?_⟩,hk,hos,hgens.trans hg⟩
   ·intro cls; rfl
   ·exact .bool true
   ·wrow_post
   ·exact fun _=>⟨.nil,fun _ h=>nomatch h⟩)
