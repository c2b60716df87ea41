import PyProof.Rows.All
import Wide.All
import OpenK.AllK
import Wide.FinOn
import PySem.Challenge.RW_nz0389_01
set_option Elab.async false
set_option maxRecDepth 100000
set_option linter.all false
namespace Nz
open PySem
open List (mem_range map_cons mem_cons mem_cons_of_mem mem_cons_self cons_append size_toArray append_nil any_cons nodup_cons all_eq_true zip_cons_cons mem_filter length_map getElem?_eq_getElem mem_map mem_append mem_singleton lookup_cons length_cons map_take filterMap_cons map_map nodup_nil length_nil map_nil map_append length_append flatMap_cons length_filter_le)
open Nat (zero_le le_succ le_max_left le_max_right)
open Bool (and_eq_true false_eq_true or_eq_true not_eq_true')
open Option (map_eq_some_iff bind_eq_bind bind_eq_some_iff getD_some bind_some map_some)
inductive Key where
 |i (z:Int)
 |s (x:Str)
 deriving DecidableEq,Inhabited
inductive D where
 |none
 |bool (b:Bool)
 |int (i:Int)
 |str (s:Str)
 |tup (xs:List D)
 |list (xs:List D)
 |dict (es:List (Key×D))
 |dictT (es:List (List Int×D))
 |range (a b:Int)
 |univ (names:List D) (nums:List (Key×D))
 |bnds (u:D) (bs:List D) (ns:List (Key×D))
 |feed
 deriving Inhabited
mutual
def D.beq:D->D->Bool
 | .none,.none=>true
 | .bool a,.bool b=>a==b
 | .int a,.int b=>decide (a=b)
 | .str a,.str b=>decide (a=b)
 | .tup xs,.tup ys=>D.beqL xs ys
 | .list xs,.list ys=>D.beqL xs ys
 |_,_=>false
def D.beqL:List D->List D->Bool
 |[],[]=>true
 |x::xs,y::ys=>D.beq x y&&D.beqL xs ys
 |_,_=>false
end
def D.ok:Nat->D->Bool
 |_,.none=>true
 |_,.int _=>true
 |_,.str x=>PyData.strOk x
 |n+1,.tup xs=>xs.all (D.ok n)
 |n+1,.list xs=>xs.all (D.ok n)
 |_,_=>false
mutual
def D.dictFree:D->Bool
 | .tup xs=>D.dictFreeL xs
 | .list xs=>D.dictFreeL xs
 | .dict _=>false
 | .dictT _=>false
 | .univ .. =>false
 | .bnds .. =>false
 | .feed=>false
 |_=>true
def D.dictFreeL:List D->Bool
 |[]=>true
 |x::xs=>D.dictFree x&&D.dictFreeL xs
end
inductive V where
 |d (x:D)
 |ownL (xs:List D)
 |ownD (es:List (Key×D))
 |ownDL (es:List (Key×List D))
 |ownB (u:D) (bs:List D) (ns:List (Key×D))
 deriving Inhabited
def V.frz:V->D
 | .d x=>x
 | .ownL xs=> .list xs
 | .ownD es=> .dict es
 | .ownDL es=> .dict (es.map λe=>(e.1,.list e.2))
 | .ownB u bs ns=> .bnds u bs ns
structure Ev where
 names:List (Str×NameKind)
 loc:List (Str×V)
 cel:List (Str×V)
abbrev St:=List Int×Int
def put(x:Str)(v:V):List (Str×V)->List (Str×V)
 |[]=>[(x,v)]
 |(y,u)::r=>if x=y then(y,v)::r else(y,u)::put x v r
def Ev.kind(ρ:Ev)(x:Str):Option NameKind:=ρ.names.lookup x
def Ev.get(ρ:Ev)(x:Str):Option V:=match ρ.kind x with
 |some .local=>ρ.loc.lookup x
 |some .cell=>ρ.cel.lookup x
 |some .free=>ρ.cel.lookup x
 |_=>none
def Ev.set(ρ:Ev)(x:Str)(v:V):Option Ev:=match ρ.kind x with
 |some .local=>some {ρ with loc:=put x v ρ.loc}
 |some .cell=>some {ρ with cel:=put x v ρ.cel}
 |_=>none
def Gs:D->Option Bool
 | .bool b=>some b
 |_=>none
def NZ:D->Option (List D)
 | .tup xs=>some xs
 | .list xs=>some xs
 |_=>none
def Gq(a:Int):Nat->List D
 |0=>[]
 |n+1=> .int a::Gq (a+1) n
def AZ(i:Int):Bool:=decide (-(2^62)<i)&&decide (i<2^62)
def FV:D->Option (List D)
 | .tup xs=>some xs
 | .list xs=>some xs
 | .range a b=>if AZ a&&AZ b then some (Gq a (b -a).toNat) else none
 |_=>none
def Me(xs:List D):Nat->List D
 |0=>[]
 |n+1=>xs++Me xs n
def CN:Operator->D->D->Option D
 | .Add,.int a,.int b=>if AZ a&&AZ b then some (.int (a+b)) else none
 | .Add,.tup a,.tup b=>if a.length+b.length<=100000 then some (.tup (a++b)) else none
 | .Add,.list a,.list b=>if a.length+b.length<=100000 then some (.list (a++b)) else none
 | .Sub,.int a,.int b=>if AZ a&&AZ b then some (.int (a -b)) else none
 | .Mult,.int a,.int b=>if AZ a&&AZ b then some (.int (a*b)) else none
 | .Mult,.tup a,.int b=>if 0<b&&decide (b<=2)&&decide (a.length=1) then some (.tup (Me a b.toNat)) else none
 | .Mod,.int a,.int b=>if 0<b&&AZ b then some (.int (a % b)) else none
 | .FloorDiv,.int a,.int b=>if 0<b&&decide (b<1073741824) then some (.int (a/b)) else none
 | .Pow,.int a,.int b=>if decide (a=2)&&decide (0<=b)&&decide (b<=32) then some (.int (2^b.toNat)) else none
 |_,_,_=>none
def E2:List D->Option (List Int)
 |[]=>some []
 | .int i::r=>(E2 r).map (i:: ·)
 |_=>none
def EP:D->Option (List Int)
 | .tup xs=>E2 xs
 |_=>none
def An:List Int->List Int->Bool
 |[],[]=>false
 |[],_::_=>true
 |_::_,[]=>false
 |a::r,b::t=>if a=b then An r t else decide (a<b)
def PF(a b:D):Option Bool:=match a,b with
 | .bool x,.bool y=>some (x==y)
 |a,b=>if a.ok 20&&b.ok 20 then some (D.beq a b) else none
def Cl(a:D):List D->Bool
 |[]=>false
 |x::r=>D.beq x a||Cl a r
def EA:D->Option Key
 | .int z=>some (.i z)
 | .str x=>some (.s x)
 |_=>none
def Af{K:Type} [DecidableEq K](k:K):List (K×D)->Option D
 |[]=>none
 |(x,v)::r=>if x=k then some v else Af k r
def QF(a b:D):Option Bool:=match b with
 | .tup xs=>if a.ok 20&&xs.all (D.ok 20) then some (Cl a xs) else none
 | .list xs=>if a.ok 20&&xs.all (D.ok 20) then some (Cl a xs) else none
 | .dict es=>(EA a).map λk=>(Af k es).isSome
 | .dictT es=>(EP a).map λk=>(Af k es).isSome
 |_=>none
def Av:CmpOp->D->D->Option Bool
 | .Eq,a,b=>PF a b
 | .NotEq,a,b=>(PF a b).map (!·)
 | .Lt,.int a,.int b=>some (decide (a<b))
 | .LtE,.int a,.int b=>some (decide (a<=b))
 | .Gt,.int a,.int b=>some (decide (b<a))
 | .Lt,.tup xs,.tup ys=>do some (An (<-E2 xs) (<-E2 ys))
 | .Is,.none,.none=>some true
 | .Is,.tup _,.none=>some false
 | .In,a,b=>QF a b
 | .NotIn,a,b=>(QF a b).map (!·)
 |_,_,_=>none
def B9{K A:Type} [DecidableEq K](k:K)(v:A):List (K×A)->List (K×A)
 |[]=>[(k,v)]
 |(x,u)::r=>if x=k then(x,v)::r else(x,u)::B9 k v r
def Ep:List D->List (List Int×D)->Option (List (List Int×D))
 |[],es=>some es
 | .tup [k,v]::r,es=>do Ep r (B9 (<-EP k) v es)
 |_,_=>none
def Bl(k:Key)(v:D):List (Key×List D)->List (Key×List D)
 |[]=>[(k,[v])]
 |(x,l)::r=>if x=k then(x,l++[v])::r else(x,l)::Bl k v r
def JZ(x:List Int):List (List Int)->List (List Int)
 |[]=>[x]
 |y::r=>if An x y then x::y::r else y::JZ x r
def B0:List (List Int)->List (List Int)
 |[]=>[]
 |x::r=>JZ x (B0 r)
def DK:List (List Int)->List (List Int)
 |[]=>[]
 |x::r=>if r.contains x then DK r else x::DK r
def DH:List D->Option (List (List Int))
 |[]=>some []
 |x::r=>do some ((<-EP x)::(<-DH r))
def AD(r:List Int):D:= .tup (r.map .int)
def NX(xs:List D):Option (List D):=do
 let rs<-DH xs
 if rs.length<60/\(rs.all λr=> !r.isEmpty)=true then some ((B0 rs).map AD) else none
def CQ(r:List Int):Bool:=match r with
 |[a]=>0<=a&&decide (a<3)
 |[a,b]=>0<=a&&decide (a<3)&&0<=b&&decide (b<3)
 |_=>false
def DZ(xs:List D):Option (List D):=do
 let rs<-DH xs
 if rs.all CQ then some ((B0 (DK rs)).map AD) else none
def Ag(f:String)(as:List D):Option D:=match f,as with
 | "len",[.tup xs]=>if xs.length<=1000000 then some (.int xs.length) else none
 | "len",[.list xs]=>if xs.length<=1000000 then some (.int xs.length) else none
 | "tuple",[.list xs]=>if xs.length<=100000 then some (.tup xs) else none
 | "list",[.list xs]=>if xs.length<=100000 then some (.list xs) else none
 | "list",[.tup xs]=>if xs.length<=100000 then some (.list xs) else none
 | "list",[.range a b]=>if AZ a/\AZ b/\b -a<=1000 then some (.list (Gq a (b -a).toNat)) else none
 | "dict",[.list xs]=>if xs.length<=100000 then(Ep xs []).map .dictT else none
 | "dict",[.dict es]=>if es.length<=100000 then some (.dict es) else none
 | "sorted",[.list xs]=>(NX xs).map .list
 | "sorted",[.dictT es]=>if es.length<60/\(es.all λe=> !e.1.isEmpty)=true then some (.list ((B0 (es.map (·.1))).map AD)) else none
 | "range",[.int a]=>if AZ a then some (.range 0 a) else none
 | "range",[.int a,.int b]=>if AZ a&&AZ b then some (.range a b) else none
 | "str",[.int a]=>if 0<=a&&decide (a<10) then some (.str (Str.ofString (toString a))) else none
 |_,_=>none
def Ou(d:D)(cls:String):Option Bool:=match cls,d with
 | "tuple",.tup _=>some true
 | "tuple",.int _=>some false
 | "tuple",.str _=>some false
 | "str",.str _=>some true
 | "str",.tup _=>some false
 | "str",.int _=>some false
 | "int",.int _=>some true
 | "bool",.int _=>some false
 |_,_=>none
def Hi(xs:List D)(i:Int):Option D:=if AZ i=false then none else
 if 0<=i then xs[i.toNat]? else if 0<=(xs.length:Int)+i then xs[((xs.length:Int)+i).toNat]? else none
def Ap(i:Int)(n:Nat):Nat:=if 0<=i then min i.toNat n else((n:Int)+i).toNat
def Al(o i:D):Option D:=match o,i with
 | .tup xs,.int i=>Hi xs i
 | .list xs,.int i=>Hi xs i
 | .dict es,k=>do Af (<-EA k) es
 | .str s,.int i=>if 0<=i&&AZ i then(s.cps[i.toNat]?).map λc=> .str ⟨#[c]⟩ else none
 |_,_=>none
def IQ(xs:List D)(lo hi step:D):Option (List D):=match lo,hi,step with
 | .none,.none,.int s=>if s= -1 then some xs.reverse else none
 | .int a,.none,.none=>if AZ a then some (xs.drop (Ap a xs.length)) else none
 | .none,.int b,.none=>if AZ b then some (xs.take (Ap b xs.length)) else none
 |_,_,_=>none
def Bo(o lo hi step:D):Option D:=match o with
 | .tup xs=>if xs.length<=100000 then(IQ xs lo hi step).map .tup else none
 | .list xs=>if xs.length<=100000 then(IQ xs lo hi step).map .list else none
 |_=>none
def MU(o:D)(a:Str):Option D:=match o with
 | .univ ns _=>if a=Str.ofString "names" then some (.tup ns) else none
 | .bnds u bs ns=>if a=Str.ofString "universe" then some u else if a=Str.ofString "bounds" then some (.list bs) else if a=Str.ofString "numbers" then some (.dict ns) else none
 |_=>none
def Fu:List D->Nat->List (Key×D)
 | .str x::r,k=>(.s x,.int k)::Fu r (k+1)
 |_,_=>[]
def BA:List D->Bool
 |[]=>true
 | .str s::r=> !(Cl (.str s) r)&&BA r
 |_=>false
def GD(d:D):Option D:=match d with
 | .list xs=>if BA xs&&decide (xs.length<=8) then some (.univ xs (Fu xs 0)) else none
 |_=>none
def L8(x:Str):Option D:=
 if x=Str.ofString "_law_pairs" then some (.tup [.str (Str.ofString "union"),.str (Str.ofString "meet"),.str (Str.ofString "minus"),.str (Str.ofString "override")]) else none
def Dy:Nat->List D->List D
 |_,[]=>[]
 |k,x::r=> .tup [.int k,x]::Dy (k+1) r
def HA(o:D)(m:Str):Option Str:=match o with
 | .univ .. =>if m=Str.ofString "size" then some (Str.ofString "Universe.size") else none
 | .bnds .. =>if m=Str.ofString "upper" then some (Str.ofString "Bounds.upper") else none
 |_=>none
structure FnInfo where
 params:List Str
 names:List (Str×NameKind)
 body:List Stmt
 deriving Inhabited
def Tp:Stmt->Option (Str×FnInfo)
 | .FunctionDef name args body _ _ _ scope _ _ _=>some (name,⟨args.args.map (·.arg),scope.names,body⟩)
 |_=>none
def Q0:Stmt->List (Str×FnInfo)
 | .ClassDef name _ _ body _ _ _ _ _ _ _=>(body.filterMap Tp).map λp=>(name++Str.ofString "." ++p.1,p.2)
 |s=>(Tp s).toList
def fnTab:List (Str×FnInfo):=PySem.Challenge.pw_nz0389_01.main.body.flatMap Q0
inductive Fl where
 |next
 |ret (d:D)
 deriving Inhabited
def BR(names:List (Str×NameKind))(cel:List (Str×V)):List (Str×V):=
 cel.map λ(x,v)=>if names.lookup x=some .free then(x,.d v.frz) else(x,v)
def CX(names:List (Str×NameKind))(cel:List (Str×V)):List (Str×V):=
 cel.filter λ(x,_)=>names.lookup x=some .free
def Bb:List Str->List D->Ev->Option Ev
 |[],[],ρ=>some ρ
 |x::xs,d::ds,ρ=>do Bb xs ds (<-ρ.set x (.d d))
 |_,_,_=>none
def BD:List Str->List V->Ev->Option Ev
 |[],[],ρ=>some ρ
 |x::xs,d::ds,ρ=>do BD xs ds (<-ρ.set x d)
 |_,_,_=>none
def Bc:List Expr->Option (List Str)
 |[]=>some []
 | .Name x _::r=>(Bc r).map (x:: ·)
 |_=>none
def JR(t:Expr)(d:D)(ρ:Ev):Option Ev:=match t with
 | .Name x _=>ρ.set x (.d d)
 | .Tuple ts _ _=>do
   let xs<-Bc ts
   match d with
   | .tup ds=>if xs.length=2 then Bb xs ds ρ else none
   |_=>none
 |_=>none
def EG{σ:Type}(f:D->σ->Option (Fl×σ)):List D->σ->Option (Fl×σ)
 |[],s=>some (.next,s)
 |d::ds,s=>do
  match<-f d s with
  |(.next,s)=>EG f ds s
  |r=>some r
def CW{σ:Type}(f:D->σ->Option (List D×σ)):List D->σ->Option (List D×σ)
 |[],s=>some ([],s)
 |d::ds,s=>do
  let(xs,s)<-f d s
  let(ys,s)<-CW f ds s
  some (xs++ys,s)
def Hk(k:D)(σ:St):Option D:=do
 let k<-EA k
 if k= .s (Str.ofString "spot") then some (.int σ.2) else if k= .s (Str.ofString "cells") then some (.list (σ.1.map .int)) else none
def CV(x:Str)(k d:D)(w:V)(ρ:Ev)(σ:St):Option (Fl×Ev×St):=match w with
 | .ownD es=>do
   let k<-EA k
   if d.dictFree&&decide (es.length<100000) then(ρ.set x (.ownD (B9 k d es))).map (.next,·,σ) else none
 | .d .feed=>(match d with
    | .int z=>if EA k=some (.s (Str.ofString "spot"))/\AZ z=true then some (.next,ρ,(σ.1,z)) else none
    |_=>none)
 |_=>none
def K3(x m:Str)(xs as:List D)(ρ:Ev):Option Ev:=match as with
 |[d]=>if m=Str.ofString "append"/\xs.length<1000000 then ρ.set x (.ownL (xs++[d])) else none
 |_=>none
def B1:V->V->Bool
 | .ownL _,.ownL _=>true
 | .ownDL _,.ownDL _=>true
 | .ownB ..,.ownB .. =>true
 | .d (.bnds ..),.d (.bnds ..)=>true
 |_,_=>false
def FF(x m₁ m₂:Str)(k d:D)(w:V)(ρ:Ev):Option Ev:=match w with
 | .ownDL es=>do
   let k<-EA k
   if m₁=Str.ofString "setdefault"/\m₂=Str.ofString "append"/\(es.all λe=>decide (e.2.length<1000))=true/\es.length<1000 then ρ.set x (.ownDL (Bl k d es)) else none
 |_=>none
def N8(l₀ l:List (Str×V)):List (Str×V):=l.filter λp=>(l₀.lookup p.1).isSome
def Ev.back(ρ₀ ρ:Ev):Ev:={ρ with loc:=N8 ρ₀.loc ρ.loc,cel:=N8 ρ₀.cel ρ.cel}
def Ao(ρ:Ev)(f:Str):Bool:=ρ.kind f==some .globalImplicit
def BE(x:Str):Bool:=x==Str.ofString "__debug__" ||x==Str.ofString "__classdict__"
def Ft(ρ:Ev)(o i:Expr):Option (List (Key×D)×D):=match o,i with
 | .Name x _,.Name y _=>if BE x||BE y then none else(match ρ.get x,ρ.get y with
    |some (.ownD es),some (.d k)=>some (es,k)
    |_,_=>none)
 |_,_=>none
def Bp:Expr->Bool
 | .Name .. =>true
 | .Attribute .. =>true
 | .Subscript .. =>true
 |_=>false
def HH:Expr->Bool
 | .Call (.Name f _) [_] [] _=>f==Str.ofString "enumerate"
 |_=>false
def isTup:Expr->Bool
 | .Tuple .. =>true
 |_=>false
def Ek(t it:Expr):Bool:=isTup t|| !HH it
def EK(l:List (Str×NameKind)):Bool:=l.all λp=>(p.2== .local||p.2== .free||p.2== .globalImplicit)&&l.lookup p.1==some p.2
def F2(scope:Scope)(gens:List Comprehension):Bool:=scope.kind== .function&&EK scope.names&&gens.all λg=>g.is_async==0
def Df(names:List (Str×NameKind))(ρ:Ev):Bool:=names.all λp=>p.2 != .free||((ρ.kind p.1==some .cell&&(ρ.get p.1).isSome)||(ρ.kind p.1==some .free&&(match ρ.get p.1 with|some (.d _)=>true|_=>false)))
def Gu(ts es:List Expr)(xs:List Str)(ρ:Ev):Bool:=
 (ts.length==2||ts.length==3)&&es.length==ts.length&& !(es.any λ| .Starred .. =>true|_=>false)&& !(es.all (foldedForSure 8))&& !(es.all (constantsAlone 8))&&
 (ts.all λ| .Name x p=>ρ.kind x==some .local&&p.line==(ts.head?.map (·.pos.line)).getD 0|_=>false)&&xs.eraseDups.length==xs.length
def E0(x:Str)(v:Expr)(ρ:Ev):Bool:=match v with
 | .Subscript (.Name y _) (.Slice (some (.Constant (.int _) _ _)) none none _) _=>y !=x&& !Ao ρ y&&(match ρ.get y with
   |some (.d _)=>true
   |_=>false)
 |_=>false
def topFns:List String:=["set_of","univ_of","iden_of","union","meet","minus","is_within","product","join","turned","closure","star","ahead","behind","upper_of_comp","upper_of","upper_of_one",
 "_law_draw","_law_masked","_law_lots","_law_of_one_place","_law_of_two_places","_law_formula","_law_is_so","_law_chosen","_law_joined","_law_closed","_law_mixed","_law_rows","_law_words"]
def L1(f:Str):Bool:=topFns.any λg=>Str.ofString g==f
def PA(f:Str):Option String:=
 if f=Str.ofString "len" then some "len" else if f=Str.ofString "tuple" then some "tuple" else if f=Str.ofString "list" then some "list" else
 if f=Str.ofString "dict" then some "dict" else if f=Str.ofString "sorted" then some "sorted" else if f=Str.ofString "range" then some "range" else
 if f=Str.ofString "str" then some "str" else none
mutual
def Aq:Nat->Expr->Ev->St->Option (D×Ev×St)
 |0,_,_,_=>none
 |n+1,e,ρ,σ=>match e with
  | .Constant .none _ _=>some (.none,ρ,σ)
  | .Constant (.bool b) _ _=>some (.bool b,ρ,σ)
  | .Constant (.int i) _ _=>some (.int i,ρ,σ)
  | .Constant (.str s) _ _=>some (.str s,ρ,σ)
  | .Name x _=>if Ao ρ x then(L8 x).map (·,ρ,σ) else if BE x then none else do
    match<-ρ.get x with
    | .d d=>some (d,ρ,σ)
    |v=>some (v.frz,<-ρ.set x (.d v.frz),σ)
  | .BinOp l op r _=>do
    let(a,ρ,σ)<-Aq n l ρ σ
    let(b,ρ,σ)<-Aq n r ρ σ
    some (<-CN op a b,ρ,σ)
  | .UnaryOp .USub (.Constant (.int i) _ _) _=>some (.int (-i),ρ,σ)
  | .IfExp t b o _=>do
    let(c,ρ,σ)<-Ed n t ρ σ
    if c then Aq n b ρ σ else Aq n o ρ σ
  | .Compare l [op] [r] _=>do
    let(a,ρ,σ)<-Aq n l ρ σ
    let(b,ρ,σ)<-Aq n r ρ σ
    some (.bool (<-Av op a b),ρ,σ)
  | .Tuple es _ _=>do
    let(ds,ρ,σ)<-Hn n es ρ σ
    if ds.length<=100000 then some (.tup ds,ρ,σ) else none
  | .List es _=>do
    let(ds,ρ,σ)<-Hn n es ρ σ
    if ds.length<=100000 then some (.list ds,ρ,σ) else none
  | .Dict ks vs _=>if ks.isEmpty||decide (15<ks.length) then none else do
    let(es,ρ,σ)<-N1 n ks vs ρ σ
    some (.dict (es.foldl (λacc p=>B9 p.1 p.2 acc) []),ρ,σ)
  | .Attribute o a _=>if !Bp o then none else do
    let(d,ρ,σ)<-Aq n o ρ σ
    some (<-MU d a,ρ,σ)
  | .Subscript o (.Slice lo hi st _) _=>do
    let(d,ρ,σ)<-Aq n o ρ σ
    let(a,ρ,σ)<-Kt n lo ρ σ
    let(b,ρ,σ)<-Kt n hi ρ σ
    let(c,ρ,σ)<-Kt n st ρ σ
    some (<-Bo d a b c,ρ,σ)
  | .Subscript o i _=>match Ft ρ o i with
    |some (es,k)=>(Al (.dict es) k).map (·,ρ,σ)
    |none=>do
     let(d,ρ,σ)<-Aq n o ρ σ
     let(k,ρ,σ)<-Aq n i ρ σ
     match d with
     | .feed=>Hk k σ>>=λv=>some (v,ρ,σ)
     |d=>some (<-Al d k,ρ,σ)
  | .ListComp elt (g::gs) scope _=>if !(F2 scope (g::gs)&&Df scope.names ρ) then none else do
    let(xs,ρ,σ)<-FQ n g.iter ρ σ
    if !Df scope.names ρ then none else do
    let ρ:={ρ with cel:=BR scope.names ρ.cel}
    let(ys,_,σ)<-CW (λd (s:Ev×St)=>Ja n g gs elt d s.1 s.2) xs (⟨scope.names,[],CX scope.names ρ.cel⟩,σ)
    if ys.length<=100000 then some (.list ys,ρ,σ) else none
  | .Call (.Name f _) args [] _=>if !Ao ρ f then none else
    match f,args with
    |f,args=>
     if f=Str.ofString "isinstance" then match args with
      |[e,.Name c _]=>if Ao ρ c then do
         let(d,ρ,σ)<-Aq n e ρ σ
         if c=Str.ofString "tuple" then some (.bool (<-Ou d "tuple"),ρ,σ) else
         if c=Str.ofString "str" then some (.bool (<-Ou d "str"),ρ,σ) else
         if c=Str.ofString "int" then some (.bool (<-Ou d "int"),ρ,σ) else
         if c=Str.ofString "bool" then some (.bool (<-Ou d "bool"),ρ,σ) else none
       else none
      |_=>none
     else match(if f=Str.ofString "sorted" then args else []) with
      |[.Call (.Name g _) [e] [] _]=>if Ao ρ g then
         (if g=Str.ofString "set" then do
           let(d,ρ,σ)<-Aq n e ρ σ
           some (.list (<-DZ (<-NZ d)),ρ,σ)
         else C1 n f args ρ σ) else none
      |_=>C1 n f args ρ σ
  | .Call (.Attribute o m ap) args [] cp=>if !(Bp o&&ap.endLine==cp.line&&decide (args.length<30)) then none else do
    let(d,ρ,σ)<-Aq n o ρ σ
    let(as,ρ,σ)<-Hn n args ρ σ
    match d with
    | .dict es=>if m=Str.ofString "get" then(match as with
       |[k,dflt]=>do
        let k<-EA k
        some ((Af k es).getD dflt,ρ,σ)
       |_=>none)     else none
    |d=>do
     let f<-HA d m
     let(r,σ)<-AQ n f (d::as) σ
     some (r,ρ,σ)
  |_=>none
def C1:Nat->Str->List Expr->Ev->St->Option (D×Ev×St)
 |0,_,_,_,_=>none
 |n+1,f,args,ρ,σ=>do
   let(as,bo,ρ,σ)<-Ku n args ρ σ
   if f=Str.ofString "Universe" then(match as with
    |[d]=>(GD d).map (·,ρ,σ)
    |_=>none) else
   match PA f with
   |some b=>if bo then none else some (<-Ag b as,ρ,σ)
   |none=>if !L1 f then none else do
    let(r,σ)<-AQ n f as σ
    if bo&& !r.dictFree then none else some (r,ρ,σ)
def Hn:Nat->List Expr->Ev->St->Option (List D×Ev×St)
 |0,_,_,_=>none
 |n+1,es,ρ,σ=>match es with
  |[]=>some ([],ρ,σ)
  | .Starred .. ::_=>none
  |e::r=>do
   let(d,ρ,σ)<-Aq n e ρ σ
   let(ds,ρ,σ)<-Hn n r ρ σ
   some (d::ds,ρ,σ)
def Ku:Nat->List Expr->Ev->St->Option (List D×Bool×Ev×St)
 |0,_,_,_=>none
 |n+1,es,ρ,σ=>match es with
  |[]=>some ([],false,ρ,σ)
  | .Starred .. ::_=>none
  | .Name x p::r=>match ρ.get x with
    |some (.ownD es)=>if Ao ρ x||BE x then none else(match r with
      |[]=>some ([.dict es],true,ρ,σ)
      |_=>none)
    |_=>do
     let(d,ρ,σ)<-Aq n (.Name x p) ρ σ
     let(ds,b,ρ,σ)<-Ku n r ρ σ
     some (d::ds,b,ρ,σ)
  |e::r=>do
   let(d,ρ,σ)<-Aq n e ρ σ
   let(ds,b,ρ,σ)<-Ku n r ρ σ
   some (d::ds,b,ρ,σ)
def N1:Nat->List (Option Expr)->List Expr->Ev->St->Option (List (Key×D)×Ev×St)
 |0,_,_,_,_=>none
 |n+1,ks,vs,ρ,σ=>match ks,vs with
  |[],[]=>some ([],ρ,σ)
  |some k::ks,v::vs=>do
   let(a,ρ,σ)<-Aq n k ρ σ
   let a<-EA a
   let(b,ρ,σ)<-Aq n v ρ σ
   let(r,ρ,σ)<-N1 n ks vs ρ σ
   some ((a,b)::r,ρ,σ)
  |_,_=>none
def Kt:Nat->Option Expr->Ev->St->Option (D×Ev×St)
 |0,_,_,_=>none
 |n+1,e,ρ,σ=>match e with
  |none=>some (.none,ρ,σ)
  |some e=>Aq n e ρ σ
def Ed:Nat->Expr->Ev->St->Option (Bool×Ev×St)
 |0,_,_,_=>none
 |n+1,e,ρ,σ=>match e with
  | .UnaryOp .Not x _=>do
    let(b,ρ,σ)<-Ed n x ρ σ
    some (!b,ρ,σ)
  | .BoolOp op vs _=>MH n op vs ρ σ
  | .IfExp .. =>none
  | .Compare l [op] [r] _=>do
    let(a,ρ,σ)<-Aq n l ρ σ
    let(b,ρ,σ)<-Aq n r ρ σ
    some (<-Av op a b,ρ,σ)
  | .Compare l [op₁,op₂] [r₁,r₂] _=>do
    let(a,ρ,σ)<-Aq n l ρ σ
    let(b,ρ,σ)<-Aq n r₁ ρ σ
    if<-Av op₁ a b then do
     let(c,ρ,σ)<-Aq n r₂ ρ σ
     some (<-Av op₂ b c,ρ,σ)
    else some (false,ρ,σ)
  | .Compare .. =>none
  |e=>do
   let(d,ρ,σ)<-Aq n e ρ σ
   some (<-Gs d,ρ,σ)
def MH:Nat->BoolOp->List Expr->Ev->St->Option (Bool×Ev×St)
 |0,_,_,_,_=>none
 |n+1,op,es,ρ,σ=>match es with
  |[]=>some (op== .And,ρ,σ)
  |e::r=>do
   let(b,ρ,σ)<-Ed n e ρ σ
   match op,b with
   | .And,false=>some (false,ρ,σ)
   | .Or,true=>some (true,ρ,σ)
   |_,_=>MH n op r ρ σ
def Hy:Nat->List Expr->Ev->St->Option (Bool×Ev×St)
 |0,_,_,_=>none
 |n+1,es,ρ,σ=>match es with
  |[]=>some (true,ρ,σ)
  |[e]=>Ed n e ρ σ
  |_=>none
def FQ:Nat->Expr->Ev->St->Option (List D×Ev×St)
 |0,_,_,_=>none
 |n+1,e,ρ,σ=>match(match e with
   | .Call (.Name f _) [x] [] _=>if f=Str.ofString "enumerate" then some (f,x) else none
   |_=>none:Option (Str×Expr)) with
  |some (f,x)=>if Ao ρ f then do
    let(d,ρ,σ)<-Aq n x ρ σ
    match d with
    | .list xs=>some (Dy 0 xs,ρ,σ)
    |_=>none
   else none
  |none=>do
   let(d,ρ,σ)<-Aq n e ρ σ
   some (<-FV d,ρ,σ)
def Ja:Nat->Comprehension->List Comprehension->Expr->D->Ev->St->Option (List D×Ev×St)
 |0,_,_,_,_,_,_=>none
 |n+1,g,gs,elt,d,ρ,σ=>do
  if g.is_async !=0|| !Ek g.target g.iter then none else do
  let ρ₀:=ρ
  let ρ<-JR g.target d ρ
  let(ok,ρ,σ)<-Hy n g.ifs ρ σ
  if !ok then some ([],ρ₀.back ρ,σ) else
  match gs with
  |[]=>do
   let(y,ρ,σ)<-Aq n elt ρ σ
   some ([y],ρ₀.back ρ,σ)
  |g'::gs'=>do
   let(xs,ρ,σ)<-FQ n g'.iter ρ σ
   let(ys,ρ,σ)<-CW (λd (s:Ev×St)=>Ja n g' gs' elt d s.1 s.2) xs (ρ,σ)
   some (ys,ρ₀.back ρ,σ)
def GA:Nat->Expr->Ev->St->Option (V×Ev×St)
 |0,_,_,_=>none
 |n+1,e,ρ,σ=>match e with
  | .List [] _=>some (.ownL [],ρ,σ)
  | .Dict [] [] _=>some (.ownDL [],ρ,σ)
  | .Call (.Name f p) [x] [] q=>
    if f=Str.ofString "dict" then(if Ao ρ f then do
     let(d,ρ,σ)<-Aq n x ρ σ
     match<-Ag "dict" [d] with
     | .dict es=>some (.ownD es,ρ,σ)
     | .dictT es=>some (.d (.dictT es),ρ,σ)
     |_=>none else none)
    else if f=Str.ofString "Bounds" then(if Ao ρ f then do
     let(d,ρ,σ)<-Aq n x ρ σ
     match d with
     | .univ a b=>some (.ownB (.univ a b) [] [],ρ,σ)
     |_=>none else none)
    else do
     let(d,ρ,σ)<-Aq n (.Call (.Name f p) [x] [] q) ρ σ
     some (.d d,ρ,σ)
  |e=>do
   let(d,ρ,σ)<-Aq n e ρ σ
   some (.d d,ρ,σ)
def HK:Nat->List Expr->Ev->St->Option (List V×Ev×St)
 |0,_,_,_=>none
 |n+1,es,ρ,σ=>match es with
  |[]=>some ([],ρ,σ)
  | .Starred .. ::_=>none
  |e::r=>do
   let(v,ρ,σ)<-GA n e ρ σ
   let(vs,ρ,σ)<-HK n r ρ σ
   some (v::vs,ρ,σ)
def EI:Nat->Stmt->Ev->St->Option (Fl×Ev×St)
 |0,_,_,_=>none
 |n+1,s,ρ,σ=>match s with
  | .Pass _=>some (.next,ρ,σ)
  | .Return (some e) _=>do
    let(d,ρ,σ)<-Aq n e ρ σ
    some (.ret d,ρ,σ)
  | .If t b o _=>do
    let(c,ρ,σ)<-Ed n t ρ σ
    if c then Br n b ρ σ else Br n o ρ σ
  | .Assign [.Name x _] v _=>do
    let(v,ρ,σ)<-GA n v ρ σ
    some (.next,<-ρ.set x v,σ)
  | .Assign [.Tuple ts _ _] (.Tuple es _ _) _=>do
    let xs<-Bc ts
    if !Gu ts es xs ρ then none else do
    let(vs,ρ,σ)<-HK n es ρ σ
    some (.next,<-BD xs vs ρ,σ)
  | .Assign [.Subscript (.Name x _) i _] v _=>if BE x||Ao ρ x then none else do
    let(d,ρ,σ)<-Aq n v ρ σ
    let _<-ρ.get x
    let(k,ρ,σ)<-Aq n i ρ σ
    let w<-ρ.get x
    CV x k d w ρ σ
  | .Expr (.Call (.Attribute (.Name x _) m ap) args [] cp) _=>if BE x||Ao ρ x|| !(ap.endLine==cp.line&&decide (args.length<30)) then none else do
    let v₀<-ρ.get x
    let(as,ρ,σ)<-Hn n args ρ σ
    let v<-ρ.get x
    if B1 v₀ v then QJ n x m v as ρ σ else none
  | .Expr (.Call (.Attribute (.Call (.Attribute (.Name x _) m₁ ap₁) [k,.List [] _] [] cp₁) m₂ ap₂) [v] [] cp₂) _=>if BE x||Ao ρ x|| !(ap₁.endLine==cp₁.line)|| !(ap₂.endLine==cp₂.line) then none else do
    let v₀<-ρ.get x
    let(kd,ρ,σ)<-Aq n k ρ σ
    let v₁<-ρ.get x
    if !(E0 x v ρ&&B1 v₀ v₁) then none else do
    let(d,_,_)<-Aq n v ρ σ
    let ρ<-FF x m₁ m₂ kd d v₁ ρ
    some (.next,ρ,σ)
  | .For t it b [] _=>if !Ek t it then none else do
    let(xs,ρ,σ)<-FQ n it ρ σ
    let(f,ρ,σ)<-EG (λd (s:Ev×St)=>do
     let ρ<-JR t d s.1
     let(f,ρ,σ)<-Br n b ρ s.2
     some (f,s.1.back ρ,σ)) xs (ρ,σ)
    some (f,ρ,σ)
  | .While t b [] _=>Gm n t b ρ σ
  |_=>none
def QJ:Nat->Str->Str->V->List D->Ev->St->Option (Fl×Ev×St)
 |0,_,_,_,_,_,_=>none
 |n+1,x,m,v,as,ρ,σ=>match v with
  | .ownL xs=>do
    let ρ<-K3 x m xs as ρ
    some (.next,ρ,σ)
  | .ownB u bs ns=>do
    let(w,σ)<-Gb n m u bs ns as σ
    let ρ<-ρ.set x w
    some (.next,ρ,σ)
  | .d (.bnds u bs ns)=>do
    if m !=Str.ofString "want_set" then none else do
    let(r,σ)<-AQ n (Str.ofString "Bounds.want_set") (.bnds u bs ns::as) σ
    match r with
    | .none=>some (.next,ρ,σ)
    |_=>none
  |_=>none
def Gb:Nat->Str->D->List D->List (Key×D)->List D->St->Option (V×St)
 |0,_,_,_,_,_,_=>none
 |n+1,m,u,bs,ns,as,σ=>match as with
  |[.str s,.int a,.tup lo,.tup up]=>if !(m==Str.ofString "add" &&(Af (.s s) ns).isNone&&decide (bs.length<1000)&&decide (ns.length<1000)) then none else do
   let fi<-fnTab.lookup (Str.ofString "Bounds.add")
   let ρ<-Bb fi.params [.bnds u bs ns,.str s,.int a,.tup lo,.tup up] ⟨fi.names,[],[]⟩
   let(ρ',σ)<-FR n (fi.body.take 5) ρ σ
   if ρ'.names≠fi.names then none else
   some (.ownB u (bs++[.tup [.str s,.int a,.tup lo,.tup up]]) (ns++[(.s s,.int bs.length)]),σ)
  |_=>none
def FR:Nat->List Stmt->Ev->St->Option (Ev×St)
 |0,_,_,_=>none
 |n+1,ss,ρ,σ=>match ss with
  |[]=>some (ρ,σ)
  | .If t _ [] _::r=>do
    let(c,ρ,σ)<-Ed n t ρ σ
    if c then none else FR n r ρ σ
  | .Expr (.Call (.Attribute (.Name x p) m ap) args [] cp) _::r=>if !(m==Str.ofString "want_set" &&ap.endLine==cp.line&&decide (args.length<30)) then none else do
    let(d,ρ,σ)<-Aq n (.Name x p) ρ σ
    let(as,ρ,σ)<-Hn n args ρ σ
    match d with
    | .bnds u bs ns=>do
      let(v,σ)<-AQ n (Str.ofString "Bounds.want_set") (.bnds u bs ns::as) σ
      match v with
      | .none=>FR n r ρ σ
      |_=>none
    |_=>none
  |_=>none
def Gm:Nat->Expr->List Stmt->Ev->St->Option (Fl×Ev×St)
 |0,_,_,_,_=>none
 |n+1,t,b,ρ,σ=>do
  let(c,ρ,σ)<-Ed n t ρ σ
  if c then do
   match<-Br n b ρ σ with
   |(.next,ρ',σ)=>Gm n t b (ρ.back ρ') σ
   |r=>some r
  else some (.next,ρ,σ)
def Br:Nat->List Stmt->Ev->St->Option (Fl×Ev×St)
 |0,_,_,_=>none
 |n+1,ss,ρ,σ=>match ss with
  |[]=>some (.next,ρ,σ)
  |s::r=>do
   match<-EI n s ρ σ with
   |(.next,ρ,σ)=>Br n r ρ σ
   |r=>some r
def AQ:Nat->Str->List D->St->Option (D×St)
 |0,_,_,_=>none
 |n+1,f,as,σ=>do
  let fi<-fnTab.lookup f
  let ρ<-Bb fi.params as ⟨fi.names,[],[]⟩
  match<-Br n fi.body ρ σ with
  |(.next,_,σ)=>some (.none,σ)
  |(.ret d,_,σ)=>some (d,σ)
end
end Nz
namespace Nz
open PySem PySem.W PyProof.Rows PySem.Calls
open List (mem_range map_cons mem_cons mem_cons_of_mem mem_cons_self cons_append size_toArray append_nil any_cons nodup_cons all_eq_true zip_cons_cons mem_filter length_map getElem?_eq_getElem mem_map mem_append mem_singleton lookup_cons length_cons map_take filterMap_cons map_map nodup_nil length_nil map_nil map_append length_append flatMap_cons length_filter_le)
open Nat (zero_le le_succ le_max_left le_max_right)
open Bool (and_eq_true false_eq_true or_eq_true not_eq_true')
open Option (map_eq_some_iff bind_eq_bind bind_eq_some_iff getD_some bind_some map_some)
def Key.is:Key->Value->Bool
 | .i z,v=>Value.isInt z v
 | .s x,v=>Value.isStrOf x v
theorem Key.is_shape{k:Key}{v:Value}(h:Key.is k v=true):(∃z t,k= .i z/\v= .int z t)\/(∃x t,k= .s x/\v= .str x t):=by
 cases k with
 |i z=>obtain⟨t,rfl⟩:=Value.isInt_shape h;exact .inl ⟨z,t,rfl,rfl⟩
 |s x=>obtain⟨t,rfl⟩:=Value.isStrOf_shape h;exact .inr ⟨x,t,rfl,rfl⟩
theorem I4{prog:Program}{w:World}{A:Around}{E:Value->Shared->Prop}{s:Shared}{a:Int}{b:Str}{t u:Tok}{Q:Bool->Shared->Prop}(h:Q false s):
 wpAny (model prog w) A (eqBool (.int a t) (.str b u)) Q E s:=by
 unfold eqBool
 refine wpAny_holding ?_
 rw[if_neg (show ¬(Value.int a t==Value.str b u)=true by simp)]
 exact wpAny_bind (@EqMixed.eq_int_str prog w A E s _ a t b u (wpAny_truthy_bool h))
theorem I3{prog:Program}{w:World}{A:Around}{E:Value->Shared->Prop}{s:Shared}{a:Str}{b:Int}{t u:Tok}{Q:Bool->Shared->Prop}(h:Q false s):
 wpAny (model prog w) A (eqBool (.str a t) (.int b u)) Q E s:=by
 unfold eqBool
 refine wpAny_holding ?_
 rw[if_neg (show ¬(Value.str a t==Value.int b u)=true by simp)]
 exact wpAny_bind (@EqMixed.eq_str_int prog w A E s _ a t b u (wpAny_truthy_bool h))
def AV(prog:Program)(w:World):KeyKind prog w Key where
 is:=Key.is
 hash:=λk=>match k with| .i z=>hashInt z| .s x=>hashStr w x
 inj:=λv a b ha hb=>by
  rcases Key.is_shape ha with ⟨z,t,rfl,rfl⟩|⟨x,t,rfl,rfl⟩<;>rcases Key.is_shape hb with ⟨z',t',rfl,e⟩|⟨x',t',rfl,e⟩<;>cases e<;>rfl
 byValue:=λk v h=>by rcases Key.is_shape h with ⟨z,t,rfl,rfl⟩|⟨x,t,rfl,rfl⟩<;>rfl
 pyHash:=λhv h=>by
  rcases Key.is_shape hv with ⟨z,t,rfl,rfl⟩|⟨x,t,rfl,rfl⟩
  ·exact wpAny_pyHash_int h
  ·exact wpAny_pyHash_str h
 eqBool:=λhu hv h=>by
  rcases Key.is_shape hu with ⟨z,t,rfl,rfl⟩|⟨x,t,rfl,rfl⟩<;>rcases Key.is_shape hv with ⟨z',t',rfl,rfl⟩|⟨x',t',rfl,rfl⟩
  ·refine wpAny_eqBool_int ?_
   have e:(z==z')=decide (Key.i z=Key.i z'):=by by_cases hz:z=z'<;>simp[hz]
   rw[e];exact h
  ·refine I4 ?_
   simpa using h
  ·refine I3 ?_
   simpa using h
  ·refine wpAny_eqBool_str ?_
   have e:decide (x=x')=decide (Key.s x=Key.s x'):=by by_cases hz:x=x'<;>simp[hz]
   rw[e];exact h
 «strs» :=λk x t v h=>by
  rcases Key.is_shape h with ⟨z,t',rfl,e⟩|⟨x',t',rfl,e⟩
  ·cases e
  ·cases e;cases v<;>rfl
structure Cx where
 prog:Program
 w:World
 h₀:Heap
 fa:Addr
 os:OsState
 uc:Addr
 bc:Addr
abbrev FM:=Addr->Option Obj
def FM.le(Z Z':FM):Prop:=∀a o,Z a=some o->Z' a=some o
def FM.add(Z:FM)(a:Addr)(o:Obj):FM:=λb=>if b=a then some o else Z b
theorem FM.le_refl(Z:FM):Z.le Z:=λ_ _ e=>e
theorem FM.le_trans{Z₁ Z₂ Z₃:FM}(h:Z₁.le Z₂)(k:Z₂.le Z₃):Z₁.le Z₃:=λa o e=>k a o (h a o e)
theorem FM.add_self(Z:FM)(a:Addr)(o:Obj):Z.add a o a=some o:=by simp[FM.add]
theorem FM.le_add{Z:FM}{a:Addr}(o:Obj)(h:Z a=none):Z.le (Z.add a o):=λb ob e=>by
 unfold FM.add;by_cases hb:b=a
 ·subst hb;rw[h] at e;cases e
 ·rw[if_neg hb];exact e
def TupAt(Z:FM)(a:Addr)(vs:List Value):Prop:=∃o n,Z a=some o/\o.cls= .type "tuple"/\o.data= .seq vs.toArray n
def LstAt(Z:FM)(a:Addr)(vs:List Value):Prop:=∃n,Z a=some {cls:= .type "list",data:= .seq vs.toArray n}
def DctAt(c:Cx)(Z:FM)(a:Addr)(kvs:List (Key×Value)):Prop:=a≠sysModules/\∃o,Z a=some o/\o.IsDictOf (AV c.prog c.w) kvs
def RngAt(Z:FM)(a:Addr)(lo hi:Int):Prop:=∃t u v,Z a=some {cls:= .type "range",data:= .fields #[.int lo t,.int hi u,.int 1 v]}
def TKey(Z:FM)(k:List Int)(a:Addr):Prop:=∃vs,TupAt Z a vs/\IntsAre vs k
def DcTAt(c:Cx)(Z:FM)(a:Addr)(xs:List (List Int×Addr×Value)):Prop:=a≠sysModules/\
 ∃o es ep,Z a=some o/\o.ExactDict/\o.data= .dict es ep/\es.toList=xs.map (entryOfKey (tupleKind (intKind c.prog c.w)))/\(∀x∈xs,TKey Z x.1 x.2.1)/\(xs.map (·.1)).Nodup
def InsAt(Z:FM)(a C da:Addr):Prop:=Z a=some {cls:= .ref C,dict:=some da,data:= .plain}
theorem TupAt.mono{Z Z':FM}{a:Addr}{vs:List Value}(x:TupAt Z a vs)(h:Z.le Z'):TupAt Z' a vs:=let⟨o,n,e,r⟩:=x;⟨o,n,h _ _ e,r⟩
theorem LstAt.mono{Z Z':FM}{a:Addr}{vs:List Value}(x:LstAt Z a vs)(h:Z.le Z'):LstAt Z' a vs:=let⟨n,e⟩:=x;⟨n,h _ _ e⟩
theorem DctAt.mono{c:Cx}{Z Z':FM}{a:Addr}{kvs:List (Key×Value)}(x:DctAt c Z a kvs)(h:Z.le Z'):DctAt c Z' a kvs:=let⟨n,o,e,r⟩:=x;⟨n,o,h _ _ e,r⟩
theorem RngAt.mono{Z Z':FM}{a:Addr}{lo hi:Int}(x:RngAt Z a lo hi)(h:Z.le Z'):RngAt Z' a lo hi:=let⟨t,u,v,e⟩:=x;⟨t,u,v,h _ _ e⟩
theorem TKey.mono{Z Z':FM}{a:Addr}{k:List Int}(x:TKey Z k a)(h:Z.le Z'):TKey Z' k a:=let⟨vs,e,r⟩:=x;⟨vs,e.mono h,r⟩
theorem DcTAt.mono{c:Cx}{Z Z':FM}{a:Addr}{xs:List (List Int×Addr×Value)}(x:DcTAt c Z a xs)(h:Z.le Z'):DcTAt c Z' a xs:=
 let⟨n,o,es,ep,e,r1,r2,r3,r4,r5⟩:=x;⟨n,o,es,ep,h _ _ e,r1,r2,r3,λy hy=>(r4 y hy).mono h,r5⟩
theorem InsAt.mono{Z Z':FM}{a C da:Addr}(x:InsAt Z a C da)(h:Z.le Z'):InsAt Z' a C da:=h _ _ x
mutual
def Rep(c:Cx)(Z:FM):D->Value->Prop
 | .none,v=>v= .none
 | .bool b,v=>v= .bool b
 | .int i,v=>∃t,v= .int i t
 | .str x,v=>∃t,v= .str x t
 | .tup xs,v=>∃a vs,v= .ref a/\TupAt Z a vs/\RepL c Z xs vs
 | .list xs,v=>∃a vs,v= .ref a/\LstAt Z a vs/\RepL c Z xs vs
 | .dict es,v=>∃a kvs,v= .ref a/\DctAt c Z a kvs/\RepE c Z es kvs
 | .dictT es,v=>∃a xs,v= .ref a/\DcTAt c Z a xs/\RepT c Z es xs
 | .range lo hi,v=>∃a,v= .ref a/\RngAt Z a lo hi
 | .univ ns nums,v=>∃a da v₁ v₂,v= .ref a/\InsAt Z a c.uc da/\DctAt c Z da [(.s (Str.ofString "names"),v₁),(.s (Str.ofString "numbers"),v₂)]/\
    (∃b vs,v₁= .ref b/\TupAt Z b vs/\RepL c Z ns vs)/\(∃b kvs,v₂= .ref b/\DctAt c Z b kvs/\RepE c Z nums kvs)
 | .bnds u bs nums,v=>∃a da v₁ v₂ v₃,v= .ref a/\InsAt Z a c.bc da/\
    DctAt c Z da [(.s (Str.ofString "universe"),v₁),(.s (Str.ofString "bounds"),v₂),(.s (Str.ofString "numbers"),v₃)]/\
    Rep c Z u v₁/\(∃b vs,v₂= .ref b/\LstAt Z b vs/\RepL c Z bs vs)/\(∃b kvs,v₃= .ref b/\DctAt c Z b kvs/\RepE c Z nums kvs)
 | .feed,v=>v= .ref c.fa
def RepL(c:Cx)(Z:FM):List D->List Value->Prop
 |[],vs=>vs=[]
 |d::ds,vs=>∃v r,vs=v::r/\Rep c Z d v/\RepL c Z ds r
def RepE(c:Cx)(Z:FM):List (Key×D)->List (Key×Value)->Prop
 |[],vs=>vs=[]
 |(k,d)::ds,vs=>∃v r,vs=(k,v)::r/\Rep c Z d v/\RepE c Z ds r
def RepT(c:Cx)(Z:FM):List (List Int×D)->List (List Int×Addr×Value)->Prop
 |[],vs=>vs=[]
 |(k,d)::ds,vs=>∃a v r,vs=(k,a,v)::r/\Rep c Z d v/\RepT c Z ds r
end
mutual
theorem Rep.mono{c:Cx}{Z Z':FM}(h:Z.le Z'):∀(d:D)(v:Value),Rep c Z d v->Rep c Z' d v
 | .none,v,x=>by rw[Rep] at x⊢;exact x
 | .bool b,v,x=>by rw[Rep] at x⊢;exact x
 | .int i,v,x=>by rw[Rep] at x⊢;exact x
 | .str y,v,x=>by rw[Rep] at x⊢;exact x
 | .tup xs,v,x=>by rw[Rep] at x⊢;obtain⟨a,vs,e,t,r⟩:=x;exact⟨a,vs,e,t.mono h,RepL.mono h xs vs r⟩
 | .list xs,v,x=>by rw[Rep] at x⊢;obtain⟨a,vs,e,t,r⟩:=x;exact⟨a,vs,e,t.mono h,RepL.mono h xs vs r⟩
 | .dict es,v,x=>by rw[Rep] at x⊢;obtain⟨a,vs,e,t,r⟩:=x;exact⟨a,vs,e,t.mono h,RepE.mono h es vs r⟩
 | .dictT es,v,x=>by rw[Rep] at x⊢;obtain⟨a,vs,e,t,r⟩:=x;exact⟨a,vs,e,t.mono h,RepT.mono h es vs r⟩
 | .range lo hi,v,x=>by rw[Rep] at x⊢;obtain⟨a,e,t⟩:=x;exact⟨a,e,t.mono h⟩
 | .univ ns nums,v,x=>by
   rw[Rep] at x⊢;obtain⟨a,da,v₁,v₂,e,i,t,⟨b,vs,e1,t1,r1⟩,⟨b',kvs,e2,t2,r2⟩⟩:=x
   exact⟨a,da,v₁,v₂,e,i.mono h,t.mono h,⟨b,vs,e1,t1.mono h,RepL.mono h ns vs r1⟩,⟨b',kvs,e2,t2.mono h,RepE.mono h nums kvs r2⟩⟩
 | .bnds u bs nums,v,x=>by
   rw[Rep] at x⊢;obtain⟨a,da,v₁,v₂,v₃,e,i,t,r0,⟨b,vs,e1,t1,r1⟩,⟨b',kvs,e2,t2,r2⟩⟩:=x
   exact⟨a,da,v₁,v₂,v₃,e,i.mono h,t.mono h,Rep.mono h u v₁ r0,⟨b,vs,e1,t1.mono h,RepL.mono h bs vs r1⟩,⟨b',kvs,e2,t2.mono h,RepE.mono h nums kvs r2⟩⟩
 | .feed,v,x=>by rw[Rep] at x⊢;exact x
theorem RepL.mono{c:Cx}{Z Z':FM}(h:Z.le Z'):∀(ds:List D)(vs:List Value),RepL c Z ds vs->RepL c Z' ds vs
 |[],vs,x=>by rw[RepL] at x⊢;exact x
 |d::ds,vs,x=>by rw[RepL] at x⊢;obtain⟨v,r,e,y,z⟩:=x;exact⟨v,r,e,Rep.mono h d v y,RepL.mono h ds r z⟩
theorem RepE.mono{c:Cx}{Z Z':FM}(h:Z.le Z'):∀(ds:List (Key×D))(vs:List (Key×Value)),RepE c Z ds vs->RepE c Z' ds vs
 |[],vs,x=>by rw[RepE] at x⊢;exact x
 |(k,d)::ds,vs,x=>by rw[RepE] at x⊢;obtain⟨v,r,e,y,z⟩:=x;exact⟨v,r,e,Rep.mono h d v y,RepE.mono h ds r z⟩
theorem RepT.mono{c:Cx}{Z Z':FM}(h:Z.le Z'):∀(ds:List (List Int×D))(vs:List (List Int×Addr×Value)),RepT c Z ds vs->RepT c Z' ds vs
 |[],vs,x=>by rw[RepT] at x⊢;exact x
 |(k,d)::ds,vs,x=>by rw[RepT] at x⊢;obtain⟨a,v,r,e,y,z⟩:=x;exact⟨a,v,r,e,Rep.mono h d v y,RepT.mono h ds r z⟩
end
structure Ext (L:Addr)(Z:FM)(s:Shared)(Z':FM)(s':Shared):Prop where
 le:Z.le Z'
 held:∀a o,Z' a=some o->s'.heap.get? a=some o
 keep:∀a o,a≠L->s.heap.get? a=some o->s'.heap.get? a=some o
 ns:∀m,s.heap.Ns L m->s'.heap.Ns L m
 new:∀a o,Z' a=some o->Z a=some o\/s.heap.get? a=none
 gens:s'.gens=s.gens
 os:s'.os=s.os
theorem Ext.refl{L:Addr}{Z:FM}{s:Shared}(h:∀a o,Z a=some o->s.heap.get? a=some o):Ext L Z s Z s:=
 ⟨FM.le_refl _,h,λ_ _ _ e=>e,λ_ e=>e,λ_ _ e=> .inl e,rfl,rfl⟩
theorem Ext.trans{L:Addr}{Z₁ Z₂ Z₃:FM}{s₁ s₂ s₃:Shared}(x:Ext L Z₁ s₁ Z₂ s₂)(y:Ext L Z₂ s₂ Z₃ s₃)(hz:Z₃ L=none):Ext L Z₁ s₁ Z₃ s₃ where
 le:=FM.le_trans x.le y.le
 held:=y.held
 keep:=λa o n e=>y.keep a o n (x.keep a o n e)
 ns:=λm e=>y.ns m (x.ns m e)
 new:=λa o e=>by
  rcases y.new a o e with h|h
  ·exact x.new a o h
  ·refine .inr ?_
   cases q:s₁.heap.get? a with
   |none=>rfl
   |some o'=>
    by_cases hn:a=L
    ·rw[hn,hz] at e;cases e
    ·rw[x.keep a o' hn q] at h;cases h
 gens:=y.gens.trans x.gens
 os:=y.os.trans x.os
theorem Ext.same{L:Addr}{Z:FM}{s s':Shared}(h:∀a o,Z a=some o->s.heap.get? a=some o)(k:∀a o,s.heap.get? a=some o->s'.heap.get? a=some o)
 (g:s'.gens=s.gens) (o:s'.os=s.os):Ext L Z s Z s':=⟨FM.le_refl _,λa o e=>k a o (h a o e),λa o _ e=>k a o e,λ_ e=>e.keeps k,λ_ _ e=> .inl e,g,o⟩
theorem Ab(h:Heap):h.get? h.objs.size=none:=by
 cases q:h.get? h.objs.size with
 |none=>rfl
 |some o=>exact absurd (Heap.lt_size q) (Nat.lt_irrefl _)
theorem Ext.oneL{L:Addr}{Z:FM}{s s':Shared}{a:Addr}{o:Obj}(h:∀a o,Z a=some o->s.heap.get? a=some o)(hL:Z L=none)(n:s.heap.get? a=none)(y:s'.heap.get? a=some o)
 (k:∀a o,a≠L->s.heap.get? a=some o->s'.heap.get? a=some o) (ns:∀m,s.heap.Ns L m->s'.heap.Ns L m) (g:s'.gens=s.gens) (os:s'.os=s.os):Ext L Z s (Z.add a o) s' where
 le:=FM.le_add o (by cases q:Z a with|none=>rfl|some x=>rw[h a x q] at n;cases n)
 held:=λb ob e=>by
  unfold FM.add at e
  by_cases hb:b=a
  ·subst hb;rw[if_pos rfl] at e;cases e;exact y
  ·rw[if_neg hb] at e;exact k b ob (λq=>by rw[q,hL] at e;cases e) (h b ob e)
 keep:=k
 ns:=ns
 new:=λb ob e=>by
  unfold FM.add at e
  by_cases hb:b=a
  ·subst hb;exact .inr n
  ·rw[if_neg hb] at e;exact .inl e
 gens:=g
 os:=os
theorem Ext.one{L:Addr}{Z:FM}{s s':Shared}{a:Addr}{o:Obj}(h:∀a o,Z a=some o->s.heap.get? a=some o)(n:s.heap.get? a=none)(y:s'.heap.get? a=some o)
 (k:∀a o,s.heap.get? a=some o->s'.heap.get? a=some o) (g:s'.gens=s.gens) (os:s'.os=s.os):Ext L Z s (Z.add a o) s' where
 le:=FM.le_add o (by cases q:Z a with|none=>rfl|some x=>rw[h a x q] at n;cases n)
 held:=λb ob e=>by
  unfold FM.add at e
  by_cases hb:b=a
  ·subst hb;rw[if_pos rfl] at e;cases e;exact y
  ·rw[if_neg hb] at e;exact k b ob (h b ob e)
 keep:=λa o _ e=>k a o e
 ns:=λ_ e=>e.keeps k
 new:=λb ob e=>by
  unfold FM.add at e
  by_cases hb:b=a
  ·subst hb;exact .inr n
  ·rw[if_neg hb] at e;exact .inl e
 gens:=g
 os:=os
def led(L:Addr)(h:Heap):List (Addr×Obj):=(List.range h.objs.size).filterMap λa=>if a=L then none else(h.get? a).map λo=>(a,o)
theorem led_mem{L:Addr}{h:Heap}{a:Addr}{o:Obj}:(a,o)∈led L h↔a≠L/\h.get? a=some o:=by
 unfold led
 rw[List.mem_filterMap]
 constructor
 ·rintro⟨b,_,e⟩
  split at e
  ·cases e
  ·rename_i hn
   cases q:h.get? b with
   |none=>rw[q] at e;cases e
   |some x=>rw[q] at e;cases e;exact⟨hn,q⟩
 ·rintro⟨hn,e⟩
  exact⟨a,mem_range.mpr (Heap.lt_size e),by rw[if_neg hn,e];rfl⟩
theorem HF{L:Addr}{h:Heap}{m:Str->Option Value}(n:h.Ns L m):Fr {} L h m:=⟨n,(λ_ _ e=>absurd (Heap.lt_size e) (Nat.not_lt_zero _)),zero_le _⟩
theorem E1(L:Addr)(h:Heap):News {} L h (led L h):=λp hp=>by
 obtain⟨a,o⟩:=p
 obtain⟨hn,e⟩:=led_mem.mp hp
 exact⟨e,hn,rfl⟩
theorem Np{L:Addr}{h:Heap}{a:Addr}(hn:a≠L)(hl:∀p∈led L h,p.1<a):h.get? a=none:=by
 cases q:h.get? a with
 |none=>rfl
 |some o=>exact absurd (hl (a,o) (led_mem.mpr ⟨hn,q⟩)) (Nat.lt_irrefl _)
def FeedAt(c:Cx)(Z:FM)(h:Heap)(σ:St):Prop:=c.fa≠sysModules/\∃vc t,h.DictOf (AV c.prog c.w) c.fa [(.s (Str.ofString "cells"),vc),(.s (Str.ofString "spot"),.int σ.2 t)]/\
 Rep c Z (.list (σ.1.map .int)) vc/\∃ca o,vc= .ref ca/\c.h₀.get? ca=some o
theorem DictOf.at'{c:Cx}{h h':Heap}{a:Addr}{kvs:List (Key×Value)}(x:h.DictOf (AV c.prog c.w) a kvs)(k:∀o,h.get? a=some o->h'.get? a=some o):h'.DictOf (AV c.prog c.w) a kvs:=
 let⟨o,es,ep,e,r⟩:=x;⟨o,es,ep,k o e,r⟩
theorem DictOf.live{c:Cx}{h:Heap}{a:Addr}{kvs:List (Key×Value)}(x:h.DictOf (AV c.prog c.w) a kvs):∃o,h.get? a=some o:=let⟨o,_,_,e,_⟩:=x;⟨o,e⟩
theorem FeedAt.keep{c:Cx}{Z Z':FM}{h h':Heap}{σ:St}(x:FeedAt c Z h σ)(le:Z.le Z')(k:∀o,h.get? c.fa=some o->h'.get? c.fa=some o):FeedAt c Z' h' σ:=
 let⟨n,vc,t,d,r,q⟩:=x;⟨n,vc,t,DictOf.at' d k,Rep.mono le _ _ r,q⟩
def RepDL(c:Cx)(Z:FM)(h:Heap):List (Key×List D)->List (Key×Addr)->Prop
 |[],l=>l=[]
 |(k,ds)::r,l=>∃a l' vs,l=(k,a)::l'/\h.PlainList a vs.toArray/\RepL c Z ds vs/\RepDL c Z h r l'
def Own(c:Cx)(Z:FM)(h:Heap):V->Value->List Addr->Prop
 | .d d,v,as=>as=[]/\Rep c Z d v
 | .ownL xs,v,as=>∃a vs,v= .ref a/\as=[a]/\h.PlainList a vs.toArray/\RepL c Z xs vs
 | .ownD es,v,as=>∃a kvs,v= .ref a/\as=[a]/\a≠sysModules/\h.DictOf (AV c.prog c.w) a kvs/\RepE c Z es kvs
 | .ownDL es,v,as=>∃a l,v= .ref a/\as=a::l.map (·.2)/\(a::l.map (·.2)).Nodup/\a≠sysModules/\h.DictOf (AV c.prog c.w) a (l.map λp=>(p.1,.ref p.2))/\RepDL c Z h es l
 | .ownB u bs ns,v,as=>∃a da la na v₁ vs kvs,v= .ref a/\as=[a,da,la,na]/\[a,da,la,na].Nodup/\h.get? a=some {cls:= .ref c.bc,dict:=some da,data:= .plain}/\da≠sysModules/\na≠sysModules/\
    h.DictOf (AV c.prog c.w) da [(.s (Str.ofString "universe"),v₁),(.s (Str.ofString "bounds"),.ref la),(.s (Str.ofString "numbers"),.ref na)]/\Rep c Z u v₁/\
    h.PlainList la vs.toArray/\RepL c Z bs vs/\h.DictOf (AV c.prog c.w) na kvs/\RepE c Z ns kvs
theorem RepDL.keep{c:Cx}{Z Z':FM}{h h':Heap}(le:Z.le Z'):∀(es:List (Key×List D))(l:List (Key×Addr)),RepDL c Z h es l->(∀a∈l.map (·.2),∀o,h.get? a=some o->h'.get? a=some o)->RepDL c Z' h' es l
 |[],l,x,_=>by unfold RepDL at x⊢;exact x
 |(k,ds)::r,l,x,hk=>by
  unfold RepDL at x⊢
  obtain⟨a,l',vs,rfl,i,y,z⟩:=x
  exact⟨a,l',vs,rfl,i.at λo e=>hk a (by simp) o e,RepL.mono le _ _ y,RepDL.keep le r l' z λb hb=>hk b (by simp at hb⊢;exact .inr hb)⟩
theorem RepDL.live{c:Cx}{Z:FM}{h:Heap}:∀(es:List (Key×List D))(l:List (Key×Addr)),RepDL c Z h es l->∀a∈l.map (·.2),∃o,h.get? a=some o
 |[],l,x,a,ha=>by unfold RepDL at x;subst x;simp at ha
 |(k,ds)::r,l,x,a,ha=>by
  unfold RepDL at x
  obtain⟨b,l',vs,rfl,⟨o,e⟩,y,z⟩:=x
  simp only[map_cons,mem_cons] at ha
  rcases ha with rfl|ha
  ·exact⟨_,e⟩
  ·exact RepDL.live r l' z a ha
theorem Own.keep{c:Cx}{Z Z':FM}{h h':Heap}(le:Z.le Z'){V:V}{v:Value}{as:List Addr}(x:Own c Z h V v as)(k:∀a∈as,∀o,h.get? a=some o->h'.get? a=some o):Own c Z' h' V v as:=by
 cases V with
 |d d=>exact⟨x.1,Rep.mono le _ _ x.2⟩
 |ownL xs=>obtain⟨a,vs,e,rfl,i,r⟩:=x;exact⟨a,vs,e,rfl,i.at λo q=>k a (by simp) o q,RepL.mono le _ _ r⟩
 |ownD es=>obtain⟨a,kvs,e,rfl,n,i,r⟩:=x;exact⟨a,kvs,e,rfl,n,DictOf.at' i λo q=>k a (by simp) o q,RepE.mono le _ _ r⟩
 |ownDL es=>
  obtain⟨a,l,e,rfl,nd,n,i,r⟩:=x
  exact⟨a,l,e,rfl,nd,n,DictOf.at' i λo q=>k a (by simp) o q,RepDL.keep le _ _ r λb hb=>k b (mem_cons_of_mem _ hb)⟩
 |ownB u bs ns=>
  obtain⟨a,da,la,na,v₁,vs,kvs,e,rfl,nd,i,n1,n2,d1,r1,i2,r2,d2,r3⟩:=x
  exact⟨a,da,la,na,v₁,vs,kvs,e,rfl,nd,k a (by simp) _ i,n1,n2,DictOf.at' d1 λo q=>k da (by simp) o q,Rep.mono le _ _ r1,i2.at λo q=>k la (by simp) o q,RepL.mono le _ _ r2,
   DictOf.at' d2 λo q=>k na (by simp) o q,RepE.mono le _ _ r3⟩
theorem Own.live{c:Cx}{Z:FM}{h:Heap}{V:V}{v:Value}{as:List Addr}(x:Own c Z h V v as):∀a∈as,∃o,h.get? a=some o:=by
 intro b hb
 cases V with
 |d d=>rw[x.1] at hb;cases hb
 |ownL xs=>obtain⟨a,vs,e,rfl,⟨o,i⟩,r⟩:=x;simp at hb;subst hb;exact⟨_,i⟩
 |ownD es=>obtain⟨a,kvs,e,rfl,n,i,r⟩:=x;simp at hb;subst hb;exact DictOf.live i
 |ownDL es=>
  obtain⟨a,l,e,rfl,nd,n,i,r⟩:=x
  rcases mem_cons.mp hb with rfl|hb
  ·exact DictOf.live i
  ·exact RepDL.live _ _ r b hb
 |ownB u bs ns=>
  obtain⟨a,da,la,na,v₁,vs,kvs,e,rfl,nd,i,n1,n2,d1,r1,⟨o,i2⟩,r2,d2,r3⟩:=x
  simp at hb
  rcases hb with rfl|rfl|rfl|rfl
  ·exact⟨_,i⟩
  ·exact DictOf.live d1
  ·exact⟨_,i2⟩
  ·exact DictOf.live d2
def Dp(c:Cx)(Z P:FM)(a:Addr):Prop:=Z a=none/\P a=none/\a≠c.fa
def HoldsVar(env:Env)(h:Heap)(m:Str->Option Value)(P:FM)(k:Option NameKind)(x:Str)(v:Value):Prop:=match k with
 |some .local=>m x=some v
 |some .cell=>∃a,env.cells.lookup x=some a/\h.IsCell a (some v)
 |some .free=>∃a o,env.cells.lookup x=some a/\P a=some o/\o.data= .cell (some v)
 |_=>False
structure VarsAt (c:Cx)(env:Env)(ρ:Ev)(Z P:FM)(μ:Str->Option Value)(h:Heap)(m:Str->Option Value)(oa:Str->List Addr):Prop where
 ns:h.Ns env.locals m
 free:Dp c Z P env.locals
 cell:∀x,ρ.kind x=some .cell->∃a v,env.cells.lookup x=some a/\h.IsCell a v/\Dp c Z P a/\a≠env.locals
 cellInj:∀x y a,ρ.kind x=some .cell->ρ.kind y=some .cell->env.cells.lookup x=some a->env.cells.lookup y=some a->x=y
 var:∀x V,ρ.get x=some V->∃v,HoldsVar env h m P (ρ.kind x) x v/\Own c Z h V v (oa x)
 none:∀x,ρ.get x=none->oa x=[]
 own:∀x a,a∈oa x->Dp c Z P a/\a≠env.locals/\∀y b,ρ.kind y=some .cell->env.cells.lookup y=some b->a≠b
 ownInj:∀x y a,a∈oa x->a∈oa y->x=y
 mu:∀x v,μ x=some v->HoldsVar env h m P (ρ.kind x) x v
 cells:∀x a,env.cells.lookup x=some a->ρ.kind x=some .cell\/∃o,P a=some o
def JL:Option NameKind->Option NameKind->Prop
 |some .free,k=>k=some .free\/k=some .cell
 |k,k'=>k'=k
structure Rel (c:Cx)(env:Env)(ρ:Ev)(σ:St)(Z P:FM)(μ:Str->Option Value)(s:Shared):Prop where
 zh:∀a o,Z a=some o->s.heap.get? a=some o
 ph:∀a o,P a=some o->s.heap.get? a=some o
 zp:∀a o,Z a=some o->P a=none
 base:∀a o,c.h₀.get? a=some o->Z a=some o
 feed:FeedAt c Z s.heap σ
 feedFree:Z c.fa=none/\P c.fa=none
 gens:s.gens= #[]
 os:s.os=c.os
 kinds:∀x,JL (ρ.kind x) (env.kindOf x)
 fn:env.scope.kind= .function
 globals:env.globals=mainGlobals
 builtins:env.builtins=builtinsNs
 vars:∃m oa,VarsAt c env ρ Z P μ s.heap m oa
def BB(c:Cx)(Z:FM)(h:Heap):FM:=λa=>if a=c.fa then none else match Z a with
 |some _=>none
 |none=>h.get? a
theorem BX{c:Cx}{Z:FM}{h:Heap}{a:Addr}{o:Obj}(e:BB c Z h a=some o):a≠c.fa/\Z a=none/\h.get? a=some o:=by
 unfold BB at e
 split at e
 ·cases e
 ·rename_i hf
  split at e
  ·cases e
  ·rename_i hz;exact⟨hf,hz,e⟩
theorem Cp{c:Cx}{Z:FM}{h:Heap}{a:Addr}{o:Obj}(hf:a≠c.fa)(hz:Z a=none)(e:h.get? a=some o):BB c Z h a=some o:=by
 unfold BB;rw[if_neg hf,hz];exact e
section
variable {c:Cx}{env:Env}{ρ:Ev}{σ σ':St}{Z Z' P:FM}{μ:Str->Option Value}{s s':Shared}
theorem Rel.noZP(R:Rel c env ρ σ Z P μ s){a:Addr}{o:Obj}(e:P a=some o):Z a=none:=by
 cases q:Z a with
 |none=>rfl
 |some x=>rw[R.zp a x q] at e;cases e
theorem Rel.back(R:Rel c env ρ σ Z P μ s)(le:Z.le Z')(held:∀a o,Z' a=some o->s'.heap.get? a=some o)
 (keep:∀a o,a≠env.locals->BB c Z s.heap a=some o->s'.heap.get? a=some o) (ns:∀m,s.heap.Ns env.locals m->s'.heap.Ns env.locals m) (new:∀a o,Z' a=some o->BB c Z s.heap a=none)
 (fd:FeedAt c Z' s'.heap σ') (fz:Z' c.fa=none) (g:s'.gens= #[]) (os:s'.os=c.os):Rel c env ρ σ' Z' P μ s':=by
 obtain⟨m,oa,vs⟩:=R.vars
 have pp:∀a o,P a=some o->BB c Z s.heap a=some o:=λa o e=>Cp (λq=>by rw[q,R.feedFree.2] at e;cases e) (R.noZP e) (R.ph a o e)
 have fr:∀a o,Dp c Z P a->s.heap.get? a=some o->Dp c Z' P a/\(a≠env.locals->s'.heap.get? a=some o):=λa o f e=>by
  have q:=Cp (Z:=Z) f.2.2 f.1 e
  refine⟨⟨?_,f.2.1,f.2.2⟩,λn=>keep a o n q⟩
  cases z:Z' a with
  |none=>rfl
  |some x=>rw[new a x z] at q;cases q
 have zp':∀a o,Z' a=some o->P a=none:=λa o e=>by
  cases q:P a with
  |none=>rfl
  |some x=>have:=pp a x q;rw[new a o e] at this;cases this
 refine⟨held,λa o e=>keep a o (λq=>by obtain⟨m,oa,vs⟩:=R.vars;rw[q,vs.free.2.1] at e;cases e) (pp a o e),zp',λa o e=>le a o (R.base a o e),fd,⟨fz,R.feedFree.2⟩,g,os,R.kinds,R.fn,R.globals,R.builtins,m,oa,?_⟩
 obtain⟨oL,hL⟩:∃o,s.heap.get? env.locals=some o:=let⟨o,_,_,e,_⟩:=vs.ns;⟨o,e⟩
 have ownKeep:∀x a,a∈oa x->∀o,s.heap.get? a=some o->s'.heap.get? a=some o:=λx a ha o e=>(fr a o (vs.own x a ha).1 e).2 (vs.own x a ha).2.1
 have holds:∀x v,HoldsVar env s.heap m P (ρ.kind x) x v->HoldsVar env s'.heap m P (ρ.kind x) x v:=λx v hv=>by
  unfold HoldsVar at hv⊢
  split
  ·rename_i hk;rw[hk] at hv;exact hv
  ·rename_i hk
   rw[hk] at hv
   obtain⟨a,h1,⟨o,h2,h3⟩⟩:=hv
   obtain⟨a',v',h1',_,h3',h4'⟩:=vs.cell x hk
   rw[h1] at h1';cases h1'
   exact⟨a,h1,o,(fr a o h3' h2).2 h4',h3⟩
  ·rename_i hk;rw[hk] at hv;exact hv
  ·rename_i h1 h2 h3
   split at hv
   ·rename_i hk;exact absurd hk h1
   ·rename_i hk;exact absurd hk h2
   ·rename_i hk;exact absurd hk h3
   ·exact hv
 refine⟨ns m vs.ns,(fr _ _ vs.free hL).1,λx hx=> ?_,vs.cellInj,λx V hV=> ?_,vs.none,λx a ha=> ?_,vs.ownInj,λx v hv=>holds x v (vs.mu x v hv),vs.cells⟩
 ·obtain⟨a,v,h1,⟨o,ho,hd⟩,h3,h4⟩:=vs.cell x hx
  exact⟨a,v,h1,⟨o,(fr a o h3 ho).2 h4,hd⟩,(fr a o h3 ho).1,h4⟩
 ·obtain⟨v,hv,ho⟩:=vs.var x V hV
  exact⟨v,holds x v hv,ho.keep le (ownKeep x)⟩
 ·obtain⟨f,h2,h3⟩:=vs.own x a ha
  cases hV:ρ.get x with
  |none=>rw[vs.none x hV] at ha;cases ha
  |some V=>
   obtain⟨v,_,ho⟩:=vs.var x V hV
   obtain⟨o,e⟩:=ho.live a ha
   exact⟨(fr a o f e).1,h2,h3⟩
theorem Rel.ext(R:Rel c env ρ σ Z P μ s)(x:Ext env.locals Z s Z' s'):Rel c env ρ σ Z' P μ s':=by
 have live:∃o,s.heap.get? c.fa=some o:=let⟨_,_,_,d,_⟩:=R.feed;DictOf.live d
 have hfl:c.fa≠env.locals:=λq=>by obtain⟨m,oa,vs⟩:=R.vars;exact vs.free.2.2 q.symm
 refine R.back x.le x.held (λa o n e=>x.keep a o n (BX e).2.2) x.ns (λa o e=> ?_) (R.feed.keep x.le λo e=>x.keep _ o hfl e) ?_ (x.gens.trans R.gens) (x.os.trans R.os)
 ·cases q:BB c Z s.heap a with
  |none=>rfl
  |some y=>
   obtain⟨_,h2,h3⟩:=BX q
   rcases x.new a o e with h|h
   ·rw[h2] at h;cases h
   ·rw[h3] at h;cases h
 ·cases q:Z' c.fa with
  |none=>rfl
  |some y=>
   rcases x.new _ y q with h|h
   ·rw[R.feedFree.1] at h;cases h
   ·obtain⟨o,e⟩:=live;rw[e] at h;cases h
end
def Room(n:Nat)(A:Around):Prop:=A.handled=none/\A.depth+n<=900/\A.units+10*n<=9000
theorem Room.le{n k:Nat}{A:Around}(h:Room n A)(hk:k<=n):Room k A:=⟨h.1,by have:=h.2.1;omega,by have:=h.2.2;omega⟩
theorem Room.succ{n:Nat}{A:Around}(h:Room (n+1) A):Room n A:=h.le (le_succ n)
theorem Room.deeper{n:Nat}{A:Around}(h:Room (n+1) A)(env:Env):Room n (A.deeper env):=
 ⟨h.1,by have:=h.2.1;show A.depth+1+n<=900;omega,by have:=h.2.2;show A.units+3+10*n<=9000;omega⟩
theorem Room.un{n:Nat}{A:Around}(h:Room n A):A.units+65<cLine:=by have:=h.2.2;show A.units+65<9900;omega
theorem Room.dp{n:Nat}{A:Around}(h:Room n A):A.depth<recursionLimit:=by have:=h.2.1;show A.depth<1000;omega
structure At (L:Addr)(Z:FM)(s:Shared):Prop where
 held:∀a o,Z a=some o->s.heap.get? a=some o
 zL:Z L=none
 ns:∃m,s.heap.Ns L m
theorem Rel.at{c:Cx}{env:Env}{ρ:Ev}{σ:St}{Z P:FM}{μ:Str->Option Value}{s:Shared}(R:Rel c env ρ σ Z P μ s):At env.locals Z s:=
 let⟨_,_,v⟩:=R.vars;⟨R.zh,v.free.1,_,v.ns⟩
def BI(c:Cx)(A:Around)(L:Addr)(Z:FM)(s:Shared)(t:Sem Value)(d:D):Prop:=
 ∀(Q:Value->Shared->Prop) (E:Value->Shared->Prop),(∀v Z' s',Ext L Z s Z' s'->Rep c Z' d v->Q v s')->wpAny (model c.prog c.w) A t Q E s
def T4(c:Cx)(A:Around)(L:Addr)(Z:FM)(s:Shared)(t:Sem Bool)(b:Bool):Prop:=
 ∀(Q:Bool->Shared->Prop) (E:Value->Shared->Prop),(∀Z' s',Ext L Z s Z' s'->Q b s')->wpAny (model c.prog c.w) A t Q E s
section
variable {c:Cx}{A:Around}{L:Addr}{Z:FM}{s:Shared}
theorem A8(h:At L Z s)(k:Tok):Ext L Z s Z {s with toks:=k}:=Ext.same h.held (λ_ _ e=>e) rfl rfl
theorem A9(h:At L Z s):Ext L Z s Z s:=Ext.refl h.held
theorem N0(h:At L Z s){h':Heap}{k:Tok}{o:Obj}{m:Str->Option Value}(hm:s.heap.Ns L m)(F:Fr {} L h' m)(N:News {} L h' ((s.heap.objs.size,o)::led L s.heap)):
 Ext L Z s (Z.add s.heap.objs.size o) {s with heap:=h',toks:=k}:=
 Ext.oneL h.held h.zL (Ab _) (N _ (mem_cons_self ..)).1 (λa ob n e=>(N (a,ob) (mem_cons_of_mem _ (led_mem.mpr ⟨n,e⟩))).1)
  (λm' hm'=>by
   obtain⟨o1,es1,ep1,a1,b1,c1,d1⟩:=F.ns
   obtain⟨o2,es2,ep2,a2,b2,c2,d2⟩:=hm
   obtain⟨o3,es3,ep3,a3,b3,c3,d3⟩:=hm'
   rw[a2] at a3;cases a3
   rw[b2] at b3;cases b3
   exact⟨o1,es1,ep1,a1,b1,c1,λx=>(d1 x).trans ((d2 x).symm.trans (d3 x))⟩) rfl rfl
theorem Cr(h:At L Z s)(k:Tok){o:Obj}(hf:o.isFreed=false):Ext L Z s (Z.add s.heap.objs.size o) {s with heap:=s.heap.push o,toks:=k}:=
 Ext.one h.held (Ab _) (Heap.get?_push_size _ hf) (λ_ _ e=>Heap.get?_push_of_some _ e) rfl rfl
theorem TupAt.isTup(h:At L Z s){a:Addr}{vs:List Value}(x:TupAt Z a vs):IsTup s.heap a vs.toArray:=let⟨o,n,e,r,q⟩:=x;⟨o,h.held _ _ e,r,n,q⟩
theorem TupAt.isTuple(h:At L Z s){a:Addr}{vs:List Value}(x:TupAt Z a vs):s.heap.IsTuple a vs.toArray:=let⟨o,n,e,r,q⟩:=x;⟨o,h.held _ _ e,r,n,q⟩
theorem LstAt.isList(h:At L Z s){a:Addr}{vs:List Value}(x:LstAt Z a vs):s.heap.IsList a vs.toArray:=let⟨n,e⟩:=x;⟨_,h.held _ _ e,rfl,n,rfl⟩
theorem DctAt.dictOf(h:At L Z s){a:Addr}{kvs:List (Key×Value)}(x:DctAt c Z a kvs):s.heap.DictOf (AV c.prog c.w) a kvs:=
 let⟨_,o,e,r⟩:=x;Heap.dictOf_iff.mpr ⟨o,h.held _ _ e,r⟩
theorem DT(Z:FM)(a:Addr)(vs:List Value):TupAt (Z.add a {cls:= .type "tuple",data:= .seq vs.toArray}) a vs:=⟨_,0,FM.add_self ..,rfl,rfl⟩
theorem HD(Z:FM)(a:Addr)(vs:List Value):LstAt (Z.add a {cls:= .type "list",data:= .seq vs.toArray}) a vs:=⟨0,FM.add_self ..⟩
theorem RepL.length:∀(ds:List D)(vs:List Value),RepL c Z ds vs->vs.length=ds.length
 |[],vs,x=>by rw[RepL] at x;subst x;rfl
 |d::ds,vs,x=>by rw[RepL] at x;obtain⟨v,r,rfl,_,z⟩:=x;simp[RepL.length ds r z]
theorem RepL.append:∀(ds:List D)(vs:List Value){es:List D}{us:List Value},RepL c Z ds vs->RepL c Z es us->RepL c Z (ds++es) (vs++us)
 |[],vs,_,_,x,y=>by rw[RepL] at x;subst x;exact y
 |d::ds,vs,es,us,x,y=>by
  rw[RepL] at x;obtain⟨v,r,rfl,h,z⟩:=x
  rw[cons_append,cons_append,RepL]
  exact⟨v,_,rfl,h,RepL.append ds r z y⟩
theorem RepL.get:∀(ds:List D)(vs:List Value),RepL c Z ds vs->∀(i:Nat)(d:D),ds[i]? =some d->∃v,vs[i]? =some v/\Rep c Z d v
 |[],vs,_,i,d,h=>by simp at h
 |e::ds,vs,x,i,d,h=>by
  rw[RepL] at x;obtain⟨v,r,rfl,hv,z⟩:=x
  cases i with
  |zero=>simp at h;subst h;exact⟨v,rfl,hv⟩
  |succ i=>simpa using RepL.get ds r z i d (by simpa using h)
theorem RepL.snoc{ds:List D}{vs:List Value}{d:D}{v:Value}(x:RepL c Z ds vs)(y:Rep c Z d v):RepL c Z (ds++[d]) (vs++[v]):=
 RepL.append _ _ x (by rw[RepL];exact⟨v,[],rfl,y,by rw[RepL]⟩)
theorem RepL.nil:RepL c Z [] []:=by rw[RepL]
theorem RepL.cons{ds:List D}{vs:List Value}{d:D}{v:Value}(y:Rep c Z d v)(x:RepL c Z ds vs):RepL c Z (d::ds) (v::vs):=by rw[RepL];exact⟨v,vs,rfl,y,x⟩
theorem RepL.drop:∀(ds:List D)(vs:List Value)(k:Nat),RepL c Z ds vs->RepL c Z (ds.drop k) (vs.drop k)
 |ds,vs,0,x=>by simpa using x
 |[],vs,k+1,x=>by rw[RepL] at x;subst x;simpa using RepL.nil
 |d::ds,vs,k+1,x=>by rw[RepL] at x;obtain⟨v,r,rfl,_,z⟩:=x;simpa using RepL.drop ds r k z
theorem RepL.take:∀(ds:List D)(vs:List Value)(k:Nat),RepL c Z ds vs->RepL c Z (ds.take k) (vs.take k)
 |ds,vs,0,x=>by simpa using RepL.nil
 |[],vs,k+1,x=>by rw[RepL] at x;subst x;simpa using RepL.nil
 |d::ds,vs,k+1,x=>by rw[RepL] at x;obtain⟨v,r,rfl,h,z⟩:=x;simpa using RepL.cons h (RepL.take ds r k z)
theorem RepL.reverse:∀(ds:List D)(vs:List Value),RepL c Z ds vs->RepL c Z ds.reverse vs.reverse
 |[],vs,x=>by rw[RepL] at x;subst x;exact RepL.nil
 |d::ds,vs,x=>by rw[RepL] at x;obtain⟨v,r,rfl,h,z⟩:=x;simpa using RepL.snoc (RepL.reverse ds r z) h
theorem DU{i:Int}:AZ i=true↔-(2^62)<i/\i<2^62:=by simp[AZ]
theorem BW(i:Int)(t:Tok):Rep c Z (.int i) (.int i t):=by rw[Rep];exact⟨t,rfl⟩
theorem A2(b:Bool):Rep c Z (.bool b) (.bool b):=by rw[Rep]
theorem ER(x:Str)(t:Tok):Rep c Z (.str x) (.str x t):=by rw[Rep];exact⟨t,rfl⟩
theorem GL:Rep c Z .none .none:=by rw[Rep]
theorem CJ{xs:List D}{a:Addr}{vs:List Value}(t:TupAt Z a vs)(r:RepL c Z xs vs):Rep c Z (.tup xs) (.ref a):=by rw[Rep];exact⟨a,vs,rfl,t,r⟩
theorem CD{xs:List D}{a:Addr}{vs:List Value}(t:LstAt Z a vs)(r:RepL c Z xs vs):Rep c Z (.list xs) (.ref a):=by rw[Rep];exact⟨a,vs,rfl,t,r⟩
theorem Lg(h:At L Z s){ds:List D}{vs:List Value}(r:RepL c Z ds vs)(hz:ds.length<=200000):BI c A L Z s (newTuple vs) (.tup ds):=λQ E k=>by
 have hl:=RepL.length _ _ r
 refine wpAny_newObj_type (k _ _ _ (Cr h s.toks rfl) ?_) (by show vs.toArray.size<=sizeLine;rw[size_toArray,sizeLine_eq];omega)
 exact CJ (DT ..) (RepL.mono (Cr h s.toks rfl).le _ _ r)
theorem Mx(h:At L Z s){ds:List D}{vs:List Value}(r:RepL c Z ds vs)(hz:ds.length<=200000):BI c A L Z s (newList vs) (.list ds):=λQ E k=>by
 have hl:=RepL.length _ _ r
 refine wpAny_newObj_type (k _ _ _ (Cr h s.toks rfl) ?_) (by show vs.toArray.size<=sizeLine;rw[size_toArray,sizeLine_eq];omega)
 exact CD (HD ..) (RepL.mono (Cr h s.toks rfl).le _ _ r)
theorem NT(h:At L Z s){xs ys:List D}{va vb:Value}(ra:Rep c Z (.tup xs) va)(rb:Rep c Z (.tup ys) vb)(hz:xs.length+ys.length<=100000):BI c A L Z s (binaryOp .Add va vb) (.tup (xs++ys)):=λQ E k=>by
 rw[Rep] at ra rb
 obtain⟨a,vs,rfl,ta,la⟩:=ra
 obtain⟨b,us,rfl,tb,lb⟩:=rb
 have e1:=RepL.length _ _ la
 have e2:=RepL.length _ _ lb
 obtain⟨m,hm⟩:=h.ns
 refine add_tuples (HF hm) (E1 L s.heap) (ta.isTup h) (tb.isTup h) (λe=> ?_) (λ_ e=> ?_) (λ_ _ h' F N=> ?_) (by rw[sizeLine_eq];omega)
 ·refine k _ _ _ (A9 h) ?_
  have:xs=[]:=List.eq_nil_of_length_eq_zero (by rw[<-e1,e];rfl)
  subst this;exact CJ tb lb
 ·refine k _ _ _ (A9 h) ?_
  have:ys=[]:=List.eq_nil_of_length_eq_zero (by rw[<-e2,e];rfl)
  subst this;rw[append_nil];exact CJ ta la
 ·have x:=N0 h (k:=s.toks) hm F N
  exact k _ _ _ x (CJ (DT ..) (RepL.mono x.le _ _ (RepL.append _ _ la lb)))
theorem MV(h:At L Z s){xs ys:List D}{va vb:Value}(ra:Rep c Z (.list xs) va)(rb:Rep c Z (.list ys) vb)(hz:xs.length+ys.length<=100000):BI c A L Z s (binaryOp .Add va vb) (.list (xs++ys)):=λQ E k=>by
 rw[Rep] at ra rb
 obtain⟨a,vs,rfl,ta,la⟩:=ra
 obtain⟨b,us,rfl,tb,lb⟩:=rb
 have e1:=RepL.length _ _ la
 have e2:=RepL.length _ _ lb
 obtain⟨m,hm⟩:=h.ns
 refine add_lists (HF hm) (E1 L s.heap) (ta.isList h) (tb.isList h) (λh' F N=> ?_) (by rw[sizeLine_eq];omega)
 have x:=N0 h (k:=s.toks) hm F N
 exact k _ _ _ x (CD (HD ..) (RepL.mono x.le _ _ (RepL.append _ _ la lb)))
end
section
open Builtin
theorem G8:fillsNumberSlot (.type "tuple") "mul" =pure false:=
 PySem.fillsNumberSlot_seq (id:= "tuple.__mul__") (r:=some (.builtin "tuple.__rmul__")) F.slot_tuple_mul.lookup (by decide+kernel) F.slot_tuple_rmul.lookup (by decide+kernel)
theorem Kb:seqRepeat? (.type "tuple")=pure (some (.builtin "tuple.__mul__")):=by
 unfold seqRepeat?
 rw[PySem.seqSlot_of (T:= "tuple") (name:= "__mul__") (id:= "tuple.__mul__") F.slot_tuple_mul.lookup (by decide+kernel),PySem.seqSlot_of (T:= "tuple") (name:= "__rmul__") (id:= "tuple.__rmul__") F.slot_tuple_rmul.lookup (by decide+kernel)]
 rfl
theorem Iq(a:Int)(t:Tok)(l:Addr)(items:Array Value)(n:Nat)(d:Option Addr)(sl:Array (Option Value)):
 Meets (Builtin.«int.__rmul__» ⟨[.int a t,.ref l],[]⟩) (λ_ R s=>s.heap.get? l=some {cls:= .type "tuple",dict:=d,data:= .seq items n,slots:=sl}/\R (.ok (.ret Value.notImplemented)) s):=
 .of_wp λprog w A R s h=>by obtain⟨hp,g,d,tk,os⟩:=s;obtain⟨hl,h⟩:=h;wp_walk;exact⟨_,rfl,h⟩
theorem JT(l:Addr)(v:Value)(n:Nat)(d:Option Addr)(sl:Array (Option Value))(u:Tok):
 Meets (Builtin.«tuple.__mul__» ⟨[.ref l,.int 1 u],[]⟩) (λ_ R s=>s.heap.get? l=some {cls:= .type "tuple",dict:=d,data:= .seq #[v] n,slots:=sl}/\R (.ok (.ret (Value.ref l))) s):=
 .of_wp λprog w A R s h=>by
  obtain⟨hp,g,d,tk,os⟩:=s;obtain⟨hl,h⟩:=h
  wp_walk;exact⟨_,rfl,h⟩
theorem JS(l:Addr)(v:Value)(n:Nat)(d:Option Addr)(sl:Array (Option Value))(u:Tok):
 Meets (Builtin.«tuple.__mul__» ⟨[.ref l,.int 2 u],[]⟩) (λ_ R s=>s.heap.get? l=some {cls:= .type "tuple",dict:=d,data:= .seq #[v] n,slots:=sl}/\R (.ok (.ret (Value.ref s.heap.objs.size))) {s with heap:=s.heap.push {cls:= .type "tuple",data:= .seq #[v,v]}}):=
 .of_wp λprog w A R s h=>by
  obtain⟨hp,g,d,tk,os⟩:=s;obtain⟨hl,h⟩:=h
  wp_walk;exact⟨_,rfl,h⟩
section
variable {c:Cx}{A:Around}{L:Addr}{Z:FM}{s:Shared}
theorem Mz(h:At L Z s){x:D}{b:Int}{va vb:Value}(ra:Rep c Z (.tup [x]) va)(rb:Rep c Z (.int b) vb)(h0:0<b)(h2:b<=2):BI c A L Z s (binaryOp .Mult va vb) (.tup (Me [x] b.toNat)):=λQ E k=>by
 rw[Rep] at ra
 rw[Rep] at rb
 obtain⟨a,vs,rfl,ta,la⟩:=ra
 obtain⟨t,rfl⟩:=rb
 rw[RepL] at la
 obtain⟨v,r,rfl,rv,rr⟩:=la
 rw[RepL] at rr
 subst rr
 obtain⟨⟨cls,d,data,sl⟩,ho,hcl,n,hd⟩:=id (ta.isTup h)
 simp only at hcl hd
 subst hcl hd
 have hb:b=1\/b=2:=by omega
 refine wpAny_binaryOp_repeat_ref (T:= "tuple") (U:= "int") (by decide) ⟨_,ho,rfl⟩ (λs'=>typeIs_int s' b t) G8 F.fills_int_mul F.slot_int_rmul Kb F.slot_int_index.lookup
  (call_meets F.slot_int_rmul (typeIs_int s b t) F.entry_int_rmul (F.args_int_rmul_2 _ _) (Iq b t a [v].toArray n d sl) ⟨ho,rfl,⟨_,ho,rfl⟩,?_⟩)
 rcases hb with rfl|rfl
 ·refine call_meets F.slot_tuple_mul ⟨_,ho,rfl⟩ F.entry_tuple_mul (F.args_tuple_mul_2 _ _) (JT a v n d sl t) ⟨ho,k _ _ _ (A9 h) ?_⟩
  exact CJ ta (RepL.cons rv RepL.nil)
 ·refine call_meets F.slot_tuple_mul ⟨_,ho,rfl⟩ F.entry_tuple_mul (F.args_tuple_mul_2 _ _) (JS a v n d sl t) ⟨ho,k _ _ _ (Cr h s.toks rfl) ?_⟩
  exact CJ (DT Z _ [v,v]) (RepL.mono (Cr h s.toks rfl).le _ _ (RepL.cons rv (RepL.cons rv RepL.nil)))
theorem QU(h:At L Z s){op:Operator}{a b d:D}{va vb:Value}(ra:Rep c Z a va)(rb:Rep c Z b vb)(e:CN op a b=some d):BI c A L Z s (binaryOp op va vb) d:=by
 unfold CN at e
 split at e
 ·split at e
  ·cases e;intro Q E k;rw[Rep] at ra rb;obtain⟨t,rfl⟩:=ra;obtain⟨u,rfl⟩:=rb
   exact wpAny_add_int (k _ _ _ (A8 h _) (BW _ _))
  ·cases e
 ·split at e
  ·cases e;exact NT h ra rb (by assumption)
  ·cases e
 ·split at e
  ·cases e;exact MV h ra rb (by assumption)
  ·cases e
 ·split at e
  ·cases e;intro Q E k;rw[Rep] at ra rb;obtain⟨t,rfl⟩:=ra;obtain⟨u,rfl⟩:=rb
   exact sub_int' (k _ _ _ (A8 h _) (BW _ _))
  ·cases e
 ·split at e
  ·rename_i hs
   cases e;intro Q E k;rw[Rep] at ra rb;obtain⟨t,rfl⟩:=ra;obtain⟨u,rfl⟩:=rb
   rw[and_eq_true,DU,DU] at hs
   exact PyProof.Rows.mul_int (k _ _ _ (A8 h _) (BW _ _)) (IntMulOk.of_left (intBits_le_64 (by omega) (by omega)))
  ·cases e
 ·split at e
  ·rename_i xs b' hs
   cases e
   simp only[and_eq_true,decide_eq_true_eq] at hs
   obtain⟨⟨h1,h2⟩,h3⟩:=hs
   obtain⟨x,rfl⟩:=List.length_eq_one_iff.mp h3
   exact Mz h ra rb h1 h2
  ·cases e
 ·split at e
  ·rename_i hs
   cases e;intro Q E k;rw[Rep] at ra rb;obtain⟨t,rfl⟩:=ra;obtain⟨u,rfl⟩:=rb
   simp only[and_eq_true,decide_eq_true_eq] at hs
   refine mod_int' (by omega) (k _ _ _ (A8 h _) ?_)
   rw[Int.fmod_eq_emod_of_nonneg _ (by omega)];exact BW _ _
  ·cases e
 ·split at e
  ·rename_i hs
   cases e;intro Q E k;rw[Rep] at ra rb;obtain⟨t,rfl⟩:=ra;obtain⟨u,rfl⟩:=rb
   simp only[and_eq_true,decide_eq_true_eq] at hs
   refine floordiv_int (by omega) (k _ _ _ (A8 h _) ?_) (.inl (PyProof.noPylong_small (by omega)))
   rw[Int.fdiv_eq_ediv_of_nonneg _ (by omega)];exact BW _ _
  ·cases e
 ·split at e
  ·rename_i hs
   cases e;intro Q E k;rw[Rep] at ra rb;obtain⟨t,rfl⟩:=ra;obtain⟨u,rfl⟩:=rb
   simp only[and_eq_true,decide_eq_true_eq] at hs
   obtain⟨⟨h1,h2⟩,h3⟩:=hs
   subst h1
   exact pow_int_small h2 (by omega) (by decide) (k _ _ _ (A8 h _) (BW _ _))
  ·cases e
 ·cases e
end
end
mutual
def CT:D->PyData
 | .none=> .none
 | .int i=> .int i
 | .str x=> .str x
 | .tup xs=> .tuple (Ci xs)
 | .list xs=> .list (Ci xs)
 |_=> .none
def Ci:List D->List PyData
 |[]=>[]
 |d::ds=>CT d::Ci ds
end
theorem Ke:∀(n:Nat)(d:D),d.ok n=true->(CT d).canLay0=true/\(CT d).depth<=n:=by
 have all:∀(n:Nat),(∀d:D,d.ok n=true->(CT d).canLay0=true/\(CT d).depth<=n)->∀ds:List D,(∀d∈ds,d.ok n=true)->PyData.canLayAll0 (Ci ds)=true/\PyData.depthAll (Ci ds)<=n:=by
  intro n ih ds
  induction ds with
  |nil=>intro _;simp[Ci,PyData.canLayAll0,PyData.depthAll]
  |cons d ds hi=>
   intro h
   have h1:=ih d (h d (.head _))
   have h2:=hi λe he=>h e (.tail _ he)
   simp only[Ci,PyData.canLayAll0,PyData.depthAll,h1.1,h2.1,Bool.and_self,true_and]
   have a1:=h1.2
   have a2:=h2.2
   omega
 intro n
 induction n with
 |zero=>intro d h;cases d<;>simp_all[D.ok,CT,PyData.canLay0,PyData.depth]
 |succ n ih=>
  intro d h
  cases d with
  |tup ds=>
   have q:=all n ih ds (by simpa[D.ok] using h)
   have q2:=q.2
   simp only[CT,PyData.canLay0,PyData.depth,q.1,true_and]
   omega
  |list ds=>
   have q:=all n ih ds (by simpa[D.ok] using h)
   have q2:=q.2
   simp only[CT,PyData.canLay0,PyData.depth,q.1,true_and]
   omega
  |_=>simp_all[D.ok,CT,PyData.canLay0,PyData.depth]
theorem Jr{n:Nat}{ds:List D}(h:∀d∈ds,d.ok n=true):PyData.canLayAll0 (Ci ds)=true/\PyData.depthAll (Ci ds)<=n:=by
 have l:=Ke (n+1) (.list ds) (by simpa[D.ok] using h)
 simp only[CT,PyData.canLay0,PyData.depth] at l
 have:=l.2
 exact⟨l.1,by omega⟩
theorem Er{e:D}{k:Nat}(h:e.ok k=true):e= .none\/(∃i,e= .int i)\/(∃x,e= .str x)\/(∃xs,e= .tup xs)\/∃xs,e= .list xs:=by
 cases e with
 |none=>exact .inl rfl
 |int i=>exact .inr (.inl ⟨i,rfl⟩)
 |str x=>exact .inr (.inr (.inl ⟨x,rfl⟩))
 |tup xs=>exact .inr (.inr (.inr (.inl ⟨xs,rfl⟩)))
 |list xs=>exact .inr (.inr (.inr (.inr ⟨xs,rfl⟩)))
 |_=>cases k<;>simp[D.ok] at h
theorem Kv:∀(n:Nat)(d e:D)(k:Nat),d.ok n=true->e.ok k=true->PyData.eqv (CT d) (CT e)=D.beq d e:=by
 have all:∀(n:Nat),(∀(d e:D) (k:Nat),d.ok n=true->e.ok k=true->PyData.eqv (CT d) (CT e)=D.beq d e)->∀(k:Nat) (ds es:List D),(∀d∈ds,d.ok n=true)->(∀d∈es,d.ok k=true)->
  PyData.eqvAll (Ci ds) (Ci es)=D.beqL ds es:=by
  intro n ih k ds
  induction ds with
  |nil=>intro es _ _;cases es<;>simp[Ci,PyData.eqvAll,D.beqL]
  |cons d ds hi=>
   intro es h1 h2
   cases es with
   |nil=>simp[Ci,PyData.eqvAll,D.beqL]
   |cons e es=>
    have q1:=ih d e k (h1 d (.head _)) (h2 e (.head _))
    have q2:=hi es (λx hx=>h1 x (.tail _ hx)) λx hx=>h2 x (.tail _ hx)
    simp only[Ci,PyData.eqvAll,q1,q2,D.beqL]
 have flat:∀(d e:D) (k:Nat),(d= .none\/(∃i,d= .int i)\/∃x,d= .str x)->e.ok k=true->PyData.eqv (CT d) (CT e)=D.beq d e:=by
  intro d e k hd he
  rcases Er he with rfl|⟨j,rfl⟩|⟨y,rfl⟩|⟨ys,rfl⟩|⟨ys,rfl⟩<;>rcases hd with rfl|⟨i,rfl⟩|⟨x,rfl⟩<;>simp only[CT,PyData.eqv,D.beq]<;>rfl
 intro n
 induction n with
 |zero=>
  intro d e k h1 h2
  refine flat d e k ?_ h2
  rcases Er h1 with rfl|⟨j,rfl⟩|⟨y,rfl⟩|⟨ys,rfl⟩|⟨ys,rfl⟩
  ·exact .inl rfl
  ·exact .inr (.inl ⟨j,rfl⟩)
  ·exact .inr (.inr ⟨y,rfl⟩)
  ·simp[D.ok] at h1
  ·simp[D.ok] at h1
 |succ n ih=>
  intro d e k h1 h2
  rcases Er h1 with rfl|⟨j,rfl⟩|⟨y,rfl⟩|⟨ds,rfl⟩|⟨ds,rfl⟩
  ·exact flat _ e k (.inl rfl) h2
  ·exact flat _ e k (.inr (.inl ⟨j,rfl⟩)) h2
  ·exact flat _ e k (.inr (.inr ⟨y,rfl⟩)) h2
  ·rcases Er h2 with rfl|⟨j,rfl⟩|⟨y,rfl⟩|⟨es,rfl⟩|⟨es,rfl⟩
   ·simp only[CT,PyData.eqv,D.beq]
   ·simp only[CT,PyData.eqv,D.beq]
   ·simp only[CT,PyData.eqv,D.beq]
   ·cases k with
    |zero=>simp[D.ok] at h2
    |succ k=>
     simp only[CT,PyData.eqv,D.beq]
     exact all n ih k ds es (by simpa[D.ok] using h1) (by simpa[D.ok] using h2)
   ·simp only[CT,PyData.eqv,D.beq]
  ·rcases Er h2 with rfl|⟨j,rfl⟩|⟨y,rfl⟩|⟨es,rfl⟩|⟨es,rfl⟩
   ·simp only[CT,PyData.eqv,D.beq]
   ·simp only[CT,PyData.eqv,D.beq]
   ·simp only[CT,PyData.eqv,D.beq]
   ·simp only[CT,PyData.eqv,D.beq]
   ·cases k with
    |zero=>simp[D.ok] at h2
    |succ k=>
     simp only[CT,PyData.eqv,D.beq]
     exact all n ih k ds es (by simpa[D.ok] using h1) (by simpa[D.ok] using h2)
theorem K4(d:D)(k:Nat)(hd:d.ok k=true):∀(ds:List D),(∀e∈ds,e.ok 20=true)->((Ci ds).any λy=>PyData.eqv y (CT d))=Cl d ds
 |[],_=>by simp[Ci,Cl]
 |e::ds,h=>by
  have q:=K4 d k hd ds (λx hx=>h x (.tail _ hx))
  have q1:=Kv 20 e d k (h e (.head _)) hd
  simp only[Ci,any_cons,q,q1,Cl]
section
variable {c:Cx}{A:Around}{L:Addr}{Z:FM}{s:Shared}
mutual
theorem CK(h:At L Z s):∀(n:Nat)(d:D)(v:Value),d.ok n=true->Rep c Z d v->∃as,Reads s.heap v (CT d) as
 |_,.none,v,_,r=>by rw[Rep] at r;subst r;exact⟨_,Reads.none⟩
 |_,.int i,v,_,r=>by rw[Rep] at r;obtain⟨t,rfl⟩:=r;exact⟨_,Reads.int i t⟩
 |_,.str x,v,_,r=>by rw[Rep] at r;obtain⟨t,rfl⟩:=r;exact⟨_,Reads.str x t⟩
 |n+1,.tup xs,v,k,r=>by
  rw[Rep] at r;obtain⟨a,vs,rfl,⟨o,e,ho,hc,hd⟩,l⟩:=r
  obtain⟨as,q⟩:=Fq h n xs vs (by simpa[D.ok] using k) l
  exact⟨_,reads_tuple_at (h.held _ _ ho) hc hd (by simpa using q)⟩
 |n+1,.list xs,v,k,r=>by
  rw[Rep] at r;obtain⟨a,vs,rfl,⟨e,ho⟩,l⟩:=r
  obtain⟨as,q⟩:=Fq h n xs vs (by simpa[D.ok] using k) l
  exact⟨_,reads_list_at (h.held _ _ ho) rfl rfl (by simpa using q)⟩
 |0,.tup xs,v,k,r=>by simp[D.ok] at k
 |0,.list xs,v,k,r=>by simp[D.ok] at k
 |n,.bool b,v,k,r=>by cases n<;>simp[D.ok] at k
 |n,.dict b,v,k,r=>by cases n<;>simp[D.ok] at k
 |n,.dictT b,v,k,r=>by cases n<;>simp[D.ok] at k
 |n,.range a b,v,k,r=>by cases n<;>simp[D.ok] at k
 |n,.univ a b,v,k,r=>by cases n<;>simp[D.ok] at k
 |n,.bnds u a b,v,k,r=>by cases n<;>simp[D.ok] at k
 |n,.feed,v,k,r=>by cases n<;>simp[D.ok] at k
theorem Fq(h:At L Z s):∀(n:Nat)(ds:List D)(vs:List Value),(∀d∈ds,d.ok n=true)->RepL c Z ds vs->∃as,ReadsAll s.heap vs (Ci ds) as
 |_,[],vs,_,r=>by rw[RepL] at r;subst r;exact⟨_,ReadsAll.nil⟩
 |n,d::ds,vs,k,r=>by
  rw[RepL] at r;obtain⟨v,r',rfl,x,y⟩:=r
  obtain⟨as,q⟩:=CK h n d v (k d (.head _)) x
  obtain⟨bs,p⟩:=Fq h n ds r' (λe he=>k e (.tail _ he)) y
  exact⟨_,ReadsAll.cons q p⟩
end
theorem FE{n:Nat}{d:D}(h:d.ok n=true)(hn:n<=60):SeqAt.shaped (CT d)=true:=by
 have l:=Ke n d h
 unfold SeqAt.shaped;rw[l.1,Bool.true_and];exact decide_eq_true (by have:=l.2;omega)
theorem Tr(h:At L Z s){n:Nat}(rm:Room n A){a b:D}{r:Bool}{va vb:Value}(ra:Rep c Z a va)(rb:Rep c Z b vb)(e:PF a b=some r):BI c A L Z s (compareOp .Eq va vb) (.bool r):=by
 unfold PF at e
 have hu:=rm.un
 split at e
 ·cases e;intro Q E k;rw[Rep] at ra rb;subst ra rb
  exact PyProof.Rows.eq_bool (k _ _ _ (A9 h) (A2 _))
 ·split at e
  ·rename_i hab
   cases e
   simp only[and_eq_true] at hab
   intro Q E k
   obtain⟨as,pa⟩:=CK h 20 a va hab.1 ra
   obtain⟨bs,pb⟩:=CK h 20 b vb hab.2 rb
   refine eq_dataH pa pb (FE hab.1 (by decide)) (FE hab.2 (by decide)) (by omega) ?_
   rw[Kv 20 a b 20 hab.1 hab.2]
   exact k _ _ _ (A9 h) (A2 _)
  ·cases e
theorem Tc(h:At L Z s){n:Nat}(rm:Room n A){a b:D}{r:Bool}{va vb:Value}(ra:Rep c Z a va)(rb:Rep c Z b vb)(e:PF a b=some r):BI c A L Z s (compareOp .NotEq va vb) (.bool (!r)):=by
 unfold PF at e
 have hu:=rm.un
 split at e
 ·cases e;intro Q E k;rw[Rep] at ra rb;subst ra rb
  exact PyProof.Rows.ne_bool (by rename_i x y;have:=k _ _ _ (A9 h) (A2 (!(x==y)));cases x<;>cases y<;>exact this)
 ·split at e
  ·rename_i hab
   cases e
   simp only[and_eq_true] at hab
   intro Q E k
   obtain⟨as,pa⟩:=CK h 20 a va hab.1 ra
   obtain⟨bs,pb⟩:=CK h 20 b vb hab.2 rb
   refine ne_dataH pa pb (FE hab.1 (by decide)) (FE hab.2 (by decide)) (by omega) ?_
   rw[Kv 20 a b 20 hab.1 hab.2]
   exact k _ _ _ (A9 h) (A2 _)
  ·cases e
end
section
variable {c:Cx}{A:Around}{L:Addr}{Z:FM}{s:Shared}
theorem Cq{d:D}{k:Key}{v:Value}(r:Rep c Z d v)(e:EA d=some k):Key.is k v=true:=by
 cases d<;>simp only[EA,Option.some.injEq,reduceCtorEq] at e
 ·subst e;rw[Rep] at r;obtain⟨t,rfl⟩:=r;simp[Key.is,Value.isInt]
 ·subst e;rw[Rep] at r;obtain⟨t,rfl⟩:=r;simp[Key.is,Value.isStrOf]
theorem RepE.at(k:Key):∀(es:List (Key×D))(kvs:List (Key×Value)),RepE c Z es kvs->(Af k es=none/\valueAt kvs k=none)\/∃d v,Af k es=some d/\valueAt kvs k=some v/\Rep c Z d v
 |[],kvs,x=>by rw[RepE] at x;subst x;exact .inl ⟨rfl,rfl⟩
 |(k',d)::r,kvs,x=>by
  rw[RepE] at x
  obtain⟨v,r',rfl,hv,z⟩:=x
  by_cases h:k'=k
  ·exact .inr ⟨d,v,by simp[Af,h],by simp[valueAt,h],hv⟩
  ·rcases RepE.at k r r' z with ⟨h1,h2⟩|⟨d',v',h1,h2,h3⟩
   ·exact .inl ⟨by simp[Af,h,h1],by simpa[valueAt,h] using h2⟩
   ·exact .inr ⟨d',v',by simp[Af,h,h1],by simpa[valueAt,h] using h2,h3⟩
theorem RepE.keys:∀(es:List (Key×D))(kvs:List (Key×Value)),RepE c Z es kvs->kvs.map (·.1)=es.map (·.1)
 |[],kvs,x=>by rw[RepE] at x;subst x;rfl
 |(k',d)::r,kvs,x=>by
  rw[RepE] at x
  obtain⟨v,r',rfl,hv,z⟩:=x
  simp[RepE.keys r r' z]
theorem RepE.length(es:List (Key×D))(kvs:List (Key×Value))(x:RepE c Z es kvs):kvs.length=es.length:=by
 have:=congrArg List.length (RepE.keys es kvs x)
 simpa using this
theorem RepE.nil:RepE c Z [] []:=by rw[RepE]
theorem RepE.cons{k:Key}{d:D}{v:Value}{es:List (Key×D)}{kvs:List (Key×Value)}(x:Rep c Z d v)(y:RepE c Z es kvs):RepE c Z ((k,d)::es) ((k,v)::kvs):=by rw[RepE];exact⟨v,kvs,rfl,x,y⟩
theorem LJ{K:Type} [DecidableEq K](k':K)(v':Value)(r:List (K×Value))(k:K)(v:Value)(hn:k'∉r.map (·.1)):stored ((k',v')::r) k v=if k'=k then(k',v)::r else(k',v')::stored r k v:=by
 unfold stored
 by_cases h:k'=k
 ·subst h
  simp only[any_cons,decide_true,Bool.true_or,if_true,map_cons,if_true]
  rw[map_store_of_not_mem r k' v hn]
 ·simp only[any_cons,decide_eq_false h,Bool.false_or,if_neg h,map_cons]
  split<;>simp
theorem RepE.put{k:Key}{d:D}{v:Value}(hv:Rep c Z d v):∀(es:List (Key×D))(kvs:List (Key×Value)),RepE c Z es kvs->(kvs.map (·.1)).Nodup->RepE c Z (B9 k d es) (stored kvs k v)
 |[],kvs,x,_=>by rw[RepE] at x;subst x;exact RepE.cons hv RepE.nil
 |(k',d')::r,kvs,x,n=>by
  rw[RepE] at x
  obtain⟨v',r',rfl,hv',z⟩:=x
  rw[map_cons,nodup_cons] at n
  rw[LJ _ _ _ _ _ n.1,B9]
  split
  ·rename_i h;subst h;exact RepE.cons hv z
  ·exact RepE.cons hv' (RepE.put hv r r' z n.2)
theorem Cc{a:Addr}(h:a≠sysModules):(a==sysModules)=false:=by simpa using h
theorem L5:∀(xs:List D)(vs:List Value)(ks:List Int),E2 xs=some ks->RepL c Z xs vs->IntsAre vs ks
 |[],vs,ks,e,r=>by rw[RepL] at r;subst r;simp[E2] at e;subst e;exact .nil
 |d::ds,vs,ks,e,r=>by
  rw[RepL] at r;obtain⟨v,r',rfl,hv,z⟩:=r
  cases d<;>simp only[E2,reduceCtorEq] at e
  rw[map_eq_some_iff] at e
  obtain⟨ks',e,rfl⟩:=e
  rw[Rep] at hv;obtain⟨t,rfl⟩:=hv
  exact .cons _ _ (L5 ds r' ks' e z)
theorem EC{prog:Program}{w:World}:∀{vs:List Value}{ks:List Int},IntsAre vs ks->ItemsAre (intKind prog w) ks vs
 |_,_,.nil=> .nil
 |_,_,.cons n t h=> .cons (by simp[intKind,Value.isInt]) (EC h)
theorem GG{d:D}{k:List Int}{v:Value}(r:Rep c Z d v)(e:EP d=some k):∃a,v= .ref a/\TKey Z k a:=by
 cases d<;>simp only[EP,reduceCtorEq] at e
 rw[Rep] at r
 obtain⟨a,vs,rfl,t,l⟩:=r
 exact⟨a,rfl,vs,t,L5 _ _ _ e l⟩
theorem TKey.is(h:At L Z s){prog:Program}{w:World}{k:List Int}{a:Addr}(x:TKey Z k a):IsTupleKey (intKind prog w) s.heap k a:=
 let⟨vs,⟨o,n,e,hc,hd⟩,i⟩:=x;⟨o,vs.toArray,n,h.held _ _ e,hc,hd,by simpa using EC i⟩
theorem Pe{k:List Int}{a:Addr}(x:TKey Z k a):Rep c Z (AD k) (.ref a):=by
 obtain⟨vs,t,i⟩:=x
 refine CJ t ?_
 clear t
 induction i with
 |nil=>exact RepL.nil
 |cons n t _ ih=>exact RepL.cons (BW _ _) ih
theorem DcTAt.dictOf(h:At L Z s){a:Addr}{xs:List (List Int×Addr×Value)}(x:DcTAt c Z a xs):s.heap.DictOfH (tupleKind (intKind c.prog c.w)) a xs:=
 let⟨_,o,es,ep,e,r1,r2,r3,r4,r5⟩:=x;⟨o,es,ep,h.held _ _ e,r1,r2,r3,λy hy=>(r4 y hy).is h,r5⟩
theorem RepT.at(k:List Int):∀(es:List (List Int×D))(xs:List (List Int×Addr×Value)),RepT c Z es xs->(Af k es=none/\atKey xs k=none)\/∃d a v,Af k es=some d/\atKey xs k=some (a,v)/\Rep c Z d v
 |[],kvs,x=>by rw[RepT] at x;subst x;exact .inl ⟨rfl,rfl⟩
 |(k',d)::r,kvs,x=>by
  rw[RepT] at x
  obtain⟨a,v,r',rfl,hv,z⟩:=x
  by_cases h:k'=k
  ·exact .inr ⟨d,a,v,by simp[Af,h],by simp[atKey,h],hv⟩
  ·rcases RepT.at k r r' z with ⟨h1,h2⟩|⟨d',a',v',h1,h2,h3⟩
   ·exact .inl ⟨by simp[Af,h,h1],by simpa[atKey,h] using h2⟩
   ·exact .inr ⟨d',a',v',by simp[Af,h,h1],by simpa[atKey,h] using h2,h3⟩
theorem Lc{M:Model}{E:Value->Shared->Prop}{x y:Value}{Q:Value->Shared->Prop}{b:Bool}(h:wpAny M A (compareOp .In x y) (λv s'=>v= .bool b/\Q (.bool (!b)) s') E s):wpAny M A (compareOp .NotIn x y) Q E s:=λΓ p hΓ=>by
 have q:=h Γ p hΓ
 simp only[compareOp,Sem.wp_bind',Sem.wp_pure'] at q⊢
 exact Sem.wp_mono M Γ _ (λr p' s' z=>by obtain⟨z1,z2⟩:=z;cases z1;exact z2) (λ_ _ _ z=>z) _ _ q
theorem Ry(h:At L Z s){n:Nat}(rm:Room n A){a b:D}{r:Bool}{va vb:Value}(ra:Rep c Z a va)(rb:Rep c Z b vb)(e:QF a b=some r):BI c A L Z s (compareOp .In va vb) (.bool r):=by
 have hu:=rm.un
 unfold QF at e
 intro Q E k
 split at e
 ·split at e
  ·rename_i xs hab
   cases e
   simp only[and_eq_true,all_eq_true] at hab
   obtain⟨as,pa⟩:=CK h 20 a va hab.1 ra
   obtain⟨bs,pb⟩:=CK h 21 (.tup xs) vb (by simpa[D.ok] using hab.2) rb
   have l1:=Jr hab.2
   have l2:=Ke 20 a hab.1
   have l3:=l2.2
   refine SeqAt.in_tuple_reads pb pa l1.1 l2.1 ?_ ?_
   ·have:=Nat.min_le_right (PyData.depthAll (Ci xs)) (CT a).depth
    omega
   rw[K4 a 20 hab.1 xs hab.2]
   exact k _ _ _ (A9 h) (A2 _)
  ·cases e
 ·split at e
  ·rename_i xs hab
   cases e
   simp only[and_eq_true,all_eq_true] at hab
   obtain⟨as,pa⟩:=CK h 20 a va hab.1 ra
   obtain⟨bs,pb⟩:=CK h 21 (.list xs) vb (by simpa[D.ok] using hab.2) rb
   have l1:=Jr hab.2
   have l2:=Ke 20 a hab.1
   have l3:=l2.2
   refine SeqAt.in_list_reads pb pa l1.1 l2.1 ?_ ?_
   ·have:=Nat.min_le_right (PyData.depthAll (Ci xs)) (CT a).depth
    omega
   rw[K4 a 20 hab.1 xs hab.2]
   exact k _ _ _ (A9 h) (A2 _)
  ·cases e
 ·rename_i es
  rw[map_eq_some_iff] at e
  obtain⟨k',e1,rfl⟩:=e
  rw[Rep] at rb
  obtain⟨d,kvs,rfl,hd,he⟩:=rb
  refine wpAny_in_of (knd:=AV c.prog c.w) (Cq ra e1) (Cc hd.1) (hd.dictOf h).mapOf ?_
  have q:(valueAt kvs k').isSome=(Af k' es).isSome:=by rcases RepE.at k' _ kvs he with ⟨h1,h2⟩|⟨x,v,h1,h2,_⟩<;>rw[h1,h2]<;>rfl
  rw[q]
  exact k _ _ _ (A8 h _) (A2 _)
 ·rename_i es
  rw[map_eq_some_iff] at e
  obtain⟨k',e1,rfl⟩:=e
  rw[Rep] at rb
  obtain⟨d,kvs,rfl,hd,he⟩:=rb
  obtain⟨x,rfl,hx⟩:=GG ra e1
  refine wpAny_in_heap (knd:=tupleKind (intKind c.prog c.w)) (tupleKind_room_in1 (by omega)) (hx.is h) (Cc hd.1) (hd.dictOf h) ?_
  have q:(atKey kvs k').isSome=(Af k' es).isSome:=by rcases RepT.at k' _ kvs he with ⟨h1,h2⟩|⟨x,a,v,h1,h2,_⟩<;>rw[h1,h2]<;>rfl
  rw[q]
  exact k _ _ _ (A8 h _) (A2 _)
 ·cases e
theorem Ps(h:At L Z s){n:Nat}(rm:Room n A){a b:D}{r:Bool}{va vb:Value}(ra:Rep c Z a va)(rb:Rep c Z b vb)(e:QF a b=some r):BI c A L Z s (compareOp .NotIn va vb) (.bool (!r)):=
 λQ E k=>Lc (b:=r) (Ry h rm ra rb e _ _ λv Z' s' x rv=>by rw[Rep] at rv;exact⟨rv,k _ _ _ x (A2 _)⟩)
theorem JU{prog:Program}{w:World}{x y:List Int}{a b:Addr}{P:PySem.Fin->Shared->Prop}{E:Value->Shared->Prop}(hx:IsTupleKey (intKind prog w) s.heap x a)(hy:IsTupleKey (intKind prog w) s.heap y b)
 (h:P (.done (.ret (.bool (An x y)))) s):wpAny (model prog w) A (Builtin.«tuple.__lt__» ⟨[.ref a,.ref b],[]⟩) P E s:=by
 have hTb:=hy.typeIs
 obtain⟨oa,xs,na,hoa,_,hda,hia⟩:=hx
 obtain⟨ob,ys,nb,hob,_,hdb,hib⟩:=hy
 show wpAny _ _ (isInstance (.ref b) (.type "tuple")>>=_) _ _ s
 refine wpAny_bind (wpAny_isInstance hTb isSubtype_tuple_tuple ?_)
 simp only[Bool.not_true,false_eq_true,if_false]
 refine wpAny_bind (wpAny_tupleItemsOf hoa hda ?_)
 refine wpAny_bind (wpAny_tupleItemsOf hob hdb ?_)
 refine wpAny_bind ?_
 refine wpAny_forIn_list _
  (λrest r s'=>r.1=none/\s'=s/\∃x' y' xs' ys',rest=List.zip xs' ys'/\ItemsAre (intKind prog w) x' xs'/\ItemsAre (intKind prog w) y' ys'/\An x' y'=An x y/\decide (xs'.length<ys'.length)=decide (xs.size<ys.size))
  _ ?_ ?_ _ _ ⟨rfl,rfl,x,y,xs.toList,ys.toList,rfl,hia,hib,rfl,by simp⟩
 ·rintro⟨u,v⟩ rest r s' ⟨hr,rfl,x',y',xs',ys',hz,hx',hy',hdec,hlen⟩
  cases hx' with
  |nil=>simp at hz
  | @cons k1 u' x'' xs'' h1 hx''=>
    cases hy' with
    |nil=>simp at hz
    | @cons k2 v' y'' ys'' h2 hy''=>
      simp only[zip_cons_cons,List.cons.injEq,Prod.mk.injEq] at hz
      obtain⟨⟨rfl,rfl⟩,rfl⟩:=hz
      refine wpAny_bind ((intKind prog w).eqBool (a:=k1) (b:=k2) h1 h2 ?_)
      by_cases hk:k1=k2
      ·subst hk
       rw[decide_eq_true rfl]
       simp only[Bool.not_true,false_eq_true,if_false]
       refine wpAny_pure ⟨rfl,rfl,x'',y'',xs'',ys'',rfl,hx'',hy'',?_,by simpa using hlen⟩
       rw[<-hdec];simp[An]
      ·rw[decide_eq_false hk]
       simp only[Bool.not_false,if_true]
       have hf:An x y=decide (k1<k2):=by rw[<-hdec];simp[An,hk]
       obtain⟨t1,rfl⟩:=Value.isInt_shape h1
       obtain⟨t2,rfl⟩:=Value.isInt_shape h2
       rw[hf] at h
       refine wpAny_bind (wpAny_rule ?_)
       exact wpAny_bind (PyProof.Rows.lt_int (wpAny_bind (wpAny_pure (wpAny_pure (wpAny_pure h)))))
 ·rintro⟨r1,r2⟩ s' ⟨hr,rfl,x',y',xs',ys',hz,hx',hy',hdec,hlen⟩
  simp only at hr
  subst hr
  refine wpAny_pure ?_
  have hfin:decide (xs.size<ys.size)=An x y:=by
   rw[<-hdec,<-hlen]
   cases hx' with
   |nil=>
    cases hy' with
    |nil=>simp[An]
    |cons _ _=>simp[An]
   |cons _ _=>
    cases hy' with
    |nil=>simp[An]
    |cons _ _=>simp at hz
  show P (.done (.ret (.bool (decide (xs.size<ys.size))))) s'
  rw[hfin];exact h
end
section
variable {c:Cx}{A:Around}{L:Addr}{Z:FM}{s:Shared}
theorem Ky(h:At L Z s){n:Nat}(rm:Room n A){op:CmpOp}{a b:D}{r:Bool}{va vb:Value}(ra:Rep c Z a va)(rb:Rep c Z b vb)(e:Av op a b=some r):BI c A L Z s (compareOp op va vb) (.bool r):=by
 have hu:=rm.un
 unfold Av at e
 split at e
 ·exact Tr h rm ra rb e
 ·rw[map_eq_some_iff] at e
  obtain⟨r',e1,rfl⟩:=e
  exact Tc h rm ra rb e1
 ·cases e;intro Q E k;rw[Rep] at ra rb;obtain⟨t,rfl⟩:=ra;obtain⟨u,rfl⟩:=rb
  exact PyProof.Rows.lt_int (k _ _ _ (A9 h) (A2 _))
 ·cases e;intro Q E k;rw[Rep] at ra rb;obtain⟨t,rfl⟩:=ra;obtain⟨u,rfl⟩:=rb
  exact PyProof.Rows.le_int (k _ _ _ (A9 h) (A2 _))
 ·cases e;intro Q E k;rw[Rep] at ra rb;obtain⟨t,rfl⟩:=ra;obtain⟨u,rfl⟩:=rb
  exact PyProof.Rows.gt_int (k _ _ _ (A9 h) (A2 _))
 ·rename_i xs ys
  simp only[bind_eq_bind,bind_eq_some_iff,Option.some.injEq] at e
  obtain⟨x,e1,y,e2,rfl⟩:=e
  intro Q E k
  obtain⟨p,rfl,hp⟩:=GG ra e1
  obtain⟨q,rfl,hq⟩:=GG rb e2
  have ix:=hp.is (prog:=c.prog) (w:=c.w) h
  have iy:=hq.is (prog:=c.prog) (w:=c.w) h
  show wpAny _ _ (richCompare .Lt _ _) _ _ _
  exact wpAny_richCompare_same_room (op:= .Lt) ix.typeIs iy.typeIs F.slot_tuple_lt
   (wpAny_call_entry F.slot_tuple_lt ix.typeIs F.entry_tuple_lt (JU ix iy ⟨_,rfl,(λe=>nomatch e),k _ _ _ (A9 h) (A2 _)⟩) (F.args_tuple_lt_2 _ _)) (by omega)
 ·cases e;intro Q E k;rw[Rep] at ra rb;subst ra rb
  show wpAny _ _ (isSame .none .none>>=_) _ _ _
  rw[isSame_none]
  exact wpAny_bind (wpAny_pure (wpAny_pure (k _ _ _ (A9 h) (A2 _))))
 ·cases e;intro Q E k;rw[Rep] at ra
  rw[Rep] at rb
  subst rb
  obtain⟨p,vs,rfl,_,_⟩:=ra
  show wpAny _ _ (isSame (.ref p) .none>>=_) _ _ _
  rw[isSame_none]
  exact wpAny_bind (wpAny_pure (wpAny_pure (k _ _ _ (A9 h) (A2 _))))
 ·exact Ry h rm ra rb e
 ·rw[map_eq_some_iff] at e
  obtain⟨r',e1,rfl⟩:=e
  exact Ps h rm ra rb e1
 ·cases e
theorem PR(h:At L Z s){d:D}{b:Bool}{v:Value}(r:Rep c Z d v)(e:Gs d=some b):T4 c A L Z s (truthy v) b:=λQ E k=>by
 cases d<;>simp only[Gs,Option.some.injEq,reduceCtorEq] at e
 subst e
 rw[Rep] at r;subst r
 exact wpAny_truthy_bool (k _ _ (A9 h))
theorem GW{xs:List D}{i:Int}{d:D}(e:Hi xs i=some d): -(2^63)<=i/\i<2^63/\∃j,seqIndex? i xs.length=some j/\xs[j]? =some d:=by
 unfold Hi at e
 split at e
 ·cases e
 ·rename_i hs
  rw[Bool.not_eq_false,DU] at hs
  split at e
  ·rename_i h0
   have hlt:=(List.getElem?_eq_some_iff.mp e).1
   refine⟨by omega,by omega,i.toNat,?_,e⟩
   unfold seqIndex?
   simp;omega
  ·split at e
   ·rename_i h1 h0
    have hlt:=(List.getElem?_eq_some_iff.mp e).1
    refine⟨by omega,by omega,((xs.length:Int)+i).toNat,?_,e⟩
    unfold seqIndex?
    simp;omega
   ·cases e
theorem Hv(slice:Expr)(o i:Value):∃ops,subscripted slice false o i=operate ops (getItem o i):=by
 cases slice with
 |Slice a b st p=>cases st<;>exact⟨_,rfl⟩
 |_=>exact⟨_,rfl⟩
theorem CU{prog:Program}{w:World}{E:Value->Shared->Prop}{value slice:Expr}{o i:Value}{T id:String}{Q:Value->Shared->Prop}(hT:s.TypeIs o T)(hl:typeLookup (.type T) "__getitem__" =pure (some (.builtin id)))
 (hg:wpAny (model prog w) A (getItem o i) Q E s):wpAny (model prog w) A (subscriptTail value slice o i) Q E s:=
 let⟨_,e⟩:=Hv slice o i;tail_any hT hl hg e
theorem RU(h:At L Z s){o i d:D}{vo vi:Value}(ro:Rep c Z o vo)(ri:Rep c Z i vi)(e:Al o i=some d)(value slice:Expr):BI c A L Z s (subscriptTail value slice vo vi) d:=λQ E k=>by
 unfold Al at e
 split at e
 ·rw[Rep] at ro
  rw[Rep] at ri
  obtain⟨a,vs,rfl,t,l⟩:=ro
  obtain⟨u,rfl⟩:=ri
  obtain⟨h1,h2,j,h3,h4⟩:=GW e
  obtain⟨v,h5,rv⟩:=RepL.get _ _ l j d h4
  have T:=t.isTup h
  refine CU T.typeIs slot_tuple_getitem.lookup (PyProof.Rows.getItem_tuple T h1 h2 (j:=j) ?_ (by simpa using h5) (k _ _ _ (A9 h) rv))
  rw[size_toArray,RepL.length _ _ l];exact h3
 ·rw[Rep] at ro
  rw[Rep] at ri
  obtain⟨a,vs,rfl,t,l⟩:=ro
  obtain⟨u,rfl⟩:=ri
  rename_i z
  obtain⟨h1,h2,j,h3,h4⟩:=GW e
  obtain⟨v,h5,rv⟩:=RepL.get _ _ l j d h4
  have T:=t.isList h
  refine CU T.typeIs slot_list_getitem.lookup ?_
  rw[<-RepL.length _ _ l] at h3
  by_cases hz:0<=z
  ·refine wpAny_getItem_list T hz h2 ?_ (k _ _ _ (A9 h) rv)
   unfold seqIndex? at h3
   simp only[show ¬z<0 by omega,if_false] at h3
   split at h3
   ·cases h3;simpa using h5
   ·cases h3
  ·exact kde_getNeg T (by omega) h1 h3 h5 (k _ _ _ (A9 h) rv)
 ·rename_i es
  simp only[bind_eq_bind,bind_eq_some_iff] at e
  obtain⟨k',e1,e2⟩:=e
  rw[Rep] at ro
  obtain⟨a,kvs,rfl,hd,he⟩:=ro
  rcases RepE.at k' es kvs he with ⟨h1,h2⟩|⟨x,v,h1,h2,h3⟩
  ·rw[h1] at e2;cases e2
  ·rw[h1] at e2;cases e2
   have D:=hd.dictOf h
   exact CU D.typeIs slot_dict_getitem.lookup (wpAny_getItem_of (knd:=AV c.prog c.w) (Cq ri e1) D.mapOf h2 (k _ _ _ (A8 h _) h3))
 ·rw[Rep] at ro
  rw[Rep] at ri
  obtain⟨t,rfl⟩:=ro
  obtain⟨u,rfl⟩:=ri
  split at e
  ·rename_i hz
   rw[and_eq_true,DU,decide_eq_true_eq] at hz
   rw[map_eq_some_iff] at e
   obtain⟨ch,e1,rfl⟩:=e
   have hlt:=(Array.getElem?_eq_some_iff.mp e1).1
   refine CU (typeIs_str _ _ _) F.slot_str_getitem.lookup (PySem.P.getItem_str (c:=ch) ?_ ?_ (k _ _ _ (A8 h _) (ER _ _)))
   ·simp only[Bool.or_eq_false_iff,decide_eq_false_iff_not];omega
   ·rename_i str z
    have q:seqIndex? z str.length=some z.toNat:=by
     unfold seqIndex? Str.length
     simp;omega
    rw[q];exact e1
  ·cases e
 ·cases e
end
section
variable {c:Cx}{A:Around}{L:Addr}{Z:FM}{s:Shared}
inductive Cut:Option Int->Option Int->Option Int->Type
 |from(a:Int):Cut (some a) none none
 |upto (b:Int):Cut none (some b) none
 |back:Cut none none (some (-1))
def Cut.pick{α:Type}{lo hi st:Option Int}(k:Cut lo hi st)(xs:List α):List α:=match k with
 | .from a=>xs.drop (Ap a xs.length)
 | .upto b=>xs.take (Ap b xs.length)
 | .back=>xs.reverse
theorem O7(a:Int)(n:Nat):Ap a n<=n:=by
 unfold Ap;split<;>omega
theorem Nc{lo hi st:Option Int}(k:Cut lo hi st)(vs:List Value):slicePick vs.toArray lo hi st=(k.pick vs).toArray:=by
 cases k with
 | «from» a=>
   by_cases h:0<=a
   ·obtain⟨n,rfl⟩:=Int.eq_ofNat_of_zero_le h
    rw[slicePick_from']
    simp only[Cut.pick,Ap,h,if_true,Int.toNat_natCast,kmk_drop_min]
   ·obtain⟨n,rfl⟩:∃n:Nat,a= -(n:Int):=⟨(-a).toNat,by omega⟩
    rw[slicePick_last _ n (by omega)]
    simp only[Cut.pick,Ap,h,if_false,size_toArray]
    congr 2;omega
 |upto b=>
  by_cases h:0<=b
  ·obtain⟨n,rfl⟩:=Int.eq_ofNat_of_zero_le h
   rw[slicePick_upto']
   simp only[Cut.pick,Ap,h,if_true,Int.toNat_natCast,kmk_take_min]
  ·obtain⟨n,rfl⟩:∃n:Nat,b= -(n:Int):=⟨(-b).toNat,by omega⟩
   rw[slicePick_butLast _ n (by omega)]
   simp only[Cut.pick,Ap,h,if_false,size_toArray]
   congr 2;omega
 |back=>rw[krv_pick];rfl
theorem Gx{prog:Program}{w:World}{E:Value->Shared->Prop}{sl:Addr}{va vb vc:Value}{lo hi st:Option Int}(k:Cut lo hi st)(n:Nat)(hs:s.heap.IsSliceOf sl va vb vc)(pa:IsPart va lo)(pb:IsPart vb hi)(pc:IsPart vc st)
 {Q:Int×Int×Nat->Shared->Prop} (h:Q ((Builtin.Slice.sliceAdjust lo hi (st.getD 1) n).1,st.getD 1,Builtin.Slice.slicePlaces (Builtin.Slice.sliceAdjust lo hi (st.getD 1) n).1 (Builtin.Slice.sliceAdjust lo hi (st.getD 1) n).2 (st.getD 1)) s):
 wpAny (model prog w) A (Builtin.Slice.sliceApplied (.ref sl) (pure (n:Int))) Q E s:=by
 obtain⟨os,hos,hcs,hds⟩:=id hs
 unfold Builtin.Slice.sliceApplied Builtin.Slice.sliceFields
 refine wpAny_bind (wpAny_bind (wpAny_field hos hds (x:=va) rfl (wpAny_bind (wpAny_field hos hds (x:=vb) rfl (wpAny_bind (wpAny_field hos hds (x:=vc) rfl (wpAny_pure ?_)))))))
 have part:∀{v:Value} {o:Option Int} {Q':Option Int->Shared->Prop},IsPart v o->Q' o s->wpAny (model prog w) A (Builtin.Slice.slicePartIndex v) Q' E s:=λp q=>by
  cases p with
  |none=>exact slicePart_none q
  |int i t=>exact slicePart_int q
 refine wpAny_bind (part pc ?_)
 have h1:¬((st.getD 1==0)=true):=by cases k<;>decide
 show wpAny _ _ (if(st.getD 1==0)=true then _ else _) _ _ s
 rw[if_neg h1]
 exact wpAny_bind (part pa (wpAny_bind (part pb (wpAny_bind (wpAny_pure (wpAny_pure h))))))
theorem Mr{lo hi st:Option Int}(k:Cut lo hi st)(xs:Array Value):
 ((List.range (Builtin.Slice.slicePlaces (Builtin.Slice.sliceAdjust lo hi (st.getD 1) xs.size).1 (Builtin.Slice.sliceAdjust lo hi (st.getD 1) xs.size).2 (st.getD 1))).filterMap
   λ(j:Nat)=>xs[((Builtin.Slice.sliceAdjust lo hi (st.getD 1) xs.size).1+(j:Int)*(st.getD 1)).toNat]?)=k.pick xs.toList:=by
 have run:=λa m=>pick_run xs a m
 cases k with
 | «from» a=>
   have e1:(Builtin.Slice.sliceAdjust (some a) none 1 (xs.size:Int)).1=(Ap a xs.size:Nat):=by
    unfold Builtin.Slice.sliceAdjust Ap
    simp only[show ¬((1:Int)<0) by omega,if_false]
    split<;>split<;>omega
   have e2:(Builtin.Slice.sliceAdjust (some a) none 1 (xs.size:Int)).2=xs.size:=by unfold Builtin.Slice.sliceAdjust;simp
   simp only[Option.getD_none,e1,e2]
   have hle:=O7 a xs.size
   have e3:Builtin.Slice.slicePlaces ((Ap a xs.size:Nat):Int) (xs.size:Int) 1=xs.size -Ap a xs.size:=places_from _ _ hle
   rw[e3]
   have r:=run (Ap a xs.size) (xs.size -Ap a xs.size)
   rw[List.filterMap_map] at r
   have e4:(λ(j:Nat)=>xs[(((Ap a xs.size:Nat):Int)+(j:Int)*1).toNat]?)=(λx=>xs[x]?)∘λx=>Ap a xs.size+x:=by
    funext j
    have:(((Ap a xs.size:Nat):Int)+(j:Int)*1).toNat=Ap a xs.size+j:=by omega
    simp only[Function.comp_apply];rw[this]
   rw[e4,r,List.take_of_length_le (by simp)]
   simp[Cut.pick]
 |upto b=>
  have e1:(Builtin.Slice.sliceAdjust none (some b) 1 (xs.size:Int)).1=0:=by unfold Builtin.Slice.sliceAdjust;simp
  have e2:(Builtin.Slice.sliceAdjust none (some b) 1 (xs.size:Int)).2=(Ap b xs.size:Nat):=by
   unfold Builtin.Slice.sliceAdjust Ap
   simp only[show ¬((1:Int)<0) by omega,if_false]
   split<;>split<;>omega
  simp only[Option.getD_none,e1,e2]
  have e3:Builtin.Slice.slicePlaces 0 ((Ap b xs.size:Nat):Int) 1=Ap b xs.size:=by
   have:=places_from 0 (Ap b xs.size) (zero_le _)
   simpa using this
  rw[e3]
  have r:=run 0 (Ap b xs.size)
  rw[List.filterMap_map] at r
  have e4:(λ(j:Nat)=>xs[((0:Int)+(j:Int)*1).toNat]?)=(λx=>xs[x]?)∘λx=>0+x:=by
   funext j
   have:((0:Int)+(j:Int)*1).toNat=0+j:=by omega
   simp only[Function.comp_apply];rw[this]
  rw[e4,r]
  simp[Cut.pick]
 |back=>
  have e1:(Builtin.Slice.sliceAdjust none none (-1) (xs.size:Int)).1=xs.size -1:=by unfold Builtin.Slice.sliceAdjust;simp
  have e2:(Builtin.Slice.sliceAdjust none none (-1) (xs.size:Int)).2= -1:=by unfold Builtin.Slice.sliceAdjust;simp
  simp only[getD_some,e1,e2]
  have e3:Builtin.Slice.slicePlaces ((xs.size:Int)-1) (-1) (-1)=xs.size:=by
   unfold Builtin.Slice.slicePlaces
   simp only[show ¬((-1:Int)>0) by omega,if_false]
   split<;>(first|omega|(simp;done)|(simp;omega))
  rw[e3]
  have e4:(List.range xs.size).filterMap (λ(j:Nat)=>xs[((xs.size:Int)-1+(j:Int)*(-1)).toNat]?)=((List.range xs.size).map λk=>xs.size -1 -k).filterMap (xs[·]?):=by
   rw[List.filterMap_map]
   congr 1
   funext j
   have:((xs.size:Int)-1+(j:Int)*(-1)).toNat=xs.size -1 -j:=by omega
   simp only[Function.comp_apply];rw[this]
  rw[e4,krv_range,List.filterMap_reverse,krv_all]
  rfl
theorem GY{prog:Program}{w:World}{E:Value->Shared->Prop}{t sl:Addr}{vs:List Value}{va vb vc:Value}{lo hi st:Option Int}(k:Cut lo hi st){Q:Value->Shared->Prop}(ht:IsTup s.heap t vs.toArray)
 (hs:s.heap.IsSliceOf sl va vb vc) (pa:IsPart va lo) (pb:IsPart vb hi) (pc:IsPart vc st)
 (h0:k.pick vs=vs->Q (.ref t) s)
 (h:Q (.ref s.heap.objs.size) {s with heap:=s.heap.push {cls:= .type "tuple",data:= .seq (k.pick vs).toArray}})
 (hsz:vs.length<=200000):wpAny (model prog w) A (getItem (.ref t) (.ref sl)) Q E s:=by
 have hk:(k.pick vs).length<=vs.length:=by cases k<;>simp[Cut.pick]<;>omega
 have hok:sizeOk (.seq (k.pick vs).toArray):=by
  show(k.pick vs).toArray.size<=sizeLine
  rw[size_toArray,sizeLine_eq];omega
 obtain⟨os,hos,hcs,hds⟩:=id hs
 have hTs:s.TypeIs (.ref sl) "slice" :=⟨os,hos,hcs⟩
 unfold getItem
 refine wpAny_holding ?_
 refine wpAny_bind (wpAny_sequenceKey ht.typeIs (by decide) ?_)
 refine wpAny_bind (wpAny_callSpecial?_slot (name:=Str.ofString "__getitem__") ht.typeIs slot_tuple_getitem
  (wpAny_call_entry slot_tuple_getitem ht.typeIs entry_tuple_getitem ?_ (args_tuple_getitem _ _)))
 show wpAny _ _ (Builtin.Tuple.tupleItemsOf (.ref t)>>=_) _ _ s
 refine wpAny_bind (tupleItemsOf_ ht ?_)
 refine wpAny_bind (wpAny_typeOf hTs ?_)
 rw[if_pos (by decide)]
 refine wpAny_bind (Gx k vs.toArray.size hs pa pb pc ?_)
 have pc':=Mr k vs.toArray
 generalize (Builtin.Slice.sliceAdjust lo hi (st.getD 1) (vs.toArray.size:Int)).1=lo' at pc'⊢
 generalize (Builtin.Slice.sliceAdjust lo hi (st.getD 1) (vs.toArray.size:Int)).2=hi' at pc'⊢
 generalize Builtin.Slice.slicePlaces lo' hi' (st.getD 1)=cnt at pc'⊢
 simp only[List.toList_toArray] at pc'
 show wpAny _ _ (if(lo'==0&&st.getD 1==1&&cnt==vs.toArray.size)=true then _ else _) _ _ s
 by_cases hw:(lo'==0&&st.getD 1==1&&cnt==vs.toArray.size)=true
 ·rw[if_pos hw]
  simp only[and_eq_true,beq_iff_eq] at hw
  obtain⟨⟨w1,w2⟩,w3⟩:=hw
  have e:k.pick vs=vs:=by
   rw[<-pc',w1,w2,w3]
   have r:=krv_all vs.toArray
   simp only[List.toList_toArray] at r
   refine Eq.trans ?_ r
   congr 1
   funext j
   have:((0:Int)+(j:Int)*1).toNat=j:=by omega
   rw[this]
  refine wpAny_bind (m:=Builtin.Tuple.tupleIsExact (.ref t)) (wpAny_bind (wpAny_typeOf ht.typeIs (wpAny_pure ?_)))
  rw[if_pos (by decide)]
  exact wpAny_bind (wpAny_rule (wpAny_pure ⟨_,rfl,wpAny_pure (h0 e)⟩))
 ·rw[if_neg hw,pc']
  exact wpAny_bind (m:=Builtin.Tuple.tupleExact _) (wpAny_newObj_type (wpAny_pure ⟨_,rfl,wpAny_pure h⟩) hok)
def Ha:D->Option (Option Int)
 | .none=>some none
 | .int i=>some (some i)
 |_=>none
theorem DO{d:D}{p:Option Int}{v:Value}(r:Rep c Z d v)(e:Ha d=some p):IsPart v p:=by
 cases d<;>simp only[Ha,Option.some.injEq,reduceCtorEq] at e
 ·subst e;rw[Rep] at r;subst r;exact .none
 ·subst e;rw[Rep] at r;obtain⟨t,rfl⟩:=r;exact .int _ _
theorem RepL.pick{lo hi st:Option Int}(k:Cut lo hi st)(ds:List D)(vs:List Value)(r:RepL c Z ds vs):RepL c Z (k.pick ds) (k.pick vs):=by
 have e:=RepL.length _ _ r
 cases k with
 | «from» a=>simp only[Cut.pick,e];exact RepL.drop _ _ _ r
 |upto b=>simp only[Cut.pick,e];exact RepL.take _ _ _ r
 |back=>exact RepL.reverse _ _ r
theorem Fj{xs ys:List D}{lo hi st:D}(e:IQ xs lo hi st=some ys):∃(a b s':Option Int)(k:Cut a b s'),Ha lo=some a/\Ha hi=some b/\Ha st=some s'/\ys=k.pick xs:=by
 unfold IQ at e
 split at e
 ·split at e
  ·rename_i h;subst h;cases e;exact⟨_,_,_,.back,rfl,rfl,rfl,rfl⟩
  ·cases e
 ·split at e
  ·cases e;exact⟨_,_,_,.from _,rfl,rfl,rfl,rfl⟩
  ·cases e
 ·split at e
  ·cases e;exact⟨_,_,_,.upto _,rfl,rfl,rfl,rfl⟩
  ·cases e
 ·cases e
theorem Cut.ne0{lo hi st:Option Int}(k:Cut lo hi st):st≠some 0:=by cases k<;>simp
theorem PY(h:At L Z s){o lo hi st d:D}{vo v1 v2 v3:Value}(ro:Rep c Z o vo)(r1:Rep c Z lo v1)(r2:Rep c Z hi v2)(r3:Rep c Z st v3)(e:Bo o lo hi st=some d)(value slice:Expr)
 (Q:Value->Shared->Prop) (E:Value->Shared->Prop) (q:∀v Z' s',Ext L Z s Z' s'->Rep c Z' d v->Q v s'):
 wpAny (model c.prog c.w) A (newFields "slice" [v1,v2,v3]) (λi s₂=>wpAny (model c.prog c.w) A (subscriptTail value slice vo i) Q E s₂) E s:=by
 unfold newFields
 refine wpAny_newObj_type ?_ (by show(3:Nat)<=sizeLine+2;rw[sizeLine_eq];omega)
 have x:=Cr (o:={cls:= .type "slice",data:= .fields #[v1,v2,v3]}) h s.toks rfl
 have pk:∀a o',s.heap.get? a=some o'->(s.heap.push {cls:= .type "slice",data:= .fields #[v1,v2,v3]}).get? a=some o':=λ_ _ e=>Heap.get?_push_of_some _ e
 have sl:=Heap.IsSliceOf.new s.heap v1 v2 v3
 have fin:∀(o':Obj),o'.isFreed=false->Ext L Z s (Z.add (s.heap.objs.size+1) o') {s with heap:=(s.heap.push {cls:= .type "slice",data:= .fields #[v1,v2,v3]}).push o'}:=λo' hf=>
  Ext.one h.held (by cases q:s.heap.get? (s.heap.objs.size+1) with|none=>rfl|some y=>exact absurd (Heap.lt_size q) (Nat.not_lt.mpr (le_succ _)))
   (by have:=Heap.get?_push_size (s.heap.push {cls:= .type "slice",data:= .fields #[v1,v2,v3]}) hf;rwa [Heap.size_push] at this)
   (λ_ _ e=>Heap.get?_push_of_some _ (pk _ _ e)) rfl rfl
 unfold Bo at e
 split at e
 ·split at e
  ·rename_i hz
   rw[map_eq_some_iff] at e
   obtain⟨ys,e,rfl⟩:=e
   obtain⟨a,b,s',k,p1,p2,p3,rfl⟩:=Fj e
   rw[Rep] at ro
   obtain⟨t,vs,rfl,ta,l⟩:=ro
   have T:IsTup (s.heap.push {cls:= .type "slice",data:= .fields #[v1,v2,v3]}) t vs.toArray:=(ta.isTup h).keeps pk
   refine CU (s:={s with heap:=s.heap.push {cls:= .type "slice",data:= .fields #[v1,v2,v3]}}) T.typeIs slot_tuple_getitem.lookup
    (GY k T sl (DO r1 p1) (DO r2 p2) (DO r3 p3) (λek=> ?_) ?_ (by rw[RepL.length _ _ l];omega))
   ·refine q _ _ _ (Ext.same h.held pk rfl rfl) ?_
    have l':=RepL.pick k _ _ l
    rw[ek] at l'
    exact CJ ta l'
   ·have y:=fin {cls:= .type "tuple",data:= .seq (k.pick vs).toArray} rfl
    show Q (.ref (s.heap.push _).objs.size) _
    rw[Heap.size_push]
    exact q _ _ _ y (CJ (DT ..) (RepL.mono y.le _ _ (RepL.pick k _ _ l)))
  ·cases e
 ·split at e
  ·rename_i hz
   rw[map_eq_some_iff] at e
   obtain⟨ys,e,rfl⟩:=e
   obtain⟨a,b,s',k,p1,p2,p3,rfl⟩:=Fj e
   rw[Rep] at ro
   obtain⟨t,vs,rfl,ta,l⟩:=ro
   have T:(s.heap.push {cls:= .type "slice",data:= .fields #[v1,v2,v3]}).IsList t vs.toArray:=(ta.isList h).at λo e=>pk _ o e
   refine CU (s:={s with heap:=s.heap.push {cls:= .type "slice",data:= .fields #[v1,v2,v3]}}) T.typeIs slot_list_getitem.lookup
    (wpAny_getItem_list_slice T sl (DO r1 p1) (DO r2 p2) (DO r3 p3) k.ne0 ?_ (by rw[size_toArray,RepL.length _ _ l,sizeLine_eq];omega))
   rw[Nc k vs]
   have y:=fin {cls:= .type "list",data:= .seq (k.pick vs).toArray} rfl
   show Q (.ref (s.heap.push _).objs.size) _
   rw[Heap.size_push]
   exact q _ _ _ y (CD (HD ..) (RepL.mono y.le _ _ (RepL.pick k _ _ l)))
  ·cases e
 ·cases e
end
section
variable {c:Cx}{A:Around}{L:Addr}{Z:FM}{s:Shared}
theorem MF(h:At L Z s){h':Heap}{k:Tok}{o:Obj}{D:Addr}{m:Str->Option Value}(hm:s.heap.Ns L m)(F:Fr {} L h' m)(N:News {} L h' ((D,o)::led L s.heap))(hD:∀q∈led L s.heap,q.1<D):
 Ext L Z s (Z.add D o) {s with heap:=h',toks:=k}:=
 have hn:=(N (D,o) (mem_cons_self ..))
 Ext.oneL h.held h.zL (Np hn.2.1 hD) hn.1 (λa ob n e=>(N (a,ob) (mem_cons_of_mem _ (led_mem.mpr ⟨n,e⟩))).1)
  (λm' hm'=>by
   obtain⟨o1,es1,ep1,a1,b1,c1,d1⟩:=F.ns
   obtain⟨o2,es2,ep2,a2,b2,c2,d2⟩:=hm
   obtain⟨o3,es3,ep3,a3,b3,c3,d3⟩:=hm'
   rw[a2] at a3;cases a3
   rw[b2] at b3;cases b3
   exact⟨o1,es1,ep1,a1,b1,c1,λx=>(d1 x).trans ((d2 x).symm.trans (d3 x))⟩) rfl rfl
theorem P6(h:At L Z s){d:D}{xs:List D}{v:Value}(hd:d= .tup xs\/d= .list xs)(r:Rep c Z d v)(hz:xs.length<=1000000):BI c A L Z s (call (.builtin "len") [v]) (.int xs.length):=λQ E k=>by
 rcases hd with rfl|rfl
 ·rw[Rep] at r
  obtain⟨a,vs,rfl,t,l⟩:=r
  have e:=RepL.length _ _ l
  refine PyProof.Rows.len_tuple (t.isTup h) (by rw[size_toArray,e];omega) ?_
  rw[size_toArray,e]
  exact k _ _ _ (A8 h _) (BW _ _)
 ·rw[Rep] at r
  obtain⟨a,vs,rfl,t,l⟩:=r
  have e:=RepL.length _ _ l
  refine Calls.call_len_list (t.isList h) (by rw[size_toArray,e];omega) ?_
  rw[size_toArray,e]
  exact k _ _ _ (A8 h _) (BW _ _)
theorem IJ(h:At L Z s){xs:List D}{v:Value}(r:Rep c Z (.list xs) v)(hz:xs.length<=100000):BI c A L Z s (call (.type "tuple") [v]) (.tup xs):=λQ E k=>by
 rw[Rep] at r
 obtain⟨a,vs,rfl,t,l⟩:=r
 have e:=RepL.length _ _ l
 refine call_tuple_list (t.isList h) (λh' hk=> ?_) (by rw[size_toArray,e,sizeLine_eq];omega)
 have x:Ext L Z s (Z.add h'.objs.size {cls:= .type "tuple",data:= .seq vs.toArray}) {s with heap:=h'.push {cls:= .type "tuple",data:= .seq vs.toArray}}:=
  Ext.one h.held (by cases q:s.heap.get? h'.objs.size with|none=>rfl|some y=>exact absurd (Heap.lt_size (hk _ _ q)) (Nat.lt_irrefl _)) (Heap.get?_push_size _ rfl)
   (λ_ _ e=>Heap.get?_push_of_some _ (hk _ _ e)) rfl rfl
 exact k _ _ _ x (CJ (DT ..) (RepL.mono x.le _ _ l))
theorem Ij(Z:FM)(a:Addr)(vs:List Value)(n:Nat):LstAt (Z.add a (PySem.W.listOf vs.toArray n)) a vs:=⟨n,FM.add_self ..⟩
theorem J3(h:At L Z s){d:D}{xs:List D}{v:Value}(hd:d= .tup xs\/d= .list xs)(r:Rep c Z d v)(hz:xs.length<=100000):BI c A L Z s (call (.type "list") [v]) (.list xs):=λQ E k=>by
 obtain⟨m,hm⟩:=h.ns
 rcases hd with rfl|rfl
 ·rw[Rep] at r
  obtain⟨a,vs,rfl,t,l⟩:=r
  have e:=RepL.length _ _ l
  refine list_copyKT (HF hm) (E1 L s.heap) (t.isTup h) (λD n h' F N hl=> ?_) (by rw[size_toArray,e,sizeLine_eq];omega)
  have x:=MF h (k:=s.toks) hm F N hl
  exact k _ _ _ x (CD (Ij ..) (RepL.mono x.le _ _ l))
 ·rw[Rep] at r
  obtain⟨a,vs,rfl,t,l⟩:=r
  have e:=RepL.length _ _ l
  refine list_copyK (HF hm) (E1 L s.heap) (t.isList h) (λD n h' F N hl=> ?_) (by rw[size_toArray,e,sizeLine_eq];omega)
  have x:=MF h (k:=s.toks) hm F N hl
  exact k _ _ _ x (CD (Ij ..) (RepL.mono x.le _ _ l))
theorem OV(h:At L Z s){a:Int}{v:Value}(r:Rep c Z (.int a) v):BI c A L Z s (call (.type "range") [v]) (.range 0 a):=λQ E k=>by
 rw[Rep] at r
 obtain⟨t,rfl⟩:=r
 refine call_range_1 (k _ _ _ (Cr h _ rfl) ?_)
 rw[Rep];exact⟨_,rfl,_,_,_,FM.add_self ..⟩
theorem OU(h:At L Z s){a b:Int}{v u:Value}(r:Rep c Z (.int a) v)(r2:Rep c Z (.int b) u):BI c A L Z s (call (.type "range") [v,u]) (.range a b):=λQ E k=>by
 rw[Rep] at r r2
 obtain⟨t,rfl⟩:=r
 obtain⟨t,rfl⟩:=r2
 refine call_range_2 (k _ _ _ (Cr h _ rfl) ?_)
 rw[Rep];exact⟨_,rfl,_,_,_,FM.add_self ..⟩
theorem PV(h:At L Z s){a:Int}{v:Value}(r:Rep c Z (.int a) v)(h0:0<=a)(h1:a<10):BI c A L Z s (call (.type "str") [v]) (.str (Str.ofString (toString a))):=λQ E k=>by
 rw[Rep] at r
 obtain⟨t,rfl⟩:=r
 refine PySem.P.str_of_int ?_ (k _ _ _ (A8 h _) (ER _ _))
 have:a.natAbs<10:=by omega
 have:a.natAbs.log2<=a.natAbs:=Nat.log2_le_self _
 omega
theorem LE:∀(n:Nat)(a:Int)(vs:List Value),vs.length=n->(∀(i:Nat)(v:Value),vs[i]? =some v->∃t,v= .int (a+i) t)->RepL c Z (Gq a n) vs
 |0,a,vs,hl,_=>by rw[List.eq_nil_of_length_eq_zero hl];exact RepL.nil
 |n+1,a,vs,hl,hv=>by
  cases vs with
  |nil=>cases hl
  |cons v r=>
   refine RepL.cons ?_ (LE n (a+1) r (by simpa using hl) λi u hu=> ?_)
   ·obtain⟨t,e⟩:=hv 0 v rfl;rw[e];simpa using BW _ _
   ·obtain⟨t,e⟩:=hv (i+1) u (by simpa using hu)
    exact⟨t,by rw[e];congr 1;omega⟩
theorem HV:∀(n:Nat)(a:Int),(Gq a n).length=n
 |0,_=>rfl
 |n+1,a=>by simp[Gq,HV n]
theorem Kj(h:At L Z s){n:Nat}(rm:Room n A){a b:Int}{v:Value}(r:Rep c Z (.range a b) v)(ha:AZ a)(hb:AZ b)(hz:b -a<=1000):BI c A L Z s (call (.type "list") [v]) (.list (Gq a (b -a).toNat)):=λQ E k=>by
 rw[Rep] at r
 obtain⟨p,rfl,t,u,w,e⟩:=r
 rw[DU] at ha hb
 have hs:Builtin.Range.rangeSize a b 1=((b -a).toNat:Int):=by rw[rangeSize_one];split<;>omega
 refine call_list_range (n:=(b -a).toNat) rm.1 (h.held _ _ e) (small_one (by omega) (by omega) (by omega) (by omega)) hs (by omega) λh' tk acc' c' hk hl hi=> ?_
 have x:Ext L Z s (Z.add s.heap.objs.size {cls:= .type "list",dict:=none,data:= .seq acc' c',slots:= #[]}) {s with heap:=h',toks:=tk}:=
  Ext.one h.held (Ab _) hl hk rfl rfl
 refine k _ _ _ x (CD (vs:=acc'.toList) ⟨c',by simpa using FM.add_self ..⟩ ?_)
 obtain⟨h1,h2⟩:=hi
 refine LE _ _ _ (by simpa using h1) λi v hv=> ?_
 have hlt:i<acc'.size:=by
  have:=(List.getElem?_eq_some_iff.mp hv).1
  simpa using this
 obtain⟨t,e⟩:=h2 i v (by simpa using hv)
 exact⟨t,by rw[e];congr 1;omega⟩
end
theorem DP:∀a:List Int,An a a=false
 |[]=>rfl
 |a::r=>by simp[An,DP r]
theorem Ds:∀a b c:List Int,An a b=true->An b c=true->An a c=true
 |[],[],_,h,_=>by simp[An] at h
 |[],_::_,[],_,h=>by simp[An] at h
 |[],_::_,_::_,_,_=>rfl
 |_::_,[],_,h,_=>by simp[An] at h
 |_::_,_::_,[],_,h=>by simp[An] at h
 |a::r,b::t,c::u,h,k=>by
  simp only[An] at h k⊢
  by_cases e1:a=b
  ·subst e1
   rw[if_pos rfl] at h
   by_cases e2:a=c
   ·subst e2;rw[if_pos rfl] at k⊢;exact Ds r t u h k
   ·rw[if_neg e2] at k⊢;exact k
  ·rw[if_neg e1] at h
   by_cases e2:b=c
   ·subst e2;rw[if_pos rfl] at k;rw[if_neg e1];exact h
   ·rw[if_neg e2] at k
    rw[decide_eq_true_eq] at h k
    rw[if_neg (by omega)]
    exact decide_eq_true (by omega)
theorem DA:∀a b:List Int,An a b=false->An b a=false->a=b
 |[],[],_,_=>rfl
 |[],_::_,h,_=>by simp[An] at h
 |_::_,[],_,h=>by simp[An] at h
 |a::r,b::t,h,k=>by
  simp only[An] at h k
  by_cases e:a=b
  ·subst e;rw[if_pos rfl] at h k;rw[DA r t h k]
  ·rw[if_neg e] at h;rw[if_neg (λq=>e q.symm)] at k
   rw[decide_eq_false_iff_not] at h k
   omega
theorem Il(a b c:List Int)(h:An a c=true):An a b=true\/An b c=true:=by
 cases h1:An a b
 ·cases h2:An b c
  ·exfalso
   cases h3:An b a
   ·have:=DA _ _ h1 h3;subst this;rw[h] at h2;cases h2
   ·have:=Ds _ _ _ h3 h;rw[this] at h2;cases h2
  ·exact .inr rfl
 ·exact .inl rfl
def IT:KeyOrd where
 α:=List Int
 blt:=An
 irrefl:=DP
 trans:=Ds
 negTrans:=Il
 total:=DA
section
variable {O:KeyOrd}{n:Nat}{f:Nat->O.α}{ask:Nat->Nat->(Bool->Shared->Prop)->Shared->Prop}{s:Shared}
def KF(f:Nat->O.α)(p:Array Nat)(k:Nat):O.α:=f (p.getD k 0)
def C7(f:Nat->O.α)(p:Array Nat)(k:Nat):Prop:=∀i j,i<=j->j<k->O.kle (KF f p i) (KF f p j)
def Gk(f:Nat->O.α)(p:Array Nat)(k:Nat):Prop:=∀i j,i<=j->j<k->O.kle (KF f p j) (KF f p i)
def PermN(n:Nat)(p:Array Nat):Prop:=p.Perm (List.range n).toArray
theorem PermN.size{p:Array Nat}(h:PermN n p):p.size=n:=by have:=h.size_eq;simpa using this
theorem PermN.lt{p:Array Nat}(h:PermN n p){k:Nat}(hk:k<n):p.getD k 0<n:=by
 have hk':k<p.size:=by rw[h.size];exact hk
 have:p.getD k 0∈p.toList:=by simp[Array.getD,hk']
 have:=(Array.perm_iff_toList_perm.mp h).mem_iff.mp this
 simpa using this
theorem FA{p q:Array Nat}{i j:Nat}(h:p[i]? =q[j]?):KF f p i=KF f q j:=by
 unfold KF;rw[Array.getD_eq_getD_getElem?,Array.getD_eq_getD_getElem?,h]
theorem KV{xs:Array Nat}{src d:Nat}(hs:src<xs.size)(hd:d<=src)(k:Nat):
 KF f (bubble xs src d) k=if k=src -d then KF f xs src else if src -d<k/\k<=src then KF f xs (k -1) else KF f xs k:=by
 have e:=getElem?_bubble hs d hd k
 by_cases h1:k=src -d
 ·rw[if_pos h1] at e⊢;exact FA e
 ·rw[if_neg h1] at e⊢
  by_cases h2:src -d<k/\k<=src
  ·rw[if_pos h2] at e⊢;exact FA e
  ·rw[if_neg h2] at e⊢;exact FA e
theorem NU{xs:Array Nat}{i j:Nat}(hj:j<=xs.size)(k:Nat):
 KF f (kas_rev xs i j) k=if i<=k/\k<j then KF f xs (i+j -1 -k) else KF f xs k:=by
 have e:=getElem?_mirror_all (i:=i) hj k
 unfold kas_rev
 by_cases h1:i<=k/\k<j
 ·rw[if_pos h1] at e⊢;exact FA e
 ·rw[if_neg h1] at e⊢;exact FA e
theorem Cu{xs:Array Nat}{i j:Nat}(hj:j<=xs.size)(heq:∀k,i<=k->k<j->KF f xs k=KF f xs (j -1))(k:Nat):
 KF f (kas_rev xs i j) k=KF f xs k:=by
 rw[NU hj]
 split
 ·rw[heq _ (by omega) (by omega),heq k (by omega) (by omega)]
 ·rfl
theorem PermN.rev{p:Array Nat}(h:PermN n p)(i j:Nat):PermN n (kas_rev p i j):=(mirror_perm _ _ _ _).trans h
theorem PermN.bub{p:Array Nat}(h:PermN n p)(i j:Nat):PermN n (bubble p i j):=(bubble_perm _ _ _).trans h
variable (hask:∀(i j:Nat)(C:Bool->Shared->Prop),i<n->j<n->C (O.blt (f i) (f j)) s->ask i j C s)
include hask
theorem QW{p:Array Nat}(hp:PermN n p){i j:Nat}{C:Bool->Shared->Prop}(hi:i<n)(hj:j<n)(h:C (O.blt (KF f p i) (KF f p j)) s):ask (p.getD i 0) (p.getD j 0) C s:=
 hask _ _ _ (hp.lt hi) (hp.lt hj) h
theorem S7{p:Array Nat}(hp:PermN n p){Q:Nat->Shared->Prop}:∀(fu a:Nat),1<=a->a+fu<=n->C7 f p a->
 (∀m,a<=m->m<=a+fu->C7 f p m->(m=a+fu\/O.klt (KF f p m) (KF f p (m -1)))->Q m s)->(kas_asc p fu a).kasWp ask Q s
 |0,a,h1,h2,hs,h=>h a (Nat.le_refl _) (by omega) hs (.inl rfl)
 |fu+1,a,h1,h2,hs,h=>by
  refine QW hask hp (by omega) (by omega) ?_
  cases hless:O.blt (KF f p a) (KF f p (a -1))
  case true=>
   simp only[if_true]
   exact h a (Nat.le_refl _) (by omega) hs (.inr hless)
  case false=>
   simp only[false_eq_true,if_false]
   refine S7 hp fu (a+1) (by omega) (by omega) (λi j hij hj=> ?_) λm m1 m2 m3 m4=>h m (by omega) (by omega) m3 (m4.imp (by omega) id)
   by_cases hjx:j<a
   ·exact hs i j hij hjx
   ·have hj':j=a:=by omega
    subst hj'
    by_cases hi':i=j
    ·subst hi';exact KeyOrd.kle_refl _
    ·exact KeyOrd.kle_trans (hs i (j -1) (by omega) (by omega)) hless
theorem PT{p:Array Nat}(hp:PermN n p){k:Nat}(h1:1<=k)(hk:k<=n)(hs:Gk f p k){Q:Nat×Array Nat->Shared->Prop}
 (h:∀m q,PermN n q->1<=m->m<=n->C7 f q m->Q (m,q) s):(kas_tail3 k n p).kasWp ask Q s:=by
 unfold kas_tail3
 rw[KasT.kasWp_bind]
 have hsz:k<=p.size:=by rw[hp.size];omega
 refine S7 hask (hp.rev 0 k) (n -k) k h1 (by omega) ?_ λm m1 m2 m3 _=>h m _ (hp.rev 0 k) (by omega) (by omega) m3
 intro i j hij hj
 rw[NU hsz,NU hsz,if_pos (by omega),if_pos (by omega)]
 exact hs _ _ (by omega) (by omega)
theorem N2{Q:Array Nat×Nat×Nat->Shared->Prop}:∀(fu:Nat)(p:Array Nat)(x neq:Nat),PermN n p->1<=x->x+fu<=n->Gk f p x->neq+1<=x->
 (∀i,x -(neq+1)<=i->i<x->KF f p i=KF f p (x -1))->
 (∀m q p',PermN n p'->x<=m->m<=x+fu->Gk f p' m->q+1<=m->(∀i,m -(q+1)<=i->i<m->KF f p' i=KF f p' (m -1))->Q (p',m,q) s)->(kas_desc fu p x neq).kasWp ask Q s
 |0,p,x,neq,hp,h1,h2,hs,hq,he,h=>h x neq p hp (Nat.le_refl _) (by omega) hs hq he
 |fu+1,p,x,neq,hp,h1,h2,hs',hq,he,h=>by
  have hsz:x<=p.size:=by rw[hp.size];omega
  refine QW hask hp (by omega) (by omega) ?_
  cases hless:O.blt (KF f p x) (KF f p (x -1))
  case true=>
   simp only[if_true]
   have step1:∀xs:Array Nat,(∀k,KF f xs k=KF f p k)->Gk f xs (x+1):=by
    intro xs hk i j hij hj
    rw[hk,hk]
    by_cases hjx:j<x
    ·exact hs' i j hij hjx
    ·have hj':j=x:=by omega
     subst hj'
     by_cases hi':i=j
     ·subst hi';exact KeyOrd.kle_refl _
     ·exact KeyOrd.kle_trans (KeyOrd.kle_of_klt hless) (hs' i (j -1) (by omega) (by omega))
   by_cases hneq:neq>0
   ·rw[if_pos hneq]
    exact N2 fu _ (x+1) 0 (hp.rev _ _) (by omega) (by omega) (step1 _ (Cu hsz he)) (by omega) (λi h1 h2=>by congr 1;omega) λm q p' a1 a2 a3 a4 a5 a6=>h m q p' a1 (by omega) (by omega) a4 a5 a6
   ·rw[if_neg hneq]
    exact N2 fu _ (x+1) 0 hp (by omega) (by omega) (step1 _ (λ_=>rfl)) (by omega) (λi h1 h2=>by congr 1;omega) λm q p' a1 a2 a3 a4 a5 a6=>h m q p' a1 (by omega) (by omega) a4 a5 a6
  case false=>
   simp only[false_eq_true,if_false]
   refine QW hask hp (by omega) (by omega) ?_
   cases hlarger:O.blt (KF f p (x -1)) (KF f p x)
   case true=>
    simp only[if_true]
    exact h x neq p hp (Nat.le_refl _) (by omega) hs' hq he
   case false=>
    simp only[false_eq_true,if_false]
    have heqx:KF f p x=KF f p (x -1):=KeyOrd.kle_antisymm hlarger hless
    refine N2 fu p (x+1) (neq+1) hp (by omega) (by omega) (λi j hij hj=> ?_) (by omega) (λi h1 h2=> ?_) λm q p' a1 a2 a3 a4 a5 a6=>h m q p' a1 (by omega) (by omega) a4 a5 a6
    ·by_cases hjx:j<x
     ·exact hs' i j hij hjx
     ·have hj':j=x:=by omega
      subst hj'
      by_cases hi':i=j
      ·subst hi';exact KeyOrd.kle_refl _
      ·rw[heqx];exact hs' i (j -1) (by omega) (by omega)
    ·rw[show x+1 -1=x by omega]
     by_cases hix:i=x
     ·subst hix;rfl
     ·rw[heqx];exact he i (by omega) (by omega)
theorem KO{p:Array Nat}(hp:PermN n p){k:Nat}(hk:k+1<=n)(hs:Gk f p (k+1)){Q:Nat×Array Nat->Shared->Prop}
 (h:∀m q,PermN n q->1<=m->m<=n->C7 f q m->Q (m,q) s):(kas_descPart k n p).kasWp ask Q s:=by
 unfold kas_descPart
 rw[KasT.kasWp_bind]
 refine N2 hask _ p (k+1) 0 hp (by omega) (by omega) hs (by omega) (λi h1 h2=>by congr 1;omega) λm neq p' hp' hm1 hm2 hs' hq he=> ?_
 have hsz:m<=p'.size:=by rw[hp'.size];omega
 dsimp only
 by_cases hneq:neq>0
 ·rw[if_pos hneq]
  refine PT hask (hp'.rev _ _) (by omega) (by omega) ?_ h
  intro i j hij hj
  rw[Cu hsz he,Cu hsz he]
  exact hs' i j hij hj
 ·rw[if_neg hneq]
  exact PT hask hp' (by omega) (by omega) hs' h
theorem S2{p:Array Nat}(hp:PermN n p)(h1:1<=n){Q:Nat×Array Nat->Shared->Prop}
 (h:∀m q,PermN n q->1<=m->m<=n->C7 f q m->Q (m,q) s):(kas_count n p).kasWp ask Q s:=by
 unfold kas_count
 rw[KasT.kasWp_bind]
 refine S7 hask hp (n -1) 1 (Nat.le_refl 1) (by omega) (λi j hij hj=>by have:i=j:=(by omega);subst this;exact KeyOrd.kle_refl _) λk hn1 hn2 hsn hor=> ?_
 by_cases hnn:k=n
 ·rw[if_pos (by simpa using hnn)]
  exact h k p hp hn1 (by omega) hsn
 ·rw[if_neg (by simpa using hnn)]
  have hlt:O.klt (KF f p k) (KF f p (k -1)):=hor.resolve_left (by omega)
  have hsz:k<=p.size:=by rw[hp.size];omega
  by_cases hgt:k>1
  ·rw[if_pos hgt]
   refine QW hask hp (by omega) (by omega) ?_
   cases hrose:O.blt (KF f p 0) (KF f p (k -1))
   case true=>
    simp only[if_true]
    exact h k p hp hn1 (by omega) hsn
   case false=>
    simp only[false_eq_true,if_false]
    have hall:∀j,0<=j->j<k->KF f p j=KF f p (k -1):=by
     intro j _ hj
     have a1:=hsn 0 j (by omega) hj
     have a2:=hsn j (k -1) (by omega) (by omega)
     exact KeyOrd.kle_antisymm a2 (KeyOrd.kle_trans hrose a1)
    refine KO hask (hp.rev _ _) (by omega) ?_ h
    intro i j hij hj
    rw[Cu hsz hall,Cu hsz hall]
    by_cases hjn:j<k
    ·rw[hall i (by omega) (by omega),hall j (by omega) hjn];exact KeyOrd.kle_refl _
    ·have hj':j=k:=by omega
     subst hj'
     by_cases hi':i=j
     ·subst hi';exact KeyOrd.kle_refl _
     ·rw[hall i (by omega) (by omega)];exact KeyOrd.kle_of_klt hlt
  ·rw[if_neg hgt]
   have hn1':k=1:=by omega
   subst hn1'
   refine KO hask hp (by omega) ?_ h
   intro i j hij hj
   by_cases hi':i=j
   ·subst hi';exact KeyOrd.kle_refl _
   ·have hi0:i=0:=by omega
    have hj1:j=1:=by omega
    subst hi0;subst hj1
    exact KeyOrd.kle_of_klt hlt
theorem Ms{p:Array Nat}(hp:PermN n p){k:Nat}(hk:k<n)(hs:C7 f p k){Q:Nat->Shared->Prop}
 (h:∀l,l<=k->(∀i,i<l->O.kle (KF f p i) (KF f p k))->(∀i,l<=i->i<k->O.klt (KF f p k) (KF f p i))->Q l s):
 ∀(fu l r:Nat),l<=r->r<=k->r -l<=fu->(∀i,i<l->O.kle (KF f p i) (KF f p k))->(∀i,r<=i->i<k->O.klt (KF f p k) (KF f p i))->(kas_place p k fu l r).kasWp ask Q s
 |0,l,r,h1,h2,h3,lo,hi=>by
  have:l=r:=by omega
  subst this
  exact h l h2 lo hi
 |fu+1,l,r,h1,h2,h3,lo,hi=>by
  unfold kas_place
  by_cases hge:l>=r
  ·rw[if_pos hge]
   have:l=r:=by omega
   subst this
   exact h l h2 lo hi
  ·rw[if_neg hge]
   refine QW hask hp hk (by omega) ?_
   cases hless:O.blt (KF f p k) (KF f p ((l+r)/2))
   case true=>
    simp only[if_true]
    exact Ms hp hk hs h fu l ((l+r)/2) (by omega) (by omega) (by omega) lo λi a b=>KeyOrd.klt_of_klt_of_kle hless (hs _ _ a b)
   case false=>
    simp only[false_eq_true,if_false]
    exact Ms hp hk hs h fu ((l+r)/2+1) r (by omega) (by omega) (by omega) (λi a=>KeyOrd.kle_trans (hs i ((l+r)/2) (by omega) (by omega)) (show O.kle _ _ from hless)) hi
theorem Tz{Q:Array Nat->Shared->Prop}(h:∀q,PermN n q->C7 f q n->Q q s):∀(fu:Nat)(p:Array Nat)(k:Nat),PermN n p->k+fu=n->C7 f p k->(kas_bin fu p k).kasWp ask Q s
 |0,p,k,hp,hk,hs=>by
  have:k=n:=by omega
  subst this
  exact h p hp hs
 |fu+1,p,k,hp,hk,hs=>by
  unfold kas_bin
  rw[KasT.kasWp_bind]
  refine Ms hask hp (by omega) hs (λl hlk hlo hhi=> ?_) k 0 k (by omega) (by omega) (by omega) (λi hi=>by omega) (λi h1 h2=>by omega)
  refine Tz h fu _ (k+1) (hp.bub _ _) (by omega) ?_
  have hks:k<p.size:=by rw[hp.size];omega
  intro i j hij hj
  rw[KV hks (by omega),KV hks (by omega),show k -(k -l)=l by omega]
  repeat' split
  all_goals first
   |(exfalso;omega)
   |exact KeyOrd.kle_refl _
   |exact hlo _ (by omega)
   |exact KeyOrd.kle_of_klt (hhi _ (by omega) (by omega))
   |exact hs _ _ (by omega) (by omega)
theorem TS(h1:1<=n){Q:Array Nat->Shared->Prop}(h:∀q,PermN n q->C7 f q n->Q q s):(kas_sort n).kasWp ask Q s:=by
 unfold kas_sort
 rw[KasT.kasWp_bind]
 refine S2 hask (Array.Perm.refl _) h1 λm q hq m1 m2 hs=> ?_
 dsimp only
 by_cases hlt:m<n
 ·rw[if_pos hlt]
  refine Tz hask h _ q _ hq (by omega) ?_
  rw[show max m 1=m by omega];exact hs
 ·rw[if_neg hlt]
  have:m=n:=by omega
  subst this
  exact h q hq hs
end
theorem C0:∀rs:List (List Int),(B0 rs).Perm rs
 |[]=> .refl _
 |x::r=>by
  have ins:∀l:List (List Int),(JZ x l).Perm (x::l):=λl=>by
   induction l with
   |nil=>exact .refl _
   |cons y t ih=>
    unfold JZ
    split
    ·exact .refl _
    ·exact(List.Perm.cons y ih).trans (.swap x y t)
  exact(ins _).trans (List.Perm.cons x (C0 r))
theorem Hh(x:List Int):∀l:List (List Int),l.Pairwise (λa b=>An b a=false)->(JZ x l).Pairwise (λa b=>An b a=false)
 |[],_=>by simp[JZ]
 |y::t,h=>by
  unfold JZ
  rw[List.pairwise_cons] at h
  split
  ·rename_i hlt
   rw[List.pairwise_cons]
   refine⟨λz hz=> ?_,by rw[List.pairwise_cons];exact h⟩
   rcases mem_cons.mp hz with rfl|hz
   ·exact KeyOrd.klt_asymm (O:=IT) hlt
   ·exact KeyOrd.kle_trans (O:=IT) (KeyOrd.klt_asymm (O:=IT) hlt) (h.1 z hz)
  ·rename_i hlt
   rw[List.pairwise_cons]
   refine⟨λz hz=> ?_,Hh x t h.2⟩
   have ins:∀l:List (List Int),∀z∈JZ x l,z=x\/z∈l:=λl=>by
    induction l with
    |nil=>intro z hz;simpa[JZ] using hz
    |cons y t ih=>
     intro z hz
     unfold JZ at hz
     split at hz
     ·simpa using hz
     ·rcases mem_cons.mp hz with rfl|hz
      ·simp
      ·rcases ih z hz with rfl|h'
       ·simp
       ·simp[h']
   rcases ins t z hz with rfl|hz
   ·simpa using hlt
   ·exact h.1 z hz
theorem Co:∀rs:List (List Int),(B0 rs).Pairwise (λa b=>An b a=false)
 |[]=> .nil
 |x::r=>Hh x _ (Co r)
theorem D3{l m:List (List Int)}(hp:l.Perm m)(hl:l.Pairwise (λa b=>An b a=false))(hm:m.Pairwise (λa b=>An b a=false)):l=m:=by
 refine List.Perm.eq_of_pairwise (λa b _ _ h1 h2=>DA _ _ h2 h1) hl hm hp
def RowsV(Z:FM):List (List Int)->List Value->Prop
 |[],vs=>vs=[]
 |k::ks,vs=>∃a r,vs= .ref a::r/\TKey Z k a/\RowsV Z ks r
theorem RowsV.length{Z:FM}:∀(rs:List (List Int))(vs:List Value),RowsV Z rs vs->vs.length=rs.length
 |[],vs,x=>by rw[RowsV] at x;subst x;rfl
 |k::ks,vs,x=>by rw[RowsV] at x;obtain⟨a,r,rfl,_,z⟩:=x;simp[RowsV.length ks r z]
theorem RowsV.get{Z:FM}:∀(rs:List (List Int))(vs:List Value),RowsV Z rs vs->∀i,i<rs.length->∃a,vs.getD i .none= .ref a/\TKey Z (rs.getD i []) a
 |[],vs,_,i,h=>by simp at h
 |k::ks,vs,x,i,h=>by
  rw[RowsV] at x;obtain⟨a,r,rfl,hk,z⟩:=x
  cases i with
  |zero=>exact⟨a,rfl,hk⟩
  |succ i=>simpa using RowsV.get ks r z i (by simpa using h)
theorem RowsV.of_get{Z:FM}:∀(rs:List (List Int))(vs:List Value),vs.length=rs.length->(∀i,i<rs.length->∃a,vs.getD i .none= .ref a/\TKey Z (rs.getD i []) a)->RowsV Z rs vs
 |[],vs,hl,_=>by rw[List.eq_nil_of_length_eq_zero hl];rw[RowsV]
 |k::ks,vs,hl,h=>by
  cases vs with
  |nil=>cases hl
  |cons v r=>
   obtain⟨a,e,hk⟩:=h 0 (by simp)
   simp at e hk
   subst e
   rw[RowsV]
   exact⟨a,r,rfl,hk,RowsV.of_get ks r (by simpa using hl) λi hi=>by simpa using h (i+1) (by simpa using hi)⟩
theorem RowsV.mono{Z Z':FM}(le:Z.le Z'):∀(rs:List (List Int))(vs:List Value),RowsV Z rs vs->RowsV Z' rs vs
 |[],vs,x=>by rw[RowsV] at x⊢;exact x
 |k::ks,vs,x=>by rw[RowsV] at x⊢;obtain⟨a,r,rfl,hk,z⟩:=x;exact⟨a,r,rfl,hk.mono le,RowsV.mono le ks r z⟩
theorem RowsV.rep{c:Cx}{Z:FM}:∀(rs:List (List Int))(vs:List Value),RowsV Z rs vs->RepL c Z (rs.map AD) vs
 |[],vs,x=>by rw[RowsV] at x;subst x;exact RepL.nil
 |k::ks,vs,x=>by rw[RowsV] at x;obtain⟨a,r,rfl,hk,z⟩:=x;exact RepL.cons (Pe hk) (RowsV.rep ks r z)
theorem RepL.rowsV{c:Cx}{Z:FM}:∀(xs:List D)(vs:List Value)(rs:List (List Int)),RepL c Z xs vs->DH xs=some rs->RowsV Z rs vs
 |[],vs,rs,x,e=>by cases e;rw[RepL] at x;rw[RowsV];exact x
 |d::ds,vs,rs,x,e=>by
  simp only[DH,bind_eq_bind,bind_eq_some_iff,Option.some.injEq] at e
  obtain⟨k,hk,r,hr,rfl⟩:=e
  rw[RepL] at x
  obtain⟨v,t,rfl,hv,z⟩:=x
  obtain⟨a,rfl,ha⟩:=GG hv hk
  rw[RowsV]
  exact⟨a,t,rfl,ha,RepL.rowsV ds t r z hr⟩
theorem RowsV.picked{Z:FM}{rs:List (List Int)}{vs:List Value}(x:RowsV Z rs vs){p:Array Nat}(hp:PermN rs.length p)(hs:C7 (O:=IT) (λi=>rs.getD i []) p rs.length):
 RowsV Z (B0 rs) (p.toList.map λi=>vs.getD i .none):=by
 have hsz:=hp.size
 have e:p.toList.map (λi=>rs.getD i [])=B0 rs:=by
  refine D3 ?_ ?_ (Co rs)
  ·have h1:=(Array.perm_iff_toList_perm.mp hp).map (λi=>rs.getD i [])
   refine(h1.trans ?_).trans (C0 rs).symm
   have:(List.range rs.length).map (λi=>rs.getD i [])=rs:=by
    apply List.ext_getElem (by simp)
    intro i h1 h2
    simp[h2]
   simpa using(List.Perm.of_eq this)
  ·rw[List.pairwise_map,List.pairwise_iff_getElem]
   intro i j hi hj hij
   have hi':i<p.size:=by simpa using hi
   have hj':j<p.size:=by simpa using hj
   have:=hs i j (by omega) (by omega)
   unfold KF KeyOrd.kle at this
   have e1:p.getD i 0=p.toList[i]:=by simp[Array.getD,hi']
   have e2:p.getD j 0=p.toList[j]:=by simp[Array.getD,hj']
   rw[e1,e2] at this
   exact this
 rw[<-e]
 refine RowsV.of_get _ _ (by simp) λi hi=> ?_
 have hi':i<p.size:=by simpa using hi
 have hlt:p.toList[i]'(by simpa using hi)<rs.length:=by
  have:=hp.lt (k:=i) (by omega)
  have e1:p.getD i 0=p.toList[i]'(by simpa using hi):=by simp[Array.getD,hi']
  rw[<-e1];exact this
 obtain⟨a,h1,h2⟩:=RowsV.get _ _ x (p.toList[i]'(by simpa using hi)) hlt
 refine⟨a,?_,?_⟩
 ·rw[<-h1];simp[hi']
 ·have:(List.map (λi=>rs.getD i []) p.toList).getD i []=rs.getD (p.toList[i]'(by simpa using hi)) []:=by simp[hi']
  rw[this];exact h2
section
variable {c:Cx}{A:Around}{L:Addr}{Z:FM}{s:Shared}
theorem MJ{prog:Program}{w:World}{E:Value->Shared->Prop}{a b:Int}{t u:Tok}{Q:Bool->Shared->Prop}(h:Q (decide (a=b)) s):wpAny (model prog w) A (eqBool (.int a t) (.int b u)) Q E s:=by
 refine wpAny_eqBool_int ?_
 have e:(a==b)=decide (a=b):=by by_cases hz:a=b<;>simp[hz]
 rw[e];exact h
theorem RQ{prog:Program}{w:World}{fin:Bool}{Q:Bool->Shared->Prop}{xs ys:List Value}{a b:List Int}(hx:IntsAre xs a)(hy:IntsAre ys b):∀(i:Nat),fin=decide (xs.length<ys.length)->Q (An a b) s->
 KatLex prog w A true fin Q (xs.zip ys) i s:=by
 induction hx generalizing ys b with
 |nil=>
  intro i hf hq
  cases hy with
  |nil=>refine kat_nil ?_;rw[hf];exact hq
  |cons m u hr=>refine kat_nil ?_;rw[hf];simpa[An] using hq
 |cons n t hr ih=>
  intro i hf hq
  cases hy with
  |nil=>refine kat_nil ?_;rw[hf];simpa[An] using hq
  |cons m u hr'=>
   refine kat_cons (MJ ?_)
   by_cases e:n=m
   ·subst e
    rw[show decide (n=n)=true by simp]
    refine kat_yes (ih hr' (i+1) (by rw[hf];simp) ?_)
    simpa[An] using hq
   ·rw[show decide (n=m)=false by simp[e]]
    refine kat_no ?_
    simp only[An,if_neg e] at hq
    cases hb:(true&&i==0)
    ·exact kat_one _ _ (lt_int hq)
    ·exact oneLt_int hq
theorem Se{D:Addr}{h h':Heap}(held:∀a o,Z a=some o->h.get? a=some o)(hZ:Z D=none)(hL:Z L=none)(k:∀b o,b≠D->b≠L->h.get? b=some o->h'.get? b=some o):∀a o,Z a=some o->h'.get? a=some o:=
 λa o e=>k a o (λq=>by rw[q,hZ] at e;cases e) (λq=>by rw[q,hL] at e;cases e) (held a o e)
theorem TKey.look{h:Heap}(held:∀a o,Z a=some o->h.get? a=some o){k:List Int}{a:Addr}(x:TKey Z k a):∃o xs n,h.get? a=some o/\o.cls= .type "tuple"/\o.data= .seq xs n/\IntsAre xs.toList k:=
 let⟨vs,⟨o,n,e,hc,hd⟩,i⟩:=x;⟨o,vs.toArray,n,held _ _ e,hc,hd,by simpa using i⟩
theorem RowsV.tups{h:Heap}(held:∀a o,Z a=some o->h.get? a=some o):∀(rs:List (List Int))(vs:List Value),RowsV Z rs vs->(∀r∈rs,r≠[])->∃fs,KatTups h vs fs/\fs.length=rs.length/\∀v∈fs,∃i t,v= .int i t
 |[],vs,x,_=>by rw[RowsV] at x;subst x;exact⟨[],.nil,rfl,by simp⟩
 |k::ks,vs,x,hn=>by
  rw[RowsV] at x;obtain⟨a,r,rfl,hk,z⟩:=x
  obtain⟨fs,h1,h2,h3⟩:=RowsV.tups held ks r z λr hr=>hn r (mem_cons_of_mem _ hr)
  obtain⟨o,xs,n,e,hc,hd,hi⟩:=hk.look held
  cases xs with|mk xl=> ?_
  cases hi with
  |nil=>exact absurd rfl (hn [] (mem_cons_self ..))
  |cons i t _=>
   exact⟨_,.cons e hc hd (f:= .int i t) rfl h1,by simp[h2],λv hv=>by
    rcases mem_cons.mp hv with rfl|hv
    ·exact⟨i,t,rfl⟩
    ·exact h3 v hv⟩
theorem S6{prog:Program}{w:World}{h:Heap}(held:∀a o,Z a=some o->h.get? a=some o){rs:List (List Int)}{vs:List Value}(x:RowsV Z rs vs)(i j:Nat)(C:Bool->Shared->Prop)(hi:i<rs.length)(hj:j<rs.length)
 {s:Shared} (hh:s.heap=h) (hC:C (An (rs.getD i []) (rs.getD j [])) s):kas_ask prog w A (tuples' true) vs i j C s:=by
 obtain⟨a,ea,ha⟩:=RowsV.get _ _ x i hi
 obtain⟨b,eb,hb⟩:=RowsV.get _ _ x j hj
 obtain⟨o,xs,n,e,hc,hd,hi⟩:=ha.look held
 obtain⟨o',ys,n',e',hc',hd',hi'⟩:=hb.look held
 unfold kas_ask
 rw[ea,eb]
 subst hh
 refine kat_lt e hd e' hd' (RQ hi hi' 0 ?_ hC)
 simp
theorem Hw{prog:Program}{w:World}{E:Value->Shared->Prop}{a:Addr}{vs:List Value}{n:Nat}{P:PySem.Fin->Shared->Prop}(ho:s.heap.get? a=some (seqObj "list" vs.toArray n))(h2:vs.length<2)
 (h:P (.done (.ret .none)) {s with heap:=sortedHeap s.heap a vs vs.toArray}):wpAny (model prog w) A (Builtin.«list.sort» ⟨[.ref a],[]⟩) P E s:=by
 have ha:a<s.heap.objs.size:=Heap.lt_size ho
 obtain⟨e1,ho1⟩:∃e1,(s.heap.update a (Obj.mapSeq λ_=> #[])).get? a=some (seqObj "list" #[] e1):=⟨_,get?_update_seq ho (λ_=> #[])⟩
 have ho6:(((s.heap.update a (Obj.mapSeq λ_=> #[])).push (seqObj "tuple" vs.toArray 0)).push (seqObj "list" #[] 0)).get? a=some (seqObj "list" #[] e1):=by
  rw[Heap.get?_push_ne _ _ _ (by rw[size_push',Heap.size_update];exact Nat.ne_of_lt (Nat.lt_succ_of_lt ha)),Heap.get?_push_ne _ _ _ (by rw[Heap.size_update];exact Nat.ne_of_lt ha)]
  exact ho1
 have hz:vs.toArray.size<=sizeLine:=by rw[size_toArray,sizeLine_eq];omega
 have h2':vs.toArray.size<2:=by rw[size_toArray];exact h2
 have hsnd:(vs.toArray.zip vs.toArray).map (·.2)=vs.toArray:=by
  apply Array.toList_inj.mp
  simp[List.map_snd_zip]
 rw[list_sort_plain]
 refine wpAny_bind (listItems_at ho rfl (wpAny_bind (listUpdate_at ho rfl ?_ hz (zero_le _))))
 refine wpAny_bind (seqEpoch_at ho1 rfl (wpAny_bind (wpAny_newTuple ?_ (by rw[Array.length_toList];exact hz))))
 refine wpAny_bind (wpAny_newList (wpAny_holding ?_) (zero_le _))
 show wpAny (model prog w) A _ P E {s with heap:=((s.heap.update a (Obj.mapSeq λ_=> #[])).push (seqObj "tuple" vs.toArray 0)).push (seqObj "list" #[] 0)}
 dsimp only
 rw[if_pos h2',if_pos h2']
 refine wpAny_bind (wpAny_pure ?_)
 rw[StateT.run_pure]
 refine wpAny_bind (wpAny_pure ?_)
 dsimp only
 refine wpAny_bind (seqEpoch_at ho6 rfl (wpAny_bind (listUpdate_at ho6 rfl ?_ (zero_le _) (by show((vs.toArray.zip vs.toArray).map (·.2)).size<=_;rw[hsnd];omega))))
 simp only[bne_self_eq_false,false_eq_true,if_false]
 refine wpAny_pure ?_
 have e:arrOf (SortSt.mk' general' (vs.toArray.zip vs.toArray) #[] 7 none)=vs.toArray.zip vs.toArray:=rfl
 rw[e,hsnd]
 exact h
end
def M8(L D:Addr)(h:Heap):List (Addr×Obj):=(led L h).filter λp=>decide (p.1≠D)
theorem led2_mem{L D:Addr}{h:Heap}{a:Addr}{o:Obj}:(a,o)∈M8 L D h↔a≠D/\a≠L/\h.get? a=some o:=by
 unfold M8
 rw[mem_filter,led_mem]
 simp only[decide_eq_true_eq]
 constructor
 ·rintro⟨⟨h1,h2⟩,h3⟩;exact⟨h3,h1,h2⟩
 ·rintro⟨h1,h2,h3⟩;exact⟨⟨h2,h3⟩,h1⟩
theorem Og{L D:Addr}{h:Heap}{o:Obj}(e:h.get? D=some o)(n:D≠L):News {} L h ((D,o)::M8 L D h):=λp hp=>by
 rcases mem_cons.mp hp with rfl|hp
 ·exact⟨e,n,rfl⟩
 ·obtain⟨a,ob⟩:=p
  obtain⟨h1,h2,h3⟩:=led2_mem.mp hp
  exact⟨h3,h2,rfl⟩
theorem Lv{L D:Addr}{h:Heap}{o:Obj}:UpdF D o ((D,o)::M8 L D h) (λo'=>(D,o')::M8 L D h):= .head λp hp=>by
 obtain⟨a,ob⟩:=p;exact(led2_mem.mp hp).1
theorem J5{L D:Addr}{h h':Heap}{o':Obj}(N:News {} L h' ((D,o')::M8 L D h)):∀b o,b≠D->b≠L->h.get? b=some o->h'.get? b=some o:=
 λb o n1 n2 e=>(N (b,o) (mem_cons_of_mem _ (led2_mem.mpr ⟨n1,n2,e⟩))).1
theorem RE{L:Addr}{h h':Heap}{m m':Str->Option Value}(x:h.Ns L m)(x':h'.Ns L m)(y:h.Ns L m'):h'.Ns L m':=by
 obtain⟨o1,es1,ep1,a1,b1,c1,d1⟩:=x'
 obtain⟨o2,es2,ep2,a2,b2,c2,d2⟩:=x
 obtain⟨o3,es3,ep3,a3,b3,c3,d3⟩:=y
 rw[a2] at a3;cases a3
 rw[b2] at b3;cases b3
 exact⟨o1,es1,ep1,a1,b1,c1,λx=>(d1 x).trans ((d2 x).symm.trans (d3 x))⟩
theorem LL:∀{rs:List (List Int)},rs.length<2->B0 rs=rs
 |[],_=>rfl
 |[r],_=>rfl
 |_::_::_,h=>absurd h (by simp)
section
variable {c:Cx}{A:Around}{L:Addr}{Z:FM}{s:Shared}
theorem P2{E:Value->Shared->Prop}{Q:Value->Shared->Prop}(h:At L Z s){D:Addr}{vs:List Value}{rs:List (List Int)}{n:Nat}(ho:s.heap.get? D=some (seqObj "list" vs.toArray n))(hZ:Z D=none)(hDL:D≠L)
 (x:RowsV Z rs vs) (hne:∀r∈rs,r≠[]) (h64:rs.length<64)
 (k:∀h' e us,(∀b o,b≠D->b≠L->s.heap.get? b=some o->h'.get? b=some o)->(∀m,s.heap.Ns L m->h'.Ns L m)->h'.get? D=some (seqObj "list" us.toArray e)->RowsV Z (B0 rs) us->Q .none {s with heap:=h'}):
 wpAny (model c.prog c.w) A (call (.builtin "list.sort") [.ref D]) Q E s:=by
 obtain⟨m,hm⟩:=h.ns
 have hl:=RowsV.length _ _ x
 by_cases h2:vs.length<2
 ·refine wpAny_call_entry slot_list_sort ⟨_,ho,rfl⟩ entry_list_sort (Hw ho h2 ⟨_,rfl,?_⟩) (args_list_sort _)
  obtain⟨e,he⟩:=sortedHeap_at (out:=vs.toArray) ho
  have kp:∀b o,b≠D->s.heap.get? b=some o->(sortedHeap s.heap D vs vs.toArray).get? b=some o:=λb o hb q=>by rw[sortedHeap_old hb (Heap.lt_size q)];exact q
  refine k _ e vs (λb o n1 _ q=>kp b o n1 q) (λm hm=>hm.at' λo q=>kp L o (Ne.symm hDL) q) he ?_
  rw[LL (by rw[<-hl];exact h2)];exact x
 ·refine kat_lsort (g:=λo'=>(D,o')::M8 L D s.heap) (its:=vs.toArray) (n:=n) (HF hm) (Og ho hDL) Lv rfl (Nat.le_of_not_lt h2) (by rw[hl];exact h64) λe1 h' F' N'=> ?_
  have held':∀a o,Z a=some o->h'.get? a=some o:=Se h.held hZ h.zL (J5 N')
  obtain⟨fs,f1,f2,f3⟩:=RowsV.tups held' _ _ x hne
  refine kat_kind (T:= .type "int") (s:={s with heap:=h'}) f1 (by omega) (λv hv=> ?_) rfl ?_
  ·obtain⟨i,t,rfl⟩:=f3 v hv
   exact .of_pure rfl
  ·show(kas_sort vs.length).kasWp _ _ _
   rw[hl]
   refine TS (O:=IT) (n:=rs.length) (f:=λi=>rs.getD i []) (λi j C hi hj hC=>S6 held' x i j C hi hj rfl hC) (by omega) λp hp hs=> ?_
   refine KasFin.intro F' N' Lv λh'' c' F'' N''=> ?_
   exact k h'' c' _ (J5 N'') (λm' hm'=>RE hm F''.ns hm') (N'' _ (mem_cons_self ..)).1 (x.picked hp hs)
theorem HW{E:Value->Shared->Prop}{Q:Value->Shared->Prop}(h:At L Z s){vs:List Value}{rs:List (List Int)}(x:RowsV Z rs vs)(hne:∀r∈rs,r≠[])(h64:rs.length<64)
 (k:∀v Z' s',Ext L Z s Z' s'->Rep c Z' (.list ((B0 rs).map AD)) v->Q v s'):
 wpAny (model c.prog c.w) A (do let l<-newList vs;let _<-holding [l] (call (.builtin "list.sort") [l]);ret l) (λfin s'=>∃r,fin= .done (.ret r)/\Q r s') E s:=by
 have hl:=RowsV.length _ _ x
 have hL:L<s.heap.objs.size:=let⟨_,_,_,_,e,_⟩:=h.ns;Heap.lt_size e
 refine wpAny_bind (wpAny_newList ?_ (by rw[sizeLine_eq];omega))
 refine wpAny_bind (wpAny_holding ?_)
 have hz:Z s.heap.objs.size=none:=by cases q:Z s.heap.objs.size with
  |none=>rfl
  |some o=>exact absurd (Heap.lt_size (h.held _ _ q)) (Nat.lt_irrefl _)
 have h1:At L Z {s with heap:=s.heap.push (seqObj "list" vs.toArray 0)}:=⟨λa o e=>Heap.get?_push_of_some _ (h.held a o e),h.zL,let⟨m,hm⟩:=h.ns;⟨m,hm.at' λo e=>Heap.get?_push_of_some _ e⟩⟩
 refine P2 (c:=c) h1 (D:=s.heap.objs.size) (vs:=vs) (n:=0) (Heap.get?_push_size _ rfl) hz (Nat.ne_of_gt hL) x hne h64 λh' e us k1 k2 k3 k4=> ?_
 have X:Ext L Z s (Z.add s.heap.objs.size (seqObj "list" us.toArray e)) {s with heap:=h'}:=
  Ext.oneL h.held h.zL (Ab _) k3 (λa o n q=>k1 a o (Nat.ne_of_lt (Heap.lt_size q)) n (Heap.get?_push_of_some _ q)) (λm hm=>k2 m (hm.at' λo e=>Heap.get?_push_of_some _ e)) rfl rfl
 exact wpAny_pure ⟨_,rfl,k _ _ _ X (CD (vs:=us) ⟨e,FM.add_self ..⟩ (RowsV.rep _ _ (RowsV.mono X.le _ _ k4)))⟩
theorem JW(h:At L Z s){xs:List D}{rs:List (List Int)}{v:Value}(r:Rep c Z (.list xs) v)(e:DH xs=some rs)(hne:∀r∈rs,r≠[])(h64:rs.length<64):
 BI c A L Z s (call (.builtin "sorted") [v]) (.list ((B0 rs).map AD)):=λQ E k=>by
 rw[Rep] at r
 obtain⟨a,vs,rfl,t,l⟩:=r
 have x:=RepL.rowsV _ _ _ l e
 have hl:=RowsV.length _ _ x
 refine Calls.call_function_entry kind_sorted plain_sorted entry_sorted (args_sorted1 _) ?_
 unfold Builtin.«sorted»
 refine wpAny_bind (m:=checkCount "sorted" 1 1 _) (wpAny_pure ?_)
 refine wpAny_bind (collect_list (t.isList h) ?_ (by rw[sizeLine_eq];omega))
 have kp:∀b o,s.heap.get? b=some o->((s.heap.push (seqObj "list" #[] 0)).update s.heap.objs.size (Obj.mapSeq (· ++vs.toArray))).get? b=some o:=λb o q=>by
  have hlt:b<s.heap.objs.size:=Heap.lt_size q
  rw[Heap.get?_update_ne _ _ _ _ (Nat.ne_of_lt hlt),Heap.get?_push_ne _ _ _ (Nat.ne_of_lt hlt)]
  exact q
 have X:=Ext.same (L:=L) (s':={s with heap:=(s.heap.push (seqObj "list" #[] 0)).update s.heap.objs.size (Obj.mapSeq (· ++vs.toArray))}) h.held kp rfl rfl
 have h1:At L Z {s with heap:=(s.heap.push (seqObj "list" #[] 0)).update s.heap.objs.size (Obj.mapSeq (· ++vs.toArray))}:=⟨X.held,h.zL,let⟨m,hm⟩:=h.ns;⟨m,X.ns m hm⟩⟩
 refine HW (c:=c) h1 x hne h64 λv Z' s' X' rp=>k v Z' s' (X.trans X' ?_) rp
 cases q:Z' L with
 |none=>rfl
 |some o=>
  rcases X'.new _ _ q with hh|hh
  ·rw[h.zL] at hh;cases hh
  ·obtain⟨_,o',_,_,e',_⟩:=h1.ns;rw[e'] at hh;cases hh
theorem GI(h:At L Z s)(hh:A.handled=none){T:String}{r d:Addr}{n:Nat}{P:Nat->Value->Prop}{OK:Heap->Prop}(K:KdlSrc c.prog c.w T r d n P OK)(hok:OK s.heap){rs:List (List Int)}(hn:n=rs.length)
 (hP:∀i v,i<n->P i v->∃a,v= .ref a/\TKey Z (rs.getD i []) a) (hne:∀r∈rs,r≠[]) (h64:rs.length<64):
 BI c A L Z s (call (.builtin "sorted") [.ref r]) (.list ((B0 rs).map AD)):=λQ E k=>by
 refine Calls.call_function_entry kind_sorted plain_sorted entry_sorted (args_sorted1 _) ?_
 unfold Builtin.«sorted»
 refine wpAny_bind (m:=checkCount "sorted" 1 1 _) (wpAny_pure ?_)
 refine wpAny_bind (kdu_collect (A:=A.in1) K hh hok (by rw[sizeLine_eq];omega) λh' tk acc kp hacc=> ?_)
 have X:=Ext.same (L:=L) (s':={s with heap:=h',toks:=tk}) h.held kp rfl rfl
 have h1:At L Z {s with heap:=h',toks:=tk}:=⟨X.held,h.zL,let⟨m,hm⟩:=h.ns;⟨m,X.ns m hm⟩⟩
 have x:RowsV Z rs acc.toList:=RowsV.of_get _ _ (by rw[Array.length_toList,hacc.1,hn]) λi hi=>by
  have hi':i<acc.size:=by rw[hacc.1];omega
  obtain⟨a,e,ha⟩:=hP i acc[i] (by omega) (hacc.2 i _ (by simp[hi']))
  exact⟨a,by simp[hi',e],ha⟩
 refine HW (c:=c) h1 x hne h64 λv Z' s' X' rp=>k v Z' s' (X.trans X' ?_) rp
 cases q:Z' L with
 |none=>rfl
 |some o=>
  rcases X'.new _ _ q with hh|hh
  ·rw[h.zL] at hh;cases hh
  ·obtain⟨_,o',_,_,e',_⟩:=h1.ns;rw[e'] at hh;cases hh
end
def RawDict(h:Heap)(d:Addr)(es:Array DictEntry)(ep:Nat):Prop:=∃o,h.get? d=some o/\o.ExactDict/\o.data= .dict es ep
theorem RawDict.at{h h':Heap}{d:Addr}{es:Array DictEntry}{ep:Nat}(x:RawDict h d es ep)(k:∀o,h.get? d=some o->h'.get? d=some o):RawDict h' d es ep:=let⟨o,e,r⟩:=x;⟨o,k o e,r⟩
theorem RawDict.typeIs{s:Shared}{d:Addr}{es:Array DictEntry}{ep:Nat}(x:RawDict s.heap d es ep):s.TypeIs (.ref d) "dict" :=let⟨o,e,hc,_⟩:=x;⟨o,e,hc.1⟩
section
variable {prog:Program}{w:World}{A:Around}{E:Value->Shared->Prop}{s:Shared}{it d:Addr}{es:Array DictEntry}{ep i:Nat}
theorem Q6{Q:Value->Shared->Prop}(hd:(d==sysModules)=false)(hm:RawDict s.heap d es ep)
 (hQ:Q (.ref s.heap.objs.size) {s with heap:=s.heap.push {cls:= .type "dict_keyiterator",data:= .fields #[.ref d,.int 0 0,.int es.size 0,.int ep 0]}}):
 wpAny (model prog w) A (pyIter (.ref d)) Q E s:=by
 have hT:=hm.typeIs
 obtain⟨o,ho,hc,hdat⟩:=hm
 refine wpAny_pyIter_slot hT F.slot_dict_iter (wpAny_call_entry F.slot_dict_iter hT F.entry_dict_iter ?_ (F.args_dict_iter_1 _))
 unfold Builtin.«dict.__iter__» Builtin.Dict.dictSlotNone
 refine wpAny_bind (wpAny_bind (wpAny_notOrdered_dict hT ?_))
 show wpAny _ _ (pure (Value.ref d)) _ _ s
 refine wpAny_pure ?_
 show wpAny _ _ (Builtin.Dict.showsAll d>>=_) _ _ s
 unfold Builtin.Dict.showsAll
 rw[if_neg (by rw[hd];exact Bool.false_ne_true)]
 refine wpAny_bind (wpAny_pure (wpAny_bind (wpAny_dictEntries ho hdat (wpAny_bind (wpAny_dictEpoch ho hdat ?_)))))
 refine wpAny_bind (wpAny_newObj_type (wpAny_pure ⟨_,rfl,"dict_keyiterator",_,⟨_,Heap.get?_push_size _ rfl,rfl⟩,F.slot_dict_keyiterator_next.lookup,?_⟩))
 simpa[rawInt] using hQ
theorem Q5{Q:Option Value->Shared->Prop}{e:DictEntry}(hit:s.heap.IsKeyIter it d i es.size ep)(hm:RawDict s.heap d es ep)(hx:es[i]? =some e)
 (hQ:∀h',h'.IsKeyIter it d (i+1) es.size ep->Heap.SameBut it s.heap h'->Q (some e.key) {s with heap:=h'}):wpAny (model prog w) A (pyNext (.ref it)) Q E s:=by
 obtain⟨o,ho,hc,hd⟩:=id hit
 obtain⟨od,hod,hcd,hdd⟩:=hm
 have hlt:i<es.size:=(Array.getElem?_eq_some_iff.mp hx).1
 unfold pyNext
 refine wpAny_bind (wpAny_attempt (wpAny_callSpecial?_slot (name:=Str.ofString "__next__") hit.typeIs F.slot_dict_keyiterator_next
  (wpAny_call_entry F.slot_dict_keyiterator_next hit.typeIs F.entry_dict_keyiterator_next ?_ (F.args_dict_keyiterator_next_1 _))))
 refine wpAny_bind (wpAny_pure (wpAny_bind (wpAny_bind ?_)))
 first|refine wpAny_bind (wpAny_typeNameOfWhole_keyiter hit.typeIs (wpAny_pure ?_))|refine wpAny_bind (wpAny_typeNameOf_keyiter hit.typeIs (wpAny_pure ?_))
 refine wpAny_bind (wpAny_fieldsOf ho hd ?_)
 have hown:Builtin.Dict_items.ownsTuple "dict_keyiterator" =false:=by decide
 simp only[hown,false_eq_true,if_false]
 show wpAny _ _ (if(Value.ref d==Value.none)=true then _ else _) _ _ s
 rw[if_neg (show ¬((Value.ref d==Value.none)=true) from Bool.false_ne_true)]
 refine wpAny_bind (wpAny_pure (wpAny_bind (wpAny_dictEntries hod hdd ?_)))
 rw[if_neg (by simp)]
 refine wpAny_bind (wpAny_pure (wpAny_bind (wpAny_dictEpoch hod hdd ?_)))
 rw[if_neg (by simp)]
 refine wpAny_pure ?_
 simp only[show ¬((i:Int)<0) from by omega,if_false,Int.toNat_natCast,hx]
 refine wpAny_bind ?_
 first|refine wpAny_bind (wpAny_typeNameOfWhole_keyiter hit.typeIs (wpAny_pure ?_))|refine wpAny_bind (wpAny_typeNameOf_keyiter hit.typeIs (wpAny_pure ?_))
 refine wpAny_bind (wpAny_isOneOf_keyiter hit.typeIs ?_)
 show wpAny _ _ (setField (.ref it) 1 (rawInt ((i:Int)+1))>>=_) _ _ s
 refine wpAny_bind (wpAny_setField ho hd (by simp) ?_)
 have hit':(s.heap.update it (Obj.mapFields (·.setIfInBounds 1 (rawInt ((i:Int)+1))))).IsKeyIter it d (i+1) es.size ep:=
  ⟨_,Heap.get?_update_self _ ho (Obj.isFreed_of_fields (Obj.data_mapFields hd _)),(Obj.cls_mapFields ..).trans hc,by rw[Obj.data_mapFields hd];simp[rawInt]⟩
 refine wpAny_bind (wpAny_holding ?_)
 refine wpAny_bind (wpAny_isOneOf_keyiter (s:={s with heap:=s.heap.update it (Obj.mapFields (·.setIfInBounds 1 (rawInt ((i:Int)+1))))}) hit'.typeIs ?_)
 show wpAny _ _ (pure e.key) _ _ _
 exact wpAny_pure (wpAny_pure ⟨_,rfl,wpAny_pure (hQ _ hit' (Heap.SameBut.update ..))⟩)
theorem SQ{Q:Option Value->Shared->Prop}(hh:A.handled=none)(hit:s.heap.IsKeyIter it d es.size es.size ep)(hm:RawDict s.heap d es ep)
 (hQ:∀h',Heap.ExtBut it s.heap h'->Q none {s with heap:=h'}):wpAny (model prog w) A (pyNext (.ref it)) Q E s:=by
 obtain⟨o,ho,hc,hd⟩:=id hit
 obtain⟨od,hod,hcd,hdd⟩:=hm
 unfold pyNext
 refine wpAny_bind (wpAny_attempt (wpAny_callSpecial?_slot (name:=Str.ofString "__next__") hit.typeIs F.slot_dict_keyiterator_next
  (wpAny_call_entry F.slot_dict_keyiterator_next hit.typeIs F.entry_dict_keyiterator_next ?_ (F.args_dict_keyiterator_next_1 _))))
 refine wpAny_bind (wpAny_pure (wpAny_bind (wpAny_bind ?_)))
 first|refine wpAny_bind (wpAny_typeNameOfWhole_keyiter hit.typeIs (wpAny_pure ?_))|refine wpAny_bind (wpAny_typeNameOf_keyiter hit.typeIs (wpAny_pure ?_))
 refine wpAny_bind (wpAny_fieldsOf ho hd ?_)
 have hown:Builtin.Dict_items.ownsTuple "dict_keyiterator" =false:=by decide
 simp only[hown,false_eq_true,if_false]
 show wpAny _ _ (if(Value.ref d==Value.none)=true then _ else _) _ _ s
 rw[if_neg (show ¬((Value.ref d==Value.none)=true) from Bool.false_ne_true)]
 refine wpAny_bind (wpAny_pure (wpAny_bind (wpAny_dictEntries hod hdd ?_)))
 rw[if_neg (by simp)]
 refine wpAny_bind (wpAny_pure (wpAny_bind (wpAny_dictEpoch hod hdd ?_)))
 rw[if_neg (by simp)]
 refine wpAny_pure ?_
 simp only[show ¬((es.size:Int)<0) from by omega,if_false,Int.toNat_natCast,Array.getElem?_eq_none (Nat.le_refl es.size)]
 refine wpAny_bind ?_
 first|refine wpAny_bind (wpAny_typeNameOfWhole_keyiter hit.typeIs (wpAny_pure ?_))|refine wpAny_bind (wpAny_typeNameOf_keyiter hit.typeIs (wpAny_pure ?_))
 show wpAny _ _ (setField (.ref it) 0 .none>>=_) _ _ s
 refine wpAny_bind (wpAny_setField ho hd (by simp) ?_)
 show wpAny _ _ (newExc (.type "StopIteration") []>>=_) _ _ _
 refine wpAny_bind ?_
 simp only[newExc,newTuple]
 refine wpAny_bind (wpAny_newObj_type ?_ (by size_fits))
 refine wpAny_bind (m:=firstArgMember _ _) (wpAny_of_eq (a:=Value.none) (by first|rfl|(simp only[firstArgMember];rfl)) ?_)
 refine wpAny_newObj_type ?_ (by size_fits)
 simp only[raiseNew]
 refine wpAny_bind (wpAny_handled ?_)
 rw[show A.in1.handled=none from hh]
 refine wpAny_bind (wpAny_pure (wpAny_throw ?_))
 refine wpAny_bind (wpAny_isInstance (T:= "StopIteration") (b:=true) ⟨_,Heap.get?_push_size _ rfl,rfl⟩ isSubtype_stop ?_)
 exact wpAny_pure (hQ _ (((Heap.SameBut.update ..).extBut.push _).push _))
theorem Pf(hh:A.handled=none)(I d:Addr)(hne:d≠I)(es:Array DictEntry)(ep:Nat):
 Walks prog w A I [I,d] [I] es.size (λi v=>∃e,es[i]? =some e/\v=e.key) (λi h=>h.IsKeyIter I d i es.size ep/\RawDict h d es ep) where
 sub:=λb hb=>by simp at hb;simp[hb]
 frame:=λ_ _ _ st hk=>⟨st.1.at λo e=>hk I (by simp) o e,st.2.at λo e=>hk d (by simp) o e⟩
 item:=λi s Q E hi st hQ=>by
  refine Q5 st.1 st.2 (e:=es[i]) (by simp[hi]) λh' hit' hs'=> ?_
  exact hQ _ h' s.toks ⟨_,by simp[hi],rfl⟩ ⟨hit',st.2.at λo e=>hs'.extBut d o hne e⟩ λb o hb e=>hs'.extBut b o (λh=>hb (by simp[h])) e
 done:=λs Q E st hQ=>SQ hh st.1 st.2 λh' he'=>hQ h' s.toks λb o hb e=>he' b o (λh=>hb (by simp[h])) e
 self:=λ_ _ _ _ st hQ=>wpAny_pyIter_keyiter st.1 hQ
theorem SP(lo:(d==sysModules)=false):KdlSrc prog w "dict" d d es.size (λi v=>∃e,es[i]? =some e/\v=e.key) (λh=>RawDict h d es ep) where
 type:=λ_ hm=>hm.typeIs
 there:=λ_ hm=>let⟨_,e,_⟩:=hm;⟨Heap.lt_size e,Heap.lt_size e⟩
 keep:=λ_ _ hm hk=>hm.at λo e=>hk d (.inl rfl) o e
 notList:=by decide
 notTuple:=by decide
 hint:=λ_ _ _ _ hm hq=>kdl_hint_dict hm.typeIs hq
 iter:=λ_ s hh hm=>⟨_,_,(λ_ _ hq=>Q6 lo hm hq),Pf hh _ d (let⟨_,e,_⟩:=hm;Nat.ne_of_lt (Heap.lt_size e)) es ep,
  ⟨⟨_,Heap.get?_push_size _ rfl,rfl,rfl⟩,hm.at λo e=>Heap.get?_push_of_some _ e⟩⟩
end
section
variable {c:Cx}{A:Around}{L:Addr}{Z:FM}{s:Shared}
theorem RepT.keys:∀(es:List (List Int×D))(xs:List (List Int×Addr×Value)),RepT c Z es xs->xs.map (·.1)=es.map (·.1)
 |[],xs,x=>by rw[RepT] at x;subst x;rfl
 |(k,d)::r,xs,x=>by rw[RepT] at x;obtain⟨a,v,r',rfl,_,z⟩:=x;simp[RepT.keys r r' z]
theorem JX(h:At L Z s)(hh:A.handled=none){es:List (List Int×D)}{v:Value}(r:Rep c Z (.dictT es) v)(hne:∀r∈es.map (·.1),r≠[])(h64:es.length<64):
 BI c A L Z s (call (.builtin "sorted") [v]) (.list ((B0 (es.map (·.1))).map AD)):=by
 rw[Rep] at r
 obtain⟨a,xs,rfl,⟨lo,o,en,ep,e,hx,hd,he,hk,_⟩,hr⟩:=r
 have kk:=RepT.keys _ _ hr
 have hsz:en.size=xs.length:=by rw[<-Array.length_toList,he,length_map]
 have hl:xs.length=es.length:=by have:=congrArg List.length kk;simpa using this
 refine GI (c:=c) h hh (SP (es:=en) (ep:=ep) (Cc lo)) ⟨o,h.held _ _ e,hx,hd⟩ (rs:=es.map (·.1)) (by rw[hsz,hl,length_map]) (λi v hi hP=> ?_) hne (by rw[length_map];exact h64)
 obtain⟨en',h1,rfl⟩:=hP
 have hi':i<xs.length:=by omega
 rw[<-Array.getElem?_toList,he,List.getElem?_map,getElem?_eq_getElem hi'] at h1
 cases h1
 refine⟨xs[i].2.1,rfl,?_⟩
 have:(es.map (·.1)).getD i []=xs[i].1:=by rw[<-kk];simp[hi']
 rw[this]
 exact hk _ (List.getElem_mem hi')
end
theorem FZ:entryFor table "dict.update.loop" =some Builtin.«dict.update.loop» :=entryFor_of_tree (by kernel_rfl)
theorem C5:plainId "dict.update.loop" =true:=by decide+kernel
theorem MD:typeLookup (.type "list") "keys" =pure none:=by rw[typeLookup_type,builtinLookup_eq_fast];kernel_rfl
section
variable {prog:Program}{w:World}{A:Around}{E:Value->Shared->Prop}{s:Shared}
theorem Ki{a:Addr}{xs:Array Value}{k:Nat}{Q:Option Value->Shared->Prop}(hx:s.heap.get? a=some {cls:= .type "list",data:= .seq xs k})(hA:A.handled=none)
 (h:∀h' tk,(∀b o,s.heap.get? b=some o->h'.get? b=some o)->Q none {s with heap:=h',toks:=tk}):wpAny (model prog w) A (getAttr? (.ref a) "keys") Q E s:=by
 obtain⟨hp,g,d,tk,os⟩:=s
 have hT:∀tk',(⟨hp,g,d,tk',os⟩:Shared).TypeIs (.ref a) "list" :=λ_=>⟨_,hx,rfl⟩
 have f1:=sub_AttributeError
 have f3:=PySem.F.slot_list_getattribute.lookup
 have f4:=PySem.F.slot_list_getattribute.bind (.ref a)
 have f5:=am_list_getattr_none
 unfold getAttr? getAttrBy? getAttrBy
 repeat(any_goals (first|assumption|exact hT _|((with_reducible show wpAny _ _ (call (Value.builtin "list.__getattribute__") _ _) _ _ _);refine call_meets PySem.F.slot_list_getattribute (hT _) am_entry_list_getattribute (PySem.F.args_list_getattribute_2 _ _) (meets_getattribute_miss_list a xs k #[] "keys" _ MD (by decide+kernel) (by rw[sizeLine_eq];decide+kernel)) ⟨hx,hA,λh' tk' e hx'=> ?_⟩)|wp_step))
 obtain⟨t',u',he⟩:=hx'.there
 show wpAny _ _ (getattributeRaised _ _ _ _ _ _ _) _ _ _
 unfold getattributeRaised
 repeat(any_goals (first|assumption|wp_step))
 exact h _ _ hx'.of.keeps
end
section
variable {c:Cx}{A:Around}{L:Addr}{Z:FM}{s:Shared}
theorem RepT.append:∀(es:List (List Int×D))(xs:List (List Int×Addr×Value)){k:List Int}{d:D}{a:Addr}{v:Value},RepT c Z es xs->Rep c Z d v->RepT c Z (es++[(k,d)]) (xs++[(k,a,v)])
 |[],xs,k,d,a,v,x,y=>by rw[RepT] at x;subst x;rw[List.nil_append,RepT];exact⟨a,v,[],rfl,y,by rw[RepT]⟩
 |(k',d')::r,xs,k,d,a,v,x,y=>by
  rw[RepT] at x;obtain⟨b,u,r',rfl,hu,z⟩:=x
  rw[cons_append,cons_append,RepT]
  exact⟨b,u,_,rfl,hu,RepT.append r r' z y⟩
theorem Dr{K X:Type} [DecidableEq K]:∀(es:List (K×X))(k:K)(d:X),(∀e∈es,e.1≠k)->B9 k d es=es++[(k,d)]
 |[],k,d,_=>rfl
 |(k',d')::r,k,d,h=>by
  unfold B9
  rw[if_neg (h _ (mem_cons_self ..)),Dr r k d λe he=>h e (mem_cons_of_mem _ he),cons_append]
theorem RepT.putOld:∀(es:List (List Int×D))(xs:List (List Int×Addr×Value)){k:List Int}{d:D}{v:Value},RepT c Z es xs->(xs.map (·.1)).Nodup->(Af k es).isSome=true->Rep c Z d v->RepT c Z (B9 k d es) (xs.map (putAt k v))
 |[],_,_,_,_,_,_,h,_=>by simp[Af] at h
 |(k',d')::r,xs,k,d,v,x,hn,h,y=>by
  rw[RepT] at x;obtain⟨b,u,r',rfl,hu,z⟩:=x
  rw[map_cons,nodup_cons] at hn
  unfold B9
  by_cases e:k'=k
  ·subst e
   rw[if_pos rfl,map_cons,map_putAt_of_not_mem _ _ _ hn.1]
   rw[show putAt k' v (k',b,u)=(k',b,v) by simp[putAt],RepT]
   exact⟨b,v,r',rfl,y,z⟩
  ·rw[if_neg e,map_cons,show putAt k v (k',b,u)=(k',b,u) by simp[putAt,e],RepT]
   exact⟨b,u,_,rfl,hu,RepT.putOld r r' z hn.2 (by simpa[Af,e] using h) y⟩
theorem F0{K:Type} [DecidableEq K](k:K):∀(es:List (K×D)),Af k es=none->∀e∈es,e.1≠k
 |[],_,e,he=>by simp at he
 |(k',d')::t,h,e,he=>by
  unfold Af at h
  split at h
  ·cases h
  ·rename_i hk
   rcases mem_cons.mp he with rfl|he
   ·exact hk
   ·exact F0 k t h e he
theorem RepT.put{es:List (List Int×D)}{xs:List (List Int×Addr×Value)}{k:List Int}{d:D}{v:Value}(a:Addr)(x:RepT c Z es xs)(hn:(xs.map (·.1)).Nodup)(y:Rep c Z d v):RepT c Z (B9 k d es) (storedH xs k a v):=by
 rcases RepT.at k es xs x with ⟨h1,h2⟩|⟨d0,a0,v0,h1,h2,_⟩
 ·rw[storedH_new h2,Dr _ _ _ (F0 k es h1)]
  exact RepT.append _ _ x y
 ·rw[storedH_old h2]
  exact RepT.putOld _ _ x hn (by rw[h1];rfl) y
def MadeT(c:Cx)(Z:FM)(h:Heap)(d:Addr)(es:List (List Int×D)):Prop:=∃xs,h.DictOfH (tupleKind (intKind c.prog c.w)) d xs/\RepT c Z es xs/\∀x∈xs,TKey Z x.1 x.2.1
theorem MadeT.keep{h h':Heap}{d:Addr}{es:List (List Int×D)}(x:MadeT c Z h d es)(held:∀a o,Z a=some o->h'.get? a=some o)(k:∀o,h.get? d=some o->h'.get? d=some o):MadeT c Z h' d es:=by
 obtain⟨xs,⟨o,en,ep,ho,r1,r2,r3,r4,r5⟩,y,z⟩:=x
 exact⟨xs,⟨o,en,ep,k o ho,r1,r2,r3,λx hx=>by
  obtain⟨vs,⟨ob,n,e,hc,hd⟩,i⟩:=z x hx
  exact⟨ob,vs.toArray,n,held _ _ e,hc,hd,by simpa using EC i⟩,r5⟩,y,z⟩
theorem Tt{R:Result->Shared->Prop}(hh:A.handled=none)(hu:A.units+2<cLine){I l d:Addr}{vs:List Value}{ps:List D}(hp:RepL c Z ps vs)(hz:ps.length<=100000)
 (hlI:l≠I) (hdI:d≠I) (hdl:d≠l) (zI:Z I=none) (zd:Z d=none):
 ∀(k i:Nat) (n:Int) (t:Tok) (s:Shared) (es es':List (List Int×D)),ps.length -i=k->i<=ps.length->es.length<=i->(∀a o,Z a=some o->s.heap.get? a=some o)->s.heap.IsListIter I l i->s.heap.IsList l vs.toArray->MadeT c Z s.heap d es->
  Ep (ps.drop i) es=some es'->
  (∀h' tk,(∀b o,b≠d->b≠I->s.heap.get? b=some o->h'.get? b=some o)->MadeT c Z h' d es'->R (.ok (.ret .none)) {s with heap:=h',toks:=tk})->
  codeAny (model c.prog c.w) A (.builtin "dict.update.loop" ⟨[.ref d,.ref I,.int n t,.none],[]⟩) R s:=by
 have hl:vs.toArray.size=ps.length:=by have:=RepL.length _ _ hp;simpa using this
 have W:=Walks.list (prog:=c.prog) (w:=c.w) (A:=A.in1) hh I l hlI vs.toArray
 intro k
 induction k with
 |zero=>
  intro i n t s es es' hk hi hes held it li X hP hR
  have hin:i=vs.toArray.size:=by omega
  refine codeAny_builtin FZ ?_
  rw[Around.under_plainId C5 _]
  show wpAny _ A.in1 (pyNext (.ref I)>>=_) _ _ s
  refine wpAny_bind (W.done s _ _ ⟨hin▸it,li⟩ λh' tk kp=> ?_)
  rw[List.drop_eq_nil_of_le (by omega)] at hP
  cases hP
  show wpAny _ A.in1 (Builtin.Dict.addKeywords d []>>=λ_=>ret Value.none) _ _ _
  refine wpAny_bind (wpAny_pure (wpAny_pure (hR h' tk (λb o n1 n2 e=>kp b o (by simp[n2]) e) (X.keep (λa o e=>kp a o (by simp;rintro rfl;rw[zI] at e;cases e) (held a o e)) λo e=>kp d o (by simp[hdI]) e))))
 |succ k ih=>
  intro i n t s es es' hk hi hes held it li X hP hR
  have hlt:i<ps.length:=by omega
  rw[List.drop_eq_getElem_cons hlt] at hP
  refine codeAny_builtin FZ ?_
  rw[Around.under_plainId C5 _]
  show wpAny _ A.in1 (pyNext (.ref I)>>=_) _ _ s
  refine wpAny_bind (W.item i s _ _ (by omega) ⟨it,li⟩ λv h' tk hPv st kp=> ?_)
  obtain⟨v',e1,rv⟩:=RepL.get _ _ hp i _ (getElem?_eq_getElem hlt)
  have ev:v=v':=by
   have:vs[i]? =some v:=by simpa using hPv
   rw[e1] at this;cases this;rfl
  subst ev
  have held1:∀a o,Z a=some o->h'.get? a=some o:=λa o e=>kp a o (by simp;rintro rfl;rw[zI] at e;cases e) (held a o e)
  have X1:MadeT c Z h' d es:=X.keep held1 λo e=>kp d o (by simp[hdI]) e
  generalize hq:ps[i]=q at*
  unfold Ep at hP
  split at hP
  ·cases ‹_::_=[]›
  ·rename_i es0 _ _ kd vd r hcons
   injection hcons with hc1 hc2
   subst hc1
   simp only[bind_eq_bind,bind_eq_some_iff] at hP
   obtain⟨kr,hkr,hP⟩:=hP
   rw[Rep] at rv
   obtain⟨a,us,rfl,⟨o,m,ho,hcls,hdat⟩,l2⟩:=rv
   rw[RepL] at l2;obtain⟨vk,r2,rfl,rk,l3⟩:=l2
   rw[RepL] at l3;obtain⟨vv,r3,rfl,rvv,l4⟩:=l3
   rw[RepL] at l4;subst l4
   obtain⟨ak,rfl,tk1⟩:=GG rk hkr
   show wpAny _ A.in1 (holding [Value.ref a] _>>=_) _ _ _
   refine wpAny_bind (wpAny_holding (wpAny_bind (wpAny_tryCatch ?_)))
   unfold Builtin.Dict.pairItems
   refine wpAny_bind (wpAny_typeOf (T:= "tuple") ⟨o,held1 _ _ ho,hcls⟩ ?_)
   rw[if_pos (by rfl)]
   refine wpAny_bind (wpAny_seqItems (held1 _ _ ho) hdat ?_)
   refine wpAny_pure ?_
   show wpAny _ _ (holding [Value.ref ak,vv] (dictSet d (.ref ak) vv)) _ _ _
   obtain⟨xs,x1,x2,x3⟩:=X1
   have hxl:xs.length=es0.length:=by have:=congrArg List.length (RepT.keys _ _ x2);simpa using this
   have hxn:(xs.map (·.1)).Nodup:=let⟨_,_,_,_,_,_,_,_,h⟩:=x1;h
   have key:IsTupleKey (intKind c.prog c.w) h' kr ak:=by
    obtain⟨ws,⟨ob,n,e,hc,hd⟩,ii⟩:=tk1
    exact⟨ob,ws.toArray,n,held1 _ _ e,hc,hd,by simpa using EC ii⟩
   refine wpAny_holding (wpAny_dictSet_heap (knd:=tupleKind (intKind c.prog c.w)) (s:={s with heap:=h',toks:=tk}) (by show A.units+1<cLine;omega) key x1 (λh2 d2 sb=> ?_) (by rw[sizeLine_eq];omega))
   have X2:MadeT c Z h2 d (B9 kr vd es0):=⟨_,d2,RepT.put ak x2 hxn rvv,λx hx=>by
    unfold storedH at hx
    split at hx
    ·obtain⟨y,hy,rfl⟩:=mem_map.mp hx
     unfold putAt
     split
     ·exact x3 y hy
     ·exact x3 y hy
    ·rcases mem_append.mp hx with hx|hx
     ·exact x3 x hx
     ·rw[mem_singleton.mp hx];exact tk1⟩
   have plen:∀(es:List (List Int×D)) (k:List Int) (v:D),(B9 k v es).length<=es.length+1:=λes k v=>by
    induction es with
    |nil=>simp[B9]
    |cons q t ih=>obtain⟨k',d'⟩:=q;unfold B9;split<;>simp;omega
   refine wpAny_pure ⟨plainId_quiet C5 _,ih (i+1) (n+1) _ _ _ es' (by omega) hlt (by have:=plen es0 kr vd;omega) (λa o e=> ?_) (st.1.at λo e=> ?_) (st.2.at λo e=> ?_) X2 (by rw[hc2];exact hP) λh3 tk3 k3 X3=> ?_⟩
   ·exact sb.extBut a o (by rintro rfl;rw[zd] at e;cases e) (held1 a o e)
   ·exact sb.extBut I o (Ne.symm hdI) e
   ·exact sb.extBut l o (Ne.symm hdl) e
   ·exact hR h3 tk3 (λb o n1 n2 e=>k3 b o n1 n2 (sb.extBut b o n1 (kp b o (by simp[n2]) e))) X3
  ·cases hP
theorem Kw(h:At L Z s)(hbig:sysModules<s.heap.objs.size){n:Nat}(rm:Room n A){ps:List D}{es:List (List Int×D)}{v:Value}(r:Rep c Z (.list ps) v)(hz:ps.length<=100000)(hp:Ep ps []=some es):
 BI c A L Z s (call (.type "dict") [v]) (.dictT es):=λQ E k=>by
 have hun:=rm.un
 rw[Rep] at r
 obtain⟨l,vs,rfl,⟨nl,hl⟩,lr⟩:=r
 have hl0:=h.held _ _ hl
 have zn:∀b,s.heap.objs.size<=b->Z b=none:=λb hb=>by
  cases q:Z b with
  |none=>rfl
  |some o=>exact absurd (Heap.lt_size (h.held _ _ q)) (Nat.not_lt.mpr hb)
 have hlS:l<s.heap.objs.size:=Heap.lt_size hl0
 refine callType_codes (Q₁:=λobj s₁=>obj= .ref s.heap.objs.size/\s₁={s with heap:=s.heap.push {cls:= .type "dict",data:= .dict #[]}}) PySem.F.kt_called_dict (PySem.F.kt_typeCall_dict_1 _) PySem.F.entry_dict_init (kt_code_dict_new _ ⟨rfl,rfl⟩) ?_
 rintro obj s₁ ⟨rfl,rfl⟩
 have hnew:(s.heap.push {cls:= .type "dict",data:= .dict #[]}).get? s.heap.objs.size=some {cls:= .type "dict",data:= .dict #[]}:=Heap.get?_push_size _ rfl
 have hT:Shared.TypeIs {s with heap:=s.heap.push {cls:= .type "dict",data:= .dict #[]}} (.ref s.heap.objs.size) "dict" :=⟨_,hnew,rfl⟩
 have hl1:(s.heap.push {cls:= .type "dict",data:= .dict #[]}).get? l=some {cls:= .type "list",data:= .seq vs.toArray nl}:=Heap.get?_push_of_some _ hl0
 refine⟨hT,PySem.F.args_dict_init_2 _ _,?_⟩
 unfold Builtin.«dict.__init__»
 refine wpAny_bind ?_
 unfold Builtin.Dict.selfAndRest
 refine wpAny_bind (wpAny_notOrdered_dict hT ?_)
 show wpAny _ _ (pure (s.heap.objs.size,[Value.ref l])) _ _ _
 refine wpAny_pure ?_
 show wpAny _ _ (Builtin.Dict.updateFrom "dict.__init__" s.heap.objs.size (.ref l) [] .none) _ _ _
 unfold Builtin.Dict.updateFrom
 refine wpAny_bind (wpAny_typeOf (T:= "list") ⟨_,hl1,rfl⟩ ?_)
 rw[if_pos (by decide)]
 refine wpAny_bind (Ki hl1 rm.1 λh2 tk k2=> ?_)
 rw[if_pos (by rfl)]
 refine wpAny_bind (wpAny_rule ?_)
 have hl2:h2.IsList l vs.toArray:=⟨_,k2 _ _ hl1,rfl,nl,rfl⟩
 refine wpAny_bind (wpAny_pyIter_list hl2 ?_)
 have hlt2:s.heap.objs.size<h2.objs.size:=Heap.lt_size (k2 _ _ hnew)
 refine wpAny_pure ⟨plainId_quiet C5 _,?_⟩
 have keepAll:∀b o,s.heap.get? b=some o->(h2.push {cls:= .type "list_iterator",data:= .fields #[.ref l,.int 0 0]}).get? b=some o:=λb o e=>Heap.get?_push_of_some _ (k2 _ _ (Heap.get?_push_of_some _ e))
 refine Tt (c:=c) (A:=A.in1) (Z:=Z) rm.1 (by show A.units+1+2<cLine;omega) lr hz (I:=h2.objs.size) (l:=l) (d:=s.heap.objs.size) (Nat.ne_of_lt (Nat.lt_trans hlS hlt2)) (Nat.ne_of_lt hlt2) (Nat.ne_of_gt hlS) (zn _ (Nat.le_of_lt hlt2)) (zn _ (Nat.le_refl _))
  ps.length 0 0 0 _ [] es rfl (zero_le _) (Nat.le_refl _) (λa o e=>keepAll a o (h.held a o e)) ⟨_,Heap.get?_push_size _ rfl,rfl,rfl⟩ (hl2.push _) ⟨[],?_,by rw[RepT],by simp⟩ (by simpa using hp) λh3 tk3 k3 X3=> ?_
 ·exact⟨_,#[],0,Heap.get?_push_of_some _ (k2 _ _ hnew),⟨rfl,rfl,rfl⟩,rfl,rfl,by simp,by simp⟩
 ·obtain⟨xs,⟨o,en,ep,ho,r1,r2,r3,r4,r5⟩,y,z⟩:=X3
  have X:Ext L Z s (Z.add s.heap.objs.size o) {s with heap:=h3,toks:=tk3}:=
   Ext.one h.held (Ab _) ho (λb o e=>k3 b o (Nat.ne_of_lt (Heap.lt_size e)) (Nat.ne_of_lt (Nat.lt_trans (Heap.lt_size e) hlt2)) (keepAll b o e)) rfl rfl
  refine⟨rfl,k _ _ _ X ?_⟩
  rw[Rep]
  exact⟨_,xs,rfl,⟨Nat.ne_of_gt hbig,o,en,ep,FM.add_self ..,r1,r2,r3,λx hx=>(z x hx).mono X.le,r5⟩,RepT.mono X.le _ _ y⟩
theorem MM(h:At L Z s){es:List (Key×D)}{v:Value}(r:Rep c Z (.dict es) v)(hz:es.length<=100000){Q:Value->Shared->Prop}{E:Value->Shared->Prop}
 (k:∀h' kvs,(∀b o,s.heap.get? b=some o->h'.get? b=some o)->h'.DictOf (AV c.prog c.w) s.heap.objs.size kvs->RepE c Z es kvs->Q (.ref s.heap.objs.size) {s with heap:=h'}):
 wpAny (model c.prog c.w) A (call (.type "dict") [v]) Q E s:=by
 rw[Rep] at r
 obtain⟨a,kvs,rfl,hd,he⟩:=r
 have hl:kvs.length=es.length:=RepE.length _ _ he
 refine kt_call_dict (Cc hd.1) (hd.dictOf h) (by rw[hl,sizeLine_eq];omega) λh' hD sb=>k h' kvs (λb o e=> ?_) hD he
 exact sb.extBut b o (Nat.ne_of_lt (Heap.lt_size e)) (Heap.get?_push_of_some _ e)
theorem ML(h:At L Z s)(hbig:sysModules<s.heap.objs.size){es:List (Key×D)}{v:Value}(r:Rep c Z (.dict es) v)(hz:es.length<=100000):BI c A L Z s (call (.type "dict") [v]) (.dict es):=λQ E k=>by
 refine MM h r hz λh' kvs kp hD he=> ?_
 obtain⟨o,ho,hd⟩:=Heap.dictOf_iff.mp hD
 have X:Ext L Z s (Z.add s.heap.objs.size o) {s with heap:=h'}:=Ext.one h.held (Ab _) ho kp rfl rfl
 refine k _ _ _ X ?_
 rw[Rep]
 exact⟨_,kvs,rfl,⟨Nat.ne_of_gt hbig,o,FM.add_self ..,hd⟩,RepE.mono X.le _ _ he⟩
end
theorem Kc(x:Str)(V:V):∀(l:List (Str×Nz.V))(y:Str),(put x V l).lookup y=if y=x then some V else l.lookup y
 |[],y=>by
  by_cases h:y=x
  ·subst h;simp[put]
  ·simp[put,h,lookup_cons,show(y==x)=false by simpa using h]
 |(z,u)::r,y=>by
  unfold put
  by_cases hz:x=z
  ·subst hz
   rw[if_pos rfl]
   by_cases h:y=x
   ·subst h;simp[lookup_cons]
   ·simp[h,lookup_cons,show(y==x)=false by simpa using h]
  ·rw[if_neg hz]
   simp only[lookup_cons]
   by_cases h:y=z
   ·subst h
    have:¬y=x:=λe=>hz e.symm
    simp[this]
   ·rw[show(y==z)=false by simpa using h]
    exact Kc x V r y
def Ev.drop(x:Str)(ρ:Ev):Ev:={ρ with loc:=ρ.loc.filter λp=>p.1 !=x,cel:=ρ.cel.filter λp=>p.1 !=x}
theorem F1(x:Str):∀(l:List (Str×Nz.V))(y:Str),(l.filter λp=>p.1 !=x).lookup y=if y=x then none else l.lookup y
 |[],y=>by simp
 |(z,u)::r,y=>by
  have ih:=F1 x r y
  by_cases hz:z=x
  ·subst hz
   have:(((z,u).1 !=z)=true)=False:=by simp
   rw[List.filter_cons,if_neg (by simp),ih]
   by_cases h:y=z
   ·subst h;simp
   ·simp[h,lookup_cons,show(y==z)=false by simpa using h]
  ·rw[List.filter_cons,if_pos (by simpa using hz),lookup_cons,lookup_cons,ih]
   by_cases h:y=z
   ·subst h;simp[hz]
   ·simp[show(y==z)=false by simpa using h]
theorem Ev.set_kind{ρ ρ':Ev}{x:Str}{W:V}(h:ρ.set x W=some ρ'):ρ'.names=ρ.names:=by
 unfold Ev.set at h
 split at h<;>first|cases h;rfl|cases h
theorem Ev.set_of{ρ ρ':Ev}{x:Str}{W:V}(h:ρ.set x W=some ρ'):ρ.kind x=some .local\/ρ.kind x=some .cell:=by
 unfold Ev.set at h
 split at h
 ·rename_i hk;exact .inl hk
 ·rename_i hk;exact .inr hk
 ·cases h
theorem Ev.get_set{ρ ρ':Ev}{x:Str}{W:V}(h:ρ.set x W=some ρ')(y:Str):ρ'.get y=if y=x then some W else ρ.get y:=by
 unfold Ev.set at h
 split at h
 ·rename_i hk
  cases h
  have kd:∀z,Ev.kind {ρ with loc:=put x W ρ.loc} z=ρ.kind z:=λ_=>rfl
  unfold Ev.get
  rw[kd]
  dsimp only
  rw[Kc]
  by_cases hy:y=x
  ·subst hy;rw[hk];try simp
  ·simp only[hy,if_false]
 ·rename_i hk
  cases h
  have kd:∀z,Ev.kind {ρ with cel:=put x W ρ.cel} z=ρ.kind z:=λ_=>rfl
  unfold Ev.get
  rw[kd]
  dsimp only
  rw[Kc]
  by_cases hy:y=x
  ·subst hy;rw[hk];try simp
  ·simp only[hy,if_false]
 ·cases h
theorem Ev.kind_set{ρ ρ':Ev}{x:Str}{W:V}(h:ρ.set x W=some ρ')(y:Str):ρ'.kind y=ρ.kind y:=by unfold Ev.kind;rw[Ev.set_kind h]
theorem Ev.kind_drop(ρ:Ev)(x y:Str):(ρ.drop x).kind y=ρ.kind y:=rfl
theorem Ev.get_drop(ρ:Ev)(x y:Str):(ρ.drop x).get y=if y=x then none else ρ.get y:=by
 unfold Ev.get
 rw[Ev.kind_drop]
 unfold Ev.drop
 dsimp only
 rw[F1,F1]
 by_cases hy:y=x
 ·subst hy;cases h:ρ.kind y with
  |none=>simp
  |some k=>cases k<;>simp
 ·simp only[hy,if_false]
def FM.adds(P:FM)(h:Heap)(as:List Addr):FM:=λb=>if b∈as then h.get? b else P b
theorem FM.adds_nil(P:FM)(h:Heap):P.adds h []=P:=by funext b;simp[FM.adds]
theorem FM.adds_in{P:FM}{h:Heap}{as:List Addr}{a:Addr}(ha:a∈as):P.adds h as a=h.get? a:=by simp[FM.adds,ha]
theorem FM.adds_out{P:FM}{h:Heap}{as:List Addr}{a:Addr}(ha:a∉as):P.adds h as a=P a:=by simp[FM.adds,ha]
section
variable {c:Cx}{env:Env}{ρ ρ':Ev}{σ σ':St}{Z Z' P:FM}{μ:Str->Option Value}{s s':Shared}
theorem HoldsVar.same{h:Heap}{m:Str->Option Value}{k:Option NameKind}{x:Str}{v v':Value}(a:HoldsVar env h m P k x v)(b:HoldsVar env h m P k x v'):v=v':=by
 unfold HoldsVar at a b
 split at a
 ·rename_i hk;simp only at b;rw[a] at b;cases b;rfl
 ·obtain⟨p,h1,o,h2,h3⟩:=a
  obtain⟨q,g1,o',g2,g3⟩:=b
  rw[h1] at g1;cases g1;rw[h2] at g2;cases g2;rw[h3] at g3;cases g3;rfl
 ·obtain⟨p,o,h1,h2,h3⟩:=a
  obtain⟨q,o',g1,g2,g3⟩:=b
  rw[h1] at g1;cases g1;rw[h2] at g2;cases g2;rw[h3] at g3;cases g3;rfl
 ·exact a.elim
theorem Rel.mu(R:Rel c env ρ σ Z P μ s){μ':Str->Option Value}(h:∀x v,μ' x=some v->μ x=some v):Rel c env ρ σ Z P μ' s:=
 let⟨m,oa,vs⟩:=R.vars
 {R with vars:=⟨m,oa,vs.ns,vs.free,vs.cell,vs.cellInj,vs.var,vs.none,vs.own,vs.ownInj,λx v hx=>vs.mu x v (h x v hx),vs.cells⟩}
def BK(env:Env)(as:List Addr):Prop:=∀x a,env.cells.lookup x=some a->a∉as
theorem HoldsVar.adds{h:Heap}{m:Str->Option Value}{as:List Addr}(ap:BK env as){k:Option NameKind}{x:Str}{v:Value}:HoldsVar env h m (P.adds s.heap as) k x v↔HoldsVar env h m P k x v:=by
 unfold HoldsVar
 split
 ·exact Iff.rfl
 ·exact Iff.rfl
 ·constructor
  ·rintro⟨a,o,h1,h2,h3⟩
   exact⟨a,o,h1,by rw[FM.adds_out (ap x a h1)] at h2;exact h2,h3⟩
  ·rintro⟨a,o,h1,h2,h3⟩
   exact⟨a,o,h1,by rw[FM.adds_out (ap x a h1)];exact h2,h3⟩
 ·exact Iff.rfl
theorem Rel.give{as:List Addr}{x:Str}{v:Value}{W:V}(R:Rel c env ρ σ Z (P.adds s.heap as) μ s)(hP:∀a∈as,P a=none)(ap:BK env as)(hμ:μ x=some v)(ho:Own c Z s.heap W v as)(hs:ρ.set x W=some ρ'):Rel c env ρ' σ Z P μ s:=by
 obtain⟨m,oa,vs⟩:=R.vars
 have live:=ho.live
 have kd:=Ev.kind_set hs
 have gt:=Ev.get_set hs
 have notin:∀a,(P.adds s.heap as) a=none->a∉as:=λa h ha=>by
  obtain⟨o,e⟩:=live a ha
  rw[FM.adds_in ha,e] at h;cases h
 have fre:∀a,Dp c Z (P.adds s.heap as) a->Dp c Z P a:=λa f=>⟨f.1,by have:=f.2.1;rw[FM.adds_out (notin a this)] at this;exact this,f.2.2⟩
 have pas:∀a o,P a=some o->(P.adds s.heap as) a=some o:=λa o e=>by
  by_cases ha:a∈as
  ·rw[hP a ha] at e;cases e
  ·rw[FM.adds_out ha];exact e
 have zas:∀a∈as,Z a=none:=λa ha=>by
  obtain⟨o,e⟩:=live a ha
  exact R.noZP (o:=o) (by rw[FM.adds_in ha];exact e)
 refine{R with ph:=λa o e=>R.ph a o (pas a o e),zp:=λa o e=> ?_,feedFree:=⟨R.feedFree.1,?_⟩,kinds:=λy=>by rw[kd];exact R.kinds y,vars:=⟨m,λy=>if y=x then as else oa y,?_⟩}
 ·cases q:P a with
  |none=>rfl
  |some o'=>have:=R.zp a o e;rw[pas a o' q] at this;cases this
 ·cases q:P c.fa with
  |none=>rfl
  |some o'=>have:=R.feedFree.2;rw[pas _ o' q] at this;cases this
 ·refine⟨vs.ns,fre _ vs.free,λy hy=> ?_,λy z a hy hz=> ?_,λy V hV=> ?_,λy hy=> ?_,λy a ha=> ?_,λy z a hy hz=> ?_,λy u hu=> ?_,λy a hy=> ?_⟩
  ·rw[kd] at hy
   obtain⟨a,v',h1,h2,h3,h4⟩:=vs.cell y hy
   exact⟨a,v',h1,h2,fre a h3,h4⟩
  ·rw[kd] at hy hz;exact vs.cellInj y z a hy hz
  ·rw[gt] at hV
   rw[kd]
   try dsimp only
   by_cases hyx:y=x
   ·subst hyx
    rw[if_pos rfl] at hV⊢
    cases hV
    exact⟨v,(HoldsVar.adds ap).mp (vs.mu _ v hμ),ho⟩
   ·rw[if_neg hyx] at hV⊢
    obtain⟨u,h1,h2⟩:=vs.var y V hV
    exact⟨u,(HoldsVar.adds ap).mp h1,h2⟩
  ·rw[gt] at hy
   try dsimp only
   by_cases hyx:y=x
   ·rw[if_pos hyx] at hy;cases hy
   ·rw[if_neg hyx] at hy⊢;exact vs.none y hy
  ·try dsimp only at ha
   by_cases hyx:y=x
   ·rw[if_pos hyx] at ha
    refine⟨⟨zas a ha,hP a ha,?_⟩,?_,λz b hz hb=> ?_⟩
    ·rintro rfl
     obtain⟨o,e⟩:=live _ ha
     have:=R.feedFree.2;rw[FM.adds_in ha,e] at this;cases this
    ·rintro rfl
     exact notin _ vs.free.2.1 ha
    ·rintro rfl
     exact ap z a hb ha
   ·rw[if_neg hyx] at ha
    obtain⟨h1,h2,h3⟩:=vs.own y a ha
    exact⟨fre a h1,h2,λz b hz hb=>h3 z b (by rw[kd] at hz;exact hz) hb⟩
  ·try dsimp only at hy hz
   by_cases hyx:y=x
   ·by_cases hzx:z=x
    ·rw[hyx,hzx]
    ·rw[if_pos hyx] at hy;rw[if_neg hzx] at hz
     exact absurd hy (notin a (vs.own z a hz).1.2.1)
   ·by_cases hzx:z=x
    ·rw[if_neg hyx] at hy;rw[if_pos hzx] at hz
     exact absurd hz (notin a (vs.own y a hy).1.2.1)
    ·rw[if_neg hyx] at hy;rw[if_neg hzx] at hz
     exact vs.ownInj y z a hy hz
  ·rw[kd];exact(HoldsVar.adds ap).mp (vs.mu y u hu)
  ·rw[kd]
   rcases vs.cells y a hy with h|⟨o,h⟩
   ·exact .inl h
   ·rw[FM.adds_out (ap y a hy)] at h;exact .inr ⟨o,h⟩
theorem Rel.take{x:Str}{W:V}(R:Rel c env ρ σ Z P μ s)(hx:ρ.get x=some W):∃v as,Own c Z s.heap W v as/\(∀a∈as,P a=none)/\BK env as/\(∀u,μ x=some u->u=v)/\
 Rel c env (ρ.drop x) σ Z (P.adds s.heap as) (λy=>if y=x then some v else μ y) s:=by
 obtain⟨m,oa,vs⟩:=R.vars
 obtain⟨v,hv,ho⟩:=vs.var x W hx
 have live:=ho.live
 have hP:∀a∈oa x,P a=none:=λa ha=>(vs.own x a ha).1.2.1
 have ap:BK env (oa x):=λy a hy ha=>by
  rcases vs.cells y a hy with h|⟨o,h⟩
  ·exact(vs.own x a ha).2.2 y a h hy rfl
  ·rw[hP a ha] at h;cases h
 refine⟨v,oa x,ho,hP,ap,λu hu=>HoldsVar.same (vs.mu x u hu) hv,?_⟩
 have pas:∀a o,P a=some o->(P.adds s.heap (oa x)) a=some o:=λa o e=>by
  by_cases ha:a∈oa x
  ·rw[hP a ha] at e;cases e
  ·rw[FM.adds_out ha];exact e
 have fre:∀a,Dp c Z P a->a∉oa x->Dp c Z (P.adds s.heap (oa x)) a:=λa f ha=>⟨f.1,by rw[FM.adds_out ha];exact f.2.1,f.2.2⟩
 refine{R with ph:=λa o e=> ?_,zp:=λa o e=> ?_,feedFree:=⟨R.feedFree.1,?_⟩,vars:=⟨m,λy=>if y=x then [] else oa y,?_⟩}
 ·by_cases ha:a∈oa x
  ·rw[FM.adds_in ha] at e;exact e
  ·rw[FM.adds_out ha] at e;exact R.ph a o e
 ·by_cases ha:a∈oa x
  ·rw[(vs.own x a ha).1.1] at e;cases e
  ·rw[FM.adds_out ha];exact R.zp a o e
 ·by_cases ha:c.fa∈oa x
  ·exact absurd rfl (vs.own x _ ha).1.2.2
  ·rw[FM.adds_out ha];exact R.feedFree.2
 ·refine⟨vs.ns,fre _ vs.free λha=>(vs.own x _ ha).2.1 rfl,λy hy=> ?_,vs.cellInj,λy V hV=> ?_,λy hy=> ?_,λy a ha=> ?_,λy z a hy hz=> ?_,λy u hu=> ?_,λy a hy=> ?_⟩
  ·obtain⟨a,v',h1,h2,h3,h4⟩:=vs.cell y hy
   exact⟨a,v',h1,h2,fre a h3 λha=>(vs.own x a ha).2.2 y a hy h1 rfl,h4⟩
  ·rw[Ev.get_drop] at hV
   try dsimp only
   by_cases hyx:y=x
   ·rw[if_pos hyx] at hV;cases hV
   ·rw[if_neg hyx] at hV⊢
    obtain⟨u,h1,h2⟩:=vs.var y V hV
    exact⟨u,(HoldsVar.adds ap).mpr h1,h2⟩
  ·rw[Ev.get_drop] at hy
   try dsimp only
   by_cases hyx:y=x
   ·rw[if_pos hyx]
   ·rw[if_neg hyx] at hy⊢;exact vs.none y hy
  ·try dsimp only at ha
   by_cases hyx:y=x
   ·rw[if_pos hyx] at ha;cases ha
   ·rw[if_neg hyx] at ha
    obtain⟨h1,h2,h3⟩:=vs.own y a ha
    exact⟨fre a h1 λhax=>hyx (vs.ownInj y x a ha hax),h2,h3⟩
  ·try dsimp only at hy hz
   by_cases hyx:y=x
   ·rw[if_pos hyx] at hy;cases hy
   ·by_cases hzx:z=x
    ·rw[if_pos hzx] at hz;cases hz
    ·rw[if_neg hyx] at hy;rw[if_neg hzx] at hz
     exact vs.ownInj y z a hy hz
  ·try dsimp only at hu
   rw[Ev.kind_drop]
   by_cases hyx:y=x
   ·rw[if_pos hyx] at hu;cases hu;subst hyx;exact(HoldsVar.adds ap).mpr hv
   ·rw[if_neg hyx] at hu;exact(HoldsVar.adds ap).mpr (vs.mu y u hu)
  ·rcases vs.cells y a hy with h|⟨o,h⟩
   ·exact .inl h
   ·exact .inr ⟨o,pas a o h⟩
theorem Rel.freeze{as:List Addr}(R:Rel c env ρ σ Z (P.adds s.heap as) μ s)(hP:∀a∈as,P a=none)(ap:BK env as)(live:∀a∈as,∃o,s.heap.get? a=some o):Z.le (Z.adds s.heap as)/\Rel c env ρ σ (Z.adds s.heap as) P μ s:=by
 have zas:∀a∈as,Z a=none:=λa ha=>by
  obtain⟨o,e⟩:=live a ha
  exact R.noZP (o:=o) (by rw[FM.adds_in ha];exact e)
 have le:Z.le (Z.adds s.heap as):=λa o e=>by
  by_cases ha:a∈as
  ·rw[zas a ha] at e;cases e
  ·rw[FM.adds_out ha];exact e
 refine⟨le,?_⟩
 obtain⟨m,oa,vs⟩:=R.vars
 have notin:∀a,(P.adds s.heap as) a=none->a∉as:=λa h ha=>by
  obtain⟨o,e⟩:=live a ha
  rw[FM.adds_in ha,e] at h;cases h
 have pas:∀a o,P a=some o->(P.adds s.heap as) a=some o:=λa o e=>by
  by_cases ha:a∈as
  ·rw[hP a ha] at e;cases e
  ·rw[FM.adds_out ha];exact e
 have fre:∀a,Dp c Z (P.adds s.heap as) a->Dp c (Z.adds s.heap as) P a:=λa f=>by
  have n:=notin a f.2.1
  exact⟨by rw[FM.adds_out n];exact f.1,by have:=f.2.1;rw[FM.adds_out n] at this;exact this,f.2.2⟩
 have nf:=notin _ R.feedFree.2
 refine{R with zh:=λa o e=> ?_,ph:=λa o e=>R.ph a o (pas a o e),zp:=λa o e=> ?_,base:=λa o e=>le a o (R.base a o e),feed:=R.feed.keep le λo e=>e,feedFree:=⟨by rw[FM.adds_out nf];exact R.feedFree.1,?_⟩,vars:=⟨m,oa,?_⟩}
 ·by_cases ha:a∈as
  ·rw[FM.adds_in ha] at e;exact e
  ·rw[FM.adds_out ha] at e;exact R.zh a o e
 ·by_cases ha:a∈as
  ·exact hP a ha
  ·rw[FM.adds_out ha] at e
   have:=R.zp a o e
   rw[FM.adds_out ha] at this;exact this
 ·have:=R.feedFree.2;rw[FM.adds_out nf] at this;exact this
 ·refine⟨vs.ns,fre _ vs.free,λy hy=> ?_,vs.cellInj,λy V hV=> ?_,vs.none,λy a ha=> ?_,vs.ownInj,λy u hu=>(HoldsVar.adds ap).mp (vs.mu y u hu),λy a hy=> ?_⟩
  ·obtain⟨a,v',h1,h2,h3,h4⟩:=vs.cell y hy
   exact⟨a,v',h1,h2,fre a h3,h4⟩
  ·obtain⟨u,h1,h2⟩:=vs.var y V hV
   exact⟨u,(HoldsVar.adds ap).mp h1,h2.keep le λ_ _ o e=>e⟩
  ·obtain⟨h1,h2,h3⟩:=vs.own y a ha
   exact⟨fre a h1,h2,h3⟩
  ·rcases vs.cells y a hy with h|⟨o,h⟩
   ·exact .inl h
   ·rw[FM.adds_out (ap y a hy)] at h;exact .inr ⟨o,h⟩
theorem Rel.step{as as':List Addr}(R:Rel c env ρ σ Z (P.adds s.heap as) μ s)(hP:∀a∈as,P a=none)(live:∀a∈as,∃o,s.heap.get? a=some o)(keep:∀a o,a∉as->s.heap.get? a=some o->s'.heap.get? a=some o)
 (live':∀a∈as',∃o,s'.heap.get? a=some o) (new:∀a∈as',a∈as\/s.heap.get? a=none) (ap':BK env as) (g:s'.gens=s.gens) (os:s'.os=s.os):
 Rel c env ρ σ Z (P.adds s'.heap as') μ s'/\(∀a∈as',P a=none)/\BK env as':=by
 obtain⟨m,oa,vs⟩:=R.vars
 have notin:∀a,(P.adds s.heap as) a=none->a∉as:=λa h ha=>by
  obtain⟨o,e⟩:=live a ha
  rw[FM.adds_in ha,e] at h;cases h
 have pl:∀a o,P a=some o->s.heap.get? a=some o/\a∉as:=λa o e=>by
  have n:a∉as:=λha=>by rw[hP a ha] at e;cases e
  exact⟨R.ph a o (by rw[FM.adds_out n];exact e),n⟩
 have hP':∀a∈as',P a=none:=λa ha=>by
  cases q:P a with
  |none=>rfl
  |some o=>
   obtain⟨h1,h2⟩:=pl a o q
   rcases new a ha with h|h
   ·exact absurd h h2
   ·rw[h1] at h;cases h
 have out:∀a o,s.heap.get? a=some o->a∉as->a∉as':=λa o e n ha=>by
  rcases new a ha with h|h
  ·exact n h
  ·rw[e] at h;cases h
 have apart':BK env as':=λy a hy ha=>by
  rcases vs.cells y a hy with h|⟨o,h⟩
  ·obtain⟨b,v',h1,⟨o,h2,_⟩,h3,h4⟩:=vs.cell y h
   rw[hy] at h1;cases h1
   exact out a o h2 (notin a h3.2.1) ha
  ·have n:=ap' y a hy
   rw[FM.adds_out n] at h
   exact out a o (pl a o h).1 n ha
 refine⟨?_,hP',apart'⟩
 have zl:∀a o,Z a=some o->s.heap.get? a=some o/\a∉as:=λa o e=>⟨R.zh a o e,notin a (R.zp a o e)⟩
 have fre:∀a o,s.heap.get? a=some o->Dp c Z (P.adds s.heap as) a->Dp c Z (P.adds s'.heap as') a:=λa o e f=>by
  have n:=notin a f.2.1
  exact⟨f.1,by rw[FM.adds_out (out a o e n)];have:=f.2.1;rw[FM.adds_out n] at this;exact this,f.2.2⟩
 obtain⟨of,hof⟩:∃o,s.heap.get? c.fa=some o:=let⟨_,_,_,d,_⟩:=R.feed;DictOf.live d
 have nf:=notin _ R.feedFree.2
 obtain⟨oL,hL⟩:∃o,s.heap.get? env.locals=some o:=let⟨o,_,_,e,_⟩:=vs.ns;⟨o,e⟩
 have nL:=notin _ vs.free.2.1
 have holds:∀k y u,ρ.kind y=k->HoldsVar env s.heap m (P.adds s.heap as) k y u->HoldsVar env s'.heap m (P.adds s'.heap as') k y u:=λk y u hk h=>by
  unfold HoldsVar at h⊢
  split
  ·exact h
  ·obtain⟨a,h1,o,h2,h3⟩:=h
   obtain⟨b,v',g1,_,g3,_⟩:=vs.cell y hk
   rw[h1] at g1;cases g1
   exact⟨a,h1,o,keep a o (notin a g3.2.1) h2,h3⟩
  ·obtain⟨a,o,h1,h2,h3⟩:=h
   rw[FM.adds_out (ap' y a h1)] at h2
   exact⟨a,o,h1,by rw[FM.adds_out (apart' y a h1)];exact h2,h3⟩
  ·split at h
   ·exact absurd rfl ‹_›
   ·exact absurd rfl ‹_›
   ·exact absurd rfl ‹_›
   ·exact h
 refine⟨λa o e=>keep a o (zl a o e).2 (zl a o e).1,λa o e=> ?_,λa o e=> ?_,R.base,R.feed.keep (FM.le_refl _) λo e=>keep _ o nf e,⟨R.feedFree.1,?_⟩,g.trans R.gens,os.trans R.os,R.kinds,R.fn,R.globals,R.builtins,m,oa,?_⟩
 ·by_cases ha:a∈as'
  ·rw[FM.adds_in ha] at e;exact e
  ·rw[FM.adds_out ha] at e
   obtain⟨h1,h2⟩:=pl a o e
   exact keep a o h2 h1
 ·obtain⟨h1,h2⟩:=zl a o e
  rw[FM.adds_out (out a o h1 h2)]
  have:=R.zp a o e
  rw[FM.adds_out h2] at this;exact this
 ·rw[FM.adds_out (out _ of hof nf)]
  have:=R.feedFree.2;rw[FM.adds_out nf] at this;exact this
 ·refine⟨vs.ns.at' λo e=>keep _ o nL e,fre _ oL hL vs.free,λy hy=> ?_,vs.cellInj,λy V hV=> ?_,vs.none,λy a ha=> ?_,vs.ownInj,λy u hu=>holds _ y u rfl (vs.mu y u hu),λy a hy=> ?_⟩
  ·obtain⟨a,v',h1,⟨o,h2,h2'⟩,h3,h4⟩:=vs.cell y hy
   exact⟨a,v',h1,⟨o,keep a o (notin a h3.2.1) h2,h2'⟩,fre a o h2 h3,h4⟩
  ·obtain⟨u,h1,h2⟩:=vs.var y V hV
   exact⟨u,holds _ y u rfl h1,h2.keep (FM.le_refl _) λa ha o e=>keep a o (notin a (vs.own y a ha).1.2.1) e⟩
  ·obtain⟨h1,h2,h3⟩:=vs.own y a ha
   cases hV:ρ.get y with
   |none=>rw[vs.none y hV] at ha;cases ha
   |some V=>
    obtain⟨v,_,ho⟩:=vs.var y V hV
    obtain⟨o,e⟩:=ho.live a ha
    exact⟨fre a o e h1,h2,h3⟩
  ·rcases vs.cells y a hy with h|⟨o,h⟩
   ·exact .inl h
   ·rw[FM.adds_out (ap' y a hy)] at h;exact .inr ⟨o,by rw[FM.adds_out (apart' y a hy)];exact h⟩
end
section
variable {c:Cx}{env:Env}{ρ ρ':Ev}{σ σ':St}{Z Z' P:FM}{μ:Str->Option Value}{s s':Shared}
theorem Rel.congr(R:Rel c env ρ σ Z P μ s)(hk:∀x,ρ'.kind x=ρ.kind x)(hg:∀x,ρ'.get x=ρ.get x):Rel c env ρ' σ Z P μ s:=by
 obtain⟨m,oa,vs⟩:=R.vars
 refine{R with kinds:=λx=>by rw[hk];exact R.kinds x,vars:=⟨m,oa,?_⟩}
 refine⟨vs.ns,vs.free,λx hx=>vs.cell x (by rw[<-hk];exact hx),λx y a hx hy=>vs.cellInj x y a (by rw[<-hk];exact hx) (by rw[<-hk];exact hy),
  λx V hV=>by rw[hk];exact vs.var x V (by rw[<-hg];exact hV),λx hx=>vs.none x (by rw[<-hg];exact hx),
  λx a ha=>⟨(vs.own x a ha).1,(vs.own x a ha).2.1,λy b hy hb=>(vs.own x a ha).2.2 y b (by rw[<-hk];exact hy) hb⟩,vs.ownInj,λx v hv=>by rw[hk];exact vs.mu x v hv,
  λx a hx=> ?_⟩
 rcases vs.cells x a hx with h|h
 ·exact .inl (by rw[hk];exact h)
 ·exact .inr h
theorem Rel.forget(R:Rel c env ρ σ Z P μ s)(hk:∀x,ρ'.kind x=ρ.kind x)(hg:∀x V,ρ'.get x=some V->ρ.get x=some V):Rel c env ρ' σ Z P μ s:=by
 obtain⟨m,oa,vs⟩:=R.vars
 refine{R with kinds:=λx=>by rw[hk];exact R.kinds x,vars:=⟨m,λx=>if(ρ'.get x).isSome then oa x else [],?_⟩}
 have hin:∀{x:Str} {a:Addr},a∈(if(ρ'.get x).isSome then oa x else [])->a∈oa x:=λh=>by
  split at h
  ·exact h
  ·cases h
 refine⟨vs.ns,vs.free,λx hx=>vs.cell x (by rw[<-hk];exact hx),λx y a hx hy=>vs.cellInj x y a (by rw[<-hk];exact hx) (by rw[<-hk];exact hy),
  λx V hV=> ?_,λx hx=>by simp[hx],
  λx a ha=>⟨(vs.own x a (hin ha)).1,(vs.own x a (hin ha)).2.1,λy b hy hb=>(vs.own x a (hin ha)).2.2 y b (by rw[<-hk];exact hy) hb⟩,λx y a h1 h2=>vs.ownInj x y a (hin h1) (hin h2),λx v hv=>by rw[hk];exact vs.mu x v hv,
  λx a hx=> ?_⟩
 ·rw[hk,hV];exact vs.var x V (hg x V hV)
 ·rcases vs.cells x a hx with h|h
  ·exact .inl (by rw[hk];exact h)
  ·exact .inr h
theorem Dj(l₀:List (Str×Nz.V)):∀(l:List (Str×Nz.V))(x:Str)(V:Nz.V),(N8 l₀ l).lookup x=some V->l.lookup x=some V
 |[],_,_,h=>h
 |(y,u)::r,x,V,h=>by
  unfold N8 at h
  rw[List.filter_cons] at h
  rw[lookup_cons]
  split at h
  ·rw[lookup_cons] at h
   cases hxy:x==y with
   |true=>rw[hxy] at h;exact h
   |false=>rw[hxy] at h;exact Dj l₀ r x V h
  ·rename_i hn
   cases hxy:x==y with
   |true=>
    have e:=eq_of_beq hxy
    subst e
    exfalso
    have:∀(r:List (Str×Nz.V)),(r.filter λp=>(l₀.lookup p.1).isSome).lookup x=some V->False:=λr=>by
     induction r with
     |nil=>intro h;cases h
     |cons p r ih=>
      intro h
      rw[List.filter_cons] at h
      split at h
      ·rename_i hp
       obtain⟨z,w⟩:=p
       rw[lookup_cons] at h
       cases hz:x==z with
       |true=>have e:=eq_of_beq hz;subst e;exact hn hp
       |false=>rw[hz] at h;exact ih h
      ·exact ih h
    exact this r h
   |false=>exact Dj l₀ r x V h
theorem Rel.backs{ρ₀:Ev}(R:Rel c env ρ σ Z P μ s):Rel c env (ρ₀.back ρ) σ Z P μ s:=by
 refine R.forget (λ_=>rfl) λx V h=> ?_
 have hk:(ρ₀.back ρ).kind x=ρ.kind x:=rfl
 unfold Ev.get at h⊢
 rw[hk] at h
 split at h
 ·exact Dj _ _ _ _ h
 ·exact Dj _ _ _ _ h
 ·exact Dj _ _ _ _ h
 ·cases h
theorem Rel.know(R:Rel c env ρ σ Z P μ s){x:Str}{V:V}(hx:ρ.get x=some V):∃v as,Own c Z s.heap V v as/\(∀u,μ x=some u->u=v)/\(∀a∈as,Z a=none/\P a=none/\a≠c.fa/\a≠env.locals)/\Rel c env ρ σ Z P (λy=>if y=x then some v else μ y) s:=by
 obtain⟨m,oa,vs⟩:=R.vars
 obtain⟨v,hv,ho⟩:=vs.var x V hx
 refine⟨v,oa x,ho,λu hu=>HoldsVar.same (vs.mu x u hu) hv,λa ha=>⟨(vs.own x a ha).1.1,(vs.own x a ha).1.2.1,(vs.own x a ha).1.2.2,(vs.own x a ha).2.1⟩,{R with vars:=⟨m,oa,{vs with mu:=λy u hu=> ?_}⟩}⟩
 try dsimp only at hu
 by_cases hy:y=x
 ·rw[if_pos hy] at hu;cases hu;rw[hy];exact hv
 ·rw[if_neg hy] at hu;exact vs.mu y u hu
theorem Rel.muHolds(R:Rel c env ρ σ Z P μ s){x:Str}{v:Value}(h:μ x=some v):∃m,s.heap.Ns env.locals m/\HoldsVar env s.heap m P (ρ.kind x) x v:=let⟨m,_,vs⟩:=R.vars;⟨m,vs.ns,vs.mu x v h⟩
theorem JE{x:Str}(h:BE x=false):(x==("__debug__" :Str))=false/\(x==("__classdict__" :Str))=false:=by
 unfold BE at h;simpa using h
theorem RP{M:Model}{A:Around}{E:Value->Shared->Prop}(R:Rel c env ρ σ Z P μ s){x:Str}{v:Value}{m:Str->Option Value}{Q:Value->Shared->Prop}(ns:s.heap.Ns env.locals m)(hv:HoldsVar env s.heap m P (ρ.kind x) x v)(hb:BE x=false)(k:Q v s):
 wpAny M A (loadName env x) Q E s:=by
 have K:=R.kinds x
 unfold HoldsVar at hv
 split at hv
 ·rename_i hk
  rw[hk] at K
  exact wpAny_loadName_local R.fn K ns hv k
 ·rename_i hk
  rw[hk] at K
  obtain⟨a,h1,h2⟩:=hv
  exact wpAny_loadName_cell R.fn K h1 h2 k
 ·rename_i hk
  rw[hk] at K
  obtain⟨a,o,h1,h2,h3⟩:=hv
  rcases K with K|K
  ·exact wpAny_loadName_free R.fn K h1 ⟨o,R.ph a o h2,h3⟩ k (JE hb).2
  ·exact wpAny_loadName_cell R.fn K h1 ⟨o,R.ph a o h2,h3⟩ k
 ·exact hv.elim
theorem BM{M:Model}{A:Around}{E:Value->Shared->Prop}(R:Rel c env ρ σ Z P μ s){x:Str}{pos:Pos}{v:Value}{Q:Value->Shared->Prop}(hm:μ x=some v)(hb:BE x=false)(k:Q v s):
 wpAny M A (eval (.Name x pos) env) Q E s:=by
 obtain⟨m,ns,hv⟩:=R.muHolds hm
 exact wpAny_Name (RP R ns hv hb k) (JE hb).1
theorem FM.adds_keep{P:FM}{h h':Heap}{as:List Addr}(k:∀a∈as,h'.get? a=h.get? a):P.adds h' as=P.adds h as:=by
 funext a
 by_cases ha:a∈as
 ·rw[FM.adds_in ha,FM.adds_in ha,k a ha]
 ·rw[FM.adds_out ha,FM.adds_out ha]
theorem Rel.stepZ{as as':List Addr}(R:Rel c env ρ σ Z (P.adds s.heap as) μ s)(hP:∀a∈as,P a=none)(live:∀a∈as,∃o,s.heap.get? a=some o)(keep:∀a o,a∉as->s.heap.get? a=some o->s'.heap.get? a=some o)
 (le:Z.le Z') (held:∀a o,Z' a=some o->s'.heap.get? a=some o) (zn:∀a o,Z' a=some o->Z a=some o\/s.heap.get? a=none)
 (new:∀a∈as',(a∈as\/s.heap.get? a=none)/\Z' a=none) (ap':BK env as) (g:s'.gens=s.gens) (os:s'.os=s.os):
 Rel c env ρ σ Z' (P.adds s'.heap as') μ s'/\(∀a∈as',P a=none)/\BK env as':=by
 obtain⟨m,oa,vs⟩:=R.vars
 have notin:∀a,(P.adds s.heap as) a=none->a∉as:=λa h ha=>by
  obtain⟨o,e⟩:=live a ha
  rw[FM.adds_in ha,e] at h;cases h
 have pl:∀a o,P a=some o->s.heap.get? a=some o/\a∉as:=λa o e=>by
  have n:a∉as:=λha=>by rw[hP a ha] at e;cases e
  exact⟨R.ph a o (by rw[FM.adds_out n];exact e),n⟩
 have hP':∀a∈as',P a=none:=λa ha=>by
  cases q:P a with
  |none=>rfl
  |some o=>
   obtain⟨h1,h2⟩:=pl a o q
   rcases(new a ha).1 with h|h
   ·exact absurd h h2
   ·rw[h1] at h;cases h
 have out:∀a o,s.heap.get? a=some o->a∉as->a∉as':=λa o e n ha=>by
  rcases(new a ha).1 with h|h
  ·exact n h
  ·rw[e] at h;cases h
 have zl':∀a o,s.heap.get? a=some o->Z a=none->Z' a=none:=λa o e z=>by
  cases q:Z' a with
  |none=>rfl
  |some x=>
   rcases zn a x q with h|h
   ·rw[z] at h;cases h
   ·rw[e] at h;cases h
 have apart':BK env as':=λy a hy ha=>by
  rcases vs.cells y a hy with h|⟨o,h⟩
  ·obtain⟨b,v',h1,⟨o,h2,_⟩,h3,h4⟩:=vs.cell y h
   rw[hy] at h1;cases h1
   exact out a o h2 (notin a h3.2.1) ha
  ·have n:=ap' y a hy
   rw[FM.adds_out n] at h
   exact out a o (pl a o h).1 n ha
 refine⟨?_,hP',apart'⟩
 have fre:∀a o,s.heap.get? a=some o->Dp c Z (P.adds s.heap as) a->Dp c Z' (P.adds s'.heap as') a:=λa o e f=>by
  have n:=notin a f.2.1
  exact⟨zl' a o e f.1,by rw[FM.adds_out (out a o e n)];have:=f.2.1;rw[FM.adds_out n] at this;exact this,f.2.2⟩
 obtain⟨of,hof⟩:∃o,s.heap.get? c.fa=some o:=let⟨_,_,_,d,_⟩:=R.feed;DictOf.live d
 have nf:=notin _ R.feedFree.2
 obtain⟨oL,hL⟩:∃o,s.heap.get? env.locals=some o:=let⟨o,_,_,e,_⟩:=vs.ns;⟨o,e⟩
 have nL:=notin _ vs.free.2.1
 have holds:∀k y u,ρ.kind y=k->HoldsVar env s.heap m (P.adds s.heap as) k y u->HoldsVar env s'.heap m (P.adds s'.heap as') k y u:=λk y u hk h=>by
  unfold HoldsVar at h⊢
  split
  ·exact h
  ·obtain⟨a,h1,o,h2,h3⟩:=h
   obtain⟨b,v',g1,_,g3,_⟩:=vs.cell y hk
   rw[h1] at g1;cases g1
   exact⟨a,h1,o,keep a o (notin a g3.2.1) h2,h3⟩
  ·obtain⟨a,o,h1,h2,h3⟩:=h
   rw[FM.adds_out (ap' y a h1)] at h2
   exact⟨a,o,h1,by rw[FM.adds_out (apart' y a h1)];exact h2,h3⟩
  ·split at h
   ·exact absurd rfl ‹_›
   ·exact absurd rfl ‹_›
   ·exact absurd rfl ‹_›
   ·exact h
 refine⟨held,λa o e=> ?_,λa o e=> ?_,λa o e=>le a o (R.base a o e),R.feed.keep le λo e=>keep _ o nf e,⟨zl' _ of hof R.feedFree.1,?_⟩,g.trans R.gens,os.trans R.os,R.kinds,R.fn,R.globals,R.builtins,m,oa,?_⟩
 ·by_cases ha:a∈as'
  ·rw[FM.adds_in ha] at e;exact e
  ·rw[FM.adds_out ha] at e
   obtain⟨h1,h2⟩:=pl a o e
   exact keep a o h2 h1
 ·by_cases ha:a∈as'
  ·rw[(new a ha).2] at e;cases e
  ·rw[FM.adds_out ha]
   cases q:P a with
   |none=>rfl
   |some x=>
    obtain⟨h1,h2⟩:=pl a x q
    rcases zn a o e with h|h
    ·have:=R.zp a o h
     rw[FM.adds_out h2,q] at this;cases this
    ·rw[h1] at h;cases h
 ·rw[FM.adds_out (out _ of hof nf)]
  have:=R.feedFree.2;rw[FM.adds_out nf] at this;exact this
 ·refine⟨vs.ns.at' λo e=>keep _ o nL e,fre _ oL hL vs.free,λy hy=> ?_,vs.cellInj,λy V hV=> ?_,vs.none,λy a ha=> ?_,vs.ownInj,λy u hu=>holds _ y u rfl (vs.mu y u hu),λy a hy=> ?_⟩
  ·obtain⟨a,v',h1,⟨o,h2,h2'⟩,h3,h4⟩:=vs.cell y hy
   exact⟨a,v',h1,⟨o,keep a o (notin a h3.2.1) h2,h2'⟩,fre a o h2 h3,h4⟩
  ·obtain⟨u,h1,h2⟩:=vs.var y V hV
   exact⟨u,holds _ y u rfl h1,h2.keep le λa ha o e=>keep a o (notin a (vs.own y a ha).1.2.1) e⟩
  ·obtain⟨h1,h2,h3⟩:=vs.own y a ha
   cases hV:ρ.get y with
   |none=>rw[vs.none y hV] at ha;cases ha
   |some V=>
    obtain⟨v,_,ho⟩:=vs.var y V hV
    obtain⟨o,e⟩:=ho.live a ha
    exact⟨fre a o e h1,h2,h3⟩
  ·rcases vs.cells y a hy with h|⟨o,h⟩
   ·exact .inl h
   ·rw[FM.adds_out (ap' y a hy)] at h;exact .inr ⟨o,by rw[FM.adds_out (apart' y a hy)];exact h⟩
theorem DX:BK env []:=λ_ _ _ h=>(nomatch h)
theorem Rel.lay{as:List Addr}(R:Rel c env ρ σ Z P μ s)(keep:∀a o,s.heap.get? a=some o->s'.heap.get? a=some o)(new:∀a∈as,s.heap.get? a=none)(g:s'.gens=s.gens)(os:s'.os=s.os):
 Rel c env ρ σ Z (P.adds s'.heap as) μ s'/\(∀a∈as,P a=none)/\BK env as:=by
 have R':Rel c env ρ σ Z (P.adds s.heap []) μ s:=by rw[FM.adds_nil];exact R
 exact R'.stepZ (as':=as) (λ_ h=>(nomatch h)) (λ_ h=>(nomatch h)) (λa o _ e=>keep a o e) (FM.le_refl _) (λa o e=>keep a o (R.zh a o e)) (λ_ _ e=> .inl e) (λa ha=>⟨.inr (new a ha),by
  cases q:Z a with
  |none=>rfl
  |some o=>have:=R.zh a o q;rw[new a ha] at this;cases this⟩) DX g os
theorem Rel.grow(R:Rel c env ρ σ Z P μ s)(keep:∀a o,s.heap.get? a=some o->s'.heap.get? a=some o)(g:s'.gens=s.gens)(os:s'.os=s.os):Rel c env ρ σ Z P μ s':=by
 have:=(R.lay (as:=[]) keep (λ_ h=>(nomatch h)) g os).1
 rwa [FM.adds_nil] at this
theorem Rel.toks(R:Rel c env ρ σ Z P μ s)(t:Tok):Rel c env ρ σ Z P μ {s with toks:=t}:=R.grow (λ_ _ e=>e) rfl rfl
theorem Gv{M:Model}{A:Around}{E:Value->Shared->Prop}{as:List Addr}{x:Str}{v:Value}{W:V}{Q:Unit->Shared->Prop}(R:Rel c env ρ σ Z (P.adds s.heap as) (λ_=>none) s)(hP:∀a∈as,P a=none)(ap:BK env as)
 (ho:Own c Z s.heap W v as) (hs:ρ.set x W=some ρ')
 (k:∀s',Rel c env ρ' σ Z P (λ_=>none) s'->(∀a o,(P.adds s.heap as) a=some o->s'.heap.get? a=some o)->Q () s'):wpAny M A (storeName env x v) Q E s:=by
 obtain⟨m,oa,vs⟩:=R.vars
 have live:=ho.live
 have notin:∀a,(P.adds s.heap as) a=none->a∉as:=λa h ha=>by
  obtain⟨o,e⟩:=live a ha
  rw[FM.adds_in ha,e] at h;cases h
 have fin:∀(b:Addr) (m':Str->Option Value) (s':Shared),Heap.SameBut b s.heap s'.heap->s'.gens=s.gens->s'.os=s.os->Dp c Z (P.adds s.heap as) b->s'.heap.Ns env.locals m'->HoldsVar env s'.heap m' P (ρ.kind x) x v->
  (∀y u,y≠x->HoldsVar env s.heap m (P.adds s.heap as) (ρ.kind y) y u->HoldsVar env s'.heap m' (P.adds s.heap as) (ρ.kind y) y u)->(∀y a,a∈oa y->a≠b)->
  (∀y,ρ.kind y=some .cell->∃a v,env.cells.lookup y=some a/\s'.heap.IsCell a v/\Dp c Z (P.adds s.heap as) a/\a≠env.locals)->Q () s':=by
  intro b m' s' sb g os fb ns' hv' hold ownb cell'
  have keep:∀a o,a≠b->s.heap.get? a=some o->s'.heap.get? a=some o:=λa o n e=>by rw[sb.2 a n];exact e
  have eqP:P.adds s'.heap as=P.adds s.heap as:=FM.adds_keep λa ha=>sb.2 a λq=>notin b fb.2.1 (q▸ha)
  have zb:∀a o,Z a=some o->a≠b:=λa o e q=>by rw[q,fb.1] at e;cases e
  have pb:∀a o,(P.adds s.heap as) a=some o->a≠b:=λa o e q=>by rw[q,fb.2.1] at e;cases e
  have R1:Rel c env (ρ.drop x) σ Z (P.adds s'.heap as) (λy=>if y=x then some v else none) s':=by
   rw[eqP]
   refine⟨λa o e=>keep a o (zb a o e) (R.zh a o e),λa o e=>keep a o (pb a o e) (R.ph a o e),R.zp,R.base,R.feed.keep (FM.le_refl _) λo e=>keep _ o (Ne.symm fb.2.2) e,R.feedFree,g.trans R.gens,os.trans R.os,R.kinds,R.fn,R.globals,R.builtins,m',λy=>if y=x then [] else oa y,?_⟩
   refine⟨ns',vs.free,cell',vs.cellInj,λy V hV=> ?_,λy hy=> ?_,λy a ha=> ?_,λy z a hy hz=> ?_,λy u hu=> ?_,vs.cells⟩
   ·rw[Ev.get_drop] at hV
    try dsimp only
    by_cases hyx:y=x
    ·rw[if_pos hyx] at hV;cases hV
    ·rw[if_neg hyx] at hV⊢
     obtain⟨u,h1,h2⟩:=vs.var y V hV
     exact⟨u,hold y u hyx h1,h2.keep (FM.le_refl _) λa ha o e=>keep a o (ownb y a ha) e⟩
   ·rw[Ev.get_drop] at hy
    try dsimp only
    by_cases hyx:y=x
    ·rw[if_pos hyx]
    ·rw[if_neg hyx] at hy⊢;exact vs.none y hy
   ·try dsimp only at ha
    by_cases hyx:y=x
    ·rw[if_pos hyx] at ha;cases ha
    ·rw[if_neg hyx] at ha;exact vs.own y a ha
   ·try dsimp only at hy hz
    by_cases hyx:y=x
    ·rw[if_pos hyx] at hy;cases hy
    ·by_cases hzx:z=x
     ·rw[if_pos hzx] at hz;cases hz
     ·rw[if_neg hyx] at hy;rw[if_neg hzx] at hz;exact vs.ownInj y z a hy hz
   ·try dsimp only at hu
    rw[Ev.kind_drop]
    by_cases hyx:y=x
    ·rw[if_pos hyx] at hu;cases hu;rw[hyx];rw[<-eqP];exact(HoldsVar.adds ap).mpr hv'
    ·rw[if_neg hyx] at hu;cases hu
  obtain⟨ρ₂,hs2,hk2,hg2⟩:∃ρ₂,(ρ.drop x).set x W=some ρ₂/\(∀y,ρ'.kind y=ρ₂.kind y)/\∀y,ρ'.get y=ρ₂.get y:=by
   have e:∃ρ₂,(ρ.drop x).set x W=some ρ₂:=by
    unfold Ev.set
    rw[Ev.kind_drop]
    rcases Ev.set_of hs with h|h<;>rw[h]<;>exact⟨_,rfl⟩
   obtain⟨ρ₂,e⟩:=e
   refine⟨ρ₂,e,λy=>by rw[Ev.kind_set hs,Ev.kind_set e,Ev.kind_drop],λy=> ?_⟩
   rw[Ev.get_set hs,Ev.get_set e,Ev.get_drop]
   by_cases hy:y=x
   ·rw[if_pos hy,if_pos hy]
   ·rw[if_neg hy,if_neg hy,if_neg hy]
  have R2:=R1.give hP ap (x:=x) (v:=v) (by simp) (ho.keep (FM.le_refl _) λa ha o e=>keep a o (λq=>notin b fb.2.1 (q▸ha)) e) hs2
  exact k s' ((R2.mu (μ':=λ_=>none) λ_ _ h=>(nomatch h)).congr hk2 hg2) λa o e=>keep a o (pb a o e) (R.ph a o e)
 rcases Ev.set_of hs with hk|hk
 ·have K:=R.kinds x
  rw[hk] at K
  refine wpAny_storeName_local K vs.ns (λh' hn sb=>fin env.locals _ _ sb rfl rfl vs.free hn (by rw[hk];show(if x=x then some v else m x)=_;rw[if_pos rfl]) (λy u hy hu=> ?_) (λy a ha=>(vs.own y a ha).2.1) λy hy=> ?_)
   (by rw[R.fn];rfl)
  ·unfold HoldsVar at hu⊢
   split
   ·rename_i hky;rw[hky] at hu;show(if y=x then some v else m y)=_;rw[if_neg hy];exact hu
   ·rename_i hky;rw[hky] at hu
    obtain⟨a,h1,o,h2,h3⟩:=hu
    obtain⟨b,v',g1,_,_,g4⟩:=vs.cell y hky
    rw[h1] at g1;cases g1
    exact⟨a,h1,o,by show h'.get? a=some o;rw[sb.2 a g4];exact h2,h3⟩
   ·rename_i hky;rw[hky] at hu;exact hu
   ·rename_i n1 n2 n3
    split at hu
    ·rename_i q;exact absurd q n1
    ·rename_i q;exact absurd q n2
    ·rename_i q;exact absurd q n3
    ·exact hu
  ·obtain⟨a,v',h1,⟨o,h2,h2'⟩,h3,h4⟩:=vs.cell y hy
   exact⟨a,v',h1,⟨o,by show h'.get? a=some o;rw[sb.2 a h4];exact h2,h2'⟩,h3,h4⟩
 ·have K:=R.kinds x
  rw[hk] at K
  obtain⟨b,v₀,b1,b2,b3,b4⟩:=vs.cell x hk
  refine wpAny_storeName_cell R.fn K b1 b2 λh' hc sb=>fin b m _ sb rfl rfl b3 (vs.ns.at' λo e=>by show h'.get? _=some o;rw[sb.2 _ (Ne.symm b4)];exact e) (by rw[hk];exact⟨b,b1,hc⟩) (λy u hy hu=> ?_)
   (λy a ha=>(vs.own y a ha).2.2 x b hk b1) λy hy=> ?_
  ·unfold HoldsVar at hu⊢
   split
   ·rename_i hky;rw[hky] at hu;exact hu
   ·rename_i hky;rw[hky] at hu
    obtain⟨a,h1,o,h2,h3⟩:=hu
    have:a≠b:=λq=>hy (vs.cellInj y x a hky hk h1 (q▸b1))
    exact⟨a,h1,o,by show h'.get? a=some o;rw[sb.2 a this];exact h2,h3⟩
   ·rename_i hky;rw[hky] at hu;exact hu
   ·rename_i n1 n2 n3
    split at hu
    ·rename_i q;exact absurd q n1
    ·rename_i q;exact absurd q n2
    ·rename_i q;exact absurd q n3
    ·exact hu
  ·obtain⟨a,v',h1,⟨o,h2,h2'⟩,h3,h4⟩:=vs.cell y hy
   by_cases hab:a=b
   ·exact⟨a,some v,h1,hab▸hc,h3,h4⟩
   ·exact⟨a,v',h1,⟨o,by show h'.get? a=some o;rw[sb.2 a hab];exact h2,h2'⟩,h3,h4⟩
theorem H3{M:Model}{A:Around}{E:Value->Shared->Prop}{x:Str}{v:Value}{d:D}{Q:Unit->Shared->Prop}(R:Rel c env ρ σ Z P (λ_=>none) s)(r:Rep c Z d v)(hs:ρ.set x (.d d)=some ρ')
 (k:∀s',Rel c env ρ' σ Z P (λ_=>none) s'->Q () s'):wpAny M A (storeName env x v) Q E s:=
 Gv (as:=[]) (P:=P) (W:= .d d) (by rw[FM.adds_nil];exact R) (λ_ h=>(nomatch h)) DX ⟨rfl,r⟩ hs λs' R' _=>k s' R'
end
section
open SetTable
def De(r:List Int):Int:=reduceHash (Builtin.Tuple.tupleHashOf (r.map hashInt))
def allRows:List (List Int):=[[0],[1],[2],[0,0],[0,1],[0,2],[1,0],[1,1],[1,2],[2,0],[2,1],[2,2]]
theorem Ml{r:List Int}(h:CQ r=true):r∈allRows:=by
 unfold CQ at h
 split at h
 ·simp only[and_eq_true,decide_eq_true_eq] at h
  rename_i a
  have:a=0\/a=1\/a=2:=by omega
  rcases this with rfl|rfl|rfl<;>decide
 ·rename_i a b
  simp only[and_eq_true,decide_eq_true_eq] at h
  have h1:a=0\/a=1\/a=2:=by omega
  have h2:b=0\/b=1\/b=2:=by omega
  rcases h1 with rfl|rfl|rfl<;>rcases h2 with rfl|rfl|rfl<;>decide
 ·cases h
def JH:List Int:=allRows.map De
theorem KA:∀r∈allRows,∀q∈allRows,De r=De q->r=q:=by decide+kernel
def TM(m:Nat):SetTable:={fresh 0 0 true with mask:=m}
theorem NS(t:SetTable)(p:Probe):t.advance p=(TM t.mask).advance p:=rfl
theorem JY(t:SetTable)(h:Int):t.probeStart h=(TM t.mask).probeStart h:=rfl
def pr(m:Nat)(h:Int):Nat->Probe
 |0=>(TM m).probeStart h
 |k+1=>(TM m).advance (pr m h k)
def LT(m:Nat):Nat->Probe->List Nat
 |0,_=>[]
 |n+1,p=>p.j::LT m n ((TM m).advance p)
theorem LS(m:Nat)(h:Int):∀(n k i:Nat),i<n->(LT m n (pr m h k))[i]? =some (pr m h (k+i)).j
 |n+1,k,0,_=>rfl
 |n+1,k,i+1,hi=>by
  show(LT m n (pr m h (k+1)))[i]? =_
  rw[LS m h n (k+1) i (by omega)]
  congr 3;omega
theorem HZ(m:Nat):∀(n:Nat)(p:Probe),(LT m n p).length=n
 |0,_=>rfl
 |n+1,p=>by simp[LT,HZ m n]
def HL(m n:Nat)(h:Int):Bool:=((List.range (m+1)).all λj=>(LT m n (pr m h 0)).contains j)&&(LT m n (pr m h 0)).all (λj=>decide (j<=m))
theorem Rn:∀h∈JH,HL 7 160 h=true:=by decide+kernel
theorem MN:∀h∈JH,HL 31 400 h=true:=by decide+kernel
def Asc(l:List Nat):Prop:=l.Pairwise (· < ·)
theorem Asc.lt{l:List Nat}(h:Asc l){i j:Nat}(hij:i<j)(hj:j<l.length):l.getD i 0<l.getD j 0:=by
 have:=(List.pairwise_iff_getElem.mp h) i j (by omega) hj hij
 simpa[show i<l.length by omega,hj] using this
theorem JD(xs:Array Nat)(j:Nat)(hs:Asc xs.toList):∀(fuel lo hi:Nat),hi -lo<=fuel->lo<=hi->hi<=xs.size->(∀i,i<lo->xs.getD i 0<j)->(∀i,hi<=i->i<xs.size->j<=xs.getD i 0)->
 below.go xs j fuel lo hi<=xs.size/\(∀i,i<below.go xs j fuel lo hi->xs.getD i 0<j)/\(∀i,below.go xs j fuel lo hi<=i->i<xs.size->j<=xs.getD i 0)
 |0,lo,hi,h1,h2,h3,h4,h5=>by
  have:lo=hi:=by omega
  subst this
  exact⟨h3,h4,h5⟩
 |fuel+1,lo,hi,h1,h2,h3,h4,h5=>by
  unfold below.go
  by_cases hlt:lo<hi
  ·rw[if_pos hlt]
   dsimp only
   have mono:∀i k,i<=k->k<xs.size->xs.getD i 0<=xs.getD k 0:=λi k hik hk=>by
    rcases Nat.lt_or_ge i k with h|h
    ·have:=hs.lt h (by simpa using hk)
     simp only[List.getD_eq_getElem?_getD,Array.getElem?_toList] at this
     simp only[Array.getD_eq_getD_getElem?]
     omega
    ·have:i=k:=by omega
     subst this;exact Nat.le_refl _
   rw[show xs.getD ((lo+hi)/2) j=xs.getD ((lo+hi)/2) 0 by simp[Array.getD,show(lo+hi)/2<xs.size by omega]]
   by_cases hm:xs.getD ((lo+hi)/2) 0<j
   ·rw[if_pos hm]
    refine JD xs j hs fuel _ _ (by omega) (by omega) h3 (λi hi'=> ?_) h5
    exact Nat.lt_of_le_of_lt (mono i _ (by omega) (by omega)) hm
   ·rw[if_neg hm]
    refine JD xs j hs fuel _ _ (by omega) (by omega) (by omega) h4 (λi h6 h7=> ?_)
    exact Nat.le_trans (Nat.le_of_not_lt hm) (mono _ i h6 h7)
  ·rw[if_neg hlt]
   have:lo=hi:=by omega
   subst this
   exact⟨h3,h4,h5⟩
theorem F5{xs:Array Nat}(hs:Asc xs.toList)(j:Nat):below xs j<=xs.size/\(∀i,i<below xs j->xs.getD i 0<j)/\(∀i,below xs j<=i->i<xs.size->j<=xs.getD i 0):=
 JD xs j hs xs.size 0 xs.size (by omega) (by omega) (Nat.le_refl _) (λi hi=>absurd hi (Nat.not_lt_zero _)) (λi h1 h2=>by omega)
theorem QV{xs:Array Nat}(hs:Asc xs.toList){j i:Nat}(h:xs[i]? =some j):below xs j=i:=by
 obtain⟨h1,h2,h3⟩:=F5 hs j
 have hi:=(Array.getElem?_eq_some_iff.mp h).1
 have e:xs.getD i 0=j:=by rw[Array.getD_eq_getD_getElem?,h];rfl
 rcases Nat.lt_trichotomy (below xs j) i with hlt|heq|hgt
 ·have a1:=h3 _ (Nat.le_refl _) (by omega)
  have a2:=hs.lt hlt (by simpa using hi)
  simp only[List.getD_eq_getElem?_getD,Array.getElem?_toList] at a2
  simp only[Array.getD_eq_getD_getElem?] at a1 e
  omega
 ·exact heq
 ·have:=h2 i hgt;omega
theorem PB{xs:Array Nat}{j:Nat}(h:j∉xs.toList):xs[below xs j]?≠some j:=λe=>h (by
 obtain⟨hi,e⟩:=Array.getElem?_eq_some_iff.mp e
 rw[<-e];simp)
abbrev E3:=Nat×Int×Value
def Ae(en:List E3):List Nat:=en.map (·.1)
def Reach(m:Nat)(h:Int)(j:Nat)(H6:Nat->Prop):Prop:=∃k,(pr m h k).j=j/\∀k'<k,H6 (pr m h k').j
structure TI (m:Nat)(en:List E3):Prop where
 mask:m=7\/m=31
 asc:Asc (Ae en)
 le:∀e∈en,e.1<=m
 good:∀e∈en,e.2.1∈JH
 nodup:(en.map (·.2.1)).Nodup
 reach:∀e∈en,Reach m e.2.1 e.1 (· ∈Ae en)
def PC(t:SetTable)(m:Nat)(en:List E3):Prop:=t.mask=m/\t.place=(Ae en).toArray/\t.dummies= #[]/\t.plain=true
theorem NJ{m n:Nat}{h:Int}(c:HL m n h=true):(∀j,j<=m->∃k,k<n/\(pr m h k).j=j)/\∀k,k<n->(pr m h k).j<=m:=by
 unfold HL at c
 rw[and_eq_true,all_eq_true,all_eq_true] at c
 have g:∀k,k<n->(LT m n (pr m h 0))[k]? =some (pr m h k).j:=λk hk=>by have:=LS m h n 0 k hk;simpa using this
 constructor
 ·intro j hj
  have:=c.1 j (mem_range.mpr (by omega))
  rw[List.contains_iff_mem] at this
  obtain⟨k,hk,e⟩:=List.mem_iff_getElem.mp this
  have hk':k<n:=by rw[HZ] at hk;exact hk
  refine⟨k,hk',?_⟩
  have:=g k hk'
  rw[getElem?_eq_getElem hk] at this
  exact(Option.some.inj this).symm.trans e
 ·intro k hk
  have e:=g k hk
  have:=c.2 _ (List.mem_of_getElem? e)
  simpa using this
theorem O0{m n:Nat}{h:Int}(c:HL m n h=true)(H6:Nat->Prop) [DecidablePred H6](free:∃j,j<=m/\¬H6 j):∃k,k<n/\¬H6 (pr m h k).j/\(pr m h k).j<=m/\∀k'<k,H6 (pr m h k').j:=by
 obtain⟨c1,c2⟩:=NJ c
 obtain⟨j,hj,hf⟩:=free
 obtain⟨k,hk,e⟩:=c1 j hj
 have key:∀d,d<=k->(∀k'<d,H6 (pr m h k').j)\/∃q,q<d/\¬H6 (pr m h q).j/\∀k'<q,H6 (pr m h k').j:=by
  intro d
  induction d with
  |zero=>intro _;exact .inl λk' h=>absurd h (Nat.not_lt_zero _)
  |succ d ih=>
   intro hd
   rcases ih (by omega) with h1|⟨q,h1,h2,h3⟩
   ·by_cases ho:H6 (pr m h d).j
    ·refine .inl λk' hk'=> ?_
     rcases Nat.lt_or_ge k' d with h|h
     ·exact h1 k' h
     ·have:k'=d:=by omega
      subst this;exact ho
    ·exact .inr ⟨d,by omega,ho,h1⟩
   ·exact .inr ⟨q,by omega,h2,h3⟩
 rcases key k (Nat.le_refl _) with h1|⟨q,h1,h2,h3⟩
 ·exact⟨k,hk,by rw[e];exact hf,c2 k hk,h1⟩
 ·exact⟨q,by omega,h2,c2 q (by omega),h3⟩
theorem G7{α:Type} [BEq α] [LawfulBEq α]:∀{l l':List α},l.Nodup->(∀x∈l,x∈l')->l.length<=l'.length
 |[],_,_,_=>zero_le _
 |x::r,l',h,k=>by
  rw[nodup_cons] at h
  have hx:=k x (mem_cons_self ..)
  have:=G7 (l:=r) (l':=l'.erase x) h.2 λy hy=>(List.mem_erase_of_ne (λe=>h.1 (by rw[<-e];exact hy))).mpr (k y (mem_cons_of_mem _ hy))
  rw[List.length_erase_of_mem hx] at this
  have:=List.length_pos_of_mem hx
  simp only[length_cons];omega
theorem Hj{l:List Nat}{m:Nat}(hl:l.length<=m):∃j,j<=m/\¬j∈l:=by
 apply Classical.byContradiction
 intro hn
 have sub:∀j∈List.range (m+1),j∈l:=λj hj=>by
  apply Classical.byContradiction
  intro h
  exact hn ⟨j,by have:=mem_range.mp hj;omega,h⟩
 have:=G7 (List.nodup_range (n:=m+1)) sub
 simp at this
 omega
theorem Reach.mono{m:Nat}{h:Int}{j:Nat}{p q:Nat->Prop}(x:Reach m h j p)(k:∀i,p i->q i):Reach m h j q:=let⟨n,e,f⟩:=x;⟨n,e,λk' hk=>k _ (f k' hk)⟩
theorem Nu(j:Nat):has #[] j=false:=rfl
section
variable {t:SetTable}{m:Nat}{en:List E3}
theorem Jj(x:TI m en)(o:PC t m en){i:Nat}{e:E3}(he:en[i]? =some e):t.slot e.1= .live i:=by
 obtain⟨_,hp,hd,_⟩:=o
 have g:t.place[i]? =some e.1:=by rw[hp];simp[Ae,he]
 have b:below t.place e.1=i:=QV (by rw[hp];exact x.asc) g
 unfold SetTable.slot
 rw[b]
 dsimp only
 rw[g]
 simp
theorem Mk(o:PC t m en){j:Nat}(hj:j∉Ae en):t.slot j= .empty:=by
 obtain⟨_,hp,hd,_⟩:=o
 unfold SetTable.slot
 have:¬(t.place[below t.place j]? ==some j)=true:=by
  rw[beq_iff_eq]
  exact PB (by rw[hp];exact hj)
 simp only[this,hd,Nu]
 rfl
theorem IX(m:Nat)(h:Int):∀k,(pr m h k).dummy=none
 |0=>rfl
 |k+1=>by
  show((TM m).advance (pr m h k)).dummy=none
  unfold advance
  split
  ·exact IX m h k
  ·exact IX m h k
theorem Km{h:Int}{hashAt:Nat->Int}(x:TI m en)(o:PC t m en)(hH:∀i e,en[i]? =some e->hashAt i=e.2.1):∀(d k fuel:Nat),
 (∀k',k<=k'->k'<k+d->∃e∈en,e.1=(pr m h k').j/\e.2.1≠h)->probe.go t hashAt h (fuel+d) (pr m h k)=probe.go t hashAt h fuel (pr m h (k+d))
 |0,k,fuel,_=>rfl
 |d+1,k,fuel,hk=>by
  obtain⟨e,he,e1,e2⟩:=hk k (Nat.le_refl _) (by omega)
  obtain⟨i,hi⟩:=List.mem_iff_getElem?.mp he
  have sl:t.slot (pr m h k).j= .live i:=by rw[<-e1];exact Jj x o hi
  have hh:¬(hashAt i==h)=true:=by rw[hH i e hi,beq_iff_eq];exact e2
  have adv:t.advance (pr m h k)=pr m h (k+1):=by rw[NS,o.1];rfl
  rw[show fuel+(d+1)=(fuel+d)+1 by omega]
  rw[probe.go]
  rw[sl]
  simp only[hh,adv]
  have:=Km x o hH d (k+1) fuel λk' h1 h2=>hk k' (by omega) (by omega)
  rw[show k+(d+1)=k+1+d by omega]
  simpa using this
theorem Rm(x:TI m en){h:Int}(hh:h∈JH):∃n,n<10*turns m/\HL m n h=true:=by
 rcases x.mask with rfl|rfl
 ·exact⟨160,by decide,Rn h hh⟩
 ·exact⟨400,by decide,MN h hh⟩
theorem LX{h:Int}{hashAt:Nat->Int}(x:TI m en)(o:PC t m en)(hH:∀i e,en[i]? =some e->hashAt i=e.2.1)(hh:h∈JH)(hl:en.length<=m):
 (∃i e n,en[i]? =some e/\e.2.1=h/\t.probe hashAt h (t.probeStart h)=some (.candidate e.1 i n))\/
 ((∀e∈en,e.2.1≠h)/\∃j,t.probe hashAt h (t.probeStart h)=some (.empty j none)/\j<=m/\j∉Ae en/\Reach m h j (· ∈Ae en)):=by
 obtain⟨n,hn,hc⟩:=Rm x hh
 obtain⟨k,hk,k1,k2,k3⟩:=O0 hc (· ∈Ae en) (Hj (by unfold Ae;rw[length_map];exact hl))
 have st:t.probeStart h=pr m h 0:=by rw[JY,o.1];rfl
 have ent:∀j,j∈Ae en->∃e∈en,e.1=j:=λj hj=>by unfold Ae at hj;obtain⟨e,he,e1⟩:=mem_map.mp hj;exact⟨e,he,e1⟩
 have start:t.probe hashAt h (t.probeStart h)=probe.go t hashAt h (10*turns m) (pr m h 0):=by rw[st];unfold probe;rw[o.1]
 by_cases hx:∃q,q<=k/\∃e∈en,e.1=(pr m h q).j/\e.2.1=h
 ·
  have least:∀d,(∃q,q<=d/\q<=k/\∃e∈en,e.1=(pr m h q).j/\e.2.1=h)->∃q,q<=k/\(∃e∈en,e.1=(pr m h q).j/\e.2.1=h)/\∀q'<q,¬∃e∈en,e.1=(pr m h q').j/\e.2.1=h:=by
   intro d
   induction d with
   |zero=>rintro⟨q,h1,h2,h3⟩;exact⟨q,h2,h3,λq' hq=>by omega⟩
   |succ d ih=>
    rintro⟨q,h1,h2,h3⟩
    by_cases hs:∃q,q<=d/\q<=k/\∃e∈en,e.1=(pr m h q).j/\e.2.1=h
    ·exact ih hs
    ·exact⟨q,h2,h3,λq' hq hn=>hs ⟨q',by omega,by omega,hn⟩⟩
  obtain⟨q0,h0,hx⟩:=hx
  obtain⟨q,q1,⟨e,he,q2,q3⟩,q4⟩:=least k ⟨q0,h0,h0,hx⟩
  obtain⟨i,hi⟩:=List.mem_iff_getElem?.mp he
  refine .inl ⟨i,e,t.advance (pr m h q),hi,q3,?_⟩
  rw[start,show 10*turns m=(10*turns m -q -1+1)+q by omega,Km x o hH q 0 _ (λk' _ h2=> ?_),Nat.zero_add,probe.go,<-q2,Jj x o hi]
  ·simp[hH i e hi,q3,q2]
  ·obtain⟨e',he',e1⟩:=ent _ (k3 k' (by omega))
   exact⟨e',he',e1,λe2=>q4 k' (by omega) ⟨e',he',e1,e2⟩⟩
 ·refine .inr ⟨λe he e2=> ?_,(pr m h k).j,?_,k2,k1,k,rfl,k3⟩
  ·obtain⟨ke,r1,r2⟩:=x.reach e he
   rw[e2] at r1 r2
   by_cases hle:ke<=k
   ·exact hx ⟨ke,hle,e,he,r1.symm,e2⟩
   ·exact k1 (r2 k (by omega))
  ·rw[start,show 10*turns m=(10*turns m -k -1+1)+k by omega,Km x o hH k 0 _ (λk' _ h2=> ?_),Nat.zero_add,probe.go,Mk o k1]
   ·simp[IX]
   ·obtain⟨e',he',e1⟩:=ent _ (k3 k' (by omega))
    exact⟨e',he',e1,λe2=>hx ⟨k',by omega,e',he',e1,e2⟩⟩
def GU(en:List E3)(p:Nat)(e:E3):List E3:=en.take p++e::en.drop p
theorem DV(en:List E3)(p:Nat)(e:E3):(GU en p e).Perm (e::en):=by
 unfold GU
 have h:(en.take p++e::en.drop p).Perm (e::(en.take p++en.drop p)):=List.perm_middle
 rw[List.take_append_drop] at h
 exact h
theorem IL{α:Type}(xs:Array α)(p:Nat)(x:α):(insertAt xs p x).toList=xs.toList.take p++x::xs.toList.drop p:=SetTable.toList_insertAt xs p x
theorem Sb(x:TI m en)(o:PC t m en){h:Int}{v:Value}{j:Nat}(hh:h∈JH)(hnew:∀e∈en,e.2.1≠h)(hj:j<=m)(hn:j∉Ae en)(hr:Reach m h j (· ∈Ae en)):
 TI m (GU en (t.put j).2 (j,h,v))/\PC (t.put j).1 m (GU en (t.put j).2 (j,h,v))/\insertAt (en.map (·.2)).toArray (t.put j).2 (h,v)=((GU en (t.put j).2 (j,h,v)).map (·.2)).toArray:=by
 obtain⟨om,hp,hd,opl⟩:=o
 have hp2:(t.put j).2=below t.place j:=rfl
 have hs:Asc t.place.toList:=by rw[hp];exact x.asc
 obtain⟨b1,b2,b3⟩:=F5 hs j
 rw[hp2]
 generalize hb:below t.place j=p at b1 b2 b3⊢
 have hsz:t.place.size=en.length:=by rw[hp];simp[Ae]
 have gd:∀i (hi:i<en.length),t.place.getD i 0=en[i].1:=λi hi=>by rw[hp];simp[Ae,Array.getD,hi]
 have sl:Ae (GU en p (j,h,v))=(Ae en).take p++j::(Ae en).drop p:=by unfold Ae GU;simp[map_take,List.map_drop]
 have memp:∀e,e∈GU en p (j,h,v)↔e=(j,h,v)\/e∈en:=λe=>by rw[(DV en p _).mem_iff,mem_cons]
 have H6:∀i,i∈Ae en->i∈Ae (GU en p (j,h,v)):=λi hi=>by
  unfold Ae at hi⊢
  obtain⟨e,he,rfl⟩:=mem_map.mp hi
  exact List.mem_map_of_mem ((memp e).mpr (.inr he))
 have ge:∀i (hi:i<en.length),(Ae en)[i]? =some en[i].1:=λi hi=>by simp[Ae,hi]
 refine⟨⟨x.mask,?_,λe he=> ?_,λe he=> ?_,?_,λe he=> ?_⟩,⟨om,?_,?_,opl⟩,?_⟩
 ·unfold Asc
  rw[sl,List.pairwise_append]
  have tk:∀a∈(Ae en).take p,a<j:=λa ha=>by
   obtain⟨i,hi,e⟩:=List.mem_iff_getElem.mp ha
   have hi':i<p/\i<en.length:=by simp[Ae] at hi;omega
   have:=b2 i hi'.1
   rw[gd i hi'.2] at this
   rw[<-e];simpa[Ae] using this
  have dr:∀a∈(Ae en).drop p,j<a:=λa ha=>by
   obtain⟨i,hi,e⟩:=List.mem_iff_getElem.mp ha
   have hi':p+i<en.length:=by simp[Ae] at hi;omega
   have:=b3 (p+i) (by omega) (by omega)
   rw[gd _ hi'] at this
   have e':a=en[p+i].1:=by rw[<-e];simp[Ae]
   rcases Nat.lt_or_ge j a with h1|h1
   ·exact h1
   ·exfalso
    have:j=a:=by omega
    exact hn (by rw[this];exact List.mem_of_mem_drop ha)
  refine⟨x.asc.take,?_,λa ha b hb'=> ?_⟩
  ·rw[List.pairwise_cons]
   exact⟨dr,x.asc.drop⟩
  ·rcases mem_cons.mp hb' with rfl|hb'
   ·exact tk a ha
   ·exact Nat.lt_trans (tk a ha) (dr b hb')
 ·rcases(memp e).mp he with rfl|he
  ·exact hj
  ·exact x.le e he
 ·rcases(memp e).mp he with rfl|he
  ·exact hh
  ·exact x.good e he
 ·have:=((DV en p (j,h,v)).map (·.2.1)).nodup_iff
  rw[this,map_cons,nodup_cons]
  refine⟨λhm=> ?_,x.nodup⟩
  obtain⟨e,he,e1⟩:=mem_map.mp hm
  exact hnew e he e1
 ·rcases(memp e).mp he with rfl|he
  ·exact hr.mono H6
  ·exact(x.reach e he).mono H6
 ·show insertAt t.place (below t.place j) j=_
  apply Array.toList_inj.mp
  rw[IL,hb,sl,hp]
 ·show(if has t.dummies j=true then _ else t.dummies)= #[]
  rw[hd,Nu];rfl
 ·apply Array.toList_inj.mp
  rw[IL]
  unfold GU
  simp[map_take,List.map_drop]
end
end
section
open SetTable
def IH(m:Nat):Nat->Nat->Nat->List Nat
 |0,_,_=>[]
 |f+1,i,p=>(List.range (runEnd m i+1 -i)).map (i+ ·)++IH m f (leap m i p).1 (leap m i p).2
theorem Qv:∀h∈JH,((List.range 32).all λj=>(IH 31 (turns 31) (bits h % 32) (bits h)).contains j)=true:=by decide+kernel
abbrev Ee:=Array (Option Nat)
def H6(ow:Ee)(j:Nat):Prop:=ow.getD j (some 0)≠none
theorem KE{m:Nat}{ow:Ee}:∀(f i p:Nat),layClean.free m ow f i p=none->∀j∈IH m f i p,H6 ow j
 |0,_,_,_,j,hj=>by simp[IH] at hj
 |f+1,i,p,h,j,hj=>by
  unfold layClean.free at h
  split at h
  ·cases h
  ·rename_i hf
   simp only[IH,mem_append,mem_map,mem_range] at hj
   rcases hj with ⟨k,hk,rfl⟩|hj
   ·have:=List.find?_eq_none.mp hf k (mem_range.mpr hk)
    unfold H6
    intro e
    rw[e] at this
    exact this rfl
   ·exact KE f _ _ h j hj
theorem GO{m:Nat}{h:Int}{q i p:Nat}(hq:pr m h q=⟨i,runEnd m i -i,i,p,none⟩):∀r,r<=runEnd m i -i->pr m h (q+r)=⟨i+r,runEnd m i -i -r,i,p,none⟩
 |0,_=>hq
 |r+1,hr=>by
  have ih:=GO hq r (by omega)
  show(TM m).advance (pr m h (q+r))=_
  rw[ih]
  unfold advance
  dsimp only
  rw[if_pos (by omega)]
  congr 1
theorem Q8{m:Nat}{h:Int}{q i p:Nat}(hq:pr m h q=⟨i,runEnd m i -i,i,p,none⟩):
 pr m h (q+(runEnd m i -i)+1)=⟨(leap m i p).1,runEnd m (leap m i p).1 -(leap m i p).1,(leap m i p).1,(leap m i p).2,none⟩:=by
 have ih:=GO hq (runEnd m i -i) (Nat.le_refl _)
 show(TM m).advance (pr m h (q+(runEnd m i -i)))=_
 rw[ih]
 unfold advance
 dsimp only
 rw[if_neg (by omega)]
 rfl
theorem OS(m i:Nat):i<=runEnd m i:=by unfold runEnd;split<;>omega
theorem KD{m:Nat}{h:Int}{ow:Ee}{j:Nat}:∀(f i p q:Nat),pr m h q=⟨i,runEnd m i -i,i,p,none⟩->(∀k'<q,H6 ow (pr m h k').j)->layClean.free m ow f i p=some j->
 ¬H6 ow j/\∃k,(pr m h k).j=j/\∀k'<k,H6 ow (pr m h k').j
 |0,_,_,_,_,_,h=>by simp[layClean.free] at h
 |f+1,i,p,q,hq,ho,hfr=>by
  have hge:=OS m i
  unfold layClean.free at hfr
  split at hfr
  ·rename_i k hf
   cases hfr
   obtain⟨h1,as,bs,e,h2⟩:=List.find?_eq_some_iff_append.mp hf
   have hk:k<runEnd m i+1 -i:=mem_range.mp (List.mem_of_find?_eq_some hf)
   have hj:(pr m h (q+k)).j=i+k:=by rw[GO hq k (by omega)]
   refine⟨λho'=>ho' (by simpa using h1),q+k,hj,λk' hk'=> ?_⟩
   by_cases hl:k'<q
   ·exact ho k' hl
   ·have hlt:k' -q<k:=by omega
    have hm:k' -q∈as:=by
     have:as=List.range k:=by
      have e1:(List.range (runEnd m i+1 -i))[as.length]? =some k:=by rw[e];simp
      have hal:as.length=k:=by
       rw[List.getElem?_range (by
        have:=congrArg List.length e
        simp at this;omega)] at e1
       exact Option.some.inj e1
      have e2:=congrArg (List.take k) e
      rw[List.take_range,List.take_left' hal,Nat.min_eq_left (by omega)] at e2
      exact e2.symm
     rw[this];exact mem_range.mpr hlt
    have:=h2 _ hm
    have e3:(pr m h k').j=i+(k' -q):=by
     have:=GO hq (k' -q) (by omega)
     rw[show q+(k' -q)=k' by omega] at this
     rw[this]
    rw[e3]
    intro e4
    rw[e4] at this
    simp at this
  ·rename_i hf
   refine KD f _ _ (q+(runEnd m i -i)+1) (Q8 hq) (λk' hk'=> ?_) hfr
   by_cases hl:k'<q
   ·exact ho k' hl
   ·have hlt:k' -q<runEnd m i+1 -i:=by omega
    have:=List.find?_eq_none.mp hf (k' -q) (mem_range.mpr hlt)
    have e3:(pr m h k').j=i+(k' -q):=by
     have:=GO hq (k' -q) (by omega)
     rw[show q+(k' -q)=k' by omega] at this
     rw[this]
    rw[e3]
    intro e4
    rw[e4] at this
    simp at this
def Bq(es:List (Int×Value))(ow:Ee)(j:Nat):Option E3:=(ow.getD j none).bind λi=>es[i]?.map λe=>(j,e)
def live(es:List (Int×Value))(ow:Ee):List E3:=(List.range 32).filterMap (Bq es ow)
theorem Dh{α β:Type}{f g:α->Option β}:∀{l:List α},(∀i∈l,g i=f i)->l.filterMap g=l.filterMap f
 |[],_=>rfl
 |x::r,h=>by rw[filterMap_cons,filterMap_cons,h x (mem_cons_self ..),Dh λi hi=>h i (mem_cons_of_mem _ hi)]
theorem FY{β:Type}{f g:Nat->Option β}{j:Nat}{b:β}(hf:f j=none)(hg:g j=some b)(he:∀i,i≠j->g i=f i):∀n,j<n->((List.range n).filterMap g).Perm (b::(List.range n).filterMap f)
 |0,h=>absurd h (Nat.not_lt_zero _)
 |n+1,h=>by
  rw[List.range_succ,List.filterMap_append,List.filterMap_append]
  by_cases hj:j<n
  ·have:=FY hf hg he n hj
   have e:List.filterMap g [n]=List.filterMap f [n]:=by rw[filterMap_cons,filterMap_cons,he n (by omega)];rfl
   rw[e]
   exact(this.append_right _)
  ·have hjn:j=n:=by omega
   subst hjn
   have e:List.filterMap g (List.range j)=List.filterMap f (List.range j):=Dh λi hi=>he i (by have:=mem_range.mp hi;omega)
   rw[e]
   simp only[filterMap_cons,hg,hf,List.filterMap_nil]
   rw[append_nil];exact List.perm_append_singleton b _
structure OI (es:List (Int×Value))(ow:Ee)(k:Nat):Prop where
 size:ow.size=32
 lt:∀j i,ow.getD j none=some i->i<k
 ti:TI 31 (live es ow)
 perm:((live es ow).map (·.2)).Perm (es.take k)
theorem Nh{es:List (Int×Value)}{ow:Ee}{k:Nat}(x:OI es ow k)(hk:k<=es.length){j:Nat}(hj:j<32):H6 ow j↔j∈Ae (live es ow):=by
 have hj':j<ow.size:=by rw[x.size];exact hj
 have e1:ow.getD j (some 0)=ow[j]:=by simp[Array.getD,hj']
 have e2:ow.getD j none=ow[j]:=by simp[Array.getD,hj']
 unfold H6 Ae live
 rw[e1]
 constructor
 ·intro h
  cases q:ow[j] with
  |none=>exact absurd q h
  |some i=>
   have hi:=x.lt j i (by rw[e2,q])
   have:Bq es ow j=some (j,es[i]'(by omega)):=by unfold Bq;rw[e2,q];simp[getElem?_eq_getElem (show i<es.length by omega)]
   exact mem_map.mpr ⟨_,List.mem_filterMap.mpr ⟨j,mem_range.mpr hj,this⟩,rfl⟩
 ·intro h
  obtain⟨e,he,e3⟩:=mem_map.mp h
  obtain⟨j',hj1,hj2⟩:=List.mem_filterMap.mp he
  unfold Bq at hj2
  cases q:ow.getD j' none with
  |none=>rw[q] at hj2;cases hj2
  |some i=>
   rw[q] at hj2
   simp only[bind_some,map_eq_some_iff] at hj2
   obtain⟨y,_,rfl⟩:=hj2
   dsimp only at e3
   subst e3
   rw[e2] at q
   rw[q];exact λc=>by cases c
theorem RD{es:List (Int×Value)}{ow:Ee}{k:Nat}(x:OI es ow k){j:Nat}(h:¬H6 ow j):j<32:=by
 apply Classical.byContradiction
 intro hn
 apply h
 have:¬j<ow.size:=by rw[x.size];exact hn
 unfold H6
 simp[Array.getD,this]
theorem P8{es:List (Int×Value)}{ow:Ee}{k:Nat}{h:Int}{v:Value}(x:OI es ow k)(he:es[k]? =some (h,v))(hg:h∈JH)(hnew:∀i,i<k->(es[i]?.map (·.1))≠some h)(hk:k<32):
 ∃j,layClean.free 31 ow (turns 31) (bits h % 32) (bits h)=some j/\OI es (ow.setIfInBounds j (some k)) (k+1):=by
 have hkl:k<es.length:=(List.getElem?_eq_some_iff.mp he).1
 have hll:(live es ow).length=k:=by
  have:=x.perm.length_eq
  simp at this
  omega
 cases hf:layClean.free 31 ow (turns 31) (bits h % 32) (bits h) with
 |none=>
  exfalso
  have h1:=KE _ _ _ hf
  have h2:=Qv h hg
  obtain⟨j,hj,hn⟩:=Hj (l:=Ae (live es ow)) (m:=31) (by unfold Ae;rw[length_map,hll];omega)
  rw[all_eq_true] at h2
  have h3:=h2 j (mem_range.mpr (by omega))
  rw[List.contains_iff_mem] at h3
  exact hn ((Nh x (by omega) (by omega)).mp (h1 j h3))
 |some j=>
  obtain⟨h1,q,h2,h3⟩:=KD (m:=31) (h:=h) _ _ _ 0 rfl (λk' hk'=>absurd hk' (Nat.not_lt_zero _)) hf
  have hj:=RD x h1
  have hj':j<ow.size:=by rw[x.size];exact hj
  have hnone:ow.getD j none=none:=by
   unfold H6 at h1
   have e1:ow.getD j (some 0)=ow[j]:=by simp[Array.getD,hj']
   have e2:ow.getD j none=ow[j]:=by simp[Array.getD,hj']
   rw[e2,<-e1]
   exact Classical.byContradiction h1
  have gj:(ow.setIfInBounds j (some k)).getD j none=some k:=by simp[Array.getD,hj']
  have gi:∀i,i≠j->(ow.setIfInBounds j (some k)).getD i none=ow.getD i none:=λi hi=>by
   simp[Array.getD_eq_getD_getElem?,Ne.symm hi]
  have f1:Bq es ow j=none:=by unfold Bq;rw[hnone];rfl
  have f2:Bq es (ow.setIfInBounds j (some k)) j=some (j,h,v):=by unfold Bq;rw[gj];simp[he]
  have f3:∀i,i≠j->Bq es (ow.setIfInBounds j (some k)) i=Bq es ow i:=λi hi=>by unfold Bq;rw[gi i hi]
  have P:(live es (ow.setIfInBounds j (some k))).Perm ((j,h,v)::live es ow):=FY f1 f2 f3 32 hj
  have mem:∀e,e∈live es (ow.setIfInBounds j (some k))↔e=(j,h,v)\/e∈live es ow:=λe=>by rw[P.mem_iff,mem_cons]
  have up:∀i,i∈Ae (live es ow)->i∈Ae (live es (ow.setIfInBounds j (some k))):=λi hi=>by
   unfold Ae at hi⊢
   obtain⟨e,he,rfl⟩:=mem_map.mp hi
   exact List.mem_map_of_mem ((mem e).mpr (.inr he))
  refine⟨j,rfl,⟨by rw[Array.size_setIfInBounds];exact x.size,λa i hi=> ?_,⟨.inr rfl,?_,λe he'=> ?_,λe he'=> ?_,?_,λe he'=> ?_⟩,?_⟩⟩
  ·by_cases ha:a=j
   ·subst ha;rw[gj] at hi;cases hi;omega
   ·rw[gi a ha] at hi;have:=x.lt a i hi;omega
  ·unfold Asc Ae live
   rw[List.pairwise_map,List.pairwise_filterMap]
   refine List.Pairwise.imp ?_ (List.pairwise_lt_range (n:=32))
   intro a b hab y hy z hz
   have e1:y.1=a:=by
    unfold Bq at hy
    simp only[bind_eq_some_iff,map_eq_some_iff] at hy
    obtain⟨_,_,_,_,rfl⟩:=hy;rfl
   have e2:z.1=b:=by
    unfold Bq at hz
    simp only[bind_eq_some_iff,map_eq_some_iff] at hz
    obtain⟨_,_,_,_,rfl⟩:=hz;rfl
   rw[e1,e2];exact hab
  ·rcases(mem e).mp he' with rfl|he'
   ·show j<=31;omega
   ·exact x.ti.le e he'
  ·rcases(mem e).mp he' with rfl|he'
   ·exact hg
   ·exact x.ti.good e he'
  ·rw[(P.map (·.2.1)).nodup_iff,map_cons,nodup_cons]
   refine⟨λhm=> ?_,x.ti.nodup⟩
   have:=((x.perm.map (·.1)).mem_iff (a:=h)).mp (by simpa[map_map] using hm)
   obtain⟨e,he1,he2⟩:=mem_map.mp this
   obtain⟨i,hi⟩:=List.mem_iff_getElem?.mp he1
   rw[List.getElem?_take] at hi
   split at hi
   ·rename_i hik
    exact hnew i hik (by rw[hi];simp[he2])
   ·cases hi
  ·rcases(mem e).mp he' with rfl|he'
   ·refine⟨q,h2,λk' hk'=> ?_⟩
    have hjl:(pr 31 h k').j<32:=by
     have hc:=MN h hg
     exact Nat.lt_succ_of_le (by
      have key:∀n,(pr 31 h n).j+(pr 31 h n).more<=31:=by
       have re:∀i,i<=31->runEnd 31 i<=31:=λi hi=>by unfold runEnd;split<;>omega
       intro n
       induction n with
       |zero=>
        show bits h % 32+(runEnd 31 (bits h % 32)-bits h % 32)<=31
        have h1:bits h % 32<=31:=by omega
        have:=re _ h1;omega
       |succ n ih=>
        show((TM 31).advance (pr 31 h n)).j+((TM 31).advance (pr 31 h n)).more<=31
        unfold advance
        split
        ·dsimp only;omega
        ·have h1:(leap 31 (pr 31 h n).i (pr 31 h n).perturb).1<=31:=by unfold leap;dsimp only;omega
         have:=re _ h1
         show(leap 31 (pr 31 h n).i (pr 31 h n).perturb).1+(runEnd 31 (leap 31 (pr 31 h n).i (pr 31 h n).perturb).1 -(leap 31 (pr 31 h n).i (pr 31 h n).perturb).1)<=31
         omega
      have:=key k';omega)
    exact up _ ((Nh x (by omega) hjl).mp (h3 k' hk'))
   ·exact(x.ti.reach e he').mono up
  ·refine(P.map (·.2)).trans ?_
   have et:es.take (k+1)=es.take k++[(h,v)]:=by rw[List.take_add_one,he];rfl
   rw[et,map_cons]
   exact(List.Perm.cons _ x.perm).trans (List.perm_append_singleton _ _).symm
theorem Lw{es:List (Int×Value)}(hg:∀e∈es,e.1∈JH)(hn:(es.map (·.1)).Nodup)(h32:es.length<=32)
 (f:Option (Ee×Nat)->Int->Option (Ee×Nat)) (hf:∀ow k h j,layClean.free 31 ow (turns 31) (bits h % 32) (bits h)=some j->f (some (ow,k)) h=some (ow.setIfInBounds j (some k),k+1)):
 ∀(rest done:List (Int×Value)) (ow:Ee),es=done++rest->OI es ow done.length->∃ow',(rest.map (·.1)).foldl f (some (ow,done.length))=some (ow',es.length)/\OI es ow' es.length
 |[],done,ow,e,x=>⟨ow,by simp[e],by rw[e] at x⊢;simpa using x⟩
 |(h,v)::rest,done,ow,e,x=>by
  have he:es[done.length]? =some (h,v):=by rw[e];simp
  have hlen:done.length<es.length:=(List.getElem?_eq_some_iff.mp he).1
  have hnew:∀i,i<done.length->(es[i]?.map (·.1))≠some h:=λi hi hc=>by
   have a1:(es.map (·.1))[i]? =some h:=by rw[List.getElem?_map];exact hc
   have a2:(es.map (·.1))[done.length]? =some h:=by rw[List.getElem?_map,he];rfl
   have:=(List.getElem?_inj (by simp;omega) hn).mp (a1.trans a2.symm)
   omega
  obtain⟨j,h1,h2⟩:=P8 x he (hg _ (List.mem_of_getElem? he)) hnew (by omega)
  obtain⟨ow',h3,h4⟩:=Lw hg hn h32 f hf rest (done++[(h,v)]) _ (by rw[e];simp) (by simpa using h2)
  refine⟨ow',?_,h4⟩
  rw[map_cons,List.foldl_cons,hf _ _ _ _ h1]
  simpa using h3
theorem OI.zero(es:List (Int×Value)):OI es (Array.replicate 32 none) 0:=by
 have g:∀j,(Array.replicate 32 (none:Option Nat)).getD j none=none:=λj=>by
  simp[Array.getD]
 have hl:live es (Array.replicate 32 none)=[]:=by
  unfold live
  rw[List.filterMap_eq_nil_iff]
  intro j _
  unfold Bq;rw[g];rfl
 refine⟨by simp,λj i hi=>(by rw[g] at hi;cases hi),?_,by rw[hl];simp⟩
 rw[hl]
 exact⟨.inr rfl,List.Pairwise.nil,λ_ h=>by simp at h,λ_ h=>by simp at h,nodup_nil,λ_ h=>by simp at h⟩
theorem OT{t:SetTable}{en:List E3}(x:TI 7 en)(o:PC t 7 en)(h5:en.length=5):
 ∃t' order en',t.relaid (((en.map (·.2)).toArray).map (·.1)) (grown 5)=some (t',order)/\order.filterMap (λi=>((en.map (·.2)).toArray)[i]?)=((en'.map (·.2)).toArray)/\TI 31 en'/\PC t' 31 en'/\(en'.map (·.2)).Perm (en.map (·.2))/\
  t'.led=t.led:=by
 have hsz:sizeAbove (grown 5)-1=31:=by decide+kernel
 unfold relaid
 rw[hsz]
 unfold laid
 have hcl:∃ow,layClean 31 (((en.map (·.2)).toArray).map (·.1))=some ow/\OI (en.map (·.2)) ow 5:=by
  unfold layClean
  rw[<-Array.foldl_toList]
  obtain⟨ow,h1,h2⟩:=Lw (es:=en.map (·.2)) (λe he=>by obtain⟨e',he',rfl⟩:=mem_map.mp he;exact x.good e' he') (by have:=x.nodup;rw[map_map];exact this)
   (by rw[length_map];omega)
   (λacc h=>do
    let(owner,k)<-acc
    let j<-layClean.free 31 owner (turns 31) (bits h % (31+1)) (bits h)
    pure (owner.setIfInBounds j (some k),k+1)) (λow k h j hj=>by
    show(layClean.free 31 ow (turns 31) (bits h % 32) (bits h)).bind _=_
    rw[hj];rfl) (en.map (·.2)) [] (Array.replicate 32 none) rfl (OI.zero _)
  rw[length_map,h5] at h1 h2
  refine⟨ow,?_,h2⟩
  have e:(((en.map (·.2)).toArray).map (·.1)).toList=(en.map (·.2)).map (·.1):=by simp
  rw[e]
  show Option.map _ (List.foldl _ (some (Array.replicate 32 none,0)) _)=_
  have h1':=h1
  simp only[length_nil] at h1'
  rw[h1']
  rfl
 obtain⟨ow,h1,h2⟩:=hcl
 rw[h1]
 have hlen:(en.map (·.2)).length=5:=by rw[length_map];exact h5
 have L:∀(l:List Nat),(((l.filterMap λj=>(ow.getD j none).map (j,·)).map (·.2)).filterMap λi=>(en.map (·.2))[i]?)=(l.filterMap (Bq (en.map (·.2)) ow)).map (·.2)/\
  ((l.filterMap λj=>(ow.getD j none).map (j,·)).map (·.1))=(l.filterMap (Bq (en.map (·.2)) ow)).map (·.1):=by
  intro l
  induction l with
  |nil=>exact⟨rfl,rfl⟩
  |cons j r ih=>
   rw[filterMap_cons,filterMap_cons]
   cases q:ow.getD j none with
   |none=>
    have:Bq (en.map (·.2)) ow j=none:=by unfold Bq;rw[q];rfl
    rw[this]
    exact ih
   |some i=>
    have hi:=h2.lt j i q
    have:Bq (en.map (·.2)) ow j=some (j,(en.map (·.2))[i]'(by rw[hlen];exact hi)):=by unfold Bq;rw[q];simp[getElem?_eq_getElem (show i<en.length by omega)]
    rw[this]
    simp only[map_some,map_cons]
    refine⟨?_,by rw[ih.2]⟩
    rw[filterMap_cons,getElem?_eq_getElem (show i<(en.map (·.2)).length by rw[hlen];exact hi)]
    simp only
    rw[ih.1]
 refine⟨_,_,live (en.map (·.2)) ow,rfl,?_,h2.ti,⟨rfl,?_,rfl,o.2.2.2⟩,?_,rfl⟩
 ·apply Array.toList_inj.mp
  rw[Array.toList_filterMap]
  have:=(L (List.range 32)).1
  simpa[live] using this
 ·apply Array.toList_inj.mp
  have:=(L (List.range 32)).2
  simpa[live,Ae] using this
 ·have:=h2.perm
  rw[List.take_of_length_le (by rw[hlen];exact Nat.le_refl _)] at this
  exact this
end
theorem Ny:Manifest.owners.lookup (String.ofList ['r','o','t','a','r','e','t','i','_','t','e','s'].reverse)=some Manifest.sig_set_iterator:=by kernel_rfl
theorem f_slot_next:Slot "set_iterator" "__next__" "set_iterator.__next__" :=
 .of (owner:= "set_iterator") (n:= "__next__") (by rw[typeLookup_type,builtinLookup_eq_fast];kernel_rfl) (by decide+kernel) (by decide+kernel) (by decide+kernel)
  (by first|exact .inl (by decide+kernel)|exact .inr (by decide+kernel)) (by rw[isSubtype_type];kernel_rfl)
theorem Ga:entryFor table "set_iterator.__next__" =some Builtin.«set_iterator.__next__» :=entryFor_of_tree (by kernel_rfl)
theorem Hm(a:Value):argsOk "set_iterator.__next__" ⟨[a],[]⟩:=by
 unfold argsOk;rw[signature?_of (id:= "set_iterator.__next__") (n:=['_','_','t','x','e','n','_','_']) (o:=['r','o','t','a','r','e','t','i','_','t','e','s']) (by kernel_rfl) Ny];kernel_rfl
theorem Hl:Slot "set_iterator" "__iter__" "set_iterator.__iter__" :=
 .of (owner:= "set_iterator") (n:= "__iter__") (by rw[typeLookup_type,builtinLookup_eq_fast];kernel_rfl) (by decide+kernel) (by decide+kernel) (by decide+kernel)
  (by first|exact .inl (by decide+kernel)|exact .inr (by decide+kernel)) (by rw[isSubtype_type];kernel_rfl)
theorem Kq:entryFor table "set_iterator.__iter__" =some Builtin.«dict_keyiterator.__iter__» :=entryFor_alias (id':= "dict_keyiterator.__iter__") (by kernel_rfl) rfl (by decide+kernel) (by kernel_rfl)
theorem ME(a:Value):argsOk "set_iterator.__iter__" ⟨[a],[]⟩:=by
 unfold argsOk;rw[signature?_of (id:= "set_iterator.__iter__") (n:=['_','_','r','e','t','i','_','_']) (o:=['r','o','t','a','r','e','t','i','_','t','e','s']) (by kernel_rfl) Ny];kernel_rfl
theorem HJ:entryFor table "set.__iter__" =some Builtin.«frozenset.__iter__» :=entryFor_alias (id':= "frozenset.__iter__") (by kernel_rfl) rfl (by decide+kernel) (by kernel_rfl)
section
open SetTable (grown)
structure SetAt (Z:FM)(led:Bool)(h:Heap)(S:Addr)(rs:List (List Int)):Prop where
 at':∃(o:Obj) (ep:Nat) (t:SetTable) (m:Nat) (en:List E3),h.get? S=some o/\o.ExactSet/\o.data= .set ((en.map (·.2)).toArray) ep t/\TI m en/\PC t m en/\en.length*5<m*3/\t.led=led/\
  (∀e∈en,∃r a,r∈rs/\e.2=(De r,.ref a)/\TKey Z r a)/\(∀r∈rs,∃e∈en,e.2.1=De r)/\(∀r∈rs,r∈allRows)
section
variable {prog:Program}{w:World}{A:Around}{E:Value->Shared->Prop}{s:Shared}{Z:FM}
theorem IK(held:∀a o,Z a=some o->s.heap.get? a=some o){k:List Int}{a:Addr}(x:TKey Z k a):IsTupleKey (intKind prog w) s.heap k a:=
 let⟨vs,⟨o,n,e,hc,hd⟩,i⟩:=x;⟨o,vs.toArray,n,held _ _ e,hc,hd,by simpa using EC i⟩
theorem Mu{a:Addr}{es:Array (Int×Value)}:byScan (.ref a) es=false:=rfl
theorem Hc(held:∀a o,Z a=some o->s.heap.get? a=some o){k:List Int}{a:Addr}(x:TKey Z k a){Q:Bool->Shared->Prop}(h:Q false s):wpAny (model prog w) A (ofAClassStatement 8 (.ref a)) Q E s:=by
 obtain⟨o,xs,n,e,hc,hd,hi⟩:=x.look held
 unfold ofAClassStatement
 refine wpAny_bind (wpAny_typeOf (T:= "tuple") ⟨o,e,hc⟩ ?_)
 dsimp only
 rw[if_pos (by rfl)]
 refine wpAny_bind (wpAny_pure ?_)
 simp only[Bool.not_true,false_eq_true,if_false]
 refine wpAny_bind (wpAny_seqItems e hd ?_)
 dsimp only
 refine wpAny_bind ?_
 show wpAny _ _ (forIn xs _ _) _ _ s
 rw[<-Array.forIn_toList]
 refine wpAny_forIn_list _ (λrest r s'=>r.1=none/\s'=s/\∃ns,IntsAre rest ns) _ ?_ ?_ _ _ ⟨rfl,rfl,_,hi⟩
 ·rintro v rest r s' ⟨hr,rfl,ns,hall⟩
  cases hall with
  |cons i t hr'=>
   show wpAny _ _ (ofAClassStatement 7 (.int i t)>>=_) _ _ _
   unfold ofAClassStatement
   refine wpAny_bind (wpAny_pure ?_)
   simp only[false_eq_true,if_false]
   exact wpAny_pure ⟨rfl,rfl,_,hr'⟩
 ·rintro⟨r1,r2⟩ s' ⟨hr,rfl,_⟩
  simp only at hr
  subst hr
  exact wpAny_pure h
theorem Hx(held:∀a o,Z a=some o->s.heap.get? a=some o){k:List Int}{a:Addr}(x:TKey Z k a){Q:Bool->Shared->Prop}(h:Q true s):wpAny (model prog w) A (hashByValue 8 (.ref a)) Q E s:=by
 obtain⟨o,xs,n,e,hc,hd,hi⟩:=x.look held
 unfold hashByValue
 refine wpAny_bind (wpAny_specialOf (T:= "tuple") ⟨o,e,hc⟩ F.slot_tuple_hash.lookup ?_)
 dsimp only
 refine wpAny_bind (wpAny_seqItems e hd ?_)
 refine wpAny_bind ?_
 show wpAny _ _ (forIn xs _ _) _ _ s
 rw[<-Array.forIn_toList]
 refine wpAny_forIn_list _ (λrest r s'=>r.1=none/\s'=s/\∃ns,IntsAre rest ns) _ ?_ ?_ _ _ ⟨rfl,rfl,_,hi⟩
 ·rintro v rest r s' ⟨hr,rfl,ns,hall⟩
  cases hall with
  |cons i t hr'=>
   show wpAny _ _ (hashByValue 7 (.int i t)>>=_) _ _ _
   unfold hashByValue
   refine wpAny_bind (wpAny_pure ?_)
   simp only[Bool.not_true,false_eq_true,if_false]
   exact wpAny_pure ⟨rfl,rfl,_,hr'⟩
 ·rintro⟨r1,r2⟩ s' ⟨hr,rfl,_⟩
  simp only at hr
  subst hr
  exact wpAny_pure h
theorem HM(held:∀a o,Z a=some o->s.heap.get? a=some o){k:List Int}{a:Addr}(x:TKey Z k a):∀(ys:List Value),(∀y∈ys,∃r b,y= .ref b/\TKey Z r b)->∀{Q:Bool->Shared->Prop},Q false s->
 wpAny (model prog w) A (searchCouldBeSeen (.ref a) ys) Q E s:=by
 intro ys hy Q h
 unfold searchCouldBeSeen
 refine wpAny_bind ?_
 refine wpAny_forIn_list _ (λrest r s'=>r.1=none/\s'=s/\∀y∈rest,∃r b,y= .ref b/\TKey Z r b) _ ?_ ?_ _ _ ⟨rfl,rfl,hy⟩
 ·rintro v rest r s' ⟨hr,rfl,hall⟩
  obtain⟨r',b,rfl,hb⟩:=hall v (mem_cons_self ..)
  have hrest:∀y∈rest,∃r b,y= .ref b/\TKey Z r b:=λy hy=>hall y (mem_cons_of_mem _ hy)
  dsimp only
  split
  ·exact wpAny_pure ⟨rfl,rfl,hrest⟩
  ·refine wpAny_bind (wpAny_eqIsQuiet_tuple (knd:=intKind prog w) (IK held x) ?_)
   simp only[Bool.not_true,false_eq_true,if_false]
   refine wpAny_bind (wpAny_eqIsQuiet_tuple (knd:=intKind prog w) (IK held hb) ?_)
   simp only[Bool.not_true,false_eq_true,if_false]
   refine wpAny_bind (Hc held x ?_)
   simp only[false_eq_true,if_false]
   refine wpAny_bind (Hc held hb ?_)
   simp only[false_eq_true,if_false]
   exact wpAny_pure ⟨rfl,rfl,hrest⟩
 ·rintro⟨r1,r2⟩ s' ⟨hr,rfl,_⟩
  simp only at hr
  subst hr
  exact wpAny_pure h
theorem IA{t:SetTable}{m:Nat}{en:List E3}(o:PC t m en)(h:en.length<=m):t.fits ((en.map (·.2)).toArray).size=true:=by
 obtain⟨a,b,c,d⟩:=o
 simp only[SetTable.fits,SetTable.fill,b,c,a,Ae]
 simp;omega
theorem NF{t:SetTable}{m:Nat}{en:List E3}(x:TI m en)(o:PC t m en):t.gaveWay=false:=by
 unfold SetTable.gaveWay
 rw[o.1]
 rcases x.mask with rfl|rfl<;>rfl
theorem OR(hu:A.units<cLine)(held:∀a o,Z a=some o->s.heap.get? a=some o){S:Addr}{rs:List (List Int)}{r:List Int}{a:Addr}{o:Obj}{ep:Nat}{t:SetTable}{m:Nat}{en:List E3}
 (ho:s.heap.get? S=some o) (hd:o.data= .set ((en.map (·.2)).toArray) ep t) (x:TI m en) (ok:PC t m en) (hl:en.length<=m) (hen:∀e∈en,∃r a,r∈rs/\e.2=(De r,.ref a)/\TKey Z r a)
 (hrs:∀r∈rs,r∈allRows) (hr:r∈allRows) (k:TKey Z r a) {Q:SetFound->Shared->Prop}
 (h1:(∃e∈en,e.2.1=De r)->Q (.there none) s)
 (h2:∀j,(∀e∈en,e.2.1≠De r)->j<=m->j∉Ae en->Reach m (De r) j (· ∈Ae en)->Q (.free j false) s):
 wpAny (model prog w) A (setSearch S (.ref a) (De r) true) Q E s:=by
 have hf:=IA ok hl
 unfold setSearch setSearchFrom
 refine wpAny_bind (wpAny_setState_of ho hd hf ?_)
 dsimp only
 rw[NF x ok]
 simp only[false_eq_true,if_false]
 rcases LX (hashAt:=λi=>((en.map (·.2)).toArray[i]?.map (·.1)).getD 0) x ok (λi e he=>by simp[he]) (List.mem_map_of_mem hr) hl with ⟨i,e,nx,he,e1,e2⟩|⟨e1,j,e2,e3,e4,e5⟩
 ·split
  case h_2 hq=>exact absurd e2 (λh=>hq _ h)
  rename_i met hmet
  cases hmet.symm.trans e2
  dsimp only
  have hem:=List.mem_of_getElem? he
  obtain⟨r',b,hr',e3,kb⟩:=hen e hem
  have hrr:r'=r:=KA _ (hrs _ hr') _ hr (by rw[e3] at e1;exact e1)
  subst hrr
  have hel:((en.map (·.2)).toArray)[i]? =some (De r',.ref b):=by simp[he,e3]
  have go:wpAny (model prog w) A (holding [Value.ref b] (eqBool (.ref b) (.ref a))) (λequal s'=>equal=true/\s'=s) E s:=
   wpAny_holding (wpAny_eqBool_tuple (knd:=intKind prog w) hu (IK held kb) (IK held k) ⟨by simp,rfl⟩)
  cases hled:t.led
  ·simp only[Bool.not_false,if_true]
   refine wpAny_bind (HM held k _ (λy hy=> ?_) ?_)
   ·simp only[mem_map,Array.mem_toList_iff,Array.mem_filter] at hy
    obtain⟨⟨h',y'⟩,⟨hm,_⟩,rfl⟩:=hy
    simp only[List.mem_toArray,mem_map] at hm
    obtain⟨e',he',e4⟩:=hm
    obtain⟨r2,b2,_,e5,k2⟩:=hen e' he'
    rw[e5] at e4;cases e4
    exact⟨r2,b2,rfl,k2⟩
   ·simp only[false_eq_true,if_false]
    rw[hel]
    dsimp only
    refine wpAny_bind (wpAny_mono go (λeq s' q=> ?_) λ_ _ q=>q)
    obtain⟨rfl,rfl⟩:=q
    refine wpAny_bind (wpAny_setState_of ho hd hf ?_)
    dsimp only
    simp only[Bool.and_self,if_true]
    exact wpAny_pure (h1 ⟨e,hem,e1⟩)
  ·simp only[Bool.not_true,false_eq_true,if_false]
   rw[hel]
   dsimp only
   refine wpAny_bind (wpAny_mono go (λeq s' q=> ?_) λ_ _ q=>q)
   obtain⟨rfl,rfl⟩:=q
   refine wpAny_bind (wpAny_setState_of ho hd hf ?_)
   dsimp only
   simp only[Bool.and_self,if_true]
   exact wpAny_pure (h1 ⟨e,hem,e1⟩)
 ·split
  case h_2 hq=>exact absurd e2 (λh=>hq _ h)
  rename_i met hmet
  cases hmet.symm.trans e2
  dsimp only
  exact wpAny_pure (h2 j e1 e3 e4 e5)
theorem TI.len{m:Nat}{en:List E3}(x:TI m en):en.length<=12:=by
 have:=G7 x.nodup (l':=JH) λh hh=>by obtain⟨e,he,rfl⟩:=mem_map.mp hh;exact x.good e he
 simpa[JH,allRows] using this
theorem Tl{es':Array (Int×Value)}{t':SetTable}{h:Heap}{S:Addr}{o:Obj}{es:Array (Int×Value)}{ep:Nat}{t:SetTable}(ho:h.get? S=some o)(hex:o.ExactSet)(hd:o.data= .set es ep t):
 ∃o',(h.update S (Obj.putSet es' t')).get? S=some o'/\o'.ExactSet/\o'.data= .set es' (ep+1) t':=by
 refine⟨_,Heap.get?_update_self (Obj.putSet es' t') ho (by rw[putSet_of es' t' hd];rfl),?_,?_⟩
 ·rw[putSet_of es' t' hd];exact hex
 ·rw[putSet_of es' t' hd]
theorem Jm(hu:A.units<cLine)(held:∀a o,Z a=some o->s.heap.get? a=some o){led:Bool}{S:Addr}{rs:List (List Int)}(X:SetAt Z led s.heap S rs){r:List Int}{a:Addr}(k:TKey Z r a)(hr:r∈allRows)
 {Q:Bool->Shared->Prop} (h:∀b h' tk,Heap.SameBut S s.heap h'->SetAt Z led h' S (rs++[r])->Q b {s with heap:=h',toks:=tk}):wpAny (model prog w) A (setAdd S (.ref a)) Q E s:=by
 obtain⟨o,ep,t,m,en,ho,hex,hd,ti,ok,hl5,hled,hen,hin,hrs⟩:=X.at'
 have hlm:en.length<=m:=by omega
 have h12:=ti.len
 have hrs':∀q∈rs++[r],q∈allRows:=λq hq=>by
  rcases mem_append.mp hq with hq|hq
  ·exact hrs q hq
  ·rw[mem_singleton.mp hq];exact hr
 unfold setAdd
 refine wpAny_holding (wpAny_bind ((tupleKind (intKind prog w)).pyHash hu (IK held k) ?_))
 show wpAny _ _ (setAddHashed S (.ref a) (De r)) _ _ _
 unfold setAddHashed setAddHashedIn
 generalize hs1:({s with toks:=s.toks+(tupleKind (intKind prog w)).draws r}:Shared)=s1
 have hh:s1.heap=s.heap:=by rw[<-hs1]
 have ho1:s1.heap.get? S=some o:=by rw[hh];exact ho
 have held1:∀a o,Z a=some o->s1.heap.get? a=some o:=by rw[hh];exact held
 have hf:=IA ok hlm
 refine wpAny_holding (wpAny_bind (wpAny_setState_of ho1 hd hf ?_))
 dsimp only
 rw[Mu]
 simp only[false_eq_true,if_false]
 refine wpAny_bind (OR hu held1 ho1 hd ti ok hlm hen hrs hr k (λhf'=> ?_) λj e1 e2 e3 e4=> ?_)
 ·
  dsimp only
  refine wpAny_pure ?_
  have:=h false s.heap s1.toks (Heap.SameBut.refl _ _) ⟨o,ep,t,m,en,ho,hex,hd,ti,ok,hl5,hled,λe he=>let⟨r,a,q,z⟩:=hen e he;⟨r,a,List.mem_append_left _ q,z⟩,λq hq=> ?_,hrs'⟩
  ·rw[<-hs1] at this⊢;exact this
  ·rcases mem_append.mp hq with hq|hq
   ·exact hin q hq
   ·rw[mem_singleton.mp hq];exact hf'
 ·dsimp only
  refine wpAny_bind (wpAny_setState_of ho1 hd hf ?_)
  obtain⟨ti',ok',he'⟩:=Sb (v:= .ref a) ti ok (List.mem_map_of_mem hr) e1 e2 e3 e4
  have h12':=ti'.len
  have hlen:(GU en (t.put j).2 (j,De r,.ref a)).length=en.length+1:=(DV en _ _).length_eq
  have hpl:(t.put j).1.plain=true:=ok'.2.2.2
  have hen':∀e∈GU en (t.put j).2 (j,De r,.ref a),∃q b,q∈rs++[r]/\e.2=(De q,.ref b)/\TKey Z q b:=λe he=>by
   rcases mem_cons.mp ((DV en _ _).mem_iff.mp he) with rfl|he
   ·exact⟨r,a,List.mem_append_right _ (mem_singleton.mpr rfl),rfl,k⟩
   ·obtain⟨q,b,h1,h2⟩:=hen e he;exact⟨q,b,List.mem_append_left _ h1,h2⟩
  have hin':∀q∈rs++[r],∃e∈GU en (t.put j).2 (j,De r,.ref a),e.2.1=De q:=λq hq=>by
   rcases mem_append.mp hq with hq|hq
   ·obtain⟨e,he,h1⟩:=hin q hq;exact⟨e,(DV en _ _).mem_iff.mpr (mem_cons_of_mem _ he),h1⟩
   ·rw[mem_singleton.mp hq];exact⟨_,(DV en _ _).mem_iff.mpr (mem_cons_self ..),rfl⟩
  have hled':(t.put j).1.led=led:=hled
  rw[show(SetTable.insertAt ((en.map (·.2)).toArray) (t.put j).2 (De r,Value.ref a))=_ from he'] at*
  generalize hp:t.put j=tp at*
  obtain⟨t1,p⟩:=tp
  dsimp only at*
  rw[hpl]
  simp only[if_true]
  refine wpAny_bind (Hx held1 k ?_)
  simp only[if_true]
  rw[he']
  generalize GU en p (j,De r,.ref a)=en1 at*
  have hsz1:((en1.map (·.2)).toArray).size<=sizeLine:=by rw[size_toArray,length_map,sizeLine_eq];omega
  refine wpAny_bind (wpAny_storeSet_of ho1 hd ?_ hsz1)
  obtain⟨o1,g1,g2,g3⟩:=Tl (es':=(en1.map (·.2)).toArray) (t':=t1) ho1 hex hd
  have sb1:=Heap.SameBut.update s1.heap S (Obj.putSet (en1.map (·.2)).toArray t1)
  have esz:(en.map (·.2)).toArray.size=en.length:=by simp
  by_cases hfull:t1.tooFull=true
  ·rw[if_pos (by rw[hfull];rfl)]
   have hfl:t1.fill*5>=t1.mask*3:=by unfold SetTable.tooFull at hfull;simpa using hfull
   have hfill:t1.fill=en1.length:=by obtain⟨_,b,c,_⟩:=ok';unfold SetTable.fill;rw[b,c];simp[Ae]
   rw[hfill,ok'.1] at hfl
   have hm7:m=7:=by rcases ti.mask with rfl|rfl<;>omega
   subst hm7
   have h5:en1.length=5:=by omega
   rw[esz,show en.length+1=5 by omega]
   refine wpAny_bind ?_
   unfold setRelay
   have hf1:=IA ok' (by omega)
   refine wpAny_bind (wpAny_setState_of g1 g3 hf1 ?_)
   dsimp only
   have hsa:SetTable.sizeAbove (SetTable.grown 5)=32:=by decide+kernel
   rw[hsa,if_neg (by rw[sizeLine_eq];omega)]
   obtain⟨t2,order,en2,r1,r2,r3,r4,r5,r6⟩:=OT ti' ok' h5
   refine wpAny_bind (wpAny_of_eq (a:=((en2.map (·.2)).toArray,t2)) ?_ ?_)
   ·rw[r1]
    show(if(order.filterMap (λi=>((en1.map (·.2)).toArray)[i]?)).size !=((en1.map (·.2)).toArray).size then unsupported _>>=λ_=>pure _ else pure (order.filterMap (λi=>((en1.map (·.2)).toArray)[i]?),t2))=_
    rw[r2]
    have:((en2.map (·.2)).toArray).size=((en1.map (·.2)).toArray).size:=by rw[size_toArray,size_toArray];exact r5.length_eq
    rw[this]
    simp
   ·dsimp only
    have hl2:en2.length=5:=by have:=r5.length_eq;simpa[h5] using this
    refine wpAny_storeSet_of g1 g3 ?_ (by rw[size_toArray,length_map,sizeLine_eq];omega)
    obtain⟨o2,f1,f2,f3⟩:=Tl (es':=(en2.map (·.2)).toArray) (t':=t2) g1 g2 g3
    refine wpAny_pure ?_
    have mem2:∀e∈en2,∃e'∈en1,e'.2=e.2:=λe he=>by
     have:=(r5.mem_iff (a:=e.2)).mp (List.mem_map_of_mem he)
     obtain⟨e',h1,h2⟩:=mem_map.mp this;exact⟨e',h1,h2⟩
    have mem3:∀e∈en1,∃e'∈en2,e'.2=e.2:=λe he=>by
     have:=(r5.mem_iff (a:=e.2)).mpr (List.mem_map_of_mem he)
     obtain⟨e',h1,h2⟩:=mem_map.mp this;exact⟨e',h1,h2⟩
    have hl5':en2.length*5<31*3:=by rw[hl2];decide
    have hen2:∀e∈en2,∃q b,q∈rs++[r]/\e.2=(De q,.ref b)/\TKey Z q b:=λe he=>by
     obtain⟨e',h1,h2⟩:=mem2 e he
     obtain⟨q,b,c1,c2,c3⟩:=hen' e' h1
     exact⟨q,b,c1,by rw[<-h2];exact c2,c3⟩
    have hin2:∀q∈rs++[r],∃e∈en2,e.2.1=De q:=λq hq=>by
     obtain⟨e',h1,h2⟩:=hin' q hq
     obtain⟨e'',h3,h4⟩:=mem3 e' h1
     exact⟨e'',h3,by rw[h4];exact h2⟩
    have sb2:Heap.SameBut S s.heap ((s1.heap.update S (Obj.putSet (en1.map (·.2)).toArray t1)).update S (Obj.putSet (en2.map (·.2)).toArray t2)):=by
     have q:=sb1.trans (Heap.SameBut.update _ S (Obj.putSet (en2.map (·.2)).toArray t2))
     rw[<-hs1] at q⊢;exact q
    have SA:SetAt Z led ((s1.heap.update S (Obj.putSet (en1.map (·.2)).toArray t1)).update S (Obj.putSet (en2.map (·.2)).toArray t2)) S (rs++[r]):=
     ⟨o2,ep+1+1,t2,31,en2,f1,f2,f3,r3,r4,hl5',r6.trans hled',hen2,hin2,hrs'⟩
    have:=h true _ s1.toks sb2 SA
    rw[<-hs1] at this⊢;exact this
  ·rw[if_neg (by rw[Bool.not_eq_true] at hfull;rw[hfull];simp)]
   have hfl:¬t1.fill*5>=t1.mask*3:=by unfold SetTable.tooFull at hfull;simpa using hfull
   have hfill:t1.fill=en1.length:=by obtain⟨_,b,c,_⟩:=ok';unfold SetTable.fill;rw[b,c];simp[Ae]
   rw[hfill,ok'.1] at hfl
   refine wpAny_pure ?_
   have SA:SetAt Z led (s1.heap.update S (Obj.putSet (en1.map (·.2)).toArray t1)) S (rs++[r]):=⟨o1,ep+1,t1,m,en1,g1,g2,g3,ti',ok',Nat.lt_of_not_le hfl,hled',hen',hin',hrs'⟩
   have sb2:Heap.SameBut S s.heap (s1.heap.update S (Obj.putSet (en1.map (·.2)).toArray t1)):=by
    rw[<-hs1] at sb1⊢;exact sb1
   have:=h true _ s1.toks sb2 SA
   rw[<-hs1] at this⊢;exact this
end
end
def Bh(w:World):Bool:=w.params.followText "set-order"
section
variable {prog:Program}{w:World}{A:Around}{E:Value->Shared->Prop}{s:Shared}{Z:FM}
theorem SetAt.keep{led:Bool}{h h':Heap}{S:Addr}{rs:List (List Int)}(x:SetAt Z led h S rs)(k:∀o,h.get? S=some o->h'.get? S=some o):SetAt Z led h' S rs:=
 let⟨o,ep,t,m,en,ho,r⟩:=x.at';⟨o,ep,t,m,en,k o ho,r⟩
theorem SetAt.fresh{led:Bool}{h:Heap}{S:Addr}(e:h.get? S=some {cls:= .type "set",dict:=none,data:= .set #[] 0 (.fresh 0 0 led)}):SetAt Z led h S []:=
 ⟨_,0,.fresh 0 0 led,7,[],e,⟨rfl,rfl,rfl⟩,rfl,⟨.inl rfl,List.Pairwise.nil,λ_ h=>by simp at h,λ_ h=>by simp at h,nodup_nil,λ_ h=>by simp at h⟩,⟨rfl,rfl,rfl,rfl⟩,by decide,rfl,
   λ_ h=>by simp at h,λ_ h=>by simp at h,λ_ h=>by simp at h⟩
theorem Q3{R:Result->Shared->Prop}(hh:A.handled=none)(hu:A.units+1<cLine){I l S:Addr}{items:Array Value}{rs:List (List Int)}{led:Bool}(hx:RowsV Z rs items.toList)(hr:∀r∈rs,r∈allRows)
 (hlI:l≠I) (hSI:S≠I) (hSl:S≠l) (zI:Z I=none) (zS:Z S=none):
 ∀(k i:Nat) (s:Shared),rs.length -i=k->i<=rs.length->(∀a o,Z a=some o->s.heap.get? a=some o)->s.heap.IsListIter I l i->s.heap.IsList l items->SetAt Z led s.heap S (rs.take i)->
  (∀h' tk,(∀b o,b≠S->b≠I->s.heap.get? b=some o->h'.get? b=some o)->SetAt Z led h' S rs->R (.ok (.ret .none)) {s with heap:=h',toks:=tk})->
  codeAny (model prog w) A (.builtin "set.update.loop" ⟨[.ref S,.ref I],[]⟩) R s:=by
 have hl:items.size=rs.length:=by have:=RowsV.length _ _ hx;simpa using this
 have W:=Walks.list (prog:=prog) (w:=w) (A:=A.in1) hh I l hlI items
 intro k
 induction k with
 |zero=>
  intro i s hk hi held it li X hR
  have hin:i=items.size:=by omega
  refine codeAny_builtin F.entry_set_update_loop ?_
  rw[Around.under_plainId F.plain_set_update_loop _]
  show wpAny _ A.in1 (pyNext (.ref I)>>=_) _ _ s
  refine wpAny_bind (W.done s _ _ ⟨hin▸it,li⟩ λh' tk kp=> ?_)
  show wpAny _ A.in1 (ret Value.none) _ _ _
  refine wpAny_pure (hR h' tk (λb o n1 n2 e=>kp b o (by simp[n2]) e) ?_)
  have:rs.take i=rs:=List.take_of_length_le (by omega)
  rw[this] at X
  exact X.keep λo e=>kp S o (by simp[hSI]) e
 |succ k ih=>
  intro i s hk hi held it li X hR
  have hlt:i<rs.length:=by omega
  refine codeAny_builtin F.entry_set_update_loop ?_
  rw[Around.under_plainId F.plain_set_update_loop _]
  show wpAny _ A.in1 (pyNext (.ref I)>>=_) _ _ s
  refine wpAny_bind (W.item i s _ _ (by omega) ⟨it,li⟩ λv h' tk hP st kp=> ?_)
  obtain⟨a,e1,ka⟩:=RowsV.get _ _ hx i hlt
  have ev:v= .ref a:=by
   rw[<-e1,List.getD_eq_getElem?_getD,Array.getElem?_toList,hP];rfl
  subst ev
  have held1:∀a o,Z a=some o->h'.get? a=some o:=λa o e=>kp a o (by simp;rintro rfl;rw[zI] at e;cases e) (held a o e)
  have hrow:rs.getD i []∈rs:=by rw[List.getD_eq_getElem?_getD,getElem?_eq_getElem hlt];exact List.getElem_mem hlt
  show wpAny _ A.in1 (holding [Value.ref a] (setAdd S (.ref a))>>=_) _ _ _
  refine wpAny_bind (wpAny_holding ?_)
  refine Jm (s:={s with heap:=h',toks:=tk}) (by exact hu) held1 (X.keep λo e=>kp S o (by simp[hSI]) e) ka (hr _ hrow) λb h'' tk' sb X'=> ?_
  refine wpAny_pure ⟨plainId_quiet F.plain_set_update_loop _,ih (i+1) _ (by omega) hlt (λa o e=> ?_) (st.1.at λo e=> ?_) (st.2.at λo e=> ?_) ?_ λh3 tk3 k3 X3=> ?_⟩
  ·exact sb.extBut a o (by rintro rfl;rw[zS] at e;cases e) (held1 a o e)
  ·exact sb.extBut I o (Ne.symm hSI) e
  ·exact sb.extBut l o (Ne.symm hSl) e
  ·have:rs.take (i+1)=rs.take i++[rs.getD i []]:=by rw[List.take_add_one,getElem?_eq_getElem hlt,List.getD_eq_getElem?_getD,getElem?_eq_getElem hlt];rfl
   rw[this];exact X'
  ·exact hR h3 tk3 (λb o n1 n2 e=>k3 b o n1 n2 (sb.extBut b o n1 (kp b o (by simp[n2]) e))) X3
theorem Pb(a:Value){Q₁:Value->Shared->Prop}
 (h:Q₁ (.ref s.heap.objs.size) {s with heap:=s.heap.push {cls:= .type "set",dict:=none,data:= .set #[] 0 (.fresh 0 0 (!Bh w))}}):
 codeAny (model prog w) A (.call (.builtin "set.__new__") ⟨[.type "set",a],[]⟩) (wants Q₁ E) s:=by
 refine codeAny_of_tree ?_
 show wpAny _ A.in1 (do checkBuiltinCall "set.__new__" ⟨[.type "set",a],[]⟩;again (.builtin "set.__new__" ⟨[.type "set",a],[]⟩)) _ _ s
 refine wpAny_bind (wpAny_of_eq (PySem.F.newCall_set_1 a) (wpAny_pure ⟨plainId_quiet F.plain_set_new _,codeAny_builtin F.entry_set_new ?_⟩))
 rw[Around.under_plainId F.plain_set_new _]
 unfold Builtin.«set.__new__» Builtin.Frozenset.newClass
 have hsub:=sub_set_self
 obtain⟨hp,g,d,tk,os⟩:=s
 dsimp only
 wp_walk
 refine wpAny_askSetting (wpAny_pure ?_)
 dsimp only
 simp only[newObj]
 refine wpAny_bind (wpAny_alloc (wpAny_pure ?_))
 exact wpAny_pure h
set_option maxHeartbeats 3200000 in
theorem Rs{l:Addr}{items:Array Value}{rs:List (List Int)}{Q:Value->Shared->Prop}(hh:A.handled=none)(hu:A.units+10<cLine)(held:∀a o,Z a=some o->s.heap.get? a=some o)
 (hl:s.heap.IsList l items) (hx:RowsV Z rs items.toList) (hr:∀r∈rs,r∈allRows)
 (h:∀(h':Heap) (tk:Nat),SetAt Z (!Bh w) h' s.heap.objs.size rs->(∀b o,s.heap.get? b=some o->h'.get? b=some o)->Q (.ref s.heap.objs.size) {s with heap:=h',toks:=tk}):
 wpAny (model prog w) A (call (.type "set") [.ref l]) Q E s:=by
 obtain⟨c,tl,hmro⟩:=F.called_set.mro
 have hmade:=F.called_set.made
 have hsub:=F.called_set.sub
 refine wpAny_call (codeAny_of_tree ?_)
 show wpAny _ _ (callAny (.type "set") _) _ _ _
 refine wpAny_pure ⟨Code.quiet_builtin _ (by decide+kernel),codeAny_builtin F.entry_type_call ?_⟩
 rw[Around.under_plain (weight_type_call_type "set" [.ref l] []) rfl]
 have h1:=F.called_set.notType
 have h2:=F.called_set.canCreate
 have hct:=PySem.F.typeCall_set_1 (.ref l)
 repeat(any_goals (first|assumption|wp_step))
 refine codeAny_mono (Pb (.ref l) (E:=E) (Q₁:=λobj s₁=>obj= .ref s.heap.objs.size/\s₁={s with heap:=s.heap.push {cls:= .type "set",dict:=none,data:= .set #[] 0 (.fresh 0 0 (!Bh w))}}) ⟨rfl,rfl⟩) λr s₁ hr'=> ?_
 cases r with
 |error e=>exact hr'
 |ok fl=>
  cases fl with
  |ret obj=>
   obtain⟨rfl,rfl⟩:=hr'
   generalize hso:({cls:= .type "set",dict:=none,data:= .set #[] 0 (.fresh 0 0 (!Bh w))}:Obj)=so at*
   have hfr:so.isFreed=false:=by rw[<-hso];rfl
   have hS:(s.heap.push so).get? s.heap.objs.size=some so:=Heap.get?_push_size _ hfr
   have hT:Shared.TypeIs {s with heap:=s.heap.push so} (.ref s.heap.objs.size) "set" :=⟨_,hS,by rw[<-hso]⟩
   have hli:=F.called_set.init.lookup
   have hbi:=F.called_set.init.bind (.ref s.heap.objs.size)
   repeat(any_goals (first|assumption|wp_step))
   refine codeAny_mono (codeAny_call_builtin (R:=wants (λr s₂=>r= .none/\∃h' tk,s₂={s with heap:=h',toks:=tk}/\
    SetAt Z (!Bh w) h' s.heap.objs.size rs/\(∀b o,s.heap.get? b=some o->h'.get? b=some o)) E) F.called_set.init.plain F.entry_set_init (PySem.check_set_init_1 hT ?_)) λr₂ s₂ hr₂=> ?_
   ·obtain⟨ol,hol,hcl,nl,hdl⟩:=hl
    obtain⟨ocls,odict,odata,oslots⟩:=ol
    simp only at hcl hdl
    subst hcl;subst hdl
    have hol':(s.heap.push so).get? l=some {cls:= .type "list",dict:=odict,data:= .seq items nl,slots:=oslots}:=Heap.get?_push_of_some _ hol
    have hsls:=PySem.F.sub_list_set
    have hslf:=PySem.F.sub_list_frozenset
    have hne:(Value.type "list" ==Value.type "dict")=false:=by decide
    have hl1:(s.heap.push so).IsList l items:=⟨_,hol',rfl,nl,rfl⟩
    unfold Builtin.«set.__init__» noKeywords Builtin.Frozenset.updateFrom
    generalize hPI:pyIter=PI
    subst hso
    wp_walk
    subst hPI
    refine wpAny_pyIter_list hl1 ?_
    refine wpAny_bind (wpAny_runValue ?_)
    have hlS:l<s.heap.objs.size:=Heap.lt_size hol
    have hh3:A.in1.in1.in1.handled=none:=by simp[hh]
    have zn:∀b,s.heap.objs.size<=b->Z b=none:=λb hb=>by
     cases q:Z b with
     |none=>rfl
     |some o=>exact absurd (Heap.lt_size (held _ _ q)) (Nat.not_lt.mpr hb)
    refine Q3 (A:=A.in1.in1) (rs:=rs) hh3 (by show A.units+1+1+1<cLine;omega) hx hr (I:=(s.heap.push _).objs.size) (l:=l) (S:=s.heap.objs.size) ?_ ?_ ?_ ?_ ?_ rs.length 0 _ rfl (zero_le _) ?_ ⟨_,Heap.get?_push_size _ rfl,rfl,rfl⟩ (hl1.push _)
     (SetAt.fresh (Heap.get?_push_of_some _ hS)) ?_
    ·rw[Heap.size_push];exact Nat.ne_of_lt (Nat.lt_succ_of_lt hlS)
    ·rw[Heap.size_push];exact Nat.ne_of_lt (Nat.lt_succ_self _)
    ·exact Nat.ne_of_gt hlS
    ·exact zn _ (by rw[Heap.size_push];exact le_succ _)
    ·exact zn _ (Nat.le_refl _)
    ·exact λa o e=>Heap.get?_push_of_some _ (Heap.get?_push_of_some _ (held a o e))
    ·intro h' tk kp X
     show wpAny _ _ _ _ _ _
     refine wpAny_pure ?_
     show wpAny _ _ (ret Value.none) _ _ _
     refine wpAny_pure ⟨rfl,h',tk,rfl,X,λb o e=> ?_⟩
     have hb:=Heap.lt_size e
     exact kp b o (Nat.ne_of_lt hb) (by rw[Heap.size_push];exact Nat.ne_of_lt (Nat.lt_succ_of_lt hb)) (Heap.get?_push_of_some _ (Heap.get?_push_of_some _ e))
   ·cases r₂ with
    |error e=>exact hr₂
    |ok fl₂=>
     cases fl₂ with
     |ret r=>
      obtain⟨rfl,h',tk,rfl,hS',hk'⟩:=hr₂
      repeat(any_goals (first|assumption|wp_step))
      exact h _ _ hS' hk'
     |_=>exact hr₂.elim
  |_=>exact hr'.elim
end
theorem Nb{α:Type}(next:Nat->Nat):∀(fuel k:Nat)(left:List α)(out:Array α),left.length=fuel->(pickOrder.go next fuel k left out).toList.Perm (out.toList++left)
 |0,k,left,out,h=>by
  rw[List.eq_nil_of_length_eq_zero h,append_nil]
  unfold pickOrder.go
  exact .refl _
 |fuel+1,k,left,out,h=>by
  unfold pickOrder.go
  have hp:0<left.length:=by omega
  have hlt:next k % left.length<left.length:=Nat.mod_lt _ hp
  rw[getElem?_eq_getElem hlt]
  dsimp only
  refine(Nb next fuel (k+1) _ _ (by rw[List.length_eraseIdx_of_lt hlt];omega)).trans ?_
  rw[Array.toList_push,List.append_assoc]
  refine List.Perm.append_left _ ?_
  rw[List.eraseIdx_eq_take_drop_succ]
  have e:left=left.take (next k % left.length)++left[next k % left.length]::left.drop (next k % left.length+1):=by
   rw[<-List.drop_eq_getElem_cons hlt,List.take_append_drop]
  have p:(left[next k % left.length]::(left.take (next k % left.length)++left.drop (next k % left.length+1))).Perm (left.take (next k % left.length)++left[next k % left.length]::left.drop (next k % left.length+1)):=List.perm_middle.symm
  rw[<-e] at p
  exact p
theorem OW{α:Type}(next:Nat->Nat)(xs:Array α):(pickOrder next xs).toList.Perm xs.toList:=by
 unfold pickOrder
 have:=Nb next xs.size 0 xs.toList #[] (by simp)
 simpa using this
def RawSet(h:Heap)(S:Addr)(es:Array (Int×Value))(ep:Nat)(t:SetTable):Prop:=∃o,h.get? S=some o/\o.cls= .type "set"/\o.data= .set es ep t
theorem RawSet.at{h h':Heap}{S:Addr}{es:Array (Int×Value)}{ep:Nat}{t:SetTable}(x:RawSet h S es ep t)(k:∀o,h.get? S=some o->h'.get? S=some o):RawSet h' S es ep t:=let⟨o,e,r⟩:=x;⟨o,k o e,r⟩
theorem RawSet.typeIs{s:Shared}{S:Addr}{es:Array (Int×Value)}{ep:Nat}{t:SetTable}(x:RawSet s.heap S es ep t):s.TypeIs (.ref S) "set" :=let⟨o,e,hc,_⟩:=x;⟨o,e,hc⟩
def B7(w:World)(S:Addr)(es:Array (Int×Value))(ep:Nat):Array (Int×Value):=if Bh w then pickOrder (w.params.setOrder S ep) es else es
theorem HU(w:World)(S:Addr)(es:Array (Int×Value))(ep:Nat):(B7 w S es ep).toList.Perm es.toList:=by
 unfold B7;split
 ·exact OW _ _
 ·exact .refl _
theorem Eh(w:World)(S:Addr)(es:Array (Int×Value))(ep:Nat):(B7 w S es ep).size=es.size:=by
 have:=(HU w S es ep).length_eq;simpa using this
def Bx(w:World)(t:SetTable)(i:Nat):Nat:=if Bh w then 0 else if i=0 then 0 else t.place.getD (i -1) 0+1
def IsSetIter(w:World)(h:Heap)(it S:Addr)(i n ep:Nat)(t:SetTable):Prop:=∃o,h.get? it=some o/\o.cls= .type "set_iterator"/\o.data= .fields #[.int (Bx w t i) 0,.int i 0,.ref S,.int n 0,.int ep 0]
theorem IsSetIter.at{w:World}{h h':Heap}{it S:Addr}{i n ep:Nat}{t:SetTable}(x:IsSetIter w h it S i n ep t)(k:∀o,h.get? it=some o->h'.get? it=some o):IsSetIter w h' it S i n ep t:=let⟨o,e,r⟩:=x;⟨o,k o e,r⟩
theorem IsSetIter.typeIs{w:World}{s:Shared}{it S:Addr}{i n ep:Nat}{t:SetTable}(x:IsSetIter w s.heap it S i n ep t):s.TypeIs (.ref it) "set_iterator" :=let⟨o,e,hc,_⟩:=x;⟨o,e,hc⟩
section
variable {prog:Program}{w:World}{A:Around}{E:Value->Shared->Prop}{s:Shared}{S:Addr}{es:Array (Int×Value)}{ep m:Nat}{t:SetTable}{en:List E3}
structure TW (w:World)(es:Array (Int×Value))(t:SetTable)(m:Nat)(en:List E3):Prop where
 es_eq:es=(en.map (·.2)).toArray
 ti:TI m en
 ok:PC t m en
 le:en.length<=m
 led:t.led= !Bh w
theorem TW.fits(x:TW w es t m en):t.fits es.size=true:=by rw[x.es_eq];exact IA x.ok x.le
theorem TW.below(x:TW w es t m en)(hb:Bh w=false){i:Nat}(hi:i<=es.size):SetTable.below t.place (Bx w t i)=i:=by
 obtain⟨_,hp,_,_⟩:=x.ok
 have hs:Asc t.place.toList:=by rw[hp];exact x.ti.asc
 have hsz:t.place.size=es.size:=by rw[hp,x.es_eq];simp[Ae]
 obtain⟨b1,b2,b3⟩:=F5 hs (Bx w t i)
 unfold Bx at b1 b2 b3⊢
 rw[hb] at b1 b2 b3⊢
 simp only[false_eq_true,if_false] at b1 b2 b3⊢
 by_cases h0:i=0
 ·subst h0
  rw[if_pos rfl] at b1 b2 b3⊢
  rcases Nat.eq_zero_or_pos (SetTable.below t.place 0) with h|h
  ·exact h
  ·have:=b2 0 h;omega
 ·rw[if_neg h0] at b1 b2 b3⊢
  have mono:∀a b,a<b->b<t.place.size->t.place.getD a 0<t.place.getD b 0:=λa b hab hb=>by
   have:=hs.lt hab (by simpa using hb)
   simp only[List.getD_eq_getElem?_getD,Array.getElem?_toList] at this
   simp only[Array.getD_eq_getD_getElem?];exact this
  rcases Nat.lt_trichotomy (SetTable.below t.place (t.place.getD (i -1) 0+1)) i with h|h|h
  ·have:=b3 (i -1) (by omega) (by omega);omega
  ·exact h
  ·have h1:=b2 i h
   have:=mono (i -1) i (by omega) (by omega)
   omega
theorem KM{es:Array (Int×Value)}{t:SetTable}(hp:t.plain=true):(!t.plain&&decide (es.size>1))=false:=by rw[hp];rfl
theorem Ka(x:TW w es t m en)(hm:RawSet s.heap S es ep t){i:Nat}(hi:i<es.size){Q:Option (Value×Nat)->Shared->Prop}{e:Int×Value}(he:(B7 w S es ep)[i]? =some e)
 (h:Q (some (e.2,Bx w t (i+1))) s):wpAny (model prog w) A (setNext S (Bx w t i) i ep) Q E s:=by
 obtain⟨o,ho,_,hd⟩:=hm
 have hf:=x.fits
 unfold setNext setsByText
 refine wpAny_bind (wpAny_setState_of ho hd hf ?_)
 dsimp only
 refine wpAny_bind (wpAny_bind (wpAny_askSetting (wpAny_pure ?_)))
 show wpAny _ _ (if Bh w=true then _ else _) _ _ _
 by_cases hb:Bh w=true
 ·rw[if_pos hb]
  rw[if_neg (by simp)]
  unfold setWalk setsByText
  refine wpAny_bind (wpAny_bind (wpAny_setState_of ho hd hf ?_))
  dsimp only
  refine wpAny_bind (wpAny_bind (wpAny_askSetting (wpAny_pure ?_)))
  show wpAny _ _ (if Bh w=true then _ else _) _ _ _
  rw[if_pos hb]
  refine wpAny_bind (wpAny_askSetting (wpAny_pure (wpAny_pure ?_)))
  have e1:B7 w S es ep=pickOrder (w.params.setOrder S ep) es:=by unfold B7;rw[if_pos hb]
  rw[e1] at he
  show Q (((pickOrder (w.params.setOrder S ep) es)[i]?).map λe=>(e.2,Bx w t i)) s
  rw[he]
  have e2:∀k,Bx w t k=0:=λk=>by unfold Bx;rw[if_pos hb]
  rw[e2] at h⊢
  exact h
 ·rw[if_neg hb]
  have hb':Bh w=false:=by simpa using hb
  show wpAny _ _ (if(!t.plain&&decide (es.size>1))=true then _ else _) _ _ _
  rw[KM x.ok.2.2.2]
  simp only[false_eq_true,if_false]
  have hle:t.led=true:=by rw[x.led,hb'];rfl
  refine wpAny_bind (wpAny_of_eq (a:=()) ?_ ?_)
  ·show(if(!t.led&& !es.isEmpty)=true then _ else _)=_
   rw[hle];rfl
  ·refine wpAny_pure ?_
   have e1:B7 w S es ep=es:=by unfold B7;rw[hb'];rfl
   rw[e1] at he
   rw[x.below hb' (by omega),he]
   have hpl:t.place[i]? =some (t.place.getD i 0):=by
    have:t.place.size=es.size:=by rw[x.ok.2.1,x.es_eq];simp[Ae]
    rw[Array.getD_eq_getD_getElem?,Array.getElem?_eq_getElem (by omega)];rfl
   rw[hpl]
   have e2:Bx w t (i+1)=t.place.getD i 0+1:=by unfold Bx;rw[hb'];simp
   rw[e2] at h
   exact h
theorem LQ(x:TW w es t m en)(hm:RawSet s.heap S es ep t){Q:Option (Value×Nat)->Shared->Prop}(h:Q none s):wpAny (model prog w) A (setNext S (Bx w t es.size) es.size ep) Q E s:=by
 obtain⟨o,ho,_,hd⟩:=hm
 have hf:=x.fits
 unfold setNext setsByText
 refine wpAny_bind (wpAny_setState_of ho hd hf ?_)
 dsimp only
 refine wpAny_bind (wpAny_bind (wpAny_askSetting (wpAny_pure ?_)))
 show wpAny _ _ (if Bh w=true then _ else _) _ _ _
 by_cases hb:Bh w=true
 ·rw[if_pos hb]
  rw[if_neg (by simp)]
  unfold setWalk setsByText
  refine wpAny_bind (wpAny_bind (wpAny_setState_of ho hd hf ?_))
  dsimp only
  refine wpAny_bind (wpAny_bind (wpAny_askSetting (wpAny_pure ?_)))
  show wpAny _ _ (if Bh w=true then _ else _) _ _ _
  rw[if_pos hb]
  refine wpAny_bind (wpAny_askSetting (wpAny_pure (wpAny_pure ?_)))
  have e1:=Eh w S es ep
  have e2:B7 w S es ep=pickOrder (w.params.setOrder S ep) es:=by unfold B7;rw[if_pos hb]
  rw[e2] at e1
  show Q (((pickOrder (w.params.setOrder S ep) es)[es.size]?).map λe=>(e.2,_)) s
  rw[Array.getElem?_eq_none (by omega)]
  exact h
 ·rw[if_neg hb]
  have hb':Bh w=false:=by simpa using hb
  show wpAny _ _ (if(!t.plain&&decide (es.size>1))=true then _ else _) _ _ _
  rw[KM x.ok.2.2.2]
  simp only[false_eq_true,if_false]
  have hle:t.led=true:=by rw[x.led,hb'];rfl
  refine wpAny_bind (wpAny_of_eq (a:=()) ?_ ?_)
  ·show(if(!t.led&& !es.isEmpty)=true then _ else _)=_
   rw[hle];rfl
  ·refine wpAny_pure ?_
   rw[x.below hb' (Nat.le_refl _),Array.getElem?_eq_none (Nat.le_refl es.size)]
   exact h
theorem OP{i:Nat}{it:Addr}{Q:Option Value->Shared->Prop}{e:Int×Value}(x:TW w es t m en)(hit:IsSetIter w s.heap it S i es.size ep t)(hm:RawSet s.heap S es ep t)(hi:i<es.size)(he:(B7 w S es ep)[i]? =some e)
 (hQ:∀h',IsSetIter w h' it S (i+1) es.size ep t->Heap.SameBut it s.heap h'->Q (some e.2) {s with heap:=h'}):wpAny (model prog w) A (pyNext (.ref it)) Q E s:=by
 have hT:=hit.typeIs
 obtain⟨o,ho,hc,hd⟩:=hit
 obtain⟨oS,hoS,hcS,hdS⟩:=id hm
 unfold pyNext
 refine wpAny_bind (wpAny_attempt (wpAny_callSpecial?_slot (name:=Str.ofString "__next__") hT f_slot_next
  (wpAny_call_entry f_slot_next hT Ga ?_ (Hm _))))
 unfold Builtin.«set_iterator.__next__»
 refine wpAny_bind (wpAny_pure ?_)
 refine wpAny_bind (wpAny_fieldsOf ho hd ?_)
 dsimp only
 refine wpAny_bind (wpAny_setEntries_of hoS hdS x.fits ?_)
 rw[if_neg (by simp)]
 refine wpAny_bind ?_
 show wpAny _ _ (setNext S (Bx w t i) i ep) _ _ _
 refine Ka x hm hi he ?_
 dsimp only
 refine wpAny_bind (wpAny_setField ho hd (by simp) ?_)
 have g1:=Heap.get?_update_self (Obj.mapFields (·.setIfInBounds 0 (rawInt (Bx w t (i+1))))) ho (Obj.isFreed_of_fields (Obj.data_mapFields hd _))
 have d1:=Obj.data_mapFields hd (λxs=>xs.setIfInBounds 0 (rawInt ((Bx w t (i+1):Nat):Int)))
 refine wpAny_bind (wpAny_setField (s:={s with heap:=s.heap.update it (Obj.mapFields (·.setIfInBounds 0 (rawInt (Bx w t (i+1)))))}) g1 d1 (by simp) ?_)
 have g2:=Heap.get?_update_self (Obj.mapFields (·.setIfInBounds 1 (rawInt ((i:Int)+1)))) g1 (Obj.isFreed_of_fields (Obj.data_mapFields d1 _))
 refine wpAny_pure ⟨_,rfl,wpAny_pure (hQ _ ⟨_,g2,?_,?_⟩ ((Heap.SameBut.update ..).trans (Heap.SameBut.update ..)))⟩
 ·exact(Obj.cls_mapFields ..).trans ((Obj.cls_mapFields ..).trans hc)
 ·rw[Obj.data_mapFields d1];simp[rawInt]
theorem PZ{it:Addr}{Q:Option Value->Shared->Prop}(x:TW w es t m en)(hh:A.handled=none)(hit:IsSetIter w s.heap it S es.size es.size ep t)(hm:RawSet s.heap S es ep t)
 (hQ:∀h',Heap.ExtBut it s.heap h'->Q none {s with heap:=h'}):wpAny (model prog w) A (pyNext (.ref it)) Q E s:=by
 have hT:=hit.typeIs
 obtain⟨o,ho,hc,hd⟩:=hit
 obtain⟨oS,hoS,hcS,hdS⟩:=id hm
 unfold pyNext
 refine wpAny_bind (wpAny_attempt (wpAny_callSpecial?_slot (name:=Str.ofString "__next__") hT f_slot_next
  (wpAny_call_entry f_slot_next hT Ga ?_ (Hm _))))
 unfold Builtin.«set_iterator.__next__»
 refine wpAny_bind (wpAny_pure ?_)
 refine wpAny_bind (wpAny_fieldsOf ho hd ?_)
 dsimp only
 refine wpAny_bind (wpAny_setEntries_of hoS hdS x.fits ?_)
 rw[if_neg (by simp)]
 refine wpAny_bind ?_
 show wpAny _ _ (setNext S (Bx w t es.size) es.size ep) _ _ _
 refine LQ x hm ?_
 dsimp only
 refine wpAny_bind (wpAny_setField ho hd (by simp) ?_)
 show wpAny _ _ (newExc (.type "StopIteration") []>>=_) _ _ _
 refine wpAny_bind ?_
 simp only[newExc,newTuple]
 refine wpAny_bind (wpAny_newObj_type ?_ (by size_fits))
 refine wpAny_bind (m:=firstArgMember _ _) (wpAny_of_eq (a:=Value.none) (by first|rfl|(simp only[firstArgMember];rfl)) ?_)
 refine wpAny_newObj_type ?_ (by size_fits)
 simp only[raiseNew]
 refine wpAny_bind (wpAny_handled ?_)
 rw[show A.in1.handled=none from hh]
 refine wpAny_bind (wpAny_pure (wpAny_throw ?_))
 refine wpAny_bind (wpAny_isInstance (T:= "StopIteration") (b:=true) ⟨_,Heap.get?_push_size _ rfl,rfl⟩ isSubtype_stop ?_)
 exact wpAny_pure (hQ _ (((Heap.SameBut.update ..).extBut.push _).push _))
theorem Q4{Q:Value->Shared->Prop}(x:TW w es t m en)(hm:RawSet s.heap S es ep t)
 (hQ:Q (.ref s.heap.objs.size) {s with heap:=s.heap.push {cls:= .type "set_iterator",data:= .fields #[.int 0 0,.int 0 0,.ref S,.int es.size 0,.int ep 0]}}):wpAny (model prog w) A (pyIter (.ref S)) Q E s:=by
 have hT:=hm.typeIs
 obtain⟨o,ho,hc,hd⟩:=hm
 refine wpAny_pyIter_slot hT F.slot_set_iter (wpAny_call_entry F.slot_set_iter hT HJ ?_ (F.args_set_iter_1 _))
 unfold Builtin.«frozenset.__iter__» Builtin.Frozenset.slot0
 refine wpAny_bind (wpAny_bind (wpAny_pure ?_))
 dsimp only
 unfold Builtin.Frozenset.addrOf
 refine wpAny_pure ?_
 unfold Builtin.Frozenset.sizeOf
 refine wpAny_bind (wpAny_bind (wpAny_setEntries_of ho hd x.fits (wpAny_pure ?_)))
 unfold setDrawn setsByText
 refine wpAny_bind (wpAny_bind (wpAny_setState_of ho hd x.fits ?_))
 dsimp only
 refine wpAny_bind (wpAny_bind (wpAny_askSetting (wpAny_pure ?_)))
 refine wpAny_pure ?_
 have hdr:(!(w.params.followText "set-order")&&(!t.plain&&decide (es.size>1)))=false:=by rw[x.ok.2.2.2];simp
 show wpAny _ _ (if(!(w.params.followText "set-order")&&(!t.plain&&decide (es.size>1)))=true then _ else _) _ _ _
 rw[hdr]
 simp only[false_eq_true,if_false]
 refine wpAny_bind (wpAny_pure ?_)
 refine wpAny_bind (wpAny_setEpoch_of ho hd x.fits ?_)
 refine wpAny_bind (wpAny_newObj_type (wpAny_pure ⟨_,rfl,"set_iterator",_,⟨_,Heap.get?_push_size _ rfl,rfl⟩,f_slot_next.lookup,?_⟩))
 simpa[rawInt] using hQ
theorem LR{it:Addr}{i n:Nat}{Q:Value->Shared->Prop}(hit:IsSetIter w s.heap it S i n ep t)(h:Q (.ref it) s):wpAny (model prog w) A (pyIter (.ref it)) Q E s:=by
 refine wpAny_pyIter_slot hit.typeIs Hl (wpAny_call_entry Hl hit.typeIs Kq ?_ (ME _))
 show wpAny _ _ (ret (.ref it)) _ _ s
 exact wpAny_pure ⟨_,rfl,"set_iterator",_,hit.typeIs,f_slot_next.lookup,h⟩
theorem Pa(x:TW w es t m en)(hh:A.handled=none)(I S:Addr)(hne:S≠I):
 Walks prog w A I [I,S] [I] es.size (λi v=>∃e,(B7 w S es ep)[i]? =some e/\v=e.2) (λi h=>IsSetIter w h I S i es.size ep t/\RawSet h S es ep t) where
 sub:=λb hb=>by simp at hb;simp[hb]
 frame:=λ_ _ _ st hk=>⟨st.1.at λo e=>hk I (by simp) o e,st.2.at λo e=>hk S (by simp) o e⟩
 item:=λi s Q E hi st hQ=>by
  have hi':i<(B7 w S es ep).size:=by rw[Eh];exact hi
  refine OP x st.1 st.2 hi (e:=(B7 w S es ep)[i]) (by simp[hi']) λh' hit' hs'=> ?_
  exact hQ _ h' s.toks ⟨_,by simp[hi'],rfl⟩ ⟨hit',st.2.at λo e=>hs'.extBut S o hne e⟩ λb o hb e=>hs'.extBut b o (λh=>hb (by simp[h])) e
 done:=λs Q E st hQ=>PZ x hh st.1 st.2 λh' he'=>hQ h' s.toks λb o hb e=>he' b o (λh=>hb (by simp[h])) e
 self:=λ_ _ _ _ st hQ=>LR st.1 hQ
theorem QG{Q:Bool->Shared->Prop}(hT:s.TypeIs (.ref S) "set")(h:Q false s):wpAny (model prog w) A (Builtin.List.listLengthHint (.ref S)) Q E s:=by
 unfold Builtin.List.listLengthHint
 refine wpAny_bind (wpAny_specialOf hT PySem.F.slot_set_len.lookup ?_)
 generalize F9:("set.__len__" :String)=id0
 wp_delta
 rw[show splitId id0=some ("set","__len__") from by subst F9;decide+kernel]
 subst F9
 refine wpAny_bind (wpAny_isInstance (T:= "set") (b:=true) hT (by rw[isSubtype_type];kernel_rfl) ?_)
 refine wpAny_ite_split (λhab=>absurd hab (by decide)) (λ_=> ?_)
 refine wpAny_ite_split (λ_=> ?_) (λhab=>absurd (by decide+kernel) hab)
 refine wpAny_bind (wpAny_typeOf hT ?_)
 exact wpAny_pure h
theorem SO(x:TW w es t m en):KdlSrc prog w "set" S S es.size (λi v=>∃e,(B7 w S es ep)[i]? =some e/\v=e.2) (λh=>RawSet h S es ep t) where
 type:=λ_ hm=>hm.typeIs
 there:=λ_ hm=>let⟨_,e,_⟩:=hm;⟨Heap.lt_size e,Heap.lt_size e⟩
 keep:=λ_ _ hm hk=>hm.at λo e=>hk S (.inl rfl) o e
 notList:=by decide
 notTuple:=by decide
 hint:=λ_ _ _ _ hm hq=>QG hm.typeIs hq
 iter:=λ_ s hh hm=>⟨_,_,(λ_ _ hq=>Q4 x hm hq),Pa x hh _ S (let⟨_,e,_⟩:=hm;Nat.ne_of_lt (Heap.lt_size e)),
  ⟨⟨_,Heap.get?_push_size _ rfl,rfl,by
    have:Bx w t 0=0:=by unfold Bx;simp
    rw[this];rfl⟩,hm.at λo e=>Heap.get?_push_of_some _ e⟩⟩
end
theorem Di:∀(l:List (List Int))(r:List Int),r∈DK l↔r∈l
 |[],r=>by simp[DK]
 |x::l,r=>by
  unfold DK
  split
  ·rename_i h
   rw[Di l r,mem_cons]
   constructor
   ·exact .inr
   ·rintro(rfl|h')
    ·simpa using h
    ·exact h'
  ·rw[mem_cons,mem_cons,Di l r]
theorem DR:∀(l:List (List Int)),(DK l).Nodup
 |[]=>nodup_nil
 |x::l=>by
  unfold DK
  split
  ·exact DR l
  ·rename_i h
   rw[nodup_cons]
   exact⟨λhm=>h (by simpa using(Di l x).mp hm),DR l⟩
theorem FU{α:Type} [BEq α] [LawfulBEq α]:∀{l m:List α},l.Nodup->m.Nodup->(∀x,x∈l↔x∈m)->l.Perm m
 |[],m,_,_,h=>by
  cases m with
  |nil=>exact .refl _
  |cons y t=>exact absurd ((h y).mpr (mem_cons_self ..)) (by simp)
 |x::l,m,hl,hm,h=>by
  rw[nodup_cons] at hl
  have hx:=(h x).mp (mem_cons_self ..)
  have hp:=List.perm_cons_erase hx
  refine(List.Perm.cons x (FU hl.2 (hm.erase x) λy=> ?_)).trans hp.symm
  rw[hm.mem_erase_iff]
  constructor
  ·intro hy;exact⟨λe=>hl.1 (e▸hy),(h y).mp (mem_cons_of_mem _ hy)⟩
  ·rintro⟨hne,hy⟩
   rcases mem_cons.mp ((h y).mpr hy) with rfl|h'
   ·exact absurd rfl hne
   ·exact h'
section
variable {c:Cx}{A:Around}{L:Addr}{Z:FM}{s:Shared}
theorem KY(h:At L Z s)(hh:A.handled=none){S:Addr}{rs:List (List Int)}(X:SetAt Z (!Bh c.w) s.heap S rs):BI c A L Z s (call (.builtin "sorted") [.ref S]) (.list ((B0 (DK rs)).map AD)):=by
 obtain⟨o,ep,t,m,en,ho,hex,hd,ti,ok,hl5,hled,hen,hin,hrs⟩:=X.at'
 have tw:TW c.w ((en.map (·.2)).toArray) t m en:=⟨rfl,ti,ok,by omega,hled⟩
 have raw:RawSet s.heap S ((en.map (·.2)).toArray) ep t:=⟨o,ho,hex.1,hd⟩
 have dec:∀(l:List (Int×Value)),(∀e∈l,e∈en.map (·.2))->∃qs:List (List Int),RowsV Z qs (l.map (·.2))/\qs.map De=l.map (·.1)/\∀q∈qs,q∈rs:=by
  intro l
  induction l with
  |nil=>intro _;exact⟨[],by rw[RowsV];rfl,rfl,by simp⟩
  |cons e l ih=>
   intro hl
   obtain⟨qs,h1,h2,h3⟩:=ih λe he=>hl e (mem_cons_of_mem _ he)
   obtain⟨e',he',rfl⟩:=mem_map.mp (hl e (mem_cons_self ..))
   obtain⟨r,a,hr,e1,k⟩:=hen e' he'
   refine⟨r::qs,?_,by rw[map_cons,map_cons,h2,e1],λq hq=> ?_⟩
   ·rw[RowsV];exact⟨a,_,by rw[map_cons,e1],k,h1⟩
   ·rcases mem_cons.mp hq with rfl|hq
    ·exact hr
    ·exact h3 q hq
 have wp:=HU c.w S ((en.map (·.2)).toArray) ep
 obtain⟨qs,q1,q2,q3⟩:=dec (B7 c.w S ((en.map (·.2)).toArray) ep).toList λe he=>by have:=wp.mem_iff.mp he;simpa using this
 have hqn:(qs.map De).Nodup:=by
  rw[q2,(wp.map (·.1)).nodup_iff]
  have:=ti.nodup
  show(List.map (·.1) (List.map (·.2) en)).Nodup
  rw[map_map]
  exact this
 have hqm:∀x,x∈qs↔x∈DK rs:=λx=>by
  rw[Di]
  refine⟨q3 x,λhx=> ?_⟩
  obtain⟨e,he,e1⟩:=hin x hx
  have h1:e.2.1∈(B7 c.w S ((en.map (·.2)).toArray) ep).toList.map (·.1):=by
   rw[(wp.map (·.1)).mem_iff]
   simp only[map_map,mem_map]
   exact⟨e,he,rfl⟩
  rw[<-q2] at h1
  obtain⟨q,hq,e2⟩:=mem_map.mp h1
  rw[e1] at e2
  have:=KA q (hrs q (q3 q hq)) x (hrs x hx) e2
  rw[<-this];exact hq
 have hqs:B0 qs=B0 (DK rs):=by
  have hn:qs.Nodup:=by
   refine List.Pairwise.imp ?_ (List.pairwise_map.mp hqn)
   intro a b hab e;exact hab (by rw[e])
  refine D3 (((C0 qs).trans (FU hn (DR rs) hqm)).trans (C0 _).symm) (Co _) (Co _)
 have hlen:qs.length=((en.map (·.2)).toArray).size:=by
  have:=RowsV.length _ _ q1
  rw[length_map,Array.length_toList,Eh] at this
  exact this.symm
 have h12:=ti.len
 rw[<-hqs]
 refine GI (c:=c) h hh (SO tw) raw hlen.symm (λi v hi hP=> ?_) (λr hr=> ?_) (by rw[hlen];simp;omega)
 ·obtain⟨e,e1,rfl⟩:=hP
  obtain⟨a,e2,k⟩:=RowsV.get _ _ q1 i (by omega)
  refine⟨a,?_,k⟩
  rw[<-e2]
  have:(B7 c.w S ((en.map (·.2)).toArray) ep).toList[i]? =some e:=by rw[Array.getElem?_toList];exact e1
  simp[List.getD_eq_getElem?_getD,this]
 ·rintro rfl
  exact absurd (hrs _ (q3 _ hr)) (by decide)
end
structure Gr (c:Cx)(σ:St)(Z:FM)(s:Shared):Prop where
 zh:∀a o,Z a=some o->s.heap.get? a=some o
 base:∀a o,c.h₀.get? a=some o->Z a=some o
 feed:FeedAt c Z s.heap σ
 fz:Z c.fa=none
 gens:s.gens= #[]
 os:s.os=c.os
structure Went (c:Cx)(Z:FM)(s:Shared)(σ':St)(Z':FM)(s':Shared):Prop where
 le:Z.le Z'
 held:∀a o,Z' a=some o->s'.heap.get? a=some o
 keep:∀a o,BB c Z s.heap a=some o->s'.heap.get? a=some o
 new:∀a o,Z' a=some o->BB c Z s.heap a=none
 feed:FeedAt c Z' s'.heap σ'
 fz:Z' c.fa=none
 gens:s'.gens= #[]
 os:s'.os=c.os
section
variable {c:Cx}{env:Env}{ρ ρ':Ev}{σ σ':St}{Z Z' P:FM}{μ:Str->Option Value}{s s':Shared}
theorem Rel.gr(R:Rel c env ρ σ Z P μ s):Gr c σ Z s:=⟨R.zh,R.base,R.feed,R.feedFree.1,R.gens,R.os⟩
theorem Rel.went(R:Rel c env ρ σ Z P μ s)(W:Went c Z s σ' Z' s'):Rel c env ρ σ' Z' P μ s':=by
 refine R.back W.le W.held (λa o _ e=>W.keep a o e) (λm hm=> ?_) W.new W.feed W.fz W.gens W.os
 obtain⟨m',oa,vs⟩:=R.vars
 exact hm.at' λo e=>W.keep _ o (Cp vs.free.2.2 vs.free.1 e)
theorem Gz{Z:FM}{h:Heap}{a:Addr}{o:Obj}(e:Z a=some o):BB c Z h a=none:=by
 unfold BB
 split
 ·rfl
 ·rw[e]
theorem Na{Z:FM}{h:Heap}:BB c Z h c.fa=none:=by unfold BB;rw[if_pos rfl]
theorem Jq{Z:FM}{h:Heap}{a:Addr}(e:h.get? a=none):BB c Z h a=none:=by
 cases q:BB c Z h a with
 |none=>rfl
 |some o=>rw[(BX q).2.2] at e;cases e
theorem Rel.left{s₀:Shared}{Z₀:FM}(R:Rel c env ρ σ Z (BB c Z₀ s₀.heap) μ s)(le:Z₀.le Z):Went c Z₀ s₀ σ Z s:=
 ⟨le,R.zh,R.ph,R.zp,R.feed,R.feedFree.1,R.gens,R.os⟩
def Fk(a:Arguments)(xs:List Str):Prop:=a.posonlyargs=[]/\a.args.map (·.arg)=xs/\a.vararg=none/\a.kwonlyargs=[]/\a.kwarg=none
def E7(fi:FnInfo):Bool:=(fi.params.eraseDups.length==fi.params.length)&&(fi.names.all λp=>fi.names.lookup p.1==some p.2)&&
 (fi.params.all λx=>fi.names.lookup x==some .local||fi.names.lookup x==some .cell)
structure FnOk (c:Cx)(a:Addr)(fi:FnInfo):Prop where
 st:E7 fi=true
 ob:∃o fd,c.h₀.get? a=some o/\o.data= .func fd/\fd.body= .stmts fi.body/\fd.scope.names=fi.names/\fd.scope.kind= .function/\fd.scope.isCoroutine=false/\fd.scope.isGenerator=false/\
  Fk fd.params fi.params/\fd.defaults= .none/\fd.closure=[]/\fd.globals=mainGlobals/\fd.builtins=builtinsNs/\c.h₀.CodeRec fd.code fd.qualname
theorem Fe{α:Type}:∀(xs:List Str)(vs:List α),xs.length=vs.length->∀x∈xs,((xs.zip vs).lookup x).isSome=true
 |[],_,_,x,h=>(nomatch h)
 |y::xs,[],h,_,_=>by simp at h
 |y::xs,v::vs,h,x,hx=>by
  rw[zip_cons_cons,lookup_cons]
  cases q:x==y with
  |true=>rfl
  |false=>
   rcases mem_cons.mp hx with rfl|hx
   ·simp at q
   ·exact Fe xs vs (by simpa using h) x hx
theorem FS{α:Type}:∀(xs:List Str)(vs:List α),xs.Nodup->xs.length=vs.length->(xs.filterMap λn=>((xs.zip vs).lookup n).map (n,·))=xs.zip vs
 |[],_,_,_=>rfl
 |y::xs,[],_,h=>by simp at h
 |y::xs,v::vs,hn,h=>by
  rw[nodup_cons] at hn
  have ih:=FS xs vs hn.2 (by simpa using h)
  rw[zip_cons_cons,filterMap_cons]
  simp only[lookup_cons,beq_self_eq_true,map_some]
  congr 1
  rw[<-ih]
  rw[ih]
  refine(Dh λx hx=> ?_).trans ih
  have:(x==y)=false:=by simpa using λ(e:x=y)=>hn.1 (e▸hx)
  rw[this]
theorem DL{fd:FuncData}{xs:List Str}{vals:List Value}(hp:Fk fd.params xs)(hd:fd.defaults= .none)(hn:xs.Nodup)(hl:xs.length=vals.length):bindArgs fd ⟨vals,[]⟩=pure (xs.zip vals):=by
 obtain⟨h1,h2,h3,h4,h5⟩:=hp
 have e1:seqItems? Value.none=pure none:=rfl
 unfold bindArgs
 simp only[h1,h2,h3,h4,h5,hd,e1,map_nil,List.nil_append,List.forIn_nil,pure_bind,Option.getD_none,List.drop_nil,length_nil,Nat.sub_zero,append_nil]
 have m:(List.take xs.length xs).filter (λn=>(List.lookup n (xs.zip vals)).isNone)=[]:=by
  rw[List.filter_eq_nil_iff]
  intro x hx
  rw[List.take_length] at hx
  have:=Fe xs vals hl x hx
  cases q:List.lookup x (xs.zip vals)<;>rw[q] at this<;>simp_all
 have g:¬(vals.length>xs.length):=by omega
 simp[m,g,hl,FS xs vals hn hl]
 intro x hx hno
 have hx':x∈xs:=List.mem_of_mem_take hx
 obtain⟨v,hv⟩:=Option.isSome_iff_exists.mp (Fe xs vals hl x hx')
 exact absurd (mem_of_lookup hv) (hno v)
theorem C6{x:Str}{a:Addr}:∀(names:List (Str×NameKind))(n:Nat)(acc:List (Str×Addr)),(x,a)∈cellsFrom n names acc->(x,a)∈acc\/(x,NameKind.cell)∈names
 |[],_,_,h=> .inl h
 |(y,k)::r,n,acc,h=>by
  unfold cellsFrom at h
  split at h
  ·rename_i hk
   rcases C6 r (n+1) _ h with h|h
   ·rcases mem_cons.mp h with e|h
    ·cases e;rw[beq_iff_eq.mp hk];exact .inr (mem_cons_self ..)
    ·exact .inl h
   ·exact .inr (mem_cons_of_mem _ h)
  ·rcases C6 r n _ h with h|h
   ·exact .inl h
   ·exact .inr (mem_cons_of_mem _ h)
theorem D5{x:Str}{a:Addr}:∀(names:List (Str×NameKind))(n:Nat)(acc:List (Str×Addr)),(x,a)∈acc->(x,a)∈cellsFrom n names acc
 |[],_,_,h=>h
 |(y,k)::r,n,acc,h=>by
  unfold cellsFrom
  split
  ·exact D5 r (n+1) _ (mem_cons_of_mem _ h)
  ·exact D5 r n _ h
theorem B5{x:Str}:∀(names:List (Str×NameKind))(n:Nat)(acc:List (Str×Addr)),(x,NameKind.cell)∈names->∃a,(x,a)∈cellsFrom n names acc
 |(y,k)::r,n,acc,h=>by
  unfold cellsFrom
  rcases mem_cons.mp h with e|h
  ·cases e
   rw[if_pos (by rfl)]
   exact⟨n,D5 r (n+1) _ (mem_cons_self ..)⟩
  ·split
   ·exact B5 r (n+1) _ h
   ·exact B5 r n _ h
theorem BQ{α:Type}{x:Str}{a:α}:∀(l:List (Str×α)),(x,a)∈l->∃b,l.lookup x=some b
 |(y,b)::r,h=>by
  rw[lookup_cons]
  cases q:x==y with
  |true=>exact⟨b,rfl⟩
  |false=>
   rcases mem_cons.mp h with e|h
   ·cases e;simp at q
   ·exact BQ r h
theorem Em:∀(xs:List Str)(ds:List D){ρ ρ':Ev},Bb xs ds ρ=some ρ'->ρ'.names=ρ.names
 |[],[],ρ,ρ',h=>by cases h;rfl
 |x::xs,d::ds,ρ,ρ',h=>by
  unfold Bb at h
  simp only[bind_eq_bind,bind_eq_some_iff] at h
  obtain⟨ρ₁,h1,h2⟩:=h
  rw[Em xs ds h2,Ev.set_kind h1]
 |[],_::_,_,_,h=>by simp[Bb] at h
 |_::_,[],_,_,h=>by simp[Bb] at h
theorem Fo:∀(xs:List Str)(ds:List D){ρ ρ':Ev},Bb xs ds ρ=some ρ'->xs.length=ds.length
 |[],[],_,_,_=>rfl
 |x::xs,d::ds,ρ,ρ',h=>by
  unfold Bb at h
  simp only[bind_eq_bind,bind_eq_some_iff] at h
  obtain⟨ρ₁,h1,h2⟩:=h
  simp[Fo xs ds h2]
 |[],_::_,_,_,h=>by simp[Bb] at h
 |_::_,[],_,_,h=>by simp[Bb] at h
def Qg(c:Cx)(Z:FM)(ρ:Ev)(m cm:Str->Option Value):Prop:=∀x V,ρ.get x=some V->∃v d,V= .d d/\Rep c Z d v/\((ρ.kind x=some .local/\m x=some v)\/(ρ.kind x=some .cell/\cm x=some v))
theorem KR(kind:Str->Option NameKind):∀(xs:List Str)(ds:List D)(vs:List Value){ρ ρ':Ev}(m cm:Str->Option Value),(∀x,ρ.kind x=kind x)->Bb xs ds ρ=some ρ'->RepL c Z ds vs->Qg c Z ρ m cm->
 Qg c Z ρ' (bindL kind (xs.zip vs) m) (bindC kind (xs.zip vs) cm)
 |[],[],vs,ρ,ρ',m,cm,hk,h,r,b=>by cases h;exact b
 |x::xs,d::ds,vs,ρ,ρ',m,cm,hk,h,r,b=>by
  unfold Bb at h
  simp only[bind_eq_bind,bind_eq_some_iff] at h
  obtain⟨ρ₁,h1,h2⟩:=h
  rw[RepL] at r
  obtain⟨v,vs',rfl,rv,r⟩:=r
  rw[zip_cons_cons]
  unfold bindL bindC
  refine KR kind xs ds vs' _ _ (λy=>(Ev.kind_set h1 y).trans (hk y)) h2 r λy V hV=> ?_
  rw[Ev.get_set h1] at hV
  rw[Ev.kind_set h1]
  by_cases hy:y=x
  ·subst hy
   rw[if_pos rfl] at hV
   cases hV
   refine⟨v,d,rfl,rv,?_⟩
   rcases Ev.set_of h1 with q|q
   ·exact .inl ⟨q,by rw[<-hk,q,if_pos rfl];simp⟩
   ·exact .inr ⟨q,by rw[<-hk,q,if_neg (by simp)];simp⟩
  ·rw[if_neg hy] at hV
   obtain⟨v',d',e1,e2,e3⟩:=b y V hV
   refine⟨v',d',e1,e2,?_⟩
   rcases e3 with ⟨q,e3⟩|⟨q,e3⟩
   ·refine .inl ⟨q,?_⟩
    split
    ·simp[hy,e3]
    ·exact e3
   ·refine .inr ⟨q,?_⟩
    split
    ·exact e3
    ·simp[hy,e3]
 |[],_::_,_,_,_,_,_,_,h,_,_=>by simp[Bb] at h
 |_::_,[],_,_,_,_,_,_,h,_,_=>by simp[Bb] at h
theorem Cf:∀(l bs:List Str),(List.eraseDupsBy.loop (· == ·) l bs).length<=l.length+bs.length
 |[],bs=>by simp[List.eraseDupsBy.loop]
 |x::l,bs=>by
  unfold List.eraseDupsBy.loop
  split
  ·have:=Cf l bs;simp;omega
  ·have:=Cf l (x::bs);simp at this⊢;omega
theorem DB:∀(l bs:List Str),bs.Nodup->(List.eraseDupsBy.loop (· == ·) l bs).length=l.length+bs.length->l.Nodup/\∀x∈l,x∉bs
 |[],bs,_,_=>⟨nodup_nil,λ_ h=>(nomatch h)⟩
 |x::l,bs,hb,h=>by
  unfold List.eraseDupsBy.loop at h
  split at h
  ·have:=Cf l bs;simp at h;omega
  ·rename_i hx
   have hx':x∉bs:=λhm=>by
    have:bs.any (x== ·)=true:=List.any_eq_true.mpr ⟨x,hm,by simp⟩
    simp_all
   have:=DB l (x::bs) (nodup_cons.mpr ⟨hx',hb⟩) (by simp at h⊢;omega)
   refine⟨nodup_cons.mpr ⟨λhm=>this.2 x hm (mem_cons_self ..),this.1⟩,λy hy=> ?_⟩
   rcases mem_cons.mp hy with rfl|hy
   ·exact hx'
   ·exact λhm=>this.2 y hy (mem_cons_of_mem _ hm)
theorem BF{l:List Str}(h:l.eraseDups.length=l.length):l.Nodup:=(DB l [] nodup_nil (by simpa[List.eraseDups,List.eraseDupsBy] using h)).1
theorem JC(kind:Str->Option NameKind){x:Str}{v:Value}:∀(xs:List Str)(vs:List Value)(m:Str->Option Value),x∉xs->m x=some v->bindL kind (xs.zip vs) m x=some v
 |[],_,_,_,h=>h
 |_::_,[],_,_,h=>h
 |y::xs,u::vs,m,hn,h=>by
  rw[zip_cons_cons]
  unfold bindL
  refine JC kind xs vs _ (λq=>hn (mem_cons_of_mem _ q)) ?_
  split
  ·have hxy:x≠y:=λq=>hn (by rw[q];exact mem_cons_self ..)
   show(if x=y then some u else m x)=some v
   rw[if_neg hxy];exact h
  ·exact h
theorem Gi(kind:Str->Option NameKind){x:Str}{v:Value}(hk:kind x=some .local):∀(xs:List Str)(vs:List Value)(m:Str->Option Value),xs.Nodup->(xs.zip vs).lookup x=some v->bindL kind (xs.zip vs) m x=some v
 |[],_,_,_,h=>by simp at h
 |_::_,[],_,_,h=>by simp at h
 |y::xs,u::vs,m,hn,h=>by
  rw[nodup_cons] at hn
  rw[zip_cons_cons,lookup_cons] at h
  rw[zip_cons_cons]
  unfold bindL
  cases hxy:x==y with
  |true=>
   have e:=eq_of_beq hxy
   subst e
   rw[hxy] at h
   cases h
   refine JC kind xs vs _ hn.1 ?_
   rw[if_pos hk,if_pos rfl]
  |false=>
   rw[hxy] at h
   exact Gi kind hk xs vs _ hn.2 h
theorem Hr{A:Around}(G:Gr c σ Z s){a:Addr}{fi:FnInfo}(F:FnOk c a fi)(hlim:c.h₀.NoLimit){n:Nat}(rm:Room n A){ds:List D}{vs:List Value}(r:RepL c Z ds vs)(hs:Bb fi.params ds ⟨fi.names,[],[]⟩=some ρ)
 {Q:Value->Shared->Prop} {E:Value->Shared->Prop}
 (h:∀env' s₁ E',env'.scope.kind= .function->Rel c env' ρ σ Z (BB c Z s.heap) (λx=>if fi.names.lookup x=some .local then(fi.params.zip vs).lookup x else none) s₁->
   wpAny (model c.prog c.w) (A.deeper env') (execs fi.body env') (λf s'=>Q (match f with| .ret v=>v|_=> .none) s') E' s₁):
 wpAny (model c.prog c.w) A (call (.ref a) vs) Q E s:=by
 obtain⟨o,fd,ho,hdat,hbody,hnames,hkind,hco,hgen,hpar,hdef,hclo,hglob,hbui,hcode⟩:=F.ob
 have hst:=F.st
 unfold E7 at hst
 simp only[and_eq_true,beq_iff_eq,all_eq_true,or_eq_true] at hst
 obtain⟨⟨hnd,hcons⟩,hpk⟩:=hst
 have h0s:∀b x,c.h₀.get? b=some x->s.heap.get? b=some x:=λb x e=>G.zh b x (G.base b x e)
 have hlen:fi.params.length=vs.length:=by rw[Fo _ _ hs,RepL.length _ _ r]
 have memCell:∀x,fi.names.lookup x=some .cell->(x,NameKind.cell)∈fi.names:=λx e=>mem_of_lookup e
 refine wpAny_call (codeAny_call_cells rm.dp (h0s _ _ ho) hdat (hlim.keeps h0s) (hcode.keeps h0s) hbody (DL hpar hdef (BF hnd) hlen) hclo (λx hx=> ?_) (λs₁ X=> ?_) hco hgen hkind)
 ·have hx':x.1∈fi.params:=(List.of_mem_zip (a:=x.1) (b:=x.2) hx).1
  rw[hnames]
  rcases hpk x.1 hx' with q|q
  ·exact .inl q
  ·refine .inr ⟨q,?_⟩
   obtain⟨b,hb⟩:=B5 fi.names (s.heap.objs.size+1) [] (memCell _ q)
   obtain⟨b',hb'⟩:=BQ _ hb
   rw[hb'];rfl
 ·have kE:∀x,(callEnvC fd s.heap.objs.size a).kindOf x=fi.names.lookup x:=λx=>by show fd.scope.names.lookup x=_;rw[hnames]
  have kρ:∀x,ρ.kind x=fi.names.lookup x:=λx=>by unfold Ev.kind;rw[Em _ _ hs]
  have cE:(callEnvC fd s.heap.objs.size a).cells=cellsFrom (s.heap.objs.size+1) fi.names []:=by show cellsFrom _ fd.scope.names []=_;rw[hnames]
  have dead:∀b,s.heap.objs.size<=b->s.heap.get? b=none:=λb hb=>by
   cases q:s.heap.get? b with
   |none=>rfl
   |some x=>exact absurd (Heap.lt_size q) (Nat.not_lt.mpr hb)
  have free:∀b,s.heap.objs.size<=b->Dp c Z (BB c Z s.heap) b:=λb hb=>by
   refine⟨?_,Jq (dead b hb),?_⟩
   ·cases q:Z b with
    |none=>rfl
    |some x=>have:=G.zh b x q;rw[dead b hb] at this;cases this
   ·rintro rfl
    obtain⟨_,_,_,d,_⟩:=G.feed
    obtain⟨x,e⟩:=DictOf.live d
    rw[dead _ hb] at e;cases e
  have Xkeep:=X.toInCall.keep
  obtain⟨h₁,tk,hs₁⟩:=X.toInCall.same
  have B:Qg c Z ρ (bindL (callEnvC fd s.heap.objs.size a).kindOf (fi.params.zip vs) λ_=>none) (bindC (callEnvC fd s.heap.objs.size a).kindOf (fi.params.zip vs) λ_=>none):=
   KR _ _ _ _ _ _ (λx=>by rw[kE];rfl) hs r λx V hV=>by
    unfold Ev.get at hV
    split at hV<;>simp at hV
  have R:Rel c (callEnvC fd s.heap.objs.size a) ρ σ Z (BB c Z s.heap) (λx=>if fi.names.lookup x=some .local then(fi.params.zip vs).lookup x else none) s₁:=by
   refine⟨λb x e=>Xkeep b x (G.zh b x e),λb x e=>Xkeep b x (BX e).2.2,λb x e=>Gz e,G.base,G.feed.keep (FM.le_refl _) λx e=>Xkeep _ x e,⟨G.fz,Na⟩,by rw[hs₁];exact G.gens,by rw[hs₁];exact G.os,
    λx=> ?_,hkind,hglob,hbui,_,λ_=>[],X.toInCall.ns,free _ (Nat.le_refl _),λx hx=> ?_,λx y b hx hy h1 h2=> ?_,λx V hV=> ?_,λ_ _=>rfl,λx b hb=>(nomatch hb),λx y b hb=>(nomatch hb),λx v hv=> ?_,λx b hb=> ?_⟩
   ·rw[kρ,kE]
    cases fi.names.lookup x with
    |none=>rfl
    |some k=>cases k<;>first|rfl|exact .inl rfl
   ·rw[kρ] at hx
    obtain⟨b,hb⟩:=B5 fi.names (s.heap.objs.size+1) [] (memCell _ hx)
    obtain⟨b',hb'⟩:=BQ _ hb
    rw[<-cE] at hb'
    have ab:=X.above x b' (mem_of_lookup hb')
    have ab':s.heap.objs.size<b':=ab
    exact⟨b',_,hb',X.cell x b' hb',free b' (Nat.le_of_lt ab'),Nat.ne_of_gt ab⟩
   ·exact name_of_addr X.apart (mem_of_lookup h1) (mem_of_lookup h2)
   ·obtain⟨v,d,rfl,rv,hv⟩:=B x V hV
    refine⟨v,?_,rfl,rv⟩
    rcases hv with ⟨q,hv⟩|⟨q,hv⟩
    ·rw[q];exact hv
    ·rw[q]
     rw[kρ] at q
     obtain⟨b,hb⟩:=B5 fi.names (s.heap.objs.size+1) [] (memCell _ q)
     obtain⟨b',hb'⟩:=BQ _ hb
     rw[<-cE] at hb'
     exact⟨b',hb',hv▸X.cell x b' hb'⟩
   ·split at hv
    ·rename_i hl
     unfold HoldsVar
     rw[kρ,hl]
     exact Gi _ (by rw[kE,hl]) _ _ _ (BF hnd) hv
    ·cases hv
   ·rw[cE] at hb
    refine .inl ?_
    rw[kρ]
    rcases C6 fi.names _ _ (mem_of_lookup hb) with h|h
    ·exact(nomatch h)
    ·exact hcons _ h
  refine wpAny_mono (h (callEnvC fd s.heap.objs.size a) s₁ _ hkind R) (λf s' q=> ?_) λ_ _ e=>e
  exact q
theorem NO{A:Around}(G:Gr c σ Z s){a:Addr}{fi:FnInfo}(F:FnOk c a fi)(hlim:c.h₀.NoLimit){n:Nat}(rm:Room n A){ds:List D}{vs:List Value}(r:RepL c Z ds vs)(hs:Bb fi.params ds ⟨fi.names,[],[]⟩=some ρ)
 {Q:Value->Shared->Prop} {E:Value->Shared->Prop}
 (h:∀env' s₁ E',env'.scope.kind= .function->Rel c env' ρ σ Z (BB c Z s.heap) (λ_=>none) s₁->
   wpAny (model c.prog c.w) (A.deeper env') (execs fi.body env') (λf s'=>Q (match f with| .ret v=>v|_=> .none) s') E' s₁):
 wpAny (model c.prog c.w) A (call (.ref a) vs) Q E s:=
 Hr G F hlim rm r hs λenv' s₁ E' hk R=>h env' s₁ E' hk (R.mu λ_ _ q=>nomatch q)
end
structure Drawn (Z:FM)(s:Shared)(own:List Addr)(Z':FM)(s':Shared):Prop where
 le:Z.le Z'
 held:∀a o,Z' a=some o->s'.heap.get? a=some o
 zn:∀a o,Z' a=some o->Z a=some o\/s.heap.get? a=none
 zo:∀b∈own,Z' b=none
 keep:∀b o,b∉own->s.heap.get? b=some o->s'.heap.get? b=some o
 gens:s'.gens=s.gens
 os:s'.os=s.os
structure Wk (c:Cx)(A:Around)(tup:Bool)(I:Addr)(own:List Addr)(ds:List D)(Z₀:FM)(S:Nat->Heap->Prop):Prop where
 live:∀i h,S i h->∀b∈own,∃o,h.get? b=some o
 frame:∀i h h',S i h->(∀b∈own,∀o,h.get? b=some o->h'.get? b=some o)->(∀b o,Z₀ b=some o->h.get? b=some o)->(∀b o,Z₀ b=some o->h'.get? b=some o)->S i h'
 item:∀i d (s:Shared) (Z:FM) (Q:Option Value->Shared->Prop) (E:Value->Shared->Prop),ds[i]? =some d->S i s.heap->Z₀.le Z->(∀a o,Z a=some o->s.heap.get? a=some o)->(∀b∈own,Z b=none)->
  (∀v Z' s',Drawn Z s own Z' s'->Rep c Z' d v->
    (∀tgt (Q':Unit->Shared->Prop) E',((∃es x p,tgt= .Tuple es x p)\/tup=false)->(∀s'',(∀b o,b∉own->s'.heap.get? b=some o->s''.heap.get? b=some o)->s''.gens=s'.gens->s''.os=s'.os->S (i+1) s''.heap->Q' () s'')->
      wpAny (model c.prog c.w) A (letOwnedTupleGo tgt (.ref I) v) Q' E' s')->Q (some v) s')->
  wpAny (model c.prog c.w) A (pyNext (.ref I)) Q E s
 done:∀(s:Shared) (Q:Option Value->Shared->Prop) (E:Value->Shared->Prop),S ds.length s.heap->
  (∀s',(∀b o,b∉own->s.heap.get? b=some o->s'.heap.get? b=some o)->s'.gens=s.gens->s'.os=s.os->Q none s')->wpAny (model c.prog c.w) A (pyNext (.ref I)) Q E s
 self:∀i (s:Shared) (Q:Value->Shared->Prop) (E:Value->Shared->Prop),S i s.heap->Q (.ref I) s->wpAny (model c.prog c.w) A (pyIter (.ref I)) Q E s
section
variable {c:Cx}{A:Around}{I:Addr}{ds:List D}{Z₀:FM}
def Ia(T:String):Bool:= !(["enumerate","zip","dict_itemiterator","dict_reverseitemiterator","odict_iterator","itertools.zip_longest","itertools.pairwise"].contains T)
theorem Lr{s:Shared}{tgt:Expr}{v:Value}{o:Obj}{T:String}{Q:Unit->Shared->Prop}{E:Value->Shared->Prop}(ho:s.heap.get? I=some o)(hc:o.cls= .type T)(hT:Ia T=true)(h:Q () s):
 wpAny (model c.prog c.w) A (letOwnedTupleGo tgt (.ref I) v) Q E s:=by
 have body:wpAny (model c.prog c.w) A (do
  let(.ref r,.ref a):=(Value.ref I,v)|return
  let o<-load r
  match o.cls,o.data with
  | .type n,.fields vs=>
    if ["enumerate","zip","dict_itemiterator","dict_reverseitemiterator","odict_iterator","itertools.zip_longest","itertools.pairwise"].contains n&&vs[0]? ==some (rawInt a) then
     rule "for.unpacks-the-owned-tuple"
     updateField r 0 .none
  |_,_=>pure ()) Q E s:=by
  cases v<;>first|exact wpAny_pure h|skip
  refine wpAny_bind (wpAny_load ho ?_)
  rw[hc]
  unfold Ia at hT
  simp only[not_eq_true'] at hT
  cases o.data<;>first|exact wpAny_pure h|skip
  rename_i vs
  show wpAny _ _ (if(_&&_)=true then _ else _) _ _ _
  rw[hT,Bool.false_and,if_neg Bool.false_ne_true]
  exact wpAny_pure h
 unfold letOwnedTupleGo
 split
 ·exact body
 ·exact body
 ·exact wpAny_pure h
theorem Wk.ofWalks{fp:List Addr}{n:Nat}{P:Nat->Value->Prop}{S:Nat->Heap->Prop}(W:Walks c.prog c.w A I fp [I] n P S)(hn:n=ds.length)(hP:∀i v d,ds[i]? =some d->P i v->Rep c Z₀ d v)
 (hI:∀i h,S i h->∃T o,h.get? I=some o/\o.cls= .type T/\Ia T=true) (hfp:∀b∈fp,b=I\/∃o,Z₀ b=some o):Wk c A false I [I] ds Z₀ S where
 live:=λi h st b hb=>by
  rw[mem_singleton.mp hb]
  obtain⟨_,o,e,_⟩:=hI i h st;exact⟨o,e⟩
 frame:=λi h h' st k z z'=>W.frame i h h' st λb hb o e=>by
  rcases hfp b hb with rfl|⟨o',q⟩
  ·exact k _ (mem_singleton.mpr rfl) o e
  ·rw[z b o' q] at e;injection e with e;rw[<-e];exact z' b o' q
 item:=λi d s Z Q E hd st le held zo k=>by
  have hi:i<n:=by rw[hn];exact(List.getElem?_eq_some_iff.mp hd).1
  refine W.item i s Q E hi st λv h' tk hPv st' kp=> ?_
  have keep:∀b o,b∉[I]->s.heap.get? b=some o->h'.get? b=some o:=kp
  refine k v Z {s with heap:=h',toks:=tk} ⟨FM.le_refl _,λa o e=>keep a o (λhm=>by rw[zo a hm] at e;cases e) (held a o e),λ_ _ e=> .inl e,zo,keep,rfl,rfl⟩ (Rep.mono le _ _ (hP i v d hd hPv)) λtgt Q' E' _ k'=> ?_
  obtain⟨T,o,ho,hc,hT⟩:=hI _ _ st'
  exact Lr ho hc hT (k' _ (λ_ _ _ e=>e) rfl rfl st')
 done:=λs Q E st k=>W.done s Q E (hn▸st) λh' tk kp=>k _ kp rfl rfl
 self:=λi s Q E st k=>W.self i s Q E st k
theorem LF:∀(n:Nat)(a:Int)(i:Nat)(d:D),(Gq a n)[i]? =some d->d= .int (a+i)
 |0,a,i,d,h=>by simp[Gq] at h
 |n+1,a,0,d,h=>by simp[Gq] at h;rw[<-h];simp
 |n+1,a,i+1,d,h=>by
  rw[Gq,List.getElem?_cons_succ] at h
  rw[LF n _ _ _ h];congr 1;push_cast;omega
theorem Nq{s:Shared}{Z:FM}(hh:A.handled=none)(held:∀a o,Z a=some o->s.heap.get? a=some o){d:D}{v:Value}(r:Rep c Z d v)(e:FV d=some ds){Q:Value->Shared->Prop}{E:Value->Shared->Prop}
 (k:∀I own S s',Wk c A false I own ds Z S->S 0 s'.heap->(∀b∈own,s.heap.get? b=none)->(∀a o,s.heap.get? a=some o->s'.heap.get? a=some o)->s'.gens=s.gens->s'.os=s.os->Q (.ref I) s'):
 wpAny (model c.prog c.w) A (pyIter v) Q E s:=by
 have dead:s.heap.get? s.heap.objs.size=none:=Ab _
 unfold FV at e
 split at e
 ·cases e
  rw[Rep] at r
  obtain⟨a,vs,rfl,⟨o,n,ho,hc,hd⟩,rl⟩:=r
  have ho':=held _ _ ho
  have ht:s.heap.IsTuple a vs.toArray:=⟨o,ho',hc,n,hd⟩
  have hne:a≠s.heap.objs.size:=Nat.ne_of_lt (Heap.lt_size ho')
  refine iter_tuple ⟨o,ho',hc,n,hd⟩ (k _ [s.heap.objs.size] _ _ (Wk.ofWalks (Walks.tuple hh s.heap.objs.size a hne vs.toArray) (by have:=RepL.length _ _ rl;simpa using this) (λi v d hd' hP=> ?_) (λi h st=> ?_) (λb hb=> ?_)) ⟨⟨_,Heap.get?_push_size _ rfl,rfl,rfl⟩,_,Heap.get?_push_of_some _ ho',hc,n,hd⟩
   (λb hb=>by rw[mem_singleton.mp hb];exact dead) (λb o e=>Heap.get?_push_of_some _ e) rfl rfl)
  ·obtain⟨v',e1,r1⟩:=RepL.get _ _ rl i d hd'
   have:vs[i]? =some v:=by simpa using hP
   rw[e1] at this;cases this;exact r1
  ·obtain⟨⟨o',e1,e2,_⟩,_⟩:=st;exact⟨_,o',e1,e2,by decide⟩
  ·simp at hb
   rcases hb with rfl|rfl
   ·exact .inl rfl
   ·exact .inr ⟨o,ho⟩
 ·cases e
  rw[Rep] at r
  obtain⟨a,vs,rfl,⟨n,ho⟩,rl⟩:=r
  have ho':=held _ _ ho
  have ht:s.heap.IsList a vs.toArray:=⟨_,ho',rfl,n,rfl⟩
  have hne:a≠s.heap.objs.size:=Nat.ne_of_lt (Heap.lt_size ho')
  refine wpAny_pyIter_list ht (k _ [s.heap.objs.size] _ _ (Wk.ofWalks (Walks.list hh s.heap.objs.size a hne vs.toArray) (by have:=RepL.length _ _ rl;simpa using this) (λi v d hd' hP=> ?_) (λi h st=> ?_) (λb hb=> ?_)) ⟨⟨_,Heap.get?_push_size _ rfl,rfl,rfl⟩,ht.push _⟩
   (λb hb=>by rw[mem_singleton.mp hb];exact dead) (λb o e=>Heap.get?_push_of_some _ e) rfl rfl)
  ·obtain⟨v',e1,r1⟩:=RepL.get _ _ rl i d hd'
   have:vs[i]? =some v:=by simpa using hP
   rw[e1] at this;cases this;exact r1
  ·obtain⟨⟨o',e1,e2,_⟩,_⟩:=st;exact⟨_,o',e1,e2,by decide⟩
  ·simp at hb
   rcases hb with rfl|rfl
   ·exact .inl rfl
   ·exact .inr ⟨_,ho⟩
 ·rename_i a b
  split at e
  ·rename_i hab
   cases e
   simp only[and_eq_true,DU] at hab
   rw[Rep] at r
   obtain⟨p,rfl,t,u,w',ho⟩:=r
   have ho':=held _ _ ho
   have hs:Builtin.Range.rangeSize a b 1=((b -a).toNat:Int):=by rw[rangeSize_one];split<;>omega
   refine wpAny_pyIter_range ho' (small_one (by omega) (by omega) (by omega) (by omega)) (k _ [s.heap.objs.size] _ _ (Wk.ofWalks (Walks.range hh s.heap.objs.size a 1 (b -a).toNat) (HV _ _).symm (λi v d hd' hP=> ?_) (λi h st=> ?_) (λb' hb=> ?_)) ?_
    (λb hb=>by rw[mem_singleton.mp hb];exact dead) (λb o e=>Heap.get?_push_of_some _ e) rfl rfl)
   ·obtain⟨t,rfl⟩:=hP
    rw[LF _ _ _ _ hd',Rep]
    exact⟨t,by congr 1;omega⟩
   ·exact⟨_,_,st,rfl,by decide⟩
   ·exact .inl (mem_singleton.mp hb)
   ·show IsRangeIter _ _ _ _ _
    rw[hs]
    have:=Heap.get?_push_size s.heap (o:={cls:= .type "range_iterator",data:= .fields #[rawInt a,rawInt ((b -a).toNat:Int),rawInt 1]}) rfl
    simpa using this
  ·cases e
 ·cases e
end
theorem Gc:∀(k:Nat)(xs:List D),(Dy k xs).length=xs.length
 |_,[]=>rfl
 |k,_::r=>by simp[Dy,Gc (k+1) r]
theorem KL:∀(k:Nat)(xs:List D)(i:Nat)(d:D),(Dy k xs)[i]? =some d->∃x,xs[i]? =some x/\d= .tup [.int ((k+i:Nat):Int),x]
 |k,[],i,d,h=>by simp[Dy] at h
 |k,x::r,0,d,h=>by simp[Dy] at h;exact⟨x,by simp,by rw[<-h];rfl⟩
 |k,x::r,i+1,d,h=>by
  rw[Dy,List.getElem?_cons_succ] at h
  obtain⟨y,h1,h2⟩:=KL (k+1) r i d h
  exact⟨y,by rw[List.getElem?_cons_succ];exact h1,by rw[h2];congr 3;push_cast;omega⟩
section
variable {c:Cx}{A:Around}{I:Addr}{ds:List D}{Z₀:FM}
theorem Wk.enum(hh:A.handled=none){Z:FM}{xs:List D}{vs:List Value}{e it l n:Nat}(ho:Z l=some {cls:= .type "list",data:= .seq vs.toArray n})(rl:RepL c Z xs vs)(hei:e≠it)(hle:l≠e)(hli:l≠it):
 Wk c A true e [e,it] (Dy 0 xs) Z (λi h=>(∃old,IsEnum h e it i old)/\h.IsListIter it l i/\h.IsList l vs.toArray):=by
 have W:=WalksT.enumerate (prog:=c.prog) (w:=c.w) (A:=A) hh e it l hei hle hli vs.toArray
 have hlen:=RepL.length _ _ rl
 exact{
  live:=λi h st b hb=>by
   obtain⟨⟨old,q⟩,⟨o,q2,_⟩,_⟩:=st
   simp at hb
   rcases hb with rfl|rfl
   ·exact⟨_,q⟩
   ·exact⟨_,q2⟩
  frame:=λi h h' st k z z'=>by
   refine W.frame i h h' st λb hb o q=> ?_
   simp at hb
   rcases hb with rfl|rfl|rfl
   ·exact k _ (by simp) o q
   ·exact k _ (by simp) o q
   ·have:=z _ _ ho
    rw[this] at q;injection q with q;rw[<-q];exact z' _ _ ho
  item:=λi d s Z' Q E hd st le held' zo k=>by
   obtain⟨x,hx,rfl⟩:=KL _ _ _ _ hd
   obtain⟨xv,hxv,rx⟩:=RepL.get _ _ rl i x hx
   have hi:i<vs.toArray.size:=by have:=(List.getElem?_eq_some_iff.mp hxv).1;simpa using this
   have own:∀b∈[e,it],∃o,s.heap.get? b=some o:=λb hb=>by
    obtain⟨⟨old,q⟩,⟨o,q2,_⟩,_⟩:=st
    simp at hb
    rcases hb with rfl|rfl
    ·exact⟨_,q⟩
    ·exact⟨_,q2⟩
   refine W.item i s Q E hi st λT vals h' tk hv hT ht mid kp=> ?_
   obtain⟨t,x',hx',rfl⟩:=hv
   have ex:x'=xv:=by
    have:vs[i]? =some x':=by simpa using hx'
    rw[hxv] at this;cases this;rfl
   subst ex
   obtain⟨oT,hoT,hcT,nT,hdT⟩:=ht
   have dead:s.heap.get? T=none:=by
    cases q:s.heap.get? T with
    |none=>rfl
    |some o=>exact absurd (Heap.lt_size q) (Nat.not_lt.mpr hT)
   have zT:Z' T=none:=by
    cases q:Z' T with
    |none=>rfl
    |some o=>have:=held' T o q;rw[dead] at this;cases this
   have keep:∀b o,b∉[e,it]->s.heap.get? b=some o->h'.get? b=some o:=kp
   refine k (.ref T) (Z'.add T oT) {s with heap:=h',toks:=tk} ⟨FM.le_add oT zT,λa o q=> ?_,λa o q=> ?_,λb hb=> ?_,keep,rfl,rfl⟩ ?_ λtgt Q' E' htgt k'=> ?_
   ·unfold FM.add at q
    by_cases ha:a=T
    ·rw[if_pos ha] at q;cases q;rw[ha];exact hoT
    ·rw[if_neg ha] at q;exact keep a o (λhm=>by rw[zo a hm] at q;cases q) (held' a o q)
   ·unfold FM.add at q
    by_cases ha:a=T
    ·rw[ha];exact .inr dead
    ·rw[if_neg ha] at q;exact .inl q
   ·unfold FM.add
    rw[if_neg,zo b hb]
    rintro rfl
    obtain⟨o,q⟩:=own _ hb
    rw[dead] at q;cases q
   ·rw[Rep]
    refine⟨T,[.int i t,x'],rfl,⟨oT,nT,FM.add_self ..,hcT,hdT⟩,?_⟩
    refine RepL.cons ?_ (RepL.cons (Rep.mono (FM.le_trans le (FM.le_add oT zT)) _ _ rx) RepL.nil)
    rw[Nat.zero_add];exact BW _ _
   ·rcases htgt with ⟨es,kx,p,rfl⟩|htgt
    ·exact W.go es kx p i T _ Q' E' mid λh'' st'' kp''=>k' _ kp'' rfl rfl st''
    ·cases htgt
  done:=λs Q E st k=>by
   have:(Dy 0 xs).length=vs.toArray.size:=by rw[Gc];simpa using hlen.symm
   rw[this] at st
   exact W.done s Q E st λh' tk kp=>k _ kp rfl rfl
  self:=λi s Q E st k=>W.self i s Q E st k}
theorem Rj{s:Shared}{Z:FM}(hh:A.handled=none)(held:∀a o,Z a=some o->s.heap.get? a=some o){xs:List D}{v:Value}(r:Rep c Z (.list xs) v){Q:Value->Shared->Prop}{E:Value->Shared->Prop}
 (k:∀I own S s',Wk c A true I own (Dy 0 xs) Z S->S 0 s'.heap->(∀b∈own,s.heap.get? b=none)->(∀a o,s.heap.get? a=some o->s'.heap.get? a=some o)->s'.gens=s.gens->s'.os=s.os->Q (.ref I) s'):
 wpAny (model c.prog c.w) A (call (.type "enumerate") [v]) Q E s:=by
 rw[Rep] at r
 obtain⟨l,vs,rfl,⟨n,ho⟩,rl⟩:=r
 have ho':=held _ _ ho
 have hL:s.heap.IsList l vs.toArray:=⟨_,ho',rfl,n,rfl⟩
 have hlt:l<s.heap.objs.size:=Heap.lt_size ho'
 refine call_enumerate_list hL λh' he hit hsz kp=> ?_
 refine k _ _ _ _ (Wk.enum hh ho rl (Nat.succ_ne_self _) (Nat.ne_of_lt (Nat.lt_succ_of_lt hlt)) (Nat.ne_of_lt hlt)) ⟨⟨_,he⟩,hit,hL.at λo q=>kp _ o q⟩ (λb hb=> ?_) kp rfl rfl
 have sz:∀b,s.heap.objs.size<=b->s.heap.get? b=none:=λb hb=>by
  cases q:s.heap.get? b with
  |none=>rfl
  |some o=>exact absurd (Heap.lt_size q) (Nat.not_lt.mpr hb)
 simp at hb
 rcases hb with rfl|rfl
 ·exact sz _ (le_succ _)
 ·exact sz _ (Nat.le_refl _)
end
section
variable {c:Cx}{env:Env}{ρ ρ':Ev}{σ σ':St}{Z Z' P:FM}{μ:Str->Option Value}{s s':Shared}{A:Around}{E:Value->Shared->Prop}
theorem GR{ts:List Expr}{x:Str}{xs:List Str}(h:Bc ts=some (x::xs)):∃p r,ts= .Name x p::r/\Bc r=some xs:=by
 unfold Bc at h
 split at h
 ·cases h
 ·rename_i y p r
  rw[map_eq_some_iff] at h
  obtain⟨l,h1,h2⟩:=h
  cases h2
  exact⟨_,_,rfl,h1⟩
 ·cases h
theorem Lj{ts:List Expr}(h:Bc ts=some []):ts=[]:=by
 unfold Bc at h
 split at h
 ·rfl
 ·rw[map_eq_some_iff] at h
  obtain⟨l,h1,h2⟩:=h
  cases h2
 ·cases h
theorem QX{t:Expr}{d:D}{v:Value}{Q:Unit->Shared->Prop}(R:Rel c env ρ σ Z P (λ_=>none) s)(hh:A.handled=none)(h:JR t d ρ=some ρ')(r:Rep c Z d v)(k:∀s',Rel c env ρ' σ Z P (λ_=>none) s'->Q () s'):
 wpAny (model c.prog c.w) A (assign t env v) Q E s:=by
 unfold JR at h
 split at h
 ·exact wpAny_assign_Name (H3 R r h k)
 ·rename_i ts x p
  simp only[bind_eq_bind,bind_eq_some_iff] at h
  obtain⟨xs,hxs,h⟩:=h
  split at h
  ·rename_i ds
   split at h
   ·rename_i hl
    obtain⟨x1,x2,rfl⟩:∃x1 x2,xs=[x1,x2]:=by
     match xs,hl with
     |[a,b],_=>exact⟨a,b,rfl⟩
    obtain⟨p1,r1,rfl,h1⟩:=GR hxs
    obtain⟨p2,r2,rfl,h2⟩:=GR h1
    obtain rfl:=Lj h2
    have hl2:=Fo _ _ h
    obtain⟨d1,d2,rfl⟩:∃d1 d2,ds=[d1,d2]:=by
     match ds,hl2 with
     |[a,b],_=>exact⟨a,b,rfl⟩
    unfold Bb at h
    simp only[bind_eq_bind,bind_eq_some_iff] at h
    obtain⟨ρ₁,e1,h⟩:=h
    unfold Bb at h
    simp only[bind_eq_bind,bind_eq_some_iff] at h
    obtain⟨ρ₂,e2,h⟩:=h
    cases h
    rw[Rep] at r
    obtain⟨a,vs,rfl,⟨o,n,ho,hc,hd⟩,rl⟩:=r
    rw[RepL] at rl;obtain⟨v1,w1,rfl,rv1,rl⟩:=rl
    rw[RepL] at rl;obtain⟨v2,w2,rfl,rv2,rl⟩:=rl
    rw[RepL] at rl;subst rl
    refine assign_Tuple_tuple hh ⟨o,R.zh _ _ ho,hc,n,hd⟩ rfl rfl λh' he=> ?_
    have R1:Rel c env ρ σ Z P (λ_=>none) {s with heap:=h'}:=R.grow (λb x e=>he b x (Nat.ne_of_lt (Heap.lt_size e)) e) rfl rfl
    refine assignInOrder_cons (wpAny_assign_Name (H3 R1 rv1 e1 λs2 R2=> ?_))
    refine assignInOrder_cons (wpAny_assign_Name (H3 R2 rv2 e2 λs3 R3=> ?_))
    exact assignInOrder_nil (k s3 R3)
   ·cases h
  ·cases h
 ·cases h
end
def OB(c:Cx)(Z:FM):Fl->Flow->Prop
 | .next,f=>f= .next
 | .ret d,f=>∃v,f= .ret v/\Rep c Z d v
section
variable {c:Cx}{env:Env}{ρ ρ':Ev}{σ σ':St}{Z Z' P:FM}{μ:Str->Option Value}{s s':Shared}{A:Around}{E:Value->Shared->Prop}
theorem Rel.unloose{as:List Addr}(R:Rel c env ρ σ Z (P.adds s.heap as) μ s)(hP:∀a∈as,P a=none)(live:∀a∈as,∃o,s.heap.get? a=some o)(ap:BK env as):Rel c env ρ σ Z P μ s:=by
 have:=(R.stepZ (as':=[]) (s':=s) (Z':=Z) hP live (λ_ _ _ e=>e) (FM.le_refl _) R.zh (λ_ _ e=> .inl e) (λ_ h=>(nomatch h)) ap rfl rfl).1
 rwa [FM.adds_nil] at this
theorem Rel.looseZ{as:List Addr}(R:Rel c env ρ σ Z (P.adds s.heap as) μ s)(live:∀a∈as,∃o,s.heap.get? a=some o):∀a∈as,Z a=none:=λa ha=>by
 obtain⟨o,e⟩:=live a ha
 exact R.noZP (o:=o) (by rw[FM.adds_in ha];exact e)
theorem Rel.still{as:List Addr}{s₁:Shared}(R:Rel c env ρ σ Z (P.adds s₁.heap as) μ s)(live:∀a∈as,∃o,s₁.heap.get? a=some o):(∀a∈as,s.heap.get? a=s₁.heap.get? a)/\P.adds s₁.heap as=P.adds s.heap as:=by
 have h:∀a∈as,s.heap.get? a=s₁.heap.get? a:=λa ha=>by
  obtain⟨o,e⟩:=live a ha
  rw[e]
  exact R.ph a o (by rw[FM.adds_in ha];exact e)
 exact⟨h,(FM.adds_keep h).symm⟩
theorem NG(hh:A.handled=none){t:Expr}{b:List Stmt}{tup:Bool}{I:Addr}{own:List Addr}{ds:List D}{Z₀:FM}{S:Nat->Heap->Prop}(W:Wk c A tup I own ds Z₀ S)(ht:(∃es x p,t= .Tuple es x p)\/tup=false)
 {f:D->Ev×St->Option (Fl×Ev×St)}
 (hb:∀d ρ σ r,f d (ρ,σ)=some r->∀Z P s v (Q:Flow->Shared->Prop) E,Rel c env ρ σ Z P (λ_=>none) s->Rep c Z d v->
   (∀fl Z' s',Z.le Z'->Rel c env r.2.1 r.2.2 Z' P (λ_=>none) s'->OB c Z' r.1 fl->Q fl s')->wpAny (model c.prog c.w) A (assign t env v) (λ_ s₂=>wpAny (model c.prog c.w) A (execs b env) Q E s₂) E s)
 {r:Fl×Ev×St} (hf:EG f ds (ρ,σ)=some r) (R:Rel c env ρ σ Z (P.adds s.heap own) (λ_=>none) s) (st:S 0 s.heap) (le₀:Z₀.le Z) (hP:∀a∈own,P a=none) (ap:BK env own) {R':Result->Shared->Prop}
 (k:∀fl Z' s',Z.le Z'->Rel c env r.2.1 r.2.2 Z' P (λ_=>none) s'->OB c Z' r.1 fl->R' (.ok fl) s'):codeAny (model c.prog c.w) A (.forLoop t (.ref I) b [] env) R' s:=by
 refine codeAny_forLoop_any (λm s'=>∃i Zi ρi σi,i<=ds.length/\m=ds.length+1 -i/\Z.le Zi/\Rel c env ρi σi Zi (P.adds s'.heap own) (λ_=>none) s'/\S i s'.heap/\EG f (ds.drop i) (ρi,σi)=some r) ?_ (ds.length+1)
  ⟨0,Z,ρ,σ,zero_le _,rfl,FM.le_refl _,R,st,by simpa using hf⟩
 rintro m s' ⟨i,Zi,ρi,σi,hi,rfl,le,Ri,sti,hf⟩
 have live:=W.live _ _ sti
 have zo:=Ri.looseZ live
 by_cases hlt:i<ds.length
 ·have hd:=getElem?_eq_getElem hlt
  rw[List.drop_eq_getElem_cons hlt] at hf
  refine W.item i _ s' Zi _ _ hd sti (FM.le_trans le₀ le) Ri.zh zo λv Z' s₁ D rv go=> ?_
  refine go t _ _ ht λs₂ kp g os st₂=> ?_
  have live₂:=W.live _ _ st₂
  have R₂:=Ri.stepZ (as':=own) (s':=s₂) (Z':=Z') hP live (λa o n e=>kp a o n (D.keep a o n e)) D.le (λa o e=>kp a o (λhm=>by rw[D.zo a hm] at e;cases e) (D.held a o e)) D.zn
   (λa ha=>⟨.inl ha,D.zo a ha⟩) ap (g.trans D.gens) (os.trans D.os)
  unfold EG at hf
  simp only[bind_eq_bind,bind_eq_some_iff] at hf
  obtain⟨q,hq,hf⟩:=hf
  refine hb _ ρi σi q hq Z' _ s₂ v _ _ R₂.1 rv λfl Z₃ s₃ le₃ R₃ fr=> ?_
  obtain⟨ql,qρ,qσ⟩:=q
  obtain⟨e1,e2⟩:=R₃.still live₂
  have live₃:∀a∈own,∃o,s₃.heap.get? a=some o:=λa ha=>by rw[e1 a ha];exact live₂ a ha
  rw[e2] at R₃
  cases ql with
  |next=>
   cases fr
   refine⟨ds.length+1 -(i+1),by omega,i+1,Z₃,qρ,qσ,hlt,rfl,FM.le_trans le (FM.le_trans D.le le₃),R₃,?_,hf⟩
   refine W.frame _ _ _ st₂ (λa ha o e=>by rw[e1 a ha];exact e) (λa o e=> ?_) λa o e=>R₃.zh a o (le₃ _ _ (D.le _ _ (le _ _ (le₀ _ _ e))))
   have e':=D.le _ _ (le _ _ (le₀ _ _ e))
   exact R₂.1.zh a o e'
  |ret d=>
   cases hf
   obtain⟨v',rfl,rv'⟩:=fr
   exact k (.ret v') Z₃ s₃ (FM.le_trans le (FM.le_trans D.le le₃)) (R₃.unloose hP live₃ ap) ⟨v',rfl,rv'⟩
 ·have hin:i=ds.length:=by omega
  subst hin
  rw[List.drop_length] at hf
  cases hf
  refine W.done s' _ _ sti λs₁ kp g os=>wpAny_execs_nil ?_
  have R₁:=(Ri.stepZ (as':=[]) (s':=s₁) (Z':=Zi) hP live (λa o n e=>kp a o n e) (FM.le_refl _) (λa o e=>kp a o (λhm=>by rw[zo a hm] at e;cases e) (Ri.zh a o e)) (λ_ _ e=> .inl e) (λ_ h=>(nomatch h)) ap g os).1
  rw[FM.adds_nil] at R₁
  exact k .next Zi s₁ le R₁ rfl
theorem Kx(elt:Expr)(gens:List Comprehension)(scope:Scope)(pos:Pos)(depth:Nat)(it acc:Value)(env:Env):compTurn (.ListComp elt gens scope pos) depth it acc env=(do
 let some g:=gens[depth]? |unsupported "internal:comprehension-depth"
 standAt (if g.is_async !=0 then pos else g.iter.pos)
 match<-if g.is_async !=0 then asyncNext it else pyNext it with
 |none=>pure (.done .next)
 |some v=>
  letOwnedTupleGo g.target it v
  assign g.target env v
  let mut ok:=true
  for c in g.ifs do
   if ok then ok<-isTrue c env (eval c env)
  if ok then
   match gens[depth+1]? with
   |some g'=>
    let x<-eval g'.iter env
    standAt g'.iter.pos
    let x<-if g'.is_async !=0 then foldedIterable g'.iter x else foldedSetIterable g'.iter env x
    let _<-runOwn (.compStart (.ListComp elt gens scope pos) (depth+1) (<-holding [x] (if g'.is_async !=0 then asyncIter x else pyIter x)) acc env) env
   |none=>(do let _<-call (.builtin "list.append") [acc,<-eval elt env])
  again (.compLoop (.ListComp elt gens scope pos) depth it acc env)):=rfl
def GF(elt:Expr)(gens:List Comprehension)(scope:Scope)(pos:Pos)(depth:Nat)(acc:Value)(env:Env)(g:Comprehension)(v:Value):Sem Unit:=do
 assign g.target env v
 let ok<-forIn g.ifs true λc r=>if r=true then do let ok<-isTrue c env (eval c env);pure (ForInStep.yield ok) else pure (ForInStep.yield r)
 if ok then
  match gens[depth+1]? with
  |some g'=>
   let x<-eval g'.iter env
   standAt g'.iter.pos
   let x<-if g'.is_async !=0 then foldedIterable g'.iter x else foldedSetIterable g'.iter env x
   let _<-runOwn (.compStart (.ListComp elt gens scope pos) (depth+1) (<-holding [x] (if g'.is_async !=0 then asyncIter x else pyIter x)) acc env) env
  |none=>(do let _<-call (.builtin "list.append") [acc,<-eval elt env])
theorem Jc(elt:Expr)(gens:List Comprehension)(scope:Scope)(pos:Pos)(depth:Nat)(it acc:Value)(env:Env){g:Comprehension}(hg:gens[depth]? =some g)(ha:(g.is_async !=0)=false):
 compTurn (.ListComp elt gens scope pos) depth it acc env=(do
  standAt g.iter.pos
  match<-pyNext it with
  |none=>pure (.done .next)
  |some v=>
   letOwnedTupleGo g.target it v
   GF elt gens scope pos depth acc env g v
   again (.compLoop (.ListComp elt gens scope pos) depth it acc env)):=by
 rw[Kx,hg]
 simp only[ha,false_eq_true,if_false,GF]
 apply bind_congr;intro _;apply bind_congr;intro r
 cases r with
 |none=>rfl
 |some v=>
  dsimp only
  apply bind_congr;intro _
  conv=>rhs;rw[bind_assoc]
  apply bind_congr;intro _
  conv=>rhs;rw[bind_assoc]
  apply bind_congr;intro ok
  cases ok with
  |false=>simp
  |true=>
   simp only[if_true]
   cases gens[depth+1]? with
   |none=>simp
   |some g'=>
    dsimp only
    conv=>rhs;rw[bind_assoc]
    apply bind_congr;intro _
    conv=>rhs;rw[bind_assoc]
    apply bind_congr;intro _
    cases g'.is_async !=0 with
    |true=>simp
    |false=>simp
end
theorem FM.adds_comm(P:FM)(h:Heap)(as bs:List Addr):(P.adds h as).adds h bs=(P.adds h bs).adds h as:=by
 funext a
 by_cases ha:a∈as<;>by_cases hb:a∈bs
 ·rw[FM.adds_in hb,FM.adds_in ha]
 ·rw[FM.adds_out hb,FM.adds_in ha,FM.adds_in ha]
 ·rw[FM.adds_in hb,FM.adds_out ha,FM.adds_in hb]
 ·rw[FM.adds_out hb,FM.adds_out ha,FM.adds_out ha,FM.adds_out hb]
def UC(c:Cx)(n:Nat):Prop:=∀g gs elt d ρ σ ys ρ' σ',Ja n g gs elt d ρ σ=some (ys,ρ',σ')->∀(A:Around)(env:Env)(Z P:FM)(s:Shared)(scope:Scope)(pos:Pos)(allG:List Comprehension)(depth:Nat)(acc:Addr)(vs:List Value)(xs:List D)(v:Value),
 Room n A->(∀g∈allG,(g.is_async !=0)=false)->allG[depth]? =some g->allG.drop (depth+1)=gs->Rel c env ρ σ Z (P.adds s.heap [acc]) (λ_=>none) s->P acc=none->BK env [acc]->
 s.heap.PlainList acc vs.toArray->RepL c Z xs vs->xs.length+ys.length<=100000->Rep c Z d v->∀(Q:Unit->Shared->Prop) (E:Value->Shared->Prop),
 (∀Z' s' vs',Z.le Z'->Rel c env ρ' σ' Z' (P.adds s'.heap [acc]) (λ_=>none) s'->s'.heap.PlainList acc vs'.toArray->RepL c Z' (xs++ys) vs'->Q () s')->
 wpAny (model c.prog c.w) A (GF elt allG scope pos depth (.ref acc) env g v) Q E s
section
variable {c:Cx}{env:Env}{ρ ρ':Ev}{σ σ':St}{Z Z' P:FM}{μ:Str->Option Value}{s s':Shared}{A:Around}{E:Value->Shared->Prop}
theorem SK{g:Comprehension}(h:Ek g.target g.iter=true):(∃es x p,g.target= .Tuple es x p)\/HH g.iter=false:=by
 unfold Ek at h
 simp only[or_eq_true,not_eq_true'] at h
 rcases h with h|h
 ·unfold isTup at h
  split at h
  ·rename_i q;exact .inl ⟨_,_,_,q⟩
  ·cases h
 ·exact .inr h
theorem Sv{n:Nat}{g:Comprehension}{gs:List Comprehension}{elt:Expr}{d:D}{r:List D×Ev×St}(h:Ja n g gs elt d ρ σ=some r):Ek g.target g.iter=true:=by
 cases n with
 |zero=>simp[Ja] at h
 |succ n=>
  unfold Ja at h
  simp only at h
  split at h
  ·cases h
  ·rename_i q
   simp at q
   exact q.2
theorem Ho{n:Nat}(hG:UC c n)(rm:Room n A){g:Comprehension}{gs:List Comprehension}{elt:Expr}{scope:Scope}{pos:Pos}{allG:List Comprehension}{depth:Nat}(hasync:∀g∈allG,(g.is_async !=0)=false)(hg:allG[depth]? =some g)(hgs:allG.drop (depth+1)=gs)
 {I:Addr} {own:List Addr} {ds:List D} {Z₀:FM} {S:Nat->Heap->Prop} (W:Wk c A (HH g.iter) I own ds Z₀ S) {acc:Addr} {vs:List Value} {xs ys:List D} (hacc:acc∉own)
 (hf:CW (λd (s:Ev×St)=>Ja n g gs elt d s.1 s.2) ds (ρ,σ)=some (ys,ρ',σ')) (R:Rel c env ρ σ Z ((P.adds s.heap own).adds s.heap [acc]) (λ_=>none) s) (st:S 0 s.heap) (le₀:Z₀.le Z)
 (hP:∀a∈own,P a=none) (hPa:P acc=none) (ap:BK env own) (apa:BK env [acc]) (pl:s.heap.PlainList acc vs.toArray) (rl:RepL c Z xs vs) (hlen:xs.length+ys.length<=100000) {R':Result->Shared->Prop}
 (k:∀Z' s' vs',Z.le Z'->Rel c env ρ' σ' Z' (P.adds s'.heap [acc]) (λ_=>none) s'->s'.heap.PlainList acc vs'.toArray->RepL c Z' (xs++ys) vs'->R' (.ok .next) s'):
 codeAny (model c.prog c.w) A (.compLoop (.ListComp elt allG scope pos) depth (.ref I) (.ref acc) env) R' s:=by
 refine codeAny_loop rfl (λm s'=>∃i Zi ρi σi vsi ysi yr,i<=ds.length/\m=ds.length+1 -i/\Z.le Zi/\Rel c env ρi σi Zi ((P.adds s'.heap own).adds s'.heap [acc]) (λ_=>none) s'/\S i s'.heap/\
  s'.heap.PlainList acc vsi.toArray/\RepL c Zi (xs++ysi) vsi/\ysi++yr=ys/\CW (λd (s:Ev×St)=>Ja n g gs elt d s.1 s.2) (ds.drop i) (ρi,σi)=some (yr,ρ',σ')) ?_ (ds.length+1)
  ⟨0,Z,ρ,σ,vs,[],ys,zero_le _,rfl,FM.le_refl _,R,st,pl,by simpa using rl,rfl,by simpa using hf⟩
 rintro m s' ⟨i,Zi,ρi,σi,vsi,ysi,yr,hi,rfl,le,Ri,sti,pli,rli,hys,hf⟩
 show wpAny _ A ((compTurn (.ListComp elt allG scope pos) depth (.ref I) (.ref acc) env).onRaise (λx=>do noteFrame x env;theTreesLotGoes x)) _ _ s'
 refine wpAny_noted ?_
 rw[Jc elt allG scope pos depth (.ref I) (.ref acc) env hg (hasync _ (List.mem_of_getElem? hg))]
 refine wpAny_bind (wpAny_standAt (wpAny_bind ?_))
 have live:=W.live _ _ sti
 have liveA:∀a∈[acc],∃o,s'.heap.get? a=some o:=λa ha=>by rw[mem_singleton.mp ha];obtain⟨q,e⟩:=pli;exact⟨_,e⟩
 have Ri':Rel c env ρi σi Zi ((P.adds s'.heap [acc]).adds s'.heap own) (λ_=>none) s':=by rw[FM.adds_comm];exact Ri
 have hPo:∀a∈own,(P.adds s'.heap [acc]) a=none:=λa ha=>by
  rw[FM.adds_out (λhm=>by rw[mem_singleton.mp hm] at ha;exact hacc ha)];exact hP a ha
 have zo:=Ri'.looseZ live
 by_cases hlt:i<ds.length
 ·have hd:=getElem?_eq_getElem hlt
  rw[List.drop_eq_getElem_cons hlt] at hf
  unfold CW at hf
  simp only[bind_eq_bind,bind_eq_some_iff] at hf
  obtain⟨⟨y1,ρ₁,σ₁⟩,hq,⟨y2,ρ₂,σ₂⟩,hq2,hf⟩:=hf
  cases hf
  have ht:=SK (Sv hq)
  refine W.item i _ s' Zi _ _ hd sti (FM.le_trans le₀ le) Ri.zh zo λv Z' s₁ D rv go=> ?_
  refine wpAny_bind (go g.target _ _ ht λs₂ kp gg os st₂=> ?_)
  have live₂:=W.live _ _ st₂
  have keep2:∀a o,a∉own->s'.heap.get? a=some o->s₂.heap.get? a=some o:=λa o n e=>kp a o n (D.keep a o n e)
  have R₂:=(Ri'.stepZ (as':=own) (s':=s₂) (Z':=Z') hPo live keep2 D.le (λa o e=>kp a o (λhm=>by rw[D.zo a hm] at e;cases e) (D.held a o e)) D.zn
   (λa ha=>⟨.inl ha,D.zo a ha⟩) ap (gg.trans D.gens) (os.trans D.os)).1
  have ea:P.adds s'.heap [acc]=P.adds s₂.heap [acc]:=(FM.adds_keep λa ha=>by
   obtain⟨o,e⟩:=liveA a ha
   rw[e];exact keep2 a o (λhm=>by rw[mem_singleton.mp ha] at hm;exact hacc hm) e).symm
  rw[ea,FM.adds_comm] at R₂
  have pl₂:s₂.heap.PlainList acc vsi.toArray:=pli.at λo e=>keep2 _ o hacc e
  have hPa₂:(P.adds s₂.heap own) acc=none:=by rw[FM.adds_out hacc];exact hPa
  refine wpAny_bind (hG _ _ _ _ _ _ _ _ _ hq A env Z' (P.adds s₂.heap own) s₂ scope pos allG depth acc vsi (xs++ysi) v rm hasync hg hgs R₂ hPa₂ apa pl₂ (RepL.mono D.le _ _ rli) ?_ rv _ _ λZ₃ s₃ vs₃ le₃ R₃ pl₃ rl₃=> ?_)
  ·have:=congrArg List.length hys
   simp at this⊢;omega
  refine wpAny_pure ⟨rfl,?_⟩
  have e1:∀a∈own,s₃.heap.get? a=s₂.heap.get? a:=λa ha=>by
   obtain⟨o,e⟩:=live₂ a ha
   rw[e]
   exact R₃.ph a o (by rw[FM.adds_out (λhm=>by rw[mem_singleton.mp hm] at ha;exact hacc ha),FM.adds_in ha];exact e)
  rw[show P.adds s₂.heap own=P.adds s₃.heap own from(FM.adds_keep e1).symm] at R₃
  refine⟨ds.length+1 -(i+1),by omega,i+1,Z₃,ρ₁,σ₁,vs₃,ysi++y1,y2,hlt,rfl,FM.le_trans le (FM.le_trans D.le le₃),R₃,?_,pl₃,by rw[<-List.append_assoc];exact rl₃,by rw[List.append_assoc];exact hys,hq2⟩
  refine W.frame _ _ _ st₂ (λa ha o e=>by rw[e1 a ha];exact e) (λa o e=> ?_) λa o e=>R₃.zh a o (le₃ _ _ (D.le _ _ (le _ _ (le₀ _ _ e))))
  exact R₂.zh a o (D.le _ _ (le _ _ (le₀ _ _ e)))
 ·have hin:i=ds.length:=by omega
  subst hin
  rw[List.drop_length] at hf
  cases hf
  rw[append_nil] at hys
  subst hys
  refine W.done s' _ _ sti λs₁ kp gg os=>wpAny_pure ?_
  have R₁:=(Ri'.stepZ (as':=[]) (s':=s₁) (Z':=Zi) hPo live (λa o n e=>kp a o n e) (FM.le_refl _) (λa o e=>kp a o (λhm=>by rw[zo a hm] at e;cases e) (Ri.zh a o e)) (λ_ _ e=> .inl e) (λ_ h=>(nomatch h)) ap gg os).1
  have ea:P.adds s'.heap [acc]=P.adds s₁.heap [acc]:=(FM.adds_keep λa ha=>by
   obtain⟨o,e⟩:=liveA a ha
   rw[e];exact kp a o (λhm=>by rw[mem_singleton.mp ha] at hm;exact hacc hm) e).symm
  rw[FM.adds_nil,ea] at R₁
  exact k Zi s₁ vsi le R₁ (pli.at λo e=>kp _ o hacc e) rli
theorem Ge{R':Result->Shared->Prop}{elt:Expr}{allG:List Comprehension}{scope:Scope}{pos:Pos}{depth:Nat}{g:Comprehension}(hg:allG[depth]? =some g)(ha:(g.is_async !=0)=false){I:Addr}{acc:Value}
 (hs:∀(Q:Value->Shared->Prop) (E:Value->Shared->Prop),Q (.ref I) s->wpAny (model c.prog c.w) A (pyIter (.ref I)) Q E s)
 (h:codeAny (model c.prog c.w) A (.compLoop (.ListComp elt allG scope pos) depth (.ref I) acc env) R' s):
 codeAny (model c.prog c.w) A (.compStart (.ListComp elt allG scope pos) depth (.ref I) acc env) R' s:=by
 refine codeAny_of_tree ?_
 show wpAny _ _ ((compStart (.ListComp elt allG scope pos) depth (.ref I) acc env).onRaise (λx=>do noteFrame x env;standAt theWindowsPlace)) _ _ s
 refine wpAny_notedAt ?_
 unfold compStart
 have e:((clausesOf (.ListComp elt allG scope pos))[depth]?).elim false (·.is_async !=0)=false:=by
  show(allG[depth]?).elim false (·.is_async !=0)=false
  rw[hg];exact ha
 rw[e]
 have e2:(clausesOf (.ListComp elt allG scope pos))[depth]? =some g:=hg
 rw[e2]
 show wpAny _ _ (ask>>=_) _ _ s
 refine wpAny_bind (wpAny_askSetting (wpAny_ite ?_))
 split
 ·first
   |exact wpAny_bind (wpAny_pure (wpAny_pure (And.intro rfl h)))
   |exact wpAny_pure (And.intro rfl h)
 ·refine wpAny_bind (wpAny_rule ?_)
  show wpAny _ _ (standAt g.iter.pos>>=_) _ _ s
  exact wpAny_bind (wpAny_standAt (wpAny_bind (hs _ _ (wpAny_pure (And.intro rfl h)))))
end
section
variable {c:Cx}{env:Env}{ρ ρ':Ev}{σ σ':St}{Z Z' P:FM}{μ:Str->Option Value}{s s':Shared}{A:Around}{E:Value->Shared->Prop}
theorem Cg{h:Heap}{as:List Addr}{a:Addr}{kvs:List (Key×Value)}(ha:a∈as)(n:a≠sysModules)(d:h.DictOf (AV c.prog c.w) a kvs):DctAt c (Z.adds h as) a kvs:=by
 obtain⟨o,ho,hd⟩:=Heap.dictOf_iff.mp d
 exact⟨n,o,by rw[FM.adds_in ha];exact ho,hd⟩
theorem EU{h:Heap}{as:List Addr}{a:Addr}{vs:List Value}(ha:a∈as)(p:h.PlainList a vs.toArray):LstAt (Z.adds h as) a vs:=by
 obtain⟨n,e⟩:=p
 exact⟨n,by rw[FM.adds_in ha];exact e⟩
theorem Jn{h:Heap}{as:List Addr}(le:Z.le (Z.adds h as)):∀(es:List (Key×List D))(l:List (Key×Addr)),RepDL c Z h es l->(∀a∈l.map (·.2),a∈as)->
 RepE c (Z.adds h as) (es.map λe=>(e.1,.list e.2)) (l.map λp=>(p.1,.ref p.2))
 |[],l,x,_=>by unfold RepDL at x;subst x;rw[map_nil,map_nil,RepE]
 |(k,ds)::r,l,x,hm=>by
  unfold RepDL at x
  obtain⟨a,l',vs,rfl,i,y,z⟩:=x
  rw[map_cons,map_cons,RepE]
  refine⟨.ref a,_,rfl,CD (EU (hm a (by simp)) i) (RepL.mono le _ _ y),Jn le r l' z λb hb=>hm b ?_⟩
  rw[map_cons];exact mem_cons_of_mem _ hb
theorem Nf{h:Heap}{V:V}{v:Value}{as:List Addr}(le:Z.le (Z.adds h as))(x:Own c Z h V v as):Rep c (Z.adds h as) V.frz v:=by
 cases V with
 |d d=>exact Rep.mono le _ _ x.2
 |ownL xs=>obtain⟨a,vs,rfl,rfl,i,r⟩:=x;exact CD (EU (by simp) i) (RepL.mono le _ _ r)
 |ownD es=>obtain⟨a,kvs,rfl,rfl,n,i,r⟩:=x;show Rep c _ (.dict es) _;rw[Rep];exact⟨a,kvs,rfl,Cg (by simp) n i,RepE.mono le _ _ r⟩
 |ownDL es=>
  obtain⟨a,l,rfl,rfl,nd,n,i,r⟩:=x
  show Rep c _ (.dict (es.map λe=>(e.1,.list e.2))) _
  rw[Rep]
  exact⟨a,_,rfl,Cg (by simp) n i,Jn le es l r λb hb=>mem_cons_of_mem _ hb⟩
 |ownB u bs ns=>
  obtain⟨a,da,la,na,v₁,vs,kvs,rfl,rfl,nd,i,n1,n2,d1,r1,i2,r2,d2,r3⟩:=x
  show Rep c _ (.bnds u bs ns) _
  rw[Rep]
  exact⟨a,da,v₁,.ref la,.ref na,rfl,by show(Z.adds h _) a=_;rw[FM.adds_in (by simp)];exact i,Cg (by simp) n1 d1,Rep.mono le _ _ r1,⟨la,vs,rfl,EU (by simp) i2,RepL.mono le _ _ r2⟩,⟨na,kvs,rfl,Cg (by simp) n2 d2,RepE.mono le _ _ r3⟩⟩
theorem Iv(R:Rel c env ρ σ Z P μ s){x:Str}{W:V}(hx:ρ.get x=some W){ρ₂:Ev}(hk:∀y,ρ₂.kind y=ρ.kind y)(hg:∀y,ρ₂.get y=if y=x then some (.d W.frz) else ρ.get y)(hset:∃ρ',(ρ.drop x).set x (.d W.frz)=some ρ'):
 ∃Z' v,Z.le Z'/\Rep c Z' W.frz v/\Rel c env ρ₂ σ Z' P (λy=>if y=x then some v else μ y) s:=by
 obtain⟨v,as,ho,hP,ap,hμ,R1⟩:=R.take hx
 obtain⟨le,R2⟩:=R1.freeze hP ap ho.live
 obtain⟨ρ',hs⟩:=hset
 have rp:=Nf le ho
 have R2':Rel c env (ρ.drop x) σ (Z.adds s.heap as) (P.adds s.heap []) (λy=>if y=x then some v else μ y) s:=by rw[FM.adds_nil];exact R2
 have R3:=R2'.give (as:=[]) (x:=x) (v:=v) (W:= .d W.frz) (λ_ h=>(nomatch h)) DX (by simp) ⟨rfl,rp⟩ hs
 refine⟨_,v,le,rp,R3.congr (λy=> ?_) λy=> ?_⟩
 ·rw[hk,Ev.kind_set hs,Ev.kind_drop]
 ·rw[hg,Ev.get_set hs,Ev.get_drop]
  by_cases hy:y=x
  ·rw[if_pos hy,if_pos hy]
  ·rw[if_neg hy,if_neg hy,if_neg hy]
def FX(P:Str->Bool)(ρ:Ev):Ev:={ρ with loc:=ρ.loc.map λ(x,v)=>if P x then(x,.d v.frz) else(x,v),cel:=ρ.cel.map λ(x,v)=>if P x then(x,.d v.frz) else(x,v)}
theorem Ik(p:Str->Bool):∀(l:List (Str×Nz.V))(x:Str),(l.map λ(x,v)=>if p x then(x,Nz.V.d v.frz) else(x,v)).lookup x=(l.lookup x).map λv=>if p x then .d v.frz else v
 |[],x=>rfl
 |(y,v)::r,x=>by
  have ih:=Ik p r x
  rw[map_cons]
  by_cases hy:x=y
  ·subst hy
   cases hp:p x<;>simp[hp,lookup_cons]
  ·have:(x==y)=false:=by simpa using hy
   cases hp:p y<;>simp[hp,lookup_cons,this,ih]
theorem Dw(p:Str->Bool)(ρ:Ev)(x:Str):(FX p ρ).get x=(ρ.get x).map λv=>if p x then .d v.frz else v:=by
 have hk:(FX p ρ).kind x=ρ.kind x:=rfl
 unfold Ev.get
 rw[hk]
 unfold FX
 split<;>first|exact Ik p _ x|rfl
theorem Iw:∀(l:List Str){Z:FM},Rel c env ρ σ Z P μ s->∃Z',Z.le Z'/\Rel c env (FX (λx=>l.contains x&&(ρ.kind x==some .local||ρ.kind x==some .cell)) ρ) σ Z' P μ s
 |[],Z,R=>⟨Z,FM.le_refl _,R.congr (λ_=>rfl) λx=>by rw[Dw];cases ρ.get x<;>simp⟩
 |x::l,Z,R=>by
  obtain⟨Z₁,le₁,R₁⟩:=Iw l R
  generalize hp:(λx=>l.contains x&&(ρ.kind x==some .local||ρ.kind x==some .cell))=p at R₁
  have hp':∀y,p y=(l.contains y&&(ρ.kind y==some .local||ρ.kind y==some .cell)):=λy=>by rw[<-hp]
  have done:∀{Z₂:FM} {ρ₂:Ev},Z₁.le Z₂->Rel c env ρ₂ σ Z₂ P μ s->(∀y,ρ₂.kind y=ρ.kind y)->(∀y,ρ₂.get y=(ρ.get y).map λv=>if((x::l).contains y&&(ρ.kind y==some .local||ρ.kind y==some .cell))=true then .d v.frz else v)->
   ∃Z',Z.le Z'/\Rel c env (FX (λy=>(x::l).contains y&&(ρ.kind y==some .local||ρ.kind y==some .cell)) ρ) σ Z' P μ s:=
   λle₂ R₂ hk hg=>⟨_,FM.le_trans le₁ le₂,R₂.congr (λy=>(hk y).symm) λy=>by rw[Dw,hg]⟩
  by_cases hx:(ρ.kind x==some .local||ρ.kind x==some .cell)=true
  ·cases hV:(FX p ρ).get x with
   |none=>
    refine done (FM.le_refl _) R₁ (λ_=>rfl) λy=> ?_
    rw[Dw,hp']
    by_cases hy:y=x
    ·subst hy
     rw[Dw] at hV
     cases q:ρ.get y with
     |none=>rfl
     |some v=>rw[q] at hV;cases hV
    ·rw[List.contains_cons,show(y==x)=false by simpa using hy,Bool.false_or]
   |some W=>
    have hset:∃ρ',((FX p ρ).drop x).set x (.d W.frz)=some ρ':=by
     have hk:(FX p ρ).kind x=ρ.kind x:=rfl
     unfold Ev.set
     rw[Ev.kind_drop,hk]
     simp only[or_eq_true,beq_iff_eq] at hx
     rcases hx with h|h<;>rw[h]<;>exact⟨_,rfl⟩
    obtain⟨ρ',hs⟩:=hset
    have g2:∀y,ρ'.get y=if y=x then some (.d W.frz) else(FX p ρ).get y:=λy=>by
     rw[Ev.get_set hs,Ev.get_drop]
     by_cases hy:y=x
     ·rw[if_pos hy,if_pos hy]
     ·rw[if_neg hy,if_neg hy,if_neg hy]
    obtain⟨Z₂,v,le₂,_,R₂⟩:=Iv R₁ hV (ρ₂:=ρ') (λy=>by rw[Ev.kind_set hs,Ev.kind_drop]) g2 ⟨ρ',hs⟩
    obtain⟨v',as,_,hμ,_⟩:=R₁.know hV
    refine done le₂ (R₂.mu (μ':=μ) λy u hu=> ?_) (λy=>by rw[Ev.kind_set hs,Ev.kind_drop];rfl) λy=> ?_
    ·by_cases hy:y=x
     ·subst hy
      rw[if_pos rfl]
      have h1:=R₂.muHolds (x:=y) (v:=v) (by simp)
      obtain⟨m,oa,vs⟩:=R₁.vars
      obtain⟨m2,oa2,vs2⟩:=R₂.vars
      have a1:=vs.mu y u hu
      have a2:=vs2.mu y v (by simp)
      have kk:ρ'.kind y=(FX p ρ).kind y:=by rw[Ev.kind_set hs,Ev.kind_drop]
      rw[kk] at a2
      have em:m y=m2 y:=by
       obtain⟨o1,es1,ep1,b1,c1,_,d1⟩:=vs.ns
       obtain⟨o2,es2,ep2,b2,c2,_,d2⟩:=vs2.ns
       rw[b1] at b2;cases b2
       rw[c1] at c2;cases c2
       exact(d1 y).symm.trans (d2 y)
      have:u=v:=by
       unfold HoldsVar at a1 a2
       split at a1
       ·rename_i hk;simp only[hk] at a2;rw[em,a2] at a1;cases a1;rfl
       ·rename_i hk;simp only[hk] at a2
        obtain⟨b,h1,o,h2,h3⟩:=a1
        obtain⟨b',g1,o',g2,g3⟩:=a2
        rw[h1] at g1;cases g1;rw[h2] at g2;cases g2;rw[h3] at g3;cases g3;rfl
       ·rename_i hk;simp only[hk] at a2
        obtain⟨b,o,h1,h2,h3⟩:=a1
        obtain⟨b',o',g1,g2,g3⟩:=a2
        rw[h1] at g1;cases g1;rw[h2] at g2;cases g2;rw[h3] at g3;cases g3;rfl
       ·exact a1.elim
      rw[this]
     ·rw[if_neg hy];exact hu
    ·rw[g2]
     by_cases hy:y=x
     ·subst hy
      rw[if_pos rfl]
      rw[Dw] at hV
      cases q:ρ.get y with
      |none=>rw[q] at hV;cases hV
      |some v0=>
       rw[q] at hV
       have e1:((y::l).contains y&&(ρ.kind y==some .local||ρ.kind y==some .cell))=true:=by rw[List.contains_cons,hx];simp
       rw[map_some,if_pos e1]
       rw[map_some] at hV
       cases hV
       cases p y<;>rfl
     ·rw[if_neg hy,Dw,hp',List.contains_cons,show(y==x)=false by simpa using hy,Bool.false_or]
  ·refine done (FM.le_refl _) R₁ (λ_=>rfl) λy=> ?_
   rw[Dw,hp']
   by_cases hy:y=x
   ·subst hy
    have:(ρ.kind y==some .local||ρ.kind y==some .cell)=false:=by simpa using hx
    rw[this,Bool.and_false,Bool.and_false]
   ·rw[List.contains_cons,show(y==x)=false by simpa using hy,Bool.false_or]
end
def TC(c:Cx)(n:Nat):Prop:=∀e ρ σ xs ρ' σ',FQ n e ρ σ=some (xs,ρ',σ')->∀(A:Around)(env:Env)(Z P:FM)(μ:Str->Option Value)(s:Shared),Room n A->Rel c env ρ σ Z P μ s->
 (∀x,foldedSetIterable e env x=pure x)/\∀(Q:Value->Shared->Prop) (E:Value->Shared->Prop),(∀I own S Z' s',Z.le Z'->Wk c A (HH e) I own xs Z' S->S 0 s'.heap->Rel c env ρ' σ' Z' (P.adds s'.heap own) μ s'->(∀a∈own,P a=none)->BK env own->Q (.ref I) s')->
   wpAny (model c.prog c.w) A (eval e env) (λx s₁=>wpAny (model c.prog c.w) A (pyIter x) Q E s₁) E s
def Eg(env:Env):List (Str×NameKind)->List (Str×Addr)->List (Str×Addr)
 |[],acc=>acc
 |(n,k)::r,acc=>if k== .free then Eg env r ((n,(env.cells.lookup n).getD 0)::acc) else Eg env r acc
theorem I7{env:Env}{x:Str}{a:Addr}:∀(names:List (Str×NameKind))(acc:List (Str×Addr)),(x,a)∈Eg env names acc->(x,a)∈acc\/((x,NameKind.free)∈names/\a=(env.cells.lookup x).getD 0)
 |[],_,h=> .inl h
 |(n,k)::r,acc,h=>by
  unfold Eg at h
  split at h
  ·rename_i hk
   rcases I7 r _ h with h|h
   ·rcases mem_cons.mp h with e|h
    ·cases e;rw[beq_iff_eq.mp hk];exact .inr ⟨mem_cons_self ..,rfl⟩
    ·exact .inl h
   ·exact .inr ⟨mem_cons_of_mem _ h.1,h.2⟩
  ·rcases I7 r _ h with h|h
   ·exact .inl h
   ·exact .inr ⟨mem_cons_of_mem _ h.1,h.2⟩
theorem JA{env:Env}{x:Str}{a:Addr}:∀(names:List (Str×NameKind))(acc:List (Str×Addr)),(x,a)∈acc->(x,a)∈Eg env names acc
 |[],_,h=>h
 |(n,k)::r,acc,h=>by
  unfold Eg
  split
  ·exact JA r _ (mem_cons_of_mem _ h)
  ·exact JA r _ h
theorem I8{env:Env}{x:Str}:∀(names:List (Str×NameKind))(acc:List (Str×Addr)),(x,NameKind.free)∈names->(x,(env.cells.lookup x).getD 0)∈Eg env names acc
 |(n,k)::r,acc,h=>by
  unfold Eg
  rcases mem_cons.mp h with e|h
  ·cases e
   rw[if_pos (by rfl)]
   exact JA r _ (mem_cons_self ..)
  ·split
   ·exact I8 r _ h
   ·exact I8 r _ h
theorem Hq{env:Env}{names:List (Str×NameKind)}{x:Str}{a:Addr}(h:(Eg env names []).lookup x=some a):(x,NameKind.free)∈names/\a=(env.cells.lookup x).getD 0:=by
 rcases I7 names [] (mem_of_lookup h) with h|h
 ·exact(nomatch h)
 ·exact h
theorem I9{env:Env}{names:List (Str×NameKind)}{x:Str}(h:(x,NameKind.free)∈names):(Eg env names []).lookup x=some ((env.cells.lookup x).getD 0):=by
 obtain⟨b,hb⟩:=BQ _ (I8 (env:=env) names [] h)
 rw[hb,(Hq hb).2]
theorem F3{env:Env}(f:Str×NameKind->List (Str×Addr)->Sem (ForInStep (List (Str×Addr))))
 (hf:∀name kind cs,f (name,kind) cs=if kind== .free then(do let a<-cellOf env name;pure (.yield ((name,a)::cs))) else pure (.yield cs)):
 ∀(names:List (Str×NameKind)) (acc:List (Str×Addr)),(∀x,(x,NameKind.free)∈names->(env.cells.lookup x).isSome=true)->forIn names acc f=pure (Eg env names acc)
 |[],acc,_=>by rw[List.forIn_nil];rfl
 |(n,k)::r,acc,h=>by
  rw[List.forIn_cons,hf]
  unfold Eg
  have hr:∀x,(x,NameKind.free)∈r->(env.cells.lookup x).isSome=true:=λx hx=>h x (mem_cons_of_mem _ hx)
  cases q:k==NameKind.free with
  |true=>
   have:(env.cells.lookup n).isSome=true:=h n (by rw[<-beq_iff_eq.mp q];exact mem_cons_self ..)
   obtain⟨a,ha⟩:=Option.isSome_iff_exists.mp this
   have e:cellOf env n=pure a:=by unfold cellOf;rw[ha]
   simp only[if_true,e,pure_bind,ha,getD_some]
   exact F3 f hf r _ hr
  |false=>
   simp only[false_eq_true,if_false,pure_bind]
   exact F3 f hf r _ hr
theorem NL{env:Env}{scope:Scope}(h:∀x,(x,NameKind.free)∈scope.names->(env.cells.lookup x).isSome=true):closureFor scope env=pure (Eg env scope.names []):=by
 unfold closureFor
 show(forIn scope.names [] _>>=λcs=>pure cs)=_
 rw[F3 (env:=env) _ (λname kind cs=>by cases q:kind==NameKind.free<;>simp[q]) scope.names [] h]
 rfl
theorem En{scope:Scope}{env:Env}:∀(names:List (Str×NameKind))(x:Str),JL (names.lookup x) ((names.map λ(n,k)=>if(k==NameKind.free&&env.scope.kind== .function&&env.kindOf n==some .cell) then(n,NameKind.cell) else(n,k)).lookup x)
 |[],x=>rfl
 |(n,k)::r,x=>by
  have ih:=En (scope:=scope) (env:=env) r x
  show JL (List.lookup x ((n,k)::r)) (List.lookup x ((if(k==NameKind.free&&env.scope.kind== .function&&env.kindOf n==some .cell)=true then(n,NameKind.cell) else(n,k))::_))
  cases hx:x==n with
  |true=>
   rw[lookup_cons,hx]
   by_cases hc:(k==NameKind.free&&env.scope.kind== .function&&env.kindOf n==some .cell)=true
   ·rw[if_pos hc,lookup_cons,hx]
    simp only[and_eq_true,beq_iff_eq] at hc
    rw[hc.1.1];exact .inr rfl
   ·rw[if_neg hc,lookup_cons,hx]
    cases k<;>first|rfl|exact .inl rfl
  |false=>
   rw[lookup_cons,hx]
   by_cases hc:(k==NameKind.free&&env.scope.kind== .function&&env.kindOf n==some .cell)=true
   ·rw[if_pos hc,lookup_cons,hx];exact ih
   ·rw[if_neg hc,lookup_cons,hx];exact ih
section
variable {c:Cx}{env:Env}{ρ ρ':Ev}{σ σ':St}{Z Z' P:FM}{μ:Str->Option Value}{s s':Shared}{A:Around}{E:Value->Shared->Prop}
def F9(s:Shared)(as:List Addr):Shared:={s with heap:=hideAll s.heap as}
theorem Dv{as:List Addr}{a:Addr}{o:Obj}(h:s.heap.get? a=some o)(n:a∉as):(F9 s as).heap.get? a=some o:=hideAll_get as h n
theorem E5{as:List Addr}{a:Addr}{o:Obj}(h:(F9 s as).heap.get? a=some o):s.heap.get? a=some o/\a∉as:=⟨of_hideAll as h,λhm=>by rw[show(F9 s as).heap.get? a=none from hideAll_none as hm] at h;cases h⟩
theorem Rel.hide{as:List Addr}(R:Rel c env ρ σ Z (P.adds s.heap as) μ s)(hP:∀a∈as,P a=none)(live:∀a∈as,∃o,s.heap.get? a=some o)(ap:BK env as):Rel c env ρ σ Z P μ (F9 s as):=by
 have zo:=R.looseZ live
 have:=(R.stepZ (as':=[]) (s':=F9 s as) (Z':=Z) hP live (λa o n e=>Dv e n) (FM.le_refl _) (λa o e=>Dv (R.zh a o e) λhm=>by rw[zo a hm] at e;cases e) (λ_ _ e=> .inl e) (λ_ h=>(nomatch h)) ap rfl rfl).1
 rwa [FM.adds_nil] at this
theorem Rel.wentL(R:Rel c env ρ σ Z P μ s)(W:Went c Z s σ' Z' s'){as:List Addr}(new:∀a∈as,s.heap.get? a=none)(zn:∀a∈as,Z' a=none)(nf:c.fa∉as):Rel c env ρ σ' Z' (P.adds s'.heap as) μ s'/\(∀a∈as,P a=none)/\BK env as:=by
 have W':Went c Z s σ' Z' (F9 s' as):={
  le:=W.le
  held:=λa o e=>Dv (W.held a o e) λhm=>by rw[zn a hm] at e;cases e
  keep:=λa o e=>Dv (W.keep a o e) λhm=>by
   have:=(BX e).2.2
   rw[new a hm] at this;cases this
  new:=W.new
  feed:=W.feed.keep (FM.le_refl _) λo e=>Dv e nf
  fz:=W.fz
  gens:=W.gens
  os:=W.os}
 have R':=R.went W'
 exact R'.lay (s':=s') (λa o e=>(E5 e).1) (λa ha=>hideAll_none as ha) rfl rfl
theorem Kn{names:List (Str×NameKind)}(h:Df names ρ=true){x:Str}(hx:(x,NameKind.free)∈names):(∃V,ρ.get x=some V/\ρ.kind x=some .cell)\/∃d,ρ.get x=some (.d d)/\ρ.kind x=some .free:=by
 unfold Df at h
 rw[all_eq_true] at h
 have:=h _ hx
 simp only[bne_self_eq_false,Bool.false_or,or_eq_true,and_eq_true,beq_iff_eq] at this
 rcases this with ⟨h1,h2⟩|⟨h1,h2⟩
 ·obtain⟨V,hV⟩:=Option.isSome_iff_exists.mp h2
  exact .inl ⟨V,hV,h1⟩
 ·split at h2
  ·rename_i d hd;exact .inr ⟨d,hd,h1⟩
  ·cases h2
theorem Fv{names:List (Str×NameKind)}(h:EK names=true)(x:Str):(x,NameKind.free)∈names↔names.lookup x=some .free:=by
 unfold EK at h
 rw[all_eq_true] at h
 constructor
 ·intro hx
  have:=h _ hx
  simp only[and_eq_true,beq_iff_eq] at this
  exact this.2
 ·exact λe=>mem_of_lookup e
theorem B4(names:List (Str×NameKind)):∀(l:List (Str×Nz.V))(x:Str),(BR names l).lookup x=(l.lookup x).map λv=>if names.lookup x=some .free then .d v.frz else v
 |[],x=>rfl
 |(y,v)::r,x=>by
  have ih:=B4 names r x
  unfold BR at ih⊢
  rw[map_cons]
  by_cases hy:x=y
  ·subst hy
   by_cases hp:names.lookup x=some .free<;>simp[hp,lookup_cons]
  ·have:(x==y)=false:=by simpa using hy
   by_cases hp:names.lookup y=some .free<;>simp[hp,lookup_cons,this,ih]
theorem Db(names:List (Str×NameKind)):∀(l:List (Str×Nz.V))(x:Str),(CX names l).lookup x=if names.lookup x=some .free then l.lookup x else none
 |[],x=>by simp[CX]
 |(y,v)::r,x=>by
  have ih:=Db names r x
  unfold CX at ih⊢
  rw[List.filter_cons]
  by_cases hy:x=y
  ·subst hy
   by_cases hp:names.lookup x=some .free
   ·simp[hp,lookup_cons]
   ·rw[if_neg (by simpa using hp),ih,if_neg hp,if_neg hp]
  ·have hb:(x==y)=false:=by simpa using hy
   by_cases hp:names.lookup y=some .free
   ·rw[if_pos (by simpa using hp),lookup_cons,lookup_cons,hb,ih]
   ·rw[if_neg (by simpa using hp),ih,lookup_cons,hb]
theorem Rel.capture(R:Rel c env ρ σ Z P μ s){names:List (Str×NameKind)}(hn:EK names=true)(hf:Df names ρ=true):∃Z',Z.le Z'/\Rel c env {ρ with cel:=BR names ρ.cel} σ Z' P μ s:=by
 obtain⟨Z',le,R'⟩:=Iw ((names.filter λp=>p.2== .free).map (·.1)) R
 refine⟨Z',le,R'.congr (λ_=>rfl) λx=> ?_⟩
 rw[Dw]
 have hl:((names.filter λp=>p.2== .free).map (·.1)).contains x=true↔names.lookup x=some .free:=by
  rw[<-Fv hn,List.contains_iff_mem,mem_map]
  constructor
  ·rintro⟨⟨y,k⟩,h1,rfl⟩
   have:=(mem_filter.mp h1)
   simp only[beq_iff_eq] at this
   rw[<-this.2];exact this.1
  ·intro h
   exact⟨(x,.free),mem_filter.mpr ⟨h,by simp⟩,rfl⟩
 have kd:Ev.kind {ρ with cel:=BR names ρ.cel} x=ρ.kind x:=rfl
 by_cases hx:names.lookup x=some .free
 ·have hc:=hl.mpr hx
  rw[hc]
  rcases Kn hf ((Fv hn x).mpr hx) with ⟨V,hV,hk⟩|⟨d,hd,hk⟩
  ·have:(ρ.kind x==some .local||ρ.kind x==some .cell)=true:=by rw[hk];rfl
   rw[this]
   simp only[Bool.and_self,if_true]
   unfold Ev.get
   rw[kd,hk]
   simp only[B4,hx,if_true]
  ·have:(ρ.kind x==some .local||ρ.kind x==some .cell)=false:=by rw[hk];rfl
   rw[this]
   simp only[Bool.and_false,false_eq_true,if_false,Option.map_id']
   have e:ρ.get x=ρ.cel.lookup x:=by unfold Ev.get;rw[hk]
   have e2:Ev.get {ρ with cel:=BR names ρ.cel} x=(BR names ρ.cel).lookup x:=by unfold Ev.get;rw[kd,hk]
   rw[e2,B4,<-e,hd,map_some,if_pos hx];rfl
 ·have hc:((names.filter λp=>p.2== .free).map (·.1)).contains x=false:=by
   cases q:((names.filter λp=>p.2== .free).map (·.1)).contains x with
   |false=>rfl
   |true=>exact absurd (hl.mp q) hx
  rw[hc]
  simp only[Bool.false_and,false_eq_true,if_false,Option.map_id']
  unfold Ev.get
  rw[kd]
  split<;>first|rfl|(rw[B4];simp[hx])
theorem N3{n:Nat}(hI:TC c n)(hG:UC c n)(rm:Room n A){g:Comprehension}{gs:List Comprehension}{elt:Expr}{scope:Scope}{pos pos':Pos}(hc:F2 scope (g::gs)=true)(hf0:Df scope.names ρ=true){xs ys:List D}{ρ₁ ρe:Ev}{σ₁:St}
 (h1:FQ n g.iter ρ σ=some (xs,ρ₁,σ₁)) (hf:Df scope.names ρ₁=true)
 (h2:CW (λd (s:Ev×St)=>Ja n g gs elt d s.1 s.2) xs (⟨scope.names,[],CX scope.names (BR scope.names ρ₁.cel)⟩,σ₁)=some (ys,ρe,σ')) (hl:ys.length<=100000) (R:Rel c env ρ σ Z P μ s)
 {use:Option (Value->Sem Unit)} {Q:Value->Shared->Prop}
 (k:∀C acc Z' s',Z.le Z'->Rel c env {ρ₁ with cel:=BR scope.names ρ₁.cel} σ' Z' (P.adds s'.heap [C]) μ s'->P C=none->BK env [C]->Rep c Z' (.list ys) acc->(∃m,s'.heap.Ns C m)->(match use with
   |none=>∀h',Heap.SameBut C s'.heap h'->Q acc {s' with heap:=h'}
   |some u=>wpAny (model c.prog c.w) A (u acc) (λ_ s''=>∃m,s''.heap.Ns C m/\∀h',Heap.SameBut C s''.heap h'->Q .none {s'' with heap:=h'}) E s')):
 wpAny (model c.prog c.w) A (comprehension (.ListComp elt (g::gs) scope pos) scope env pos' (newList []) false (eval g.iter env) use) Q E s:=by
 unfold F2 at hc
 simp only[and_eq_true,beq_iff_eq,all_eq_true] at hc
 obtain⟨⟨hkind,hnames⟩,hasync⟩:=hc
 have hasync':∀x∈g::gs,(x.is_async !=0)=false:=λx hx=>by have:=hasync x hx;simpa using this
 have hcons:∀x∈scope.names,scope.names.lookup x.1=some x.2/\x.2≠ .cell:=λx hx=>by
  unfold EK at hnames
  rw[all_eq_true] at hnames
  have:=hnames x hx
  simp only[and_eq_true,or_eq_true,beq_iff_eq] at this
  exact⟨this.2,λe=>by rw[e] at this;simp at this⟩
 obtain⟨hfold,hIt⟩:=hI g.iter ρ σ xs ρ₁ σ₁ h1 A env Z P μ s rm R
 have capt:∀{Z₁ P₁:FM} {s₁:Shared} (R₁:Rel c env {ρ₁ with cel:=BR scope.names ρ₁.cel} σ₁ Z₁ P₁ μ s₁) (x:Str),(x,NameKind.free)∈scope.names->
  ∃d v a o,(CX scope.names (BR scope.names ρ₁.cel)).lookup x=some (.d d)/\Rep c Z₁ d v/\env.cells.lookup x=some a/\s₁.heap.get? a=some o/\o.data= .cell (some v)/\Z₁ a=none/\a≠c.fa:=by
  intro Z₁ P₁ s₁ R₁ x hx
  have hx':=(Fv hnames x).mp hx
  have kd:Ev.kind {ρ₁ with cel:=BR scope.names ρ₁.cel} x=ρ₁.kind x:=rfl
  obtain⟨d,hd⟩:∃d,Ev.get {ρ₁ with cel:=BR scope.names ρ₁.cel} x=some (.d d)/\(CX scope.names (BR scope.names ρ₁.cel)).lookup x=some (.d d)/\(ρ₁.kind x=some .cell\/ρ₁.kind x=some .free):=by
   rcases Kn hf hx with ⟨V,hV,hk⟩|⟨d,hd,hk⟩
   ·have e:ρ₁.get x=ρ₁.cel.lookup x:=by unfold Ev.get;rw[hk]
    have e2:Ev.get {ρ₁ with cel:=BR scope.names ρ₁.cel} x=(BR scope.names ρ₁.cel).lookup x:=by unfold Ev.get;rw[kd,hk]
    have e3:(BR scope.names ρ₁.cel).lookup x=some (.d V.frz):=by rw[B4,<-e,hV,map_some,if_pos hx']
    exact⟨V.frz,by rw[e2,e3],by rw[Db,if_pos hx',e3],.inl hk⟩
   ·have e:ρ₁.get x=ρ₁.cel.lookup x:=by unfold Ev.get;rw[hk]
    have e2:Ev.get {ρ₁ with cel:=BR scope.names ρ₁.cel} x=(BR scope.names ρ₁.cel).lookup x:=by unfold Ev.get;rw[kd,hk]
    have e3:(BR scope.names ρ₁.cel).lookup x=some (.d d):=by rw[B4,<-e,hd,map_some,if_pos hx'];rfl
    exact⟨d,by rw[e2,e3],by rw[Db,if_pos hx',e3],.inr hk⟩
  obtain⟨hd,ht,hk⟩:=hd
  obtain⟨m,oa,vs⟩:=R₁.vars
  obtain⟨v,hv,ho⟩:=vs.var x _ hd
  rw[kd] at hv
  rcases hk with hk|hk
  ·rw[hk] at hv
   obtain⟨a,h1,o,h2,h3⟩:=hv
   obtain⟨a',v',g1,_,g3,_⟩:=vs.cell x hk
   rw[h1] at g1;cases g1
   exact⟨d,v,a,o,ht,ho.2,h1,h2,h3,g3.1,g3.2.2⟩
  ·rw[hk] at hv
   obtain⟨a,o,h1,h2,h3⟩:=hv
   exact⟨d,v,a,o,ht,ho.2,h1,R₁.ph a o h2,h3,R₁.noZP h2,λq=>by rw[q,R₁.feedFree.2] at h2;cases h2⟩
 have hcl:closureFor scope env=pure (Eg env scope.names []):=NL λx hx=>by
  obtain⟨m,oa,vs⟩:=R.vars
  rcases Kn hf0 hx with ⟨V,hV,hk⟩|⟨d,hd,hk⟩
  ·obtain⟨a,v,h1,_⟩:=vs.cell x hk
   rw[h1];rfl
  ·obtain⟨v,hv,_⟩:=vs.var x _ hd
   rw[hk] at hv
   obtain⟨a,o,h1,_⟩:=hv
   rw[h1];rfl
 refine wpAny_comprehension_free (cl:=Eg env scope.names []) rfl hfold hcl hkind (λx hx e=>by rw[(hcons x hx).1,e]) ?_
 refine hIt _ E λI own S Z1 s₂ le1 W st0 R₂ hP ap=> ?_
 obtain⟨Z2,le2,R2⟩:=R₂.capture hnames hf
 have live:=W.live _ _ st0
 have zo:=R2.looseZ live
 have Rh:=R2.hide hP live ap
 have dead:∀b,s₂.heap.objs.size<=b->s₂.heap.get? b=none:=λb hb=>by
  cases q:s₂.heap.get? b with
  |none=>rfl
  |some x=>exact absurd (Heap.lt_size q) (Nat.not_lt.mpr hb)
 refine wpAny_newList ?_ (by rw[sizeLine_eq];simp)
 refine wpAny_newFunctionEnv (λx hx=>(hcons x hx).2) (by intro y hy;simp at hy) (λh₁ hns₁ hsb₁=> ?_) hkind
 have hC:(s₂.heap.push (seqObj "list" ([]:List Value).toArray 0)).objs.size=s₂.heap.objs.size+1:=Heap.size_push ..
 have hdeadC:s₂.heap.get? (s₂.heap.objs.size+1)=none:=dead _ (le_succ _)
 show codeAny _ _ (.compStart (.ListComp elt (g::gs) scope pos) 0 (.ref I) (.ref s₂.heap.objs.size) (compEnvC scope (Eg env scope.names []) (s₂.heap.push (seqObj "list" ([]:List Value).toArray 0)).objs.size env)) (compPost (model c.prog c.w) A E use Q (.ref s₂.heap.objs.size) (s₂.heap.push (seqObj "list" ([]:List Value).toArray 0)).objs.size) _
 have hns:h₁.Ns (s₂.heap.objs.size+1) (λx=>([]:List (Str×Value)).reverse.lookup x):=hC▸hns₁
 have hsb:Heap.SameBut (s₂.heap.objs.size+1) ((s₂.heap.push (seqObj "list" ([]:List Value).toArray 0)).push {cls:= .type "dict",data:= .dict #[]}) h₁:=hC▸hsb₁
 rw[hC]
 clear hns₁ hsb₁
 have keep:∀b o,s₂.heap.get? b=some o->h₁.get? b=some o:=λb o e=>hsb.extBut b o (Nat.ne_of_lt (Nat.lt_succ_of_lt (Heap.lt_size e))) (Heap.get?_push_of_some _ (Heap.get?_push_of_some _ e))
 have hacc:h₁.PlainList s₂.heap.objs.size ([]:List Value).toArray:=⟨0,hsb.extBut _ _ (Nat.ne_of_lt (Nat.lt_succ_self _)) (Heap.get?_push_of_some _ (Heap.get?_push_size _ rfl))⟩
 have hdeadA:=dead s₂.heap.objs.size (Nat.le_refl _)
 have accC:s₂.heap.objs.size≠s₂.heap.objs.size+1:=Nat.ne_of_lt (Nat.lt_succ_self _)
 generalize s₂.heap.objs.size+1=C at*
 generalize s₂.heap.objs.size=acc at*
 have accO:acc∉own:=λhm=>by obtain⟨o,e⟩:=live _ hm;rw[hdeadA] at e;cases e
 have cO:C∉own:=λhm=>by obtain⟨o,e⟩:=live _ hm;rw[hdeadC] at e;cases e
 have z2n:∀b,s₂.heap.get? b=none->Z2 b=none:=λb hb=>by
  cases q:Z2 b with
  |none=>rfl
  |some o=>have:=R2.zh b o q;rw[hb] at this;cases this
 have hfa:∃o,s₂.heap.get? c.fa=some o:=let⟨_,_,_,d,_⟩:=R2.feed;DictOf.live d
 have faO:c.fa∉own:=λhm=>by
  obtain⟨o,e⟩:=hfa
  have:=R2.feedFree.2;rw[FM.adds_in hm,e] at this;cases this
 have faA:c.fa≠acc:=λq=>by obtain⟨o,e⟩:=hfa;rw[q,hdeadA] at e;cases e
 have faC:c.fa≠C:=λq=>by obtain⟨o,e⟩:=hfa;rw[q,hdeadC] at e;cases e
 have pin_some:∀a o,BB c Z2 (F9 s₂ own).heap a=some o->a≠c.fa/\Z2 a=none/\s₂.heap.get? a=some o/\a∉own:=λa o e=>by
  obtain⟨h1,h2,h3⟩:=BX e
  exact⟨h1,h2,(E5 h3).1,(E5 h3).2⟩
 have pin_of:∀a o,a≠c.fa->Z2 a=none->s₂.heap.get? a=some o->a∉own->BB c Z2 (F9 s₂ own).heap a=some o:=λa o h1 h2 h3 h4=>Cp h1 h2 (Dv h3 h4)
 have pin_dead:∀a,s₂.heap.get? a=none->BB c Z2 (F9 s₂ own).heap a=none:=λa ha=>by
  cases q:BB c Z2 (F9 s₂ own).heap a with
  |none=>rfl
  |some o=>have:=(pin_some a o q).2.2.1;rw[ha] at this;cases this
 have pin_own:∀a∈own,BB c Z2 (F9 s₂ own).heap a=none:=λa ha=>by
  cases q:BB c Z2 (F9 s₂ own).heap a with
  |none=>rfl
  |some o=>exact absurd ha (pin_some a o q).2.2.2
 have cell:∀x a,(Eg env scope.names []).lookup x=some a->∃d v o,(CX scope.names (BR scope.names ρ₁.cel)).lookup x=some (.d d)/\Rep c Z2 d v/\BB c Z2 (F9 s₂ own).heap a=some o/\o.data= .cell (some v)/\a∉own/\a≠acc/\a≠C:=by
  intro x a h
  obtain⟨hx,rfl⟩:=Hq h
  obtain⟨d,v,a,o,e1,e2,e3,e4,e5,e6,e7⟩:=capt R2 x hx
  rw[e3,getD_some]
  have ao:a∉own:=ap x a e3
  exact⟨d,v,o,e1,e2,pin_of a o e7 e6 e4 ao,e5,ao,(λq=>by rw[q,hdeadA] at e4;cases e4),λq=>by rw[q,hdeadC] at e4;cases e4⟩
 generalize hPin:BB c Z2 (F9 s₂ own).heap=Pin at*
 have R4:Rel c (compEnvC scope (Eg env scope.names []) C env) ⟨scope.names,[],CX scope.names (BR scope.names ρ₁.cel)⟩ σ₁ Z2 ((Pin.adds h₁ own).adds h₁ [acc]) (λ_=>none) {s₂ with heap:=h₁,toks:=s₂.toks+0}:=by
  have look:∀a o,((Pin.adds h₁ own).adds h₁ [acc]) a=some o->h₁.get? a=some o:=λa o e=>by
   by_cases h1:a∈[acc]
   ·rw[FM.adds_in h1] at e;exact e
   ·rw[FM.adds_out h1] at e
    by_cases h2:a∈own
    ·rw[FM.adds_in h2] at e;exact e
    ·rw[FM.adds_out h2] at e;exact keep a o (pin_some a o e).2.2.1
  have off:∀a,a≠acc->a∉own->((Pin.adds h₁ own).adds h₁ [acc]) a=Pin a:=λa h1 h2=>by rw[FM.adds_out (by simpa using h1),FM.adds_out h2]
  refine⟨λa o e=>keep a o (R2.zh a o e),look,λa o e=> ?_,R2.base,R2.feed.keep (FM.le_refl _) λo e=>keep _ o e,⟨R2.feedFree.1,?_⟩,R2.gens,R2.os,λx=>En (scope:=scope) scope.names x,hkind,R2.globals,R2.builtins,_,λ_=>[],hns,⟨z2n _ hdeadC,?_,Ne.symm faC⟩,λx hx=> ?_,λx y a hx=> ?_,λx V hV=> ?_,λ_ _=>rfl,λx a ha=>(nomatch ha),λx y a ha=>(nomatch ha),λx v hv=>(nomatch hv),λx a ha=> ?_⟩
  ·have h1:a≠acc:=λq=>by rw[q,z2n _ hdeadA] at e;cases e
   have h2:a∉own:=λhm=>by rw[zo a hm] at e;cases e
   rw[off a h1 h2]
   cases q:Pin a with
   |none=>rfl
   |some o'=>rw[(pin_some a o' q).2.1] at e;cases e
  ·rw[off _ faA faO]
   cases q:Pin c.fa with
   |none=>rfl
   |some o'=>exact absurd rfl (pin_some _ o' q).1
  ·show((Pin.adds h₁ own).adds h₁ [acc]) C=none
   rw[off C (Ne.symm accC) cO];exact pin_dead C hdeadC
  ·exact absurd rfl (hcons (x,.cell) (mem_of_lookup hx)).2
  ·exact absurd rfl (hcons (x,.cell) (mem_of_lookup hx)).2
  ·have hk:Ev.kind ⟨scope.names,[],CX scope.names (BR scope.names ρ₁.cel)⟩ x=scope.names.lookup x:=rfl
   unfold Ev.get at hV
   rw[hk] at hV
   split at hV
   ·simp at hV
   ·rename_i q;exact absurd rfl (hcons (x,.cell) (mem_of_lookup q)).2
   ·rename_i q
    have hx:(x,NameKind.free)∈scope.names:=mem_of_lookup q
    obtain⟨d,v,o,e1,e2,e3,e4,e5,e6,e7⟩:=cell x _ (I9 hx)
    rw[e1] at hV;cases hV
    refine⟨v,?_,rfl,e2⟩
    rw[hk,q]
    exact⟨_,o,I9 hx,by rw[off _ e6 e5];exact e3,e4⟩
   ·cases hV
  ·obtain⟨d,v,o,e1,e2,e3,e4,e5,e6,e7⟩:=cell x a ha
   exact .inr ⟨o,by rw[off _ e6 e5];exact e3⟩
 have st1:S 0 h₁:=W.frame 0 s₂.heap h₁ st0 (λb _ o e=>keep b o e) (λb o e=>R₂.zh b o e) λb o e=>keep b o (R₂.zh b o e)
 refine Ge (g:=g) rfl (hasync' g (mem_cons_self ..)) (λQ' E' q=>W.self 0 _ Q' E' st1 q) ?_
 refine Ho (P:=Pin) (gs:=gs) (depth:=0) hG rm hasync' rfl rfl W accO h2 R4 st1 le2 pin_own (pin_dead _ hdeadA) (λx a ha=> ?_) (λx a ha=> ?_) hacc RepL.nil (by simpa using hl) λZ5 s5 vs5 le5 R5 pl5 rl5=> ?_
 ·obtain⟨_,_,_,_,_,_,_,e5,_⟩:=cell x a ha;exact e5
 ·obtain⟨_,_,_,_,_,_,_,_,e6,_⟩:=cell x a ha;simpa using e6
 have live5:∀a∈[acc],∃o,s5.heap.get? a=some o:=λa ha=>by rw[mem_singleton.mp ha];obtain⟨q,e⟩:=pl5;exact⟨_,e⟩
 obtain⟨le6,R6⟩:=R5.freeze (λa ha=>by rw[mem_singleton.mp ha];exact pin_dead _ hdeadA) (λx a ha=>by obtain⟨_,_,_,_,_,_,_,_,e6,_⟩:=cell x a ha;simpa using e6) live5
 have W6:Went c Z2 (F9 s₂ own) σ' (Z5.adds s5.heap [acc]) s5:=by
  rw[<-hPin] at R6
  exact R6.left (FM.le_trans le5 le6)
 obtain⟨m6,oa6,vs6⟩:=R6.vars
 have Rf:=Rh.wentL W6 (as:=[C]) (λa ha=>by
  rw[mem_singleton.mp ha]
  cases q:(F9 s₂ own).heap.get? C with
  |none=>rfl
  |some o=>have:=(E5 q).1;rw[hdeadC] at this;cases this) (λa ha=>by rw[mem_singleton.mp ha];exact vs6.free.1) (by simpa using faC)
 have rp:Rep c (Z5.adds s5.heap [acc]) (.list ys) (.ref acc):=CD (EU (by simp) pl5) (RepL.mono le6 _ _ (by simpa using rl5))
 have kk:=k C (.ref acc) (Z5.adds s5.heap [acc]) s5 (FM.le_trans le1 (FM.le_trans le2 (FM.le_trans le5 le6))) Rf.1 (Rf.2.1 C (by simp)) Rf.2.2 rp ⟨m6,vs6.ns⟩
 cases use with
 |none=>exact⟨m6,vs6.ns,kk⟩
 |some u=>exact kk
end
def Dl(c:Cx)(x:Str)(v:Value):Prop:=∃mg,c.h₀.Ns mainGlobals mg/\(mg x=some v\/(mg x=none/\∃mb,c.h₀.Ns builtinsNs mb/\mb x=some v))
def E9(c:Cx)(K:Frag)(C:Addr)(m f:Str):Prop:=∃a fi,findIn K (.ref C) m=some (some (.ref a))/\isFn K (.ref a)=true/\fnTab.lookup f=some fi/\FnOk c a fi
def typNames:List String:=["tuple","list","dict","range","str","set","enumerate","int","bool"]
def Gh:List String:=["len","sorted","isinstance"]
structure ClsK (K:Frag)(C:Addr):Prop where
 get:∀name,plainGet K C name=true
 dict:hasDictIn K C=true
 makes:makesIn K C=true
 over:plainOver K C=true
 set:findIn K (.ref C) "__setattr__" =some (some (.builtin "object.__setattr__"))
 keep:keepIn K (.ref C)=true
structure TopOk (c:Cx)(K:Frag):Prop where
 X:K.In c.h₀
 nolimit:c.h₀.NoLimit
 fn:∀f∈topFns,∃a fi,fnTab.lookup (Str.ofString f)=some fi/\Dl c (Str.ofString f) (.ref a)/\FnOk c a fi
 typ:∀t∈typNames,Dl c (Str.ofString t) (.type t)
 blt:∀t∈Gh,Dl c (Str.ofString t) (.builtin t)
 pairs:∃a o n t1 t2 t3 t4,Dl c (Str.ofString "_law_pairs") (.ref a)/\c.h₀.get? a=some o/\o.cls= .type "tuple"/\o.data= .seq #[.str (Str.ofString "union") t1,.str (Str.ofString "meet") t2,.str (Str.ofString "minus") t3,.str (Str.ofString "override") t4] n
 uni:Dl c (Str.ofString "Universe") (.ref c.uc)
 bnd:Dl c (Str.ofString "Bounds") (.ref c.bc)
 ucls:ClsK K c.uc
 bcls:ClsK K c.bc
 unames:findIn K (.ref c.uc) "names" =some none
 unumbers:findIn K (.ref c.uc) "numbers" =some none
 buni:findIn K (.ref c.bc) "universe" =some none
 bbounds:findIn K (.ref c.bc) "bounds" =some none
 bnumbers:findIn K (.ref c.bc) "numbers" =some none
 usize:E9 c K c.uc "size" (Str.ofString "Universe.size")
 uinit:E9 c K c.uc "__init__" (Str.ofString "Universe.__init__")
 bupper:E9 c K c.bc "upper" (Str.ofString "Bounds.upper")
 bwant:E9 c K c.bc "want_set" (Str.ofString "Bounds.want_set")
 badd:E9 c K c.bc "add" (Str.ofString "Bounds.add")
 binit:E9 c K c.bc "__init__" (Str.ofString "Bounds.__init__")
section
variable {c:Cx}{K:Frag}{env:Env}{ρ ρ':Ev}{σ σ':St}{Z Z' P:FM}{μ:Str->Option Value}{s s':Shared}{A:Around}{E:Value->Shared->Prop}{L:Addr}
theorem Rel.keep0(R:Rel c env ρ σ Z P μ s):∀a o,c.h₀.get? a=some o->s.heap.get? a=some o:=λa o e=>R.zh a o (R.base a o e)
theorem KB{M:Model}(R:Rel c env ρ σ Z P μ s){x:Str}{pos:Pos}{v:Value}{Q:Value->Shared->Prop}(hx:Ao ρ x=true)(hd:(x==("__debug__" :Str))=false)(G:Dl c x v)(k:Q v s):wpAny M A (eval (.Name x pos) env) Q E s:=by
 have K:=R.kinds x
 unfold Ao at hx
 rw[beq_iff_eq.mp hx] at K
 obtain⟨mg,hg,h⟩:=G
 have hg':s.heap.Ns env.globals mg:=by rw[R.globals];exact hg.keeps R.keep0
 rcases h with h|⟨h,mb,hb,hv⟩
 ·exact Name_function_global R.fn K (loadGlobal_global hg' h k) hd
 ·exact Name_function_global R.fn K (loadGlobal_builtin hg' h (by rw[R.builtins];exact hb.keeps R.keep0) hv k) hd
theorem Hg{prog:Program}{w:World}(x:Str):∀(l:List DictEntry)(kvs:List (Key×Value)),Pairs (AV prog w) l kvs->
 (match l.find? (·.key.isStr x) with|some e=>some (some e.val)|none=>if l.any (·.refKey) then none else some none)=some (valueAt kvs (Key.s x))
 |[],_,.nil=>rfl
 |e::l,kv::kvs,.cons hk hv r=>by
  have ih:=Hg x l kvs r
  obtain⟨k,v⟩:=kv
  rw[List.find?_cons]
  rcases Key.is_shape hk with ⟨z,t,hz,hq⟩|⟨y,t,hz,hq⟩
  ·have hz':k= .i z:=hz
   subst hz'
   have e1:e.key.isStr x=false:=by rw[hq];rfl
   have e2:e.refKey=false:=by unfold DictEntry.refKey;rw[hq]
   rw[e1]
   simp only[any_cons,e2,Bool.false_or]
   rw[ih]
   unfold valueAt
   simp
  ·have hz':k= .s y:=hz
   subst hz'
   have e2:e.refKey=false:=by unfold DictEntry.refKey;rw[hq]
   by_cases hy:y=x
   ·subst hy
    have e1:e.key.isStr y=true:=by rw[hq];simp[Value.isStr]
    rw[e1]
    unfold valueAt
    simp;exact hv
   ·have e1:e.key.isStr x=false:=by rw[hq];simp[Value.isStr,hy]
    rw[e1]
    simp only[any_cons,e2,Bool.false_or]
    rw[ih]
    unfold valueAt
    simp[hy]
theorem J1{prog:Program}{w:World}{o:Obj}{kvs:List (Key×Value)}(h:o.IsDictOf (AV prog w) kvs)(x:Str):lookIn x o=some (valueAt kvs (Key.s x)):=by
 obtain⟨es,ep,_,hd,_,pr,_⟩:=h
 unfold lookIn
 rw[hd]
 exact Hg x _ _ pr
theorem IU:∀{d:D}{v:Value},Rep c Z d v->handedIn v=true
 | .none,v,r=>by rw[Rep] at r;subst r;rfl
 | .bool b,v,r=>by rw[Rep] at r;subst r;rfl
 | .int i,v,r=>by rw[Rep] at r;obtain⟨t,rfl⟩:=r;rfl
 | .str x,v,r=>by rw[Rep] at r;obtain⟨t,rfl⟩:=r;rfl
 | .tup xs,v,r=>by rw[Rep] at r;obtain⟨a,vs,rfl,_⟩:=r;rfl
 | .list xs,v,r=>by rw[Rep] at r;obtain⟨a,vs,rfl,_⟩:=r;rfl
 | .dict es,v,r=>by rw[Rep] at r;obtain⟨a,vs,rfl,_⟩:=r;rfl
 | .dictT es,v,r=>by rw[Rep] at r;obtain⟨a,vs,rfl,_⟩:=r;rfl
 | .range lo hi,v,r=>by rw[Rep] at r;obtain⟨a,rfl,_⟩:=r;rfl
 | .univ ns nums,v,r=>by rw[Rep] at r;obtain⟨a,_,_,_,rfl,_⟩:=r;rfl
 | .bnds u bs nums,v,r=>by rw[Rep] at r;obtain⟨a,_,_,_,_,rfl,_⟩:=r;rfl
 | .feed,v,r=>by rw[Rep] at r;subst r;rfl
theorem FL(h:At L Z s){a C da:Addr}{kvs:List (Key×Value)}(i:InsAt Z a C da)(d:DctAt c Z da kvs):∃od,InstAt s.heap a {cls:= .ref C,dict:=some da,data:= .plain} C (some od)/\od.IsDictOf (AV c.prog c.w) kvs:=by
 obtain⟨_,o,ho,hd⟩:=d
 exact⟨o,⟨h.held _ _ i,rfl,rfl,h.held _ _ ho⟩,hd⟩
theorem EF(X:K.In s.heap){C:Addr}(ck:ClsK K C){a:Addr}{ox od:Obj}{kvs:List (Key×Value)}(I:InstAt s.heap a ox C (some od))(hd:od.IsDictOf (AV c.prog c.w) kvs){name:Str}{v:Value}(hv:valueAt kvs (Key.s name)=some v)(hh:handedIn v=true)
 (hn:findIn K (.ref C) name=some none) {b:Bool} {Q:Value->Shared->Prop} (k:Q v {s with toks:=s.toks+1}):wpAny (model c.prog c.w) A (getAttr (.ref a) name b) Q E s:=
 get_value X I (plainGet_of (ck.get name)).1 (findObj_own ck.dict hn rfl (by rw[J1 hd,hv])) hh k
theorem GX(X:K.In s.heap){C:Addr}(ck:ClsK K C){a f:Addr}{ox od:Obj}{kvs:List (Key×Value)}(I:InstAt s.heap a ox C (some od))(hd:od.IsDictOf (AV c.prog c.w) kvs){name:Str}(hv:valueAt kvs (Key.s name)=none)
 (hn:findIn K (.ref C) name=some (some (.ref f))) (hf:isFn K (.ref f)=true) {pl:Sem Bool} {Q:Value×List Value->Shared->Prop} (k:Q (.ref f,[.ref a]) s):wpAny (model c.prog c.w) A (getMethod (.ref a) name pl) Q E s:=
 method_fn X I (plainGet_of (ck.get name)).1 (plainGet_of (ck.get name)).2 hn (beq_iff_eq.mp hf) (by unfold shadowIn;simp only[J1 hd,hv];rfl) k
theorem GC{v1 v2:Value}{x:Str}:valueAt [(Key.s (Str.ofString "names"),v1),(Key.s (Str.ofString "numbers"),v2)] (Key.s x)=if Str.ofString "names" =x then some v1 else if Str.ofString "numbers" =x then some v2 else none:=by
 unfold valueAt
 by_cases h1:Str.ofString "names" =x
 ·simp[h1]
 ·by_cases h2:Str.ofString "numbers" =x<;>simp[h1,h2]
theorem Cn{v1 v2 v3:Value}{x:Str}:valueAt [(Key.s (Str.ofString "universe"),v1),(Key.s (Str.ofString "bounds"),v2),(Key.s (Str.ofString "numbers"),v3)] (Key.s x)=
 if Str.ofString "universe" =x then some v1 else if Str.ofString "bounds" =x then some v2 else if Str.ofString "numbers" =x then some v3 else none:=by
 unfold valueAt
 by_cases h1:Str.ofString "universe" =x
 ·simp[h1]
 ·by_cases h2:Str.ofString "bounds" =x
  ·simp[h1,h2]
  ·by_cases h3:Str.ofString "numbers" =x<;>simp[h1,h2,h3]
theorem Ru(T:TopOk c K)(h:At L Z s)(h0:∀a o,c.h₀.get? a=some o->s.heap.get? a=some o){o d:D}{a:Str}{v:Value}{b:Bool}(r:Rep c Z o v)(e:MU o a=some d):BI c A L Z s (getAttr v a b) d:=λQ E k=>by
 have X:K.In s.heap:=T.X.keeps h0
 unfold MU at e
 split at e
 ·split at e
  ·rename_i ha
   subst ha
   cases e
   rw[Rep] at r
   obtain⟨p,da,v1,v2,rfl,i,dd,⟨q,vs,rfl,t1,r1⟩,_⟩:=r
   obtain⟨od,I,hd⟩:=FL h i dd
   exact EF X T.ucls I hd (by rw[GC,if_pos rfl]) rfl T.unames (k _ Z _ (A8 h _) (CJ t1 r1))
  ·cases e
 ·rename_i u bs ns
  rw[Rep] at r
  obtain⟨p,da,v1,v2,v3,rfl,i,dd,r0,⟨q,vs,rfl,t1,r1⟩,⟨q',kvs,rfl,t2,r2⟩⟩:=r
  obtain⟨od,I,hd⟩:=FL h i dd
  split at e
  ·rename_i ha
   subst ha
   cases e
   exact EF X T.bcls I hd (by rw[Cn,if_pos rfl]) (IU r0) T.buni (k _ Z _ (A8 h _) r0)
  ·split at e
   ·rename_i ha
    subst ha
    cases e
    exact EF X T.bcls I hd (by rw[Cn,if_neg (by decide),if_pos rfl]) rfl T.bbounds (k _ Z _ (A8 h _) (CD t1 r1))
   ·split at e
    ·rename_i ha
     subst ha
     cases e
     exact EF X T.bcls I hd (by rw[Cn,if_neg (by decide),if_neg (by decide),if_pos rfl]) rfl T.bnumbers (k _ Z _ (A8 h _) (by rw[Rep];exact⟨_,kvs,rfl,t2,r2⟩))
    ·cases e
 ·cases e
end
section
variable {prog:Program}{w:World}{A:Around}{E:Value->Shared->Prop}{s:Shared}{Z:FM}
theorem Pc{R:Result->Shared->Prop}(hh:A.handled=none)(hu:A.units+1<cLine){I l S:Addr}{items:Array Value}{rs:List (List Int)}{led:Bool}(hx:RowsV Z rs items.toList)(hr:∀r∈rs,r∈allRows)
 (hlI:l≠I) (hSI:S≠I) (hSl:S≠l) (zI:Z I=none) (zS:Z S=none):
 ∀(k i:Nat) (s:Shared),rs.length -i=k->i<=rs.length->(∀a o,Z a=some o->s.heap.get? a=some o)->s.heap.IsTupleIter I l i->s.heap.IsTuple l items->SetAt Z led s.heap S (rs.take i)->
  (∀h' tk,(∀b o,b≠S->b≠I->s.heap.get? b=some o->h'.get? b=some o)->SetAt Z led h' S rs->R (.ok (.ret .none)) {s with heap:=h',toks:=tk})->
  codeAny (model prog w) A (.builtin "set.update.loop" ⟨[.ref S,.ref I],[]⟩) R s:=by
 have hl:items.size=rs.length:=by have:=RowsV.length _ _ hx;simpa using this
 have W:=Walks.tuple (prog:=prog) (w:=w) (A:=A.in1) hh I l hlI items
 intro k
 induction k with
 |zero=>
  intro i s hk hi held it li X hR
  have hin:i=items.size:=by omega
  refine codeAny_builtin F.entry_set_update_loop ?_
  rw[Around.under_plainId F.plain_set_update_loop _]
  show wpAny _ A.in1 (pyNext (.ref I)>>=_) _ _ s
  refine wpAny_bind (W.done s _ _ ⟨hin▸it,li⟩ λh' tk kp=> ?_)
  show wpAny _ A.in1 (ret Value.none) _ _ _
  refine wpAny_pure (hR h' tk (λb o n1 n2 e=>kp b o (by simp[n2]) e) ?_)
  have:rs.take i=rs:=List.take_of_length_le (by omega)
  rw[this] at X
  exact X.keep λo e=>kp S o (by simp[hSI]) e
 |succ k ih=>
  intro i s hk hi held it li X hR
  have hlt:i<rs.length:=by omega
  refine codeAny_builtin F.entry_set_update_loop ?_
  rw[Around.under_plainId F.plain_set_update_loop _]
  show wpAny _ A.in1 (pyNext (.ref I)>>=_) _ _ s
  refine wpAny_bind (W.item i s _ _ (by omega) ⟨it,li⟩ λv h' tk hP st kp=> ?_)
  obtain⟨a,e1,ka⟩:=RowsV.get _ _ hx i hlt
  have ev:v= .ref a:=by
   rw[<-e1,List.getD_eq_getElem?_getD,Array.getElem?_toList,hP];rfl
  subst ev
  have held1:∀a o,Z a=some o->h'.get? a=some o:=λa o e=>kp a o (by simp;rintro rfl;rw[zI] at e;cases e) (held a o e)
  have hrow:rs.getD i []∈rs:=by rw[List.getD_eq_getElem?_getD,getElem?_eq_getElem hlt];exact List.getElem_mem hlt
  show wpAny _ A.in1 (holding [Value.ref a] (setAdd S (.ref a))>>=_) _ _ _
  refine wpAny_bind (wpAny_holding ?_)
  refine Jm (s:={s with heap:=h',toks:=tk}) (by exact hu) held1 (X.keep λo e=>kp S o (by simp[hSI]) e) ka (hr _ hrow) λb h'' tk' sb X'=> ?_
  refine wpAny_pure ⟨plainId_quiet F.plain_set_update_loop _,ih (i+1) _ (by omega) hlt (λa o e=> ?_) (st.1.at λo e=> ?_) (st.2.at λo e=> ?_) ?_ λh3 tk3 k3 X3=> ?_⟩
  ·exact sb.extBut a o (by rintro rfl;rw[zS] at e;cases e) (held1 a o e)
  ·exact sb.extBut I o (Ne.symm hSI) e
  ·exact sb.extBut l o (Ne.symm hSl) e
  ·have:rs.take (i+1)=rs.take i++[rs.getD i []]:=by rw[List.take_add_one,getElem?_eq_getElem hlt,List.getD_eq_getElem?_getD,getElem?_eq_getElem hlt];rfl
   rw[this];exact X'
  ·exact hR h3 tk3 (λb o n1 n2 e=>k3 b o n1 n2 (sb.extBut b o n1 (kp b o (by simp[n2]) e))) X3
set_option maxHeartbeats 3200000 in
theorem QP{l:Addr}{items:Array Value}{rs:List (List Int)}{Q:Value->Shared->Prop}(hh:A.handled=none)(hu:A.units+10<cLine)(held:∀a o,Z a=some o->s.heap.get? a=some o)
 (hl:s.heap.IsTuple l items) (hx:RowsV Z rs items.toList) (hr:∀r∈rs,r∈allRows)
 (h:∀(h':Heap) (tk:Nat),SetAt Z (!Bh w) h' s.heap.objs.size rs->(∀b o,s.heap.get? b=some o->h'.get? b=some o)->Q (.ref s.heap.objs.size) {s with heap:=h',toks:=tk}):
 wpAny (model prog w) A (call (.type "set") [.ref l]) Q E s:=by
 obtain⟨c,tl,hmro⟩:=F.called_set.mro
 have hmade:=F.called_set.made
 have hsub:=F.called_set.sub
 refine wpAny_call (codeAny_of_tree ?_)
 show wpAny _ _ (callAny (.type "set") _) _ _ _
 refine wpAny_pure ⟨Code.quiet_builtin _ (by decide+kernel),codeAny_builtin F.entry_type_call ?_⟩
 rw[Around.under_plain (weight_type_call_type "set" [.ref l] []) rfl]
 have h1:=F.called_set.notType
 have h2:=F.called_set.canCreate
 have hct:=PySem.F.typeCall_set_1 (.ref l)
 repeat(any_goals (first|assumption|wp_step))
 refine codeAny_mono (Pb (.ref l) (E:=E) (Q₁:=λobj s₁=>obj= .ref s.heap.objs.size/\s₁={s with heap:=s.heap.push {cls:= .type "set",dict:=none,data:= .set #[] 0 (.fresh 0 0 (!Bh w))}}) ⟨rfl,rfl⟩) λr s₁ hr'=> ?_
 cases r with
 |error e=>exact hr'
 |ok fl=>
  cases fl with
  |ret obj=>
   obtain⟨rfl,rfl⟩:=hr'
   generalize hso:({cls:= .type "set",dict:=none,data:= .set #[] 0 (.fresh 0 0 (!Bh w))}:Obj)=so at*
   have hfr:so.isFreed=false:=by rw[<-hso];rfl
   have hS:(s.heap.push so).get? s.heap.objs.size=some so:=Heap.get?_push_size _ hfr
   have hT:Shared.TypeIs {s with heap:=s.heap.push so} (.ref s.heap.objs.size) "set" :=⟨_,hS,by rw[<-hso]⟩
   have hli:=F.called_set.init.lookup
   have hbi:=F.called_set.init.bind (.ref s.heap.objs.size)
   repeat(any_goals (first|assumption|wp_step))
   refine codeAny_mono (codeAny_call_builtin (R:=wants (λr s₂=>r= .none/\∃h' tk,s₂={s with heap:=h',toks:=tk}/\
    SetAt Z (!Bh w) h' s.heap.objs.size rs/\(∀b o,s.heap.get? b=some o->h'.get? b=some o)) E) F.called_set.init.plain F.entry_set_init (PySem.check_set_init_1 hT ?_)) λr₂ s₂ hr₂=> ?_
   ·obtain⟨ol,hol,hcl,nl,hdl⟩:=hl
    obtain⟨ocls,odict,odata,oslots⟩:=ol
    simp only at hcl hdl
    subst hcl;subst hdl
    have hol':(s.heap.push so).get? l=some {cls:= .type "tuple",dict:=odict,data:= .seq items nl,slots:=oslots}:=Heap.get?_push_of_some _ hol
    have hsls:=PySem.F.sub_tuple_set
    have hslf:=PySem.F.sub_tuple_frozenset
    have hne:(Value.type "tuple" ==Value.type "dict")=false:=by decide
    have hl1:(s.heap.push so).IsTuple l items:=⟨_,hol',rfl,nl,rfl⟩
    unfold Builtin.«set.__init__» noKeywords Builtin.Frozenset.updateFrom
    generalize hPI:pyIter=PI
    subst hso
    wp_walk
    subst hPI
    refine wpAny_pyIter_tuple hl1 ?_
    refine wpAny_bind (wpAny_runValue ?_)
    have hlS:l<s.heap.objs.size:=Heap.lt_size hol
    have hh3:A.in1.in1.in1.handled=none:=by simp[hh]
    have zn:∀b,s.heap.objs.size<=b->Z b=none:=λb hb=>by
     cases q:Z b with
     |none=>rfl
     |some o=>exact absurd (Heap.lt_size (held _ _ q)) (Nat.not_lt.mpr hb)
    refine Pc (A:=A.in1.in1) (rs:=rs) hh3 (by show A.units+1+1+1<cLine;omega) hx hr (I:=(s.heap.push _).objs.size) (l:=l) (S:=s.heap.objs.size) ?_ ?_ ?_ ?_ ?_ rs.length 0 _ rfl (zero_le _) ?_ ⟨_,Heap.get?_push_size _ rfl,rfl,rfl⟩ (Heap.IsTuple.at hl1 λo e=>Heap.get?_push_of_some _ e)
     (SetAt.fresh (Heap.get?_push_of_some _ hS)) ?_
    ·rw[Heap.size_push];exact Nat.ne_of_lt (Nat.lt_succ_of_lt hlS)
    ·rw[Heap.size_push];exact Nat.ne_of_lt (Nat.lt_succ_self _)
    ·exact Nat.ne_of_gt hlS
    ·exact zn _ (by rw[Heap.size_push];exact le_succ _)
    ·exact zn _ (Nat.le_refl _)
    ·exact λa o e=>Heap.get?_push_of_some _ (Heap.get?_push_of_some _ (held a o e))
    ·intro h' tk kp X
     show wpAny _ _ _ _ _ _
     refine wpAny_pure ?_
     show wpAny _ _ (ret Value.none) _ _ _
     refine wpAny_pure ⟨rfl,h',tk,rfl,X,λb o e=> ?_⟩
     have hb:=Heap.lt_size e
     exact kp b o (Nat.ne_of_lt hb) (by rw[Heap.size_push];exact Nat.ne_of_lt (Nat.lt_succ_of_lt hb)) (Heap.get?_push_of_some _ (Heap.get?_push_of_some _ e))
   ·cases r₂ with
    |error e=>exact hr₂
    |ok fl₂=>
     cases fl₂ with
     |ret r=>
      obtain⟨rfl,h',tk,rfl,hS',hk'⟩:=hr₂
      repeat(any_goals (first|assumption|wp_step))
      exact h _ _ hS' hk'
     |_=>exact hr₂.elim
  |_=>exact hr'.elim
end
def EOk(c:Cx)(n:Nat)(t:Env->Sem Value)(ρ:Ev)(σ:St)(d:D)(ρ':Ev)(σ':St):Prop:=∀(A:Around)(env:Env)(Z P:FM)(μ:Str->Option Value)(s:Shared),Room n A->Rel c env ρ σ Z P μ s->
 ∀(Q:Value->Shared->Prop) (E:Value->Shared->Prop),(∀v Z' s',Z.le Z'->Rel c env ρ' σ' Z' P μ s'->Rep c Z' d v->Q v s')->wpAny (model c.prog c.w) A (t env) Q E s
def TJ(c:Cx)(n:Nat)(t:Env->Sem Bool)(ρ:Ev)(σ:St)(b:Bool)(ρ':Ev)(σ':St):Prop:=∀(A:Around)(env:Env)(Z P:FM)(μ:Str->Option Value)(s:Shared),Room n A->Rel c env ρ σ Z P μ s->
 ∀(Q:Bool->Shared->Prop) (E:Value->Shared->Prop),(∀Z' s',Z.le Z'->Rel c env ρ' σ' Z' P μ s'->Q b s')->wpAny (model c.prog c.w) A (t env) Q E s
def U7(c:Cx)(n:Nat)(t:Env->Sem (List Value))(ρ:Ev)(σ:St)(ds:List D)(ρ':Ev)(σ':St):Prop:=∀(A:Around)(env:Env)(Z P:FM)(μ:Str->Option Value)(s:Shared),Room n A->Rel c env ρ σ Z P μ s->
 ∀(Q:List Value->Shared->Prop) (E:Value->Shared->Prop),(∀vs Z' s',Z.le Z'->Rel c env ρ' σ' Z' P μ s'->RepL c Z' ds vs->Q vs s')->wpAny (model c.prog c.w) A (t env) Q E s
def U1(c:Cx)(n:Nat)(t:Env->Sem (List Value))(ρ:Ev)(σ:St)(ds:List D)(bo:Bool)(ρ':Ev)(σ':St):Prop:=∀(A:Around)(env:Env)(Z P:FM)(μ:Str->Option Value)(s:Shared),Room n A->Rel c env ρ σ Z P μ s->
 ∀(Q:List Value->Shared->Prop) (E:Value->Shared->Prop),(∀vs Z' s',Z.le Z'->Rel c env ρ' σ' Z' P μ s'->
  (if bo then ∃a o,s'.heap.get? a=some o/\Z' a=none/\a≠c.fa/\o.cls= .type "dict"/\RepL c (Z'.adds s'.heap [a]) ds vs else RepL c Z' ds vs)->Q vs s')->wpAny (model c.prog c.w) A (t env) Q E s
def U5(c:Cx)(n:Nat)(t:Env->Sem (List (Value×Value)))(ρ:Ev)(σ:St)(es:List (Key×D))(ρ':Ev)(σ':St):Prop:=∀(A:Around)(env:Env)(Z P:FM)(μ:Str->Option Value)(s:Shared),Room n A->Rel c env ρ σ Z P μ s->
 ∀(Q:List (Value×Value)->Shared->Prop) (E:Value->Shared->Prop),(∀vs kvs Z' s',Z.le Z'->Rel c env ρ' σ' Z' P μ s'->Carries (AV c.prog c.w) vs kvs->RepE c Z' es kvs->Q vs s')->wpAny (model c.prog c.w) A (t env) Q E s
def U0(c:Cx)(n:Nat)(t:Env->Sem Value)(ρ:Ev)(σ:St)(V:V)(ρ':Ev)(σ':St):Prop:=∀(A:Around)(env:Env)(Z P:FM)(s:Shared),Room n A->Rel c env ρ σ Z P (λ_=>none) s->
 ∀(Q:Value->Shared->Prop) (E:Value->Shared->Prop),(∀v as Z' s',Z.le Z'->Rel c env ρ' σ' Z' (P.adds s'.heap as) (λ_=>none) s'->(∀a∈as,P a=none)->BK env as->Own c Z' s'.heap V v as->Q v s')->wpAny (model c.prog c.w) A (t env) Q E s
def Qk(c:Cx)(n:Nat)(t:Env->Sem Flow)(ρ:Ev)(σ:St)(f:Fl)(ρ':Ev)(σ':St):Prop:=∀(A:Around)(env:Env)(Z P:FM)(s:Shared),Room n A->Rel c env ρ σ Z P (λ_=>none) s->
 ∀(Q:Flow->Shared->Prop) (E:Value->Shared->Prop),(∀fl Z' s',Z.le Z'->Rel c env ρ' σ' Z' P (λ_=>none) s'->OB c Z' f fl->Q fl s')->wpAny (model c.prog c.w) A (t env) Q E s
def U8(c:Cx)(n:Nat)(f:Str)(ds:List D)(σ:St)(d:D)(σ':St):Prop:=∀(A:Around)(Z:FM)(s:Shared)(a:Addr)(fi:FnInfo)(vs:List Value),Room n A->Gr c σ Z s->fnTab.lookup f=some fi->FnOk c a fi->RepL c Z ds vs->
 ∀(Q:Value->Shared->Prop) (E:Value->Shared->Prop),(∀v Z' s',Went c Z s σ' Z' s'->Rep c Z' d v->Q v s')->wpAny (model c.prog c.w) A (call (.ref a) vs) Q E s
def BP(es:List Expr)(env:Env):Prop:=(starEach es env).all (!·.1)=true
def T3(c:Cx)(n:Nat)(e:Expr)(ρ:Ev)(σ:St)(d:D)(ρ':Ev)(σ':St):Prop:=∀(A:Around)(env:Env)(Z P:FM)(μ:Str->Option Value)(s:Shared),Room n A->Rel c env ρ σ Z P μ s->
 ∀(u:Value->Sem Unit) (Q:Unit->Shared->Prop) (E:Value->Shared->Prop),(∀C acc Z' s',Z.le Z'->Rel c env ρ' σ' Z' (P.adds s'.heap [C]) μ s'->P C=none->BK env [C]->Rep c Z' d acc->(∃m,s'.heap.Ns C m)->
  wpAny (model c.prog c.w) A (u acc) (λ_ s''=>∃m,s''.heap.Ns C m/\∀h',Heap.SameBut C s''.heap h'->Q () {s'' with heap:=h'}) E s')->wpAny (model c.prog c.w) A (evalThenUse e env u) Q E s
def Fy:Expr->Bool
 | .ListComp .. =>true
 |_=>false
def OwnL(c:Cx)(Z:FM)(h:Heap):List V->List Value->List (List Addr)->Prop
 |[],vs,ass=>vs=[]/\ass=[]
 |V::Vs,vs,ass=>∃v r as rs,vs=v::r/\ass=as::rs/\Own c Z h V v as/\(∀a∈as,a∉rs.flatten)/\OwnL c Z h Vs r rs
def T8(c:Cx)(n:Nat)(t:Env->Sem (List Value))(ρ:Ev)(σ:St)(Vs:List V)(ρ':Ev)(σ':St):Prop:=∀(A:Around)(env:Env)(Z P:FM)(s:Shared),Room n A->Rel c env ρ σ Z P (λ_=>none) s->
 ∀(Q:List Value->Shared->Prop) (E:Value->Shared->Prop),(∀vs ass Z' s',Z.le Z'->Rel c env ρ' σ' Z' (P.adds s'.heap ass.flatten) (λ_=>none) s'->(∀a∈ass.flatten,P a=none)->BK env ass.flatten->OwnL c Z' s'.heap Vs vs ass->Q vs s')->wpAny (model c.prog c.w) A (t env) Q E s
def U6(c:Cx)(n:Nat)(x m:Str)(V:V)(as:List D)(ρ:Ev)(σ:St)(f:Fl)(ρ':Ev)(σ':St):Prop:=f= .next/\∀(A:Around)(env:Env)(Z₀ P:FM)(μ:Str->Option Value)(ρ₀:Ev)(σ₀:St)(s₀:Shared)(v₀:Value)(V₀:Nz.V),Room n A->B1 V₀ V=true->Rel c env ρ₀ σ₀ Z₀ P μ s₀->(∃a,Own c Z₀ s₀.heap V₀ v₀ a)->
 ∀pl (Q:Value×List Value->Shared->Prop) (E:Value->Shared->Prop),
  (∀fv,(∃Pk:Heap->Prop,(∀h,Pk h->∃k,(k=Keeper.frame\/k=Keeper.machine\/k=Keeper.boundFrame)/\Looks (model c.prog c.w) h (keeperOf fv) k)/\∀(Z:FM) (s:Shared) (vs:List Value),Rel c env ρ σ Z P (λy=>if y=x then some v₀ else none) s->Rel c env ρ σ Z P (λ_=>none) s->ρ.get x=some V->RepL c Z as vs->Pk s.heap/\
    ∀(Q':Value->Shared->Prop) (E':Value->Shared->Prop),(∀v Z' s',Z.le Z'->Rel c env ρ' σ' Z' P (λ_=>none) s'->(∀a,v≠ .ref a)->Q' v s')->wpAny (model c.prog c.w) A (call fv ([v₀]++vs)) Q' E' s)->Q (fv,[v₀]) s₀)->
  wpAny (model c.prog c.w) A (getMethod v₀ m pl) Q E s₀
def U4(c:Cx)(n:Nat)(t:Expr)(b:List Stmt)(ρ:Ev)(σ:St)(f:Fl)(ρ':Ev)(σ':St):Prop:=∀(A:Around)(env:Env)(Z P:FM)(s:Shared),Room n A->Rel c env ρ σ Z P (λ_=>none) s->
 ∀(R':Result->Shared->Prop),(∀fl Z' s',Z.le Z'->Rel c env ρ' σ' Z' P (λ_=>none) s'->OB c Z' f fl->R' (.ok fl) s')->codeAny (model c.prog c.w) A (.whileLoop t b [] env) R' s
def UB(c:Cx)(n:Nat)(m:Str)(u:D)(bs:List D)(ns:List (Key×D))(as:List D)(σ:St)(w:V)(σ':St):Prop:=m=Str.ofString "add"/\∀(A:Around)(env:Env)(ρ:Ev)(Z P:FM)(μ:Str->Option Value)(s:Shared)(v₀:Value)(own:List Addr)(vs:List Value)(a:Addr)(fi:FnInfo),
 Room n A->Rel c env ρ σ Z (P.adds s.heap own) μ s->(∀b∈own,P b=none)->BK env own->Own c Z s.heap (.ownB u bs ns) v₀ own->RepL c Z as vs->fnTab.lookup (Str.ofString "Bounds.add")=some fi->FnOk c a fi->
 ∀(Q:Value->Shared->Prop) (E:Value->Shared->Prop),(∀i t Z' s',Z.le Z'->Rel c env ρ σ' Z' (P.adds s'.heap own) μ s'->Own c Z' s'.heap w v₀ own->Q (.int i t) s')->wpAny (model c.prog c.w) A (call (.ref a) (v₀::vs)) Q E s
def T7(c:Cx)(n:Nat)(ss:List Stmt)(ρ:Ev)(σ:St)(ρ':Ev)(σ':St):Prop:=∀(A:Around)(env:Env)(Z P:FM)(μ:Str->Option Value)(s:Shared)(more:List Stmt),Room n A->Rel c env ρ σ Z P μ s->
 ∀(Q:Flow->Shared->Prop) (E:Value->Shared->Prop),(∀Z' s',Z.le Z'->Rel c env ρ' σ' Z' P μ s'->wpAny (model c.prog c.w) A (execs more env) Q E s')->wpAny (model c.prog c.w) A (execs (ss++more) env) Q E s
structure Snd (c:Cx)(n:Nat):Prop where
 E:∀{e ρ σ d ρ' σ'},Aq n e ρ σ=some (d,ρ',σ')->EOk c n (eval e) ρ σ d ρ' σ'
 L:∀{es ρ σ ds ρ' σ'},Hn n es ρ σ=some (ds,ρ',σ')->(∀env,BP es env)/\∀pos,U7 c n (λenv=>spliced (backTo pos (starEach es env))) ρ σ ds ρ' σ'
 A:∀{es ρ σ ds bo ρ' σ'},Ku n es ρ σ=some (ds,bo,ρ',σ')->(∀env,BP es env)/\∀pos,U1 c n (λenv=>spliced (backTo pos (starEach es env))) ρ σ ds bo ρ' σ'
 P:∀{ks vs ρ σ es ρ' σ'},N1 n ks vs ρ σ=some (es,ρ',σ')->∃ks':List Expr,ks=ks'.map some/\ks'.length=vs.length/\∀pos,U5 c n (λenv=>evalPairs ((evalEach ks' env).zip ((evalEach vs env).map λv=>do let x<-v;standAt pos;pure x))) ρ σ es ρ' σ'
 O:∀{e ρ σ d ρ' σ'},Kt n e ρ σ=some (d,ρ',σ')->EOk c n (λenv=>evalPart e env) ρ σ d ρ' σ'
 T:∀{e ρ σ b ρ' σ'},Ed n e ρ σ=some (b,ρ',σ')->TJ c n (λenv=>isTrue e env (eval e env)) ρ σ b ρ' σ'
 B:∀{op es ρ σ b ρ' σ'},MH n op es ρ σ=some (b,ρ',σ')->TJ c n (allTrue op es) ρ σ b ρ' σ'
 Ts:∀{es ρ σ b ρ' σ'},Hy n es ρ σ=some (b,ρ',σ')->TJ c n (λenv=>forIn es true λc r=>if r=true then do let ok<-isTrue c env (eval c env);pure (ForInStep.yield ok) else pure (ForInStep.yield r)) ρ σ b ρ' σ'
 It:TC c n
 G:UC c n
 C:∀{f args ρ σ d ρ' σ' p pos},C1 n f args ρ σ=some (d,ρ',σ')->Ao ρ f=true->EOk c n (eval (.Call (.Name f p) args [] pos)) ρ σ d ρ' σ'
 F:∀{e ρ σ v ρ' σ'},GA n e ρ σ=some (v,ρ',σ')->U0 c n (eval e) ρ σ v ρ' σ'
 U:∀{e ρ σ d ρ' σ'},Aq n e ρ σ=some (d,ρ',σ')->Fy e=true->T3 c n e ρ σ d ρ' σ'
 UF:∀{e ρ σ v ρ' σ'},GA n e ρ σ=some (v,ρ',σ')->Fy e=true->∃d,v= .d d/\T3 c n e ρ σ d ρ' σ'
 Fs:∀{es ρ σ vs ρ' σ'},HK n es ρ σ=some (vs,ρ',σ')->(∀env,BP es env)/\∀pos,T8 c n (λenv=>spliced (backTo pos (starEach es env))) ρ σ vs ρ' σ'
 M:∀{x m V as ρ σ f ρ' σ'},QJ n x m V as ρ σ=some (f,ρ',σ')->U6 c n x m V as ρ σ f ρ' σ'
 Ad:∀{m u bs ns as σ w σ'},Gb n m u bs ns as σ=some (w,σ')->UB c n m u bs ns as σ w σ'
 Gd:∀{ss ρ σ ρ' σ'},FR n ss ρ σ=some (ρ',σ')->T7 c n ss ρ σ ρ' σ'
 W:∀{t b ρ σ f ρ' σ'},Gm n t b ρ σ=some (f,ρ',σ')->U4 c n t b ρ σ f ρ' σ'
 S:∀{x ρ σ f ρ' σ'},EI n x ρ σ=some (f,ρ',σ')->Qk c n (exec x) ρ σ f ρ' σ'
 Ss:∀{xs ρ σ f ρ' σ'},Br n xs ρ σ=some (f,ρ',σ')->Qk c n (execs xs) ρ σ f ρ' σ'
 Fn:∀{f ds σ d σ'},AQ n f ds σ=some (d,σ')->U8 c n f ds σ d σ'
section
variable {c:Cx}{K:Frag}{env:Env}{ρ ρ' ρ₁ ρ₂ ρ₃:Ev}{σ σ' σ₁ σ₂ σ₃:St}{Z Z' P:FM}{μ:Str->Option Value}{s s':Shared}{A:Around}{E:Value->Shared->Prop}{L:Addr}{n:Nat}{d:D}
theorem Rel.prim(R:Rel c env ρ σ Z P μ s){t:Sem Value}{d:D}(p:BI c A env.locals Z s t d){Q:Value->Shared->Prop}(k:∀v Z' s',Z.le Z'->Rel c env ρ σ Z' P μ s'->Rep c Z' d v->Q v s'):wpAny (model c.prog c.w) A t Q E s:=
 p Q E λv Z' s' X r=>k v Z' s' X.le (R.ext X) r
theorem RI{x:Str}{pos:Pos}(hg:Ao ρ x=false)(hb:BE x=false){W:V}(hx:ρ.get x=some W)(he:(match W with| .d d=>some (d,ρ,σ)|v=>(ρ.set x (.d v.frz)).bind λr=>some (v.frz,r,σ))=some (d,ρ',σ')):EOk c n (eval (.Name x pos)) ρ σ d ρ' σ':=by
 intro A env Z P μ s rm R Q E k
 obtain⟨v,as,ho,hμ,_,R1⟩:=R.know hx
 refine BM R1 (x:=x) (v:=v) (by simp) hb ?_
 have own:∀{d₀:D},W≠ .d d₀->∀{r},ρ.set x (.d W.frz)=some r->∃Z' v,Z.le Z'/\Rep c Z' W.frz v/\Rel c env r σ Z' P (λy=>if y=x then some v else μ y) s:=λ_ r hr=>by
  refine Iv R hx (λy=>Ev.kind_set hr y) (λy=>Ev.get_set hr y) ?_
  unfold Ev.set
  rw[Ev.kind_drop]
  rcases Ev.set_of hr with h|h<;>rw[h]<;>exact⟨_,rfl⟩
 have fin:∀{d₀:D},W≠ .d d₀->(ρ.set x (.d W.frz)).bind (λr=>some (W.frz,r,σ))=some (d,ρ',σ')->Q v s:=λhw he=>by
  rw[bind_eq_some_iff] at he
  obtain⟨r,hr,he⟩:=he
  cases he
  obtain⟨Z',v',le,rp,R2⟩:=own hw hr
  have e:v=v':=by
   obtain⟨m1,o1,vs1⟩:=R1.vars
   obtain⟨m2,o2,vs2⟩:=R2.vars
   have a1:=vs1.mu x v (by simp)
   have a2:=vs2.mu x v' (by simp)
   rw[Ev.kind_set hr] at a2
   have em:m1 x=m2 x:=by
    obtain⟨p1,es1,ep1,b1,c1,_,d1⟩:=vs1.ns
    obtain⟨p2,es2,ep2,b2,c2,_,d2⟩:=vs2.ns
    rw[b1] at b2;cases b2
    rw[c1] at c2;cases c2
    exact(d1 x).symm.trans (d2 x)
   unfold HoldsVar at a1 a2
   split at a1
   ·rename_i hk;simp only[hk] at a2;rw[em,a2] at a1;cases a1;rfl
   ·rename_i hk;simp only[hk] at a2
    obtain⟨b,h1,o,h2,h3⟩:=a1
    obtain⟨b',g1,o',g2,g3⟩:=a2
    rw[h1] at g1;cases g1;rw[h2] at g2;cases g2;rw[h3] at g3;cases g3;rfl
   ·rename_i hk;simp only[hk] at a2
    obtain⟨b,o,h1,h2,h3⟩:=a1
    obtain⟨b',o',g1,g2,g3⟩:=a2
    rw[h1] at g1;cases g1;rw[h2] at g2;cases g2;rw[h3] at g3;cases g3;rfl
   ·exact a1.elim
  subst e
  refine k v Z' s le (R2.mu λy u hu=> ?_) rp
  by_cases hy:y=x
  ·subst hy;rw[if_pos rfl,hμ u hu]
  ·rw[if_neg hy];exact hu
 cases W with
 |d d₀=>cases he;exact k v Z s (FM.le_refl _) R ho.2
 |ownL xs=>exact fin (d₀:= .none) (by simp) he
 |ownD xs=>exact fin (d₀:= .none) (by simp) he
 |ownDL xs=>exact fin (d₀:= .none) (by simp) he
 |ownB u b m=>exact fin (d₀:= .none) (by simp) he
theorem Ty(S:Snd c n){l r:Expr}{op:Operator}{pos:Pos}{a b:D}(h1:Aq n l ρ σ=some (a,ρ₁,σ₁))(h2:Aq n r ρ₁ σ₁=some (b,ρ₂,σ₂))(h3:CN op a b=some d):EOk c n (eval (.BinOp l op r pos)) ρ σ d ρ₂ σ₂:=by
 intro A env Z P μ s rm R Q E k
 refine wpAny_BinOp (S.E h1 A env Z P μ s rm R _ _ λva Z1 s1 le1 R1 r1=>S.E h2 A env Z1 P μ s1 rm R1 _ _ λvb Z2 s2 le2 R2 r2=> ?_)
 exact R2.prim (QU R2.at (Rep.mono le2 _ _ r1) r2 h3) λv Z3 s3 le3 R3 r3=>k v Z3 s3 (FM.le_trans le1 (FM.le_trans le2 le3)) R3 r3
theorem Kf{e:Expr} {r}(h:Aq n e ρ σ=some r)(op:CmpOp):behindInMarks op e=false:=by
 cases e<;>first|rfl|skip
 cases n<;>simp[Aq] at h
theorem Oy{e:Expr}(h:∀a b p,e≠ .Set a b p)(env:Env)(x:Value):foldedSetIterable e env x=pure x:=by
 cases e<;>first|rfl|(exact absurd rfl (h _ _ _))
theorem Pq{e:Expr} {r}(h:Aq n e ρ σ=some r):∀a b p,e≠ .Set a b p:=by
 rintro a b p rfl
 cases n<;>simp[Aq] at h
theorem Tv(S:Snd c n){l r:Expr}{op:CmpOp}{pos:Pos}{a b:D}{x:Bool}(h1:Aq n l ρ σ=some (a,ρ₁,σ₁))(h2:Aq n r ρ₁ σ₁=some (b,ρ₂,σ₂))(h3:Av op a b=some x):EOk c n (eval (.Compare l [op] [r] pos)) ρ σ (.bool x) ρ₂ σ₂:=by
 intro A env Z P μ s rm R Q E k
 refine wpAny_Compare1 (S.E h1 A env Z P μ s rm R _ _ λva Z1 s1 le1 R1 r1=>S.E h2 A env Z1 P μ s1 rm R1 _ _ λvb Z2 s2 le2 R2 r2=> ?_) (Kf h2 op)
 exact R2.prim (Ky R2.at rm (Rep.mono le2 _ _ r1) r2 h3) λv Z3 s3 le3 R3 r3=>k v Z3 s3 (FM.le_trans le1 (FM.le_trans le2 le3)) R3 r3
theorem RX(S:Snd c n){t b o:Expr}{pos:Pos}{x:Bool}(h1:Ed n t ρ σ=some (x,ρ₁,σ₁))(h2:(if x then Aq n b ρ₁ σ₁ else Aq n o ρ₁ σ₁)=some (d,ρ₂,σ₂)):EOk c n (eval (.IfExp t b o pos)) ρ σ d ρ₂ σ₂:=by
 intro A env Z P μ s rm R Q E k
 refine wpAny_IfExp (S.T h1 A env Z P μ s rm R _ _ λZ1 s1 le1 R1=> ?_)
 cases x with
 |true=>exact S.E h2 A env Z1 P μ s1 rm R1 _ _ λv Z2 s2 le2 R2 r2=>k v Z2 s2 (FM.le_trans le1 le2) R2 r2
 |false=>exact S.E h2 A env Z1 P μ s1 rm R1 _ _ λv Z2 s2 le2 R2 r2=>k v Z2 s2 (FM.le_trans le1 le2) R2 r2
theorem Qw(S:Snd c n){es:List Expr}{kx:Nat}{pos:Pos}{ds:List D}(h1:Hn n es ρ σ=some (ds,ρ₁,σ₁))(hl:ds.length<=100000):EOk c n (eval (.Tuple es kx pos)) ρ σ (.tup ds) ρ₁ σ₁:=by
 intro A env Z P μ s rm R Q E k
 rw[arm_eval_Tuple]
 refine wpAny_bind (wpAny_standAt (wpAny_bind ((S.L h1).2 pos A env Z P μ s rm R _ _ λvs Z1 s1 le1 R1 r1=> ?_)))
 exact R1.prim (Lg R1.at r1 (by omega)) λv Z3 s3 le3 R3 r3=>k v Z3 s3 (FM.le_trans le1 le3) R3 r3
theorem Sd(S:Snd c n){es:List Expr}{pos:Pos}{ds:List D}(h1:Hn n es ρ σ=some (ds,ρ₁,σ₁))(hl:ds.length<=100000):EOk c n (eval (.List es pos)) ρ σ (.list ds) ρ₁ σ₁:=by
 intro A env Z P μ s rm R Q E k
 rw[arm_eval_List]
 refine wpAny_bind (wpAny_standAt (wpAny_bind ((S.L h1).2 pos A env Z P μ s rm R _ _ λvs Z1 s1 le1 R1 r1=> ?_)))
 exact R1.prim (Mx R1.at r1 (by omega)) λv Z3 s3 le3 R3 r3=>k v Z3 s3 (FM.le_trans le1 le3) R3 r3
theorem K2{o:Expr}(h:Bp o=true)(m:Str)(env:Env)(whole:Sem Value):attributeBase o m env whole=whole:=by
 unfold Bp at h
 split at h<;>first|rfl|cases h
theorem S5(T:TopOk c K)(S:Snd c n){o:Expr}{a:Str}{pos:Pos}{x:D}(hb:Bp o=true)(h1:Aq n o ρ σ=some (x,ρ₁,σ₁))(h2:MU x a=some d):EOk c n (eval (.Attribute o a pos)) ρ σ d ρ₁ σ₁:=by
 intro A env Z P μ s rm R Q E k
 rw[arm_eval_Attribute,K2 hb]
 refine wpAny_bind (S.E h1 A env Z P μ s rm R _ _ λvo Z1 s1 le1 R1 r1=>wpAny_bind (wpAny_standAt (wpAny_bind (wpAny_holding ?_))))
 exact R1.prim (Ru T R1.at R1.keep0 r1 h2) λv Z3 s3 le3 R3 r3=>wpAny_bind (wpAny_letTemporaryGo (wpAny_pure (k v Z3 s3 (FM.le_trans le1 le3) R3 r3)))
theorem Q2(S:Snd c n){o:Expr}{lo hi st:Option Expr}{p pos:Pos}{x a b y:D}(h0:Aq n o ρ σ=some (x,ρ₁,σ₁))(h1:Kt n lo ρ₁ σ₁=some (a,ρ₂,σ₂))(h2:Kt n hi ρ₂ σ₂=some (b,ρ₃,σ₃))(h3:Kt n st ρ₃ σ₃=some (y,ρ',σ'))(h4:Bo x a b y=some d):
 EOk c n (eval (.Subscript o (.Slice lo hi st p) pos)) ρ σ d ρ' σ':=by
 intro A env Z P μ s rm R Q E k
 refine Subscript_ (S.E h0 A env Z P μ s rm R _ _ λvo Z0 s0 le0 R0 r0=> ?_)
 rw[arm_eval_Slice]
 refine wpAny_bind (S.O h1 A env Z0 P μ s0 rm R0 _ _ λv1 Z1 s1 le1 R1 r1=>wpAny_bind (wpAny_holding (S.O h2 A env Z1 P μ s1 rm R1 _ _ λv2 Z2 s2 le2 R2 r2=>wpAny_bind (wpAny_holding (S.O h3 A env Z2 P μ s2 rm R2 _ _ λv3 Z3 s3 le3 R3 r3=> ?_)))))
 exact PY R3.at (Rep.mono (FM.le_trans le1 (FM.le_trans le2 le3)) _ _ r0) (Rep.mono (FM.le_trans le2 le3) _ _ r1) (Rep.mono le3 _ _ r2) r3 h4 _ _ _ _ λv Z4 s4 X r4=>
  k v Z4 s4 (FM.le_trans le0 (FM.le_trans le1 (FM.le_trans le2 (FM.le_trans le3 X.le)))) (R3.ext X) r4
theorem TR(S:Snd c n){o i:Expr}{pos:Pos}{x y:D}(h0:Aq n o ρ σ=some (x,ρ₁,σ₁))(h1:Aq n i ρ₁ σ₁=some (y,ρ₂,σ₂))(h2:Al x y=some d):EOk c n (eval (.Subscript o i pos)) ρ σ d ρ₂ σ₂:=by
 intro A env Z P μ s rm R Q E k
 refine Subscript_ (S.E h0 A env Z P μ s rm R _ _ λvo Z0 s0 le0 R0 r0=>S.E h1 A env Z0 P μ s0 rm R0 _ _ λv1 Z1 s1 le1 R1 r1=> ?_)
 exact R1.prim (RU R1.at (Rep.mono le1 _ _ r0) r1 h2 o i) λv Z3 s3 le3 R3 r3=>k v Z3 s3 (FM.le_trans le0 (FM.le_trans le1 le3)) R3 r3
end
section
variable {M:Model}{env:Env}{s:Shared}{A:Around}{E:Value->Shared->Prop}
theorem A7{e:Expr}{es:List Expr}(h:BP (e::es) env):starEach (e::es) env=(false,eval e env)::starEach es env/\BP es env:=by
 unfold BP at h⊢
 cases e<;>first
  |(simp[starEach] at h;done)
  |(refine⟨rfl,?_⟩
    have h':=h
    simp only[starEach,List.all_cons,and_eq_true] at h'
    exact h'.2)
theorem CF{e:Expr}{es:List Expr}(he:∀x p,e≠ .Starred x p)(h:BP es env):BP (e::es) env:=by
 unfold BP at h⊢
 cases e<;>first
  |exact absurd rfl (he _ _)
  |(simp only[starEach,List.all_cons,and_eq_true];exact⟨rfl,h⟩)
theorem F6{es:List Expr}{pos:Pos}:∀(l:List (Bool×Sem Value)),l.all (!·.1)=true->(backTo pos l).any (·.1)=false
 |[],_=>rfl
 |(b,t)::r,h=>by
  simp only[List.all_cons,and_eq_true,not_eq_true'] at h
  unfold backTo
  rw[map_cons,any_cons]
  have:=F6 (es:=es) (pos:=pos) r h.2
  unfold backTo at this
  rw[this,Bool.or_false];exact h.1
theorem Ks{f:Value}{args:List Expr}{pos:Pos}{Q:Args->Shared->Prop}(hs:BP args env)(h:wpAny M A (spliced (backTo pos (starEach args env))) (λvs s'=>Q ⟨vs,[]⟩ s') E s):
 wpAny M A (evalArgs f true (backTo pos (starEach args env)) []) Q E s:=by
 cases args with
 |nil=>
  unfold evalArgs
  show wpAny M A (spliced []>>=_) Q E s
  refine wpAny_bind (wpAny_mono h (λvs s' h'=> ?_) λ_ _ x=>x)
  refine wpAny_bind (wpAny_pure ?_)
  refine wpAny_holding ?_
  exact wpAny_bind (wpAny_pure (wpAny_bind (wpAny_pure (wpAny_pure h'))))
 |cons e es=>
  rw[(A7 hs).1] at h⊢
  exact evalArgs_plain h
theorem Ai{P:Heap->Prop}{f:Value}{first:List Value}{args:List Expr}{pos:Pos}{Q:Value->Shared->Prop}(hs:BP args env)
 (hk:∀h,P h->∃k,(k=Keeper.frame\/k=Keeper.machine\/k=Keeper.boundFrame)/\Looks M h (keeperOf f) k)
 (h:wpAny M A (spliced (backTo pos (starEach args env))) (λvs s₁=>P s₁.heap/\wpAny M A (call f (first++vs)) Q E s₁) E s):wpAny M A (callWith pos f first (backTo pos (starEach args env)) []) Q E s:=
 callWith_of (by rw[F6 (es:=[]) _ hs];rfl) hk (Ks hs h)
theorem Au{f:Value}(hf:(∃t,f= .type t)\/∃i,f= .builtin i):∀h:Heap,True->∃k,(k=Keeper.frame\/k=Keeper.machine\/k=Keeper.boundFrame)/\Looks M h (keeperOf f) k:=λh _=>by
 refine⟨.machine,.inr (.inl rfl),?_⟩
 rcases hf with ⟨t,rfl⟩|⟨i,rfl⟩
 ·exact Looks.of_pure rfl
 ·exact Looks.of_pure rfl
def JN(a:Addr)(h:Heap):Prop:=∃o fd,h.get? a=some o/\o.data= .func fd
theorem EB{a:Addr}:∀h:Heap,JN a h->∃k,(k=Keeper.frame\/k=Keeper.machine\/k=Keeper.boundFrame)/\Looks M h (keeperOf (.ref a)) k:=λh ⟨o,fd,ho,hd⟩=>by
 obtain⟨oc,od,dt,sl⟩:=o
 simp only at hd
 subst hd
 exact⟨.frame,.inl rfl,(Looks.ld (part:=none) ho).andThen .now⟩
theorem GS{o:Expr}{m:Str}{ap cp:Pos}{args:List Expr}{Q:Value->Shared->Prop}(hb:attributeBase o m env (eval o env)=eval o env)(hl:(ap.endLine==cp.line)=true)(hn:args.length<30)(hs:BP args env)
 (h:wpAny M A (eval o env) (λov s₁=>∀pl,wpAny M A (getMethod ov m pl) (λfx s₂=>wpAny M A (callWith cp fx.1 fx.2 (backTo cp (starEach args env)) []) Q E s₂) E s₁) E s):
 wpAny M A (eval (.Call (.Attribute o m ap) args [] cp) env) Q E s:=by
 rw[arm_eval_Call,hb]
 refine wpAny_bind (wpAny_mono h (λov s₁ h₁=>wpAny_bind (wpAny_standAt ?_)) λ_ _ x=>x)
 have few:methodCallForm (args.length+([]:List Keyword).length) (backTo cp (starEach args env)) (backToKw cp (keywordEach [] env))=true:=by
  unfold methodCallForm
  have:(backTo cp (starEach args env)).all (!·.1)=true:=by
   have:=F6 (es:=[]) (pos:=cp) _ hs
   rw[all_eq_true]
   intro x hx
   rw[List.any_eq_false] at this
   have:=this x hx
   simpa using this
  rw[this]
  show(true&&true&&decide (args.length+0+0<30))=true
  simp[hn]
 unfold methodCall
 rw[few]
 unfold calleeOf
 simp only[if_true]
 refine wpAny_bind (wpAny_holding (wpAny_mono (h₁ _) (λfx s₂ h₂=> ?_) λ_ _ x=>x))
 unfold methodCallPos
 rw[hl]
 simp only[Bool.not_true,Bool.false_or,if_true]
 exact wpAny_bind (wpAny_pure h₂)
theorem Cj{o:Expr}{m:Str}{ap cp:Pos}{args:List Expr}{Q:Value->Shared->Prop}(hb:Bp o=true)(hl:(ap.endLine==cp.line)=true)(hn:args.length<30)(hs:BP args env)
 (h:wpAny M A (eval o env) (λov s₁=>∀pl,wpAny M A (getMethod ov m pl) (λfx s₂=>wpAny M A (callWith cp fx.1 fx.2 (backTo cp (starEach args env)) []) Q E s₂) E s₁) E s):
 wpAny M A (eval (.Call (.Attribute o m ap) args [] cp) env) Q E s:=GS (K2 hb ..) hl hn hs h
end
section
variable {c:Cx}{K:Frag}{env:Env}{ρ ρ' ρ₁ ρ₂ ρ₃:Ev}{σ σ' σ₁ σ₂ σ₃:St}{Z Z' P:FM}{μ:Str->Option Value}{s s':Shared}{A:Around}{E:Value->Shared->Prop}{L:Addr}{n:Nat}{d:D}
theorem Bf{M:Model}(R:Rel c env ρ σ Z P μ s){f:Str}{p pos:Pos}{args:List Expr}{v:Value}{Q:Value->Shared->Prop}(hx:Ao ρ f=true)(hd:(f==("__debug__" :Str))=false)(G:Dl c f v)
 (h:wpAny M A (callWith pos v [] (backTo pos (starEach args env)) []) Q E s):wpAny M A (eval (.Call (.Name f p) args [] pos) env) Q E s:=by
 rw[arm_eval_Call_Name']
 exact wpAny_bind (KB R hx hd G h)
theorem TopOk.big(T:TopOk c K)(R:Rel c env ρ σ Z P μ s):sysModules<s.heap.objs.size:=modules_low (T.nolimit.keeps R.keep0)
def bv(b:String):Value:=if b= "len"\/b= "sorted" then .builtin b else .type b
theorem JB{b:String}{ds:List D}{vs:List Value}(e:Ag b ds=some d)(h:At L Z s)(rm:Room n A)(hbig:sysModules<s.heap.objs.size)(r:RepL c Z ds vs):BI c A L Z s (call (bv b) vs) d:=by
 unfold Ag at e
 split at e
 ·split at e
  ·cases e
   rw[RepL] at r;obtain⟨v,r',rfl,rv,r⟩:=r;rw[RepL] at r;subst r
   exact P6 h (.inl rfl) rv ‹_›
  ·cases e
 ·split at e
  ·cases e
   rw[RepL] at r;obtain⟨v,r',rfl,rv,r⟩:=r;rw[RepL] at r;subst r
   exact P6 h (.inr rfl) rv ‹_›
  ·cases e
 ·split at e
  ·cases e
   rw[RepL] at r;obtain⟨v,r',rfl,rv,r⟩:=r;rw[RepL] at r;subst r
   exact IJ h rv ‹_›
  ·cases e
 ·split at e
  ·cases e
   rw[RepL] at r;obtain⟨v,r',rfl,rv,r⟩:=r;rw[RepL] at r;subst r
   exact J3 h (.inr rfl) rv ‹_›
  ·cases e
 ·split at e
  ·cases e
   rw[RepL] at r;obtain⟨v,r',rfl,rv,r⟩:=r;rw[RepL] at r;subst r
   exact J3 h (.inl rfl) rv ‹_›
  ·cases e
 ·split at e
  ·rename_i hq
   cases e
   rw[RepL] at r;obtain⟨v,r',rfl,rv,r⟩:=r;rw[RepL] at r;subst r
   exact Kj h rm rv hq.1 hq.2.1 hq.2.2
  ·cases e
 ·split at e
  ·rw[map_eq_some_iff] at e
   obtain⟨es,e1,rfl⟩:=e
   rw[RepL] at r;obtain⟨v,r',rfl,rv,r⟩:=r;rw[RepL] at r;subst r
   exact Kw h hbig rm rv ‹_› e1
  ·cases e
 ·split at e
  ·cases e
   rw[RepL] at r;obtain⟨v,r',rfl,rv,r⟩:=r;rw[RepL] at r;subst r
   exact ML h hbig rv ‹_›
  ·cases e
 ·rw[map_eq_some_iff] at e
  obtain⟨ys,e1,rfl⟩:=e
  unfold NX at e1
  simp only[bind_eq_bind,bind_eq_some_iff] at e1
  obtain⟨rs,hrs,e1⟩:=e1
  split at e1
  ·rename_i hq
   cases e1
   rw[RepL] at r;obtain⟨v,r',rfl,rv,r⟩:=r;rw[RepL] at r;subst r
   refine JW h rv hrs (λx hx=> ?_) (by omega)
   have:=all_eq_true.mp hq.2 x hx
   intro q;rw[q] at this;simp at this
  ·cases e1
 ·split at e
  ·rename_i hq
   cases e
   rw[RepL] at r;obtain⟨v,r',rfl,rv,r⟩:=r;rw[RepL] at r;subst r
   refine JX h rm.1 rv (λx hx=> ?_) (by omega)
   obtain⟨y,hy,rfl⟩:=mem_map.mp hx
   have:=all_eq_true.mp hq.2 y hy
   intro q;rw[q] at this;simp at this
  ·cases e
 ·split at e
  ·cases e
   rw[RepL] at r;obtain⟨v,r',rfl,rv,r⟩:=r;rw[RepL] at r;subst r
   exact OV h rv
  ·cases e
 ·split at e
  ·cases e
   rw[RepL] at r;obtain⟨v,r',rfl,rv,r⟩:=r;rw[RepL] at r;obtain⟨v2,r',rfl,rv2,r⟩:=r;rw[RepL] at r;subst r
   exact OU h rv rv2
  ·cases e
 ·split at e
  ·rename_i hq
   cases e
   simp only[and_eq_true,decide_eq_true_eq] at hq
   rw[RepL] at r;obtain⟨v,r',rfl,rv,r⟩:=r;rw[RepL] at r;subst r
   exact PV h rv hq.1 hq.2
  ·cases e
 ·cases e
theorem Os{cls:String}{b:Bool}{v:Value}(e:Ou d cls=some b)(h:At L Z s)(r:Rep c Z d v):BI c A L Z s (call (.builtin "isinstance") [v,.type cls]) (.bool b):=λQ E k=>by
 unfold Ou at e
 split at e
 ·cases e
  rw[Rep] at r;obtain⟨a,vs,rfl,⟨o,m,ho,hc,hd⟩,_⟩:=r
  exact IsiPair.tuple_tuple (h.held _ _ ho) hc (k _ _ _ (A9 h) (A2 _))
 ·cases e
  rw[Rep] at r;obtain⟨t,rfl⟩:=r
  exact IsiPair.int_tuple (k _ _ _ (A8 h _) (A2 _))
 ·cases e
  rw[Rep] at r;obtain⟨t,rfl⟩:=r
  exact IsiPair.str_tuple (k _ _ _ (A8 h _) (A2 _))
 ·cases e
  rw[Rep] at r;obtain⟨t,rfl⟩:=r
  exact IsiPair.str_str (k _ _ _ (A9 h) (A2 _))
 ·cases e
  rw[Rep] at r;obtain⟨a,vs,rfl,⟨o,m,ho,hc,hd⟩,_⟩:=r
  exact IsiPair.tuple_str (h.held _ _ ho) hc (k _ _ _ (A8 h _) (A2 _))
 ·cases e
  rw[Rep] at r;obtain⟨t,rfl⟩:=r
  exact IsiPair.int_str (k _ _ _ (A8 h _) (A2 _))
 ·cases e
  rw[Rep] at r;obtain⟨t,rfl⟩:=r
  exact IsiPair.int_int (k _ _ _ (A9 h) (A2 _))
 ·cases e
  rw[Rep] at r;obtain⟨t,rfl⟩:=r
  exact IsiPair.int_bool (k _ _ _ (A8 h _) (A2 _))
 ·cases e
end
def FM.minus(Z:FM)(a:Addr):FM:=λb=>if b=a then none else Z b
theorem FM.minus_ne{Z:FM}{a b:Addr}(h:b≠a):Z.minus a b=Z b:=by simp[FM.minus,h]
theorem FM.minus_self{Z:FM}{a:Addr}:Z.minus a a=none:=by simp[FM.minus]
theorem FM.minus_some{Z:FM}{a b:Addr}{o:Obj}(h:Z.minus a b=some o):b≠a/\Z b=some o:=by
 unfold FM.minus at h
 split at h
 ·cases h
 ·exact⟨‹_›,h⟩
section
variable {c:Cx}{Z:FM}{a:Addr}{oa:Obj}
mutual
theorem Rep.minus(hz:Z a=some oa)(hc:oa.cls= .type "dict"):∀(d:D)(v:Value),d.dictFree=true->Rep c Z d v->Rep c (Z.minus a) d v
 | .none,v,_,x=>by rw[Rep] at x⊢;exact x
 | .bool b,v,_,x=>by rw[Rep] at x⊢;exact x
 | .int i,v,_,x=>by rw[Rep] at x⊢;exact x
 | .str y,v,_,x=>by rw[Rep] at x⊢;exact x
 | .tup xs,v,h,x=>by
   rw[Rep] at x⊢
   obtain⟨b,vs,e,⟨o,n,ho,r⟩,l⟩:=x
   unfold D.dictFree at h
   exact⟨b,vs,e,⟨o,n,by rw[FM.minus_ne (by rintro rfl;rw[hz] at ho;cases ho;rw[hc] at r;exact absurd r.1 (by decide))];exact ho,r⟩,RepL.minus hz hc xs vs h l⟩
 | .list xs,v,h,x=>by
   rw[Rep] at x⊢
   obtain⟨b,vs,e,⟨n,ho⟩,l⟩:=x
   unfold D.dictFree at h
   exact⟨b,vs,e,⟨n,by rw[FM.minus_ne (by rintro rfl;rw[hz] at ho;cases ho;simp at hc)];exact ho⟩,RepL.minus hz hc xs vs h l⟩
 | .dict es,v,h,x=>by unfold D.dictFree at h;cases h
 | .dictT es,v,h,x=>by unfold D.dictFree at h;cases h
 | .range lo hi,v,_,x=>by
   rw[Rep] at x⊢
   obtain⟨b,e,t,u,w,ho⟩:=x
   exact⟨b,e,t,u,w,by rw[FM.minus_ne (by rintro rfl;rw[hz] at ho;cases ho;simp at hc)];exact ho⟩
 | .univ ns nums,v,h,x=>by unfold D.dictFree at h;cases h
 | .bnds u bs nums,v,h,x=>by unfold D.dictFree at h;cases h
 | .feed,v,h,x=>by unfold D.dictFree at h;cases h
theorem RepL.minus(hz:Z a=some oa)(hc:oa.cls= .type "dict"):∀(ds:List D)(vs:List Value),D.dictFreeL ds=true->RepL c Z ds vs->RepL c (Z.minus a) ds vs
 |[],vs,_,x=>by rw[RepL] at x⊢;exact x
 |d::ds,vs,h,x=>by
  rw[RepL] at x⊢
  obtain⟨v,r,e,y,z⟩:=x
  unfold D.dictFreeL at h
  simp only[and_eq_true] at h
  exact⟨v,r,e,Rep.minus hz hc d v h.1 y,RepL.minus hz hc ds r h.2 z⟩
end
end
theorem Ip:∀(l:List Int),D.dictFreeL (l.map .int)=true
 |[]=>by rw[map_nil,D.dictFreeL]
 |i::r=>by rw[map_cons,D.dictFreeL,Ip r];rfl
theorem Jh:∀(l:List D),BA l=true->D.dictFreeL l=true
 |[],_=>by rw[D.dictFreeL]
 | .str x::r,h=>by
   unfold BA at h
   simp only[and_eq_true] at h
   rw[D.dictFreeL,Jh r h.2];rfl
 | .none::r,h=>by simp[BA] at h
 | .bool _::r,h=>by simp[BA] at h
 | .int _::r,h=>by simp[BA] at h
 | .tup _::r,h=>by simp[BA] at h
 | .list _::r,h=>by simp[BA] at h
 | .dict _::r,h=>by simp[BA] at h
 | .dictT _::r,h=>by simp[BA] at h
 | .range _ _::r,h=>by simp[BA] at h
 | .univ _ _::r,h=>by simp[BA] at h
 | .bnds _ _ _::r,h=>by simp[BA] at h
 | .feed::r,h=>by simp[BA] at h
theorem OJ{d x:D}(h:GD d=some x):d.dictFree=true:=by
 unfold GD at h
 split at h
 ·split at h
  ·rename_i hq
   simp only[and_eq_true] at hq
   unfold D.dictFree
   exact Jh _ hq.1
  ·cases h
 ·cases h
theorem KS{f:Str}{b:String}(h:PA f=some b):(f==("__debug__" :Str))=false/\((b= "len"/\f=Str.ofString "len")\/(b= "sorted"/\f=Str.ofString "sorted")\/(b∈typNames/\f=Str.ofString b/\b≠ "len"/\b≠ "sorted")):=by
 unfold PA at h
 repeat' split at h
 all_goals first|cases h|skip
 all_goals (subst_vars;refine⟨by decide,?_⟩)
 ·exact .inl ⟨rfl,rfl⟩
 ·exact .inr (.inr ⟨by decide,rfl,by decide,by decide⟩)
 ·exact .inr (.inr ⟨by decide,rfl,by decide,by decide⟩)
 ·exact .inr (.inr ⟨by decide,rfl,by decide,by decide⟩)
 ·exact .inr (.inl ⟨rfl,rfl⟩)
 ·exact .inr (.inr ⟨by decide,rfl,by decide,by decide⟩)
 ·exact .inr (.inr ⟨by decide,rfl,by decide,by decide⟩)
def MW(c:Cx):Prop:=∀(n:Nat)(A:Around)(σ:St)(Z:FM)(s:Shared)(d x:D)(v:Value),GD d=some x->Room n A->Gr c σ Z s->Rep c Z d v->
 ∀(Q:Value->Shared->Prop) (E:Value->Shared->Prop),(∀u Z' s',Went c Z s σ Z' s'->Rep c Z' x u->Q u s')->wpAny (model c.prog c.w) A (call (.ref c.uc) [v]) Q E s
section
variable {c:Cx}{K:Frag}{env:Env}{ρ ρ' ρ₁ ρ₂ ρ₃:Ev}{σ σ' σ₁ σ₂ σ₃:St}{Z Z' P:FM}{μ:Str->Option Value}{s s':Shared}{A:Around}{E:Value->Shared->Prop}{L:Addr}{n:Nat}{d:D}
theorem QT(T:TopOk c K){f:Str}{b:String}(h:PA f=some b):Dl c f (bv b)/\((∃t,bv b= .type t)\/∃i,bv b= .builtin i):=by
 rcases(KS h).2 with ⟨rfl,rfl⟩|⟨rfl,rfl⟩|⟨h1,rfl,h2,h3⟩
 ·exact⟨T.blt "len" (by decide),.inr ⟨_,rfl⟩⟩
 ·exact⟨T.blt "sorted" (by decide),.inr ⟨_,rfl⟩⟩
 ·have:bv b= .type b:=by unfold bv;rw[if_neg (by simp[h2,h3])]
  rw[this]
  exact⟨T.typ b h1,.inl ⟨_,rfl⟩⟩
theorem SJ(T:TopOk c K){f:Str}(h:L1 f=true):∃a fi,fnTab.lookup f=some fi/\Dl c f (.ref a)/\FnOk c a fi/\(f==("__debug__" :Str))=false:=by
 unfold L1 at h
 rw[List.any_eq_true] at h
 obtain⟨g,hg,e⟩:=h
 obtain⟨a,fi,h1,h2,h3⟩:=T.fn g hg
 rw[beq_iff_eq.mp e] at h1 h2
 refine⟨a,fi,h1,h2,h3,?_⟩
 rw[<-beq_iff_eq.mp e]
 have:topFns.all (λg=> !(Str.ofString g==("__debug__" :Str)))=true:=by decide
 rw[all_eq_true] at this
 have:=this g hg
 simpa using this
theorem MB(R:Rel c env ρ σ Z P μ s){a:Addr}{fi:FnInfo}(F:FnOk c a fi):JN a s.heap:=let⟨o,fd,ho,hd,_⟩:=F.ob;⟨o,fd,R.keep0 _ _ ho,hd⟩
theorem H9(S:Snd c n){f:Str}{as:List D}{bo:Bool}(hf:AQ n f as σ₁=some (d,σ₂))(hbo:(bo&& !d.dictFree)=false){a:Addr}{fi:FnInfo}(hfi:fnTab.lookup f=some fi)(F:FnOk c a fi)
 (rm:Room n A) {Z1:FM} {s1:Shared} (R1:Rel c env ρ₁ σ₁ Z1 P μ s1) {vs:List Value} (hr:if bo then ∃a o,s1.heap.get? a=some o/\Z1 a=none/\a≠c.fa/\o.cls= .type "dict"/\RepL c (Z1.adds s1.heap [a]) as vs else RepL c Z1 as vs)
 {Q:Value->Shared->Prop} (k:∀v Z' s',Z1.le Z'->Rel c env ρ₁ σ₂ Z' P μ s'->Rep c Z' d v->Q v s'):wpAny (model c.prog c.w) A (call (.ref a) vs) Q E s1:=by
 cases bo with
 |false=>
  refine S.Fn hf A Z1 s1 a fi vs rm R1.gr hfi F hr Q E λv Z' s' W r=>k v Z' s' W.le (R1.went W) r
 |true=>
  obtain⟨x,o,hx,zx,xf,hc,rl⟩:=hr
  have hdf:d.dictFree=true:=by simpa using hbo
  have le0:Z1.le (Z1.adds s1.heap [x]):=λb ob e=>by
   rw[FM.adds_out (by rintro hm;rw[mem_singleton.mp hm,zx] at e;cases e)];exact e
  have G:Gr c σ₁ (Z1.adds s1.heap [x]) s1:={
   zh:=λb ob e=>by
    by_cases hb:b∈[x]
    ·rw[FM.adds_in hb] at e;exact e
    ·rw[FM.adds_out hb] at e;exact R1.zh b ob e
   base:=λb ob e=>le0 b ob (R1.base b ob e)
   feed:=R1.feed.keep le0 λ_ e=>e
   fz:=by rw[FM.adds_out (by simpa using Ne.symm xf)];exact R1.feedFree.1
   gens:=R1.gens
   os:=R1.os}
  refine S.Fn hf A _ s1 a fi vs rm G hfi F rl Q E λv Z2 s2 W r=> ?_
  have hz2:Z2 x=some o:=W.le x o (by rw[FM.adds_in (by simp)];exact hx)
  have le3:Z1.le (Z2.minus x):=λb ob e=>by
   rw[FM.minus_ne (by rintro rfl;rw[zx] at e;cases e)];exact W.le b ob (le0 b ob e)
  have pr:∀b ob,b≠x->BB c Z1 s1.heap b=some ob->BB c (Z1.adds s1.heap [x]) s1.heap b=some ob:=λb ob hb e=>by
   obtain⟨h1,h2,h3⟩:=BX e
   exact Cp h1 (by rw[FM.adds_out (by simpa using hb)];exact h2) h3
  have W3:Went c Z1 s1 σ₂ (Z2.minus x) s2:={
   le:=le3
   held:=λb ob e=>W.held b ob (FM.minus_some e).2
   keep:=λb ob e=>by
    by_cases hb:b=x
    ·subst hb
     have:=(BX e).2.2
     rw[hx] at this;cases this
     exact W.held _ _ hz2
    ·exact W.keep b ob (pr b ob hb e)
   new:=λb ob e=>by
    obtain⟨hb,e⟩:=FM.minus_some e
    cases q:BB c Z1 s1.heap b with
    |none=>rfl
    |some o'=>have:=pr b o' hb q;rw[W.new b ob e] at this;cases this
   feed:=by
    obtain⟨m,vc,t,dd,rr,q⟩:=W.feed
    exact⟨m,vc,t,dd,Rep.minus hz2 hc _ _ (by unfold D.dictFree;exact Ip _) rr,q⟩
   fz:=by rw[FM.minus_ne (Ne.symm xf)];exact W.fz
   gens:=W.gens
   os:=W.os}
  exact k v (Z2.minus x) s2 le3 (R1.went W3) (Rep.minus hz2 hc _ _ hdf r)
theorem O2(T:TopOk c K)(hU:MW c)(S:Snd c n){f:Str}{args:List Expr}{p pos:Pos}(h:C1 (n+1) f args ρ σ=some (d,ρ',σ'))(hg:Ao ρ f=true):EOk c (n+1) (eval (.Call (.Name f p) args [] pos)) ρ σ d ρ' σ':=by
 intro A env Z P μ s rm R Q E k
 unfold C1 at h
 simp only[bind_eq_bind,bind_eq_some_iff] at h
 obtain⟨⟨as,bo,ρ₁,σ₁⟩,hA,h⟩:=h
 obtain⟨hns,hargs⟩:=S.A hA
 split at h
 ·rename_i hf
  subst hf
  split at h
  ·rename_i x hx
   have hx':as=[x]:=hx
   subst hx'
   rw[map_eq_some_iff] at h
   obtain⟨y,hy,e⟩:=h
   cases e
   refine Bf R hg (by decide) T.uni (Ai (P:=K.In) (hns env) (keeps_K T.ucls.keep) (hargs pos A env Z P μ s rm.succ R _ _ λvs Z1 s1 le1 R1 r1=> ?_))
   refine⟨T.X.keeps R1.keep0,?_⟩
   have rx:∃v,vs=[v]/\Rep c Z1 x v:=by
    cases bo with
    |false=>
     rw[if_neg Bool.false_ne_true] at r1
     rw[RepL] at r1
     obtain⟨v,r',rfl,rv,r1⟩:=r1
     rw[RepL] at r1;subst r1
     exact⟨v,rfl,rv⟩
    |true=>
     obtain⟨a,o,ho,hz,hfa,hc,r1⟩:=r1
     rw[RepL] at r1
     obtain⟨v,r',rfl,rv,r1⟩:=r1
     rw[RepL] at r1;subst r1
     refine⟨v,rfl,?_⟩
     have hza:(Z1.adds s1.heap [a]) a=some o:=by rw[FM.adds_in (by simp)];exact ho
     refine Rep.mono (λb ob e=> ?_) _ _ (Rep.minus hza hc _ _ (OJ hy) rv)
     obtain⟨hb,e⟩:=FM.minus_some e
     rw[FM.adds_out (by simpa using hb)] at e;exact e
   obtain⟨v,rfl,rv⟩:=rx
   exact hU _ A _ Z1 s1 _ _ v hy rm R1.gr rv Q E λv Z2 s2 W r2=>k v Z2 s2 (FM.le_trans le1 W.le) (R1.went W) r2
  ·cases h
 ·split at h
  ·rename_i b hb
   split at h
   ·cases h
   ·rename_i hbo
    have hbo':bo=false:=by simpa using hbo
    subst hbo'
    simp only[bind_eq_some_iff] at h
    obtain⟨y,hy,e⟩:=h
    cases e
    obtain⟨G,hv⟩:=QT T hb
    refine Bf R hg (KS hb).1 G (Ai (P:=λ_=>True) (hns env) (Au hv) (hargs pos A env Z P μ s rm.succ R _ _ λvs Z1 s1 le1 R1 r1=> ?_))
    rw[if_neg Bool.false_ne_true] at r1
    exact⟨trivial,R1.prim (JB hy R1.at rm (T.big R1) r1) λv Z2 s2 le2 R2 r2=>k v Z2 s2 (FM.le_trans le1 le2) R2 r2⟩
  ·split at h
   ·cases h
   ·rename_i hb htop
    have htop':L1 f=true:=by simpa using htop
    simp only[bind_eq_some_iff] at h
    obtain⟨⟨y,σ₂⟩,hy,e⟩:=h
    split at e
    ·cases e
    ·rename_i hdf
     cases e
     obtain⟨a,fi,hfi,G,F,hd⟩:=SJ T htop'
     refine Bf R hg hd G (Ai (P:=JN a) (hns env) EB (hargs pos A env Z P μ s rm.succ R _ _ λvs Z1 s1 le1 R1 r1=> ?_))
     exact⟨MB R1 F,H9 S hy (by simpa using hdf) hfi F rm.succ R1 r1 λv Z2 s2 le2 R2 r2=>k v Z2 s2 (FM.le_trans le1 le2) R2 r2⟩
end
section
variable {c:Cx}{K:Frag}{env:Env}{ρ ρ' ρ₁ ρ₂ ρ₃:Ev}{σ σ' σ₁ σ₂ σ₃:St}{Z Z' P:FM}{μ:Str->Option Value}{s s':Shared}{A:Around}{E:Value->Shared->Prop}{L:Addr}{n:Nat}{d:D}
theorem Rel.off{C:Addr}{h':Heap}(R:Rel c env ρ σ Z (P.adds s.heap [C]) μ s)(hP:P C=none)(ap:BK env [C])(live:∃o,s.heap.get? C=some o)(sb:Heap.SameBut C s.heap h'):Rel c env ρ σ Z P μ {s with heap:=h'}:=by
 have lv:∀a∈[C],∃o,s.heap.get? a=some o:=λa ha=>by rw[mem_singleton.mp ha];exact live
 have zo:=R.looseZ lv
 have:=(R.stepZ (as':=[]) (s':={s with heap:=h'}) (Z':=Z) (λa ha=>by rw[mem_singleton.mp ha];exact hP) lv (λa o m e=>by
  show h'.get? a=some o
  rw[sb.2 a (by simpa using m)];exact e) (FM.le_refl _) (λa o e=>by
  show h'.get? a=some o
  rw[sb.2 a (λq=>by rw[q,zo C (by simp)] at e;cases e)];exact R.zh a o e) (λ_ _ e=> .inl e) (λ_ h=>(nomatch h)) ap rfl rfl).1
 rwa [FM.adds_nil] at this
theorem S3(S:Snd c n){g:Comprehension}{gs:List Comprehension}{elt:Expr}{scope:Scope}{pos:Pos}(hc:F2 scope (g::gs)=true)(hf0:Df scope.names ρ=true){xs ys:List D}{ρe:Ev}
 (h1:FQ n g.iter ρ σ=some (xs,ρ₁,σ₁)) (hf:Df scope.names ρ₁=true)
 (h2:CW (λd (s:Ev×St)=>Ja n g gs elt d s.1 s.2) xs (⟨scope.names,[],CX scope.names (BR scope.names ρ₁.cel)⟩,σ₁)=some (ys,ρe,σ')) (hl:ys.length<=100000):
 EOk c (n+1) (eval (.ListComp elt (g::gs) scope pos)) ρ σ (.list ys) {ρ₁ with cel:=BR scope.names ρ₁.cel} σ':=by
 intro A env Z P μ s rm R Q E k
 rw[eval_ListComp]
 have ha:firstAsync (g::gs)=false:=by
  unfold F2 at hc
  simp only[and_eq_true,all_eq_true] at hc
  have:=hc.2 g (mem_cons_self ..)
  have e:(g.is_async !=0)=false:=by simpa using this
  obtain⟨tg,it,ifs,as⟩:=g
  exact e
 rw[ha]
 have hfi:firstIter (g::gs) env=eval g.iter env:=by obtain⟨tg,it,ifs,as⟩:=g;rfl
 rw[hfi]
 refine N3 S.It S.G rm.succ hc hf0 h1 hf h2 hl R (use:=none) λC acc Z1 s1 le1 R1 hP ap rp ns h' sb=> ?_
 obtain⟨m,hm⟩:=ns
 exact k acc Z1 _ le1 (R1.off hP ap (let⟨o,_,_,e,_⟩:=hm;⟨o,e⟩) sb) rp
theorem JV{kvs:List (Key×Value)}{k:Key}{v:Value}(h:(kvs.map (·.1)).Nodup):((stored kvs k v).map (·.1)).Nodup:=by
 unfold stored
 split
 ·rw[map_map]
  have:((λx:Key×Value=>x.1)∘λkv=>if kv.1=k then(kv.1,v) else kv)=λx=>x.1:=by
   funext x;show(if x.1=k then(x.1,v) else x).1=x.1;split<;>rfl
  rw[this];exact h
 ·rename_i hn
  rw[map_append,List.nodup_append]
  refine⟨h,by simp,λx hx y hy=> ?_⟩
  simp at hy
  subst hy
  rintro rfl
  obtain⟨q,hq,rfl⟩:=mem_map.mp hx
  exact hn (List.any_eq_true.mpr ⟨q,hq,by simp⟩)
theorem RepE.merge:∀(es:List (Key×D))(kvs:List (Key×Value))(acc:List (Key×D))(kacc:List (Key×Value)),RepE c Z es kvs->RepE c Z acc kacc->(kacc.map (·.1)).Nodup->RepE c Z (es.foldl (λacc p=>B9 p.1 p.2 acc) acc) (merged kacc kvs)
 |[],kvs,acc,kacc,x,y,_=>by rw[RepE] at x;subst x;exact y
 |(k,d)::es,kvs,acc,kacc,x,y,hn=>by
  rw[RepE] at x
  obtain⟨v,r,rfl,hv,x⟩:=x
  rw[List.foldl_cons]
  exact RepE.merge es r _ _ x (RepE.put hv acc kacc y hn) (JV hn)
theorem EH(env:Env):∀ks:List Expr,evalEachOpt (ks.map some) env=(evalEach ks env).map some
 |[]=>rfl
 |k::ks=>by
  show evalOpt (some k) env::evalEachOpt (ks.map some) env=some (eval k env)::(evalEach ks env).map some
  rw[EH env ks];rfl
theorem DJ(env:Env):∀ks:List Expr,(evalEach ks env).length=ks.length
 |[]=>rfl
 |k::ks=>by
  show(eval k env::evalEach ks env).length=_
  rw[length_cons,DJ env ks];rfl
theorem LA{α β:Type}:∀(l:List α)(r:List β),(l.map some).zip r=(l.zip r).map λp=>(some p.1,p.2)
 |[],_=>rfl
 |_::_,[]=>rfl
 |a::l,b::r=>by rw[map_cons,zip_cons_cons,zip_cons_cons,map_cons,LA l r]
theorem S1(T:TopOk c K)(S:Snd c n){ks:List (Option Expr)}{vs:List Expr}{pos:Pos}{es:List (Key×D)}(h:N1 n ks vs ρ σ=some (es,ρ₁,σ₁))(h0:ks≠[])(h15:ks.length<=15):
 EOk c (n+1) (eval (.Dict ks vs pos)) ρ σ (.dict (es.foldl (λacc p=>B9 p.1 p.2 acc) [])) ρ₁ σ₁:=by
 intro A env Z P μ s rm R Q E k
 obtain⟨ks',rfl,hlen,hP⟩:=S.P h
 have hk0:ks'≠[]:=λq=>h0 (by rw[q];rfl)
 have hkl:ks'.length<=15:=by simpa using h15
 have zl:((evalEach ks' env).zip ((evalEach vs env).map λv=>do let x<-v;standAt pos;pure x)).length=ks'.length:=by
  rw[List.length_zip,DJ,length_map,DJ,hlen,Nat.min_self]
 refine wpAny_Dict_pairs (knd:=AV c.prog c.w) (pairs:=(evalEach ks' env).zip ((evalEach vs env).map λv=>do let x<-v;standAt pos;pure x)) (by rw[EH,LA]) (λq=>hk0 (List.length_eq_zero_iff.mp (by rw[<-zl,q];rfl))) (by rw[zl];exact hkl) ?_
 have hdead:s.heap.get? s.heap.objs.size=none:=Ab _
 have hnew:(s.heap.push {cls:= .type "dict",data:= .dict #[]}).get? s.heap.objs.size=some {cls:= .type "dict",data:= .dict #[]}:=Heap.get?_push_size _ rfl
 have hbig:=T.big R
 generalize hD:s.heap.objs.size=dA at*
 obtain⟨R1,hP1,ap1⟩:=R.lay (as:=[dA]) (s':={s with heap:=s.heap.push {cls:= .type "dict",data:= .dict #[]}}) (λa o e=>Heap.get?_push_of_some _ e) (λa ha=>by rw[mem_singleton.mp ha];exact hdead) rfl rfl
 have live1:∀a∈[dA],∃o,(s.heap.push {cls:= .type "dict",data:= .dict #[]}).get? a=some o:=λa ha=>by rw[mem_singleton.mp ha];exact⟨_,hnew⟩
 refine hP pos A env Z _ μ _ rm.succ R1 _ _ λvvs kvs Z2 s2 le2 R2 car re=> ?_
 obtain⟨e2,e2'⟩:=R2.still live1
 have dd:s2.heap.DictOf (AV c.prog c.w) dA []:=by
  refine⟨{cls:= .type "dict",data:= .dict #[]},#[],0,?_,⟨rfl,rfl,rfl⟩,rfl,λe he=>by simp at he,.nil,nodup_nil⟩
  have:=e2 dA (by simp)
  rw[this];exact hnew
 refine⟨kvs,car,dd,λh' hm sb=> ?_⟩
 have e2'':P.adds (s.heap.push {cls:= .type "dict",data:= .dict #[]}) [dA]=P.adds s2.heap [dA]:=e2'
 have R2':Rel c env ρ₁ σ₁ Z2 (P.adds s2.heap [dA]) μ s2:=by rw[<-e2''];exact R2
 have live2:∀a∈[dA],∃o,s2.heap.get? a=some o:=λa ha=>by rw[mem_singleton.mp ha];exact DictOf.live dd
 have zo:=R2'.looseZ live2
 have R3:=R2'.stepZ (as':=[dA]) (s':={s2 with heap:=h',toks:=s2.toks+vvs.length}) (Z':=Z2) hP1 live2 (λa o m e=>by
  show h'.get? a=some o
  rw[sb.2 a (by simpa using m)];exact e) (FM.le_refl _) (λa o e=>by
  show h'.get? a=some o
  rw[sb.2 a (λq=>by rw[q,zo dA (by simp)] at e;cases e)];exact R2.zh a o e) (λ_ _ e=> .inl e) (λa ha=>⟨.inl ha,zo a ha⟩) ap1 rfl rfl
 have live3:∀a∈[dA],∃o,h'.get? a=some o:=λa ha=>by rw[mem_singleton.mp ha];exact DictOf.live hm
 obtain⟨le4,R4⟩:=R3.1.freeze hP1 ap1 live3
 refine k _ _ _ (FM.le_trans le2 le4) R4 ?_
 rw[Rep]
 exact⟨dA,merged [] kvs,rfl,Cg (by simp) (Nat.ne_of_gt (by rw[<-hD];exact hD▸hbig)) hm,RepE.mono le4 _ _ (RepE.merge _ _ _ _ re RepE.nil nodup_nil)⟩
theorem OX{o i:Expr}{es:List (Key×D)}{kd:D}(h:Ft ρ o i=some (es,kd)):∃x p y q,o= .Name x p/\i= .Name y q/\BE x=false/\BE y=false/\ρ.get x=some (.ownD es)/\ρ.get y=some (.d kd):=by
 unfold Ft at h
 split at h
 ·rename_i x p y q
  split at h
  ·cases h
  ·rename_i hb
   simp only[or_eq_true,not_or,Bool.not_eq_true] at hb
   split at h
   ·rename_i es' k' h1 h2
    cases h
    exact⟨x,p,y,q,rfl,rfl,hb.1,hb.2,h1,h2⟩
   ·cases h
 ·cases h
theorem Pj{o i:Expr}{pos:Pos}{es:List (Key×D)}{kd:D}(h:Ft ρ o i=some (es,kd))(h2:Al (.dict es) kd=some d):EOk c (n+1) (eval (.Subscript o i pos)) ρ σ d ρ σ:=by
 intro A env Z P μ s rm R Q E k
 obtain⟨x,p,y,q,rfl,rfl,hx,hy,gx,gy⟩:=OX h
 obtain⟨vx,as,ho,hμ,_,R1⟩:=R.know gx
 obtain⟨vy,as',ho',hμ',_,R2⟩:=R.know gy
 refine Subscript_ (BM R1 (x:=x) (v:=vx) (by simp) hx (BM R2 (x:=y) (v:=vy) (by simp) hy ?_))
 unfold Al at h2
 simp only[bind_eq_bind,bind_eq_some_iff] at h2
 obtain⟨k',e1,e2⟩:=h2
 obtain⟨a,kvs,rfl,rfl,nm,hd,he⟩:=ho
 rcases RepE.at k' es kvs he with ⟨h1,h2⟩|⟨z,v,h1,h2,h3⟩
 ·rw[h1] at e2;cases e2
 ·rw[h1] at e2;cases e2
  exact CU hd.typeIs slot_dict_getitem.lookup (wpAny_getItem_of (knd:=AV c.prog c.w) (Cq ho'.2 e1) hd.mapOf h2 (k v Z _ (FM.le_refl _) (R.toks _) h3))
theorem TK{x1 x2 x:Str}{v1 v2:Value}:valueAt [(Key.s x1,v1),(Key.s x2,v2)] (Key.s x)=if x1=x then some v1 else if x2=x then some v2 else none:=by
 unfold valueAt
 by_cases h1:x1=x
 ·simp[h1]
 ·by_cases h2:x2=x<;>simp[h1,h2]
theorem Sk(S:Snd c n){o i:Expr}{pos:Pos}{y:D}(h0:Aq n o ρ σ=some (.feed,ρ₁,σ₁))(h1:Aq n i ρ₁ σ₁=some (y,ρ₂,σ₂))(h2:Hk y σ₂=some d):EOk c (n+1) (eval (.Subscript o i pos)) ρ σ d ρ₂ σ₂:=by
 intro A env Z P μ s rm R Q E k
 refine Subscript_ (S.E h0 A env Z P μ s rm.succ R _ _ λvo Z0 s0 le0 R0 r0=>S.E h1 A env Z0 P μ s0 rm.succ R0 _ _ λv1 Z1 s1 le1 R1 r1=> ?_)
 rw[Rep] at r0
 subst r0
 unfold Hk at h2
 simp only[bind_eq_bind,bind_eq_some_iff] at h2
 obtain⟨k',e1,e2⟩:=h2
 obtain⟨nm,vc,t,dd,rc,_⟩:=R1.feed
 have key:=Cq r1 e1
 split at e2
 ·rename_i hk
  subst hk
  cases e2
  refine CU dd.typeIs slot_dict_getitem.lookup (wpAny_getItem_of (knd:=AV c.prog c.w) (k:=Key.s (Str.ofString "spot")) key dd.mapOf (v:= .int σ₂.2 t) ?_ (k _ Z1 _ (FM.le_trans le0 le1) (R1.toks _) (BW _ _)))
  rw[TK,if_neg (by decide),if_pos rfl]
 ·split at e2
  ·rename_i hk
   subst hk
   cases e2
   refine CU dd.typeIs slot_dict_getitem.lookup (wpAny_getItem_of (knd:=AV c.prog c.w) (k:=Key.s (Str.ofString "cells")) key dd.mapOf (v:=vc) ?_ (k _ Z1 _ (FM.le_trans le0 le1) (R1.toks _) rc))
   rw[TK,if_pos rfl]
  ·cases e2
end
section
variable {c:Cx}{K:Frag}{env:Env}{ρ ρ' ρ₁ ρ₂ ρ₃:Ev}{σ σ' σ₁ σ₂ σ₃:St}{Z Z' P:FM}{μ:Str->Option Value}{s s':Shared}{A:Around}{E:Value->Shared->Prop}{L:Addr}{n:Nat}{d:D}
theorem Rel.globKind(R:Rel c env ρ σ Z P μ s){x:Str}(hx:Ao ρ x=true):env.kindOf x=some .globalImplicit:=by
 have K:=R.kinds x
 unfold Ao at hx
 rw[beq_iff_eq.mp hx] at K
 exact K
theorem NC{M:Model}(R:Rel c env ρ σ Z P μ s){x:Str}{pos:Pos}{v:Value}{Q:Value->Shared->Prop}(K:env.kindOf x=some .globalImplicit)(hd:(x==("__debug__" :Str))=false)(G:Dl c x v)(k:Q v s):wpAny M A (eval (.Name x pos) env) Q E s:=by
 obtain⟨mg,hg,h⟩:=G
 have hg':s.heap.Ns env.globals mg:=by rw[R.globals];exact hg.keeps R.keep0
 rcases h with h|⟨h,mb,hb,hv⟩
 ·exact Name_function_global R.fn K (loadGlobal_global hg' h k) hd
 ·exact Name_function_global R.fn K (loadGlobal_builtin hg' h (by rw[R.builtins];exact hb.keeps R.keep0) hv k) hd
theorem Ax{e:Expr} {r}(h:Aq n e ρ σ=some r):∀x p,e≠ .Starred x p:=by
 rintro a b rfl
 cases n<;>simp[Aq] at h
theorem Mw:BP [] env:=rfl
theorem Ay{e:Expr}(h:∀x p,e≠ .Starred x p):BP [e] env:=CF h Mw
theorem BY{M:Model}{e:Expr}{pos:Pos}{Q:List Value->Shared->Prop}(h:∀x p,e≠ .Starred x p)(k:wpAny M A (eval e env) (λv s'=>Q [v] s') E s):wpAny M A (spliced (backTo pos (starEach [e] env))) Q E s:=
 wpAny_items_cons (wpAny_mono k (λv s' q=>wpAny_items_nil q) λ_ _ e=>e) (A7 (Ay h)).1
theorem GT(T:TopOk c K)(S:Snd c n){f cn:Str}{e:Expr}{p p' pos:Pos}{cls:String}{x:D}{b:Bool}(hg:Ao ρ f=true)(hf:f=Str.ofString "isinstance")(hgc:Ao ρ cn=true)(hc:cn=Str.ofString cls)(hcls:cls∈typNames)
 (h1:Aq n e ρ σ=some (x,ρ₁,σ₁)) (h2:Ou x cls=some b):EOk c (n+1) (eval (.Call (.Name f p) [e,.Name cn p'] [] pos)) ρ σ (.bool b) ρ₁ σ₁:=by
 intro A env Z P μ s rm R Q E k
 subst hf;subst hc
 have hns:BP [e,.Name (Str.ofString cls) p'] env:=CF (Ax h1) (Ay λ_ _ q=>by cases q)
 refine Bf R hg (by decide) (T.blt "isinstance" (by decide)) (Ai (P:=λ_=>True) hns (Au (.inr ⟨_,rfl⟩)) ?_)
 have hd:(Str.ofString cls==("__debug__" :Str))=false:=by
  have:typNames.all (λg=> !(Str.ofString g==("__debug__" :Str)))=true:=by decide
  rw[all_eq_true] at this
  simpa using this cls hcls
 refine wpAny_items_cons (S.E h1 A env Z P μ s rm.succ R _ _ λv Z1 s1 le1 R1 r1=> ?_) (A7 hns).1
 refine BY (λ_ _ q=>by cases q) (NC R1 (R.globKind hgc) hd (T.typ cls hcls) ?_)
 exact⟨trivial,R1.prim (Os h2 R1.at r1) λv Z2 s2 le2 R2 r2=>k v Z2 s2 (FM.le_trans le1 le2) R2 r2⟩
theorem JG{rs:List (List Int)}(h:rs.all CQ=true):∀r∈rs,r∈allRows:=λr hr=>Ml (all_eq_true.mp h r hr)
theorem OM(T:TopOk c K)(S:Snd c n){f g:Str}{e:Expr}{p p' pos pos':Pos}{x:D}{xs ys:List D}(hg:Ao ρ f=true)(hf:f=Str.ofString "sorted")(hgg:Ao ρ g=true)(hgs:g=Str.ofString "set")
 (h1:Aq n e ρ σ=some (x,ρ₁,σ₁)) (h2:NZ x=some xs) (h3:DZ xs=some ys):EOk c (n+1) (eval (.Call (.Name f p) [.Call (.Name g p') [e] [] pos'] [] pos)) ρ σ (.list ys) ρ₁ σ₁:=by
 intro A env Z P μ s rm R Q E k
 subst hf;subst hgs
 unfold DZ at h3
 simp only[bind_eq_bind,bind_eq_some_iff] at h3
 obtain⟨rs,hrs,h3⟩:=h3
 split at h3
 ·rename_i hall
  cases h3
  have hun:=rm.un
  refine Bf R hg (by decide) (T.blt "sorted" (by decide)) (Ai (P:=λ_=>True) (Ay λ_ _ q=>by cases q) (Au (.inr ⟨_,rfl⟩)) ?_)
  refine BY (λ_ _ q=>by cases q) ?_
  refine Bf R hgg (by decide) (T.typ "set" (by decide)) (Ai (P:=λ_=>True) (Ay (Ax h1)) (Au (.inl ⟨_,rfl⟩)) ?_)
  refine BY (Ax h1) (S.E h1 A env Z P μ s rm.succ R _ _ λv Z1 s1 le1 R1 r1=>⟨trivial,?_⟩)
  have fin:∀(h':Heap) (tk:Nat),SetAt Z1 (!Bh c.w) h' s1.heap.objs.size rs->(∀b o,s1.heap.get? b=some o->h'.get? b=some o)->
   True/\wpAny (model c.prog c.w) A (call (.builtin "sorted") ([]++[.ref s1.heap.objs.size])) Q E {s1 with heap:=h',toks:=tk}:=λh' tk X kp=>by
   have R2:Rel c env ρ₁ σ₁ Z1 P μ {s1 with heap:=h',toks:=tk}:=R1.grow kp rfl rfl
   exact⟨trivial,R2.prim (KY R2.at rm.1 X) λv Z2 s2 le2 R2 r2=>k v Z2 s2 (FM.le_trans le1 le2) R2 r2⟩
  unfold NZ at h2
  split at h2
  ·cases h2
   rw[Rep] at r1
   obtain⟨a,vs,rfl,t,l⟩:=r1
   exact QP rm.1 (by omega) R1.zh (t.isTuple R1.at) (by simpa using RepL.rowsV _ _ _ l hrs) (JG hall) fin
  ·cases h2
   rw[Rep] at r1
   obtain⟨a,vs,rfl,t,l⟩:=r1
   exact Rs rm.1 (by omega) R1.zh (t.isList R1.at) (by simpa using RepL.rowsV _ _ _ l hrs) (JG hall) fin
  ·cases h2
 ·cases h3
theorem Tm(S:Snd c n){o:Expr}{args:List Expr}{ap cp:Pos}{es:List (Key×D)}{kd dflt:D}{kk:Key}(hb:Bp o=true)(hl:(ap.endLine==cp.line)=true)(hn:args.length<30)(h0:Aq n o ρ σ=some (.dict es,ρ₁,σ₁))(h1:Hn n args ρ₁ σ₁=some ([kd,dflt],ρ₂,σ₂))(h2:EA kd=some kk):
 EOk c (n+1) (eval (.Call (.Attribute o (Str.ofString "get") ap) args [] cp)) ρ σ ((Af kk es).getD dflt) ρ₂ σ₂:=by
 intro A env Z P μ s rm R Q E k
 obtain⟨hns,hL⟩:=S.L h1
 refine Cj hb hl hn (hns env) (S.E h0 A env Z P μ s rm.succ R _ _ λvo Z0 s0 le0 R0 r0 pl=> ?_)
 have r0':=r0
 rw[Rep] at r0'
 obtain⟨a,kvs,rfl,hd,he⟩:=r0'
 have D0:=hd.dictOf R0.at
 refine getMethod_builtin D0.typeIs PySem.F.plainAttrs_dict PySem.F.slot_dict_get PySem.F.type_dict_get D0.mapOf.noDict ?_
 refine Ai (P:=λ_=>True) (hns env) (Au (.inr ⟨_,rfl⟩)) (hL cp A env Z0 P μ s0 rm.succ R0 _ _ λvs Z1 s1 le1 R1 r1=>⟨trivial,?_⟩)
 rw[RepL] at r1
 obtain⟨vk,r',rfl,rk,r1⟩:=r1
 rw[RepL] at r1
 obtain⟨vd,r',rfl,rd,r1⟩:=r1
 rw[RepL] at r1;subst r1
 have D1:=(hd.mono le1).dictOf R1.at
 refine call_meetsIn PySem.F.slot_dict_get D1.typeIs PySem.F.entry_dict_get (PySem.F.args_dict_get_3 _ _ _) (meets_dict_get_default (AV c.prog c.w) a (Cq rk h2) (Cc hd.1) vd) ⟨_,D1.mapOf,?_⟩
 refine k _ Z1 _ (FM.le_trans le0 le1) (R1.toks _) ?_
 rcases RepE.at kk es kvs he with ⟨h1,h2⟩|⟨x,v,h1,h2,h3⟩
 ·rw[h1,h2];exact rd
 ·rw[h1,h2];exact Rep.mono le1 _ _ h3
theorem Oc(T:TopOk c K)(S:Snd c n){o:Expr}{m f:Str}{args:List Expr}{ap cp:Pos}{x:D}{as:List D}(hb:Bp o=true)(hl:(ap.endLine==cp.line)=true)(hn:args.length<30)(h0:Aq n o ρ σ=some (x,ρ₁,σ₁))(h1:Hn n args ρ₁ σ₁=some (as,ρ₂,σ₂))
 (h2:HA x m=some f) (h3:AQ n f (x::as) σ₂=some (d,σ₃)):EOk c (n+1) (eval (.Call (.Attribute o m ap) args [] cp)) ρ σ d ρ₂ σ₃:=by
 intro A env Z P μ s rm R Q E k
 obtain⟨hns,hL⟩:=S.L h1
 refine Cj hb hl hn (hns env) (S.E h0 A env Z P μ s rm.succ R _ _ λvo Z0 s0 le0 R0 r0 pl=> ?_)
 have X:K.In s0.heap:=T.X.keeps R0.keep0
 have go:∀{C:Addr} (ck:ClsK K C) {mm:Str} (MA:E9 c K C mm f) {a:Addr} {ox od:Obj} {kvs:List (Key×Value)},vo= .ref a->InstAt s0.heap a ox C (some od)->od.IsDictOf (AV c.prog c.w) kvs->valueAt kvs (Key.s mm)=none->m=mm->
  wpAny (model c.prog c.w) A (getMethod vo m pl) (λfx s₂=>wpAny (model c.prog c.w) A (callWith cp fx.1 fx.2 (backTo cp (starEach args env)) []) Q E s₂) E s0:=by
  rintro C ck mm ⟨fa,fi,hfi,hfn,hlook,F⟩ a ox od kvs rfl I hd hv rfl
  refine GX X ck I hd hv hfi hfn ?_
  refine Ai (P:=JN fa) (hns env) EB (hL cp A env Z0 P μ s0 rm.succ R0 _ _ λvs Z1 s1 le1 R1 r1=>⟨MB R1 F,?_⟩)
  refine H9 (bo:=false) S h3 (by rfl) hlook F rm.succ R1 (by rw[if_neg Bool.false_ne_true];exact RepL.cons (Rep.mono le1 _ _ r0) r1) λv Z2 s2 le2 R2 r2=>k v Z2 s2 (FM.le_trans le0 (FM.le_trans le1 le2)) R2 r2
 unfold HA at h2
 split at h2
 ·split at h2
  ·rename_i hm
   cases h2
   have r0':=r0
   rw[Rep] at r0'
   obtain⟨p,da,v1,v2,rfl,i,dd,_,_⟩:=r0'
   obtain⟨od,I,hd⟩:=FL R0.at i dd
   exact go T.ucls (mm:= "size") T.usize rfl I hd (by rw[GC,if_neg (by decide),if_neg (by decide)]) hm
  ·cases h2
 ·split at h2
  ·rename_i hm
   cases h2
   have r0':=r0
   rw[Rep] at r0'
   obtain⟨p,da,v1,v2,v3,rfl,i,dd,_,_,_⟩:=r0'
   obtain⟨od,I,hd⟩:=FL R0.at i dd
   exact go T.bcls (mm:= "upper") T.bupper rfl I hd (by rw[Cn,if_neg (by decide),if_neg (by decide),if_neg (by decide)]) hm
  ·cases h2
 ·cases h2
end
section
variable {c:Cx}{K:Frag}{env:Env}{ρ ρ' ρ₁ ρ₂ ρ₃:Ev}{σ σ' σ₁ σ₂ σ₃:St}{Z Z' P:FM}{μ:Str->Option Value}{s s':Shared}{A:Around}{E:Value->Shared->Prop}{L:Addr}{n:Nat}{d:D}
theorem EOk.up{t:Env->Sem Value}(h:EOk c n t ρ σ d ρ' σ'):EOk c (n+1) t ρ σ d ρ' σ':=λA env Z P μ s rm R Q E k=>h A env Z P μ s rm.succ R Q E k
theorem RB(T:TopOk c K){x:Str}{pos:Pos}(hg:Ao ρ x=true)(h:L8 x=some d):EOk c n (eval (.Name x pos)) ρ σ d ρ σ:=by
 intro A env Z P μ s rm R Q E k
 unfold L8 at h
 split at h
 ·rename_i hx
  subst hx
  cases h
  obtain⟨a,o,m,t1,t2,t3,t4,G,ho,hc,hd⟩:=T.pairs
  refine KB R hg (by decide) G (k _ Z s (FM.le_refl _) R ?_)
  exact CJ (vs:=[.str (Str.ofString "union") t1,.str (Str.ofString "meet") t2,.str (Str.ofString "minus") t3,.str (Str.ofString "override") t4]) ⟨o,m,R.base _ _ ho,hc,hd⟩
   (RepL.cons (ER _ _) (RepL.cons (ER _ _) (RepL.cons (ER _ _) (RepL.cons (ER _ _) RepL.nil))))
 ·cases h
theorem Sx(T:TopOk c K)(hU:MW c)(S:Snd c n){e:Expr}(h:Aq (n+1) e ρ σ=some (d,ρ',σ')):EOk c (n+1) (eval e) ρ σ d ρ' σ':=by
 unfold Aq at h
 split at h
 ·cases h;intro A env Z P μ s rm R Q E k;exact wpAny_Constant_none (k _ Z s (FM.le_refl _) R GL)
 ·cases h;intro A env Z P μ s rm R Q E k;exact wpAny_Constant_bool (k _ Z s (FM.le_refl _) R (A2 _))
 ·cases h;intro A env Z P μ s rm R Q E k;exact wpAny_Constant_int (k _ Z _ (FM.le_refl _) (R.toks _) (BW _ _))
 ·cases h;intro A env Z P μ s rm R Q E k;exact wpAny_Constant_str (k _ Z _ (FM.le_refl _) (R.toks _) (ER _ _))
 ·
  split at h
  ·rename_i hg
   rw[map_eq_some_iff] at h
   obtain⟨y,hy,e⟩:=h
   cases e
   exact RB T hg hy
  ·rename_i hg
   split at h
   ·cases h
   ·rename_i hb
    simp only[bind_eq_bind,bind_eq_some_iff] at h
    obtain⟨W,hW,h⟩:=h
    refine RI (by simpa using hg) (by simpa using hb) hW ?_
    cases W<;>first|exact h|(simp only[bind_eq_some_iff] at h⊢;exact h)
 ·
  simp only[bind_eq_bind,bind_eq_some_iff] at h
  obtain⟨⟨a,ρ₁,σ₁⟩,h1,⟨b,ρ₂,σ₂⟩,h2,y,h3,h⟩:=h
  cases h
  exact(Ty S h1 h2 h3).up
 ·cases h
  intro A env Z P μ s rm R Q E k
  exact wpAny_UnaryOp (wpAny_Constant_int (neg_int (k _ Z _ (FM.le_refl _) ((R.toks _).toks _) (BW _ _))))
 ·simp only[bind_eq_bind,bind_eq_some_iff] at h
  obtain⟨⟨x,ρ₁,σ₁⟩,h1,h2⟩:=h
  exact(RX S h1 h2).up
 ·simp only[bind_eq_bind,bind_eq_some_iff] at h
  obtain⟨⟨a,ρ₁,σ₁⟩,h1,⟨b,ρ₂,σ₂⟩,h2,y,h3,h⟩:=h
  cases h
  exact(Tv S h1 h2 h3).up
 ·simp only[bind_eq_bind,bind_eq_some_iff] at h
  obtain⟨⟨ds,ρ₁,σ₁⟩,h1,h⟩:=h
  split at h
  ·cases h;exact(Qw S h1 ‹_›).up
  ·cases h
 ·simp only[bind_eq_bind,bind_eq_some_iff] at h
  obtain⟨⟨ds,ρ₁,σ₁⟩,h1,h⟩:=h
  split at h
  ·cases h;exact(Sd S h1 ‹_›).up
  ·cases h
 ·
  split at h
  ·cases h
  ·rename_i hq
   simp only[or_eq_true,not_or,Bool.not_eq_true,decide_eq_false_iff_not] at hq
   simp only[bind_eq_bind,bind_eq_some_iff] at h
   obtain⟨⟨es,ρ₁,σ₁⟩,h1,h⟩:=h
   cases h
   exact S1 T S h1 (λq=>by rw[q] at hq;simp at hq) (by omega)
 ·split at h
  ·cases h
  ·rename_i hb
   simp only[bind_eq_bind,bind_eq_some_iff] at h
   obtain⟨⟨x,ρ₁,σ₁⟩,h1,y,h2,h⟩:=h
   cases h
   exact(S5 T S (by simpa using hb) h1 h2).up
 ·simp only[bind_eq_bind,bind_eq_some_iff] at h
  obtain⟨⟨x,ρ₁,σ₁⟩,h0,⟨a,ρ₂,σ₂⟩,h1,⟨b,ρ₃,σ₃⟩,h2,⟨y,ρ₄,σ₄⟩,h3,z,h4,h⟩:=h
  cases h
  exact(Q2 S h0 h1 h2 h3 h4).up
 ·
  split at h
  ·rename_i es kd hs
   rw[map_eq_some_iff] at h
   obtain⟨y,hy,e⟩:=h
   cases e
   exact Pj hs hy
  ·simp only[bind_eq_bind,bind_eq_some_iff] at h
   obtain⟨⟨x,ρ₁,σ₁⟩,h0,⟨y,ρ₂,σ₂⟩,h1,h⟩:=h
   split at h
   ·rename_i hx
    have hx':x= .feed:=hx
    subst hx'
    simp only[bind_eq_bind,bind_eq_some_iff] at h
    obtain⟨z,h2,h⟩:=h
    cases h
    exact Sk S h0 h1 h2
   ·simp only[bind_eq_bind,bind_eq_some_iff] at h
    obtain⟨z,h2,h⟩:=h
    cases h
    exact(TR S h0 h1 h2).up
 ·
  split at h
  ·cases h
  ·rename_i hc
   simp only[not_eq_true',Bool.not_eq_false,and_eq_true] at hc
   simp only[bind_eq_bind,bind_eq_some_iff] at h
   obtain⟨⟨xs,ρ₁,σ₁⟩,h1,h⟩:=h
   split at h
   ·cases h
   ·rename_i hf
    simp only[bind_eq_some_iff] at h
    obtain⟨⟨ys,ρe,σ₂⟩,h2,h⟩:=h
    split at h
    ·cases h
     exact S3 S hc.1 hc.2 h1 (by simpa using hf) h2 ‹_›
    ·cases h
 ·
  split at h
  ·cases h
  ·rename_i f p args pos hg
   have hg':Ao ρ f=true:=by simpa using hg
   split at h
   split at h
   ·rename_i hf
    split at h
    ·rename_i e cn p'
     split at h
     ·rename_i hgc
      simp only[bind_eq_bind,bind_eq_some_iff] at h
      obtain⟨⟨x,ρ₁,σ₁⟩,h1,h⟩:=h
      split at h
      ·rename_i hc
       simp only[bind_eq_some_iff] at h
       obtain⟨b,h2,h⟩:=h
       cases h
       exact GT T S hg' hf hgc hc (by decide) h1 h2
      ·split at h
       ·rename_i hc
        simp only[bind_eq_some_iff] at h
        obtain⟨b,h2,h⟩:=h
        cases h
        exact GT T S hg' hf hgc hc (by decide) h1 h2
       ·split at h
        ·rename_i hc
         simp only[bind_eq_some_iff] at h
         obtain⟨b,h2,h⟩:=h
         cases h
         exact GT T S hg' hf hgc hc (by decide) h1 h2
        ·split at h
         ·rename_i hc
          simp only[bind_eq_some_iff] at h
          obtain⟨b,h2,h⟩:=h
          cases h
          exact GT T S hg' hf hgc hc (by decide) h1 h2
         ·cases h
     ·cases h
    ·cases h
   ·split at h
    ·rename_i g p' e pos' heq
     split at heq
     ·rename_i hf
      subst heq
      split at h
      ·rename_i hgg
       split at h
       ·rename_i hgs
        simp only[bind_eq_bind,bind_eq_some_iff] at h
        obtain⟨⟨x,ρ₁,σ₁⟩,h1,xs,h2,ys,h3,h⟩:=h
        cases h
        exact OM T S hg' hf hgg hgs h1 h2 h3
       ·exact(S.C h hg').up
      ·cases h
     ·cases heq
    ·exact(S.C h hg').up
 ·
  split at h
  ·cases h
  ·rename_i hq
   simp only[not_eq_true',Bool.not_eq_false,and_eq_true,decide_eq_true_eq] at hq
   simp only[bind_eq_bind,bind_eq_some_iff] at h
   obtain⟨⟨x,ρ₁,σ₁⟩,h0,⟨as,ρ₂,σ₂⟩,h1,h⟩:=h
   split at h
   ·rename_i es hx
    have hx':x= .dict es:=hx
    subst hx'
    split at h
    ·rename_i hm
     subst hm
     split at h
     ·rename_i kd dflt has
      have has':as=[kd,dflt]:=has
      subst has'
      simp only[bind_eq_some_iff] at h
      obtain⟨kk,h2,h⟩:=h
      cases h
      exact Tm S hq.1.1 hq.1.2 hq.2 h0 h1 h2
     ·cases h
    ·cases h
   ·simp only[bind_eq_some_iff] at h
    obtain⟨f,h2,⟨r,σ₃⟩,h3,h⟩:=h
    cases h
    exact Oc T S hq.1.1 hq.1.2 hq.2 h0 h1 h2 h3
 ·cases h
end
section
variable {c:Cx}{K:Frag}{env:Env}{ρ ρ' ρ₁ ρ₂ ρ₃:Ev}{σ σ' σ₁ σ₂ σ₃:St}{Z Z' P:FM}{μ:Str->Option Value}{s s':Shared}{A:Around}{E:Value->Shared->Prop}{L:Addr}{n:Nat}{d:D}
theorem Su(S:Snd c n){es:List Expr}{ds:List D}(h:Hn (n+1) es ρ σ=some (ds,ρ',σ')):(∀env,BP es env)/\∀pos,U7 c (n+1) (λenv=>spliced (backTo pos (starEach es env))) ρ σ ds ρ' σ':=by
 unfold Hn at h
 split at h
 ·cases h
  exact⟨λ_=>rfl,λpos A env Z P μ s rm R Q E k=>wpAny_items_nil (k [] Z s (FM.le_refl _) R RepL.nil)⟩
 ·cases h
 ·rename_i e r hns
  simp only[bind_eq_bind,bind_eq_some_iff] at h
  obtain⟨⟨d,ρ₁,σ₁⟩,h1,⟨ds',ρ₂,σ₂⟩,h2,h⟩:=h
  cases h
  obtain⟨n2,L2⟩:=S.L h2
  have hs:∀env,BP (e::r) env:=λenv=>CF (Ax h1) (n2 env)
  refine⟨hs,λpos A env Z P μ s rm R Q E k=> ?_⟩
  exact wpAny_items_cons (S.E h1 A env Z P μ s rm.succ R _ _ λv Z1 s1 le1 R1 r1=>L2 pos A env Z1 P μ s1 rm.succ R1 _ _ λvs Z2 s2 le2 R2 r2=>k _ Z2 s2 (FM.le_trans le1 le2) R2 (RepL.cons (Rep.mono le2 _ _ r1) r2)) (A7 (hs env)).1
theorem MI(S:Snd c n){e:Expr}{r:List Expr}{d:D}{ds:List D}{bo:Bool}(h1:Aq n e ρ σ=some (d,ρ₁,σ₁))(h2:Ku n r ρ₁ σ₁=some (ds,bo,ρ₂,σ₂)):
 (∀env,BP (e::r) env)/\∀pos,U1 c (n+1) (λenv=>spliced (backTo pos (starEach (e::r) env))) ρ σ (d::ds) bo ρ₂ σ₂:=by
 obtain⟨n2,L2⟩:=S.A h2
 have hs:∀env,BP (e::r) env:=λenv=>CF (Ax h1) (n2 env)
 refine⟨hs,λpos A env Z P μ s rm R Q E k=> ?_⟩
 refine wpAny_items_cons (S.E h1 A env Z P μ s rm.succ R _ _ λv Z1 s1 le1 R1 r1=>L2 pos A env Z1 P μ s1 rm.succ R1 _ _ λvs Z2 s2 le2 R2 r2=>k _ Z2 s2 (FM.le_trans le1 le2) R2 ?_) (A7 (hs env)).1
 cases bo with
 |false=>rw[if_neg Bool.false_ne_true] at r2⊢;exact RepL.cons (Rep.mono le2 _ _ r1) r2
 |true=>
  obtain⟨a,o,h1,h2,h3,h4,h5⟩:=r2
  refine⟨a,o,h1,h2,h3,h4,RepL.cons (Rep.mono (FM.le_trans le2 λb ob e=> ?_) _ _ r1) h5⟩
  rw[FM.adds_out (by rintro hm;rw[mem_singleton.mp hm,h2] at e;cases e)];exact e
theorem Sz(S:Snd c n){es:List Expr}{ds:List D}{bo:Bool}(h:Ku (n+1) es ρ σ=some (ds,bo,ρ',σ')):(∀env,BP es env)/\∀pos,U1 c (n+1) (λenv=>spliced (backTo pos (starEach es env))) ρ σ ds bo ρ' σ':=by
 unfold Ku at h
 split at h
 ·cases h
  exact⟨λ_=>rfl,λpos A env Z P μ s rm R Q E k=>wpAny_items_nil (k [] Z s (FM.le_refl _) R (by rw[if_neg Bool.false_ne_true];exact RepL.nil))⟩
 ·cases h
 ·rename_i x p r
  split at h
  ·rename_i es' hx
   split at h
   ·cases h
   ·rename_i hb
    simp only[or_eq_true,not_or,Bool.not_eq_true] at hb
    split at h
    ·cases h
     have hs:∀env,BP [.Name x p] env:=λenv=>Ay λ_ _ q=>by cases q
     refine⟨hs,λpos A env Z P μ s rm R Q E k=> ?_⟩
     obtain⟨v,as,ho,hμ,hfree,R1⟩:=R.know hx
     refine BY (λ_ _ q=>by cases q) (BM R1 (x:=x) (v:=v) (by simp) hb.2 ?_)
     obtain⟨a,kvs,rfl,rfl,nm,dd,he⟩:=ho
     obtain⟨za,_,fa,_⟩:=hfree a (by simp)
     obtain⟨o,ho,hd⟩:=Heap.dictOf_iff.mp dd
     refine k _ Z s (FM.le_refl _) R ?_
     rw[if_pos rfl]
     have le:Z.le (Z.adds s.heap [a]):=λb ob e=>by
      rw[FM.adds_out (by rintro hm;rw[mem_singleton.mp hm,za] at e;cases e)];exact e
     refine⟨a,o,ho,za,fa,?_,RepL.cons ?_ RepL.nil⟩
     ·obtain⟨es,ep,hx,_⟩:=hd;exact hx.1
     ·rw[Rep];exact⟨a,kvs,rfl,Cg (by simp) nm dd,RepE.mono le _ _ he⟩
    ·cases h
  ·simp only[bind_eq_bind,bind_eq_some_iff] at h
   obtain⟨⟨d,ρ₁,σ₁⟩,h1,⟨ds',b,ρ₂,σ₂⟩,h2,h⟩:=h
   cases h
   exact MI S h1 h2
 ·rename_i e r _ _
  simp only[bind_eq_bind,bind_eq_some_iff] at h
  obtain⟨⟨d,ρ₁,σ₁⟩,h1,⟨ds',b,ρ₂,σ₂⟩,h2,h⟩:=h
  cases h
  exact MI S h1 h2
theorem Sp(S:Snd c n){ks:List (Option Expr)}{vs:List Expr}{es:List (Key×D)}(h:N1 (n+1) ks vs ρ σ=some (es,ρ',σ')):
 ∃ks':List Expr,ks=ks'.map some/\ks'.length=vs.length/\∀pos,U5 c (n+1) (λenv=>evalPairs ((evalEach ks' env).zip ((evalEach vs env).map λv=>do let x<-v;standAt pos;pure x))) ρ σ es ρ' σ':=by
 unfold N1 at h
 split at h
 ·cases h
  exact⟨[],rfl,rfl,λpos A env Z P μ s rm R Q E k=>evalPairs_nil (k [] [] Z s (FM.le_refl _) R trivial RepE.nil)⟩
 ·rename_i k0 ks v vs
  simp only[bind_eq_bind,bind_eq_some_iff] at h
  obtain⟨⟨a,ρ₁,σ₁⟩,h1,kk,hk,⟨b,ρ₂,σ₂⟩,h2,⟨r,ρ₃,σ₃⟩,h3,h⟩:=h
  cases h
  obtain⟨ks',rfl,hl,hP⟩:=S.P h3
  refine⟨k0::ks',rfl,by simp[hl],λpos A env Z P μ s rm R Q E k=> ?_⟩
  show wpAny _ _ (evalPairs ((eval k0 env,do let x<-eval v env;standAt pos;pure x)::(evalEach ks' env).zip ((evalEach vs env).map λv=>do let x<-v;standAt pos;pure x))) _ _ _
  refine evalPairs_cons (S.E h1 A env Z P μ s rm.succ R _ _ λvk Z1 s1 le1 R1 r1=>wpAny_bind (S.E h2 A env Z1 P μ s1 rm.succ R1 _ _ λvv Z2 s2 le2 R2 r2=>wpAny_bind (wpAny_standAt (wpAny_pure ?_))))
  exact hP pos A env Z2 P μ s2 rm.succ R2 _ _ λvvs kvs Z3 s3 le3 R3 car re=>k _ ((kk,vv)::kvs) Z3 s3 (FM.le_trans le1 (FM.le_trans le2 le3)) R3 ⟨Cq r1 hk,rfl,car⟩ (RepE.cons (Rep.mono le3 _ _ r2) re)
 ·cases h
theorem Sq(S:Snd c n){e:Option Expr}(h:Kt (n+1) e ρ σ=some (d,ρ',σ')):EOk c (n+1) (λenv=>evalPart e env) ρ σ d ρ' σ':=by
 unfold Kt at h
 split at h
 ·cases h;exact λA env Z P μ s rm R Q E k=>wpAny_pure (k _ Z s (FM.le_refl _) R GL)
 ·exact(S.E h).up
theorem H2{M:Model}{d:D}{b:Bool}{v:Value}(R:Rel c env ρ σ Z P μ s)(r:Rep c Z d v)(e:Gs d=some b){Q:Bool->Shared->Prop}(k:∀Z' s',Z.le Z'->Rel c env ρ σ Z' P μ s'->Q b s'):wpAny (model c.prog c.w) A (truthy v) Q E s:=
 PR R.at r e Q E λZ' s' X=>k Z' s' X.le (R.ext X)
theorem ID{M:Model}{vs keep:List Value}{Q:Unit->Shared->Prop}(h:Q () s):wpAny M A (release vs keep) Q E s:=λΓ p hΓ=>by rw[Sem.wp_release];exact h
theorem IE{M:Model}{vs:List Value}{m:Sem Value}{Q:Value->Shared->Prop}(h:wpAny M A m Q E s):wpAny M A (operate vs m) Q E s:=λΓ p hΓ=>by rw[Sem.wp_operate];exact h Γ p hΓ
theorem EX{e:Expr}{env:Env}{whole:Sem Value}(n1:∀x p,e= .UnaryOp .Not x p->False)(n2:∀op vs p,e= .BoolOp op vs p->False)(n3:∀a b c p,e= .IfExp a b c p->False)(n4:∀l ops rs p,e= .Compare l ops rs p->False):
 isTrue e env whole=(do let v<-whole;standAt e.pos;holding [v] (truthy v)):=by
 cases e with
 |UnaryOp op x p=>cases op<;>first|rfl|exact(n1 _ _ rfl).elim
 |BoolOp a b p=>exact(n2 _ _ _ rfl).elim
 |IfExp a b d p=>exact(n3 _ _ _ _ rfl).elim
 |Compare a b d p=>exact(n4 _ _ _ _ rfl).elim
 |_=>rfl
theorem Sn(S:Snd c n){e:Expr}{b:Bool}(h:Ed (n+1) e ρ σ=some (b,ρ',σ')):TJ c (n+1) (λenv=>isTrue e env (eval e env)) ρ σ b ρ' σ':=by
 unfold Ed at h
 split at h
 ·simp only[bind_eq_bind,bind_eq_some_iff] at h
  obtain⟨⟨x,ρ₁,σ₁⟩,h1,h⟩:=h
  cases h
  exact λA env Z P μ s rm R Q E k=>wpAny_isTrue_Not (S.T h1 A env Z P μ s rm.succ R _ _ λZ1 s1 le1 R1=>k Z1 s1 le1 R1)
 ·exact λA env Z P μ s rm R Q E k=>wpAny_isTrue_BoolOp (S.B h A env Z P μ s rm.succ R _ _ k)
 ·cases h
 ·rename_i l op r pos
  simp only[bind_eq_bind,bind_eq_some_iff] at h
  obtain⟨⟨a,ρ₁,σ₁⟩,h1,⟨y,ρ₂,σ₂⟩,h2,z,h3,h⟩:=h
  cases h
  intro A env Z P μ s rm R Q E k
  refine wpAny_isTrue_Compare1 (S.E h1 A env Z P μ s rm.succ R _ _ λva Z1 s1 le1 R1 r1=>S.E h2 A env Z1 P μ s1 rm.succ R1 _ _ λvb Z2 s2 le2 R2 r2=> ?_) (Kf h2 op)
  exact R2.prim (Ky R2.at rm (Rep.mono le2 _ _ r1) r2 h3) λv Z3 s3 le3 R3 r3=>H2 (M:=model c.prog c.w) R3 r3 rfl λZ4 s4 le4 R4=>k Z4 s4 (FM.le_trans le1 (FM.le_trans le2 (FM.le_trans le3 le4))) R4
 ·rename_i l op₁ op₂ r₁ r₂ pos
  simp only[bind_eq_bind,bind_eq_some_iff] at h
  obtain⟨⟨a,ρ₁,σ₁⟩,h1,⟨y,ρ₂,σ₂⟩,h2,z,h3,h⟩:=h
  intro A env Z P μ s rm R Q E k
  show wpAny _ _ (isTrue (.Compare l [op₁,op₂] [r₁,r₂] pos) env (eval (.Compare l [op₁,op₂] [r₁,r₂] pos) env)) _ _ _
  rw[arm_isTrue_Compare]
  have em:markedEach [op₁,op₂] [r₁,r₂] (evalEach [r₁,r₂] env)=[eval r₁ env,markedBehindIn op₂ r₂ (eval r₂ env)]:=rfl
  rw[em]
  refine wpAny_bind (S.E h1 A env Z P μ s rm.succ R _ _ λva Z1 s1 le1 R1 r1=> ?_)
  show wpAny _ _ (do
   let rv<-holding [va] (eval r₁ env)
   standAt pos
   let c<-holding [va,rv] (compareOp op₁ va rv)
   release [va,rv] [c]
   if<-holding [c,rv] (truthy c) then testChain pos rv [op₂] [markedBehindIn op₂ r₂ (eval r₂ env)] else pure false) _ _ _
  refine wpAny_bind (wpAny_holding (S.E h2 A env Z1 P μ s1 rm.succ R1 _ _ λvb Z2 s2 le2 R2 r2=>wpAny_bind (wpAny_standAt (wpAny_bind (wpAny_holding ?_)))))
  refine R2.prim (Ky R2.at rm (Rep.mono le2 _ _ r1) r2 h3) λv Z3 s3 le3 R3 r3=>wpAny_bind (ID (wpAny_bind (wpAny_holding ?_)))
  refine H2 (M:=model c.prog c.w) R3 r3 rfl λZ4 s4 le4 R4=> ?_
  have le:Z.le Z4:=FM.le_trans le1 (FM.le_trans le2 (FM.le_trans le3 le4))
  cases z with
  |false=>
   cases h
   exact wpAny_pure (k Z4 s4 le R4)
  |true=>
   simp only[if_true,bind_eq_some_iff] at h⊢
   obtain⟨⟨w,ρ₃,σ₃⟩,h4,q,h5,h⟩:=h
   cases h
   rw[markedBehindIn_of_false (Kf h4 op₂)]
   show wpAny _ _ (do
    let rv<-holding [vb] (eval r₂ env)
    standAt pos
    let c<-operate [vb,rv] (compareOp op₂ vb rv)
    holding [c] (truthy c)) _ _ _
   refine wpAny_bind (wpAny_holding (S.E h4 A env Z4 P μ s4 rm.succ R4 _ _ λvc Z5 s5 le5 R5 r5=>wpAny_bind (wpAny_standAt (wpAny_bind (IE ?_)))))
   refine R5.prim (Ky R5.at rm (Rep.mono (FM.le_trans le3 (FM.le_trans le4 le5)) _ _ r2) r5 h5) λv Z6 s6 le6 R6 r6=>wpAny_holding ?_
   exact H2 (M:=model c.prog c.w) R6 r6 rfl λZ7 s7 le7 R7=>k Z7 s7 (FM.le_trans le (FM.le_trans le5 (FM.le_trans le6 le7))) R7
 ·cases h
 ·rename_i e n1 n2 n3 n4 n5 n6
  simp only[bind_eq_bind,bind_eq_some_iff] at h
  obtain⟨⟨x,ρ₁,σ₁⟩,h1,z,h2,h⟩:=h
  cases h
  intro A env Z P μ s rm R Q E k
  refine wpAny_isTrue_value (S.E h1 A env Z P μ s rm.succ R _ _ λv Z1 s1 le1 R1 r1=>H2 (M:=model c.prog c.w) R1 r1 h2 λZ2 s2 le2 R2=>k Z2 s2 (FM.le_trans le1 le2) R2) ?_
  first|exact EX n1 n2 n3 n4|exact EX n1 n2 n3 n5|exact EX n1 n2 n3 n6
end
section
variable {c:Cx}{K:Frag}{env:Env}{ρ ρ' ρ₁ ρ₂ ρ₃:Ev}{σ σ' σ₁ σ₂ σ₃:St}{Z Z' P:FM}{μ:Str->Option Value}{s s':Shared}{A:Around}{E:Value->Shared->Prop}{L:Addr}{n:Nat}{d:D}
theorem Sy(S:Snd c n){op:BoolOp}{es:List Expr}{b:Bool}(h:MH (n+1) op es ρ σ=some (b,ρ',σ')):TJ c (n+1) (allTrue op es) ρ σ b ρ' σ':=by
 unfold MH at h
 split at h
 ·cases h
  intro A env Z P μ s rm R Q E k
  cases op
  ·exact wpAny_allTrue_And_nil (k Z s (FM.le_refl _) R)
  ·exact wpAny_allTrue_Or_nil (k Z s (FM.le_refl _) R)
 ·rename_i e r
  simp only[bind_eq_bind,bind_eq_some_iff] at h
  obtain⟨⟨x,ρ₁,σ₁⟩,h1,h⟩:=h
  intro A env Z P μ s rm R Q E k
  cases op with
  |And=>
   refine wpAny_allTrue_And_cons (S.T h1 A env Z P μ s rm.succ R _ _ λZ1 s1 le1 R1=> ?_)
   cases x with
   |false=>cases h;exact k Z1 s1 le1 R1
   |true=>exact S.B h A env Z1 P μ s1 rm.succ R1 _ _ λZ2 s2 le2 R2=>k Z2 s2 (FM.le_trans le1 le2) R2
  |Or=>
   refine wpAny_allTrue_Or_cons (S.T h1 A env Z P μ s rm.succ R _ _ λZ1 s1 le1 R1=> ?_)
   cases x with
   |true=>cases h;exact k Z1 s1 le1 R1
   |false=>exact S.B h A env Z1 P μ s1 rm.succ R1 _ _ λZ2 s2 le2 R2=>k Z2 s2 (FM.le_trans le1 le2) R2
theorem RZ(S:Snd c n){es:List Expr}{b:Bool}(h:Hy (n+1) es ρ σ=some (b,ρ',σ')):
 TJ c (n+1) (λenv=>forIn es true λc r=>if r=true then do let ok<-isTrue c env (eval c env);pure (ForInStep.yield ok) else pure (ForInStep.yield r)) ρ σ b ρ' σ':=by
 unfold Hy at h
 split at h
 ·cases h
  exact λA env Z P μ s rm R Q E k=>wpAny_tests_nil (k Z s (FM.le_refl _) R)
 ·exact λA env Z P μ s rm R Q E k=>wpAny_tests_one (S.T h A env Z P μ s rm.succ R Q E k)
 ·cases h
theorem Kk{e:Expr}(h:(match e with
 | .Call (.Name f _) [x] [] _=>if f=Str.ofString "enumerate" then some (f,x) else none
 |_=>none:Option (Str×Expr))=none):HH e=false:=by
 unfold HH
 split
 ·rename_i f p x q
  have h':(if f=Str.ofString "enumerate" then some (f,x) else none)=none:=h
  by_cases hf:f=Str.ofString "enumerate"
  ·rw[if_pos hf] at h';cases h'
  ·simpa using hf
 ·rfl
theorem Rb(T:TopOk c K)(S:Snd c n):TC c (n+1):=by
 intro e ρ σ xs ρ' σ' h A env Z P μ s rm R
 unfold FQ at h
 split at h
 ·rename_i f x heq
  split at heq
  ·rename_i f' p x' q
   split at heq
   ·rename_i hf
    cases heq
    split at h
    ·rename_i hg
     simp only[bind_eq_bind,bind_eq_some_iff] at h
     obtain⟨⟨d,ρ₁,σ₁⟩,h1,h⟩:=h
     split at h
     ·rename_i ys hd
      have hd':d= .list ys:=hd
      subst hd'
      cases h
      subst hf
      refine⟨λ_=>rfl,λQ E k=> ?_⟩
      refine Bf R hg (by decide) (T.typ "enumerate" (by decide)) (Ai (P:=λ_=>True) (Ay (Ax h1)) (Au (.inl ⟨_,rfl⟩)) ?_)
      refine BY (Ax h1) (S.E h1 A env Z P μ s rm.succ R _ _ λv Z1 s1 le1 R1 r1=>⟨trivial,?_⟩)
      refine Rj rm.1 R1.zh r1 λI own SS s2 W st new kp g os=> ?_
      obtain⟨R2,hP,ap⟩:=R1.lay kp new g os
      exact W.self 0 s2 Q E st (k I own SS Z1 s2 le1 W st R2 hP ap)
     ·cases h
    ·cases h
   ·cases heq
  ·cases heq
 ·rename_i heq
  simp only[bind_eq_bind,bind_eq_some_iff] at h
  obtain⟨⟨d,ρ₁,σ₁⟩,h1,ys,h2,h⟩:=h
  cases h
  refine⟨Oy (Pq h1) env,λQ E k=> ?_⟩
  refine S.E h1 A env Z P μ s rm.succ R _ _ λv Z1 s1 le1 R1 r1=> ?_
  refine Nq rm.1 R1.zh r1 h2 λI own SS s2 W st new kp g os=> ?_
  obtain⟨R2,hP,ap⟩:=R1.lay kp new g os
  exact k I own SS Z1 s2 le1 (by rw[Kk heq];exact W) st R2 hP ap
theorem QL{α:Type}{l:List α}{k:Nat}{x:α}{r:List α}(h:l.drop k=x::r):l[k]? =some x/\l.drop (k+1)=r:=by
 constructor
 ·have:=congrArg (λl=>l[0]?) h
  simpa using this
 ·have:=congrArg List.tail h
  simpa[List.tail_drop] using this
theorem O3{α:Type}{l:List α}{k:Nat}(h:l.drop k=[]):l[k]? =none:=by
 rw[List.getElem?_eq_none_iff]
 have:=congrArg List.length h
 simp at this;omega
theorem Rd(S:Snd c n):UC c (n+1):=by
 intro g gs elt d ρ σ ys ρ' σ' h A env Z P s scope pos allG depth acc vs xs v rm hasync hg hgs R hPa apa pl rl hlen rv Q E k
 unfold Ja at h
 split at h
 ·cases h
 ·simp only[bind_eq_bind,bind_eq_some_iff] at h
  obtain⟨ρ₁,h1,⟨ok,ρ₂,σ₂⟩,h2,h⟩:=h
  have live:∀a∈[acc],∃o,s.heap.get? a=some o:=λa ha=>by rw[mem_singleton.mp ha];obtain⟨q,e⟩:=pl;exact⟨_,e⟩
  unfold GF
  refine wpAny_bind (QX R rm.1 h1 rv λs1 R1=> ?_)
  refine wpAny_bind (S.Ts h2 A env Z _ _ s1 rm.succ R1 _ _ λZ2 s2 le2 R2=> ?_)
  obtain⟨e2,eP⟩:=R2.still live
  have pl2:s2.heap.PlainList acc vs.toArray:=pl.at λo e=>by rw[e2 acc (by simp)];exact e
  have R2':Rel c env ρ₂ σ₂ Z2 (P.adds s2.heap [acc]) (λ_=>none) s2:=by rw[<-eP];exact R2
  cases ok with
  |false=>
   simp only[Bool.not_false,if_true] at h
   cases h
   simp only[false_eq_true,if_false]
   exact wpAny_pure (k Z2 s2 vs le2 R2'.backs pl2 (by rw[append_nil];exact RepL.mono le2 _ _ rl))
  |true=>
   simp only[Bool.not_true,false_eq_true,if_false] at h
   simp only[if_true]
   split at h
   ·rename_i hgs'
    rw[O3 hgs]
    dsimp only
    simp only[bind_eq_some_iff] at h
    obtain⟨⟨y,ρ₃,σ₃⟩,h3,h⟩:=h
    cases h
    refine wpAny_bind (S.E h3 A env Z2 _ _ s2 rm.succ R2' _ _ λvy Z3 s3 le3 R3 r3=> ?_)
    have live2:∀a∈[acc],∃o,s2.heap.get? a=some o:=λa ha=>by rw[mem_singleton.mp ha];obtain⟨q,e⟩:=pl2;exact⟨_,e⟩
    obtain⟨e3,eP3⟩:=R3.still live2
    have pl3:s3.heap.PlainList acc vs.toArray:=pl2.at λo e=>by rw[e3 acc (by simp)];exact e
    have R3':Rel c env ρ₃ σ₃ Z3 (P.adds s3.heap [acc]) (λ_=>none) s3:=by rw[<-eP3];exact R3
    have live3:∀a∈[acc],∃o,s3.heap.get? a=some o:=λa ha=>by rw[mem_singleton.mp ha];obtain⟨q,e⟩:=pl3;exact⟨_,e⟩
    have zo:=R3'.looseZ live3
    have hvl:=RepL.length _ _ rl
    refine wpAny_bind (wpAny_list_append_plain pl3 (λh' pl' sb=> ?_) (by rw[sizeLine_eq,size_toArray];simp at hlen;omega))
    have R4:=R3'.stepZ (as':=[acc]) (s':={s3 with heap:=h'}) (Z':=Z3) (λa ha=>by rw[mem_singleton.mp ha];exact hPa) live3 (λa o m e=>by
     show h'.get? a=some o
     rw[sb.2 a (by simpa using m)];exact e) (FM.le_refl _) (λa o e=>by
     show h'.get? a=some o
     rw[sb.2 a (λq=>by rw[q,zo acc (by simp)] at e;cases e)];exact R3.zh a o e) (λ_ _ e=> .inl e) (λa ha=>⟨.inl ha,zo a ha⟩) apa rfl rfl
    exact wpAny_pure (k Z3 _ (vs++[vy]) (FM.le_trans le2 le3) R4.1.backs (by simpa using pl') (RepL.snoc (RepL.mono (FM.le_trans le2 le3) _ _ rl) r3))
   ·rename_i g' gs'
    obtain⟨hg',hgs''⟩:=QL hgs
    rw[hg']
    dsimp only
    have ha':=hasync g' (List.mem_of_getElem? hg')
    simp only[ha',false_eq_true,if_false]
    simp only[bind_eq_some_iff] at h
    obtain⟨⟨xs',ρ₃,σ₃⟩,h3,⟨ys',ρ₄,σ₄⟩,h4,h⟩:=h
    cases h
    obtain⟨hfold,hIt⟩:=S.It _ _ _ _ _ _ h3 A env Z2 _ _ s2 rm.succ R2'
    have live2:∀a∈[acc],∃o,s2.heap.get? a=some o:=λa ha=>by rw[mem_singleton.mp ha];obtain⟨q,e⟩:=pl2;exact⟨_,e⟩
    refine wpAny_bind (wpAny_mono (hIt (λit s3=>wpAny (model c.prog c.w) A (runOwn (.compStart (.ListComp elt allG scope pos) (depth+1) it (.ref acc) env) env>>=λ_=>pure ()) Q E s3) E ?_)
     (λx s₁ h₁=>wpAny_bind (wpAny_standAt (wpAny_bind (wpAny_of_eq (hfold x) (wpAny_bind (wpAny_holding h₁)))))) λ_ _ e=>e)
    intro I own SS Z3 s3 le3 W st R3 hPo apo
    have e3:∀a∈[acc],s3.heap.get? a=s2.heap.get? a:=λa ha=>by
     obtain⟨o,e⟩:=live2 a ha
     rw[e]
     have hao:a∉own:=λhm=>by have:=hPo a hm;rw[FM.adds_in ha,e] at this;cases this
     exact R3.ph a o (by rw[FM.adds_out hao,FM.adds_in ha];exact e)
    have accO:acc∉own:=λhm=>by
     obtain⟨o,e⟩:=live2 acc (by simp)
     have:=hPo acc hm;rw[FM.adds_in (by simp),e] at this;cases this
    have R3':Rel c env ρ₃ σ₃ Z3 ((P.adds s3.heap own).adds s3.heap [acc]) (λ_=>none) s3:=by
     rw[FM.adds_comm,FM.adds_keep (P:=P) e3];exact R3
    have pl3:s3.heap.PlainList acc vs.toArray:=pl2.at λo e=>by rw[e3 acc (by simp)];exact e
    have hPo':∀a∈own,P a=none:=λa ha=>by
     have:=hPo a ha
     rw[FM.adds_out (λhm=>by rw[mem_singleton.mp hm] at ha;exact accO ha)] at this;exact this
    refine wpAny_bind (wpAny_runOwn ?_)
    refine Ge hg' ha' (λQ' E' q=>W.self 0 s3 Q' E' st q) ?_
    refine Ho (P:=P) (gs:=gs') (depth:=depth+1) S.G rm.succ hasync hg' hgs'' W accO h4 R3' st (FM.le_refl _) hPo' hPa apo apa pl3 (RepL.mono (FM.le_trans le2 le3) _ _ rl) hlen λZ4 s4 vs4 le4 R4 pl4 rl4=> ?_
    exact wpAny_pure (k Z4 s4 vs4 (FM.le_trans le2 (FM.le_trans le3 le4)) R4.backs pl4 rl4)
end
def OC(c:Cx):Prop:=∀(n:Nat)(A:Around)(σ:St)(Z:FM)(s:Shared)(a:List D)(b:List (Key×D))(v:Value),Room n A->Gr c σ Z s->Rep c Z (.univ a b) v->
 ∀(Q:Value->Shared->Prop) (E:Value->Shared->Prop),(∀x own s',(∀p o,s.heap.get? p=some o->s'.heap.get? p=some o)->(∀p∈own,s.heap.get? p=none)->Own c Z s'.heap (.ownB (.univ a b) [] []) (.ref x) own->s'.gens=s.gens->s'.os=s.os->Q (.ref x) s')->
  wpAny (model c.prog c.w) A (call (.ref c.bc) [v]) Q E s
section
variable {c:Cx}{K:Frag}{env:Env}{ρ ρ' ρ₁ ρ₂ ρ₃:Ev}{σ σ' σ₁ σ₂ σ₃:St}{Z Z' P:FM}{μ:Str->Option Value}{s s':Shared}{A:Around}{E:Value->Shared->Prop}{L:Addr}{n:Nat}{d:D}
theorem Rw{t:Env->Sem Value}(h:EOk c n t ρ σ d ρ' σ'):U0 c (n+1) t ρ σ (.d d) ρ' σ':=λA env Z P s rm R Q E k=>
 h A env Z P _ s rm.succ R Q E λv Z' s' le R' r=>k v [] Z' s' le (by rw[FM.adds_nil];exact R') (λ_ h=>(nomatch h)) DX ⟨rfl,r⟩
theorem Sw(T:TopOk c K)(hB:OC c)(S:Snd c n){e:Expr}{V:V}(h:GA (n+1) e ρ σ=some (V,ρ',σ')):U0 c (n+1) (eval e) ρ σ V ρ' σ':=by
 unfold GA at h
 split at h
 ·cases h
  intro A env Z P s rm R Q E k
  rw[arm_eval_List]
  refine wpAny_bind (wpAny_standAt (wpAny_bind (wpAny_items_nil ?_)))
  refine wpAny_newList ?_ (by rw[sizeLine_eq];simp)
  obtain⟨R1,hP,ap⟩:=R.lay (as:=[s.heap.objs.size]) (s':={s with heap:=s.heap.push (seqObj "list" ([]:List Value).toArray 0)}) (λa o e=>Heap.get?_push_of_some _ e) (λa ha=>by rw[mem_singleton.mp ha];exact Ab _) rfl rfl
  exact k _ _ Z _ (FM.le_refl _) R1 hP ap ⟨_,[],rfl,rfl,⟨0,Heap.get?_push_size _ rfl⟩,RepL.nil⟩
 ·cases h
  intro A env Z P s rm R Q E k
  refine wpAny_Dict_empty ?_
  obtain⟨R1,hP,ap⟩:=R.lay (as:=[s.heap.objs.size]) (s':={s with heap:=s.heap.push {cls:= .type "dict",data:= .dict #[]}}) (λa o e=>Heap.get?_push_of_some _ e) (λa ha=>by rw[mem_singleton.mp ha];exact Ab _) rfl rfl
  have hbig:=T.big R
  refine k _ _ Z _ (FM.le_refl _) R1 hP ap ⟨_,[],rfl,rfl,by simp,Nat.ne_of_gt hbig,Heap.DictOf.new _,by unfold RepDL;rfl⟩
 ·rename_i f p x q
  split at h
  ·rename_i hf
   subst hf
   split at h
   ·rename_i hg
    simp only[bind_eq_bind,bind_eq_some_iff] at h
    obtain⟨⟨y,ρ₁,σ₁⟩,h1,z,h2,h⟩:=h
    split at h
    ·rename_i _ es
     cases h
     intro A env Z P s rm R Q E k
     refine Bf R hg (by decide) (T.typ "dict" (by decide)) (Ai (P:=λ_=>True) (Ay (Ax h1)) (Au (.inl ⟨_,rfl⟩)) ?_)
     refine BY (Ax h1) (S.E h1 A env Z P _ s rm.succ R _ _ λv Z1 s1 le1 R1 r1=>⟨trivial,?_⟩)
     have hy:y= .dict es/\es.length<=100000:=by
      cases y<;>simp[Ag] at h2
      ·obtain⟨_,h2⟩:=h2
       exact⟨by rw[h2],by rw[<-h2];assumption⟩
     obtain⟨rfl,hl⟩:=hy
     refine MM R1.at r1 hl λh' kvs kp hD he=> ?_
     obtain⟨R2,hP,ap⟩:=R1.lay (as:=[s1.heap.objs.size]) (s':={s1 with heap:=h'}) kp (λa ha=>by rw[mem_singleton.mp ha];exact Ab _) rfl rfl
     exact k _ _ Z1 _ le1 R2 hP ap ⟨_,kvs,rfl,rfl,Nat.ne_of_gt (T.big R1),hD,he⟩
    ·rename_i es hz
     cases h
     intro A env Z P s rm R Q E k
     refine Bf R hg (by decide) (T.typ "dict" (by decide)) (Ai (P:=λ_=>True) (Ay (Ax h1)) (Au (.inl ⟨_,rfl⟩)) ?_)
     refine BY (Ax h1) (S.E h1 A env Z P _ s rm.succ R _ _ λv Z1 s1 le1 R1 r1=>⟨trivial,?_⟩)
     have:=JB (c:=c) (A:=A) h2 R1.at rm (T.big R1) (RepL.cons r1 RepL.nil)
     exact R1.prim this λv Z2 s2 le2 R2 r2=>k v [] Z2 s2 (FM.le_trans le1 le2) (by rw[FM.adds_nil];exact R2) (λ_ h=>(nomatch h)) DX ⟨rfl,r2⟩
    ·cases h
   ·cases h
  ·split at h
   ·rename_i hf
    subst hf
    split at h
    ·rename_i hg
     simp only[bind_eq_bind,bind_eq_some_iff] at h
     obtain⟨⟨y,ρ₁,σ₁⟩,h1,h⟩:=h
     split at h
     ·rename_i a b hy
      have hy':y= .univ a b:=hy
      subst hy'
      cases h
      intro A env Z P s rm R Q E k
      refine Bf R hg (by decide) T.bnd (Ai (P:=K.In) (Ay (Ax h1)) (keeps_K T.bcls.keep) ?_)
      refine BY (Ax h1) (S.E h1 A env Z P _ s rm.succ R _ _ λv Z1 s1 le1 R1 r1=>⟨T.X.keeps R1.keep0,?_⟩)
      refine hB _ A _ Z1 s1 a b v rm R1.gr r1 _ E λx own s2 kp fr ow g os=> ?_
      obtain⟨R2,hP,ap⟩:=R1.lay kp fr g os
      exact k _ own Z1 s2 le1 R2 hP ap ow
     ·cases h
    ·cases h
   ·simp only[bind_eq_bind,bind_eq_some_iff] at h
    obtain⟨⟨y,ρ₁,σ₁⟩,h1,h⟩:=h
    cases h
    exact Rw (S.E h1)
 ·simp only[bind_eq_bind,bind_eq_some_iff] at h
  obtain⟨⟨y,ρ₁,σ₁⟩,h1,h⟩:=h
  cases h
  exact Rw (S.E h1)
theorem Sm(S:Snd c n){e:Expr}(h:Aq (n+1) e ρ σ=some (d,ρ',σ'))(hc:Fy e=true):T3 c (n+1) e ρ σ d ρ' σ':=by
 cases e<;>first|(simp[Fy] at hc;done)|skip
 rename_i elt gens scope pos
 cases gens with
 |nil=>simp[Aq] at h
 |cons g gs=>
  simp only[Aq] at h
  split at h
  ·cases h
  ·rename_i hq
   simp only[bind_eq_bind,bind_eq_some_iff] at h
   obtain⟨⟨xs,ρ₁,σ₁⟩,h1,h⟩:=h
   split at h
   ·cases h
   ·rename_i hf
    simp only[bind_eq_some_iff] at h
    obtain⟨⟨ys,ρe,σe⟩,h2,h⟩:=h
    split at h
    ·rename_i hl
     cases h
     simp only[not_eq_true',Bool.and_eq_false_iff,not_or,Bool.not_eq_false] at hq hf
     have hc':=hq.1
     intro A env Z P μ s rm R u Q E k
     have ha:firstAsync (g::gs)=false:=by
      unfold F2 at hc'
      simp only[and_eq_true,all_eq_true] at hc'
      have:=hc'.2 g (mem_cons_self ..)
      have e:(g.is_async !=0)=false:=by simpa using this
      obtain⟨tg,it,ifs,as⟩:=g
      exact e
     have hfi:firstIter (g::gs) env=eval g.iter env:=by obtain⟨tg,it,ifs,as⟩:=g;rfl
     show wpAny _ A (do let _<-comprehension (.ListComp elt (g::gs) scope pos) scope env (firstIterPos (g::gs) pos) (newList []) (firstAsync (g::gs)) (firstIter (g::gs) env) (some u)) Q E s
     rw[ha,hfi]
     refine wpAny_bind (N3 S.It S.G rm.succ hc' hq.2 h1 hf h2 hl R (use:=some u) λC acc Z1 s1 le1 R1 hP ap rp ns=> ?_)
     exact wpAny_mono (k C acc Z1 s1 le1 R1 hP ap rp ns) (λ_ s'' ⟨m,hm,hq⟩=>⟨m,hm,λh' sb=>wpAny_pure (hq h' sb)⟩) λ_ _ e=>e
    ·cases h
theorem RY(S:Snd c n){e:Expr}{V:V}(h:GA (n+1) e ρ σ=some (V,ρ',σ'))(hc:Fy e=true):∃d,V= .d d/\T3 c (n+1) e ρ σ d ρ' σ':=by
 cases e<;>first|(simp[Fy] at hc;done)|skip
 rename_i elt gens scope pos
 simp only[GA,bind_eq_bind,bind_eq_some_iff] at h
 obtain⟨⟨d,ρ₁,σ₁⟩,h1,h⟩:=h
 cases h
 refine⟨d,rfl,?_⟩
 have U:=S.U h1 rfl
 exact λA env Z P μ s rm R u Q E k=>U A env Z P μ s rm.succ R u Q E k
theorem Rg(S:Snd c n){es:List Expr}{Vs:List V}(h:HK (n+1) es ρ σ=some (Vs,ρ',σ')):(∀env,BP es env)/\∀pos,T8 c (n+1) (λenv=>spliced (backTo pos (starEach es env))) ρ σ Vs ρ' σ':=by
 unfold HK at h
 split at h
 ·cases h
  exact⟨λ_=>rfl,λpos A env Z P s rm R Q E k=>wpAny_items_nil (k [] [] Z s (FM.le_refl _) (by rw[List.flatten_nil,FM.adds_nil];exact R) (λ_ h=>(nomatch h)) DX ⟨rfl,rfl⟩)⟩
 ·cases h
 ·rename_i e r hns
  simp only[bind_eq_bind,bind_eq_some_iff] at h
  obtain⟨⟨v,ρ₁,σ₁⟩,h1,⟨vs',ρ₂,σ₂⟩,h2,h⟩:=h
  cases h
  obtain⟨n2,L2⟩:=S.Fs h2
  have hst:∀a b,e≠ .Starred a b:=λa b q=>hns a b q
  have hs:∀env,BP (e::r) env:=λenv=>CF hst (n2 env)
  refine⟨hs,λpos A env Z P s rm R Q E k=> ?_⟩
  refine wpAny_items_cons (S.F h1 A env Z P s rm.succ R _ _ λv as Z1 s1 le1 R1 hP1 ap1 ow1=> ?_) (A7 (hs env)).1
  refine L2 pos A env Z1 _ s1 rm.succ R1 _ _ λvs ass Z2 s2 le2 R2 hP2 ap2 ow2=> ?_
  obtain⟨e1,e2⟩:=(show(∀a∈as,s2.heap.get? a=s1.heap.get? a)/\∀a∈as,a∉ass.flatten from by
   have key:∀a∈as,a∉ass.flatten:=λa ha hm=>by
    have:=hP2 a hm
    rw[FM.adds_in ha] at this
    obtain⟨o,e⟩:=ow1.live a ha
    rw[e] at this;cases this
   refine⟨λa ha=> ?_,key⟩
   obtain⟨o,e⟩:=ow1.live a ha
   rw[e]
   exact R2.ph a o (by rw[FM.adds_out (key a ha),FM.adds_in ha];exact e))
  refine k (v::vs) (as::ass) Z2 s2 (FM.le_trans le1 le2) ?_ ?_ ?_ ⟨v,vs,as,ass,rfl,rfl,ow1.keep le2 λa ha o e=>by rw[e1 a ha];exact e,e2,ow2⟩
  ·have:(P.adds s1.heap as).adds s2.heap ass.flatten=P.adds s2.heap (as::ass).flatten:=by
    funext a
    rw[List.flatten_cons]
    by_cases ha:a∈as
    ·rw[FM.adds_out (e2 a ha),FM.adds_in ha,FM.adds_in (List.mem_append_left _ ha),e1 a ha]
    ·by_cases hb:a∈ass.flatten
     ·rw[FM.adds_in hb,FM.adds_in (List.mem_append_right _ hb)]
     ·rw[FM.adds_out hb,FM.adds_out ha,FM.adds_out (by simp only[mem_append,not_or];exact⟨ha,hb⟩)]
   rw[<-this];exact R2
  ·intro a ha
   rw[List.flatten_cons,mem_append] at ha
   rcases ha with ha|ha
   ·exact hP1 a ha
   ·have:=hP2 a ha
    by_cases hb:a∈as
    ·exact absurd ha (e2 a hb)
    ·rw[FM.adds_out hb] at this;exact this
  ·intro x a hx ha
   rw[List.flatten_cons,mem_append] at ha
   rcases ha with ha|ha
   ·exact ap1 x a hx ha
   ·exact ap2 x a hx ha
theorem FN{x:Str}{W:V}{as:List Addr}{v₀:Value}(hs:ρ.set x W=some ρ')(R:Rel c env (ρ.drop x) σ Z (P.adds s.heap as) μ s)(hμ:μ x=some v₀)(hP:∀a∈as,P a=none)(ap:BK env as)(ho:Own c Z s.heap W v₀ as):Rel c env ρ' σ Z P (λ_=>none) s:=by
 obtain⟨ρ₂,h2⟩:∃r,(ρ.drop x).set x W=some r:=by
  unfold Ev.set;rw[Ev.kind_drop];rcases Ev.set_of hs with h|h<;>rw[h]<;>exact⟨_,rfl⟩
 refine((R.give hP ap hμ ho h2).mu (μ':=λ_=>none) (λ_ _ q=>nomatch q)).congr (λy=> ?_) λy=> ?_
 ·rw[Ev.kind_set hs,Ev.kind_set h2,Ev.kind_drop]
 ·rw[Ev.get_set hs,Ev.get_set h2,Ev.get_drop]
  by_cases hy:y=x
  ·rw[if_pos hy,if_pos hy]
  ·rw[if_neg hy,if_neg hy,if_neg hy]
theorem M4{la:Addr}{vs:List Value}{h':Heap}(R:Rel c env ρ σ Z (P.adds s.heap [la]) μ s)(hP:∀a∈[la],P a=none)(ap:BK env [la])(pl:s.heap.PlainList la vs.toArray)(sb:Heap.SameBut la s.heap h'):Rel c env ρ σ Z (P.adds h' [la]) μ {s with heap:=h'}:=by
 have live:∀a∈[la],∃o,s.heap.get? a=some o:=λa ha=>by rw[mem_singleton.mp ha];obtain⟨q,e⟩:=pl;exact⟨_,e⟩
 have zo:=R.looseZ live
 exact(R.stepZ (as':=[la]) (s':={s with heap:=h'}) (Z':=Z) hP live (λa o m e=>by
  show h'.get? a=some o
  rw[sb.2 a (by simpa using m)];exact e) (FM.le_refl _) (λa o e=>by
  show h'.get? a=some o
  rw[sb.2 a (λq=>by rw[q,zo la (by simp)] at e;cases e)];exact R.zh a o e) (λ_ _ e=> .inl e) (λa ha=>⟨.inl ha,zo a ha⟩) ap rfl rfl).1
theorem Sr(T:TopOk c K)(S:Snd c n){x m:Str}{V:V}{as:List D}{f:Fl}(h:QJ (n+1) x m V as ρ σ=some (f,ρ',σ')):U6 c (n+1) x m V as ρ σ f ρ' σ':=by
 unfold QJ at h
 split at h
 ·rename_i xs
  simp only[bind_eq_bind,bind_eq_some_iff] at h
  obtain⟨ρ₁,h1,h⟩:=h
  cases h
  unfold K3 at h1
  split at h1
  ·rename_i d
   split at h1
   ·rename_i hq
    obtain⟨rfl,hl⟩:=hq
    refine⟨rfl,λA env Z₀ P μ ρ₀ σ₀ s₀ v₀ V₀ rm hsk R₀ ho pl Q E k=> ?_⟩
    obtain⟨a,ho⟩:=ho
    obtain⟨xs₀,rfl⟩:∃xs₀,V₀= .ownL xs₀:=by cases V₀<;>simp[B1] at hsk<;>exact⟨_,rfl⟩
    obtain⟨la,vs0,rfl,rfl,⟨n0,hl0⟩,_⟩:=ho
    refine getMethod_list_append hl0 rfl rfl (k _ ⟨λ_=>True,Au (.inr ⟨_,rfl⟩),λZ s vs R _ hx r=>⟨trivial,λQ' E' k'=> ?_⟩⟩)
    rw[RepL] at r;obtain⟨vd,r',rfl,rd,r⟩:=r;rw[RepL] at r;subst r
    obtain⟨v,own,ow,hP,ap,hμ,R1⟩:=R.take hx
    have hv:=hμ (.ref la) (by simp)
    subst hv
    obtain⟨la',vs1,e,rfl,pl1,rl1⟩:=ow
    cases e
    have hln:=RepL.length _ _ rl1
    refine wpAny_list_append_plain pl1 (λh' pl' sb=> ?_) (by rw[sizeLine_eq,size_toArray];omega)
    exact k' .none Z _ (FM.le_refl _) (FN h1 (M4 R1 hP ap pl1 sb) (by simp) hP ap ⟨la,vs1++[vd],rfl,rfl,by simpa using pl',RepL.snoc rl1 rd⟩) (λa q=>nomatch q)
   ·cases h1
  ·cases h1
 ·rename_i u bs ns
  simp only[bind_eq_bind,bind_eq_some_iff] at h
  obtain⟨⟨w,σ₁⟩,h1,ρ₁,h2,h⟩:=h
  cases h
  obtain⟨rfl,ad⟩:=S.Ad h1
  refine⟨rfl,λA env Z₀ P μ ρ₀ σ₀ s₀ v₀ V₀ rm hsk R₀ ho pl Q E k=> ?_⟩
  obtain⟨a,ho⟩:=ho
  obtain⟨u0,bs0,ns0,rfl⟩:∃u0 bs0 ns0,V₀= .ownB u0 bs0 ns0:=by cases V₀<;>simp[B1] at hsk<;>exact⟨_,_,_,rfl⟩
  obtain⟨p,da,la,na,v1,vs1,kvs,rfl,_,_,hi,_,_,hd,_⟩:=ho
  obtain⟨od,hod,hdd⟩:=Heap.dictOf_iff.mp hd
  obtain⟨fa,fi,hfi,hfn,hlook,F⟩:=T.badd
  refine GX (T.X.keeps R₀.keep0) T.bcls (C:=c.bc) ⟨hi,rfl,rfl,hod⟩ hdd (by rw[Cn,if_neg (by decide),if_neg (by decide),if_neg (by decide)]) hfi hfn ?_
  refine k _ ⟨JN fa,EB,λZ s vs R R2 hx r=>⟨MB R F,λQ' E' k'=> ?_⟩⟩
  obtain⟨v,own,ow,hP,ap,hμ,R1⟩:=R.take hx
  have hv:=hμ (.ref p) (by simp)
  subst hv
  refine ad A env (ρ.drop x) Z P _ s _ own vs fa fi rm.succ R1 hP ap ow r hlook F Q' E' λi t Z' s' le R' ow'=> ?_
  exact k' _ Z' s' le (FN h2 R' (by simp) hP ap ow') (λa q=>nomatch q)
 ·rename_i u bs ns
  simp only[bind_eq_bind] at h
  split at h
  ·cases h
  ·rename_i hm
   have hm':m=Str.ofString "want_set" :=by simpa using hm
   subst hm'
   simp only[bind_eq_some_iff] at h
   obtain⟨⟨r,σ₁⟩,h1,h⟩:=h
   split at h
   ·rename_i hr
    have hr':r= .none:=hr
    subst hr'
    cases h
    refine⟨rfl,λA env Z₀ P μ ρ₀ σ₀ s₀ v₀ V₀ rm hsk R₀ ho pl Q E k=> ?_⟩
    obtain⟨a,ho⟩:=ho
    obtain⟨u0,bs0,ns0,rfl⟩:∃u0 bs0 ns0,V₀= .d (.bnds u0 bs0 ns0):=by
     cases V₀<;>try (simp[B1] at hsk;done)
     rename_i q
     cases q<;>simp[B1] at hsk
     exact⟨_,_,_,rfl⟩
    obtain⟨_,ho⟩:=ho
    rw[Rep] at ho
    obtain⟨p,da,v1,v2,v3,rfl,i,dd,_,_,_⟩:=ho
    obtain⟨od,I,hd⟩:=FL R₀.at i dd
    obtain⟨fa,fi,hfi,hfn,hlook,F⟩:=T.bwant
    refine GX (T.X.keeps R₀.keep0) T.bcls I hd (by rw[Cn,if_neg (by decide),if_neg (by decide),if_neg (by decide)]) hfi hfn ?_
    refine k _ ⟨JN fa,EB,λZ s vs R R2 hx r=>⟨MB R F,λQ' E' k'=> ?_⟩⟩
    obtain⟨v,as',ow,hμ,_,_⟩:=R.know hx
    have hv:=hμ (.ref p) (by simp)
    subst hv
    refine H9 (bo:=false) S h1 (by rfl) hlook F rm.succ R2 (by rw[if_neg Bool.false_ne_true];exact RepL.cons ow.2 r) λv Z' s' le R' rv=> ?_
    rw[Rep] at rv
    subst rv
    exact k' _ Z' s' le R' (λa q=>nomatch q)
   ·cases h
 ·cases h
theorem Sl(hS:∀k≤n,Snd c k){t:Expr}{b:List Stmt}{f:Fl}(h:Gm (n+1) t b ρ σ=some (f,ρ',σ')):U4 c (n+1) t b ρ σ f ρ' σ':=by
 intro A env Z P s rm R R' k
 refine codeAny_whileLoop (λm s'=>m<=n+1/\∃Zi ρi σi,Z.le Zi/\Rel c env ρi σi Zi P (λ_=>none) s'/\Gm m t b ρi σi=some (f,ρ',σ')) ?_ (n+1) ⟨Nat.le_refl _,Z,ρ,σ,FM.le_refl _,R,h⟩
 rintro m s' ⟨hm,Zi,ρi,σi,le,Ri,hw⟩
 cases m with
 |zero=>simp[Gm] at hw
 |succ m=>
  unfold Gm at hw
  simp only[bind_eq_bind,bind_eq_some_iff] at hw
  obtain⟨⟨c',ρ1,σ1⟩,h1,hw⟩:=hw
  have S:=hS m (by omega)
  refine S.T h1 A env Zi P _ s' (rm.le (by omega)) Ri _ _ λZ1 s1 le1 R1=> ?_
  cases c' with
  |false=>
   simp only[false_eq_true,if_false] at hw⊢
   cases hw
   exact wpAny_execs_nil (k .next Z1 s1 (FM.le_trans le le1) R1 rfl)
  |true=>
   simp only[if_true,bind_eq_some_iff] at hw⊢
   obtain⟨⟨f2,ρ2,σ2⟩,h2,hw⟩:=hw
   refine S.Ss h2 A env Z1 P s1 (rm.le (by omega)) R1 _ _ λfl Z2 s2 le2 R2 fr=> ?_
   cases f2 with
   |next=>cases fr;exact⟨m,Nat.lt_succ_self _,by omega,Z2,_,σ2,FM.le_trans le (FM.le_trans le1 le2),R2.backs,hw⟩
   |ret d=>cases hw;obtain⟨v,rfl,rv⟩:=fr;exact k (.ret v) Z2 s2 (FM.le_trans le (FM.le_trans le1 le2)) R2 ⟨v,rfl,rv⟩
theorem Ra(S:Snd c n){ss:List Stmt}{f:Fl}(h:Br (n+1) ss ρ σ=some (f,ρ',σ')):Qk c (n+1) (execs ss) ρ σ f ρ' σ':=by
 unfold Br at h
 split at h
 ·cases h
  exact λA env Z P s rm R Q E k=>wpAny_execs_nil (k .next Z s (FM.le_refl _) R rfl)
 ·rename_i x r
  simp only[bind_eq_bind,bind_eq_some_iff] at h
  obtain⟨⟨f1,ρ₁,σ₁⟩,h1,h⟩:=h
  intro A env Z P s rm R Q E k
  refine wpAny_execs_cons (S.S h1 A env Z P s rm.succ R _ _ λfl Z1 s1 le1 R1 fr=> ?_)
  cases f1 with
  |next=>cases fr;exact S.Ss h A env Z1 P s1 rm.succ R1 _ _ λfl Z2 s2 le2 R2 fr=>k fl Z2 s2 (FM.le_trans le1 le2) R2 fr
  |ret d=>cases h;obtain⟨v,rfl,rv⟩:=fr;exact k (.ret v) Z1 s1 le1 R1 ⟨v,rfl,rv⟩
theorem QQ(T:TopOk c K)(S:Snd c n){f:Str}{ds:List D}(h:AQ (n+1) f ds σ=some (d,σ')):U8 c (n+1) f ds σ d σ':=by
 intro A Z s a fi vs rm G hfi F r Q E k
 unfold AQ at h
 simp only[bind_eq_bind,bind_eq_some_iff] at h
 obtain⟨fi',h0,ρ₀,h1,⟨fl,ρ₁,σ₁⟩,h2,h⟩:=h
 rw[hfi] at h0
 cases h0
 refine NO G F T.nolimit rm r h1 λenv' s₁ E' hk R=> ?_
 refine S.Ss h2 (A.deeper env') env' Z _ s₁ (rm.deeper env') R _ _ λfw Z' s' le R' fr=> ?_
 have W:=R'.left le
 cases fl with
 |next=>cases fr;cases h;exact k _ Z' s' W (by rw[Rep])
 |ret d'=>obtain⟨v,rfl,rv⟩:=fr;cases h;exact k _ Z' s' W rv
theorem CY(R:Rel c env ρ σ Z P μ s):interactive env=false:=by
 unfold interactive
 rw[R.fn];rfl
theorem Rc(T:TopOk c K)(S:Snd c n){ss:List Stmt}(h:FR (n+1) ss ρ σ=some (ρ',σ')):T7 c (n+1) ss ρ σ ρ' σ':=by
 intro A env Z P μ s more rm R Q E k
 unfold FR at h
 split at h
 ·cases h
  exact k Z s (FM.le_refl _) R
 ·rename_i t b pos r
  simp only[bind_eq_bind,bind_eq_some_iff] at h
  obtain⟨⟨c',ρ₁,σ₁⟩,h1,h⟩:=h
  cases c' with
  |true=>simp at h
  |false=>
   simp only[false_eq_true,if_false] at h
   rw[cons_append]
   refine wpAny_execs_cons (wpAny_If (S.T h1 A env Z P μ s rm.succ R _ _ λZ1 s1 le1 R1=> ?_))
   simp only[false_eq_true,if_false]
   exact wpAny_execs_nil (S.Gd h A env Z1 P μ s1 more rm.succ R1 Q E λZ2 s2 le2 R2=>k Z2 s2 (FM.le_trans le1 le2) R2)
 ·rename_i x p m ap args cp pos r
  split at h
  ·cases h
  ·rename_i hq
   simp only[not_eq_true',Bool.and_eq_false_iff,not_or,Bool.not_eq_false,beq_iff_eq,decide_eq_true_eq] at hq
   obtain⟨⟨rfl,hl⟩,hn⟩:=hq
   simp only[bind_eq_bind,bind_eq_some_iff] at h
   obtain⟨⟨x0,ρ₁,σ₁⟩,h0,⟨as,ρ₂,σ₂⟩,h1,h⟩:=h
   split at h
   ·rename_i u bs ns hx0
    have hx0':x0= .bnds u bs ns:=hx0
    subst hx0'
    simp only[bind_eq_some_iff] at h
    obtain⟨⟨v,σ₃⟩,h2,h⟩:=h
    split at h
    ·rename_i hv
     have hv':v= .none:=hv
     subst hv'
     obtain⟨hns,hL⟩:=S.L h1
     rw[cons_append]
     refine wpAny_execs_cons (wpAny_Expr (Cj rfl (by simpa using hl) (by simpa using hn) (hns env) (S.E h0 A env Z P μ s rm.succ R _ _ λvo Z0 s0 le0 R0 r0 pl=> ?_)) (CY R) rfl)
     have r0':=r0
     rw[Rep] at r0'
     obtain⟨q,da,v1,v2,v3,rfl,i,dd,_,_,_⟩:=r0'
     obtain⟨od,I,hd⟩:=FL R0.at i dd
     obtain⟨fa,fi,hfi,hfn,hlook,F⟩:=T.bwant
     refine GX (T.X.keeps R0.keep0) T.bcls I hd (by rw[Cn,if_neg (by decide),if_neg (by decide),if_neg (by decide)]) hfi hfn ?_
     refine Ai (P:=JN fa) (hns env) EB (hL cp A env Z0 P μ s0 rm.succ R0 _ _ λvs Z1 s1 le1 R1 r1=>⟨MB R1 F,?_⟩)
     refine H9 (bo:=false) S h2 (by rfl) hlook F rm.succ R1 (by rw[if_neg Bool.false_ne_true];exact RepL.cons (Rep.mono le1 _ _ r0) r1) λv Z2 s2 le2 R2 r2=> ?_
     rw[Rep] at r2
     subst r2
     exact S.Gd h A env Z2 P μ s2 more rm.succ R2 Q E λZ3 s3 le3 R3=>k Z3 s3 (FM.le_trans le0 (FM.le_trans le1 (FM.le_trans le2 le3))) R3
    ·cases h
   ·cases h
 ·cases h
end
section
variable {prog:Program}{w:World}{K:Type} [DecidableEq K]{knd:KeyKind prog w K}{A:Around}{E:Value->Shared->Prop}{s:Shared}
theorem Gy{d:Addr}{kvs:List (K×Value)}{k:K}{key dflt:Value}{Q:Value->Shared->Prop}(hkey:knd.is k key=true)(hm:s.heap.DictOf knd d kvs)
 (hthere:∀v,valueAt kvs k=some v->Q v {s with toks:=s.toks+1})
 (hnew:(kvs.any λkv=>decide (kv.1=k))=false->∀h',h'.DictOf knd d (stored kvs k dflt)->Heap.SameBut d s.heap h'->Q dflt {s with heap:=h',toks:=s.toks+1})
 (hsz:kvs.length<=sizeLine):wpAny (model prog w) A (dictSetDefault d key dflt) Q E s:=by
 have hmap:=hm.mapOf
 obtain⟨o,es,ep,ho,hc,hd,hk,hp,hn⟩:=hm
 have hes:es.size<=sizeLine:=by have e1:=hp.length;have e2:es.toList.length=es.size:=by simp
                                omega
 unfold dictSetDefault
 try with_reducible refine wpAny_holding ?_
 refine wpAny_bind (knd.pyHash hkey ?_)
 refine wpAny_bind (wpAny_dictFind_of (s:={s with toks:=s.toks+1}) hkey ho hd hk ?_)
 have hidx:(es.findIdx? λe=>knd.is k e.key)=kvs.findIdx? λkv=>decide (kv.1=k):=by
  rw[<-hp.findIdx k];obtain⟨l⟩:=es;simp
 cases hi:es.findIdx? λe=>knd.is k e.key with
 |some i=>
  obtain⟨o',es',ep',ho',hc',hd',hk',hf⟩:=hmap
  rw[ho] at ho';cases ho'
  rw[hd] at hd';cases hd'
  have hfk:valueAt kvs k=(es[i]?).map (·.val):=by rw[<-hf k,findBy_of_findIdx?,hi]
  refine wpAny_bind (wpAny_dictEntries (s:={s with toks:=s.toks+1}) ho hd ?_)
  cases he:es[i]? with
  |none=>
   exfalso
   have:=Array.findIdx?_eq_some_iff_findIdx_eq.mp hi
   have hlt:i<es.size:=this.1
   rw[Array.getElem?_eq_getElem hlt] at he
   exact nomatch he
  |some e=>
   rw[he] at hfk
   exact wpAny_bind (wpAny_rule (wpAny_pure (hthere e.val hfk)))
 |none=>
  have hnot:k∉kvs.map (·.1):=not_mem_of_findIdx_none (hidx▸hi)
  have hany:¬(kvs.any λkv=>decide (kv.1=k))=true:=by
   rw[List.any_eq_true];rintro⟨kv,hkv,he⟩
   exact hnot (mem_map.mpr ⟨kv,hkv,of_decide_eq_true he⟩)
  refine wpAny_bind (wpAny_rule (wpAny_bind (wpAny_updateDictKeys (hz:=hes) (s:={s with toks:=s.toks+1}) ho hd (wpAny_pure (hnew (Bool.eq_false_iff.mpr hany) _ ⟨_,_,ep+1,Heap.get?_update_self _ ho (Obj.isFreed_of_dict (Obj.data_mapDictKeys hd _)),
   hc.mapDictKeys _,Obj.data_mapDictKeys hd _,hk.push hkey _,?_,?_⟩ (Heap.SameBut.update ..))))))
  ·rw[stored,if_neg hany]
   have:=hp.append hkey (knd.hash k) dflt
   obtain⟨l⟩:=es
   simpa using this
  ·rw[stored,if_neg hany,map_append,List.nodup_append]
   refine⟨hn,by simp,?_⟩
   intro a ha b hb
   simp only[map_cons,map_nil,mem_singleton] at hb
   subst hb
   rintro rfl
   exact hnot ha
theorem Hz{d:Addr}{kvs:List (K×Value)}{k:K}{key dflt:Value}{Q:Value->Shared->Prop}(hkey:knd.is k key=true)(hm:s.heap.DictOf knd d kvs)(hd:d≠sysModules)
 (hthere:∀v,valueAt kvs k=some v->Q v {s with toks:=s.toks+1})
 (hnew:(kvs.any λkv=>decide (kv.1=k))=false->∀h',h'.DictOf knd d (stored kvs k dflt)->Heap.SameBut d s.heap h'->Q dflt {s with heap:=h',toks:=s.toks+1})
 (hsz:kvs.length<=sizeLine):wpAny (model prog w) A (call (.builtin "dict.setdefault") [.ref d,key,dflt]) Q E s:=by
 refine wpAny_call_entry PySem.F.slot_dict_setdefault hm.typeIs PySem.F.entry_dict_setdefault ?_ (PySem.F.args_dict_setdefault_3 _ _ _)
 unfold Builtin.«dict.setdefault»
 refine wpAny_bind ?_
 unfold Builtin.Dict.keyAndDefault
 refine wpAny_bind (wpAny_notOrdered_dict hm.typeIs ?_)
 show wpAny _ _ (pure (d,key,some dflt)) _ _ s
 refine wpAny_pure ?_
 show wpAny _ _ (if(d==sysModules)=true then _ else(dictSetDefault d key dflt>>=_)) _ _ s
 rw[if_neg (by simpa using hd)]
 exact wpAny_bind (Gy hkey hm (λv hv=>wpAny_pure ⟨v,rfl,hthere v hv⟩) (λhn h' hm' hs'=>wpAny_pure ⟨dflt,rfl,hnew hn h' hm' hs'⟩) hsz)
end
theorem FM.adds_congr{P:FM}{h:Heap}{as bs:List Addr}(e:∀a,a∈as↔a∈bs):P.adds h as=P.adds h bs:=by
 funext a
 by_cases ha:a∈as
 ·rw[FM.adds_in ha,FM.adds_in ((e a).mp ha)]
 ·rw[FM.adds_out ha,FM.adds_out (λq=>ha ((e a).mpr q))]
theorem FM.adds_app{P:FM}{h:Heap}{as bs:List Addr}:P.adds h (as++bs)=(P.adds h bs).adds h as:=by
 funext a
 by_cases ha:a∈as
 ·rw[FM.adds_in ha,FM.adds_in (List.mem_append_left _ ha)]
 ·rw[FM.adds_out ha]
  by_cases hb:a∈bs
  ·rw[FM.adds_in hb,FM.adds_in (List.mem_append_right _ hb)]
  ·rw[FM.adds_out hb,FM.adds_out (by simp only[mem_append,not_or];exact⟨ha,hb⟩)]
section
variable {c:Cx}{K:Frag}{env:Env}{ρ ρ' ρ₁ ρ₂ ρ₃:Ev}{σ σ' σ₁ σ₂ σ₃:St}{Z Z' P:FM}{μ:Str->Option Value}{s s':Shared}{A:Around}{E:Value->Shared->Prop}{L:Addr}{n:Nat}{d:D}
theorem NK{e:Expr}{x:Str}{p:Pos}(hU:T3 c n e ρ σ d ρ₁ σ₁)(hs:ρ₁.set x (.d d)=some ρ')(rm:Room n A)(R:Rel c env ρ σ Z P (λ_=>none) s){Q:Unit->Shared->Prop}
 (k:∀Z' s',Z.le Z'->Rel c env ρ' σ₁ Z' P (λ_=>none) s'->Q () s'):wpAny (model c.prog c.w) A (evalThenUse e env (assign (.Name x p) env)) Q E s:=by
 refine hU A env Z P _ s rm R _ Q E λC acc Z1 s1 le1 R1 hP ap rp ns=> ?_
 refine wpAny_assign_Name (H3 R1 rp hs λs2 R2=> ?_)
 obtain⟨m,hm⟩:=ns
 obtain⟨o,ho⟩:∃o,s1.heap.get? C=some o:=let⟨o,_,_,e,_⟩:=hm;⟨o,e⟩
 have live:∀a∈[C],∃o,s1.heap.get? a=some o:=λa ha=>by rw[mem_singleton.mp ha];exact⟨o,ho⟩
 obtain⟨e1,e2⟩:=R2.still live
 have e1C:=e1 C (by simp)
 rw[e2] at R2
 exact⟨m,hm.at' (λo e=>by rw[e1C];exact e),λh' sb=>k Z1 _ le1 (R2.off hP ap ⟨o,by rw[e1C];exact ho⟩ sb)⟩
theorem PU{e:Expr}{x:Str}{p:Pos}{line:Nat}{V:V}(h:GA n e ρ σ=some (V,ρ',σ')):∃b,swapsWith e (some (.Name x p)) line env=pure b/\(b=true->Fy e=true):=by
 cases e
 case ListComp=>exact⟨_,rfl,λ_=>rfl⟩
 case SetComp=>cases n<;>simp[GA] at h;rename_i n;cases n<;>simp[Aq] at h
 case DictComp=>cases n<;>simp[GA] at h;rename_i n;cases n<;>simp[Aq] at h
 all_goals exact⟨false,rfl,λq=>nomatch q⟩
theorem JF(S:Snd c n){x:Str}{p pos:Pos}{e:Expr}{V:V}(h1:GA n e ρ σ=some (V,ρ₁,σ₁))(hs:ρ₁.set x V=some ρ'):Qk c (n+1) (exec (.Assign [.Name x p] e pos)) ρ σ .next ρ' σ₁:=by
 intro A env Z P s rm R Q E k
 obtain⟨b,hb,hc⟩:=PU (env:=env) (x:=x) (p:=p) (line:=pos.line) h1
 cases b with
 |true=>
  obtain⟨d,rfl,hU⟩:=S.UF h1 (hc rfl)
  rw[exec_Assign_Name_used (env:=env) _ _ _ _ hb]
  exact wpAny_bind (wpAny_standAt (wpAny_bind (NK hU hs rm.succ R λZ' s' le R'=>wpAny_pure (k .next Z' s' le R' rfl))))
 |false=>
  rw[exec_Assign_Name (env:=env) _ _ _ _ hb]
  refine wpAny_bind (wpAny_standAt (wpAny_bind (S.F h1 A env Z P s rm.succ R _ _ λv as Z1 s1 le1 R1 hP ap ow=>wpAny_bind (wpAny_standAt (wpAny_bind (wpAny_bindName (Gv R1 hP ap ow hs λs2 R2 _=> ?_)))))))
  exact wpAny_pure (k .next Z1 s2 le1 R2 rfl)
theorem OwnL.live{h:Heap}:∀{Vs:List V}{vs:List Value}{rs:List (List Addr)},OwnL c Z h Vs vs rs->∀a∈rs.flatten,∃o,h.get? a=some o
 |[],vs,rs,ow,a,ha=>by obtain⟨_,rfl⟩:=ow;simp at ha
 |V::Vs,vs,rs,ow,a,ha=>by
  obtain⟨v,vs',as,rs',_,rfl,ow1,_,ow⟩:=ow
  rw[List.flatten_cons,mem_append] at ha
  rcases ha with ha|ha
  ·exact ow1.live a ha
  ·exact OwnL.live ow a ha
theorem OwnL.keep{h h':Heap}(le:Z.le Z'):∀{Vs:List V}{vs:List Value}{rs:List (List Addr)},OwnL c Z h Vs vs rs->(∀a∈rs.flatten,h'.get? a=h.get? a)->OwnL c Z' h' Vs vs rs
 |[],vs,rs,ow,_=>ow
 |V::Vs,vs,rs,ow,he=>by
  obtain⟨v,vs',as',rs',e1,rfl,ow1,dd,ow⟩:=ow
  rw[List.flatten_cons] at he
  exact⟨v,vs',as',rs',e1,rfl,ow1.keep le (λa ha o e=>by rw[he a (List.mem_append_left _ ha)];exact e),dd,OwnL.keep le ow (λa ha=>he a (List.mem_append_right _ ha))⟩
theorem Gw:∀(xs:List Str)(Vs:List V)(vs:List Value)(ass:List (List Addr)){ρ:Ev}{s:Shared},BD xs Vs ρ=some ρ'->Rel c env ρ σ Z (P.adds s.heap ass.flatten) (λ_=>none) s->(∀a∈ass.flatten,P a=none)->BK env ass.flatten->OwnL c Z s.heap Vs vs ass->
 ∀{Q:Unit->Shared->Prop},(∀s',Rel c env ρ' σ Z P (λ_=>none) s'->Q () s')->wpAny (model c.prog c.w) A (assignInOrder (xs.map λx=>bindName env x) vs) Q E s
 |[],[],vs,ass,ρ,s,h,R,hP,ap,ow,Q,k=>by
  obtain⟨rfl,rfl⟩:=ow
  cases h
  rw[List.flatten_nil,FM.adds_nil] at R
  exact wpAny_pure (k s R)
 |x::xs,V::Vs,vs,ass,ρ,s,h,R,hP,ap,ow,Q,k=>by
  obtain⟨v,vs',as,rs,rfl,rfl,ow1,dis,ow⟩:=ow
  unfold BD at h
  simp only[bind_eq_bind,bind_eq_some_iff] at h
  obtain⟨ρ₁,h1,h⟩:=h
  rw[List.flatten_cons] at R hP ap
  rw[FM.adds_app] at R
  show wpAny _ A (do holding vs' (bindName env x v);assignInOrder (xs.map λx=>bindName env x) vs') Q E s
  refine wpAny_bind (wpAny_holding (wpAny_bindName (Gv (P:=P.adds s.heap rs.flatten) R (λa ha=>by
   rw[FM.adds_out (dis a ha)];exact hP a (List.mem_append_left _ ha)) (λy a hy ha=>ap y a hy (List.mem_append_left _ ha)) ow1 h1 λs' R' kp=> ?_)))
  obtain⟨e1,e2⟩:=R'.still ow.live
  rw[e2] at R'
  exact Gw xs Vs vs' rs h R' (λa ha=>hP a (List.mem_append_right _ ha)) (λy a hy ha=>ap y a hy (List.mem_append_right _ ha)) (ow.keep (FM.le_refl _) e1) k
 |[],_::_,_,_,_,_,h,_,_,_,_,_,_=>by simp[BD] at h
 |_::_,[],_,_,_,_,h,_,_,_,_,_,_=>by simp[BD] at h
theorem OwnL.swap2{h:Heap}{V1 V2:V}{vs:List Value}{ass:List (List Addr)}(x:OwnL c Z h [V1,V2] vs ass):∃v1 v2 a1 a2,vs=[v1,v2]/\ass=[a1,a2]/\OwnL c Z h [V2,V1] [v2,v1] [a2,a1]:=by
 obtain⟨v1,_,a1,_,rfl,rfl,o1,d1,v2,_,a2,_,rfl,rfl,o2,d2,rfl,rfl⟩:=x
 refine⟨v1,v2,a1,a2,rfl,rfl,v2,_,a2,_,rfl,rfl,o2,λa ha hm=> ?_,v1,_,a1,_,rfl,rfl,o1,λa ha hm=>by simp at hm,rfl,rfl⟩
 simp at hm
 exact d1 a hm (by simp;exact ha)
theorem OwnL.swap3{h:Heap}{V1 V2 V3:V}{vs:List Value}{ass:List (List Addr)}(x:OwnL c Z h [V1,V2,V3] vs ass):∃v1 v2 v3 a1 a2 a3,vs=[v1,v2,v3]/\ass=[a1,a2,a3]/\OwnL c Z h [V3,V2,V1] [v3,v2,v1] [a3,a2,a1]:=by
 obtain⟨v1,_,a1,_,rfl,rfl,o1,d1,v2,_,a2,_,rfl,rfl,o2,d2,v3,_,a3,_,rfl,rfl,o3,d3,rfl,rfl⟩:=x
 refine⟨v1,v2,v3,a1,a2,a3,rfl,rfl,v3,_,a3,_,rfl,rfl,o3,λa ha hm=> ?_,v2,_,a2,_,rfl,rfl,o2,λa ha hm=> ?_,v1,_,a1,_,rfl,rfl,o1,λa ha hm=>by simp at hm,rfl,rfl⟩
 ·simp at hm
  rcases hm with hm|hm
  ·exact d2 a hm (by simp;exact ha)
  ·exact d1 a hm (by simp;exact .inr ha)
 ·simp at hm
  exact d1 a hm (by simp;exact .inl ha)
theorem GJ{x:Str}{W:V}(h:ρ.kind x=some .local):∃r,ρ.set x W=some r:=by unfold Ev.set;rw[h];exact⟨_,rfl⟩
theorem Uh{x1 x2:Str}{V1 V2:V}(h:BD [x1,x2] [V1,V2] ρ=some ρ')(hx:x1≠x2)(k1:ρ.kind x1=some .local)(k2:ρ.kind x2=some .local):∃r,BD [x2,x1] [V2,V1] ρ=some r/\(∀y,ρ'.kind y=r.kind y)/\∀y,ρ'.get y=r.get y:=by
 simp only[BD,bind_eq_bind,bind_eq_some_iff] at h
 obtain⟨ρ1,h1,ρ2,h2,h⟩:=h
 cases h
 obtain⟨r1,e1⟩:=GJ (W:=V2) k2
 obtain⟨r2,e2⟩:=GJ (ρ:=r1) (x:=x1) (W:=V1) (by rw[Ev.kind_set e1];exact k1)
 refine⟨r2,by simp only[BD,bind_eq_bind,e1,e2,bind_some],λy=> ?_,λy=> ?_⟩
 ·rw[Ev.kind_set h2,Ev.kind_set h1,Ev.kind_set e2,Ev.kind_set e1]
 ·rw[Ev.get_set h2,Ev.get_set h1,Ev.get_set e2,Ev.get_set e1]
  by_cases hy2:y=x2
  ·have:y≠x1:=λq=>hx (q.symm.trans hy2)
   simp[hy2,this,Ne.symm hx]
  ·simp[hy2]
theorem Ug{x1 x2 x3:Str}{V1 V2 V3:V}(h:BD [x1,x2,x3] [V1,V2,V3] ρ=some ρ')(h12:x1≠x2)(h13:x1≠x3)(h23:x2≠x3)(k1:ρ.kind x1=some .local)(k2:ρ.kind x2=some .local)(k3:ρ.kind x3=some .local):
 ∃r,BD [x3,x2,x1] [V3,V2,V1] ρ=some r/\(∀y,ρ'.kind y=r.kind y)/\∀y,ρ'.get y=r.get y:=by
 simp only[BD,bind_eq_bind,bind_eq_some_iff] at h
 obtain⟨ρ1,h1,ρ2,h2,ρ3,h3,h⟩:=h
 cases h
 obtain⟨r1,e1⟩:=GJ (W:=V3) k3
 obtain⟨r2,e2⟩:=GJ (ρ:=r1) (x:=x2) (W:=V2) (by rw[Ev.kind_set e1];exact k2)
 obtain⟨r3,e3⟩:=GJ (ρ:=r2) (x:=x1) (W:=V1) (by rw[Ev.kind_set e2,Ev.kind_set e1];exact k1)
 refine⟨r3,by simp only[BD,bind_eq_bind,e1,e2,e3,bind_some],λy=> ?_,λy=> ?_⟩
 ·rw[Ev.kind_set h3,Ev.kind_set h2,Ev.kind_set h1,Ev.kind_set e3,Ev.kind_set e2,Ev.kind_set e1]
 ·rw[Ev.get_set h3,Ev.get_set h2,Ev.get_set h1,Ev.get_set e3,Ev.get_set e2,Ev.get_set e1]
  by_cases hy3:y=x3
  ·simp[hy3,Ne.symm h13,Ne.symm h23]
  ·by_cases hy2:y=x2
   ·simp[hy2,Ne.symm h12,h23]
   ·simp[hy3,hy2]
theorem Mg{ts es:List Expr}{k k':Nat}{p p':Pos}{xs:List Str}(R:Rel c env ρ σ Z P μ s)(hx:Bc ts=some xs)(h:Gu ts es xs ρ=true):
 swappedStores [.Tuple ts k p] (.Tuple es k' p') env=pure (some xs):=by
 unfold Gu at h
 simp only[and_eq_true,not_eq_true',beq_iff_eq,all_eq_true] at h
 obtain⟨⟨⟨⟨⟨⟨h1,h2⟩,h3⟩,h4⟩,h5⟩,h6⟩,h7⟩:=h
 have hb:env.blockKind= .function:=by unfold Env.blockKind;rw[R.fn];rfl
 have hlen:∀(ts:List Expr) (xs:List Str),Bc ts=some xs->ts.length=xs.length:=by
  intro ts
  induction ts with
  |nil=>intro xs h;cases h;rfl
  |cons t ts ih=>
   intro xs h
   cases t<;>simp[Bc] at h
   obtain⟨ys,h,rfl⟩:=h
   simp[ih ys h]
 have hf:∀(line:Nat) (ts:List Expr) (xs:List Str),Bc ts=some xs->(∀t∈ts,(match t with| .Name x p=>ρ.kind x==some .local&&p.line==line|_=>false)=true)->
  (ts.filterMap λ| .Name id pos=>if env.kindOf id==some .local&&pos.line==line then some id else none|_=>none)=xs:=by
  intro line ts
  induction ts with
  |nil=>intro xs h _;cases h;rfl
  |cons t ts ih=>
   intro xs h hk
   cases t<;>simp[Bc] at h
   obtain⟨ys,h,rfl⟩:=h
   have h0:=hk _ (mem_cons_self ..)
   simp only[and_eq_true,beq_iff_eq] at h0
   have hkind:=R.kinds (by assumption)
   rw[filterMap_cons]
   rename_i id pos
   have hkind:=R.kinds id
   rw[h0.1] at hkind
   have hkind':env.kindOf id=some .local:=hkind
   simp only[hkind',h0.2,beq_self_eq_true,Bool.and_self,if_true]
   rw[ih ys h λt ht=>hk t (mem_cons_of_mem _ ht)]
 have hn:=hf _ ts xs hx h6
 unfold swappedStores
 dsimp only
 rw[if_neg (by rw[h1,hb];simp[h2])]
 have ne:∀{b:Bool},b=false->b=true->False:=λh q=>by rw[h] at q;cases q
 refine Eq.trans (if_neg ?_) ?_
 ·exact λq=>ne h3 q
 have hn':(ts.filterMap λ| .Name id pos=>if env.kindOf id==some .local&&pos.line==(ts.head?.map (·.pos.line)).getD 0 then some id else none|_=>none)=xs:=hn
 refine Eq.trans (b:=if(xs.length !=ts.length||xs.eraseDups.length !=xs.length)=true then pure none else if es.all (foldedForSure 8)=true then pure none else if es.all (constantsAlone 8)=true then unsupported "assign.tuple-of-constant-expressions:order-of-the-stores" else pure (some xs)) ?_ ?_
 ·rw[<-hn'];rfl
 ·rw[if_neg (by rw[hlen ts xs hx,h7];simp),h4,h5]
  simp
end
section
variable {c:Cx}{K:Frag}{env:Env}{ρ ρ' ρ₁ ρ₂ ρ₃:Ev}{σ σ' σ₁ σ₂ σ₃:St}{Z Z' P:FM}{μ:Str->Option Value}{s s':Shared}{A:Around}{E:Value->Shared->Prop}{L:Addr}{n:Nat}{d:D}
theorem He:∀(ts:List Expr)(xs:List Str),Bc ts=some xs->ts.length=xs.length:=by
 intro ts
 induction ts with
 |nil=>intro xs h;cases h;rfl
 |cons t ts ih=>
  intro xs h
  cases t<;>simp[Bc] at h
  obtain⟨ys,h,rfl⟩:=h
  simp[ih ys h]
theorem P5(R:Rel c env ρ₁ σ Z P μ s){x:Str}{W:V}(h:ρ₁.set x W=some ρ₂)(hk:env.kindOf x=some .local):ρ₁.kind x=some .local:=by
 have:=R.kinds x
 rcases Ev.set_of h with q|q
 ·exact q
 ·rw[q,hk] at this;cases this
theorem H0(S:Snd c n){ts es:List Expr}{k k':Nat}{p p' pos:Pos}{xs:List Str}{Vs:List V}(hx:Bc ts=some xs)(hsw:Gu ts es xs ρ=true)(h1:HK n es ρ σ=some (Vs,ρ₁,σ₁))(hs:BD xs Vs ρ₁=some ρ'):
 Qk c (n+1) (exec (.Assign [.Tuple ts k p] (.Tuple es k' p') pos)) ρ σ .next ρ' σ₁:=by
 intro A env Z P s rm R Q E kk
 obtain⟨hns,hF⟩:=S.Fs h1
 refine Assign_Tuple_swapped (names:=xs) ?_ rfl (Mg R hx hsw)
 rw[arm_eval_Tuple]
 refine wpAny_bind (wpAny_standAt (wpAny_bind (hF p' A env Z P s rm.succ R _ _ λvs ass Z1 s1 le1 R1 hP ap ow=> ?_)))
 have hsw':=hsw
 unfold Gu at hsw'
 simp only[and_eq_true,or_eq_true,not_eq_true',beq_iff_eq,all_eq_true] at hsw'
 obtain⟨⟨⟨⟨⟨⟨hl,_⟩,_⟩,_⟩,_⟩,hk⟩,hnd⟩:=hsw'
 have hnd':xs.Nodup:=BF hnd
 have hkn:∀x∈xs,env.kindOf x=some .local:=by
  have:∀(ts:List Expr) (xs:List Str),Bc ts=some xs->∀x∈xs,∃p,Expr.Name x p∈ts:=by
   intro ts
   induction ts with
   |nil=>intro xs h x hx;cases h;cases hx
   |cons t ts ih=>
    intro xs h x hx
    cases t<;>simp[Bc] at h
    obtain⟨ys,h,rfl⟩:=h
    rcases mem_cons.mp hx with rfl|hx
    ·exact⟨_,mem_cons_self ..⟩
    ·obtain⟨p,hp⟩:=ih ys h x hx;exact⟨p,mem_cons_of_mem _ hp⟩
  intro x hxm
  obtain⟨p,hp⟩:=this ts xs hx x hxm
  have h0:=hk _ hp
  simp only[and_eq_true,beq_iff_eq] at h0
  have:=R.kinds x
  rw[h0.1] at this;exact this
 have step:∀(n:Nat),vs.length=xs.length->vs.length<=10->(∀s2,Rel c env ρ₁ σ₁ Z1 (P.adds s2.heap ass.flatten) (λ_=>none) s2->OwnL c Z1 s2.heap Vs vs ass->wpAny (model c.prog c.w) A (assignInOrder (xs.reverse.map λn=>bindName env n) vs.reverse) (λ_=>Q .next) E s2)->
  wpAny (model c.prog c.w) A (newTuple vs) (λv s₁=>wpAny (model c.prog c.w) A (unpackItems v xs.length none) (λitems s₂=>wpAny (model c.prog c.w) A (assignInOrder (xs.reverse.map λn=>bindName env n) items.reverse) (λ_=>Q .next) E s₂) E s₁) E s1:=by
  intro _ hvl hv10 go
  refine wpAny_newObj_type ?_ (by show vs.toArray.size<=sizeLine;rw[size_toArray,sizeLine_eq];omega)
  have e:xs.length=vs.toArray.size:=by rw[size_toArray,hvl]
  rw[e]
  refine unpackItems_tuple rm.1 ⟨_,Heap.get?_push_size _ rfl,rfl,_,rfl⟩ λh' he=> ?_
  have keep:∀a o,s1.heap.get? a=some o->h'.get? a=some o:=λa o q=>by
   have q':(s1.heap.push {cls:= .type "tuple",data:= .seq vs.toArray}).get? a=some o:=Heap.get?_push_of_some _ q
   exact he a o (Nat.ne_of_lt (Heap.lt_size q')) q'
  have R2:Rel c env ρ₁ σ₁ Z1 (P.adds s1.heap ass.flatten) (λ_=>none) {s1 with heap:=h'}:=R1.grow keep rfl rfl
  obtain⟨e1,e2⟩:=R2.still ow.live
  rw[e2] at R2
  exact go _ R2 (ow.keep (FM.le_refl _) e1)
 rcases hl with hl|hl
 ·obtain⟨x1,x2,rfl⟩:∃x1 x2,xs=[x1,x2]:=by
   rw[He ts xs hx] at hl
   match xs,hl with
   |[x1,x2],_=>exact⟨_,_,rfl⟩
  obtain⟨V1,V2,rfl⟩:∃V1 V2,Vs=[V1,V2]:=by
   match Vs with
   |[]=>simp[BD] at hs
   |[_]=>simp[BD] at hs
   |[V1,V2]=>exact⟨_,_,rfl⟩
   |_::_::_::_=>simp[BD] at hs
  obtain⟨v1,v2,a1,a2,rfl,rfl,ow'⟩:=ow.swap2
  have hx12:x1≠x2:=by simpa using hnd'
  have hs':=hs
  simp only[BD,bind_eq_bind,bind_eq_some_iff] at hs'
  obtain⟨r1,q1,r2,q2,_⟩:=hs'
  obtain⟨r,hr,rk,rg⟩:=Uh hs hx12 (P5 R1 q1 (hkn x1 (by simp))) (by have:=Ev.set_of q2;rw[Ev.kind_set q1] at this;rcases this with q|q;exact q;have h:=R1.kinds x2;rw[q,hkn x2 (by simp)] at h;cases h)
  refine step 0 rfl (by simp) λs2 R2 ow2=> ?_
  have mem:∀a,a∈[a1,a2].flatten↔a∈[a2,a1].flatten:=λa=>by simp[or_comm]
  obtain⟨_,_,_,_,e1,e2,ow2'⟩:=ow2.swap2
  cases e1;cases e2
  rw[FM.adds_congr mem] at R2
  exact Gw (ρ:=ρ₁) [x2,x1] [V2,V1] [v2,v1] [a2,a1] hr R2 (λa ha=>hP a ((mem a).mpr ha)) (λy a hy ha=>ap y a hy ((mem a).mpr ha)) ow2' λs' R'=>kk .next Z1 s' le1 (R'.congr rk rg) rfl
 ·obtain⟨x1,x2,x3,rfl⟩:∃x1 x2 x3,xs=[x1,x2,x3]:=by
   rw[He ts xs hx] at hl
   match xs,hl with
   |[x1,x2,x3],_=>exact⟨_,_,_,rfl⟩
  obtain⟨V1,V2,V3,rfl⟩:∃V1 V2 V3,Vs=[V1,V2,V3]:=by
   match Vs with
   |[]=>simp[BD] at hs
   |[_]=>simp[BD] at hs
   |[_,_]=>simp[BD] at hs
   |[V1,V2,V3]=>exact⟨_,_,_,rfl⟩
   |_::_::_::_::_=>simp[BD] at hs
  obtain⟨v1,v2,v3,a1,a2,a3,rfl,rfl,ow'⟩:=ow.swap3
  have hxx:(¬x1=x2/\¬x1=x3)/\¬x2=x3:=by simpa using hnd'
  have hs':=hs
  simp only[BD,bind_eq_bind,bind_eq_some_iff] at hs'
  obtain⟨r1,q1,r2,q2,r3,q3,_⟩:=hs'
  have loc:∀x,x∈[x1,x2,x3]->(ρ₁.kind x=some .local\/ρ₁.kind x=some .cell)->ρ₁.kind x=some .local:=λx hx hq=>by
   rcases hq with q|q
   ·exact q
   ·have h:=R1.kinds x;rw[q,hkn x hx] at h;cases h
  obtain⟨r,hr,rk,rg⟩:=Ug hs hxx.1.1 hxx.1.2 hxx.2 (loc _ (by simp) (Ev.set_of q1)) (loc _ (by simp) (by have:=Ev.set_of q2;rwa [Ev.kind_set q1] at this)) (loc _ (by simp) (by have:=Ev.set_of q3;rwa [Ev.kind_set q2,Ev.kind_set q1] at this))
  refine step 0 rfl (by simp) λs2 R2 ow2=> ?_
  have mem:∀a,a∈[a1,a2,a3].flatten↔a∈[a3,a2,a1].flatten:=λa=>by
   simp only[List.flatten_cons,List.flatten_nil,mem_append,List.not_mem_nil,or_false]
   constructor
   ·rintro(h|h|h)
    ·exact .inr (.inr h)
    ·exact .inr (.inl h)
    ·exact .inl h
   ·rintro(h|h|h)
    ·exact .inr (.inr h)
    ·exact .inr (.inl h)
    ·exact .inl h
  obtain⟨_,_,_,_,_,_,e1,e2,ow2'⟩:=ow2.swap3
  cases e1;cases e2
  rw[FM.adds_congr mem] at R2
  exact Gw (ρ:=ρ₁) [x3,x2,x1] [V3,V2,V1] [v3,v2,v1] [a3,a2,a1] hr R2 (λa ha=>hP a ((mem a).mpr ha)) (λy a hy ha=>ap y a hy ((mem a).mpr ha)) ow2' λs' R'=>kk .next Z1 s' le1 (R'.congr rk rg) rfl
theorem FJ{la:Addr}{s':Shared}(R:Rel c env ρ σ Z (P.adds s.heap [la]) μ s)(hP:∀a∈[la],P a=none)(ap:BK env [la])(live:∃o,s.heap.get? la=some o)(sb:Heap.SameBut la s.heap s'.heap)(g:s'.gens=s.gens)(os:s'.os=s.os):Rel c env ρ σ Z (P.adds s'.heap [la]) μ s':=by
 have lv:∀a∈[la],∃o,s.heap.get? a=some o:=λa ha=>by rw[mem_singleton.mp ha];exact live
 have zo:=R.looseZ lv
 exact(R.stepZ (as':=[la]) (s':=s') (Z':=Z) hP lv (λa o m e=>by
  rw[sb.2 a (by simpa using m)];exact e) (FM.le_refl _) (λa o e=>by
  rw[sb.2 a (λq=>by rw[q,zo la (by simp)] at e;cases e)];exact R.zh a o e) (λ_ _ e=> .inl e) (λa ha=>⟨.inl ha,zo a ha⟩) ap g os).1
theorem Fw{prog:Program}{w:World}{h:Heap}{a:Addr}{kvs:List (Key×Value)}(x:h.DictOf (AV prog w) a kvs):(kvs.map (·.1)).Nodup:=let⟨_,_,_,_,_,_,_,_,hn⟩:=x;hn
theorem Je(S:Snd c n){x:Str}{px pi pos:Pos}{i v:Expr}{kd:D}{W0 W:V}{f:Fl}(hb:BE x=false)(h1:Aq n v ρ σ=some (d,ρ₁,σ₁))(h0:ρ₁.get x=some W0)(h2:Aq n i ρ₁ σ₁=some (kd,ρ₂,σ₂))(h3:ρ₂.get x=some W)
 (h4:CV x kd d W ρ₂ σ₂=some (f,ρ',σ')):Qk c (n+1) (exec (.Assign [.Subscript (.Name x px) i pi] v pos)) ρ σ f ρ' σ':=by
 intro A env Z P s rm R Q E k
 refine wpAny_Assign_Subscript (S.E h1 A env Z P _ s rm.succ R _ _ λvd Z1 s1 le1 R1 r1=> ?_) (by cases v<;>rfl)
 obtain⟨v0,as,ho,hμ,_,R1'⟩:=R1.know h0
 refine BM R1' (x:=x) (v:=v0) (by simp) hb (S.E h2 A env Z1 P _ s1 rm.succ R1' _ _ λvk Z2 s2 le2 R2 r2=> ?_)
 unfold CV at h4
 split at h4
 ·rename_i es
  simp only[bind_eq_bind,bind_eq_some_iff] at h4
  obtain⟨key,hk,h4⟩:=h4
  split at h4
  ·rename_i hq
   simp only[and_eq_true,decide_eq_true_eq] at hq
   rw[map_eq_some_iff] at h4
   obtain⟨ρ3,hs,e⟩:=h4
   cases e
   obtain⟨v,own,ow,hP,ap,hμ',R3⟩:=R2.take h3
   have hv:=hμ' v0 (by simp)
   subst hv
   obtain⟨a,kvs,rfl,rfl,nm,dd,he⟩:=ow
   have hlen:=RepE.length _ _ he
   refine wpAny_setItem_pairs (knd:=AV c.prog c.w) (k:=key) (Cq r2 hk) dd (λh' dd' sb=> ?_) (by rw[sizeLine_eq];omega)
   exact k .next Z2 _ (FM.le_trans le1 le2) (FN hs (FJ (s':={s2 with heap:=h',toks:=s2.toks+1}) R3 hP ap (DictOf.live dd) sb rfl rfl) (by simp) hP ap ⟨a,_,rfl,rfl,nm,dd',RepE.put (Rep.mono le2 _ _ r1) _ _ he (Fw dd)⟩) rfl
  ·cases h4
 ·split at h4
  ·rename_i z
   split at h4
   ·rename_i hq
    cases h4
    obtain⟨v,as2,ow,hμ',_,R3⟩:=R2.know h3
    have hv:=hμ' v0 (by simp)
    subst hv
    have rp:=ow.2
    rw[Rep] at rp
    subst rp
    have r1':=r1
    rw[Rep] at r1'
    obtain⟨tz,rfl⟩:=r1'
    obtain⟨nm,vc,t,dd,rc,qc⟩:=R2.feed
    refine wpAny_setItem_pairs (knd:=AV c.prog c.w) (k:=Key.s (Str.ofString "spot")) (Cq r2 hq.1) dd (λh' dd' sb=> ?_) (by simp[sizeLine_eq])
    have est:stored [(Key.s (Str.ofString "cells"),vc),(Key.s (Str.ofString "spot"),Value.int σ₂.2 t)] (Key.s (Str.ofString "spot")) (.int z tz)=[(Key.s (Str.ofString "cells"),vc),(Key.s (Str.ofString "spot"),.int z tz)]:=by
     have:¬(Str.ofString "cells" =Str.ofString "spot"):=by decide
     simp[stored,this]
    rw[est] at dd'
    have Wt:Went c Z2 s2 (σ₂.1,z) Z2 {s2 with heap:=h',toks:=s2.toks+1}:={
     le:=FM.le_refl _
     held:=λa o e=>by
      show h'.get? a=some o
      rw[sb.2 a (λq=>by rw[q,R2.feedFree.1] at e;cases e)];exact R2.zh a o e
     keep:=λa o e=>by
      show h'.get? a=some o
      obtain⟨h1,_,h3⟩:=BX e
      rw[sb.2 a h1];exact h3
     new:=λa o e=>Gz e
     feed:=⟨nm,vc,tz,dd',rc,qc⟩
     fz:=R2.feedFree.1
     gens:=R2.gens
     os:=R2.os}
    exact k .next Z2 _ (FM.le_trans le1 le2) ((R2.went Wt).mu (μ':=λ_=>none) λ_ _ q=>nomatch q) rfl
   ·cases h4
  ·cases h4
 ·cases h4
theorem Kr(S:Snd c n){x m:Str}{px ap cp pos:Pos}{args:List Expr}{as:List D}{V₀ V:V}{f:Fl}(hb:BE x=false)(hl:(ap.endLine==cp.line)=true)(hn:args.length<30)(h0:ρ.get x=some V₀)(h1:Hn n args ρ σ=some (as,ρ₁,σ₁))(h2:ρ₁.get x=some V)
 (hk:B1 V₀ V=true) (h3:QJ n x m V as ρ₁ σ₁=some (f,ρ',σ')):Qk c (n+1) (exec (.Expr (.Call (.Attribute (.Name x px) m ap) args [] cp) pos)) ρ σ f ρ' σ':=by
 intro A env Z P s rm R Q E k
 obtain⟨hns,hL⟩:=S.L h1
 obtain⟨rfl,hM⟩:=S.M h3
 obtain⟨v,own,ho,_,_,R1⟩:=R.know h0
 refine wpAny_Expr (Cj rfl hl hn (hns env) (BM R1 (x:=x) (v:=v) (by simp) hb λpl=> ?_)) (CY R) rfl
 refine hM A env Z P _ ρ σ s v V₀ rm.succ hk R1 ⟨own,ho⟩ pl _ E ?_
 rintro fv ⟨Pk,hkp,body⟩
 refine Ai (P:=Pk) (hns env) hkp (hL cp A env Z P _ s rm.succ R1 _ _ λvs Z1 s1 le1 R2 r=> ?_)
 obtain⟨pk,go⟩:=body Z1 s1 vs R2 (R2.mu (μ':=λ_=>none) λ_ _ q=>nomatch q) h2 r
 refine⟨pk,go _ E λv' Z' s' le R' nr=> ?_⟩
 cases v'<;>first|exact absurd rfl (nr _)|exact k .next Z' s' (FM.le_trans le1 le) R' rfl
theorem Sg(S:Snd c n){t it:Expr}{b:List Stmt}{pos:Pos}{xs:List D}{f:Fl}(ht:Ek t it=true)(h1:FQ n it ρ σ=some (xs,ρ₁,σ₁))
 (h2:EG (λd (s:Ev×St)=>do
    let ρ<-JR t d s.1
    let(f,ρ,σ)<-Br n b ρ s.2
    some (f,s.1.back ρ,σ)) xs (ρ₁,σ₁)=some (f,ρ',σ')):Qk c (n+1) (exec (.For t it b [] pos)) ρ σ f ρ' σ':=by
 intro A env Z P s rm R Q E k
 obtain⟨hfold,hIt⟩:=S.It _ _ _ _ _ _ h1 A env Z P _ s rm.succ R
 refine wpAny_For (hIt _ _ λI own SS Z1 s1 le1 W st R1 hP ap=> ?_) hfold
 refine NG rm.1 W ?_ ?_ h2 R1 st (FM.le_refl _) hP ap λfl Z' s' le R' fr=>k fl Z' s' (FM.le_trans le1 le) R' fr
 ·unfold Ek at ht
  simp only[or_eq_true,not_eq_true'] at ht
  rcases ht with h|h
  ·unfold isTup at h
   split at h
   ·exact .inl ⟨_,_,_,rfl⟩
   ·cases h
  ·exact .inr h
 ·intro d ρ σ r hr Z P s v Q E R rv k
  simp only[bind_eq_bind,bind_eq_some_iff] at hr
  obtain⟨ρa,ha,⟨f2,ρb,σb⟩,hb,hr⟩:=hr
  cases hr
  exact QX R rm.1 ha rv λs' R'=>S.Ss hb A env Z P s' rm.succ R' _ _ λfl Z' s'' le R'' fr=>k fl Z' s'' le R''.backs fr
end
section
variable {c:Cx}{K:Frag}{env:Env}{ρ ρ' ρ₁ ρ₂ ρ₃:Ev}{σ σ' σ₁ σ₂ σ₃:St}{Z Z' P:FM}{μ:Str->Option Value}{s s':Shared}{A:Around}{E:Value->Shared->Prop}{L:Addr}{n:Nat}{d:D}
theorem GM{h:Heap}{key:Key}:∀(es:List (Key×List D))(l:List (Key×Addr)){v:Value},RepDL c Z h es l->valueAt (l.map λp=>(p.1,Value.ref p.2)) key=some v->(l.map (·.2)).Nodup->(∀e∈es,e.2.length<1000)->
 ∃b vs,v= .ref b/\b∈l.map (·.2)/\h.PlainList b vs.toArray/\vs.length<1000/\∀(h':Heap) (Z':FM) (vd:Value),Z.le Z'->h'.PlainList b (vs++[vd]).toArray->(∀q∈l.map (·.2),q≠b->h'.get? q=h.get? q)->Rep c Z' d vd->RepDL c Z' h' (Bl key d es) l
 |[],l,v,x,hv,_,_=>by unfold RepDL at x;subst x;simp[valueAt] at hv
 |(k,ds)::r,l,v,x,hv,hn,hlen=>by
  unfold RepDL at x
  obtain⟨a,l',vs,rfl,i,y,z⟩:=x
  rw[map_cons,nodup_cons] at hn
  have hl:=RepL.length _ _ y
  by_cases hk:k=key
  ·subst hk
   have:v= .ref a:=by
    unfold valueAt at hv
    rw[map_cons,List.find?_cons] at hv
    simp at hv
    exact hv.symm
   subst this
   refine⟨a,vs,rfl,by simp,i,by have:=hlen _ (mem_cons_self ..);dsimp only at this;omega,λh' Z' vd le pl off rd=> ?_⟩
   unfold Bl
   rw[if_pos rfl]
   unfold RepDL
   refine⟨a,l',vs++[vd],rfl,pl,RepL.snoc (RepL.mono le _ _ y) rd,RepDL.keep le r l' z λb hb o e=> ?_⟩
   rw[off b (mem_cons_of_mem _ hb) (λq=>hn.1 (q▸hb))];exact e
  ·have hv':valueAt (l'.map λp=>(p.1,Value.ref p.2)) key=some v:=by
    unfold valueAt at hv⊢
    rw[map_cons,List.find?_cons] at hv
    simp only[decide_eq_false (show ¬(k=key) from hk)] at hv
    exact hv
   obtain⟨b,ws,rfl,hb,pl,hw,go⟩:=GM r l' z hv' hn.2 λe he=>hlen e (mem_cons_of_mem _ he)
   refine⟨b,ws,rfl,mem_cons_of_mem _ hb,pl,hw,λh' Z' vd le pl' off rd=> ?_⟩
   unfold Bl
   rw[if_neg hk]
   unfold RepDL
   have hab:a≠b:=λq=>hn.1 (q▸hb)
   exact⟨a,l',vs,rfl,i.at λo e=>by rw[off a (mem_cons_self ..) hab];exact e,RepL.mono le _ _ y,go h' Z' vd le pl' (λq hq hqb=>off q (mem_cons_of_mem _ hq) hqb) rd⟩
theorem IW{h h':Heap}{key:Key}{la:Addr}{vd:Value}(le:Z.le Z')(pl:h'.PlainList la [vd].toArray)(rd:Rep c Z' d vd):∀(es:List (Key×List D))(l:List (Key×Addr)),RepDL c Z h es l->((l.map λp=>(p.1,Value.ref p.2)).any λkv=>decide (kv.1=key))=false->
 (∀q∈l.map (·.2),h'.get? q=h.get? q)->RepDL c Z' h' (Bl key d es) (l++[(key,la)])
 |[],l,x,_,_=>by
  unfold RepDL at x;subst x
  unfold Bl RepDL
  exact⟨la,[],[vd],rfl,pl,RepL.cons rd RepL.nil,by unfold RepDL;rfl⟩
 |(k,ds)::r,l,x,hn,off=>by
  unfold RepDL at x
  obtain⟨a,l',vs,rfl,i,y,z⟩:=x
  rw[map_cons,any_cons,Bool.or_eq_false_iff] at hn
  have hk:¬(k=key):=by simpa using hn.1
  unfold Bl
  rw[if_neg hk]
  unfold RepDL
  refine⟨a,l'++[(key,la)],vs,rfl,i.at λo e=> ?_,RepL.mono le _ _ y,IW le pl rd r l' z hn.2 λq hq=>off q (mem_cons_of_mem _ hq)⟩
  rw[off a (mem_cons_self ..)];exact e
theorem Lp{x:Str}{v:Expr}{d₂:D}(h:E0 x v ρ=true)(h1:Aq n v ρ σ=some (d₂,ρ₂,σ₂)):Aq n v (ρ.drop x) σ=some (d₂,ρ.drop x,σ):=by
 unfold E0 at h
 split at h
 ·rename_i y p i k kp sp vp
  simp only[and_eq_true,bne_iff_ne,ne_eq,not_eq_true'] at h
  obtain⟨⟨hy,hg⟩,hd⟩:=h
  split at hd
  ·rename_i dy hget
   have hg':Ao (ρ.drop x) y=false:=hg
   have hget':(ρ.drop x).get y=some (.d dy):=by rw[Ev.get_drop,if_neg hy,hget]
   cases n with
   |zero=>simp[Aq] at h1
   |succ n=>
    cases n with
    |zero=>simp[Aq] at h1
    |succ n=>
     cases n with
     |zero=>simp[Aq,Kt] at h1
     |succ n=>
      simp only[Aq,Kt,hg,hg',hget,hget',false_eq_true,if_false,bind_eq_bind,bind_some] at h1⊢
      split at h1
      ·simp at h1
      ·rename_i hbn
       simp only[bind_some] at h1⊢
       cases hs:Bo dy (.int i) .none .none with
       |none=>rw[hs] at h1;simp at h1
       |some w=>
        rw[hs] at h1
        simp only[bind_some,Option.some.injEq,Prod.mk.injEq] at h1
        simp[hbn,hs,h1.1]
  ·cases hd
 ·cases h
end
section
variable {c:Cx}{K:Frag}{env:Env}{ρ ρ' ρ₁ ρ₂ ρ₃:Ev}{σ σ' σ₁ σ₂ σ₃:St}{Z Z' P:FM}{μ:Str->Option Value}{s s':Shared}{A:Around}{E:Value->Shared->Prop}{L:Addr}{n:Nat}{d:D}
theorem Ey{own:List Addr}{b:Addr}{s':Shared}(R:Rel c env ρ σ Z (P.adds s.heap own) μ s)(hP:∀a∈own,P a=none)(ap:BK env own)(live:∀a∈own,∃o,s.heap.get? a=some o)(hb:b∈own)(sb:Heap.SameBut b s.heap s'.heap)(g:s'.gens=s.gens)(os:s'.os=s.os):Rel c env ρ σ Z (P.adds s'.heap own) μ s':=by
 have zo:=R.looseZ live
 exact(R.stepZ (as':=own) (s':=s') (Z':=Z) hP live (λa o m e=>by
  rw[sb.2 a (λq=>m (q▸hb))];exact e) (FM.le_refl _) (λa o e=>by
  rw[sb.2 a (λq=>by rw[q,zo b hb] at e;cases e)];exact R.zh a o e) (λ_ _ e=> .inl e) (λa ha=>⟨.inl ha,zo a ha⟩) ap g os).1
theorem KN(S:Snd c n){x:Str}{vx:Expr}{cp:Pos}{es:List (Key×List D)}{key:Key}{a b:Addr}{own:List Addr}{vs:List Value}{pl:Sem Bool}(rm:Room n A)(hv:Aq n vx (ρ₁.drop x) σ₁=some (d,ρ₁.drop x,σ₁))(hs:ρ₁.set x (.ownDL (Bl key d es))=some ρ')
 (R:Rel c env (ρ₁.drop x) σ₁ Z (P.adds s.heap own) μ s) (hμ:μ x=some (.ref a)) (hP:∀q∈own,P q=none) (ap:BK env own) (live:∀q∈own,∃o,s.heap.get? q=some o) (hb:b∈own) (pb:s.heap.PlainList b vs.toArray) (hl:vs.length<1000)
 (fin:∀(h':Heap) (Z':FM) (vd:Value),Z.le Z'->h'.PlainList b (vs++[vd]).toArray->(∀q∈own,q≠b->h'.get? q=s.heap.get? q)->Rep c Z' d vd->Own c Z' h' (.ownDL (Bl key d es)) (.ref a) own) {Q:Value->Shared->Prop}
 (k:∀Z' s',Z.le Z'->Rel c env ρ' σ₁ Z' P (λ_=>none) s'->Q .none s'):
 wpAny (model c.prog c.w) A (getMethod (.ref b) (Str.ofString "append") pl) (λfx s₂=>wpAny (model c.prog c.w) A (callWith cp fx.1 fx.2 (backTo cp (starEach [vx] env)) []) Q E s₂) E s:=by
 obtain⟨n0,hl0⟩:=pb
 refine getMethod_list_append hl0 rfl rfl ?_
 refine Ai (P:=λ_=>True) (Ay (Ax hv)) (Au (.inr ⟨_,rfl⟩)) ?_
 refine BY (Ax hv) (S.E hv A env Z _ _ s rm R _ _ λvd Z3 s3 le3 R3 rd=>⟨trivial,?_⟩)
 obtain⟨e1,e2⟩:=R3.still live
 have live3:∀q∈own,∃o,s3.heap.get? q=some o:=λq hq=>by rw[e1 q hq];exact live q hq
 rw[e2] at R3
 have pb3:s3.heap.PlainList b vs.toArray:=⟨n0,by rw[e1 b hb];exact hl0⟩
 refine wpAny_list_append_plain pb3 (λh' pl' sb=> ?_) (by rw[sizeLine_eq,size_toArray];omega)
 have R4:=Ey (s':={s3 with heap:=h'}) R3 hP ap live3 hb sb rfl rfl
 exact k Z3 _ le3 (FN hs R4 hμ hP ap (fin h' Z3 vd le3 (by simpa using pl') (λq hq hqb=>by rw[sb.2 q hqb,e1 q hq]) rd))
theorem OQ(S:Snd c n){x m₁ m₂:Str}{px ap₁ ap₂ cp₁ cp₂ lp pos:Pos}{kx vx:Expr}{kd:D}{V₀ V₁:V}(hb:BE x=false)(hl1:(ap₁.endLine==cp₁.line)=true)(hl2:(ap₂.endLine==cp₂.line)=true)
 (h0:ρ.get x=some V₀) (h1:Aq n kx ρ σ=some (kd,ρ₁,σ₁)) (h2:ρ₁.get x=some V₁) (hlook:E0 x vx ρ₁=true) (hsk:B1 V₀ V₁=true) (h3:Aq n vx ρ₁ σ₁=some (d,ρ₂,σ₂)) (h4:FF x m₁ m₂ kd d V₁ ρ₁=some ρ'):
 Qk c (n+1) (exec (.Expr (.Call (.Attribute (.Call (.Attribute (.Name x px) m₁ ap₁) [kx,.List [] lp] [] cp₁) m₂ ap₂) [vx] [] cp₂) pos)) ρ σ .next ρ' σ₁:=by
 intro A env Z P s rm R Q E k
 have hv:=Lp hlook h3
 unfold FF at h4
 split at h4
 ·rename_i es
  simp only[bind_eq_bind,bind_eq_some_iff] at h4
  obtain⟨key,hk,h4⟩:=h4
  split at h4
  ·rename_i hq
   obtain⟨rfl,rfl,hall,hlen⟩:=hq
   have hall':∀e∈es,e.2.length<1000:=λe he=>by have:=all_eq_true.mp hall e he;simpa using this
   obtain⟨v0,own0,ho,_,_,R1⟩:=R.know h0
   obtain⟨es₀,rfl⟩:∃es₀,V₀= .ownDL es₀:=by cases V₀<;>simp[B1] at hsk<;>exact⟨_,rfl⟩
   obtain⟨a,l0,rfl,rfl,_,_,dd0,_⟩:=ho
   refine wpAny_Expr (GS rfl hl2 (by simp) (Ay (Ax hv)) ?_) (CY R) rfl
   have ns1:BP [kx,.List [] lp] env:=CF (Ax h1) (Ay λ_ _ q=>by cases q)
   have ns2:BP [.List [] lp] env:=Ay λ_ _ q=>by cases q
   refine Cj rfl hl1 (by simp) ns1 (BM R1 (x:=x) (v:= .ref a) (by simp) hb λpl1=> ?_)
   refine getMethod_builtin dd0.typeIs PySem.F.plainAttrs_dict PySem.F.slot_dict_setdefault PySem.F.type_dict_setdefault dd0.mapOf.noDict ?_
   refine Ai (P:=λ_=>True) ns1 (Au (.inr ⟨_,rfl⟩)) ?_
   refine wpAny_items_cons (S.E h1 A env Z P _ s rm.succ R1 _ _ λvk Z1 s1 le1 R2 rk=> ?_) (A7 ns1).1
   refine wpAny_items_cons ?_ (A7 ns2).1
   rw[arm_eval_List]
   refine wpAny_bind (wpAny_standAt (wpAny_bind (wpAny_items_nil ?_)))
   refine wpAny_newList ?_ (by rw[sizeLine_eq];simp)
   refine wpAny_items_nil ⟨trivial,?_⟩
   generalize hla:s1.heap.objs.size=la
   have fresh:s1.heap.get? la=none:=by rw[<-hla];exact Ab _
   have keep:∀q o,s1.heap.get? q=some o->(s1.heap.push (seqObj "list" ([]:List Value).toArray 0)).get? q=some o:=λq o e=>Heap.get?_push_of_some _ e
   have pla:(s1.heap.push (seqObj "list" ([]:List Value).toArray 0)).PlainList la ([]:List Value).toArray:=⟨0,by rw[<-hla];exact Heap.get?_push_size _ rfl⟩
   generalize (s1.heap.push (seqObj "list" ([]:List Value).toArray 0))=h2' at keep pla
   obtain⟨v,own,ow,hP,ap,hμ,R3⟩:=R2.take h2
   have hv0:=hμ (.ref a) (by simp)
   subst hv0
   have liveO:=ow.live
   obtain⟨a',l,ea,rfl,nd,nm,dd,rdl⟩:=ow
   cases ea
   have zo:=R3.looseZ liveO
   have laO:la∉a::l.map (·.2):=λhm=>by obtain⟨o,e⟩:=liveO la hm;rw[fresh] at e;cases e
   have keepO:∀q∈a::l.map (·.2),h2'.get? q=s1.heap.get? q:=λq hq=>by obtain⟨o,e⟩:=liveO q hq;rw[e];exact keep q o e
   have R3':Rel c env (ρ₁.drop x) σ₁ Z1 (P.adds s1.heap (a::l.map (·.2))) (λy=>if y=x then some (Value.ref a) else none) s1:=R3.mu λy u hu=>by
    by_cases hy:y=x
    ·simp[hy] at hu⊢;exact hu
    ·simp[hy] at hu
   have R4:Rel c env (ρ₁.drop x) σ₁ Z1 (P.adds h2' (a::l.map (·.2))) (λy=>if y=x then some (Value.ref a) else none) {s1 with heap:=h2'}:=by
    rw[FM.adds_keep keepO];exact R3'.grow (s':={s1 with heap:=h2'}) keep rfl rfl
   have dd2:h2'.DictOf (AV c.prog c.w) a (l.map λp=>(p.1,.ref p.2)):=DictOf.at' dd λo e=>keep a o e
   have rdl2:RepDL c Z1 h2' es l:=rdl.keep (FM.le_refl _) _ _ λq _ o e=>keep q o e
   have hlenl:(l.map λp=>(p.1,Value.ref p.2)).length=es.length:=by
    have:∀(es:List (Key×List D)) (l:List (Key×Addr)),RepDL c Z1 h2' es l->l.length=es.length:=by
     intro es
     induction es with
     |nil=>intro l x;unfold RepDL at x;subst x;rfl
     |cons e es ih=>
      intro l x
      obtain⟨k,ds⟩:=e
      unfold RepDL at x
      obtain⟨_,l',_,rfl,_,_,z⟩:=x
      simp[ih l' z]
    rw[length_map,this _ _ rdl2]
   have live4:∀q∈a::l.map (·.2),∃o,h2'.get? q=some o:=λq hq=>by rw[keepO q hq];exact liveO q hq
   have ndl:(l.map (·.2)).Nodup:=(nodup_cons.mp nd).2
   have anl:a∉l.map (·.2):=(nodup_cons.mp nd).1
   refine Hz (knd:=AV c.prog c.w) (k:=key) (Cq rk hk) dd2 nm (λv hv'=> ?_) (λhnew h' dd' sb=> ?_) (by rw[sizeLine_eq];omega)
   ·obtain⟨b,vs,rfl,hbm,pb,hvl,go⟩:=GM es l rdl2 hv' ndl hall'
    intro pl2
    refine KN (a:=a) (s:={s1 with heap:=h2',toks:=s1.toks+1}) S rm.succ hv h4 (R4.toks _) (by simp) hP ap live4 (mem_cons_of_mem _ hbm) pb hvl (λh' Z' vd le pl' off rd=> ?_) λZ' s' le R'=>k .next Z' s' (FM.le_trans le1 le) R' rfl
    have hab:a≠b:=λq=>anl (q▸hbm)
    exact⟨a,l,rfl,rfl,nd,nm,DictOf.at' dd2 λo e=>by rw[off a (mem_cons_self ..) hab];exact e,go h' Z' vd le pl' (λq hq hqb=>off q (mem_cons_of_mem _ hq) hqb) rd⟩
   ·intro pl2
    have hla_a:la≠a:=λq=>laO (q▸mem_cons_self ..)
    have pla':h'.PlainList la ([]:List Value).toArray:=pla.at λo e=>by rw[sb.2 la hla_a];exact e
    obtain⟨q0,hlo⟩:=pla'
    have own2:(a::(l++[(key,la)]).map (·.2))=(a::l.map (·.2))++[la]:=by simp
    have live5:∀q∈a::(l++[(key,la)]).map (·.2),∃o,h'.get? q=some o:=λq hq=>by
     rw[own2,mem_append] at hq
     rcases hq with hq|hq
     ·by_cases hqa:q=a
      ·rw[hqa];exact DictOf.live dd'
      ·rw[sb.2 q hqa];exact live4 q hq
     ·rw[mem_singleton.mp hq];exact⟨_,hlo⟩
    have zla:Z1 la=none:=by
     cases z:Z1 la with
     |none=>rfl
     |some o=>have:=R3.zh la o z;rw[fresh] at this;cases this
    have R5:=R3'.stepZ (as':=a::(l++[(key,la)]).map (·.2)) (s':={s1 with heap:=h',toks:=s1.toks+1}) (Z':=Z1) hP liveO (λq o m e=>by
     show h'.get? q=some o
     rw[sb.2 q (λe'=>m (e'▸mem_cons_self ..))];exact keep q o e) (FM.le_refl _) (λq o e=>by
     show h'.get? q=some o
     rw[sb.2 q (λe'=>by rw[e',zo a (mem_cons_self ..)] at e;cases e)];exact keep q o (R3.zh q o e)) (λ_ _ e=> .inl e) (λq hq=>by
     rw[own2,mem_append] at hq
     rcases hq with hq|hq
     ·exact⟨.inl hq,zo q hq⟩
     ·rw[mem_singleton.mp hq];exact⟨.inr fresh,zla⟩) ap rfl rfl
    refine KN (a:=a) (s:={s1 with heap:=h',toks:=s1.toks+1}) (vs:=[]) S rm.succ hv h4 R5.1 (by simp) R5.2.1 R5.2.2 live5 (b:=la) (by simp) ⟨q0,hlo⟩ (by simp) (λh'' Z' vd le pl' off rd=> ?_) λZ' s' le R'=>k .next Z' s' (FM.le_trans le1 le) R' rfl
    have laL:la∉l.map (·.2):=λq=>laO (mem_cons_of_mem _ q)
    have offl:∀q∈l.map (·.2),h''.get? q=h2'.get? q:=λq hq=>by
     have hqa:q≠a:=λe=>anl (e▸hq)
     have hql:q≠la:=λe=>laL (e▸hq)
     rw[off q (by rw[own2];exact List.mem_append_left _ (mem_cons_of_mem _ hq)) hql]
     exact sb.2 q hqa
    have est:stored (l.map λp=>(p.1,Value.ref p.2)) key (.ref la)=(l++[(key,la)]).map λp=>(p.1,.ref p.2):=by
     unfold stored
     rw[if_neg (by rw[hnew];exact Bool.false_ne_true)]
     simp
    rw[est] at dd'
    refine⟨a,l++[(key,la)],rfl,rfl,?_,nm,DictOf.at' dd' λo e=> ?_,IW le (by simpa using pl') rd es l rdl2 hnew offl⟩
    ·rw[own2,List.nodup_append]
     exact⟨nd,by simp,λq hq r hr e=>by rw[mem_singleton.mp hr] at e;exact laO (e▸hq)⟩
    ·rw[off a (by rw[own2];simp) (Ne.symm hla_a)];exact e
  ·cases h4
 ·cases h4
theorem So(S:Snd c n){x:Stmt}{f:Fl}(h:EI (n+1) x ρ σ=some (f,ρ',σ')):Qk c (n+1) (exec x) ρ σ f ρ' σ':=by
 unfold EI at h
 split at h
 ·cases h
  exact λA env Z P s rm R Q E k=>wpAny_Pass (k .next Z s (FM.le_refl _) R rfl)
 ·simp only[bind_eq_bind,bind_eq_some_iff] at h
  obtain⟨⟨d,ρ₁,σ₁⟩,h1,h⟩:=h
  cases h
  exact λA env Z P s rm R Q E k=>wpAny_Return_some (S.E h1 A env Z P _ s rm.succ R _ _ λv Z1 s1 le1 R1 r1=>k (.ret v) Z1 s1 le1 R1 ⟨v,rfl,r1⟩)
 ·simp only[bind_eq_bind,bind_eq_some_iff] at h
  obtain⟨⟨b,ρ₁,σ₁⟩,h1,h⟩:=h
  intro A env Z P s rm R Q E k
  refine wpAny_If (S.T h1 A env Z P _ s rm.succ R _ _ λZ1 s1 le1 R1=> ?_)
  cases b with
  |true=>exact S.Ss h A env Z1 P s1 rm.succ R1 _ _ λfl Z2 s2 le2 R2 fr=>k fl Z2 s2 (FM.le_trans le1 le2) R2 fr
  |false=>exact S.Ss h A env Z1 P s1 rm.succ R1 _ _ λfl Z2 s2 le2 R2 fr=>k fl Z2 s2 (FM.le_trans le1 le2) R2 fr
 ·simp only[bind_eq_bind,bind_eq_some_iff] at h
  obtain⟨⟨v,ρ₁,σ₁⟩,h1,ρ₂,h2,h⟩:=h
  cases h
  exact JF S h1 h2
 ·simp only[bind_eq_bind,bind_eq_some_iff] at h
  obtain⟨xs,hx,h⟩:=h
  split at h
  ·cases h
  ·rename_i hq
   simp only[bind_eq_some_iff] at h
   obtain⟨⟨vs,ρ₁,σ₁⟩,h1,ρ₂,h2,h⟩:=h
   cases h
   exact H0 S hx (by simpa using hq) h1 h2
 ·split at h
  ·cases h
  ·rename_i hq
   simp only[or_eq_true,not_or,Bool.not_eq_true] at hq
   simp only[bind_eq_bind,bind_eq_some_iff] at h
   obtain⟨⟨d,ρ₁,σ₁⟩,h1,W0,h0,⟨kd,ρ₂,σ₂⟩,h2,W,h3,h⟩:=h
   exact Je S hq.1 h1 h0 h2 h3 h
 ·split at h
  ·cases h
  ·rename_i hq
   simp only[or_eq_true,not_or,Bool.not_eq_true,Bool.not_eq_false',and_eq_true,decide_eq_true_eq] at hq
   simp only[bind_eq_bind,bind_eq_some_iff] at h
   obtain⟨V₀,h0,⟨as,ρ₁,σ₁⟩,h1,V,h2,h⟩:=h
   split at h
   ·rename_i hk
    exact Kr S hq.1.1 hq.2.1 hq.2.2 h0 h1 h2 hk h
   ·cases h
 ·split at h
  ·cases h
  ·rename_i hq
   simp only[or_eq_true,not_or,Bool.not_eq_true,Bool.not_eq_false'] at hq
   simp only[bind_eq_bind,bind_eq_some_iff] at h
   obtain⟨V₀,h0,⟨kd,ρ₁,σ₁⟩,h1,V₁,h2,h⟩:=h
   split at h
   ·cases h
   ·rename_i hk
    simp only[not_eq_true',Bool.and_eq_false_iff,not_or,Bool.not_eq_false] at hk
    simp only[bind_eq_some_iff] at h
    obtain⟨⟨d,ρ₂,σ₂⟩,h3,ρ₃,h4,h⟩:=h
    cases h
    exact OQ S hq.1.1.1 hq.1.2 hq.2 h0 h1 h2 hk.1 hk.2 h3 h4
 ·split at h
  ·cases h
  ·rename_i hq
   simp only[bind_eq_bind,bind_eq_some_iff] at h
   obtain⟨⟨xs,ρ₁,σ₁⟩,h1,⟨fl,ρ₂,σ₂⟩,h2,h⟩:=h
   cases h
   exact Sg S (by simpa using hq) h1 h2
 ·intro A env Z P s rm R Q E k
  exact wpAny_While (S.W h A env Z P s rm.succ R _ λfl Z1 s1 le1 R1 fr=>k fl Z1 s1 le1 R1 fr)
 ·cases h
end
section
variable {c:Cx}{K:Frag}
def Qh(c:Cx):Prop:=∀n,Snd c n->∀{m u bs ns as σ w σ'},Gb (n+1) m u bs ns as σ=some (w,σ')->UB c (n+1) m u bs ns as σ w σ'
theorem PW(c:Cx):Snd c 0 where
 E h:=by simp[Aq] at h
 L h:=by simp[Hn] at h
 A h:=by simp[Ku] at h
 P h:=by simp[N1] at h
 O h:=by simp[Kt] at h
 T h:=by simp[Ed] at h
 B h:=by simp[MH] at h
 Ts h:=by simp[Hy] at h
 It:=λe ρ σ xs ρ' σ' h=>by simp[FQ] at h
 G:=λg gs elt d ρ σ ys ρ' σ' h=>by simp[Ja] at h
 C h:=by simp[C1] at h
 F h:=by simp[GA] at h
 U h:=by simp[Aq] at h
 UF h:=by simp[GA] at h
 Fs h:=by simp[HK] at h
 M h:=by simp[QJ] at h
 Ad h:=by simp[Gb] at h
 Gd h:=by simp[FR] at h
 W h:=by simp[Gm] at h
 S h:=by simp[EI] at h
 Ss h:=by simp[Br] at h
 Fn h:=by simp[AQ] at h
theorem PX(T:TopOk c K)(hU:MW c)(hB:OC c)(hA:Qh c){n:Nat}(hS:∀k≤n,Snd c k):Snd c (n+1):=
 have S:=hS n (Nat.le_refl n)
 {E:=λh=>Sx T hU S h
  L:=λh=>Su S h
  A:=λh=>Sz S h
  P:=λh=>Sp S h
  O:=λh=>Sq S h
  T:=λh=>Sn S h
  B:=λh=>Sy S h
  Ts:=λh=>RZ S h
  It:=Rb T S
  G:=Rd S
  C:=λh hg=>O2 T hU S h hg
  F:=λh=>Sw T hB S h
  U:=λh hc=>Sm S h hc
  UF:=λh hc=>RY S h hc
  Fs:=λh=>Rg S h
  M:=λh=>Sr T S h
  Ad:=λh=>hA n S h
  Gd:=λh=>Rc T S h
  W:=λh=>Sl hS h
  S:=λh=>So S h
  Ss:=λh=>Ra S h
  Fn:=λh=>QQ T S h}
theorem KZ(T:TopOk c K)(hU:MW c)(hB:OC c)(hA:Qh c):∀n,∀k≤n,Snd c k
 |0,k,hk=>by rw[Nat.le_zero.mp hk];exact PW c
 |n+1,k,hk=>by
  rcases Nat.lt_or_eq_of_le hk with h|h
  ·exact KZ T hU hB hA n k (Nat.lt_succ_iff.mp h)
  ·rw[h];exact PX T hU hB hA (KZ T hU hB hA n)
end
theorem Ot{k:Key}{v:Value}{x:Str}(h:Key.is k v=true)(hn:k≠ .s x):v.isStr x=false/\(∀a,v≠ .ref a):=by
 rcases Key.is_shape h with ⟨z,t,hz,hq⟩|⟨y,t,hz,hq⟩
 ·subst hq;exact⟨rfl,λ_ q=>nomatch q⟩
 ·subst hq
  have:y≠x:=λe=>hn (by rw[hz,e])
  exact⟨by simp[Value.isStr,this],λ_ q=>nomatch q⟩
theorem Eo{prog:Program}{w:World}{x:Str}:∀{es:List DictEntry}{kvs:List (Key×Value)},Pairs (AV prog w) es kvs->(∀p∈kvs,p.1≠ .s x)->∀e∈es,e.key.isStr x=false/\e.refKey=false
 |_,_,.nil,_,_,h=>nomatch h
 |e::es,kv::kvs,.cons hk hv r,hn,e',he=>by
  rcases mem_cons.mp he with rfl|he
  ·have:=Ot hk (hn kv (mem_cons_self ..))
   refine⟨this.1,?_⟩
   unfold DictEntry.refKey
   rcases Key.is_shape hk with ⟨z,t,_,hq⟩|⟨y,t,_,hq⟩<;>rw[hq]
  ·exact Eo r (λp hp=>hn p (mem_cons_of_mem _ hp)) e' he
theorem LU{prog:Program}{w:World}{o:Obj}{kvs:List (Key×Value)}(h:o.IsDictOf (AV prog w) kvs){x:Str}{t:Tok}{v:Value}(hn:∀p∈kvs,p.1≠ .s x):
 (Obj.putName x (PyData.keyHash w.params x) (.str x t) v o).IsDictOf (AV prog w) (kvs++[(.s x,v)]):=by
 obtain⟨es,ep,hx,hd,hk,hp,hnd⟩:=h
 obtain⟨oc,od,dt,sl⟩:=o
 dsimp only at hd
 subst hd
 have hf:es.findIdx? (·.key.isStr x)=none:=by
  rw[Array.findIdx?_eq_none_iff]
  intro e he
  exact(Eo hp hn e (Array.mem_toList_iff.mpr he)).1
 rw[Obj.putName_eq]
 unfold Obj.putNameByArray
 dsimp only
 rw[hf]
 have hkey:(AV prog w).is (.s x) (.str x t)=true:=by simp[AV,Key.is,Value.isStr,Value.isStrOf]
 have hh:PyData.keyHash w.params x=(AV prog w).hash (.s x):=rfl
 refine⟨_,_,hx,rfl,?_,?_,?_⟩
 ·rw[hh];exact hk.push hkey v
 ·rw[Array.toList_push];exact hp.append hkey _ v
 ·rw[map_append,List.nodup_append]
  refine⟨hnd,by simp,λa ha b hb=> ?_⟩
  simp at hb
  subst hb
  obtain⟨p,hp',rfl⟩:=mem_map.mp ha
  exact hn p hp'
theorem El{prog:Program}{w:World}{A:Around}{E:Value->Shared->Prop}{s:Shared}{K:Frag}{C x dx:Addr}{kvs:List (Key×Value)}{name:Str}{v:Value}{Q:Unit->Shared->Prop}(X:K.In s.heap)(ck:ClsK K C)(hx:s.heap.get? x=some {cls:= .ref C,dict:=some dx,data:= .plain})
 (hd:s.heap.DictOf (AV prog w) dx kvs) (hf:findIn K (.ref C) name=some none) (hn:∀p∈kvs,p.1≠ .s name) (hl:kvs.length<=1000)
 (k:∀s',s'.heap.DictOf (AV prog w) dx (kvs++[(.s name,v)])->Heap.SameBut dx s.heap s'.heap->s'.gens=s.gens->s'.os=s.os->Q () s'):wpAny (model prog w) A (setAttr (.ref x) name v) Q E s:=by
 obtain⟨od,ho,hdd⟩:=Heap.dictOf_iff.mp hd
 have I:InstAt s.heap x {cls:= .ref C,dict:=some dx,data:= .plain} C (some od):=⟨hx,rfl,rfl,ho⟩
 refine set_plain X I ck.set ?_
 obtain⟨cd,hc,hd'⟩:=any_some ck.dict
 refine osa_open (s:={s with toks:=s.toks+1}) X I ck.over (r:=none) (by unfold takerIn;rw[hf];rfl) λb=> ?_
 obtain⟨es,ep,hex,hdat,hk,hp,hnd⟩:=hdd
 have hnew:=LU ⟨es,ep,hex,hdat,hk,hp,hnd⟩ (t:=s.toks+1) (v:=v) hn
 refine wpAny_bind (wpAny_pure (wpAny_bind (wpAny_bind (wpAny_loadPart (s:={s with toks:=s.toks+1}) hx (wpAny_bind (looks_clsIn X hc _ _ _ _ (λ_ _ e=>e) ?_))))))
 rw[hd']
 refine wpAny_pure (a:=some dx) (wpAny_bind (wpAny_pure (wpAny_bind ?_)))
 unfold nsSet
 refine wpAny_bind (wpAny_bind (wpAny_askSetting (wpAny_pure (wpAny_bind (wpAny_mkText (wpAny_bind (wpAny_loadPart (s:={s with toks:=s.toks+1+1}) ho ?_)))))))
 rw[hdat]
 dsimp only
 have c:(!es.any (·.key.isStr name)&&es.any (·.refKey))=false:=by
  have:es.any (·.refKey)=false:=by
   rw[<-Array.any_toList,List.any_eq_false]
   intro e he
   rw[(Eo hp hn e he).2];exact Bool.false_ne_true
  rw[this,Bool.and_false]
 rw[aRefKeyMayBeTheName_at,c]
 refine wpAny_updatePart (s:={s with toks:=s.toks+1+1}) ho ?_
 have hfr:(Obj.putName name (PyData.keyHash w.params name) (.str name (s.toks+1)) v od).isFreed=false:=by
  obtain⟨es',ep',_,hd2,_⟩:=hnew
  generalize Obj.putName name (PyData.keyHash w.params name) (.str name (s.toks+1)) v od=o' at hd2
  obtain⟨_,_,dd,_⟩:=o'
  cases hd2;rfl
 have hget:=Heap.get?_update_self (Obj.putName name (PyData.keyHash w.params name) (.str name (s.toks+1)) v) ho hfr
 have hnew':=hnew
 obtain⟨es',ep',hex',hd2,hk',hp',hnd'⟩:=hnew'
 refine wpAny_bind (wpAny_lookBehind hget (by
  rw[hd2]
  refine pastItsLine_dict ?_
  have e1:=hp'.length
  have e2:es'.toList.length=es'.size:=by simp
  rw[length_append] at e1
  simp at e1
  rw[sizeLine_eq];omega) ?_)
 exact wpAny_pure (k _ (Heap.dictOf_iff.mpr ⟨_,hget,hnew⟩) (Heap.SameBut.update ..) rfl rfl)
def AU(f:String):FnInfo:=(fnTab.lookup (Str.ofString f)).getD default
abbrev nm(x:String)(p:Pos):Expr:= .Name (Str.ofString x) p
theorem M6:fnTab.lookup (Str.ofString "Bounds.__init__")=some (AU "Bounds.__init__"):=rfl
theorem G3:(AU "Bounds.__init__").params=[Str.ofString "self",Str.ofString "universe"]:=rfl
theorem nam_Binit:(AU "Bounds.__init__").names.lookup (Str.ofString "self")=some .local/\(AU "Bounds.__init__").names.lookup (Str.ofString "universe")=some .local:=⟨rfl,rfl⟩
theorem O8:(AU "Bounds.__init__").names.all (λp=>p.2 != .cell)=true:=rfl
theorem NQ:∃p1 p2 p3 p4 p5 p6 p7 p8 p9 p10 p11 p12,(AU "Bounds.__init__").body=[
 .Assign [.Attribute (nm "self" p1) (Str.ofString "universe") p2] (nm "universe" p3) p4,
 .Assign [.Attribute (nm "self" p5) (Str.ofString "bounds") p6] (.List [] p7) p8,
 .Assign [.Attribute (nm "self" p9) (Str.ofString "numbers") p10] (.Dict [] [] p11) p12]:=⟨_,_,_,_,_,_,_,_,_,_,_,_,rfl⟩
section
variable {c:Cx}{K:Frag}{env:Env}{ρ ρ' ρ₁ ρ₂ ρ₃:Ev}{σ σ' σ₁ σ₂ σ₃:St}{Z Z' P:FM}{μ:Str->Option Value}{s s':Shared}{A:Around}{E:Value->Shared->Prop}{L:Addr}{n:Nat}{d:D}
theorem I5{R:Result->Shared->Prop}(hroom:A.depth<recursionLimit)(G:Gr c σ Z s){a:Addr}{fi:FnInfo}(F:FnOk c a fi)(hlim:c.h₀.NoLimit){vs:List Value}(hlen:fi.params.length=vs.length)(hcell:fi.names.all (λp=>p.2 != .cell)=true)
 (h:∀env' s₁ E',env'.scope.kind= .function->env'.cells=[]->(∀p o,s.heap.get? p=some o->s₁.heap.get? p=some o)->Rel c env' ⟨fi.names,[],[]⟩ σ Z (BB c Z s.heap) (λx=>if fi.names.lookup x=some .local then(fi.params.zip vs).lookup x else none) s₁->
   wpAny (model c.prog c.w) (A.deeper env') (execs fi.body env') (λf s'=>R (.ok (.ret (match f with| .ret v=>v|_=> .none))) s') E' s₁):
 codeAny (model c.prog c.w) A (.call (.ref a) ⟨vs,[]⟩) R s:=by
 obtain⟨o,fd,ho,hdat,hbody,hnames,hkind,hco,hgen,hpar,hdef,hclo,hglob,hbui,hcode⟩:=F.ob
 have hst:=F.st
 unfold E7 at hst
 simp only[and_eq_true,beq_iff_eq,all_eq_true,or_eq_true] at hst
 obtain⟨⟨hnd,hcons⟩,hpk⟩:=hst
 have h0s:∀b x,c.h₀.get? b=some x->s.heap.get? b=some x:=λb x e=>G.zh b x (G.base b x e)
 have noCell:∀x,fi.names.lookup x≠some .cell:=λx e=>by
  have:=all_eq_true.mp hcell _ (mem_of_lookup e)
  simp at this
 refine codeAny_call_cells hroom (h0s _ _ ho) hdat (hlim.keeps h0s) (hcode.keeps h0s) hbody (DL hpar hdef (BF hnd) hlen) hclo (λx hx=> ?_) (λs₁ X=> ?_) hco hgen hkind
 ·have hx':x.1∈fi.params:=(List.of_mem_zip (a:=x.1) (b:=x.2) hx).1
  rw[hnames]
  rcases hpk x.1 hx' with q|q
  ·exact .inl q
  ·exact absurd q (noCell _)
 ·have kE:∀x,(callEnvC fd s.heap.objs.size a).kindOf x=fi.names.lookup x:=λx=>by show fd.scope.names.lookup x=_;rw[hnames]
  have cE:(callEnvC fd s.heap.objs.size a).cells=[]:=by
   show cellsFrom _ fd.scope.names []=_
   rw[hnames]
   have:∀(l:List (Str×NameKind)) (n:Nat),(∀p∈l,p.2≠ .cell)->cellsFrom n l []=[]:=by
    intro l
    induction l with
    |nil=>intro n _;rfl
    |cons p l ih=>
     intro n hp
     obtain⟨y,k⟩:=p
     unfold cellsFrom
     rw[if_neg (by simpa using hp _ (mem_cons_self ..))]
     exact ih n λq hq=>hp q (mem_cons_of_mem _ hq)
   exact this _ _ λp hp=>by have:=all_eq_true.mp hcell p hp;simpa using this
  have dead:∀b,s.heap.objs.size<=b->s.heap.get? b=none:=λb hb=>by
   cases q:s.heap.get? b with
   |none=>rfl
   |some x=>exact absurd (Heap.lt_size q) (Nat.not_lt.mpr hb)
  have free:∀b,s.heap.objs.size<=b->Dp c Z (BB c Z s.heap) b:=λb hb=>by
   refine⟨?_,Jq (dead b hb),?_⟩
   ·cases q:Z b with
    |none=>rfl
    |some x=>have:=G.zh b x q;rw[dead b hb] at this;cases this
   ·rintro rfl
    obtain⟨_,_,_,d,_⟩:=G.feed
    obtain⟨x,e⟩:=DictOf.live d
    rw[dead _ hb] at e;cases e
  have Xkeep:=X.toInCall.keep
  obtain⟨h₁,tk,hs₁⟩:=X.toInCall.same
  refine h _ s₁ _ hkind cE Xkeep ?_
  refine⟨λb x e=>Xkeep b x (G.zh b x e),λb x e=>Xkeep b x (BX e).2.2,λb x e=>Gz e,G.base,G.feed.keep (FM.le_refl _) λx e=>Xkeep _ x e,⟨G.fz,Na⟩,by rw[hs₁];exact G.gens,by rw[hs₁];exact G.os,
   λx=> ?_,hkind,hglob,hbui,_,λ_=>[],X.toInCall.ns,free _ (Nat.le_refl _),λx hx=>absurd hx (noCell x),λx y b hx=>absurd hx (noCell x),λx V hV=> ?_,λ_ _=>rfl,λx b hb=>(nomatch hb),λx y b hb=>(nomatch hb),λx v hv=> ?_,λx b hb=> ?_⟩
  ·rw[kE]
   show JL (fi.names.lookup x) (fi.names.lookup x)
   cases fi.names.lookup x with
   |none=>rfl
   |some k=>cases k<;>first|rfl|exact .inl rfl
  ·unfold Ev.get at hV
   split at hV<;>simp at hV
  ·split at hv
   ·rename_i hl
    unfold HoldsVar
    show match fi.names.lookup x with|_=>_
    rw[show Ev.kind ⟨fi.names,[],[]⟩ x=fi.names.lookup x from rfl,hl]
    exact Gi _ (by rw[kE,hl]) _ _ _ (BF hnd) hv
   ·cases hv
  ·rw[cE] at hb;cases hb
theorem B6(h:env.cells=[])(as:List Addr):BK env as:=λx a hx=>by rw[h] at hx;cases hx
theorem Ih{h:Heap}{a:Addr}{o:Obj}(hp:P a=some o)(hh:h.get? a=some o):P=(P.minus a).adds h [a]:=by
 funext b
 by_cases hb:b=a
 ·subst hb;rw[FM.adds_in (by simp),hp,hh]
 ·rw[FM.adds_out (by simpa using hb),FM.minus_ne hb]
theorem Gr.more(G:Gr c σ Z s){s':Shared}(keep:∀a o,s.heap.get? a=some o->s'.heap.get? a=some o)(g:s'.gens=s.gens)(os:s'.os=s.os):Gr c σ Z s':=
 ⟨λa o e=>keep a o (G.zh a o e),G.base,G.feed.keep (FM.le_refl _) λo e=>keep _ o e,G.fz,g.trans G.gens,os.trans G.os⟩
theorem Gr.keep0(G:Gr c σ Z s):∀a o,c.h₀.get? a=some o->s.heap.get? a=some o:=λa o e=>G.zh a o (G.base a o e)
theorem Gr.fresh(G:Gr c σ Z s){a:Addr}(h:s.heap.get? a=none):Z a=none/\a≠c.fa:=by
 constructor
 ·cases q:Z a with
  |none=>rfl
  |some o=>have:=G.zh a o q;rw[h] at this;cases this
 ·rintro rfl
  obtain⟨_,_,_,d,_⟩:=G.feed
  obtain⟨o,e⟩:=DictOf.live d
  rw[h] at e;cases e
theorem Ct{prog:Program}{w:World}{h:Heap}{a:Addr}(e:h.get? a=some emptyDict):h.DictOf (AV prog w) a []:=
 ⟨_,#[],0,e,⟨rfl,rfl,rfl⟩,rfl,(λe he=>by simp at he),Pairs.nil,nodup_nil⟩
theorem S4(T:TopOk c K):OC c:=by
 intro n A σ Z s a b v rm G r Q E k
 obtain⟨fa,fi,hfi,hfn,hlook,F⟩:=T.binit
 rw[M6] at hlook
 cases hlook
 have X:K.In s.heap:=T.X.keeps G.keep0
 obtain⟨h,g,d,t,os⟩:=s
 refine wpAny_call (make_core (makes_of X T.bcls.makes) (looks_findIn X hfi) (λself=>bind_fn X self (beq_iff_eq.mp hfn)) (.inl rfl) ?_)
 have kp:∀p o,h.get? p=some o->((h.push emptyDict).push (instObj c.bc h.objs.size)).get? p=some o:=λp o e=>Heap.get?_push_of_some _ (Heap.get?_push_of_some _ e)
 have hx:((h.push emptyDict).push (instObj c.bc h.objs.size)).get? (h.objs.size+1)=some (instObj c.bc h.objs.size):=by heap_get
 have hdx:((h.push emptyDict).push (instObj c.bc h.objs.size)).get? h.objs.size=some emptyDict:=Heap.get?_push_of_some _ (Heap.get?_push_size _ rfl)
 have nx:h.get? (h.objs.size+1)=none:=by
  cases q:h.get? (h.objs.size+1) with
  |none=>rfl
  |some o=>exact absurd (Heap.lt_size q) (Nat.not_lt.mpr (le_succ _))
 have ndx:h.get? h.objs.size=none:=Ab h
 have hne:h.objs.size+1≠h.objs.size:=Nat.succ_ne_self _
 have hbig:sysModules<h.objs.size:=modules_low (T.nolimit.keeps G.keep0)
 have hfx:=G.fresh nx
 have hfdx:=G.fresh ndx
 generalize hgx:h.objs.size+1=x at*
 generalize hgd:h.objs.size=dx at*
 generalize hh1:(h.push emptyDict).push (instObj c.bc dx)=h1 at*
 have G1:Gr c σ Z (⟨h1,g,d,t,os⟩:Shared):=G.more (s:=⟨h,g,d,t,os⟩) kp rfl rfl
 refine I5 (by
  have:(A.under (.builtin "type.__call__" ⟨.ref c.bc::[v],[]⟩)).depth<=A.depth+5:=by
   show A.depth+Code.weight _<=_
   exact Nat.add_le_add_left (Nat.le_of_ble_eq_true rfl) _
  have:=rm.2.1
  show(A.under (.builtin "type.__call__" ⟨.ref c.bc::[v],[]⟩)).depth<1000
  omega) G1 F T.nolimit (by rw[G3];rfl) O8 λenv' s₁ E' hk hcl keep1 R1=> ?_
 obtain⟨p1,p2,p3,p4,p5,p6,p7,p8,p9,p10,p11,p12,hbody⟩:=NQ
 rw[hbody]
 have μs:(λx_1=>if(AU "Bounds.__init__").names.lookup x_1=some .local then((AU "Bounds.__init__").params.zip [Value.ref x,v]).lookup x_1 else none) (Str.ofString "self")=some (.ref x):=by
  show(if _ then _ else _)=_
  rw[if_pos nam_Binit.1,G3];rfl
 have μu:(λx_1=>if(AU "Bounds.__init__").names.lookup x_1=some .local then((AU "Bounds.__init__").params.zip [Value.ref x,v]).lookup x_1 else none) (Str.ofString "universe")=some v:=by
  show(if _ then _ else _)=_
  rw[if_pos nam_Binit.2,G3];rfl
 generalize (λx_1=>if(AU "Bounds.__init__").names.lookup x_1=some .local then((AU "Bounds.__init__").params.zip [Value.ref x,v]).lookup x_1 else none)=μ at R1 μs μu
 have pdx:BB c Z h1 dx=some emptyDict:=Cp hfdx.2 hfdx.1 hdx
 have px:BB c Z h1 x=some (instObj c.bc dx):=Cp hfx.2 hfx.1 hx
 have R1':Rel c env' ⟨(AU "Bounds.__init__").names,[],[]⟩ σ Z (((BB c Z h1).minus dx).adds s₁.heap [dx]) μ s₁:=by
  rw[<-Ih (P:=BB c Z h1) pdx (keep1 _ _ hdx)]
  exact R1
 have hPm:∀q∈[dx],((BB c Z h1).minus dx) q=none:=λq hq=>by rw[mem_singleton.mp hq];exact FM.minus_self
 have ap:BK env' [dx]:=B6 hcl _
 have X1:K.In s₁.heap:=T.X.keeps R1.keep0
 refine wpAny_execs_cons (plainObj_wpAny_Assign_Attribute (BM R1' (x:=Str.ofString "universe") μu (by decide) (BM R1' (x:=Str.ofString "self") μs (by decide) ?_)) rfl)
 refine El (C:=c.bc) X1 T.bcls (keep1 _ _ hx) (Ct (keep1 _ _ hdx)) T.buni (λp hp=>(nomatch hp)) (by simp) λs2 d2 sb2 g2 os2=> ?_
 have R2:=FJ (s':=s2) R1' hPm ap ⟨_,keep1 _ _ hdx⟩ sb2 g2 os2
 have keep2:∀p o,p≠dx->s₁.heap.get? p=some o->s2.heap.get? p=some o:=λp o n e=>by rw[sb2.2 p n];exact e
 have X2:K.In s2.heap:=T.X.keeps R2.keep0
 have hx2:=keep2 _ _ hne (keep1 _ _ hx)
 refine wpAny_execs_cons (plainObj_wpAny_Assign_Attribute ?_ rfl)
 rw[arm_eval_List]
 refine wpAny_bind (wpAny_standAt (wpAny_bind (wpAny_items_nil ?_)))
 refine wpAny_newList ?_ (by rw[sizeLine_eq];simp)
 have kla:∀p o,s2.heap.get? p=some o->(s2.heap.push (seqObj "list" ([]:List Value).toArray 0)).get? p=some o:=λp o e=>Heap.get?_push_of_some _ e
 have gla:(s2.heap.push (seqObj "list" ([]:List Value).toArray 0)).get? s2.heap.objs.size=some (seqObj "list" ([]:List Value).toArray 0):=Heap.get?_push_size _ rfl
 have fla:s2.heap.get? s2.heap.objs.size=none:=Ab _
 generalize s2.heap.objs.size=la at gla fla
 generalize (s2.heap.push (seqObj "list" ([]:List Value).toArray 0))=h3 at kla gla
 have R3:Rel c env' ⟨(AU "Bounds.__init__").names,[],[]⟩ σ Z (((BB c Z h1).minus dx).adds h3 [dx]) μ {s2 with heap:=h3}:=by
  have e:((BB c Z h1).minus dx).adds h3 [dx]=((BB c Z h1).minus dx).adds s2.heap [dx]:=FM.adds_keep λq hq=>by
   rw[mem_singleton.mp hq]
   obtain⟨o,e⟩:=DictOf.live d2
   rw[e];exact kla _ _ e
  rw[e];exact R2.grow (s':={s2 with heap:=h3}) kla rfl rfl
 refine BM R3 (x:=Str.ofString "self") μs (by decide) ?_
 refine El (s:={s2 with heap:=h3}) (C:=c.bc) (T.X.keeps R3.keep0) T.bcls (kla _ _ hx2) (DictOf.at' d2 λo e=>kla _ _ e) T.bbounds (λp hp=> ?_) (by simp) λs4 d4 sb4 g4 os4=> ?_
 ·simp at hp;subst hp;intro q;exact absurd (Key.s.inj q) (by decide)
 have R4:=FJ (s':=s4) R3 hPm ap (DictOf.live (DictOf.at' d2 λo e=>kla _ _ e)) sb4 g4 os4
 have keep4:∀p o,p≠dx->h3.get? p=some o->s4.heap.get? p=some o:=λp o n e=>by rw[sb4.2 p n];exact e
 have ladx:la≠dx:=λq=>by obtain⟨o,e⟩:=DictOf.live d2;rw[<-q,fla] at e;cases e
 have hx4:=keep4 _ _ hne (kla _ _ hx2)
 have gla4:=keep4 _ _ ladx gla
 refine wpAny_execs_cons (plainObj_wpAny_Assign_Attribute (wpAny_Dict_empty ?_) rfl)
 have kna:∀p o,s4.heap.get? p=some o->(s4.heap.push {cls:= .type "dict",data:= .dict #[]}).get? p=some o:=λp o e=>Heap.get?_push_of_some _ e
 have gna:(s4.heap.push {cls:= .type "dict",data:= .dict #[]}).get? s4.heap.objs.size=some emptyDict:=Heap.get?_push_size _ rfl
 have fna:s4.heap.get? s4.heap.objs.size=none:=Ab _
 have big4:sysModules<s4.heap.objs.size:=modules_low (T.nolimit.keeps R4.keep0)
 generalize s4.heap.objs.size=na at gna fna big4
 generalize (s4.heap.push {cls:= .type "dict",data:= .dict #[]})=h5 at kna gna
 have R5:Rel c env' ⟨(AU "Bounds.__init__").names,[],[]⟩ σ Z (((BB c Z h1).minus dx).adds h5 [dx]) μ {s4 with heap:=h5}:=by
  have e:((BB c Z h1).minus dx).adds h5 [dx]=((BB c Z h1).minus dx).adds s4.heap [dx]:=FM.adds_keep λq hq=>by
   rw[mem_singleton.mp hq]
   obtain⟨o,e⟩:=DictOf.live d4
   rw[e];exact kna _ _ e
  rw[e];exact R4.grow (s':={s4 with heap:=h5}) kna rfl rfl
 refine BM R5 (x:=Str.ofString "self") μs (by decide) ?_
 refine El (s:={s4 with heap:=h5}) (C:=c.bc) (T.X.keeps R5.keep0) T.bcls (kna _ _ hx4) (DictOf.at' d4 λo e=>kna _ _ e) T.bnumbers (λp hp=> ?_) (by simp) λs6 d6 sb6 g6 os6=> ?_
 ·simp at hp
  rcases hp with hp|hp<;>(subst hp;intro q;exact absurd (Key.s.inj q) (by decide))
 have keep6:∀p o,p≠dx->h5.get? p=some o->s6.heap.get? p=some o:=λp o n e=>by rw[sb6.2 p n];exact e
 have nadx:na≠dx:=λq=>by obtain⟨o,e⟩:=DictOf.live d4;rw[<-q,fna] at e;cases e
 have nala:na≠la:=λq=>by rw[<-q,fna] at gla4;cases gla4
 have nax:na≠x:=λq=>by rw[<-q,fna] at hx4;cases hx4
 have lax:la≠x:=λq=>by rw[<-q,fla] at hx2;cases hx2
 have hx6:=keep6 _ _ hne (kna _ _ hx4)
 have gla6:=keep6 _ _ ladx (kna _ _ gla4)
 have gna6:=keep6 _ _ nadx gna
 refine wpAny_execs_nil ⟨rfl,?_⟩
 refine k x [x,dx,la,na] s6 (λp o e=> ?_) (λp hp=> ?_) ?_ ?_ ?_
 ·have n1:p≠dx:=λq=>by rw[q,ndx] at e;cases e
  exact keep6 _ _ n1 (kna _ _ (keep4 _ _ n1 (kla _ _ (keep2 _ _ n1 (keep1 _ _ (kp _ _ e))))))
 ·have old:∀o,h.get? p=some o->p≠x/\p≠dx/\p≠la/\p≠na:=λo e=>by
   have n1:p≠dx:=λq=>by rw[q,ndx] at e;cases e
   refine⟨λq=>by(rw[q,nx] at e;cases e),n1,λq=> ?_,λq=> ?_⟩
   ·have:=keep2 _ _ n1 (keep1 _ _ (kp _ _ e));rw[q,fla] at this;cases this
   ·have:=keep4 _ _ n1 (kla _ _ (keep2 _ _ n1 (keep1 _ _ (kp _ _ e))));rw[q,fna] at this;cases this
  cases q:h.get? p with
  |none=>rfl
  |some o=>
   obtain⟨a1,a2,a3,a4⟩:=old o q
   simp at hp
   rcases hp with h|h|h|h
   ·exact absurd h a1
   ·exact absurd h a2
   ·exact absurd h a3
   ·exact absurd h a4
 ·exact⟨x,dx,la,na,v,[],[],rfl,rfl,by simp[hne,Ne.symm lax,Ne.symm nax,Ne.symm ladx,Ne.symm nadx,Ne.symm nala],hx6,Nat.ne_of_gt hbig,Nat.ne_of_gt big4,by simpa using d6,r,⟨0,gla6⟩,RepL.nil,Ct gna6,by rw[RepE]⟩
 ·rw[g6];show s4.gens=_;rw[g4];show s2.gens=_;rw[g2,R1.gens];exact G.gens.symm
 ·rw[os6];show s4.os=_;rw[os4];show s2.os=_;rw[os2,R1.os];exact G.os.symm
end
theorem Lo:fnTab.lookup (Str.ofString "Bounds.add")=some (AU "Bounds.add"):=rfl
theorem RA:(AU "Bounds.add").params=[Str.ofString "self",Str.ofString "name",Str.ofString "arity",Str.ofString "lower",Str.ofString "upper"]:=rfl
theorem RJ:∀x∈["self","name","arity","lower","upper"],(AU "Bounds.add").names.lookup (Str.ofString x)=some .local:=by decide
theorem No:(AU "Bounds.add").names.lookup (Str.ofString "len")=some .globalImplicit:=rfl
theorem Rr:(AU "Bounds.add").names.all (λp=>p.2 != .cell)=true:=rfl
theorem QS:∃b p1 p2 p3 p4 p5 p6 p7 p8 p9 p10 p11 p12 p13 p14 p15 p16 p17 p18 p19 p20 p21 p22 p23 p24 p25 p26 k1 k2,(AU "Bounds.add").body=b++[
 .Assign [.Subscript (.Attribute (nm "self" p1) (Str.ofString "numbers") p2) (nm "name" p3) p4] (.Call (nm "len" p5) [.Attribute (nm "self" p6) (Str.ofString "bounds") p7] [] p8) p9,
 .Expr (.Call (.Attribute (.Attribute (nm "self" p10) (Str.ofString "bounds") p11) (Str.ofString "append") p12) [.Tuple [nm "name" p13,nm "arity" p14,nm "lower" p15,nm "upper" p16] k1 p17] [] p18) p19,
 .Return (some (.BinOp (.Call (nm "len" p20) [.Attribute (nm "self" p21) (Str.ofString "bounds") p22] [] p23) .Sub (.Constant (.int 1) k2 p24) p25)) p26]/\b=(AU "Bounds.add").body.take 5/\(p12.endLine==p18.line)=true:=⟨(AU "Bounds.add").body.take 5,_,_,_,_,_,_,_,_,_,_,_,_,_,_,_,_,_,_,_,_,_,_,_,_,_,_,_,_,rfl,rfl,rfl⟩
def FM.less(Z:FM)(as:List Addr):FM:=λb=>if b∈as then none else Z b
theorem FM.less_in{Z:FM}{as:List Addr}{a:Addr}(h:a∈as):Z.less as a=none:=by simp[FM.less,h]
theorem FM.less_out{Z:FM}{as:List Addr}{a:Addr}(h:a∉as):Z.less as a=Z a:=by simp[FM.less,h]
theorem FM.less_some{Z:FM}{as:List Addr}{a:Addr}{o:Obj}(h:Z.less as a=some o):a∉as/\Z a=some o:=by
 by_cases ha:a∈as
 ·rw[FM.less_in ha] at h;cases h
 ·rw[FM.less_out ha] at h;exact⟨ha,h⟩
theorem L4{c:Cx}{Z Z':FM}:∀(l:List Int)(vs:List Value),RepL c Z (l.map .int) vs->RepL c Z' (l.map .int) vs
 |[],vs,h=>by rw[map_nil,RepL] at h⊢;exact h
 |i::l,vs,h=>by
  rw[map_cons,RepL] at h⊢
  obtain⟨v,r,e,h1,h2⟩:=h
  rw[Rep] at h1
  exact⟨v,r,e,by rw[Rep];exact h1,L4 l r h2⟩
section
variable {c:Cx}{K:Frag}{env:Env}{ρ ρ' ρ₁ ρ₂ ρ₃:Ev}{σ σ' σ₁ σ₂ σ₃:St}{Z Z' P:FM}{μ:Str->Option Value}{s s':Shared}{A:Around}{E:Value->Shared->Prop}{L:Addr}{n:Nat}{d:D}
theorem O1{h:Heap}{own:List Addr}(F:FeedAt c Z h σ)(hb:∀b∈own,c.h₀.get? b=none):FeedAt c (Z.less own) h σ:=by
 obtain⟨nm,vc,t,dd,rc,ca,o,rfl,h0⟩:=F
 refine⟨nm,_,t,dd,?_,ca,o,rfl,h0⟩
 rw[Rep] at rc⊢
 obtain⟨a,vs,e,⟨q,hq⟩,r⟩:=rc
 cases e
 exact⟨ca,vs,rfl,⟨q,by rw[FM.less_out (λhm=>by rw[hb ca hm] at h0;cases h0)];exact hq⟩,L4 _ _ r⟩
theorem Rel.thaw{own:List Addr}{names:List (Str×NameKind)}(R:Rel c env ρ σ Z P μ s)(hn:ρ.names=names)(fz:∀b∈own,∃o,Z b=some o)(hb:∀b∈own,c.h₀.get? b=none):Rel c env ⟨names,[],[]⟩ σ (Z.less own) (P.adds s.heap own) μ s/\(∀b∈own,P b=none):=by
 have hP:∀b∈own,P b=none:=λb hm=>let⟨o,e⟩:=fz b hm;R.zp b o e
 have notin:∀b,Z b=none->b∉own:=λb e hm=>by obtain⟨o,e'⟩:=fz b hm;rw[e] at e';cases e'
 have faO:c.fa∉own:=notin _ R.feedFree.1
 obtain⟨m,oa,vs⟩:=R.vars
 have kd:∀x,Ev.kind ⟨names,[],[]⟩ x=ρ.kind x:=λx=>by unfold Ev.kind;rw[hn]
 have free:∀a,Dp c Z P a->Dp c (Z.less own) (P.adds s.heap own) a:=λa f=>by
  have ha:=notin a f.1
  exact⟨by rw[FM.less_out ha];exact f.1,by rw[FM.adds_out ha];exact f.2.1,f.2.2⟩
 refine⟨⟨λa o e=>R.zh a o (FM.less_some e).2,λa o e=> ?_,λa o e=> ?_,λa o e=> ?_,O1 R.feed hb,⟨?_,?_⟩,R.gens,R.os,λx=>by rw[kd];exact R.kinds x,R.fn,R.globals,R.builtins,m,λ_=>[],vs.ns,free _ vs.free,λx hx=> ?_,λx y a hx hy h1 h2=> ?_,λx V hV=> ?_,λ_ _=>rfl,λx a ha=>(nomatch ha),λx y a ha=>(nomatch ha),λx v hv=> ?_,λx a ha=> ?_⟩,hP⟩
 ·by_cases ha:a∈own
  ·rw[FM.adds_in ha] at e;exact e
  ·rw[FM.adds_out ha] at e;exact R.ph a o e
 ·obtain⟨ha,e⟩:=FM.less_some e
  rw[FM.adds_out ha];exact R.zp a o e
 ·rw[FM.less_out (λhm=>by rw[hb a hm] at e;cases e)];exact R.base a o e
 ·rw[FM.less_out faO];exact R.feedFree.1
 ·rw[FM.adds_out faO];exact R.feedFree.2
 ·rw[kd] at hx
  obtain⟨a,v,h1,h2,h3,h4⟩:=vs.cell x hx
  exact⟨a,v,h1,h2,free a h3,h4⟩
 ·rw[kd] at hx hy;exact vs.cellInj x y a hx hy h1 h2
 ·unfold Ev.get at hV
  split at hV<;>simp at hV
 ·have:=vs.mu x v hv
  rw[kd]
  unfold HoldsVar at this⊢
  split
  ·rename_i q;rw[q] at this;exact this
  ·rename_i q;rw[q] at this;exact this
  ·rename_i q
   rw[q] at this
   obtain⟨a,o,h1,h2,h3⟩:=this
   exact⟨a,o,h1,by rw[FM.adds_out (λhm=>by rw[hP a hm] at h2;cases h2)];exact h2,h3⟩
  ·rename_i q1 q2 q3
   cases q:ρ.kind x with
   |none=>rw[q] at this;exact this.elim
   |some k=>cases k<;>first|exact absurd q (by assumption)|(rw[q] at this;exact this.elim)
 ·rcases vs.cells x a ha with h|⟨o,h⟩
  ·exact .inl (by rw[kd];exact h)
  ·exact .inr ⟨o,by rw[FM.adds_out (λhm=>by rw[hP a hm] at h;cases h)];exact h⟩
theorem Tk{as:List Addr}{s':Shared}(R:Rel c env ρ σ Z (P.adds s.heap as) μ s)(live:∀a∈as,∃o,s.heap.get? a=some o)(keep:∀a o,s.heap.get? a=some o->s'.heap.get? a=some o)(g:s'.gens=s.gens)(os:s'.os=s.os):Rel c env ρ σ Z (P.adds s'.heap as) μ s':=by
 have e:P.adds s'.heap as=P.adds s.heap as:=FM.adds_keep λq hq=>by obtain⟨o,e⟩:=live q hq;rw[e];exact keep q o e
 rw[e];exact R.grow keep g os
theorem Rel.freezeNew{as:List Addr}{s':Shared}{a:Addr}{o:Obj}(R:Rel c env ρ σ Z (P.adds s.heap as) μ s)(live:∀a∈as,∃o,s.heap.get? a=some o)(keep:∀a o,s.heap.get? a=some o->s'.heap.get? a=some o)(n:s.heap.get? a=none)(y:s'.heap.get? a=some o)(g:s'.gens=s.gens)(os:s'.os=s.os):
 Z.le (Z.add a o)/\Rel c env ρ σ (Z.add a o) (P.adds s'.heap as) μ s':=by
 have R1:=Tk R live keep g os
 have X:Ext env.locals Z s (Z.add a o) s':=Ext.one R.zh n y keep g os
 have e:P.adds s'.heap as=P.adds s.heap as:=FM.adds_keep λq hq=>by obtain⟨o,e⟩:=live q hq;rw[e];exact keep q o e
 refine⟨X.le,?_⟩
 rw[e];exact R.ext X
theorem GZ(T:TopOk c K)(R:Rel c env ρ σ Z P μ s){C:Addr}(ck:ClsK K C){x:Str}{p p':Pos}{a da:Addr}{kvs:List (Key×Value)}{name:Str}{v:Value}(hμ:μ x=some (.ref a))(hb:BE x=false)(i:s.heap.get? a=some {cls:= .ref C,dict:=some da,data:= .plain})(dd:s.heap.DictOf (AV c.prog c.w) da kvs)
 (hv:valueAt kvs (Key.s name)=some v) (hh:handedIn v=true) (hn:findIn K (.ref C) name=some none) {Q:Value->Shared->Prop} (k:Q v {s with toks:=s.toks+1}):wpAny (model c.prog c.w) A (eval (.Attribute (.Name x p) name p') env) Q E s:=by
 rw[arm_eval_Attribute,K2 (o:= .Name x p) rfl]
 obtain⟨od,ho,hd⟩:=Heap.dictOf_iff.mp dd
 refine wpAny_bind (BM R hμ hb (wpAny_bind (wpAny_standAt (wpAny_bind (wpAny_holding ?_)))))
 exact EF (T.X.keeps R.keep0) ck ⟨i,rfl,rfl,ho⟩ hd hv hh hn (wpAny_bind (wpAny_letTemporaryGo (wpAny_pure k)))
theorem J4(T:TopOk c K){names:List (Str×NameKind)}(R:Rel c env ⟨names,[],[]⟩ σ Z P μ s)(hg:names.lookup (Str.ofString "len")=some .globalImplicit){x name:Str}{p1 p2 p3 p4:Pos}{a da la:Addr}{C:Addr}(ck:ClsK K C){kvs:List (Key×Value)}{vs:List Value}(hμ:μ x=some (.ref a))(hb:BE x=false)(i:s.heap.get? a=some {cls:= .ref C,dict:=some da,data:= .plain})
 (dd:s.heap.DictOf (AV c.prog c.w) da kvs) (hv:valueAt kvs (Key.s name)=some (.ref la)) (hn:findIn K (.ref C) name=some none) (pl:s.heap.PlainList la vs.toArray) (hl:vs.length<=100000) {Q:Value->Shared->Prop}
 (k:∀t s',s'.heap=s.heap->s'.gens=s.gens->s'.os=s.os->Q (.int vs.length t) s'):wpAny (model c.prog c.w) A (eval (.Call (.Name (Str.ofString "len") p1) [.Attribute (.Name x p2) name p3] [] p4) env) Q E s:=by
 refine Bf R (by unfold Ao Ev.kind;dsimp only;rw[hg];rfl) (by decide) (T.blt "len" (by decide)) (Ai (P:=λ_=>True) (Ay λ_ _ q=>nomatch q) (Au (.inr ⟨_,rfl⟩)) (BY (λ_ _ q=>nomatch q) (GZ T R ck hμ hb i dd hv rfl hn ⟨trivial,?_⟩)))
 obtain⟨n0,hl0⟩:=pl
 refine call_len_list (s:={s with toks:=s.toks+1}) ⟨_,hl0,rfl,_,rfl⟩ (by rw[size_toArray];omega) ?_
 rw[size_toArray]
 exact k _ _ rfl rfl rfl
theorem Qy(k:Nat)(h:k<10000):CN .Sub (.int (k:Nat)) (.int 1)=some (.int ((k:Nat)-1)):=by
 have:AZ ((k:Nat):Int)=true:=by
  unfold AZ
  simp only[and_eq_true,decide_eq_true_eq]
  omega
 have e:CN .Sub (.int (k:Nat)) (.int 1)=if(AZ ((k:Nat):Int)&&AZ 1)=true then some (.int ((k:Nat)-1)) else none:=rfl
 rw[e,this];rfl
theorem Qa{own:List Addr}{env':Env}{ρ0:Ev}{Z10:FM}{μ':Str->Option Value}{h8:Heap}{s10:Shared}(R:Rel c env ρ σ Z (P.adds s.heap own) μ s)(hP:∀b∈own,P b=none)(ap:BK env own)(live:∀q∈own,∃o,s.heap.get? q=some o)
 (R10:Rel c env' ρ0 σ₁ Z10 ((BB c (Z.adds s.heap own) s.heap).adds h8 own) μ' s10) (live8:∀q∈own,∃o,h8.get? q=some o) (le:Z.le Z10):Rel c env ρ σ₁ Z10 (P.adds s10.heap own) μ s10/\∀q∈own,s10.heap.get? q=h8.get? q:=by
 have same:∀q∈own,s10.heap.get? q=h8.get? q:=λq hq=>by
  obtain⟨o,e⟩:=live8 q hq
  rw[e];exact R10.ph q o (by rw[FM.adds_in hq];exact e)
 refine⟨?_,same⟩
 have pc:∀a o,BB c Z (F9 s own).heap a=some o->a∉own/\BB c (Z.adds s.heap own) s.heap a=some o:=λa o e=>by
  obtain⟨h1,h2,h3⟩:=BX e
  obtain⟨h4,h5⟩:=E5 h3
  exact⟨h5,Cp h1 (by rw[FM.adds_out h5];exact h2) h4⟩
 have Wt:Went c Z (F9 s own) σ₁ Z10 s10:={
  le:=le
  held:=R10.zh
  keep:=λa o e=>by obtain⟨h1,h2⟩:=pc a o e;exact R10.ph a o (by rw[FM.adds_out h1];exact h2)
  new:=λa o e=>by
   cases q:BB c Z (F9 s own).heap a with
   |none=>rfl
   |some o'=>
    obtain⟨h1,h2⟩:=pc a o' q
    have:=R10.zp a o e
    rw[FM.adds_out h1,h2] at this;cases this
  feed:=R10.feed
  fz:=R10.feedFree.1
  gens:=R10.gens
  os:=R10.os}
 have faO:c.fa∉own:=λhm=>by
  have:=R.feedFree.2
  obtain⟨o,e⟩:=live _ hm
  rw[FM.adds_in hm,e] at this;cases this
 refine((R.hide hP live ap).wentL Wt (as:=own) (λa ha=> ?_) (λa ha=> ?_) faO).1
 ·cases q:(F9 s own).heap.get? a with
  |none=>rfl
  |some o=>exact absurd ha (E5 q).2
 ·obtain⟨o,e⟩:=live8 a ha
  exact R10.noZP (o:=o) (by rw[FM.adds_in ha];exact e)
set_option maxHeartbeats 2000000 in
theorem S9(T:TopOk c K):Qh c:=by
 intro n S m u bs ns as σ w σ' h
 unfold Gb at h
 split at h
 ·rename_i x a lo up
  split at h
  ·cases h
  ·rename_i hq
   simp only[not_eq_true',Bool.and_eq_false_iff,not_or,Bool.not_eq_false,beq_iff_eq,decide_eq_true_eq] at hq
   obtain⟨⟨⟨rfl,hfind⟩,hlen⟩,hlen2⟩:=hq
   rw[Lo] at h
   simp only[bind_eq_bind,bind_some,bind_eq_some_iff] at h
   obtain⟨ρa,hset,⟨ρg,σ₁⟩,hgd,h⟩:=h
   split at h
   ·cases h
   ·rename_i hnm
    cases h
    refine⟨rfl,?_⟩
    intro A env ρ Z P μ s v₀ own vs fa fi rm R hP ap ow r hlook F Q E k
    rw[Lo] at hlook
    cases hlook
    have live:=ow.live
    have zo:=R.looseZ live
    have le0:Z.le (Z.adds s.heap own):=λb o e=>by rw[FM.adds_out (λhm=>by rw[zo b hm] at e;cases e)];exact e
    have rself:Rep c (Z.adds s.heap own) (.bnds u bs ns) v₀:=Nf le0 ow
    have faO:c.fa∉own:=λhm=>by
     have:=R.feedFree.2
     obtain⟨o,e⟩:=live _ hm
     rw[FM.adds_in hm,e] at this;cases this
    have hb0:∀b∈own,c.h₀.get? b=none:=λb hm=>by
     cases q:c.h₀.get? b with
     |none=>rfl
     |some o=>have:=R.base b o q;rw[zo b hm] at this;cases this
    have G:Gr c σ (Z.adds s.heap own) s:={
     zh:=λb o e=>by
      by_cases hb:b∈own
      ·rw[FM.adds_in hb] at e;exact e
      ·rw[FM.adds_out hb] at e;exact R.zh b o e
     base:=λb o e=>le0 b o (R.base b o e)
     feed:=R.feed.keep le0 λ_ e=>e
     fz:=by rw[FM.adds_out faO];exact R.feedFree.1
     gens:=R.gens
     os:=R.os}
    have r':=RepL.mono le0 _ _ r
    obtain⟨p,da,la,na,v1,bvs,kvs,rfl,hown,nd,hi,hn1,hn2,hd,r1,hl,rb,hna,rn⟩:=ow
    rw[RepL] at r;obtain⟨w1,t1,rfl,q1,r⟩:=r
    rw[RepL] at r;obtain⟨w2,t2,rfl,q2,r⟩:=r
    rw[RepL] at r;obtain⟨w3,t3,rfl,q3,r⟩:=r
    rw[RepL] at r;obtain⟨w4,t4,rfl,q4,r⟩:=r
    rw[RepL] at r;subst r
    refine Hr G F T.nolimit rm (RepL.cons rself r') hset λenv' s₁ E' hk R1=> ?_
    have apo:BK env' own:=λy b hy hbm=>by
     obtain⟨m,oa,vs⟩:=R1.vars
     rcases vs.cells y b hy with h|⟨o,h⟩
     ·have e:ρa.kind y=(AU "Bounds.add").names.lookup y:=by unfold Ev.kind;rw[Em _ _ hset]
      rw[e] at h
      have:=all_eq_true.mp Rr _ (mem_of_lookup h)
      simp at this
     ·obtain⟨o',e'⟩:=live b hbm
      have:=(BX h).2.1
      rw[FM.adds_in hbm,e'] at this;cases this
    have μat:∀y∈["self","name","arity","lower","upper"],∀v,([Str.ofString "self",Str.ofString "name",Str.ofString "arity",Str.ofString "lower",Str.ofString "upper"].zip [Value.ref p,w1,w2,w3,w4]).lookup (Str.ofString y)=some v->
     (λx=>if(AU "Bounds.add").names.lookup x=some .local then((AU "Bounds.add").params.zip [Value.ref p,w1,w2,w3,w4]).lookup x else none) (Str.ofString y)=some v:=λy hy v hv=>by
     show(if _ then _ else _)=_
     rw[if_pos (RJ y hy),RA];exact hv
    have μself:=μat "self" (by simp) (.ref p) rfl
    have μname:=μat "name" (by simp) w1 rfl
    have μarity:=μat "arity" (by simp) w2 rfl
    have μlower:=μat "lower" (by simp) w3 rfl
    have μupper:=μat "upper" (by simp) w4 rfl
    clear μat
    generalize (λx=>if(AU "Bounds.add").names.lookup x=some .local then((AU "Bounds.add").params.zip [Value.ref p,w1,w2,w3,w4]).lookup x else none)=μc at R1 μself μname μarity μlower μupper
    obtain⟨b,p1,p2,p3,p4,p5,p6,p7,p8,p9,p10,p11,p12,p13,p14,p15,p16,p17,p18,p19,p20,p21,p22,p23,p24,p25,p26,k1,k2,hbody,hb5,hline⟩:=QS
    rw[hbody,hb5]
    refine S.Gd hgd (A.deeper env') env' _ _ _ s₁ _ (rm.deeper env') R1 _ _ λZ2 s2 le2 R2=> ?_
    have fz:∀q∈own,∃o,Z2 q=some o:=λq hq=>by obtain⟨o,e⟩:=live q hq;exact⟨o,le2 _ _ (by rw[FM.adds_in hq];exact e)⟩
    have stay:∀q∈own,∀o,s.heap.get? q=some o->s2.heap.get? q=some o:=λq hq o e=>R2.zh _ _ (le2 _ _ (by rw[FM.adds_in hq];exact e))
    obtain⟨R3,hP3⟩:=R2.thaw (names:=(AU "Bounds.add").names) (by simpa using hnm) fz hb0
    have le3:Z.le (Z2.less own):=λb o e=>by rw[FM.less_out (λhm=>by rw[zo b hm] at e;cases e)];exact le2 _ _ (le0 _ _ e)
    generalize Z2.less own=Z3 at R3 le3
    have mp:p∈own:=by rw[hown];simp
    have mda:da∈own:=by rw[hown];simp
    have mla:la∈own:=by rw[hown];simp
    have mna:na∈own:=by rw[hown];simp
    have live2:∀q∈own,∃o,s2.heap.get? q=some o:=λq hq=>by obtain⟨o,e⟩:=live q hq;exact⟨o,stay q hq o e⟩
    have hi2:=stay p mp _ hi
    have hd2:=DictOf.at' hd λo e=>stay da mda o e
    have hl2:s2.heap.PlainList la bvs.toArray:=hl.at λo e=>stay la mla o e
    have hna2:=DictOf.at' hna λo e=>stay na mna o e
    have hbl:=RepL.length _ _ rb
    have hnl:=RepE.length _ _ rn
    have vb:valueAt [(Key.s (Str.ofString "universe"),v1),(Key.s (Str.ofString "bounds"),Value.ref la),(Key.s (Str.ofString "numbers"),Value.ref na)] (Key.s (Str.ofString "bounds"))=some (.ref la):=by
     rw[Cn,if_neg (by decide),if_pos rfl]
    have vn:valueAt [(Key.s (Str.ofString "universe"),v1),(Key.s (Str.ofString "bounds"),Value.ref la),(Key.s (Str.ofString "numbers"),Value.ref na)] (Key.s (Str.ofString "numbers"))=some (.ref na):=by
     rw[Cn,if_neg (by decide),if_neg (by decide),if_pos rfl]
    have ndd:(p≠da/\p≠la/\p≠na)/\(da≠la/\da≠na)/\la≠na:=by simpa using nd
    refine wpAny_execs_cons (wpAny_Assign_Subscript (J4 T R3 No T.bcls μself (by decide) hi2 hd2 vb T.bbounds hl2 (by omega) λt3 s3 e3 g3 o3=> ?_) rfl)
    have R4:Rel c env' ⟨(AU "Bounds.add").names,[],[]⟩ σ₁ Z3 ((BB c (Z.adds s.heap own) s.heap).adds s3.heap own) μc s3:=by
     rw[e3];exact R3.grow (s':=s3) (λa o e=>by rw[e3];exact e) g3 o3
    refine GZ T R4 T.bcls μself (by decide) (by rw[e3];exact hi2) (by rw[e3];exact hd2) vn rfl T.bnumbers ?_
    refine BM (R4.toks _) μname (by decide) ?_
    have hna3:s3.heap.DictOf (AV c.prog c.w) na kvs:=by rw[e3];exact hna2
    refine wpAny_setItem_pairs (knd:=AV c.prog c.w) (k:=Key.s x) (Cq q1 rfl) hna3 (λh' dd' sb=> ?_) (by rw[sizeLine_eq];omega)
    have live3:∀q∈own,∃o,s3.heap.get? q=some o:=λq hq=>by rw[e3];exact live2 q hq
    have R5:Rel c env' ⟨(AU "Bounds.add").names,[],[]⟩ σ₁ Z3 ((BB c (Z.adds s.heap own) s.heap).adds h' own) μc {s3 with heap:=h',toks:=s3.toks+1+1}:=
     Ey (s:={s3 with toks:=s3.toks+1}) (s':={s3 with heap:=h',toks:=s3.toks+1+1}) (R4.toks _) hP3 apo live3 mna sb rfl rfl
    have live5:∀q∈own,∃o,h'.get? q=some o:=λq hq=>by
     by_cases hqn:q=na
     ·rw[hqn];exact DictOf.live dd'
     ·rw[sb.2 q hqn];exact live3 q hq
    have hi5:h'.get? p=some {cls:= .ref c.bc,dict:=some da,data:= .plain}:=by rw[sb.2 p ndd.1.2.2,e3];exact hi2
    have hd5:=DictOf.at' (h':=h') hd2 λo e=>by rw[sb.2 da ndd.2.1.2,e3];exact e
    have hl5:h'.PlainList la bvs.toArray:=hl2.at λo e=>by rw[sb.2 la ndd.2.2,e3];exact e
    refine wpAny_execs_cons (wpAny_Expr (Cj (o:= .Attribute (nm "self" p10) (Str.ofString "bounds") p11) rfl hline (by simp) (Ay λ_ _ q=>nomatch q) (GZ T R5 T.bcls μself (by decide) hi5 hd5 vb rfl T.bbounds λpl=> ?_)) (CY R5) rfl)
    have R6:=R5.toks (s3.toks+1+1+1)
    obtain⟨n0,hl0⟩:=id hl5
    refine getMethod_list_append hl0 rfl rfl ?_
    refine Ai (P:=λ_=>True) (Ay λ_ _ q=>nomatch q) (Au (.inr ⟨_,rfl⟩)) (BY (λ_ _ q=>nomatch q) ?_)
    rw[arm_eval_Tuple]
    have nsx:∀(es:List Expr),(∀e∈es,∀a b,e≠ .Starred a b)->BP es env':=by
     intro es
     induction es with
     |nil=>intro _;rfl
     |cons e es ih=>intro he;exact CF (he e (mem_cons_self ..)) (ih λe' h'=>he e' (mem_cons_of_mem _ h'))
    refine wpAny_bind (wpAny_standAt (wpAny_bind (wpAny_items_cons (BM R6 μname (by decide) ?_) (A7 (nsx [nm "name" p13,nm "arity" p14,nm "lower" p15,nm "upper" p16] (by simp))).1)))
    refine wpAny_items_cons (BM R6 μarity (by decide) ?_) (A7 (nsx [nm "arity" p14,nm "lower" p15,nm "upper" p16] (by simp))).1
    refine wpAny_items_cons (BM R6 μlower (by decide) ?_) (A7 (nsx [nm "lower" p15,nm "upper" p16] (by simp))).1
    refine wpAny_items_cons (BM R6 μupper (by decide) ?_) (A7 (nsx [nm "upper" p16] (by simp))).1
    refine wpAny_items_nil ?_
    refine wpAny_newObj_type ?_ (by show(#[w1,w2,w3,w4]:Array Value).size<=sizeLine;rw[sizeLine_eq];simp)
    refine⟨trivial,?_⟩
    have kt:∀q o,h'.get? q=some o->(h'.push {cls:= .type "tuple",data:= .seq [w1,w2,w3,w4].toArray}).get? q=some o:=λq o e=>Heap.get?_push_of_some _ e
    have gt:(h'.push {cls:= .type "tuple",data:= .seq [w1,w2,w3,w4].toArray}).get? h'.objs.size=some {cls:= .type "tuple",data:= .seq [w1,w2,w3,w4].toArray}:=Heap.get?_push_size _ rfl
    have ft:h'.get? h'.objs.size=none:=Ab _
    generalize h'.objs.size=ta at gt ft
    generalize (h'.push {cls:= .type "tuple",data:= .seq [w1,w2,w3,w4].toArray})=h6 at kt gt
    obtain⟨le7,R7⟩:=Rel.freezeNew (s:={s3 with heap:=h',toks:=s3.toks+1+1+1}) (s':={s3 with heap:=h6,toks:=s3.toks+1+1+1}) R6 live5 kt ft gt rfl rfl
    have live6:∀q∈own,∃o,h6.get? q=some o:=λq hq=>by obtain⟨o,e⟩:=live5 q hq;exact⟨o,kt _ _ e⟩
    have rt:Rep c (Z3.add ta {cls:= .type "tuple",data:= .seq [w1,w2,w3,w4].toArray}) (.tup [.str x,.int a,.tup lo,.tup up]) (.ref ta):=
     CJ (DT ..) (RepL.mono (FM.le_trans le3 le7) _ _ (RepL.cons q1 (RepL.cons q2 (RepL.cons q3 (RepL.cons q4 RepL.nil)))))
    generalize Z3.add ta {cls:= .type "tuple",data:= .seq [w1,w2,w3,w4].toArray}=Z7 at R7 le7 rt
    have hl6:h6.PlainList la bvs.toArray:=hl5.at λo e=>kt _ _ e
    refine wpAny_list_append_plain (s:={s3 with heap:=h6,toks:=s3.toks+1+1+1}) hl6 (λh8 pl8 sb8=> ?_) (by rw[sizeLine_eq,size_toArray];omega)
    have R8:Rel c env' ⟨(AU "Bounds.add").names,[],[]⟩ σ₁ Z7 ((BB c (Z.adds s.heap own) s.heap).adds h8 own) μc {s3 with heap:=h8,toks:=s3.toks+1+1+1}:=
     Ey (s':={s3 with heap:=h8,toks:=s3.toks+1+1+1}) R7 hP3 apo live6 mla sb8 rfl rfl
    have pl8':h8.PlainList la (bvs++[Value.ref ta]).toArray:=by simpa using pl8
    have hi8:h8.get? p=some {cls:= .ref c.bc,dict:=some da,data:= .plain}:=by rw[sb8.2 p ndd.1.2.1];exact kt _ _ hi5
    have hd8:=DictOf.at' (h':=h8) hd5 λo e=>by rw[sb8.2 da ndd.2.1.1];exact kt _ _ e
    have hna8:=DictOf.at' (h':=h8) dd' λo e=>by rw[sb8.2 na (Ne.symm ndd.2.2)];exact kt _ _ e
    have live8:∀q∈own,∃o,h8.get? q=some o:=λq hq=>by
     by_cases hql:q=la
     ·rw[hql];obtain⟨_,e⟩:=pl8';exact⟨_,e⟩
     ·rw[sb8.2 q hql];exact live6 q hq
    refine wpAny_execs_cons (wpAny_Return_some (wpAny_BinOp (J4 T R8 No T.bcls μself (by decide) hi8 hd8 vb T.bbounds pl8' (by simp;omega) λt9 s9 e9 g9 o9=>wpAny_Constant_int ?_)))
    have R9:=R8.grow (s':={s9 with toks:=s9.toks+1}) (λa o e=>by show s9.heap.get? a=some o;rw[e9];exact e) g9 o9
    have hbin:=Qy (bvs++[Value.ref ta]).length (by simp;omega)
    refine QU R9.at (BW _ _) (BW _ _) hbin _ _ λvr Z10 s10 X10 r10=> ?_
    rw[Rep] at r10
    obtain⟨tr,rfl⟩:=r10
    have R10:=R9.ext X10
    have leX:Z.le Z10:=FM.le_trans le3 (FM.le_trans le7 X10.le)
    obtain⟨Rf,same⟩:=Qa R hP ap live R10 live8 leX
    refine k _ tr Z10 s10 leX Rf ⟨p,da,la,na,v1,bvs++[Value.ref ta],_,rfl,hown,nd,by rw[same p mp];exact hi8,hn1,hn2,DictOf.at' hd8 λo e=>by rw[same da mda];exact e,Rep.mono leX _ _ r1,pl8'.at λo e=>by rw[same la mla];exact e,RepL.snoc (RepL.mono leX _ _ rb) (Rep.mono X10.le _ _ rt),DictOf.at' hna8 λo e=>by rw[same na mna];exact e,?_⟩
    have:=RepE.put (k:=Key.s x) (BW (c:=c) (Z:=Z10) bvs.length t3) ns kvs (RepE.mono leX _ _ rn) (Fw hna)
    rw[Dr ns _ _ (F0 _ _ (by simpa using hfind)),hbl] at this
    rw[<-hbl] at this⊢
    exact this
 ·cases h
end
theorem M5:fnTab.lookup (Str.ofString "Universe.__init__")=some (AU "Universe.__init__"):=rfl
theorem G2:(AU "Universe.__init__").params=[Str.ofString "self",Str.ofString "names"]:=rfl
theorem G9:∀x∈["self","name","names"],(AU "Universe.__init__").names.lookup (Str.ofString x)=some .local:=by decide
theorem KC:∀x∈["len","tuple"],(AU "Universe.__init__").names.lookup (Str.ofString x)=some .globalImplicit:=by decide
theorem KQ:(AU "Universe.__init__").names.all (λp=>p.2 != .cell)=true:=rfl
theorem NP:∃p1 p2 p3 p4 p5 p6 p7 p8 p9 p10 p11 p12 p13 p14 p15 p16 p17 p18 p19 p20 p21 p22 p23 p24 p25 p26 p27 rr q,(AU "Universe.__init__").body=[
 .Assign [.Attribute (nm "self" p1) (Str.ofString "names") p2] (.Call (nm "tuple" p3) [nm "names" p4] [] p5) p6,
 .Assign [.Attribute (nm "self" p7) (Str.ofString "numbers") p8] (.Dict [] [] p9) p10,
 .For (nm "name" p11) (.Attribute (nm "self" p12) (Str.ofString "names") p13) [
  .If (.Compare (nm "name" p14) [.In] [.Attribute (nm "self" p15) (Str.ofString "numbers") p16] p17) [rr] [] p18,
  .Assign [.Subscript (.Attribute (nm "self" p19) (Str.ofString "numbers") p20) (nm "name" p21) p22] (.Call (nm "len" p23) [.Attribute (nm "self" p24) (Str.ofString "numbers") p25] [] p26) p27] [] q]:=
 ⟨_,_,_,_,_,_,_,_,_,_,_,_,_,_,_,_,_,_,_,_,_,_,_,_,_,_,_,_,_,rfl⟩
theorem Jz(x:Str):∀(ys:List Str),Cl (.str x) (ys.map .str)=false->x∉ys
 |[],_=>by simp
 |y::ys,h=>by
  rw[map_cons] at h
  unfold Cl at h
  rw[Bool.or_eq_false_iff] at h
  have h1:D.beq (.str y) (.str x)=false:=h.1
  unfold D.beq at h1
  have hy:¬y=x:=by simpa using h1
  rw[mem_cons]
  rintro(q|q)
  ·exact hy q.symm
  ·exact Jz x ys h.2 q
theorem NW:∀(xs:List D),BA xs=true->∃ys:List Str,xs=ys.map .str/\ys.Nodup
 |[],_=>⟨[],rfl,nodup_nil⟩
 | .str x::r,h=>by
   unfold BA at h
   simp only[and_eq_true,not_eq_true'] at h
   obtain⟨ys,rfl,hn⟩:=NW r h.2
   exact⟨x::ys,rfl,nodup_cons.mpr ⟨Jz x ys h.1,hn⟩⟩
 | .none::_,h=>by simp[BA] at h
 | .bool _::_,h=>by simp[BA] at h
 | .int _::_,h=>by simp[BA] at h
 | .tup _::_,h=>by simp[BA] at h
 | .list _::_,h=>by simp[BA] at h
 | .dict _::_,h=>by simp[BA] at h
 | .dictT _::_,h=>by simp[BA] at h
 | .range _ _::_,h=>by simp[BA] at h
 | .univ _ _::_,h=>by simp[BA] at h
 | .bnds _ _ _::_,h=>by simp[BA] at h
 | .feed::_,h=>by simp[BA] at h
def Ec(ys:List Str)(k:Nat):List (Key×D):=Fu (ys.map .str) k
theorem ET(y:Str)(ys:List Str)(k:Nat):Ec (y::ys) k=(.s y,.int k)::Ec ys (k+1):=rfl
theorem Jt:∀(ys:List Str)(k:Nat),(Ec ys k).length=ys.length
 |[],_=>rfl
 |y::ys,k=>by rw[ET,length_cons,Jt ys,length_cons]
theorem IZ:∀(ys:List Str)(k:Nat),(Ec ys k).map (·.1)=ys.map .s
 |[],_=>rfl
 |y::ys,k=>by rw[ET,map_cons,IZ ys];rfl
theorem IY(y:Str):∀(ys:List Str)(k:Nat),Ec (ys++[y]) k=Ec ys k++[(.s y,.int ((k+ys.length:Nat):Int))]
 |[],k=>rfl
 |x::ys,k=>by
  rw[cons_append,ET,IY y ys,ET,cons_append,length_cons]
  have:k+1+ys.length=k+(ys.length+1):=by omega
  rw[this]
theorem Js(ys:List Str)(y:Str)(k:Nat)(h:y∉ys):∀e∈Ec ys k,e.1≠ .s y:=λe he q=>by
 have:e.1∈(Ec ys k).map (·.1):=List.mem_map_of_mem he
 rw[IZ,q] at this
 obtain⟨z,hz,e⟩:=mem_map.mp this
 cases e
 exact h hz
section
variable {c:Cx}{K:Frag}{env:Env}{ρ ρ' ρ₁ ρ₂ ρ₃:Ev}{σ σ' σ₁ σ₂ σ₃:St}{Z Z' P:FM}{μ:Str->Option Value}{s s':Shared}{A:Around}{E:Value->Shared->Prop}{L:Addr}{n:Nat}{d:D}
theorem Mh{M:Model}{names:List (Str×NameKind)}(hnc:names.all (λp=>p.2 != .cell)=true){x:Str}{v:Value}(hk:names.lookup x=some .local)(R:Rel c env ⟨names,[],[]⟩ σ Z P μ s){Q:Unit->Shared->Prop}
 (k:∀s',Rel c env ⟨names,[],[]⟩ σ Z P (λy=>if y=x then some v else μ y) s'->Heap.SameBut env.locals s.heap s'.heap->Q () s'):wpAny M A (storeName env x v) Q E s:=by
 have noCell:∀y,names.lookup y≠some .cell:=λy e=>by
  have:=all_eq_true.mp hnc _ (mem_of_lookup e)
  simp at this
 obtain⟨m,oa,vs⟩:=R.vars
 have K':=R.kinds x
 have kx:Ev.kind ⟨names,[],[]⟩ x=some .local:=hk
 rw[kx] at K'
 have K:env.kindOf x=some .local:=K'
 refine wpAny_storeName_local K vs.ns (λh' hn sb=>k {s with heap:=h',toks:=s.toks+1} ?_ sb) (by rw[R.fn];rfl)
 have keep:∀a o,a≠env.locals->s.heap.get? a=some o->h'.get? a=some o:=λa o n e=>by rw[sb.2 a n];exact e
 refine⟨λa o e=>keep a o (λq=>by rw[q,vs.free.1] at e;cases e) (R.zh a o e),λa o e=>keep a o (λq=>by rw[q,vs.free.2.1] at e;cases e) (R.ph a o e),R.zp,R.base,R.feed.keep (FM.le_refl _) λo e=>keep _ o (Ne.symm vs.free.2.2) e,R.feedFree,R.gens,R.os,R.kinds,R.fn,R.globals,R.builtins,_,λ_=>[],hn,vs.free,λy hy=>absurd hy (noCell y),λy z a hy=>absurd hy (noCell y),λy V hV=> ?_,λ_ _=>rfl,λy a ha=>(nomatch ha),λy z a ha=>(nomatch ha),λy u hu=> ?_,vs.cells⟩
 ·unfold Ev.get at hV
  split at hV<;>simp at hV
 ·unfold HoldsVar
  by_cases hy:y=x
  ·rw[if_pos hy] at hu
   cases hu
   rw[hy,kx]
   show(if x=x then some v else m x)=some v
   rw[if_pos rfl]
  ·rw[if_neg hy] at hu
   have:=vs.mu y u hu
   unfold HoldsVar at this
   split
   ·rename_i q;rw[q] at this
    show(if y=x then some v else m y)=some u
    rw[if_neg hy];exact this
   ·rename_i q;exact absurd q (noCell y)
   ·rename_i q;rw[q] at this;exact this
   ·rename_i q1 q2 q3
    split at this
    ·rename_i q;exact absurd q q1
    ·rename_i q;exact absurd q q2
    ·rename_i q;exact absurd q q3
    ·exact this
end
section
variable {c:Cx}{K:Frag}{env:Env}{ρ ρ' ρ₁ ρ₂ ρ₃:Ev}{σ σ' σ₁ σ₂ σ₃:St}{Z Z' P:FM}{μ:Str->Option Value}{s s':Shared}{A:Around}{E:Value->Shared->Prop}{L:Addr}{n:Nat}{d:D}
theorem IB(T:TopOk c K)(R:Rel c env ρ σ Z P μ s){C:Addr}(ck:ClsK K C){x:Str}{p p':Pos}{a da:Addr}{kvs:List (Key×Value)}{name:Str}{v:Value}(hμ:μ x=some (.ref a))(hb:BE x=false)(i:P a=some {cls:= .ref C,dict:=some da,data:= .plain}){od:Obj}(hod:P da=some od)(dd:od.IsDictOf (AV c.prog c.w) kvs)
 (hv:valueAt kvs (Key.s name)=some v) (hh:handedIn v=true) (hn:findIn K (.ref C) name=some none) {Q:Value->Shared->Prop} (k:Q v {s with toks:=s.toks+1}):wpAny (model c.prog c.w) A (eval (.Attribute (.Name x p) name p') env) Q E s:=
 GZ T R ck hμ hb (R.ph _ _ i) (Heap.dictOf_iff.mpr ⟨od,R.ph _ _ hod,dd⟩) hv hh hn k
theorem Ju{ys:List Str}{i:Nat}(hnd:ys.Nodup)(h:i<ys.length):ys[i]∉ys.take i:=λhm=>by
 have:=hnd
 rw[<-List.take_append_drop i ys,List.drop_eq_getElem_cons h,List.nodup_append] at this
 exact this.2.2 _ hm _ (mem_cons_self ..) rfl
set_option maxHeartbeats 1000000 in
theorem PP(T:TopOk c K)(hh:A.handled=none){names:List (Str×NameKind)}(hnc:names.all (λp=>p.2 != .cell)=true)(hname:names.lookup (Str.ofString "name")=some .local)(hlen:names.lookup (Str.ofString "len")=some .globalImplicit)(hcl:env.cells=[])
 {p11 p12 p13 p14 p15 p16 p17 p18 p19 p20 p21 p22 p23 p24 p25 p26 p27 q:Pos} {rr:Stmt} {x dx na:Addr} {v1:Value} {ys:List Str} (hnd:ys.Nodup) (hy8:ys.length<=8) {od:Obj}
 (hx:P x=some {cls:= .ref c.uc,dict:=some dx,data:= .plain}) (hod:P dx=some od) (dd:od.IsDictOf (AV c.prog c.w) [(.s (Str.ofString "names"),v1),(.s (Str.ofString "numbers"),.ref na)]) (hPna:P na=none) (nm0:na≠sysModules)
 (R:Rel c env ⟨names,[],[]⟩ σ Z (P.adds s.heap [na]) μ s) (hself:μ (Str.ofString "self")=some (.ref x)) (hna:s.heap.DictOf (AV c.prog c.w) na []) (rv:Rep c Z (.tup (ys.map .str)) v1) {Q:Flow->Shared->Prop}
 (k:∀Z' s' kvs,Z.le Z'->Rel c env ⟨names,[],[]⟩ σ Z' (P.adds s'.heap [na]) (λ_=>none) s'->s'.heap.DictOf (AV c.prog c.w) na kvs->RepE c Z' (Ec ys 0) kvs->Q .next s'):
 wpAny (model c.prog c.w) A (exec (.For (nm "name" p11) (.Attribute (nm "self" p12) (Str.ofString "names") p13) [
  .If (.Compare (nm "name" p14) [.In] [.Attribute (nm "self" p15) (Str.ofString "numbers") p16] p17) [rr] [] p18,
  .Assign [.Subscript (.Attribute (nm "self" p19) (Str.ofString "numbers") p20) (nm "name" p21) p22] (.Call (nm "len" p23) [.Attribute (nm "self" p24) (Str.ofString "numbers") p25] [] p26) p27] [] q) env) Q E s:=by
 have vnames:valueAt [(Key.s (Str.ofString "names"),v1),(Key.s (Str.ofString "numbers"),Value.ref na)] (Key.s (Str.ofString "names"))=some v1:=by rw[GC,if_pos rfl]
 have vnums:valueAt [(Key.s (Str.ofString "names"),v1),(Key.s (Str.ofString "numbers"),Value.ref na)] (Key.s (Str.ofString "numbers"))=some (.ref na):=by rw[GC,if_neg (by decide),if_pos rfl]
 have xna:x≠na:=λe=>by rw[e,hPna] at hx;cases hx
 have dxna:dx≠na:=λe=>by rw[e,hPna] at hod;cases hod
 have P1:∀{h:Heap} {own:List Addr} {a:Addr} {o:Obj},P a=some o->a∉own->(P.adds h own) a=some o:=λe n=>by rw[FM.adds_out n];exact e
 refine wpAny_For ?_ (λ_=>rfl)
 refine IB T R T.ucls hself (by decide) (P1 hx (by simpa using xna)) (P1 hod (by simpa using dxna)) dd vnames (IU rv) T.unames ?_
 have R0:=R.toks (s.toks+1)
 refine Nq (s:={s with toks:=s.toks+1}) (ds:=ys.map .str) hh R0.zh rv rfl λI own S s1 W st fresh kp g os=> ?_
 have live0:∀a∈[na],∃o,s.heap.get? a=some o:=λa ha=>by rw[mem_singleton.mp ha];exact DictOf.live hna
 have hPn:∀a∈[na],P a=none:=λa ha=>by rw[mem_singleton.mp ha];exact hPna
 have zn0:∀a,s.heap.get? a=none->Z a=none:=λa e=>by
  cases z:Z a with
  |none=>rfl
  |some o=>have:=R.zh a o z;rw[e] at this;cases this
 have liveS:=W.live _ _ st
 have R1:=(Rel.stepZ (s:={s with toks:=s.toks+1}) R0 (as':=na::own) (s':=s1) (Z':=Z) hPn live0 (λa o _ e=>kp a o e) (FM.le_refl _) (λa o e=>kp a o (R.zh a o e)) (λ_ _ e=> .inl e) (λa ha=>by
  rcases mem_cons.mp ha with rfl|ha
  ·exact⟨.inl (by simp),R.looseZ live0 _ (by simp)⟩
  ·exact⟨.inr (fresh a ha),zn0 a (fresh a ha)⟩) (B6 hcl _) g os)
 obtain⟨R1,hP1,_⟩:=R1
 have naO:na∉own:=λhm=>by obtain⟨o,e⟩:=DictOf.live hna;have:=fresh na hm;rw[show({s with toks:=s.toks+1}:Shared).heap.get? na=s.heap.get? na from rfl,e] at this;cases this
 have xO:x∉na::own:=λhm=>by rw[hP1 x hm] at hx;cases hx
 have dxO:dx∉na::own:=λhm=>by rw[hP1 dx hm] at hod;cases hod
 refine codeAny_forLoop_any (λm s'=>∃i Zi kvs μi,i<=(ys.map D.str).length/\m=(ys.map D.str).length+1 -i/\Z.le Zi/\Rel c env ⟨names,[],[]⟩ σ Zi (P.adds s'.heap (na::own)) μi s'/\μi (Str.ofString "self")=some (.ref x)/\S i s'.heap/\
  s'.heap.DictOf (AV c.prog c.w) na kvs/\RepE c Zi (Ec (ys.take i) 0) kvs) ?_ ((ys.map D.str).length+1) ⟨0,Z,[],μ,zero_le _,rfl,FM.le_refl _,R1,hself,st,DictOf.at' hna λo e=>kp _ _ e,by rw[List.take_zero];show RepE c Z [] [];rw[RepE]⟩
 rintro m s' ⟨i,Zi,kvs,μi,hi,rfl,le,Ri,hsi,sti,hni,rei⟩
 have live:=W.live _ _ sti
 have liveN:∀a∈na::own,∃o,s'.heap.get? a=some o:=λa ha=>by
  rcases mem_cons.mp ha with rfl|ha
  ·exact DictOf.live hni
  ·exact live a ha
 have zo:=Ri.looseZ liveN
 have zoO:∀b∈own,Zi b=none:=λb hb=>zo b (mem_cons_of_mem _ hb)
 have zna:Zi na=none:=zo na (mem_cons_self ..)
 by_cases hlt:i<(ys.map D.str).length
 ·have hd:=getElem?_eq_getElem hlt
  have hly:i<ys.length:=by simpa using hlt
  refine W.item i _ s' Zi _ _ hd sti le Ri.zh zoO λv Z' s₁ D rv' go=> ?_
  refine go (nm "name" p11) _ _ (.inr rfl) λs₂ kp2 g2 os2 st₂=> ?_
  have live₂:=W.live _ _ st₂
  have keep12:∀a o,a∉own->s'.heap.get? a=some o->s₂.heap.get? a=some o:=λa o n e=>kp2 a o n (D.keep a o n e)
  have zna':Z' na=none:=by
   cases z:Z' na with
   |none=>rfl
   |some o=>
    rcases D.zn na o z with h|h
    ·rw[zna] at h;cases h
    ·obtain⟨o',e⟩:=DictOf.live hni;rw[h] at e;cases e
  obtain⟨R₂,_,_⟩:=Ri.stepZ (as':=na::own) (s':=s₂) (Z':=Z') hP1 liveN (λa o n e=>keep12 a o (λhm=>n (mem_cons_of_mem _ hm)) e) D.le (λa o e=>kp2 a o (λhm=>by rw[D.zo a hm] at e;cases e) (D.held a o e)) D.zn
   (λa ha=>⟨.inl ha,by
    rcases mem_cons.mp ha with rfl|ha
    ·exact zna'
    ·exact D.zo a ha⟩) (B6 hcl _) (g2.trans D.gens) (os2.trans D.os)
  have hn2:s₂.heap.DictOf (AV c.prog c.w) na kvs:=DictOf.at' hni λo e=>keep12 _ _ naO e
  rw[List.getElem_map] at rv'
  refine wpAny_assign_Name (Mh hnc hname R₂ λs₃ R₃ sb3=> ?_)
  have locO:∀a∈na::own,a≠env.locals:=λa ha q=>by
   obtain⟨m,oa,vs⟩:=R₂.vars
   have:=vs.free.2.1
   rw[<-q,FM.adds_in ha] at this
   rcases mem_cons.mp ha with rfl|ha
   ·obtain⟨o,e⟩:=DictOf.live hn2;rw[e] at this;cases this
   ·obtain⟨o,e⟩:=live₂ a ha;rw[e] at this;cases this
  have eP:P.adds s₂.heap (na::own)=P.adds s₃.heap (na::own):=(FM.adds_keep λa ha=>sb3.2 a (locO a ha)).symm
  rw[eP] at R₃
  have hn3:s₃.heap.DictOf (AV c.prog c.w) na kvs:=DictOf.at' hn2 λo e=>by rw[sb3.2 na (locO na (mem_cons_self ..))];exact e
  have st₃:S (i+1) s₃.heap:=W.frame _ _ _ st₂ (λb hb o e=>by rw[sb3.2 b (locO b (mem_cons_of_mem _ hb))];exact e) (λb o e=>R₂.zh b o (D.le _ _ (le _ _ e))) (λb o e=>R₃.zh b o (D.le _ _ (le _ _ e)))
  have μname:(λy=>if y=Str.ofString "name" then some v else μi y) (Str.ofString "name")=some v:=by simp
  have μself:(λy=>if y=Str.ofString "name" then some v else μi y) (Str.ofString "self")=some (.ref x):=by
   show(if _ then _ else _)=_
   rw[if_neg (by decide)];exact hsi
  generalize (λy=>if y=Str.ofString "name" then some v else μi y)=μ3 at R₃ μname μself
  have hkey:=Cq (k:=Key.s ys[i]) rv' rfl
  have hnew:valueAt kvs (Key.s ys[i])=none:=by
   have hnot:ys[i]∉ys.take i:=Ju hnd hly
   rcases RepE.at (Key.s ys[i]) _ kvs rei with ⟨_,h⟩|⟨d',v',h,_⟩
   ·exact h
   ·exact absurd h (by
     have:=Js (ys.take i) ys[i] 0 hnot
     have e:Af (Key.s ys[i]) (Ec (ys.take i) 0)=none:=by
      generalize Ec (ys.take i) 0=l at this
      induction l with
      |nil=>rfl
      |cons p l ih=>
       obtain⟨a,b⟩:=p
       unfold Af
       rw[if_neg (this _ (mem_cons_self ..))]
       exact ih λe he=>this e (mem_cons_of_mem _ he)
     rw[e];simp)
  have klen:kvs.length=i:=by rw[RepE.length _ _ rei,Jt,List.length_take];omega
  have Px:(P.adds s₃.heap (na::own)) x=_:=P1 hx xO
  have Pdx:(P.adds s₃.heap (na::own)) dx=_:=P1 hod dxO
  refine wpAny_execs_cons (wpAny_If (wpAny_isTrue_Compare1 (BM R₃ μname (by decide) (IB T R₃ T.ucls μself (by decide) Px Pdx dd vnums rfl T.unumbers ?_)) (by rfl)))
  refine wpAny_in_of (s:={s₃ with toks:=s₃.toks+1}) (knd:=AV c.prog c.w) (k:=Key.s ys[i]) hkey (Cc nm0) hn3.mapOf ?_
  rw[hnew]
  refine wpAny_truthy_bool ?_
  simp only[Option.isSome_none,false_eq_true,if_false]
  refine wpAny_execs_nil ?_
  have R₄:=R₃.toks (s₃.toks+1+1)
  refine wpAny_execs_cons (wpAny_Assign_Subscript ?_ rfl)
  refine Bf R₄ (by unfold Ao Ev.kind;dsimp only;rw[hlen];rfl) (by decide) (T.blt "len" (by decide)) (Ai (P:=λ_=>True) (Ay λ_ _ q=>nomatch q) (Au (.inr ⟨_,rfl⟩)) (BY (λ_ _ q=>nomatch q) (IB T R₄ T.ucls μself (by decide) Px Pdx dd vnums rfl T.unumbers ⟨trivial,?_⟩)))
  refine call_len_dict (s:={s₃ with toks:=s₃.toks+1+1+1}) (knd:=AV c.prog c.w) (Cc nm0) hn3 (by rw[klen];omega) ?_
  have R₅:=R₃.toks (s₃.toks+1+1+1+1+1)
  refine IB T R₅ T.ucls μself (by decide) Px Pdx dd vnums rfl T.unumbers ?_
  have R₆:=R₃.toks (s₃.toks+1+1+1+1+1+1)
  refine BM R₆ μname (by decide) ?_
  refine wpAny_setItem_pairs (s:={s₃ with toks:=s₃.toks+1+1+1+1+1+1}) (knd:=AV c.prog c.w) (k:=Key.s ys[i]) hkey hn3 (λh' dd' sb=> ?_) (by rw[sizeLine_eq,klen];omega)
  have live3:∀a∈na::own,∃o,s₃.heap.get? a=some o:=λa ha=>by
   rcases mem_cons.mp ha with rfl|ha
   ·exact DictOf.live hn3
   ·exact W.live _ _ st₃ a ha
  have R₇:=Ey (s:={s₃ with toks:=s₃.toks+1+1+1+1+1+1}) (s':={s₃ with heap:=h',toks:=s₃.toks+1+1+1+1+1+1+1}) R₆ hP1 (B6 hcl _) live3 (mem_cons_self ..) sb rfl rfl
  refine wpAny_execs_nil ⟨(ys.map Nz.D.str).length+1 -(i+1),by omega,i+1,Z',_,μ3,hlt,rfl,FM.le_trans le D.le,R₇,μself,?_,dd',?_⟩
  ·refine W.frame _ _ _ st₃ (λb hb o e=> ?_) (λb o e=>R₃.zh b o (D.le _ _ (le _ _ e))) (λb o e=>R₇.zh b o (D.le _ _ (le _ _ e)))
   show h'.get? b=some o
   rw[sb.2 b (λq=>naO (q▸hb))];exact e
  ·have:=RepE.put (k:=Key.s ys[i]) (BW (c:=c) (Z:=Z') kvs.length (s₃.toks+1+1+1+1)) _ kvs (RepE.mono D.le _ _ rei) (Fw hn3)
   have hnot:ys[i]∉ys.take i:=Ju hnd hly
   rw[Dr _ _ _ (Js (ys.take i) ys[i] 0 hnot)] at this
   rw[List.take_succ_eq_append_getElem hly,IY]
   have e:0+(ys.take i).length=kvs.length:=by rw[klen,List.length_take];omega
   rw[e]
   exact this
 ·have hin:i=(ys.map D.str).length:=by omega
  subst hin
  refine W.done s' _ _ sti λs₁ kp1 g1 os1=>wpAny_execs_nil ?_
  obtain⟨Rf,_,_⟩:=Ri.stepZ (as':=[na]) (s':=s₁) (Z':=Zi) hP1 liveN (λa o n e=>kp1 a o (λhm=>n (mem_cons_of_mem _ hm)) e) (FM.le_refl _) (λa o e=>kp1 a o (λhm=>by rw[zoO a hm] at e;cases e) (Ri.zh a o e)) (λ_ _ e=> .inl e) (λa ha=>by
   rw[mem_singleton.mp ha];exact⟨.inl (mem_cons_self ..),zna⟩) (B6 hcl _) g1 os1
  refine k Zi s₁ kvs le (Rf.mu (μ':=λ_=>none) λ_ _ q=>nomatch q) (DictOf.at' hni λo e=>kp1 _ _ naO e) ?_
  have e:ys.take (ys.map D.str).length=ys:=by rw[length_map];exact List.take_length
  rw[e] at rei;exact rei
end
section
variable {c:Cx}{K:Frag}{env:Env}{ρ ρ' ρ₁ ρ₂ ρ₃:Ev}{σ σ' σ₁ σ₂ σ₃:St}{Z Z' P:FM}{μ:Str->Option Value}{s s':Shared}{A:Around}{E:Value->Shared->Prop}{L:Addr}{n:Nat}{d:D}
set_option maxHeartbeats 1000000 in
theorem SG(T:TopOk c K):MW c:=by
 intro n A σ Z s d0 xd v hu rm G r Q E k
 unfold GD at hu
 split at hu
 rotate_left
 ·cases hu
 rename_i xs
 split at hu
 rotate_left
 ·cases hu
 rename_i hq
 cases hu
 simp only[and_eq_true,decide_eq_true_eq] at hq
 obtain⟨ys,rfl,hnd⟩:=NW xs hq.1
 have hy8:ys.length<=8:=by simpa using hq.2
 obtain⟨fa,fi,hfi,hfn,hlook,F⟩:=T.uinit
 rw[M5] at hlook
 cases hlook
 have X:K.In s.heap:=T.X.keeps G.keep0
 obtain⟨h,g,d,t,os⟩:=s
 refine wpAny_call (make_core (makes_of X T.ucls.makes) (looks_findIn X hfi) (λself=>bind_fn X self (beq_iff_eq.mp hfn)) (.inl rfl) ?_)
 have kp:∀p o,h.get? p=some o->((h.push emptyDict).push (instObj c.uc h.objs.size)).get? p=some o:=λp o e=>Heap.get?_push_of_some _ (Heap.get?_push_of_some _ e)
 have hx:((h.push emptyDict).push (instObj c.uc h.objs.size)).get? (h.objs.size+1)=some (instObj c.uc h.objs.size):=by heap_get
 have hdx:((h.push emptyDict).push (instObj c.uc h.objs.size)).get? h.objs.size=some emptyDict:=Heap.get?_push_of_some _ (Heap.get?_push_size _ rfl)
 have nx:h.get? (h.objs.size+1)=none:=by
  cases q:h.get? (h.objs.size+1) with
  |none=>rfl
  |some o=>exact absurd (Heap.lt_size q) (Nat.not_lt.mpr (le_succ _))
 have ndx:h.get? h.objs.size=none:=Ab h
 have hne:h.objs.size+1≠h.objs.size:=Nat.succ_ne_self _
 have hbig:sysModules<h.objs.size:=modules_low (T.nolimit.keeps G.keep0)
 have hfx:=G.fresh nx
 have hfdx:=G.fresh ndx
 generalize hgx:h.objs.size+1=x at*
 generalize hgd:h.objs.size=dx at*
 generalize hh1:(h.push emptyDict).push (instObj c.uc dx)=h1 at*
 have G1:Gr c σ Z (⟨h1,g,d,t,os⟩:Shared):=G.more (s:=⟨h,g,d,t,os⟩) kp rfl rfl
 refine I5 (by
  have:(A.under (.builtin "type.__call__" ⟨.ref c.uc::[v],[]⟩)).depth<=A.depth+5:=by
   show A.depth+Code.weight _<=_
   exact Nat.add_le_add_left (Nat.le_of_ble_eq_true rfl) _
  have:=rm.2.1
  show(A.under (.builtin "type.__call__" ⟨.ref c.uc::[v],[]⟩)).depth<1000
  omega) G1 F T.nolimit (by rw[G2];rfl) KQ λenv' s₁ E' hk hcl keep1 R1=> ?_
 obtain⟨p1,p2,p3,p4,p5,p6,p7,p8,p9,p10,p11,p12,p13,p14,p15,p16,p17,p18,p19,p20,p21,p22,p23,p24,p25,p26,p27,rr,q,hbody⟩:=NP
 rw[hbody]
 have μs:(λx_1=>if(AU "Universe.__init__").names.lookup x_1=some .local then((AU "Universe.__init__").params.zip [Value.ref x,v]).lookup x_1 else none) (Str.ofString "self")=some (.ref x):=by
  show(if _ then _ else _)=_
  rw[if_pos (G9 "self" (by simp)),G2];rfl
 have μn:(λx_1=>if(AU "Universe.__init__").names.lookup x_1=some .local then((AU "Universe.__init__").params.zip [Value.ref x,v]).lookup x_1 else none) (Str.ofString "names")=some v:=by
  show(if _ then _ else _)=_
  rw[if_pos (G9 "names" (by simp)),G2];rfl
 generalize (λx_1=>if(AU "Universe.__init__").names.lookup x_1=some .local then((AU "Universe.__init__").params.zip [Value.ref x,v]).lookup x_1 else none)=μ at R1 μs μn
 have pdx:BB c Z h1 dx=some emptyDict:=Cp hfdx.2 hfdx.1 hdx
 have px:BB c Z h1 x=some (instObj c.uc dx):=Cp hfx.2 hfx.1 hx
 have R1':Rel c env' ⟨(AU "Universe.__init__").names,[],[]⟩ σ Z (((BB c Z h1).minus dx).adds s₁.heap [dx]) μ s₁:=by
  rw[<-Ih (P:=BB c Z h1) pdx (keep1 _ _ hdx)]
  exact R1
 have hPm:∀q∈[dx],((BB c Z h1).minus dx) q=none:=λq hq=>by rw[mem_singleton.mp hq];exact FM.minus_self
 have pmx:((BB c Z h1).minus dx) x=some (instObj c.uc dx):=by rw[FM.minus_ne hne];exact px
 have pm_fresh:∀a,s₁.heap.get? a=none->((BB c Z h1).minus dx) a=none:=λa e=>by
  cases q:((BB c Z h1).minus dx) a with
  |none=>rfl
  |some o=>
   have:=(BX (FM.minus_some q).2).2.2
   rw[keep1 _ _ this] at e;cases e
 generalize hPmg:(BB c Z h1).minus dx=Pm at R1' hPm pmx pm_fresh
 have ap:∀as,BK env' as:=B6 hcl
 refine wpAny_execs_cons (plainObj_wpAny_Assign_Attribute ?_ rfl)
 refine Bf R1' (by unfold Ao Ev.kind;dsimp only;rw[KC "tuple" (by simp)];rfl) (by decide) (T.typ "tuple" (by decide)) (Ai (P:=λ_=>True) (Ay λ_ _ q=>nomatch q) (Au (.inl ⟨_,rfl⟩)) (BY (λ_ _ q=>nomatch q) (BM R1' (x:=Str.ofString "names") μn (by decide) ⟨trivial,?_⟩)))
 refine IJ R1'.at r (by simp;omega) _ _ λv1 Z2 s2 X2 rv=> ?_
 have ldx:∀a∈[dx],∃o,s₁.heap.get? a=some o:=λa ha=>by rw[mem_singleton.mp ha];exact⟨_,keep1 _ _ hdx⟩
 have R2:=R1'.ext X2
 obtain⟨e1,e2⟩:=R2.still ldx
 rw[e2] at R2
 have hdx2:s2.heap.get? dx=some emptyDict:=by rw[e1 dx (by simp)];exact keep1 _ _ hdx
 have hx2:s2.heap.get? x=some (instObj c.uc dx):=R2.ph _ _ (by rw[FM.adds_out (by simpa using hne)];exact pmx)
 refine BM R2 (x:=Str.ofString "self") μs (by decide) ?_
 refine El (C:=c.uc) (T.X.keeps R2.keep0) T.ucls hx2 (Ct hdx2) T.unames (λp hp=>(nomatch hp)) (by simp) λs3 d3 sb3 g3 os3=> ?_
 have R3:=FJ (s':=s3) R2 hPm (ap _) ⟨_,hdx2⟩ sb3 g3 os3
 have ld3:∀a∈[dx],∃o,s3.heap.get? a=some o:=λa ha=>by rw[mem_singleton.mp ha];exact DictOf.live d3
 refine wpAny_execs_cons (plainObj_wpAny_Assign_Attribute (wpAny_Dict_empty ?_) rfl)
 have kna:∀p o,s3.heap.get? p=some o->(s3.heap.push {cls:= .type "dict",data:= .dict #[]}).get? p=some o:=λp o e=>Heap.get?_push_of_some _ e
 have gna:(s3.heap.push {cls:= .type "dict",data:= .dict #[]}).get? s3.heap.objs.size=some emptyDict:=Heap.get?_push_size _ rfl
 have fna:s3.heap.get? s3.heap.objs.size=none:=Ab _
 have big4:sysModules<s3.heap.objs.size:=modules_low (T.nolimit.keeps R3.keep0)
 generalize s3.heap.objs.size=na at gna fna big4
 generalize (s3.heap.push {cls:= .type "dict",data:= .dict #[]})=h5 at kna gna
 have nadx:na≠dx:=λq=>by obtain⟨o,e⟩:=DictOf.live d3;rw[<-q,fna] at e;cases e
 have zna:Z2 na=none:=by
  cases z:Z2 na with
  |none=>rfl
  |some o=>have:=R3.zh na o z;rw[fna] at this;cases this
 have pna:Pm na=none:=by
  cases z:Pm na with
  |none=>rfl
  |some o=>have:=R3.ph na o (by rw[FM.adds_out (by simpa using nadx)];exact z);rw[fna] at this;cases this
 obtain⟨R5,hP5,_⟩:=R3.stepZ (as':=[dx,na]) (s':={s3 with heap:=h5}) (Z':=Z2) hPm ld3 (λa o _ e=>kna a o e) (FM.le_refl _) (λa o e=>kna a o (R3.zh a o e)) (λ_ _ e=> .inl e) (λa ha=>by
  simp at ha
  rcases ha with rfl|rfl
  ·exact⟨.inl (by simp),R3.looseZ ld3 _ (by simp)⟩
  ·exact⟨.inr fna,zna⟩) (ap _) rfl rfl
 have ld5:∀a∈[dx,na],∃o,h5.get? a=some o:=λa ha=>by
  simp at ha
  rcases ha with rfl|rfl
  ·obtain⟨o,e⟩:=DictOf.live d3;exact⟨o,kna _ _ e⟩
  ·exact⟨_,gna⟩
 have xdn:x∉[dx,na]:=λhm=>by
  have:=hP5 x hm;rw[pmx] at this;cases this
 refine BM R5 (x:=Str.ofString "self") μs (by decide) ?_
 have hx5:h5.get? x=some (instObj c.uc dx):=R5.ph _ _ (by rw[FM.adds_out xdn];exact pmx)
 refine El (s:={s3 with heap:=h5}) (C:=c.uc) (T.X.keeps R5.keep0) T.ucls hx5 (DictOf.at' d3 λo e=>kna _ _ e) T.unumbers (λp hp=> ?_) (by simp) λs6 d6 sb6 g6 os6=> ?_
 ·simp at hp;subst hp;intro q;exact absurd (Key.s.inj q) (by decide)
 have R6:=Ey (s:={s3 with heap:=h5}) (s':=s6) R5 hP5 (ap _) ld5 (b:=dx) (by simp) sb6 g6 os6
 obtain⟨od,hod,hdd⟩:=Heap.dictOf_iff.mp d6
 have gna6:s6.heap.get? na=some emptyDict:=by rw[sb6.2 na nadx];exact gna
 have eP:Pm.adds s6.heap [dx,na]=(Pm.adds s6.heap [dx]).adds s6.heap [na]:=by
  rw[FM.adds_comm]
  exact FM.adds_app (as:=[dx]) (bs:=[na])
 rw[eP] at R6
 have P0x:(Pm.adds s6.heap [dx]) x=some (instObj c.uc dx):=by rw[FM.adds_out (by simpa using hne)];exact pmx
 have P0d:(Pm.adds s6.heap [dx]) dx=some od:=by rw[FM.adds_in (by simp)];exact hod
 have P0n:(Pm.adds s6.heap [dx]) na=none:=by rw[FM.adds_out (by simpa using nadx)];exact pna
 refine wpAny_execs_cons (PP T (A:=(A.under (.builtin "type.__call__" ⟨.ref c.uc::[v],[]⟩)).deeper env') rm.1 KQ (G9 "name" (by simp)) (KC "len" (by simp)) hcl hnd hy8 P0x P0d (by simpa using hdd) P0n (Nat.ne_of_gt big4) R6 μs (Ct gna6) rv λZ7 s7 kvs le7 R7 d7 re7=> ?_)
 refine wpAny_execs_nil ⟨rfl,?_⟩
 have l7:∀a∈[na],∃o,s7.heap.get? a=some o:=λa ha=>by rw[mem_singleton.mp ha];exact DictOf.live d7
 have xna:x≠na:=λe=>xdn (by rw[e];simp)
 have hx7:s7.heap.get? x=some (instObj c.uc dx):=R7.ph _ _ (by rw[FM.adds_out (by simpa using xna)];exact P0x)
 have hd7:s7.heap.get? dx=some od:=R7.ph _ _ (by rw[FM.adds_out (by simpa using Ne.symm nadx)];exact P0d)
 have z7:∀a∈[x,dx,na],Z7 a=none:=λa ha=>by
  simp at ha
  rcases ha with rfl|rfl|rfl
  ·exact R7.noZP (by rw[FM.adds_out (by simpa using xna)];exact P0x)
  ·exact R7.noZP (by rw[FM.adds_out (by simpa using Ne.symm nadx)];exact P0d)
  ·exact R7.looseZ l7 _ (by simp)
 have le8:Z7.le (Z7.adds s7.heap [x,dx,na]):=λb o e=>by rw[FM.adds_out (λhm=>by rw[z7 b hm] at e;cases e)];exact e
 have le2:Z.le Z7:=FM.le_trans X2.le le7
 have freshx:∀a∈[x,dx,na],h.get? a=none:=λa ha=>by
  simp at ha
  rcases ha with rfl|rfl|rfl
  ·exact nx
  ·exact ndx
  ·cases q:h.get? a with
   |none=>rfl
   |some o=>
    have n1:a≠dx:=nadx
    have:s3.heap.get? a=some o:=by
     rw[sb3.2 a n1]
     by_cases ha:a=env'.locals
     ·exfalso
      obtain⟨m,oa,vs⟩:=R5.vars
      have:=vs.free.2.1
      rw[<-ha,FM.adds_in (by simp),gna] at this;cases this
     ·exact X2.keep a o ha (keep1 _ _ (kp _ _ q))
    rw[fna] at this;cases this
 have prot_up:∀a o,BB c Z h a=some o->BB c Z h1 a=some o/\a∉[x,dx,na]:=λa o e=>by
  obtain⟨h1',h2',h3'⟩:=BX e
  exact⟨Cp h1' h2' (kp _ _ h3'),λhm=>by rw[freshx a hm] at h3';cases h3'⟩
 have P0at:∀a o,BB c Z h a=some o->((Pm.adds s6.heap [dx]).adds s7.heap [na]) a=some o:=λa o e=>by
  obtain⟨e1,e2⟩:=prot_up a o e
  simp at e2
  rw[FM.adds_out (by simpa using e2.2.2),FM.adds_out (by simpa using e2.2.1),<-hPmg,FM.minus_ne e2.2.1];exact e1
 have faO:c.fa∉[x,dx,na]:=λhm=>by
  obtain⟨_,_,_,dd,_⟩:=G.feed
  obtain⟨o,e⟩:=DictOf.live dd
  have:=freshx _ hm
  rw[show(Shared.heap ⟨h,g,d,t,os⟩)=h from rfl,this] at e;cases e
 refine k (.ref x) (Z7.adds s7.heap [x,dx,na]) s7 {
  le:=FM.le_trans le2 le8
  held:=λa o e=>by
   by_cases ha:a∈[x,dx,na]
   ·rw[FM.adds_in ha] at e;exact e
   ·rw[FM.adds_out ha] at e;exact R7.zh a o e
  keep:=λa o e=>R7.ph a o (P0at a o e)
  new:=λa o e=>by
   cases q:BB c Z h a with
   |none=>rfl
   |some o'=>
    have e1:=P0at a o' q
    rw[FM.adds_out (prot_up a o' q).2] at e
    have:=R7.zp a o e
    rw[e1] at this;cases this
  feed:=R7.feed.keep le8 λ_ e=>e
  fz:=by rw[FM.adds_out faO];exact R7.feedFree.1
  gens:=R7.gens
  os:=R7.os} ?_
 rw[Rep]
 have hdd':od.IsDictOf (AV c.prog c.w) [(.s (Str.ofString "names"),v1),(.s (Str.ofString "numbers"),.ref na)]:=by simpa using hdd
 have rv':=Rep.mono (FM.le_trans le7 le8) _ _ rv
 rw[Rep] at rv'
 obtain⟨tb,tvs,rfl,ht,hrl⟩:=rv'
 refine⟨x,dx,_,_,rfl,?_,⟨Nat.ne_of_gt hbig,od,by rw[FM.adds_in (by simp)];exact hd7,hdd'⟩,⟨tb,tvs,rfl,ht,hrl⟩,na,kvs,rfl,?_,RepE.mono le8 _ _ re7⟩
 ·show(Z7.adds s7.heap [x,dx,na]) x=_
  rw[FM.adds_in (by simp)];exact hx7
 ·exact Cg (by simp) (Nat.ne_of_gt big4) d7
end
end Nz
open PySem PySem.W PyProof.Rows
set_option maxHeartbeats 8000000 in
open_top hd for PySem.Challenge.rw_nz0389_01
namespace Nz
open PySem PySem.W PyProof.Rows PySem.Calls
open List (mem_range map_cons mem_cons mem_cons_of_mem mem_cons_self cons_append size_toArray append_nil any_cons nodup_cons all_eq_true zip_cons_cons mem_filter length_map getElem?_eq_getElem mem_map mem_append mem_singleton lookup_cons length_cons map_take filterMap_cons map_map nodup_nil length_nil map_nil map_append length_append flatMap_cons length_filter_le)
open Nat (zero_le le_succ le_max_left le_max_right)
open Bool (and_eq_true false_eq_true or_eq_true not_eq_true')
open Option (map_eq_some_iff bind_eq_bind bind_eq_some_iff getD_some bind_some map_some)
def MX(K:Frag)(a:Addr)(f:String):Prop:=fnTab.lookup (Str.ofString f)=some (AU f)/\E7 (AU f)=true/\∃o fd,K.lookup a=some o/\o.data= .func fd/\fd.body= .stmts (AU f).body/\fd.scope.names=(AU f).names/\fd.scope.kind= .function/\fd.scope.isCoroutine=false/\fd.scope.isGenerator=false/\
 Fk fd.params (AU f).params/\fd.defaults= .none/\fd.closure=[]/\fd.globals=mainGlobals/\fd.builtins=builtinsNs/\codeIn K fd.code fd.qualname=true
theorem Nv{c:Cx}{K:Frag}(X:K.In c.h₀){a:Addr}{f:String}(h:MX K a f):FnOk c a (AU f):=by
 obtain⟨_,hst,o,fd,h1,h2,h3,h4,h5,h6,h7,h8,h9,h10,h11,h12,h13⟩:=h
 exact⟨hst,o,fd,X _ _ h1,h2,h3,h4,h5,h6,h7,h8,h9,h10,h11,h12,codeRec_of X h13⟩
def BG(K:Frag)(f:String):Prop:=∃a,nsIn K mainGlobals (Str.ofString f)=some (some (.ref a))/\MX K a f
theorem VR(P:Params):BG (hd.heap_39 P) "set_of" :=⟨_,rfl,rfl,rfl,_,_,rfl,rfl,rfl,rfl,rfl,rfl,rfl,⟨rfl,rfl,rfl,rfl,rfl⟩,rfl,rfl,rfl,rfl,rfl⟩
theorem VQ(P:Params):BG (hd.heap_39 P) "univ_of" :=⟨_,rfl,rfl,rfl,_,_,rfl,rfl,rfl,rfl,rfl,rfl,rfl,⟨rfl,rfl,rfl,rfl,rfl⟩,rfl,rfl,rfl,rfl,rfl⟩
theorem VP(P:Params):BG (hd.heap_39 P) "iden_of" :=⟨_,rfl,rfl,rfl,_,_,rfl,rfl,rfl,rfl,rfl,rfl,rfl,⟨rfl,rfl,rfl,rfl,rfl⟩,rfl,rfl,rfl,rfl,rfl⟩
theorem VO(P:Params):BG (hd.heap_39 P) "union" :=⟨_,rfl,rfl,rfl,_,_,rfl,rfl,rfl,rfl,rfl,rfl,rfl,⟨rfl,rfl,rfl,rfl,rfl⟩,rfl,rfl,rfl,rfl,rfl⟩
theorem VN(P:Params):BG (hd.heap_39 P) "meet" :=⟨_,rfl,rfl,rfl,_,_,rfl,rfl,rfl,rfl,rfl,rfl,rfl,⟨rfl,rfl,rfl,rfl,rfl⟩,rfl,rfl,rfl,rfl,rfl⟩
theorem VM(P:Params):BG (hd.heap_39 P) "minus" :=⟨_,rfl,rfl,rfl,_,_,rfl,rfl,rfl,rfl,rfl,rfl,rfl,⟨rfl,rfl,rfl,rfl,rfl⟩,rfl,rfl,rfl,rfl,rfl⟩
theorem VL(P:Params):BG (hd.heap_39 P) "is_within" :=⟨_,rfl,rfl,rfl,_,_,rfl,rfl,rfl,rfl,rfl,rfl,rfl,⟨rfl,rfl,rfl,rfl,rfl⟩,rfl,rfl,rfl,rfl,rfl⟩
theorem VK(P:Params):BG (hd.heap_39 P) "product" :=⟨_,rfl,rfl,rfl,_,_,rfl,rfl,rfl,rfl,rfl,rfl,rfl,⟨rfl,rfl,rfl,rfl,rfl⟩,rfl,rfl,rfl,rfl,rfl⟩
theorem VJ(P:Params):BG (hd.heap_39 P) "join" :=⟨_,rfl,rfl,rfl,_,_,rfl,rfl,rfl,rfl,rfl,rfl,rfl,⟨rfl,rfl,rfl,rfl,rfl⟩,rfl,rfl,rfl,rfl,rfl⟩
theorem VI(P:Params):BG (hd.heap_39 P) "turned" :=⟨_,rfl,rfl,rfl,_,_,rfl,rfl,rfl,rfl,rfl,rfl,rfl,⟨rfl,rfl,rfl,rfl,rfl⟩,rfl,rfl,rfl,rfl,rfl⟩
theorem Uf(P:Params):BG (hd.heap_39 P) "closure" :=⟨_,rfl,rfl,rfl,_,_,rfl,rfl,rfl,rfl,rfl,rfl,rfl,⟨rfl,rfl,rfl,rfl,rfl⟩,rfl,rfl,rfl,rfl,rfl⟩
theorem Ue(P:Params):BG (hd.heap_39 P) "star" :=⟨_,rfl,rfl,rfl,_,_,rfl,rfl,rfl,rfl,rfl,rfl,rfl,⟨rfl,rfl,rfl,rfl,rfl⟩,rfl,rfl,rfl,rfl,rfl⟩
theorem Ud(P:Params):BG (hd.heap_39 P) "ahead" :=⟨_,rfl,rfl,rfl,_,_,rfl,rfl,rfl,rfl,rfl,rfl,rfl,⟨rfl,rfl,rfl,rfl,rfl⟩,rfl,rfl,rfl,rfl,rfl⟩
theorem Uc(P:Params):BG (hd.heap_39 P) "behind" :=⟨_,rfl,rfl,rfl,_,_,rfl,rfl,rfl,rfl,rfl,rfl,rfl,⟨rfl,rfl,rfl,rfl,rfl⟩,rfl,rfl,rfl,rfl,rfl⟩
theorem Ub(P:Params):BG (hd.heap_39 P) "upper_of_comp" :=⟨_,rfl,rfl,rfl,_,_,rfl,rfl,rfl,rfl,rfl,rfl,rfl,⟨rfl,rfl,rfl,rfl,rfl⟩,rfl,rfl,rfl,rfl,rfl⟩
theorem Ua(P:Params):BG (hd.heap_39 P) "upper_of" :=⟨_,rfl,rfl,rfl,_,_,rfl,rfl,rfl,rfl,rfl,rfl,rfl,⟨rfl,rfl,rfl,rfl,rfl⟩,rfl,rfl,rfl,rfl,rfl⟩
theorem UZ(P:Params):BG (hd.heap_39 P) "upper_of_one" :=⟨_,rfl,rfl,rfl,_,_,rfl,rfl,rfl,rfl,rfl,rfl,rfl,⟨rfl,rfl,rfl,rfl,rfl⟩,rfl,rfl,rfl,rfl,rfl⟩
theorem UY(P:Params):BG (hd.heap_39 P) "_law_draw" :=⟨_,rfl,rfl,rfl,_,_,rfl,rfl,rfl,rfl,rfl,rfl,rfl,⟨rfl,rfl,rfl,rfl,rfl⟩,rfl,rfl,rfl,rfl,rfl⟩
theorem UX(P:Params):BG (hd.heap_39 P) "_law_masked" :=⟨_,rfl,rfl,rfl,_,_,rfl,rfl,rfl,rfl,rfl,rfl,rfl,⟨rfl,rfl,rfl,rfl,rfl⟩,rfl,rfl,rfl,rfl,rfl⟩
theorem UW(P:Params):BG (hd.heap_39 P) "_law_lots" :=⟨_,rfl,rfl,rfl,_,_,rfl,rfl,rfl,rfl,rfl,rfl,rfl,⟨rfl,rfl,rfl,rfl,rfl⟩,rfl,rfl,rfl,rfl,rfl⟩
theorem UV(P:Params):BG (hd.heap_39 P) "_law_of_one_place" :=⟨_,rfl,rfl,rfl,_,_,rfl,rfl,rfl,rfl,rfl,rfl,rfl,⟨rfl,rfl,rfl,rfl,rfl⟩,rfl,rfl,rfl,rfl,rfl⟩
theorem UU(P:Params):BG (hd.heap_39 P) "_law_of_two_places" :=⟨_,rfl,rfl,rfl,_,_,rfl,rfl,rfl,rfl,rfl,rfl,rfl,⟨rfl,rfl,rfl,rfl,rfl⟩,rfl,rfl,rfl,rfl,rfl⟩
theorem UT(P:Params):BG (hd.heap_39 P) "_law_formula" :=⟨_,rfl,rfl,rfl,_,_,rfl,rfl,rfl,rfl,rfl,rfl,rfl,⟨rfl,rfl,rfl,rfl,rfl⟩,rfl,rfl,rfl,rfl,rfl⟩
theorem US(P:Params):BG (hd.heap_39 P) "_law_is_so" :=⟨_,rfl,rfl,rfl,_,_,rfl,rfl,rfl,rfl,rfl,rfl,rfl,⟨rfl,rfl,rfl,rfl,rfl⟩,rfl,rfl,rfl,rfl,rfl⟩
theorem UR(P:Params):BG (hd.heap_39 P) "_law_chosen" :=⟨_,rfl,rfl,rfl,_,_,rfl,rfl,rfl,rfl,rfl,rfl,rfl,⟨rfl,rfl,rfl,rfl,rfl⟩,rfl,rfl,rfl,rfl,rfl⟩
theorem UQ(P:Params):BG (hd.heap_39 P) "_law_joined" :=⟨_,rfl,rfl,rfl,_,_,rfl,rfl,rfl,rfl,rfl,rfl,rfl,⟨rfl,rfl,rfl,rfl,rfl⟩,rfl,rfl,rfl,rfl,rfl⟩
theorem UP(P:Params):BG (hd.heap_39 P) "_law_closed" :=⟨_,rfl,rfl,rfl,_,_,rfl,rfl,rfl,rfl,rfl,rfl,rfl,⟨rfl,rfl,rfl,rfl,rfl⟩,rfl,rfl,rfl,rfl,rfl⟩
theorem UO(P:Params):BG (hd.heap_39 P) "_law_mixed" :=⟨_,rfl,rfl,rfl,_,_,rfl,rfl,rfl,rfl,rfl,rfl,rfl,⟨rfl,rfl,rfl,rfl,rfl⟩,rfl,rfl,rfl,rfl,rfl⟩
theorem UN(P:Params):BG (hd.heap_39 P) "_law_rows" :=⟨_,rfl,rfl,rfl,_,_,rfl,rfl,rfl,rfl,rfl,rfl,rfl,⟨rfl,rfl,rfl,rfl,rfl⟩,rfl,rfl,rfl,rfl,rfl⟩
theorem UM(P:Params):BG (hd.heap_39 P) "_law_words" :=⟨_,rfl,rfl,rfl,_,_,rfl,rfl,rfl,rfl,rfl,rfl,rfl,⟨rfl,rfl,rfl,rfl,rfl⟩,rfl,rfl,rfl,rfl,rfl⟩
theorem Qx(P:Params):∀f∈topFns,BG (hd.heap_39 P) f:=by
 intro f hf
 unfold topFns at hf
 simp only[mem_cons,List.not_mem_nil,or_false] at hf
 rcases hf with rfl|rfl|rfl|rfl|rfl|rfl|rfl|rfl|rfl|rfl|rfl|rfl|rfl|rfl|rfl|rfl|rfl|rfl|rfl|rfl|rfl|rfl|rfl|rfl|rfl|rfl|rfl|rfl|rfl|rfl
 ·exact VR P
 ·exact VQ P
 ·exact VP P
 ·exact VO P
 ·exact VN P
 ·exact VM P
 ·exact VL P
 ·exact VK P
 ·exact VJ P
 ·exact VI P
 ·exact Uf P
 ·exact Ue P
 ·exact Ud P
 ·exact Uc P
 ·exact Ub P
 ·exact Ua P
 ·exact UZ P
 ·exact UY P
 ·exact UX P
 ·exact UW P
 ·exact UV P
 ·exact UU P
 ·exact UT P
 ·exact US P
 ·exact UR P
 ·exact UQ P
 ·exact UP P
 ·exact UO P
 ·exact UN P
 ·exact UM P
def Eb(K:Frag)(C:Addr)(m f:String):Prop:=∃a,findIn K (.ref C) (Str.ofString m)=some (some (.ref a))/\isFn K (.ref a)=true/\MX K a f
theorem VH(P:Params):Eb (hd.heap_39 P) 213 "size" "Universe.size" :=⟨_,rfl,rfl,rfl,rfl,_,_,rfl,rfl,rfl,rfl,rfl,rfl,rfl,⟨rfl,rfl,rfl,rfl,rfl⟩,rfl,rfl,rfl,rfl,rfl⟩
theorem VG(P:Params):Eb (hd.heap_39 P) 213 "__init__" "Universe.__init__" :=⟨_,rfl,rfl,rfl,rfl,_,_,rfl,rfl,rfl,rfl,rfl,rfl,rfl,⟨rfl,rfl,rfl,rfl,rfl⟩,rfl,rfl,rfl,rfl,rfl⟩
theorem VF(P:Params):Eb (hd.heap_39 P) 290 "upper" "Bounds.upper" :=⟨_,rfl,rfl,rfl,rfl,_,_,rfl,rfl,rfl,rfl,rfl,rfl,rfl,⟨rfl,rfl,rfl,rfl,rfl⟩,rfl,rfl,rfl,rfl,rfl⟩
theorem VD(P:Params):Eb (hd.heap_39 P) 290 "want_set" "Bounds.want_set" :=⟨_,rfl,rfl,rfl,rfl,_,_,rfl,rfl,rfl,rfl,rfl,rfl,rfl,⟨rfl,rfl,rfl,rfl,rfl⟩,rfl,rfl,rfl,rfl,rfl⟩
theorem VC(P:Params):Eb (hd.heap_39 P) 290 "add" "Bounds.add" :=⟨_,rfl,rfl,rfl,rfl,_,_,rfl,rfl,rfl,rfl,rfl,rfl,rfl,⟨rfl,rfl,rfl,rfl,rfl⟩,rfl,rfl,rfl,rfl,rfl⟩
theorem VB(P:Params):Eb (hd.heap_39 P) 290 "__init__" "Bounds.__init__" :=⟨_,rfl,rfl,rfl,rfl,_,_,rfl,rfl,rfl,rfl,rfl,rfl,rfl,⟨rfl,rfl,rfl,rfl,rfl⟩,rfl,rfl,rfl,rfl,rfl⟩
theorem FG{c:Cx}{K:Frag}(X:K.In c.h₀){C:Addr}{m f:String}(h:Eb K C m f):E9 c K C (Str.ofString m) (Str.ofString f):=
 let⟨a,h1,h2,h3⟩:=h;⟨a,AU f,h1,h2,h3.1,Nv X h3⟩
theorem Tw(P:Params):ClsK (hd.heap_39 P) 213:=⟨λ_=>rfl,rfl,rfl,rfl,rfl,rfl⟩
theorem Tx(P:Params):ClsK (hd.heap_39 P) 290:=⟨λ_=>rfl,rfl,rfl,rfl,rfl,rfl⟩
theorem TQ{P:Params}{c:Cx}{mg mb:Str->Option Value}(X:(hd.heap_39 P).In c.h₀)(hg:c.h₀.Ns mainGlobals mg)(hb:c.h₀.Ns builtinsNs mb)(hbt:∀x:Str,x≠ "__name__"->mb x=bootBuiltins x)(hl:c.h₀.NoLimit)(hu:c.uc=213)(hbc:c.bc=290):TopOk c (hd.heap_39 P) where
 X:=X
 nolimit:=hl
 fn:=λf hf=>by
  obtain⟨a,h1,h2⟩:=Qx P f hf
  exact⟨a,AU f,h2.1,⟨mg,hg,.inl (mg_of X hg h1)⟩,Nv X h2⟩
 typ:=λt ht=>by
  have h1:∀t∈typNames,nsIn (hd.heap_39 P) mainGlobals (Str.ofString t)=some none:=by
   intro t ht
   unfold typNames at ht
   simp only[mem_cons,List.not_mem_nil,or_false] at ht
   rcases ht with rfl|rfl|rfl|rfl|rfl|rfl|rfl|rfl|rfl<;>rfl
  have h2:∀t∈typNames,bootBuiltins (Str.ofString t)=some (.type t)/\Str.ofString t≠Str.ofString "__name__" :=by decide+kernel
  exact⟨mg,hg,.inr ⟨mg_none_of X hg (h1 t ht),mb,hb,(hbt _ (h2 t ht).2).trans (h2 t ht).1⟩⟩
 blt:=λt ht=>by
  have h1:∀t∈Gh,nsIn (hd.heap_39 P) mainGlobals (Str.ofString t)=some none:=by
   intro t ht
   unfold Gh at ht
   simp only[mem_cons,List.not_mem_nil,or_false] at ht
   rcases ht with rfl|rfl|rfl<;>rfl
  have h2:∀t∈Gh,bootBuiltins (Str.ofString t)=some (.builtin t)/\Str.ofString t≠Str.ofString "__name__" :=by decide+kernel
  exact⟨mg,hg,.inr ⟨mg_none_of X hg (h1 t ht),mb,hb,(hbt _ (h2 t ht).2).trans (h2 t ht).1⟩⟩
 pairs:=by
  have e:(hd.heap_39 P).lookup 295=some _:=rfl
  exact⟨295,_,_,_,_,_,_,⟨mg,hg,.inl (mg_of X hg (v:= .ref 295) rfl)⟩,X _ _ e,rfl,rfl⟩
 uni:=⟨mg,hg,.inl (mg_of X hg (by rw[hu];rfl))⟩
 bnd:=⟨mg,hg,.inl (mg_of X hg (by rw[hbc];rfl))⟩
 ucls:=by rw[hu];exact Tw P
 bcls:=by rw[hbc];exact Tx P
 unames:=by rw[hu];rfl
 unumbers:=by rw[hu];rfl
 buni:=by rw[hbc];rfl
 bbounds:=by rw[hbc];rfl
 bnumbers:=by rw[hbc];rfl
 usize:=by rw[hu];exact FG X (VH P)
 uinit:=by rw[hu];exact FG X (VG P)
 bupper:=by rw[hbc];exact FG X (VF P)
 bwant:=by rw[hbc];exact FG X (VD P)
 badd:=by rw[hbc];exact FG X (VC P)
 binit:=by rw[hbc];exact FG X (VB P)
theorem L3{c:Cx}{Z:FM}:∀{vs:List Value}{is:List Int},IntsAre vs is->RepL c Z (is.map .int) vs
 |_,_,h=>by
  induction h with
  |nil=>exact RepL.nil
  |cons=>rename_i h;exact RepL.cons (BW _ _) h
theorem L6{c c':Cx}{Z Z':FM}:∀(l:List Int)(vs:List Value),RepL c Z (l.map .int) vs->RepL c' Z' (l.map .int) vs
 |[],vs,h=>by rw[map_nil,RepL] at h⊢;exact h
 |i::l,vs,h=>by
  rw[map_cons,RepL] at h⊢
  obtain⟨v,r,e,h1,h2⟩:=h
  rw[Rep] at h1
  exact⟨v,r,e,by rw[Rep];exact h1,L6 l r h2⟩
theorem Tu(is:List Int)(h:is.length<=1000):∃(a b c':Option Int)(k:Cut a b c'),Ha .none=some a/\Ha (.int 50)=some b/\Ha .none=some c'/\(is.take 50).map D.int=k.pick (is.map D.int):=by
 refine Fj ?_
 have e1:IQ (is.map D.int) .none (.int 50) .none=some ((is.map D.int).take (Ap 50 (is.map D.int).length)):=rfl
 rw[e1,map_take]
 congr 1
 have e2:Ap 50 (is.map D.int).length=min 50 is.length:=by unfold Ap;simp
 rw[e2,List.take_eq_take_iff]
 simp
section
variable {prog:Program}{w:World}{A:Around}{E:Value->Shared->Prop}{s:Shared}{env:Env}{m mg mb:Str->Option Value}
theorem M7{M:Model}{x:Str}{p:Pos}{v:Value}{Q:Value->Shared->Prop}(hf:env.scope.kind= .function)(hk:env.kindOf x=some .local)(ns:s.heap.Ns env.locals m)(hv:m x=some v)(hd:(x==("__debug__" :Str))=false)(k:Q v s):wpAny M A (eval (.Name x p) env) Q E s:=
 wpAny_Name (wpAny_loadName_local hf hk ns hv k) hd
theorem NI{c:Cx}{k1 k2 k3 k4:Nat}{p1 p2 p3 p4 p5 p6 p7 p8 p9 p10:Pos}{la:Addr}{vs:List Value}{is:List Int}{Q:Value->Shared->Prop}(hcp:c.prog=prog)(hcw:c.w=w)
 (hf:env.scope.kind= .function) (hs:env.kindOf (Str.ofString "script")=some .local) (hlk:env.kindOf (Str.ofString "list")=some .globalImplicit) (ns:s.heap.Ns env.locals m) (hm:m (Str.ofString "script")=some (.ref la)) (hL:s.heap.IsList la vs.toArray) (hI:IntsAre vs is) (hlen:is.length<=1000) (laL:la≠env.locals)
 (hgl:env.globals=mainGlobals) (hbu:env.builtins=builtinsNs) (hg:s.heap.Ns mainGlobals mg) (hgn:mg (Str.ofString "list")=none) (hb:s.heap.Ns builtinsNs mb) (hbl:mb (Str.ofString "list")=some (.type "list"))
 (nog:mainGlobals≠env.locals) (nob:builtinsNs≠env.locals)
 (k:∀dA ca ws t s',(∀a o,a≠env.locals->s.heap.get? a=some o->s'.heap.get? a=some o)->s'.heap.Ns env.locals m->s'.gens=s.gens->s'.os=s.os->s'.heap.DictOf (AV prog w) dA [(.s (Str.ofString "cells"),.ref ca),(.s (Str.ofString "spot"),.int 0 t)]->
   s.heap.get? dA=none->s.heap.get? ca=none->dA≠ca->dA=s.heap.objs.size->s'.heap.PlainList ca ws.toArray->(∀(c:Cx) (Z:FM),RepL c Z ((is.take 50).map .int) ws)->Q (.ref dA) s'):
 wpAny (model prog w) A (eval (.Dict [some (.Constant (.str (Str.ofString "cells")) k1 p1),some (.Constant (.str (Str.ofString "spot")) k2 p2)]
  [.Call (nm "list" p3) [.Subscript (nm "script" p4) (.Slice none (some (.Constant (.int 50) k3 p5)) none p6) p7] [] p8,.Constant (.int 0) k4 p9] p10) env) Q E s:=by
 subst hcp hcw
 refine wpAny_Dict_pairs (knd:=AV c.prog c.w) (pairs:=[(eval (.Constant (.str (Str.ofString "cells")) k1 p1) env,do let x<-eval (.Call (nm "list" p3) [.Subscript (nm "script" p4) (.Slice none (some (.Constant (.int 50) k3 p5)) none p6) p7] [] p8) env;standAt p10;pure x),
  (eval (.Constant (.str (Str.ofString "spot")) k2 p2) env,do let x<-eval (.Constant (.int 0) k4 p9) env;standAt p10;pure x)]) rfl (by simp) (by simp) ?_
 have fD:s.heap.get? s.heap.objs.size=none:=Ab _
 have gD:(s.heap.push emptyDict).get? s.heap.objs.size=some emptyDict:=Heap.get?_push_size _ rfl
 have kD:∀a o,s.heap.get? a=some o->(s.heap.push emptyDict).get? a=some o:=λa o e=>Heap.get?_push_of_some _ e
 have hDs:s.heap.objs.size=s.heap.objs.size:=rfl
 have LD:env.locals≠s.heap.objs.size:=λq=>by
  obtain⟨o,_,_,e,_⟩:=ns
  rw[q,fD] at e;cases e
 show wpAny _ A _ _ E {s with heap:=s.heap.push emptyDict}
 generalize hDg:s.heap.objs.size=dA at fD gD LD⊢
 generalize s.heap.push emptyDict=h1 at gD kD⊢
 have ns1:h1.Ns env.locals m:=ns.keeps kD
 refine evalPairs_cons (wpAny_Constant_str (wpAny_bind ?_))
 rw[arm_eval_Call_Name']
 refine wpAny_bind (Name_function_global hf hlk (loadGlobal_builtin (mg:=mg) (by rw[hgl];exact(hg.keeps kD).keeps λ_ _ e=>e) hgn (by rw[hbu];exact(hb.keeps kD).keeps λ_ _ e=>e) hbl ?_) (by decide))
 refine Ai (P:=λ_=>True) (Ay λ_ _ q=>nomatch q) (Au (.inl ⟨_,rfl⟩)) (BY (λ_ _ q=>nomatch q) ?_)
 refine Subscript_ (M7 hf hs ns1 hm (by decide) ?_)
 rw[arm_eval_Slice]
 refine wpAny_bind ?_
 show wpAny _ A (pure Value.none) _ _ _
 refine wpAny_pure (wpAny_bind (wpAny_holding ?_))
 show wpAny _ A (eval (.Constant (.int 50) k3 p5) env) _ _ _
 refine wpAny_Constant_int (wpAny_bind (wpAny_holding ?_))
 show wpAny _ A (pure Value.none) _ _ _
 refine wpAny_pure ?_
 unfold newFields
 refine wpAny_newObj_type ?_ (by show(3:Nat)<=sizeLine+2;rw[sizeLine_eq];omega)
 have hrep:RepL c (λ_=>none) (is.map .int) vs:=L3 hI
 have hvl:vs.length=is.length:=by have:=RepL.length _ _ hrep;simpa using this
 obtain⟨a,b,c',kc,q1,q2,q3,q4⟩:=Tu is hlen
 have hws:RepL c (λ_=>none) ((is.take 50).map .int) (kc.pick vs):=by rw[q4];exact RepL.pick kc _ _ hrep
 have hwl:(kc.pick vs).length<=1000:=by have:=RepL.length _ _ hws;simp at this;omega
 generalize hv2:Value.int 50 (Shared.toks _)=v2
 have r2:Rep c (λ_=>none) (.int 50) v2:=by rw[<-hv2];exact BW _ _
 have sl:=Heap.IsSliceOf.new h1 .none v2 .none
 have k2:∀p o,h1.get? p=some o->(h1.push {cls:= .type "slice",data:= .fields #[.none,v2,.none]}).get? p=some o:=λp o e=>Heap.get?_push_of_some _ e
 show wpAny _ A _ _ E {s with heap:=h1.push {cls:= .type "slice",data:= .fields #[.none,v2,.none]},toks:=s.toks+1+1}
 generalize (h1.push {cls:= .type "slice",data:= .fields #[.none,v2,.none]})=h2 at sl k2⊢
 have T2:h2.IsList la vs.toArray:=hL.at λo e=>k2 _ _ (kD _ _ e)
 refine CU (s:={s with heap:=h2,toks:=s.toks+1+1}) T2.typeIs slot_list_getitem.lookup
  (wpAny_getItem_list_slice (s:={s with heap:=h2,toks:=s.toks+1+1}) T2 sl (DO (c:=c) (Z:=λ_=>none) GL q1) (DO r2 q2) (DO (c:=c) (Z:=λ_=>none) GL q3) kc.ne0 ?_ (by rw[size_toArray,sizeLine_eq];omega))
 rw[Nc kc vs]
 generalize kc.pick vs=ws at hws hwl⊢
 have g3:(h2.push (seqObj "list" ws.toArray 0)).get? h2.objs.size=some (seqObj "list" ws.toArray 0):=Heap.get?_push_size _ rfl
 have k3:∀p o,h2.get? p=some o->(h2.push (seqObj "list" ws.toArray 0)).get? p=some o:=λp o e=>Heap.get?_push_of_some _ e
 show True/\wpAny _ A (call (.type "list") ([]++[.ref h2.objs.size])) _ E {s with heap:=h2.push (seqObj "list" ws.toArray 0),toks:=s.toks+1+1}
 generalize h2.objs.size=l3 at g3⊢
 generalize (h2.push (seqObj "list" ws.toArray 0))=h3 at g3 k3⊢
 have ns3:h3.Ns env.locals m:=((ns1.keeps k2).keeps k3)
 refine⟨trivial,list_copyK (s:={s with heap:=h3,toks:=s.toks+1+1}) (HF ns3) (E1 env.locals h3) ⟨_,g3,rfl,_,rfl⟩ (λca cnt h4 F N hl=> ?_) (by rw[size_toArray,sizeLine_eq];omega)⟩
 have hca:=N (ca,listOf ws.toArray cnt) (mem_cons_self ..)
 have keep4:∀p o,p≠env.locals->h3.get? p=some o->h4.get? p=some o:=λp o n e=>(N (p,o) (mem_cons_of_mem _ (led_mem.mpr ⟨n,e⟩))).1
 have fca:h3.get? ca=none:=Np hca.2.1 hl
 refine wpAny_bind (wpAny_standAt (wpAny_pure ?_))
 refine evalPairs_cons (wpAny_Constant_str (wpAny_bind (wpAny_Constant_int (wpAny_bind (wpAny_standAt (wpAny_pure (evalPairs_nil ?_)))))))
 have dAL:dA≠env.locals:=Ne.symm LD
 have d4:h4.get? dA=some emptyDict:=keep4 _ _ dAL (k3 _ _ (k2 _ _ gD))
 refine⟨[(.s (Str.ofString "cells"),.ref ca),(.s (Str.ofString "spot"),.int 0 _)],⟨by simp[AV,Key.is,Value.isStr,Value.isStrOf],rfl,by simp[AV,Key.is,Value.isStr,Value.isStrOf],rfl,trivial⟩,Ct d4,λh5 hm5 sb=> ?_⟩
 have em:merged [] [((Key.s (Str.ofString "cells")),Value.ref ca),((Key.s (Str.ofString "spot")),.int 0 (s.toks+1+1+1))]=[((Key.s (Str.ofString "cells")),Value.ref ca),((Key.s (Str.ofString "spot")),.int 0 (s.toks+1+1+1))]:=by
  have:¬(Str.ofString "cells" =Str.ofString "spot"):=by decide
  simp[merged,stored,this]
 have cadA:ca≠dA:=λq=>by rw[q,k3 _ _ (k2 _ _ gD)] at fca;cases fca
 refine k dA ca ws (s.toks+1+1+1) _ (λp o n e=> ?_) ?_ rfl rfl ?_ fD ?_ (Ne.symm cadA) hDg.symm ?_ λc' Z'=>L6 _ _ hws
 ·have:p≠dA:=λq=>by rw[q,fD] at e;cases e
  show h5.get? p=some o
  rw[sb.2 p this]
  exact keep4 _ _ n (k3 _ _ (k2 _ _ (kD _ _ e)))
 ·exact F.ns.at' λo e=>by show h5.get? _=some o;rw[sb.2 _ LD];exact e
 ·exact em▸hm5
 ·cases q:s.heap.get? ca with
  |none=>rfl
  |some o=>rw[k3 _ _ (k2 _ _ (kD _ _ q))] at fca;cases fca
 ·exact⟨cnt,by show h5.get? ca=_;rw[sb.2 ca cadA];exact hca.1⟩
end
theorem Q9:(AU "law").params=[Str.ofString "script"]:=rfl
theorem nam_law:(AU "law").names.lookup (Str.ofString "script")=some .local/\(AU "law").names.lookup (Str.ofString "feed")=some .local/\(AU "law").names.lookup (Str.ofString "list")=some .globalImplicit:=⟨rfl,rfl,rfl⟩
theorem QR:∃k1 k2 k3 k4 p1 p2 p3 p4 p5 p6 p7 p8 p9 p10 p11 p12,(AU "law").body= .Assign [nm "feed" p11] (.Dict [some (.Constant (.str (Str.ofString "cells")) k1 p1),some (.Constant (.str (Str.ofString "spot")) k2 p2)]
 [.Call (nm "list" p3) [.Subscript (nm "script" p4) (.Slice none (some (.Constant (.int 50) k3 p5)) none p6) p7] [] p8,.Constant (.int 0) k4 p9] p10) p12::(AU "law").body.drop 1:=⟨_,_,_,_,_,_,_,_,_,_,_,_,_,_,_,_,rfl⟩
def GK(n:Nat)(script:List Int):Option (Fl×St):=do
 let(f,_,σ)<-Br n ((AU "law").body.drop 1) ⟨(AU "law").names,[(Str.ofString "feed",.d .feed)],[]⟩ (script.take 50,0)
 some (f,σ)
set_option maxHeartbeats 1000000 in
theorem P9{prog:Program}{w:World}{A:Around}{s:Shared}{mg mb:Str->Option Value}{fa la:Addr}{vs:List Value}{is:List Int}{n:Nat}{σ':St}(X:(hd.heap_39 w.params).In s.heap)(hg:s.heap.Ns mainGlobals mg)(hb:s.heap.Ns builtinsNs mb)(hbt:∀x:Str,x≠ "__name__"->mb x=bootBuiltins x)
 (hl:s.heap.NoLimit) (hgens:s.gens= #[]) (hfa:MX (hd.heap_39 w.params) fa "law") (hL:s.heap.IsList la vs.toArray) (hI:IntsAre vs is) (hlen:is.length<=1000) (hA:A.handled=none) (hd1:A.depth+(n+1)<=900) (hd2:A.units+10*(n+1)<=9000)
 (hrun:GK n is=some (.ret (.bool true),σ')) {R:Result->Shared->Prop} (k:∀s',(∀a o,s.heap.get? a=some o->s'.heap.get? a=some o)->s'.gens= #[]->s'.os=s.os->R (.ok (.ret (.bool true))) s'):
 codeAny (model prog w) A (.call (.ref fa) ⟨[.ref la],[]⟩) R s:=by
 obtain⟨hlook,hst,o,fd,ho,hdat,hbody,hnames,hkind,hco,hgen,hpar,hdef,hclo,hglob,hbui,hcd⟩:=hfa
 have hob:=X _ _ ho
 unfold E7 at hst
 simp only[and_eq_true,beq_iff_eq,all_eq_true,or_eq_true] at hst
 obtain⟨⟨hnd,hcons⟩,hpk⟩:=hst
 have hmgl:mg (Str.ofString "list")=none:=mg_none_of X hg rfl
 have hmbl:mb (Str.ofString "list")=some (.type "list"):=(hbt _ (by decide)).trans (by decide+kernel)
 refine codeAny_call_cells (by show A.depth<1000;omega) hob hdat hl (codeRec_of X hcd) hbody (DL (xs:=(AU "law").params) (vals:=[.ref la]) hpar hdef (BF hnd) rfl) hclo (λx hx=> ?_) (λs₁ XC=> ?_) hco hgen hkind
 ·have hx':x.1∈(AU "law").params:=(List.of_mem_zip (a:=x.1) (b:=x.2) hx).1
  rw[Q9] at hx'
  rw[hnames,mem_singleton.mp hx']
  exact .inl nam_law.1
 ·have kE:∀x,(callEnvC fd s.heap.objs.size fa).kindOf x=(AU "law").names.lookup x:=λx=>by show fd.scope.names.lookup x=_;rw[hnames]
  have cE:(callEnvC fd s.heap.objs.size fa).cells=cellsFrom (s.heap.objs.size+1) (AU "law").names []:=by show cellsFrom _ fd.scope.names []=_;rw[hnames]
  have memCell:∀x,(AU "law").names.lookup x=some .cell->(x,NameKind.cell)∈(AU "law").names:=λx e=>mem_of_lookup e
  have dead:∀b,s.heap.objs.size<=b->s.heap.get? b=none:=λb hb=>by
   cases q:s.heap.get? b with
   |none=>rfl
   |some x=>exact absurd (Heap.lt_size q) (Nat.not_lt.mpr hb)
  have Xkeep:=XC.toInCall.keep
  obtain⟨h₁,tk,hs₁⟩:=XC.toInCall.same
  have hms:bindL (callEnvC fd s.heap.objs.size fa).kindOf ((AU "law").params.zip [.ref la]) (λ_=>none) (Str.ofString "script")=some (.ref la):=Gi _ (by rw[kE];exact nam_law.1) _ _ _ (BF hnd) rfl
  have ns1:=XC.toInCall.ns
  have above:=XC.above
  have apart:=XC.apart
  have hcell:=XC.cell
  have hloc:(callEnvC fd s.heap.objs.size fa).locals=s.heap.objs.size:=rfl
  have hgl:(callEnvC fd s.heap.objs.size fa).globals=mainGlobals:=hglob
  have hbu:(callEnvC fd s.heap.objs.size fa).builtins=builtinsNs:=hbui
  have hfn:(callEnvC fd s.heap.objs.size fa).scope.kind= .function:=hkind
  generalize bindL (callEnvC fd s.heap.objs.size fa).kindOf ((AU "law").params.zip [.ref la]) (λ_=>none)=m at hms ns1
  generalize bindC (callEnvC fd s.heap.objs.size fa).kindOf ((AU "law").params.zip [.ref la]) (λ_=>none)=cm at hcell
  clear XC
  generalize callEnvC fd s.heap.objs.size fa=env at*
  have old:∀{a:Addr} {o:Obj},s.heap.get? a=some o->a≠env.locals:=λe q=>by
   rw[q,hloc] at e
   rw[dead _ (Nat.le_refl _)] at e;cases e
  have oldc:∀{a:Addr} {o:Obj},s.heap.get? a=some o->∀x c,(x,c)∈env.cells->a≠c:=λe x c hc q=>by
   have:=above x c hc
   rw[q] at e
   rw[hloc] at this
   rw[dead c (Nat.le_of_lt this)] at e;cases e
  obtain⟨k1,k2,k3,k4,p1,p2,p3,p4,p5,p6,p7,p8,p9,p10,p11,p12,hb1⟩:=QR
  rw[hb1]
  have liveLa:∃o,s.heap.get? la=some o:=let⟨o,e,_⟩:=hL;⟨o,e⟩
  have liveG:∃o,s.heap.get? mainGlobals=some o:=let⟨o,_,_,e,_⟩:=hg;⟨o,e⟩
  have liveB:∃o,s.heap.get? builtinsNs=some o:=let⟨o,_,_,e,_⟩:=hb;⟨o,e⟩
  refine wpAny_execs_cons (wpAny_Assign_Name (NI (c:=⟨prog,w,s.heap,0,s.os,213,290⟩) (m:=m) (mg:=mg) (mb:=mb) rfl rfl hfn (by rw[kE];exact nam_law.1) (by rw[kE];exact nam_law.2.2) ns1 hms (hL.at λo e=>Xkeep _ _ e) hI hlen (let⟨o,e⟩:=liveLa;old e) hgl hbu (hg.keeps Xkeep) hmgl (hb.keeps Xkeep) hmbl (let⟨o,e⟩:=liveG;old e) (let⟨o,e⟩:=liveB;old e) λdA ca ws t s2 kp2 ns2 g2 o2 dd fdA fca dne hdsz pl rws=> ?_) rfl)
  refine wpAny_storeName_local (by rw[kE];exact nam_law.2.1) ns2 (λh3 ns3 sb3=> ?_) (by rw[hfn];rfl)
  have keep3:∀a o,a≠env.locals->s₁.heap.get? a=some o->h3.get? a=some o:=λa o n e=>by rw[sb3.2 a n];exact kp2 a o n e
  have locD:env.locals≠dA:=λq=>by
   obtain⟨o,_,_,e,_⟩:=ns1
   rw[q,fdA] at e;cases e
  have locC:env.locals≠ca:=λq=>by
   obtain⟨o,_,_,e,_⟩:=ns1
   rw[q,fca] at e;cases e
  have dAs:s₁.heap.get? dA=none:=fdA
  generalize hsa:env.locals::dA::(env.cells.filterMap λp=>env.cells.lookup p.1)=hide
  have inHide:∀b,b∈hide->b=env.locals\/b=dA\/∃x,env.cells.lookup x=some b:=λb hm=>by
   rw[<-hsa] at hm
   rcases mem_cons.mp hm with q|hm
   ·exact .inl q
   ·rcases mem_cons.mp hm with q|hm
    ·exact .inr (.inl q)
    ·obtain⟨p,_,q⟩:=List.mem_filterMap.mp hm
     exact .inr (.inr ⟨_,q⟩)
  have hideL:env.locals∈hide:=by rw[<-hsa];simp
  have hideD:dA∈hide:=by rw[<-hsa];simp
  have hideX:∀x b,env.cells.lookup x=some b->b∈hide:=λx b e=>by
   rw[<-hsa]
   exact mem_cons_of_mem _ (mem_cons_of_mem _ (List.mem_filterMap.mpr ⟨(x,b),mem_of_lookup e,e⟩))
  have cellNL:∀x b,env.cells.lookup x=some b->b≠env.locals:=λx b e q=>by
   have:=above x b (mem_of_lookup e)
   rw[q] at this;exact absurd this (Nat.lt_irrefl _)
  have cell3:∀x b,env.cells.lookup x=some b->h3.IsCell b (cm x):=λx b e=>by
   obtain⟨o,h1,h2⟩:=hcell x b e
   exact⟨o,keep3 _ _ (cellNL x b e) h1,h2⟩
  have h0keep:∀a o,s.heap.get? a=some o->(F9 {s2 with heap:=h3,toks:=s2.toks+1} hide).heap.get? a=some o:=λa o e=>by
   refine Dv (keep3 a o (old e) (Xkeep a o e)) λhm=> ?_
   rcases inHide a hm with q|q|⟨x,q⟩
   ·exact old e q
   ·have:=Xkeep a o e
    rw[q,fdA] at this;cases this
   ·exact oldc e x a (mem_of_lookup q) rfl
  have hidNone:∀b∈hide,(F9 {s2 with heap:=h3,toks:=s2.toks+1} hide).heap.get? b=none:=λb hb=>by
   cases q:(F9 {s2 with heap:=h3,toks:=s2.toks+1} hide).heap.get? b with
   |none=>rfl
   |some o=>exact absurd hb (E5 q).2
  have caHide:ca∉hide:=λhm=>by
   rcases inHide ca hm with q|q|⟨x,q⟩
   ·exact locC q.symm
   ·exact dne q.symm
   ·obtain⟨o,h1,_⟩:=hcell x ca q
    rw[fca] at h1;cases h1
  obtain⟨qn,plo⟩:=pl
  have ca3:h3.get? ca=some {cls:= .type "list",data:= .seq ws.toArray qn}:=by rw[sb3.2 ca (Ne.symm locC)];exact plo
  have dd3:h3.DictOf (AV prog w) dA [(.s (Str.ofString "cells"),.ref ca),(.s (Str.ofString "spot"),.int 0 t)]:=by
   obtain⟨o,es,ep,e,r⟩:=dd
   exact⟨o,es,ep,by rw[sb3.2 dA (Ne.symm locD)];exact e,r⟩
  have X0:(hd.heap_39 w.params).In (F9 {s2 with heap:=h3,toks:=s2.toks+1} hide).heap:=λa o e=>h0keep a o (X a o e)
  have hbig:sysModules<s.heap.objs.size:=modules_low hl
  have g3:s2.gens= #[]:=by rw[g2,hs₁];exact hgens
  have os3:s2.os=s.os:=by rw[o2,hs₁]
  have h0of:∀a o,(F9 {s2 with heap:=h3,toks:=s2.toks+1} hide).heap.get? a=some o->h3.get? a=some o:=λa o e=>(E5 e).1
  have ca0:(F9 {s2 with heap:=h3,toks:=s2.toks+1} hide).heap.get? ca=some {cls:= .type "list",data:= .seq ws.toArray qn}:=Dv ca3 caHide
  have dAbig:sysModules<dA:=by
   rw[hdsz]
   exact modules_low (hl.keeps Xkeep)
  generalize (F9 {s2 with heap:=h3,toks:=s2.toks+1} hide).heap=h₀ at h0keep hidNone X0 h0of ca0
  have T:TopOk ⟨prog,w,h₀,dA,s.os,213,290⟩ (hd.heap_39 w.params):=TQ (c:=⟨prog,w,h₀,dA,s.os,213,290⟩) X0 (hg.keeps h0keep) (hb.keeps h0keep) hbt (hl.keeps h0keep) rfl rfl
  have Rl:Rel ⟨prog,w,h₀,dA,s.os,213,290⟩ env ⟨(AU "law").names,[(Str.ofString "feed",.d .feed)],[]⟩ (is.take 50,0) (λa=>h₀.get? a) (λ_=>none) (λ_=>none) {s2 with heap:=h3,toks:=s2.toks+1}:=by
   have free:∀b∈hide,b≠dA->Dp ⟨prog,w,h₀,dA,s.os,213,290⟩ (λa=>h₀.get? a) (λ_=>none) b:=λb hb n=>⟨hidNone b hb,rfl,n⟩
   have cellND:∀x b,env.cells.lookup x=some b->b≠dA:=λx b e q=>by
    obtain⟨o,h1,_⟩:=hcell x b e
    rw[q,fdA] at h1;cases h1
   refine⟨h0of,λa o e=>(nomatch e),λa o e=>rfl,λa o e=>e,⟨Nat.ne_of_gt dAbig,.ref ca,t,dd3,?_,ca,_,rfl,ca0⟩,⟨hidNone dA hideD,rfl⟩,g3,os3,λx=> ?_,hfn,hgl,hbu,_,λ_=>[],ns3,free _ hideL locD,λx hx=> ?_,λx y b hx hy h1 h2=>name_of_addr apart (mem_of_lookup h1) (mem_of_lookup h2),λx V hV=> ?_,λ_ _=>rfl,λx b hb=>(nomatch hb),λx y b hb=>(nomatch hb),λx v hv=>(nomatch hv),λx b hb=> ?_⟩
   ·rw[Rep]
    exact⟨ca,ws,rfl,⟨qn,ca0⟩,rws _ _⟩
   ·rw[kE]
    show JL ((AU "law").names.lookup x) ((AU "law").names.lookup x)
    cases(AU "law").names.lookup x with
    |none=>rfl
    |some k=>cases k<;>first|rfl|exact .inl rfl
   ·have hx':(AU "law").names.lookup x=some .cell:=hx
    obtain⟨b,hb⟩:=B5 (AU "law").names (s.heap.objs.size+1) [] (memCell _ hx')
    obtain⟨b',hb'⟩:=BQ _ hb
    rw[<-cE] at hb'
    exact⟨b',_,hb',cell3 x b' hb',free b' (hideX x b' hb') (cellND x b' hb'),cellNL x b' hb'⟩
   ·have hkk:Ev.kind ⟨(AU "law").names,[(Str.ofString "feed",.d .feed)],[]⟩ x=(AU "law").names.lookup x:=rfl
    unfold Ev.get at hV
    rw[hkk] at hV
    split at hV
    ·rename_i hkx
     rw[lookup_cons] at hV
     split at hV
     ·rename_i hxe
      have hxe':=eq_of_beq hxe
      subst hxe'
      cases hV
      refine⟨.ref dA,?_,rfl,by rw[Rep]⟩
      rw[hkk,hkx]
      show(if Str.ofString "feed" =Str.ofString "feed" then some (Value.ref dA) else m _)=_
      rw[if_pos rfl]
     ·simp at hV
    ·simp at hV
    ·simp at hV
    ·cases hV
   ·rw[cE] at hb
    refine .inl ?_
    show(AU "law").names.lookup x=_
    rcases C6 (AU "law").names _ _ (mem_of_lookup hb) with h|h
    ·exact(nomatch h)
    ·exact hcons _ h
  have S:=KZ T (SG T) (S4 T) (S9 T) n n (Nat.le_refl _)
  unfold GK at hrun
  simp only[bind_eq_bind,bind_eq_some_iff] at hrun
  obtain⟨⟨f,ρ',σ2⟩,hev,hrun⟩:=hrun
  cases hrun
  have rm:Room (n+1) A:=⟨hA,hd1,hd2⟩
  refine S.Ss hev (A.deeper env) env _ _ {s2 with heap:=h3,toks:=s2.toks+1} (rm.deeper env) Rl _ _ λfl Z' s' le R' fr=> ?_
  obtain⟨v,rfl,rv⟩:=fr
  rw[Rep] at rv
  subst rv
  exact k s' (λa o e=>R'.zh a o (le _ _ (h0keep a o e))) R'.gens R'.os
theorem RS(P:Params):MX (hd.heap_39 P) 379 "law" :=⟨rfl,rfl,_,_,rfl,rfl,rfl,rfl,rfl,rfl,rfl,⟨rfl,rfl,rfl,rfl,rfl⟩,rfl,rfl,rfl,rfl,rfl⟩
set_option maxHeartbeats 8000000 in
theorem fin_of(plain:∀is:List Int,is.length<=63->∃n σ',n<=500/\GK n is=some (.ret (.bool true),σ')):PySem.Challenge.rw_nz0389_01.Holds:=hd (by
 k_fill
 intro w s₀ s₁ mg mb G Y fa o pm cd doc dV kV ho hdt hcd hD hmg hg args vals as hpre hlay hrd hwl hlo
 have KX:=kIn_of Y
 refine Ground.open G ?_
 intro T B D TE TW
 try (refine guard_noD D (by decide+kernel) ?_;clear D)
 have efa:=mg_of (v:= .ref 379) KX T.g (n:=Str.ofString "law") rfl
 have hfa0:=hmg
 clear hD hcd hdt
 wrow_args hpre hlay hrd hwl hlo
 all_goals first|refine callC_kw (enter_call ?_)|refine enter_call ?_
 all_goals try refine codeAny_mono ?_ (λ_ _ g=>GoodW.toG g)
 rename_i is _ _ _ _ _ _ _ la vs _ hL _ _ _ hI _ hlen _
 have hfe:(some (Value.ref fa))=some (Value.ref 379):=hmg.symm.trans efa
 cases hfe
 obtain⟨n,σ',hn,hrun⟩:=plain is (by omega)
 have dp:callerA.depth<=310:=by decide
 have un:callerA.units<=100:=by decide
 refine P9 KX T.g T.b T.builtins T.nolimit hg (RS _) hL hI (by omega) rfl (by omega) (by omega) hrun λs' keep gs os=> ?_
 exact⟨.inl ⟨.bool true,_,[],rfl,λ_=>rfl,.bool true,by kernel_rfl,λ_=>⟨.nil,λ_ h=>nomatch h⟩⟩,keep,os,gs⟩)
end Nz
namespace Nz
open PySem
open List (mem_range map_cons mem_cons mem_cons_of_mem mem_cons_self cons_append size_toArray append_nil any_cons nodup_cons all_eq_true zip_cons_cons mem_filter length_map getElem?_eq_getElem mem_map mem_append mem_singleton lookup_cons length_cons map_take filterMap_cons map_map nodup_nil length_nil map_nil map_append length_append flatMap_cons length_filter_le)
open Nat (zero_le le_succ le_max_left le_max_right)
open Bool (and_eq_true false_eq_true or_eq_true not_eq_true')
open Option (map_eq_some_iff bind_eq_bind bind_eq_some_iff getD_some bind_some map_some)
section
variable {n:Nat}{ρ ρ₁ ρ₂ ρ₃ ρ₄:Ev}{σ σ₁ σ₂ σ₃ σ₄:St}{p pos:Pos}{d d₁ d₂:D}{e l r:Expr}{X:D×Ev×St}
theorem JP{k:Nat}:Aq (n+1) (.Constant .none k p) ρ σ=some (.none,ρ,σ):=by simp only[Aq]
theorem Dm{b:Bool}{k:Nat}:Aq (n+1) (.Constant (.bool b) k p) ρ σ=some (.bool b,ρ,σ):=by simp only[Aq]
theorem AG{i:Int}{k:Nat}:Aq (n+1) (.Constant (.int i) k p) ρ σ=some (.int i,ρ,σ):=by simp only[Aq]
theorem AY{s:Str}{k:Nat}:Aq (n+1) (.Constant (.str s) k p) ρ σ=some (.str s,ρ,σ):=by simp only[Aq]
def Jx(ρ:Ev)(x:Str):Option (D×Ev):=if Ao ρ x then(L8 x).map (·,ρ) else if BE x then none else match ρ.get x with
 |some (.d d)=>some (d,ρ)
 |some v=>(ρ.set x (.d v.frz)).map (v.frz,·)
 |none=>none
theorem AA{x:Str}(h:Jx ρ x=some (d,ρ₁)):Aq (n+1) (.Name x p) ρ σ=some (d,ρ₁,σ):=by
 unfold Jx at h
 simp only[Aq]
 split at h
 ·rename_i hg
  rw[if_pos hg]
  cases q:L8 x with
  |none=>rw[q] at h;cases h
  |some y=>rw[q] at h;cases h;rfl
 ·rename_i hg
  rw[if_neg hg]
  split at h
  ·cases h
  ·rename_i hb
   rw[if_neg hb]
   cases q:ρ.get x with
   |none=>rw[q] at h;cases h
   |some v=>
    rw[q] at h
    cases v with
    |d y=>cases h;rfl
    |ownL xs=>dsimp only at h⊢;cases q2:ρ.set x (.d (V.frz (.ownL xs)))<;>rw[q2] at h<;>cases h;simp[q2]
    |ownD xs=>dsimp only at h⊢;cases q2:ρ.set x (.d (V.frz (.ownD xs)))<;>rw[q2] at h<;>cases h;simp[q2]
    |ownDL xs=>dsimp only at h⊢;cases q2:ρ.set x (.d (V.frz (.ownDL xs)))<;>rw[q2] at h<;>cases h;simp[q2]
    |ownB u b m=>dsimp only at h⊢;cases q2:ρ.set x (.d (V.frz (.ownB u b m)))<;>rw[q2] at h<;>cases h;simp[q2]
theorem Ak{op:Operator}(h1:Aq n l ρ σ=some (d₁,ρ₁,σ₁))(h2:Aq n r ρ₁ σ₁=some (d₂,ρ₂,σ₂))(h3:CN op d₁ d₂=some d):Aq (n+1) (.BinOp l op r pos) ρ σ=some (d,ρ₂,σ₂):=by
 simp only[Aq,h1,h2,h3,bind_eq_bind,bind_some]
theorem CI{i:Int}{k:Nat}:Aq (n+1) (.UnaryOp .USub (.Constant (.int i) k p) pos) ρ σ=some (.int (-i),ρ,σ):=by simp only[Aq]
theorem Bm{t b o:Expr}{c:Bool}(h1:Ed n t ρ σ=some (c,ρ₁,σ₁))(h2:Aq n (if c then b else o) ρ₁ σ₁=some X):Aq (n+1) (.IfExp t b o pos) ρ σ=some X:=by
 simp only[Aq,h1,bind_eq_bind,bind_some]
 cases c<;>simpa using h2
theorem Hu{op:CmpOp}{c:Bool}(h1:Aq n l ρ σ=some (d₁,ρ₁,σ₁))(h2:Aq n r ρ₁ σ₁=some (d₂,ρ₂,σ₂))(h3:Av op d₁ d₂=some c):Aq (n+1) (.Compare l [op] [r] pos) ρ σ=some (.bool c,ρ₂,σ₂):=by
 simp only[Aq,h1,h2,h3,bind_eq_bind,bind_some]
theorem Aj{es:List Expr}{k:Nat}{ds:List D}(h1:Hn n es ρ σ=some (ds,ρ₁,σ₁))(h2:ds.length<=100000):Aq (n+1) (.Tuple es k pos) ρ σ=some (.tup ds,ρ₁,σ₁):=by
 simp only[Aq,h1,bind_eq_bind,bind_some,if_pos h2]
theorem BU{es:List Expr}{ds:List D}(h1:Hn n es ρ σ=some (ds,ρ₁,σ₁))(h2:ds.length<=100000):Aq (n+1) (.List es pos) ρ σ=some (.list ds,ρ₁,σ₁):=by
 simp only[Aq,h1,bind_eq_bind,bind_some,if_pos h2]
theorem Qf{ks:List (Option Expr)}{vs:List Expr}{es:List (Key×D)}(h0:(ks.isEmpty||decide (15<ks.length))=false)(h1:N1 n ks vs ρ σ=some (es,ρ₁,σ₁)):Aq (n+1) (.Dict ks vs pos) ρ σ=some (.dict (es.foldl (λacc p=>B9 p.1 p.2 acc) []),ρ₁,σ₁):=by
 simp only[Aq,h0,h1,bind_eq_bind,bind_some,false_eq_true,if_false]
theorem FC{a:Str}(h0:Bp e=true)(h1:Aq n e ρ σ=some (d₁,ρ₁,σ₁))(h2:MU d₁ a=some d):Aq (n+1) (.Attribute e a pos) ρ σ=some (d,ρ₁,σ₁):=by
 simp only[Aq,h0,h1,h2,bind_eq_bind,bind_some,Bool.not_true,false_eq_true,if_false]
theorem CZ{lo hi st:Option Expr}{a b c:D}(h0:Aq n e ρ σ=some (d₁,ρ₁,σ₁))(h1:Kt n lo ρ₁ σ₁=some (a,ρ₂,σ₂))(h2:Kt n hi ρ₂ σ₂=some (b,ρ₃,σ₃))(h3:Kt n st ρ₃ σ₃=some (c,ρ₄,σ₄))(h4:Bo d₁ a b c=some d):
 Aq (n+1) (.Subscript e (.Slice lo hi st p) pos) ρ σ=some (d,ρ₄,σ₄):=by
 simp only[Aq,h0,h1,h2,h3,h4,bind_eq_bind,bind_some]
def D7:Expr->Bool
 | .Slice .. =>false
 |_=>true
theorem Qe{i:Expr}{es:List (Key×D)}{k:D}(hs:D7 i=true)(h1:Ft ρ e i=some (es,k))(h2:Al (.dict es) k=some d):Aq (n+1) (.Subscript e i pos) ρ σ=some (d,ρ,σ):=by
 cases i<;>simp only[D7,false_eq_true] at hs<;>simp only[Aq,h1,h2,map_some]
theorem A6{i:Expr}{k:D}(hs:D7 i=true)(h0:Ft ρ e i=none)(h1:Aq n e ρ σ=some (d₁,ρ₁,σ₁))(h2:Aq n i ρ₁ σ₁=some (k,ρ₂,σ₂))(hf:(match d₁ with| .feed=>false|_=>true)=true)(h3:Al d₁ k=some d):Aq (n+1) (.Subscript e i pos) ρ σ=some (d,ρ₂,σ₂):=by
 cases i<;>simp only[D7,false_eq_true] at hs<;>simp only[Aq,h0,h1,h2,bind_eq_bind,bind_some]<;>cases d₁<;>simp only[false_eq_true] at hf<;>simp only[h3,bind_some]
theorem HT{i:Expr}{k:D}(hs:D7 i=true)(h0:Ft ρ e i=none)(h1:Aq n e ρ σ=some (.feed,ρ₁,σ₁))(h2:Aq n i ρ₁ σ₁=some (k,ρ₂,σ₂))(h3:Hk k σ₂=some d):Aq (n+1) (.Subscript e i pos) ρ σ=some (d,ρ₂,σ₂):=by
 cases i<;>simp only[D7,false_eq_true] at hs<;>simp only[Aq,h0,h1,h2,h3,bind_eq_bind,bind_some]
theorem Ar{g:Comprehension}{gs:List Comprehension}{scope:Scope}{xs ys:List D}{ρe:Ev}(h0:(F2 scope (g::gs)&&Df scope.names ρ)=true)(h1:FQ n g.iter ρ σ=some (xs,ρ₁,σ₁))(h2:Df scope.names ρ₁=true)
 (h3:CW (λd (s:Ev×St)=>Ja n g gs e d s.1 s.2) xs (⟨scope.names,[],CX scope.names (BR scope.names ρ₁.cel)⟩,σ₁)=some (ys,ρe,σ₂)) (h4:ys.length<=100000):
 Aq (n+1) (.ListComp e (g::gs) scope pos) ρ σ=some (.list ys,{ρ₁ with cel:=BR scope.names ρ₁.cel},σ₂):=by
 simp only[Aq,h0,h1,h2,h3,if_pos h4,bind_eq_bind,bind_some,Bool.not_true,false_eq_true,if_false]
def Pr(ρ:Ev)(f:Str)(args:List Expr):Bool:=match(if f=Str.ofString "sorted" then args else []) with
 |[.Call (.Name g _) [_] [] _]=>Ao ρ g&& !(g==Str.ofString "set")
 |_=>true
theorem AE{f:Str}{args:List Expr}(hg:Ao ρ f=true)(hi:(f==Str.ofString "isinstance")=false)(hs:Pr ρ f args=true)(h:C1 n f args ρ σ=some X):Aq (n+1) (.Call (.Name f p) args [] pos) ρ σ=some X:=by
 have hi':¬(f=Str.ofString "isinstance"):=by simpa using hi
 simp only[Aq,hg,Bool.not_true,false_eq_true,if_false,if_neg hi']
 unfold Pr at hs
 split at hs
 ·rename_i hq
  simp only[and_eq_true,not_eq_true',beq_eq_false_iff_ne,ne_eq] at hs
  try rw[hq]
  simp only[hs.1,if_true,if_neg hs.2]
  exact h
 ·rename_i hx
  first
   |exact h
   |(split
     ·rename_i hy
      exact absurd hy (hx _ _ _ _)
     ·exact h)
theorem FB{f g:Str}{p1 p2:Pos}{xs ys:List D}(hg:Ao ρ f=true)(hf:f=Str.ofString "sorted")(hg2:Ao ρ g=true)(hs:g=Str.ofString "set")(h:Aq n e ρ σ=some (d,ρ₁,σ₁))(h1:NZ d=some xs)(h2:DZ xs=some ys):
 Aq (n+1) (.Call (.Name f p) [.Call (.Name g p1) [e] [] p2] [] pos) ρ σ=some (.list ys,ρ₁,σ₁):=by
 subst hf hs
 have hi':¬(Str.ofString "sorted" =Str.ofString "isinstance"):=by decide
 simp only[Aq,hg,hg2,Bool.not_true,false_eq_true,if_false,if_neg hi',if_true,h,h1,h2,bind_eq_bind,bind_some]
theorem BJ{f:Str}{args:List Expr}{as:List D}{b:String}(hA:Ku n args ρ σ=some (as,false,ρ₁,σ₁))(hu:(f==Str.ofString "Universe")=false)(hb:PA f=some b)(hv:Ag b as=some d):C1 (n+1) f args ρ σ=some (d,ρ₁,σ₁):=by
 have hu':¬(f=Str.ofString "Universe"):=by simpa using hu
 simp only[C1,hA,bind_eq_bind,bind_some,if_neg hu',hb,false_eq_true,if_false,hv]
theorem AN{f:Str}{args:List Expr}{as:List D}{bo:Bool}(hA:Ku n args ρ σ=some (as,bo,ρ₁,σ₁))(hu:(f==Str.ofString "Universe")=false)(hb:PA f=none)(ht:L1 f=true)(hc:AQ n f as σ₁=some (d,σ₂))(hd:(bo&& !d.dictFree)=false):
 C1 (n+1) f args ρ σ=some (d,ρ₁,σ₂):=by
 have hu':¬(f=Str.ofString "Universe"):=by simpa using hu
 simp only[C1,hA,bind_eq_bind,bind_some,if_neg hu',hb,ht,Bool.not_true,false_eq_true,if_false,hc,hd]
theorem UA{f:Str}{args:List Expr}{bo:Bool}(hA:Ku n args ρ σ=some ([d₁],bo,ρ₁,σ₁))(hu:f=Str.ofString "Universe")(h:GD d₁=some d):C1 (n+1) f args ρ σ=some (d,ρ₁,σ₁):=by
 subst hu
 simp only[C1,hA,bind_eq_bind,bind_some,if_true,h,map_some]
theorem T9{args:List Expr}{m:Str}{ap:Pos}{es:List (Key×D)}{k dflt:D}{key:Key}(h0:(Bp e&&ap.endLine==pos.line&&decide (args.length<30))=true)(h1:Aq n e ρ σ=some (.dict es,ρ₁,σ₁))(h2:Hn n args ρ₁ σ₁=some ([k,dflt],ρ₂,σ₂))(hm:m=Str.ofString "get")(hk:EA k=some key):
 Aq (n+1) (.Call (.Attribute e m ap) args [] pos) ρ σ=some ((Af key es).getD dflt,ρ₂,σ₂):=by
 subst hm
 simp only[Aq,h0,h1,h2,hk,Bool.not_true,false_eq_true,if_false,bind_eq_bind,bind_some,if_true]
theorem F8{args:List Expr}{m f:Str}{ap:Pos}{as:List D}(h0:(Bp e&&ap.endLine==pos.line&&decide (args.length<30))=true)(h1:Aq n e ρ σ=some (d₁,ρ₁,σ₁))(h2:Hn n args ρ₁ σ₁=some (as,ρ₂,σ₂))(hm:HA d₁ m=some f)(hc:AQ n f (d₁::as) σ₂=some (d,σ₃)):
 Aq (n+1) (.Call (.Attribute e m ap) args [] pos) ρ σ=some (d,ρ₂,σ₃):=by
 simp only[Aq,h0,h1,h2,Bool.not_true,false_eq_true,if_false,bind_eq_bind,bind_some]
 cases d₁<;>simp only[HA,reduceCtorEq] at hm<;>simp only[HA,hm,bind_some,hc]
theorem AR:Hn (n+1) [] ρ σ=some ([],ρ,σ):=by simp only[Hn]
theorem AF{es:List Expr}{ds:List D}(hs:(match e with| .Starred .. =>false|_=>true)=true)(h1:Aq n e ρ σ=some (d,ρ₁,σ₁))(h2:Hn n es ρ₁ σ₁=some (ds,ρ₂,σ₂)):Hn (n+1) (e::es) ρ σ=some (d::ds,ρ₂,σ₂):=by
 cases e<;>simp only[false_eq_true] at hs<;>simp only[Hn,h1,h2,bind_eq_bind,bind_some]
theorem AH:Ku (n+1) [] ρ σ=some ([],false,ρ,σ):=by simp only[Ku]
def Pt(ρ:Ev)(e:Expr):Bool:=match e with
 | .Starred .. =>false
 | .Name x _=>(match ρ.get x with|some (.ownD _)=>false|_=>true)
 |_=>true
theorem AB{es:List Expr}{ds:List D}{b:Bool}(hs:Pt ρ e=true)(h1:Aq n e ρ σ=some (d,ρ₁,σ₁))(h2:Ku n es ρ₁ σ₁=some (ds,b,ρ₂,σ₂)):Ku (n+1) (e::es) ρ σ=some (d::ds,b,ρ₂,σ₂):=by
 unfold Pt at hs
 cases e
 case Starred=>simp only[false_eq_true] at hs
 case Name x q=>
  dsimp only at hs
  simp only[Ku]
  split
  ·rename_i es' q;rw[q] at hs;cases hs
  ·simp only[h1,h2,bind_eq_bind,bind_some]
 all_goals simp only[Ku,h1,h2,bind_eq_bind,bind_some]
theorem Qi{x:Str}{es:List (Key×D)}(h0:ρ.get x=some (.ownD es))(h1:(Ao ρ x||BE x)=false):Ku (n+1) [.Name x p] ρ σ=some ([.dict es],true,ρ,σ):=by
 simp only[Ku,h0,h1,false_eq_true,if_false]
theorem N9:N1 (n+1) [] [] ρ σ=some ([],ρ,σ):=by simp only[N1]
theorem C3{ks:List (Option Expr)}{vs:List Expr}{k v:Expr}{a:D}{key:Key}{es:List (Key×D)}(h1:Aq n k ρ σ=some (a,ρ₁,σ₁))(hk:EA a=some key)(h2:Aq n v ρ₁ σ₁=some (d,ρ₂,σ₂))(h3:N1 n ks vs ρ₂ σ₂=some (es,ρ₃,σ₃)):N1 (n+1) (some k::ks) (v::vs) ρ σ=some ((key,d)::es,ρ₃,σ₃):=by
 simp only[N1,h1,hk,h2,h3,bind_eq_bind,bind_some]
theorem Be:Kt (n+1) none ρ σ=some (.none,ρ,σ):=by simp only[Kt]
theorem DM(h:Aq n e ρ σ=some X):Kt (n+1) (some e) ρ σ=some X:=by simp only[Kt,h]
end
section
variable {n:Nat}{ρ ρ₁ ρ₂ ρ₃ ρ₄:Ev}{σ σ₁ σ₂ σ₃ σ₄:St}{p pos:Pos}{d d₁ d₂ d₃:D}{e l r:Expr}{X:D×Ev×St}
theorem JK{b:Bool}(h:Ed n e ρ σ=some (b,ρ₁,σ₁)):Ed (n+1) (.UnaryOp .Not e pos) ρ σ=some (!b,ρ₁,σ₁):=by
 simp only[Ed,h,bind_eq_bind,bind_some]
theorem C2{op:BoolOp}{vs:List Expr}{Y:Bool×Ev×St}(h:MH n op vs ρ σ=some Y):Ed (n+1) (.BoolOp op vs pos) ρ σ=some Y:=by simp only[Ed,h]
theorem AJ{op:CmpOp}{c:Bool}(h1:Aq n l ρ σ=some (d₁,ρ₁,σ₁))(h2:Aq n r ρ₁ σ₁=some (d₂,ρ₂,σ₂))(h3:Av op d₁ d₂=some c):Ed (n+1) (.Compare l [op] [r] pos) ρ σ=some (c,ρ₂,σ₂):=by
 simp only[Ed,h1,h2,h3,bind_eq_bind,bind_some]
theorem TB{op₁ op₂:CmpOp}{r₁ r₂:Expr}{c:Bool}(h1:Aq n l ρ σ=some (d₁,ρ₁,σ₁))(h2:Aq n r₁ ρ₁ σ₁=some (d₂,ρ₂,σ₂))(h3:Av op₁ d₁ d₂=some true)(h4:Aq n r₂ ρ₂ σ₂=some (d₃,ρ₃,σ₃))(h5:Av op₂ d₂ d₃=some c):
 Ed (n+1) (.Compare l [op₁,op₂] [r₁,r₂] pos) ρ σ=some (c,ρ₃,σ₃):=by
 simp only[Ed,h1,h2,h3,h4,h5,bind_eq_bind,bind_some,if_true]
def Mq:Expr->Bool
 | .UnaryOp .Not .. =>false
 | .BoolOp .. =>false
 | .IfExp .. =>false
 | .Compare .. =>false
 |_=>true
theorem Cz{b:Bool}(hp:Mq e=true)(h:Aq n e ρ σ=some (.bool b,ρ₁,σ₁)):Ed (n+1) e ρ σ=some (b,ρ₁,σ₁):=by
 cases e
 case UnaryOp op _ _=>cases op<;>simp only[Mq,false_eq_true] at hp<;>simp only[Ed,h,Gs,bind_eq_bind,bind_some]
 all_goals first|(simp only[Mq,false_eq_true] at hp;done)|simp only[Ed,h,Gs,bind_eq_bind,bind_some]
theorem Fd{op:BoolOp}:MH (n+1) op [] ρ σ=some (op== .And,ρ,σ):=by simp only[MH]
theorem OD{es:List Expr}{b c:Bool}(h1:Ed n e ρ σ=some (b,ρ₁,σ₁))(h2:b=true->MH n .And es ρ₁ σ₁=some (c,ρ₂,σ₂))(h3:b=false->c=false/\ρ₂=ρ₁/\σ₂=σ₁):MH (n+1) .And (e::es) ρ σ=some (c,ρ₂,σ₂):=by
 cases b with
 |true=>simp only[MH,h1,h2 rfl,bind_eq_bind,bind_some]
 |false=>obtain⟨rfl,rfl,rfl⟩:=h3 rfl;simp only[MH,h1,bind_eq_bind,bind_some]
theorem Dn{es:List Expr}{b c:Bool}(h1:Ed n e ρ σ=some (b,ρ₁,σ₁))(h2:b=false->MH n .Or es ρ₁ σ₁=some (c,ρ₂,σ₂))(h3:b=true->c=true/\ρ₂=ρ₁/\σ₂=σ₁):MH (n+1) .Or (e::es) ρ σ=some (c,ρ₂,σ₂):=by
 cases b with
 |false=>simp only[MH,h1,h2 rfl,bind_eq_bind,bind_some]
 |true=>obtain⟨rfl,rfl,rfl⟩:=h3 rfl;simp only[MH,h1,bind_eq_bind,bind_some]
theorem HS:Hy (n+1) [] ρ σ=some (true,ρ,σ):=by simp only[Hy]
theorem By{b:Bool}(h:Ed n e ρ σ=some (b,ρ₁,σ₁)):Hy (n+1) [e] ρ σ=some (b,ρ₁,σ₁):=by simp only[Hy,h]
def Ni(e:Expr):Bool:=match(match e with
 | .Call (.Name f _) [x] [] _=>if f=Str.ofString "enumerate" then some (f,x) else none
 |_=>none:Option (Str×Expr)) with
 |some _=>false
 |none=>true
theorem AT{xs:List D}(h0:Ni e=true)(h1:Aq n e ρ σ=some (d,ρ₁,σ₁))(h2:FV d=some xs):FQ (n+1) e ρ σ=some (xs,ρ₁,σ₁):=by
 unfold Ni at h0
 unfold FQ
 split at h0
 ·cases h0
 ·rename_i hq
  split
  ·rename_i hx;exact absurd (hq.symm.trans hx) (λq=>nomatch q)
  ·simp only[h1,h2,bind_eq_bind,bind_some]
theorem TD{f:Str}{p1 p2:Pos}{xs:List D}(hf:f=Str.ofString "enumerate")(hg:Ao ρ f=true)(h1:Aq n e ρ σ=some (.list xs,ρ₁,σ₁)):FQ (n+1) (.Call (.Name f p1) [e] [] p2) ρ σ=some (Dy 0 xs,ρ₁,σ₁):=by
 subst hf
 simp only[FQ,if_true,hg,h1,bind_eq_bind,bind_some]
theorem Bz{g:Comprehension}{b:Bool}{y:D}(ha:(g.is_async !=0|| !Ek g.target g.iter)=false)(h1:JR g.target d ρ=some ρ₁)(h2:Hy n g.ifs ρ₁ σ=some (b,ρ₂,σ))(h3:b=true->Aq n e ρ₂ σ=some (y,ρ₃,σ))(h4:ρ.back ρ₂=ρ)(h5:ρ.back ρ₃=ρ):
 Ja (n+1) g [] e d ρ σ=some (if b then [y] else [],ρ,σ):=by
 cases b with
 |true=>simp only[Ja,ha,h1,h2,h3 rfl,h5,bind_eq_bind,bind_some,false_eq_true,if_false,Bool.not_true,if_true]
 |false=>simp only[Ja,ha,h1,h2,h4,bind_eq_bind,bind_some,false_eq_true,if_false,Bool.not_false,if_true]
theorem JM{g g':Comprehension}{gs:List Comprehension}{xs ys:List D}(ha:(g.is_async !=0|| !Ek g.target g.iter)=false)(h1:JR g.target d ρ=some ρ₁)(h2:Hy n g.ifs ρ₁ σ=some (true,ρ₂,σ))(h3:FQ n g'.iter ρ₂ σ=some (xs,ρ₃,σ))
 (h4:CW (λd (s:Ev×St)=>Ja n g' gs e d s.1 s.2) xs (ρ₃,σ)=some (ys,ρ₄,σ)) (h5:ρ.back ρ₄=ρ):Ja (n+1) g (g'::gs) e d ρ σ=some (ys,ρ,σ):=by
 simp only[Ja,ha,h1,h2,h3,h4,h5,bind_eq_bind,bind_some,false_eq_true,if_false,Bool.not_true]
theorem DC{α S:Type}{f:D->S->Option (List D×S)}{s:S}{φ:α->D}{g:α->List D}:∀(l:List α),(∀a∈l,f (φ a) s=some (g a,s))->CW f (l.map φ) s=some (l.flatMap g,s)
 |[],_=>rfl
 |a::l,h=>by
  rw[map_cons]
  unfold CW
  rw[h a (mem_cons_self ..)]
  simp only[bind_eq_bind,bind_some,DC l λb hb=>h b (mem_cons_of_mem _ hb),flatMap_cons]
theorem Iz{α β:Type}(b:α->Bool)(f:α->β):∀(l:List α),(l.flatMap λa=>if b a then [f a] else [])=(l.filter b).map f
 |[]=>rfl
 |a::l=>by
  rw[flatMap_cons,Iz b f l,List.filter_cons]
  cases b a<;>rfl
theorem DD{α S:Type}{f:D->S->Option (List D×S)}{s:S}{φ:α->D}(b:α->Bool)(ψ:α->D)(l:List α)(h:∀a∈l,f (φ a) s=some (if b a then [ψ a] else [],s)):CW f (l.map φ) s=some ((l.filter b).map ψ,s):=by
 rw[DC (g:=λa=>if b a then [ψ a] else []) l h,Iz]
variable {V:V}{Vs:List Nz.V}
def Sc:Expr->Bool
 | .List [] _=>false
 | .Dict [] [] _=>false
 | .Call (.Name _ _) [_] [] _=>false
 |_=>true
theorem AI(h0:Sc e=true)(h:Aq n e ρ σ=some (d,ρ₁,σ₁)):GA (n+1) e ρ σ=some (.d d,ρ₁,σ₁):=by
 unfold GA
 split
 ·cases h0
 ·cases h0
 ·cases h0
 ·simp only[h,bind_eq_bind,bind_some]
theorem K7:GA (n+1) (.List [] p) ρ σ=some (.ownL [],ρ,σ):=by simp only[GA]
theorem Rv:GA (n+1) (.Dict [] [] p) ρ σ=some (.ownDL [],ρ,σ):=by simp only[GA]
theorem NV{f:Str}{es:List (Key×D)}(hf:f=Str.ofString "dict")(hg:Ao ρ f=true)(h:Aq n e ρ σ=some (d,ρ₁,σ₁))(h1:Ag "dict" [d]=some (.dict es)):GA (n+1) (.Call (.Name f p) [e] [] pos) ρ σ=some (.ownD es,ρ₁,σ₁):=by
 subst hf
 simp only[GA,if_true,hg,h,h1,bind_eq_bind,bind_some]
theorem IC{f:Str}{es:List (List Int×D)}(hf:f=Str.ofString "dict")(hg:Ao ρ f=true)(h:Aq n e ρ σ=some (d,ρ₁,σ₁))(h1:Ag "dict" [d]=some (.dictT es)):GA (n+1) (.Call (.Name f p) [e] [] pos) ρ σ=some (.d (.dictT es),ρ₁,σ₁):=by
 subst hf
 simp only[GA,if_true,hg,h,h1,bind_eq_bind,bind_some]
theorem TG{f:Str}{a:List D}{b:List (Key×D)}(hf:f=Str.ofString "Bounds")(hg:Ao ρ f=true)(h:Aq n e ρ σ=some (.univ a b,ρ₁,σ₁)):GA (n+1) (.Call (.Name f p) [e] [] pos) ρ σ=some (.ownB (.univ a b) [] [],ρ₁,σ₁):=by
 subst hf
 have:¬(Str.ofString "Bounds" =Str.ofString "dict"):=by decide
 simp only[GA,if_neg this,if_true,hg,h,bind_eq_bind,bind_some]
theorem JO{f:Str}(hf:(f==Str.ofString "dict" ||f==Str.ofString "Bounds")=false)(h:Aq n (.Call (.Name f p) [e] [] pos) ρ σ=some (d,ρ₁,σ₁)):GA (n+1) (.Call (.Name f p) [e] [] pos) ρ σ=some (.d d,ρ₁,σ₁):=by
 simp only[Bool.or_eq_false_iff,beq_eq_false_iff_ne,ne_eq] at hf
 simp only[GA,if_neg hf.1,if_neg hf.2,h,bind_eq_bind,bind_some]
theorem Ch:HK (n+1) [] ρ σ=some ([],ρ,σ):=by simp only[HK]
theorem A0{es:List Expr}(hs:(match e with| .Starred .. =>false|_=>true)=true)(h1:GA n e ρ σ=some (V,ρ₁,σ₁))(h2:HK n es ρ₁ σ₁=some (Vs,ρ₂,σ₂)):HK (n+1) (e::es) ρ σ=some (V::Vs,ρ₂,σ₂):=by
 cases e<;>simp only[false_eq_true] at hs<;>simp only[HK,h1,h2,bind_eq_bind,bind_some]
variable {f:Fl}{Y:Fl×Ev×St}
theorem AS(h:Aq n e ρ σ=some (d,ρ₁,σ₁)):EI (n+1) (.Return (some e) pos) ρ σ=some (.ret d,ρ₁,σ₁):=by
 simp only[EI,h,bind_eq_bind,bind_some]
theorem F7{b:List Stmt}{o:List Stmt}{c:Bool}(h1:Ed n e ρ σ=some (c,ρ₁,σ₁))(h2:Br n (if c then b else o) ρ₁ σ₁=some Y):EI (n+1) (.If e b o pos) ρ σ=some Y:=by
 simp only[EI,h1,bind_eq_bind,bind_some]
 cases c<;>simpa using h2
theorem AP{x:Str}(h1:GA n e ρ σ=some (V,ρ₁,σ₁))(h2:ρ₁.set x V=some ρ₂):EI (n+1) (.Assign [.Name x p] e pos) ρ σ=some (.next,ρ₂,σ₁):=by
 simp only[EI,h1,h2,bind_eq_bind,bind_some]
theorem Dk{ts es:List Expr}{k k':Nat}{p1 p2:Pos}{xs:List Str}(h0:Bc ts=some xs)(h1:Gu ts es xs ρ=true)(h2:HK n es ρ σ=some (Vs,ρ₁,σ₁))(h3:BD xs Vs ρ₁=some ρ₂):EI (n+1) (.Assign [.Tuple ts k p1] (.Tuple es k' p2) pos) ρ σ=some (.next,ρ₂,σ₁):=by
 simp only[EI,h0,h1,h2,h3,bind_eq_bind,bind_some,Bool.not_true,false_eq_true,if_false]
theorem KU{x:Str}{i v:Expr}{W0 W:Nz.V}{k:D}{p1 p2:Pos}(h0:(BE x||Ao ρ x)=false)(h1:Aq n v ρ σ=some (d,ρ₁,σ₁))(h2:ρ₁.get x=some W0)(h3:Aq n i ρ₁ σ₁=some (k,ρ₂,σ₂))(h4:ρ₂.get x=some W)(h5:CV x k d W ρ₂ σ₂=some Y):
 EI (n+1) (.Assign [.Subscript (.Name x p1) i p2] v pos) ρ σ=some Y:=by
 simp only[EI,h0,h1,h2,h3,h4,h5,bind_eq_bind,bind_some,false_eq_true,if_false]
theorem K6{x m:Str}{args:List Expr}{as:List D}{V0:Nz.V}{p1 ap cp:Pos}(h0:(BE x||Ao ρ x|| !(ap.endLine==cp.line&&decide (args.length<30)))=false)(h1:ρ.get x=some V0)(h2:Hn n args ρ σ=some (as,ρ₁,σ₁))(h3:ρ₁.get x=some V)(h4:B1 V0 V=true)(h5:QJ n x m V as ρ₁ σ₁=some Y):
 EI (n+1) (.Expr (.Call (.Attribute (.Name x p1) m ap) args [] cp) pos) ρ σ=some Y:=by
 simp only[EI,h0,h1,h2,h3,h4,h5,bind_eq_bind,bind_some,false_eq_true,if_false,if_true]
theorem Qb{x m₁ m₂:Str}{k v:Expr}{kd:D}{V0 V1:Nz.V}{p1 p2 ap₁ cp₁ ap₂ cp₂:Pos}(h0:(BE x||Ao ρ x|| !(ap₁.endLine==cp₁.line)|| !(ap₂.endLine==cp₂.line))=false)(h1:ρ.get x=some V0)(h2:Aq n k ρ σ=some (kd,ρ₁,σ₁))(h3:ρ₁.get x=some V1)(h4:(E0 x v ρ₁&&B1 V0 V1)=true)
 (h5:Aq n v ρ₁ σ₁=some (d,ρ₂,σ₂)) (h6:FF x m₁ m₂ kd d V1 ρ₁=some ρ₃):EI (n+1) (.Expr (.Call (.Attribute (.Call (.Attribute (.Name x p1) m₁ ap₁) [k,.List [] p2] [] cp₁) m₂ ap₂) [v] [] cp₂) pos) ρ σ=some (.next,ρ₃,σ₁):=by
 simp only[EI,h0,h1,h2,h3,h4,h5,h6,bind_eq_bind,bind_some,false_eq_true,if_false,Bool.not_true]
theorem DN{t it:Expr}{b:List Stmt}{xs:List D}(h0:Ek t it=true)(h1:FQ n it ρ σ=some (xs,ρ₁,σ₁))(h2:EG (λd (s:Ev×St)=>do
        let ρ<-JR t d s.1
        let(f,ρ,σ)<-Br n b ρ s.2
        some (f,s.1.back ρ,σ)) xs (ρ₁,σ₁)=some (f,ρ₂,σ₂)):EI (n+1) (.For t it b [] pos) ρ σ=some (f,ρ₂,σ₂):=by
 simp only[EI,h0,h1,bind_eq_bind,bind_some,Bool.not_true,false_eq_true,if_false] at h2⊢
 rw[h2];rfl
theorem K5{t:Expr}{b:List Stmt}(h:Gm n t b ρ σ=some Y):EI (n+1) (.While t b [] pos) ρ σ=some Y:=by simp only[EI,h]
theorem Qc{x m:Str}{xs:List D}(hm:m=Str.ofString "append")(hl:xs.length<1000000)(hs:ρ.set x (.ownL (xs++[d]))=some ρ₁):QJ (n+1) x m (.ownL xs) [d] ρ σ=some (.next,ρ₁,σ):=by
 subst hm
 simp only[QJ,K3,hl,and_self,if_true,hs,bind_eq_bind,bind_some]
theorem T5{x m:Str}{u:D}{bs as:List D}{ns:List (Key×D)}{w:Nz.V}(h:Gb n m u bs ns as σ=some (w,σ₁))(hs:ρ.set x w=some ρ₁):QJ (n+1) x m (.ownB u bs ns) as ρ σ=some (.next,ρ₁,σ₁):=by
 simp only[QJ,h,hs,bind_eq_bind,bind_some]
theorem TA{t:Expr}{b:List Stmt}(h1:Ed n t ρ σ=some (true,ρ₁,σ₁))(h2:Br n b ρ₁ σ₁=some (.next,ρ₂,σ₂))(h3:Gm n t b (ρ₁.back ρ₂) σ₂=some Y):Gm (n+1) t b ρ σ=some Y:=by
 simp only[Gm,h1,h2,h3,bind_eq_bind,bind_some,if_true]
theorem SD{t:Expr}{b:List Stmt}(h1:Ed n t ρ σ=some (true,ρ₁,σ₁))(h2:Br n b ρ₁ σ₁=some (.ret d,ρ₂,σ₂)):Gm (n+1) t b ρ σ=some (.ret d,ρ₂,σ₂):=by
 simp only[Gm,h1,h2,bind_eq_bind,bind_some,if_true]
theorem T1{t:Expr}{b:List Stmt}(h1:Ed n t ρ σ=some (false,ρ₁,σ₁)):Gm (n+1) t b ρ σ=some (.next,ρ₁,σ₁):=by
 simp only[Gm,h1,bind_eq_bind,bind_some,false_eq_true,if_false]
theorem BC:Br (n+1) [] ρ σ=some (.next,ρ,σ):=by simp only[Br]
theorem AW{s:Stmt}{ss:List Stmt}(h1:EI n s ρ σ=some (.next,ρ₁,σ₁))(h2:Br n ss ρ₁ σ₁=some Y):Br (n+1) (s::ss) ρ σ=some Y:=by
 simp only[Br,h1,h2,bind_eq_bind,bind_some]
theorem Bs{s:Stmt}{ss:List Stmt}(h1:EI n s ρ σ=some (.ret d,ρ₁,σ₁)):Br (n+1) (s::ss) ρ σ=some (.ret d,ρ₁,σ₁):=by
 simp only[Br,h1,bind_eq_bind,bind_some]
theorem EN{f:Str}{ps:List Str}{ns:List (Str×NameKind)}{b:List Stmt}{as:List D}(h0:fnTab.lookup f=some ⟨ps,ns,b⟩)(h1:Bb ps as ⟨ns,[],[]⟩=some ρ)(h2:Br n b ρ σ=some (.ret d,ρ₁,σ₁)):AQ (n+1) f as σ=some (d,σ₁):=by
 simp only[AQ,h0,h1,h2,bind_eq_bind,bind_some]
theorem T6{f:Str}{ps:List Str}{ns:List (Str×NameKind)}{b:List Stmt}{as:List D}(h0:fnTab.lookup f=some ⟨ps,ns,b⟩)(h1:Bb ps as ⟨ns,[],[]⟩=some ρ)(h2:Br n b ρ σ=some (.next,ρ₁,σ₁)):AQ (n+1) f as σ=some (.none,σ₁):=by
 simp only[AQ,h0,h1,h2,bind_eq_bind,bind_some]
end
abbrev AO:=List Int
def Srt(l:List AO):Prop:=l.Pairwise λa b=>An a b=true
def norm(l:List AO):List AO:=B0 (DK l)
theorem Srt.nodup{l:List AO}(h:Srt l):l.Nodup:=by
 refine List.Pairwise.imp (λ{a b} hab q=> ?_) h
 subst q
 rw[DP] at hab;cases hab
theorem Srt.weak{l:List AO}(h:Srt l):l.Pairwise λa b=>An b a=false:=by
 refine List.Pairwise.imp (λ{a b} hab=> ?_) h
 cases q:An b a with
 |false=>rfl
 |true=>have:=Ds a b a hab q;rw[DP] at this;cases this
theorem SN{l:List AO}(h:l.Pairwise λa b=>An b a=false)(hn:l.Nodup):Srt l:=by
 refine List.Pairwise.imp₂ (λa b h1 h2=> ?_) h hn
 cases q:An a b with
 |true=>rfl
 |false=>exact absurd (DA a b q h1) h2
theorem Jy{l:List AO}{r:AO}:r∈B0 l↔r∈l:=(C0 l).mem_iff
theorem mem_norm{l:List AO}{r:AO}:r∈norm l↔r∈l:=by unfold norm;rw[Jy,Di]
theorem Ji{l:List AO}(h:l.Nodup):Srt (B0 l):=SN (Co l) ((C0 l).nodup_iff.mpr h)
theorem C9(l:List AO):Srt (norm l):=Ji (DR l)
theorem IN{l m:List AO}(hl:Srt l)(hm:Srt m)(h:∀r,r∈l↔r∈m):l=m:=
 D3 ((List.perm_ext_iff_of_nodup hl.nodup hm.nodup).mpr h) hl.weak hm.weak
theorem G6{l:List AO}(h:Srt l):norm l=l:=IN (C9 l) h λr=>mem_norm
theorem Fh{l:List AO}(h:l.Nodup):B0 l=norm l:=IN (Ji h) (C9 l) λr=>by rw[Jy,mem_norm]
theorem Srt.filter{l:List AO}(h:Srt l)(p:AO->Bool):Srt (l.filter p):=List.Pairwise.filter p h
def DS(ks:List AO)(r:AO):List AO:=if r∈ks then ks else ks++[r]
theorem FH{r:AO}:∀(rs ks:List AO),r∈rs.foldl DS ks↔r∈ks\/r∈rs
 |[],ks=>by simp
 |x::rs,ks=>by
  rw[List.foldl_cons,FH rs]
  unfold DS
  split
  ·rename_i hx
   constructor
   ·rintro(h|h)
    ·exact .inl h
    ·exact .inr (mem_cons_of_mem _ h)
   ·rintro(h|h)
    ·exact .inl h
    ·rcases mem_cons.mp h with rfl|h
     ·exact .inl hx
     ·exact .inr h
  ·simp[or_assoc]
theorem Et:∀(rs ks:List AO),ks.Nodup->(rs.foldl DS ks).Nodup
 |[],ks,h=>h
 |x::rs,ks,h=>by
  rw[List.foldl_cons]
  refine Et rs _ ?_
  unfold DS
  split
  ·exact h
  ·rename_i hx
   rw[List.nodup_append]
   exact⟨h,by simp,λa ha b hb q=>hx (by rw[mem_singleton.mp hb] at q;rw[<-q];exact ha)⟩
theorem ON(rs:List AO):B0 (rs.foldl DS [])=norm rs:=by
 have:=Fh (Et rs [] nodup_nil)
 rw[this]
 exact IN (C9 _) (C9 _) λr=>by rw[mem_norm,mem_norm,FH];simp
theorem FK:∀r:AO,E2 (r.map .int)=some r
 |[]=>rfl
 |i::r=>by simp only[map_cons,E2,FK r,map_some]
theorem Ej(r:AO):EP (AD r)=some r:=FK r
def Bu(k:AO):AO×D:=(k,.bool true)
theorem Jo(r:AO):∀ks:List AO,B9 r (D.bool true) (ks.map Bu)=(DS ks r).map Bu
 |[]=>rfl
 |k::ks=>by
  rw[map_cons]
  unfold B9 Bu
  dsimp only
  by_cases hk:k=r
  ·subst hk
   rw[if_pos rfl]
   unfold DS
   rw[if_pos (mem_cons_self ..)];rfl
  ·rw[if_neg hk]
   have ih:=Jo r ks
   unfold Bu at ih
   rw[ih]
   unfold DS
   by_cases hr:r∈ks
   ·rw[if_pos hr,if_pos (mem_cons_of_mem _ hr)];rfl
   ·have:r∉k::ks:=λq=>by rcases mem_cons.mp q with q|q;exact hk q.symm;exact hr q
    rw[if_neg hr,if_neg this];rfl
theorem Hb:∀(rs ks:List AO),Ep (rs.map λr=> .tup [AD r,.bool true]) (ks.map Bu)=some ((rs.foldl DS ks).map Bu)
 |[],ks=>rfl
 |r::rs,ks=>by
  rw[map_cons]
  unfold Ep
  rw[Ej]
  simp only[bind_eq_bind,bind_some]
  rw[Jo,Hb rs,List.foldl_cons]
theorem Ic{α:Type} [DecidableEq α]:∀(l m:List α),l.Nodup->(∀a∈l,a∈m)->l.length<=m.length
 |[],m,_,_=>zero_le _
 |a::l,m,hn,hs=>by
  rw[nodup_cons] at hn
  have ha:=hs a (mem_cons_self ..)
  have ih:=Ic l (m.erase a) hn.2 λb hb=>(List.mem_erase_of_ne (λq=>hn.1 (by rw[<-q];exact hb))).mpr (hs b (mem_cons_of_mem _ hb))
  rw[List.length_erase_of_mem ha] at ih
  have:0<m.length:=List.length_pos_of_mem ha
  simp only[length_cons]
  omega
def Good(rs:List AO):Prop:=∀r∈rs,CQ r=true
theorem Iu{rs:List AO}(h:Good rs)(hn:rs.Nodup):rs.length<=12:=by
 have all:∀r:AO,CQ r=true->r∈([[0],[1],[2],[0,0],[0,1],[0,2],[1,0],[1,1],[1,2],[2,0],[2,1],[2,2]]:List AO):=by
  intro r hr
  unfold CQ at hr
  split at hr
  ·rename_i a
   simp only[and_eq_true,decide_eq_true_eq] at hr
   have:a=0\/a=1\/a=2:=by omega
   rcases this with rfl|rfl|rfl<;>decide
  ·rename_i a b
   simp only[and_eq_true,decide_eq_true_eq] at hr
   have h1:a=0\/a=1\/a=2:=by omega
   have h2:b=0\/b=1\/b=2:=by omega
   rcases h1 with rfl|rfl|rfl<;>rcases h2 with rfl|rfl|rfl<;>decide
  ·cases hr
 exact Ic _ _ hn (λr hr=>all r (h r hr))
theorem Good.ne{rs:List AO}(h:Good rs):∀r∈rs,r≠[]:=λr hr q=>by
 have:=h r hr;rw[q] at this;cases this
theorem Good.norm{rs:List AO}(h:Good rs):Good (norm rs):=λr hr=>h r (mem_norm.mp hr)
theorem Good.filter{rs:List AO}(h:Good rs)(p:AO->Bool):Good (rs.filter p):=λr hr=>h r (mem_filter.mp hr).1
theorem EL(rs:List AO)(h:rs.length<=100000):Ag "dict" [.list (rs.map λr=> .tup [AD r,.bool true])]=some (.dictT ((rs.foldl DS []).map Bu)):=by
 have e:Ag "dict" [.list (rs.map λr=> .tup [AD r,.bool true])]=if(rs.map λr=>D.tup [AD r,.bool true]).length<=100000 then(Ep (rs.map λr=> .tup [AD r,.bool true]) []).map .dictT else none:=rfl
 rw[e,length_map,if_pos h,show([]:List (List Int×D))=([]:List AO).map Bu from rfl,Hb];rfl
theorem RN(ks:List AO):(ks.map Bu).map (·.1)=ks:=by rw[map_map];simp[Bu,Function.comp_def]
theorem Ht(rs:List AO)(hg:Good rs):Ag "sorted" [.dictT ((rs.foldl DS []).map Bu)]=some (.list ((norm rs).map AD)):=by
 have gk:Good (rs.foldl DS []):=λr hr=>hg r (by have:=(FH rs []).mp hr;simpa using this)
 have hl:=Iu gk (Et rs [] nodup_nil)
 have e:Ag "sorted" [.dictT ((rs.foldl DS []).map Bu)]=if((rs.foldl DS []).map Bu).length<60/\(((rs.foldl DS []).map Bu).all λe=> !e.1.isEmpty)=true then some (.list ((B0 (((rs.foldl DS []).map Bu).map (·.1))).map AD)) else none:=rfl
 rw[e,RN,ON,if_pos]
 refine⟨by rw[length_map];omega,?_⟩
 rw[all_eq_true]
 intro x hx
 obtain⟨r,hr,rfl⟩:=mem_map.mp hx
 have:=gk.ne r hr
 cases r with
 |nil=>exact absurd rfl this
 |cons a r=>rfl
theorem Bg(xs:List D)(h:xs.length<=100000):Ag "tuple" [.list xs]=some (.tup xs):=by
 have e:Ag "tuple" [.list xs]=if xs.length<=100000 then some (.tup xs) else none:=rfl
 rw[e,if_pos h]
theorem A5{α S:Type}{f:D->S->Option (List D×S)}{s:S}{φ:α->D}(ψ:α->D)(l:List α)(h:∀a∈l,f (φ a) s=some ([ψ a],s)):CW f (l.map φ) s=some (l.map ψ,s):=by
 rw[DC (g:=λa=>[ψ a]) l h]
 congr 1
 congr 1
 induction l with
 |nil=>rfl
 |cons a l ih=>rw[flatMap_cons,ih λb hb=>h b (mem_cons_of_mem _ hb)];rfl
theorem Le{rs:List AO}(h:Good rs):(norm rs).length<=12:=Iu h.norm (C9 rs).nodup
theorem CH{n:Nat}{ρ ρ₁ ρ₃:Ev}{σ:St}{e:Expr}{d:D}{g:Comprehension}{y:D}(ha:(g.is_async !=0|| !Ek g.target g.iter)=false)(hi:g.ifs=[])(h1:JR g.target d ρ=some ρ₁)(h3:Aq (n+1) e ρ₁ σ=some (y,ρ₃,σ))(h5:ρ.back ρ₃=ρ):
 Ja (n+2) g [] e d ρ σ=some ([y],ρ,σ):=by
 have:Hy (n+1) g.ifs ρ₁ σ=some (true,ρ₁,σ):=by rw[hi];exact HS
 simp only[Ja,ha,h1,this,h3,h5,bind_eq_bind,bind_some,false_eq_true,if_false,Bool.not_true]
theorem LO{n:Nat}{σ:St}(rs:List AO)(hg:Good rs)(hl:rs.length<=1000):AQ (n+20) (Str.ofString "set_of") [.tup (rs.map AD)] σ=some (.tup ((norm rs).map AD),σ):=by
 have hc:∀(f:D->Ev×St->Option (List D×Ev×St)) s,(∀r∈rs,f (AD r) s=some ([.tup [AD r,.bool true]],s))->CW f (rs.map AD) s=some (rs.map λr=> .tup [AD r,.bool true],s):=λf s h=>A5 (λr=> .tup [AD r,.bool true]) rs h
 exact EN rfl rfl (Bs (AS (AE rfl rfl rfl (BJ (b:= "tuple") (AB rfl (AE rfl rfl rfl (BJ (b:= "sorted") (AB rfl (AE rfl rfl rfl (BJ (b:= "dict") (AB rfl (Ar rfl (AT rfl (AA rfl) rfl) rfl
  (hc _ _ λr hr=>CH rfl rfl rfl (Aj (AF rfl (AA rfl) (AF rfl Dm AR)) (by simp)) rfl)
  (by simp;omega)) AH) rfl rfl (EL rs (by omega)))) AH) rfl rfl (Ht rs hg))) AH) rfl rfl (Bg _ (by have:=Le hg;simp;omega))))))
theorem HY{n:Nat}{σ:St}(rs:List AO)(hg:Good rs)(hl:rs.length<=1000):AQ (n+20) (Str.ofString "set_of") [.list (rs.map AD)] σ=some (.tup ((norm rs).map AD),σ):=by
 have hc:∀(f:D->Ev×St->Option (List D×Ev×St)) s,(∀r∈rs,f (AD r) s=some ([.tup [AD r,.bool true]],s))->CW f (rs.map AD) s=some (rs.map λr=> .tup [AD r,.bool true],s):=λf s h=>A5 (λr=> .tup [AD r,.bool true]) rs h
 exact EN rfl rfl (Bs (AS (AE rfl rfl rfl (BJ (b:= "tuple") (AB rfl (AE rfl rfl rfl (BJ (b:= "sorted") (AB rfl (AE rfl rfl rfl (BJ (b:= "dict") (AB rfl (Ar rfl (AT rfl (AA rfl) rfl) rfl
  (hc _ _ λr hr=>CH rfl rfl rfl (Aj (AF rfl (AA rfl) (AF rfl Dm AR)) (by simp)) rfl)
  (by simp;omega)) AH) rfl rfl (EL rs (by omega)))) AH) rfl rfl (Ht rs hg))) AH) rfl rfl (Bg _ (by have:=Le hg;simp;omega))))))
theorem H1:∀(n:Nat)(a:Int),Gq a n=(List.range n).map λi=> .int (a+(i:Int))
 |0,_=>rfl
 |n+1,a=>by
  rw[List.range_succ_eq_map,map_cons,map_map]
  unfold Gq
  rw[H1 n (a+1)]
  congr 1
  ·simp
  ·apply List.map_congr_left
   intro i _
   simp only[Function.comp_apply,Nat.succ_eq_add_one,D.int.injEq]
   omega
def CS(n:Nat):List AO:=(List.range n).map λ(a:Nat)=>[(a:Int)]
def Dd(n:Nat):List AO:=(List.range n).map λ(a:Nat)=>[(a:Int),(a:Int)]
def Cb(s t:List AO):List AO:=norm (s++t)
def Lk(s t:List AO):List AO:=s.filter λr=>decide (r∈t)
def Az(s t:List AO):List AO:=s.filter λr=>decide (r∉t)
def CE(s t:List AO):List AO:=s.flatMap λa=>t.map λb=>a++b
theorem QZ(s t:List AO)(h:s.length+t.length<=100000):CN .Add (.tup (s.map AD)) (.tup (t.map AD))=some (.tup ((s++t).map AD)):=by
 have e:CN .Add (.tup (s.map AD)) (.tup (t.map AD))=if(s.map AD).length+(t.map AD).length<=100000 then some (.tup (s.map AD++t.map AD)) else none:=rfl
 rw[e,length_map,length_map,if_pos h,map_append]
theorem Good.app{s t:List AO}(hs:Good s)(ht:Good t):Good (s++t):=λr hr=>by
 rcases mem_append.mp hr with h|h
 ·exact hs r h
 ·exact ht r h
structure RelOk (m k:Nat)(rs:List AO):Prop where
 srt:Srt rs
 len:∀r∈rs,r.length=k
 ats:∀r∈rs,∀a∈r,0<=a/\a<(m:Int)
theorem RelOk.good{m k:Nat}{rs:List AO}(h:RelOk m k rs)(hm:m<=3)(hk:k=1\/k=2):Good rs:=λr hr=>by
 have hl:=h.len r hr
 have ha:=h.ats r hr
 rcases hk with rfl|rfl
 ·match r,hl with
  |[a],_=>
   have:=ha a (by simp)
   simp only[CQ,and_eq_true,decide_eq_true_eq];omega
 ·match r,hl with
  |[a,b],_=>
   have h1:=ha a (by simp)
   have h2:=ha b (by simp)
   simp only[CQ,and_eq_true,decide_eq_true_eq];omega
section
variable {n:Nat}{σ:St}
theorem Md(s t:List AO)(hs:Good s)(ht:Good t)(ls:s.length<=400)(lt:t.length<=400):AQ (n+30) (Str.ofString "union") [.tup (s.map AD),.tup (t.map AD)] σ=some (.tup ((Cb s t).map AD),σ):=
 EN rfl rfl (Bs (AS (AE rfl rfl rfl (AN (AB rfl (Ak (AA rfl) (AA rfl) (QZ s t (by omega))) AH) rfl rfl rfl (LO (s++t) (hs.app ht) (by rw[length_append];omega)) rfl))))
theorem GV(r:AO)(t:List AO):Av .In (AD r) (.dictT ((t.foldl DS []).map Bu))=some (decide (r∈t)):=by
 have e:Av .In (AD r) (.dictT ((t.foldl DS []).map Bu))=(EP (AD r)).map λk=>(Af k ((t.foldl DS []).map Bu)).isSome:=rfl
 rw[e,Ej,map_some]
 congr 1
 have key:∀ks:List AO,(Af r (ks.map Bu)).isSome=decide (r∈ks):=by
  intro ks
  induction ks with
  |nil=>rfl
  |cons k ks ih=>
   rw[map_cons]
   unfold Bu Af
   by_cases h:k=r
   ·subst h;simp
   ·rw[if_neg h]
    unfold Bu at ih
    rw[ih]
    simp[Ne.symm h]
 rw[key]
 have:=FH (r:=r) t []
 simp only[List.not_mem_nil,false_or] at this
 simp only[this]
theorem Ld(r:AO)(t:List AO):Av .NotIn (AD r) (.dictT ((t.foldl DS []).map Bu))=some (decide (r∉t)):=by
 have h:=GV r t
 have e:Av .NotIn (AD r) (.dictT ((t.foldl DS []).map Bu))=(QF (AD r) (.dictT ((t.foldl DS []).map Bu))).map (!·):=rfl
 have e2:Av .In (AD r) (.dictT ((t.foldl DS []).map Bu))=QF (AD r) (.dictT ((t.foldl DS []).map Bu)):=rfl
 rw[e,<-e2,h,map_some]
 congr 1
 by_cases hr:r∈t<;>simp[hr]
theorem CM{s:List AO}{f:D->Ev×St->Option (List D×Ev×St)}{st:Ev×St}(b:AO->Bool)(h:∀r∈s,f (AD r) st=some (if b r then [AD r] else [],st)):CW f (s.map AD) st=some ((s.filter b).map AD,st):=DD b AD s h
theorem Od(s t:List AO)(ls:s.length<=1000)(lt:t.length<=1000):AQ (n+30) (Str.ofString "meet") [.tup (s.map AD),.tup (t.map AD)] σ=some (.tup ((Lk s t).map AD),σ):=
 EN rfl rfl (AW (AP (IC rfl rfl (Ar rfl (AT rfl (AA rfl) rfl) rfl (A5 (λr=> .tup [AD r,.bool true]) t λr hr=>CH rfl rfl rfl (Aj (AF rfl (AA rfl) (AF rfl Dm AR)) (by simp)) rfl) (by simp;omega)) (EL t (by omega))) rfl)
  (Bs (AS (AE rfl rfl rfl (BJ (b:= "tuple") (AB rfl (Ar rfl (AT rfl (AA rfl) rfl) rfl (CM (λr=>decide (r∈t)) λr hr=>Bz rfl rfl (By (AJ (AA rfl) (AA rfl) (GV r t))) (λ_=>AA rfl) rfl rfl) (by rw[length_map];exact Nat.le_trans (length_filter_le _ _) (by omega))) AH) rfl rfl
    (Bg _ (by rw[length_map];exact Nat.le_trans (length_filter_le _ _) (by omega))))))))
theorem M1(s t:List AO)(ls:s.length<=1000)(lt:t.length<=1000):AQ (n+30) (Str.ofString "minus") [.tup (s.map AD),.tup (t.map AD)] σ=some (.tup ((Az s t).map AD),σ):=
 EN rfl rfl (AW (AP (IC rfl rfl (Ar rfl (AT rfl (AA rfl) rfl) rfl (A5 (λr=> .tup [AD r,.bool true]) t λr hr=>CH rfl rfl rfl (Aj (AF rfl (AA rfl) (AF rfl Dm AR)) (by simp)) rfl) (by simp;omega)) (EL t (by omega))) rfl)
  (Bs (AS (AE rfl rfl rfl (BJ (b:= "tuple") (AB rfl (Ar rfl (AT rfl (AA rfl) rfl) rfl (CM (λr=>decide (r∉t)) λr hr=>Bz rfl rfl (By (AJ (AA rfl) (AA rfl) (Ld r t))) (λ_=>AA rfl) rfl rfl) (by rw[length_map];exact Nat.le_trans (length_filter_le _ _) (by omega))) AH) rfl rfl
    (Bg _ (by rw[length_map];exact Nat.le_trans (length_filter_le _ _) (by omega))))))))
end
theorem C4{α:Type}(f:α->List AO)(l:List α):(l.flatMap λa=>(f a).map AD)=(l.flatMap f).map AD:=by rw[List.map_flatMap]
theorem Io(m:Nat)(h:m<=1000):FV (.range 0 (m:Int))=some ((List.range m).map λ(i:Nat)=> .int (i:Int)):=by
 have h1:AZ 0=true:=by decide
 have h2:AZ (m:Int)=true:=by
  unfold AZ
  simp only[and_eq_true,decide_eq_true_eq];omega
 simp only[FV,h1,h2,H1,Bool.and_self,if_true]
 simp
theorem HO(m:Nat)(h:m<=1000):Ag "range" [.int (m:Int)]=some (.range 0 (m:Int)):=by
 have h2:AZ (m:Int)=true:=by
  unfold AZ
  simp only[and_eq_true,decide_eq_true_eq];omega
 simp only[Ag,h2,if_true]
theorem LM(r:AO)(h:r.length<=100):Bo (AD r) .none (.int 1) .none=some (AD (r.take 1)):=by
 have e:Bo (AD r) .none (.int 1) .none=if(r.map D.int).length<=100000 then(if AZ 1 then some ((r.map D.int).take (Ap 1 (r.map D.int).length)) else none).map .tup else none:=rfl
 rw[e,length_map,if_pos (by omega),show AZ 1=true from by decide]
 simp only[if_true,map_some,AD,map_take,Option.some.injEq,D.tup.injEq]
 rw[List.take_eq_take_iff]
 unfold Ap;simp
theorem IP(r:AO)(h:r.length<=100):Bo (AD r) (.int (-1)) .none .none=some (AD (r.drop (r.length -1))):=by
 have e:Bo (AD r) (.int (-1)) .none .none=if(r.map D.int).length<=100000 then(if AZ (-1) then some ((r.map D.int).drop (Ap (-1) (r.map D.int).length)) else none).map .tup else none:=rfl
 rw[e,length_map,if_pos (by omega),show AZ (-1)=true from by decide]
 simp only[if_true,map_some,AD,List.map_drop,Option.some.injEq,D.tup.injEq]
 have:Ap (-1) r.length=r.length -1:=by unfold Ap;simp;omega
 rw[this]
theorem HX(r:AO)(h:r.length<=100):Bo (AD r) .none (.int (-1)) .none=some (AD r.dropLast):=by
 have e:Bo (AD r) .none (.int (-1)) .none=if(r.map D.int).length<=100000 then(if AZ (-1) then some ((r.map D.int).take (Ap (-1) (r.map D.int).length)) else none).map .tup else none:=rfl
 rw[e,length_map,if_pos (by omega),show AZ (-1)=true from by decide]
 simp only[if_true,map_some,AD,Option.some.injEq,D.tup.injEq]
 have:Ap (-1) r.length=r.length -1:=by unfold Ap;simp;omega
 rw[this,List.dropLast_eq_take,map_take]
theorem IO(r:AO)(h:r.length<=100):Bo (AD r) (.int 1) .none .none=some (AD r.tail):=by
 have e:Bo (AD r) (.int 1) .none .none=if(r.map D.int).length<=100000 then(if AZ 1 then some ((r.map D.int).drop (Ap 1 (r.map D.int).length)) else none).map .tup else none:=rfl
 rw[e,length_map,if_pos (by omega),show AZ 1=true from by decide]
 simp only[if_true,map_some,AD,Option.some.injEq,D.tup.injEq]
 cases r with
 |nil=>rfl
 |cons a r=>
  have:Ap 1 (a::r).length=1:=by unfold Ap;simp
  rw[this];rfl
section
variable {n:Nat}{σ:St}
theorem OH(m:Nat)(h:m<=1000):AQ (n+30) (Str.ofString "univ_of") [.int (m:Int)] σ=some (.tup ((CS m).map AD),σ):=by
 have e:(CS m).map AD=(List.range m).map λ(i:Nat)=>AD [(i:Int)]:=by unfold CS;rw[map_map];rfl
 rw[e]
 exact EN rfl rfl (Bs (AS (AE rfl rfl rfl (BJ (b:= "tuple") (AB rfl (Ar rfl (AT rfl (AE rfl rfl rfl (BJ (b:= "range") (AB rfl (AA rfl) AH) rfl rfl (HO m h))) (Io m h)) rfl
  (A5 (λ(i:Nat)=>AD [(i:Int)]) (List.range m) λi hi=>CH rfl rfl rfl (Aj (AF rfl (AA rfl) AR) (by simp)) rfl) (by simp;omega)) AH) rfl rfl (Bg _ (by simp;omega))))))
theorem J9(m:Nat)(h:m<=1000):AQ (n+30) (Str.ofString "iden_of") [.int (m:Int)] σ=some (.tup ((Dd m).map AD),σ):=by
 have e:(Dd m).map AD=(List.range m).map λ(i:Nat)=>AD [(i:Int),(i:Int)]:=by unfold Dd;rw[map_map];rfl
 rw[e]
 exact EN rfl rfl (Bs (AS (AE rfl rfl rfl (BJ (b:= "tuple") (AB rfl (Ar rfl (AT rfl (AE rfl rfl rfl (BJ (b:= "range") (AB rfl (AA rfl) AH) rfl rfl (HO m h))) (Io m h)) rfl
  (A5 (λ(i:Nat)=>AD [(i:Int),(i:Int)]) (List.range m) λi hi=>CH rfl rfl rfl (Aj (AF rfl (AA rfl) (AF rfl (AA rfl) AR)) (by simp)) rfl) (by simp;omega)) AH) rfl rfl (Bg _ (by simp;omega))))))
theorem Gj(a b:AO)(h:a.length+b.length<=1000):CN .Add (AD a) (AD b)=some (AD (a++b)):=by
 have e:CN .Add (AD a) (AD b)=if(a.map D.int).length+(b.map D.int).length<=100000 then some (.tup (a.map D.int++b.map D.int)) else none:=rfl
 rw[e,length_map,length_map,if_pos (by omega)]
 unfold AD
 rw[map_append]
theorem LW(s t:List AO):(CE s t).length=s.length*t.length:=by
 unfold CE
 rw[List.length_flatMap]
 simp[List.map_const']
theorem GN(s t:List AO)(hs:∀r∈s,r.length<=100)(ht:∀r∈t,r.length<=100)(ls:s.length<=100)(lt:t.length<=100):AQ (n+30) (Str.ofString "product") [.tup (s.map AD),.tup (t.map AD)] σ=some (.tup ((CE s t).map AD),σ):=by
 have hl:((CE s t).map AD).length<=100000:=by
  rw[length_map,LW]
  exact Nat.le_trans (Nat.mul_le_mul ls lt) (by decide)
 have e:(CE s t).map AD=s.flatMap λa=>t.map λb=>AD (a++b):=by
  unfold CE
  rw[<-C4]
  congr 1
  funext a
  rw[map_map];rfl
 rw[e] at hl⊢
 exact EN rfl rfl (Bs (AS (AE rfl rfl rfl (BJ (b:= "tuple") (AB rfl (Ar rfl (AT rfl (AA rfl) rfl) rfl
  (DC (g:=λa=>t.map λb=>AD (a++b)) s λa ha=>JM rfl rfl HS (AT rfl (AA rfl) rfl) (A5 (λb=>AD (a++b)) t λb hb=>CH rfl rfl rfl (Ak (AA rfl) (AA rfl) (Gj a b (by have:=hs a ha;have:=ht b hb;omega))) rfl) rfl) hl) AH) rfl rfl (Bg _ hl)))))
def HQ(s r:List AO):List AO:=r.filter λone=>decide (one.take 1∈s)
def FP(r s:List AO):List AO:=r.filter λone=>decide (one.drop (one.length -1)∈s)
theorem NR(s t:List AO)(ls:s.length<=1000)(lt:t.length<=1000)(ht:∀r∈t,r.length<=100):AQ (n+30) (Str.ofString "ahead") [.tup (s.map AD),.tup (t.map AD)] σ=some (.tup ((HQ s t).map AD),σ):=
 EN rfl rfl (AW (AP (IC rfl rfl (Ar rfl (AT rfl (AA rfl) rfl) rfl (A5 (λr=> .tup [AD r,.bool true]) s λr hr=>CH rfl rfl rfl (Aj (AF rfl (AA rfl) (AF rfl Dm AR)) (by simp)) rfl) (by simp;omega)) (EL s (by omega))) rfl)
  (Bs (AS (AE rfl rfl rfl (BJ (b:= "tuple") (AB rfl (Ar rfl (AT rfl (AA rfl) rfl) rfl (CM (λone=>decide (one.take 1∈s)) λr hr=>Bz rfl rfl (By (AJ (CZ (AA rfl) Be (DM AG) Be (LM r (ht r hr))) (AA rfl) (GV (r.take 1) s))) (λ_=>AA rfl) rfl rfl) (by rw[length_map];exact Nat.le_trans (length_filter_le _ _) (by omega))) AH) rfl rfl
    (Bg _ (by rw[length_map];exact Nat.le_trans (length_filter_le _ _) (by omega))))))))
theorem MT(s t:List AO)(ls:s.length<=1000)(lt:t.length<=1000)(ht:∀r∈t,r.length<=100):AQ (n+30) (Str.ofString "behind") [.tup (t.map AD),.tup (s.map AD)] σ=some (.tup ((FP t s).map AD),σ):=
 EN rfl rfl (AW (AP (IC rfl rfl (Ar rfl (AT rfl (AA rfl) rfl) rfl (A5 (λr=> .tup [AD r,.bool true]) s λr hr=>CH rfl rfl rfl (Aj (AF rfl (AA rfl) (AF rfl Dm AR)) (by simp)) rfl) (by simp;omega)) (EL s (by omega))) rfl)
  (Bs (AS (AE rfl rfl rfl (BJ (b:= "tuple") (AB rfl (Ar rfl (AT rfl (AA rfl) rfl) rfl (CM (λone=>decide (one.drop (one.length -1)∈s)) λr hr=>Bz rfl rfl (By (AJ (CZ (AA rfl) (DM CI) Be Be (IP r (ht r hr))) (AA rfl) (GV (r.drop (r.length -1)) s))) (λ_=>AA rfl) rfl rfl) (by rw[length_map];exact Nat.le_trans (length_filter_le _ _) (by omega))) AH) rfl rfl
    (Bg _ (by rw[length_map];exact Nat.le_trans (length_filter_le _ _) (by omega))))))))
def II(s:List AO):List AO:=norm (s.map List.reverse)
theorem LI(s:List AO)(h2:∀r∈s,r.length=2)(hg:Good s)(ls:s.length<=400):AQ (n+40) (Str.ofString "turned") [.tup (s.map AD)] σ=some (.tup ((II s).map AD),σ):=by
 have hgr:Good (s.map List.reverse):=λr hr=>by
  obtain⟨q,hq,rfl⟩:=mem_map.mp hr
  have hl:=h2 q hq
  have:=hg q hq
  match q,hl with
  |[a,b],_=>
   simp only[CQ,and_eq_true,decide_eq_true_eq] at this
   simp only[List.reverse_cons,List.reverse_nil,List.nil_append,cons_append,CQ,and_eq_true,decide_eq_true_eq]
   omega
 have step:∀(f:D->Ev×St->Option (List D×Ev×St)) st,(∀r∈s,f (AD r) st=some ([AD r.reverse],st))->CW f (s.map AD) st=some ((s.map List.reverse).map AD,st):=λf st h=>by
  rw[map_map];exact A5 (λr=>AD r.reverse) s h
 refine EN rfl rfl (Bs (AS (AE rfl rfl rfl (AN (AB rfl (Ar rfl (AT rfl (AA rfl) rfl) rfl (step _ _ λr hr=> ?_) (by simp;omega)) AH) rfl rfl rfl (HY (s.map List.reverse) hgr (by simp;omega)) rfl))))
 ·have hl:=h2 r hr
  match r,hl with
  |[a,b],_=>exact CH rfl rfl rfl (Aj (AF rfl (AA rfl) (AF rfl (AA rfl) AR)) (by simp)) rfl
end
theorem small_lit:AZ 0=true/\AZ (-1)=true/\AZ 1=true:=by decide
theorem Fx(a:Int)(r:AO):Al (AD (a::r)) (.int 0)=some (.int a):=by
 simp[Al,AD,Hi,small_lit.1]
theorem J8(r:AO)(a:Int)(h:r.length<=100):Al (AD (r++[a])) (.int (-1))=some (.int a):=by
 have e:Al (AD (r++[a])) (.int (-1))=Hi ((r++[a]).map .int) (-1):=rfl
 rw[e]
 have hl:((r++[a]).map D.int).length=r.length+1:=by simp
 unfold Hi
 rw[small_lit.2.1,hl]
 have h1:(((r.length+1:Nat):Int)+ -1).toNat=r.length:=by omega
 rw[if_neg (by decide),if_neg (by decide),if_pos (by omega),h1,map_append]
 simp
theorem BT{n:Nat}{t:Expr}{b:List Stmt}{ρ ρ1 ρ2 ρ3:Ev}{σ σ1:St}{d:D}(h1:JR t d ρ=some ρ1)(h2:Br n b ρ1 σ=some (.next,ρ2,σ1))(h3:ρ.back ρ2=ρ3):
 (do let ρ'<-JR t d (ρ,σ).1
     let(f,ρ'',σ'')<-Br n b ρ' (ρ,σ).2
     some (f,(ρ,σ).1.back ρ'',σ''):Option (Fl×Ev×St))=some (.next,ρ3,σ1):=by
 simp only[h1,h2,h3,bind_eq_bind,bind_some]
theorem H8{α:Type}{f:D->Ev×St->Option (Fl×Ev×St)}{φ:α->D}{names:List (Str×NameKind)}(L C:List α->List (Str×V))(S:List α->St)(l:List α)(h:∀done a rest,l=done++a::rest->f (φ a) (⟨names,L done,C done⟩,S done)=some (.next,⟨names,L (done++[a]),C (done++[a])⟩,S (done++[a]))):
 EG f (l.map φ) (⟨names,L [],C []⟩,S [])=some (.next,⟨names,L l,C l⟩,S l):=by
 have:∀(rest done:List α),l=done++rest->EG f (rest.map φ) (⟨names,L done,C done⟩,S done)=some (.next,⟨names,L l,C l⟩,S l):=by
  intro rest
  induction rest with
  |nil=>intro done e;rw[append_nil] at e;subst e;rfl
  |cons a rest ih=>
   intro done e
   rw[map_cons]
   unfold EG
   rw[h done a rest e]
   simp only[bind_eq_bind,bind_some]
   exact ih (done++[a]) (by rw[e];simp)
 exact this l [] rfl
def Go(n:Nat)(ss:List Stmt)(ρ:Ev)(σ:St)(d:D)(σ':St):Prop:=∃ρ',Br n ss ρ σ=some (.ret d,ρ',σ')
theorem AM{n:Nat}{s:Stmt}{ss:List Stmt}{ρ ρ₁:Ev}{σ σ₁ σ₂:St}{d:D}(h1:EI n s ρ σ=some (.next,ρ₁,σ₁))(h2:Go n ss ρ₁ σ₁ d σ₂):Go (n+1) (s::ss) ρ σ d σ₂:=let⟨ρ',h⟩:=h2;⟨ρ',AW h1 h⟩
theorem AK{n:Nat}{s:Stmt}{ss:List Stmt}{ρ ρ₁:Ev}{σ σ₁:St}{d:D}(h1:EI n s ρ σ=some (.ret d,ρ₁,σ₁)):Go (n+1) (s::ss) ρ σ d σ₁:=⟨ρ₁,Bs h1⟩
theorem A4{n:Nat}{f:Str}{ps:List Str}{ns:List (Str×NameKind)}{b:List Stmt}{as:List D}{ρ:Ev}{σ σ₁:St}{d:D}(h0:fnTab.lookup f=some ⟨ps,ns,b⟩)(h1:Bb ps as ⟨ns,[],[]⟩=some ρ)(h2:Go n b ρ σ d σ₁):AQ (n+1) f as σ=some (d,σ₁):=let⟨ρ',h⟩:=h2;EN h0 h1 h
def Bj(r:AO):Int:=r.headD 0
def K9(t:List AO):List (Key×List D):=t.foldl (λacc r=>Bl (.i (Bj r)) (AD r.tail) acc) []
theorem Ir(t:List AO)(r:AO):K9 (t++[r])=Bl (.i (Bj r)) (AD r.tail) (K9 t):=by unfold K9;rw[List.foldl_append];rfl
theorem Jp(k:Key)(v:D):∀es:List (Key×List D),(Bl k v es).length<=es.length+1
 |[]=>by simp[Bl]
 |(x,l)::r=>by
  unfold Bl
  split
  ·simp
  ·have:=Jp k v r;simp;omega
theorem IV(k:Key)(v:D)(m:Nat):∀es:List (Key×List D),(∀e∈es,e.2.length<=m)->∀e∈Bl k v es,e.2.length<=m+1
 |[],_,e,he=>by simp[Bl] at he;subst he;simp
 |(x,l)::r,h,e,he=>by
  unfold Bl at he
  split at he
  ·rcases mem_cons.mp he with rfl|he
   ·have:=h _ (mem_cons_self ..);simp at this⊢;omega
   ·have:=h e (mem_cons_of_mem _ he);omega
  ·rcases mem_cons.mp he with rfl|he
   ·have:=h _ (mem_cons_self ..);simp at this⊢;omega
   ·exact IV k v m r (λe he=>h e (mem_cons_of_mem _ he)) e he
theorem Ov:∀t:List AO,(K9 t).length<=t.length/\∀e∈K9 t,e.2.length<=t.length:=by
 intro t
 have:∀(rest done:List AO),(K9 done).length<=done.length/\(∀e∈K9 done,e.2.length<=done.length)->(K9 (done++rest)).length<=(done++rest).length/\∀e∈K9 (done++rest),e.2.length<=(done++rest).length:=by
  intro rest
  induction rest with
  |nil=>intro done h;simpa using h
  |cons r rest ih=>
   intro done h
   have:=ih (done++[r]) (by
    rw[Ir]
    refine⟨?_,λe he=> ?_⟩
    ·have:=Jp (.i (Bj r)) (AD r.tail) (K9 done);simp;omega
    ·have:=IV (.i (Bj r)) (AD r.tail) done.length _ h.2 e he;simp;omega)
   simpa using this
 simpa using this t [] ⟨Nat.le_refl _,λe he=>by simp[K9] at he⟩
theorem Mn{x:Str}{es:List (Key×List D)}{k d:D}{key:Key}{ρ ρ':Ev}(hk:EA k=some key)(h1:∀e∈es,e.2.length<1000)(h2:es.length<1000)(hs:ρ.set x (.ownDL (Bl key d es))=some ρ'):
 FF x (Str.ofString "setdefault") (Str.ofString "append") k d (.ownDL es) ρ=some ρ':=by
 unfold FF
 simp only[hk,bind_eq_bind,bind_some,true_and]
 rw[if_pos ⟨by rw[all_eq_true];intro e he;simpa using h1 e he,h2⟩,hs]
def Bk(a:Int)(t:List AO):List AO:=(t.filter λr=>decide (Bj r=a)).map List.tail
def Ef(e:Key×List D):Key×D:=(e.1,.list e.2)
theorem Nx(k:Int)(v:D):∀es:List (Key×List D),Af (.i k) (es.map Ef)=none->Af (.i k) ((Bl (.i k) v es).map Ef)=some (.list [v])
 |[],_=>by simp[Bl,Af,Ef]
 |(x,l)::r,h=>by
  rw[map_cons] at h
  unfold Af Ef at h
  by_cases hx:x= .i k
  ·rw[if_pos hx] at h;cases h
  ·rw[if_neg hx] at h
   unfold Bl
   rw[if_neg hx,map_cons]
   unfold Af Ef
   rw[if_neg hx]
   exact Nx k v r h
theorem Nw(k:Int)(v:D)(cur:List D):∀es:List (Key×List D),Af (.i k) (es.map Ef)=some (.list cur)->Af (.i k) ((Bl (.i k) v es).map Ef)=some (.list (cur++[v]))
 |[],h=>by simp[Af] at h
 |(x,l)::r,h=>by
  rw[map_cons] at h
  unfold Af Ef at h
  by_cases hx:x= .i k
  ·rw[if_pos hx] at h
   cases h
   unfold Bl
   rw[if_pos hx,map_cons]
   unfold Af Ef
   rw[if_pos hx]
  ·rw[if_neg hx] at h
   unfold Bl
   rw[if_neg hx,map_cons]
   unfold Af Ef
   rw[if_neg hx]
   exact Nw k v cur r h
theorem MC(a k:Int)(v:D)(hk:k≠a):∀es:List (Key×List D),Af (.i a) ((Bl (.i k) v es).map Ef)=Af (.i a) (es.map Ef)
 |[]=>by simp[Bl,Af,Ef,hk]
 |(x,l)::r=>by
  unfold Bl
  split
  ·rename_i hx
   have:¬(x= .i a):=λq=>hk (by rw[hx] at q;cases q;rfl)
   rw[map_cons,map_cons]
   unfold Af Ef
   rw[if_neg this,if_neg this]
  ·rw[map_cons,map_cons]
   unfold Af Ef
   split
   ·rfl
   ·exact MC a k v hk r
theorem Mf(a:Int)(t:List AO)(r:AO):Bk a (t++[r])=if Bj r=a then Bk a t++[r.tail] else Bk a t:=by
 unfold Bk
 rw[List.filter_append,map_append]
 by_cases h:Bj r=a<;>simp[h]
theorem KG(a:Int):∀(rest done:List AO),Af (.i a) ((K9 done).map Ef)=(if Bk a done=[] then none else some (.list ((Bk a done).map AD)))->Af (.i a) ((K9 (done++rest)).map Ef)=(if Bk a (done++rest)=[] then none else some (.list ((Bk a (done++rest)).map AD)))
 |[],done,h=>by rw[append_nil];exact h
 |r::rest,done,h=>by
  have:=KG a rest (done++[r]) (by
   rw[Ir,Mf]
   by_cases hr:Bj r=a
   ·rw[if_pos hr,if_neg (by simp)]
    by_cases ht:Bk a done=[]
    ·rw[if_pos ht] at h
     rw[hr,Nx a _ _ h,ht];rfl
    ·rw[if_neg ht] at h
     rw[hr,Nw a _ _ _ h,map_append];rfl
   ·rw[if_neg hr,MC a _ _ hr];exact h)
  rw[List.append_assoc] at this
  exact this
theorem QC(a:Int)(t:List AO):FV ((Af (.i a) ((K9 t).map λe=>(e.1,D.list e.2))).getD (.list []))=some ((Bk a t).map AD):=by
 have h:=KG a t [] (by simp[K9,Af,Bk])
 rw[List.nil_append] at h
 have e:((K9 t).map λe=>(e.1,D.list e.2))=(K9 t).map Ef:=rfl
 rw[e,h]
 by_cases ht:Bk a t=[]
 ·rw[if_pos ht,ht];rfl
 ·rw[if_neg ht];rfl
def Dc(s t:List AO):List AO:=s.flatMap λone=>(Bk (one.getLastD 0) t).map λrest=>one.dropLast++rest
def Bw(s t:List AO):List AO:=norm (Dc s t)
section
variable {n:Nat}{σ:St}
theorem Oo(s t:List AO)(hs:∀r∈s,r≠[]/\r.length<=10)(ht:∀r∈t,r≠[]/\r.length<=10)(ls:s.length<=100)(lt:t.length<=100)(hg:Good (Dc s t))(hl:(Dc s t).length<=1000):
 AQ (n+60) (Str.ofString "join") [.tup (s.map AD),.tup (t.map AD)] σ=some (.tup ((Bw s t).map AD),σ):=by
 have e:(Dc s t).map AD=s.flatMap λone=>(Bk (one.getLastD 0) t).map λrest=>AD (one.dropLast++rest):=by
  unfold Dc
  rw[<-C4]
  congr 1
  funext a
  rw[map_map];rfl
 have hl':((Dc s t).map AD).length<=100000:=by rw[length_map];omega
 have fin:=λm=>HY (n:=m) (σ:=σ) (Dc s t) hg hl
 rw[e] at hl'
 simp only[e] at fin
 refine A4 rfl rfl (AM (AP Rv rfl) ?_)
 refine AM (DN rfl (AT rfl (AA rfl) rfl) (H8 (λ_=>[(Str.ofString "s",.d (.tup (s.map AD))),(Str.ofString "t",.d (.tup (t.map AD)))]) (λdone=>[(Str.ofString "begun",.ownDL (K9 done))]) (λ_=>σ) t λdone r rest q=> ?_)) ?_
 ·have hr:r∈t:=by rw[q];simp
  obtain⟨h1,h2⟩:=ht r hr
  have hdl:done.length<=t.length:=by rw[q];simp
  obtain⟨g1,g2⟩:=Ov done
  cases r with
  |nil=>exact absurd rfl h1
  |cons a r'=>
   rw[Ir]
   refine BT rfl (AW (Qb rfl rfl (A6 rfl rfl (AA rfl) AG rfl (Fx a r')) rfl rfl (CZ (AA rfl) (DM AG) Be Be (IO (a::r') (by omega))) (Mn rfl (λe he=>by have:=g2 e he;omega) (by omega) rfl)) BC) rfl
 ·refine' AK (AS (AE rfl rfl rfl (AN (AB rfl (Ar rfl (AT rfl (AA rfl) rfl) rfl ?comp hl') AH) rfl rfl rfl (fin _) rfl)))
  case comp=>
   refine DC (g:=λone=>(Bk (one.getLastD 0) t).map λrest=>AD (one.dropLast++rest)) s λone h1=> ?_
   obtain⟨h2,h3⟩:=hs one h1
   obtain⟨q,a,rfl⟩:∃q a,one=q++[a]:=⟨one.dropLast,one.getLast h2,(List.dropLast_concat_getLast h2).symm⟩
   have hq:q.length<=9:=by simp at h3;omega
   have e1:(q++[a]).getLastD 0=a:=by simp
   have e2:(q++[a]).dropLast=q:=by simp
   have e3:=HX (q++[a]) (by simp;omega)
   rw[e2] at e3
   rw[e1,e2]
   have tl:∀rest∈Bk a t,rest.length<=10:=λrest hr=>by
    unfold Bk at hr
    obtain⟨r,hr',rfl⟩:=mem_map.mp hr
    have:=(ht r (mem_filter.mp hr').1).2
    simp;omega
   refine' JM rfl rfl HS (AT rfl (T9 rfl (AA rfl) (AF rfl (A6 rfl rfl (AA rfl) CI rfl (J8 q a (by omega))) (AF rfl (BU AR (by simp)) AR)) rfl rfl) (QC a t)) ?inner ?back
   case inner=>
    refine A5 (λrest=>AD (q++rest)) (Bk a t) λrest hr=> ?_
    exact CH rfl rfl rfl (Ak (CZ (AA rfl) Be (DM CI) Be e3) (AA rfl) (Gj q rest (by have:=tl rest hr;omega))) rfl
   case back=>rfl
end
theorem KT:∀a b:AO,D.beqL (a.map .int) (b.map .int)=decide (a=b)
 |[],[]=>rfl
 |[],_::_=>rfl
 |_::_,[]=>rfl
 |x::a,y::b=>by
  rw[map_cons,map_cons]
  unfold D.beqL
  rw[KT a b]
  have:D.beq (.int x) (.int y)=decide (x=y):=by unfold D.beq;rfl
  rw[this]
  by_cases h1:x=y<;>by_cases h2:a=b<;>simp[h1,h2]
theorem N7(a b:AO):D.beq (AD a) (AD b)=decide (a=b):=by
 unfold AD D.beq
 exact KT a b
theorem EM:∀a b:List AO,D.beqL (a.map AD) (b.map AD)=decide (a=b)
 |[],[]=>rfl
 |[],_::_=>rfl
 |_::_,[]=>rfl
 |x::a,y::b=>by
  rw[map_cons,map_cons]
  unfold D.beqL
  rw[EM a b,N7]
  by_cases h1:x=y<;>by_cases h2:a=b<;>simp[h1,h2]
theorem Ng(k:Nat)(r:AO):(r.map D.int).all (D.ok k)=true:=by
 rw[all_eq_true]
 intro x hx
 obtain⟨i,_,rfl⟩:=mem_map.mp hx
 cases k<;>rfl
theorem G5(k:Nat)(r:AO):D.ok (k+1) (AD r)=true:=by
 unfold AD D.ok
 exact Ng k r
theorem GQ(k:Nat)(a:List AO):D.ok (k+2) (.tup (a.map AD))=true:=by
 unfold D.ok
 rw[all_eq_true]
 intro x hx
 obtain⟨r,_,rfl⟩:=mem_map.mp hx
 exact G5 k r
theorem Lb(k:Nat)(a:List AO):D.ok (k+2) (.list (a.map AD))=true:=by
 unfold D.ok
 rw[all_eq_true]
 intro x hx
 obtain⟨r,_,rfl⟩:=mem_map.mp hx
 exact G5 k r
theorem KJ(a b:List AO):PF (.tup (a.map AD)) (.tup (b.map AD))=some (decide (a=b)):=by
 have e:PF (.tup (a.map AD)) (.tup (b.map AD))=if D.ok 20 (.tup (a.map AD))&&D.ok 20 (.tup (b.map AD)) then some (D.beq (.tup (a.map AD)) (.tup (b.map AD))) else none:=rfl
 rw[e,GQ,GQ]
 have:D.beq (.tup (a.map AD)) (.tup (b.map AD))=D.beqL (a.map AD) (b.map AD):=by rw[D.beq]
 rw[this,EM];rfl
theorem KK(a b:List AO):PF (.list (a.map AD)) (.list (b.map AD))=some (decide (a=b)):=by
 have e:PF (.list (a.map AD)) (.list (b.map AD))=if D.ok 20 (.list (a.map AD))&&D.ok 20 (.list (b.map AD)) then some (D.beq (.list (a.map AD)) (.list (b.map AD))) else none:=rfl
 rw[e,Lb,Lb]
 have:D.beq (.list (a.map AD)) (.list (b.map AD))=D.beqL (a.map AD) (b.map AD):=by rw[D.beq]
 rw[this,EM];rfl
theorem Lh(a b:List AO):Av .NotEq (.tup (a.map AD)) (.tup (b.map AD))=some (decide (a≠b)):=by
 have e:Av .NotEq (.tup (a.map AD)) (.tup (b.map AD))=(PF (.tup (a.map AD)) (.tup (b.map AD))).map (!·):=rfl
 rw[e,KJ]
 by_cases h:a=b<;>simp[h]
theorem QK(a b:List AO):Av .Eq (.tup (a.map AD)) (.tup (b.map AD))=some (decide (a=b)):=KJ a b
theorem EJ(a b:List AO):Av .Eq (.list (a.map AD)) (.list (b.map AD))=some (decide (a=b)):=KK a b
theorem Ie(a b:List AO):Av .NotEq (.list (a.map AD)) (.list (b.map AD))=some (decide (a≠b)):=by
 have e:Av .NotEq (.list (a.map AD)) (.list (b.map AD))=(PF (.list (a.map AD)) (.list (b.map AD))).map (!·):=rfl
 rw[e,KK]
 by_cases h:a=b<;>simp[h]
theorem HB(r:AO):∀t:List AO,Cl (AD r) (t.map AD)=decide (r∈t)
 |[]=>rfl
 |x::t=>by
  rw[map_cons]
  unfold Cl
  rw[HB r t,N7]
  by_cases h1:x=r
  ·subst h1;simp
  ·simp[h1,Ne.symm h1]
theorem E4(r:AO)(t:List AO):Av .In (AD r) (.list (t.map AD))=some (decide (r∈t)):=by
 have e:Av .In (AD r) (.list (t.map AD))=if D.ok 20 (AD r)&&(t.map AD).all (D.ok 20) then some (Cl (AD r) (t.map AD)) else none:=rfl
 have h2:(t.map AD).all (D.ok 20)=true:=by
  rw[all_eq_true];intro x hx;obtain⟨q,_,rfl⟩:=mem_map.mp hx;exact G5 19 q
 rw[e,G5,h2,HB];rfl
theorem QE(r:AO)(t:List AO):Av .In (AD r) (.tup (t.map AD))=some (decide (r∈t)):=by
 have e:Av .In (AD r) (.tup (t.map AD))=if D.ok 20 (AD r)&&(t.map AD).all (D.ok 20) then some (Cl (AD r) (t.map AD)) else none:=rfl
 have h2:(t.map AD).all (D.ok 20)=true:=by
  rw[all_eq_true];intro x hx;obtain⟨q,_,rfl⟩:=mem_map.mp hx;exact G5 19 q
 rw[e,G5,h2,HB];rfl
theorem Es(r:AO)(t:List AO):Av .NotIn (AD r) (.list (t.map AD))=some (decide (r∉t)):=by
 have e:Av .NotIn (AD r) (.list (t.map AD))=(QF (AD r) (.list (t.map AD))).map (!·):=rfl
 have e2:Av .In (AD r) (.list (t.map AD))=QF (AD r) (.list (t.map AD)):=rfl
 rw[e,<-e2,E4]
 by_cases h:r∈t<;>simp[h]
theorem Hd(r:AO)(t:List AO):Av .NotIn (AD r) (.tup (t.map AD))=some (decide (r∉t)):=by
 have e:Av .NotIn (AD r) (.tup (t.map AD))=(QF (AD r) (.tup (t.map AD))).map (!·):=rfl
 have e2:Av .In (AD r) (.tup (t.map AD))=QF (AD r) (.tup (t.map AD)):=rfl
 rw[e,<-e2,QE]
 by_cases h:r∈t<;>simp[h]
section
variable {n:Nat}{σ:St}
theorem LC(s t:List AO)(ls:s.length<=1000)(lt:t.length<=1000):AQ (n+50) (Str.ofString "is_within") [.tup (s.map AD),.tup (t.map AD)] σ=some (.bool (decide (Az s t=[])),σ):=
 EN rfl rfl (Bs (AS (Hu (AE rfl rfl rfl (AN (AB rfl (AA rfl) (AB rfl (AA rfl) AH)) rfl rfl rfl (M1 s t ls lt) rfl)) (Aj AR (by simp)) (QK (Az s t) []))))
def CA(f:String)(i:Nat):Stmt:=(AU f).body.getD i default
def DF:Stmt->Expr
 | .While t _ _ _=>t
 |_=>default
def DG:Stmt->List Stmt
 | .While _ b _ _=>b
 |_=>[]
def CC(s c:List AO):List AO:=Cb c (Bw c s)
def Gn(s:List AO):Nat->List AO->List AO
 |0,c=>c
 |k+1,c=>if CC s c=c then c else Gn s k (CC s c)
end
theorem RelOk.norm_of{m k:Nat}{l:List AO}(h1:∀r∈l,r.length=k)(h2:∀r∈l,∀a∈r,0<=a/\a<(m:Int)):RelOk m k (norm l):=
 ⟨C9 l,λr hr=>h1 r (mem_norm.mp hr),λr hr=>h2 r (mem_norm.mp hr)⟩
theorem RelOk.union{m k:Nat}{s t:List AO}(hs:RelOk m k s)(ht:RelOk m k t):RelOk m k (Cb s t):=by
 refine RelOk.norm_of (λr hr=> ?_) (λr hr=> ?_)<;>(rcases mem_append.mp hr with h|h)
 ·exact hs.len r h
 ·exact ht.len r h
 ·exact hs.ats r h
 ·exact ht.ats r h
theorem mem_union{s t:List AO}{r:AO}:r∈Cb s t↔r∈s\/r∈t:=by unfold Cb;rw[mem_norm,mem_append]
theorem mem_joinL{s t:List AO}{r:AO}:r∈Dc s t↔∃a∈s,∃b∈t,Bj b=a.getLastD 0/\r=a.dropLast++b.tail:=by
 unfold Dc Bk
 simp only[List.mem_flatMap,mem_map,mem_filter,decide_eq_true_eq]
 constructor
 ·rintro⟨a,ha,_,⟨b,⟨hb,he⟩,rfl⟩,rfl⟩;exact⟨a,ha,b,hb,he,rfl⟩
 ·rintro⟨a,ha,b,hb,he,rfl⟩;exact⟨a,ha,_,⟨b,⟨hb,he⟩,rfl⟩,rfl⟩
theorem mem_joinR{s t:List AO}{r:AO}:r∈Bw s t↔∃a∈s,∃b∈t,Bj b=a.getLastD 0/\r=a.dropLast++b.tail:=by unfold Bw;rw[mem_norm,mem_joinL]
theorem EV{m j k:Nat}{s t:List AO}(hs:RelOk m j s)(ht:RelOk m k t)(hj:1<=j)(hk:1<=k):(∀r∈Dc s t,r.length=j+k -2)/\∀r∈Dc s t,∀a∈r,0<=a/\a<(m:Int):=by
 refine⟨λr hr=> ?_,λr hr x hx=> ?_⟩
 ·obtain⟨a,ha,b,hb,_,rfl⟩:=mem_joinL.mp hr
  have h1:=hs.len a ha
  have h2:=ht.len b hb
  simp;omega
 ·obtain⟨a,ha,b,hb,_,rfl⟩:=mem_joinL.mp hr
  rcases mem_append.mp hx with h|h
  ·exact hs.ats a ha x ((List.dropLast_sublist a).subset h)
  ·exact ht.ats b hb x (List.mem_of_mem_tail h)
theorem RelOk.join{m j k:Nat}{s t:List AO}(hs:RelOk m j s)(ht:RelOk m k t)(hj:1<=j)(hk:1<=k):RelOk m (j+k -2) (Bw s t):=
 RelOk.norm_of (EV hs ht hj hk).1 (EV hs ht hj hk).2
theorem RelOk.step{m:Nat}{s c:List AO}(hs:RelOk m 2 s)(hc:RelOk m 2 c):RelOk m 2 (CC s c):=hc.union (hc.join hs (by omega) (by omega))
theorem RelOk.len12{m k:Nat}{l:List AO}(h:RelOk m k l)(hm:m<=3)(hk:k=1\/k=2):l.length<=12:=Iu (h.good hm hk) h.srt.nodup
theorem Fg{m:Nat}{s c:List AO}(hs:RelOk m 2 s)(hc:RelOk m 2 c)(hn:CC s c≠c):c.length<(CC s c).length:=by
 have hsub:∀r∈c,r∈CC s c:=λr hr=>mem_union.mpr (.inl hr)
 refine Nat.lt_of_not_le λhle=>hn ?_
 refine IN (hs.step hc).srt hc.srt λr=>⟨λhr=> ?_,hsub r⟩
 refine Classical.byContradiction λhno=> ?_
 have:=Ic (r::c) (CC s c) (nodup_cons.mpr ⟨hno,hc.srt.nodup⟩) (λa ha=>by
  rcases mem_cons.mp ha with rfl|ha
  ·exact hr
  ·exact hsub a ha)
 simp at this
 omega
theorem PS(a:Int)(t:List AO):(Bk a t).length<=t.length:=by
 unfold Bk
 rw[length_map]
 exact length_filter_le _ _
theorem Oq(s t:List AO):(Dc s t).length<=s.length*t.length:=by
 unfold Dc
 induction s with
 |nil=>simp
 |cons a s ih=>
  rw[flatMap_cons,length_append,length_map,length_cons,Nat.add_mul,Nat.one_mul]
  have:=PS (a.getLastD 0) t
  omega
theorem J6{n:Nat}{σ:St}{m j k:Nat}{s t:List AO}(hs:RelOk m j s)(ht:RelOk m k t)(hm:m<=3)(hj:j=1\/j=2)(hk:k=1\/k=2)(hjk:j+k≠2):AQ (n+60) (Str.ofString "join") [.tup (s.map AD),.tup (t.map AD)] σ=some (.tup ((Bw s t).map AD),σ):=by
 have l1:=hs.len12 hm hj
 have l2:=ht.len12 hm hk
 have hl:=Oq s t
 have hl2:s.length*t.length<=12*12:=Nat.mul_le_mul l1 l2
 have jr:=EV hs ht (by omega) (by omega)
 refine Oo s t (λr hr=> ?_) (λr hr=> ?_) (by omega) (by omega) (λr hr=> ?_) (by omega)
 ·have:=hs.len r hr
  exact⟨λq=>by rw[q] at this;simp at this;omega,by omega⟩
 ·have:=ht.len r hr
  exact⟨λq=>by rw[q] at this;simp at this;omega,by omega⟩
 ·have h3:=jr.1 r hr
  have h4:=jr.2 r hr
  have:j+k -2=1\/j+k -2=2:=by omega
  rcases this with e|e<;>rw[e] at h3
  ·match r,h3 with
   |[a],_=>have:=h4 a (by simp);simp only[CQ,and_eq_true,decide_eq_true_eq];omega
  ·match r,h3 with
   |[a,b],_=>
    have h5:=h4 a (by simp)
    have h6:=h4 b (by simp)
    simp only[CQ,and_eq_true,decide_eq_true_eq];omega
theorem DY{n:Nat}{σ:St}{m k:Nat}{s t:List AO}(hs:RelOk m k s)(ht:RelOk m k t)(hm:m<=3)(hk:k=1\/k=2):AQ (n+30) (Str.ofString "union") [.tup (s.map AD),.tup (t.map AD)] σ=some (.tup ((Cb s t).map AD),σ):=
 Md s t (hs.good hm hk) (ht.good hm hk) (by have:=hs.len12 hm hk;omega) (by have:=ht.len12 hm hk;omega)
def F4(s f c:List AO):Ev:=⟨(AU "closure").names,[(Str.ofString "s",.d (.tup (s.map AD))),(Str.ofString "found",.d (.tup (f.map AD))),(Str.ofString "late",.d (.tup (c.map AD)))],[]⟩
theorem MR{n:Nat}{σ:St}(s c:List AO):Gm (n+10) (DF (CA "closure" 1)) (DG (CA "closure" 1)) (F4 s c c) σ=some (.next,F4 s c c,σ):=by
 have h:=Lh c c
 rw[decide_eq_false (by simp)] at h
 exact T1 (AJ (AA rfl) (AA rfl) h)
theorem O4{n:Nat}{σ:St}{m:Nat}{s f c:List AO}{Y:Fl×Ev×St}(hs:RelOk m 2 s)(hc:RelOk m 2 c)(hm:m<=3)(hf:c≠f)(hY:Gm (n+80) (DF (CA "closure" 1)) (DG (CA "closure" 1)) (F4 s c (CC s c)) σ=some Y):
 Gm (n+81) (DF (CA "closure" 1)) (DG (CA "closure" 1)) (F4 s f c) σ=some Y:=by
 have h:=Lh c f
 rw[decide_eq_true hf] at h
 refine TA (AJ (AA rfl) (AA rfl) h) (AW (AP (AI rfl (AA rfl)) rfl) (AW (AP (AI rfl (AE rfl rfl rfl (AN (AB rfl (AA rfl) (AB rfl (AE rfl rfl rfl (AN (AB rfl (AA rfl) (AB rfl (AA rfl) AH)) rfl rfl rfl (J6 hc hs hm (.inr rfl) (.inr rfl) (by omega)) rfl)) AH)) rfl rfl rfl (DY hc (hc.join hs (by omega) (by omega)) hm (.inr rfl)) rfl))) rfl) BC)) ?_
 exact hY
theorem N6{s c:List AO}(h:CC s c=c):∀k,Gn s k c=c
 |0=>rfl
 |k+1=>by unfold Gn;rw[if_pos h]
theorem KP{σ:St}{m:Nat}{s:List AO}(hs:RelOk m 2 s)(hm:m<=3):∀(k:Nat)(f c:List AO),RelOk m 2 c->12 -c.length<=k->c≠f->∀n,Gm (n+81+k+1) (DF (CA "closure" 1)) (DG (CA "closure" 1)) (F4 s f c) σ=some (.next,F4 s (Gn s (k+1) c) (Gn s (k+1) c),σ)
 |k,f,c,hc,hk,hf,n=>by
  have e:n+81+k+1=(n+k+1)+81:=by omega
  rw[e]
  refine O4 hs hc hm hf ?_
  by_cases hst:CC s c=c
  ·rw[hst,N6 hst]
   exact MR (n:=n+k+71) s c
  ·have hg:=Fg hs hc hst
   have h12:=(hs.step hc).len12 hm (.inr rfl)
   cases k with
   |zero=>omega
   |succ k=>
    have ih:=KP (σ:=σ) hs hm k c (CC s c) (hs.step hc) (by omega) hst n
    have e2:n+(k+1)+1+80=n+81+k+1:=by omega
    rw[e2,ih]
    have:Gn s (k+1+1) c=Gn s (k+1) (CC s c):=by rw[Gn,if_neg hst]
    rw[this]
def CG(s:List AO):List AO:=if s=[] then [] else Gn s 13 s
theorem QM{m:Nat}{s:List AO}(hs:RelOk m 2 s):∀(k:Nat)(c:List AO),RelOk m 2 c->RelOk m 2 (Gn s k c)
 |0,c,hc=>hc
 |k+1,c,hc=>by
  unfold Gn
  split
  ·exact hc
  ·exact QM hs k _ (hs.step hc)
theorem N5{m:Nat}{s:List AO}(hs:RelOk m 2 s)(hm:m<=3):∀(k:Nat)(c:List AO),RelOk m 2 c->12 -c.length<=k->CC s (Gn s (k+1) c)=Gn s (k+1) c
 |k,c,hc,hk=>by
  unfold Gn
  split
  ·assumption
  ·rename_i hst
   have hg:=Fg hs hc hst
   have h12:=(hs.step hc).len12 hm (.inr rfl)
   cases k with
   |zero=>omega
   |succ k=>exact N5 hs hm k _ (hs.step hc) (by omega)
theorem N4{s:List AO}:∀(k:Nat)(c:List AO)(r:AO),r∈c->r∈Gn s k c
 |0,c,r,h=>h
 |k+1,c,r,h=>by
  unfold Gn
  split
  ·exact h
  ·exact N4 k _ r (mem_union.mpr (.inl h))
theorem QN{s:List AO}{X:AO->Prop}(hX:∀a,X a->∀b∈s,Bj b=a.getLastD 0->X (a.dropLast++b.tail)):∀(k:Nat)(c:List AO),(∀r∈c,X r)->∀r∈Gn s k c,X r
 |0,c,hc,r,h=>hc r h
 |k+1,c,hc,r,h=>by
  unfold Gn at h
  split at h
  ·exact hc r h
  ·refine QN hX k _ (λq hq=> ?_) r h
   rcases mem_union.mp hq with hq|hq
   ·exact hc q hq
   ·obtain⟨a,ha,b,hb,he,rfl⟩:=mem_joinR.mp hq
    exact hX a (hc a ha) b hb he
theorem DE{m:Nat}{s:List AO}(hs:RelOk m 2 s):RelOk m 2 (CG s):=by
 unfold CG
 split
 ·exact⟨List.Pairwise.nil,λr h=>(nomatch h),λr h=>(nomatch h)⟩
 ·exact QM hs _ _ hs
theorem Gf{n:Nat}{σ:St}{m:Nat}{s:List AO}(hs:RelOk m 2 s)(hm:m<=3):AQ (n+110) (Str.ofString "closure") [.tup (s.map AD)] σ=some (.tup ((CG s).map AD),σ):=by
 have e0:fnTab.lookup (Str.ofString "closure")=some ⟨(AU "closure").params,(AU "closure").names,(AU "closure").body⟩:=rfl
 refine A4 e0 rfl (AM (ρ₁:=F4 s [] s) (σ₁:=σ) (Dk rfl rfl (A0 rfl (AI rfl (Aj AR (by simp))) (A0 rfl (AI rfl (AA rfl)) Ch)) rfl) ?_)
 by_cases hse:s=[]
 ·subst hse
  have:CG []=[]:=rfl
  rw[this]
  exact AM (K5 (MR (n:=n+96) [] [])) (AK (AS (AA rfl)))
 ·have:CG s=Gn s 13 s:=by unfold CG;rw[if_neg hse]
  rw[this]
  exact AM (K5 (KP (σ:=σ) hs hm 12 [] s hs (by omega) hse (n+12))) (AK (AS (AA rfl)))
theorem Te(a b:Int):An [a] [b]=decide (a<b):=by
 by_cases h:a=b
 ·subst h;simp[An]
 ·simp[An,h]
theorem D6(m:Nat):RelOk m 1 (CS m):=by
 refine⟨?_,λr hr=> ?_,λr hr a ha=> ?_⟩
 ·unfold Srt CS
  rw[List.pairwise_map]
  exact List.Pairwise.imp (λ{a b} h=>by rw[Te];simp;exact h) List.pairwise_lt_range
 ·obtain⟨i,_,rfl⟩:=mem_map.mp hr;rfl
 ·obtain⟨i,hi,rfl⟩:=mem_map.mp hr
  have:=mem_range.mp hi
  simp at ha;subst ha;omega
theorem ED(m:Nat):RelOk m 2 (Dd m):=by
 refine⟨?_,λr hr=> ?_,λr hr a ha=> ?_⟩
 ·unfold Srt Dd
  rw[List.pairwise_map]
  refine List.Pairwise.imp (λ{a b} h=> ?_) List.pairwise_lt_range
  have:¬((a:Int)=(b:Int)):=by omega
  simp only[An,if_neg this,decide_eq_true_eq]
  omega
 ·obtain⟨i,_,rfl⟩:=mem_map.mp hr;rfl
 ·obtain⟨i,hi,rfl⟩:=mem_map.mp hr
  have:=mem_range.mp hi
  simp at ha;omega
def IM(m:Nat)(s:List AO):List AO:=Cb (CG s) (Dd m)
theorem OL{n:Nat}{σ:St}{m:Nat}{s:List AO}(hs:RelOk m 2 s)(hm:m<=3):AQ (n+130) (Str.ofString "star") [.tup (s.map AD),.int (m:Int)] σ=some (.tup ((IM m s).map AD),σ):=
 A4 rfl rfl (AK (AS (AE rfl rfl rfl (AN (AB rfl (AE rfl rfl rfl (AN (AB rfl (AA rfl) AH) rfl rfl rfl (Gf hs hm) rfl)) (AB rfl (AE rfl rfl rfl (AN (AB rfl (AA rfl) AH) rfl rfl rfl (J9 m (by omega)) rfl)) AH)) rfl rfl rfl (DY (DE hs) (ED m) hm (.inr rfl)) rfl))))
structure Bd where
 m:Nat
 nums:List (Key×D)
 bnums:List (Key×D)
 lo0:List AO
 up0:List AO
 lo1:List AO
 up1:List AO
def Bd.uniD(b:Bd):D:= .univ ((List.range b.m).map λ(i:Nat)=> .str (Str.ofString (toString (i:Int)))) b.nums
def Bd.d(b:Bd):D:= .bnds b.uniD [.tup [.str (Str.ofString "u"),.int 1,.tup (b.lo0.map AD),.tup (b.up0.map AD)],.tup [.str (Str.ofString "b"),.int 2,.tup (b.lo1.map AD),.tup (b.up1.map AD)]] b.bnums
def Bd.up(b:Bd)(i:Nat):List AO:=if i=0 then b.up0 else b.up1
theorem K1(xs:List D)(h:xs.length<=1000000):Ag "len" [.tup xs]=some (.int xs.length):=by
 simp only[Ag,h,if_true]
theorem FD{n:Nat}{σ:St}(b:Bd)(hm:b.m<=3):AQ (n+20) (Str.ofString "Universe.size") [b.uniD] σ=some (.int (b.m:Int),σ):=by
 have h:=K1 ((List.range b.m).map λ(i:Nat)=>D.str (Str.ofString (toString (i:Int)))) (by simp;omega)
 rw[length_map,List.length_range] at h
 exact A4 rfl rfl (AK (AS (AE rfl rfl rfl (BJ (b:= "len") (AB rfl (FC rfl (AA rfl) rfl) AH) rfl rfl h))))
theorem Ff{n:Nat}{σ:St}(b:Bd)(i:Nat)(hi:i=0\/i=1):AQ (n+20) (Str.ofString "Bounds.upper") [b.d,.int (i:Int)] σ=some (.tup ((b.up i).map AD),σ):=by
 have s3:AZ 3=true:=by decide
 have i0:∀(xs:List D) (x:D),Al (.list (x::xs)) (.int 0)=some x:=λxs x=>by simp[Al,Hi,small_lit.1]
 have i1:∀(xs:List D) (x y:D),Al (.list (x::y::xs)) (.int 1)=some y:=λxs x y=>by simp[Al,Hi,small_lit.2.2]
 have i3:∀(a b c d:D),Al (.tup [a,b,c,d]) (.int 3)=some d:=λa b c d=>by simp[Al,Hi,s3]
 rcases hi with rfl|rfl
 ·exact A4 rfl rfl (AK (AS (A6 rfl rfl (A6 rfl rfl (FC rfl (AA rfl) rfl) (AA rfl) rfl (i0 _ _)) AG rfl (i3 _ _ _ _))))
 ·exact A4 rfl rfl (AK (AS (A6 rfl rfl (A6 rfl rfl (FC rfl (AA rfl) rfl) (AA rfl) rfl (i1 _ _ _)) AG rfl (i3 _ _ _ _))))
theorem D4(x:D)(xs:List D):Al (.tup (x::xs)) (.int 0)=some x:=by simp[Al,Hi,small_lit.1]
theorem JQ(x y:D)(xs:List D):Al (.tup (x::y::xs)) (.int 1)=some y:=by simp[Al,Hi,small_lit.2.2]
theorem small2:AZ 2=true/\AZ 3=true/\AZ (-2)=true:=by decide
theorem Qj(x y z:D)(xs:List D):Al (.tup (x::y::z::xs)) (.int 2)=some z:=by simp[Al,Hi,small2.1]
theorem U2(x y z w:D)(xs:List D):Al (.tup (x::y::z::w::xs)) (.int 3)=some w:=by simp[Al,Hi,small2.2.1]
theorem AC{n:Nat}{t:Expr}{b:List Stmt}{ss:List Stmt}{p:Pos}{ρ ρ₁:Ev}{σ σ₁ σ₂:St}{d:D}(h1:Ed (n+1) t ρ σ=some (false,ρ₁,σ₁))(h2:Go (n+2) ss ρ₁ σ₁ d σ₂):Go (n+3) (.If t b [] p::ss) ρ σ d σ₂:=
 AM (F7 h1 (by rw[if_neg Bool.false_ne_true];exact BC)) h2
theorem Aa{n:Nat}{t:Expr}{b o:List Stmt}{ss:List Stmt}{p:Pos}{ρ ρ₁:Ev}{σ σ₁ σ₂:St}{d:D}(h1:Ed n t ρ σ=some (true,ρ₁,σ₁))(h2:Go n b ρ₁ σ₁ d σ₂):Go (n+2) (.If t b o p::ss) ρ σ d σ₂:=by
 obtain⟨ρ',h⟩:=h2
 exact AK (F7 h1 (by rw[if_pos rfl];exact h))
theorem Ea(a b:Str):D.beq (.str a) (.str b)=decide (a=b):=by unfold D.beq;rfl
theorem S0{x y:Str}{c:Bool}(hx:PyData.strOk x=true)(hy:PyData.strOk y=true)(h:decide (x=y)=c):Av .Eq (.str x) (.str y)=some c:=by
 have e:Av .Eq (.str x) (.str y)=if D.ok 20 (.str x)&&D.ok 20 (.str y) then some (D.beq (.str x) (.str y)) else none:=rfl
 have h1:D.ok 20 (.str x)=true:=hx
 have h2:D.ok 20 (.str y)=true:=hy
 rw[e,h1,h2,Ea,h];rfl
theorem RW{x a b:Str}{c:Bool}(hx:PyData.strOk x=true)(ha:PyData.strOk a=true)(hb:PyData.strOk b=true)(h:(decide (a=x)||(decide (b=x)||false))=c):Av .In (.str x) (.tup [.str a,.str b])=some c:=by
 have e:Av .In (.str x) (.tup [.str a,.str b])=if D.ok 20 (.str x)&&[D.str a,.str b].all (D.ok 20) then some (Cl (.str x) [.str a,.str b]) else none:=rfl
 have h1:D.ok 20 (.str x)=true:=hx
 have h2:[D.str a,.str b].all (D.ok 20)=true:=by
  have q1:D.ok 20 (.str a)=true:=ha
  have q2:D.ok 20 (.str b)=true:=hb
  simp[q1,q2]
 have h3:Cl (.str x) [.str a,.str b]=c:=by unfold Cl Cl Cl;rw[Ea,Ea,h]
 rw[e,h1,h2,h3];rfl
theorem RV{x a b d:Str}{c:Bool}(hx:PyData.strOk x=true)(ha:PyData.strOk a=true)(hb:PyData.strOk b=true)(hd:PyData.strOk d=true)(h:(decide (a=x)||(decide (b=x)||(decide (d=x)||false)))=c):Av .In (.str x) (.tup [.str a,.str b,.str d])=some c:=by
 have e:Av .In (.str x) (.tup [.str a,.str b,.str d])=if D.ok 20 (.str x)&&[D.str a,.str b,.str d].all (D.ok 20) then some (Cl (.str x) [.str a,.str b,.str d]) else none:=rfl
 have h1:D.ok 20 (.str x)=true:=hx
 have h2:[D.str a,.str b,.str d].all (D.ok 20)=true:=by
  have q1:D.ok 20 (.str a)=true:=ha
  have q2:D.ok 20 (.str b)=true:=hb
  have q3:D.ok 20 (.str d)=true:=hd
  simp[q1,q2,q3]
 have h3:Cl (.str x) [.str a,.str b,.str d]=c:=by unfold Cl Cl Cl Cl;rw[Ea,Ea,Ea,h]
 rw[e,h1,h2,h3];rfl
def litS:List String:=["rel","var","tuples","univ","none","iden","join","turn","closure","star","product","ahead","behind","union","meet","minus","override","comp","either","in","some","x","y","z","u","b"]
theorem VS:∀s∈litS,PyData.strOk (Str.ofString s)=true:=by decide+kernel
theorem Fi{s:String}(h:litS.contains s=true):PyData.strOk (Str.ofString s)=true:=VS s (by simpa using h)
theorem EZ{a b:String}{c:Bool}(ha:litS.contains a=true)(hb:litS.contains b=true)(h:decide (Str.ofString a=Str.ofString b)=c):Av .Eq (.str (Str.ofString a)) (.str (Str.ofString b))=some c:=S0 (Fi ha) (Fi hb) h
theorem Kl{x a b:String}{c:Bool}(hx:litS.contains x=true)(ha:litS.contains a=true)(hb:litS.contains b=true)(h:(decide (Str.ofString a=Str.ofString x)||(decide (Str.ofString b=Str.ofString x)||false))=c):Av .In (.str (Str.ofString x)) (.tup [.str (Str.ofString a),.str (Str.ofString b)])=some c:=RW (Fi hx) (Fi ha) (Fi hb) h
theorem Nr{x a b d:String}{c:Bool}(hx:litS.contains x=true)(ha:litS.contains a=true)(hb:litS.contains b=true)(hd:litS.contains d=true)(h:(decide (Str.ofString a=Str.ofString x)||(decide (Str.ofString b=Str.ofString x)||(decide (Str.ofString d=Str.ofString x)||false)))=c):
 Av .In (.str (Str.ofString x)) (.tup [.str (Str.ofString a),.str (Str.ofString b),.str (Str.ofString d)])=some c:=RV (Fi hx) (Fi ha) (Fi hb) (Fi hd) h
def Ta:D->Bool
 | .feed=>false
 |_=>true
section
variable {n:Nat}{ρ ρ₁:Ev}{σ:St}{x:Str}{p q pos pos2:Pos}{k k2 k3 k4:Nat}{a b d e:String}{c:Bool}{D1 D2:D}{i:Int}
theorem Tq(h:Jx ρ x=some (.str (Str.ofString a),ρ₁))(ha:litS.contains a=true)(hb:litS.contains b=true)(hc:decide (Str.ofString a=Str.ofString b)=c):Ed (n+2) (.Compare (.Name x p) [.Eq] [.Constant (.str (Str.ofString b)) k q] pos) ρ σ=some (c,ρ₁,σ):=AJ (AA h) AY (EZ ha hb hc)
theorem Fa{p1 p2:Pos}(h:Jx ρ x=some (.str (Str.ofString a),ρ₁))(h0:litS.contains a=true)(h1:litS.contains b=true)(h2:litS.contains d=true)(hc:(decide (Str.ofString b=Str.ofString a)||(decide (Str.ofString d=Str.ofString a)||false))=c):
 Ed (n+5) (.Compare (.Name x p) [.In] [.Tuple [.Constant (.str (Str.ofString b)) k p1,.Constant (.str (Str.ofString d)) k2 p2] k3 q] pos) ρ σ=some (c,ρ₁,σ):=AJ (AA h) (Aj (AF rfl AY (AF rfl AY AR)) (by simp)) (Kl h0 h1 h2 hc)
theorem Gp{p1 p2 p3:Pos}(h:Jx ρ x=some (.str (Str.ofString a),ρ₁))(h0:litS.contains a=true)(h1:litS.contains b=true)(h2:litS.contains d=true)(h3:litS.contains e=true)(hc:(decide (Str.ofString b=Str.ofString a)||(decide (Str.ofString d=Str.ofString a)||(decide (Str.ofString e=Str.ofString a)||false)))=c):
 Ed (n+6) (.Compare (.Name x p) [.In] [.Tuple [.Constant (.str (Str.ofString b)) k p1,.Constant (.str (Str.ofString d)) k2 p2,.Constant (.str (Str.ofString e)) k4 p3] k3 q] pos) ρ σ=some (c,ρ₁,σ):=AJ (AA h) (Aj (AF rfl AY (AF rfl AY (AF rfl AY AR))) (by simp)) (Nr h0 h1 h2 h3 hc)
theorem Ei(h:Jx ρ x=some (D1,ρ₁))(hf:Ta D1=true)(hi:Al D1 (.int i)=some D2):Aq (n+2) (.Subscript (.Name x p) (.Constant (.int i) k q) pos) ρ σ=some (D2,ρ₁,σ):=A6 rfl rfl (AA h) AG (by cases D1<;>first|rfl|cases hf) hi
end
mutual
inductive Ex where
 |rel (i:Nat)|var (x:Str)|tup1|tup2|univ|none1|iden
 |join (a b:Ex)|turn (a:Ex)|clo (a:Ex)|star (a:Ex)|prod (a b:Ex)|ahead (a b:Ex)|behind (a b:Ex)
 |sign (s:Nat) (a b:Ex)
 |comp1 (a:Ex) (f:Fm)|comp2 (a b:Ex) (f:Fm)|either (f:Fm) (a b:Ex)
inductive Fm where
 |inn (a b:Ex)|some (a:Ex)
end
def Am(s:String):D:= .str (Str.ofString s)
def Jl(s:Nat):String:=if s=0 then "union" else if s=1 then "meet" else if s=2 then "minus" else "override"
mutual
def Ex.toD:Ex->D
 | .rel i=> .tup [Am "rel",.int (i:Int)]
 | .var x=> .tup [Am "var",.str x]
 | .tup1=> .tup [Am "tuples",.int 1,.tup ([[0]].map AD)]
 | .tup2=> .tup [Am "tuples",.int 2,.tup ([[0,1],[1,1]].map AD)]
 | .univ=> .tup [Am "univ"]
 | .none1=> .tup [Am "none",.int 1]
 | .iden=> .tup [Am "iden"]
 | .join a b=> .tup [Am "join",a.toD,b.toD]
 | .turn a=> .tup [Am "turn",a.toD]
 | .clo a=> .tup [Am "closure",a.toD]
 | .star a=> .tup [Am "star",a.toD]
 | .prod a b=> .tup [Am "product",a.toD,b.toD]
 | .ahead a b=> .tup [Am "ahead",a.toD,b.toD]
 | .behind a b=> .tup [Am "behind",a.toD,b.toD]
 | .sign s a b=> .tup [Am (Jl s),a.toD,b.toD]
 | .comp1 a f=> .tup [Am "comp",.tup [.tup [Am "y",a.toD]],f.toD]
 | .comp2 a b f=> .tup [Am "comp",.tup [.tup [Am "y",a.toD],.tup [Am "z",b.toD]],f.toD]
 | .either f a b=> .tup [Am "either",f.toD,a.toD,b.toD]
def Fm.toD:Fm->D
 | .inn a b=> .tup [Am "in",a.toD,b.toD]
 | .some a=> .tup [Am "some",a.toD]
end
def C8(u:List (Str×List AO)):List (Key×D):=u.map λp=>(.s p.1,.tup (p.2.map AD))
section
variable {n:Nat}{σ:St}
theorem PK(b:Bd)(u:List (Str×List AO))(i:Nat)(hi:i=0\/i=1):AQ (n+100) (Str.ofString "upper_of") [(Ex.rel i).toD,b.d,.dict (C8 u)] σ=some (.tup ((b.up i).map AD),σ):=
 A4 rfl rfl (AM (AP (AI rfl (Ei rfl rfl (D4 _ _))) rfl) (Aa (Tq rfl rfl rfl rfl) (AK (AS (F8 rfl (AA rfl) (AF rfl (Ei rfl rfl (JQ _ _ _)) AR) rfl (Ff b i hi))))))
theorem Qo(b:Bd)(u:List (Str×List AO)):AQ (n+100) (Str.ofString "upper_of") [Ex.tup1.toD,b.d,.dict (C8 u)] σ=some (.tup ([[0]].map AD),σ):=
 A4 rfl rfl (AM (AP (AI rfl (Ei rfl rfl (D4 _ _))) rfl) (AC (Tq rfl rfl rfl rfl) (AC (Tq rfl rfl rfl rfl) (Aa (Tq rfl rfl rfl rfl) (AK (AS (Ei rfl rfl (Qj _ _ _ _))))))))
theorem Ql(b:Bd)(u:List (Str×List AO))(hm:b.m<=3):AQ (n+100) (Str.ofString "upper_of") [Ex.univ.toD,b.d,.dict (C8 u)] σ=some (.tup ((CS b.m).map AD),σ):=
 A4 rfl rfl (AM (AP (AI rfl (Ei rfl rfl (D4 _ _))) rfl) (AC (Tq rfl rfl rfl rfl) (AC (Tq rfl rfl rfl rfl) (AC (Tq rfl rfl rfl rfl) (AC (Tq rfl rfl rfl rfl)
  (Aa (Fa rfl rfl rfl rfl rfl) (AK (AS (Bm (c:=true) (Tq rfl rfl rfl rfl) (AE rfl rfl rfl (AN (AB rfl (F8 rfl (FC rfl (AA rfl) rfl) AR rfl (FD b hm)) AH) rfl rfl rfl (OH b.m (by omega)) rfl)))))))))))
theorem SC:∀(u:List (Str×List AO))(x:Str)(rs:List AO),u.lookup x=some rs->Af (Key.s x) (C8 u)=some (.tup (rs.map AD))
 |[],_,_,h=>by cases h
 |(y,q)::u,x,rs,h=>by
  rw[lookup_cons] at h
  unfold C8
  rw[map_cons]
  unfold Af
  dsimp only
  cases hxy:x==y with
  |true=>
   have e:=eq_of_beq hxy
   subst e
   rw[hxy] at h
   cases h
   rw[if_pos rfl]
  |false=>
   rw[hxy] at h
   have:¬(Key.s y=Key.s x):=λq=>by cases q;simp at hxy
   rw[if_neg this]
   exact SC u x rs h
theorem SE(b:Bd)(u:List (Str×List AO))(x:Str)(rs:List AO)(h:u.lookup x=some rs):AQ (n+100) (Str.ofString "upper_of") [(Ex.var x).toD,b.d,.dict (C8 u)] σ=some (.tup (rs.map AD),σ):=
 A4 rfl rfl (AM (AP (AI rfl (Ei rfl rfl (D4 _ _))) rfl) (AC (Tq rfl rfl rfl rfl) (Aa (Tq rfl rfl rfl rfl) (AK (AS (A6 rfl rfl (AA rfl) (Ei rfl rfl (JQ _ _ _)) rfl (SC u x rs h)))))))
theorem Qn(b:Bd)(u:List (Str×List AO)):AQ (n+100) (Str.ofString "upper_of") [Ex.tup2.toD,b.d,.dict (C8 u)] σ=some (.tup ([[0,1],[1,1]].map AD),σ):=
 A4 rfl rfl (AM (AP (AI rfl (Ei rfl rfl (D4 _ _))) rfl) (AC (Tq rfl rfl rfl rfl) (AC (Tq rfl rfl rfl rfl) (Aa (Tq rfl rfl rfl rfl) (AK (AS (Ei rfl rfl (Qj _ _ _ _))))))))
theorem Qs(b:Bd)(u:List (Str×List AO)):AQ (n+100) (Str.ofString "upper_of") [Ex.none1.toD,b.d,.dict (C8 u)] σ=some (.tup (([]:List AO).map AD),σ):=
 A4 rfl rfl (AM (AP (AI rfl (Ei rfl rfl (D4 _ _))) rfl) (AC (Tq rfl rfl rfl rfl) (AC (Tq rfl rfl rfl rfl) (AC (Tq rfl rfl rfl rfl) (Aa (Tq rfl rfl rfl rfl) (AK (AS (Aj AR (by simp)))))))))
theorem Qu(b:Bd)(u:List (Str×List AO))(hm:b.m<=3):AQ (n+100) (Str.ofString "upper_of") [Ex.iden.toD,b.d,.dict (C8 u)] σ=some (.tup ((Dd b.m).map AD),σ):=
 A4 rfl rfl (AM (AP (AI rfl (Ei rfl rfl (D4 _ _))) rfl) (AC (Tq rfl rfl rfl rfl) (AC (Tq rfl rfl rfl rfl) (AC (Tq rfl rfl rfl rfl) (AC (Tq rfl rfl rfl rfl)
  (Aa (Fa rfl rfl rfl rfl rfl) (AK (AS (Bm (c:=false) (Tq rfl rfl rfl rfl) (AE rfl rfl rfl (AN (AB rfl (F8 rfl (FC rfl (AA rfl) rfl) AR rfl (FD b hm)) AH) rfl rfl rfl (J9 b.m (by omega)) rfl)))))))))))
theorem Pl(b:Bd){s:List AO}(hs:RelOk b.m 2 s)(hm:b.m<=3):AQ (n+150) (Str.ofString "upper_of_one") [Am "turn",.tup (s.map AD),b.d] σ=some (.tup ((II s).map AD),σ):=
 A4 rfl rfl (Aa (Tq rfl rfl rfl rfl) (AK (AS (AE rfl rfl rfl (AN (AB rfl (AA rfl) AH) rfl rfl rfl (LI s hs.len (hs.good hm (.inr rfl)) (by have:=hs.len12 hm (.inr rfl);omega)) rfl)))))
theorem RC(b:Bd){s:List AO}(hs:RelOk b.m 2 s)(hm:b.m<=3):AQ (n+150) (Str.ofString "upper_of_one") [Am "closure",.tup (s.map AD),b.d] σ=some (.tup ((CG s).map AD),σ):=
 A4 rfl rfl (AC (Tq rfl rfl rfl rfl) (AK (AS (Bm (c:=true) (Tq rfl rfl rfl rfl) (AE rfl rfl rfl (AN (AB rfl (AA rfl) AH) rfl rfl rfl (Gf hs hm) rfl))))))
theorem Po(b:Bd){s:List AO}(hs:RelOk b.m 2 s)(hm:b.m<=3):AQ (n+150) (Str.ofString "upper_of_one") [Am "star",.tup (s.map AD),b.d] σ=some (.tup ((IM b.m s).map AD),σ):=
 A4 rfl rfl (AC (Tq rfl rfl rfl rfl) (AK (AS (Bm (c:=false) (Tq rfl rfl rfl rfl) (AE rfl rfl rfl (AN (AB rfl (AA rfl) (AB rfl (F8 rfl (FC rfl (AA rfl) rfl) AR rfl (FD b hm)) AH)) rfl rfl rfl (OL hs hm) rfl))))))
end
theorem NY:AZ (-2)=true:=by decide
theorem NA(x y z:D):Al (.tup [x,y,z]) (.int (-2))=some y:=by simp[Al,Hi,NY]
theorem NB(x y z:D):Al (.tup [x,y,z]) (.int (-1))=some z:=by simp[Al,Hi,small_lit.2.1]
theorem Ti(x y z w:D):Al (.tup [x,y,z,w]) (.int (-2))=some z:=by simp[Al,Hi,NY]
theorem Tj(x y z w:D):Al (.tup [x,y,z,w]) (.int (-1))=some w:=by simp[Al,Hi,small_lit.2.1]
def UpIs(b:Bd)(e:Ex)(u:List (Str×List AO))(K:Nat)(rs:List AO):Prop:=∀N σ,K<=N->AQ N (Str.ofString "upper_of") [e.toD,b.d,.dict (C8 u)] σ=some (.tup (rs.map AD),σ)
theorem PJ{b:Bd}{u:List (Str×List AO)}{K:Nat}{ea eb:Ex}{ra rb:List AO}{k:Nat}(hk:k=1\/k=2)(hm:b.m<=3)(h1:RelOk b.m k ra)(h2:RelOk b.m k rb)(hK:150<=K)(ha:UpIs b ea u K ra)(hb:UpIs b eb u K rb):UpIs b (.sign 0 ea eb) u (K+60) (Cb ra rb):=by
 intro N σ hN
 obtain⟨M,rfl⟩:∃M,N=M+210:=⟨N -210,by omega⟩
 exact A4 rfl rfl (AM (AP (AI rfl (Ei rfl rfl (D4 _ _))) rfl) (AC (Tq rfl rfl rfl rfl) (AC (Tq rfl rfl rfl rfl) (AC (Tq rfl rfl rfl rfl) (AC (Tq rfl rfl rfl rfl) (AC (Fa rfl rfl rfl rfl rfl) (AC (Tq rfl rfl rfl rfl) (AC (Tq rfl rfl rfl rfl) (AC (Gp rfl rfl rfl rfl rfl rfl) (AM (Dk rfl rfl (A0 rfl (AI rfl (AE rfl rfl rfl (AN (AB rfl (A6 rfl rfl (AA rfl) CI rfl (NA _ _ _)) (AB rfl (AA rfl) (AB rfl (AA rfl) AH))) rfl rfl rfl (ha _ _ (by omega)) rfl))) (A0 rfl (AI rfl (AE rfl rfl rfl (AN (AB rfl (A6 rfl rfl (AA rfl) CI rfl (NB _ _ _)) (AB rfl (AA rfl) (AB rfl (AA rfl) AH))) rfl rfl rfl (hb _ _ (by omega)) rfl))) Ch)) rfl) (Aa (Gp rfl rfl rfl rfl rfl rfl) (AK (AS (AE rfl rfl rfl (AN (AB rfl (AA rfl) (AB rfl (AA rfl) AH)) rfl rfl rfl (DY h1 h2 hm hk) rfl)))))))))))))))
theorem Qr{b:Bd}{u:List (Str×List AO)}{K:Nat}{ea eb:Ex}{ra rb:List AO}{k:Nat}(hk:k=1\/k=2)(hm:b.m<=3)(h1:RelOk b.m k ra)(h2:RelOk b.m k rb)(hK:150<=K)(ha:UpIs b ea u K ra)(hb:UpIs b eb u K rb):UpIs b (.sign 3 ea eb) u (K+60) (Cb ra rb):=by
 intro N σ hN
 obtain⟨M,rfl⟩:∃M,N=M+210:=⟨N -210,by omega⟩
 exact A4 rfl rfl (AM (AP (AI rfl (Ei rfl rfl (D4 _ _))) rfl) (AC (Tq rfl rfl rfl rfl) (AC (Tq rfl rfl rfl rfl) (AC (Tq rfl rfl rfl rfl) (AC (Tq rfl rfl rfl rfl) (AC (Fa rfl rfl rfl rfl rfl) (AC (Tq rfl rfl rfl rfl) (AC (Tq rfl rfl rfl rfl) (AC (Gp rfl rfl rfl rfl rfl rfl) (AM (Dk rfl rfl (A0 rfl (AI rfl (AE rfl rfl rfl (AN (AB rfl (A6 rfl rfl (AA rfl) CI rfl (NA _ _ _)) (AB rfl (AA rfl) (AB rfl (AA rfl) AH))) rfl rfl rfl (ha _ _ (by omega)) rfl))) (A0 rfl (AI rfl (AE rfl rfl rfl (AN (AB rfl (A6 rfl rfl (AA rfl) CI rfl (NB _ _ _)) (AB rfl (AA rfl) (AB rfl (AA rfl) AH))) rfl rfl rfl (hb _ _ (by omega)) rfl))) Ch)) rfl) (Aa (Gp rfl rfl rfl rfl rfl rfl) (AK (AS (AE rfl rfl rfl (AN (AB rfl (AA rfl) (AB rfl (AA rfl) AH)) rfl rfl rfl (DY h1 h2 hm hk) rfl)))))))))))))))
theorem OF{b:Bd}{u:List (Str×List AO)}{K:Nat}{ea eb:Ex}{ra rb:List AO}{f:Fm}{k:Nat}(hk:k=1\/k=2)(hm:b.m<=3)(h1:RelOk b.m k ra)(h2:RelOk b.m k rb)(hK:150<=K)(ha:UpIs b ea u K ra)(hb:UpIs b eb u K rb):UpIs b (.either f ea eb) u (K+60) (Cb ra rb):=by
 intro N σ hN
 obtain⟨M,rfl⟩:∃M,N=M+210:=⟨N -210,by omega⟩
 exact A4 rfl rfl (AM (AP (AI rfl (Ei rfl rfl (D4 _ _))) rfl) (AC (Tq rfl rfl rfl rfl) (AC (Tq rfl rfl rfl rfl) (AC (Tq rfl rfl rfl rfl) (AC (Tq rfl rfl rfl rfl) (AC (Fa rfl rfl rfl rfl rfl) (AC (Tq rfl rfl rfl rfl) (AC (Tq rfl rfl rfl rfl) (AC (Gp rfl rfl rfl rfl rfl rfl) (AM (Dk rfl rfl (A0 rfl (AI rfl (AE rfl rfl rfl (AN (AB rfl (A6 rfl rfl (AA rfl) CI rfl (Ti _ _ _ _)) (AB rfl (AA rfl) (AB rfl (AA rfl) AH))) rfl rfl rfl (ha _ _ (by omega)) rfl))) (A0 rfl (AI rfl (AE rfl rfl rfl (AN (AB rfl (A6 rfl rfl (AA rfl) CI rfl (Tj _ _ _ _)) (AB rfl (AA rfl) (AB rfl (AA rfl) AH))) rfl rfl rfl (hb _ _ (by omega)) rfl))) Ch)) rfl) (Aa (Gp rfl rfl rfl rfl rfl rfl) (AK (AS (AE rfl rfl rfl (AN (AB rfl (AA rfl) (AB rfl (AA rfl) AH)) rfl rfl rfl (DY h1 h2 hm hk) rfl)))))))))))))))
theorem Qt{b:Bd}{u:List (Str×List AO)}{K:Nat}{ea eb:Ex}{ra rb:List AO}{k:Nat}(hk:k=1\/k=2)(hm:b.m<=3)(h1:RelOk b.m k ra)(h2:RelOk b.m k rb)(hK:150<=K)(ha:UpIs b ea u K ra)(hb:UpIs b eb u K rb):UpIs b (.sign 1 ea eb) u (K+60) (Lk ra rb):=by
 intro N σ hN
 obtain⟨M,rfl⟩:∃M,N=M+210:=⟨N -210,by omega⟩
 exact A4 rfl rfl (AM (AP (AI rfl (Ei rfl rfl (D4 _ _))) rfl) (AC (Tq rfl rfl rfl rfl) (AC (Tq rfl rfl rfl rfl) (AC (Tq rfl rfl rfl rfl) (AC (Tq rfl rfl rfl rfl) (AC (Fa rfl rfl rfl rfl rfl) (AC (Tq rfl rfl rfl rfl) (AC (Tq rfl rfl rfl rfl) (AC (Gp rfl rfl rfl rfl rfl rfl) (AM (Dk rfl rfl (A0 rfl (AI rfl (AE rfl rfl rfl (AN (AB rfl (A6 rfl rfl (AA rfl) CI rfl (NA _ _ _)) (AB rfl (AA rfl) (AB rfl (AA rfl) AH))) rfl rfl rfl (ha _ _ (by omega)) rfl))) (A0 rfl (AI rfl (AE rfl rfl rfl (AN (AB rfl (A6 rfl rfl (AA rfl) CI rfl (NB _ _ _)) (AB rfl (AA rfl) (AB rfl (AA rfl) AH))) rfl rfl rfl (hb _ _ (by omega)) rfl))) Ch)) rfl) (AC (Gp rfl rfl rfl rfl rfl rfl) (Aa (Tq rfl rfl rfl rfl) (AK (AS (AE rfl rfl rfl (AN (AB rfl (AA rfl) (AB rfl (AA rfl) AH)) rfl rfl rfl (Od ra rb (by have:=h1.len12 hm hk;omega) (by have:=h2.len12 hm hk;omega)) rfl))))))))))))))))
theorem KW{b:Bd}{u:List (Str×List AO)}{K:Nat}{ea eb:Ex}{ra rb:List AO}{j k:Nat}(hj:j=1\/j=2)(hk:k=1\/k=2)(hjk:j+k≠2)(hm:b.m<=3)(h1:RelOk b.m j ra)(h2:RelOk b.m k rb)(hK:150<=K)(ha:UpIs b ea u K ra)(hb:UpIs b eb u K rb):UpIs b (.join ea eb) u (K+60) (Bw ra rb):=by
 intro N σ hN
 obtain⟨M,rfl⟩:∃M,N=M+210:=⟨N -210,by omega⟩
 exact A4 rfl rfl (AM (AP (AI rfl (Ei rfl rfl (D4 _ _))) rfl) (AC (Tq rfl rfl rfl rfl) (AC (Tq rfl rfl rfl rfl) (AC (Tq rfl rfl rfl rfl) (AC (Tq rfl rfl rfl rfl) (AC (Fa rfl rfl rfl rfl rfl) (AC (Tq rfl rfl rfl rfl) (AC (Tq rfl rfl rfl rfl) (AC (Gp rfl rfl rfl rfl rfl rfl) (AM (Dk rfl rfl (A0 rfl (AI rfl (AE rfl rfl rfl (AN (AB rfl (A6 rfl rfl (AA rfl) CI rfl (NA _ _ _)) (AB rfl (AA rfl) (AB rfl (AA rfl) AH))) rfl rfl rfl (ha _ _ (by omega)) rfl))) (A0 rfl (AI rfl (AE rfl rfl rfl (AN (AB rfl (A6 rfl rfl (AA rfl) CI rfl (NB _ _ _)) (AB rfl (AA rfl) (AB rfl (AA rfl) AH))) rfl rfl rfl (hb _ _ (by omega)) rfl))) Ch)) rfl) (AC (Gp rfl rfl rfl rfl rfl rfl) (AC (Tq rfl rfl rfl rfl) (Aa (Tq rfl rfl rfl rfl) (AK (AS (AE rfl rfl rfl (AN (AB rfl (AA rfl) (AB rfl (AA rfl) AH)) rfl rfl rfl (J6 h1 h2 hm hj hk hjk) rfl)))))))))))))))))
theorem Qq{b:Bd}{u:List (Str×List AO)}{K:Nat}{ea eb:Ex}{ra rb:List AO}(hm:b.m<=3)(h1:RelOk b.m 1 ra)(h2:RelOk b.m 1 rb)(hK:150<=K)(ha:UpIs b ea u K ra)(hb:UpIs b eb u K rb):UpIs b (.prod ea eb) u (K+60) (CE ra rb):=by
 intro N σ hN
 obtain⟨M,rfl⟩:∃M,N=M+210:=⟨N -210,by omega⟩
 exact A4 rfl rfl (AM (AP (AI rfl (Ei rfl rfl (D4 _ _))) rfl) (AC (Tq rfl rfl rfl rfl) (AC (Tq rfl rfl rfl rfl) (AC (Tq rfl rfl rfl rfl) (AC (Tq rfl rfl rfl rfl) (AC (Fa rfl rfl rfl rfl rfl) (AC (Tq rfl rfl rfl rfl) (AC (Tq rfl rfl rfl rfl) (AC (Gp rfl rfl rfl rfl rfl rfl) (AM (Dk rfl rfl (A0 rfl (AI rfl (AE rfl rfl rfl (AN (AB rfl (A6 rfl rfl (AA rfl) CI rfl (NA _ _ _)) (AB rfl (AA rfl) (AB rfl (AA rfl) AH))) rfl rfl rfl (ha _ _ (by omega)) rfl))) (A0 rfl (AI rfl (AE rfl rfl rfl (AN (AB rfl (A6 rfl rfl (AA rfl) CI rfl (NB _ _ _)) (AB rfl (AA rfl) (AB rfl (AA rfl) AH))) rfl rfl rfl (hb _ _ (by omega)) rfl))) Ch)) rfl) (AC (Gp rfl rfl rfl rfl rfl rfl) (AC (Tq rfl rfl rfl rfl) (AC (Tq rfl rfl rfl rfl) (Aa (Tq rfl rfl rfl rfl) (AK (AS (AE rfl rfl rfl (AN (AB rfl (AA rfl) (AB rfl (AA rfl) AH)) rfl rfl rfl (GN ra rb (λr hr=>by have:=h1.len r hr;omega) (λr hr=>by have:=h2.len r hr;omega) (by have:=h1.len12 hm (.inl rfl);omega) (by have:=h2.len12 hm (.inl rfl);omega)) rfl))))))))))))))))))
theorem PO{b:Bd}{u:List (Str×List AO)}{K:Nat}{ea eb:Ex}{ra rb:List AO}(hm:b.m<=3)(h1:RelOk b.m 1 ra)(h2:RelOk b.m 2 rb)(hK:150<=K)(ha:UpIs b ea u K ra)(hb:UpIs b eb u K rb):UpIs b (.ahead ea eb) u (K+60) (HQ ra rb):=by
 intro N σ hN
 obtain⟨M,rfl⟩:∃M,N=M+210:=⟨N -210,by omega⟩
 exact A4 rfl rfl (AM (AP (AI rfl (Ei rfl rfl (D4 _ _))) rfl) (AC (Tq rfl rfl rfl rfl) (AC (Tq rfl rfl rfl rfl) (AC (Tq rfl rfl rfl rfl) (AC (Tq rfl rfl rfl rfl) (AC (Fa rfl rfl rfl rfl rfl) (AC (Tq rfl rfl rfl rfl) (AC (Tq rfl rfl rfl rfl) (AC (Gp rfl rfl rfl rfl rfl rfl) (AM (Dk rfl rfl (A0 rfl (AI rfl (AE rfl rfl rfl (AN (AB rfl (A6 rfl rfl (AA rfl) CI rfl (NA _ _ _)) (AB rfl (AA rfl) (AB rfl (AA rfl) AH))) rfl rfl rfl (ha _ _ (by omega)) rfl))) (A0 rfl (AI rfl (AE rfl rfl rfl (AN (AB rfl (A6 rfl rfl (AA rfl) CI rfl (NB _ _ _)) (AB rfl (AA rfl) (AB rfl (AA rfl) AH))) rfl rfl rfl (hb _ _ (by omega)) rfl))) Ch)) rfl) (AC (Gp rfl rfl rfl rfl rfl rfl) (AC (Tq rfl rfl rfl rfl) (AC (Tq rfl rfl rfl rfl) (AC (Tq rfl rfl rfl rfl) (AK (AS (Bm (c:=true) (Tq rfl rfl rfl rfl) (AE rfl rfl rfl (AN (AB rfl (AA rfl) (AB rfl (AA rfl) AH)) rfl rfl rfl (NR ra rb (by have:=h1.len12 hm (.inl rfl);omega) (by have:=h2.len12 hm (.inr rfl);omega) (λr hr=>by have:=h2.len r hr;omega)) rfl)))))))))))))))))))
theorem OG{b:Bd}{u:List (Str×List AO)}{K:Nat}{ea eb:Ex}{ra rb:List AO}(hm:b.m<=3)(h1:RelOk b.m 2 ra)(h2:RelOk b.m 1 rb)(hK:150<=K)(ha:UpIs b ea u K ra)(hb:UpIs b eb u K rb):UpIs b (.behind ea eb) u (K+60) (FP ra rb):=by
 intro N σ hN
 obtain⟨M,rfl⟩:∃M,N=M+210:=⟨N -210,by omega⟩
 exact A4 rfl rfl (AM (AP (AI rfl (Ei rfl rfl (D4 _ _))) rfl) (AC (Tq rfl rfl rfl rfl) (AC (Tq rfl rfl rfl rfl) (AC (Tq rfl rfl rfl rfl) (AC (Tq rfl rfl rfl rfl) (AC (Fa rfl rfl rfl rfl rfl) (AC (Tq rfl rfl rfl rfl) (AC (Tq rfl rfl rfl rfl) (AC (Gp rfl rfl rfl rfl rfl rfl) (AM (Dk rfl rfl (A0 rfl (AI rfl (AE rfl rfl rfl (AN (AB rfl (A6 rfl rfl (AA rfl) CI rfl (NA _ _ _)) (AB rfl (AA rfl) (AB rfl (AA rfl) AH))) rfl rfl rfl (ha _ _ (by omega)) rfl))) (A0 rfl (AI rfl (AE rfl rfl rfl (AN (AB rfl (A6 rfl rfl (AA rfl) CI rfl (NB _ _ _)) (AB rfl (AA rfl) (AB rfl (AA rfl) AH))) rfl rfl rfl (hb _ _ (by omega)) rfl))) Ch)) rfl) (AC (Gp rfl rfl rfl rfl rfl rfl) (AC (Tq rfl rfl rfl rfl) (AC (Tq rfl rfl rfl rfl) (AC (Tq rfl rfl rfl rfl) (AK (AS (Bm (c:=false) (Tq rfl rfl rfl rfl) (AE rfl rfl rfl (AN (AB rfl (AA rfl) (AB rfl (AA rfl) AH)) rfl rfl rfl (MT rb ra (by have:=h2.len12 hm (.inl rfl);omega) (by have:=h1.len12 hm (.inr rfl);omega) (λr hr=>by have:=h1.len r hr;omega)) rfl)))))))))))))))))))
theorem PL{b:Bd}{u:List (Str×List AO)}{K:Nat}{ea eb:Ex}{ra:List AO}(hK:150<=K)(ha:UpIs b ea u K ra):UpIs b (.sign 2 ea eb) u (K+60) (ra):=by
 intro N σ hN
 obtain⟨M,rfl⟩:∃M,N=M+210:=⟨N -210,by omega⟩
 exact A4 rfl rfl (AM (AP (AI rfl (Ei rfl rfl (D4 _ _))) rfl) (AC (Tq rfl rfl rfl rfl) (AC (Tq rfl rfl rfl rfl) (AC (Tq rfl rfl rfl rfl) (AC (Tq rfl rfl rfl rfl) (AC (Fa rfl rfl rfl rfl rfl) (AC (Tq rfl rfl rfl rfl) (Aa (Tq rfl rfl rfl rfl) (AK (AS (AE rfl rfl rfl (AN (AB rfl (Ei rfl rfl (JQ _ _ _)) (AB rfl (AA rfl) (AB rfl (AA rfl) AH))) rfl rfl rfl (ha _ _ (by omega)) rfl))))))))))))
theorem Qm{b:Bd}{u:List (Str×List AO)}{K:Nat}{ea:Ex}{ra:List AO}(hm:b.m<=3)(h1:RelOk b.m 2 ra)(hK:150<=K)(ha:UpIs b ea u K ra):UpIs b (.turn ea) u (K+60) (II ra):=by
 intro N σ hN
 obtain⟨M,rfl⟩:∃M,N=M+210:=⟨N -210,by omega⟩
 exact A4 rfl rfl (AM (AP (AI rfl (Ei rfl rfl (D4 _ _))) rfl) (AC (Tq rfl rfl rfl rfl) (AC (Tq rfl rfl rfl rfl) (AC (Tq rfl rfl rfl rfl) (AC (Tq rfl rfl rfl rfl) (AC (Fa rfl rfl rfl rfl rfl) (AC (Tq rfl rfl rfl rfl) (AC (Tq rfl rfl rfl rfl) (Aa (Gp rfl rfl rfl rfl rfl rfl) (AK (AS (AE rfl rfl rfl (AN (AB rfl (AA rfl) (AB rfl (AE rfl rfl rfl (AN (AB rfl (Ei rfl rfl (JQ _ _ _)) (AB rfl (AA rfl) (AB rfl (AA rfl) AH))) rfl rfl rfl (ha _ _ (by omega)) rfl)) (AB rfl (AA rfl) AH))) rfl rfl rfl (Pl b h1 hm) rfl)))))))))))))
theorem SF{b:Bd}{u:List (Str×List AO)}{K:Nat}{ea:Ex}{ra:List AO}(hm:b.m<=3)(h1:RelOk b.m 2 ra)(hK:150<=K)(ha:UpIs b ea u K ra):UpIs b (.clo ea) u (K+60) (CG ra):=by
 intro N σ hN
 obtain⟨M,rfl⟩:∃M,N=M+210:=⟨N -210,by omega⟩
 exact A4 rfl rfl (AM (AP (AI rfl (Ei rfl rfl (D4 _ _))) rfl) (AC (Tq rfl rfl rfl rfl) (AC (Tq rfl rfl rfl rfl) (AC (Tq rfl rfl rfl rfl) (AC (Tq rfl rfl rfl rfl) (AC (Fa rfl rfl rfl rfl rfl) (AC (Tq rfl rfl rfl rfl) (AC (Tq rfl rfl rfl rfl) (Aa (Gp rfl rfl rfl rfl rfl rfl) (AK (AS (AE rfl rfl rfl (AN (AB rfl (AA rfl) (AB rfl (AE rfl rfl rfl (AN (AB rfl (Ei rfl rfl (JQ _ _ _)) (AB rfl (AA rfl) (AB rfl (AA rfl) AH))) rfl rfl rfl (ha _ _ (by omega)) rfl)) (AB rfl (AA rfl) AH))) rfl rfl rfl (RC b h1 hm) rfl)))))))))))))
theorem Qp{b:Bd}{u:List (Str×List AO)}{K:Nat}{ea:Ex}{ra:List AO}(hm:b.m<=3)(h1:RelOk b.m 2 ra)(hK:150<=K)(ha:UpIs b ea u K ra):UpIs b (.star ea) u (K+60) (IM b.m ra):=by
 intro N σ hN
 obtain⟨M,rfl⟩:∃M,N=M+210:=⟨N -210,by omega⟩
 exact A4 rfl rfl (AM (AP (AI rfl (Ei rfl rfl (D4 _ _))) rfl) (AC (Tq rfl rfl rfl rfl) (AC (Tq rfl rfl rfl rfl) (AC (Tq rfl rfl rfl rfl) (AC (Tq rfl rfl rfl rfl) (AC (Fa rfl rfl rfl rfl rfl) (AC (Tq rfl rfl rfl rfl) (AC (Tq rfl rfl rfl rfl) (Aa (Gp rfl rfl rfl rfl rfl rfl) (AK (AS (AE rfl rfl rfl (AN (AB rfl (AA rfl) (AB rfl (AE rfl rfl rfl (AN (AB rfl (Ei rfl rfl (JQ _ _ _)) (AB rfl (AA rfl) (AB rfl (AA rfl) AH))) rfl rfl rfl (ha _ _ (by omega)) rfl)) (AB rfl (AA rfl) AH))) rfl rfl rfl (Po b h1 hm) rfl)))))))))))))
theorem DW(rs:List AO):D.dictFree (.tup (rs.map AD))=true:=by
 have h1:∀r:AO,D.dictFreeL (r.map .int)=true:=Ip
 have h2:∀l:List AO,D.dictFreeL (l.map AD)=true:=by
  intro l
  induction l with
  |nil=>rw[map_nil,D.dictFreeL]
  |cons r l ih=>
   rw[map_cons,D.dictFreeL,ih]
   have:D.dictFree (AD r)=true:=by unfold AD;rw[D.dictFree];exact h1 r
   rw[this];rfl
 rw[D.dictFree];exact h2 rs
def BO(u:List (Str×List AO))(x:Str)(rs:List AO):List (Str×List AO):=match u with
 |[]=>[(x,rs)]
 |(y,q)::u=>if y=x then(y,rs)::u else(y,q)::BO u x rs
theorem Mp(x:Str)(rs:List AO):∀u:List (Str×List AO),B9 (Key.s x) (D.tup (rs.map AD)) (C8 u)=C8 (BO u x rs)
 |[]=>rfl
 |(y,q)::u=>by
  unfold BO
  unfold C8
  rw[map_cons]
  unfold B9
  dsimp only
  by_cases h:y=x
  ·subst h;rw[if_pos rfl,if_pos rfl];rfl
  ·have:¬(Key.s y=Key.s x):=λq=>by cases q;exact h rfl
   rw[if_neg this,if_neg h,map_cons]
   congr 1
   exact Mp x rs u
theorem Ez(x y:Str)(rs:List AO):∀u:List (Str×List AO),(BO u x rs).lookup y=if y=x then some rs else u.lookup y
 |[]=>by
  unfold BO
  rw[lookup_cons]
  by_cases h:y=x
  ·subst h;simp
  ·have:(y==x)=false:=by simpa using h
   rw[this,if_neg h]
 |(z,q)::u=>by
  unfold BO
  by_cases hz:z=x
  ·subst hz
   rw[if_pos rfl,lookup_cons,lookup_cons]
   by_cases h:y=z
   ·subst h;simp
   ·have:(y==z)=false:=by simpa using h
    rw[this,if_neg h]
  ·rw[if_neg hz,lookup_cons,lookup_cons,Ez x y rs u]
   by_cases h:y=z
   ·subst h;simp[hz]
   ·have:(y==z)=false:=by simpa using h
    rw[this]
theorem DQ(x:Str)(rs:List AO):∀u:List (Str×List AO),(BO u x rs).length<=u.length+1
 |[]=>by simp[BO]
 |(y,q)::u=>by
  unfold BO
  split
  ·simp
  ·have:=DQ x rs u;simp;omega
theorem HP(es:List (Key×D))(h:es.length<=100000):Ag "dict" [.dict es]=some (.dict es):=by simp only[Ag,h,if_true]
theorem EQ{x:Str}{k d:D}{key:Key}{es:List (Key×D)}{ρ ρ':Ev}{σ:St}(hk:EA k=some key)(hd:d.dictFree=true)(hl:es.length<100000)(hs:ρ.set x (.ownD (B9 key d es))=some ρ'):CV x k d (.ownD es) ρ σ=some (.next,ρ',σ):=by
 simp only[CV,hk,hd,bind_eq_bind,bind_some,Bool.true_and,decide_eq_true_eq,if_pos hl,hs,map_some]
theorem KH{K A:Type} [DecidableEq K](k:K)(v:D):∀es:List (K×D),Af k (B9 k v es)=some v
 |[]=>by simp[B9,Af]
 |(x,u)::r=>by
  unfold B9
  split
  ·rename_i h;unfold Af;rw[if_pos h]
  ·rename_i h;unfold Af;rw[if_neg h];exact KH (A:=A) k v r
theorem L0(x:Str)(v:D)(es:List (Key×D)):Al (.dict (B9 (Key.s x) v es)) (.str x)=some v:=by
 have e:Al (.dict (B9 (Key.s x) v es)) (.str x)=Af (Key.s x) (B9 (Key.s x) v es):=rfl
 rw[e,KH (A:=D)]
theorem Kp{S:Type}{f:D->S->Option (Fl×S)}{d:D}{s s1:S}(h:f d s=some (.next,s1)):EG f [d] s=some (.next,s1):=by
 unfold EG;rw[h];rfl
theorem Ko{S:Type}{f:D->S->Option (Fl×S)}{d d2:D}{s s1 s2:S}(h:f d s=some (.next,s1))(h2:f d2 s1=some (.next,s2)):EG f [d,d2] s=some (.next,s2):=by
 unfold EG;rw[h];simp only[bind_eq_bind,bind_some];exact Kp h2
theorem SI{b:Bd}{u:List (Str×List AO)}{K:Nat}{ea:Ex}{ra:List AO}(hu:u.length<1000)(ha:UpIs b ea u K ra)(M:Nat)(σ:St)(hM:K<=M):AQ (M+40) (Str.ofString "upper_of_comp") [.tup [.tup [Am "y",ea.toD]],b.d,.dict (C8 u)] σ=some (.tup (ra.map AD),σ):=by
 have hl:(C8 u).length<=1000:=by unfold C8;rw[length_map];omega
 refine A4 rfl rfl (AM (Dk rfl rfl (A0 rfl (NV rfl rfl (AA rfl) (HP _ (by omega))) (A0 rfl (AI rfl JP) Ch)) rfl) ?_)
 refine AM (DN rfl (AT rfl (AA rfl) rfl) (Kp (BT rfl (AW (KU rfl (AE rfl rfl rfl (AN (AB rfl (AA rfl) (AB rfl (AA rfl) (Qi rfl rfl))) rfl rfl rfl (ha _ _ (by omega)) (by rw[DW];rfl))) rfl (AA rfl) rfl (EQ rfl (DW ra) (by omega) rfl)) (AW (AP (AI rfl (Bm (c:=true) (AJ (AA rfl) JP rfl) (Qe rfl rfl (L0 _ _ _)))) rfl) BC)) rfl))) ?_
 exact AK (AS (AA rfl))
theorem IS{x y:Str}{u:List (Str×List AO)}{rs:List AO}{ρ ρ':Ev}{σ:St}(hl:u.length<10000)(hs:ρ.set x (.ownD (C8 (BO u y rs)))=some ρ'):CV x (.str y) (.tup (rs.map AD)) (.ownD (C8 u)) ρ σ=some (.next,ρ',σ):=
 EQ rfl (DW rs) (by unfold C8;rw[length_map];omega) (by rw[Mp];exact hs)
theorem Lz(y:Str)(u:List (Str×List AO))(rs:List AO):Al (.dict (C8 (BO u y rs))) (.str y)=some (.tup (rs.map AD)):=by
 rw[<-Mp];exact L0 _ _ _
theorem SH{b:Bd}{u:List (Str×List AO)}{K:Nat}{ea eb:Ex}{ra rb:List AO}(hu:u.length<1000)(hm:b.m<=3)(h1:RelOk b.m 1 ra)(h2:RelOk b.m 1 rb)(ha:UpIs b ea u K ra)(hb:UpIs b eb (BO u (Str.ofString "y") ra) K rb)(M:Nat)(σ:St)(hM:K<=M):
 AQ (M+80) (Str.ofString "upper_of_comp") [.tup [.tup [Am "y",ea.toD],.tup [Am "z",eb.toD]],b.d,.dict (C8 u)] σ=some (.tup ((CE ra rb).map AD),σ):=by
 have hl:(C8 u).length<=1000:=by unfold C8;rw[length_map];omega
 have hl2:=DQ (Str.ofString "y") ra u
 refine A4 rfl rfl (AM (Dk rfl rfl (A0 rfl (NV rfl rfl (AA rfl) (HP _ (by omega))) (A0 rfl (AI rfl JP) Ch)) rfl) ?_)
 refine' AM (DN rfl (AT rfl (AA rfl) rfl) (Ko (s1:=(⟨(AU "upper_of_comp").names,[(Str.ofString "decls",.d (.tup [.tup [Am "y",ea.toD],.tup [Am "z",eb.toD]])),(Str.ofString "bounds",.d b.d),(Str.ofString "env",.d (.dict (C8 u))),(Str.ofString "inner",.ownD (C8 (BO u (Str.ofString "y") ra))),(Str.ofString "found",.d (.tup (ra.map AD)))],[]⟩,σ)) ?t1 ?t2)) ?fin
 case t1=>
  exact BT rfl (AW (KU rfl (AE rfl rfl rfl (AN (AB rfl (AA rfl) (AB rfl (AA rfl) (Qi rfl rfl))) rfl rfl rfl (ha _ _ (by omega)) (by rw[DW];rfl))) rfl (AA rfl) rfl (IS (by omega) rfl)) (AW (AP (AI rfl (Bm (c:=true) (AJ (AA rfl) JP rfl) (Qe rfl rfl (Lz _ _ _)))) rfl) BC)) rfl
 case t2=>
  refine' BT rfl (AW ?s1 (AW ?s2 BC)) ?bk
  case s1=>exact KU rfl (AE rfl rfl rfl (AN (AB rfl (AA rfl) (AB rfl (AA rfl) (Qi rfl rfl))) rfl rfl rfl (hb _ _ (by omega)) (by rw[DW];rfl))) rfl (AA rfl) rfl (IS (by omega) rfl)
  case s2=>exact AP (AI rfl (Bm (c:=false) (AJ (AA rfl) JP rfl) (AE rfl rfl rfl (AN (AB rfl (AA rfl) (AB rfl (Qe rfl rfl (Lz _ _ _)) AH)) rfl rfl rfl
   (GN ra rb (λr hr=>by have:=h1.len r hr;omega) (λr hr=>by have:=h2.len r hr;omega) (by have:=h1.len12 hm (.inl rfl);omega) (by have:=h2.len12 hm (.inl rfl);omega)) rfl)))) rfl
  case bk=>rfl
 case fin=>exact AK (AS (AA rfl))
theorem PN{b:Bd}{u:List (Str×List AO)}{K:Nat}{ea:Ex}{f:Fm}{ra:List AO}(hu:u.length<1000)(ha:UpIs b ea u K ra):UpIs b (.comp1 ea f) u (K+60) ra:=by
 intro N σ hN
 obtain⟨M,rfl⟩:∃M,N=M+60:=⟨N -60,by omega⟩
 exact A4 rfl rfl (AM (AP (AI rfl (Ei rfl rfl (D4 _ _))) rfl) (AC (Tq rfl rfl rfl rfl) (AC (Tq rfl rfl rfl rfl) (AC (Tq rfl rfl rfl rfl) (AC (Tq rfl rfl rfl rfl)
  (AC (Fa rfl rfl rfl rfl rfl) (Aa (Tq rfl rfl rfl rfl) (AK (AS (AE rfl rfl rfl (AN (AB rfl (Ei rfl rfl (JQ _ _ _)) (AB rfl (AA rfl) (AB rfl (AA rfl) AH))) rfl rfl rfl (SI hu ha _ σ (by omega)) rfl)))))))))))
theorem PM{b:Bd}{u:List (Str×List AO)}{K:Nat}{ea eb:Ex}{f:Fm}{ra rb:List AO}(hu:u.length<1000)(hm:b.m<=3)(h1:RelOk b.m 1 ra)(h2:RelOk b.m 1 rb)(ha:UpIs b ea u K ra)(hb:UpIs b eb (BO u (Str.ofString "y") ra) K rb):UpIs b (.comp2 ea eb f) u (K+100) (CE ra rb):=by
 intro N σ hN
 obtain⟨M,rfl⟩:∃M,N=M+100:=⟨N -100,by omega⟩
 exact A4 rfl rfl (AM (AP (AI rfl (Ei rfl rfl (D4 _ _))) rfl) (AC (Tq rfl rfl rfl rfl) (AC (Tq rfl rfl rfl rfl) (AC (Tq rfl rfl rfl rfl) (AC (Tq rfl rfl rfl rfl)
  (AC (Fa rfl rfl rfl rfl rfl) (Aa (Tq rfl rfl rfl rfl) (AK (AS (AE rfl rfl rfl (AN (AB rfl (Ei rfl rfl (JQ _ _ _)) (AB rfl (AA rfl) (AB rfl (AA rfl) AH))) rfl rfl rfl (SH hu hm h1 h2 ha hb _ σ (by omega)) rfl)))))))))))
def Bt(b:Bd):Ex->List (Str×List AO)->List AO
 | .rel i,u=>b.up i
 | .var x,u=>(u.lookup x).getD []
 | .tup1,u=>[[0]]
 | .tup2,u=>[[0,1],[1,1]]
 | .univ,u=>CS b.m
 | .none1,u=>[]
 | .iden,u=>Dd b.m
 | .join a c,u=>Bw (Bt b a u) (Bt b c u)
 | .turn a,u=>II (Bt b a u)
 | .clo a,u=>CG (Bt b a u)
 | .star a,u=>IM b.m (Bt b a u)
 | .prod a c,u=>CE (Bt b a u) (Bt b c u)
 | .ahead a c,u=>HQ (Bt b a u) (Bt b c u)
 | .behind a c,u=>FP (Bt b a u) (Bt b c u)
 | .sign s a c,u=>if s=1 then Lk (Bt b a u) (Bt b c u) else if s=2 then Bt b a u else Cb (Bt b a u) (Bt b c u)
 | .comp1 a f,u=>Bt b a u
 | .comp2 a c f,u=>CE (Bt b a u) (Bt b c (BO u (Str.ofString "y") (Bt b a u)))
 | .either f a c,u=>Cb (Bt b a u) (Bt b c u)
mutual
def Ex.wt:Ex->Nat->List Str->Prop
 | .rel i,k,xs=>(i=0/\k=1)\/(i=1/\k=2)
 | .var x,k,xs=>k=1/\x∈xs
 | .tup1,k,xs=>k=1
 | .tup2,k,xs=>k=2
 | .univ,k,xs=>k=1
 | .none1,k,xs=>k=1
 | .iden,k,xs=>k=2
 | .join a c,k,xs=>(k=1/\((a.wt 1 xs/\c.wt 2 xs)\/(a.wt 2 xs/\c.wt 1 xs)))\/(k=2/\a.wt 2 xs/\c.wt 2 xs)
 | .turn a,k,xs=>k=2/\a.wt 2 xs
 | .clo a,k,xs=>k=2/\a.wt 2 xs
 | .star a,k,xs=>k=2/\a.wt 2 xs
 | .prod a c,k,xs=>k=2/\a.wt 1 xs/\c.wt 1 xs
 | .ahead a c,k,xs=>k=2/\a.wt 1 xs/\c.wt 2 xs
 | .behind a c,k,xs=>k=2/\a.wt 2 xs/\c.wt 1 xs
 | .sign s a c,k,xs=>s<4/\(k=1\/k=2)/\a.wt k xs/\c.wt k xs
 | .comp1 a f,k,xs=>k=1/\a.wt 1 xs/\f.wt (xs++[Str.ofString "y"])
 | .comp2 a c f,k,xs=>k=2/\a.wt 1 xs/\c.wt 1 (xs++[Str.ofString "y"])/\f.wt (xs++[Str.ofString "y",Str.ofString "z"])
 | .either f a c,k,xs=>k=1/\f.wt xs/\a.wt 1 xs/\c.wt 1 xs
def Fm.wt:Fm->List Str->Prop
 | .inn a c,xs=>a.wt 1 xs/\c.wt 1 xs
 | .some a,xs=>a.wt 1 xs
end
def Ex.fu:Ex->Nat
 | .join a c=>max a.fu c.fu+60
 | .turn a=>a.fu+60
 | .clo a=>a.fu+60
 | .star a=>a.fu+60
 | .prod a c=>max a.fu c.fu+60
 | .ahead a c=>max a.fu c.fu+60
 | .behind a c=>max a.fu c.fu+60
 | .sign _ a c=>max a.fu c.fu+60
 | .comp1 a _=>a.fu+60
 | .comp2 a c _=>max a.fu c.fu+100
 | .either _ a c=>max a.fu c.fu+60
 |_=>150
theorem RelOk.filter{m k:Nat}{s:List AO}(h:RelOk m k s)(p:AO->Bool):RelOk m k (s.filter p):=
 ⟨h.srt.filter p,λr hr=>h.len r (mem_filter.mp hr).1,λr hr=>h.ats r (mem_filter.mp hr).1⟩
theorem RelOk.turn{m:Nat}{s:List AO}(h:RelOk m 2 s):RelOk m 2 (II s):=
 RelOk.norm_of (λr hr=>by obtain⟨q,hq,rfl⟩:=mem_map.mp hr;rw[List.length_reverse];exact h.len q hq)
  (λr hr a ha=>by obtain⟨q,hq,rfl⟩:=mem_map.mp hr;exact h.ats q hq a (List.mem_reverse.mp ha))
theorem RelOk.star{m:Nat}{s:List AO}(h:RelOk m 2 s):RelOk m 2 (IM m s):=(DE h).union (ED m)
theorem mem_prod{s t:List AO}{r:AO}:r∈CE s t↔∃a∈s,∃c∈t,r=a++c:=by
 unfold CE
 simp only[List.mem_flatMap,mem_map]
 constructor
 ·rintro⟨a,ha,c,hc,rfl⟩;exact⟨a,ha,c,hc,rfl⟩
 ·rintro⟨a,ha,c,hc,rfl⟩;exact⟨a,ha,c,hc,rfl⟩
theorem RelOk.prod{m:Nat}{s t:List AO}(hs:RelOk m 1 s)(ht:RelOk m 1 t):RelOk m 2 (CE s t):=by
 refine⟨?_,λr hr=> ?_,λr hr x hx=> ?_⟩
 ·have one:∀{l:List AO},RelOk m 1 l->∀r∈l,∃a,r=[a]:=λh r hr=>by
   have:=h.len r hr
   match r,this with
   |[a],_=>exact⟨a,rfl⟩
  have key:∀(s:List AO),Srt s->(∀r∈s,∃a,r=[a])->Srt (CE s t):=by
   intro s
   induction s with
   |nil=>intro _ _;exact List.Pairwise.nil
   |cons a s ih=>
    intro h1 h2
    have h1':=List.pairwise_cons.mp h1
    unfold CE
    rw[flatMap_cons]
    refine List.pairwise_append.mpr ⟨?_,ih h1'.2 (λr hr=>h2 r (mem_cons_of_mem _ hr)),?_⟩
    ·rw[List.pairwise_map]
     obtain⟨x,rfl⟩:=h2 a (mem_cons_self ..)
     exact List.Pairwise.imp (λ{p q} h=>by simp[An];exact h) ht.srt
    ·intro p hp q hq
     obtain⟨c,hc,rfl⟩:=mem_map.mp hp
     obtain⟨a',ha',c',hc',rfl⟩:=mem_prod.mp hq
     have hl:=h1'.1 a' ha'
     obtain⟨x,rfl⟩:=h2 a (mem_cons_self ..)
     obtain⟨y,rfl⟩:=h2 a' (mem_cons_of_mem _ ha')
     rw[Te] at hl
     have hxy:x<y:=by simpa using hl
     have:¬(x=y):=by omega
     simp[An,this,hxy]
  exact key s hs.srt (one hs)
 ·obtain⟨a,ha,c,hc,rfl⟩:=mem_prod.mp hr
  rw[length_append,hs.len a ha,ht.len c hc]
 ·obtain⟨a,ha,c,hc,rfl⟩:=mem_prod.mp hr
  rcases mem_append.mp hx with h|h
  ·exact hs.ats a ha x h
  ·exact ht.ats c hc x h
theorem UpIs.mono{b:Bd}{e:Ex}{u:List (Str×List AO)}{K K':Nat}{rs:List AO}(h:UpIs b e u K rs)(hk:K<=K'):UpIs b e u K' rs:=λN σ hN=>h N σ (by omega)
def UEnv(b:Bd)(u:List (Str×List AO))(xs:List Str):Prop:=∀x∈xs,∃rs,u.lookup x=some rs/\RelOk b.m 1 rs
theorem UEnv.upd{b:Bd}{u:List (Str×List AO)}{xs:List Str}(h:UEnv b u xs){y:Str}{rs:List AO}(hr:RelOk b.m 1 rs):UEnv b (BO u y rs) (xs++[y]):=λx hx=>by
 rw[Ez]
 by_cases hxy:x=y
 ·rw[if_pos hxy];exact⟨rs,rfl,hr⟩
 ·rw[if_neg hxy]
  rcases mem_append.mp hx with h'|h'
  ·exact h x h'
  ·exact absurd (mem_singleton.mp h') hxy
theorem Dt{b:Bd}{e:Ex}{u:List (Str×List AO)}{rs:List AO}(h:∀n σ,AQ (n+100) (Str.ofString "upper_of") [e.toD,b.d,.dict (C8 u)] σ=some (.tup (rs.map AD),σ)):UpIs b e u 150 rs:=λN σ hN=>by
 obtain⟨M,rfl⟩:∃M,N=M+100:=⟨N -100,by omega⟩
 exact h M σ
theorem CO:∀e:Ex,150<=e.fu
 | .rel _=>by simp only[Ex.fu];omega
 | .var _=>by simp only[Ex.fu];omega
 | .tup1=>by simp only[Ex.fu];omega
 | .tup2=>by simp only[Ex.fu];omega
 | .univ=>by simp only[Ex.fu];omega
 | .none1=>by simp only[Ex.fu];omega
 | .iden=>by simp only[Ex.fu];omega
 | .join a c=>by have:=CO a;simp only[Ex.fu];omega
 | .turn a=>by have:=CO a;simp only[Ex.fu];omega
 | .clo a=>by have:=CO a;simp only[Ex.fu];omega
 | .star a=>by have:=CO a;simp only[Ex.fu];omega
 | .prod a c=>by have:=CO a;simp only[Ex.fu];omega
 | .ahead a c=>by have:=CO a;simp only[Ex.fu];omega
 | .behind a c=>by have:=CO a;simp only[Ex.fu];omega
 | .sign _ a c=>by have:=CO a;simp only[Ex.fu];omega
 | .comp1 a _=>by have:=CO a;simp only[Ex.fu];omega
 | .comp2 a c _=>by have:=CO a;simp only[Ex.fu];omega
 | .either _ a c=>by have:=CO a;simp only[Ex.fu];omega
theorem BS{b:Bd}(hm2:2<=b.m)(hm:b.m<=3)(h0:RelOk b.m 1 b.up0)(h1:RelOk b.m 2 b.up1):∀(e:Ex)(k:Nat)(xs:List Str)(u:List (Str×List AO)),e.wt k xs->UEnv b u xs->u.length+e.fu<=990->UpIs b e u e.fu (Bt b e u)/\RelOk b.m k (Bt b e u)
 | .rel i,k,xs,u,hw,hu,hl=>by
   unfold Ex.wt at hw
   simp only[Bt,Ex.fu]
   rcases hw with ⟨rfl,rfl⟩|⟨rfl,rfl⟩
   ·exact⟨Dt λn σ=>PK b u 0 (.inl rfl),h0⟩
   ·exact⟨Dt λn σ=>PK b u 1 (.inr rfl),h1⟩
 | .var x,k,xs,u,hw,hu,hl=>by
   unfold Ex.wt at hw
   obtain⟨rfl,hx⟩:=hw
   obtain⟨rs,h,hr⟩:=hu x hx
   simp only[Bt,Ex.fu,h,getD_some]
   exact⟨Dt λn σ=>SE b u x rs h,hr⟩
 | .tup1,k,xs,u,hw,hu,hl=>by
   unfold Ex.wt at hw;subst hw
   simp only[Bt,Ex.fu]
   refine⟨Dt λn σ=>Qo b u,⟨by simp[Srt],by simp,λr hr a ha=> ?_⟩⟩
   simp at hr;subst hr;simp at ha;subst ha;omega
 | .tup2,k,xs,u,hw,hu,hl=>by
   unfold Ex.wt at hw;subst hw
   simp only[Bt,Ex.fu]
   refine⟨Dt λn σ=>Qn b u,⟨by simp[Srt,An],by simp,λr hr a ha=> ?_⟩⟩
   simp at hr
   rcases hr with rfl|rfl<;>simp at ha<;>omega
 | .univ,k,xs,u,hw,hu,hl=>by
   unfold Ex.wt at hw;subst hw
   simp only[Bt,Ex.fu]
   exact⟨Dt λn σ=>Ql b u hm,D6 _⟩
 | .none1,k,xs,u,hw,hu,hl=>by
   unfold Ex.wt at hw;subst hw
   simp only[Bt,Ex.fu]
   exact⟨Dt λn σ=>Qs b u,⟨List.Pairwise.nil,λr h=>(nomatch h),λr h=>(nomatch h)⟩⟩
 | .iden,k,xs,u,hw,hu,hl=>by
   unfold Ex.wt at hw;subst hw
   simp only[Bt,Ex.fu]
   exact⟨Dt λn σ=>Qu b u hm,ED _⟩
 | .join a c,k,xs,u,hw,hu,hl=>by
   unfold Ex.wt at hw
   simp only[Ex.fu] at hl
   have fa:=CO a
   simp only[Bt,Ex.fu]
   rcases hw with ⟨rfl,⟨ha,hc⟩|⟨ha,hc⟩⟩|⟨rfl,ha,hc⟩
   ·obtain⟨a1,a2⟩:=BS hm2 hm h0 h1 a _ xs u ha hu (by omega)
    obtain⟨c1,c2⟩:=BS hm2 hm h0 h1 c _ xs u hc hu (by omega)
    exact⟨KW (.inl rfl) (.inr rfl) (by omega) hm a2 c2 (by omega) (a1.mono (le_max_left ..)) (c1.mono (le_max_right ..)),a2.join c2 (by omega) (by omega)⟩
   ·obtain⟨a1,a2⟩:=BS hm2 hm h0 h1 a _ xs u ha hu (by omega)
    obtain⟨c1,c2⟩:=BS hm2 hm h0 h1 c _ xs u hc hu (by omega)
    exact⟨KW (.inr rfl) (.inl rfl) (by omega) hm a2 c2 (by omega) (a1.mono (le_max_left ..)) (c1.mono (le_max_right ..)),a2.join c2 (by omega) (by omega)⟩
   ·obtain⟨a1,a2⟩:=BS hm2 hm h0 h1 a _ xs u ha hu (by omega)
    obtain⟨c1,c2⟩:=BS hm2 hm h0 h1 c _ xs u hc hu (by omega)
    exact⟨KW (.inr rfl) (.inr rfl) (by omega) hm a2 c2 (by omega) (a1.mono (le_max_left ..)) (c1.mono (le_max_right ..)),a2.join c2 (by omega) (by omega)⟩
 | .turn a,k,xs,u,hw,hu,hl=>by
   unfold Ex.wt at hw
   simp only[Ex.fu] at hl
   have fa:=CO a
   simp only[Bt,Ex.fu]
   obtain⟨rfl,ha⟩:=hw
   obtain⟨a1,a2⟩:=BS hm2 hm h0 h1 a _ xs u ha hu (by omega)
   exact⟨Qm hm a2 (by omega) a1,a2.turn⟩
 | .clo a,k,xs,u,hw,hu,hl=>by
   unfold Ex.wt at hw
   simp only[Ex.fu] at hl
   have fa:=CO a
   simp only[Bt,Ex.fu]
   obtain⟨rfl,ha⟩:=hw
   obtain⟨a1,a2⟩:=BS hm2 hm h0 h1 a _ xs u ha hu (by omega)
   exact⟨SF hm a2 (by omega) a1,DE a2⟩
 | .star a,k,xs,u,hw,hu,hl=>by
   unfold Ex.wt at hw
   simp only[Ex.fu] at hl
   have fa:=CO a
   simp only[Bt,Ex.fu]
   obtain⟨rfl,ha⟩:=hw
   obtain⟨a1,a2⟩:=BS hm2 hm h0 h1 a _ xs u ha hu (by omega)
   exact⟨Qp hm a2 (by omega) a1,a2.star⟩
 | .prod a c,k,xs,u,hw,hu,hl=>by
   unfold Ex.wt at hw
   simp only[Ex.fu] at hl
   have fa:=CO a
   simp only[Bt,Ex.fu]
   obtain⟨rfl,ha,hc⟩:=hw
   obtain⟨a1,a2⟩:=BS hm2 hm h0 h1 a _ xs u ha hu (by omega)
   obtain⟨c1,c2⟩:=BS hm2 hm h0 h1 c _ xs u hc hu (by omega)
   exact⟨Qq hm a2 c2 (by omega) (a1.mono (le_max_left ..)) (c1.mono (le_max_right ..)),a2.prod c2⟩
 | .ahead a c,k,xs,u,hw,hu,hl=>by
   unfold Ex.wt at hw
   simp only[Ex.fu] at hl
   have fa:=CO a
   simp only[Bt,Ex.fu]
   obtain⟨rfl,ha,hc⟩:=hw
   obtain⟨a1,a2⟩:=BS hm2 hm h0 h1 a _ xs u ha hu (by omega)
   obtain⟨c1,c2⟩:=BS hm2 hm h0 h1 c _ xs u hc hu (by omega)
   exact⟨PO hm a2 c2 (by omega) (a1.mono (le_max_left ..)) (c1.mono (le_max_right ..)),c2.filter _⟩
 | .behind a c,k,xs,u,hw,hu,hl=>by
   unfold Ex.wt at hw
   simp only[Ex.fu] at hl
   have fa:=CO a
   simp only[Bt,Ex.fu]
   obtain⟨rfl,ha,hc⟩:=hw
   obtain⟨a1,a2⟩:=BS hm2 hm h0 h1 a _ xs u ha hu (by omega)
   obtain⟨c1,c2⟩:=BS hm2 hm h0 h1 c _ xs u hc hu (by omega)
   exact⟨OG hm a2 c2 (by omega) (a1.mono (le_max_left ..)) (c1.mono (le_max_right ..)),a2.filter _⟩
 | .sign s a c,k,xs,u,hw,hu,hl=>by
   unfold Ex.wt at hw
   simp only[Ex.fu] at hl
   have fa:=CO a
   simp only[Bt,Ex.fu]
   obtain⟨hs,hk,ha,hc⟩:=hw
   obtain⟨a1,a2⟩:=BS hm2 hm h0 h1 a _ xs u ha hu (by omega)
   obtain⟨c1,c2⟩:=BS hm2 hm h0 h1 c _ xs u hc hu (by omega)
   have a1':=a1.mono (le_max_left a.fu c.fu)
   have c1':=c1.mono (le_max_right a.fu c.fu)
   have:s=0\/s=1\/s=2\/s=3:=by omega
   rcases this with rfl|rfl|rfl|rfl
   ·exact⟨PJ hk hm a2 c2 (by omega) a1' c1',a2.union c2⟩
   ·exact⟨Qt hk hm a2 c2 (by omega) a1' c1',a2.filter _⟩
   ·exact⟨PL (by omega) a1',a2⟩
   ·exact⟨Qr hk hm a2 c2 (by omega) a1' c1',a2.union c2⟩
 | .comp1 a f,k,xs,u,hw,hu,hl=>by
   unfold Ex.wt at hw
   simp only[Ex.fu] at hl
   have fa:=CO a
   simp only[Bt,Ex.fu]
   obtain⟨rfl,ha,hf⟩:=hw
   obtain⟨a1,a2⟩:=BS hm2 hm h0 h1 a _ xs u ha hu (by omega)
   exact⟨PN (by omega) a1,a2⟩
 | .comp2 a c f,k,xs,u,hw,hu,hl=>by
   unfold Ex.wt at hw
   simp only[Ex.fu] at hl
   have fa:=CO a
   simp only[Bt,Ex.fu]
   obtain⟨rfl,ha,hc,hf⟩:=hw
   obtain⟨a1,a2⟩:=BS hm2 hm h0 h1 a _ xs u ha hu (by omega)
   have lu:=DQ (Str.ofString "y") (Bt b a u) u
   obtain⟨c1,c2⟩:=BS hm2 hm h0 h1 c _ _ (BO u (Str.ofString "y") (Bt b a u)) hc (hu.upd a2) (by omega)
   exact⟨PM (by omega) hm a2 c2 (a1.mono (le_max_left ..)) (c1.mono (le_max_right ..)),a2.prod c2⟩
 | .either f a c,k,xs,u,hw,hu,hl=>by
   unfold Ex.wt at hw
   simp only[Ex.fu] at hl
   have fa:=CO a
   simp only[Bt,Ex.fu]
   obtain⟨rfl,hf,ha,hc⟩:=hw
   obtain⟨a1,a2⟩:=BS hm2 hm h0 h1 a _ xs u ha hu (by omega)
   obtain⟨c1,c2⟩:=BS hm2 hm h0 h1 c _ xs u hc hu (by omega)
   exact⟨OF (.inl rfl) hm a2 c2 (by omega) (a1.mono (le_max_left ..)) (c1.mono (le_max_right ..)),a2.union c2⟩
theorem Gg(xs:List D)(h:xs.length<=1000000):Ag "len" [.list xs]=some (.int xs.length):=by
 simp only[Ag,h,if_true]
theorem BH{i:Int}(h1: -1000000000000<=i)(h2:i<=1000000000000):AZ i=true:=by
 unfold AZ
 simp only[and_eq_true,decide_eq_true_eq]
 omega
theorem Dz{a b:Int}(ha:AZ a=true)(hb:AZ b=true):CN .Add (.int a) (.int b)=some (.int (a+b)):=by simp only[CN,ha,hb,Bool.and_self,if_true]
theorem GH{a b:Int}(ha:AZ a=true)(hb:AZ b=true):CN .Sub (.int a) (.int b)=some (.int (a -b)):=by simp only[CN,ha,hb,Bool.and_self,if_true]
theorem mul_int{a b:Int}(ha:AZ a=true)(hb:AZ b=true):CN .Mult (.int a) (.int b)=some (.int (a*b)):=by simp only[CN,ha,hb,Bool.and_self,if_true]
theorem H7{a b:Int}(hb:0<b)(hs:AZ b=true):CN .Mod (.int a) (.int b)=some (.int (a % b)):=by
 have:decide (0<b)=true:=decide_eq_true hb
 simp only[CN,this,hs,Bool.and_self,if_true]
theorem FI(a b:Int):Av .Lt (.int a) (.int b)=some (decide (a<b)):=rfl
theorem KI(cells:List Int)(spot:Int):Hk (Am "spot") (cells,spot)=some (.int spot):=by
 have:¬(Key.s (Str.ofString "cells")=Key.s (Str.ofString "spot")):=by decide
 simp[Hk,Am,EA]
theorem EY(cells:List Int)(spot:Int):Hk (Am "cells") (cells,spot)=some (.list (cells.map .int)):=by
 have:¬(Str.ofString "cells" =Str.ofString "spot"):=by decide
 simp[Hk,Am,EA,this]
theorem LP{x:Str}{ρ:Ev}{cells:List Int}{spot z:Int}(hz:AZ z=true):CV x (Am "spot") (.int z) (.d .feed) ρ (cells,spot)=some (.next,ρ,(cells,z)):=by
 simp[CV,Am,EA,hz]
theorem BL(cells:List Int)(spot wide:Int)(h0:0<=spot)(h1:spot<=10000)(hc:cells.length<=100)(hw:0<wide)(hw2:wide<=100000):
 ∃v,0<=v/\v<wide/\∀n,AQ (n+40) (Str.ofString "_law_draw") [.feed,.int wide] (cells,spot)=some (.int v,(cells,spot+1)):=by
 have s0:AZ spot=true:=BH (by omega) (by omega)
 have s1:AZ (spot+1)=true:=BH (by omega) (by omega)
 have sw:AZ wide=true:=BH (by omega) (by omega)
 have hlen:=Gg (cells.map D.int) (by simp;omega)
 have sc:AZ ((cells.map D.int).length:Int)=true:=BH (by omega) (by simp;omega)
 have fit:∀(c:Int),AZ c=true->AZ c=true:=λc h=>h
 by_cases hlt:spot<(cells.length:Int)
 ·obtain⟨x,hx⟩:∃x,cells[spot.toNat]? =some x:=⟨cells[spot.toNat]'(by omega),getElem?_eq_getElem (by omega)⟩
  have hi:Al (.list (cells.map D.int)) (.int spot)=some (.int x):=by
   have e:Al (.list (cells.map D.int)) (.int spot)=Hi (cells.map D.int) spot:=rfl
   rw[e];unfold Hi
   rw[s0,if_neg (by decide),if_pos h0,List.getElem?_map,hx];rfl
  have ht:Av .Lt (.int spot) (.int ((cells.map D.int).length:Nat))=some true:=by
   rw[FI,length_map,decide_eq_true hlt]
  refine⟨x % wide,Int.emod_nonneg _ (by omega),Int.emod_lt_of_pos _ hw,?_⟩
  exact λn=>A4 rfl rfl (AM (AP (AI rfl (HT rfl rfl (AA rfl) AY (KI _ _))) rfl) (AM (KU rfl (Ak (AA rfl) AG (Dz s0 small_lit.2.2)) rfl AY rfl (LP s1))
   (Aa (AJ (AA rfl) (AE rfl rfl rfl (BJ (b:= "len") (AB rfl (HT rfl rfl (AA rfl) AY (EY _ _)) AH) rfl rfl hlen)) ht)
     (AK (AS (Ak (A6 rfl rfl (HT rfl rfl (AA rfl) AY (EY _ _)) (AA rfl) rfl hi) (AA rfl) (H7 hw sw)))))))
 ·have ht:Av .Lt (.int spot) (.int ((cells.map D.int).length:Nat))=some false:=by
   rw[FI,length_map,decide_eq_false hlt]
  have hsq0:0<=spot*spot:=Int.mul_nonneg h0 h0
  have hsq:spot*spot<=10000*10000:=Int.mul_le_mul h1 h1 h0 (by omega)
  have hL:((cells.map D.int).length:Int)<=100:=by simp;omega
  have hL0:(0:Int)<=((cells.map D.int).length:Int):=by omega
  have e11:11*spot*spot=11*(spot*spot):=Int.mul_assoc 11 spot spot
  have a1:AZ 11=true:=by decide
  have a2:AZ (11*spot)=true:=BH (by omega) (by omega)
  have a3:AZ (11*spot*spot)=true:=by rw[e11];exact BH (by omega) (by omega)
  have a4:AZ 5=true:=by decide
  have a5:AZ (5*spot)=true:=BH (by omega) (by omega)
  have a6:AZ (11*spot*spot+5*spot)=true:=by rw[e11];exact BH (by omega) (by omega)
  have a7:AZ 7=true:=by decide
  have a8:AZ (7*((cells.map D.int).length:Int))=true:=BH (by omega) (by omega)
  have a9:AZ (11*spot*spot+5*spot+7*((cells.map D.int).length:Int))=true:=by rw[e11];exact BH (by omega) (by omega)
  have a10:AZ 3=true:=by decide
  have a11:AZ 89=true:=by decide
  refine⟨(11*spot*spot+5*spot+7*((cells.map D.int).length:Int)+3) % 89 % wide,Int.emod_nonneg _ (by omega),Int.emod_lt_of_pos _ hw,?_⟩
  exact λn=>A4 rfl rfl (AM (AP (AI rfl (HT rfl rfl (AA rfl) AY (KI _ _))) rfl) (AM (KU rfl (Ak (AA rfl) AG (Dz s0 small_lit.2.2)) rfl AY rfl (LP s1))
   (AC (AJ (AA rfl) (AE rfl rfl rfl (BJ (b:= "len") (AB rfl (HT rfl rfl (AA rfl) AY (EY _ _)) AH) rfl rfl hlen)) ht)
     (AK (AS (Ak (Ak (Ak (Ak (Ak (Ak (Ak AG (AA rfl) (mul_int a1 s0)) (AA rfl) (mul_int a2 s0)) (Ak AG (AA rfl) (mul_int a4 s0)) (Dz a3 a5))
       (Ak AG (AE rfl rfl rfl (BJ (b:= "len") (AB rfl (HT rfl rfl (AA rfl) AY (EY _ _)) AH) rfl rfl hlen)) (mul_int a7 sc)) (Dz a6 a8)) AG (Dz a9 a10)) AG (H7 (by omega) a11)) (AA rfl) (H7 hw sw)))))))
theorem I0(a b:Int):Av .Eq (.int a) (.int b)=some (decide (a=b)):=by
 have e:Av .Eq (.int a) (.int b)=if D.ok 20 (.int a)&&D.ok 20 (.int b) then some (D.beq (.int a) (.int b)) else none:=rfl
 have h1:D.beq (.int a) (.int b)=decide (a=b):=by unfold D.beq;rfl
 rw[e,h1];rfl
theorem MK{α:Type}(φ:α->D):∀(l:List α)(k:Nat),Dy k (l.map φ)=(l.zipIdx k).map λp=> .tup [.int (p.2:Int),φ p.1]
 |[],_=>rfl
 |a::l,k=>by
  rw[map_cons,List.zipIdx_cons,map_cons]
  unfold Dy
  rw[MK φ l (k+1)]
theorem H5(k:Nat)(h:k<=32):CN .Pow (.int 2) (.int (k:Int))=some (.int (2^k)):=by
 have h1:decide ((k:Int)<=32)=true:=decide_eq_true (by omega)
 have h2:decide ((0:Int)<=(k:Int))=true:=decide_eq_true (by omega)
 simp[CN]
 omega
theorem Rk{a b:Int}(hb:0<b)(hb2:b<1073741824):CN .FloorDiv (.int a) (.int b)=some (.int (a/b)):=by
 simp[CN,hb,hb2]
def Ll(mask:Int)(p:AO×Nat):Bool:=decide (mask/2^p.2 % 2=1)
def Hf(rs:List AO)(mask:Int):List AO:=(rs.zipIdx.filter (Ll mask)).map (·.1)
theorem HC(rs:List AO)(mask:Int):(Hf rs mask).Sublist rs:=by
 unfold Hf
 have:(rs.zipIdx.map (·.1))=rs:=by simp
 have h:=(List.filter_sublist (p:=Ll mask) (l:=rs.zipIdx)).map (·.1)
 rw[this] at h;exact h
theorem Ew{n:Nat}{σ:St}(rs:List AO)(mask:Int)(h:rs.length<=20):AQ (n+40) (Str.ofString "_law_masked") [.list (rs.map AD),.int mask] σ=some (.list ((Hf rs mask).map AD),σ):=by
 have e:(Hf rs mask).map AD=(rs.zipIdx.filter (Ll mask)).map λp=>AD p.1:=by unfold Hf;rw[map_map];rfl
 have hl:((rs.zipIdx.filter (Ll mask)).map λp=>AD p.1).length<=100000:=by
  rw[length_map]
  exact Nat.le_trans (length_filter_le _ _) (by simp;omega)
 rw[e]
 refine' A4 rfl rfl (AK (AS (Ar rfl (TD rfl rfl (AA rfl)) rfl ?c hl)))
 case c=>
  rw[MK]
  refine DD (φ:=λp=> .tup [.int (p.2:Int),AD p.1]) (Ll mask) (λp=>AD p.1) rs.zipIdx λp hp=> ?_
  have hk:p.2<rs.length:=by
   obtain⟨_,h2,_⟩:=List.mem_zipIdx hp
   omega
  have p2:(2:Int)^p.2<1073741824:=by
   have:(2:Int)^p.2<=2^20:=by exact_mod_cast Nat.pow_le_pow_right (n:=2) (by omega) (show p.2<=20 by omega)
   omega
  have p0:(0:Int)<2^p.2:=Int.pow_pos (by omega)
  exact Bz rfl rfl (By (AJ (Ak (Ak (AA rfl) (Ak AG (AA rfl) (H5 p.2 (by omega))) (Rk p0 p2)) AG (H7 (by omega) (by decide))) AG (I0 _ _))) (λ_=>AA rfl) rfl rfl
theorem Fp:∀rs:List AO,DH (rs.map AD)=some rs
 |[]=>rfl
 |r::rs=>by
  rw[map_cons]
  unfold DH
  rw[Ej,Fp rs];rfl
theorem Ba(rs:List AO)(hg:Good rs):DZ (rs.map AD)=some ((norm rs).map AD):=by
 have h:(rs.all CQ)=true:=all_eq_true.mpr hg
 unfold DZ
 simp only[Fp,bind_eq_bind,bind_some,h,if_true];rfl
theorem Hs(rs:List AO)(hl:rs.length<60)(hne:∀r∈rs,r≠[]):Ag "sorted" [.list (rs.map AD)]=some (.list ((B0 rs).map AD)):=by
 have e:Ag "sorted" [.list (rs.map AD)]=(NX (rs.map AD)).map .list:=rfl
 have h:(rs.all λr=> !r.isEmpty)=true:=all_eq_true.mpr λr hr=>by
  have:=hne r hr
  cases r with
  |nil=>exact absurd rfl this
  |cons a r=>rfl
 rw[e]
 unfold NX
 simp only[Fp,bind_eq_bind,bind_some,h,hl,and_self,if_true,map_some]
theorem Ck(s t:List AO)(h:s.length+t.length<=100000):CN .Add (.list (s.map AD)) (.list (t.map AD))=some (.list ((s++t).map AD)):=by
 have e:CN .Add (.list (s.map AD)) (.list (t.map AD))=if(s.map AD).length+(t.map AD).length<=100000 then some (.list (s.map AD++t.map AD)) else none:=rfl
 rw[e,length_map,length_map,if_pos h,map_append]
theorem Ib{l m:List AO}(h:∀r,r∈l↔r∈m):norm l=norm m:=IN (C9 _) (C9 _) λr=>by rw[mem_norm,mem_norm,h]
def EW(s t:List AO):List AO:=s.flatMap λa=>(t.filter λb=>decide (a.getLastD 0=Bj b)).map λb=>a.dropLast++b.tail
theorem mem_joinL2{s t:List AO}{r:AO}:r∈EW s t↔r∈Dc s t:=by
 rw[mem_joinL]
 unfold EW
 simp only[List.mem_flatMap,mem_map,mem_filter,decide_eq_true_eq]
 constructor
 ·rintro⟨a,ha,b,⟨hb,he⟩,rfl⟩;exact⟨a,ha,b,hb,he.symm,rfl⟩
 ·rintro⟨a,ha,b,hb,he,rfl⟩;exact⟨a,ha,b,⟨hb,he.symm⟩,rfl⟩
theorem Lf(s t:List AO):norm (EW s t)=Bw s t:=Ib λr=>mem_joinL2
theorem M9(s t:List AO):(EW s t).length<=s.length*t.length:=by
 unfold EW
 induction s with
 |nil=>simp
 |cons a s ih=>
  rw[flatMap_cons,length_append,length_map,length_cons,Nat.add_mul,Nat.one_mul]
  have:=length_filter_le (λb=>decide (a.getLastD 0=Bj b)) t
  omega
section
variable {n:Nat}{σ:St}
theorem Ly(s t:List AO)(hs:∀r∈s,r≠[]/\r.length<=10)(ht:∀r∈t,r≠[]/\r.length<=10)(ls:s.length<=100)(lt:t.length<=100)(hg:Good (Dc s t)):
 AQ (n+40) (Str.ofString "_law_joined") [.list (s.map AD),.list (t.map AD)] σ=some (.list ((Bw s t).map AD),σ):=by
 have hl2:s.length*t.length<=100*100:=Nat.mul_le_mul ls lt
 have hl:=M9 s t
 have e:(EW s t).map AD=s.flatMap λa=>(t.filter λb=>decide (a.getLastD 0=Bj b)).map λb=>AD (a.dropLast++b.tail):=by
  unfold EW
  rw[<-C4]
  congr 1
  funext a
  rw[map_map];rfl
 have fin:=Ba (EW s t) (λr hr=>hg r (mem_joinL2.mp hr))
 have hl':((EW s t).map AD).length<=100000:=by rw[length_map];omega
 rw[Lf,e] at fin
 rw[e] at hl'
 refine' A4 rfl rfl (AK (AS (FB rfl rfl rfl rfl (Ar rfl (AT rfl (AA rfl) rfl) rfl ?c hl') rfl fin)))
 case c=>
  refine DC (g:=λa=>(t.filter λb=>decide (a.getLastD 0=Bj b)).map λb=>AD (a.dropLast++b.tail)) s λone h1=> ?_
  obtain⟨h2,h3⟩:=hs one h1
  obtain⟨q,a,rfl⟩:∃q a,one=q++[a]:=⟨one.dropLast,one.getLast h2,(List.dropLast_concat_getLast h2).symm⟩
  have hq:q.length<=9:=by simp at h3;omega
  have e1:(q++[a]).getLastD 0=a:=by simp
  have e2:(q++[a]).dropLast=q:=by simp
  have e3:=HX (q++[a]) (by simp;omega)
  rw[e2] at e3
  rw[e1,e2]
  refine' JM rfl rfl HS (AT rfl (AA rfl) rfl) ?inner ?back
  case inner=>
   refine DD (λb=>decide (a=Bj b)) (λb=>AD (q++b.tail)) t λb hb=> ?_
   obtain⟨b1,b2⟩:=ht b hb
   match b,b1,b2 with
   |x::b',_,b2=>
   have hb':b'.length<=9:=by simp at b2;omega
   exact Bz rfl rfl (By (AJ (A6 rfl rfl (AA rfl) CI rfl (J8 q a (by omega))) (A6 rfl rfl (AA rfl) AG rfl (Fx x b')) (I0 _ _))) (λ_=>Ak (CZ (AA rfl) Be (DM CI) Be e3) (CZ (AA rfl) (DM AG) Be Be (IO (x::b') (by omega))) (Gj q b' (by omega))) rfl rfl
  case back=>rfl
theorem Du{m j k:Nat}{s t:List AO}(hs:RelOk m j s)(ht:RelOk m k t)(hm:m<=3)(hj:j=1\/j=2)(hk:k=1\/k=2)(hjk:j+k≠2):AQ (n+40) (Str.ofString "_law_joined") [.list (s.map AD),.list (t.map AD)] σ=some (.list ((Bw s t).map AD),σ):=by
 have l1:=hs.len12 hm hj
 have l2:=ht.len12 hm hk
 have jr:=EV hs ht (by omega) (by omega)
 refine Ly s t (λr hr=> ?_) (λr hr=> ?_) (by omega) (by omega) (λr hr=> ?_)
 ·have:=hs.len r hr
  exact⟨λq=>by rw[q] at this;simp at this;omega,by omega⟩
 ·have:=ht.len r hr
  exact⟨λq=>by rw[q] at this;simp at this;omega,by omega⟩
 ·have h3:=jr.1 r hr
  have h4:=jr.2 r hr
  have:j+k -2=1\/j+k -2=2:=by omega
  rcases this with e|e<;>rw[e] at h3
  ·match r,h3 with
   |[a],_=>have:=h4 a (by simp);simp only[CQ,and_eq_true,decide_eq_true_eq];omega
  ·match r,h3 with
   |[a,b],_=>
    have h5:=h4 a (by simp)
    have h6:=h4 b (by simp)
    simp only[CQ,and_eq_true,decide_eq_true_eq];omega
end
def MS(s f:List AO):Ev:=⟨(AU "_law_closed").names,[(Str.ofString "some",.d (.list (s.map AD))),(Str.ofString "found",.d (.list (f.map AD)))],[]⟩
def SM(s f:List AO):List AO:=norm (s++Bw f s)
theorem SL{s c:List AO}(h1:∀r∈s,r∈c)(h2:∀r∈c,r∈s\/r∈Bw c s):SM s c=CC s c:=by
 unfold SM CC Cb
 refine Ib λr=> ?_
 rw[mem_append,mem_append]
 constructor
 ·rintro(h|h)
  ·exact .inl (h1 r h)
  ·exact .inr h
 ·rintro(h|h)
  ·exact h2 r h
  ·exact .inr h
theorem Mi{s c:List AO}(h1:∀r∈s,r∈c)(h2:∀r∈c,r∈s\/r∈Bw c s):(∀r∈s,r∈CC s c)/\∀r∈CC s c,r∈s\/r∈Bw (CC s c) s:=by
 have up:∀r∈c,r∈CC s c:=λr h=>mem_union.mpr (.inl h)
 have jm:∀r∈Bw c s,r∈Bw (CC s c) s:=λr h=>by
  obtain⟨a,ha,b,hb,he,rfl⟩:=mem_joinR.mp h
  exact mem_joinR.mpr ⟨a,up a ha,b,hb,he,rfl⟩
 refine⟨λr h=>up r (h1 r h),λr h=> ?_⟩
 rcases mem_union.mp h with h|h
 ·rcases h2 r h with h|h
  ·exact .inl h
  ·exact .inr (jm r h)
 ·exact .inr (jm r h)
section
variable {n:Nat}{σ:St}
theorem LK{m:Nat}{s f:List AO}(hs:RelOk m 2 s)(hf:RelOk m 2 f)(hm:m<=3):Good (s++Bw f s):=(hs.good hm (.inr rfl)).app ((hf.join hs (by omega) (by omega)).good hm (.inr rfl))
theorem NM{m:Nat}{s f:List AO}{Y:Fl×Ev×St}(hs:RelOk m 2 s)(hf:RelOk m 2 f)(hm:m<=3)(hne:SM s f≠f)(hY:Gm (n+60) (DF (CA "_law_closed" 1)) (DG (CA "_law_closed" 1)) (MS s (SM s f)) σ=some Y):
 Gm (n+61) (DF (CA "_law_closed" 1)) (DG (CA "_law_closed" 1)) (MS s f) σ=some Y:=by
 have h:=EJ (SM s f) f
 rw[decide_eq_false hne] at h
 have l1:=hs.len12 hm (.inr rfl)
 have l2:=(hf.join hs (by omega) (by omega)).len12 hm (.inr rfl)
 refine' TA (Cz rfl Dm) (AW (AP (JO rfl (FB rfl rfl rfl rfl (Ak (AA rfl) (AE rfl rfl rfl (AN (AB rfl (AA rfl) (AB rfl (AA rfl) AH)) rfl rfl rfl (Du hf hs hm (.inr rfl) (.inr rfl) (by omega)) rfl)) (Ck s (Bw f s) (by omega))) rfl (Ba _ (LK hs hf hm)))) rfl)
  (AW (F7 (AJ (AA rfl) (AA rfl) h) (by rw[if_neg Bool.false_ne_true];exact BC)) (AW (AP (AI rfl (AA rfl)) rfl) BC))) ?y
 case y=>exact hY
theorem O5{m:Nat}{s f:List AO}(hs:RelOk m 2 s)(hf:RelOk m 2 f)(hm:m<=3)(he:SM s f=f):
 ∃ρ',Gm (n+61) (DF (CA "_law_closed" 1)) (DG (CA "_law_closed" 1)) (MS s f) σ=some (.ret (.list (f.map AD)),ρ',σ):=by
 have h:=EJ (SM s f) f
 rw[decide_eq_true he] at h
 have l1:=hs.len12 hm (.inr rfl)
 have l2:=(hf.join hs (by omega) (by omega)).len12 hm (.inr rfl)
 refine'⟨_,SD (Cz rfl Dm) (AW (AP (JO rfl (FB rfl rfl rfl rfl (Ak (AA rfl) (AE rfl rfl rfl (AN (AB rfl (AA rfl) (AB rfl (AA rfl) AH)) rfl rfl rfl (Du hf hs hm (.inr rfl) (.inr rfl) (by omega)) rfl)) (Ck s (Bw f s) (by omega))) rfl (Ba _ (LK hs hf hm)))) rfl)
  (Bs (F7 (AJ (AA rfl) (AA rfl) h) ?z)))⟩
 case z=>
  rw[if_pos rfl]
  exact Bs (AS (AA rfl))
theorem I6{m:Nat}{s:List AO}(hs:RelOk m 2 s)(hm:m<=3):∀(k:Nat)(c:List AO),RelOk m 2 c->(∀r∈s,r∈c)->(∀r∈c,r∈s\/r∈Bw c s)->12 -c.length<=k->∀n,∃ρ',Gm (n+60+k+1) (DF (CA "_law_closed" 1)) (DG (CA "_law_closed" 1)) (MS s c) σ=some (.ret (.list ((Gn s (k+1) c).map AD)),ρ',σ)
 |k,c,hc,h1,h2,hk,n=>by
  have e:n+60+k+1=(n+k)+61:=by omega
  rw[e]
  have es:=SL h1 h2
  by_cases hst:CC s c=c
  ·have:Gn s (k+1) c=c:=N6 hst _
   rw[this]
   exact O5 hs hc hm (es.trans hst)
  ·have hg:=Fg hs hc hst
   have h12:=(hs.step hc).len12 hm (.inr rfl)
   have⟨g1,g2⟩:=Mi h1 h2
   cases k with
   |zero=>omega
   |succ k=>
    obtain⟨ρ',ih⟩:=I6 hs hm k (CC s c) (hs.step hc) g1 g2 (by omega) n
    have e2:n+(k+1)+60=n+60+k+1:=by omega
    refine⟨ρ',NM hs hc hm (by rw[es];exact hst) ?_⟩
    rw[es,e2,ih]
    have:Gn s (k+1+1) c=Gn s (k+1) (CC s c):=by rw[Gn,if_neg hst]
    rw[this]
theorem Op(s:List AO):Bw [] s=[]:=rfl
def Kz(s:List AO):Ev:=⟨(AU "_law_closed").names,[(Str.ofString "some",.d (.list (s.map AD))),(Str.ofString "found",.ownL [])],[]⟩
theorem Nk(m k:Nat):RelOk m k ([]:List AO):=⟨List.Pairwise.nil,λr h=>(nomatch h),λr h=>(nomatch h)⟩
theorem Im{m:Nat}{s:List AO}(hs:RelOk m 2 s)(hm:m<=3):AQ (n+40) (Str.ofString "_law_joined") [.list [],.list (s.map AD)] σ=some (.list [],σ):=by
 have h:=Du (n:=n) (σ:=σ) (s:=[]) (t:=s) (Nk m 2) hs hm (.inr rfl) (.inr rfl) (by omega)
 rw[Op] at h
 exact h
theorem JI{s:List AO}(hs:s.length<=1000):CN .Add (.list (s.map AD)) (.list [])=some (.list (s.map AD)):=by
 have:=Ck s [] (by simp;omega)
 rw[append_nil] at this;exact this
theorem IR{m:Nat}{s:List AO}(hs:RelOk m 2 s)(hm:m<=3):DZ (s.map AD)=some (s.map AD):=by
 have:=Ba s (hs.good hm (.inr rfl))
 rw[G6 hs.srt] at this;exact this
theorem O6{m:Nat}(hm:m<=3):∃ρ',Gm (n+61) (DF (CA "_law_closed" 1)) (DG (CA "_law_closed" 1)) (Kz []) σ=some (.ret (.list []),ρ',σ):=by
 have h:=EJ [] []
 refine'⟨_,SD (Cz rfl Dm) (AW (AP (JO rfl (FB rfl rfl rfl rfl (Ak (AA rfl) (AE rfl rfl rfl (AN (AB rfl (AA rfl) (AB rfl (AA rfl) AH)) rfl rfl rfl (Im (Nk m 2) hm) rfl)) (JI (s:=[]) (by simp))) rfl (IR (Nk m 2) hm))) rfl)
  (Bs (F7 (AJ (AA rfl) (AA rfl) h) ?z)))⟩
 case z=>exact Bs (AS (AA rfl))
theorem NN{m:Nat}{s:List AO}{Y:Fl×Ev×St}(hs:RelOk m 2 s)(hm:m<=3)(hne:s≠[])(hY:Gm (n+60) (DF (CA "_law_closed" 1)) (DG (CA "_law_closed" 1)) (MS s s) σ=some Y):
 Gm (n+61) (DF (CA "_law_closed" 1)) (DG (CA "_law_closed" 1)) (Kz s) σ=some Y:=by
 have h:=EJ s []
 rw[decide_eq_false hne] at h
 have l1:=hs.len12 hm (.inr rfl)
 refine' TA (Cz rfl Dm) (AW (AP (JO rfl (FB rfl rfl rfl rfl (Ak (AA rfl) (AE rfl rfl rfl (AN (AB rfl (AA rfl) (AB rfl (AA rfl) AH)) rfl rfl rfl (Im hs hm) rfl)) (JI (by omega))) rfl (IR hs hm))) rfl)
  (AW (F7 (AJ (AA rfl) (AA rfl) h) (by rw[if_neg Bool.false_ne_true];exact BC)) (AW (AP (AI rfl (AA rfl)) rfl) BC))) ?y
 case y=>exact hY
theorem Hp{m:Nat}{s:List AO}(hs:RelOk m 2 s)(hm:m<=3):AQ (n+90) (Str.ofString "_law_closed") [.list (s.map AD)] σ=some (.list ((CG s).map AD),σ):=by
 have e0:fnTab.lookup (Str.ofString "_law_closed")=some ⟨(AU "_law_closed").params,(AU "_law_closed").names,(AU "_law_closed").body⟩:=rfl
 have l1:=hs.len12 hm (.inr rfl)
 have key:∃ρ',Gm (n+86) (DF (CA "_law_closed" 1)) (DG (CA "_law_closed" 1)) (Kz s) σ=some (.ret (.list ((CG s).map AD)),ρ',σ):=by
  by_cases hse:s=[]
  ·subst hse
   exact O6 (n:=n+25) hm
  ·have:CG s=Gn s 13 s:=by unfold CG;rw[if_neg hse]
   rw[this]
   obtain⟨ρ',hl⟩:=I6 (σ:=σ) hs hm 12 s hs (λr h=>h) (λr h=> .inl h) (by omega) (n+12)
   exact⟨ρ',NN (n:=n+25) hs hm hse hl⟩
 obtain⟨ρ',key⟩:=key
 exact A4 e0 rfl (AM (ρ₁:=Kz s) (AP K7 rfl) (AK (K5 key)))
end
theorem eq_bool(a b:Bool):Av .Eq (.bool a) (.bool b)=some (a==b):=rfl
theorem J0(i:Int):∀l:List Int,Cl (.int i) (l.map .int)=decide (i∈l)
 |[]=>rfl
 |x::l=>by
  rw[map_cons]
  unfold Cl
  rw[J0 i l]
  have:D.beq (.int x) (.int i)=decide (x=i):=by unfold D.beq;rfl
  rw[this]
  by_cases h1:x=i
  ·subst h1;simp
  ·simp[h1,Ne.symm h1]
theorem Mv(i:Int)(l:List Int):Av .NotIn (.int i) (.list (l.map .int))=some (decide (i∉l)):=by
 have e:Av .NotIn (.int i) (.list (l.map .int))=(if D.ok 20 (.int i)&&(l.map D.int).all (D.ok 20) then some (Cl (.int i) (l.map .int)) else none).map (!·):=rfl
 have h1:D.ok 20 (.int i)=true:=rfl
 rw[e,h1,Ng,J0]
 by_cases h:i∈l<;>simp[h]
def LZ(s t:List AO):List AO:=norm (t++s.filter λr=>decide (Bj r∉t.map Bj))
theorem mem_over{s t:List AO}{r:AO}:r∈LZ s t↔r∈t\/(r∈s/\Bj r∉t.map Bj):=by
 unfold LZ
 rw[mem_norm,mem_append,mem_filter,decide_eq_true_eq]
theorem RelOk.over{m k:Nat}{s t:List AO}(hs:RelOk m k s)(ht:RelOk m k t):RelOk m k (LZ s t):=by
 refine RelOk.norm_of (λr hr=> ?_) (λr hr=> ?_)<;>(rcases mem_append.mp hr with h|h)
 ·exact ht.len r h
 ·exact hs.len r (mem_filter.mp h).1
 ·exact ht.ats r h
 ·exact hs.ats r (mem_filter.mp h).1
def Gl(s:String)(a b c:List AO):Prop:=∀n σ,AQ (n+70) (Str.ofString "_law_mixed") [Am s,.list (a.map AD),.list (b.map AD)] σ=some (.list (c.map AD),σ)
section
variable {m k j:Nat}{s t:List AO}
theorem OZ(hs:RelOk m k s)(ht:RelOk m k t)(hm:m<=3)(hk:k=1\/k=2):Gl "union" s t (Cb s t):=by
 intro n σ
 have l1:=hs.len12 hm hk
 have l2:=ht.len12 hm hk
 exact A4 rfl rfl (Aa (Tq rfl rfl rfl rfl) (AK (AS (FB rfl rfl rfl rfl (Ak (AA rfl) (AA rfl) (Ck s t (by omega))) rfl (Ba _ ((hs.good hm hk).app (ht.good hm hk)))))))
theorem P0(hs:RelOk m k s)(ht:RelOk m k t)(hm:m<=3)(hk:k=1\/k=2):Gl "meet" s t (Lk s t):=by
 intro n σ
 have l1:=hs.len12 hm hk
 have l2:=ht.len12 hm hk
 have hb:∀r:AO,(decide (r∈t)==true)=decide (r∈t):=λr=>by by_cases h:r∈t<;>simp[h]
 have he:∀r:AO,Av .Eq (.bool (decide (r∈t))) (.bool true)=some (decide (r∈t)):=λr=>by rw[eq_bool,hb]
 exact A4 rfl rfl (AC (Tq rfl rfl rfl rfl) (Aa (C2 (Dn (Tq rfl rfl rfl rfl) (λq=>nomatch q) (λ_=>⟨rfl,rfl,rfl⟩))) (AK (AS (Ar rfl (AT rfl (AA rfl) rfl) rfl (CM (λr=>decide (r∈t)) λr hr=>Bz rfl rfl (By (AJ (Hu (AA rfl) (AA rfl) (E4 r t)) (Hu (AA rfl) AY (EZ rfl rfl rfl)) (he r))) (λ_=>AA rfl) rfl rfl) (by rw[length_map];exact Nat.le_trans (length_filter_le _ _) (by omega)))))))
theorem Oa(hs:RelOk m k s)(ht:RelOk m k t)(hm:m<=3)(hk:k=1\/k=2):Gl "minus" s t (Az s t):=by
 intro n σ
 have l1:=hs.len12 hm hk
 have l2:=ht.len12 hm hk
 have hb:∀r:AO,(decide (r∈t)==false)=decide (r∉t):=λr=>by by_cases h:r∈t<;>simp[h]
 have he:∀r:AO,Av .Eq (.bool (decide (r∈t))) (.bool false)=some (decide (r∉t)):=λr=>by rw[eq_bool,hb]
 exact A4 rfl rfl (AC (Tq rfl rfl rfl rfl) (Aa (C2 (Dn (Tq rfl rfl rfl rfl) (λ_=>Dn (Tq rfl rfl rfl rfl) (λq=>nomatch q) (λ_=>⟨rfl,rfl,rfl⟩)) (λq=>nomatch q))) (AK (AS (Ar rfl (AT rfl (AA rfl) rfl) rfl (CM (λr=>decide (r∉t)) λr hr=>Bz rfl rfl (By (AJ (Hu (AA rfl) (AA rfl) (E4 r t)) (Hu (AA rfl) AY (EZ rfl rfl rfl)) (he r))) (λ_=>AA rfl) rfl rfl) (by rw[length_map];exact Nat.le_trans (length_filter_le _ _) (by omega)))))))
theorem Pz(hs:RelOk m k s)(ht:RelOk m k t)(hm:m<=3)(hk:k=1\/k=2):Gl "override" s t (LZ s t):=by
 intro n σ
 have l1:=hs.len12 hm hk
 have l2:=ht.len12 hm hk
 have hd:∀r:AO,r.length=k->Al (AD r) (.int 0)=some (.int (Bj r)):=λr hr=>by
  match r,hr with
  |[],hr=>simp at hr;omega
  |x::r,_=>exact Fx x r
 have l3:=length_filter_le (λr=>decide (Bj r∉t.map Bj)) s
 have em:(t.map λr=>D.int (Bj r))=(t.map Bj).map .int:=by rw[map_map];rfl
 have hc:∀(f:D->Ev×St->Option (List D×Ev×St)) st,(∀r∈t,f (AD r) st=some ([.int (Bj r)],st))->CW f (t.map AD) st=some ((t.map Bj).map .int,st):=λf st h=>by rw[<-em];exact A5 (λr=> .int (Bj r)) t h
 exact A4 rfl rfl (AC (Tq rfl rfl rfl rfl) (AC (C2 (Dn (Tq rfl rfl rfl rfl) (λ_=>Dn (Tq rfl rfl rfl rfl) (λ_=>Fd) (λq=>nomatch q)) (λq=>nomatch q))) (Aa (Tq rfl rfl rfl rfl) (AM (AP (AI rfl (Ar rfl (AT rfl (AA rfl) rfl) rfl (hc _ _ λr hr=>CH rfl rfl rfl (A6 rfl rfl (AA rfl) AG rfl (hd r (ht.len r hr))) rfl) (by simp;omega))) rfl) (AK (AS (FB rfl rfl rfl rfl (Ak (AA rfl) (Ar rfl (AT rfl (AA rfl) rfl) rfl (CM (λr=>decide (Bj r∉t.map Bj)) λr hr=>Bz rfl rfl (By (AJ (A6 rfl rfl (AA rfl) AG rfl (hd r (hs.len r hr))) (AA rfl) (Mv _ _))) (λ_=>AA rfl) rfl rfl) (by rw[length_map];exact Nat.le_trans (length_filter_le _ _) (by omega))) (Ck t _ (by omega))) rfl (Ba _ ((ht.good hm hk).app ((hs.good hm hk).filter _))))))))))
theorem Py(hs:RelOk m 1 s)(ht:RelOk m 1 t)(hm:m<=3):Gl "product" s t (CE s t):=by
 intro n σ
 have l1:=hs.len12 hm (.inl rfl)
 have l2:=ht.len12 hm (.inl rfl)
 have hl:((CE s t).map AD).length<=100000:=by
  rw[length_map,LW]
  exact Nat.le_trans (Nat.mul_le_mul l1 l2) (by decide)
 have e:(CE s t).map AD=s.flatMap λa=>t.map λb=>AD (a++b):=by
  unfold CE
  rw[<-C4]
  congr 1
  funext a
  rw[map_map];rfl
 rw[e] at hl⊢
 exact A4 rfl rfl (AC (Tq rfl rfl rfl rfl) (AC (C2 (Dn (Tq rfl rfl rfl rfl) (λ_=>Dn (Tq rfl rfl rfl rfl) (λ_=>Fd) (λq=>nomatch q)) (λq=>nomatch q))) (AC (Tq rfl rfl rfl rfl) (Aa (Tq rfl rfl rfl rfl) (AK (AS (Ar rfl (AT rfl (AA rfl) rfl) rfl (DC (g:=λa=>t.map λb=>AD (a++b)) s λa ha=>JM rfl rfl HS (AT rfl (AA rfl) rfl) (A5 (λb=>AD (a++b)) t λb hb=>CH rfl rfl rfl (Ak (AA rfl) (AA rfl) (Gj a b (by have:=hs.len a ha;have:=ht.len b hb;omega))) rfl) rfl) hl)))))))
theorem Ig(hs:RelOk m j s)(ht:RelOk m k t)(hm:m<=3)(hj:j=1\/j=2)(hk:k=1\/k=2)(hjk:j+k≠2):Gl "join" s t (Bw s t):=by
 intro n σ
 exact A4 rfl rfl (AC (Tq rfl rfl rfl rfl) (AC (C2 (Dn (Tq rfl rfl rfl rfl) (λ_=>Dn (Tq rfl rfl rfl rfl) (λ_=>Fd) (λq=>nomatch q)) (λq=>nomatch q))) (AC (Tq rfl rfl rfl rfl) (AC (Tq rfl rfl rfl rfl) (Aa (Tq rfl rfl rfl rfl) (AK (AS (AE rfl rfl rfl (AN (AB rfl (AA rfl) (AB rfl (AA rfl) AH)) rfl rfl rfl (Du hs ht hm hj hk hjk) rfl)))))))))
theorem Ob(hs:RelOk m 1 s)(ht:RelOk m 2 t)(hm:m<=3):Gl "ahead" s t (HQ s t):=by
 intro n σ
 have l2:=ht.len12 hm (.inr rfl)
 exact A4 rfl rfl (AC (Tq rfl rfl rfl rfl) (AC (C2 (Dn (Tq rfl rfl rfl rfl) (λ_=>Dn (Tq rfl rfl rfl rfl) (λ_=>Fd) (λq=>nomatch q)) (λq=>nomatch q))) (AC (Tq rfl rfl rfl rfl) (AC (Tq rfl rfl rfl rfl) (AC (Tq rfl rfl rfl rfl) (AK (AS (Bm (c:=true) (Tq rfl rfl rfl rfl) (Ar rfl (AT rfl (AA rfl) rfl) rfl (CM (λone=>decide (one.take 1∈s)) λr hr=>Bz rfl rfl (By (AJ (CZ (AA rfl) Be (DM AG) Be (LM r (by have:=ht.len r hr;omega))) (AA rfl) (E4 (r.take 1) s))) (λ_=>AA rfl) rfl rfl) (by rw[length_map];exact Nat.le_trans (length_filter_le _ _) (by omega)))))))))))
theorem M0(hs:RelOk m 2 s)(ht:RelOk m 1 t)(hm:m<=3):Gl "behind" s t (FP s t):=by
 intro n σ
 have l2:=hs.len12 hm (.inr rfl)
 exact A4 rfl rfl (AC (Tq rfl rfl rfl rfl) (AC (C2 (Dn (Tq rfl rfl rfl rfl) (λ_=>Dn (Tq rfl rfl rfl rfl) (λ_=>Fd) (λq=>nomatch q)) (λq=>nomatch q))) (AC (Tq rfl rfl rfl rfl) (AC (Tq rfl rfl rfl rfl) (AC (Tq rfl rfl rfl rfl) (AK (AS (Bm (c:=false) (Tq rfl rfl rfl rfl) (Ar rfl (AT rfl (AA rfl) rfl) rfl (CM (λone=>decide (one.drop (one.length -1)∈t)) λr hr=>Bz rfl rfl (By (AJ (CZ (AA rfl) (DM CI) Be Be (IP r (by have:=hs.len r hr;omega))) (AA rfl) (E4 (r.drop (r.length -1)) t))) (λ_=>AA rfl) rfl rfl) (by rw[length_map];exact Nat.le_trans (length_filter_le _ _) (by omega)))))))))))
end
abbrev VE:=List (Str×List AO)
abbrev sE:Str:=Str.ofString ""
abbrev sY:Str:=Str.ofString "y"
abbrev sZ:Str:=Str.ofString "z"
structure Re where
 m:Nat
 r0:List AO
 r1:List AO
def E8(m:Nat):D:= .list ((List.range m).map λ(i:Nat)=> .int (i:Int))
def Ah(rs:List AO):D:= .list (rs.map AD)
def Mb(v:VE):List (Key×D):=v.map λp=>(.s p.1,Ah p.2)
def B2(R:Re)(v:VE):List (Key×D):=(.i 0,Ah R.r0)::(.i 1,Ah R.r1)::(.s sE,E8 R.m)::Mb v
theorem SB:∀(v:VE)(x:Str)(rs:List AO),v.lookup x=some rs->Af (Key.s x) (Mb v)=some (Ah rs)
 |[],_,_,h=>by cases h
 |(y,q)::v,x,rs,h=>by
  rw[lookup_cons] at h
  unfold Mb
  rw[map_cons]
  unfold Af
  dsimp only
  cases hxy:x==y with
  |true=>
   have e:=eq_of_beq hxy
   subst e
   rw[hxy] at h
   cases h
   rw[if_pos rfl]
  |false=>
   rw[hxy] at h
   have:¬(Key.s y=Key.s x):=λq=>by cases q;simp at hxy
   rw[if_neg this]
   exact SB v x rs h
theorem Sh{R:Re}{v:VE}{x:Str}{rs:List AO}(hx:x≠sE)(h:v.lookup x=some rs):Al (.dict (B2 R v)) (.str x)=some (Ah rs):=by
 have e:Al (.dict (B2 R v)) (.str x)=Af (Key.s x) (B2 R v):=rfl
 rw[e]
 unfold B2 Af Af Af
 have h1:¬(Key.i 0=Key.s x):=λq=>by cases q
 have h2:¬(Key.i 1=Key.s x):=λq=>by cases q
 have h3:¬(Key.s sE=Key.s x):=λq=>by cases q;exact hx rfl
 rw[if_neg h1,if_neg h2,if_neg h3]
 exact SB v x rs h
theorem QI(R:Re)(v:VE):Al (.dict (B2 R v)) (Am "")=some (E8 R.m):=by
 have e:Al (.dict (B2 R v)) (Am "")=Af (Key.s sE) (B2 R v):=rfl
 rw[e]
 unfold B2 Af Af Af
 have h1:¬(Key.i 0=Key.s sE):=λq=>by cases q
 have h2:¬(Key.i 1=Key.s sE):=λq=>by cases q
 rw[if_neg h1,if_neg h2,if_pos rfl]
theorem Sj(R:Re)(v:VE):Al (.dict (B2 R v)) (.int ((0:Nat):Int))=some (Ah R.r0):=by
 have e:Al (.dict (B2 R v)) (.int ((0:Nat):Int))=Af (Key.i 0) (B2 R v):=rfl
 rw[e];unfold B2 Af;rw[if_pos rfl]
theorem Si(R:Re)(v:VE):Al (.dict (B2 R v)) (.int ((1:Nat):Int))=some (Ah R.r1):=by
 have e:Al (.dict (B2 R v)) (.int ((1:Nat):Int))=Af (Key.i 1) (B2 R v):=rfl
 have h1:¬(Key.i 0=Key.i 1):=λq=>by cases q
 rw[e];unfold B2 Af Af;rw[if_neg h1,if_pos rfl]
theorem Pi(y:Str)(rs:List AO):∀v:VE,B9 (Key.s y) (Ah rs) (Mb v)=Mb (BO v y rs)
 |[]=>rfl
 |(z,q)::v=>by
  unfold BO
  unfold Mb
  rw[map_cons]
  unfold B9
  dsimp only
  by_cases h:z=y
  ·subst h;rw[if_pos rfl,if_pos rfl];rfl
  ·have:¬(Key.s z=Key.s y):=λq=>by cases q;exact h rfl
   rw[if_neg this,if_neg h,map_cons]
   congr 1
   exact Pi y rs v
theorem Q7(R:Re)(v:VE){y:Str}(hy:y≠sE)(rs:List AO):B9 (Key.s y) (Ah rs) (B2 R v)=B2 R (BO v y rs):=by
 unfold B2 B9 B9 B9
 have h1:¬(Key.i 0=Key.s y):=λq=>by cases q
 have h2:¬(Key.i 1=Key.s y):=λq=>by cases q
 have h3:¬(Key.s sE=Key.s y):=λq=>by cases q;exact hy rfl
 rw[if_neg h1,if_neg h2,if_neg h3,Pi]
mutual
def AX(R:Re):Ex->VE->List AO
 | .rel i,v=>if i=0 then R.r0 else R.r1
 | .var x,v=>(v.lookup x).getD []
 | .tup1,v=>[[0]]
 | .tup2,v=>[[0,1],[1,1]]
 | .univ,v=>CS R.m
 | .none1,v=>[]
 | .iden,v=>Dd R.m
 | .join a c,v=>Bw (AX R a v) (AX R c v)
 | .turn a,v=>II (AX R a v)
 | .clo a,v=>CG (AX R a v)
 | .star a,v=>IM R.m (AX R a v)
 | .prod a c,v=>CE (AX R a v) (AX R c v)
 | .ahead a c,v=>HQ (AX R a v) (AX R c v)
 | .behind a c,v=>FP (AX R a v) (AX R c v)
 | .sign s a c,v=>if s=0 then Cb (AX R a v) (AX R c v) else if s=1 then Lk (AX R a v) (AX R c v) else if s=2 then Az (AX R a v) (AX R c v) else LZ (AX R a v) (AX R c v)
 | .comp1 a f,v=>(AX R a v).filter λr=>Oz R f (BO v sY [r])
 | .comp2 a c f,v=>norm ((AX R a v).flatMap λr=>((AX R c (BO v sY [r])).filter λq=>Oz R f (BO (BO v sY [r]) sZ [q])).map λq=>r++q)
 | .either f a c,v=>if Oz R f v then AX R a v else AX R c v
def Oz(R:Re):Fm->VE->Bool
 | .inn a c,v=>decide (Az (AX R a v) (AX R c v)=[])
 | .some a,v=>decide (AX R a v≠[])
end
mutual
def Ex.fr:Ex->Nat
 | .join a c=>max a.fr c.fr+60
 | .turn a=>a.fr+60
 | .clo a=>a.fr+60
 | .star a=>a.fr+60
 | .prod a c=>max a.fr c.fr+60
 | .ahead a c=>max a.fr c.fr+60
 | .behind a c=>max a.fr c.fr+60
 | .sign _ a c=>max a.fr c.fr+60
 | .comp1 a f=>max a.fr f.fr+100
 | .comp2 a c f=>max (max a.fr c.fr) f.fr+100
 | .either f a c=>max (max a.fr c.fr) f.fr+60
 |_=>100
def Fm.fr:Fm->Nat
 | .inn a c=>max a.fr c.fr+40
 | .some a=>a.fr+40
end
def RowsIs(R:Re)(e:Ex)(v:VE)(K:Nat)(rs:List AO):Prop:=∀N σ,K<=N->AQ N (Str.ofString "_law_rows") [e.toD,.dict (B2 R v)] σ=some (Ah rs,σ)
def FmIs(R:Re)(f:Fm)(v:VE)(K:Nat)(b:Bool):Prop:=∀N σ,K<=N->AQ N (Str.ofString "_law_is_so") [f.toD,.dict (B2 R v)] σ=some (.bool b,σ)
theorem RowsIs.mono{R:Re}{e:Ex}{v:VE}{K K':Nat}{rs:List AO}(h:RowsIs R e v K rs)(hk:K<=K'):RowsIs R e v K' rs:=λN σ hN=>h N σ (by omega)
theorem FmIs.mono{R:Re}{e:Fm}{v:VE}{K K':Nat}{b:Bool}(h:FmIs R e v K b)(hk:K<=K'):FmIs R e v K' b:=λN σ hN=>h N σ (by omega)
theorem FO(xs:List D)(h:xs.length<=100000):Ag "list" [.tup xs]=some (.list xs):=by simp only[Ag,h,if_true]
section
variable {R:Re}{v:VE}
theorem SY:RowsIs R (.rel 0) v 100 R.r0:=λN σ hN=>by
 obtain⟨M,rfl⟩:∃M,N=M+100:=⟨N -100,by omega⟩
 exact A4 rfl rfl (AM (AP (AI rfl (Ei rfl rfl (D4 _ _))) rfl) (Aa (Fa rfl rfl rfl rfl rfl) (AK (AS (A6 rfl rfl (AA rfl) (Ei rfl rfl (JQ _ _ _)) rfl (Sj R v))))))
theorem SX:RowsIs R (.rel 1) v 100 R.r1:=λN σ hN=>by
 obtain⟨M,rfl⟩:∃M,N=M+100:=⟨N -100,by omega⟩
 exact A4 rfl rfl (AM (AP (AI rfl (Ei rfl rfl (D4 _ _))) rfl) (Aa (Fa rfl rfl rfl rfl rfl) (AK (AS (A6 rfl rfl (AA rfl) (Ei rfl rfl (JQ _ _ _)) rfl (Si R v))))))
theorem TV{x:Str}{rs:List AO}(hx:x≠sE)(h:v.lookup x=some rs):RowsIs R (.var x) v 100 rs:=λN σ hN=>by
 obtain⟨M,rfl⟩:∃M,N=M+100:=⟨N -100,by omega⟩
 exact A4 rfl rfl (AM (AP (AI rfl (Ei rfl rfl (D4 _ _))) rfl) (Aa (Fa rfl rfl rfl rfl rfl) (AK (AS (A6 rfl rfl (AA rfl) (Ei rfl rfl (JQ _ _ _)) rfl (Sh hx h))))))
theorem SV:RowsIs R .tup1 v 100 [[0]]:=λN σ hN=>by
 obtain⟨M,rfl⟩:∃M,N=M+100:=⟨N -100,by omega⟩
 exact A4 rfl rfl (AM (AP (AI rfl (Ei rfl rfl (D4 _ _))) rfl) (AC (Fa rfl rfl rfl rfl rfl) (Aa (Tq rfl rfl rfl rfl) (AK (AS (AE rfl rfl rfl (BJ (b:= "list") (AB rfl (Ei rfl rfl (Qj _ _ _ _)) AH) rfl rfl (FO _ (by simp)))))))))
theorem SU:RowsIs R .tup2 v 100 [[0,1],[1,1]]:=λN σ hN=>by
 obtain⟨M,rfl⟩:∃M,N=M+100:=⟨N -100,by omega⟩
 exact A4 rfl rfl (AM (AP (AI rfl (Ei rfl rfl (D4 _ _))) rfl) (AC (Fa rfl rfl rfl rfl rfl) (Aa (Tq rfl rfl rfl rfl) (AK (AS (AE rfl rfl rfl (BJ (b:= "list") (AB rfl (Ei rfl rfl (Qj _ _ _ _)) AH) rfl rfl (FO _ (by simp)))))))))
theorem SZ:RowsIs R .none1 v 100 []:=λN σ hN=>by
 obtain⟨M,rfl⟩:∃M,N=M+100:=⟨N -100,by omega⟩
 exact A4 rfl rfl (AM (AP (AI rfl (Ei rfl rfl (D4 _ _))) rfl) (AC (Fa rfl rfl rfl rfl rfl) (AC (Tq rfl rfl rfl rfl) (Aa (Gp rfl rfl rfl rfl rfl rfl) (AK (AS (Bm (c:=true) (Tq rfl rfl rfl rfl) (BU AR (by simp)))))))))
theorem SR(hm:R.m<=3):RowsIs R .univ v 100 (CS R.m):=λN σ hN=>by
 obtain⟨M,rfl⟩:∃M,N=M+100:=⟨N -100,by omega⟩
 have e:Ah (CS R.m)= .list ((List.range R.m).map λ(i:Nat)=>AD [(i:Int)]):=by unfold Ah CS;rw[map_map];rfl
 rw[e]
 exact A4 rfl rfl (AM (AP (AI rfl (Ei rfl rfl (D4 _ _))) rfl) (AC (Fa rfl rfl rfl rfl rfl) (AC (Tq rfl rfl rfl rfl) (Aa (Gp rfl rfl rfl rfl rfl rfl) (AK (AS (Bm (c:=false) (Tq rfl rfl rfl rfl)
  (Ar rfl (AT rfl (A6 rfl rfl (AA rfl) AY rfl (QI R v)) rfl) rfl (A5 (λ(i:Nat)=>AD [(i:Int)]) (List.range R.m) λi hi=>CH rfl rfl rfl (Ak (Aj (AF rfl (AA rfl) AR) (by simp)) (Bm (c:=true) (Tq rfl rfl rfl rfl) AG) rfl) rfl) (by simp;omega)))))))))
theorem Sa(hm:R.m<=3):RowsIs R .iden v 100 (Dd R.m):=λN σ hN=>by
 obtain⟨M,rfl⟩:∃M,N=M+100:=⟨N -100,by omega⟩
 have e:Ah (Dd R.m)= .list ((List.range R.m).map λ(i:Nat)=>AD [(i:Int),(i:Int)]):=by unfold Ah Dd;rw[map_map];rfl
 rw[e]
 exact A4 rfl rfl (AM (AP (AI rfl (Ei rfl rfl (D4 _ _))) rfl) (AC (Fa rfl rfl rfl rfl rfl) (AC (Tq rfl rfl rfl rfl) (Aa (Gp rfl rfl rfl rfl rfl rfl) (AK (AS (Bm (c:=false) (Tq rfl rfl rfl rfl)
  (Ar rfl (AT rfl (A6 rfl rfl (AA rfl) AY rfl (QI R v)) rfl) rfl (A5 (λ(i:Nat)=>AD [(i:Int),(i:Int)]) (List.range R.m) λi hi=>CH rfl rfl rfl (Ak (Aj (AF rfl (AA rfl) AR) (by simp)) (Bm (c:=false) (Tq rfl rfl rfl rfl) AG) rfl) rfl) (by simp;omega)))))))))
end
theorem Q1{R:Re}{a:Ex}{v:VE}{K:Nat}{ra:List AO}(ha:RowsIs R a v K ra):FmIs R (.some a) v (K+40) (decide (ra≠[])):=λN σ hN=>by
 obtain⟨M,rfl⟩:∃M,N=M+40:=⟨N -40,by omega⟩
 exact A4 rfl rfl (AM (AP (AI rfl (AE rfl rfl rfl (AN (AB rfl (Ei rfl rfl (JQ _ _ _)) (AB rfl (AA rfl) AH)) rfl rfl rfl (ha _ _ (by omega)) rfl))) rfl)
  (AK (AS (Bm (c:=true) (AJ (Ei rfl rfl (D4 _ _)) AY (EZ rfl rfl rfl)) (Hu (AA rfl) (BU AR (by simp)) (Ie ra []))))))
theorem TT{R:Re}{a c:Ex}{v:VE}{K:Nat}{ra rc:List AO}(ha:RowsIs R a v K ra)(hc:RowsIs R c v K rc)(hl:ra.length<=100):FmIs R (.inn a c) v (K+40) (decide (Az ra rc=[])):=λN σ hN=>by
 obtain⟨M,rfl⟩:∃M,N=M+40:=⟨N -40,by omega⟩
 exact A4 rfl rfl (AM (AP (AI rfl (AE rfl rfl rfl (AN (AB rfl (Ei rfl rfl (JQ _ _ _)) (AB rfl (AA rfl) AH)) rfl rfl rfl (ha _ _ (by omega)) rfl))) rfl)
  (AK (AS (Bm (c:=false) (AJ (Ei rfl rfl (D4 _ _)) AY (EZ rfl rfl rfl))
    (Hu (Ar rfl (AT rfl (AA rfl) rfl) rfl (CM (λr=>decide (r∉rc)) λr hr=>Bz rfl rfl (By (AJ (AA rfl) (AE rfl rfl rfl (AN (AB rfl (Ei rfl rfl (Qj _ _ _ _)) (AB rfl (AA rfl) AH)) rfl rfl rfl (hc _ _ (by omega)) rfl)) (Es r rc))) (λ_=>AA rfl) rfl rfl)
      (by rw[length_map];exact Nat.le_trans (length_filter_le _ _) (by omega))) (BU AR (by simp)) (EJ (Az ra rc) []))))))
abbrev It:=AO×VE
def PD(R:Re)(p:It):D:= .tup [AD p.1,.dict (B2 R p.2)]
def HG(R:Re)(its:List It):D:= .list (its.map (PD R))
def grow(y:Str)(g:It->List AO)(its:List It):List It:=its.flatMap λp=>(g p).map λq=>(p.1++q,BO p.2 y [q])
theorem QH(q:AO):D.dictFree (Ah [q])=true:=by
 unfold Ah
 have:=DW [q]
 simp only[D.dictFree] at this⊢
 exact this
theorem Lu(R:Re)(v:VE):(B2 R v).length=v.length+3:=by unfold B2 Mb;simp
theorem Mm{x:Str}{R:Re}{v:VE}{y:Str}{q:AO}{ρ ρ':Ev}{σ:St}(hy:y≠sE)(hl:v.length<1000)(hs:ρ.set x (.ownD (B2 R (BO v y [q])))=some ρ'):CV x (.str y) (.list [AD q]) (.ownD (B2 R v)) ρ σ=some (.next,ρ',σ):=
 EQ rfl (QH q) (by rw[Lu];omega) (by
  have:=Q7 R v hy [q]
  have e:Ah [q]=D.list [AD q]:=rfl
  rw[<-e,this];exact hs)
def Jd(R:Re)(v:VE)(ds:List D)(found:List It)(l:List (Str×V)):Ev:=⟨(AU "_law_chosen").names,(Str.ofString "decls",.d (.tup ds))::(Str.ofString "env",.d (.dict (B2 R v)))::(Str.ofString "found",.d (HG R found))::l,[]⟩
def DI:Stmt->List Stmt
 | .For _ _ b _ _=>b
 |_=>[]
def Iy:Stmt->Expr
 | .For t _ _ _ _=>t
 |_=>default
theorem Rq{R:Re}{v:VE}{ds:List D}{found pre:List It}{y:Str}{e:Ex}{p:It}{rs:List AO}{n:Nat}{σ:St}(hy:y≠sE)(hp:p.2.length<900)(hr:p.1.length<=100)(hq:∀q∈rs,q.length<=100)(hpre:pre.length+rs.length<=10000):
 EG (λd (s:Ev×St)=>do
  let ρ<-JR (Iy (DI (DI (CA "_law_chosen" 1)|>.getD 1 default)|>.getD 0 default)) d s.1
  let(f,ρ,σ)<-Br (n+30) (DI (DI (DI (CA "_law_chosen" 1)|>.getD 1 default)|>.getD 0 default)) ρ s.2
  some (f,s.1.back ρ,σ)) (rs.map AD) (Jd R v ds found [(Str.ofString "name",.d (.str y)),(Str.ofString "expr",.d e.toD),(Str.ofString "late",.ownL (pre.map (PD R))),(Str.ofString "row",.d (AD p.1)),(Str.ofString "one",.d (.dict (B2 R p.2)))],σ)
  =some (.next,Jd R v ds found [(Str.ofString "name",.d (.str y)),(Str.ofString "expr",.d e.toD),(Str.ofString "late",.ownL ((pre++rs.map λq=>(p.1++q,BO p.2 y [q])).map (PD R))),(Str.ofString "row",.d (AD p.1)),(Str.ofString "one",.d (.dict (B2 R p.2)))],σ):=by
 have h:=H8 (f:=λd (s:Ev×St)=>do
  let ρ<-JR (Iy (DI (DI (CA "_law_chosen" 1)|>.getD 1 default)|>.getD 0 default)) d s.1
  let(f,ρ,σ)<-Br (n+30) (DI (DI (DI (CA "_law_chosen" 1)|>.getD 1 default)|>.getD 0 default)) ρ s.2
  some (f,s.1.back ρ,σ)) (φ:=AD) (names:=(AU "_law_chosen").names)
  (λdone=>(Str.ofString "decls",.d (.tup ds))::(Str.ofString "env",.d (.dict (B2 R v)))::(Str.ofString "found",.d (HG R found))::[(Str.ofString "name",.d (.str y)),(Str.ofString "expr",.d e.toD),(Str.ofString "late",.ownL ((pre++done.map λq=>(p.1++q,BO p.2 y [q])).map (PD R))),(Str.ofString "row",.d (AD p.1)),(Str.ofString "one",.d (.dict (B2 R p.2)))])
  (λ_=>[]) (λ_=>σ) rs (λdone q rest hx=> ?_)
 ·simp only[map_nil,append_nil] at h
  exact h
 ·have hql:=hq q (by rw[hx];simp)
  have hdl:done.length<=rs.length:=by rw[hx];simp
  have e1:(pre++(done++[q]).map λq=>(p.1++q,BO p.2 y [q])).map (PD R)=(pre++done.map λq=>(p.1++q,BO p.2 y [q])).map (PD R)++[.tup [AD (p.1++q),.dict (B2 R (BO p.2 y [q]))]]:=by
   simp[PD]
  rw[e1]
  refine' BT rfl (AW (AP (NV rfl rfl (AA rfl) (HP _ (by rw[Lu];omega))) rfl) (AW (KU rfl (BU (AF rfl (AA rfl) AR) (by simp)) rfl (AA rfl) rfl (Mm hy (by omega) rfl))
   (AW (K6 rfl rfl (AF rfl (Aj (AF rfl (Ak (AA rfl) (AA rfl) (Gj p.1 q (by omega))) (AF rfl (AA rfl) AR)) (by simp)) AR) rfl rfl (Qc rfl (by simp;omega) rfl)) BC))) ?bk
  case bk=>rfl
theorem EE{y:Str}{g:It->List AO}:∀{its:List It},(∀p∈its,(g p).length<=12)->(grow y g its).length<=12*its.length
 |[],_=>by simp[grow]
 |p::its,h=>by
  have ih:=EE (y:=y) (its:=its) λq hq=>h q (mem_cons_of_mem _ hq)
  have h0:=h p (mem_cons_self ..)
  unfold grow at ih⊢
  rw[flatMap_cons,length_append,length_map,length_cons]
  omega
structure ChOk (R:Re)(e:Ex)(K:Nat)(g:It->List AO)(p:It):Prop where
 lv:p.2.length<900
 lr:p.1.length<=100
 lq:∀q∈g p,q.length<=100
 lg:(g p).length<=12
 is:RowsIs R e p.2 K (g p)
theorem QO{R:Re}{v:VE}{ds:List D}{its:List It}{y:Str}{e:Ex}{g:It->List AO}{K n:Nat}{σ:St}(hy:y≠sE)(hl:its.length<=100)(hK:K<=n)(h:∀p∈its,ChOk R e K g p):
 EG (λd (s:Ev×St)=>do
  let ρ<-JR (Iy (DI (CA "_law_chosen" 1)|>.getD 1 default)) d s.1
  let(f,ρ,σ)<-Br (n+60) (DI (DI (CA "_law_chosen" 1)|>.getD 1 default)) ρ s.2
  some (f,s.1.back ρ,σ)) (its.map (PD R)) (Jd R v ds its [(Str.ofString "name",.d (.str y)),(Str.ofString "expr",.d e.toD),(Str.ofString "late",.ownL [])],σ)
  =some (.next,Jd R v ds its [(Str.ofString "name",.d (.str y)),(Str.ofString "expr",.d e.toD),(Str.ofString "late",.ownL ((grow y g its).map (PD R)))],σ):=by
 have h2:=H8 (f:=λd (s:Ev×St)=>do
  let ρ<-JR (Iy (DI (CA "_law_chosen" 1)|>.getD 1 default)) d s.1
  let(f,ρ,σ)<-Br (n+60) (DI (DI (CA "_law_chosen" 1)|>.getD 1 default)) ρ s.2
  some (f,s.1.back ρ,σ)) (φ:=PD R) (names:=(AU "_law_chosen").names)
  (λdone=>(Str.ofString "decls",.d (.tup ds))::(Str.ofString "env",.d (.dict (B2 R v)))::(Str.ofString "found",.d (HG R its))::[(Str.ofString "name",.d (.str y)),(Str.ofString "expr",.d e.toD),(Str.ofString "late",.ownL ((grow y g done).map (PD R)))])
  (λ_=>[]) (λ_=>σ) its (λdone p rest hx=> ?_)
 ·exact h2
 ·have hp:p∈its:=by rw[hx];simp
  have ok:=h p hp
  have hdone:(grow y g done).length<=12*done.length:=EE λq hq=>(h q (by rw[hx];simp[hq])).lg
  have hdl:done.length<=its.length:=by rw[hx];simp
  have e1:grow y g (done++[p])=grow y g done++(g p).map λq=>(p.1++q,BO p.2 y [q]):=by unfold grow;simp
  have hlg:=ok.lg
  rw[e1]
  refine' BT rfl (AW (DN rfl (AT rfl (AE rfl rfl rfl (AN (AB rfl (AA rfl) (AB rfl (AA rfl) AH)) rfl rfl rfl (ok.is _ _ (by omega)) rfl)) rfl) (Rq hy ok.lv ok.lr ok.lq (by omega))) BC) ?bk
  case bk=>rfl
theorem K0{R:Re}{v:VE}{ds:List D}{its:List It}{y:Str}{e:Ex}{g:It->List AO}{K n:Nat}{σ:St}(hy:y≠sE)(hl:its.length<=100)(hK:K<=n)(h:∀p∈its,ChOk R e K g p):
 (do let ρ'<-JR (Iy (CA "_law_chosen" 1)) (.tup [.str y,e.toD]) (Jd R v ds its [],σ).1
     let(f,ρ'',σ'')<-Br (n+65) (DI (CA "_law_chosen" 1)) ρ' (Jd R v ds its [],σ).2
     some (f,(Jd R v ds its [],σ).1.back ρ'',σ''):Option (Fl×Ev×St))=some (.next,Jd R v ds (grow y g its) [],σ):=by
 refine' BT rfl (AW (AP K7 rfl) (AW (DN rfl (AT rfl (AA rfl) rfl) (QO hy hl (n:=n+2) (by omega) h)) (AW (AP (AI rfl (AA rfl)) rfl) BC))) ?bk
 case bk=>rfl
theorem Rp{R:Re}{v:VE}{a:Ex}{ra:List AO}{K:Nat}(M:Nat)(σ:St)(hK:K<=M)(hv:v.length<800)(hl:ra.length<=12)(hq:∀q∈ra,q.length<=100)(ha:RowsIs R a v K ra):
 AQ (M+75) (Str.ofString "_law_chosen") [.tup [.tup [Am "y",a.toD]],.dict (B2 R v)] σ=some (HG R (grow sY (λ_=>ra) [([],v)]),σ):=by
 have e0:fnTab.lookup (Str.ofString "_law_chosen")=some ⟨(AU "_law_chosen").params,(AU "_law_chosen").names,(AU "_law_chosen").body⟩:=rfl
 refine' A4 e0 rfl (AM (ρ₁:=Jd R v [.tup [Am "y",a.toD]] [([],v)] []) (AP (AI rfl (BU (AF rfl (Aj (AF rfl (Aj AR (by simp)) (AF rfl (AA rfl) AR)) (by simp)) AR) (by simp))) rfl) (AM (DN rfl (AT rfl (AA rfl) rfl) (Kp (K0 (K:=K) (y:=sY) (g:=λ_=>ra) (n:=M+6) (by decide) (by simp) (by omega) ?ok))) ?fin))
 case ok=>
  intro p hp
  rw[mem_singleton] at hp
  subst hp
  exact⟨by dsimp only;omega,by simp,hq,hl,ha⟩
 case fin=>exact AK (AS (AA rfl))
theorem Ro{R:Re}{v:VE}{a c:Ex}{ra:List AO}{g:It->List AO}{K:Nat}(M:Nat)(σ:St)(hK:K<=M)(hv:v.length<800)(hl:ra.length<=12)(hq:∀q∈ra,q.length<=50)(ha:RowsIs R a v K ra)(hg:∀q∈ra,(g ([]++q,BO v sY [q])).length<=12/\(∀r∈g ([]++q,BO v sY [q]),r.length<=100)/\RowsIs R c (BO v sY [q]) K (g ([]++q,BO v sY [q]))):
 AQ (M+75) (Str.ofString "_law_chosen") [.tup [.tup [Am "y",a.toD],.tup [Am "z",c.toD]],.dict (B2 R v)] σ=some (HG R (grow sZ g (grow sY (λ_=>ra) [([],v)])),σ):=by
 have e0:fnTab.lookup (Str.ofString "_law_chosen")=some ⟨(AU "_law_chosen").params,(AU "_law_chosen").names,(AU "_law_chosen").body⟩:=rfl
 refine' A4 e0 rfl (AM (ρ₁:=Jd R v [.tup [Am "y",a.toD],.tup [Am "z",c.toD]] [([],v)] []) (AP (AI rfl (BU (AF rfl (Aj (AF rfl (Aj AR (by simp)) (AF rfl (AA rfl) AR)) (by simp)) AR) (by simp))) rfl) (AM (DN rfl (AT rfl (AA rfl) rfl) (Ko (K0 (K:=K) (y:=sY) (g:=λ_=>ra) (n:=M+6) (by decide) (by simp) (by omega) ?ok) (K0 (K:=K) (y:=sZ) (g:=g) (n:=M+6) (by decide) ?le (by omega) ?ok2))) ?fin))
 case ok=>
  intro p hp
  rw[mem_singleton] at hp
  subst hp
  exact⟨by dsimp only;omega,by simp,λq hq'=>by have:=hq q hq';omega,hl,ha⟩
 case le=>
  have:=EE (y:=sY) (g:=λ_=>ra) (its:=[([],v)]) (λ_ _=>hl)
  rw[List.length_singleton] at this
  omega
 case ok2=>
  intro p hp
  unfold grow at hp
  simp only[flatMap_cons,List.flatMap_nil,append_nil,mem_map] at hp
  obtain⟨q,hq',rfl⟩:=hp
  obtain⟨g1,g2,g3⟩:=hg q hq'
  exact⟨by have:=DQ sY [q] v;dsimp only;omega,by have:=hq q hq';simp;omega,g2,g1,g3⟩
 case fin=>exact AK (AS (AA rfl))
theorem OO(r:AO)(h:r.length<=100):Bo (AD r) .none .none (.int (-1))=some (AD r.reverse):=by
 have e:Bo (AD r) .none .none (.int (-1))=if(r.map D.int).length<=100000 then(if(-1:Int)= -1 then some (r.map D.int).reverse else none).map .tup else none:=rfl
 rw[e,length_map,if_pos (by omega),if_pos rfl]
 unfold AD
 rw[List.map_reverse];rfl
structure MixOp (s:String):Prop where
 h1:Av .In (Am s) (.tup [Am "rel",Am "var"])=some false
 h2:Av .Eq (Am s) (Am "tuples")=some false
 h3:Av .In (Am s) (.tup [Am "none",Am "univ",Am "iden"])=some false
 h4:Av .Eq (Am s) (Am "comp")=some false
 h5:Av .Eq (Am s) (Am "either")=some false
 h6:Av .Eq (Am s) (Am "turn")=some false
 h7:Av .In (Am s) (.tup [Am "closure",Am "star"])=some false
section
variable {R:Re}{v:VE}{K:Nat}
theorem FT{s:String}{e a c:Ex}{ra rc rs:List AO}(he:e.toD= .tup [Am s,a.toD,c.toD])(M:MixOp s)(hx:Gl s ra rc rs)(hK:100<=K)(ha:RowsIs R a v K ra)(hc:RowsIs R c v K rc):RowsIs R e v (K+60) rs:=λN σ hN=>by
 obtain⟨L,rfl⟩:∃L,N=L+160:=⟨N -160,by omega⟩
 rw[he]
 exact A4 rfl rfl (AM (AP (AI rfl (Ei rfl rfl (D4 _ _))) rfl) (AC (AJ (AA rfl) (Aj (AF rfl AY (AF rfl AY AR)) (by simp)) M.h1) (AC (AJ (AA rfl) AY M.h2) (AC (AJ (AA rfl) (Aj (AF rfl AY (AF rfl AY (AF rfl AY AR))) (by simp)) M.h3) (AC (AJ (AA rfl) AY M.h4) (AC (AJ (AA rfl) AY M.h5)
  (AM (AP (AI rfl (AE rfl rfl rfl (AN (AB rfl (Ei rfl rfl (JQ _ _ _)) (AB rfl (AA rfl) AH)) rfl rfl rfl (ha _ _ (by omega)) rfl))) rfl) (AC (AJ (AA rfl) AY M.h6) (AC (AJ (AA rfl) (Aj (AF rfl AY (AF rfl AY AR)) (by simp)) M.h7)
    (AK (AS (AE rfl rfl rfl (AN (AB rfl (AA rfl) (AB rfl (AA rfl) (AB rfl (AE rfl rfl rfl (AN (AB rfl (Ei rfl rfl (Qj _ _ _ _)) (AB rfl (AA rfl) AH)) rfl rfl rfl (hc _ _ (by omega)) rfl)) AH))) rfl rfl rfl (hx _ _) rfl)))))))))))))
theorem ST{a:Ex}{ra:List AO}(hr:RelOk R.m 2 ra)(hm:R.m<=3)(hK:100<=K)(ha:RowsIs R a v K ra):RowsIs R (.turn a) v (K+60) (II ra):=λN σ hN=>by
 obtain⟨L,rfl⟩:∃L,N=L+160:=⟨N -160,by omega⟩
 have l1:=hr.len12 hm (.inr rfl)
 have hn:(ra.map List.reverse).Nodup:=by
  have:=hr.srt.nodup
  refine List.Pairwise.map _ (λa b hab q=>hab (List.reverse_inj.mp q)) this
 have hb:=Hs (ra.map List.reverse) (by rw[length_map];omega) (λr hq=>by
  obtain⟨q,hq',rfl⟩:=mem_map.mp hq
  intro e
  have h1:=hr.len q hq'
  have h2:=congrArg List.length e
  rw[List.length_reverse,h1] at h2
  cases h2)
 rw[Fh hn,map_map] at hb
 exact A4 rfl rfl (AM (AP (AI rfl (Ei rfl rfl (D4 _ _))) rfl) (AC (Fa rfl rfl rfl rfl rfl) (AC (Tq rfl rfl rfl rfl) (AC (Gp rfl rfl rfl rfl rfl rfl) (AC (Tq rfl rfl rfl rfl) (AC (Tq rfl rfl rfl rfl)
  (AM (AP (AI rfl (AE rfl rfl rfl (AN (AB rfl (Ei rfl rfl (JQ _ _ _)) (AB rfl (AA rfl) AH)) rfl rfl rfl (ha _ _ (by omega)) rfl))) rfl) (Aa (Tq rfl rfl rfl rfl)
    (AK (AS (AE rfl rfl rfl (BJ (b:= "sorted") (AB rfl (Ar rfl (AT rfl (AA rfl) rfl) rfl (A5 (AD∘List.reverse) ra λr hr'=>CH rfl rfl rfl (CZ (AA rfl) Be Be (DM CI) (OO r (by have:=hr.len r hr';omega))) rfl) (by simp;omega)) AH) rfl rfl hb))))))))))))
theorem TX{a:Ex}{ra:List AO}(hr:RelOk R.m 2 ra)(hm:R.m<=3)(hK:100<=K)(ha:RowsIs R a v K ra):RowsIs R (.clo a) v (K+60) (CG ra):=λN σ hN=>by
 obtain⟨L,rfl⟩:∃L,N=L+160:=⟨N -160,by omega⟩
 have l1:=(DE hr).len12 hm (.inr rfl)
 exact A4 rfl rfl (AM (AP (AI rfl (Ei rfl rfl (D4 _ _))) rfl) (AC (Fa rfl rfl rfl rfl rfl) (AC (Tq rfl rfl rfl rfl) (AC (Gp rfl rfl rfl rfl rfl rfl) (AC (Tq rfl rfl rfl rfl) (AC (Tq rfl rfl rfl rfl)
  (AM (AP (AI rfl (AE rfl rfl rfl (AN (AB rfl (Ei rfl rfl (JQ _ _ _)) (AB rfl (AA rfl) AH)) rfl rfl rfl (ha _ _ (by omega)) rfl))) rfl) (AC (Tq rfl rfl rfl rfl) (Aa (Fa rfl rfl rfl rfl rfl)
    (AK (AS (FB rfl rfl rfl rfl (Ak (AE rfl rfl rfl (AN (AB rfl (AA rfl) AH) rfl rfl rfl (Hp hr hm) rfl)) (Bm (c:=false) (Tq rfl rfl rfl rfl) (BU AR (by simp))) (JI (by omega))) rfl (IR (DE hr) hm)))))))))))))
theorem SW{a:Ex}{ra:List AO}(hr:RelOk R.m 2 ra)(hm:R.m<=3)(hK:100<=K)(ha:RowsIs R a v K ra):RowsIs R (.star a) v (K+60) (IM R.m ra):=λN σ hN=>by
 obtain⟨L,rfl⟩:∃L,N=L+160:=⟨N -160,by omega⟩
 have l1:=(DE hr).len12 hm (.inr rfl)
 have l2:=(ED R.m).len12 hm (.inr rfl)
 have e:(Dd R.m).map AD=(List.range R.m).map λ(i:Nat)=>AD [(i:Int),(i:Int)]:=by unfold Dd;rw[map_map];rfl
 have ad:=Ck (CG ra) (Dd R.m) (by omega)
 rw[e] at ad
 exact A4 rfl rfl (AM (AP (AI rfl (Ei rfl rfl (D4 _ _))) rfl) (AC (Fa rfl rfl rfl rfl rfl) (AC (Tq rfl rfl rfl rfl) (AC (Gp rfl rfl rfl rfl rfl rfl) (AC (Tq rfl rfl rfl rfl) (AC (Tq rfl rfl rfl rfl)
  (AM (AP (AI rfl (AE rfl rfl rfl (AN (AB rfl (Ei rfl rfl (JQ _ _ _)) (AB rfl (AA rfl) AH)) rfl rfl rfl (ha _ _ (by omega)) rfl))) rfl) (AC (Tq rfl rfl rfl rfl) (Aa (Fa rfl rfl rfl rfl rfl)
    (AK (AS (FB rfl rfl rfl rfl (Ak (AE rfl rfl rfl (AN (AB rfl (AA rfl) AH) rfl rfl rfl (Hp hr hm) rfl)) (Bm (c:=true) (Tq rfl rfl rfl rfl)
      (Ar rfl (AT rfl (A6 rfl rfl (AA rfl) AY rfl (QI R v)) rfl) rfl (A5 (λ(i:Nat)=>AD [(i:Int),(i:Int)]) (List.range R.m) λi hi=>CH rfl rfl rfl (Aj (AF rfl (AA rfl) (AF rfl (AA rfl) AR)) (by simp)) rfl) (by simp;omega))) ad) rfl (Ba _ (((DE hr).good hm (.inr rfl)).app ((ED R.m).good hm (.inr rfl))))))))))))))))
theorem Pg{f:Fm}{b:Bool}{a c:Ex}{ra rc:List AO}(hf:FmIs R f v K b)(ha:RowsIs R a v K ra)(hc:RowsIs R c v K rc):RowsIs R (.either f a c) v (K+60) (if b then ra else rc):=λN σ hN=>by
 obtain⟨L,rfl⟩:∃L,N=L+60:=⟨N -60,by omega⟩
 cases b with
 |true=>exact A4 rfl rfl (AM (AP (AI rfl (Ei rfl rfl (D4 _ _))) rfl) (AC (Fa rfl rfl rfl rfl rfl) (AC (Tq rfl rfl rfl rfl) (AC (Gp rfl rfl rfl rfl rfl rfl) (AC (Tq rfl rfl rfl rfl) (Aa (Tq rfl rfl rfl rfl)
  (AK (AS (AE rfl rfl rfl (AN (AB rfl (Bm (c:=true) (Cz rfl (AE rfl rfl rfl (AN (AB rfl (Ei rfl rfl (JQ _ _ _)) (AB rfl (AA rfl) AH)) rfl rfl rfl (hf _ _ (by omega)) rfl))) (Ei rfl rfl (Qj _ _ _ _))) (AB rfl (AA rfl) AH)) rfl rfl rfl (ha _ _ (by omega)) rfl))))))))))
 |false=>exact A4 rfl rfl (AM (AP (AI rfl (Ei rfl rfl (D4 _ _))) rfl) (AC (Fa rfl rfl rfl rfl rfl) (AC (Tq rfl rfl rfl rfl) (AC (Gp rfl rfl rfl rfl rfl rfl) (AC (Tq rfl rfl rfl rfl) (Aa (Tq rfl rfl rfl rfl)
  (AK (AS (AE rfl rfl rfl (AN (AB rfl (Bm (c:=false) (Cz rfl (AE rfl rfl rfl (AN (AB rfl (Ei rfl rfl (JQ _ _ _)) (AB rfl (AA rfl) AH)) rfl rfl rfl (hf _ _ (by omega)) rfl))) (Ei rfl rfl (U2 _ _ _ _ _))) (AB rfl (AA rfl) AH)) rfl rfl rfl (hc _ _ (by omega)) rfl))))))))))
theorem Ph{e:Ex}{dd:D}{f:Fm}{its:List It}{b:It->Bool}(he:e.toD= .tup [Am "comp",dd,f.toD])(hch:∀M σ,K<=M->AQ (M+75) (Str.ofString "_law_chosen") [dd,.dict (B2 R v)] σ=some (HG R its,σ))(hl:its.length<=1000)(hf:∀p∈its,FmIs R f p.2 K (b p))(hg:Good ((its.filter b).map (·.1))):
 RowsIs R e v (K+100) (norm ((its.filter b).map (·.1))):=λN σ hN=>by
 obtain⟨L,rfl⟩:∃L,N=L+100:=⟨N -100,by omega⟩
 have hs:=Ba _ hg
 rw[map_map] at hs
 rw[he]
 refine' A4 rfl rfl (AM (AP (AI rfl (Ei rfl rfl (D4 _ _))) rfl) (AC (Fa rfl rfl rfl rfl rfl) (AC (Tq rfl rfl rfl rfl) (AC (Gp rfl rfl rfl rfl rfl rfl) (Aa (Tq rfl rfl rfl rfl)
  (AK (AS (FB rfl rfl rfl rfl (Ar rfl (AT rfl (AE rfl rfl rfl (AN (AB rfl (Ei rfl rfl (JQ _ _ _)) (AB rfl (AA rfl) AH)) rfl rfl rfl (hch _ _ (by omega)) rfl)) rfl) rfl ?c ?l) rfl hs))))))))
 case c=>
  refine DD (φ:=PD R) b (AD∘(·.1)) its λp hp=> ?_
  exact Bz rfl rfl (By (Cz rfl (AE rfl rfl rfl (AN (AB rfl (Ei rfl rfl (Qj _ _ _ _)) (AB rfl (AA rfl) AH)) rfl rfl rfl (hf p hp _ _ (by omega)) rfl)))) (λ_=>AA rfl) rfl rfl
 case l=>
  rw[length_map]
  exact Nat.le_trans (length_filter_le _ _) (by omega)
end
def VEnv(m:Nat)(v:VE)(xs:List Str):Prop:=∀x∈xs,x≠sE/\∃rs,v.lookup x=some rs/\RelOk m 1 rs
theorem VEnv.upd{m:Nat}{v:VE}{xs:List Str}(h:VEnv m v xs){y:Str}{rs:List AO}(hy:y≠sE)(hr:RelOk m 1 rs):VEnv m (BO v y rs) (xs++[y]):=λx hx=>by
 rw[Ez]
 by_cases hxy:x=y
 ·rw[if_pos hxy];exact⟨by rw[hxy];exact hy,rs,rfl,hr⟩
 ·rw[if_neg hxy]
  rcases mem_append.mp hx with h'|h'
  ·exact h x h'
  ·exact absurd (mem_singleton.mp h') hxy
theorem RelOk.one{m k:Nat}{rs:List AO}(h:RelOk m k rs){q:AO}(hq:q∈rs):RelOk m k [q]:=
 ⟨List.pairwise_singleton _ _,λr hr=>by rw[mem_singleton.mp hr];exact h.len q hq,λr hr=>by rw[mem_singleton.mp hr];exact h.ats q hq⟩
theorem L7(ra:List AO)(v:VE):grow sY (λ_=>ra) [([],v)]=ra.map λq=>(q,BO v sY [q]):=by
 unfold grow
 rw[flatMap_cons,List.flatMap_nil,append_nil];rfl
theorem MP{R:Re}{ra:List AO}{v:VE}{f:Fm}(hs:Srt ra):norm (((grow sY (λ_=>ra) [([],v)]).filter λp=>Oz R f p.2).map (·.1))=ra.filter λr=>Oz R f (BO v sY [r]):=by
 rw[L7,List.filter_map,map_map]
 have e:((·.1)∘λq=>((q,BO v sY [q]):It))=id:=rfl
 rw[e,List.map_id]
 exact G6 (hs.filter _)
theorem MO{R:Re}{ra:List AO}{v:VE}{c:Ex}{f:Fm}:((grow sZ (λp=>AX R c p.2) (grow sY (λ_=>ra) [([],v)])).filter λp=>Oz R f p.2).map (·.1)=ra.flatMap λr=>((AX R c (BO v sY [r])).filter λq=>Oz R f (BO (BO v sY [r]) sZ [q])).map λq=>r++q:=by
 rw[L7]
 unfold grow
 rw[List.flatMap_map,List.filter_flatMap,List.map_flatMap]
 congr 1
 funext r
 rw[List.filter_map,map_map]
 rfl
theorem CP:∀e:Ex,100<=e.fr
 | .rel _=>by simp only[Ex.fr];omega
 | .var _=>by simp only[Ex.fr];omega
 | .tup1=>by simp only[Ex.fr];omega
 | .tup2=>by simp only[Ex.fr];omega
 | .univ=>by simp only[Ex.fr];omega
 | .none1=>by simp only[Ex.fr];omega
 | .iden=>by simp only[Ex.fr];omega
 | .join a c=>by have:=CP a;simp only[Ex.fr];omega
 | .turn a=>by have:=CP a;simp only[Ex.fr];omega
 | .clo a=>by have:=CP a;simp only[Ex.fr];omega
 | .star a=>by have:=CP a;simp only[Ex.fr];omega
 | .prod a c=>by have:=CP a;simp only[Ex.fr];omega
 | .ahead a c=>by have:=CP a;simp only[Ex.fr];omega
 | .behind a c=>by have:=CP a;simp only[Ex.fr];omega
 | .sign _ a c=>by have:=CP a;simp only[Ex.fr];omega
 | .comp1 a f=>by have:=CP a;simp only[Ex.fr];omega
 | .comp2 a c f=>by have:=CP a;simp only[Ex.fr];omega
 | .either f a c=>by have:=CP a;simp only[Ex.fr];omega
theorem mo(s:String)(hs:litS.contains s=true)(h:∀x∈["rel","var","tuples","none","univ","iden","comp","either","turn","closure","star"],Str.ofString x≠Str.ofString s):MixOp s:=by
 have q:∀x∈["rel","var","tuples","none","univ","iden","comp","either","turn","closure","star"],decide (Str.ofString x=Str.ofString s)=false:=λx hx=>decide_eq_false (h x hx)
 have q2:∀x∈["rel","var","tuples","none","univ","iden","comp","either","turn","closure","star"],decide (Str.ofString s=Str.ofString x)=false:=λx hx=>decide_eq_false (λe=>h x hx e.symm)
 exact⟨Kl hs rfl rfl (by rw[q "rel" (by simp),q "var" (by simp)];rfl),EZ hs rfl (q2 "tuples" (by simp)),Nr hs rfl rfl rfl (by rw[q "none" (by simp),q "univ" (by simp),q "iden" (by simp)];rfl),EZ hs rfl (q2 "comp" (by simp)),EZ hs rfl (q2 "either" (by simp)),EZ hs rfl (q2 "turn" (by simp)),Kl hs rfl rfl (by rw[q "closure" (by simp),q "star" (by simp)];rfl)⟩
theorem Kh:MixOp "join" :=mo _ rfl (by decide)
theorem RK:MixOp "product" :=mo _ rfl (by decide)
theorem Pw:MixOp "ahead" :=mo _ rfl (by decide)
theorem OY:MixOp "behind" :=mo _ rfl (by decide)
theorem Pu:MixOp "union" :=mo _ rfl (by decide)
theorem RM:MixOp "meet" :=mo _ rfl (by decide)
theorem Pv:MixOp "minus" :=mo _ rfl (by decide)
theorem RL:MixOp "override" :=mo _ rfl (by decide)
theorem Pd:sY≠sE:=by decide
theorem TU:sZ≠sE:=by decide
theorem S8{xs:List Str}:xs++[sY,sZ]=(xs++[sY])++[sZ]:=by simp
mutual
theorem Aw{R:Re}(hm2:2<=R.m)(hm:R.m<=3)(h0:RelOk R.m 1 R.r0)(h1:RelOk R.m 2 R.r1):∀(e:Ex)(k:Nat)(xs:List Str)(v:VE),e.wt k xs->VEnv R.m v xs->v.length+e.fr<=790->RowsIs R e v e.fr (AX R e v)/\RelOk R.m k (AX R e v)
 | .rel i,k,xs,v,hw,hu,hl=>by
   unfold Ex.wt at hw
   simp only[AX,Ex.fr]
   rcases hw with ⟨rfl,rfl⟩|⟨rfl,rfl⟩
   ·exact⟨SY,h0⟩
   ·exact⟨SX,h1⟩
 | .var x,k,xs,v,hw,hu,hl=>by
   unfold Ex.wt at hw
   obtain⟨rfl,hx⟩:=hw
   obtain⟨hne,rs,h,hr⟩:=hu x hx
   simp only[AX,Ex.fr,h,getD_some]
   exact⟨TV hne h,hr⟩
 | .tup1,k,xs,v,hw,hu,hl=>by
   unfold Ex.wt at hw;subst hw
   simp only[AX,Ex.fr]
   refine⟨SV,⟨by simp[Srt],by simp,λr hr a ha=> ?_⟩⟩
   simp at hr;subst hr;simp at ha;subst ha;omega
 | .tup2,k,xs,v,hw,hu,hl=>by
   unfold Ex.wt at hw;subst hw
   simp only[AX,Ex.fr]
   refine⟨SU,⟨by simp[Srt,An],by simp,λr hr a ha=> ?_⟩⟩
   simp at hr
   rcases hr with rfl|rfl<;>simp at ha<;>omega
 | .univ,k,xs,v,hw,hu,hl=>by
   unfold Ex.wt at hw;subst hw
   simp only[AX,Ex.fr]
   exact⟨SR hm,D6 _⟩
 | .none1,k,xs,v,hw,hu,hl=>by
   unfold Ex.wt at hw;subst hw
   simp only[AX,Ex.fr]
   exact⟨SZ,Nk _ _⟩
 | .iden,k,xs,v,hw,hu,hl=>by
   unfold Ex.wt at hw;subst hw
   simp only[AX,Ex.fr]
   exact⟨Sa hm,ED _⟩
 | .join a c,k,xs,v,hw,hu,hl=>by
   unfold Ex.wt at hw
   simp only[Ex.fr] at hl
   have fa:=CP a
   simp only[AX,Ex.fr]
   rcases hw with ⟨rfl,⟨ha,hc⟩|⟨ha,hc⟩⟩|⟨rfl,ha,hc⟩
   ·obtain⟨a1,a2⟩:=Aw hm2 hm h0 h1 a _ xs v ha hu (by omega)
    obtain⟨c1,c2⟩:=Aw hm2 hm h0 h1 c _ xs v hc hu (by omega)
    exact⟨FT rfl Kh (Ig a2 c2 hm (.inl rfl) (.inr rfl) (by omega)) (by omega) (a1.mono (le_max_left ..)) (c1.mono (le_max_right ..)),a2.join c2 (by omega) (by omega)⟩
   ·obtain⟨a1,a2⟩:=Aw hm2 hm h0 h1 a _ xs v ha hu (by omega)
    obtain⟨c1,c2⟩:=Aw hm2 hm h0 h1 c _ xs v hc hu (by omega)
    exact⟨FT rfl Kh (Ig a2 c2 hm (.inr rfl) (.inl rfl) (by omega)) (by omega) (a1.mono (le_max_left ..)) (c1.mono (le_max_right ..)),a2.join c2 (by omega) (by omega)⟩
   ·obtain⟨a1,a2⟩:=Aw hm2 hm h0 h1 a _ xs v ha hu (by omega)
    obtain⟨c1,c2⟩:=Aw hm2 hm h0 h1 c _ xs v hc hu (by omega)
    exact⟨FT rfl Kh (Ig a2 c2 hm (.inr rfl) (.inr rfl) (by omega)) (by omega) (a1.mono (le_max_left ..)) (c1.mono (le_max_right ..)),a2.join c2 (by omega) (by omega)⟩
 | .turn a,k,xs,v,hw,hu,hl=>by
   unfold Ex.wt at hw
   simp only[Ex.fr] at hl
   have fa:=CP a
   simp only[AX,Ex.fr]
   obtain⟨rfl,ha⟩:=hw
   obtain⟨a1,a2⟩:=Aw hm2 hm h0 h1 a _ xs v ha hu (by omega)
   exact⟨ST a2 hm (by omega) a1,a2.turn⟩
 | .clo a,k,xs,v,hw,hu,hl=>by
   unfold Ex.wt at hw
   simp only[Ex.fr] at hl
   have fa:=CP a
   simp only[AX,Ex.fr]
   obtain⟨rfl,ha⟩:=hw
   obtain⟨a1,a2⟩:=Aw hm2 hm h0 h1 a _ xs v ha hu (by omega)
   exact⟨TX a2 hm (by omega) a1,DE a2⟩
 | .star a,k,xs,v,hw,hu,hl=>by
   unfold Ex.wt at hw
   simp only[Ex.fr] at hl
   have fa:=CP a
   simp only[AX,Ex.fr]
   obtain⟨rfl,ha⟩:=hw
   obtain⟨a1,a2⟩:=Aw hm2 hm h0 h1 a _ xs v ha hu (by omega)
   exact⟨SW a2 hm (by omega) a1,a2.star⟩
 | .prod a c,k,xs,v,hw,hu,hl=>by
   unfold Ex.wt at hw
   simp only[Ex.fr] at hl
   have fa:=CP a
   simp only[AX,Ex.fr]
   obtain⟨rfl,ha,hc⟩:=hw
   obtain⟨a1,a2⟩:=Aw hm2 hm h0 h1 a _ xs v ha hu (by omega)
   obtain⟨c1,c2⟩:=Aw hm2 hm h0 h1 c _ xs v hc hu (by omega)
   exact⟨FT rfl RK (Py a2 c2 hm) (by omega) (a1.mono (le_max_left ..)) (c1.mono (le_max_right ..)),a2.prod c2⟩
 | .ahead a c,k,xs,v,hw,hu,hl=>by
   unfold Ex.wt at hw
   simp only[Ex.fr] at hl
   have fa:=CP a
   simp only[AX,Ex.fr]
   obtain⟨rfl,ha,hc⟩:=hw
   obtain⟨a1,a2⟩:=Aw hm2 hm h0 h1 a _ xs v ha hu (by omega)
   obtain⟨c1,c2⟩:=Aw hm2 hm h0 h1 c _ xs v hc hu (by omega)
   exact⟨FT rfl Pw (Ob a2 c2 hm) (by omega) (a1.mono (le_max_left ..)) (c1.mono (le_max_right ..)),c2.filter _⟩
 | .behind a c,k,xs,v,hw,hu,hl=>by
   unfold Ex.wt at hw
   simp only[Ex.fr] at hl
   have fa:=CP a
   simp only[AX,Ex.fr]
   obtain⟨rfl,ha,hc⟩:=hw
   obtain⟨a1,a2⟩:=Aw hm2 hm h0 h1 a _ xs v ha hu (by omega)
   obtain⟨c1,c2⟩:=Aw hm2 hm h0 h1 c _ xs v hc hu (by omega)
   exact⟨FT rfl OY (M0 a2 c2 hm) (by omega) (a1.mono (le_max_left ..)) (c1.mono (le_max_right ..)),a2.filter _⟩
 | .sign s a c,k,xs,v,hw,hu,hl=>by
   unfold Ex.wt at hw
   simp only[Ex.fr] at hl
   have fa:=CP a
   simp only[AX,Ex.fr]
   obtain⟨hs,hk,ha,hc⟩:=hw
   obtain⟨a1,a2⟩:=Aw hm2 hm h0 h1 a _ xs v ha hu (by omega)
   obtain⟨c1,c2⟩:=Aw hm2 hm h0 h1 c _ xs v hc hu (by omega)
   have a1':=a1.mono (le_max_left a.fr c.fr)
   have c1':=c1.mono (le_max_right a.fr c.fr)
   have:s=0\/s=1\/s=2\/s=3:=by omega
   rcases this with rfl|rfl|rfl|rfl
   ·exact⟨FT rfl Pu (OZ a2 c2 hm hk) (by omega) a1' c1',a2.union c2⟩
   ·exact⟨FT rfl RM (P0 a2 c2 hm hk) (by omega) a1' c1',a2.filter _⟩
   ·exact⟨FT rfl Pv (Oa a2 c2 hm hk) (by omega) a1' c1',a2.filter _⟩
   ·exact⟨FT rfl RL (Pz a2 c2 hm hk) (by omega) a1' c1',a2.over c2⟩
 | .comp1 a f,k,xs,v,hw,hu,hl=>by
   unfold Ex.wt at hw
   simp only[Ex.fr] at hl
   have fa:=CP a
   simp only[AX,Ex.fr]
   obtain⟨rfl,ha,hf⟩:=hw
   obtain⟨a1,a2⟩:=Aw hm2 hm h0 h1 a _ xs v ha hu (by omega)
   have l12:=a2.len12 hm (.inl rfl)
   have hch:=λM σ (hM:max a.fr f.fr<=M)=>Rp M σ hM (by omega) l12 (λq hq=>by have:=a2.len q hq;omega) (a1.mono (le_max_left a.fr f.fr))
   have key:=Ph (e:= .comp1 a f) (K:=max a.fr f.fr) (b:=λp=>Oz R f p.2) rfl hch (by have:=EE (y:=sY) (g:=λ_=>AX R a v) (its:=[([],v)]) (λ_ _=>l12);rw[List.length_singleton] at this;omega) (λp hp=>by
    rw[L7] at hp
    obtain⟨q,hq,rfl⟩:=mem_map.mp hp
    have:=NH hm2 hm h0 h1 f _ (BO v sY [q]) hf (hu.upd Pd (a2.one hq)) (by have:=DQ sY [q] v;omega)
    exact this.mono (le_max_right ..)) (by
     intro r hr
     have:=(MP (R:=R) (v:=v) (f:=f) a2.srt)▸mem_norm.mpr hr
     exact a2.good hm (.inl rfl) r (mem_filter.mp this).1)
   rw[MP a2.srt] at key
   exact⟨key,a2.filter _⟩
 | .comp2 a c f,k,xs,v,hw,hu,hl=>by
   unfold Ex.wt at hw
   simp only[Ex.fr] at hl
   have fa:=CP a
   simp only[AX,Ex.fr]
   obtain⟨rfl,ha,hc,hf⟩:=hw
   rw[S8] at hf
   obtain⟨a1,a2⟩:=Aw hm2 hm h0 h1 a _ xs v ha hu (by omega)
   have l12:=a2.len12 hm (.inl rfl)
   have hcq:=λq (hq:q∈AX R a v)=>Aw hm2 hm h0 h1 c _ _ (BO v sY [q]) hc (hu.upd Pd (a2.one hq)) (by have:=DQ sY [q] v;omega)
   have hch:=λM σ (hM:max (max a.fr c.fr) f.fr<=M)=>Ro (c:=c) (g:=λp=>AX R c p.2) M σ hM (by omega) l12 (λq hq=>by have:=a2.len q hq;omega) (a1.mono (by omega)) (λq hq=>by
    obtain⟨c1,c2⟩:=hcq q hq
    exact⟨c2.len12 hm (.inl rfl),λr hr=>by have:=c2.len r hr;omega,c1.mono (by omega)⟩)
   have rowsOk:∀r∈(AX R a v).flatMap λr=>((AX R c (BO v sY [r])).filter λq=>Oz R f (BO (BO v sY [r]) sZ [q])).map λq=>r++q,r.length=2/\∀x∈r,0<=x/\x<(R.m:Int):=by
    intro r hr
    obtain⟨p,hp,hr⟩:=List.mem_flatMap.mp hr
    obtain⟨q,hq,rfl⟩:=mem_map.mp hr
    have hq':=(mem_filter.mp hq).1
    obtain⟨c1,c2⟩:=hcq p hp
    refine⟨by rw[length_append,a2.len p hp,c2.len q hq'],λx hx=> ?_⟩
    rcases mem_append.mp hx with h|h
    ·exact a2.ats p hp x h
    ·exact c2.ats q hq' x h
   have ok:=RelOk.norm_of (λr hr=>(rowsOk r hr).1) (λr hr=>(rowsOk r hr).2)
   have l1:=EE (y:=sY) (g:=λ_=>AX R a v) (its:=[([],v)]) (λ_ _=>l12)
   have l2:=EE (y:=sZ) (g:=λp=>AX R c p.2) (its:=grow sY (λ_=>AX R a v) [([],v)]) (λp hp=>by
    rw[L7] at hp
    obtain⟨q,hq,rfl⟩:=mem_map.mp hp
    exact(hcq q hq).2.len12 hm (.inl rfl))
   rw[List.length_singleton] at l1
   have key:=Ph (e:= .comp2 a c f) (K:=max (max a.fr c.fr) f.fr) (b:=λp=>Oz R f p.2) rfl hch (by omega) (λp hp=>by
    rw[L7] at hp
    unfold grow at hp
    obtain⟨p',hp',hp⟩:=List.mem_flatMap.mp hp
    obtain⟨q,hq,rfl⟩:=mem_map.mp hp'
    obtain⟨r,hr,rfl⟩:=mem_map.mp hp
    have:=NH hm2 hm h0 h1 f _ (BO (BO v sY [q]) sZ [r]) hf ((hu.upd Pd (a2.one hq)).upd TU ((hcq q hq).2.one hr)) (by have:=DQ sY [q] v;have:=DQ sZ [r] (BO v sY [q]);omega)
    exact this.mono (le_max_right ..)) (by
     rw[MO]
     intro r hr
     exact ok.good hm (.inr rfl) r (mem_norm.mpr hr))
   rw[MO] at key
   exact⟨key,ok⟩
 | .either f a c,k,xs,v,hw,hu,hl=>by
   unfold Ex.wt at hw
   simp only[Ex.fr] at hl
   have fa:=CP a
   simp only[AX,Ex.fr]
   obtain⟨rfl,hf,ha,hc⟩:=hw
   obtain⟨a1,a2⟩:=Aw hm2 hm h0 h1 a _ xs v ha hu (by omega)
   obtain⟨c1,c2⟩:=Aw hm2 hm h0 h1 c _ xs v hc hu (by omega)
   have f1:=NH hm2 hm h0 h1 f _ v hf hu (by omega)
   refine⟨Pg (f1.mono (by omega)) (a1.mono (by omega)) (c1.mono (by omega)),?_⟩
   split
   ·exact a2
   ·exact c2
theorem NH{R:Re}(hm2:2<=R.m)(hm:R.m<=3)(h0:RelOk R.m 1 R.r0)(h1:RelOk R.m 2 R.r1):∀(f:Fm)(xs:List Str)(v:VE),f.wt xs->VEnv R.m v xs->v.length+f.fr<=790->FmIs R f v f.fr (Oz R f v)
 | .inn a c,xs,v,hw,hu,hl=>by
   unfold Fm.wt at hw
   simp only[Fm.fr] at hl
   simp only[Oz,Fm.fr]
   obtain⟨ha,hc⟩:=hw
   obtain⟨a1,a2⟩:=Aw hm2 hm h0 h1 a _ xs v ha hu (by omega)
   obtain⟨c1,c2⟩:=Aw hm2 hm h0 h1 c _ xs v hc hu (by omega)
   exact TT (a1.mono (le_max_left ..)) (c1.mono (le_max_right ..)) (by have:=a2.len12 hm (.inl rfl);omega)
 | .some a,xs,v,hw,hu,hl=>by
   unfold Fm.wt at hw
   simp only[Fm.fr] at hl
   simp only[Oz,Fm.fr]
   obtain⟨a1,a2⟩:=Aw hm2 hm h0 h1 a _ xs v hw hu (by omega)
   exact Q1 a1
end
def FW:List D->List Str
 | .str s::_=>[s]
 |_=>[]
mutual
def A3:D->List Str
 | .tup xs=>FW xs++Ca xs
 |_=>[]
def Ca:List D->List Str
 |[]=>[]
 |x::r=>A3 x++Ca r
end
def AL:Nat->D->Bool
 |_,.int _=>true
 |_,.str x=>PyData.strOk x
 |n+1,.tup xs=> !xs.isEmpty&&decide (xs.length<=100)&&xs.all (AL n)
 |_,_=>false
theorem Kg:∀(k:Nat)(d:D),AL k d=true->d.ok k=true
 |0,.int _,_=>rfl
 |k+1,.int _,_=>rfl
 |0,.str _,h=>h
 |k+1,.str _,h=>h
 |k+1,.tup xs,h=>by
  unfold AL at h
  unfold D.ok
  simp only[and_eq_true,all_eq_true] at h⊢
  exact λx hx=>Kg k x (h.2 x hx)
 |0,.tup xs,h=>by simp[AL] at h
 |0,.none,h=>by simp[AL] at h
 |0,.bool _,h=>by simp[AL] at h
 |0,.list _,h=>by simp[AL] at h
 |0,.dict _,h=>by simp[AL] at h
 |0,.dictT _,h=>by simp[AL] at h
 |0,.range _ _,h=>by simp[AL] at h
 |0,.univ _ _,h=>by simp[AL] at h
 |0,.bnds _ _ _,h=>by simp[AL] at h
 |0,.feed,h=>by simp[AL] at h
 |k+1,.none,h=>by simp[AL] at h
 |k+1,.bool _,h=>by simp[AL] at h
 |k+1,.list _,h=>by simp[AL] at h
 |k+1,.dict _,h=>by simp[AL] at h
 |k+1,.dictT _,h=>by simp[AL] at h
 |k+1,.range _ _,h=>by simp[AL] at h
 |k+1,.univ _ _,h=>by simp[AL] at h
 |k+1,.bnds _ _ _,h=>by simp[AL] at h
 |k+1,.feed,h=>by simp[AL] at h
theorem Pp:∀(k:Nat)(d:D),d.ok k=true->d.ok (k+1)=true
 |0,.none,_=>rfl
 |0,.int _,_=>rfl
 |0,.str _,h=>h
 |0,.tup xs,h=>by simp[D.ok] at h
 |0,.list xs,h=>by simp[D.ok] at h
 |0,.bool _,h=>by simp[D.ok] at h
 |0,.dict _,h=>by simp[D.ok] at h
 |0,.dictT _,h=>by simp[D.ok] at h
 |0,.range _ _,h=>by simp[D.ok] at h
 |0,.univ _ _,h=>by simp[D.ok] at h
 |0,.bnds _ _ _,h=>by simp[D.ok] at h
 |0,.feed,h=>by simp[D.ok] at h
 |k+1,.none,_=>rfl
 |k+1,.int _,_=>rfl
 |k+1,.str _,h=>h
 |k+1,.tup xs,h=>by
  unfold D.ok at h⊢
  rw[all_eq_true] at h⊢
  exact λx hx=>Pp k x (h x hx)
 |k+1,.list xs,h=>by
  unfold D.ok at h⊢
  rw[all_eq_true] at h⊢
  exact λx hx=>Pp k x (h x hx)
 |k+1,.bool _,h=>by simp[D.ok] at h
 |k+1,.dict _,h=>by simp[D.ok] at h
 |k+1,.dictT _,h=>by simp[D.ok] at h
 |k+1,.range _ _,h=>by simp[D.ok] at h
 |k+1,.univ _ _,h=>by simp[D.ok] at h
 |k+1,.bnds _ _ _,h=>by simp[D.ok] at h
 |k+1,.feed,h=>by simp[D.ok] at h
theorem Rx{k j:Nat}{d:D}(h:d.ok k=true)(hk:k<=j):d.ok j=true:=by
 obtain⟨i,rfl⟩:∃i,j=k+i:=⟨j -k,by omega⟩
 clear hk
 induction i with
 |zero=>exact h
 |succ i ih=>exact Pp _ _ ih
section
variable {n:Nat}{ρ ρ₁:Ev}{σ σ₁:St}{p p2 pos:Pos}{d:D}{e:Expr}{b:Bool}
theorem Fc{f c:Str}(cls:String)(hg:Ao ρ f=true)(hf:f=Str.ofString "isinstance")(hc:Ao ρ c=true)(hcl:c=Str.ofString cls)(hm:cls∈["tuple","str","int","bool"])(h:Aq n e ρ σ=some (d,ρ₁,σ₁))(hd:Ou d cls=some b):
 Aq (n+1) (.Call (.Name f p) [e,.Name c p2] [] pos) ρ σ=some (.bool b,ρ₁,σ₁):=by
 subst hf hcl
 have e1:¬(Str.ofString "str" =Str.ofString "tuple"):=by decide
 have e2:¬(Str.ofString "int" =Str.ofString "tuple"):=by decide
 have e3:¬(Str.ofString "int" =Str.ofString "str"):=by decide
 have e4:¬(Str.ofString "bool" =Str.ofString "tuple"):=by decide
 have e5:¬(Str.ofString "bool" =Str.ofString "str"):=by decide
 have e6:¬(Str.ofString "bool" =Str.ofString "int"):=by decide
 simp only[mem_cons,List.mem_nil_iff,or_false] at hm
 rcases hm with rfl|rfl|rfl|rfl<;>simp only[Aq,hg,hc,h,hd,Bool.not_true,false_eq_true,if_false,if_true,bind_eq_bind,bind_some,e1,e2,e3,e4,e5,e6]
end
theorem JJ(a b:List D)(h:a.length+b.length<=100000):CN .Add (.list a) (.list b)=some (.list (a++b)):=by
 have e:CN .Add (.list a) (.list b)=if a.length+b.length<=100000 then some (.list (a++b)) else none:=rfl
 rw[e,if_pos h]
theorem Li{x:D}{xs:List D}(h:x.ok 19=true):Av .NotEq (.tup ((x::xs).take 1)) (.tup [])=some true:=by
 have e:Av .NotEq (.tup ((x::xs).take 1)) (.tup [])=(if D.ok 20 (.tup [x])&&D.ok 20 (.tup []) then some (D.beq (.tup [x]) (.tup [])) else none).map (!·):=rfl
 have h1:D.ok 20 (.tup [x])=true:=by unfold D.ok;simpa using h
 have h2:D.ok 20 (.tup [])=true:=rfl
 have h3:D.beq (.tup [x]) (.tup [])=false:=by rw[D.beq,D.beqL]<;>simp
 rw[e,h1,h2,h3];rfl
theorem Jk{xs:List D}(h:xs.length<=100):Bo (.tup xs) .none (.int 1) .none=some (.tup (xs.take 1)):=by
 have e:Bo (.tup xs) .none (.int 1) .none=if xs.length<=100000 then(if AZ 1 then some (xs.take (Ap 1 xs.length)) else none).map .tup else none:=rfl
 rw[e,if_pos (by omega),show AZ 1=true from by decide]
 simp only[if_true,map_some,Option.some.injEq,D.tup.injEq]
 rw[List.take_eq_take_iff]
 unfold Ap;simp
theorem isStr:∀{k:Nat}{x:D},AL k x=true->∀xs:List D,∃b,Ou x "str" =some b/\(b=true->∃s,x= .str s/\FW (x::xs)=[s])/\(b=false->FW (x::xs)=[])
 |_,.int _,_,_=>⟨false,rfl,λh=>(nomatch h),λ_=>rfl⟩
 |_,.str s,_,_=>⟨true,rfl,λ_=>⟨s,rfl,rfl⟩,λh=>(nomatch h)⟩
 |_+1,.tup _,_,_=>⟨false,rfl,λh=>(nomatch h),λ_=>rfl⟩
 |0,.tup xs,h,_=>by simp[AL] at h
 |0,.none,h,_=>by simp[AL] at h
 |0,.bool _,h,_=>by simp[AL] at h
 |0,.list _,h,_=>by simp[AL] at h
 |0,.dict _,h,_=>by simp[AL] at h
 |0,.dictT _,h,_=>by simp[AL] at h
 |0,.range _ _,h,_=>by simp[AL] at h
 |0,.univ _ _,h,_=>by simp[AL] at h
 |0,.bnds _ _ _,h,_=>by simp[AL] at h
 |0,.feed,h,_=>by simp[AL] at h
 |k+1,.none,h,_=>by simp[AL] at h
 |k+1,.bool _,h,_=>by simp[AL] at h
 |k+1,.list _,h,_=>by simp[AL] at h
 |k+1,.dict _,h,_=>by simp[AL] at h
 |k+1,.dictT _,h,_=>by simp[AL] at h
 |k+1,.range _ _,h,_=>by simp[AL] at h
 |k+1,.univ _ _,h,_=>by simp[AL] at h
 |k+1,.bnds _ _ _,h,_=>by simp[AL] at h
 |k+1,.feed,h,_=>by simp[AL] at h
theorem Sf:∀{k:Nat}{x:D},AL k x=true->(∃xs j,x= .tup xs/\k=j+1/\Ou x "tuple" =some true)\/(Ou x "tuple" =some false/\A3 x=[])
 |_,.int _,_=> .inr ⟨rfl,by rw[A3];simp⟩
 |_,.str s,_=> .inr ⟨rfl,by rw[A3];simp⟩
 |j+1,.tup xs,_=> .inl ⟨xs,j,rfl,rfl,rfl⟩
 |0,.tup xs,h=>by simp[AL] at h
 |0,.none,h=>by simp[AL] at h
 |0,.bool _,h=>by simp[AL] at h
 |0,.list _,h=>by simp[AL] at h
 |0,.dict _,h=>by simp[AL] at h
 |0,.dictT _,h=>by simp[AL] at h
 |0,.range _ _,h=>by simp[AL] at h
 |0,.univ _ _,h=>by simp[AL] at h
 |0,.bnds _ _ _,h=>by simp[AL] at h
 |0,.feed,h=>by simp[AL] at h
 |k+1,.none,h=>by simp[AL] at h
 |k+1,.bool _,h=>by simp[AL] at h
 |k+1,.list _,h=>by simp[AL] at h
 |k+1,.dict _,h=>by simp[AL] at h
 |k+1,.dictT _,h=>by simp[AL] at h
 |k+1,.range _ _,h=>by simp[AL] at h
 |k+1,.univ _ _,h=>by simp[AL] at h
 |k+1,.bnds _ _ _,h=>by simp[AL] at h
 |k+1,.feed,h=>by simp[AL] at h
def As(ws:List Str):D:= .list (ws.map .str)
theorem Ma{k:Nat}{x:D}{xs:List D}{σ:St}(h:AL k x=true)(hk:k<=19)(hl:(x::xs).length<=100)(n:Nat):
 EI (n+20) (CA "_law_words" 0) ⟨(AU "_law_words").names,[(Str.ofString "node",.d (.tup (x::xs)))],[]⟩ σ=some (.next,⟨(AU "_law_words").names,[(Str.ofString "node",.d (.tup (x::xs))),(Str.ofString "found",.d (As (FW (x::xs))))],[]⟩,σ):=by
 obtain⟨b,hb,h1,h2⟩:=isStr h xs
 cases b with
 |true=>
  obtain⟨s,hs,hw⟩:=h1 rfl
  rw[hw]
  subst hs
  exact AP (AI rfl (Bm (c:=true) (C2 (OD (AJ (CZ (AA rfl) Be (DM AG) Be (Jk hl)) (Aj AR (by simp)) (Li (Rx (Kg _ _ h) hk))) (λ_=>OD (Cz rfl (Fc "str" rfl rfl rfl rfl (by simp) (Ei rfl rfl (D4 _ _)) hb)) (λ_=>Fd) (λq=>nomatch q)) (λq=>nomatch q)))
   (BU (AF rfl (Ei rfl rfl (D4 _ _)) AR) (by simp)))) rfl
 |false=>
  rw[h2 rfl]
  exact AP (AI rfl (Bm (c:=false) (C2 (OD (AJ (CZ (AA rfl) Be (DM AG) Be (Jk hl)) (Aj AR (by simp)) (Li (Rx (Kg _ _ h) hk))) (λ_=>OD (Cz rfl (Fc "str" rfl rfl rfl rfl (by simp) (Ei rfl rfl (D4 _ _)) hb)) (λq=>nomatch q) (λ_=>⟨rfl,rfl,rfl⟩)) (λq=>nomatch q)))
   (BU AR (by simp)))) rfl
def TH(xs:List D)(ws:List Str):Ev:=⟨(AU "_law_words").names,[(Str.ofString "node",.d (.tup xs)),(Str.ofString "found",.d (As ws))],[]⟩
theorem MZ{xs:List D}{ws wx:List Str}{x:D}{σ:St}{n:Nat}(hl:ws.length+wx.length<=100000)(h:(Ou x "tuple" =some false/\wx=[])\/(Ou x "tuple" =some true/\∀N,n<=N->AQ N (Str.ofString "_law_words") [x] σ=some (As wx,σ))):
 (do let ρ'<-JR (Iy (CA "_law_words" 1)) x (TH xs ws,σ).1
     let(f,ρ'',σ'')<-Br (n+12) (DI (CA "_law_words" 1)) ρ' (TH xs ws,σ).2
     some (f,(TH xs ws,σ).1.back ρ'',σ''):Option (Fl×Ev×St))=some (.next,TH xs (ws++wx),σ):=by
 have ad:=JJ (ws.map D.str) (wx.map D.str) (by simpa using hl)
 rw[<-map_append] at ad
 rcases h with ⟨h1,rfl⟩|⟨h1,h2⟩
 ·refine' BT rfl (AW (AP (AI rfl (Ak (AA rfl) (Bm (c:=false) (Cz rfl (Fc "tuple" rfl rfl rfl rfl (by simp) (AA rfl) h1)) (BU AR (by simp))) ad)) rfl) BC) ?bk
  case bk=>rfl
 ·refine' BT rfl (AW (AP (AI rfl (Ak (AA rfl) (Bm (c:=true) (Cz rfl (Fc "tuple" rfl rfl rfl rfl (by simp) (AA rfl) h1)) (AE rfl rfl rfl (AN (AB rfl (AA rfl) AH) rfl rfl rfl (h2 _ (by omega)) rfl))) ad)) rfl) BC) ?bk
  case bk=>rfl
theorem IG{k:Nat}{xs:List D}{σ:St}{n:Nat}(ih:∀ys,AL k (.tup ys)=true->(A3 (.tup ys)).length<=50000->∀N,n<=N->AQ N (Str.ofString "_law_words") [.tup ys] σ=some (As (A3 (.tup ys)),σ)):
 ∀(rest:List D) (ws:List Str),(∀x∈rest,AL k x=true)->ws.length+(Ca rest).length<=50000->EG (λd (s:Ev×St)=>do
    let ρ<-JR (Iy (CA "_law_words" 1)) d s.1
    let(f,ρ,σ)<-Br (n+12) (DI (CA "_law_words" 1)) ρ s.2
    some (f,s.1.back ρ,σ)) rest (TH xs ws,σ)=some (.next,TH xs (ws++Ca rest),σ)
 |[],ws,_,_=>by rw[Ca,append_nil];rfl
 |x::rest,ws,h,hl=>by
  rw[Ca,length_append] at hl
  have hx:=h x (mem_cons_self ..)
  have t:=MZ (n:=n) (xs:=xs) (ws:=ws) (wx:=A3 x) (x:=x) (σ:=σ) (by omega) (by
   rcases Sf hx with ⟨ys,j,rfl,rfl,ht⟩|⟨ht,hw⟩
   ·exact .inr ⟨ht,ih ys hx (by omega)⟩
   ·exact .inl ⟨ht,hw⟩)
  unfold EG
  simp only[bind_eq_bind] at t⊢
  rw[t]
  simp only[bind_some]
  have:=IG (xs:=xs) ih rest (ws++A3 x) (λy hy=>h y (mem_cons_of_mem _ hy)) (by rw[length_append];omega)
  simp only[bind_eq_bind] at this
  rw[this,Ca,List.append_assoc]
theorem IF:∀(k:Nat)(xs:List D),AL k (.tup xs)=true->k<=19->(A3 (.tup xs)).length<=50000->∀N σ,25*k+20<=N->AQ N (Str.ofString "_law_words") [.tup xs] σ=some (As (A3 (.tup xs)),σ)
 |0,xs,h,_,_,_,_,_=>by simp[AL] at h
 |k+1,[],h,_,_,_,_,_=>by simp[AL] at h
 |k+1,x::xs,h,hk,hl,N,σ,hN=>by
  obtain⟨M,rfl⟩:∃M,N=M+(25*k+45):=⟨N -(25*k+45),by omega⟩
  unfold AL at h
  simp only[and_eq_true,all_eq_true,decide_eq_true_eq] at h
  obtain⟨⟨_,h2⟩,h3⟩:=h
  have e0:fnTab.lookup (Str.ofString "_law_words")=some ⟨(AU "_law_words").params,(AU "_law_words").names,(AU "_law_words").body⟩:=rfl
  have ew:A3 (.tup (x::xs))=FW (x::xs)++Ca (x::xs):=by rw[A3]
  rw[ew,length_append] at hl
  have lp:=IG (k:=k) (xs:=x::xs) (σ:=σ) (n:=M+25*k+29) (λys hy hw N hN=>IF k ys hy (by omega) hw N σ (by omega)) (x::xs) (FW (x::xs)) h3 hl
  rw[ew]
  have e1:M+(25*k+45)=M+25*k+45:=by omega
  rw[e1]
  exact A4 e0 rfl (AM (Ma (n:=M+25*k+23) (h3 x (mem_cons_self ..)) (by omega) h2) (AM (DN rfl (AT rfl (AA rfl) rfl) lp) (AK (AS (AA rfl)))))
theorem CR{a b:Int}(h:decide (a=b)=false):Av .Eq (.int a) (.int b)=some false:=by rw[I0,h]
theorem Jb{a b:Int}(h:decide (a=b)=true):Av .Eq (.int a) (.int b)=some true:=by rw[I0,h]
theorem M2{a b:Int}(h:decide (a<b)=false):Av .Lt (.int a) (.int b)=some false:=by rw[FI,h]
theorem Td{a b:Int}(h:decide (a<b)=true):Av .Lt (.int a) (.int b)=some true:=by rw[FI,h]
theorem A1(d:Nat)(h:d<=10):CN .Sub (.int ((d+1:Nat):Int)) (.int 1)=some (.int (d:Int)):=by
 rw[GH (BH (by omega) (by omega)) (by decide)]
 have:((d+1:Nat):Int)-1=(d:Int):=by omega
 rw[this]
theorem HR(xs ys:List Str)(h:xs.length+ys.length<=1000):CN .Add (As xs) (As ys)=some (As (xs++ys)):=by
 have:=JJ (xs.map D.str) (ys.map D.str) (by simp;omega)
 rw[<-map_append] at this;exact this
theorem Of(xs:List Str)(h:xs.length<=10):Ag "len" [As xs]=some (.int xs.length):=by
 have:=Gg (xs.map D.str) (by simp;omega)
 rw[length_map] at this;exact this
def Ce(f:String)(dp:Int)(xs:List Str)(v:Int):Ev:=⟨(AU f).names,[(Str.ofString "feed",.d .feed),(Str.ofString "deep",.d (.int dp)),(Str.ofString "names",.d (As xs)),(Str.ofString "way",.d (.int v))],[]⟩
def Kd:D:= .tup [.str (Str.ofString "union"),.str (Str.ofString "meet"),.str (Str.ofString "minus"),.str (Str.ofString "override")]
theorem RF:∀(k:Nat)(d:D),AL k d=true->AL (k+1) d=true:=by
 intro k
 induction k with
 |zero=>intro d h;cases d<;>simp_all[AL]
 |succ k ih=>intro d h;cases d<;>simp_all[AL]
theorem CL{k j:Nat}{d:D}(h:AL k d=true)(hk:k<=j):AL j d=true:=by
 obtain⟨i,rfl⟩:∃i,j=k+i:=⟨j -k,by omega⟩
 clear hk
 induction i with
 |zero=>exact h
 |succ i ih=>exact RF _ _ ih
section
variable {d:Nat}{xs:List Str}{cells:List Int}{s0 s1 s2 s3 s4:Int}{a c:Ex}{f:Fm}
theorem Uq{dp:Int}:∀M,Go (M+70) ((AU "_law_of_one_place").body.drop 1) (Ce "_law_of_one_place" dp xs 0) (cells,s0) (Ex.rel 0).toD (cells,s0):=λM=>
 Aa (AJ (AA rfl) AG (Td rfl)) (AK (AS (Bm (c:=false) (AJ (AA rfl) AG (CR rfl)) (Aj (AF rfl AY (AF rfl AG AR)) (by simp)))))
theorem Up{dp:Int}{x:Str}{i:Int}(hx:xs.length<=10)(hi:Al (As xs) (.int i)=some (.str x))(h1:∀n,AQ (n+40) (Str.ofString "_law_draw") [.feed,.int xs.length] (cells,s0)=some (.int i,(cells,s1))):∀M,Go (M+70) ((AU "_law_of_one_place").body.drop 1) (Ce "_law_of_one_place" dp xs 1) (cells,s0) (Ex.var x).toD (cells,s1):=λM=>
 Aa (AJ (AA rfl) AG (Td rfl)) (AK (AS (Bm (c:=true) (AJ (AA rfl) AG (Jb rfl)) (Aj (AF rfl AY (AF rfl (A6 rfl rfl (AA rfl) (AE rfl rfl rfl (AN (AB rfl (AA rfl) (AB rfl (AE rfl rfl rfl (BJ (b:= "len") (AB rfl (AA rfl) AH) rfl rfl (Of xs hx))) AH)) rfl rfl rfl (h1 _) rfl)) rfl hi) AR)) (by simp)))))
theorem Uo{dp:Int}:∀M,Go (M+70) ((AU "_law_of_one_place").body.drop 1) (Ce "_law_of_one_place" dp xs 2) (cells,s0) (Ex.tup1).toD (cells,s0):=λM=>
 AC (AJ (AA rfl) AG (M2 rfl)) (Aa (AJ (AA rfl) AG (Jb rfl)) (AK (AS (Aj (AF rfl AY (AF rfl AG (AF rfl (Aj (AF rfl (Aj (AF rfl AG AR) (by simp)) AR) (by simp)) AR))) (by simp)))))
theorem TZ{dp:Int}(h1:∀n,AQ (n+40) (Str.ofString "_law_draw") [.feed,.int 2] (cells,s0)=some (.int 0,(cells,s1))):∀M,Go (M+70) ((AU "_law_of_one_place").body.drop 1) (Ce "_law_of_one_place" dp xs 3) (cells,s0) (Ex.univ).toD (cells,s1):=λM=>
 AC (AJ (AA rfl) AG (M2 rfl)) (AC (AJ (AA rfl) AG (CR rfl)) (Aa (AJ (AA rfl) AG (Jb rfl)) (AK (AS (Bm (c:=true) (AJ (AE rfl rfl rfl (AN (AB rfl (AA rfl) (AB rfl AG AH)) rfl rfl rfl (h1 _) rfl)) AG (Jb rfl)) (Aj (AF rfl AY AR) (by simp)))))))
theorem TY{dp:Int}(h1:∀n,AQ (n+40) (Str.ofString "_law_draw") [.feed,.int 2] (cells,s0)=some (.int 1,(cells,s1))):∀M,Go (M+70) ((AU "_law_of_one_place").body.drop 1) (Ce "_law_of_one_place" dp xs 3) (cells,s0) (Ex.none1).toD (cells,s1):=λM=>
 AC (AJ (AA rfl) AG (M2 rfl)) (AC (AJ (AA rfl) AG (CR rfl)) (Aa (AJ (AA rfl) AG (Jb rfl)) (AK (AS (Bm (c:=false) (AJ (AE rfl rfl rfl (AN (AB rfl (AA rfl) (AB rfl AG AH)) rfl rfl rfl (h1 _) rfl)) AG (CR rfl)) (Aj (AF rfl AY (AF rfl AG AR)) (by simp)))))))
theorem Un(hd:d<=10)(hx:xs.length<=10)(h1:∀N,80+50*d<=N->AQ N (Str.ofString "_law_of_one_place") [.feed,.int ((d:Nat):Int),As xs] (cells,s0)=some (a.toD,(cells,s1)))(h2:∀N,80+50*d<=N->AQ N (Str.ofString "_law_of_two_places") [.feed,.int ((d:Nat):Int),As xs] (cells,s1)=some (c.toD,(cells,s2))):∀M,Go (M+50*d+128) ((AU "_law_of_one_place").body.drop 1) (Ce "_law_of_one_place" ((d+1:Nat):Int) xs 4) (cells,s0) (Ex.join a c).toD (cells,s2):=λM=>
 AC (AJ (AA rfl) AG (M2 rfl)) (AC (AJ (AA rfl) AG (CR rfl)) (AC (AJ (AA rfl) AG (CR rfl)) (Aa (AJ (AA rfl) AG (Jb rfl)) (AK (AS (Aj (AF rfl AY (AF rfl (AE rfl rfl rfl (AN (AB rfl (AA rfl) (AB rfl (Ak (AA rfl) AG (A1 d hd)) (AB rfl (AA rfl) AH))) rfl rfl rfl (h1 _ (by omega)) rfl)) (AF rfl (AE rfl rfl rfl (AN (AB rfl (AA rfl) (AB rfl (Ak (AA rfl) AG (A1 d hd)) (AB rfl (AA rfl) AH))) rfl rfl rfl (h2 _ (by omega)) rfl)) AR))) (by simp)))))))
theorem Um(hd:d<=10)(hx:xs.length<=10)(h1:∀N,80+50*d<=N->AQ N (Str.ofString "_law_of_two_places") [.feed,.int ((d:Nat):Int),As xs] (cells,s0)=some (a.toD,(cells,s1)))(h2:∀N,80+50*d<=N->AQ N (Str.ofString "_law_of_one_place") [.feed,.int ((d:Nat):Int),As xs] (cells,s1)=some (c.toD,(cells,s2))):∀M,Go (M+50*d+128) ((AU "_law_of_one_place").body.drop 1) (Ce "_law_of_one_place" ((d+1:Nat):Int) xs 5) (cells,s0) (Ex.join a c).toD (cells,s2):=λM=>
 AC (AJ (AA rfl) AG (M2 rfl)) (AC (AJ (AA rfl) AG (CR rfl)) (AC (AJ (AA rfl) AG (CR rfl)) (AC (AJ (AA rfl) AG (CR rfl)) (Aa (AJ (AA rfl) AG (Jb rfl)) (AK (AS (Aj (AF rfl AY (AF rfl (AE rfl rfl rfl (AN (AB rfl (AA rfl) (AB rfl (Ak (AA rfl) AG (A1 d hd)) (AB rfl (AA rfl) AH))) rfl rfl rfl (h1 _ (by omega)) rfl)) (AF rfl (AE rfl rfl rfl (AN (AB rfl (AA rfl) (AB rfl (Ak (AA rfl) AG (A1 d hd)) (AB rfl (AA rfl) AH))) rfl rfl rfl (h2 _ (by omega)) rfl)) AR))) (by simp))))))))
theorem Ul(hd:d<=10)(hx:xs.length<=10)(h1:∀N,80+50*d<=N->AQ N (Str.ofString "_law_of_one_place") [.feed,.int ((d:Nat):Int),As xs] (cells,s0)=some (a.toD,(cells,s1)))(h2:∀N,100<=N->AQ N (Str.ofString "_law_formula") [.feed,As (xs++[sY])] (cells,s1)=some (f.toD,(cells,s2))):∀M,Go (M+50*d+128) ((AU "_law_of_one_place").body.drop 1) (Ce "_law_of_one_place" ((d+1:Nat):Int) xs 6) (cells,s0) (Ex.comp1 a f).toD (cells,s2):=λM=>
 AC (AJ (AA rfl) AG (M2 rfl)) (AC (AJ (AA rfl) AG (CR rfl)) (AC (AJ (AA rfl) AG (CR rfl)) (AC (AJ (AA rfl) AG (CR rfl)) (AC (AJ (AA rfl) AG (CR rfl)) (Aa (AJ (AA rfl) AG (Jb rfl)) (AK (AS (Aj (AF rfl AY (AF rfl (Aj (AF rfl (Aj (AF rfl AY (AF rfl (AE rfl rfl rfl (AN (AB rfl (AA rfl) (AB rfl (Ak (AA rfl) AG (A1 d hd)) (AB rfl (AA rfl) AH))) rfl rfl rfl (h1 _ (by omega)) rfl)) AR)) (by simp)) AR) (by simp)) (AF rfl (AE rfl rfl rfl (AN (AB rfl (AA rfl) (AB rfl (Ak (AA rfl) (BU (AF rfl AY AR) (by simp)) (HR xs [sY] (by simp;omega))) AH)) rfl rfl rfl (h2 _ (by omega)) rfl)) AR))) (by simp)))))))))
theorem Uk(hd:d<=10)(hx:xs.length<=10)(h1:∀N,80+50*d<=N->AQ N (Str.ofString "_law_of_one_place") [.feed,.int ((d:Nat):Int),As xs] (cells,s0)=some (a.toD,(cells,s1)))(h2:∀N,80+50*d<=N->AQ N (Str.ofString "_law_of_one_place") [.feed,.int ((d:Nat):Int),As xs] (cells,s1)=some (c.toD,(cells,s2)))(h3:∀N,100<=N->AQ N (Str.ofString "_law_formula") [.feed,As xs] (cells,s2)=some (f.toD,(cells,s3))):∀M,Go (M+50*d+128) ((AU "_law_of_one_place").body.drop 1) (Ce "_law_of_one_place" ((d+1:Nat):Int) xs 7) (cells,s0) (Ex.either f a c).toD (cells,s3):=λM=>
 AC (AJ (AA rfl) AG (M2 rfl)) (AC (AJ (AA rfl) AG (CR rfl)) (AC (AJ (AA rfl) AG (CR rfl)) (AC (AJ (AA rfl) AG (CR rfl)) (AC (AJ (AA rfl) AG (CR rfl)) (AC (AJ (AA rfl) AG (CR rfl)) (Aa (AJ (AA rfl) AG (Jb rfl)) (AM (Dk rfl rfl (A0 rfl (AI rfl (AE rfl rfl rfl (AN (AB rfl (AA rfl) (AB rfl (Ak (AA rfl) AG (A1 d hd)) (AB rfl (AA rfl) AH))) rfl rfl rfl (h1 _ (by omega)) rfl))) (A0 rfl (AI rfl (AE rfl rfl rfl (AN (AB rfl (AA rfl) (AB rfl (Ak (AA rfl) AG (A1 d hd)) (AB rfl (AA rfl) AH))) rfl rfl rfl (h2 _ (by omega)) rfl))) Ch)) rfl) (AK (AS (Aj (AF rfl AY (AF rfl (AE rfl rfl rfl (AN (AB rfl (AA rfl) (AB rfl (AA rfl) AH)) rfl rfl rfl (h3 _ (by omega)) rfl)) (AF rfl (AA rfl) (AF rfl (AA rfl) AR)))) (by simp)))))))))))
theorem Uj{s:Nat}(hd:d<=10)(hx:xs.length<=10)(hp:Al Kd (.int (s:Int))=some (Am (Jl s)))(h0:∀n,AQ (n+40) (Str.ofString "_law_draw") [.feed,.int 4] (cells,s0)=some (.int (s:Int),(cells,s1)))(h1:∀N,80+50*d<=N->AQ N (Str.ofString "_law_of_one_place") [.feed,.int ((d:Nat):Int),As xs] (cells,s1)=some (a.toD,(cells,s2)))(h2:∀N,80+50*d<=N->AQ N (Str.ofString "_law_of_one_place") [.feed,.int ((d:Nat):Int),As xs] (cells,s2)=some (c.toD,(cells,s3))):∀M,Go (M+50*d+128) ((AU "_law_of_one_place").body.drop 1) (Ce "_law_of_one_place" ((d+1:Nat):Int) xs 8) (cells,s0) (Ex.sign s a c).toD (cells,s3):=λM=>
 AC (AJ (AA rfl) AG (M2 rfl)) (AC (AJ (AA rfl) AG (CR rfl)) (AC (AJ (AA rfl) AG (CR rfl)) (AC (AJ (AA rfl) AG (CR rfl)) (AC (AJ (AA rfl) AG (CR rfl)) (AC (AJ (AA rfl) AG (CR rfl)) (AC (AJ (AA rfl) AG (CR rfl)) (AM (AP (AI rfl (A6 rfl rfl (AA rfl) (AE rfl rfl rfl (AN (AB rfl (AA rfl) (AB rfl AG AH)) rfl rfl rfl (h0 _) rfl)) rfl hp)) rfl) (AK (AS (Aj (AF rfl (AA rfl) (AF rfl (AE rfl rfl rfl (AN (AB rfl (AA rfl) (AB rfl (Ak (AA rfl) AG (A1 d hd)) (AB rfl (AA rfl) AH))) rfl rfl rfl (h1 _ (by omega)) rfl)) (AF rfl (AE rfl rfl rfl (AN (AB rfl (AA rfl) (AB rfl (Ak (AA rfl) AG (A1 d hd)) (AB rfl (AA rfl) AH))) rfl rfl rfl (h2 _ (by omega)) rfl)) AR))) (by simp)))))))))))
theorem Ui{s:Nat}(hd:d<=10)(hx:xs.length<=10)(hp:Al Kd (.int (s:Int))=some (Am (Jl s)))(h0:∀n,AQ (n+40) (Str.ofString "_law_draw") [.feed,.int 4] (cells,s0)=some (.int (s:Int),(cells,s1)))(h1:∀N,80+50*d<=N->AQ N (Str.ofString "_law_of_one_place") [.feed,.int ((d:Nat):Int),As xs] (cells,s1)=some (a.toD,(cells,s2)))(h2:∀N,80+50*d<=N->AQ N (Str.ofString "_law_of_one_place") [.feed,.int ((d:Nat):Int),As xs] (cells,s2)=some (c.toD,(cells,s3))):∀M,Go (M+50*d+128) ((AU "_law_of_one_place").body.drop 1) (Ce "_law_of_one_place" ((d+1:Nat):Int) xs 9) (cells,s0) (Ex.sign s a c).toD (cells,s3):=λM=>
 AC (AJ (AA rfl) AG (M2 rfl)) (AC (AJ (AA rfl) AG (CR rfl)) (AC (AJ (AA rfl) AG (CR rfl)) (AC (AJ (AA rfl) AG (CR rfl)) (AC (AJ (AA rfl) AG (CR rfl)) (AC (AJ (AA rfl) AG (CR rfl)) (AC (AJ (AA rfl) AG (CR rfl)) (AM (AP (AI rfl (A6 rfl rfl (AA rfl) (AE rfl rfl rfl (AN (AB rfl (AA rfl) (AB rfl AG AH)) rfl rfl rfl (h0 _) rfl)) rfl hp)) rfl) (AK (AS (Aj (AF rfl (AA rfl) (AF rfl (AE rfl rfl rfl (AN (AB rfl (AA rfl) (AB rfl (Ak (AA rfl) AG (A1 d hd)) (AB rfl (AA rfl) AH))) rfl rfl rfl (h1 _ (by omega)) rfl)) (AF rfl (AE rfl rfl rfl (AN (AB rfl (AA rfl) (AB rfl (Ak (AA rfl) AG (A1 d hd)) (AB rfl (AA rfl) AH))) rfl rfl rfl (h2 _ (by omega)) rfl)) AR))) (by simp)))))))))))
theorem UL{dp:Int}:∀M,Go (M+70) ((AU "_law_of_two_places").body.drop 1) (Ce "_law_of_two_places" dp xs 0) (cells,s0) (Ex.rel 1).toD (cells,s0):=λM=>
 Aa (AJ (AA rfl) AG (Jb rfl)) (AK (AS (Aj (AF rfl AY (AF rfl AG AR)) (by simp))))
theorem TP{dp:Int}(h1:∀n,AQ (n+40) (Str.ofString "_law_draw") [.feed,.int 2] (cells,s0)=some (.int 0,(cells,s1))):∀M,Go (M+70) ((AU "_law_of_two_places").body.drop 1) (Ce "_law_of_two_places" dp xs 1) (cells,s0) (Ex.iden).toD (cells,s1):=λM=>
 AC (AJ (AA rfl) AG (CR rfl)) (Aa (AJ (AA rfl) AG (Jb rfl)) (AK (AS (Bm (c:=true) (AJ (AE rfl rfl rfl (AN (AB rfl (AA rfl) (AB rfl AG AH)) rfl rfl rfl (h1 _) rfl)) AG (Jb rfl)) (Aj (AF rfl AY AR) (by simp))))))
theorem TO{dp:Int}(h1:∀n,AQ (n+40) (Str.ofString "_law_draw") [.feed,.int 2] (cells,s0)=some (.int 1,(cells,s1))):∀M,Go (M+70) ((AU "_law_of_two_places").body.drop 1) (Ce "_law_of_two_places" dp xs 1) (cells,s0) (Ex.tup2).toD (cells,s1):=λM=>
 AC (AJ (AA rfl) AG (CR rfl)) (Aa (AJ (AA rfl) AG (Jb rfl)) (AK (AS (Bm (c:=false) (AJ (AE rfl rfl rfl (AN (AB rfl (AA rfl) (AB rfl AG AH)) rfl rfl rfl (h1 _) rfl)) AG (CR rfl)) (Aj (AF rfl AY (AF rfl AG (AF rfl (Aj (AF rfl (Aj (AF rfl AG (AF rfl AG AR)) (by simp)) (AF rfl (Aj (AF rfl AG (AF rfl AG AR)) (by simp)) AR)) (by simp)) AR))) (by simp))))))
theorem UK(hd:d<=10)(hx:xs.length<=10)(h1:∀N,80+50*d<=N->AQ N (Str.ofString "_law_of_two_places") [.feed,.int ((d:Nat):Int),As xs] (cells,s0)=some (a.toD,(cells,s1))):∀M,Go (M+50*d+128) ((AU "_law_of_two_places").body.drop 1) (Ce "_law_of_two_places" ((d+1:Nat):Int) xs 2) (cells,s0) (Ex.turn a).toD (cells,s1):=λM=>
 AC (AJ (AA rfl) AG (CR rfl)) (AC (AJ (AA rfl) AG (CR rfl)) (Aa (AJ (AA rfl) AG (Td rfl)) (AK (AS (Aj (AF rfl (A6 rfl rfl (Aj (AF rfl AY (AF rfl AY (AF rfl AY AR))) (by simp)) (Ak (AA rfl) AG (GH (by decide) (by decide))) rfl (D4 _ _)) (AF rfl (AE rfl rfl rfl (AN (AB rfl (AA rfl) (AB rfl (Ak (AA rfl) AG (A1 d hd)) (AB rfl (AA rfl) AH))) rfl rfl rfl (h1 _ (by omega)) rfl)) AR)) (by simp))))))
theorem UJ(hd:d<=10)(hx:xs.length<=10)(h1:∀N,80+50*d<=N->AQ N (Str.ofString "_law_of_two_places") [.feed,.int ((d:Nat):Int),As xs] (cells,s0)=some (a.toD,(cells,s1))):∀M,Go (M+50*d+128) ((AU "_law_of_two_places").body.drop 1) (Ce "_law_of_two_places" ((d+1:Nat):Int) xs 3) (cells,s0) (Ex.clo a).toD (cells,s1):=λM=>
 AC (AJ (AA rfl) AG (CR rfl)) (AC (AJ (AA rfl) AG (CR rfl)) (Aa (AJ (AA rfl) AG (Td rfl)) (AK (AS (Aj (AF rfl (A6 rfl rfl (Aj (AF rfl AY (AF rfl AY (AF rfl AY AR))) (by simp)) (Ak (AA rfl) AG (GH (by decide) (by decide))) rfl (JQ _ _ _)) (AF rfl (AE rfl rfl rfl (AN (AB rfl (AA rfl) (AB rfl (Ak (AA rfl) AG (A1 d hd)) (AB rfl (AA rfl) AH))) rfl rfl rfl (h1 _ (by omega)) rfl)) AR)) (by simp))))))
theorem UI(hd:d<=10)(hx:xs.length<=10)(h1:∀N,80+50*d<=N->AQ N (Str.ofString "_law_of_two_places") [.feed,.int ((d:Nat):Int),As xs] (cells,s0)=some (a.toD,(cells,s1))):∀M,Go (M+50*d+128) ((AU "_law_of_two_places").body.drop 1) (Ce "_law_of_two_places" ((d+1:Nat):Int) xs 4) (cells,s0) (Ex.star a).toD (cells,s1):=λM=>
 AC (AJ (AA rfl) AG (CR rfl)) (AC (AJ (AA rfl) AG (CR rfl)) (Aa (AJ (AA rfl) AG (Td rfl)) (AK (AS (Aj (AF rfl (A6 rfl rfl (Aj (AF rfl AY (AF rfl AY (AF rfl AY AR))) (by simp)) (Ak (AA rfl) AG (GH (by decide) (by decide))) rfl (Qj _ _ _ _)) (AF rfl (AE rfl rfl rfl (AN (AB rfl (AA rfl) (AB rfl (Ak (AA rfl) AG (A1 d hd)) (AB rfl (AA rfl) AH))) rfl rfl rfl (h1 _ (by omega)) rfl)) AR)) (by simp))))))
theorem UH(hd:d<=10)(hx:xs.length<=10)(h1:∀N,80+50*d<=N->AQ N (Str.ofString "_law_of_one_place") [.feed,.int ((d:Nat):Int),As xs] (cells,s0)=some (a.toD,(cells,s1)))(h2:∀N,80+50*d<=N->AQ N (Str.ofString "_law_of_one_place") [.feed,.int ((d:Nat):Int),As xs] (cells,s1)=some (c.toD,(cells,s2))):∀M,Go (M+50*d+128) ((AU "_law_of_two_places").body.drop 1) (Ce "_law_of_two_places" ((d+1:Nat):Int) xs 5) (cells,s0) (Ex.prod a c).toD (cells,s2):=λM=>
 AC (AJ (AA rfl) AG (CR rfl)) (AC (AJ (AA rfl) AG (CR rfl)) (AC (AJ (AA rfl) AG (M2 rfl)) (Aa (AJ (AA rfl) AG (Jb rfl)) (AK (AS (Aj (AF rfl AY (AF rfl (AE rfl rfl rfl (AN (AB rfl (AA rfl) (AB rfl (Ak (AA rfl) AG (A1 d hd)) (AB rfl (AA rfl) AH))) rfl rfl rfl (h1 _ (by omega)) rfl)) (AF rfl (AE rfl rfl rfl (AN (AB rfl (AA rfl) (AB rfl (Ak (AA rfl) AG (A1 d hd)) (AB rfl (AA rfl) AH))) rfl rfl rfl (h2 _ (by omega)) rfl)) AR))) (by simp)))))))
theorem UG(hd:d<=10)(hx:xs.length<=10)(h1:∀N,80+50*d<=N->AQ N (Str.ofString "_law_of_two_places") [.feed,.int ((d:Nat):Int),As xs] (cells,s0)=some (a.toD,(cells,s1)))(h2:∀N,80+50*0<=N->AQ N (Str.ofString "_law_of_two_places") [.feed,.int ((0:Nat):Int),As xs] (cells,s1)=some (c.toD,(cells,s2))):∀M,Go (M+50*d+128) ((AU "_law_of_two_places").body.drop 1) (Ce "_law_of_two_places" ((d+1:Nat):Int) xs 6) (cells,s0) (Ex.join a c).toD (cells,s2):=λM=>
 AC (AJ (AA rfl) AG (CR rfl)) (AC (AJ (AA rfl) AG (CR rfl)) (AC (AJ (AA rfl) AG (M2 rfl)) (AC (AJ (AA rfl) AG (CR rfl)) (Aa (AJ (AA rfl) AG (Jb rfl)) (AK (AS (Aj (AF rfl AY (AF rfl (AE rfl rfl rfl (AN (AB rfl (AA rfl) (AB rfl (Ak (AA rfl) AG (A1 d hd)) (AB rfl (AA rfl) AH))) rfl rfl rfl (h1 _ (by omega)) rfl)) (AF rfl (AE rfl rfl rfl (AN (AB rfl (AA rfl) (AB rfl AG (AB rfl (AA rfl) AH))) rfl rfl rfl (h2 _ (by omega)) rfl)) AR))) (by simp))))))))
theorem TN(hd:d<=10)(hx:xs.length<=10)(h1:∀N,80+50*d<=N->AQ N (Str.ofString "_law_of_one_place") [.feed,.int ((d:Nat):Int),As xs] (cells,s0)=some (a.toD,(cells,s1)))(h2:∀N,80+50*d<=N->AQ N (Str.ofString "_law_of_two_places") [.feed,.int ((d:Nat):Int),As xs] (cells,s1)=some (c.toD,(cells,s2)))(h3:∀n,AQ (n+40) (Str.ofString "_law_draw") [.feed,.int 2] (cells,s2)=some (.int 0,(cells,s3))):∀M,Go (M+50*d+128) ((AU "_law_of_two_places").body.drop 1) (Ce "_law_of_two_places" ((d+1:Nat):Int) xs 7) (cells,s0) (Ex.ahead a c).toD (cells,s3):=λM=>
 AC (AJ (AA rfl) AG (CR rfl)) (AC (AJ (AA rfl) AG (CR rfl)) (AC (AJ (AA rfl) AG (M2 rfl)) (AC (AJ (AA rfl) AG (CR rfl)) (AC (AJ (AA rfl) AG (CR rfl)) (Aa (AJ (AA rfl) AG (Jb rfl)) (AM (Dk rfl rfl (A0 rfl (AI rfl (AE rfl rfl rfl (AN (AB rfl (AA rfl) (AB rfl (Ak (AA rfl) AG (A1 d hd)) (AB rfl (AA rfl) AH))) rfl rfl rfl (h1 _ (by omega)) rfl))) (A0 rfl (AI rfl (AE rfl rfl rfl (AN (AB rfl (AA rfl) (AB rfl (Ak (AA rfl) AG (A1 d hd)) (AB rfl (AA rfl) AH))) rfl rfl rfl (h2 _ (by omega)) rfl))) Ch)) rfl) (AK (AS (Bm (c:=true) (AJ (AE rfl rfl rfl (AN (AB rfl (AA rfl) (AB rfl AG AH)) rfl rfl rfl (h3 _) rfl)) AG (Jb rfl)) (Aj (AF rfl AY (AF rfl (AA rfl) (AF rfl (AA rfl) AR))) (by simp)))))))))))
theorem TL(hd:d<=10)(hx:xs.length<=10)(h1:∀N,80+50*d<=N->AQ N (Str.ofString "_law_of_one_place") [.feed,.int ((d:Nat):Int),As xs] (cells,s0)=some (a.toD,(cells,s1)))(h2:∀N,80+50*d<=N->AQ N (Str.ofString "_law_of_two_places") [.feed,.int ((d:Nat):Int),As xs] (cells,s1)=some (c.toD,(cells,s2)))(h3:∀n,AQ (n+40) (Str.ofString "_law_draw") [.feed,.int 2] (cells,s2)=some (.int 1,(cells,s3))):∀M,Go (M+50*d+128) ((AU "_law_of_two_places").body.drop 1) (Ce "_law_of_two_places" ((d+1:Nat):Int) xs 7) (cells,s0) (Ex.behind c a).toD (cells,s3):=λM=>
 AC (AJ (AA rfl) AG (CR rfl)) (AC (AJ (AA rfl) AG (CR rfl)) (AC (AJ (AA rfl) AG (M2 rfl)) (AC (AJ (AA rfl) AG (CR rfl)) (AC (AJ (AA rfl) AG (CR rfl)) (Aa (AJ (AA rfl) AG (Jb rfl)) (AM (Dk rfl rfl (A0 rfl (AI rfl (AE rfl rfl rfl (AN (AB rfl (AA rfl) (AB rfl (Ak (AA rfl) AG (A1 d hd)) (AB rfl (AA rfl) AH))) rfl rfl rfl (h1 _ (by omega)) rfl))) (A0 rfl (AI rfl (AE rfl rfl rfl (AN (AB rfl (AA rfl) (AB rfl (Ak (AA rfl) AG (A1 d hd)) (AB rfl (AA rfl) AH))) rfl rfl rfl (h2 _ (by omega)) rfl))) Ch)) rfl) (AK (AS (Bm (c:=false) (AJ (AE rfl rfl rfl (AN (AB rfl (AA rfl) (AB rfl AG AH)) rfl rfl rfl (h3 _) rfl)) AG (CR rfl)) (Aj (AF rfl AY (AF rfl (AA rfl) (AF rfl (AA rfl) AR))) (by simp)))))))))))
theorem UE(hd:d<=10)(hx:xs.length<=10)(h1:∀N,80+50*0<=N->AQ N (Str.ofString "_law_of_one_place") [.feed,.int ((0:Nat):Int),As xs] (cells,s0)=some (a.toD,(cells,s1)))(h2:∀N,80+50*d<=N->AQ N (Str.ofString "_law_of_one_place") [.feed,.int ((d:Nat):Int),As (xs++[sY])] (cells,s1)=some (c.toD,(cells,s2)))(h3:∀N,100<=N->AQ N (Str.ofString "_law_formula") [.feed,As (xs++[sY,sZ])] (cells,s2)=some (f.toD,(cells,s3))):∀M,Go (M+50*d+128) ((AU "_law_of_two_places").body.drop 1) (Ce "_law_of_two_places" ((d+1:Nat):Int) xs 8) (cells,s0) (Ex.comp2 a c f).toD (cells,s3):=λM=>
 AC (AJ (AA rfl) AG (CR rfl)) (AC (AJ (AA rfl) AG (CR rfl)) (AC (AJ (AA rfl) AG (M2 rfl)) (AC (AJ (AA rfl) AG (CR rfl)) (AC (AJ (AA rfl) AG (CR rfl)) (AC (AJ (AA rfl) AG (CR rfl)) (Aa (AJ (AA rfl) AG (Jb rfl)) (AM (AP (AI rfl (Aj (AF rfl (Aj (AF rfl AY (AF rfl (AE rfl rfl rfl (AN (AB rfl (AA rfl) (AB rfl AG (AB rfl (AA rfl) AH))) rfl rfl rfl (h1 _ (by omega)) rfl)) AR)) (by simp)) (AF rfl (Aj (AF rfl AY (AF rfl (AE rfl rfl rfl (AN (AB rfl (AA rfl) (AB rfl (Ak (AA rfl) AG (A1 d hd)) (AB rfl (Ak (AA rfl) (BU (AF rfl AY AR) (by simp)) (HR xs [sY] (by simp;omega))) AH))) rfl rfl rfl (h2 _ (by omega)) rfl)) AR)) (by simp)) AR)) (by simp))) rfl) (AK (AS (Aj (AF rfl AY (AF rfl (AA rfl) (AF rfl (AE rfl rfl rfl (AN (AB rfl (AA rfl) (AB rfl (Ak (AA rfl) (BU (AF rfl AY (AF rfl AY AR)) (by simp)) (HR xs [sY,sZ] (by simp;omega))) AH)) rfl rfl rfl (h3 _ (by omega)) rfl)) AR))) (by simp)))))))))))
theorem UD{s:Nat}(hd:d<=10)(hx:xs.length<=10)(hp:Al Kd (.int (s:Int))=some (Am (Jl s)))(h0:∀n,AQ (n+40) (Str.ofString "_law_draw") [.feed,.int 4] (cells,s0)=some (.int (s:Int),(cells,s1)))(h1:∀N,80+50*d<=N->AQ N (Str.ofString "_law_of_two_places") [.feed,.int ((d:Nat):Int),As xs] (cells,s1)=some (a.toD,(cells,s2)))(h2:∀N,80+50*d<=N->AQ N (Str.ofString "_law_of_two_places") [.feed,.int ((d:Nat):Int),As xs] (cells,s2)=some (c.toD,(cells,s3))):∀M,Go (M+50*d+128) ((AU "_law_of_two_places").body.drop 1) (Ce "_law_of_two_places" ((d+1:Nat):Int) xs 9) (cells,s0) (Ex.sign s a c).toD (cells,s3):=λM=>
 AC (AJ (AA rfl) AG (CR rfl)) (AC (AJ (AA rfl) AG (CR rfl)) (AC (AJ (AA rfl) AG (M2 rfl)) (AC (AJ (AA rfl) AG (CR rfl)) (AC (AJ (AA rfl) AG (CR rfl)) (AC (AJ (AA rfl) AG (CR rfl)) (AC (AJ (AA rfl) AG (CR rfl)) (AM (AP (AI rfl (A6 rfl rfl (AA rfl) (AE rfl rfl rfl (AN (AB rfl (AA rfl) (AB rfl AG AH)) rfl rfl rfl (h0 _) rfl)) rfl hp)) rfl) (AK (AS (Aj (AF rfl (AA rfl) (AF rfl (AE rfl rfl rfl (AN (AB rfl (AA rfl) (AB rfl (Ak (AA rfl) AG (A1 d hd)) (AB rfl (AA rfl) AH))) rfl rfl rfl (h1 _ (by omega)) rfl)) (AF rfl (AE rfl rfl rfl (AN (AB rfl (AA rfl) (AB rfl (Ak (AA rfl) AG (A1 d hd)) (AB rfl (AA rfl) AH))) rfl rfl rfl (h2 _ (by omega)) rfl)) AR))) (by simp)))))))))))
end
def MY:Nat->Int
 |0=>5
 |d+1=>2*MY d+20
def wB:Nat->Nat
 |0=>3
 |d+1=>2*wB d+12
def L9:Nat->Nat
 |0=>100
 |d+1=>240+100*d
theorem Fz:∀d,L9 d<=140+100*d/\100<=L9 d
 |0=>by simp[L9]
 |d+1=>by simp only[L9];omega
theorem Mj:∀d,5<=MY d
 |0=>by simp[MY]
 |d+1=>by have:=Mj d;simp only[MY];omega
theorem Jg:∀d,3<=wB d
 |0=>by simp[wB]
 |d+1=>by have:=Jg d;simp only[wB];omega
structure Gen (k d:Nat)(xs:List Str)(e:Ex):Prop where
 wt:e.wt k xs
 fu:e.fu<=150+100*d
 fr:e.fr<=L9 d
 nw:(A3 e.toD).length<=wB d
 nd:AL (3+3*d) e.toD=true
structure GenF (xs:List Str)(f:Fm):Prop where
 wt:f.wt xs
 fr:f.fr<=140
 nw:(A3 f.toD).length<=7
 nd:AL 4 f.toD=true
structure Leaf (k:Nat)(xs:List Str)(e:Ex):Prop where
 wt:e.wt k xs
 fu:e.fu=150
 fr:e.fr=100
 nw:(A3 e.toD).length=1
 nd:AL 3 e.toD=true
theorem Leaf.gen{k:Nat}{xs:List Str}{e:Ex}(h:Leaf k xs e)(d:Nat):Gen k d xs e:=
 ⟨h.wt,by have:=h.fu;omega,by have:=h.fr;have:=Fz d;omega,by have:=h.nw;have:=Jg d;omega,CL h.nd (by omega)⟩
theorem Cm(xs:List D):A3 (.tup xs)=FW xs++Ca xs:=by rw[A3]
theorem Cv(s:Str):A3 (.str s)=[]:=by rw[A3];simp
theorem GB(i:Int):A3 (.int i)=[]:=by rw[A3];simp
theorem B8(x:D)(xs:List D):Ca (x::xs)=A3 x++Ca xs:=by rw[Ca]
theorem Cw:Ca []=[]:=by rw[Ca]
theorem Cy(s:Str)(xs:List D):FW (.str s::xs)=[s]:=rfl
theorem Rz(ys xs:List D):FW (.tup ys::xs)=[]:=rfl
theorem U3(i:Int)(xs:List D):FW (.int i::xs)=[]:=rfl
theorem D8(k:Nat)(i:Int):AL k (.int i)=true:=by cases k<;>rfl
theorem BN(k:Nat){s:String}(h:litS.contains s=true):AL k (Am s)=true:=by
 have:=Fi h
 cases k<;>exact this
theorem Nj{k:Nat}{a:D}(ha:AL k a=true):AL (k+1) (.tup [a])=true:=by simp[AL,ha]
theorem Eu{k:Nat}{a c:D}(ha:AL k a=true)(hc:AL k c=true):AL (k+1) (.tup [a,c])=true:=by simp[AL,ha,hc]
theorem Jw{k:Nat}{a c e:D}(ha:AL k a=true)(hc:AL k c=true)(he:AL k e=true):AL (k+1) (.tup [a,c,e])=true:=by simp[AL,ha,hc,he]
theorem Tb{k:Nat}{a c e g:D}(ha:AL k a=true)(hc:AL k c=true)(he:AL k e=true)(hg:AL k g=true):AL (k+1) (.tup [a,c,e,g])=true:=by simp[AL,ha,hc,he,hg]
theorem Id(k:Nat)(a:Int)(r:AO)(h:(a::r).length<=100):AL (k+1) (AD (a::r))=true:=by
 unfold AD AL
 simp only[and_eq_true,all_eq_true,decide_eq_true_eq,length_map]
 refine⟨⟨rfl,h⟩,λx hx=> ?_⟩
 obtain⟨i,_,rfl⟩:=mem_map.mp hx
 exact D8 _ _
theorem Ol(xs:List Str):Leaf 1 xs (.rel 0):=⟨by simp[Ex.wt],rfl,rfl,by simp only[Ex.toD,Cm,B8,Cw,Cv,GB,Am,Cy];rfl,by simp only[Ex.toD];exact Eu (BN _ rfl) (D8 _ _)⟩
theorem Ok(xs:List Str):Leaf 2 xs (.rel 1):=⟨by simp[Ex.wt],rfl,rfl,by simp only[Ex.toD,Cm,B8,Cw,Cv,GB,Am,Cy];rfl,by simp only[Ex.toD];exact Eu (BN _ rfl) (D8 _ _)⟩
theorem P7{xs:List Str}{x:Str}(hx:x∈xs)(ho:PyData.strOk x=true):Leaf 1 xs (.var x):=⟨by simp[Ex.wt,hx],rfl,rfl,by simp only[Ex.toD,Cm,B8,Cw,Cv,GB,Am,Cy];rfl,by simp only[Ex.toD];exact Eu (BN _ rfl) ho⟩
theorem Oj(xs:List Str):Leaf 1 xs .tup1:=⟨by simp[Ex.wt],rfl,rfl,by simp only[Ex.toD,Cm,B8,Cw,Cv,GB,Am,Cy];rfl,by simp only[Ex.toD];exact Jw (BN _ rfl) (D8 _ _) (Nj (Id _ 0 [] (by decide)))⟩
theorem Oi(xs:List Str):Leaf 2 xs .tup2:=⟨by simp[Ex.wt],rfl,rfl,by simp only[Ex.toD,Cm,B8,Cw,Cv,GB,Am,Cy];rfl,by simp only[Ex.toD];exact Jw (BN _ rfl) (D8 _ _) (Eu (Id _ 0 [1] (by decide)) (Id _ 1 [1] (by decide)))⟩
theorem Oh(xs:List Str):Leaf 1 xs .univ:=⟨by simp[Ex.wt],rfl,rfl,by simp only[Ex.toD,Cm,B8,Cw,Cv,GB,Am,Cy];rfl,by simp only[Ex.toD];exact Nj (BN _ rfl)⟩
theorem Om(xs:List Str):Leaf 1 xs .none1:=⟨by simp[Ex.wt],rfl,rfl,by simp only[Ex.toD,Cm,B8,Cw,Cv,GB,Am,Cy];rfl,by simp only[Ex.toD];exact Eu (BN _ rfl) (D8 _ _)⟩
theorem On(xs:List Str):Leaf 2 xs .iden:=⟨by simp[Ex.wt],rfl,rfl,by simp only[Ex.toD,Cm,B8,Cw,Cv,GB,Am,Cy];rfl,by simp only[Ex.toD];exact Nj (BN _ rfl)⟩
def ES:String:= "_law_of_one_place"
def Do:String:= "_law_of_two_places"
def NamesOk(xs:List Str):Prop:=1<=xs.length/\xs.length<=8/\∀x∈xs,PyData.strOk x=true
theorem QD{xs:List Str}{i:Int}(h0:0<=i)(h1:i<xs.length)(h2:xs.length<=10):∃x,x∈xs/\Al (As xs) (.int i)=some (.str x):=by
 have hi:i.toNat<xs.length:=by omega
 refine⟨xs[i.toNat],List.getElem_mem hi,?_⟩
 have e:Al (As xs) (.int i)=Hi (xs.map D.str) i:=rfl
 rw[e];unfold Hi
 rw[BH (by omega) (by omega),if_neg (by decide),if_pos h0,List.getElem?_map,getElem?_eq_getElem hi];rfl
theorem La{xs:List Str}(hx:NamesOk xs){cells:List Int}(hc:cells.length<=100){s v:Int}(hs:0<=s)(hs2:s<=9990)(hv:0<=v)(hv2:v<4):
 ∃e s',s<=s'/\s'<=s+1/\Leaf 1 xs e/\∀(dp:Int) M,Go (M+70) ((AU ES).body.drop 1) (Ce ES dp xs v) (cells,s) e.toD (cells,s'):=by
 have:v=0\/v=1\/v=2\/v=3:=by omega
 rcases this with rfl|rfl|rfl|rfl
 ·exact⟨.rel 0,s,by omega,by omega,Ol xs,λdp M=>Uq M⟩
 ·obtain⟨i,h0,h1,hd⟩:=BL cells s xs.length hs (by omega) hc (by have:=hx.1;omega) (by have:=hx.2.1;omega)
  obtain⟨x,hm,hi⟩:=QD h0 h1 (by have:=hx.2.1;omega)
  exact⟨.var x,s+1,by omega,by omega,P7 hm (hx.2.2 x hm),λdp M=>Up (by have:=hx.2.1;omega) hi hd M⟩
 ·exact⟨.tup1,s,by omega,by omega,Oj xs,λdp M=>Uo M⟩
 ·obtain⟨i,h0,h1,hd⟩:=BL cells s 2 hs (by omega) hc (by omega) (by omega)
  have:i=0\/i=1:=by omega
  rcases this with rfl|rfl
  ·exact⟨.univ,s+1,by omega,by omega,Oh xs,λdp M=>TZ hd M⟩
  ·exact⟨.none1,s+1,by omega,by omega,Om xs,λdp M=>TY hd M⟩
theorem LH{xs:List Str}{cells:List Int}(hc:cells.length<=100){s v:Int}(hs:0<=s)(hs2:s<=9990)(hv:0<=v)(hv2:v<2):
 ∃e s',s<=s'/\s'<=s+1/\Leaf 2 xs e/\∀(dp:Int) M,Go (M+70) ((AU Do).body.drop 1) (Ce Do dp xs v) (cells,s) e.toD (cells,s'):=by
 have:v=0\/v=1:=by omega
 rcases this with rfl|rfl
 ·exact⟨.rel 1,s,by omega,by omega,Ok xs,λdp M=>UL M⟩
 ·obtain⟨i,h0,h1,hd⟩:=BL cells s 2 hs (by omega) hc (by omega) (by omega)
  have:i=0\/i=1:=by omega
  rcases this with rfl|rfl
  ·exact⟨.iden,s+1,by omega,by omega,On xs,λdp M=>TP hd M⟩
  ·exact⟨.tup2,s+1,by omega,by omega,Oi xs,λdp M=>TO hd M⟩
def Fb(fn:String)(k d:Nat):Prop:=∀(xs:List Str)(cells:List Int)(s:Int),NamesOk xs->xs.length+2*d<=8->cells.length<=100->0<=s->s+MY d<=9980->
 ∃e s',s<=s'/\s'<=s+MY d/\Gen k d xs e/\∀N,80+50*d<=N->AQ N (Str.ofString fn) [.feed,.int ((d:Nat):Int),As xs] (cells,s)=some (e.toD,(cells,s'))
theorem gt_int(a b:Int):Av .Gt (.int a) (.int b)=some (decide (b<a)):=rfl
theorem Tn(fn:String)(w:Int)(cells:List Int)(s s1 s2 v:Int)(xs:List Str)(X:D)(hfn:fn=ES/\w=4\/fn=Do/\w=2)(hd:∀n,AQ (n+40) (Str.ofString "_law_draw") [.feed,.int w] (cells,s)=some (.int v,(cells,s1)))(hg:∀(dp:Int) M,Go (M+70) ((AU fn).body.drop 1) (Ce fn dp xs v) (cells,s1) X (cells,s2)):
 ∀N,80+50*0<=N->AQ N (Str.ofString fn) [.feed,.int ((0:Nat):Int),As xs] (cells,s)=some (X,(cells,s2)):=by
 intro N hN
 obtain⟨M,rfl⟩:∃M,N=M+80:=⟨N -80,by omega⟩
 rcases hfn with ⟨rfl,rfl⟩|⟨rfl,rfl⟩
 ·exact A4 rfl rfl (AM (ρ₁:=Ce ES ((0:Nat):Int) xs v) (AP (AI rfl (Bm (c:=false) (AJ (AA rfl) AG (gt_int _ _)) (AE rfl rfl rfl (AN (AB rfl (AA rfl) (AB rfl AG AH)) rfl rfl rfl (hd _) rfl)))) rfl) (hg _ (M+8)))
 ·exact A4 rfl rfl (AM (ρ₁:=Ce Do ((0:Nat):Int) xs v) (AP (AI rfl (Bm (c:=false) (AJ (AA rfl) AG (gt_int _ _)) (AE rfl rfl rfl (AN (AB rfl (AA rfl) (AB rfl AG AH)) rfl rfl rfl (hd _) rfl)))) rfl) (hg _ (M+8)))
theorem E6(fn:String)(d:Nat)(cells:List Int)(s s1 s2 v:Int)(xs:List Str)(X:D)(hfn:fn=ES\/fn=Do)(hd:∀n,AQ (n+40) (Str.ofString "_law_draw") [.feed,.int 10] (cells,s)=some (.int v,(cells,s1)))(hg:∀M,Go (M+50*d+128) ((AU fn).body.drop 1) (Ce fn ((d+1:Nat):Int) xs v) (cells,s1) X (cells,s2)):
 ∀N,80+50*(d+1)<=N->AQ N (Str.ofString fn) [.feed,.int ((d+1:Nat):Int),As xs] (cells,s)=some (X,(cells,s2)):=by
 intro N hN
 obtain⟨M,rfl⟩:∃M,N=M+50*d+130:=⟨N -50*d -130,by omega⟩
 have hgt:Av .Gt (.int ((d+1:Nat):Int)) (.int 0)=some true:=by
  rw[gt_int,decide_eq_true (by omega)]
 rcases hfn with rfl|rfl
 ·exact A4 rfl rfl (AM (ρ₁:=Ce ES ((d+1:Nat):Int) xs v) (AP (AI rfl (Bm (c:=true) (AJ (AA rfl) AG hgt) (AE rfl rfl rfl (AN (AB rfl (AA rfl) (AB rfl AG AH)) rfl rfl rfl (hd _) rfl)))) rfl) (hg M))
 ·exact A4 rfl rfl (AM (ρ₁:=Ce Do ((d+1:Nat):Int) xs v) (AP (AI rfl (Bm (c:=true) (AJ (AA rfl) AG hgt) (AE rfl rfl rfl (AN (AB rfl (AA rfl) (AB rfl AG AH)) rfl rfl rfl (hd _) rfl)))) rfl) (hg M))
theorem GP:Fb ES 1 0:=λxs cells s hx hx2 hc hs hs2=>by
 simp only[MY] at hs2⊢
 obtain⟨v,h0,h1,hd⟩:=BL cells s 4 hs (by omega) hc (by omega) (by omega)
 obtain⟨e,s',g1,g2,g3,g4⟩:=La hx hc (s:=s+1) (by omega) (by omega) h0 h1
 exact⟨e,s',by omega,by omega,g3.gen 0,Tn ES 4 cells s (s+1) s' v xs e.toD (.inl ⟨rfl,rfl⟩) hd g4⟩
theorem LG:Fb Do 2 0:=λxs cells s hx hx2 hc hs hs2=>by
 simp only[MY] at hs2⊢
 obtain⟨v,h0,h1,hd⟩:=BL cells s 2 hs (by omega) hc (by omega) (by omega)
 obtain⟨e,s',g1,g2,g3,g4⟩:=LH hc (s:=s+1) (by omega) (by omega) h0 h1
 exact⟨e,s',by omega,by omega,g3.gen 0,Tn Do 2 cells s (s+1) s' v xs e.toD (.inr ⟨rfl,rfl⟩) hd g4⟩
theorem NamesOk.snoc{xs:List Str}(h:NamesOk xs)(hl:xs.length<=7):NamesOk (xs++[sY]):=
 ⟨by simp,by simp;omega,λx hx=>by
   rcases mem_append.mp hx with h'|h'
   ·exact h.2.2 x h'
   ·rw[mem_singleton.mp h'];exact Fi (s:= "y") rfl⟩
theorem NamesOk.snoc2{xs:List Str}(h:NamesOk xs)(hl:xs.length<=6):NamesOk (xs++[sY,sZ]):=
 ⟨by simp,by simp;omega,λx hx=>by
   rcases mem_append.mp hx with h'|h'
   ·exact h.2.2 x h'
   ·simp only[mem_cons,List.mem_nil_iff,or_false] at h'
    rcases h' with rfl|rfl
    ·exact Fi (s:= "y") rfl
    ·exact Fi (s:= "z") rfl⟩
theorem Ix(xs:List Str)(cells:List Int)(s:Int)(hx:NamesOk xs)(hc:cells.length<=100)(hs:0<=s)(hs2:s+15<=9980):
 ∃f s',s<=s'/\s'<=s+11/\GenF xs f/\∀N,100<=N->AQ N (Str.ofString "_law_formula") [.feed,As xs] (cells,s)=some (f.toD,(cells,s')):=by
 obtain⟨a,s1,a1,a2,ga,ha⟩:=GP xs cells s hx (by have:=hx.2.1;omega) hc hs (by simp only[MY];omega)
 simp only[MY] at a2
 obtain⟨v,v0,v1,hd⟩:=BL cells s1 2 (by omega) (by omega) hc (by omega) (by omega)
 have na:=ga.nw
 simp only[wB] at na
 have fa:=ga.fr
 simp only[L9] at fa
 have:v=0\/v=1:=by omega
 rcases this with rfl|rfl
 ·obtain⟨c,s2,c1,c2,gc,hc'⟩:=GP xs cells (s1+1) hx (by have:=hx.2.1;omega) hc (by omega) (by simp only[MY];omega)
  simp only[MY] at c2
  have nc:=gc.nw
  simp only[wB] at nc
  have fc:=gc.fr
  simp only[L9] at fc
  refine⟨.inn a c,s2,by omega,by omega,⟨by unfold Fm.wt;exact⟨ga.wt,gc.wt⟩,by simp only[Fm.fr];omega,?_,?_⟩,?_⟩
  ·simp only[Fm.toD,Cm,B8,Cw,Cv,Am,Cy,length_append,length_cons,length_nil];omega
  ·simp only[Fm.toD];exact Jw (BN _ rfl) ga.nd gc.nd
  ·intro N hN
   obtain⟨M,rfl⟩:∃M,N=M+100:=⟨N -100,by omega⟩
   exact A4 rfl rfl (AM (AP (AI rfl (AE rfl rfl rfl (AN (AB rfl (AA rfl) (AB rfl AG (AB rfl (AA rfl) AH))) rfl rfl rfl (ha _ (by omega)) rfl))) rfl)
    (AK (AS (Bm (c:=true) (AJ (AE rfl rfl rfl (AN (AB rfl (AA rfl) (AB rfl AG AH)) rfl rfl rfl (hd _) rfl)) AG (Jb rfl)) (Aj (AF rfl AY (AF rfl (AA rfl) (AF rfl (AE rfl rfl rfl (AN (AB rfl (AA rfl) (AB rfl AG (AB rfl (AA rfl) AH))) rfl rfl rfl (hc' _ (by omega)) rfl)) AR))) (by simp))))))
 ·refine⟨.some a,s1+1,by omega,by omega,⟨by unfold Fm.wt;exact ga.wt,by simp only[Fm.fr];omega,?_,?_⟩,?_⟩
  ·simp only[Fm.toD,Cm,B8,Cw,Cv,Am,Cy,length_append,length_cons,length_nil];omega
  ·simp only[Fm.toD];exact Eu (BN _ rfl) ga.nd
  ·intro N hN
   obtain⟨M,rfl⟩:∃M,N=M+100:=⟨N -100,by omega⟩
   exact A4 rfl rfl (AM (AP (AI rfl (AE rfl rfl rfl (AN (AB rfl (AA rfl) (AB rfl AG (AB rfl (AA rfl) AH))) rfl rfl rfl (ha _ (by omega)) rfl))) rfl)
    (AK (AS (Bm (c:=false) (AJ (AE rfl rfl rfl (AN (AB rfl (AA rfl) (AB rfl AG AH)) rfl rfl rfl (hd _) rfl)) AG (CR rfl)) (Aj (AF rfl AY (AF rfl (AA rfl) AR)) (by simp))))))
theorem Nd(s:Nat)(h:s<4):Al Kd (.int (s:Int))=some (Am (Jl s))/\litS.contains (Jl s)=true:=by
 have:s=0\/s=1\/s=2\/s=3:=by omega
 rcases this with rfl|rfl|rfl|rfl
 ·exact⟨D4 _ _,rfl⟩
 ·exact⟨JQ _ _ _,rfl⟩
 ·exact⟨Qj _ _ _ _,rfl⟩
 ·exact⟨U2 _ _ _ _ _,rfl⟩
section
variable {xs:List Str}{d k j:Nat}{a c:Ex}{f:Fm}
theorem Dx{e:Ex}{s:String}(hs:litS.contains s=true)(he:e.toD= .tup [Am s,a.toD,c.toD])(hw:e.wt k xs)(hfu:e.fu=max a.fu c.fu+60)(hfr:e.fr=max a.fr c.fr+60){x1 x2:List Str}(ga:Gen j d x1 a){j2:Nat}(gc:Gen j2 d x2 c):Gen k (d+1) xs e:=
 ⟨hw,by have:=ga.fu;have:=gc.fu;omega,by have:=ga.fr;have:=gc.fr;have:=Fz d;simp only[L9];omega,by
   rw[he]
   have:=ga.nw;have:=gc.nw
   simp only[Cm,B8,Cw,Cv,Am,Cy,length_append,length_cons,length_nil,wB];omega,by
   rw[he]
   exact CL (Jw (BN _ hs) ga.nd gc.nd) (by omega)⟩
theorem ND{e:Ex}{s:String}(hs:litS.contains s=true)(he:e.toD= .tup [Am s,a.toD])(hw:e.wt k xs)(hfu:e.fu=a.fu+60)(hfr:e.fr=a.fr+60){x1:List Str}(ga:Gen j d x1 a):Gen k (d+1) xs e:=
 ⟨hw,by have:=ga.fu;omega,by have:=ga.fr;have:=Fz d;simp only[L9];omega,by
   rw[he]
   have:=ga.nw;have:=Jg d
   simp only[Cm,B8,Cw,Cv,Am,Cy,length_append,length_cons,length_nil,wB];omega,by
   rw[he]
   exact CL (Eu (BN _ hs) ga.nd) (by omega)⟩
theorem NE(ga:Gen 1 d xs a)(gc:Gen 1 d xs c)(gf:GenF xs f):Gen 1 (d+1) xs (.either f a c):=
 ⟨by unfold Ex.wt;exact⟨rfl,gf.wt,ga.wt,gc.wt⟩,by have:=ga.fu;have:=gc.fu;simp only[Ex.fu];omega,by have:=ga.fr;have:=gc.fr;have:=gf.fr;have:=Fz d;have:L9 0=100:=rfl;simp only[Ex.fr,L9];omega,by
   have:=ga.nw;have:=gc.nw;have:=gf.nw
   simp only[Ex.toD,Cm,B8,Cw,Cv,Am,Cy,length_append,length_cons,length_nil,wB];omega,by
   simp only[Ex.toD]
   exact CL (Tb (BN _ rfl) (CL gf.nd (j:=4+3*d) (by omega)) (CL ga.nd (by omega)) (CL gc.nd (by omega))) (by omega)⟩
theorem Ox(ga:Gen 1 d xs a)(gf:GenF (xs++[sY]) f):Gen 1 (d+1) xs (.comp1 a f):=
 ⟨by unfold Ex.wt;exact⟨rfl,ga.wt,gf.wt⟩,by have:=ga.fu;simp only[Ex.fu];omega,by have:=ga.fr;have:=gf.fr;have:=Fz d;have:L9 0=100:=rfl;simp only[Ex.fr,L9];omega,by
   have:=ga.nw;have:=gf.nw;have:=Jg d
   simp only[Ex.toD,Cm,B8,Cw,Cv,Am,Cy,Rz,length_append,length_cons,length_nil,wB];omega,by
   simp only[Ex.toD]
   exact CL (Jw (BN (3+3*d+1+1) (s:= "comp") rfl) (Nj (Eu (BN _ (s:= "y") rfl) ga.nd)) (CL gf.nd (by omega))) (by omega)⟩
theorem Ow(ga:Gen 1 0 xs a)(gc:Gen 1 d (xs++[sY]) c)(gf:GenF (xs++[sY,sZ]) f):Gen 2 (d+1) xs (.comp2 a c f):=
 ⟨by unfold Ex.wt;exact⟨rfl,ga.wt,gc.wt,gf.wt⟩,by have:=ga.fu;have:=gc.fu;simp only[Ex.fu];omega,by have:=ga.fr;have:=gc.fr;have:=gf.fr;have:=Fz d;have:L9 0=100:=rfl;simp only[Ex.fr,L9];omega,by
   have:=ga.nw;have:=gc.nw;have:=gf.nw;have:=Jg d
   simp only[Ex.toD,Cm,B8,Cw,Cv,Am,Cy,Rz,length_append,length_cons,length_nil,wB] at this⊢;simp only[wB] at*;omega,by
   simp only[Ex.toD]
   exact CL (Jw (BN (3+3*d+1+1) (s:= "comp") rfl) (Eu (Eu (BN _ (s:= "y") rfl) (CL ga.nd (j:=3+3*d) (by omega))) (Eu (BN _ (s:= "z") rfl) gc.nd)) (CL gf.nd (by omega))) (by omega)⟩
end
theorem Pn(d:Nat)(hd:d<=8)(I1:Fb ES 1 d)(I2:Fb Do 2 d):Fb ES 1 (d+1):=λxs cells s hx hx2 hc hs hs2=>by
 have hb:=Mj d
 have hl8:xs.length<=10:=by have:=hx.2.1;omega
 simp only[MY] at hs2⊢
 obtain⟨v,v0,v1,hdr⟩:=BL cells s 10 hs (by omega) hc (by omega) (by omega)
 by_cases h4:v<4
 ·obtain⟨e,s',g1,g2,g3,g4⟩:=La hx hc (s:=s+1) (by omega) (by omega) v0 h4
  exact⟨e,s',by omega,by omega,g3.gen _,E6 ES d cells s (s+1) s' v xs e.toD (.inl rfl) hdr λM=>by
   have:=g4 ((d+1:Nat):Int) (M+50*d+58)
   exact this⟩
 ·have:v=4\/v=5\/v=6\/v=7\/v=8\/v=9:=by omega
  rcases this with rfl|rfl|rfl|rfl|h89
  ·obtain⟨a,s1,a1,a2,ga,ha⟩:=I1 xs cells (s+1) hx (by omega) hc (by omega) (by omega)
   obtain⟨c,s2,c1,c2,gc,hc'⟩:=I2 xs cells s1 hx (by omega) hc (by omega) (by omega)
   exact⟨.join a c,s2,by omega,by omega,Dx (s:= "join") rfl rfl (by unfold Ex.wt;exact .inl ⟨rfl,.inl ⟨ga.wt,gc.wt⟩⟩) rfl rfl ga gc,E6 ES d cells s (s+1) s2 4 xs _ (.inl rfl) hdr (Un (by omega) hl8 ha hc')⟩
  ·obtain⟨a,s1,a1,a2,ga,ha⟩:=I2 xs cells (s+1) hx (by omega) hc (by omega) (by omega)
   obtain⟨c,s2,c1,c2,gc,hc'⟩:=I1 xs cells s1 hx (by omega) hc (by omega) (by omega)
   exact⟨.join a c,s2,by omega,by omega,Dx (s:= "join") rfl rfl (by unfold Ex.wt;exact .inl ⟨rfl,.inr ⟨ga.wt,gc.wt⟩⟩) rfl rfl ga gc,E6 ES d cells s (s+1) s2 5 xs _ (.inl rfl) hdr (Um (by omega) hl8 ha hc')⟩
  ·obtain⟨a,s1,a1,a2,ga,ha⟩:=I1 xs cells (s+1) hx (by omega) hc (by omega) (by omega)
   obtain⟨f,s2,f1,f2,gf,hf⟩:=Ix (xs++[sY]) cells s1 (hx.snoc (by omega)) hc (by omega) (by omega)
   exact⟨.comp1 a f,s2,by omega,by omega,Ox ga gf,E6 ES d cells s (s+1) s2 6 xs _ (.inl rfl) hdr (Ul (by omega) hl8 ha hf)⟩
  ·obtain⟨a,s1,a1,a2,ga,ha⟩:=I1 xs cells (s+1) hx (by omega) hc (by omega) (by omega)
   obtain⟨c,s2,c1,c2,gc,hc'⟩:=I1 xs cells s1 hx (by omega) hc (by omega) (by omega)
   obtain⟨f,s3,f1,f2,gf,hf⟩:=Ix xs cells s2 hx hc (by omega) (by omega)
   exact⟨.either f a c,s3,by omega,by omega,NE ga gc gf,E6 ES d cells s (s+1) s3 7 xs _ (.inl rfl) hdr (Uk (by omega) hl8 ha hc' hf)⟩
  ·obtain⟨w,w0,w1,hw⟩:=BL cells (s+1) 4 (by omega) (by omega) hc (by omega) (by omega)
   obtain⟨i,rfl⟩:∃i:Nat,w=(i:Int):=⟨w.toNat,by omega⟩
   obtain⟨hp,hlit⟩:=Nd i (by omega)
   obtain⟨a,s1,a1,a2,ga,ha⟩:=I1 xs cells (s+1+1) hx (by omega) hc (by omega) (by omega)
   obtain⟨c,s2,c1,c2,gc,hc'⟩:=I1 xs cells s1 hx (by omega) hc (by omega) (by omega)
   have hg:Gen 1 (d+1) xs (.sign i a c):=Dx hlit rfl (by unfold Ex.wt;exact⟨by omega,.inl rfl,ga.wt,gc.wt⟩) rfl rfl ga gc
   rcases h89 with rfl|rfl
   ·exact⟨.sign i a c,s2,by omega,by omega,hg,E6 ES d cells s (s+1) s2 8 xs _ (.inl rfl) hdr (Uj (by omega) hl8 hp hw ha hc')⟩
   ·exact⟨.sign i a c,s2,by omega,by omega,hg,E6 ES d cells s (s+1) s2 9 xs _ (.inl rfl) hdr (Ui (by omega) hl8 hp hw ha hc')⟩
theorem PQ(d:Nat)(hd:d<=8)(I1:Fb ES 1 d)(I2:Fb Do 2 d):Fb Do 2 (d+1):=λxs cells s hx hx2 hc hs hs2=>by
 have hb:=Mj d
 have hl8:xs.length<=10:=by have:=hx.2.1;omega
 simp only[MY] at hs2⊢
 have z5:MY 0=5:=rfl
 obtain⟨v,v0,v1,hdr⟩:=BL cells s 10 hs (by omega) hc (by omega) (by omega)
 by_cases h4:v<2
 ·obtain⟨e,s',g1,g2,g3,g4⟩:=LH hc (xs:=xs) (s:=s+1) (by omega) (by omega) v0 h4
  exact⟨e,s',by omega,by omega,g3.gen _,E6 Do d cells s (s+1) s' v xs e.toD (.inr rfl) hdr λM=>by
   have:=g4 ((d+1:Nat):Int) (M+50*d+58)
   exact this⟩
 ·have:v=2\/v=3\/v=4\/v=5\/v=6\/v=7\/v=8\/v=9:=by omega
  rcases this with rfl|rfl|rfl|rfl|rfl|rfl|rfl|rfl
  ·obtain⟨a,s1,a1,a2,ga,ha⟩:=I2 xs cells (s+1) hx (by omega) hc (by omega) (by omega)
   exact⟨.turn a,s1,by omega,by omega,ND (s:= "turn") rfl rfl (by unfold Ex.wt;exact⟨rfl,ga.wt⟩) rfl rfl ga,E6 Do d cells s (s+1) s1 2 xs _ (.inr rfl) hdr (UK (by omega) hl8 ha)⟩
  ·obtain⟨a,s1,a1,a2,ga,ha⟩:=I2 xs cells (s+1) hx (by omega) hc (by omega) (by omega)
   exact⟨.clo a,s1,by omega,by omega,ND (s:= "closure") rfl rfl (by unfold Ex.wt;exact⟨rfl,ga.wt⟩) rfl rfl ga,E6 Do d cells s (s+1) s1 3 xs _ (.inr rfl) hdr (UJ (by omega) hl8 ha)⟩
  ·obtain⟨a,s1,a1,a2,ga,ha⟩:=I2 xs cells (s+1) hx (by omega) hc (by omega) (by omega)
   exact⟨.star a,s1,by omega,by omega,ND (s:= "star") rfl rfl (by unfold Ex.wt;exact⟨rfl,ga.wt⟩) rfl rfl ga,E6 Do d cells s (s+1) s1 4 xs _ (.inr rfl) hdr (UI (by omega) hl8 ha)⟩
  ·obtain⟨a,s1,a1,a2,ga,ha⟩:=I1 xs cells (s+1) hx (by omega) hc (by omega) (by omega)
   obtain⟨c,s2,c1,c2,gc,hc'⟩:=I1 xs cells s1 hx (by omega) hc (by omega) (by omega)
   exact⟨.prod a c,s2,by omega,by omega,Dx (s:= "product") rfl rfl (by unfold Ex.wt;exact⟨rfl,ga.wt,gc.wt⟩) rfl rfl ga gc,E6 Do d cells s (s+1) s2 5 xs _ (.inr rfl) hdr (UH (by omega) hl8 ha hc')⟩
  ·obtain⟨a,s1,a1,a2,ga,ha⟩:=I2 xs cells (s+1) hx (by omega) hc (by omega) (by omega)
   obtain⟨c,s2,c1,c2,gc,hc'⟩:=LG xs cells s1 hx (by omega) hc (by omega) (by omega)
   have gc':Gen 2 d xs c:=⟨gc.wt,by have:=gc.fu;omega,by have:=gc.fr;have:=Fz d;have:L9 0=100:=rfl;omega,by have:=gc.nw;have:=Jg d;have:wB 0=3:=rfl;omega,CL gc.nd (by omega)⟩
   exact⟨.join a c,s2,by omega,by omega,Dx (s:= "join") rfl rfl (by unfold Ex.wt;exact .inr ⟨rfl,ga.wt,gc.wt⟩) rfl rfl ga gc',E6 Do d cells s (s+1) s2 6 xs _ (.inr rfl) hdr (UG (by omega) hl8 ha hc')⟩
  ·obtain⟨a,s1,a1,a2,ga,ha⟩:=I1 xs cells (s+1) hx (by omega) hc (by omega) (by omega)
   obtain⟨c,s2,c1,c2,gc,hc'⟩:=I2 xs cells s1 hx (by omega) hc (by omega) (by omega)
   obtain⟨w,w0,w1,hw⟩:=BL cells s2 2 (by omega) (by omega) hc (by omega) (by omega)
   have:w=0\/w=1:=by omega
   rcases this with rfl|rfl
   ·exact⟨.ahead a c,s2+1,by omega,by omega,Dx (s:= "ahead") rfl rfl (by unfold Ex.wt;exact⟨rfl,ga.wt,gc.wt⟩) rfl rfl ga gc,E6 Do d cells s (s+1) (s2+1) 7 xs _ (.inr rfl) hdr (TN (by omega) hl8 ha hc' hw)⟩
   ·exact⟨.behind c a,s2+1,by omega,by omega,Dx (s:= "behind") rfl rfl (by unfold Ex.wt;exact⟨rfl,gc.wt,ga.wt⟩) rfl rfl gc ga,E6 Do d cells s (s+1) (s2+1) 7 xs _ (.inr rfl) hdr (TL (by omega) hl8 ha hc' hw)⟩
  ·obtain⟨a,s1,a1,a2,ga,ha⟩:=GP xs cells (s+1) hx (by omega) hc (by omega) (by omega)
   obtain⟨c,s2,c1,c2,gc,hc'⟩:=I1 (xs++[sY]) cells s1 (hx.snoc (by omega)) (by simp;omega) hc (by omega) (by omega)
   obtain⟨f,s3,f1,f2,gf,hf⟩:=Ix (xs++[sY,sZ]) cells s2 (hx.snoc2 (by omega)) hc (by omega) (by omega)
   exact⟨.comp2 a c f,s3,by omega,by omega,Ow ga gc gf,E6 Do d cells s (s+1) s3 8 xs _ (.inr rfl) hdr (UE (by omega) hl8 ha hc' hf)⟩
  ·obtain⟨w,w0,w1,hw⟩:=BL cells (s+1) 4 (by omega) (by omega) hc (by omega) (by omega)
   obtain⟨i,rfl⟩:∃i:Nat,w=(i:Int):=⟨w.toNat,by omega⟩
   obtain⟨hp,hlit⟩:=Nd i (by omega)
   obtain⟨a,s1,a1,a2,ga,ha⟩:=I2 xs cells (s+1+1) hx (by omega) hc (by omega) (by omega)
   obtain⟨c,s2,c1,c2,gc,hc'⟩:=I2 xs cells s1 hx (by omega) hc (by omega) (by omega)
   have hg:Gen 2 (d+1) xs (.sign i a c):=Dx hlit rfl (by unfold Ex.wt;exact⟨by omega,.inr rfl,ga.wt,gc.wt⟩) rfl rfl ga gc
   exact⟨.sign i a c,s2,by omega,by omega,hg,E6 Do d cells s (s+1) s2 9 xs _ (.inr rfl) hdr (UD (by omega) hl8 hp hw ha hc')⟩
theorem gens:∀d,d<=5->Fb ES 1 d/\Fb Do 2 d
 |0,_=>⟨GP,LG⟩
 |d+1,h=>by
  obtain⟨h1,h2⟩:=gens d (by omega)
  exact⟨Pn d (by omega) h1 h2,PQ d (by omega) h1 h2⟩
def Nn(acc:List (List AO))(one:AO):List (List AO):=acc++acc.map λlot=>lot++[one]
def Bi(s:List AO):List (List AO):=s.foldl Nn [[]]
def P3(ls:List (List AO)):D:= .list (ls.map Ah)
theorem HE(s:List AO)(r:AO):Bi (s++[r])=Nn (Bi s) r:=by unfold Bi;rw[List.foldl_append];rfl
theorem Ln:∀(s acc:List AO),(Bi (acc++s)).length=(Bi acc).length*2^s.length
 |[],acc=>by simp
 |r::s,acc=>by
  have:=Ln s (acc++[r])
  rw[List.append_assoc] at this
  rw[show acc++r::s=acc++([r]++s) from rfl,this,HE]
  unfold Nn
  rw[length_append,length_map,length_cons,Nat.pow_succ]
  have e:(Bi acc).length+(Bi acc).length=(Bi acc).length*2:=by omega
  rw[e,Nat.mul_assoc,Nat.mul_comm 2]
theorem Lm:∀(s acc:List AO),(∀l∈Bi acc,l.Sublist acc)->∀l∈Bi (acc++s),l.Sublist (acc++s)
 |[],acc,h,l,hl=>by rw[append_nil] at hl⊢;exact h l hl
 |r::s,acc,h,l,hl=>by
  have:=Lm s (acc++[r]) (λq hq=>by
   rw[HE] at hq
   unfold Nn at hq
   rcases mem_append.mp hq with hq|hq
   ·exact(h q hq).trans (List.sublist_append_left ..)
   ·obtain⟨p,hp,rfl⟩:=mem_map.mp hq
    exact List.Sublist.append (h p hp) (List.Sublist.refl _)) l (by simpa using hl)
  simpa using this
theorem D9{s l:List AO}(h:l∈Bi s):l.Sublist s:=Lm s [] (λq hq=>by
 simp[Bi] at hq;subst hq;exact List.Sublist.refl _) l h
theorem Nm{s:List AO}(h:s.length<=2):(Bi s).length<=4:=by
 have:=Ln s []
 rw[List.nil_append] at this
 have h1:(Bi []).length=1:=rfl
 rw[this,h1]
 have h2:2^s.length<=2^2:=Nat.pow_le_pow_right (by omega) h
 omega
theorem Oe{n:Nat}{σ:St}(s:List AO)(h:s.length<=2):AQ (n+40) (Str.ofString "_law_lots") [.list (s.map AD)] σ=some (P3 (Bi s),σ):=by
 have e0:fnTab.lookup (Str.ofString "_law_lots")=some ⟨(AU "_law_lots").params,(AU "_law_lots").names,(AU "_law_lots").body⟩:=rfl
 refine' A4 e0 rfl (AM (ρ₁:=⟨(AU "_law_lots").names,[(Str.ofString "some",.d (.list (s.map AD))),(Str.ofString "found",.d (P3 (Bi [])))],[]⟩) (AP (AI rfl (BU (AF rfl (BU AR (by simp)) AR) (by simp))) rfl) (AM (DN rfl (AT rfl (AA rfl) rfl) (H8 (λdone=>[(Str.ofString "some",.d (.list (s.map AD))),(Str.ofString "found",.d (P3 (Bi done)))]) (λ_=>[]) (λ_=>σ) s λdone r rest q=> ?step)) (AK (AS (AA rfl)))))
 case step=>
  have hd:done.length<=1:=by have:=congrArg List.length q;simp at this;omega
  have hl:=Nm (s:=done) (by omega)
  rw[HE]
  have ad:=JJ ((Bi done).map Ah) (((Bi done).map λlot=>lot++[r]).map Ah) (by simp;omega)
  rw[<-map_append] at ad
  have e:((Bi done).map λlot=>lot++[r]).map Ah=(Bi done).map λlot=>Ah (lot++[r]):=by rw[map_map];rfl
  rw[e] at ad
  have lo:∀lot∈Bi done,CN .Add (Ah lot) (.list [AD r])=some (Ah (lot++[r])):=λlot hlot=>by
   have:=(D9 hlot).length_le
   exact Ck lot [r] (by simp;omega)
  refine' BT rfl (AW (AP (AI rfl (Ak (AA rfl) (Ar rfl (AT rfl (AA rfl) rfl) rfl (A5 (λlot=>Ah (lot++[r])) (Bi done) λlot hlot=>CH rfl rfl rfl (Ak (AA rfl) (BU (AF rfl (AA rfl) AR) (by simp)) (lo lot hlot)) rfl) (by simp;omega)) ad)) rfl) BC) ?bk
  case bk=>rfl
theorem Dg{α S:Type}{f:D->S->Option (Fl×S)}{φ:α->D}{s:S}:∀(l:List α),(∀a∈l,f (φ a) s=some (.next,s))->EG f (l.map φ) s=some (.next,s)
 |[],_=>rfl
 |a::l,h=>by
  rw[map_cons]
  unfold EG
  rw[h a (mem_cons_self ..)]
  simp only[bind_eq_bind,bind_some]
  exact Dg l λb hb=>h b (mem_cons_of_mem _ hb)
theorem VT{a b:Int}(h:a=b):Av .NotEq (.int a) (.int b)=some false:=by
 have e:Av .NotEq (.int a) (.int b)=(Av .Eq (.int a) (.int b)).map (!·):=rfl
 rw[e,I0,decide_eq_true h];rfl
theorem Qz(d:Nat)(h:d<=1000):CN .Sub (.int ((d+1:Nat):Int)) (.int 1)=some (.int (d:Int)):=by
 rw[GH (BH (by omega) (by omega)) (by decide)]
 have:((d+1:Nat):Int)-1=(d:Int):=by omega
 rw[this]
theorem le_int(a b:Int):Av .LtE (.int a) (.int b)=some (decide (a<=b)):=rfl
theorem RO(a b:AO):Av .Lt (AD a) (AD b)=some (An a b):=by
 have e:Av .Lt (AD a) (AD b)=(do some (An (<-E2 (a.map .int)) (<-E2 (b.map .int)))):=rfl
 rw[e,FK,FK];rfl
theorem J7{rs:List AO}{i:Nat}(h:i<rs.length)(hl:rs.length<=1000):Al (.tup (rs.map AD)) (.int (i:Int))=some (AD rs[i]):=by
 have e:Al (.tup (rs.map AD)) (.int (i:Int))=Hi (rs.map AD) (i:Int):=rfl
 rw[e];unfold Hi
 rw[BH (by omega) (by omega),if_neg (by decide),if_pos (by omega),List.getElem?_map,Int.toNat_natCast,getElem?_eq_getElem h];rfl
section
variable {n:Nat}{σ σ₁ σ₂:St}{ρ ρ₁ ρ₂:Ev}{p pos ap cp:Pos}{e:Expr}
def EO(b:Bd)(bs:List D)(ns:List (Key×D))(x:Str)(k:Int)(rs:List AO)(l:List (Str×V)):Ev:=⟨(AU "Bounds.want_set").names,(Str.ofString "self",.d (.bnds b.uniD bs ns))::(Str.ofString "name",.d (.str x))::(Str.ofString "arity",.d (.int k))::(Str.ofString "some",.d (.tup (rs.map AD)))::l,[]⟩
theorem OE{b:Bd}{bs:List D}{ns:List (Key×D)}{x:Str}{k:Int}{rs:List AO}{r:AO}{a:Int}(hm:b.m<=3)(h0:0<=a)(h1:a<(b.m:Int)):
 (do let ρ'<-JR (Iy (DI (CA "Bounds.want_set" 1)|>.getD 1 default)) (.int a) (EO b bs ns x k rs [(Str.ofString "row",.d (AD r))],σ).1
     let(f,ρ'',σ'')<-Br (n+40) (DI (DI (CA "Bounds.want_set" 1)|>.getD 1 default)) ρ' (EO b bs ns x k rs [(Str.ofString "row",.d (AD r))],σ).2
     some (f,(EO b bs ns x k rs [(Str.ofString "row",.d (AD r))],σ).1.back ρ'',σ''):Option (Fl×Ev×St))=some (.next,EO b bs ns x k rs [(Str.ofString "row",.d (AD r))],σ):=by
 have hle:Av .LtE (.int 0) (.int a)=some true:=by rw[le_int,decide_eq_true h0]
 have hlt:Av .Lt (.int a) (.int (b.m:Int))=some true:=by rw[FI,decide_eq_true h1]
 refine' BT rfl (AW (F7 (c:=false) (C2 (Dn (JK (Cz rfl (Fc "int" rfl rfl rfl rfl (by simp) (AA rfl) rfl))) (λ_=>Dn (Cz rfl (Fc "bool" rfl rfl rfl rfl (by simp) (AA rfl) rfl)) (λ_=>Dn (JK (TB AG (AA rfl) hle (F8 rfl (FC rfl (AA rfl) rfl) AR rfl (FD b hm)) hlt)) (λ_=>Fd) (λq=>nomatch q)) (λq=>nomatch q)) (λq=>nomatch q))) BC) BC) ?bk
 case bk=>rfl
theorem PG{b:Bd}{bs:List D}{ns:List (Key×D)}{x:Str}{k:Nat}{rs:List AO}{r:AO}(hm:b.m<=3)(hl:r.length=k)(hk:k<=10)(ha:∀a∈r,0<=a/\a<(b.m:Int)):
 (do let ρ'<-JR (Iy (CA "Bounds.want_set" 1)) (AD r) (EO b bs ns x k rs [],σ).1
     let(f,ρ'',σ'')<-Br (n+50) (DI (CA "Bounds.want_set" 1)) ρ' (EO b bs ns x k rs [],σ).2
     some (f,(EO b bs ns x k rs [],σ).1.back ρ'',σ''):Option (Fl×Ev×St))=some (.next,EO b bs ns x k rs [],σ):=by
 have hlen:=K1 (r.map D.int) (by simp;omega)
 rw[length_map] at hlen
 refine' BT rfl (AW (F7 (c:=false) (C2 (Dn (JK (Cz rfl (Fc "tuple" rfl rfl rfl rfl (by simp) (AA rfl) rfl))) (λ_=>Dn (AJ (AE rfl rfl rfl (BJ (b:= "len") (AB rfl (AA rfl) AH) rfl rfl hlen)) (AA rfl) (VT (by omega))) (λ_=>Fd) (λq=>nomatch q)) (λq=>nomatch q))) BC)
  (AW (DN rfl (AT rfl (AA rfl) rfl) (Dg (φ:=D.int) (s:=(EO b bs ns x k rs [(Str.ofString "row",.d (AD r))],σ)) r λa h=>OE (n:=n+7) hm (ha a h).1 (ha a h).2)) BC)) ?bk
 case bk=>rfl
theorem PH{b:Bd}{bs:List D}{ns:List (Key×D)}{x:Str}{k:Int}{rs:List AO}{i:Nat}(hl:rs.length<=100)(hi:i+1<rs.length)(hs:Srt rs):
 (do let ρ'<-JR (Iy (CA "Bounds.want_set" 2)) (.int (1+(i:Int))) (EO b bs ns x k rs [],σ).1
     let(f,ρ'',σ'')<-Br (n+40) (DI (CA "Bounds.want_set" 2)) ρ' (EO b bs ns x k rs [],σ).2
     some (f,(EO b bs ns x k rs [],σ).1.back ρ'',σ''):Option (Fl×Ev×St))=some (.next,EO b bs ns x k rs [],σ):=by
 have e1:(1:Int)+(i:Int)=((i+1:Nat):Int):=by omega
 have hsub:CN .Sub (.int (1+(i:Int))) (.int 1)=some (.int (i:Int)):=by rw[e1];exact Qz i (by omega)
 have h1:=J7 (rs:=rs) (i:=i) (by omega) (by omega)
 have h2:=J7 (rs:=rs) (i:=i+1) hi (by omega)
 rw[<-e1] at h2
 have hlt:=RO rs[i] rs[i+1]
 rw[List.pairwise_iff_getElem.mp hs i (i+1) (by omega) hi (by omega)] at hlt
 refine' BT rfl (AW (F7 (c:=false) (JK (AJ (A6 rfl rfl (AA rfl) (Ak (AA rfl) AG hsub) rfl h1) (A6 rfl rfl (AA rfl) (AA rfl) rfl h2) hlt)) BC) BC) ?bk
 case bk=>rfl
end
section
variable {n:Nat}{σ σ₁ σ₂:St}{ρ ρ₁ ρ₂:Ev}{p pos ap cp:Pos}{e:Expr}
theorem Jf{b:Bd}{bs:List D}{ns:List (Key×D)}{x:Str}{k:Nat}{rs:List AO}(hm:b.m<=3)(hk:k=1\/k=2)(hr:RelOk b.m k rs):AQ (n+70) (Str.ofString "Bounds.want_set") [.bnds b.uniD bs ns,.str x,.int (k:Int),.tup (rs.map AD)] σ=some (.none,σ):=by
 have e0:fnTab.lookup (Str.ofString "Bounds.want_set")=some ⟨(AU "Bounds.want_set").params,(AU "Bounds.want_set").names,(AU "Bounds.want_set").body⟩:=rfl
 have l12:=hr.len12 hm hk
 have hlen:=K1 (rs.map AD) (by simp;omega)
 rw[length_map] at hlen
 have hit:FV (.range 1 (rs.length:Int))=some ((List.range (rs.length -1)).map λ(i:Nat)=> .int (1+(i:Int))):=by
  have h1:AZ 1=true:=by decide
  have h2:AZ (rs.length:Int)=true:=BH (by omega) (by omega)
  have h3:((rs.length:Int)-1).toNat=rs.length -1:=by omega
  simp only[FV,h1,h2,H1,Bool.and_self,if_true,h3]
 have hrg:Ag "range" [.int 1,.int (rs.length:Int)]=some (.range 1 (rs.length:Int)):=by
  have h1:AZ 1=true:=by decide
  have h2:AZ (rs.length:Int)=true:=BH (by omega) (by omega)
  simp only[Ag,h1,h2,Bool.and_self,if_true]
 refine' T6 (ρ₁:=EO b bs ns x k rs []) e0 (ρ:=EO b bs ns x k rs []) rfl (AW (ρ₁:=EO b bs ns x k rs []) (σ₁:=σ) (F7 (c:=false) (JK (b:=true) (Cz rfl (Fc "tuple" rfl rfl rfl rfl (by simp) (AA rfl) rfl))) BC)
  (AW (ρ₁:=EO b bs ns x k rs []) (σ₁:=σ) (DN rfl (AT rfl (AA rfl) (show FV (.tup (rs.map AD))=some (rs.map AD) from rfl)) (Dg (φ:=AD) (s:=(EO b bs ns x k rs [],σ)) rs λr h=>PG (n:=n+16) hm (hr.len r h) (by omega) (hr.ats r h)))
    (AW (DN rfl (AT rfl (AE rfl rfl rfl (BJ (b:= "range") (AB rfl AG (AB rfl (AE rfl rfl rfl (BJ (b:= "len") (AB rfl (AA rfl) AH) rfl rfl hlen)) AH)) rfl rfl hrg)) hit) (Dg (φ:=λ(i:Nat)=> .int (1+(i:Int))) (s:=(EO b bs ns x k rs [],σ)) (List.range (rs.length -1)) λi h=>PH (n:=n+25) (by omega) (by have:=mem_range.mp h;omega) hr.srt)) BC)))
theorem TF:FR (n+1) [] ρ σ=some (ρ,σ):=by simp only[FR]
theorem Qd{t:Expr}{bd r:List Stmt}{Y:Ev×St}(h1:Ed n t ρ σ=some (false,ρ₁,σ₁))(h2:FR n r ρ₁ σ₁=some Y):FR (n+1) (.If t bd [] pos::r) ρ σ=some Y:=by
 simp only[FR,h1,h2,bind_eq_bind,bind_some,false_eq_true,if_false]
theorem OA{x m:Str}{args:List Expr}{as:List D}{u:D}{bs:List D}{ns:List (Key×D)}{r:List Stmt}{Y:Ev×St}(h0:(m==Str.ofString "want_set" &&ap.endLine==cp.line&&decide (args.length<30))=true)(h1:Aq n (.Name x p) ρ σ=some (.bnds u bs ns,ρ₁,σ))(h2:Hn n args ρ₁ σ=some (as,ρ₂,σ))(h3:AQ n (Str.ofString "Bounds.want_set") (.bnds u bs ns::as) σ=some (.none,σ))(h4:FR n r ρ₂ σ=some Y):
 FR (n+1) (.Expr (.Call (.Attribute (.Name x p) m ap) args [] cp) pos::r) ρ σ=some Y:=by
 simp only[FR,h0,h1,h2,h3,h4,bind_eq_bind,bind_some,Bool.not_true,false_eq_true,if_false]
theorem QY{b:Bd}{bs:List D}{ns:List (Key×D)}{x:Str}{k:Nat}{lo up:List AO}(hm:b.m<=3)(hk:k=1\/k=2)(hlo:RelOk b.m k lo)(hup:RelOk b.m k up)(hsub:∀r∈lo,r∈up)(hns:Af (Key.s x) ns=none)(hnl:ns.length<1000)(hbs:bs.length<1000):
 Gb (n+80) (Str.ofString "add") b.uniD bs ns [.str x,.int (k:Int),.tup (lo.map AD),.tup (up.map AD)] σ=some (.ownB b.uniD (bs++[.tup [.str x,.int (k:Int),.tup (lo.map AD),.tup (up.map AD)]]) (ns++[(.s x,.int bs.length)]),σ):=by
 have l1:=hlo.len12 hm hk
 have l2:=hup.len12 hm hk
 have hin:Av .In (.str x) (.dict ns)=some false:=by
  have e:Av .In (.str x) (.dict ns)=(EA (.str x)).map λk=>(Af k ns).isSome:=rfl
  rw[e,show EA (.str x)=some (Key.s x) from rfl,map_some,hns];rfl
 have hlt:Av .Lt (.int (k:Int)) (.int 1)=some false:=by rw[FI,decide_eq_false (by omega)]
 have hw:decide (Az lo up=[])=true:=by
  refine decide_eq_true ?_
  unfold Az
  rw[List.filter_eq_nil_iff]
  intro r hr
  have:=hsub r hr
  simp[this]
 have wi:=λ(N:Nat)=>LC (n:=N) (σ:=σ) lo up (by omega) (by omega)
 rw[hw] at wi
 have e0:fnTab.lookup (Str.ofString "Bounds.add")=some ⟨(AU "Bounds.add").params,(AU "Bounds.add").names,(AU "Bounds.add").body⟩:=rfl
 have hgd:FR (n+79) ((AU "Bounds.add").body.take 5) ⟨(AU "Bounds.add").names,[(Str.ofString "self",.d (.bnds b.uniD bs ns)),(Str.ofString "name",.d (.str x)),(Str.ofString "arity",.d (.int (k:Int))),(Str.ofString "lower",.d (.tup (lo.map AD))),(Str.ofString "upper",.d (.tup (up.map AD)))],[]⟩ σ=some (⟨(AU "Bounds.add").names,[(Str.ofString "self",.d (.bnds b.uniD bs ns)),(Str.ofString "name",.d (.str x)),(Str.ofString "arity",.d (.int (k:Int))),(Str.ofString "lower",.d (.tup (lo.map AD))),(Str.ofString "upper",.d (.tup (up.map AD)))],[]⟩,σ):=
  Qd (AJ (AA rfl) (FC rfl (AA rfl) rfl) hin) (Qd (C2 (Dn (JK (Cz rfl (Fc "int" rfl rfl rfl rfl (by simp) (AA rfl) rfl))) (λ_=>Dn (Cz rfl (Fc "bool" rfl rfl rfl rfl (by simp) (AA rfl) rfl)) (λ_=>Dn (AJ (AA rfl) AG hlt) (λ_=>Fd) (λq=>nomatch q)) (λq=>nomatch q)) (λq=>nomatch q)))
   (OA rfl (AA rfl) (AF rfl (AA rfl) (AF rfl (AA rfl) (AF rfl (AA rfl) AR))) (Jf (n:=n+6) hm hk hlo) (OA rfl (AA rfl) (AF rfl (AA rfl) (AF rfl (AA rfl) (AF rfl (AA rfl) AR))) (Jf (n:=n+5) hm hk hup)
     (Qd (JK (b:=true) (Cz rfl (AE rfl rfl rfl (AN (AB rfl (AA rfl) (AB rfl (AA rfl) AH)) rfl rfl rfl (wi _) rfl)))) TF))))
 have c1:(Str.ofString "add" ==Str.ofString "add" &&(Af (Key.s x) ns).isNone&&decide (bs.length<1000)&&decide (ns.length<1000))=true:=by rw[hns];simp[hnl,hbs]
 have hset:Bb (AU "Bounds.add").params [.bnds b.uniD bs ns,.str x,.int (k:Int),.tup (lo.map AD),.tup (up.map AD)] ⟨(AU "Bounds.add").names,[],[]⟩=some ⟨(AU "Bounds.add").names,[(Str.ofString "self",.d (.bnds b.uniD bs ns)),(Str.ofString "name",.d (.str x)),(Str.ofString "arity",.d (.int (k:Int))),(Str.ofString "lower",.d (.tup (lo.map AD))),(Str.ofString "upper",.d (.tup (up.map AD)))],[]⟩:=rfl
 show Gb ((n+79)+1) _ _ _ _ _ _=_
 simp only[Gb,c1,e0,hset,hgd,bind_eq_bind,bind_some,Bool.not_true,false_eq_true,if_false,ne_eq,not_true_eq_false]
end
def SEnv(b:Bd)(v u:VE)(xs:List Str):Prop:=∀x∈xs,∃rs us,v.lookup x=some rs/\u.lookup x=some us/\(∀r∈rs,r∈us)/\RelOk b.m 1 us
theorem SEnv.up{b:Bd}{v u:VE}{xs:List Str}(h:SEnv b v u xs):UEnv b u xs:=λx hx=>by
 obtain⟨rs,us,h1,h2,h3,h4⟩:=h x hx
 exact⟨us,h2,h4⟩
theorem SEnv.upd{b:Bd}{v u:VE}{xs:List Str}(h:SEnv b v u xs){y:Str}{rs us:List AO}(hs:∀r∈rs,r∈us)(hr:RelOk b.m 1 us):SEnv b (BO v y rs) (BO u y us) (xs++[y]):=λx hx=>by
 rw[Ez,Ez]
 by_cases hxy:x=y
 ·rw[if_pos hxy,if_pos hxy];exact⟨rs,us,rfl,rfl,hs,hr⟩
 ·rw[if_neg hxy,if_neg hxy]
  rcases mem_append.mp hx with h'|h'
  ·exact h x h'
  ·exact absurd (mem_singleton.mp h') hxy
theorem QA{s t s' t':List AO}(hs:∀r∈s,r∈s')(ht:∀r∈t,r∈t'):∀r∈Bw s t,r∈Bw s' t':=λr hr=>by
 obtain⟨a,ha,b,hb,he,rfl⟩:=mem_joinR.mp hr
 exact mem_joinR.mpr ⟨a,hs a ha,b,ht b hb,he,rfl⟩
theorem MQ{m:Nat}{s t:List AO}(ht:RelOk m 2 t)(hm:m<=3)(h:∀r∈s,r∈t):∀r∈CG s,r∈CG t:=λr hr=>by
 by_cases hs:s=[]
 ·subst hs;cases hr
 ·have htn:t≠[]:=λq=>by
   cases s with
   |nil=>exact hs rfl
   |cons a s=>have:=h a (mem_cons_self ..);rw[q] at this;cases this
  have es:CG s=Gn s 13 s:=by unfold CG;rw[if_neg hs]
  have et:CG t=Gn t 13 t:=by unfold CG;rw[if_neg htn]
  rw[es] at hr
  rw[et]
  have fix:=N5 ht hm 12 t ht (by omega)
  refine QN (X:=λr=>r∈Gn t 13 t) (λa ha b hb he=> ?_) 13 s (λq hq=>N4 13 t q (h q hq)) r hr
  rw[<-fix]
  exact mem_union.mpr (.inr (mem_joinR.mpr ⟨a,ha,b,h b hb,he,rfl⟩))
theorem BZ{R:Re}{b:Bd}(hm2:2<=b.m)(hm:b.m<=3)(h0:RelOk b.m 1 b.up0)(h1:RelOk b.m 2 b.up1)(hR:R.m=b.m)(s0:∀r∈R.r0,r∈b.up0)(s1:∀r∈R.r1,r∈b.up1):∀(e:Ex)(k:Nat)(xs:List Str)(v u:VE),e.wt k xs->SEnv b v u xs->u.length+e.fu<=990->∀r∈AX R e v,r∈Bt b e u
 | .rel i,k,xs,v,u,hw,hu,hl,r,hr=>by
   unfold Ex.wt at hw
   simp only[AX,Bt] at hr⊢
   rcases hw with ⟨rfl,rfl⟩|⟨rfl,rfl⟩
   ·exact s0 r hr
   ·exact s1 r hr
 | .var x,k,xs,v,u,hw,hu,hl,r,hr=>by
   unfold Ex.wt at hw
   obtain⟨rs,us,g1,g2,g3,g4⟩:=hu x hw.2
   simp only[AX,Bt,g1,g2,getD_some] at hr⊢
   exact g3 r hr
 | .tup1,k,xs,v,u,hw,hu,hl,r,hr=>by simp only[AX,Bt] at hr⊢;exact hr
 | .tup2,k,xs,v,u,hw,hu,hl,r,hr=>by simp only[AX,Bt] at hr⊢;exact hr
 | .univ,k,xs,v,u,hw,hu,hl,r,hr=>by simp only[AX,Bt,hR] at hr⊢;exact hr
 | .none1,k,xs,v,u,hw,hu,hl,r,hr=>by simp only[AX,Bt] at hr⊢;exact hr
 | .iden,k,xs,v,u,hw,hu,hl,r,hr=>by simp only[AX,Bt,hR] at hr⊢;exact hr
 | .join a c,k,xs,v,u,hw,hu,hl,r,hr=>by
   unfold Ex.wt at hw
   simp only[Ex.fu] at hl
   simp only[AX,Bt] at hr⊢
   rcases hw with ⟨rfl,⟨ha,hc⟩|⟨ha,hc⟩⟩|⟨rfl,ha,hc⟩<;>
    exact QA (BZ hm2 hm h0 h1 hR s0 s1 a _ xs v u ha hu (by omega)) (BZ hm2 hm h0 h1 hR s0 s1 c _ xs v u hc hu (by omega)) r hr
 | .turn a,k,xs,v,u,hw,hu,hl,r,hr=>by
   unfold Ex.wt at hw
   simp only[Ex.fu] at hl
   simp only[AX,Bt] at hr⊢
   have ha:=BZ hm2 hm h0 h1 hR s0 s1 a _ xs v u hw.2 hu (by omega)
   obtain⟨q,hq,rfl⟩:=mem_map.mp (mem_norm.mp hr)
   exact mem_norm.mpr (List.mem_map_of_mem (ha q hq))
 | .clo a,k,xs,v,u,hw,hu,hl,r,hr=>by
   unfold Ex.wt at hw
   simp only[Ex.fu] at hl
   simp only[AX,Bt] at hr⊢
   have ha:=BZ hm2 hm h0 h1 hR s0 s1 a _ xs v u hw.2 hu (by omega)
   exact MQ (BS hm2 hm h0 h1 a _ xs u hw.2 hu.up (by omega)).2 hm ha r hr
 | .star a,k,xs,v,u,hw,hu,hl,r,hr=>by
   unfold Ex.wt at hw
   simp only[Ex.fu] at hl
   simp only[AX,Bt,hR] at hr⊢
   have ha:=BZ hm2 hm h0 h1 hR s0 s1 a _ xs v u hw.2 hu (by omega)
   rcases mem_union.mp hr with h|h
   ·exact mem_union.mpr (.inl (MQ (BS hm2 hm h0 h1 a _ xs u hw.2 hu.up (by omega)).2 hm ha r h))
   ·exact mem_union.mpr (.inr h)
 | .prod a c,k,xs,v,u,hw,hu,hl,r,hr=>by
   unfold Ex.wt at hw
   simp only[Ex.fu] at hl
   simp only[AX,Bt] at hr⊢
   obtain⟨p,hp,q,hq,rfl⟩:=mem_prod.mp hr
   exact mem_prod.mpr ⟨p,BZ hm2 hm h0 h1 hR s0 s1 a _ xs v u hw.2.1 hu (by omega) p hp,q,BZ hm2 hm h0 h1 hR s0 s1 c _ xs v u hw.2.2 hu (by omega) q hq,rfl⟩
 | .ahead a c,k,xs,v,u,hw,hu,hl,r,hr=>by
   unfold Ex.wt at hw
   simp only[Ex.fu] at hl
   simp only[AX,Bt,HQ] at hr⊢
   obtain⟨g1,g2⟩:=mem_filter.mp hr
   exact mem_filter.mpr ⟨BZ hm2 hm h0 h1 hR s0 s1 c _ xs v u hw.2.2 hu (by omega) r g1,decide_eq_true (BZ hm2 hm h0 h1 hR s0 s1 a _ xs v u hw.2.1 hu (by omega) _ (of_decide_eq_true g2))⟩
 | .behind a c,k,xs,v,u,hw,hu,hl,r,hr=>by
   unfold Ex.wt at hw
   simp only[Ex.fu] at hl
   simp only[AX,Bt,FP] at hr⊢
   obtain⟨g1,g2⟩:=mem_filter.mp hr
   exact mem_filter.mpr ⟨BZ hm2 hm h0 h1 hR s0 s1 a _ xs v u hw.2.1 hu (by omega) r g1,decide_eq_true (BZ hm2 hm h0 h1 hR s0 s1 c _ xs v u hw.2.2 hu (by omega) _ (of_decide_eq_true g2))⟩
 | .sign s a c,k,xs,v,u,hw,hu,hl,r,hr=>by
   unfold Ex.wt at hw
   simp only[Ex.fu] at hl
   obtain⟨hs,hk,ha,hc⟩:=hw
   have a1:=BZ hm2 hm h0 h1 hR s0 s1 a _ xs v u ha hu (by omega)
   have c1:=BZ hm2 hm h0 h1 hR s0 s1 c _ xs v u hc hu (by omega)
   simp only[AX,Bt] at hr⊢
   have:s=0\/s=1\/s=2\/s=3:=by omega
   rcases this with rfl|rfl|rfl|rfl
   ·rcases mem_union.mp hr with h|h
    ·exact mem_union.mpr (.inl (a1 r h))
    ·exact mem_union.mpr (.inr (c1 r h))
   ·obtain⟨g1,g2⟩:=mem_filter.mp hr
    exact mem_filter.mpr ⟨a1 r g1,decide_eq_true (c1 r (of_decide_eq_true g2))⟩
   ·exact a1 r (mem_filter.mp hr).1
   ·rcases mem_over.mp hr with h|h
    ·exact mem_union.mpr (.inr (c1 r h))
    ·exact mem_union.mpr (.inl (a1 r h.1))
 | .comp1 a f,k,xs,v,u,hw,hu,hl,r,hr=>by
   unfold Ex.wt at hw
   simp only[Ex.fu] at hl
   simp only[AX,Bt] at hr⊢
   exact BZ hm2 hm h0 h1 hR s0 s1 a _ xs v u hw.2.1 hu (by omega) r (mem_filter.mp hr).1
 | .comp2 a c f,k,xs,v,u,hw,hu,hl,r,hr=>by
   unfold Ex.wt at hw
   simp only[Ex.fu] at hl
   have ha:=BZ hm2 hm h0 h1 hR s0 s1 a _ xs v u hw.2.1 hu (by omega)
   have oka:=(BS hm2 hm h0 h1 a _ xs u hw.2.1 hu.up (by omega)).2
   simp only[AX,Bt] at hr⊢
   obtain⟨p,hp,hr⟩:=List.mem_flatMap.mp (mem_norm.mp hr)
   obtain⟨q,hq,rfl⟩:=mem_map.mp hr
   have lu:=DQ sY (Bt b a u) u
   have hc:=BZ hm2 hm h0 h1 hR s0 s1 c _ _ (BO v sY [p]) (BO u sY (Bt b a u)) hw.2.2.1 (hu.upd (λr hr=>by rw[mem_singleton.mp hr];exact ha p hp) oka) (by omega)
   exact mem_prod.mpr ⟨p,ha p hp,q,hc q (mem_filter.mp hq).1,rfl⟩
 | .either f a c,k,xs,v,u,hw,hu,hl,r,hr=>by
   unfold Ex.wt at hw
   simp only[Ex.fu] at hl
   simp only[AX,Bt] at hr⊢
   split at hr
   ·exact mem_union.mpr (.inl (BZ hm2 hm h0 h1 hR s0 s1 a _ xs v u hw.2.2.1 hu (by omega) r hr))
   ·exact mem_union.mpr (.inr (BZ hm2 hm h0 h1 hR s0 s1 c _ xs v u hw.2.2.2 hu (by omega) r hr))
def Ex.pure:Ex->Bool
 | .join a c=>a.pure&&c.pure
 | .turn a=>a.pure
 | .clo a=>a.pure
 | .star a=>a.pure
 | .prod a c=>a.pure&&c.pure
 | .ahead a c=>a.pure&&c.pure
 | .behind a c=>a.pure&&c.pure
 | .sign s a c=>decide (s<2)&&a.pure&&c.pure
 | .comp1 .. =>false
 | .comp2 .. =>false
 | .either .. =>false
 |_=>true
theorem Cs{R:Re}{b:Bd}(hR:R.m=b.m)(s0:R.r0=b.up0)(s1:R.r1=b.up1){xs:List Str}{v u:VE}(hu:∀x∈xs,v.lookup x=u.lookup x):∀(e:Ex)(k:Nat),e.wt k xs->e.pure=true->AX R e v=Bt b e u
 | .rel i,k,hw,hp=>by simp only[AX,Bt,Bd.up,s0,s1]
 | .var x,k,hw,hp=>by
   unfold Ex.wt at hw
   simp only[AX,Bt,hu x hw.2]
 | .tup1,k,hw,hp=>by simp only[AX,Bt]
 | .tup2,k,hw,hp=>by simp only[AX,Bt]
 | .univ,k,hw,hp=>by simp only[AX,Bt,hR]
 | .none1,k,hw,hp=>by simp only[AX,Bt]
 | .iden,k,hw,hp=>by simp only[AX,Bt,hR]
 | .join a c,k,hw,hp=>by
   unfold Ex.wt at hw
   simp only[Ex.pure,and_eq_true] at hp
   simp only[AX,Bt]
   rcases hw with ⟨rfl,⟨ha,hc⟩|⟨ha,hc⟩⟩|⟨rfl,ha,hc⟩<;>rw[Cs hR s0 s1 hu a _ ha hp.1,Cs hR s0 s1 hu c _ hc hp.2]
 | .turn a,k,hw,hp=>by
   unfold Ex.wt at hw
   simp only[Ex.pure] at hp
   simp only[AX,Bt]
   rw[Cs hR s0 s1 hu a _ hw.2 hp]
 | .clo a,k,hw,hp=>by
   unfold Ex.wt at hw
   simp only[Ex.pure] at hp
   simp only[AX,Bt]
   rw[Cs hR s0 s1 hu a _ hw.2 hp]
 | .star a,k,hw,hp=>by
   unfold Ex.wt at hw
   simp only[Ex.pure] at hp
   simp only[AX,Bt,hR]
   rw[Cs hR s0 s1 hu a _ hw.2 hp]
 | .prod a c,k,hw,hp=>by
   unfold Ex.wt at hw
   simp only[Ex.pure,and_eq_true] at hp
   simp only[AX,Bt]
   rw[Cs hR s0 s1 hu a _ hw.2.1 hp.1,Cs hR s0 s1 hu c _ hw.2.2 hp.2]
 | .ahead a c,k,hw,hp=>by
   unfold Ex.wt at hw
   simp only[Ex.pure,and_eq_true] at hp
   simp only[AX,Bt]
   rw[Cs hR s0 s1 hu a _ hw.2.1 hp.1,Cs hR s0 s1 hu c _ hw.2.2 hp.2]
 | .behind a c,k,hw,hp=>by
   unfold Ex.wt at hw
   simp only[Ex.pure,and_eq_true] at hp
   simp only[AX,Bt]
   rw[Cs hR s0 s1 hu a _ hw.2.1 hp.1,Cs hR s0 s1 hu c _ hw.2.2 hp.2]
 | .sign s a c,k,hw,hp=>by
   unfold Ex.wt at hw
   simp only[Ex.pure,and_eq_true,decide_eq_true_eq] at hp
   simp only[AX,Bt]
   rw[Cs hR s0 s1 hu a _ hw.2.2.1 hp.1.2,Cs hR s0 s1 hu c _ hw.2.2.2 hp.2]
   have:s=0\/s=1:=by omega
   rcases this with rfl|rfl<;>rfl
 | .comp1 a f,k,hw,hp=>by simp[Ex.pure] at hp
 | .comp2 a c f,k,hw,hp=>by simp[Ex.pure] at hp
 | .either f a c,k,hw,hp=>by simp[Ex.pure] at hp
def fourW:List Str:=[Str.ofString "minus",Str.ofString "override",Str.ofString "either",Str.ofString "comp"]
theorem w2{s:String}{a c:D}(h:∀w∈A3 (.tup [Am s,a,c]),w∉fourW):Str.ofString s∉fourW/\(∀w∈A3 a,w∉fourW)/\∀w∈A3 c,w∉fourW:=by
 have e:A3 (.tup [Am s,a,c])=Str.ofString s::(A3 a++A3 c):=by simp only[Cm,B8,Cw,Cv,Am,Cy];simp
 rw[e] at h
 exact⟨h _ (by simp),λw hw=>h w (by simp[hw]),λw hw=>h w (by simp[hw])⟩
theorem w1{s:String}{a:D}(h:∀w∈A3 (.tup [Am s,a]),w∉fourW):∀w∈A3 a,w∉fourW:=by
 have e:A3 (.tup [Am s,a])=Str.ofString s::A3 a:=by simp only[Cm,B8,Cw,Cv,Am,Cy];simp
 rw[e] at h
 exact λw hw=>h w (by simp[hw])
theorem wh{s:String}{xs:List D}(h:∀w∈A3 (.tup (Am s::xs)),w∉fourW):Str.ofString s∉fourW:=by
 refine h _ ?_
 simp only[Cm,Am,Cy];simp
theorem CB:∀(e:Ex)(k:Nat)(xs:List Str),e.wt k xs->(∀w∈A3 e.toD,w∉fourW)->e.pure=true
 | .rel i,k,xs,hw,h=>rfl
 | .var x,k,xs,hw,h=>rfl
 | .tup1,k,xs,hw,h=>rfl
 | .tup2,k,xs,hw,h=>rfl
 | .univ,k,xs,hw,h=>rfl
 | .none1,k,xs,hw,h=>rfl
 | .iden,k,xs,hw,h=>rfl
 | .join a c,k,xs,hw,h=>by
   unfold Ex.wt at hw
   simp only[Ex.toD] at h
   obtain⟨_,g1,g2⟩:=w2 h
   simp only[Ex.pure,and_eq_true]
   rcases hw with ⟨rfl,⟨ha,hc⟩|⟨ha,hc⟩⟩|⟨rfl,ha,hc⟩<;>exact⟨CB a _ _ ha g1,CB c _ _ hc g2⟩
 | .turn a,k,xs,hw,h=>by
   unfold Ex.wt at hw
   simp only[Ex.toD] at h
   simp only[Ex.pure]
   exact CB a _ _ hw.2 (w1 h)
 | .clo a,k,xs,hw,h=>by
   unfold Ex.wt at hw
   simp only[Ex.toD] at h
   simp only[Ex.pure]
   exact CB a _ _ hw.2 (w1 h)
 | .star a,k,xs,hw,h=>by
   unfold Ex.wt at hw
   simp only[Ex.toD] at h
   simp only[Ex.pure]
   exact CB a _ _ hw.2 (w1 h)
 | .prod a c,k,xs,hw,h=>by
   unfold Ex.wt at hw
   simp only[Ex.toD] at h
   obtain⟨_,g1,g2⟩:=w2 h
   simp only[Ex.pure,and_eq_true]
   exact⟨CB a _ _ hw.2.1 g1,CB c _ _ hw.2.2 g2⟩
 | .ahead a c,k,xs,hw,h=>by
   unfold Ex.wt at hw
   simp only[Ex.toD] at h
   obtain⟨_,g1,g2⟩:=w2 h
   simp only[Ex.pure,and_eq_true]
   exact⟨CB a _ _ hw.2.1 g1,CB c _ _ hw.2.2 g2⟩
 | .behind a c,k,xs,hw,h=>by
   unfold Ex.wt at hw
   simp only[Ex.toD] at h
   obtain⟨_,g1,g2⟩:=w2 h
   simp only[Ex.pure,and_eq_true]
   exact⟨CB a _ _ hw.2.1 g1,CB c _ _ hw.2.2 g2⟩
 | .sign s a c,k,xs,hw,h=>by
   unfold Ex.wt at hw
   simp only[Ex.toD] at h
   obtain⟨g0,g1,g2⟩:=w2 h
   simp only[Ex.pure,and_eq_true,decide_eq_true_eq]
   have hs:=hw.1
   refine⟨⟨?_,CB a _ _ hw.2.2.1 g1⟩,CB c _ _ hw.2.2.2 g2⟩
   have:s=0\/s=1\/s=2\/s=3:=by omega
   rcases this with rfl|rfl|rfl|rfl
   ·omega
   ·omega
   ·exact absurd (by decide) g0
   ·exact absurd (by decide) g0
 | .comp1 a f,k,xs,hw,h=>by
   simp only[Ex.toD] at h
   exact absurd (by decide) (wh h)
 | .comp2 a c f,k,xs,hw,h=>by
   simp only[Ex.toD] at h
   exact absurd (by decide) (wh h)
 | .either f a c,k,xs,hw,h=>by
   simp only[Ex.toD] at h
   exact absurd (by decide) (wh h)
abbrev LV:=List (Str×V)
def lE(l c:LV):Ev:=⟨(AU "law").names,l,c⟩
def B3:Str×V:=(Str.ofString "feed",.d .feed)
def Ac(m:Nat):Str×V:=(Str.ofString "atoms",.d (E8 m))
def G4(m:Nat):List AO:=CE (CS m) (CS m)
def Bn(m:Nat):Str×V:=(Str.ofString "whole",.d (.list [Ah (CS m),Ah (G4 m)]))
theorem LY(m:Nat):RelOk m 2 (G4 m):=(D6 m).prod (D6 m)
theorem O9(m:Nat)(h:m<=3):Ag "list" [.range 0 (m:Int)]=some (E8 m):=by
 have h1:AZ 0=true:=by decide
 have h2:AZ (m:Int)=true:=BH (by omega) (by omega)
 have h3:(m:Int)-0<=1000:=by omega
 have h4:((m:Int)-0).toNat=m:=by omega
 simp only[Ag,h1,h2,h3,h4,true_and,if_true,H1]
 unfold E8
 simp
theorem Uz(cells:List Int)(hc:cells.length<=100):∃m:Nat,(m=2\/m=3)/\∀n,EI (n+60) (CA "law" 1) (lE [B3] []) (cells,0)=some (.next,lE [B3] [Ac m],(cells,1)):=by
 obtain⟨v,h0,h1,hd⟩:=BL cells 0 2 (by omega) (by omega) hc (by omega) (by omega)
 refine⟨2+v.toNat,by omega,λn=> ?_⟩
 have e:(2:Int)+v=((2+v.toNat:Nat):Int):=by omega
 have ad:=Dz (a:=2) (b:=v) (by decide) (BH (by omega) (by omega))
 rw[e] at ad
 exact AP (JO rfl (AE rfl rfl rfl (BJ (b:= "list") (AB rfl (AE rfl rfl rfl (BJ (b:= "range") (AB rfl (Ak AG (AE rfl rfl rfl (AN (AB rfl (AA rfl) (AB rfl AG AH)) rfl rfl rfl (hd _) rfl)) ad) AH) rfl rfl (HO _ (by omega)))) AH) rfl rfl (O9 _ (by omega))))) rfl
theorem Uy{m:Nat}(hm:m<=3){σ:St}(n:Nat):EI (n+60) (CA "law" 2) (lE [B3] [Ac m]) σ=some (.next,lE [B3,Bn m] [Ac m],σ):=by
 have e1:Ah (CS m)= .list ((List.range m).map λ(i:Nat)=>AD [(i:Int)]):=by unfold Ah CS;rw[map_map];rfl
 have e2:Ah (G4 m)= .list ((List.range m).flatMap λ(i:Nat)=>(List.range m).map λ(j:Nat)=>AD [(i:Int),(j:Int)]):=by
  unfold Ah G4 CE CS
  rw[List.map_flatMap,List.flatMap_map]
  congr 2
  funext i
  rw[map_map,map_map];rfl
 have hl:((List.range m).flatMap λ(i:Nat)=>(List.range m).map λ(j:Nat)=>AD [(i:Int),(j:Int)]).length<=100000:=by
  have:=(LY m).len12 hm (.inr rfl)
  have e3:=congrArg (λd=>match d with|D.list xs=>xs.length|_=>0) e2
  simp only[Ah,length_map] at e3
  rw[<-e3];omega
 have ew:Bn m=(Str.ofString "whole",.d (.list [.list ((List.range m).map λ(i:Nat)=>AD [(i:Int)]),.list ((List.range m).flatMap λ(i:Nat)=>(List.range m).map λ(j:Nat)=>AD [(i:Int),(j:Int)])])):=by unfold Bn;rw[e1,e2]
 rw[ew]
 refine' AP (ρ₁:=lE [B3] [Ac m]) (AI rfl (BU (AF rfl (Ar rfl (AT rfl (AA rfl) rfl) rfl (A5 (λ(i:Nat)=>AD [(i:Int)]) (List.range m) λi hi=>CH rfl rfl rfl (Aj (AF rfl (AA rfl) AR) (by simp)) rfl) (by simp;omega)) (AF rfl (Ar (ρ₁:=lE [B3] [Ac m]) rfl (AT rfl (AA rfl) rfl) rfl ?c hl) AR)) (by simp))) rfl
 case c=>
  refine DC (g:=λ(i:Nat)=>(List.range m).map λ(j:Nat)=>AD [(i:Int),(j:Int)]) (List.range m) λi hi=> ?_
  exact JM rfl rfl HS (AT rfl (AA rfl) rfl) (A5 (λ(j:Nat)=>AD [(i:Int),(j:Int)]) (List.range m) λj hj=>CH rfl rfl rfl (Aj (AF rfl (AA rfl) (AF rfl (AA rfl) AR)) (by simp)) rfl) rfl
def Cd(m:Nat):List D:=(List.range m).map λ(i:Nat)=> .str (Str.ofString (toString (i:Int)))
def GE(m:Nat):Bd:=⟨m,Fu (Cd m) 0,[(.s (Str.ofString "u"),.int 0),(.s (Str.ofString "b"),.int 1)],[],[],[],[]⟩
def HN(u:D)(bs:List D)(ns:List (Key×D)):Str×V:=(Str.ofString "bounds_now",.ownB u bs ns)
def Da(os:List D):Str×V:=(Str.ofString "open_now",.ownL os)
def Dq(ts:List D):Str×V:=(Str.ofString "tops",.ownL ts)
theorem Mc(m:Nat)(h:m=2\/m=3):GD (.list (Cd m))=some (GE m).uniD:=by
 rcases h with rfl|rfl
 ·have:BA (Cd 2)=true:=by decide+kernel
  have e:GD (.list (Cd 2))=if BA (Cd 2)&&decide ((Cd 2).length<=8) then some (.univ (Cd 2) (Fu (Cd 2) 0)) else none:=rfl
  rw[e,this];rfl
 ·have:BA (Cd 3)=true:=by decide+kernel
  have e:GD (.list (Cd 3))=if BA (Cd 3)&&decide ((Cd 3).length<=8) then some (.univ (Cd 3) (Fu (Cd 3) 0)) else none:=rfl
  rw[e,this];rfl
theorem Rt(i:Nat)(h:i<10):Ag "str" [.int (i:Int)]=some (.str (Str.ofString (toString (i:Int)))):=by
 have h1:decide ((0:Int)<=(i:Int))=true:=decide_eq_true (by omega)
 have h2:decide ((i:Int)<10)=true:=decide_eq_true (by omega)
 have e:Ag "str" [.int (i:Int)]=if decide ((0:Int)<=(i:Int))&&decide ((i:Int)<10) then some (.str (Str.ofString (toString (i:Int)))) else none:=by simp only[Ag,and_eq_true,decide_eq_true_eq]
 rw[e,h1,h2];rfl
theorem Ux{m:Nat}(hm:m=2\/m=3){σ:St}(n:Nat):EI (n+60) (CA "law" 3) (lE [B3,Bn m] [Ac m]) σ=some (.next,lE [B3,Bn m,HN (GE m).uniD [] [],Da [],Dq []] [Ac m],σ):=by
 refine' Dk rfl rfl (A0 rfl (TG rfl rfl (AE rfl rfl rfl (UA (AB rfl (Ar rfl (AT rfl (AA rfl) rfl) rfl (A5 (λ(i:Nat)=> .str (Str.ofString (toString (i:Int)))) (List.range m) λi hi=>CH rfl rfl rfl (AE rfl rfl rfl (BJ (b:= "str") (AB rfl (AA rfl) AH) rfl rfl (Rt i (by have:=mem_range.mp hi;omega)))) rfl) (by simp;omega)) AH) rfl (Mc m hm)))) (A0 rfl K7 (A0 rfl K7 Ch))) ?s
 case s=>rfl
theorem LN(xs:List D)(q:Int)(h0:0<=q)(h1:q<=10)(h:xs.length<=100):Bo (.list xs) .none (.int q) .none=some (.list (xs.take q.toNat)):=by
 have e:Bo (.list xs) .none (.int q) .none=if xs.length<=100000 then(if AZ q then some (xs.take (Ap q xs.length)) else none).map .list else none:=rfl
 rw[e,if_pos (by omega),BH (by omega) (by omega)]
 simp only[if_true,map_some,Option.some.injEq,D.list.injEq]
 unfold Ap
 rw[if_pos h0,List.take_eq_take_iff]
 omega
theorem RelOk.sub{m k:Nat}{s t:List AO}(h:RelOk m k t)(hs:s.Sublist t):RelOk m k s:=
 ⟨List.Pairwise.sublist hs h.srt,λr hr=>h.len r (hs.subset hr),λr hr=>h.ats r (hs.subset hr)⟩
theorem M3{m k:Nat}{some spare lot:List AO}(h:RelOk m k some)(hs:spare.Sublist some)(hl:lot.Sublist spare):B0 (Az some spare++lot)=norm (Az some spare++lot)/\RelOk m k (norm (Az some spare++lot))/\∀r∈norm (Az some spare++lot),r∈some:=by
 have hsub:∀r∈Az some spare++lot,r∈some:=λr hr=>by
  rcases mem_append.mp hr with h'|h'
  ·exact(mem_filter.mp h').1
  ·exact hs.subset (hl.subset h')
 have hn:(Az some spare++lot).Nodup:=by
  rw[List.nodup_append]
  refine⟨(h.filter _).srt.nodup,(h.sub (hl.trans hs)).srt.nodup,λa ha b hb q=> ?_⟩
  have:=(mem_filter.mp ha).2
  rw[q] at this
  exact(of_decide_eq_true this) (hl.subset hb)
 exact⟨Fh hn,RelOk.norm_of (λr hr=>h.len r (hsub r hr)) (λr hr=>h.ats r (hsub r hr)),λr hr=>hsub r (mem_norm.mp hr)⟩
structure TurnIs (m k:Nat)(lo up:List AO)(fs:List (List AO)):Prop where
 okLo:RelOk m k lo
 okUp:RelOk m k up
 inUp:∀r∈lo,r∈up
 okFs:∀f∈fs,RelOk m k f/\∀r∈f,r∈up
def Mo(x:Str)(k:Nat)(lo up:List AO):D:= .tup [.str x,.int (k:Int),.tup (lo.map AD),.tup (up.map AD)]
def PE(fs:List (List AO)):D:= .list (fs.map Ah)
theorem G0(L:Nat)(h:L<=12):(0:Int)<2^L/\(2:Int)^L<=100000:=by
 have h1:(2:Int)^L<=2^12:=by exact_mod_cast Nat.pow_le_pow_right (n:=2) (by omega) h
 exact⟨Int.pow_pos (by omega),by omega⟩
theorem Ls(rs:List AO)(h:rs.length<=1000):Ag "len" [Ah rs]=some (.int rs.length):=by
 have:=Gg (rs.map AD) (by simp;omega)
 rw[length_map] at this;exact this
theorem Lx{m:Nat}(hm:m=2\/m=3){p q:Int}{k:Nat}{x:Str}{W:List AO}{bs:List D}{ns:List (Key×D)}{os ts:List D}{cells:List Int}{s:Int}
 (hk:k=1\/k=2) (hp:CN .Add (.int p) (.int 1)=some (.int (k:Int))) (hub:Al (Am "ub") (.int p)=some (.str x)) (hW:Al (.list [Ah (CS m),Ah (G4 m)]) (.int p)=some (Ah W)) (oW:RelOk m k W) (hq0:0<=q) (hq:q<=2)
 (hns:Af (Key.s x) ns=none) (hnl:ns.length<1000) (hbs:bs.length<1000) (hos:os.length<1000) (hts:ts.length<1000) (hc:cells.length<=100) (hs:0<=s) (hs2:s<=1000):
 ∃lo up fs,TurnIs m k lo up fs/\∀n,
 (do let ρ'<-JR (Iy (CA "law" 4)) (.tup [.int p,.int q]) (lE [B3,Bn m,HN (GE m).uniD bs ns,Da os,Dq ts] [Ac m],(cells,s)).1
     let(f,ρ'',σ'')<-Br (n+120) (DI (CA "law" 4)) ρ' (lE [B3,Bn m,HN (GE m).uniD bs ns,Da os,Dq ts] [Ac m],(cells,s)).2
     some (f,(lE [B3,Bn m,HN (GE m).uniD bs ns,Da os,Dq ts] [Ac m],(cells,s)).1.back ρ'',σ''):Option (Fl×Ev×St))
   =some (.next,lE [B3,Bn m,HN (GE m).uniD (bs++[Mo x k lo up]) (ns++[(.s x,.int bs.length)]),Da (os++[PE fs]),Dq (ts++[Ah up])] [Ac m],(cells,s+2)):=by
 have hm3:m<=3:=by omega
 have lW:=oW.len12 hm3 hk
 obtain⟨v,v0,v1,hv⟩:=BL cells s (2^W.length) hs (by omega) hc (G0 _ lW).1 (G0 _ lW).2
 have sub1:=HC W v
 generalize hsome:Hf W v=some' at sub1
 have oS:=oW.sub sub1
 have lS:=oS.len12 hm3 hk
 obtain⟨w,w0,w1,hw⟩:=BL cells (s+1) (2^some'.length) (by omega) (by omega) hc (G0 _ lS).1 (G0 _ lS).2
 have sub2:=HC some' w
 generalize hsp:Hf some' w=sp at sub2
 have lsp:=sub2.length_le
 have sub3:(sp.take q.toNat).Sublist some':=(List.take_sublist ..).trans sub2
 have l3:(sp.take q.toNat).length<=2:=by rw[List.length_take];omega
 have hslice:=LN (sp.map AD) q hq0 (by omega) (by rw[length_map];omega)
 rw[<-map_take] at hslice
 generalize hspare:sp.take q.toNat=spare at sub3 l3 hslice
 have ms1:=λ(n:Nat) (σ:St)=>Ew (n:=n) (σ:=σ) W v (by omega)
 have ms2:=λ(n:Nat) (σ:St)=>Ew (n:=n) (σ:=σ) some' w (by omega)
 rw[hsome] at ms1
 rw[hsp] at ms2
 have es:s+1+1=s+2:=by omega
 rw[es] at hw
 have lmin:=length_filter_le (λr=>decide (r∉spare)) some'
 have oLo:RelOk m k (Az some' spare):=oS.filter _
 refine⟨Az some' spare,some',(Bi spare).map λlot=>norm (Az some' spare++lot),⟨oLo,oS,λr hr=>(mem_filter.mp hr).1,λf hf=> ?_⟩,λn=> ?_⟩
 ·obtain⟨lot,hlot,rfl⟩:=mem_map.mp hf
  exact(M3 oS sub3 (D9 hlot)).2
 ·have efs:PE ((Bi spare).map λlot=>norm (Az some' spare++lot))= .list ((Bi spare).map λlot=>Ah (norm (Az some' spare++lot))):=by unfold PE;rw[map_map];rfl
  have llots:=Nm l3
  have sorted1:∀lot∈Bi spare,Ag "sorted" [.list ((Az some' spare++lot).map AD)]=some (Ah (norm (Az some' spare++lot))):=λlot hlot=>by
   have hl:=(D9 hlot).length_le
   have:=Hs (Az some' spare++lot) (by rw[length_append];unfold Az;omega) (λr hr=>by
    have:=(M3 oS sub3 (D9 hlot)).2.1.len r (mem_norm.mpr hr)
    intro e
    rw[e] at this
    simp at this;omega)
   rw[(M3 oS sub3 (D9 hlot)).1] at this
   exact this
  have add:=λ(n:Nat) (σ:St)=>QY (n:=n) (σ:=σ) (b:=GE m) (bs:=bs) (ns:=ns) (x:=x) (k:=k) (lo:=Az some' spare) (up:=some') hm3 hk oLo oS (λr hr=>(mem_filter.mp hr).1) hns hnl hbs
  rw[efs]
  refine' BT (ρ1:=lE [B3,Bn m,HN (GE m).uniD bs ns,Da os,Dq ts,(Str.ofString "place",.d (.int p)),(Str.ofString "most",.d (.int q))] [Ac m]) rfl
   (AW (ρ₁:=lE [B3,Bn m,HN (GE m).uniD bs ns,Da os,Dq ts,(Str.ofString "place",.d (.int p)),(Str.ofString "most",.d (.int q))] [Ac m,(Str.ofString "some",.d (Ah some'))]) (σ₁:=(cells,s+1)) ?s1
   (AW (ρ₁:=lE [B3,Bn m,HN (GE m).uniD bs ns,Da os,Dq ts,(Str.ofString "place",.d (.int p)),(Str.ofString "most",.d (.int q))] [Ac m,(Str.ofString "some",.d (Ah some')),(Str.ofString "spare",.d (Ah spare))]) (σ₁:=(cells,s+2)) ?s2
   (AW (ρ₁:=lE [B3,Bn m,HN (GE m).uniD (bs++[Mo x k (Az some' spare) some']) (ns++[(.s x,.int bs.length)]),Da os,Dq ts,(Str.ofString "place",.d (.int p)),(Str.ofString "most",.d (.int q))] [Ac m,(Str.ofString "some",.d (Ah some')),(Str.ofString "spare",.d (Ah spare))]) (σ₁:=(cells,s+2)) ?s3
   (AW (ρ₁:=lE [B3,Bn m,HN (GE m).uniD (bs++[Mo x k (Az some' spare) some']) (ns++[(.s x,.int bs.length)]),Da (os++[.list ((Bi spare).map λlot=>Ah (norm (Az some' spare++lot)))]),Dq ts,(Str.ofString "place",.d (.int p)),(Str.ofString "most",.d (.int q))] [Ac m,(Str.ofString "some",.d (Ah some')),(Str.ofString "spare",.d (Ah spare))]) (σ₁:=(cells,s+2)) ?s4
   (AW (ρ₁:=lE [B3,Bn m,HN (GE m).uniD (bs++[Mo x k (Az some' spare) some']) (ns++[(.s x,.int bs.length)]),Da (os++[.list ((Bi spare).map λlot=>Ah (norm (Az some' spare++lot)))]),Dq (ts++[Ah some']),(Str.ofString "place",.d (.int p)),(Str.ofString "most",.d (.int q))] [Ac m,(Str.ofString "some",.d (Ah some')),(Str.ofString "spare",.d (Ah spare))]) (σ₁:=(cells,s+2)) ?s5 BC))))) ?bk
  case s1=>exact AP (AI rfl (AE rfl rfl rfl (AN (AB rfl (A6 rfl rfl (AA rfl) (AA rfl) rfl hW) (AB rfl (AE rfl rfl rfl (AN (AB rfl (AA rfl) (AB rfl (Ak AG (AE rfl rfl rfl (BJ (b:= "len") (AB rfl (A6 rfl rfl (AA rfl) (AA rfl) rfl hW) AH) rfl rfl (Ls W (by omega)))) (H5 _ (by omega))) AH)) rfl rfl rfl (hv _) rfl)) AH)) rfl rfl rfl (ms1 _ _) rfl))) rfl
  case s2=>exact AP (AI rfl (CZ (AE rfl rfl rfl (AN (AB rfl (AA rfl) (AB rfl (AE rfl rfl rfl (AN (AB rfl (AA rfl) (AB rfl (Ak AG (AE rfl rfl rfl (BJ (b:= "len") (AB rfl (AA rfl) AH) rfl rfl (Ls some' (by omega)))) (H5 _ (by omega))) AH)) rfl rfl rfl (hw _) rfl)) AH)) rfl rfl rfl (ms2 _ _) rfl)) Be (DM (AA rfl)) Be hslice)) rfl
  case s3=>exact K6 rfl rfl (AF rfl (A6 rfl rfl AY (AA rfl) rfl hub) (AF rfl (Ak (AA rfl) AG hp) (AF rfl (AE rfl rfl rfl (BJ (b:= "tuple") (AB rfl (Ar (ys:=(Az some' spare).map AD) rfl (AT rfl (AA rfl) rfl) rfl (CM (λr=>decide (r∉spare)) λr hr=>Bz rfl rfl (By (AJ (AA rfl) (AA rfl) (Es r spare))) (λ_=>AA rfl) rfl rfl) (by rw[length_map];unfold Az;omega)) AH) rfl rfl (Bg _ (by rw[length_map];unfold Az;omega))))
   (AF rfl (AE rfl rfl rfl (BJ (b:= "tuple") (AB rfl (AA rfl) AH) rfl rfl (Bg _ (by rw[length_map];omega)))) AR)))) rfl rfl (T5 (add _ _) rfl)
  case s4=>exact K6 rfl rfl (AF rfl (Ar rfl (AT rfl (AE rfl rfl rfl (AN (AB rfl (AA rfl) AH) rfl rfl rfl (Oe spare l3) rfl)) rfl) rfl (A5 (λlot=>Ah (norm (Az some' spare++lot))) (Bi spare) λlot hlot=>CH rfl rfl rfl
   (AE rfl rfl rfl (BJ (b:= "sorted") (AB rfl (Ak (Ar (ys:=(Az some' spare).map AD) rfl (AT rfl (AA rfl) rfl) rfl (CM (λr=>decide (r∉spare)) λr hr=>Bz rfl rfl (By (AJ (AA rfl) (AA rfl) (Es r spare))) (λ_=>AA rfl) rfl rfl) (by rw[length_map];unfold Az;omega)) (AA rfl) (Ck (Az some' spare) lot (by have:=(D9 hlot).length_le;unfold Az;omega))) AH) rfl rfl (sorted1 lot hlot))) rfl) (by rw[length_map];omega)) AR) rfl rfl (Qc rfl (by omega) rfl)
  case s5=>exact K6 rfl rfl (AF rfl (AA rfl) AR) rfl rfl (Qc rfl (by omega) rfl)
  case bk=>rfl
theorem QB(x:D)(xs:List D):Al (.list (x::xs)) (.int 0)=some x:=by simp[Al,Hi,small_lit.1]
theorem RT(x y:D)(xs:List D):Al (.list (x::y::xs)) (.int 1)=some y:=by simp[Al,Hi,small_lit.2.2]
theorem VA:Al (Am "ub") (.int 0)=some (.str (Str.ofString "u")):=by
 simp only[Am,Al,show((0:Int)<=0) from Int.le_refl 0,small_lit.1];rfl
theorem U9:Al (Am "ub") (.int 1)=some (.str (Str.ofString "b")):=by
 simp only[Am,Al,show((0:Int)<=1) from by decide,small_lit.2.2];rfl
def T0(m:Nat)(lo0 up0 lo1 up1:List AO):Bd:=⟨m,Fu (Cd m) 0,[(.s (Str.ofString "u"),.int 0),(.s (Str.ofString "b"),.int 1)],lo0,up0,lo1,up1⟩
def J2(m:Nat)(b:Bd)(f0 f1:List (List AO)):LV:=[B3,Bn m,HN b.uniD [Mo (Str.ofString "u") 1 b.lo0 b.up0,Mo (Str.ofString "b") 2 b.lo1 b.up1] b.bnums,Da [PE f0,PE f1],Dq [Ah b.up0,Ah b.up1]]
theorem Uw{m:Nat}(hm:m=2\/m=3){cells:List Int}(hc:cells.length<=100):∃lo0 up0 f0 lo1 up1 f1,TurnIs m 1 lo0 up0 f0/\TurnIs m 2 lo1 up1 f1/\∀n,EI (n+130) (CA "law" 4) (lE [B3,Bn m,HN (GE m).uniD [] [],Da [],Dq []] [Ac m]) (cells,1)=some (.next,lE (J2 m (T0 m lo0 up0 lo1 up1) f0 f1) [Ac m],(cells,5)):=by
 obtain⟨lo0,up0,f0,t0,h0⟩:=Lx hm (p:=0) (q:=1) (k:=1) (x:=Str.ofString "u") (W:=CS m) (bs:=[]) (ns:=[]) (os:=[]) (ts:=[]) (cells:=cells) (s:=1) (.inl rfl) (Dz (by decide) (by decide)) VA (QB _ _) (D6 m) (by omega) (by omega) rfl (by simp) (by simp) (by simp) (by simp) hc (by omega) (by omega)
 obtain⟨lo1,up1,f1,t1,h1⟩:=Lx hm (p:=1) (q:=2) (k:=2) (x:=Str.ofString "b") (W:=G4 m) (bs:=[Mo (Str.ofString "u") 1 lo0 up0]) (ns:=[(.s (Str.ofString "u"),.int 0)]) (os:=[PE f0]) (ts:=[Ah up0]) (cells:=cells) (s:=3) (.inr rfl) (Dz (by decide) (by decide)) U9 (RT _ _ _) (LY m) (by omega) (by omega) (by unfold Af;rw[if_neg (by decide)];rfl) (by simp) (by simp) (by simp) (by simp) hc (by omega) (by omega)
 refine⟨lo0,up0,f0,lo1,up1,f1,t0,t1,λn=> ?_⟩
 exact DN rfl (AT rfl (Aj (AF rfl (Aj (AF rfl AG (AF rfl AG AR)) (by simp)) (AF rfl (Aj (AF rfl AG (AF rfl AG AR)) (by simp)) AR)) (by simp)) rfl) (Ko (h0 (n+9)) (h1 (n+9)))
def Mt(rs:List AO):Str×V:=(Str.ofString "own",.d (Ah rs))
theorem Uv{m:Nat}(hm:m=2\/m=3){cells:List Int}(hc:cells.length<=100)(b:Bd)(f0 f1:List (List AO)):∃own,RelOk m 1 own/\∀n,EI (n+80) (CA "law" 5) (lE (J2 m b f0 f1) [Ac m]) (cells,5)=some (.next,lE (J2 m b f0 f1++[Mt own]) [Ac m],(cells,6)):=by
 have oW:=D6 m
 have lW:=oW.len12 (by omega) (.inl rfl)
 obtain⟨v,v0,v1,hv⟩:=BL cells 5 (2^m) (by omega) (by omega) hc (G0 m (by omega)).1 (G0 m (by omega)).2
 have hlen:Ag "len" [E8 m]=some (.int (m:Int)):=by
  have:=Gg ((List.range m).map λ(i:Nat)=>D.int (i:Int)) (by simp;omega)
  rw[length_map,List.length_range] at this;exact this
 refine⟨Hf (CS m) v,oW.sub (HC _ _),λn=> ?_⟩
 exact AP (AI rfl (AE rfl rfl rfl (AN (AB rfl (Ei rfl rfl (QB _ _)) (AB rfl (AE rfl rfl rfl (AN (AB rfl (AA rfl) (AB rfl (Ak AG (AE rfl rfl rfl (BJ (b:= "len") (AB rfl (AA rfl) AH) rfl rfl hlen)) (H5 _ (by omega))) AH)) rfl rfl rfl (hv _) rfl)) AH)) rfl rfl rfl (Ew (CS m) v (by omega)) rfl))) rfl
def MG(e:Ex):Str×V:=(Str.ofString "expr",.d e.toD)
abbrev sX:Str:=Str.ofString "x"
theorem Nl:NamesOk [sX]:=⟨by simp,by simp,λx hx=>by rw[mem_singleton.mp hx];exact Fi (s:= "x") rfl⟩
theorem Uu{m:Nat}{cells:List Int}(hc:cells.length<=100)(b:Bd)(f0 f1:List (List AO))(own:List AO):∃(e:Ex)(k:Nat)(s':Int),(k=1\/k=2)/\Gen k 3 [sX] e/\∀n,EI (n+250) (CA "law" 6) (lE (J2 m b f0 f1++[Mt own]) [Ac m]) (cells,6)=some (.next,lE (J2 m b f0 f1++[Mt own,MG e]) [Ac m],(cells,s')):=by
 obtain⟨v,v0,v1,hv⟩:=BL cells 6 2 (by omega) (by omega) hc (by omega) (by omega)
 obtain⟨g1,g2⟩:=gens 3 (by omega)
 have b3:MY 3=180:=rfl
 have:v=0\/v=1:=by omega
 rcases this with rfl|rfl
 ·obtain⟨e,s',_,_,ge,he⟩:=g1 [sX] cells 7 Nl (by simp) hc (by omega) (by omega)
  refine⟨e,1,s',.inl rfl,ge,λn=> ?_⟩
  exact AP (AI rfl (Bm (c:=true) (AJ (AE rfl rfl rfl (AN (AB rfl (AA rfl) (AB rfl AG AH)) rfl rfl rfl (hv _) rfl)) AG (Jb rfl)) (AE rfl rfl rfl (AN (AB rfl (AA rfl) (AB rfl AG (AB rfl (BU (AF rfl AY AR) (by simp)) AH))) rfl rfl rfl (he _ (by omega)) rfl)))) rfl
 ·obtain⟨e,s',_,_,ge,he⟩:=g2 [sX] cells 7 Nl (by simp) hc (by omega) (by omega)
  refine⟨e,2,s',.inr rfl,ge,λn=> ?_⟩
  exact AP (AI rfl (Bm (c:=false) (AJ (AE rfl rfl rfl (AN (AB rfl (AA rfl) (AB rfl AG AH)) rfl rfl rfl (hv _) rfl)) AG (CR rfl)) (AE rfl rfl rfl (AN (AB rfl (AA rfl) (AB rfl AG (AB rfl (BU (AF rfl AY AR) (by simp)) AH))) rfl rfl rfl (he _ (by omega)) rfl)))) rfl
def BV(T:List AO):Str×V:=(Str.ofString "told",.d (.tup (T.map AD)))
def P4(m:Nat)(b:Bd)(f0 f1:List (List AO))(own:List AO)(e:Ex):LV:=[B3,Bn m,(Str.ofString "bounds_now",.d b.d),Da [PE f0,PE f1],Dq [Ah b.up0,Ah b.up1],Mt own,MG e]
theorem Ut{m:Nat}{b:Bd}{f0 f1:List (List AO)}{own T:List AO}{e:Ex}{K:Nat}{σ:St}(hl:own.length<=12)(h:UpIs b e [(sX,own)] K T)(n:Nat):EI (n+K+20) (CA "law" 7) (lE (J2 m b f0 f1++[Mt own,MG e]) [Ac m]) σ=some (.next,lE (P4 m b f0 f1 own e) [Ac m,BV T],σ):=
 AP (AI rfl (AE rfl rfl rfl (AN (AB rfl (AA rfl) (AB rfl (AA rfl) (AB rfl (Qf rfl (C3 AY rfl (AE rfl rfl rfl (BJ (b:= "tuple") (AB rfl (AA rfl) AH) rfl rfl (Bg _ (by rw[length_map];omega)))) N9)) AH))) rfl rfl rfl (h _ _ (by omega)) rfl))) rfl
theorem RG(a c:List AO):Av .NotEq (.list [.tup (a.map AD),.tup (c.map AD)]) (.list [.tup (a.map AD),.tup (c.map AD)])=some false:=by
 have e:∀x:D,Av .NotEq (.list [.tup (a.map AD),.tup (c.map AD)]) (.list [.tup (a.map AD),.tup (c.map AD)])=(if D.ok 20 (.list [.tup (a.map AD),.tup (c.map AD)])&&D.ok 20 (.list [.tup (a.map AD),.tup (c.map AD)]) then some (D.beq (.list [.tup (a.map AD),.tup (c.map AD)]) (.list [.tup (a.map AD),.tup (c.map AD)])) else none).map (!·):=λ_=>rfl
 have h1:D.ok 20 (.list [.tup (a.map AD),.tup (c.map AD)])=true:=by
  have q1:=GQ 17 a
  have q2:=GQ 17 c
  rw[D.ok]
  simp[q1,q2]
 have h2:D.beq (.list [.tup (a.map AD),.tup (c.map AD)]) (.list [.tup (a.map AD),.tup (c.map AD)])=true:=by
  rw[D.beq,D.beqL,D.beqL,D.beqL,D.beq,D.beq,EM,EM];simp
 rw[e .none,h1,h2];rfl
def Lq(m:Nat)(b:Bd)(f0 f1:List (List AO))(own:List AO)(e:Ex):LV:=[B3,Bn m,(Str.ofString "bounds_now",.d b.d),Da [PE f0,PE f1],(Str.ofString "tops",.d (.list [Ah b.up0,Ah b.up1])),Mt own,MG e]
theorem Us{m:Nat}{b:Bd}{f0 f1:List (List AO)}{own T:List AO}{e:Ex}{σ:St}{k:Nat}(hk:k=1\/k=2)(hm:b.m<=3)(hT:RelOk b.m k T)(h0:b.up0.length<=12)(h1:b.up1.length<=12)(n:Nat):EI (n+60) (CA "law" 8) (lE (P4 m b f0 f1 own e) [Ac m,BV T]) σ=some (.next,lE (Lq m b f0 f1 own e) [Ac m,BV T],σ):=by
 have lT:=hT.len12 hm hk
 have hs:=Ba T (hT.good hm hk)
 rw[G6 hT.srt] at hs
 have hne:=Ie T T
 rw[decide_eq_false (by simp)] at hne
 refine' F7 (c:=false) (ρ₁:=lE (Lq m b f0 f1 own e) [Ac m,BV T]) (σ₁:=σ) (C2 (Dn (b:=false) (ρ₁:=lE (P4 m b f0 f1 own e) [Ac m,BV T]) (σ₁:=σ) (AJ (AE rfl rfl rfl (BJ (b:= "list") (AB rfl (AA rfl) AH) rfl rfl (FO _ (by rw[length_map];omega)))) (FB rfl rfl rfl rfl (AA rfl) rfl hs) hne) (λ_=>Dn (b:=false) (ρ₁:=lE (Lq m b f0 f1 own e) [Ac m,BV T]) (σ₁:=σ) (AJ
  (BU (AF rfl (F8 rfl (AA rfl) (AF rfl AG AR) rfl (Ff b 0 (.inl rfl))) (AF rfl (F8 rfl (AA rfl) (AF rfl AG AR) rfl (Ff b 1 (.inr rfl))) AR)) (by simp))
  (Ar (ρ₁:=lE (Lq m b f0 f1 own e) [Ac m,BV T]) rfl (AT rfl (AA rfl) rfl) rfl (A5 (φ:=Ah) (λt=> .tup (t.map AD)) [b.up0,b.up1] λt ht=>CH rfl rfl rfl (AE rfl rfl rfl (BJ (b:= "tuple") (AB rfl (AA rfl) AH) rfl rfl (Bg _ (by
    rw[length_map]
    simp only[mem_cons,List.mem_nil_iff,or_false] at ht
    rcases ht with rfl|rfl<;>omega)))) rfl) (by simp)) (RG _ _)) (λ_=>Fd) (λq=>nomatch q)) (λq=>nomatch q))) ?z
 case z=>exact BC
theorem To(m:Nat)(f g own:List AO):([(Key.i 0,Ah f),(Key.i 1,Ah g),(Key.s sE,E8 m),(Key.s sX,Ah own)]:List (Key×D)).foldl (λacc p=>B9 p.1 p.2 acc) []=B2 ⟨m,f,g⟩ [(sX,own)]:=by
 have h1:¬(Key.i 0=Key.i 1):=by decide
 have h2:∀(z:Int) (x:Str),¬(Key.i z=Key.s x):=λz x q=>by cases q
 have h3:¬(Key.s sE=Key.s sX):=by decide
 simp only[List.foldl_cons,List.foldl_nil,B9,h1,h2,h3,if_false]
 rfl
section
variable {n:Nat}{σ σ₁:St}{ρ ρ₁:Ev}{pos:Pos}
theorem K8{ks:List (Option Expr)}{vs:List Expr}{m:Nat}{f g own:List AO}(h0:(ks.isEmpty||decide (15<ks.length))=false)(h1:N1 n ks vs ρ σ=some ([(Key.i 0,Ah f),(Key.i 1,Ah g),(Key.s sE,E8 m),(Key.s sX,Ah own)],ρ₁,σ₁)):Aq (n+1) (.Dict ks vs pos) ρ σ=some (.dict (B2 ⟨m,f,g⟩ [(sX,own)]),ρ₁,σ₁):=by
 rw[Qf h0 h1,To]
end
theorem Jv{rows T:List AO}(h:∀r∈rows,r∈T){f:D->Ev×St->Option (List D×Ev×St)}{st:Ev×St}(hf:∀r∈rows,f (AD r) st=some (if decide (r∉T) then [AD r] else [],st)):CW f (rows.map AD) st=some ([],st):=by
 have e:rows.filter (λr=>decide (r∉T))=[]:=by
  rw[List.filter_eq_nil_iff]
  intro r hr
  have:=h r hr
  simp[this]
 have:=CM (s:=rows) (f:=f) (st:=st) (λr=>decide (r∉T)) hf
 rw[e] at this;exact this
def Bv(m:Nat)(b:Bd)(f0 f1:List (List AO))(own:List AO)(e:Ex):LV:=[B3,Bn m,(Str.ofString "bounds_now",.d b.d),(Str.ofString "open_now",.d (.list [PE f0,PE f1])),(Str.ofString "tops",.d (.list [Ah b.up0,Ah b.up1])),Mt own,MG e]
def HI(f:List AO):Str×V:=(Str.ofString "first",.d (Ah f))
def H4(f:List AO):Str×V:=(Str.ofString "second",.d (Ah f))
theorem My:Av .NotEq (.list []) (.list [])=some false:=Ie [] []
theorem Ur{m:Nat}{b:Bd}{f0 f1:List (List AO)}{own T:List AO}{e:Ex}{K:Nat}{σ:St}{rws:List AO->List AO->List AO}(h:∀f∈f0,∀g∈f1,RowsIs ⟨m,f,g⟩ e [(sX,own)] K (rws f g)/\∀r∈rws f g,r∈T)(n:Nat):
 EI (n+K+30) (CA "law" 9) (lE (Lq m b f0 f1 own e) [Ac m,BV T]) σ=some (.next,lE (Bv m b f0 f1 own e) [Ac m,BV T],σ):=by
 refine' DN rfl (AT rfl (Ei rfl rfl (QB _ _)) rfl) (Dg (φ:=Ah) (s:=(lE (Bv m b f0 f1 own e) [Ac m,BV T],σ)) f0 λf hf=> ?step)
 case step=>
  refine' BT (ρ1:=lE (Bv m b f0 f1 own e++[HI f]) [Ac m,BV T]) rfl (AW (DN rfl (AT rfl (Ei rfl rfl (RT _ _ _)) rfl) (Dg (φ:=Ah) (s:=(lE (Bv m b f0 f1 own e++[HI f]) [Ac m,BV T],σ)) f1 λg hg=> ?step2)) BC) ?bk
  case step2=>
   obtain⟨h1,h2⟩:=h f hf g hg
   refine' BT (ρ1:=lE (Bv m b f0 f1 own e++[HI f,H4 g]) [Ac m,BV T]) rfl (AW (ρ₁:=lE (Bv m b f0 f1 own e++[HI f,H4 g]) [Ac m,BV T]) (σ₁:=σ) (F7 (c:=false) (ρ₁:=lE (Bv m b f0 f1 own e++[HI f,H4 g]) [Ac m,BV T]) (σ₁:=σ) (AJ (Ar (ρ₁:=lE (Bv m b f0 f1 own e++[HI f,H4 g]) [Ac m,BV T]) rfl (AT rfl (AE rfl rfl rfl (AN (AB rfl (AA rfl) (AB rfl (K8 rfl (C3 AG rfl (AA rfl) (C3 AG rfl (AA rfl) (C3 AY rfl (AA rfl) (C3 AY rfl (AA rfl) N9))))) AH)) rfl rfl rfl (h1 _ _ (by omega)) rfl)) rfl) rfl
    (Jv h2 λr hr=>Bz rfl rfl (By (AJ (AA rfl) (AA rfl) (Hd r T))) (λ_=>AA rfl) rfl rfl) (by simp)) (BU AR (by simp)) My) BC) BC) ?bk2
   case bk2=>rfl
  case bk=>rfl
theorem Th{m:Nat}{b:Bd}{f0 f1:List (List AO)}{own T:List AO}{e:Ex}{K:Nat}{σ:St}{rws:AO->List AO}(h:∀q∈own,RowsIs ⟨m,b.up0,b.up1⟩ e [(sX,[q])] K (rws q)/\∀r∈rws q,r∈T)(n:Nat):
 EI (n+K+30) (CA "law" 10) (lE (Bv m b f0 f1 own e) [Ac m,BV T]) σ=some (.next,lE (Bv m b f0 f1 own e) [Ac m,BV T],σ):=by
 refine' DN rfl (AT rfl (AA rfl) rfl) (Dg (φ:=AD) (s:=(lE (Bv m b f0 f1 own e) [Ac m,BV T],σ)) own λq hq=> ?step)
 case step=>
  obtain⟨h1,h2⟩:=h q hq
  refine' BT (ρ1:=lE (Bv m b f0 f1 own e++[(Str.ofString "row",.d (AD q))]) [Ac m,BV T]) rfl (AW (ρ₁:=lE (Bv m b f0 f1 own e++[(Str.ofString "row",.d (AD q))]) [Ac m,BV T]) (σ₁:=σ) (F7 (c:=false) (ρ₁:=lE (Bv m b f0 f1 own e++[(Str.ofString "row",.d (AD q))]) [Ac m,BV T]) (σ₁:=σ) (AJ (Ar (ρ₁:=lE (Bv m b f0 f1 own e++[(Str.ofString "row",.d (AD q))]) [Ac m,BV T]) rfl (AT rfl (AE rfl rfl rfl (AN (AB rfl (AA rfl) (AB rfl (K8 (own:=[q]) rfl (C3 AG rfl (Ei rfl rfl (QB _ _)) (C3 AG rfl (Ei rfl rfl (RT _ _ _)) (C3 AY rfl (AA rfl) (C3 AY rfl (BU (AF rfl (AA rfl) AR) (by simp)) N9))))) AH)) rfl rfl rfl (h1 _ _ (by omega)) rfl)) rfl) rfl
   (Jv h2 λr hr=>Bz rfl rfl (By (AJ (AA rfl) (AA rfl) (Hd r T))) (λ_=>AA rfl) rfl rfl) (by simp)) (BU AR (by simp)) My) BC) BC) ?bk
  case bk=>rfl
theorem LB:∀(k:Nat)(d:D),AL k d=true->∀w∈A3 d,PyData.strOk w=true
 |k,.tup xs,h,w,hw=>by
  cases k with
  |zero=>simp[AL] at h
  |succ k=>
   unfold AL at h
   simp only[and_eq_true,all_eq_true,decide_eq_true_eq] at h
   rw[Cm] at hw
   rcases mem_append.mp hw with hw|hw
   ·cases xs with
    |nil=>cases hw
    |cons x xs=>
     obtain⟨b,_,h1,h2⟩:=isStr (h.2 x (mem_cons_self ..)) xs
     cases b with
     |true=>
      obtain⟨s,rfl,hs⟩:=h1 rfl
      rw[hs] at hw
      have:=h.2 _ (mem_cons_self ..)
      rw[mem_singleton.mp hw]
      cases k<;>exact this
     |false=>rw[h2 rfl] at hw;cases hw
   ·have:∀l:List D,(∀x∈l,AL k x=true)->w∈Ca l->PyData.strOk w=true:=by
     intro l
     induction l with
     |nil=>intro _ hw;rw[Cw] at hw;cases hw
     |cons x l ih=>
      intro hl hw
      rw[B8] at hw
      rcases mem_append.mp hw with hw|hw
      ·exact LB k x (hl x (mem_cons_self ..)) w hw
      ·exact ih (λy hy=>hl y (mem_cons_of_mem _ hy)) hw
    exact this xs h.2 hw
 |k,.int _,h,w,hw=>by rw[GB] at hw;cases hw
 |k,.str _,h,w,hw=>by rw[Cv] at hw;cases hw
 |k,.none,h,w,hw=>by cases k<;>simp[AL] at h
 |k,.bool _,h,w,hw=>by cases k<;>simp[AL] at h
 |k,.list _,h,w,hw=>by cases k<;>simp[AL] at h
 |k,.dict _,h,w,hw=>by cases k<;>simp[AL] at h
 |k,.dictT _,h,w,hw=>by cases k<;>simp[AL] at h
 |k,.range _ _,h,w,hw=>by cases k<;>simp[AL] at h
 |k,.univ _ _,h,w,hw=>by cases k<;>simp[AL] at h
 |k,.bnds _ _ _,h,w,hw=>by cases k<;>simp[AL] at h
 |k,.feed,h,w,hw=>by cases k<;>simp[AL] at h
theorem Ii(w:Str):∀l:List Str,Cl (.str w) (l.map .str)=decide (w∈l)
 |[]=>rfl
 |x::l=>by
  rw[map_cons]
  unfold Cl
  rw[Ii w l,Ea]
  by_cases h1:x=w
  ·subst h1;simp
  ·simp[h1,Ne.symm h1]
theorem Nt{w:Str}(h:PyData.strOk w=true):Av .In (.str w) (.tup [.str (Str.ofString "minus"),.str (Str.ofString "override"),.str (Str.ofString "either"),.str (Str.ofString "comp")])=some (decide (w∈fourW)):=by
 have e:Av .In (.str w) (.tup (fourW.map .str))=if D.ok 20 (.str w)&&(fourW.map D.str).all (D.ok 20) then some (Cl (.str w) (fourW.map .str)) else none:=rfl
 have h1:D.ok 20 (.str w)=true:=h
 have h2:(fourW.map D.str).all (D.ok 20)=true:=by
  rw[all_eq_true]
  intro x hx
  obtain⟨y,hy,rfl⟩:=mem_map.mp hx
  unfold fourW at hy
  simp only[mem_cons,List.mem_nil_iff,or_false] at hy
  rcases hy with rfl|rfl|rfl|rfl<;>exact Fi rfl
 rw[h1,h2,Ii] at e
 exact e
theorem RH{w:Str}{l:List Str}(h:∀x∈w::l,PyData.strOk x=true):Av .NotEq (As (w::l)) (.list [])=some true:=by
 have e:Av .NotEq (As (w::l)) (.list [])=(if D.ok 20 (As (w::l))&&D.ok 20 (.list []) then some (D.beq (As (w::l)) (.list [])) else none).map (!·):=rfl
 have h1:D.ok 20 (As (w::l))=true:=by
  unfold As
  rw[D.ok,all_eq_true]
  intro x hx
  obtain⟨y,hy,rfl⟩:=mem_map.mp hx
  exact h y hy
 have h2:D.ok 20 (.list [])=true:=rfl
 have h3:D.beq (As (w::l)) (.list [])=false:=by
  unfold As
  rw[map_cons,D.beq,D.beqL]<;>simp
 rw[e,h1,h2,h3];rfl
theorem Tg{m:Nat}{b:Bd}{f0 f1:List (List AO)}{own T:List AO}{e:Ex}{K:Nat}{σ:St}{ws:List Str}(hw:∀N σ,K<=N->AQ N (Str.ofString "_law_words") [e.toD] σ=some (As ws,σ))(hok:∀w∈ws,PyData.strOk w=true)(hl:ws.length<=50000)(n:Nat):
 ((∀w∈ws,w∉fourW)/\EI (n+K+30) (CA "law" 11) (lE (Bv m b f0 f1 own e) [Ac m,BV T]) σ=some (.next,lE (Bv m b f0 f1 own e) [Ac m,BV T],σ))\/∃ρ',EI (n+K+30) (CA "law" 11) (lE (Bv m b f0 f1 own e) [Ac m,BV T]) σ=some (.ret (.bool true),ρ',σ):=by
 have hfl:=length_filter_le (λw=>decide (w∈fourW)) ws
 have comp:∀(f:D->Ev×St->Option (List D×Ev×St)) st,(∀w∈ws,f (.str w) st=some (if decide (w∈fourW) then [.str w] else [],st))->CW f (ws.map .str) st=some ((ws.filter λw=>decide (w∈fourW)).map .str,st):=λf st h=>DD (λw=>decide (w∈fourW)) .str ws h
 cases hq:ws.filter λw=>decide (w∈fourW) with
 |nil=>
  rw[hq] at comp
  refine .inl ⟨λw hw' hin=> ?_,?_⟩
  ·rw[List.filter_eq_nil_iff] at hq
   exact hq w hw' (decide_eq_true hin)
  ·refine' F7 (c:=false) (ρ₁:=lE (Bv m b f0 f1 own e) [Ac m,BV T]) (σ₁:=σ) (AJ (Ar (ρ₁:=lE (Bv m b f0 f1 own e) [Ac m,BV T]) rfl (AT rfl (AE rfl rfl rfl (AN (AB rfl (AA rfl) AH) rfl rfl rfl (hw _ _ (by omega)) rfl)) rfl) rfl (comp _ _ λw hw'=>Bz rfl rfl (By (AJ (AA rfl) (Aj (AF rfl AY (AF rfl AY (AF rfl AY (AF rfl AY AR)))) (by simp)) (Nt (hok w hw')))) (λ_=>AA rfl) rfl rfl) (by simp)) (BU AR (by simp)) My) ?z
   case z=>exact BC
 |cons w0 l0=>
  rw[hq] at comp
  have hne:=RH (w:=w0) (l:=l0) λx hx=>by
   rw[<-hq] at hx
   exact hok x (mem_filter.mp hx).1
  have hl2:((w0::l0).map D.str).length<=100000:=by rw[length_map,<-hq];omega
  refine' .inr ⟨lE (Bv m b f0 f1 own e) [Ac m,BV T],F7 (c:=true) (ρ₁:=lE (Bv m b f0 f1 own e) [Ac m,BV T]) (σ₁:=σ) (AJ (Ar (ρ₁:=lE (Bv m b f0 f1 own e) [Ac m,BV T]) rfl (AT rfl (AE rfl rfl rfl (AN (AB rfl (AA rfl) AH) rfl rfl rfl (hw _ _ (by omega)) rfl)) rfl) rfl (comp _ _ λw hw'=>Bz rfl rfl (By (AJ (AA rfl) (Aj (AF rfl AY (AF rfl AY (AF rfl AY (AF rfl AY AR)))) (by simp)) (Nt (hok w hw')))) (λ_=>AA rfl) rfl rfl) hl2) (BU AR (by simp)) hne) ?z⟩
  case z=>exact Bs (AS Dm)
theorem Tf{m:Nat}{b:Bd}{f0 f1:List (List AO)}{own T:List AO}{e:Ex}{K:Nat}{σ:St}(h:RowsIs ⟨m,b.up0,b.up1⟩ e [(sX,own)] K T)(hl:T.length<=1000)(n:Nat):
 EI (n+K+30) (CA "law" 12) (lE (Bv m b f0 f1 own e) [Ac m,BV T]) σ=some (.ret (.bool true),lE (Bv m b f0 f1 own e) [Ac m,BV T],σ):=by
 have heq:=EJ T T
 rw[decide_eq_true rfl] at heq
 exact AS (Hu (AE rfl rfl rfl (BJ (b:= "list") (AB rfl (AA rfl) AH) rfl rfl (FO _ (by rw[length_map];omega)))) (AE rfl rfl rfl (AN (AB rfl (AA rfl) (AB rfl (K8 rfl (C3 AG rfl (Ei rfl rfl (QB _ _)) (C3 AG rfl (Ei rfl rfl (RT _ _ _)) (C3 AY rfl (AA rfl) (C3 AY rfl (AA rfl) N9))))) AH)) rfl rfl rfl (h _ _ (by omega)) rfl)) heq)
theorem RR(cells:List Int)(hc:cells.length<=100):∃ρ' σ',Br 490 ((AU "law").body.drop 1) (lE [B3] []) (cells,0)=some (.ret (.bool true),ρ',σ'):=by
 obtain⟨m,hm,h1⟩:=Uz cells hc
 obtain⟨lo0,up0,f0,lo1,up1,f1,t0,t1,h4⟩:=Uw hm hc
 generalize hb:T0 m lo0 up0 lo1 up1=b at h4
 have bm:b.m=m:=by rw[<-hb];rfl
 have b0:b.up0=up0:=by rw[<-hb];rfl
 have b1:b.up1=up1:=by rw[<-hb];rfl
 obtain⟨own,oOwn,h5⟩:=Uv hm hc b f0 f1
 obtain⟨e,k,s',hk,ge,h6⟩:=Uu (m:=m) hc b f0 f1 own
 have hm3:b.m<=3:=by omega
 have hm2:2<=b.m:=by omega
 have ok0:RelOk b.m 1 b.up0:=by rw[bm,b0];exact t0.okUp
 have ok1:RelOk b.m 2 b.up1:=by rw[bm,b1];exact t1.okUp
 have okOwn:RelOk b.m 1 own:=by rw[bm];exact oOwn
 have lOwn:=okOwn.len12 hm3 (.inl rfl)
 have fu:=ge.fu
 have fr:=ge.fr
 have fr3:L9 3=440:=rfl
 have look:∀rs:List AO,([(sX,rs)]:VE).lookup sX=some rs:=λrs=>by simp
 have uE:UEnv b [(sX,own)] [sX]:=λx hx=>by
  rw[mem_singleton.mp hx]
  exact⟨own,look own,okOwn⟩
 obtain⟨upIs,okT⟩:=BS hm2 hm3 ok0 ok1 e k [sX] [(sX,own)] ge.wt uE (by simp;omega)
 generalize hT:Bt b e [(sX,own)]=T at upIs okT
 have lT:=okT.len12 hm3 hk
 have DH:∀(f g q:List AO),RelOk b.m 1 f->RelOk b.m 2 g->RelOk b.m 1 q->(∀r∈f,r∈b.up0)->(∀r∈g,r∈b.up1)->(∀r∈q,r∈own)->RowsIs ⟨m,f,g⟩ e [(sX,q)] e.fr (AX ⟨m,f,g⟩ e [(sX,q)])/\∀r∈AX ⟨m,f,g⟩ e [(sX,q)],r∈T:=by
  intro f g q hf hg hq sf sg sq
  have hfm:RelOk m 1 f:=by rw[<-bm];exact hf
  have hgm:RelOk m 2 g:=by rw[<-bm];exact hg
  have hqm:RelOk m 1 q:=by rw[<-bm];exact hq
  refine⟨(Aw (R:=⟨m,f,g⟩) (by show 2<=m;omega) (by show m<=3;omega) hfm hgm e k [sX] [(sX,q)] ge.wt (λx hx=> ?_) (by simp;omega)).1,?_⟩
  ·rw[mem_singleton.mp hx]
   exact⟨by decide,q,look q,hqm⟩
  ·rw[<-hT]
   refine BZ (R:=⟨m,f,g⟩) hm2 hm3 ok0 ok1 bm.symm sf sg e k [sX] [(sX,q)] [(sX,own)] ge.wt (λx hx=> ?_) (by simp;omega)
   rw[mem_singleton.mp hx]
   exact⟨q,own,look q,look own,sq,okOwn⟩
 have nd:=ge.nd
 have nw:=ge.nw
 have w3:wB 3=108:=rfl
 obtain⟨xs,hxs⟩:∃xs,e.toD= .tup xs:=by cases e<;>exact⟨_,by rw[Ex.toD]⟩
 have hws:∀N σ,320<=N->AQ N (Str.ofString "_law_words") [e.toD] σ=some (As (A3 e.toD),σ):=λN σ hN=>by
  rw[hxs] at nd nw⊢
  exact IF 12 xs nd (by omega) (by omega) N σ (by omega)
 have h7:=Ut (m:=m) (f0:=f0) (f1:=f1) (σ:=(cells,s')) lOwn upIs (463 -e.fu)
 rw[show 463 -e.fu+e.fu+20=483 by omega] at h7
 have h8:=Us (m:=m) (f0:=f0) (f1:=f1) (own:=own) (e:=e) (σ:=(cells,s')) hk hm3 okT (ok0.len12 hm3 (.inl rfl)) (ok1.len12 hm3 (.inr rfl)) 422
 have h9:=Ur (m:=m) (b:=b) (f0:=f0) (f1:=f1) (own:=own) (T:=T) (e:=e) (K:=e.fr) (σ:=(cells,s')) (rws:=λf g=>AX ⟨m,f,g⟩ e [(sX,own)]) (λf hf g hg=>by
  obtain⟨p1,p2⟩:=t0.okFs f hf
  obtain⟨q1,q2⟩:=t1.okFs g hg
  exact DH f g own (by rw[bm];exact p1) (by rw[bm];exact q1) okOwn (by rw[b0];exact p2) (by rw[b1];exact q2) (λr h=>h)) (451 -e.fr)
 rw[show 451 -e.fr+e.fr+30=481 by omega] at h9
 have h10:=Th (m:=m) (b:=b) (f0:=f0) (f1:=f1) (own:=own) (T:=T) (e:=e) (K:=e.fr) (σ:=(cells,s')) (rws:=λq=>AX ⟨m,b.up0,b.up1⟩ e [(sX,[q])]) (λq hq=>DH b.up0 b.up1 [q] ok0 ok1 (okOwn.one hq) (λr h=>h) (λr h=>h) (λr h=>by rw[mem_singleton.mp h];exact hq)) (450 -e.fr)
 rw[show 450 -e.fr+e.fr+30=480 by omega] at h10
 have h11:=Tg (m:=m) (b:=b) (f0:=f0) (f1:=f1) (own:=own) (T:=T) (e:=e) (K:=320) (σ:=(cells,s')) hws (LB _ _ nd) (by omega) 129
 have h2:=Uy (m:=m) (by omega) (σ:=(cells,1)) 428
 have h3:=Ux (m:=m) hm (σ:=(cells,1)) 427
 have eb:(AU "law").body.drop 1=[CA "law" 1,CA "law" 2,CA "law" 3,CA "law" 4,CA "law" 5,CA "law" 6,CA "law" 7,CA "law" 8,CA "law" 9,CA "law" 10,CA "law" 11,CA "law" 12]:=rfl
 rw[eb]
 have tail:∃ρ' σ',Br 480 [CA "law" 11,CA "law" 12] (lE (Bv m b f0 f1 own e) [Ac m,BV T]) (cells,s')=some (.ret (.bool true),ρ',σ'):=by
  rcases h11 with ⟨hno,h11⟩|⟨ρ',h11⟩
  ·have pure:=CB e k [sX] ge.wt hno
   have heq:AX ⟨m,b.up0,b.up1⟩ e [(sX,own)]=T:=by
    rw[<-hT]
    exact Cs (R:=⟨m,b.up0,b.up1⟩) bm.symm rfl rfl (λx _=>rfl) e k ge.wt pure
   have hr:=(DH b.up0 b.up1 own ok0 ok1 okOwn (λr h=>h) (λr h=>h) (λr h=>h)).1
   rw[heq] at hr
   have h12:=Tf (m:=m) (f0:=f0) (f1:=f1) (b:=b) (own:=own) (σ:=(cells,s')) hr (by omega) (448 -e.fr)
   rw[show 448 -e.fr+e.fr+30=478 by omega] at h12
   exact⟨_,_,AW h11 (Bs h12)⟩
  ·exact⟨_,_,Bs h11⟩
 obtain⟨ρ',σ',tail⟩:=tail
 exact⟨ρ',σ',AW (h1 429) (AW h2 (AW h3 (AW (h4 356) (AW (h5 405) (AW (h6 234) (AW h7 (AW h8 (AW h9 (AW h10 tail)))))))))⟩
theorem plain(is:List Int)(h:is.length<=63):∃n σ',n<=500/\GK n is=some (.ret (.bool true),σ'):=by
 obtain⟨ρ',σ',h⟩:=RR (is.take 50) (by rw[List.length_take];omega)
 refine⟨490,σ',by omega,?_⟩
 unfold GK
 have e:(⟨(AU "law").names,[(Str.ofString "feed",.d .feed)],[]⟩:Ev)=lE [B3] []:=rfl
 rw[e,h];rfl
end Nz
theorem PySem.Challenge.cw_nz0389_01_holds : PySem.Challenge.rw_nz0389_01.Holds :=
  Nz.fin_of Nz.plain
