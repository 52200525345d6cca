/- db of this claim: F. -/
import Derived.Test.YtbmmihfagmchaaaGreatRaD
import Derived.Test.YtbmmihfagmchaaaGreatRaV4
set_option linter.all false
namespace Go.Proofs.YtbmmihfagmchaaaGreat
open Go

def sX(k:Int):Option Bool:=
 some (((k==(1:Int))||(k==(2:Int)))||(k==(3:Int)))

def jl(k:Int):Option Bool:=
 (sX k).bind fun r=>
 some (!r)

def fA(f:(Int->Option Bool)):List Int->Nat->Option Int
 |[],i=>
  some (-1:Int)
 |e::tl,i=>
  (f e).bind fun r=>
  if r then
  (some (i:Int))
  else
  ((fA f tl) (i+1))

def jX(s:(List Int))(f:(Int->Option Bool)):Option Int:=
 fA f s 0

def fB(s:(List Int))(f:(Int->Option Bool)):Option Bool:=
 (jX s f).bind fun r=>
 some (decide ((0:Int)<=r))

def ie(c:aw)(n:an):Option ((List Int)×Bool):=
  (if((((decide ((0:Int)<=n.Table))&&(decide (n.Table<(4:Int))))&&(decide ((1:Int)<=(n.Kinds.length:Int))))&&(decide ((n.Kinds.length:Int)<=(4:Int))))then((fB n.Kinds jl).bind fun r=>
  some (!r))else some false).bind fun t=>
  some (n.Kinds,t)

def hU(s:List Int):Option (List Int):=
 some s

def kJ(n:Int):Option (List Int):=
  if(decide ((0:Int)<(IntKind.i64.wrap (n-(IntKind.i64.wrap ((0:Int)-(0:Int)))))))then
  ((IA (IntKind.i64.wrap (n-(IntKind.i64.wrap ((0:Int)-(0:Int)))))).bind fun _=>
  (wD (IntKind.i64.wrap (n-(IntKind.i64.wrap ((0:Int)-(0:Int))))) (0:Int)).bind fun mk=>
  (cW mk 0 (0:Int)).bind fun y=>
  hU y)
  else
  (hU ([]:List Int))

def mu(n:Int):Option (List Int):=
 if(decide (n<(0:Int)))then
 (none)
 else
 (kJ n)

def gA:List (List Int)->(List Int)->Option (List Int)
 |[],newslice=>
  some newslice
 |e1::tl1,newslice=>
  (kF newslice e1).bind fun newslice1=>
  (gA tl1) newslice1

def gB(slices:(List (List Int))):List (List Int)->Int->Option (List Int)
 |[],size=>
  (mu size).bind fun r=>
  gA slices r
 |e::tl,size=>
  if(decide ((IntKind.i64.wrap (size+(e.length:Int)))<(0:Int)))then
  (none)
  else
  ((gB slices tl) (IntKind.i64.wrap (size+(e.length:Int))))

def iJ(slices:(List (List Int))):Option (List Int):=
 gB slices slices (0:Int)

def lw(tag:Int):Option Int:=
  if((tag==(1:Int))||(tag==(2:Int)))then
  (some (0:Int))
  else
  (if((decide ((4:Int)<=tag))&&(decide (tag<=(7:Int))))then
  (some (1:Int))
  else
  (if((decide ((12:Int)<=tag))&&(decide (tag<=(23:Int))))then
  (some (2:Int))
  else
  (some (-1:Int))))

def fR(v1:bT):Option bT:=
 some v1

def kI(v2:bT):Option bT:=
 fR (bT.mk (0:Int) v2.N v2.U v2.S)

def kH(v:bT):Option bT:=
 kI (bT.mk v.Kind (0:Int) v.U v.S)

def kG(v3:bT):Option bT:=
 fR v3

def pw(v:bT):Option bT:=
  if(v.Kind==(1:Int))then
  (if((v.N !=(0:Int))&&(v.N !=(1:Int)))then
  (fR v)
  else
  (kH v))
  else
  (if(v.Kind==(2:Int))then
  (kH v)
  else
  (if(v.Kind==(0:Int))then
  (kI v)
  else
  (if(v.Kind==(3:Int))then
  (if(decide ((v.S.length:Int)<=(40:Int)))then
  (kG (bT.mk (0:Int) v.N v.U ([])))
  else
  (kG v))
  else
  (if(v.Kind==(4:Int))then
  (fR (bT.mk (0:Int) (0:Int) (0:Int) v.S))
  else
  (fR v)))))

def nm(v:bT):Option Int:=
 (pw v).bind fun r=>
 if(!decide (r=(⟨(0:Int),(0:Int),(0:Int),[]⟩:bT)))then
 (some (120:Int))
 else
 (some (0:Int))

def nl(v:bT):Option Bool:=
 (nm v).bind fun r=>
 some ((r==(0:Int))&&(v.Kind !=(4:Int)))

def nL(n:aj):Option Bool:=
  if(n.Tag==(1:Int))then
  ((nl n.Value).bind fun r=>
  some (r&&(n.Col==(0:Int))))
  else
  (if(n.Tag==(2:Int))then
  (some (((decide (n.Value=(⟨(0:Int),(0:Int),(0:Int),[]⟩:bT)))&&(decide ((0:Int)<=n.Col)))&&(decide (n.Col<(16:Int)))))
  else
  (some ((decide (n.Value=(⟨(0:Int),(0:Int),(0:Int),[]⟩:bT)))&&(n.Col==(0:Int)))))

def hD(nx:Nat->(List Int)->(List Int)->Option ((List Int)×Bool))(i:Nat)(e1:aj)(all:List Int)(open1:List Int)(r:Int):List Int->Nat->Int->(List Int)->Option ((List Int)×Bool)
  |[],i1,first,at1=>
    if(!decide (at1=([e1.L,e1.R])))then
    (some ([],false))
    else
    ((kF all ([first])).bind fun all1=>
    (cW open1 0 (IntKind.i64.wrap ((open1.length:Int)-r))).bind fun y1=>
    (kF y1 ([(i:Int)])).bind fun open2=>
    nx (i+1) all1 open2)
  |e2::tl1,i1,first,at1=>
    (eG all e2).bind fun e3=>
    (eG at1 (i1:Int)).bind fun e4=>
    (some (at1.set (i1:Int).toNat e2)).bind fun ar=>
    (hD nx i e1 all open1 r tl1) (i1+1) (min first e3) ar

def fX:List aj->Nat->(List Int)->(List Int)->Option ((List Int)×Bool)
  |[],i,all,open1=>
    some (all,(((open1.length:Int)==(1:Int))&&(decide ((all.length:Int)<=(1000:Int)))))
  |e1::tl,i,all,open1=>
    (lw e1.Tag).bind fun r=>
    (if(!((decide (r<(0:Int)))||(decide ((open1.length:Int)<r))))then((nL e1).bind fun r1=>
    some (!r1))else some true).bind fun t=>
    if t then
    (some ([],false))
    else
    ((cW open1 (IntKind.i64.wrap ((open1.length:Int)-r)) (open1.length:Int)).bind fun y=>
    hD (fX tl) i e1 all open1 r y 0 (i:Int) ([(-1:Int),(-1:Int)]))

def lU(e:af):Option ((List Int)×Bool):=
 fX e.Nodes 0 ([]:List Int) ([]:List Int)

def iq(e:af):Option Int:=
 (lU e).bind fun r=>
 if(!r.2)then
 (some (200:Int))
 else
 (some (0:Int))

def cR(i:Nat)(y:List Int):Nat->Nat->(List Int)->Int->Option (List Int)
  |0,i1,s1,k=>
    (cW s1 k (s1.length:Int)).bind fun y1=>
    (some (s1.take k.toNat++List.replicate y1.length (0:Int))).bind fun cl=>
    (cW cl 0 k).bind fun y2=>
    some y2
  |k2+1,i1,s1,k=>
    (vA s1 (i:Int) y.length (i1:Int)).bind fun e3=>
    (vA s1 (i:Int) y.length (IntKind.i64.wrap ((i1:Int)-(1:Int)))).bind fun e4=>
    if(e3 !=e4)then
    ((vA s1 (i:Int) y.length (i1:Int)).bind fun e5=>
    (eG s1 k).bind fun e6=>
    (some (s1.set k.toNat e5)).bind fun st=>
    (cR i y k2) (i1+1) st (IntKind.i64.wrap (k+(1:Int))))
    else
    ((cR i y k2) (i1+1) s1 k)

def di(s:(List Int)):List Int->Nat->Option (List Int)
  |[],i=>
    some s
  |e::tl,i=>
    (eG s (IntKind.i64.wrap ((i:Int)-(1:Int)))).bind fun e1=>
    if(e==e1)then
    ((cW s (i:Int) (s.length:Int)).bind fun y=>
    cR i y (y.length-1) 1 s (i:Int))
    else
    ((di s tl) (i+1))

def fC(s:(List Int)):Option (List Int):=
 if(decide ((s.length:Int)<(2:Int)))then
 (some s)
 else
 (di s (s.drop (1)) 1)

def ip:List aj->(List Int)->Option (List Int)
  |[],out=>
    (ub out).bind fun srt=>
    (fC srt).bind fun r1=>
    some r1
  |e1::tl,out=>
    if(e1.Tag==(2:Int))then
    ((kF out ([e1.Col])).bind fun out1=>
    (ip tl) out1)
    else
    ((ip tl) out)

def lz(e:af):Option (List Int):=
 (iq e).bind fun r=>
 if(r !=(0:Int))then
 (some ([]:List Int))
 else
 (ip e.Nodes ([]:List Int))

def cK(s:(List Int)):Option (List Int):=
 (kF ([]:List Int) s).bind fun x=>
 some x

def o9(stack:(List Int))(k:Int):Option ((List Int)×(List Int)):=
 (cW stack (IntKind.i64.wrap ((stack.length:Int)-k)) (stack.length:Int)).bind fun y=>
 (cK y).bind fun r=>
 (cW stack 0 (IntKind.i64.wrap ((stack.length:Int)-k))).bind fun y1=>
 some (r,y1)

def ly(bad:Int)(stack:List Int):Option (Int×Int):=
  if(bad !=(0:Int))then
  (some ((0:Int),bad))
  else
  ((eG stack (0:Int)).bind fun e1=>
  some (e1,(0:Int)))

def lx(do1:(aj->(List Int)->Option (Int×Int))):List aj->Int->(List Int)->Option (Int×Int)
  |[],bad1,stack1=>
    ly bad1 stack1
  |e2::tl,bad1,stack1=>
    (lw e2.Tag).bind fun r=>
    (o9 stack1 r).bind fun r1=>
    (do1 e2 r1.1).bind fun r2=>
    if(r2.2 !=(0:Int))then
    (ly r2.2 r1.2)
    else
    ((kF r1.2 ([r2.1])).bind fun l2=>
    (lx do1 tl) bad1 l2)

def qt(e:af)(do1:(aj->(List Int)->Option (Int×Int))):Option (Int×Int):=
 lx do1 e.Nodes (0:Int) ([]:List Int)

def mp(tag:Int):Option Bool:=
 some ((tag==(4:Int))||((decide ((12:Int)<=tag))&&(decide (tag<=(15:Int)))))

def jn(kinds:(List Int))(n:aj):List Int->Int->Option (Int×Int)
  |[],own=>
    if(n.Tag==(1:Int))then
    (some (n.Value.Kind,(0:Int)))
    else
    (if(n.Tag==(2:Int))then
    ((eG kinds n.Col).bind fun e1=>
    some (e1,(0:Int)))
    else
    ((mp n.Tag).bind fun r=>
    if r then
    (if((own==(-1:Int))||((own !=(0:Int))&&(own !=(2:Int))))then
    (some ((0:Int),(201:Int)))
    else
    (some ((2:Int),(0:Int))))
    else
    (if(((n.Tag==(5:Int))||(n.Tag==(22:Int)))||(n.Tag==(23:Int)))then
    (if((own==(-1:Int))||((own !=(0:Int))&&(own !=(1:Int))))then
    (some ((0:Int),(201:Int)))
    else
    (some ((1:Int),(0:Int))))
    else
    (if((own==(-1:Int))||((own !=(0:Int))&&(own !=own)))then
    (some ((0:Int),(201:Int)))
    else
    (some ((1:Int),(0:Int)))))))
  |e::tl,own=>
    if((e==(0:Int))||(e==own))then
    ((jn kinds n tl) own)
    else
    (if(own==(0:Int))then
    ((jn kinds n tl) e)
    else
    ((jn kinds n tl) (-1:Int)))

def pP(kinds:(List Int))(n:aj)(l:(List Int)):Option (Int×Int):=
 jn kinds n l (0:Int)

def oX(e:af)(kinds:(List Int)):List Int->Option (Int×Int)
 |[]=>
  (qt e (pP kinds)).bind fun r2=>
  some (r2.1,r2.2)
 |e2::tl1=>
  if(decide ((kinds.length:Int)<=e2))then
  (some ((0:Int),(2:Int)))
  else
  ((oX e kinds tl1))

def oY(e:af)(kinds:(List Int)):List Int->Option (Int×Int)
 |[]=>
  (lz e).bind fun r1=>
  oX e kinds r1
 |e1::tl=>
  if((decide (e1<(0:Int)))||(decide ((3:Int)<e1)))then
  (some ((0:Int),(2:Int)))
  else
  ((oY e kinds tl))

def qb(e:af)(kinds:(List Int)):Option (Int×Int):=
 (iq e).bind fun r=>
 if(r !=(0:Int))then
 (some ((0:Int),r))
 else
 (oY e kinds kinds)

def pG(e:af)(kinds:(List Int)):Option Bool:=
 (qb e kinds).bind fun r=>
 some ((r.2==(0:Int))&&((r.1==(1:Int))||(r.1==(0:Int))))

def ig(c:aw)(n:an):Option ((List Int)×Bool):=
 (eG c.kinds n.A).bind fun e=>
 (eG c.kinds n.B).bind fun e1=>
 (iJ ([e,e1])).bind fun r=>
 (pG n.Cond r).bind fun r1=>
 some (r,r1)

def gr(c:aw)(n:an):Option ((List Int)×Bool):=
 (eG c.kinds n.A).bind fun e=>
 (pG n.Cond e).bind fun r=>
 some (e,r)

def m0(kinds:(List Int))(c:Int):Option Bool:=
 some ((decide (c<(0:Int)))||(decide ((kinds.length:Int)<=c)))

def ru(l:(List Int))(kinds:(List Int)):Option Bool:=
 (fB l (m0 kinds)).bind fun r=>
 some (!r)

def oN(r:Int×Int)(x:Bool):Option (Int×Bool):=
 if x then
 (some (r.1,(r.2==(0:Int))))
 else
 (some ((0:Int),false))

def vU(a1:sI)(kinds:(List Int)):Option (Int×Bool):=
  if(a1.Tag==(1:Int))then
  (some ((2:Int),((a1.Arg.Nodes.length:Int)==(0:Int))))
  else
  ((qb a1.Arg kinds).bind fun r=>
  if(a1.Tag==(2:Int))then
  (some ((2:Int),(r.2==(0:Int))))
  else
  (if(a1.Tag==(3:Int))then
  (some ((2:Int),((r.2==(0:Int))&&((r.1==(2:Int))||(r.1==(0:Int))))))
  else
  (if(a1.Tag==(4:Int))then
  (oN r (a1.Tag==(4:Int)))
  else
  (oN r (a1.Tag==(5:Int))))))

def ii(e:(List Int)):List sI->(List Int)->Bool->Option ((List Int)×Bool)
 |[],out1,ok=>
  some (out1,ok)
 |e2::tl1,out1,ok=>
  (vU e2 e).bind fun r1=>
  (kF out1 ([r1.1])).bind fun out2=>
  (ii e tl1) out2 (ok&&r1.2)

def ij(n:an)(e:(List Int))(t:Bool):List Int->(List Int)->Option ((List Int)×Bool)
 |[],out=>
  ii e n.Aggs out t
 |e1::tl,out=>
  (eG e e1).bind fun e3=>
  (kF out ([e3])).bind fun out3=>
  (ij n e t tl) out3

def gP(c:aw)(n:an):Option ((List Int)×Bool):=
  (eG c.kinds n.A).bind fun e=>
  (if(((decide ((n.Keys.length:Int)<=(3:Int)))&&(decide ((n.Aggs.length:Int)<=(12:Int))))&&(decide ((0:Int)<(IntKind.i64.wrap ((n.Keys.length:Int)+(n.Aggs.length:Int))))))then((ru n.Keys e).bind fun r=>
  some r)else some false).bind fun t=>
  if(!t)then
  (some ([],false))
  else
  (ij n e t n.Keys ([]:List Int))

def gE(c:aw)(n:an):List af->(List Int)->Bool->Option ((List Int)×Bool)
 |[],out,ok=>
  some (out,ok)
 |e::tl,out,ok=>
  (eG c.kinds n.A).bind fun e1=>
  (qb e e1).bind fun r=>
  (kF out ([r.1])).bind fun out1=>
  (gE c n tl) out1 (ok&&(r.2==(0:Int)))

def f7(c:aw)(n:an):Option ((List Int)×Bool):=
 gE c n n.Items ([]:List Int) ((decide ((1:Int)<=(n.Items.length:Int)))&&(decide ((n.Items.length:Int)<=(16:Int))))

def fG(c:aw)(n:an):Option ((List Int)×Bool):=
 (eG c.kinds n.A).bind fun e=>
 some (e,true)

def ic(nx:Nat->(List Int)->Bool->Option ((List Int)×Bool))(i:Nat)(e2:Int)(ok:Bool)(out1:List Int):Option ((List Int)×Bool):=
  (if ok then((eG out1 (i:Int)).bind fun e3=>
  some ((e3==e2)||(e2==(0:Int))))else some false).bind fun t=>
  nx (i+1) out1 t

def ep:List Int->Nat->(List Int)->Bool->Option ((List Int)×Bool)
  |[],i,out,ok=>
    some (out,ok)
  |e2::tl,i,out,ok=>
    (eG out (i:Int)).bind fun e4=>
    if(e4==(0:Int))then
    ((some (out.set (i:Int).toNat e2)).bind fun st=>
    ic (ep tl) i e2 ok st)
    else
    (ic (ep tl) i e2 ok out)

def gN(c:aw)(n:an):Option ((List Int)×Bool):=
  (eG c.kinds n.A).bind fun e=>
  (eG c.kinds n.B).bind fun e1=>
  if((e.length:Int) !=(e1.length:Int))then
  (some ([],false))
  else
  ((cK e).bind fun r=>
  ep e1 0 r true)

def iL(in1:(List Int))(o:ne):Option Bool:=
 some ((decide (o.Col<(0:Int)))||(decide ((in1.length:Int)<=o.Col)))

def dY(f:(ne->Option Bool)):List ne->Nat->Option Int
 |[],i=>
  some (-1:Int)
 |e::tl,i=>
  (f e).bind fun r=>
  if r then
  (some (i:Int))
  else
  ((dY f tl) (i+1))

def gn(s:(List ne))(f:(ne->Option Bool)):Option Int:=
 dY f s 0

def fI(s:(List ne))(f:(ne->Option Bool)):Option Bool:=
 (gn s f).bind fun r=>
 some (decide ((0:Int)<=r))

def gO(c:aw)(n:an):Option ((List Int)×Bool):=
  (eG c.kinds n.A).bind fun e=>
  (if(decide ((n.Order.length:Int)<=(3:Int)))then((fI n.Order (iL e)).bind fun r=>
  some (!r))else some false).bind fun t=>
  some (e,(((t&&(decide ((-1:Int)<=n.Limit)))&&(decide (n.Limit<=(2147483647:Int))))&&((c.kinds.length:Int)==(IntKind.i64.wrap ((c.Logic.Nodes.length:Int)-(1:Int))))))

def uE(n:an):Option Bool:=
 some (((((((((n.Table==(0:Int))&&((n.Kinds.length:Int)==(0:Int)))&&(!n.Left))&&((n.Cond.Nodes.length:Int)==(0:Int)))&&((n.Keys.length:Int)==(0:Int)))&&((n.Aggs.length:Int)==(0:Int)))&&((n.Items.length:Int)==(0:Int)))&&((n.Order.length:Int)==(0:Int)))&&(n.Limit==(0:Int)))

def uF(n:an):Option an:=
  if(n.Op==(1:Int))then
  (some (an.mk n.Op n.A n.B (0:Int) ([]) n.Left n.Cond n.Keys n.Aggs n.Items n.Order n.Limit))
  else
  (if(n.Op==(2:Int))then
  (some (an.mk n.Op n.A n.B n.Table n.Kinds false (⟨[]⟩:af) n.Keys n.Aggs n.Items n.Order n.Limit))
  else
  (if(n.Op==(3:Int))then
  (some (an.mk n.Op n.A n.B n.Table n.Kinds n.Left (⟨[]⟩:af) n.Keys n.Aggs n.Items n.Order n.Limit))
  else
  (if(n.Op==(4:Int))then
  (some (an.mk n.Op n.A n.B n.Table n.Kinds n.Left n.Cond ([]) ([]) n.Items n.Order n.Limit))
  else
  (if(n.Op==(5:Int))then
  (some (an.mk n.Op n.A n.B n.Table n.Kinds n.Left n.Cond n.Keys n.Aggs ([]) n.Order n.Limit))
  else
  (if(n.Op==(8:Int))then
  (some (an.mk n.Op n.A n.B n.Table n.Kinds n.Left n.Cond n.Keys n.Aggs n.Items ([]) (0:Int)))
  else
  (some n))))))

def m1(x:Bool):Option Int:=
 if x then
 (some (2:Int))
 else
 (some (1:Int))

def sY(op:Int):Option Int:=
  if(op==(1:Int))then
  (some (0:Int))
  else
  (if(op==(2:Int))then
  (m1 (op==(2:Int)))
  else
  (m1 (op==(7:Int))))

def mw(c:aw)(i:Int):Option (Int×Bool):=
  (eG c.Logic.Nodes i).bind fun e=>
  (sY e.Op).bind fun r=>
  if(r==(0:Int))then
  (some (i,((e.A==(-1:Int))&&(e.B==(-1:Int)))))
  else
  (if(r==(1:Int))then
  (if(((e.A !=(IntKind.i64.wrap (i-(1:Int))))||(e.B !=(-1:Int)))||(i==(0:Int)))then
  (some ((0:Int),false))
  else
  ((eG c.first e.A).bind fun e1=>
  some (e1,true)))
  else
  ((if(!((e.B !=(IntKind.i64.wrap (i-(1:Int))))||(i==(0:Int))))then((eG c.first e.B).bind fun e2=>
  some (e.A !=(IntKind.i64.wrap (e2-(1:Int)))))else some true).bind fun t=>
  if(t||(decide (e.A<(0:Int))))then
  (some ((0:Int),false))
  else
  ((eG c.first e.A).bind fun e3=>
  some (e3,true))))

def ik{Sg:Type}(yld:(Int×Bool)->Sg->Option (Bool×Sg))(nx:Nat->Sg->aw->Option (Sg×aw))(i:Nat)(s1:Sg)(ok1:Bool)(kinds:(List Int))(ob2:aw):Option (Sg×aw):=
 (kF ob2.kinds ([kinds])).bind fun l6=>
 (yld ((i:Int),(ok1&&(decide ((kinds.length:Int)<=(16:Int))))) s1).bind fun r2=>
 if((!r2.1)||(!(ok1&&(decide ((kinds.length:Int)<=(16:Int))))))then
 (some (r2.2,({ob2 with kinds:=l6}:aw)))
 else
 (nx (i+1) r2.2 ({ob2 with kinds:=l6}:aw))

def il{Sg:Type}(yld:(Int×Bool)->Sg->Option (Bool×Sg))(nx:Nat->Sg->aw->Option (Sg×aw))(i:Nat)(e2:an)(s1:Sg)(ok:Bool)(ob1:aw):Option (Sg×aw):=
  if ok then
  ((((oL (ge (ge (ge (ge (ge (ge (ge (ge ([]:List (Int×(aw->an->Option (((List Int)×Bool)×aw)))) (1:Int) (fun(mc:aw) (mx:an)=>(ie mc mx).map fun mr=>(mr,mc))) (2:Int) (fun(mc:aw) (mx:an)=>(ig mc mx).map fun mr=>(mr,mc))) (3:Int) (fun(mc:aw) (mx:an)=>(gr mc mx).map fun mr=>(mr,mc))) (4:Int) (fun(mc:aw) (mx:an)=>(gP mc mx).map fun mr=>(mr,mc))) (5:Int) (fun(mc:aw) (mx:an)=>(f7 mc mx).map fun mr=>(mr,mc))) (6:Int) (fun(mc:aw) (mx:an)=>(fG mc mx).map fun mr=>(mr,mc))) (7:Int) (fun(mc:aw) (mx:an)=>(gN mc mx).map fun mr=>(mr,mc))) (8:Int) (fun(mc:aw) (mx:an)=>(gO mc mx).map fun mr=>(mr,mc))) e2.Op).getD (fun _ _=>none)) ob1 (e2)).bind fun r3=>
  ik yld nx i s1 r3.1.2 r3.1.1 r3.2)
  else
  (ik yld nx i s1 ok ([]) ob1)

def dQ{Sg:Type}(yld:(Int×Bool)->Sg->Option (Bool×Sg)):List an->Nat->Sg->aw->Option (Sg×aw)
  |[],i,s1,ob=>
    some (s1,ob)
  |e2::tl,i,s1,ob=>
    (if((oL (ge (ge (ge (ge (ge (ge (ge (ge ([]:List (Int×(aw->an->Option (((List Int)×Bool)×aw)))) (1:Int) (fun(mc:aw) (mx:an)=>(ie mc mx).map fun mr=>(mr,mc))) (2:Int) (fun(mc:aw) (mx:an)=>(ig mc mx).map fun mr=>(mr,mc))) (3:Int) (fun(mc:aw) (mx:an)=>(gr mc mx).map fun mr=>(mr,mc))) (4:Int) (fun(mc:aw) (mx:an)=>(gP mc mx).map fun mr=>(mr,mc))) (5:Int) (fun(mc:aw) (mx:an)=>(f7 mc mx).map fun mr=>(mr,mc))) (6:Int) (fun(mc:aw) (mx:an)=>(fG mc mx).map fun mr=>(mr,mc))) (7:Int) (fun(mc:aw) (mx:an)=>(gN mc mx).map fun mr=>(mr,mc))) (8:Int) (fun(mc:aw) (mx:an)=>(gO mc mx).map fun mr=>(mr,mc))) e2.Op).isSome)then((uF e2).bind fun r=>
    (uE r).bind fun r1=>
    some r1)else some false).bind fun t=>
    if t then
    ((mw ob (i:Int)).bind fun r4=>
    (kF ob.first ([r4.1])).bind fun l7=>
    il yld (dQ yld tl) i e2 s1 r4.2 ({ob with first:=l7}:aw))
    else
    (il yld (dQ yld tl) i e2 s1 t ob)

def jQ{Sg:Type}(c:aw)(yld:(Int×Bool)->Sg->Option (Bool×Sg))(s:Sg):Option (Sg×aw):=
 dQ yld c.Logic.Nodes 0 s c

def nC(c:aw):Option (B8 (Int×Bool) aw):=
 some (fun _=>jQ c)

def qr(x:Int×Bool)(x1:Bool)(x2:Int)(p:Bool):Option (Option Nat×(Bool×Int×Bool)):=
 if(!x.2)then
 (some (some 0,(false,x.1,true)))
 else
 (some (none,(x1,x2,p)))

def oM(l:bB):Option (aw×Int×Bool):=
  if((decide ((l.Nodes.length:Int)<(1:Int)))||(decide ((60:Int)<(l.Nodes.length:Int))))then
  (some ((⟨l,[],[]⟩:aw),(0:Int),false))
  else
  ((nC (⟨l,[],[]⟩:aw)).bind fun it=>
  (it (Option Nat×(Bool×Int×Bool)) (wk (fun x s=>qr x s.1 s.2.1 s.2.2)) (none,(false,(0:Int),false))).bind fun r=>
  if r.1.1.isNone then
  ((eG r.2.first (IntKind.i64.wrap ((l.Nodes.length:Int)-(1:Int)))).bind fun e=>
  some (r.2,(IntKind.i64.wrap ((l.Nodes.length:Int)-(1:Int))),(e==(0:Int))))
  else
  ((Iy r.1.2.2.2).bind fun _=>
  some (r.2,r.1.2.2.1,r.1.2.1)))

def lS(l:bB):Option (Int×Int):=
 (oM l).bind fun r=>
 if(!r.2.2)then
 (some (r.2.1,(230:Int)))
 else
 (some ((0:Int),(0:Int)))

def bh(s:(List aj)):Option (List aj):=
 (kF ([]:List aj) s).bind fun x=>
 some x

def d5(s:(List ne)):Option (List ne):=
 (kF ([]:List ne) s).bind fun x=>
 some x

def fj(s:(List sI)):Option (List sI):=
 (kF ([]:List sI) s).bind fun x=>
 some x

def cL(s:(List af)):Option (List af):=
 (kF ([]:List af) s).bind fun x=>
 some x

def mg:List af->Nat->an->Option an
 |[],i1,n4=>
  some n4
 |e1::tl1,i1,n4=>
  (eG n4.Items (i1:Int)).bind fun e2=>
  (bh e2.Nodes).bind fun r6=>
  (some (n4.Items.set (i1:Int).toNat ({e2 with Nodes:=r6}:af))).bind fun st=>
  (mg tl1) (i1+1) ({n4 with Items:=st}:an)

def mh:List sI->Nat->an->Option an
 |[],i,n3=>
  mg n3.Items 0 n3
 |e::tl,i,n3=>
  (eG n3.Aggs (i:Int)).bind fun e3=>
  (bh e3.Arg.Nodes).bind fun r7=>
  (some (n3.Aggs.set (i:Int).toNat ({e3 with Arg:=({e3.Arg with Nodes:=r7}:af)}:sI))).bind fun st1=>
  (mh tl) (i+1) ({n3 with Aggs:=st1}:an)

def mi(n2:an):Option an:=
 (cK n2.Kinds).bind fun r=>
 (cK n2.Keys).bind fun r1=>
 (d5 n2.Order).bind fun r2=>
 (bh (((an.mk n2.Op n2.A n2.B n2.Table r n2.Left n2.Cond r1 n2.Aggs n2.Items r2 n2.Limit).Cond).Nodes)).bind fun r3=>
 (fj (({(an.mk n2.Op n2.A n2.B n2.Table r n2.Left n2.Cond r1 n2.Aggs n2.Items r2 n2.Limit)with Cond:=({(an.mk n2.Op n2.A n2.B n2.Table r n2.Left n2.Cond r1 n2.Aggs n2.Items r2 n2.Limit).Cond with Nodes:=r3}:af)}:an).Aggs)).bind fun r4=>
 (cL (({(an.mk n2.Op n2.A n2.B n2.Table r n2.Left n2.Cond r1 n2.Aggs n2.Items r2 n2.Limit)with Cond:=({(an.mk n2.Op n2.A n2.B n2.Table r n2.Left n2.Cond r1 n2.Aggs n2.Items r2 n2.Limit).Cond with Nodes:=r3}:af)}:an).Items)).bind fun r5=>
 mh r4 0 ({({({(an.mk n2.Op n2.A n2.B n2.Table r n2.Left n2.Cond r1 n2.Aggs n2.Items r2 n2.Limit)with Cond:=({(an.mk n2.Op n2.A n2.B n2.Table r n2.Left n2.Cond r1 n2.Aggs n2.Items r2 n2.Limit).Cond with Nodes:=r3}:af)}:an)with Aggs:=r4}:an)with Items:=r5}:an)

def mj(by1:Int)(n1:an):Option an:=
 if(decide ((0:Int)<=n1.B))then
 (mi (an.mk n1.Op n1.A (IntKind.i64.wrap (n1.B+by1)) n1.Table n1.Kinds n1.Left n1.Cond n1.Keys n1.Aggs n1.Items n1.Order n1.Limit))
 else
 (mi n1)

def mF(n:an)(by1:Int):Option an:=
 if(decide ((0:Int)<=n.A))then
 (mj by1 (an.mk n.Op (IntKind.i64.wrap (n.A+by1)) n.B n.Table n.Kinds n.Left n.Cond n.Keys n.Aggs n.Items n.Order n.Limit))
 else
 (mj by1 n)

def n5(nx:Nat->an->bB->bB->Option (bB×Int))(i:Nat)(n1:an)(x:bB)(out:bB):List an->bB->Option (bB×Int)
 |[],out1=>
  if((i:Int)==(0:Int))then
  (nx (i+1) (an.mk n1.Op (IntKind.i64.wrap ((out1.Nodes.length:Int)-(1:Int))) n1.B n1.Table n1.Kinds n1.Left n1.Cond n1.Keys n1.Aggs n1.Items n1.Order n1.Limit) x out1)
  else
  (nx (i+1) (an.mk n1.Op n1.A (IntKind.i64.wrap ((out1.Nodes.length:Int)-(1:Int))) n1.Table n1.Kinds n1.Left n1.Cond n1.Keys n1.Aggs n1.Items n1.Order n1.Limit) x out1)
 |e1::tl1,out1=>
  (mF e1 (out.Nodes.length:Int)).bind fun r3=>
  (kF out1.Nodes ([r3])).bind fun l5=>
  (n5 nx i n1 x out tl1) ({out1 with Nodes:=l5}:bB)

def lH:List bB->Nat->an->bB->bB->Option (bB×Int)
 |[],i,n1,x,out=>
  (mF n1 (0:Int)).bind fun r=>
  (kF out.Nodes ([r])).bind fun l2=>
  (lS ({out with Nodes:=l2}:bB)).bind fun r1=>
  if(r1.2 !=(0:Int))then
  (some ((⟨[]⟩:bB),r1.2))
  else
  (some (({out with Nodes:=l2}:bB),(0:Int)))
 |e::tl,i,n1,x,out=>
  (lS e).bind fun r2=>
  if(r2.2 !=(0:Int))then
  (some ((⟨[]⟩:bB),r2.2))
  else
  (n5 (lH tl) i n1 x out e.Nodes out)

def qM(n:an)(l:(List bB)):Option (bB×Int):=
 lH l 0 (an.mk n.Op (-1:Int) (-1:Int) n.Table n.Kinds n.Left n.Cond n.Keys n.Aggs n.Items n.Order n.Limit) (⟨[]⟩:bB) ({(⟨[]⟩:bB)with Nodes:=([]:List an)}:bB)

def vV(n:an)(a1:bB)(b:bB):Option (bB×Int):=
 (qM n ([a1,b])).bind fun r=>
 some (r.1,r.2)

def vW(n:an)(a1:bB):Option (bB×Int):=
 (qM n ([a1])).bind fun r=>
 some (r.1,r.2)

def md(parts:(List ay))(e:Int)(l:bB):Option (ay×Bool):=
  if(e !=(0:Int))then
  (some ((⟨(⟨[]⟩:bB),(⟨(0:Int),(0:Int),(0:Int),(0:Int),[],false,(⟨[]⟩:af),[],[],[],[],(0:Int)⟩:an),[]⟩:ay),false))
  else
  ((eG l.Nodes (IntKind.i64.wrap ((l.Nodes.length:Int)-(1:Int)))).bind fun e1=>
  some ((⟨l,e1,parts⟩:ay),true))

def js(n:an)(parts:(List ay)):Option (ay×Bool):=
  if((parts.length:Int)==(2:Int))then
  ((eG parts (0:Int)).bind fun e2=>
  (eG parts (1:Int)).bind fun e3=>
  (vV n e2.Logic e3.Logic).bind fun r=>
  md parts r.2 r.1)
  else
  ((eG parts (0:Int)).bind fun e4=>
  (vW n e4.Logic).bind fun r1=>
  md parts r1.2 r1.1)

def me(rec__:Option (List (Int×(ay->Bool->Option (ay×Int)))))(t:ay)(deep:Bool):Option (ay×Int):=
  (rec__).bind fun r=>
  if((oL r t.root.Op).isSome)then
  ((((oL r t.root.Op)).bind fun y=>y t deep).bind fun r1=>
  some (r1.1,r1.2))
  else
  (some (t,(0:Int)))

def l0(rec__:Option (List (Int×(ay->Bool->Option (ay×Int))))):Nat->ay->ay->Option (ay×Bool)
  |0,_,_=>none
  |n+1,t1,x=>
    ((me rec__) t1 true).bind fun r=>
    if(r.2==(0:Int))then
    (some (t1,true))
    else
    (if(r.2==(2:Int))then
    (some (t1,false))
    else
    ((l0 rec__ n) r.1 x))

def mP(rec__:Option (List (Int×(ay->Bool->Option (ay×Int)))))(t:ay):Option (ay×Bool):=
 l0 rec__ mG t (⟨(⟨[]⟩:bB),(⟨(0:Int),(0:Int),(0:Int),(0:Int),[],false,(⟨[]⟩:af),[],[],[],[],(0:Int)⟩:an),[]⟩:ay)

def nT(v:bT):Option bT:=
 some v

def t6(b:Bool):Option bT:=
 if b then
 (nT (bT.mk (⟨(1:Int),(0:Int),(0:Int),[]⟩:bT).Kind (1:Int) (⟨(1:Int),(0:Int),(0:Int),[]⟩:bT).U (⟨(1:Int),(0:Int),(0:Int),[]⟩:bT).S))
 else
 (nT (⟨(1:Int),(0:Int),(0:Int),[]⟩:bT))

def n8:List af->Int->Option (Int×Int)
 |[],n=>
  some (n,(0:Int))
 |e::tl,n=>
  (iq e).bind fun r=>
  if(r !=(0:Int))then
  (some ((0:Int),r))
  else
  ((n8 tl) (IntKind.i64.wrap (n+(e.Nodes.length:Int))))

def qU(l:(List af)):Option (Int×Int):=
 n8 l (0:Int)

def oU(nx:(List aj)->Option (List aj))(out1:List aj)(n1:aj):Option (List aj):=
 (kF out1 ([n1])).bind fun out2=>
 nx out2

def oV(out:(List aj))(nx:(List aj)->Option (List aj))(out1:List aj)(n:aj):Option (List aj):=
 if(decide ((0:Int)<=n.R))then
 (oU nx out1 (aj.mk n.Tag n.L (IntKind.i64.wrap (n.R+(out.length:Int))) n.Col n.Value))
 else
 (oU nx out1 n)

def jz(out:(List aj)):List aj->(List aj)->Option (List aj)
 |[],out1=>
  some out1
 |e1::tl,out1=>
  if(decide ((0:Int)<=e1.L))then
  (oV out (jz out tl) out1 (aj.mk e1.Tag (IntKind.i64.wrap (e1.L+(out.length:Int))) e1.R e1.Col e1.Value))
  else
  (oV out (jz out tl) out1 e1)

def wb(out:(List aj))(e:af):Option (List aj):=
 jz out e.Nodes out

def m9(root:aj):List af->Nat->(List aj)->(List Int)->Option af
 |[],i,out,at1=>
  (eG at1 (0:Int)).bind fun e1=>
  (eG at1 (1:Int)).bind fun e2=>
  (kF out ([(aj.mk ({root with L:=e1}:aj).Tag ({root with L:=e1}:aj).L e2 ({root with L:=e1}:aj).Col ({root with L:=e1}:aj).Value)])).bind fun l2=>
  some (⟨l2⟩:af)
 |e::tl,i,out,at1=>
  (wb out e).bind fun r=>
  (eG at1 (i:Int)).bind fun e3=>
  (some (at1.set (i:Int).toNat (IntKind.i64.wrap ((r.length:Int)-(1:Int))))).bind fun ar=>
  (m9 root tl) (i+1) r ar

def pN(root:aj)(l:(List af)):Option af:=
 m9 root l 0 ([]:List aj) ([(-1:Int),(-1:Int)])

def pQ:List af->af->Option (af×Int)
 |[],out=>
  some (out,(0:Int))
 |e1::tl,out=>
  (pN (⟨(22:Int),(0:Int),(0:Int),(0:Int),(⟨(0:Int),(0:Int),(0:Int),[]⟩:bT)⟩:aj) ([out,e1])).bind fun r2=>
  (pQ tl) r2

def uQ(l:(List af)):Option (af×Int):=
  (qU l).bind fun r=>
  if(r.2 !=(0:Int))then
  (some ((⟨[]⟩:af),r.2))
  else
  (if((l.length:Int)==(0:Int))then
  (some ((⟨[]⟩:af),(2:Int)))
  else
  (if(decide ((1000:Int)<(IntKind.i64.wrap ((IntKind.i64.wrap (r.1+(l.length:Int)))-(1:Int)))))then
  (some ((⟨[]⟩:af),(3:Int)))
  else
  ((eG l (0:Int)).bind fun e=>
  (bh e.Nodes).bind fun r1=>
  (cW l (1:Int) (l.length:Int)).bind fun y=>
  pQ y (⟨r1⟩:af))))

def lE(t:ay)(ok:Bool):Option (ay×Int):=
 if(!ok)then
 (some (t,(2:Int)))
 else
 (some (t,(1:Int)))

def kh(rec__:Option (List (Int×(ay->Bool->Option (ay×Int)))))(t:ay)(by1:(List af))(deep:Bool):Option (ay×Bool):=
  if((by1.length:Int)==(0:Int))then
  (some (t,true))
  else
  ((uQ by1).bind fun r=>
  (js (⟨(3:Int),(0:Int),(0:Int),(0:Int),[],false,r.1,[],[],[],[],(0:Int)⟩:an) ([t])).bind fun r1=>
  if(r1.2&&deep)then
  (((mP rec__) r1.1).bind fun r2=>
  some (r2.1,r2.2))
  else
  (some (r1.1,r1.2)))

def kR(nx:(List af)->(List Int)->Option (List af))(out1:List af)(open2:List Int):Option (List af):=
 nx out1 open2

def kQ(e3:Int)(nx1:Nat->af->Option (List af))(i:Nat)(part1:af):Option (List af):=
  (eG part1.Nodes (i:Int)).bind fun e6=>
  if(decide ((0:Int)<=e6.R))then
  ((some (part1.Nodes.set (i:Int).toNat ({e6 with R:=(IntKind.i64.wrap (e6.R-e3))}:aj))).bind fun st=>
  nx1 (i+1) ({part1 with Nodes:=st}:af))
  else
  (nx1 (i+1) part1)

def fH(nx:(List af)->(List Int)->Option (List af))(out:List af)(y:List Int)(e3:Int):List aj->Nat->af->Option (List af)
  |[],i,part=>
    (kF out ([part])).bind fun out2=>
    kR nx out2 y
  |e4::tl,i,part=>
    (eG part.Nodes (i:Int)).bind fun e5=>
    if(decide ((0:Int)<=e5.L))then
    ((some (part.Nodes.set (i:Int).toNat ({e5 with L:=(IntKind.i64.wrap (e5.L-e3))}:aj))).bind fun st1=>
    kQ e3 (fH nx out y e3 tl) i ({part with Nodes:=st1}:af))
    else
    (kQ e3 (fH nx out y e3 tl) i part)

def eu(e:af)(r:(List Int)×Bool):Nat->(List af)->(List Int)->Option (List af)
  |0,_,_=>none
  |n+1,out,open1=>
    if(decide ((0:Int)<(open1.length:Int)))then
    ((eG open1 (IntKind.i64.wrap ((open1.length:Int)-(1:Int)))).bind fun e1=>
    (cW open1 0 (IntKind.i64.wrap ((open1.length:Int)-(1:Int)))).bind fun y=>
    (eG e.Nodes e1).bind fun e2=>
    if(e2.Tag==(22:Int))then
    ((kF y ([e2.R,e2.L])).bind fun open3=>
    kR (eu e r n) out open3)
    else
    ((eG r.1 e1).bind fun e3=>
    (cW e.Nodes e3 (IntKind.i64.wrap (e1+(1:Int)))).bind fun y1=>
    (bh y1).bind fun r1=>
    fH (eu e r n) out y e3 r1 0 ({(⟨r1⟩:af)with Nodes:=r1}:af)))
    else
    (some out)

def qc(e:af):Option (List af):=
 (lU e).bind fun r=>
 if(!r.2)then
 (some ([]:List af))
 else
 (eu e r mG ([]:List af) ([(IntKind.i64.wrap ((e.Nodes.length:Int)-(1:Int)))]))

def lI(nx:Nat->af->af->Option (af×Int))(i:Nat)(x1:af)(out1:af):Option (af×Int):=
 nx (i+1) x1 out1

def fL(by1:Int):List aj->Nat->af->af->Option (af×Int)
  |[],i,x,out=>
    some (out,(0:Int))
  |e1::tl,i,x,out=>
    (eG out.Nodes (i:Int)).bind fun e2=>
    if(e2.Tag !=(2:Int))then
    (lI (fL by1 tl) i x out)
    else
    (if((decide (by1<(IntKind.i64.wrap (0-e2.Col))))||(decide ((IntKind.i64.wrap ((16:Int)-e2.Col))<=by1)))then
    (some ((⟨[]⟩:af),(2:Int)))
    else
    ((some (out.Nodes.set (i:Int).toNat ({e2 with Col:=(IntKind.i64.wrap (e2.Col+by1))}:aj))).bind fun st=>
    lI (fL by1 tl) i x ({out with Nodes:=st}:af)))

def oW(e:af)(by1:Int):Option (af×Int):=
  (iq e).bind fun r=>
  if(r !=(0:Int))then
  (some ((⟨[]⟩:af),r))
  else
  ((bh e.Nodes).bind fun r1=>
  fL by1 r1 0 (⟨[]⟩:af) ({(⟨r1⟩:af)with Nodes:=r1}:af))

def eN(left:Int)(outer:Bool):List af->(List (List af))->Option (List (List af))
  |[],to1=>
    some ([(d9 to1 0),(d9 to1 1),(d9 to1 2)])
  |e::tl,to1=>
    (lz e).bind fun r1=>
    (if(!((r1.length:Int)==(0:Int)))then((eG r1 (IntKind.i64.wrap ((r1.length:Int)-(1:Int)))).bind fun e1=>
    some (decide (e1<left)))else some true).bind fun t=>
    if t then
    ((kF (d9 to1 0) ([e])).bind fun l5=>
    (eN left outer tl) ([l5,(d9 to1 1),(d9 to1 2)]))
    else
    ((eG r1 (0:Int)).bind fun e2=>
    if((decide (left<=e2))&&(!outer))then
    ((oW e (IntKind.i64.wrap (0-left))).bind fun r2=>
    (kF (d9 to1 1) ([r2.1])).bind fun l7=>
    (eN left outer tl) ([(d9 to1 0),l7,(d9 to1 2)]))
    else
    ((kF (d9 to1 2) ([e])).bind fun l9=>
    (eN left outer tl) ([(d9 to1 0),(d9 to1 1),l9])))

def lD(cond:af)(left:Int)(outer:Bool):Option (List (List af)):=
 (qc cond).bind fun r=>
 eN left outer r ([([]:List af),([]:List af),([]:List af)])

def sZ(l:bB):Option ((List Int)×Int):=
  (oM l).bind fun r=>
  if(!r.2.2)then
  (some ([],(230:Int)))
  else
  ((eG r.1.kinds r.2.1).bind fun e=>
  (cK e).bind fun r1=>
  some (r1,(0:Int)))

def kK(rec__:Option (List (Int×(ay->Bool->Option (ay×Int)))))(t:ay)(deep:Bool)(e:ay)(r1:(List (List af))):List ay->Nat->(List ay)->ay->Option (ay×Int)
  |[],i,parts,x=>
    (js (⟨(2:Int),(0:Int),(0:Int),(0:Int),[],e.root.Left,e.root.Cond,[],[],[],[],(0:Int)⟩:an) parts).bind fun r2=>
    if(!r2.2)then
    (some (t,(2:Int)))
    else
    ((eG r1 (2:Int)).bind fun e5=>
    ((kh rec__) r2.1 e5 false).bind fun r3=>
    (lE r3.1 r3.2).bind fun r4=>
    some (r4.1,r4.2))
  |e4::tl,i,parts,x=>
    (eG r1 (i:Int)).bind fun e6=>
    ((kh rec__) e4 e6 deep).bind fun r5=>
    if(!r5.2)then
    (some (t,(2:Int)))
    else
    ((kF parts ([r5.1])).bind fun parts1=>
    (kK rec__ t deep e r1 tl) (i+1) parts1 x)

def oe(rec__:Option (List (Int×(ay->Bool->Option (ay×Int)))))(t:ay)(deep:Bool):Option (ay×Int):=
 (eG t.parts (0:Int)).bind fun e=>
 (eG e.parts (0:Int)).bind fun e1=>
 (sZ e1.Logic).bind fun r=>
 (lD t.root.Cond (r.1.length:Int) e.root.Left).bind fun r1=>
 (eG r1 (0:Int)).bind fun e2=>
 (eG r1 (1:Int)).bind fun e3=>
 if((IntKind.i64.wrap ((e2.length:Int)+(e3.length:Int)))==(0:Int))then
 (some (t,(0:Int)))
 else
 (kK rec__ t deep e r1 e.parts 0 ([]:List ay) (⟨(⟨[]⟩:bB),(⟨(0:Int),(0:Int),(0:Int),(0:Int),[],false,(⟨[]⟩:af),[],[],[],[],(0:Int)⟩:an),[]⟩:ay))

def dA(f:(aj->Option Bool)):List aj->Nat->Option Int
 |[],i=>
  some (-1:Int)
 |e::tl,i=>
  (f e).bind fun r=>
  if r then
  (some (i:Int))
  else
  ((dA f tl) (i+1))

def fx(s:(List aj))(f:(aj->Option Bool)):Option Int:=
 dA f s 0

def eU(s:(List aj))(f:(aj->Option Bool)):Option Bool:=
 (fx s f).bind fun r=>
 some (decide ((0:Int)<=r))

def s3(n:aj):Option Bool:=
 (mp n.Tag).bind fun r=>
 some r

def qa(e:af):Option Bool:=
  (iq e).bind fun r=>
  (if(r==(0:Int))then((eU e.Nodes s3).bind fun r1=>
  some (!r1))else some false).bind fun t=>
  some t

def li(rec__:Option (List (Int×(ay->Bool->Option (ay×Int)))))(t:ay)(deep:Bool):Option (ay×Int):=
  (eG t.parts (0:Int)).bind fun e=>
  (qa t.root.Cond).bind fun r=>
  (if((t.root.Cond.Nodes.length:Int)==(1:Int))then((eG t.root.Cond.Nodes (0:Int)).bind fun e1=>
  (t6 true).bind fun r1=>
  some (decide (e1.Value=r1)))else some false).bind fun t1=>
  if t1 then
  (some (e,(1:Int)))
  else
  (if((e.root.Op==(3:Int))&&r)then
  ((uQ ([e.root.Cond,t.root.Cond])).bind fun r2=>
  if(r2.2 !=(0:Int))then
  (some (t,(0:Int)))
  else
  ((eG e.parts (0:Int)).bind fun e2=>
  (js (⟨(3:Int),(0:Int),(0:Int),(0:Int),[],false,r2.1,[],[],[],[],(0:Int)⟩:an) ([e2])).bind fun r3=>
  (lE r3.1 r3.2).bind fun r4=>
  some (r4.1,r4.2)))
  else
  ((if((e.root.Op==(2:Int))&&r)then((qa e.root.Cond).bind fun r5=>
  some r5)else some false).bind fun t2=>
  if t2 then
  (((oe rec__) t deep).bind fun r6=>
  some (r6.1,r6.2))
  else
  (some (t,(0:Int)))))

def nq(e:af):Option Bool:=
 (qa e).bind fun r=>
 some (!r)

def lT(stack:(List af))(k:Int):Option ((List af)×(List af)):=
 (cW stack (IntKind.i64.wrap ((stack.length:Int)-k)) (stack.length:Int)).bind fun y=>
 (cL y).bind fun r=>
 (cW stack 0 (IntKind.i64.wrap ((stack.length:Int)-k))).bind fun y1=>
 some (r,y1)

def iQ(bad:Int)(stack:List af):Option (af×Int):=
  if(bad !=(0:Int))then
  (some ((⟨[]⟩:af),bad))
  else
  ((eG stack (0:Int)).bind fun e1=>
  some (e1,(0:Int)))

def iP(do1:(aj->(List af)->Option (af×Int))):List aj->Int->(List af)->Option (af×Int)
  |[],bad1,stack1=>
    iQ bad1 stack1
  |e2::tl,bad1,stack1=>
    (lw e2.Tag).bind fun r=>
    (lT stack1 r).bind fun r1=>
    (do1 e2 r1.1).bind fun r2=>
    if(r2.2 !=(0:Int))then
    (iQ r2.2 r1.2)
    else
    ((kF r1.2 ([r2.1])).bind fun l2=>
    (iP do1 tl) bad1 l2)

def m8(e:af)(do1:(aj->(List af)->Option (af×Int))):Option (af×Int):=
 iP do1 e.Nodes (0:Int) ([]:List af)

def qV(c:(List af))(n:aj)(parts:(List af)):Option (af×Int):=
  if(n.Tag==(2:Int))then
  ((eG c n.Col).bind fun e=>
  (bh e.Nodes).bind fun r=>
  some ((⟨r⟩:af),(0:Int)))
  else
  ((pN n parts).bind fun r1=>
  some (r1,(0:Int)))

def nM(e:af)(l:(List af)):List aj->Int->Option (af×Int)
  |[],n=>
    if(decide ((1000:Int)<n))then
    (some ((⟨[]⟩:af),(3:Int)))
    else
    ((m8 e (qV l)).bind fun r2=>
    some (r2.1,r2.2))
  |e2::tl1,n=>
    if(e2.Tag==(2:Int))then
    ((eG l e2.Col).bind fun e3=>
    (nM e l tl1) (IntKind.i64.wrap ((IntKind.i64.wrap (n+(1:Int)))+(IntKind.i64.wrap ((e3.Nodes.length:Int)-(1:Int))))))
    else
    ((nM e l tl1) (IntKind.i64.wrap (n+(1:Int))))

def pO(e:af)(l:(List af)):List Int->af->Option (af×Int)
 |[],x=>
  nM e l e.Nodes (0:Int)
 |e1::tl,x=>
  if(decide ((l.length:Int)<=e1))then
  (some ((⟨[]⟩:af),(2:Int)))
  else
  ((pO e l tl) x)

def yK(e:af)(l:(List af)):Option (af×Int):=
  (kF ([e]) l).bind fun l2=>
  (qU l2).bind fun r=>
  if(r.2 !=(0:Int))then
  (some ((⟨[]⟩:af),r.2))
  else
  ((lz e).bind fun r1=>
  pO e l r1 (⟨[]⟩:af))

def dL(f:(af->Option Bool)):List af->Nat->Option Int
 |[],i=>
  some (-1:Int)
 |e::tl,i=>
  (f e).bind fun r=>
  if r then
  (some (i:Int))
  else
  ((dL f tl) (i+1))

def fS(s:(List af))(f:(af->Option Bool)):Option Int:=
 dL f s 0

def fh(s:(List af))(f:(af->Option Bool)):Option Bool:=
 (fS s f).bind fun r=>
 some (decide ((0:Int)<=r))

def kg(t:ay)(e:ay):List af->(List af)->ay->Option (ay×Int)
  |[],items,x1=>
    (eG e.parts (0:Int)).bind fun e2=>
    (js (⟨(5:Int),(0:Int),(0:Int),(0:Int),[],false,(⟨[]⟩:af),[],[],items,[],(0:Int)⟩:an) ([e2])).bind fun r1=>
    (lE r1.1 r1.2).bind fun r2=>
    some (r2.1,r2.2)
  |e1::tl,items,x1=>
    (yK e1 e.root.Items).bind fun r3=>
    if(r3.2 !=(0:Int))then
    (some (t,(0:Int)))
    else
    ((kF items ([r3.1])).bind fun items1=>
    (kg t e tl) items1 x1)

def mb(t:ay)(x:Bool):Option (ay×Int):=
  (eG t.parts (0:Int)).bind fun e=>
  (if(!(e.root.Op !=(5:Int)))then((fh e.root.Items nq).bind fun r=>
  some r)else some true).bind fun t1=>
  if t1 then
  (some (t,(0:Int)))
  else
  (kg t e t.root.Items ([]:List af) (⟨(⟨[]⟩:bB),(⟨(0:Int),(0:Int),(0:Int),(0:Int),[],false,(⟨[]⟩:af),[],[],[],[],(0:Int)⟩:an),[]⟩:ay))

def jO(t:ay)(e:ay)(has:List (Int×Bool)):List Int->Nat->ay->Option (ay×Int)
 |[],i1,x1=>
  some (e,(1:Int))
 |e3::tl1,i1,x1=>
  if(!((oL has (i1:Int)).getD false))then
  (some (t,(0:Int)))
  else
  ((jO t e has tl1) (i1+1) x1)

def gL(t:ay)(e:ay)(y:ay):List af->(List (Int×Bool))->Option (ay×Int)
 |[],has=>
  jO t e has y.root.Keys 0 (⟨(⟨[]⟩:bB),(⟨(0:Int),(0:Int),(0:Int),(0:Int),[],false,(⟨[]⟩:af),[],[],[],[],(0:Int)⟩:an),[]⟩:ay)
 |e2::tl,has=>
  (eG e2.Nodes (0:Int)).bind fun e4=>
  if(((e2.Nodes.length:Int)==(1:Int))&&(e4.Tag==(2:Int)))then
  ((gL t e y tl) (ge has e4.Col true))
  else
  ((gL t e y tl) has)

def jP(t:ay)(e:ay)(y:ay):Option (ay×Int):=
 if(y.root.Op !=(4:Int))then
 (some (t,(0:Int)))
 else
 (gL t e y e.root.Items ([]:List (Int×Bool)))

def lj(t:ay)(x:Bool):Option (ay×Int):=
  (eG t.parts (0:Int)).bind fun e=>
  if(e.root.Op==(6:Int))then
  (some (e,(1:Int)))
  else
  (if(e.root.Op !=(5:Int))then
  (some (t,(0:Int)))
  else
  ((eG e.parts (0:Int)).bind fun e1=>
  if(e1.root.Op==(3:Int))then
  ((eG e1.parts (0:Int)).bind fun e5=>
  jP t e e5)
  else
  (jP t e e1)))

def o6(rec__:Option (List (Int×(ay->Bool->Option (ay×Int))))):Option (List (Int×(ay->Bool->Option (ay×Int)))):=
 some (ge (ge (ge ([]:List (Int×(ay->Bool->Option (ay×Int)))) (3:Int) (li rec__)) (5:Int) mb) (6:Int) lj)

def ma:Nat->Option (List (Int×(ay->Bool->Option (ay×Int))))
 |0=>none
 |fu+1=>o6 (ma fu)

def nU:Option (List (Int×(ay->Bool->Option (ay×Int)))):=ma mG

def qo(x0:ay)(x1:Bool):Option (ay×Int):=me nU x0 x1

def rm(x0:ay):Option (ay×Bool):=mP nU x0

def jh(self__:ay->Option (ay×Bool))(t:ay):List ay->(List ay)->ay->Option (ay×Bool)
  |[],parts,x=>
    (js t.root parts).bind fun r=>
    if(!r.2)then
    (some (t,false))
    else
    ((rm r.1).bind fun r1=>
    some (r1.1,r1.2))
  |e::tl,parts,x=>
    (self__ e).bind fun r2=>
    if(!r2.2)then
    (some (t,false))
    else
    ((kF parts ([r2.1])).bind fun parts1=>
    (jh self__ t tl) parts1 x)

def gM:Nat->ay->Option (ay×Bool)
 |0,_=>none
 |fu+1,t=>
  if((t.parts.length:Int)==(0:Int))then
  (some (t,true))
  else
  (jh (gM fu) t t.parts ([]:List ay) (⟨(⟨[]⟩:bB),(⟨(0:Int),(0:Int),(0:Int),(0:Int),[],false,(⟨[]⟩:af),[],[],[],[],(0:Int)⟩:an),[]⟩:ay))

def nr(t:ay):Option (ay×Bool):=
 gM mG t

def n6(l:bB)(place:Int)(e:Int):Nat->Int->bB->Option (bB×Int)
  |0,_,_=>none
  |n+1,i,out=>
    if(decide (i<=place))then
    ((eG l.Nodes i).bind fun e1=>
    (mF e1 (IntKind.i64.wrap (0-e))).bind fun r1=>
    (kF out.Nodes ([r1])).bind fun l2=>
    (n6 l place e n) (IntKind.i64.wrap (i+(1:Int))) ({out with Nodes:=l2}:bB))
    else
    (some (out,(0:Int)))

def uG(l:bB)(place:Int):Option (bB×Int):=
  (oM l).bind fun r=>
  if(!r.2.2)then
  (some ((⟨[]⟩:bB),(230:Int)))
  else
  (if((decide (place<(0:Int)))||(decide ((l.Nodes.length:Int)<=place)))then
  (some ((⟨[]⟩:bB),(2:Int)))
  else
  ((eG r.1.first place).bind fun e=>
  n6 l place e mG e ({(⟨[]⟩:bB)with Nodes:=([]:List an)}:bB)))

def jt(self__:bB->Option ay)(l:bB)(e:an):Nat->Nat->ay->Option ay
  |0,i,t=>
    some t
  |k1+1,i,t=>
    (eG ([((⟨l,e,[]⟩:ay).root).A,((⟨l,e,[]⟩:ay).root).B]) (i:Int)).bind fun e2=>
    if(decide ((0:Int)<=e2))then
    ((uG l e2).bind fun r=>
    (self__ r.1).bind fun r1=>
    (kF t.parts ([r1])).bind fun l2=>
    (jt self__ l e k1) (i+1) ({t with parts:=l2}:ay))
    else
    ((jt self__ l e k1) (i+1) t)

def ka:Nat->bB->Option ay
 |0,_=>none
 |fu+1,l=>
  (eG l.Nodes (IntKind.i64.wrap ((l.Nodes.length:Int)-(1:Int)))).bind fun e=>
  jt (ka fu) l e 2 0 ({(⟨l,e,[]⟩:ay)with parts:=([]:List ay)}:ay)

def nV(l:bB):Option ay:=
 ka mG l

def o7(l:bB):Option (bB×Int):=
  (lS l).bind fun r=>
  if(r.2 !=(0:Int))then
  (some ((⟨[]⟩:bB),r.2))
  else
  ((nV l).bind fun r1=>
  (nr r1).bind fun r2=>
  if(!r2.2)then
  (some (l,(0:Int)))
  else
  (some (r2.1.Logic,(0:Int))))

def sS(l:bB):Option (bB×Bool×Int):=
  (lS l).bind fun r=>
  if(r.2 !=(0:Int))then
  (some ((⟨[]⟩:bB),false,r.2))
  else
  ((nV l).bind fun r1=>
  (qo r1 false).bind fun r2=>
  if(r2.2 !=(1:Int))then
  (some (l,false,(0:Int)))
  else
  (some (r2.1.Logic,true,(0:Int))))

def nX(nx1:af->Option af)(out1:af)(n1:aj):Option af:=
 (kF out1.Nodes ([n1])).bind fun l5=>
 nx1 ({out1 with Nodes:=l5}:af)

def nY(out:af)(nx1:af->Option af)(out1:af)(n:aj):Option af:=
 if(decide ((0:Int)<=n.R))then
 (nX nx1 out1 (aj.mk n.Tag n.L (IntKind.i64.wrap (n.R+(out.Nodes.length:Int))) n.Col n.Value))
 else
 (nX nx1 out1 n)

def iC(nx:Nat->aj->af->Option af)(i:Nat)(root1:aj)(out:af):List aj->af->Option af
 |[],out1=>
  if((i:Int)==(0:Int))then
  (nx (i+1) (aj.mk root1.Tag (IntKind.i64.wrap ((out1.Nodes.length:Int)-(1:Int))) root1.R root1.Col root1.Value) out1)
  else
  (nx (i+1) (aj.mk root1.Tag root1.L (IntKind.i64.wrap ((out1.Nodes.length:Int)-(1:Int))) root1.Col root1.Value) out1)
 |e1::tl1,out1=>
  if(decide ((0:Int)<=e1.L))then
  (nY out (iC nx i root1 out tl1) out1 (aj.mk e1.Tag (IntKind.i64.wrap (e1.L+(out.Nodes.length:Int))) e1.R e1.Col e1.Value))
  else
  (nY out (iC nx i root1 out tl1) out1 e1)

def iD:List af->Nat->aj->af->Option af
 |[],i,root1,out=>
  (kF out.Nodes ([root1])).bind fun l2=>
  some ({out with Nodes:=l2}:af)
 |e::tl,i,root1,out=>
  iC (iD tl) i root1 out e.Nodes out

def ji(root:aj)(l:(List af)):Option af:=
 iD l 0 (aj.mk root.Tag (-1:Int) (-1:Int) root.Col root.Value) ({(⟨[]⟩:af)with Nodes:=([]:List aj)}:af)

def vL(n:Int):Option bT:=
 some (⟨(2:Int),n,(0:Int),[]⟩:bT)

def nE(col:Int)(n:Int):Option af:=
 (ji (⟨(2:Int),(0:Int),(0:Int),col,(⟨(0:Int),(0:Int),(0:Int),[]⟩:bT)⟩:aj) ([])).bind fun r=>
 (vL n).bind fun r1=>
 (ji (⟨(1:Int),(0:Int),(0:Int),(0:Int),r1⟩:aj) ([])).bind fun r2=>
 (ji (⟨(16:Int),(0:Int),(0:Int),(0:Int),(⟨(0:Int),(0:Int),(0:Int),[]⟩:bT)⟩:aj) ([r,r2])).bind fun r3=>
 some r3

def pI:Option bB:=
 (nE (0:Int) (1:Int)).bind fun r=>
 (nE (1:Int) (2:Int)).bind fun r1=>
 (ji (⟨(22:Int),(0:Int),(0:Int),(0:Int),(⟨(0:Int),(0:Int),(0:Int),[]⟩:bT)⟩:aj) ([r,r1])).bind fun r2=>
 (ji (⟨(2:Int),(0:Int),(0:Int),(0:Int),(⟨(0:Int),(0:Int),(0:Int),[]⟩:bT)⟩:aj) ([])).bind fun r3=>
 (ji (⟨(2:Int),(0:Int),(0:Int),(1:Int),(⟨(0:Int),(0:Int),(0:Int),[]⟩:bT)⟩:aj) ([])).bind fun r4=>
 (ji (⟨(16:Int),(0:Int),(0:Int),(0:Int),(⟨(0:Int),(0:Int),(0:Int),[]⟩:bT)⟩:aj) ([r3,r4])).bind fun r5=>
 some (⟨[(⟨(1:Int),(-1:Int),(-1:Int),(0:Int),[(2:Int)],false,(⟨[]⟩:af),[],[],[],[],(0:Int)⟩:an),(⟨(1:Int),(-1:Int),(-1:Int),(1:Int),[(2:Int)],false,(⟨[]⟩:af),[],[],[],[],(0:Int)⟩:an),(⟨(2:Int),(0:Int),(1:Int),(0:Int),[],false,r5,[],[],[],[],(0:Int)⟩:an),(⟨(3:Int),(2:Int),(-1:Int),(0:Int),[],false,r2,[],[],[],[],(0:Int)⟩:an)]⟩:bB)

def jY(b:af):List aj->Nat->Option Bool
 |[],i=>
  some true
 |e::tl,i=>
  (eG b.Nodes (i:Int)).bind fun e1=>
  if(!decide (e=e1))then
  (some false)
  else
  ((jY b tl) (i+1))

def mS(a1:af)(b:af):Option Bool:=
 if((a1.Nodes.length:Int) !=(b.Nodes.length:Int))then
 (some false)
 else
 (jY b a1.Nodes 0)

def pH:Option Bool:=
  (pI).bind fun r=>
  (o7 r).bind fun r1=>
  (pI).bind fun r2=>
  (sS r2).bind fun r3=>
  (if((((r1.2==(0:Int))&&(r3.2.2==(0:Int)))&&r3.2.1)&&((r1.1.Nodes.length:Int)==(5:Int)))then((eG r1.1.Nodes (1:Int)).bind fun e=>
  some (e.Op==(3:Int)))else some false).bind fun t=>
  (if t then((eG r1.1.Nodes (3:Int)).bind fun e1=>
  some (e1.Op==(3:Int)))else some false).bind fun t1=>
  (if t1 then((eG r1.1.Nodes (4:Int)).bind fun e2=>
  some (e2.Op==(2:Int)))else some false).bind fun t2=>
  (if t2 then((eG r1.1.Nodes (3:Int)).bind fun e3=>
  (nE (0:Int) (2:Int)).bind fun r4=>
  (mS e3.Cond r4).bind fun r5=>
  some r5)else some false).bind fun t3=>
  some t3

def jR(l:(List aj))(most:Int):Option (List aj):=
 (cW l 0 (min (l.length:Int) most)).bind fun y=>
 (kF ([]:List aj) y).bind fun x=>
 some x

def gY:List aj->Nat->af->Option af
 |[],i,out=>
  some out
 |e1::tl,i,out=>
  (eG out.Nodes (i:Int)).bind fun e2=>
  (cW e2.Value.S 0 (min (e2.Value.S.length:Int) (41:Int))).bind fun y=>
  (some (out.Nodes.set (i:Int).toNat ({e2 with Value:=({e2.Value with S:=y}:bT)}:aj))).bind fun st=>
  (gY tl) (i+1) ({out with Nodes:=st}:af)

def nD(e:af):Option af:=
 (jR e.Nodes (60:Int)).bind fun r=>
 gY r 0 ({(⟨r⟩:af)with Nodes:=r}:af)

def fJ(cond:af)(left:Int)(outer:Bool):Option ((List af)×(List af)×(List af)×Int):=
  (iq cond).bind fun r=>
  if(r !=(0:Int))then
  (some ([],[],[],r))
  else
  (if((decide (left<(0:Int)))||(decide ((16:Int)<left)))then
  (some ([],[],[],(2:Int)))
  else
  ((lD cond left outer).bind fun r1=>
  (eG r1 (0:Int)).bind fun e=>
  (eG r1 (1:Int)).bind fun e1=>
  (eG r1 (2:Int)).bind fun e2=>
  some (e,e1,e2,(0:Int))))

def pD(tag:Int):Option Int:=
  if((decide (tag<(1:Int)))||(decide ((23:Int)<tag)))then
  (some (-1:Int))
  else
  (if(decide (tag<=(3:Int)))then
  (some (0:Int))
  else
  (if(decide (tag<=(11:Int)))then
  (some (1:Int))
  else
  (some (2:Int))))

def nw(tag:Int):Option Int:=
  if((tag==(3:Int))||((decide ((8:Int)<=tag))&&(decide (tag<=(11:Int)))))then
  (some (-1:Int))
  else
  ((pD tag).bind fun r=>
  some r)

def kp(v:bT):Option Bool:=
  if(v.Kind==(0:Int))then
  (some (decide (v=(⟨(0:Int),(0:Int),(0:Int),[]⟩:bT))))
  else
  (if(v.Kind==(1:Int))then
  (some (((v.U==(0:Int))&&(v.S==([])))&&((v.N==(0:Int))||(v.N==(1:Int)))))
  else
  (if(v.Kind==(2:Int))then
  (some ((v.U==(0:Int))&&(v.S==([]))))
  else
  (if(v.Kind==(3:Int))then
  (some (((v.N==(0:Int))&&(v.U==(0:Int)))&&(decide ((v.S.length:Int)<=(40:Int)))))
  else
  (some ((v.Kind==(4:Int))&&(v.S==([])))))))

def ny(v:bT):Option Bool:=
 (kp v).bind fun r=>
 some (r&&(v.Kind !=(4:Int)))

def hX(n:aj):Option Bool:=
  if(n.Tag==(1:Int))then
  ((ny n.Value).bind fun r=>
  some (r&&(n.Col==(0:Int))))
  else
  (if(n.Tag==(2:Int))then
  (some (((decide (n.Value=(⟨(0:Int),(0:Int),(0:Int),[]⟩:bT)))&&(decide ((0:Int)<=n.Col)))&&(decide (n.Col<(16:Int)))))
  else
  (some ((decide (n.Value=(⟨(0:Int),(0:Int),(0:Int),[]⟩:bT)))&&(n.Col==(0:Int)))))

def eo:Nat->af->Int->Option Int
  |0,_,_=>none
  |fu+1,e,place=>
    if((decide (place<(0:Int)))||(decide ((e.Nodes.length:Int)<=place)))then
    (some (0:Int))
    else
    ((eG e.Nodes place).bind fun e1=>
    (nw e1.Tag).bind fun r=>
    (if(!(decide (r<(0:Int))))then((hX e1).bind fun r1=>
    some (!r1))else some true).bind fun t=>
    if t then
    (some (0:Int))
    else
    (if(r==(0:Int))then
    (if((e1.L !=(-1:Int))||(e1.R !=(-1:Int)))then
    (some (0:Int))
    else
    (some (1:Int)))
    else
    (((eo fu) e (IntKind.i64.wrap (place-(1:Int)))).bind fun r2=>
    if(r2==(0:Int))then
    (some (0:Int))
    else
    (if(r==(1:Int))then
    (if((e1.L !=(IntKind.i64.wrap (place-(1:Int))))||(e1.R !=(-1:Int)))then
    (some (0:Int))
    else
    (some (IntKind.i64.wrap (r2+(1:Int)))))
    else
    (((eo fu) e (IntKind.i64.wrap ((IntKind.i64.wrap (place-(1:Int)))-r2))).bind fun r3=>
    if(((r3==(0:Int))||(e1.R !=(IntKind.i64.wrap (place-(1:Int)))))||(e1.L !=(IntKind.i64.wrap ((IntKind.i64.wrap (place-(1:Int)))-r2))))then
    (some (0:Int))
    else
    (some (IntKind.i64.wrap ((IntKind.i64.wrap (r3+r2))+(1:Int)))))))))

def mR(e:af)(place:Int):Option Int:=
 eo mG e place

def nv(e:af):Option Bool:=
  (if((decide ((1:Int)<=(e.Nodes.length:Int)))&&(decide ((e.Nodes.length:Int)<=(1000:Int))))then((mR e (IntKind.i64.wrap ((e.Nodes.length:Int)-(1:Int)))).bind fun r=>
  some (r==(e.Nodes.length:Int)))else some false).bind fun t=>
  some t

def jZ(nx:af->Option af)(out:af)(n1:aj):Option af:=
 (kF out.Nodes ([n1])).bind fun l1=>
 nx ({out with Nodes:=l1}:af)

def j3(place:Int)(r:Int)(nx:af->Option af)(out:af)(n:aj):Option af:=
 if(decide ((0:Int)<=n.R))then
 (jZ nx out (aj.mk n.Tag n.L (IntKind.i64.wrap (n.R-(IntKind.i64.wrap ((IntKind.i64.wrap (place+(1:Int)))-r)))) n.Col n.Value))
 else
 (jZ nx out n)

def dZ(place:Int)(r:Int):List aj->af->Option af
 |[],out=>
  some out
 |e1::tl,out=>
  if(decide ((0:Int)<=e1.L))then
  (j3 place r (dZ place r tl) out (aj.mk e1.Tag (IntKind.i64.wrap (e1.L-(IntKind.i64.wrap ((IntKind.i64.wrap (place+(1:Int)))-r)))) e1.R e1.Col e1.Value))
  else
  (j3 place r (dZ place r tl) out e1)

def mT(e:af)(place:Int):Option af:=
 (mR e place).bind fun r=>
 (cW e.Nodes (IntKind.i64.wrap ((IntKind.i64.wrap (place+(1:Int)))-r)) (IntKind.i64.wrap (place+(1:Int)))).bind fun y=>
 dZ place r y ({(⟨[]⟩:af)with Nodes:=([]:List aj)}:af)

def gp:Nat->af->Option (List af)
  |0,_=>none
  |fu+1,e=>
    (eG e.Nodes (IntKind.i64.wrap ((e.Nodes.length:Int)-(1:Int)))).bind fun e1=>
    if(e1.Tag !=(22:Int))then
    (some ([e]))
    else
    ((mT e e1.L).bind fun r=>
    ((gp fu) r).bind fun r1=>
    (mT e e1.R).bind fun r2=>
    ((gp fu) r2).bind fun r3=>
    (kF r1 r3).bind fun x=>
    some x)

def oI(e:af):Option (List af):=
 gp mG e

def lF(nx:Nat->(List Int)->Option (List Int))(i:Nat)(out1:List Int):Option (List Int):=
 nx (i+1) out1

def j4(nx:Nat->(List Int)->Option (List Int))(i:Nat):List aj->(List Int)->Option (List Int)
  |[],out2=>
    lF nx i out2
  |e2::tl,out2=>
    if((e2.Tag==(2:Int))&&(e2.Col==(i:Int)))then
    ((kF out2 ([(i:Int)])).bind fun out3=>
    lF nx i out3)
    else
    ((j4 nx i tl) out2)

def fK(e:af):Nat->Nat->(List Int)->Option (List Int)
 |0,i,out=>
  some out
 |k1+1,i,out=>
  j4 (fK e k1) i e.Nodes out

def jj(e:af):Option (List Int):=
 fK e 16 0 ([]:List Int)

def oH(e:af):Option af:=
 (kF ([]:List aj) e.Nodes).bind fun l1=>
 some (⟨l1⟩:af)

def fU(by1:Int):List aj->Nat->af->Option (af×Int)
  |[],i2,out=>
    some (out,(0:Int))
  |e2::tl1,i2,out=>
    (eG out.Nodes (i2:Int)).bind fun e3=>
    (eG out.Nodes (i2:Int)).bind fun e4=>
    if(e4.Tag==(2:Int))then
    ((some (out.Nodes.set (i2:Int).toNat ({e4 with Col:=(IntKind.i64.wrap (e4.Col+by1))}:aj))).bind fun st=>
    (fU by1 tl1) (i2+1) ({out with Nodes:=st}:af))
    else
    ((fU by1 tl1) (i2+1) out)

def gW(e:af)(by1:Int):List Int->af->Option (af×Int)
 |[],x=>
  (oH e).bind fun r1=>
  fU by1 r1.Nodes 0 r1
 |e1::tl,x=>
  if((((decide (by1<(-16:Int)))||(decide ((16:Int)<by1)))||(decide ((IntKind.i64.wrap (e1+by1))<(0:Int))))||(decide ((16:Int)<=(IntKind.i64.wrap (e1+by1)))))then
  (some ((⟨[]⟩:af),(2:Int)))
  else
  ((gW e by1 tl) x)

def nu(e:af)(by1:Int):Option (af×Int):=
 (jj e).bind fun r=>
 gW e by1 r (⟨[]⟩:af)

def fb(left:Int)(outer:Bool)(nx:(List (List af))->Option ((List af)×(List af)×(List af)))(e:af)(to1:(List (List af))):List Int->Bool->Bool->Option ((List af)×(List af)×(List af))
  |[],low,high=>
    if low then
    ((kF (d9 to1 0) ([e])).bind fun l5=>
    nx ([l5,(d9 to1 1),(d9 to1 2)]))
    else
    (if(high&&(!outer))then
    ((nu e (IntKind.i64.wrap (0-left))).bind fun r2=>
    (kF (d9 to1 1) ([r2.1])).bind fun l7=>
    nx ([(d9 to1 0),l7,(d9 to1 2)]))
    else
    ((kF (d9 to1 2) ([e])).bind fun l9=>
    nx ([(d9 to1 0),(d9 to1 1),l9])))
  |e1::tl1,low,high=>
    (fb left outer nx e to1 tl1) (low&&(decide (e1<left))) (high&&(decide (left<=e1)))

def gV(left:Int)(outer:Bool):List af->(List (List af))->Option ((List af)×(List af)×(List af))
 |[],to1=>
  some ((d9 to1 0),(d9 to1 1),(d9 to1 2))
 |e::tl,to1=>
  (jj e).bind fun r1=>
  fb left outer (gV left outer tl) e to1 r1 true true

def nt(cond:af)(left:Int)(outer:Bool):Option ((List af)×(List af)×(List af)):=
 (oI cond).bind fun r=>
 gV left outer r ([([]:List af),([]:List af),([]:List af)])

def gX(b:(List af)):List af->Nat->Option Bool
 |[],i=>
  some true
 |e::tl,i=>
  (eG b (i:Int)).bind fun e1=>
  (mS e e1).bind fun r=>
  if(!r)then
  (some false)
  else
  ((gX b tl) (i+1))

def iB(a1:(List af))(b:(List af)):Option Bool:=
 if((a1.length:Int) !=(b.length:Int))then
 (some false)
 else
 (gX b a1 0)

def iN:Option Bool:=
 some true

def iM(nx:Nat->Option Bool)(i:Nat):Option Bool:=
 nx (i+1)

def dw(outer:Bool)(nx:Nat->Option Bool)(i:Nat)(r1:af):List Int->Nat->Option Bool
  |[],i1=>
    iM nx i
  |e1::tl1,i1=>
    if((i1:Int)==(6:Int))then
    (iM nx i)
    else
    ((fJ r1 e1 outer).bind fun r2=>
    (nv r1).bind fun r3=>
    if(!r3)then
    (if((r2.2.2.2 !=(200:Int))||((IntKind.i64.wrap ((IntKind.i64.wrap ((r2.1.length:Int)+(r2.2.1.length:Int)))+(r2.2.2.1.length:Int))) !=(0:Int)))then
    (some false)
    else
    ((dw outer nx i r1 tl1) (i1+1)))
    else
    (if((decide (e1<(0:Int)))||(decide ((16:Int)<e1)))then
    (if((r2.2.2.2 !=(2:Int))||((IntKind.i64.wrap ((IntKind.i64.wrap ((r2.1.length:Int)+(r2.2.1.length:Int)))+(r2.2.2.1.length:Int))) !=(0:Int)))then
    (some false)
    else
    ((dw outer nx i r1 tl1) (i1+1)))
    else
    ((nt r1 e1 outer).bind fun r4=>
    (if(!(r2.2.2.2 !=(0:Int)))then((iB r2.1 r4.1).bind fun r5=>
    some (!r5))else some true).bind fun t=>
    (if(!t)then((iB r2.2.1 r4.2.1).bind fun r6=>
    some (!r6))else some true).bind fun t1=>
    (if(!t1)then((iB r2.2.2.1 r4.2.2).bind fun r7=>
    some (!r7))else some true).bind fun t2=>
    if t2 then
    (some false)
    else
    ((dw outer nx i r1 tl1) (i1+1)))))

def dx(lefts:(List Int))(outer:Bool):List af->Nat->Option Bool
  |[],i=>
    iN
  |e::tl,i=>
    if((i:Int)==(6:Int))then
    (iN)
    else
    ((nD e).bind fun r1=>
    dw outer (dx lefts outer tl) i r1 lefts 0)

def ki(l:(List af))(lefts:(List Int))(outer:Bool):Option Bool:=
 (pH).bind fun r=>
 if(!r)then
 (some false)
 else
 (dx lefts outer l 0)

end Go.Proofs.YtbmmihfagmchaaaGreat

