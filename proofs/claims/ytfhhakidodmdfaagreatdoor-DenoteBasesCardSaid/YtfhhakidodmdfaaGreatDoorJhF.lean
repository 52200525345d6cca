/- cX of this claim: F. -/
import Derived.Test.YtfhhakidodmdfaaGreatDoorJhD
import Derived.Test.YtfhhakidodmdfaaGreatDoorJhV4
import Derived.Lib.MapU
set_option linter.all false
namespace Go.Proofs.YtfhhakidodmdfaaGreatDoor
open Go

def gh(f:(Int→Option Bool)):List Int→Nat→Option Int
 |[],i=>
  some (-1:Int)
 |e::tl,i=>
  (f e).bind fun r=>
  if r then
  (some (i:Int))
  else
  ((gh f tl) (i+1))

def ku(s:(List Int))(f:(Int→Option Bool)):Option Int:=
 gh f s 0

def dW(s:(List Int))(f:(Int→Option Bool)):Option Bool:=
 (ku s f).bind fun r=>
 some (decide ((0:Int)≤r))

def vY(k:Int):Option Bool:=
 some (((k==(1:Int))||(k==(2:Int)))||(k==(3:Int)))

def jO(k:Int):Option Bool:=
 (vY k).bind fun r=>
 some (!r)

def iU(c:aF)(n:aC):Option ((List Int)×Bool):=
  (if((((decide ((0:Int)≤n.Table))&&(decide (n.Table<(4:Int))))&&(decide ((1:Int)≤(n.Kinds.length:Int))))&&(decide ((n.Kinds.length:Int)≤(4:Int))))then((dW n.Kinds jO).bind fun r=>
  some (!r))else some false).bind fun t=>
  some (n.Kinds,t)

def iR(s:List Int):Option (List Int):=
 some s

def lf(n:Int):Option (List Int):=
  if(decide ((0:Int)<(IntKind.i64.wrap (n-(IntKind.i64.wrap ((0:Int)-(0:Int)))))))then
  ((M6 (IntKind.i64.wrap (n-(IntKind.i64.wrap ((0:Int)-(0:Int)))))).bind fun _=>
  (pc (IntKind.i64.wrap (n-(IntKind.i64.wrap ((0:Int)-(0:Int))))) (0:Int)).bind fun mk=>
  (dx mk 0 (0:Int)).bind fun y=>
  iR y)
  else
  (iR ([]:List Int))

def nb(n:Int):Option (List Int):=
 if(decide (n<(0:Int)))then
 (none)
 else
 (lf n)

def ie:List (List Int)→(List Int)→Option (List Int)
 |[],newslice=>
  some newslice
 |e1::tl1,newslice=>
  (k5 newslice e1).bind fun newslice1=>
  (ie tl1) newslice1

def ig(slices:(List (List Int))):List (List Int)→Int→Option (List Int)
 |[],size=>
  (nb size).bind fun r=>
  ie slices r
 |e::tl,size=>
  if(decide ((IntKind.i64.wrap (size+(e.length:Int)))<(0:Int)))then
  (none)
  else
  ((ig slices tl) (IntKind.i64.wrap (size+(e.length:Int))))

def jt(slices:(List (List Int))):Option (List Int):=
 ig slices slices (0:Int)

def qq(tag:Int):Option Int:=
  if((tag==(1:Int))||(tag==(2:Int)))then
  (some (0:Int))
  else
  (if((decide ((4:Int)≤tag))&&(decide (tag≤(7:Int))))then
  (some (1:Int))
  else
  (if((decide ((12:Int)≤tag))&&(decide (tag≤(23:Int))))then
  (some (2:Int))
  else
  (some (-1:Int))))

def gy(v1:M):Option M:=
 some v1

def lb(v2:M):Option M:=
 gy (M.mk (0:Int) v2.N v2.U v2.S)

def la(v:M):Option M:=
 lb (M.mk v.Kind (0:Int) v.U v.S)

def k7(v3:M):Option M:=
 gy v3

def rh(v:M):Option M:=
  if(v.Kind==(1:Int))then
  (if((v.N !=(0:Int))&&(v.N !=(1:Int)))then
  (gy v)
  else
  (la v))
  else
  (if(v.Kind==(2:Int))then
  (la v)
  else
  (if(v.Kind==(0:Int))then
  (lb v)
  else
  (if(v.Kind==(3:Int))then
  (if(decide ((v.S.length:Int)≤(40:Int)))then
  (k7 (M.mk (0:Int) v.N v.U ([])))
  else
  (k7 v))
  else
  (if(v.Kind==(4:Int))then
  (gy (M.mk (0:Int) (0:Int) (0:Int) v.S))
  else
  (gy v)))))

def iP(v:M):Option Int:=
 (rh v).bind fun r=>
 if(!decide (r=(⟨(0:Int),(0:Int),(0:Int),[]⟩:M)))then
 (some (120:Int))
 else
 (some (0:Int))

def mD(v:M):Option Bool:=
 (iP v).bind fun r=>
 some ((r==(0:Int))&&(v.Kind !=(4:Int)))

def wd(n:cu):Option Bool:=
  if(n.Tag==(1:Int))then
  ((mD n.Value).bind fun r=>
  some (r&&(n.Col==(0:Int))))
  else
  (if(n.Tag==(2:Int))then
  (some (((decide (n.Value=(⟨(0:Int),(0:Int),(0:Int),[]⟩:M)))&&(decide ((0:Int)≤n.Col)))&&(decide (n.Col<(16:Int)))))
  else
  (some ((decide (n.Value=(⟨(0:Int),(0:Int),(0:Int),[]⟩:M)))&&(n.Col==(0:Int)))))

def oh(nx:Nat→(List Int)→(List Int)→Option ((List Int)×Bool))(i:Nat)(e1:cu)(all:List Int)(open1:List Int)(r:Int):List Int→Nat→Int→(List Int)→Option ((List Int)×Bool)
  |[],i1,first,at1=>
    if(!decide (at1=([e1.L,e1.R])))then
    (some ([],false))
    else
    ((k5 all ([first])).bind fun all1=>
    (dx open1 0 (IntKind.i64.wrap ((open1.length:Int)-r))).bind fun y1=>
    (k5 y1 ([(i:Int)])).bind fun open2=>
    nx (i+1) all1 open2)
  |e2::tl1,i1,first,at1=>
    (fm all e2).bind fun e3=>
    (fm at1 (i1:Int)).bind fun e4=>
    (some (at1.set (i1:Int).toNat e2)).bind fun ar=>
    (oh nx i e1 all open1 r tl1) (i1+1) (min first e3) ar

def lu:List cu→Nat→(List Int)→(List Int)→Option ((List Int)×Bool)
  |[],i,all,open1=>
    some (all,(((open1.length:Int)==(1:Int))&&(decide ((all.length:Int)≤(1000:Int)))))
  |e1::tl,i,all,open1=>
    (qq e1.Tag).bind fun r=>
    (if(!((decide (r<(0:Int)))||(decide ((open1.length:Int)<r))))then((wd e1).bind fun r1=>
    some (!r1))else some true).bind fun t=>
    if t then
    (some ([],false))
    else
    ((dx open1 (IntKind.i64.wrap ((open1.length:Int)-r)) (open1.length:Int)).bind fun y=>
    oh (lu tl) i e1 all open1 r y 0 (i:Int) ([(-1:Int),(-1:Int)]))

def wc(e:cK):Option ((List Int)×Bool):=
 lu e.Nodes 0 ([]:List Int) ([]:List Int)

def qw(e:cK):Option Int:=
 (wc e).bind fun r=>
 if(!r.2)then
 (some (200:Int))
 else
 (some (0:Int))

def fl(i:Nat)(y:List Int):Nat→Nat→(List Int)→Int→Option (List Int)
  |0,i1,s1,k=>
    (dx s1 k (s1.length:Int)).bind fun y1=>
    (some (s1.take k.toNat++List.replicate y1.length (0:Int))).bind fun cl=>
    (dx cl 0 k).bind fun y2=>
    some y2
  |k2+1,i1,s1,k=>
    (AH s1 (i:Int) y.length (i1:Int)).bind fun e3=>
    (AH s1 (i:Int) y.length (IntKind.i64.wrap ((i1:Int)-(1:Int)))).bind fun e4=>
    if(e3 !=e4)then
    ((AH s1 (i:Int) y.length (i1:Int)).bind fun e5=>
    (fm s1 k).bind fun e6=>
    (some (s1.set k.toNat e5)).bind fun st=>
    (fl i y k2) (i1+1) st (IntKind.i64.wrap (k+(1:Int))))
    else
    ((fl i y k2) (i1+1) s1 k)

def gP(s:(List Int)):List Int→Nat→Option (List Int)
  |[],i=>
    some s
  |e::tl,i=>
    (fm s (IntKind.i64.wrap ((i:Int)-(1:Int)))).bind fun e1=>
    if(e==e1)then
    ((dx s (i:Int) (s.length:Int)).bind fun y=>
    fl i y (y.length-1) 1 s (i:Int))
    else
    ((gP s tl) (i+1))

def lg(s:(List Int)):Option (List Int):=
 if(decide ((s.length:Int)<(2:Int)))then
 (some s)
 else
 (gP s (s.drop (1)) 1)

def nl:List cu→(List Int)→Option (List Int)
  |[],out=>
    (Aq out).bind fun u7=>
    (lg u7).bind fun r1=>
    some r1
  |e1::tl,out=>
    if(e1.Tag==(2:Int))then
    ((k5 out ([e1.Col])).bind fun out1=>
    (nl tl) out1)
    else
    ((nl tl) out)

def vy(e:cK):Option (List Int):=
 (qw e).bind fun r=>
 if(r !=(0:Int))then
 (some ([]:List Int))
 else
 (nl e.Nodes ([]:List Int))

def cR(s:(List Int)):Option (List Int):=
 (k5 ([]:List Int) s).bind fun x=>
 some x

def qP(stack:(List Int))(k:Int):Option ((List Int)×(List Int)):=
 (dx stack (IntKind.i64.wrap ((stack.length:Int)-k)) (stack.length:Int)).bind fun y=>
 (cR y).bind fun r=>
 (dx stack 0 (IntKind.i64.wrap ((stack.length:Int)-k))).bind fun y1=>
 some (r,y1)

def mb(bad:Int)(stack:List Int):Option (Int×Int):=
  if(bad !=(0:Int))then
  (some ((0:Int),bad))
  else
  ((fm stack (0:Int)).bind fun e1=>
  some (e1,(0:Int)))

def ma(do1:(cu→(List Int)→Option (Int×Int))):List cu→Int→(List Int)→Option (Int×Int)
  |[],bad1,stack1=>
    mb bad1 stack1
  |e2::tl,bad1,stack1=>
    (qq e2.Tag).bind fun r=>
    (qP stack1 r).bind fun r1=>
    (do1 e2 r1.1).bind fun r2=>
    if(r2.2 !=(0:Int))then
    (mb r2.2 r1.2)
    else
    ((k5 r1.2 ([r2.1])).bind fun l2=>
    (ma do1 tl) bad1 l2)

def sY(e:cK)(do1:(cu→(List Int)→Option (Int×Int))):Option (Int×Int):=
 ma do1 e.Nodes (0:Int) ([]:List Int)

def qQ(tag:Int):Option Bool:=
 some ((tag==(4:Int))||((decide ((12:Int)≤tag))&&(decide (tag≤(15:Int)))))

def jU(kinds:(List Int))(n:cu):List Int→Int→Option (Int×Int)
  |[],own=>
    if(n.Tag==(1:Int))then
    (some (n.Value.Kind,(0:Int)))
    else
    (if(n.Tag==(2:Int))then
    ((fm kinds n.Col).bind fun e1=>
    some (e1,(0:Int)))
    else
    ((qQ n.Tag).bind fun r=>
    if r then
    (if((own==(-1:Int))||((own !=(0:Int))&&(own !=(2:Int))))then
    (some ((0:Int),(201:Int)))
    else
    (some ((2:Int),(0:Int))))
    else
    (if(((n.Tag==(5:Int))||(n.Tag==(22:Int)))||(n.Tag==(23:Int)))then
    (if((own==(-1:Int))||((own !=(0:Int))&&(own !=(1:Int))))then
    (some ((0:Int),(201:Int)))
    else
    (some ((1:Int),(0:Int))))
    else
    (if((own==(-1:Int))||((own !=(0:Int))&&(own !=own)))then
    (some ((0:Int),(201:Int)))
    else
    (some ((1:Int),(0:Int)))))))
  |e::tl,own=>
    if((e==(0:Int))||(e==own))then
    ((jU kinds n tl) own)
    else
    (if(own==(0:Int))then
    ((jU kinds n tl) e)
    else
    ((jU kinds n tl) (-1:Int)))

def rQ(kinds:(List Int))(n:cu)(l:(List Int)):Option (Int×Int):=
 jU kinds n l (0:Int)

def qt(e:cK)(kinds:(List Int)):List Int→Option (Int×Int)
 |[]=>
  (sY e (rQ kinds)).bind fun r2=>
  some (r2.1,r2.2)
 |e2::tl1=>
  if(decide ((kinds.length:Int)≤e2))then
  (some ((0:Int),(2:Int)))
  else
  ((qt e kinds tl1))

def qu(e:cK)(kinds:(List Int)):List Int→Option (Int×Int)
 |[]=>
  (vy e).bind fun r1=>
  qt e kinds r1
 |e1::tl=>
  if((decide (e1<(0:Int)))||(decide ((3:Int)<e1)))then
  (some ((0:Int),(2:Int)))
  else
  ((qu e kinds tl))

def sv(e:cK)(kinds:(List Int)):Option (Int×Int):=
 (qw e).bind fun r=>
 if(r !=(0:Int))then
 (some ((0:Int),r))
 else
 (qu e kinds kinds)

def rF(e:cK)(kinds:(List Int)):Option Bool:=
 (sv e kinds).bind fun r=>
 some ((r.2==(0:Int))&&((r.1==(1:Int))||(r.1==(0:Int))))

def iV(c:aF)(n:aC):Option ((List Int)×Bool):=
 (fm c.kinds n.A).bind fun e=>
 (fm c.kinds n.B).bind fun e1=>
 (jt ([e,e1])).bind fun r=>
 (rF n.Cond r).bind fun r1=>
 some (r,r1)

def hP(c:aF)(n:aC):Option ((List Int)×Bool):=
 (fm c.kinds n.A).bind fun e=>
 (rF n.Cond e).bind fun r=>
 some (e,r)

def nX(kinds:(List Int))(c:Int):Option Bool:=
 some ((decide (c<(0:Int)))||(decide ((kinds.length:Int)≤c)))

def ut(l:(List Int))(kinds:(List Int)):Option Bool:=
 (dW l (nX kinds)).bind fun r=>
 some (!r)

def qf(r:Int×Int)(x:Bool):Option (Int×Bool):=
 if x then
 (some (r.1,(r.2==(0:Int))))
 else
 (some ((0:Int),false))

def zw(a1:kz)(kinds:(List Int)):Option (Int×Bool):=
  if(a1.Tag==(1:Int))then
  (some ((2:Int),((a1.Arg.Nodes.length:Int)==(0:Int))))
  else
  ((sv a1.Arg kinds).bind fun r=>
  if(a1.Tag==(2:Int))then
  (some ((2:Int),(r.2==(0:Int))))
  else
  (if(a1.Tag==(3:Int))then
  (some ((2:Int),((r.2==(0:Int))&&((r.1==(2:Int))||(r.1==(0:Int))))))
  else
  (if(a1.Tag==(4:Int))then
  (qf r (a1.Tag==(4:Int)))
  else
  (qf r (a1.Tag==(5:Int))))))

def iW(e:(List Int)):List kz→(List Int)→Bool→Option ((List Int)×Bool)
 |[],out1,ok=>
  some (out1,ok)
 |e2::tl1,out1,ok=>
  (zw e2 e).bind fun r1=>
  (k5 out1 ([r1.1])).bind fun out2=>
  (iW e tl1) out2 (ok&&r1.2)

def iX(n:aC)(e:(List Int))(t:Bool):List Int→(List Int)→Option ((List Int)×Bool)
 |[],out=>
  iW e n.Aggs out t
 |e1::tl,out=>
  (fm e e1).bind fun e3=>
  (k5 out ([e3])).bind fun out3=>
  (iX n e t tl) out3

def iv(c:aF)(n:aC):Option ((List Int)×Bool):=
  (fm c.kinds n.A).bind fun e=>
  (if(((decide ((n.Keys.length:Int)≤(3:Int)))&&(decide ((n.Aggs.length:Int)≤(12:Int))))&&(decide ((0:Int)<(IntKind.i64.wrap ((n.Keys.length:Int)+(n.Aggs.length:Int))))))then((ut n.Keys e).bind fun r=>
  some r)else some false).bind fun t=>
  if(!t)then
  (some ([],false))
  else
  (iX n e t n.Keys ([]:List Int))

def ii(c:aF)(n:aC):List cK→(List Int)→Bool→Option ((List Int)×Bool)
 |[],out,ok=>
  some (out,ok)
 |e::tl,out,ok=>
  (fm c.kinds n.A).bind fun e1=>
  (sv e e1).bind fun r=>
  (k5 out ([r.1])).bind fun out1=>
  (ii c n tl) out1 (ok&&(r.2==(0:Int)))

def gL(c:aF)(n:aC):Option ((List Int)×Bool):=
 ii c n n.Items ([]:List Int) ((decide ((1:Int)≤(n.Items.length:Int)))&&(decide ((n.Items.length:Int)≤(16:Int))))

def gk(c:aF)(n:aC):Option ((List Int)×Bool):=
 (fm c.kinds n.A).bind fun e=>
 some (e,true)

def iT(nx:Nat→(List Int)→Bool→Option ((List Int)×Bool))(i:Nat)(e2:Int)(ok:Bool)(out1:List Int):Option ((List Int)×Bool):=
  (if ok then((fm out1 (i:Int)).bind fun e3=>
  some ((e3==e2)||(e2==(0:Int))))else some false).bind fun t=>
  nx (i+1) out1 t

def fa:List Int→Nat→(List Int)→Bool→Option ((List Int)×Bool)
  |[],i,out,ok=>
    some (out,ok)
  |e2::tl,i,out,ok=>
    (fm out (i:Int)).bind fun e4=>
    if(e4==(0:Int))then
    ((some (out.set (i:Int).toNat e2)).bind fun st=>
    iT (fa tl) i e2 ok st)
    else
    (iT (fa tl) i e2 ok out)

def ir(c:aF)(n:aC):Option ((List Int)×Bool):=
  (fm c.kinds n.A).bind fun e=>
  (fm c.kinds n.B).bind fun e1=>
  if((e.length:Int) !=(e1.length:Int))then
  (some ([],false))
  else
  ((cR e).bind fun r=>
  fa e1 0 r true)

def eE(f:(ik→Option Bool)):List ik→Nat→Option Int
 |[],i=>
  some (-1:Int)
 |e::tl,i=>
  (f e).bind fun r=>
  if r then
  (some (i:Int))
  else
  ((eE f tl) (i+1))

def gX(s:(List ik))(f:(ik→Option Bool)):Option Int:=
 eE f s 0

def gq(s:(List ik))(f:(ik→Option Bool)):Option Bool:=
 (gX s f).bind fun r=>
 some (decide ((0:Int)≤r))

def ju(in1:(List Int))(o:ik):Option Bool:=
 some ((decide (o.Col<(0:Int)))||(decide ((in1.length:Int)≤o.Col)))

def iu(c:aF)(n:aC):Option ((List Int)×Bool):=
  (fm c.kinds n.A).bind fun e=>
  (if(decide ((n.Order.length:Int)≤(3:Int)))then((gq n.Order (ju e)).bind fun r=>
  some (!r))else some false).bind fun t=>
  some (e,(((t&&(decide ((-1:Int)≤n.Limit)))&&(decide (n.Limit≤(2147483647:Int))))&&((c.kinds.length:Int)==(IntKind.i64.wrap ((c.Logic.Nodes.length:Int)-(1:Int))))))

def xV(n:aC):Option Bool:=
 some (((((((((n.Table==(0:Int))&&((n.Kinds.length:Int)==(0:Int)))&&(!n.Left))&&((n.Cond.Nodes.length:Int)==(0:Int)))&&((n.Keys.length:Int)==(0:Int)))&&((n.Aggs.length:Int)==(0:Int)))&&((n.Items.length:Int)==(0:Int)))&&((n.Order.length:Int)==(0:Int)))&&(n.Limit==(0:Int)))

def xW(n:aC):Option aC:=
  if(n.Op==(1:Int))then
  (some (aC.mk n.Op n.A n.B (0:Int) ([]) n.Left n.Cond n.Keys n.Aggs n.Items n.Order n.Limit))
  else
  (if(n.Op==(2:Int))then
  (some (aC.mk n.Op n.A n.B n.Table n.Kinds false (⟨[]⟩:cK) n.Keys n.Aggs n.Items n.Order n.Limit))
  else
  (if(n.Op==(3:Int))then
  (some (aC.mk n.Op n.A n.B n.Table n.Kinds n.Left (⟨[]⟩:cK) n.Keys n.Aggs n.Items n.Order n.Limit))
  else
  (if(n.Op==(4:Int))then
  (some (aC.mk n.Op n.A n.B n.Table n.Kinds n.Left n.Cond ([]) ([]) n.Items n.Order n.Limit))
  else
  (if(n.Op==(5:Int))then
  (some (aC.mk n.Op n.A n.B n.Table n.Kinds n.Left n.Cond n.Keys n.Aggs ([]) n.Order n.Limit))
  else
  (if(n.Op==(8:Int))then
  (some (aC.mk n.Op n.A n.B n.Table n.Kinds n.Left n.Cond n.Keys n.Aggs n.Items ([]) (0:Int)))
  else
  (some n))))))

def nY(x:Bool):Option Int:=
 if x then
 (some (2:Int))
 else
 (some (1:Int))

def vZ(op:Int):Option Int:=
  if(op==(1:Int))then
  (some (0:Int))
  else
  (if(op==(2:Int))then
  (nY (op==(2:Int)))
  else
  (nY (op==(7:Int))))

def nc(c:aF)(i:Int):Option (Int×Bool):=
  (fm c.Logic.Nodes i).bind fun e=>
  (vZ e.Op).bind fun r=>
  if(r==(0:Int))then
  (some (i,((e.A==(-1:Int))&&(e.B==(-1:Int)))))
  else
  (if(r==(1:Int))then
  (if(((e.A !=(IntKind.i64.wrap (i-(1:Int))))||(e.B !=(-1:Int)))||(i==(0:Int)))then
  (some ((0:Int),false))
  else
  ((fm c.first e.A).bind fun e1=>
  some (e1,true)))
  else
  ((if(!((e.B !=(IntKind.i64.wrap (i-(1:Int))))||(i==(0:Int))))then((fm c.first e.B).bind fun e2=>
  some (e.A !=(IntKind.i64.wrap (e2-(1:Int)))))else some true).bind fun t=>
  if(t||(decide (e.A<(0:Int))))then
  (some ((0:Int),false))
  else
  ((fm c.first e.A).bind fun e3=>
  some (e3,true))))

def iY{Sg:Type}(yld:(Int×Bool)→Sg→Option (Bool×Sg))(nx:Nat→Sg→aF→Option (Sg×aF))(i:Nat)(s1:Sg)(ok1:Bool)(kinds:(List Int))(ob2:aF):Option (Sg×aF):=
 (k5 ob2.kinds ([kinds])).bind fun l6=>
 (yld ((i:Int),(ok1&&(decide ((kinds.length:Int)≤(16:Int))))) s1).bind fun r2=>
 if((!r2.1)||(!(ok1&&(decide ((kinds.length:Int)≤(16:Int))))))then
 (some (r2.2,({ob2 with kinds:=l6}:aF)))
 else
 (nx (i+1) r2.2 ({ob2 with kinds:=l6}:aF))

def iZ{Sg:Type}(yld:(Int×Bool)→Sg→Option (Bool×Sg))(nx:Nat→Sg→aF→Option (Sg×aF))(i:Nat)(e2:aC)(s1:Sg)(ok:Bool)(ob1:aF):Option (Sg×aF):=
  if ok then
  ((((pi (ee (ee (ee (ee (ee (ee (ee (ee ([]:List (Int×(aF→aC→Option (((List Int)×Bool)×aF)))) (1:Int) (fun(mc:aF) (mx:aC)=>(iU mc mx).map fun mr=>(mr,mc))) (2:Int) (fun(mc:aF) (mx:aC)=>(iV mc mx).map fun mr=>(mr,mc))) (3:Int) (fun(mc:aF) (mx:aC)=>(hP mc mx).map fun mr=>(mr,mc))) (4:Int) (fun(mc:aF) (mx:aC)=>(iv mc mx).map fun mr=>(mr,mc))) (5:Int) (fun(mc:aF) (mx:aC)=>(gL mc mx).map fun mr=>(mr,mc))) (6:Int) (fun(mc:aF) (mx:aC)=>(gk mc mx).map fun mr=>(mr,mc))) (7:Int) (fun(mc:aF) (mx:aC)=>(ir mc mx).map fun mr=>(mr,mc))) (8:Int) (fun(mc:aF) (mx:aC)=>(iu mc mx).map fun mr=>(mr,mc))) e2.Op).getD (fun _ _=>none)) ob1 (e2)).bind fun r3=>
  iY yld nx i s1 r3.1.2 r3.1.1 r3.2)
  else
  (iY yld nx i s1 ok ([]) ob1)

def el{Sg:Type}(yld:(Int×Bool)→Sg→Option (Bool×Sg)):List aC→Nat→Sg→aF→Option (Sg×aF)
  |[],i,s1,ob=>
    some (s1,ob)
  |e2::tl,i,s1,ob=>
    (if((pi (ee (ee (ee (ee (ee (ee (ee (ee ([]:List (Int×(aF→aC→Option (((List Int)×Bool)×aF)))) (1:Int) (fun(mc:aF) (mx:aC)=>(iU mc mx).map fun mr=>(mr,mc))) (2:Int) (fun(mc:aF) (mx:aC)=>(iV mc mx).map fun mr=>(mr,mc))) (3:Int) (fun(mc:aF) (mx:aC)=>(hP mc mx).map fun mr=>(mr,mc))) (4:Int) (fun(mc:aF) (mx:aC)=>(iv mc mx).map fun mr=>(mr,mc))) (5:Int) (fun(mc:aF) (mx:aC)=>(gL mc mx).map fun mr=>(mr,mc))) (6:Int) (fun(mc:aF) (mx:aC)=>(gk mc mx).map fun mr=>(mr,mc))) (7:Int) (fun(mc:aF) (mx:aC)=>(ir mc mx).map fun mr=>(mr,mc))) (8:Int) (fun(mc:aF) (mx:aC)=>(iu mc mx).map fun mr=>(mr,mc))) e2.Op).isSome)then((xW e2).bind fun r=>
    (xV r).bind fun r1=>
    some r1)else some false).bind fun t=>
    if t then
    ((nc ob (i:Int)).bind fun r4=>
    (k5 ob.first ([r4.1])).bind fun l7=>
    iZ yld (el yld tl) i e2 s1 r4.2 ({ob with first:=l7}:aF))
    else
    (iZ yld (el yld tl) i e2 s1 t ob)

def kf{Sg:Type}(c:aF)(yld:(Int×Bool)→Sg→Option (Bool×Sg))(s:Sg):Option (Sg×aF):=
 el yld c.Logic.Nodes 0 s c

def oU(c:aF):Option (E5 (Int×Bool) aF):=
 some (fun _=>kf c)

def sW(x:Int×Bool)(x1:Bool)(x2:Int)(p:Bool):Option (Option Nat×(Bool×Int×Bool)):=
 if(!x.2)then
 (some (some 0,(false,x.1,true)))
 else
 (some (none,(x1,x2,p)))

def qe(l:dM):Option (aF×Int×Bool):=
  if((decide ((l.Nodes.length:Int)<(1:Int)))||(decide ((60:Int)<(l.Nodes.length:Int))))then
  (some ((⟨l,[],[]⟩:aF),(0:Int),false))
  else
  ((oU (⟨l,[],[]⟩:aF)).bind fun it=>
  (it (Option Nat×(Bool×Int×Bool)) (ym (fun x s=>sW x s.1 s.2.1 s.2.2)) (none,(false,(0:Int),false))).bind fun r=>
  if r.1.1.isNone then
  ((fm r.2.first (IntKind.i64.wrap ((l.Nodes.length:Int)-(1:Int)))).bind fun e=>
  some (r.2,(IntKind.i64.wrap ((l.Nodes.length:Int)-(1:Int))),(e==(0:Int))))
  else
  ((Qe r.1.2.2.2).bind fun _=>
  some (r.2,r.1.2.2.1,r.1.2.1)))

def rG(l:dM):Option (Int×Int):=
 (qe l).bind fun r=>
 if(!r.2.2)then
 (some (r.2.1,(230:Int)))
 else
 (some ((0:Int),(0:Int)))

def iJ(kinds:(List Int))(nx:Option Bool):List M→Nat→Option Bool
  |[],i1=>
    nx
  |e1::tl1,i1=>
    (iP e1).bind fun r=>
    (if(!(r !=(0:Int)))then((if(e1.Kind !=(0:Int))then((fm kinds (i1:Int)).bind fun e2=>
    some (e1.Kind !=e2))else some false).bind fun t1=>
    some t1)else some true).bind fun t=>
    if t then
    (some false)
    else
    ((iJ kinds nx tl1) (i1+1))

def iK(kinds:(List Int)):List (List M)→Option Bool
 |[]=>
  some true
 |e::tl=>
  if((e.length:Int) !=(kinds.length:Int))then
  (some false)
  else
  (iJ kinds (iK kinds tl) e 0)

def mN(rows:(List (List M)))(kinds:(List Int)):Option Bool:=
 if(decide ((12:Int)<(rows.length:Int)))then
 (some false)
 else
 (iK kinds rows)

def ov(b:eU):List aC→Option Bool
  |[]=>
    some true
  |e::tl=>
    (if(e.Op==(1:Int))then((if(!(decide ((b.Tables.length:Int)≤e.Table)))then((fm b.Tables e.Table).bind fun e1=>
    (mN e1 e.Kinds).bind fun r1=>
    some (!r1))else some true).bind fun t1=>
    some t1)else some false).bind fun t=>
    if t then
    (some false)
    else
    ((ov b tl))

def wm(l:dM)(b:eU):Option Bool:=
 (rG l).bind fun r=>
 if(r.2 !=(0:Int))then
 (some false)
 else
 (ov b l.Nodes)

def v6(l:dM):Option ((List Int)×Int):=
  (qe l).bind fun r=>
  if(!r.2.2)then
  (some ([],(230:Int)))
  else
  ((fm r.1.kinds r.2.1).bind fun e=>
  (cR e).bind fun r1=>
  some (r1,(0:Int)))

def m4(r:cU)(n:aC):Option ((List (List M))×Int):=
 (fm r.Base.Tables n.Table).bind fun e=>
 some (e,(0:Int))

def eV(s:List M):Option (List M):=
 some s

def gY(n:Int):Option (List M):=
  if(decide ((0:Int)<(IntKind.i64.wrap (n-(IntKind.i64.wrap ((0:Int)-(0:Int)))))))then
  ((M6 (IntKind.i64.wrap (n-(IntKind.i64.wrap ((0:Int)-(0:Int)))))).bind fun _=>
  (pc (IntKind.i64.wrap (n-(IntKind.i64.wrap ((0:Int)-(0:Int))))) (⟨(0:Int),(0:Int),(0:Int),[]⟩:M)).bind fun mk=>
  (dx mk 0 (0:Int)).bind fun y=>
  eV y)
  else
  (eV ([]:List M))

def iQ(n:Int):Option (List M):=
 if(decide (n<(0:Int)))then
 (none)
 else
 (gY n)

def eI:List (List M)→(List M)→Option (List M)
 |[],newslice=>
  some newslice
 |e1::tl1,newslice=>
  (k5 newslice e1).bind fun newslice1=>
  (eI tl1) newslice1

def eJ(slices:(List (List M))):List (List M)→Int→Option (List M)
 |[],size=>
  (iQ size).bind fun r=>
  eI slices r
 |e::tl,size=>
  if(decide ((IntKind.i64.wrap (size+(e.length:Int)))<(0:Int)))then
  (none)
  else
  ((eJ slices tl) (IntKind.i64.wrap (size+(e.length:Int))))

def d5(slices:(List (List M))):Option (List M):=
 eJ slices slices (0:Int)

def lw{Sg:Type}(yld:(Int×(List M))→Sg→Option (Bool×Sg))(nx:Nat→Sg→Option Sg)(i:Nat)(e2:(List M)):List (List M)→Sg→Option Sg
 |[],s2=>
  nx (i+1) s2
 |e4::tl1,s2=>
  (d5 ([e2,e4])).bind fun r=>
  (yld ((i:Int),r) s2).bind fun r1=>
  if(!r1.1)then
  (some r1.2)
  else
  ((lw yld nx i e2 tl1) r1.2)

def jC{Sg:Type}(b:(List (List M)))(yld:(Int×(List M))→Sg→Option (Bool×Sg)):List (List M)→Nat→Sg→Option Sg
 |[],i,s1=>
  some s1
 |e2::tl,i,s1=>
  lw yld (jC b yld tl) i e2 b s1

def oo{Sg:Type}(a1:(List (List M)))(b:(List (List M)))(yld:(Int×(List M))→Sg→Option (Bool×Sg))(s:Sg):Option Sg:=
 jC b yld a1 0 s

def uP(a1:(List (List M)))(b:(List (List M))):Option (It (Int×(List M))):=
 some (fun _=>oo a1 b)

def pn(do1:(M→M→Option (M×Int)))(a1:M)(b:M):Option (M×Int):=
 (do1 b a1).bind fun r=>
 some (r.1,r.2)

def wb(do1:(M→M→Option (M×Int))):Option (M→M→Option (M×Int)):=
 some (pn do1)

def pZ:Option M:=
 some (⟨(0:Int),(0:Int),(0:Int),[]⟩:M)

def pf(v:M):Option M:=
 some v

def p3(b:Bool):Option M:=
 if b then
 (pf (M.mk (⟨(1:Int),(0:Int),(0:Int),[]⟩:M).Kind (1:Int) (⟨(1:Int),(0:Int),(0:Int),[]⟩:M).U (⟨(1:Int),(0:Int),(0:Int),[]⟩:M).S))
 else
 (pf (⟨(1:Int),(0:Int),(0:Int),[]⟩:M))

def nM:List M→Option Int
 |[]=>
  some (0:Int)
 |e::tl=>
  (iP e).bind fun r=>
  if(r !=(0:Int))then
  (some r)
  else
  ((nM tl))

def rf(l:(List M)):Option Int:=
 nM l

def pp(p:Int):Option Bool:=
 some (p !=p)

def m7(p:Int)(y:Int):Option Int:=
  (pp p).bind fun r=>
  (pp y).bind fun r1=>
  if r then
  (if r1 then
  (some (0:Int))
  else
  (some (-1:Int)))
  else
  (if r1 then
  (some (1:Int))
  else
  (if(decide (p<y))then
  (some (-1:Int))
  else
  (if(decide (y<p))then
  (some (1:Int))
  else
  (some (0:Int)))))

def pq:List Int→Option Int
 |[]=>
  some (0:Int)
 |e::tl=>
  if(e !=(0:Int))then
  (some e)
  else
  ((pq tl))

def qB(vals:(List Int)):Option Int:=
 pq vals

def m6(p:Int):Option Bool:=
 some (p !=p)

def lx(p:Int)(y:Int):Option Int:=
  (m6 p).bind fun r=>
  (m6 y).bind fun r1=>
  if r then
  (if r1 then
  (some (0:Int))
  else
  (some (-1:Int)))
  else
  (if r1 then
  (some (1:Int))
  else
  (if(decide (p<y))then
  (some (-1:Int))
  else
  (if(decide (y<p))then
  (some (1:Int))
  else
  (some (0:Int)))))

def iH(a1:eA)(b:eA):Option Int:=
 some (Kl a1 b)

def qK(a1:eA)(b:eA):Option Int:=
 (iH a1 b).bind fun r=>
 some r

def sO(a1:M)(b:M):Option Int:=
  (mD a1).bind fun r=>
  (if(!(!r))then((mD b).bind fun r1=>
  some (!r1))else some true).bind fun t=>
  if t then
  (some (0:Int))
  else
  ((m7 a1.Kind b.Kind).bind fun r2=>
  (lx a1.N b.N).bind fun r3=>
  (qK a1.S b.S).bind fun r4=>
  (qB ([r2,r3,r4])).bind fun r5=>
  some r5)

def ta(a1:M)(b:M)(is1:(Int→Option Bool)):Option (M×Int):=
  (rf ([a1,b])).bind fun r=>
  if(r !=(0:Int))then
  (some ((⟨(0:Int),(0:Int),(0:Int),[]⟩:M),r))
  else
  (if(((a1.Kind==(4:Int))||(b.Kind==(4:Int)))||((!((a1.Kind==(0:Int))||(b.Kind==(0:Int))))&&(a1.Kind !=b.Kind)))then
  (some ((⟨(0:Int),(0:Int),(0:Int),[]⟩:M),(2:Int)))
  else
  (if((a1.Kind==(0:Int))||(b.Kind==(0:Int)))then
  ((pZ).bind fun r1=>
  some (r1,(0:Int)))
  else
  ((sO a1 b).bind fun r2=>
  (is1 r2).bind fun r3=>
  (p3 r3).bind fun r4=>
  some (r4,(0:Int)))))

def ud(c:Int):Option Bool:=
 some (decide (c<(0:Int)))

def nO(a1:M)(b:M):Option (M×Int):=
 (ta a1 b ud).bind fun r=>
 some (r.1,r.2)

def qr(do1:(M→Option (M×Int)))(a1:M)(x:M):Option (M×Int):=
 (do1 a1).bind fun r=>
 some (r.1,r.2)

def tH(do1:(M→Option (M×Int))):Option (M→M→Option (M×Int)):=
 some (qr do1)

def nt(n:Int):Option M:=
 some (⟨(2:Int),n,(0:Int),[]⟩:M)

def nq(kind:Int):List M→Int→Option Int
  |[],e=>
    some e
  |e1::tl,e=>
    (iP e1).bind fun r=>
    if(r !=(0:Int))then
    (some (120:Int))
    else
    (if((e1.Kind !=(0:Int))&&(e1.Kind !=kind))then
    ((nq kind tl) (2:Int))
    else
    ((nq kind tl) e))

def pO(kind:Int)(l:(List M)):Option Int:=
 nq kind l (0:Int)

def rZ(a1:M)(b:M)(to1:(Int→Int→Option (Int×Bool))):Option (M×Int):=
  (pO (2:Int) ([a1,b])).bind fun r=>
  if(r !=(0:Int))then
  (some ((⟨(0:Int),(0:Int),(0:Int),[]⟩:M),r))
  else
  (if((a1.Kind==(0:Int))||(b.Kind==(0:Int)))then
  ((pZ).bind fun r1=>
  some (r1,(0:Int)))
  else
  ((to1 a1.N b.N).bind fun r2=>
  if(!r2.2)then
  (some ((⟨(0:Int),(0:Int),(0:Int),[]⟩:M),(140:Int)))
  else
  ((nt r2.1).bind fun r3=>
  some (r3,(0:Int)))))

def wo(a1:Int)(b:Int):Option (Int×Bool):=
 some ((IntKind.i64.wrap (a1-b)),decide ((0:Int)≤(jd .and .i64 (jd .xor .i64 a1 b) (jd .xor .i64 a1 (IntKind.i64.wrap (a1-b))))))

def sA(a1:M)(b:M):Option (M×Int):=
 (rZ a1 b wo).bind fun r=>
 some (r.1,r.2)

def zM(a1:M):Option (M×Int):=
 (nt (0:Int)).bind fun r=>
 (sA r a1).bind fun r1=>
 some (r1.1,r1.2)

def vS(v:M):Option Int:=
 if(v.Kind==(0:Int))then
 (some (1:Int))
 else
 (some (IntKind.i64.wrap ((2:Int)*v.N)))

def nN(to1:((List Int)→Option Int)):List M→(List Int)→M→Option (M×Int)
  |[],n,x=>
    (to1 n).bind fun r1=>
    (fm Qg r1).bind fun e1=>
    some (e1,(0:Int))
  |e::tl,n,x=>
    if(decide ((1:Int)<e.Kind))then
    (some ((⟨(0:Int),(0:Int),(0:Int),[]⟩:M),(2:Int)))
    else
    ((vS e).bind fun r2=>
    (k5 n ([r2])).bind fun n1=>
    (nN to1 tl) n1 x)

def oN(to1:((List Int)→Option Int))(l:(List M)):Option (M×Int):=
 (rf l).bind fun r=>
 if(r !=(0:Int))then
 (some ((⟨(0:Int),(0:Int),(0:Int),[]⟩:M),r))
 else
 (nN to1 l ([]:List Int) (⟨(0:Int),(0:Int),(0:Int),[]⟩:M))

def vT(l:(List Int)):Option Int:=
 (fm l (0:Int)).bind fun e=>
 some (IntKind.i64.wrap ((2:Int)-e))

def vg(a1:M):Option (M×Int):=
 (oN vT ([a1])).bind fun r=>
 some (r.1,r.2)

def rP(is1:Bool)(a1:M)(x:M):Option (M×Int):=
 (p3 ((a1.Kind==(0:Int))==is1)).bind fun r=>
 some (r,(0:Int))

def vx(is1:Bool):Option (M→M→Option (M×Int)):=
 some (rP is1)

def wr(a1:Int)(b:Int):Option (Int×Bool):=
 some ((IntKind.i64.wrap (a1+b)),decide ((0:Int)≤(jd .and .i64 (jd .xor .i64 a1 (IntKind.i64.wrap (a1+b))) (jd .xor .i64 b (IntKind.i64.wrap (a1+b))))))

def vJ(a1:M)(b:M):Option (M×Int):=
 (rZ a1 b wr).bind fun r=>
 some (r.1,r.2)

def qN(p:Int)(y:Int):Option (Int×Int):=
 some ((IntKind.u64.wrap ((IntKind.u64.wrap ((IntKind.u64.wrap (((p).fdiv (2^(min (Int.toNat (32:Int)) IntKind.u64.bits)))*((y).fdiv (2^(min (Int.toNat (32:Int)) IntKind.u64.bits)))))+(((IntKind.u64.wrap ((IntKind.u64.wrap (((p).fdiv (2^(min (Int.toNat (32:Int)) IntKind.u64.bits)))*(jd .and .u64 y (4294967295:Int))))+(((IntKind.u64.wrap ((jd .and .u64 p (4294967295:Int))*(jd .and .u64 y (4294967295:Int))))).fdiv (2^(min (Int.toNat (32:Int)) IntKind.u64.bits)))))).fdiv (2^(min (Int.toNat (32:Int)) IntKind.u64.bits)))))+(((IntKind.u64.wrap ((jd .and .u64 (IntKind.u64.wrap ((IntKind.u64.wrap (((p).fdiv (2^(min (Int.toNat (32:Int)) IntKind.u64.bits)))*(jd .and .u64 y (4294967295:Int))))+(((IntKind.u64.wrap ((jd .and .u64 p (4294967295:Int))*(jd .and .u64 y (4294967295:Int))))).fdiv (2^(min (Int.toNat (32:Int)) IntKind.u64.bits))))) (4294967295:Int))+(IntKind.u64.wrap ((jd .and .u64 p (4294967295:Int))*((y).fdiv (2^(min (Int.toNat (32:Int)) IntKind.u64.bits)))))))).fdiv (2^(min (Int.toNat (32:Int)) IntKind.u64.bits))))),(IntKind.u64.wrap (p*y)))

def oy(n:Int):Option Int:=
 if(decide (n<(0:Int)))then
 (some (IntKind.u64.wrap (0-(IntKind.u64.wrap n))))
 else
 (some (IntKind.u64.wrap n))

def qD(u:Int)(below:Bool):Option (Int×Bool):=
 if below then
 (some ((IntKind.i64.wrap (IntKind.u64.wrap (0-u))),decide (u≤(9223372036854775808:Int))))
 else
 (some ((IntKind.i64.wrap u),decide (u≤(9223372036854775807:Int))))

def wp(a1:Int)(b:Int):Option (Int×Bool):=
 (oy a1).bind fun r=>
 (oy b).bind fun r1=>
 (qN r r1).bind fun r2=>
 (qD r2.2 ((decide (a1<(0:Int))) !=(decide (b<(0:Int))))).bind fun r3=>
 some (r3.1,(r3.2&&(r2.1==(0:Int))))

def vH(a1:M)(b:M):Option (M×Int):=
 (rZ a1 b wp).bind fun r=>
 some (r.1,r.2)

def wq(a1:Int)(b:Int):Option (Int×Bool):=
  if(b==(0:Int))then
  (some ((0:Int),false))
  else
  ((oy a1).bind fun r=>
  (oy b).bind fun r1=>
  (nz r1).bind fun _=>
  (qD (IntKind.u64.wrap ((r).tdiv r1)) ((decide (a1<(0:Int))) !=(decide (b<(0:Int))))).bind fun r2=>
  some (r2.1,r2.2))

def vI(a1:M)(b:M):Option (M×Int):=
 (rZ a1 b wq).bind fun r=>
 some (r.1,r.2)

def sN(c:Int):Option Bool:=
 some (c==(0:Int))

def oO(a1:M)(b:M):Option (M×Int):=
 (ta a1 b sN).bind fun r=>
 some (r.1,r.2)

def tG(do1:(M→M→Option (M×Int)))(a1:M)(b:M):Option (M×Int):=
  (do1 a1 b).bind fun r=>
  if(r.2 !=(0:Int))then
  (some (r.1,r.2))
  else
  ((vg r.1).bind fun r1=>
  some (r1.1,r1.2))

def uL(do1:(M→M→Option (M×Int))):Option (M→M→Option (M×Int)):=
 some (tG do1)

def vU(l:(List Int)):Option Int:=
 (fm l (0:Int)).bind fun e=>
 (fm l (1:Int)).bind fun e1=>
 some (min e e1)

def vh(a1:M)(b:M):Option (M×Int):=
 (oN vU ([a1,b])).bind fun r=>
 some (r.1,r.2)

def xl(l:(List Int)):Option Int:=
 (fm l (0:Int)).bind fun e=>
 (fm l (1:Int)).bind fun e1=>
 some (max e e1)

def xm(a1:M)(b:M):Option (M×Int):=
 (oN xl ([a1,b])).bind fun r=>
 some (r.1,r.2)

def zB:Option (List (Int×(M→M→Option (M×Int)))):=
 (wb nO).bind fun r=>
 (tH zM).bind fun r1=>
 (tH vg).bind fun r2=>
 (vx true).bind fun r3=>
 (vx false).bind fun r4=>
 (uL oO).bind fun r5=>
 (uL r).bind fun r6=>
 (uL nO).bind fun r7=>
 some (ee (ee (ee (ee (ee (ee (ee (ee (ee (ee (ee (ee (ee (ee (ee (ee ([]:List (Int×(M→M→Option (M×Int)))) (4:Int) r1) (5:Int) r2) (6:Int) r3) (7:Int) r4) (12:Int) vJ) (13:Int) sA) (14:Int) vH) (15:Int) vI) (16:Int) oO) (17:Int) r5) (18:Int) nO) (20:Int) r) (19:Int) r6) (21:Int) r7) (22:Int) vh) (23:Int) xm)

def eY(s:(List M)):Option (List M):=
 (k5 ([]:List M) s).bind fun x=>
 some x

def lI(stack:(List M))(k:Int):Option ((List M)×(List M)):=
 (dx stack (IntKind.i64.wrap ((stack.length:Int)-k)) (stack.length:Int)).bind fun y=>
 (eY y).bind fun r=>
 (dx stack 0 (IntKind.i64.wrap ((stack.length:Int)-k))).bind fun y1=>
 some (r,y1)

def i8(bad:Int)(stack:List M):Option (M×Int):=
  if(bad !=(0:Int))then
  (some ((⟨(0:Int),(0:Int),(0:Int),[]⟩:M),bad))
  else
  ((fm stack (0:Int)).bind fun e1=>
  some (e1,(0:Int)))

def i7(do1:(cu→(List M)→Option (M×Int))):List cu→Int→(List M)→Option (M×Int)
  |[],bad1,stack1=>
    i8 bad1 stack1
  |e2::tl,bad1,stack1=>
    (qq e2.Tag).bind fun r=>
    (lI stack1 r).bind fun r1=>
    (do1 e2 r1.1).bind fun r2=>
    if(r2.2 !=(0:Int))then
    (i8 r2.2 r1.2)
    else
    ((k5 r1.2 ([r2.1])).bind fun l2=>
    (i7 do1 tl) bad1 l2)

def nd(e:cK)(do1:(cu→(List M)→Option (M×Int))):Option (M×Int):=
 i7 do1 e.Nodes (0:Int) ([]:List M)

def oj(r1:M×Int)(no:Int):Option (M×Int):=
 some (r1.1,no)

def rR(r:(List M))(do1:(List (Int×(M→M→Option (M×Int)))))(n:cu)(l:(List M)):Option (M×Int):=
  if(n.Tag==(1:Int))then
  (some (n.Value,(0:Int)))
  else
  (if(n.Tag==(2:Int))then
  ((fm r n.Col).bind fun e=>
  some (e,(0:Int)))
  else
  ((fm l (0:Int)).bind fun e1=>
  (fm l (IntKind.i64.wrap ((l.length:Int)-(1:Int)))).bind fun e2=>
  (((pi do1 n.Tag).getD (fun _ _=>none)) e1 e2).bind fun r1=>
  if((r1.2 !=(0:Int))&&(r1.2 !=(140:Int)))then
  (oj r1 (201:Int))
  else
  (oj r1 r1.2)))

def qv(e:cK)(r:(List M)):List Int→M→Option (M×Int)
  |[],x=>
    (zB).bind fun r3=>
    (nd e (rR r r3)).bind fun r4=>
    some (r4.1,r4.2)
  |e1::tl,x=>
    (if(!(decide ((r.length:Int)≤e1)))then((fm r e1).bind fun e2=>
    (mD e2).bind fun r5=>
    some (!r5))else some true).bind fun t=>
    if t then
    (some ((⟨(0:Int),(0:Int),(0:Int),[]⟩:M),(2:Int)))
    else
    ((qv e r tl) x)

def sw(e:cK)(r:(List M)):Option (M×Int):=
  (qw e).bind fun r1=>
  if(r1 !=(0:Int))then
  (some ((⟨(0:Int),(0:Int),(0:Int),[]⟩:M),r1))
  else
  ((vy e).bind fun r2=>
  qv e r r2 (⟨(0:Int),(0:Int),(0:Int),[]⟩:M))

def xk(a1:M):Option Bool:=
 (p3 true).bind fun r=>
 some (decide (a1=r))

def qz(e:cK)(r:(List M)):Option (Bool×Int):=
 (sw e r).bind fun r1=>
 (xk r1.1).bind fun r2=>
 some (r2,r1.2)

def om(n:aC)(x:Int×(List M))(xs:List (List M))(xs1:List Bool)(x1:Int)(x2:(List (List M))):Option (Option Nat×(List (List M)×List Bool×Int×(List (List M)))):=
  (qz n.Cond x.2).bind fun r3=>
  if(r3.2 !=(0:Int))then
  (some (some 0,(xs,xs1,r3.2,[])))
  else
  (if r3.1 then
  ((fm xs1 x.1).bind fun e2=>
  (some (xs1.set x.1.toNat true)).bind fun st=>
  (k5 xs ([x.2])).bind fun l2=>
  some (none,(l2,st,x1,x2)))
  else
  (some (none,(xs,xs1,x1,x2))))

def i9(r:cU)(n:aC)(r1:(Option Nat×(List (List M)×List Bool×Int×(List (List M))))×Unit):List (List M)→Nat→(List (List M))→Option ((List (List M))×Int)
  |[],i2,out=>
    some (out,(0:Int))
  |e3::tl,i2,out=>
    (if n.Left then((fm r1.1.2.2.1 (i2:Int)).bind fun e4=>
    some (!e4))else some false).bind fun t=>
    if t then
    ((fm r.width n.B).bind fun e5=>
    (pc e5 (⟨(0:Int),(0:Int),(0:Int),[]⟩:M)).bind fun mk1=>
    (d5 ([e3,mk1])).bind fun r4=>
    (k5 out ([r4])).bind fun l7=>
    (i9 r n r1 tl) (i2+1) l7)
    else
    ((i9 r n r1 tl) (i2+1) out)

def m5(r:cU)(n:aC):Option ((List (List M))×Int):=
  (fm r.rows n.A).bind fun e=>
  (fm r.rows n.B).bind fun e1=>
  if(decide ((40000:Int)<(IntKind.i64.wrap ((e.length:Int)*(e1.length:Int)))))then
  (some ([],(3:Int)))
  else
  ((pc (e.length:Int) false).bind fun mk=>
  (uP e e1).bind fun it=>
  ((itU it) (Option Nat×(List (List M)×List Bool×Int×(List (List M)))) (ym (fun x s=>om n x s.1 s.2.1 s.2.2.1 s.2.2.2)) (none,(([]:List (List M)),mk,(0:Int),[]))).bind fun r1=>
  if r1.1.1.isNone then
  (i9 r n r1 e 0 r1.1.2.1)
  else
  (some (r1.1.2.2.2.2,r1.1.2.2.2.1)))

def hZ(n:aC):List (List M)→(List (List M))→Option ((List (List M))×Int)
  |[],out=>
    some (out,(0:Int))
  |e1::tl,out=>
    (qz n.Cond e1).bind fun r1=>
    if(r1.2 !=(0:Int))then
    (some ([],r1.2))
    else
    (if r1.1 then
    ((k5 out ([e1])).bind fun out1=>
    (hZ n tl) out1)
    else
    ((hZ n tl) out))

def lv(r:cU)(n:aC):Option ((List (List M))×Int):=
 (fm r.rows n.A).bind fun e=>
 hZ n e ([]:List (List M))

def jX(a1:kz):List (List M)→(List M)→Int→Option ((List M)×Int)
  |[],out,fault=>
    some (out,fault)
  |e::tl,out,fault=>
    (sw a1.Arg e).bind fun r=>
    if(r.2==(140:Int))then
    ((jX a1 tl) out r.2)
    else
    (if(r.2 !=(0:Int))then
    (some ([],(2:Int)))
    else
    (if(r.1.Kind !=(0:Int))then
    ((k5 out ([r.1])).bind fun out1=>
    (jX a1 tl) out1 fault)
    else
    ((jX a1 tl) out fault)))

def wk(a1:kz)(rows:(List (List M))):Option ((List M)×Int):=
 jX a1 rows ([]:List M) (0:Int)

def kR(v:M):Option Bool:=
 some (v.Kind !=(2:Int))

def d2(f:(M→Option Bool)):List M→Nat→Option Int
 |[],i=>
  some (-1:Int)
 |e::tl,i=>
  (f e).bind fun r=>
  if r then
  (some (i:Int))
  else
  ((d2 f tl) (i+1))

def fY(s:(List M))(f:(M→Option Bool)):Option Int:=
 d2 f s 0

def fB(s:(List M))(f:(M→Option Bool)):Option Bool:=
 (fY s f).bind fun r=>
 some (decide ((0:Int)≤r))

def qC(v:M):Option M:=
 some (⟨(4:Int),((v.N).fdiv (2^(min (Int.toNat (63:Int)) IntKind.i64.bits))),(IntKind.u64.wrap v.N),[]⟩:M)

def yo(s:M)(t:M):Option (M×Int):=
 (EY s.U t.U (0:Int)).bind fun r=>
 (EY (IntKind.u64.wrap s.N) (IntKind.u64.wrap t.N) r.2).bind fun r1=>
 if(decide ((jd .and .i64 (jd .xor .i64 s.N (IntKind.i64.wrap r1.1)) (jd .xor .i64 t.N (IntKind.i64.wrap r1.1)))<(0:Int)))then
 (some ((⟨(0:Int),(0:Int),(0:Int),[]⟩:M),(140:Int)))
 else
 (some ((⟨(4:Int),(IntKind.i64.wrap r1.1),r.1,[]⟩:M),(0:Int)))

def zL(s:M)(v:M):Option (M×Int):=
  (pO (4:Int) ([s])).bind fun r=>
  (pO (2:Int) ([v])).bind fun r1=>
  if((r==(120:Int))||(r1==(120:Int)))then
  (some ((⟨(0:Int),(0:Int),(0:Int),[]⟩:M),(120:Int)))
  else
  (if((r !=(0:Int))||(r1 !=(0:Int)))then
  (some ((⟨(0:Int),(0:Int),(0:Int),[]⟩:M),(2:Int)))
  else
  (if(v.Kind==(0:Int))then
  (some (s,(0:Int)))
  else
  (if(s.Kind==(0:Int))then
  ((qC v).bind fun r2=>
  some (r2,(0:Int)))
  else
  ((qC v).bind fun r3=>
  (yo s r3).bind fun r4=>
  some (r4.1,r4.2)))))

def zN(s:M):Option (M×Int):=
  (pO (4:Int) ([s])).bind fun r=>
  if(r !=(0:Int))then
  (some ((⟨(0:Int),(0:Int),(0:Int),[]⟩:M),r))
  else
  (if(s.Kind==(0:Int))then
  (some (s,(0:Int)))
  else
  ((nt (IntKind.i64.wrap s.U)).bind fun r1=>
  (qC r1).bind fun r2=>
  if(decide (r2=s))then
  (some (r1,(0:Int)))
  else
  (some ((⟨(0:Int),(0:Int),(0:Int),[]⟩:M),(140:Int)))))

def qE:List M→M→M→Option (M×Int)
 |[],x,s=>
  (zN s).bind fun r1=>
  some (r1.1,r1.2)
 |e::tl,x,s=>
  (zL s e).bind fun r2=>
  if(r2.2 !=(0:Int))then
  (some (r2.1,r2.2))
  else
  ((qE tl) x r2.1)

def zO(l:(List M)):Option (M×Int):=
  if(decide ((1048576:Int)<(l.length:Int)))then
  (some ((⟨(0:Int),(0:Int),(0:Int),[]⟩:M),(3:Int)))
  else
  ((pZ).bind fun r=>
  qE l (⟨(0:Int),(0:Int),(0:Int),[]⟩:M) r)

def di(cmp:(M→M→Option Int)):List M→M→Option M
 |[],m=>
  some m
 |e1::tl,m=>
  (cmp e1 m).bind fun r=>
  if(decide (r<(0:Int)))then
  ((di cmp tl) e1)
  else
  ((di cmp tl) m)

def fK(p:(List M))(cmp:(M→M→Option Int)):Option M:=
 (fm p (0:Int)).bind fun e=>
 di cmp (p.drop (1)) e

def gA(p:(List M))(cmp:(M→M→Option Int)):Option M:=
 if(decide ((p.length:Int)<(1:Int)))then
 (none)
 else
 (fK p cmp)

def rp(v:M):Option Bool:=
 (iP v).bind fun r=>
 some (r !=(0:Int))

def eh(f:(M→Option Bool)):List M→Nat→Option Int
 |[],i=>
  some (-1:Int)
 |e::tl,i=>
  (f e).bind fun r=>
  if r then
  (some (i:Int))
  else
  ((eh f tl) (i+1))

def gD(s:(List M))(f:(M→Option Bool)):Option Int:=
 eh f s 0

def fM(s:(List M))(f:(M→Option Bool)):Option Bool:=
 (gD s f).bind fun r=>
 some (decide ((0:Int)≤r))

def se(r:(List M)):Option Bool:=
  (if(decide ((r.length:Int)≤(16:Int)))then((fM r rp).bind fun r1=>
  some (!r1))else some false).bind fun t=>
  some t

def cz(s1:(List M))(s2:(List M))(cmp:(M→M→Option Int)):List M→Nat→Option Int
  |[],i=>
    if(decide ((s1.length:Int)<(s2.length:Int)))then
    (some (-1:Int))
    else
    (some (0:Int))
  |e::tl,i=>
    if(decide ((s2.length:Int)≤(i:Int)))then
    (some (1:Int))
    else
    ((fm s2 (i:Int)).bind fun e1=>
    (cmp e e1).bind fun r=>
    if(r !=(0:Int))then
    (some r)
    else
    ((cz s1 s2 cmp tl) (i+1)))

def dN(s1:(List M))(s2:(List M))(cmp:(M→M→Option Int)):Option Int:=
 cz s1 s2 cmp s1 0

def mi(p:Int):Option Bool:=
 some (p !=p)

def ow(p:Int)(y:Int):Option Int:=
  (mi p).bind fun r=>
  (mi y).bind fun r1=>
  if r then
  (if r1 then
  (some (0:Int))
  else
  (some (-1:Int)))
  else
  (if r1 then
  (some (1:Int))
  else
  (if(decide (p<y))then
  (some (-1:Int))
  else
  (if(decide (y<p))then
  (some (1:Int))
  else
  (some (0:Int)))))

def mj(p:eA):Option Bool:=
 some (!(p==p))

def ox(p:eA)(y:eA):Option Int:=
  (mj p).bind fun r=>
  (mj y).bind fun r1=>
  if r then
  (if r1 then
  (some (0:Int))
  else
  (some (-1:Int)))
  else
  (if r1 then
  (some (1:Int))
  else
  (if(Op.bytesLess p y)then
  (some (-1:Int))
  else
  (if(!(Op.bytesLess p y||p==y))then
  (some (1:Int))
  else
  (some (0:Int)))))

def xG(a1:M)(b:M):Option Int:=
 (m7 a1.Kind b.Kind).bind fun r=>
 (lx a1.N b.N).bind fun r1=>
 (ow a1.U b.U).bind fun r2=>
 (ox a1.S b.S).bind fun r3=>
 (qB ([r,r1,r2,r3])).bind fun r4=>
 some r4

def nw(a1:(List M))(b:(List M)):Option Int:=
 (dN a1 b xG).bind fun r=>
 some r

def rr(a1:(List M))(b:(List M)):Option Int:=
  (se a1).bind fun r=>
  (if(!(!r))then((se b).bind fun r1=>
  some (!r1))else some true).bind fun t=>
  if t then
  (some (0:Int))
  else
  ((nw a1 b).bind fun r2=>
  some r2)

def my(a1:M)(b:M):Option Int:=
 (rr ([a1]) ([b])).bind fun r=>
 some r

def dj(cmp:(M→M→Option Int)):List M→M→Option M
 |[],m=>
  some m
 |e1::tl,m=>
  (cmp e1 m).bind fun r=>
  if(decide ((0:Int)<r))then
  ((dj cmp tl) e1)
  else
  ((dj cmp tl) m)

def fL(p:(List M))(cmp:(M→M→Option Int)):Option M:=
 (fm p (0:Int)).bind fun e=>
 dj cmp (p.drop (1)) e

def gB(p:(List M))(cmp:(M→M→Option Int)):Option M:=
 if(decide ((p.length:Int)<(1:Int)))then
 (none)
 else
 (fL p cmp)

def pN(a1:kz)(rows:(List (List M))):Option (M×Int):=
  if(a1.Tag==(1:Int))then
  ((nt (rows.length:Int)).bind fun r=>
  some (r,(0:Int)))
  else
  ((wk a1 rows).bind fun r1=>
  if(r1.2==(2:Int))then
  (some ((⟨(0:Int),(0:Int),(0:Int),[]⟩:M),r1.2))
  else
  ((if(a1.Tag==(3:Int))then((fB r1.1 kR).bind fun r2=>
  some r2)else some false).bind fun t=>
  if t then
  (some ((⟨(0:Int),(0:Int),(0:Int),[]⟩:M),(2:Int)))
  else
  (if(r1.2 !=(0:Int))then
  (some ((⟨(0:Int),(0:Int),(0:Int),[]⟩:M),r1.2))
  else
  (if(a1.Tag==(2:Int))then
  ((nt (r1.1.length:Int)).bind fun r3=>
  some (r3,(0:Int)))
  else
  (if(a1.Tag==(3:Int))then
  ((zO r1.1).bind fun r4=>
  some (r4.1,r4.2))
  else
  (if((r1.1.length:Int)==(0:Int))then
  (some ((⟨(0:Int),(0:Int),(0:Int),[]⟩:M),(0:Int)))
  else
  (if(a1.Tag==(4:Int))then
  ((gA r1.1 my).bind fun r5=>
  some (r5,(0:Int)))
  else
  ((gB r1.1 my).bind fun r6=>
  some (r6,(0:Int))))))))))

def p8(nx:Int→Option Int)(e:(List (List M)))(n:Int):List (List M)→Option Int
 |[]=>
  nx (max n (e.length:Int))
 |e1::tl1=>
  (se e1).bind fun r=>
  if(!r)then
  (some (150:Int))
  else
  ((p8 nx e n tl1))

def ni:List (List (List M))→Int→Option Int
 |[],n=>
  if(decide ((8000:Int)<n))then
  (some (3:Int))
  else
  (some (0:Int))
 |e::tl,n=>
  p8 (ni tl) e n e

def sf(l:(List (List (List M)))):Option Int:=
 ni l (0:Int)

def rq(c:Int):Option Bool:=
 some (decide (c<(0:Int)))

def vk(r:(List M))(c:Int):Option Bool:=
 some ((decide (c<(0:Int)))||(decide ((r.length:Int)≤c)))

def Ef(r:(List M))(columns:(List Int)):Option Bool:=
  (if(decide ((columns.length:Int)≤(16:Int)))then((dW columns (vk r)).bind fun r1=>
  some (!r1))else some false).bind fun t=>
  some t

def p9(columns:(List Int)):List (List M)→Option Int
 |[]=>
  some (0:Int)
 |e::tl=>
  (Ef e columns).bind fun r2=>
  if(!r2)then
  (some (2:Int))
  else
  ((p9 columns tl))

def zh(l:(List (List M)))(columns:(List Int)):Option Int:=
  (sf ([l])).bind fun r=>
  if(r !=(0:Int))then
  (some r)
  else
  ((if(!(decide ((16:Int)<(columns.length:Int))))then((dW columns rq).bind fun r1=>
  some r1)else some true).bind fun t=>
  if t then
  (some (2:Int))
  else
  (p9 columns l))

def dw(s:(List M)):Option (List M):=
 (k5 ([]:List M) s).bind fun x=>
 some x

def ph:List (List M)→(List (List M))→Option (List (List M))
 |[],out=>
  some out
 |e::tl,out=>
  (dw e).bind fun r=>
  (k5 out ([r])).bind fun out1=>
  (ph tl) out1

def tq(l:(List (List M))):Option (List (List M)):=
 ph l ([]:List (List M))

def ro(r:(List M)):List Int→(List M)→Option (List M)
 |[],out=>
  some out
 |e::tl,out=>
  (fm r e).bind fun e1=>
  (k5 out ([e1])).bind fun out1=>
  (ro r tl) out1

def nT(r:(List M))(columns:(List Int)):Option (List M):=
 ro r columns ([]:List M)

def lh(columns:(List Int))(a1:(List M))(b:(List M)):Option Int:=
 (nT a1 columns).bind fun r=>
 (nT b columns).bind fun r1=>
 (nw r r1).bind fun r2=>
 (nw a1 b).bind fun r3=>
 (qB ([r2,r3])).bind fun r4=>
 some r4

def eR(s2:(List M)):List M→Nat→Option Bool
 |[],i=>
  some true
 |e::tl,i=>
  (fm s2 (i:Int)).bind fun e1=>
  if(!decide (e=e1))then
  (some false)
  else
  ((eR s2 tl) (i+1))

def iD(s1:(List M))(s2:(List M)):Option Bool:=
 if((s1.length:Int) !=(s2.length:Int))then
 (some false)
 else
 (eR s2 s1 0)

def vl(a1:(List M))(b:(List M)):Option Bool:=
 (iD a1 b).bind fun r=>
 some r

def gi(columns:(List Int))(a1:(List M))(b:(List M)):Option Bool:=
 (nT a1 columns).bind fun r=>
 (nT b columns).bind fun r1=>
 (vl r r1).bind fun r2=>
 some r2

def pg{Sg:Type}(alike:((List M)→(List M)→Option Bool))(yld:(List (List M))→Sg→Option (Bool×Sg))(nx:Sg→(List (List M))→Option Sg)(s1:Sg)(x:(List (List M))):Nat→Int→Option Sg
  |0,_=>none
  |n2+1,n1=>
    (if(decide (n1<(x.length:Int)))then((fm x (0:Int)).bind fun e2=>
    (fm x n1).bind fun e3=>
    (alike e2 e3).bind fun r=>
    some r)else some false).bind fun t=>
    if t then
    ((pg alike yld nx s1 x n2) (IntKind.i64.wrap (n1+(1:Int))))
    else
    ((dx x 0 n1).bind fun y=>
    (yld (y) s1).bind fun r1=>
    if(!r1.1)then
    (some r1.2)
    else
    ((dx x n1 (x.length:Int)).bind fun y1=>
    nx r1.2 y1))

def mt{Sg:Type}(alike:((List M)→(List M)→Option Bool))(yld:(List (List M))→Sg→Option (Bool×Sg)):Nat→Sg→(List (List M))→Option Sg
 |0,_,_=>none
 |n+1,s1,x=>
  if(decide ((0:Int)<(x.length:Int)))then
  (pg alike yld (mt alike yld n) s1 x ip (1:Int))
  else
  (some s1)

def tp{Sg:Type}(l:(List (List M)))(alike:((List M)→(List M)→Option Bool))(yld:(List (List M))→Sg→Option (Bool×Sg))(s:Sg):Option Sg:=
 mt alike yld ip s l

def BM(l:(List (List M)))(alike:((List M)→(List M)→Option Bool)):Option (It (List (List M))):=
 some (fun _=>tp l alike)

def eF(s:(List (List M))):Option (List (List M)):=
 (k5 ([]:List (List M)) s).bind fun x=>
 some x

def sS(columns:(List Int))(x:(List (List M)))(xs:List il):Option (List il):=
 (fm x (0:Int)).bind fun e=>
 (nT e columns).bind fun r2=>
 (eF x).bind fun r3=>
 (k5 xs ([(⟨r2,r3⟩:il)])).bind fun l3=>
 some l3

def xI(l:(List (List M)))(columns:(List Int)):Option ((List il)×Int):=
  (zh l columns).bind fun r=>
  if(r !=(0:Int))then
  (some ([],r))
  else
  ((tq l).bind fun r1=>
  (xu (fun(x:(List M)×(List M))=>(lh columns) x.1 x.2) r1).bind fun u7=>
  (BM u7 (gi columns)).bind fun it=>
  (it (List il) (Co (fun x s=>sS columns x s)) ([]:List il)).bind fun xs1=>
  some (xs1,(0:Int)))

def kh(nx:(List (List M))→Option ((List (List M))×Int))(e1:il)(out:List (List M)):List kz→(List M)→Option ((List (List M))×Int)
  |[],x=>
    (k5 out ([x])).bind fun out1=>
    nx out1
  |e2::tl1,x=>
    (pN e2 e1.Rows).bind fun r3=>
    if(r3.2 !=(0:Int))then
    (some ([],r3.2))
    else
    ((k5 x ([r3.1])).bind fun x1=>
    (kh nx e1 out tl1) x1)

def iz(n:aC):List il→(List (List M))→Option ((List (List M))×Int)
 |[],out=>
  some (out,(0:Int))
 |e1::tl,out=>
  (dw e1.Key).bind fun r2=>
  kh (iz n tl) e1 out n.Aggs r2

def ki(n:aC)(groups:(List il)):Option ((List (List M))×Int):=
 iz n groups ([]:List (List M))

def mh(r:cU)(n:aC):Option ((List (List M))×Int):=
  (fm r.rows n.A).bind fun e=>
  (xI e n.Keys).bind fun r1=>
  if(r1.2 !=(0:Int))then
  (some ([],r1.2))
  else
  (if(((n.Keys.length:Int)==(0:Int))&&((r1.1.length:Int)==(0:Int)))then
  (ki n ([(⟨[],[]⟩:il)]))
  else
  (ki n r1.1))

def jv(nx:(List (List M))→Option ((List (List M))×Int))(e1:(List M))(out:List (List M)):List cK→(List M)→Option ((List (List M))×Int)
  |[],y=>
    (k5 out ([y])).bind fun out1=>
    nx out1
  |e2::tl1,y=>
    (sw e2 e1).bind fun r1=>
    if(r1.2 !=(0:Int))then
    (some ([],r1.2))
    else
    ((k5 y ([r1.1])).bind fun y1=>
    (jv nx e1 out tl1) y1)

def gM(n:aC):List (List M)→(List (List M))→Option ((List (List M))×Int)
 |[],out=>
  some (out,(0:Int))
 |e1::tl,out=>
  jv (gM n tl) e1 out n.Items ([]:List M)

def kQ(r:cU)(n:aC):Option ((List (List M))×Int):=
 (fm r.rows n.A).bind fun e=>
 gM n e ([]:List (List M))

def tn(l:(List (List M))):Option (List (List M)):=
 (tq l).bind fun r=>
 (xu (fun(x:(List M)×(List M))=>nw x.1 x.2) r).bind fun u7=>
 some u7

def dl(eq:((List M)→(List M)→Option Bool))(i:Nat)(y:List (List M)):Nat→Nat→(List (List M))→Int→Option (List (List M))
  |0,i1,s1,k=>
    (dx s1 k (s1.length:Int)).bind fun y1=>
    (some (s1.take k.toNat++List.replicate y1.length ([]))).bind fun cl=>
    (dx cl 0 k).bind fun y2=>
    some y2
  |k2+1,i1,s1,k=>
    (AH s1 (i:Int) y.length (i1:Int)).bind fun e3=>
    (AH s1 (i:Int) y.length (IntKind.i64.wrap ((i1:Int)-(1:Int)))).bind fun e4=>
    (eq e3 e4).bind fun r1=>
    if(!r1)then
    ((AH s1 (i:Int) y.length (i1:Int)).bind fun e5=>
    (fm s1 k).bind fun e6=>
    (some (s1.set k.toNat e5)).bind fun st=>
    (dl eq i y k2) (i1+1) st (IntKind.i64.wrap (k+(1:Int))))
    else
    ((dl eq i y k2) (i1+1) s1 k)

def ei(s:(List (List M)))(eq:((List M)→(List M)→Option Bool)):List (List M)→Nat→Option (List (List M))
  |[],i=>
    some s
  |e::tl,i=>
    (fm s (IntKind.i64.wrap ((i:Int)-(1:Int)))).bind fun e1=>
    (eq e e1).bind fun r=>
    if r then
    ((dx s (i:Int) (s.length:Int)).bind fun y=>
    dl eq i y (y.length-1) 1 s (i:Int))
    else
    ((ei s eq tl) (i+1))

def gE(s:(List (List M)))(eq:((List M)→(List M)→Option Bool)):Option (List (List M)):=
 if(decide ((s.length:Int)<(2:Int)))then
 (some s)
 else
 (ei s eq (s.drop (1)) 1)

def ui(l:(List (List M))):Option ((List (List M))×Int):=
  (sf ([l])).bind fun r=>
  if(r !=(0:Int))then
  (some ([],r))
  else
  ((tn l).bind fun r1=>
  (gE r1 vl).bind fun r2=>
  some (r2,(0:Int)))

def kj(r:cU)(n:aC):Option ((List (List M))×Int):=
 (fm r.rows n.A).bind fun e=>
 (ui e).bind fun r1=>
 some (r1.1,r1.2)

def fx(s:List (List M)):Option (List (List M)):=
 some s

def iC(n:Int):Option (List (List M)):=
  if(decide ((0:Int)<(IntKind.i64.wrap (n-(IntKind.i64.wrap ((0:Int)-(0:Int)))))))then
  ((M6 (IntKind.i64.wrap (n-(IntKind.i64.wrap ((0:Int)-(0:Int)))))).bind fun _=>
  (pc (IntKind.i64.wrap (n-(IntKind.i64.wrap ((0:Int)-(0:Int))))) ([])).bind fun mk=>
  (dx mk 0 (0:Int)).bind fun y=>
  fx y)
  else
  (fx ([]:List (List M)))

def jy(n:Int):Option (List (List M)):=
 if(decide (n<(0:Int)))then
 (none)
 else
 (iC n)

def eW:List (List (List M))→(List (List M))→Option (List (List M))
 |[],newslice=>
  some newslice
 |e1::tl1,newslice=>
  (k5 newslice e1).bind fun newslice1=>
  (eW tl1) newslice1

def eX(slices:(List (List (List M)))):List (List (List M))→Int→Option (List (List M))
 |[],size=>
  (jy size).bind fun r=>
  eW slices r
 |e::tl,size=>
  if(decide ((IntKind.i64.wrap (size+(e.length:Int)))<(0:Int)))then
  (none)
  else
  ((eX slices tl) (IntKind.i64.wrap (size+(e.length:Int))))

def fE(slices:(List (List (List M)))):Option (List (List M)):=
 eX slices slices (0:Int)

def mf(r:cU)(n:aC):Option ((List (List M))×Int):=
 (fm r.rows n.A).bind fun e=>
 (fm r.rows n.B).bind fun e1=>
 (fE ([e,e1])).bind fun r1=>
 some (r1,(0:Int))

def oq(nx:Option Int)(n:Int):Option Int:=
 if(n !=(0:Int))then
 (some n)
 else
 (nx)

def jW(a1:(List M))(b:(List M)):List ik→Option Int
 |[]=>
  (rr a1 b).bind fun r=>
  some r
 |e::tl=>
  (fm a1 e.Col).bind fun e1=>
  (fm b e.Col).bind fun e2=>
  (my e1 e2).bind fun r1=>
  if e.Desc then
  (oq (jW a1 b tl) (IntKind.i64.wrap (0-r1)))
  else
  (oq (jW a1 b tl) r1)

def rY(order:(List ik))(a1:(List M))(b:(List M)):Option Int:=
 jW a1 b order

def zJ(order:(List ik)):Option ((List M)→(List M)→Option Int):=
 some (rY order)

def me(out1:List (List M)):Option (List (List M)):=
 some out1

def md(order:(List ik))(limit:Int):List (List M)→(List (List M))→Option (List (List M))
  |[],out=>
    (zJ order).bind fun r=>
    (xu (fun(x:(List M)×(List M))=>r x.1 x.2) out).bind fun u7=>
    if((decide ((0:Int)≤limit))&&(decide (limit<(u7.length:Int))))then
    ((dx u7 0 limit).bind fun y=>
    me y)
    else
    (me u7)
  |e::tl,out=>
    (dw e).bind fun r1=>
    (k5 out ([r1])).bind fun out2=>
    (md order limit tl) out2

def po(rows:(List (List M)))(order:(List ik))(limit:Int):Option (List (List M)):=
 md order limit rows ([]:List (List M))

def mg(r:cU)(n:aC):Option ((List (List M))×Int):=
 (fm r.rows n.A).bind fun e=>
 (po e n.Order n.Limit).bind fun r1=>
 some (r1,(0:Int))

def xH(l:(List (List M))):Option ((List (List M))×Int):=
  (sf ([l])).bind fun r=>
  if(r !=(0:Int))then
  (some ([],r))
  else
  ((tn l).bind fun r1=>
  some (r1,(0:Int)))

def eG(s:(List ik)):Option (List ik):=
 (k5 ([]:List ik) s).bind fun x=>
 some x

def cG(s:(List cu)):Option (List cu):=
 (k5 ([]:List cu) s).bind fun x=>
 some x

def fT(s:(List kz)):Option (List kz):=
 (k5 ([]:List kz) s).bind fun x=>
 some x

def fy(s:(List cK)):Option (List cK):=
 (k5 ([]:List cK) s).bind fun x=>
 some x

def mV:List cK→Nat→aC→Option aC
 |[],i1,n4=>
  some n4
 |e1::tl1,i1,n4=>
  (fm n4.Items (i1:Int)).bind fun e2=>
  (cG e2.Nodes).bind fun r6=>
  (some (n4.Items.set (i1:Int).toNat ({e2 with Nodes:=r6}:cK))).bind fun st=>
  (mV tl1) (i1+1) ({n4 with Items:=st}:aC)

def mW:List kz→Nat→aC→Option aC
 |[],i,n3=>
  mV n3.Items 0 n3
 |e::tl,i,n3=>
  (fm n3.Aggs (i:Int)).bind fun e3=>
  (cG e3.Arg.Nodes).bind fun r7=>
  (some (n3.Aggs.set (i:Int).toNat ({e3 with Arg:=({e3.Arg with Nodes:=r7}:cK)}:kz))).bind fun st1=>
  (mW tl) (i+1) ({n3 with Aggs:=st1}:aC)

def mX(n2:aC):Option aC:=
 (cR n2.Kinds).bind fun r=>
 (cR n2.Keys).bind fun r1=>
 (eG n2.Order).bind fun r2=>
 (cG (((aC.mk n2.Op n2.A n2.B n2.Table r n2.Left n2.Cond r1 n2.Aggs n2.Items r2 n2.Limit).Cond).Nodes)).bind fun r3=>
 (fT (({(aC.mk n2.Op n2.A n2.B n2.Table r n2.Left n2.Cond r1 n2.Aggs n2.Items r2 n2.Limit)with Cond:=({(aC.mk n2.Op n2.A n2.B n2.Table r n2.Left n2.Cond r1 n2.Aggs n2.Items r2 n2.Limit).Cond with Nodes:=r3}:cK)}:aC).Aggs)).bind fun r4=>
 (fy (({(aC.mk n2.Op n2.A n2.B n2.Table r n2.Left n2.Cond r1 n2.Aggs n2.Items r2 n2.Limit)with Cond:=({(aC.mk n2.Op n2.A n2.B n2.Table r n2.Left n2.Cond r1 n2.Aggs n2.Items r2 n2.Limit).Cond with Nodes:=r3}:cK)}:aC).Items)).bind fun r5=>
 mW r4 0 ({({({(aC.mk n2.Op n2.A n2.B n2.Table r n2.Left n2.Cond r1 n2.Aggs n2.Items r2 n2.Limit)with Cond:=({(aC.mk n2.Op n2.A n2.B n2.Table r n2.Left n2.Cond r1 n2.Aggs n2.Items r2 n2.Limit).Cond with Nodes:=r3}:cK)}:aC)with Aggs:=r4}:aC)with Items:=r5}:aC)

def mY(by1:Int)(n1:aC):Option aC:=
 if(decide ((0:Int)≤n1.B))then
 (mX (aC.mk n1.Op n1.A (IntKind.i64.wrap (n1.B+by1)) n1.Table n1.Kinds n1.Left n1.Cond n1.Keys n1.Aggs n1.Items n1.Order n1.Limit))
 else
 (mX n1)

def uu(n:aC)(by1:Int):Option aC:=
 if(decide ((0:Int)≤n.A))then
 (mY by1 (aC.mk n.Op (IntKind.i64.wrap (n.A+by1)) n.B n.Table n.Kinds n.Left n.Cond n.Keys n.Aggs n.Items n.Order n.Limit))
 else
 (mY by1 n)

def pj(l:dM)(place:Int)(e:Int):Nat→Int→dM→Option (dM×Int)
  |0,_,_=>none
  |n+1,i,out=>
    if(decide (i≤place))then
    ((fm l.Nodes i).bind fun e1=>
    (uu e1 (IntKind.i64.wrap (0-e))).bind fun r1=>
    (k5 out.Nodes ([r1])).bind fun l2=>
    (pj l place e n) (IntKind.i64.wrap (i+(1:Int))) ({out with Nodes:=l2}:dM))
    else
    (some (out,(0:Int)))

def xX(l:dM)(place:Int):Option (dM×Int):=
  (qe l).bind fun r=>
  if(!r.2.2)then
  (some ((⟨[]⟩:dM),(230:Int)))
  else
  (if((decide (place<(0:Int)))||(decide ((l.Nodes.length:Int)≤place)))then
  (some ((⟨[]⟩:dM),(2:Int)))
  else
  ((fm r.1.first place).bind fun e=>
  pj l place e ip e ({(⟨[]⟩:dM)with Nodes:=([]:List aC)}:dM)))

def ot(l:dM)(nx:Nat→cU→Option ((List (List M))×Int))(i:Nat)(r2:((List (List M))×Int)×cU)(rows:(List (List M))):Option ((List (List M))×Int):=
 (xX l (i:Int)).bind fun r3=>
 (v6 r3.1).bind fun r4=>
 (k5 r2.2.rows ([rows])).bind fun l3=>
 (k5 r2.2.width ([(r4.1.length:Int)])).bind fun l4=>
 nx (i+1) ({({r2.2 with rows:=l3}:cU)with width:=l4}:cU)

def ou(l:dM)(nx:Nat→cU→Option ((List (List M))×Int))(i:Nat)(e:aC)(r2:((List (List M))×Int)×cU)(e2:Int):Option ((List (List M))×Int):=
  if(e2 !=(0:Int))then
  (some ([],e2))
  else
  (if(e.Op !=(8:Int))then
  ((xH r2.1.1).bind fun r5=>
  ot l nx i r2 r5.1)
  else
  (ot l nx i r2 r2.1.1))

def iL(l:dM):List aC→Nat→cU→Option ((List (List M))×Int)
 |[],i,ob=>
  (fm ob.rows (IntKind.i64.wrap ((ob.rows.length:Int)-(1:Int)))).bind fun e1=>
  some (e1,(0:Int))
 |e::tl,i,ob=>
  (((pi (ee (ee (ee (ee (ee (ee (ee (ee ([]:List (Int×(cU→aC→Option (((List (List M))×Int)×cU)))) (1:Int) (fun(mc:cU) (mx:aC)=>(m4 mc mx).map fun mr=>(mr,mc))) (2:Int) (fun(mc:cU) (mx:aC)=>(m5 mc mx).map fun mr=>(mr,mc))) (3:Int) (fun(mc:cU) (mx:aC)=>(lv mc mx).map fun mr=>(mr,mc))) (4:Int) (fun(mc:cU) (mx:aC)=>(mh mc mx).map fun mr=>(mr,mc))) (5:Int) (fun(mc:cU) (mx:aC)=>(kQ mc mx).map fun mr=>(mr,mc))) (6:Int) (fun(mc:cU) (mx:aC)=>(kj mc mx).map fun mr=>(mr,mc))) (7:Int) (fun(mc:cU) (mx:aC)=>(mf mc mx).map fun mr=>(mr,mc))) (8:Int) (fun(mc:cU) (mx:aC)=>(mg mc mx).map fun mr=>(mr,mc))) e.Op).getD (fun _ _=>none)) ob (e)).bind fun r2=>
  if((r2.1.2==(0:Int))&&(decide ((8000:Int)<(r2.1.1.length:Int))))then
  (ou l (iL l tl) i e r2 (3:Int))
  else
  (ou l (iL l tl) i e r2 r2.1.2)

def wl(l:dM)(b:eU):Option ((List (List M))×Int):=
  (rG l).bind fun r=>
  if(r.2 !=(0:Int))then
  (some ([],r.2))
  else
  ((wm l b).bind fun r1=>
  if(!r1)then
  (some ([],(250:Int)))
  else
  (iL l l.Nodes 0 (⟨b,[],[]⟩:cU)))

def xY:Option aC:=
 some (⟨(1:Int),(-1:Int),(-1:Int),(0:Int),[(2:Int)],false,(⟨[]⟩:cK),[],[],[],[],(0:Int)⟩:aC)

def zx(k:Int):Option cK:=
 some (⟨[(⟨(2:Int),(-1:Int),(-1:Int),k,(⟨(0:Int),(0:Int),(0:Int),[]⟩:M)⟩:cu)]⟩:cK)

def AE(k:Int):Option (List M):=
 some ([(⟨(2:Int),k,(0:Int),[]⟩:M)])

def v7:Option eU:=
 (AE (1:Int)).bind fun r=>
 (AE (2:Int)).bind fun r1=>
 some (⟨[[r,r1,[(⟨(0:Int),(0:Int),(0:Int),[]⟩:M)]]]⟩:eU)

def rJ:Option Bool:=
  (xY).bind fun r=>
  (zx (0:Int)).bind fun r1=>
  (v7).bind fun r2=>
  (wl (⟨[r,(⟨(4:Int),(0:Int),(-1:Int),(0:Int),[],false,(⟨[]⟩:cK),[],[(⟨(1:Int),(⟨[]⟩:cK)⟩:kz),(⟨(3:Int),r1⟩:kz)],[],[],(0:Int)⟩:aC)]⟩:dM) r2).bind fun r3=>
  (if((r3.2==(0:Int))&&((r3.1.length:Int)==(1:Int)))then((fm r3.1 (0:Int)).bind fun e=>
  some ((e.length:Int)==(2:Int)))else some false).bind fun t=>
  (if t then((fm r3.1 (0:Int)).bind fun e1=>
  (fm e1 (0:Int)).bind fun e2=>
  some (e2.N==(3:Int)))else some false).bind fun t1=>
  (if t1 then((fm r3.1 (0:Int)).bind fun e3=>
  (fm e3 (1:Int)).bind fun e4=>
  some (e4.N==(3:Int)))else some false).bind fun t2=>
  some t2

def hX(nx:Option Bool):List M→Option Bool
 |[]=>
  nx
 |e1::tl1=>
  if(decide ((200:Int)<(e1.S.length:Int)))then
  (some true)
  else
  ((hX nx tl1))

def fb:List (List M)→Option Bool
 |[]=>
  some false
 |e::tl=>
  if(decide ((30:Int)<(e.length:Int)))then
  (some true)
  else
  (hX (fb tl) e)

def ll(l:(List (List M)))(most:Int):Option Bool:=
 if(decide (most<(l.length:Int)))then
 (some true)
 else
 (fb l)

def hY:List (List (List M))→Option Bool
 |[]=>
  some false
 |e::tl=>
  (ll e (30:Int)).bind fun r=>
  if r then
  (some true)
  else
  ((hY tl))

def lm(b:eU):Option Bool:=
 if(decide ((10:Int)<(b.Tables.length:Int)))then
 (some true)
 else
 (hY b.Tables)

def f9(nx:Option Bool):List bC→Option Bool
 |[]=>
  nx
 |e1::tl1=>
  if(decide ((60:Int)<(e1.Name.length:Int)))then
  (some true)
  else
  ((f9 nx tl1))

def ev:List bw→Option Bool
 |[]=>
  some false
 |e::tl=>
  if(((decide ((10:Int)<(e.Columns.length:Int)))||(decide ((10:Int)<(e.Keys.length:Int))))||(decide ((60:Int)<(e.Name.length:Int))))then
  (some true)
  else
  (f9 (ev tl) e.Columns)

def j7(c:cY):Option Bool:=
 if(decide ((10:Int)<(c.Tables.length:Int)))then
 (some true)
 else
 (ev c.Tables)

def pL(c:Int):Option Bool:=
 some ((decide ((97:Int)≤c))&&(decide (c≤(122:Int))))

def dH(v:eA):List eA→Nat→Option Int
 |[],i=>
  some (-1:Int)
 |e::tl,i=>
  if(v==e)then
  (some (i:Int))
  else
  ((dH v tl) (i+1))

def gC(s:(List eA))(v:eA):Option Int:=
 dH v s 0

def fD(s:(List eA))(v:eA):Option Bool:=
 (gC s v).bind fun r=>
 some (decide ((0:Int)≤r))

def qh(s:eA):Option Bool:=
 (fD M5 s).bind fun r=>
 some r

def fS(s:eA):Option eA:=if s.length<35184372088832 then some (Lib.toUpperD s)else none

def sm(c:Int):Option Bool:=
 some ((decide ((48:Int)≤c))&&(decide (c≤(57:Int))))

def kx:List (Int×Int)→Option Bool
  |[]=>
    some true
  |e::tl=>
    (sm e.2).bind fun r3=>
    (if(!r3)then((pL e.2).bind fun r4=>
    some (!r4))else some false).bind fun t2=>
    if(t2&&(e.2 !=(95:Int)))then
    (some false)
    else
    ((kx tl))

def lT(s:eA):Option Bool:=
  (if(!((s==([]))||(decide ((16:Int)<(s.length:Int)))))then((uz s (0:Int)).bind fun b=>
  (pL (IntKind.i32.wrap b)).bind fun r=>
  some (!r))else some true).bind fun t=>
  (if(!t)then((fS s).bind fun r1=>
  (qh r1).bind fun r2=>
  some r2)else some true).bind fun t1=>
  if t1 then
  (some false)
  else
  (kx (BL s))

def bQ(f:(bC→Option Bool)):List bC→Nat→Option Int
 |[],i=>
  some (-1:Int)
 |e::tl,i=>
  (f e).bind fun r=>
  if r then
  (some (i:Int))
  else
  ((bQ f tl) (i+1))

def d8(s:(List bC))(f:(bC→Option Bool)):Option Int:=
 bQ f s 0

def dI(of:(bC→Option eA))(name:eA)(p:bC):Option Bool:=
 (of p).bind fun r=>
 some (r==name)

def fP(l:(List bC))(of:(bC→Option eA))(name:eA):Option (Int×Bool):=
 (d8 l (dI of name)).bind fun r=>
 some ((max r (0:Int)),decide ((0:Int)≤r))

def ec(l:(List bC))(of:(bC→Option eA)):List bC→Nat→Option Bool
  |[],i=>
    some true
  |e::tl,i=>
    (of e).bind fun r=>
    (fP l of r).bind fun r1=>
    (if(!(r1.1 !=(i:Int)))then((of e).bind fun r2=>
    (lT r2).bind fun r3=>
    some (!r3))else some true).bind fun t=>
    if t then
    (some false)
    else
    ((ec l of tl) (i+1))

def iM(l:(List bC))(of:(bC→Option eA)):Option Bool:=
 ec l of l 0

def dK(c:bC):Option eA:=
 some c.Name

def fV(kind:Int):Nat→Nat→Option eA
 |0,i=>
  some ([])
 |k1+1,i=>
  (fm LR (i:Int)).bind fun e1=>
  if(e1.kind==kind)then
  (some e1.word)
  else
  ((fV kind k1) (i+1))

def np(kind:Int):Option eA:=
 fV kind 3 0

def dV(t:bw):List Int→Nat→Bool→Option Int
  |[],i1,ok1=>
    if(!ok1)then
    (some (211:Int))
    else
    (some (0:Int))
  |e1::tl1,i1,ok1=>
    (if((ok1&&(decide ((0:Int)≤e1)))&&(decide (e1<(t.Columns.length:Int))))then((if(!((i1:Int)==(0:Int)))then((fm t.Keys (IntKind.i64.wrap ((i1:Int)-(1:Int)))).bind fun e2=>
    some (decide (e2<e1)))else some true).bind fun t3=>
    some t3)else some false).bind fun t2=>
    (dV t tl1) (i1+1) t2

def eD(t:bw):List bC→Bool→Option Int
  |[],ok=>
    dV t t.Keys 0 ok
  |e::tl,ok=>
    (if ok then((np e.Kind).bind fun r2=>
    some (!(r2==([]))))else some false).bind fun t4=>
    (eD t tl) t4

def jb(t:bw):Option Int:=
  (lT t.Name).bind fun r=>
  (if((r&&(decide ((1:Int)≤(t.Columns.length:Int))))&&(decide ((t.Columns.length:Int)≤(4:Int))))then((iM t.Columns dK).bind fun r1=>
  some r1)else some false).bind fun t1=>
  eD t t.Columns t1

def gS(t:bw):Option Bool:=
 (jb t).bind fun r=>
 some (r !=(0:Int))

def bE(f:(bw→Option Bool)):List bw→Nat→Option Int
 |[],i=>
  some (-1:Int)
 |e::tl,i=>
  (f e).bind fun r=>
  if r then
  (some (i:Int))
  else
  ((bE f tl) (i+1))

def cL(s:(List bw))(f:(bw→Option Bool)):Option Int:=
 bE f s 0

def d3(s:(List bw))(f:(bw→Option Bool)):Option Bool:=
 (cL s f).bind fun r=>
 some (decide ((0:Int)≤r))

def dR(of:(bw→Option eA))(name:eA)(p:bw):Option Bool:=
 (of p).bind fun r=>
 some (r==name)

def gn(l:(List bw))(of:(bw→Option eA))(name:eA):Option (Int×Bool):=
 (cL l (dR of name)).bind fun r=>
 some ((max r (0:Int)),decide ((0:Int)≤r))

def ep(l:(List bw))(of:(bw→Option eA)):List bw→Nat→Option Bool
  |[],i=>
    some true
  |e::tl,i=>
    (of e).bind fun r=>
    (gn l of r).bind fun r1=>
    (if(!(r1.1 !=(i:Int)))then((of e).bind fun r2=>
    (lT r2).bind fun r3=>
    some (!r3))else some true).bind fun t=>
    if t then
    (some false)
    else
    ((ep l of tl) (i+1))

def ja(l:(List bw))(of:(bw→Option eA)):Option Bool:=
 ep l of l 0

def dY(t:bw):Option eA:=
 some t.Name

def mA(c:cY):Option Int:=
  (if(!(decide ((4:Int)<(c.Tables.length:Int))))then((d3 c.Tables gS).bind fun r=>
  some r)else some true).bind fun t=>
  (if(!t)then((ja c.Tables dY).bind fun r1=>
  some (!r1))else some true).bind fun t1=>
  if t1 then
  (some (210:Int))
  else
  (some (0:Int))

def fh(b:eU)(nx:Nat→Option Int)(i:Nat):List bC→(List Int)→Option Int
 |[],kinds=>
  (fm b.Tables (i:Int)).bind fun e2=>
  (mN e2 kinds).bind fun r1=>
  if(!r1)then
  (some (250:Int))
  else
  (nx (i+1))
 |e1::tl1,kinds=>
  (k5 kinds ([e1.Kind])).bind fun kinds1=>
  (fh b nx i tl1) kinds1

def ez(b:eU):List bw→Nat→Option Int
 |[],i=>
  some (0:Int)
 |e::tl,i=>
  fh b (ez b tl) i e.Columns ([]:List Int)

def kb(c:cY)(b:eU):Option Int:=
  (mA c).bind fun r=>
  if(r !=(0:Int))then
  (some r)
  else
  (if((b.Tables.length:Int) !=(c.Tables.length:Int))then
  (some (250:Int))
  else
  (ez b c.Tables 0))

def mH(c:Int):Option Bool:=
 some ((decide ((97:Int)≤c))&&(decide (c≤(122:Int))))

def li(s:eA):List eA→Option Bool
 |[]=>
  some false
 |e::tl=>
  if(e==s)then
  (some true)
  else
  ((li s tl))

def vo(l:(List eA))(s:eA):Option Bool:=
 li s l

def ry:Option (List eA):=
 some ([[83,69,76,69,67,84],[68,73,83,84,73,78,67,84],[70,82,79,77],[76,69,70,84],[74,79,73,78],[79,78],[87,72,69,82,69],[71,82,79,85,80],[66,89],[72,65,86,73,78,71],[85,78,73,79,78],[65,76,76],[79,82,68,69,82],[76,73,77,73,84],[65,83,67],[68,69,83,67],[65,83],[65,78,68],[79,82],[78,79,84],[73,83],[78,85,76,76],[84,82,85,69],[70,65,76,83,69],[67,79,85,78,84],[83,85,77],[77,73,78],[77,65,88]])

def nj(s:eA):Option Bool:=
 (ry).bind fun r=>
 (vo r s).bind fun r1=>
 some r1

def jM(nx:(List Int)→Int→Option eA)(out:List Int)(i:Int)(c1:Int):Option eA:=
 (k5 out ([c1])).bind fun out1=>
 nx out1 (IntKind.i64.wrap (i+(1:Int)))

def gG(s:eA):Nat→(List Int)→Int→Option eA
  |0,_,_=>none
  |n+1,out,i=>
    if(decide (i<(s.length:Int)))then
    ((uz s i).bind fun b=>
    (mH b).bind fun r=>
    if r then
    (jM (gG s n) out i (IntKind.u8.wrap ((IntKind.u8.wrap (b-(97:Int)))+(65:Int))))
    else
    (jM (gG s n) out i b))
    else
    (some (na out))

def oQ(s:eA):Option eA:=
 gG s ip ([]:List Int) (0:Int)

def rx(c:Int):Option Bool:=
 some ((decide ((48:Int)≤c))&&(decide (c≤(57:Int))))

def ji(s:eA):Nat→Int→Option Bool
  |0,_=>none
  |n+1,i=>
    if(decide (i<(s.length:Int)))then
    ((uz s i).bind fun b1=>
    (mH b1).bind fun r3=>
    (if(!r3)then((uz s i).bind fun b2=>
    (rx b2).bind fun r4=>
    some (!r4))else some false).bind fun t2=>
    (if t2 then((uz s i).bind fun b3=>
    some (b3 !=(95:Int)))else some false).bind fun t3=>
    if t3 then
    (some false)
    else
    ((ji s n) (IntKind.i64.wrap (i+(1:Int)))))
    else
    (some true)

def lj(s:eA):Option Bool:=
  (if(!((decide ((s.length:Int)<(1:Int)))||(decide ((16:Int)<(s.length:Int)))))then((uz s (0:Int)).bind fun b=>
  (mH b).bind fun r=>
  some (!r))else some true).bind fun t=>
  (if(!t)then((oQ s).bind fun r1=>
  (nj r1).bind fun r2=>
  some r2)else some true).bind fun t1=>
  if t1 then
  (some false)
  else
  (ji s ip (0:Int))

def qb(kind:Int):Option eA:=
  if(kind==(1:Int))then
  (some ([98,111,111,108]))
  else
  (if(kind==(2:Int))then
  (some ([105,110,116]))
  else
  (if(kind==(3:Int))then
  (some ([116,101,120,116]))
  else
  (some ([]))))

def f7(t:bw)(nx:Int→Option Bool)(i:Int)(e:bC):Nat→Int→Option Bool
  |0,_=>none
  |n1+1,k=>
    if(decide (k<i))then
    ((fm t.Columns k).bind fun e1=>
    if(e1.Name==e.Name)then
    (some false)
    else
    ((f7 t nx i e n1) (IntKind.i64.wrap (k+(1:Int)))))
    else
    (nx (IntKind.i64.wrap (i+(1:Int))))

def fZ(t:bw):Nat→Int→Option Bool
  |0,_=>none
  |n2+1,i1=>
    if(decide (i1<(t.Keys.length:Int)))then
    ((fm t.Keys i1).bind fun e2=>
    (if(!((decide (e2<(0:Int)))||(decide ((t.Columns.length:Int)≤e2))))then((if(decide ((0:Int)<i1))then((fm t.Keys (IntKind.i64.wrap (i1-(1:Int)))).bind fun e3=>
    some (decide (e2≤e3)))else some false).bind fun t3=>
    some t3)else some true).bind fun t2=>
    if t2 then
    (some false)
    else
    ((fZ t n2) (IntKind.i64.wrap (i1+(1:Int)))))
    else
    (some true)

def fg(t:bw):Nat→Int→Option Bool
  |0,_=>none
  |n+1,i=>
    if(decide (i<(t.Columns.length:Int)))then
    ((fm t.Columns i).bind fun e=>
    (lj e.Name).bind fun r1=>
    (if(!(!r1))then((qb e.Kind).bind fun r2=>
    some (r2==([])))else some true).bind fun t1=>
    if t1 then
    (some false)
    else
    (f7 t (fg t n) i e ip (0:Int)))
    else
    (fZ t ip (0:Int))

def j3(t:bw):Option Bool:=
 (lj t.Name).bind fun r=>
 if(((!r)||(decide ((t.Columns.length:Int)<(1:Int))))||(decide ((4:Int)<(t.Columns.length:Int))))then
 (some false)
 else
 (fg t ip (0:Int))

def jL(c:cY)(nx:Int→Option Bool)(i:Int)(e:bw):Nat→Int→Option Bool
  |0,_=>none
  |n1+1,k=>
    if(decide (k<i))then
    ((fm c.Tables k).bind fun e1=>
    if(e1.Name==e.Name)then
    (some false)
    else
    ((jL c nx i e n1) (IntKind.i64.wrap (k+(1:Int)))))
    else
    (nx (IntKind.i64.wrap (i+(1:Int))))

def iG(c:cY):Nat→Int→Option Bool
  |0,_=>none
  |n+1,i=>
    if(decide (i<(c.Tables.length:Int)))then
    ((fm c.Tables i).bind fun e=>
    (j3 e).bind fun r=>
    if(!r)then
    (some false)
    else
    (jL c (iG c n) i e ip (0:Int)))
    else
    (some true)

def mG(c:cY):Option Bool:=
 if(decide ((4:Int)<(c.Tables.length:Int)))then
 (some false)
 else
 (iG c ip (0:Int))

def kU(v:M):Option Bool:=
  if(v.Kind==(0:Int))then
  (some (decide (v=(⟨(0:Int),(0:Int),(0:Int),[]⟩:M))))
  else
  (if(v.Kind==(1:Int))then
  (some (((v.U==(0:Int))&&(v.S==([])))&&((v.N==(0:Int))||(v.N==(1:Int)))))
  else
  (if(v.Kind==(2:Int))then
  (some ((v.U==(0:Int))&&(v.S==([]))))
  else
  (if(v.Kind==(3:Int))then
  (some (((v.N==(0:Int))&&(v.U==(0:Int)))&&(decide ((v.S.length:Int)≤(40:Int)))))
  else
  (some ((v.Kind==(4:Int))&&(v.S==([])))))))

def jn(nx:Option Bool)(e:(List M)):List Int→Nat→Option Bool
 |[],i1=>
  nx
 |e1::tl1,i1=>
  (fm e (i1:Int)).bind fun e2=>
  (kU e2).bind fun r=>
  if((!r)||((e2.Kind !=(0:Int))&&(e2.Kind !=e1)))then
  (some false)
  else
  ((jn nx e tl1) (i1+1))

def jo(kinds:(List Int)):List (List M)→Option Bool
 |[]=>
  some true
 |e::tl=>
  if((e.length:Int) !=(kinds.length:Int))then
  (some false)
  else
  (jn (jo kinds tl) e kinds 0)

def qa(l:(List (List M)))(kinds:(List Int)):Option Bool:=
 if(decide ((12:Int)<(l.length:Int)))then
 (some false)
 else
 (jo kinds l)

def gF(c:cY)(b:eU)(nx:Int→Option Bool)(i:Int):Nat→(List Int)→Int→Option Bool
  |0,_,_=>none
  |n1+1,kinds,k=>
    (fm c.Tables i).bind fun e=>
    if(decide (k<(e.Columns.length:Int)))then
    ((fm e.Columns k).bind fun e1=>
    (k5 kinds ([e1.Kind])).bind fun kinds1=>
    (gF c b nx i n1) kinds1 (IntKind.i64.wrap (k+(1:Int))))
    else
    ((fm b.Tables i).bind fun e2=>
    (qa e2 kinds).bind fun r1=>
    if(!r1)then
    (some false)
    else
    (nx (IntKind.i64.wrap (i+(1:Int)))))

def fz(c:cY)(b:eU):Nat→Int→Option Bool
 |0,_=>none
 |n+1,i=>
  if(decide (i<(c.Tables.length:Int)))then
  (gF c b (fz c b n) i ip ([]:List Int) (0:Int))
  else
  (some true)

def kC(c:cY)(b:eU):Option Bool:=
 (mG c).bind fun r=>
 if((!r)||((b.Tables.length:Int) !=(c.Tables.length:Int)))then
 (some false)
 else
 (fz c b ip (0:Int))

def jA(c:cY)(b:eU):Option Bool:=
  (rJ).bind fun r=>
  if(!r)then
  (some false)
  else
  ((j7 c).bind fun r1=>
  (if(!r1)then((lm b).bind fun r2=>
  some r2)else some true).bind fun t=>
  if t then
  (some true)
  else
  ((kb c b).bind fun r3=>
  (mG c).bind fun r4=>
  if(!r4)then
  (some (r3==(210:Int)))
  else
  ((kC c b).bind fun r5=>
  if(!r5)then
  (some (r3==(250:Int)))
  else
  (some (r3==(0:Int))))))


end Go.Proofs.YtfhhakidodmdfaaGreatDoor

