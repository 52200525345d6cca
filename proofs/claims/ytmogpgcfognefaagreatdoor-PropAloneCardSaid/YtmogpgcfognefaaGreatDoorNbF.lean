/- cF of this claim: F. -/
import Derived.Test.YtmogpgcfognefaaGreatDoorNbD
import Derived.Test.YtmogpgcfognefaaGreatDoorNbV4
import Derived.Lib.MapU
set_option linter.all false
namespace Go.Proofs.YtmogpgcfognefaaGreatDoor
open Go

def ea(f:(Int→Option Bool)):List Int→Nat→Option Int
 |[],i=>
  some (-1:Int)
 |e::tl,i=>
  (f e).bind fun r=>
  if r then
  (some (i:Int))
  else
  ((ea f tl) (i+1))

def jf(s:(List Int))(f:(Int→Option Bool)):Option Int:=
 ea f s 0

def cW(s:(List Int))(f:(Int→Option Bool)):Option Bool:=
 (jf s f).bind fun r=>
 some (decide ((0:Int)≤r))

def mY(k:Int):Option Bool:=
 some ((decide (k<(1:Int)))||(decide ((3:Int)<k)))

def jz(l:af):Option (Bool×af):=
 (cW ((({l with result:=l.n.Kinds}:af).n).Kinds) mY).bind fun r=>
 some ((((((!r)&&(decide ((0:Int)≤((({l with result:=l.n.Kinds}:af).n).Table))))&&(decide (((({l with result:=l.n.Kinds}:af).n).Table)<(4:Int))))&&(decide ((0:Int)<(((({l with result:=l.n.Kinds}:af).n).Kinds).length:Int))))&&(decide ((((({l with result:=l.n.Kinds}:af).n).Kinds).length:Int)≤(4:Int)))),({l with result:=l.n.Kinds}:af))

def mv(k:Int):Option Bool:=
 some ((decide (k<(0:Int)))||(decide ((4:Int)<k)))

def iH(l:af):Option (Bool×af):=
 (cW ((({l with result:=l.n.Kinds}:af).n).Kinds) mv).bind fun r=>
 some ((((((!r)&&(decide ((0:Int)≤((({l with result:=l.n.Kinds}:af).n).Table))))&&(decide (((({l with result:=l.n.Kinds}:af).n).Table)<(30:Int))))&&(decide ((0:Int)<(((({l with result:=l.n.Kinds}:af).n).Kinds).length:Int))))&&(decide ((((({l with result:=l.n.Kinds}:af).n).Kinds).length:Int)≤(16:Int)))),({l with result:=l.n.Kinds}:af))

def jR(s:List Int):Option (List Int):=
 some s

def jS(n:Int):Option (List Int):=
  if(decide ((0:Int)<(IntKind.i64.wrap (n-(IntKind.i64.wrap ((0:Int)-(0:Int)))))))then
  ((OH (IntKind.i64.wrap (n-(IntKind.i64.wrap ((0:Int)-(0:Int)))))).bind fun _=>
  (wy (IntKind.i64.wrap (n-(IntKind.i64.wrap ((0:Int)-(0:Int))))) (0:Int)).bind fun mk=>
  (cy mk 0 (0:Int)).bind fun y=>
  jR y)
  else
  (jR ([]:List Int))

def jl(n:Int):Option (List Int):=
 if(decide (n<(0:Int)))then
 (none)
 else
 (jS n)

def gk:List (List Int)→(List Int)→Option (List Int)
 |[],newslice=>
  some newslice
 |e1::tl1,newslice=>
  (nK newslice e1).bind fun newslice1=>
  (gk tl1) newslice1

def gm(slices:(List (List Int))):List (List Int)→Int→Option (List Int)
 |[],size=>
  (jl size).bind fun r=>
  gk slices r
 |e::tl,size=>
  if(decide ((IntKind.i64.wrap (size+(e.length:Int)))<(0:Int)))then
  (none)
  else
  ((gm slices tl) (IntKind.i64.wrap (size+(e.length:Int))))

def fY(slices:(List (List Int))):Option (List Int):=
 gm slices slices (0:Int)

def m9(tag:Int):Option Int:=
  if((tag==(1:Int))||(tag==(2:Int)))then
  (some (0:Int))
  else
  (if((decide ((4:Int)≤tag))&&(decide (tag≤(7:Int))))then
  (some (1:Int))
  else
  (if((decide ((12:Int)≤tag))&&(decide (tag≤(23:Int))))then
  (some (2:Int))
  else
  (some (-1:Int))))

def il(v1:cO):Option cO:=
 some v1

def ms(v2:cO):Option cO:=
 il (cO.mk (0:Int) v2.N v2.U v2.S)

def mr(v:cO):Option cO:=
 ms (cO.mk v.Kind (0:Int) v.U v.S)

def mq(v3:cO):Option cO:=
 il v3

def qO(v:cO):Option cO:=
  if(v.Kind==(1:Int))then
  (if((v.N !=(0:Int))&&(v.N !=(1:Int)))then
  (il v)
  else
  (mr v))
  else
  (if(v.Kind==(2:Int))then
  (mr v)
  else
  (if(v.Kind==(0:Int))then
  (ms v)
  else
  (if(v.Kind==(3:Int))then
  (if(decide ((v.S.length:Int)≤(40:Int)))then
  (mq (cO.mk (0:Int) v.N v.U ([])))
  else
  (mq v))
  else
  (if(v.Kind==(4:Int))then
  (il (cO.mk (0:Int) (0:Int) (0:Int) v.S))
  else
  (il v)))))

def oN(v:cO):Option Int:=
 (qO v).bind fun r=>
 if(!decide (r=(⟨(0:Int),(0:Int),(0:Int),[]⟩:cO)))then
 (some (120:Int))
 else
 (some (0:Int))

def oM(v:cO):Option Bool:=
 (oN v).bind fun r=>
 some ((r==(0:Int))&&(v.Kind !=(4:Int)))

def o0(n:bq):Option Bool:=
  if(n.Tag==(1:Int))then
  ((oM n.Value).bind fun r=>
  some (r&&(n.Col==(0:Int))))
  else
  (if(n.Tag==(2:Int))then
  (some (((decide (n.Value=(⟨(0:Int),(0:Int),(0:Int),[]⟩:cO)))&&(decide ((0:Int)≤n.Col)))&&(decide (n.Col<(16:Int)))))
  else
  (some ((decide (n.Value=(⟨(0:Int),(0:Int),(0:Int),[]⟩:cO)))&&(n.Col==(0:Int)))))

def jF(nx:Nat→(List Int)→(List Int)→Option ((List Int)×Bool))(i:Nat)(e1:bq)(all:List Int)(open1:List Int)(r:Int):List Int→Nat→Int→(List Int)→Option ((List Int)×Bool)
  |[],i1,first,at1=>
    if(!decide (at1=([e1.L,e1.R])))then
    (some ([],false))
    else
    ((nK all ([first])).bind fun all1=>
    (cy open1 0 (IntKind.i64.wrap ((open1.length:Int)-r))).bind fun y1=>
    (nK y1 ([(i:Int)])).bind fun open2=>
    nx (i+1) all1 open2)
  |e2::tl1,i1,first,at1=>
    (fe all e2).bind fun e3=>
    (fe at1 (i1:Int)).bind fun e4=>
    (some (at1.set (i1:Int).toNat e2)).bind fun ar=>
    (jF nx i e1 all open1 r tl1) (i1+1) (min first e3) ar

def iy:List bq→Nat→(List Int)→(List Int)→Option ((List Int)×Bool)
  |[],i,all,open1=>
    some (all,(((open1.length:Int)==(1:Int))&&(decide ((all.length:Int)≤(1000:Int)))))
  |e1::tl,i,all,open1=>
    (m9 e1.Tag).bind fun r=>
    (if(!((decide (r<(0:Int)))||(decide ((open1.length:Int)<r))))then((o0 e1).bind fun r1=>
    some (!r1))else some true).bind fun t=>
    if t then
    (some ([],false))
    else
    ((cy open1 (IntKind.i64.wrap ((open1.length:Int)-r)) (open1.length:Int)).bind fun y=>
    jF (iy tl) i e1 all open1 r y 0 (i:Int) ([(-1:Int),(-1:Int)]))

def oZ(e:bk):Option ((List Int)×Bool):=
 iy e.Nodes 0 ([]:List Int) ([]:List Int)

def lU(e:bk):Option Int:=
 (oZ e).bind fun r=>
 if(!r.2)then
 (some (200:Int))
 else
 (some (0:Int))

def dg(i:Nat)(y:List Int):Nat→Nat→(List Int)→Int→Option (List Int)
  |0,i1,s1,k=>
    (cy s1 k (s1.length:Int)).bind fun y1=>
    (some (s1.take k.toNat++List.replicate y1.length (0:Int))).bind fun cl=>
    (cy cl 0 k).bind fun y2=>
    some y2
  |k2+1,i1,s1,k=>
    (yF s1 (i:Int) y.length (i1:Int)).bind fun e3=>
    (yF s1 (i:Int) y.length (IntKind.i64.wrap ((i1:Int)-(1:Int)))).bind fun e4=>
    if(e3 !=e4)then
    ((yF s1 (i:Int) y.length (i1:Int)).bind fun e5=>
    (fe s1 k).bind fun e6=>
    (some (s1.set k.toNat e5)).bind fun st=>
    (dg i y k2) (i1+1) st (IntKind.i64.wrap (k+(1:Int))))
    else
    ((dg i y k2) (i1+1) s1 k)

def dF(s:(List Int)):List Int→Nat→Option (List Int)
  |[],i=>
    some s
  |e::tl,i=>
    (fe s (IntKind.i64.wrap ((i:Int)-(1:Int)))).bind fun e1=>
    if(e==e1)then
    ((cy s (i:Int) (s.length:Int)).bind fun y=>
    dg i y (y.length-1) 1 s (i:Int))
    else
    ((dF s tl) (i+1))

def gY(s:(List Int)):Option (List Int):=
 if(decide ((s.length:Int)<(2:Int)))then
 (some s)
 else
 (dF s (s.drop (1)) 1)

def jY:List bq→(List Int)→Option (List Int)
  |[],out=>
    (wF out).bind fun MD=>
    (gY MD).bind fun r1=>
    some r1
  |e1::tl,out=>
    if(e1.Tag==(2:Int))then
    ((nK out ([e1.Col])).bind fun out1=>
    (jY tl) out1)
    else
    ((jY tl) out)

def pD(e:bk):Option (List Int):=
 (lU e).bind fun r=>
 if(r !=(0:Int))then
 (some ([]:List Int))
 else
 (jY e.Nodes ([]:List Int))

def cx(s:(List Int)):Option (List Int):=
 (nK ([]:List Int) s).bind fun x=>
 some x

def lG(stack:(List Int))(k:Int):Option ((List Int)×(List Int)):=
 (cy stack (IntKind.i64.wrap ((stack.length:Int)-k)) (stack.length:Int)).bind fun y=>
 (cx y).bind fun r=>
 (cy stack 0 (IntKind.i64.wrap ((stack.length:Int)-k))).bind fun y1=>
 some (r,y1)

def jE(bad:Int)(stack:List Int):Option (Int×Int):=
  if(bad !=(0:Int))then
  (some ((0:Int),bad))
  else
  ((fe stack (0:Int)).bind fun e1=>
  some (e1,(0:Int)))

def fm(do1:(bq→(List Int)→Option (Int×Int))):List bq→Int→(List Int)→Option (Int×Int)
  |[],bad1,stack1=>
    jE bad1 stack1
  |e2::tl,bad1,stack1=>
    (m9 e2.Tag).bind fun r=>
    (lG stack1 r).bind fun r1=>
    (do1 e2 r1.1).bind fun r2=>
    if(r2.2 !=(0:Int))then
    (jE r2.2 r1.2)
    else
    ((nK r1.2 ([r2.1])).bind fun l2=>
    (fm do1 tl) bad1 l2)

def lB(e:bk)(do1:(bq→(List Int)→Option (Int×Int))):Option (Int×Int):=
 fm do1 e.Nodes (0:Int) ([]:List Int)

def nJ(tag:Int):Option Bool:=
 some ((tag==(4:Int))||((decide ((12:Int)≤tag))&&(decide (tag≤(15:Int)))))

def jG(kinds:(List Int))(n:bq):List Int→Int→Option (Int×Int)
  |[],own=>
    if(n.Tag==(1:Int))then
    (some (n.Value.Kind,(0:Int)))
    else
    (if(n.Tag==(2:Int))then
    ((fe kinds n.Col).bind fun e1=>
    some (e1,(0:Int)))
    else
    ((nJ n.Tag).bind fun r=>
    if r then
    (if((own==(-1:Int))||((own !=(0:Int))&&(own !=(2:Int))))then
    (some ((0:Int),(201:Int)))
    else
    (some ((2:Int),(0:Int))))
    else
    (if(((n.Tag==(5:Int))||(n.Tag==(22:Int)))||(n.Tag==(23:Int)))then
    (if((own==(-1:Int))||((own !=(0:Int))&&(own !=(1:Int))))then
    (some ((0:Int),(201:Int)))
    else
    (some ((1:Int),(0:Int))))
    else
    (if((own==(-1:Int))||((own !=(0:Int))&&(own !=own)))then
    (some ((0:Int),(201:Int)))
    else
    (some ((1:Int),(0:Int)))))))
  |e::tl,own=>
    if((e==(0:Int))||(e==own))then
    ((jG kinds n tl) own)
    else
    (if(own==(0:Int))then
    ((jG kinds n tl) e)
    else
    ((jG kinds n tl) (-1:Int)))

def gE(kinds:(List Int))(n:bq)(l:(List Int)):Option (Int×Int):=
 jG kinds n l (0:Int)

def jX(e:bk)(kinds:(List Int)):List Int→Option (Int×Int)
 |[]=>
  (lB e (gE kinds)).bind fun r2=>
  some (r2.1,r2.2)
 |e2::tl1=>
  if(decide ((kinds.length:Int)≤e2))then
  (some ((0:Int),(2:Int)))
  else
  ((jX e kinds tl1))

def mD(e:bk)(kinds:(List Int)):List Int→Option (Int×Int)
 |[]=>
  (pD e).bind fun r1=>
  jX e kinds r1
 |e1::tl=>
  if((decide (e1<(0:Int)))||(decide ((3:Int)<e1)))then
  (some ((0:Int),(2:Int)))
  else
  ((mD e kinds tl))

def mh(e:bk)(kinds:(List Int)):Option (Int×Int):=
 (lU e).bind fun r=>
 if(r !=(0:Int))then
 (some ((0:Int),r))
 else
 (mD e kinds kinds)

def lO(e:bk)(kinds:(List Int)):Option Bool:=
 (mh e kinds).bind fun r=>
 some ((r.2==(0:Int))&&((r.1==(0:Int))||(r.1==(1:Int))))

def jA(l:af):Option (Bool×af):=
 (fY ([l.a_,l.b])).bind fun r=>
 (lO ((({l with result:=r}:af).n).Cond) (({l with result:=r}:af).result)).bind fun r1=>
 some (r1,({l with result:=r}:af))

def ib(l:af):Option (Bool×af):=
 (lO ((({l with result:=l.a_}:af).n).Cond) (({l with result:=l.a_}:af).a_)).bind fun r=>
 some (r,({l with result:=l.a_}:af))

def dM(nx1:Bool→af→Option (Bool×af))(ob1:af)(ok1:Bool)(k:Int):Option (Bool×af):=
 (nK ob1.result ([k])).bind fun l7=>
 nx1 ok1 ({ob1 with result:=l7}:af)

def ga(nx1:Bool→af→Option (Bool×af))(e1:fU)(ok:Bool)(ob1:af)(r:Int×Int)(x:Bool):Option (Bool×af):=
 if x then
 (dM nx1 ob1 (((ok&&(r.2==(0:Int)))&&(decide ((1:Int)<e1.Tag)))&&(decide (e1.Tag≤(5:Int)))) r.1)
 else
 (dM nx1 ob1 (((ok&&(r.2==(0:Int)))&&(decide ((1:Int)<e1.Tag)))&&(decide (e1.Tag≤(5:Int)))) (2:Int))

def cu:List fU→Bool→af→Option (Bool×af)
  |[],ok,ob1=>
    some (ok,ob1)
  |e1::tl1,ok,ob1=>
    if(e1.Tag==(1:Int))then
    (dM (cu tl1) ob1 (ok&&((e1.Arg.Nodes.length:Int)==(0:Int))) (2:Int))
    else
    ((mh e1.Arg ob1.a_).bind fun r=>
    if(e1.Tag==(3:Int))then
    (dM (cu tl1) ob1 ((((ok&&(r.2==(0:Int)))&&(decide ((1:Int)<e1.Tag)))&&(decide (e1.Tag≤(5:Int))))&&((r.1==(2:Int))||(r.1==(0:Int)))) (2:Int))
    else
    (if(e1.Tag==(4:Int))then
    (ga (cu tl1) e1 ok ob1 r (e1.Tag==(4:Int)))
    else
    (ga (cu tl1) e1 ok ob1 r (e1.Tag==(5:Int)))))

def eZ(l:af):List Int→af→Option (Bool×af)
  |[],ob=>
    cu l.n.Aggs (((decide ((l.n.Keys.length:Int)≤(3:Int)))&&(decide ((l.n.Aggs.length:Int)≤(12:Int))))&&(decide ((0:Int)<(IntKind.i64.wrap ((l.n.Keys.length:Int)+(l.n.Aggs.length:Int)))))) ob
  |e::tl,ob=>
    if((decide (e<(0:Int)))||(decide ((ob.a_.length:Int)≤e)))then
    (some (false,ob))
    else
    ((fe ob.a_ e).bind fun e2=>
    (nK ob.result ([e2])).bind fun l9=>
    (eZ l tl) ({ob with result:=l9}:af))

def eW(l:af):Option (Bool×af):=
 eZ l l.n.Keys ({l with result:=([]:List Int)}:af)

def fk:List fU→Nat→af→Option (Bool×af)
  |[],i1,ob=>
    some (true,ob)
  |e::tl,i1,ob=>
    if(e.Tag==(3:Int))then
    ((fe ob.result (IntKind.i64.wrap ((ob.n.Keys.length:Int)+(i1:Int)))).bind fun e1=>
    (some (ob.result.set (IntKind.i64.wrap ((ob.n.Keys.length:Int)+(i1:Int))).toNat (4:Int))).bind fun st=>
    (fk tl) (i1+1) ({ob with result:=st}:af))
    else
    ((fk tl) (i1+1) ob)

def gL(l:af):Option (Bool×af):=
 (eW l).bind fun r=>
 if(!r.1)then
 (some (false,r.2))
 else
 (fk r.2.n.Aggs 0 r.2)

def jU(nx1:Nat→Bool→af→Option (Bool×af))(i1:Nat)(e2:fU)(ok1:Bool)(ob:af)(e3:Int)(x1:Bool):Option (Bool×af):=
 if x1 then
 (nx1 (i1+1) ((ok1&&((e2.Arg.Nodes.length:Int)==(0:Int)))&&(e3 !=(4:Int))) ob)
 else
 (nx1 (i1+1) false ob)

def ir(l:af)(nx1:Nat→Bool→af→Option (Bool×af))(i1:Nat)(e2:fU)(ok1:Bool)(ob:af)(e3:Int)(x:Bool):Option (Bool×af):=
  if x then
  (nx1 (i1+1) ((ok1&&((e2.Arg.Nodes.length:Int)==(0:Int)))&&(e3==(2:Int))) ob)
  else
  (if(e2.Tag==(3:Int))then
  ((fe ob.result (IntKind.i64.wrap ((l.n.Keys.length:Int)+(i1:Int)))).bind fun e4=>
  (some (ob.result.set (IntKind.i64.wrap ((l.n.Keys.length:Int)+(i1:Int))).toNat (2:Int))).bind fun st=>
  nx1 (i1+1) ((ok1&&((e2.Arg.Nodes.length:Int)==(0:Int)))&&(e3==(4:Int))) ({ob with result:=st}:af))
  else
  (if(e2.Tag==(4:Int))then
  (jU nx1 i1 e2 ok1 ob e3 (e2.Tag==(4:Int)))
  else
  (jU nx1 i1 e2 ok1 ob e3 (e2.Tag==(5:Int)))))

def dq(l:af):List fU→Nat→Bool→af→Option (Bool×af)
 |[],i1,ok1,ob=>
  some (ok1,ob)
 |e2::tl1,i1,ok1,ob=>
  (fe ob.a_ (IntKind.i64.wrap ((l.n.Keys.length:Int)+(i1:Int)))).bind fun e3=>
  if(e2.Tag==(1:Int))then
  (ir l (dq l tl1) i1 e2 ok1 ob e3 (e2.Tag==(1:Int)))
  else
  (ir l (dq l tl1) i1 e2 ok1 ob e3 (e2.Tag==(2:Int)))

def iq(l:af)(r:(List Int)):List Int→Nat→Bool→Option (Bool×af)
  |[],i,ok=>
    dq l l.n.Aggs 0 ok ({l with result:=r}:af)
  |e1::tl,i,ok=>
    (if(ok&&(e1==(i:Int)))then((fe l.a_ (i:Int)).bind fun e5=>
    some (e5 !=(4:Int)))else some false).bind fun t=>
    (iq l r tl) (i+1) t

def iI(l:af):Option (Bool×af):=
  (fe l.nodes l.n.A).bind fun e=>
  if(!((((e.Op==(9:Int))&&(decide ((l.n.Keys.length:Int)≤(3:Int))))&&(decide ((l.n.Aggs.length:Int)≤(12:Int))))&&((IntKind.i64.wrap ((l.n.Keys.length:Int)+(l.n.Aggs.length:Int)))==(l.a_.length:Int))))then
  (some (false,l))
  else
  ((cx l.a_).bind fun r=>
  iq l r l.n.Keys 0 ((((e.Op==(9:Int))&&(decide ((l.n.Keys.length:Int)≤(3:Int))))&&(decide ((l.n.Aggs.length:Int)≤(12:Int))))&&((IntKind.i64.wrap ((l.n.Keys.length:Int)+(l.n.Aggs.length:Int)))==(l.a_.length:Int))))

def gx:List bk→af→Option (Bool×af)
  |[],ob=>
    some (decide ((0:Int)<(ob.result.length:Int)),ob)
  |e::tl,ob=>
    (mh e ob.a_).bind fun r=>
    if(r.2 !=(0:Int))then
    (some (false,ob))
    else
    ((nK ob.result ([r.1])).bind fun l4=>
    (gx tl) ({ob with result:=l4}:af))

def iR(l:af):Option (Bool×af):=
 gx l.n.Items ({l with result:=([]:List Int)}:af)

def kg(l:af):Option (Bool×af):=
 some (true,({l with result:=l.a_}:af))

def f9(nx:Nat→af→Option (Bool×af))(i:Nat)(ob:af)(e1:Int)(k:Int):Option (Bool×af):=
  if((e1 !=(0:Int))&&(e1 !=k))then
  (some (false,ob))
  else
  ((nK ob.result ([k])).bind fun l4=>
  nx (i+1) ({ob with result:=l4}:af))

def eu:List Int→Nat→af→Option (Bool×af)
 |[],i,ob=>
  some (true,ob)
 |e::tl,i,ob=>
  (fe ob.b (i:Int)).bind fun e1=>
  if(e==(0:Int))then
  (f9 (eu tl) i ob e1 e1)
  else
  (f9 (eu tl) i ob e1 e)

def iG(l:af):Option (Bool×af):=
 if((l.a_.length:Int) !=(l.b.length:Int))then
 (some (false,l))
 else
 (eu l.a_ 0 ({l with result:=([]:List Int)}:af))

def cX(f:(iA→Option Bool)):List iA→Nat→Option Int
 |[],i=>
  some (-1:Int)
 |e::tl,i=>
  (f e).bind fun r=>
  if r then
  (some (i:Int))
  else
  ((cX f tl) (i+1))

def fD(s:(List iA))(f:(iA→Option Bool)):Option Int:=
 cX f s 0

def dC(s:(List iA))(f:(iA→Option Bool)):Option Bool:=
 (fD s f).bind fun r=>
 some (decide ((0:Int)≤r))

def ld(l:af)(o:iA):Option Bool:=
 some ((decide (o.Col<(0:Int)))||(decide ((l.a_.length:Int)≤o.Col)))

def jy(l:af):Option (Bool×af):=
 (dC ((({l with result:=l.a_}:af).n).Order) (ld ({l with result:=l.a_}:af))).bind fun r=>
 some (((((!r)&&(decide ((((({l with result:=l.a_}:af).n).Order).length:Int)≤(3:Int))))&&(decide ((-1:Int)≤((({l with result:=l.a_}:af).n).Limit))))&&(decide (((({l with result:=l.a_}:af).n).Limit)≤(2147483647:Int)))),({l with result:=l.a_}:af))

def pw:Option (List (Int×(af→Unit→Option (Bool×af)))):=
 some (gA (gA (gA (gA (gA (gA (gA (gA (gA (gA (gA ([]:List (Int×(af→Unit→Option (Bool×af)))) (1:Int) (fun(mc:af) (mx:Unit)=>jz mc)) (9:Int) (fun(mc:af) (mx:Unit)=>iH mc)) (2:Int) (fun(mc:af) (mx:Unit)=>jA mc)) (3:Int) (fun(mc:af) (mx:Unit)=>ib mc)) (4:Int) (fun(mc:af) (mx:Unit)=>eW mc)) (10:Int) (fun(mc:af) (mx:Unit)=>gL mc)) (11:Int) (fun(mc:af) (mx:Unit)=>iI mc)) (5:Int) (fun(mc:af) (mx:Unit)=>iR mc)) (6:Int) (fun(mc:af) (mx:Unit)=>kg mc)) (7:Int) (fun(mc:af) (mx:Unit)=>iG mc)) (8:Int) (fun(mc:af) (mx:Unit)=>jy mc))

def gn(x2:Bool):Option Int:=
 if x2 then
 (some (1:Int))
 else
 (some (-1:Int))

def nd(op:Int)(x1:Bool):Option Int:=
  if x1 then
  (some (2:Int))
  else
  (if(op==(3:Int))then
  (gn (op==(3:Int)))
  else
  (if(op==(4:Int))then
  (gn (op==(4:Int)))
  else
  (if(op==(5:Int))then
  (gn (op==(5:Int)))
  else
  (if(op==(6:Int))then
  (gn (op==(6:Int)))
  else
  (if(op==(8:Int))then
  (gn (op==(8:Int)))
  else
  (if(op==(10:Int))then
  (gn (op==(10:Int)))
  else
  (gn (op==(11:Int)))))))))

def ne(op:Int)(x:Bool):Option Int:=
  if x then
  (some (0:Int))
  else
  (if(op==(2:Int))then
  (nd op (op==(2:Int)))
  else
  (nd op (op==(7:Int))))

def p5(op:Int):Option Int:=
 if(op==(1:Int))then
 (ne op (op==(1:Int)))
 else
 (ne op (op==(9:Int)))

def p6(n:aB):Option Bool:=
 some ((((((((n.Op==(1:Int))||(n.Op==(9:Int)))||((n.Table==(0:Int))&&((n.Kinds.length:Int)==(0:Int))))&&((n.Op==(2:Int))||(!n.Left)))&&(((n.Op==(2:Int))||(n.Op==(3:Int)))||((n.Cond.Nodes.length:Int)==(0:Int))))&&((((n.Op==(4:Int))||(n.Op==(10:Int)))||(n.Op==(11:Int)))||((IntKind.i64.wrap ((n.Keys.length:Int)+(n.Aggs.length:Int)))==(0:Int))))&&((n.Op==(5:Int))||((n.Items.length:Int)==(0:Int))))&&((n.Op==(8:Int))||(((n.Order.length:Int)==(0:Int))&&(n.Limit==(0:Int)))))

def fi(v:Int):List Int→Nat→Option Int
 |[],i=>
  some (-1:Int)
 |e::tl,i=>
  if(v==e)then
  (some (i:Int))
  else
  ((fi v tl) (i+1))

def gv(s:(List Int))(v:Int):Option Int:=
 fi v s 0

def c8(s:(List Int))(v:Int):Option Bool:=
 (gv s v).bind fun r=>
 some (decide ((0:Int)≤r))

def bX(l:af)(i:Int)(ask:(af→Unit→Option (Bool×af)))(e:aB)(r:Int):List Int→Nat→(List Int)→(List Int)→Option (Bool×af)
  |[],i5,a_,b3=>
    if(((e.Op==(8:Int))||(e.Op==(10:Int)))&&(i !=(IntKind.i64.wrap (((({({({({({l with n:=e}:af)with a_:=[]}:af)with b:=[]}:af)with a_:=a_}:af)with b:=b3}:af).nodes).length:Int)-(1:Int)))))then
    (some (false,({({({({({l with n:=e}:af)with a_:=[]}:af)with b:=[]}:af)with a_:=a_}:af)with b:=b3}:af)))
    else
    ((ask ({({({({({l with n:=e}:af)with a_:=[]}:af)with b:=[]}:af)with a_:=a_}:af)with b:=b3}:af) ()).bind fun r2=>
    if((!r2.1)||(decide ((16:Int)<(r2.2.result.length:Int))))then
    (some (false,r2.2))
    else
    ((nK r2.2.kinds ([r2.2.result])).bind fun l1=>
    (cy r2.2.open_ 0 (IntKind.i64.wrap ((r2.2.open_.length:Int)-r))).bind fun y2=>
    (nK y2 ([i])).bind fun l2=>
    some (true,({({r2.2 with kinds:=l1}:af)with open_:=l2}:af))))
  |e1::tl,i5,a_,b3=>
    (fe l.kinds e1).bind fun e2=>
    (if(e.Op !=(11:Int))then((c8 e2 (4:Int)).bind fun r3=>
    some r3)else some false).bind fun t1=>
    if t1 then
    (some (false,({({({({({l with n:=e}:af)with a_:=[]}:af)with b:=[]}:af)with a_:=a_}:af)with b:=b3}:af)))
    else
    (if((i5:Int)==(0:Int))then
    ((bX l i ask e r tl) (i5+1) (({({({({({({l with n:=e}:af)with a_:=[]}:af)with b:=[]}:af)with a_:=a_}:af)with b:=b3}:af)with a_:=e2}:af).a_) (({({({({({({l with n:=e}:af)with a_:=[]}:af)with b:=[]}:af)with a_:=a_}:af)with b:=b3}:af)with a_:=e2}:af).b))
    else
    ((bX l i ask e r tl) (i5+1) (({({({({({({l with n:=e}:af)with a_:=[]}:af)with b:=[]}:af)with a_:=a_}:af)with b:=b3}:af)with b:=e2}:af).a_) (({({({({({({l with n:=e}:af)with a_:=[]}:af)with b:=[]}:af)with a_:=a_}:af)with b:=b3}:af)with b:=e2}:af).b)))

def kf(l:af)(i:Int)(ask:(af→Unit→Option (Bool×af))):Option (Bool×af):=
  (fe l.nodes i).bind fun e=>
  (p5 e.Op).bind fun r=>
  (if(!((decide (r<(0:Int)))||(decide ((l.open_.length:Int)<r))))then((p6 e).bind fun r1=>
  some (!r1))else some true).bind fun t=>
  if t then
  (some (false,l))
  else
  ((cy l.open_ (IntKind.i64.wrap ((l.open_.length:Int)-r)) (l.open_.length:Int)).bind fun y=>
  if(!decide ((pF ([(-1:Int),(-1:Int)]) y)=([e.A,e.B])))then
  (some (false,l))
  else
  ((cy l.open_ (IntKind.i64.wrap ((l.open_.length:Int)-r)) (l.open_.length:Int)).bind fun y1=>
  bX l i ask e r y1 0 (({({({l with n:=e}:af)with a_:=[]}:af)with b:=[]}:af).a_) (({({({l with n:=e}:af)with a_:=[]}:af)with b:=[]}:af).b)))

def kl:List (List Int)→(List (List Int))→Option ((List (List Int))×Int×Int)
 |[],out=>
  some (out,(0:Int),(0:Int))
 |e::tl,out=>
  (cx e).bind fun r1=>
  (nK out ([r1])).bind fun out1=>
  (kl tl) out1

def km(ob:af)(wrong1:Int):Option ((List (List Int))×Int×Int):=
 if(decide ((0:Int)≤wrong1))then
 (some ([],wrong1,(291:Int)))
 else
 (kl ob.kinds ([]:List (List Int)))

def lz(nodes:(List aB))(wrong:Int)(ob:af):Option ((List (List Int))×Int×Int):=
 if((decide (wrong<(0:Int)))&&((ob.open_.length:Int) !=(1:Int)))then
 (km ob (IntKind.i64.wrap ((nodes.length:Int)-(1:Int))))
 else
 (km ob wrong)

def kj(nodes:(List aB))(r:(List (Int×(af→Unit→Option (Bool×af))))):List aB→Nat→Int→af→Option ((List (List Int))×Int×Int)
 |[],i1,wrong2,ob1=>
  lz nodes wrong2 ob1
 |e1::tl1,i1,wrong2,ob1=>
  (kf ob1 (i1:Int) ((nW r e1.Op).getD (fun _ _=>none))).bind fun r2=>
  if(!r2.1)then
  (lz nodes (i1:Int) r2.2)
  else
  ((kj nodes r tl1) (i1+1) wrong2 r2.2)

def ox(nodes:(List aB)):Option ((List (List Int))×Int×Int):=
  if((decide ((nodes.length:Int)<(1:Int)))||(decide ((60:Int)<(nodes.length:Int))))then
  (some ([],(0:Int),(291:Int)))
  else
  ((pw).bind fun r=>
  kj nodes r nodes 0 (-1:Int) (⟨nodes,[],[],(⟨(0:Int),(0:Int),(0:Int),(0:Int),[],false,(⟨[]⟩:bk),[],[],[],[],(0:Int)⟩:aB),[],[],[]⟩:af))

def pA(c:Int):Option Bool:=
 some ((decide ((97:Int)≤c))&&(decide (c≤(122:Int))))

def dE(v:ji):List ji→Nat→Option Int
 |[],i=>
  some (-1:Int)
 |e::tl,i=>
  if(v==e)then
  (some (i:Int))
  else
  ((dE v tl) (i+1))

def im(s:(List ji))(v:ji):Option Int:=
 dE v s 0

def gw(s:(List ji))(v:ji):Option Bool:=
 (im s v).bind fun r=>
 some (decide ((0:Int)≤r))

def p8(s:ji):Option Bool:=
 (gw MP s).bind fun r=>
 some r

def gO(s:ji):Option ji:=if s.length<35184372088832 then some (Lib.toUpperD s)else none

def rJ(c:Int):Option Bool:=
 some ((decide ((48:Int)≤c))&&(decide (c≤(57:Int))))

def lA:List (Int×Int)→Option Bool
  |[]=>
    some true
  |e::tl=>
    (rJ e.2).bind fun r3=>
    (if(!r3)then((pA e.2).bind fun r4=>
    some (!r4))else some false).bind fun t2=>
    if(t2&&(e.2 !=(95:Int)))then
    (some false)
    else
    ((lA tl))

def m2(s:ji):Option Bool:=
  (if(!((s==([]))||(decide ((16:Int)<(s.length:Int)))))then((Hc s (0:Int)).bind fun b=>
  (pA (IntKind.i32.wrap b)).bind fun r=>
  some (!r))else some true).bind fun t=>
  (if(!t)then((gO s).bind fun r1=>
  (p8 r1).bind fun r2=>
  some r2)else some true).bind fun t1=>
  if t1 then
  (some false)
  else
  (lA (Bj s))

def cc(f:(aU→Option Bool)):List aU→Nat→Option Int
 |[],i=>
  some (-1:Int)
 |e::tl,i=>
  (f e).bind fun r=>
  if r then
  (some (i:Int))
  else
  ((cc f tl) (i+1))

def eo(s:(List aU))(f:(aU→Option Bool)):Option Int:=
 cc f s 0

def dH(of:(aU→Option ji))(name:ji)(p:aU):Option Bool:=
 (of p).bind fun r=>
 some (r==name)

def gM(l:(List aU))(of:(aU→Option ji))(name:ji):Option (Int×Bool):=
 (eo l (dH of name)).bind fun r=>
 some ((max r (0:Int)),decide ((0:Int)≤r))

def ez(l:(List aU))(of:(aU→Option ji)):List aU→Nat→Option Bool
  |[],i=>
    some true
  |e::tl,i=>
    (of e).bind fun r=>
    (gM l of r).bind fun r1=>
    (if(!(r1.1 !=(i:Int)))then((of e).bind fun r2=>
    (m2 r2).bind fun r3=>
    some (!r3))else some true).bind fun t=>
    if t then
    (some false)
    else
    ((ez l of tl) (i+1))

def jH(l:(List aU))(of:(aU→Option ji)):Option Bool:=
 ez l of l 0

def dN(c:aU):Option ji:=
 some c.Name

def gT(kind:Int):Nat→Nat→Option ji
 |0,i=>
  some ([])
 |k1+1,i=>
  (fe Ll (i:Int)).bind fun e1=>
  if(e1.kind==kind)then
  (some e1.word)
  else
  ((gT kind k1) (i+1))

def n4(kind:Int):Option ji:=
 gT kind 3 0

def d8(t:bo):List Int→Nat→Bool→Option Int
  |[],i1,ok1=>
    if(!ok1)then
    (some (211:Int))
    else
    (some (0:Int))
  |e1::tl1,i1,ok1=>
    (if((ok1&&(decide ((0:Int)≤e1)))&&(decide (e1<(t.Columns.length:Int))))then((if(!((i1:Int)==(0:Int)))then((fe t.Keys (IntKind.i64.wrap ((i1:Int)-(1:Int)))).bind fun e2=>
    some (decide (e2<e1)))else some true).bind fun t3=>
    some t3)else some false).bind fun t2=>
    (d8 t tl1) (i1+1) t2

def eS(t:bo):List aU→Bool→Option Int
  |[],ok=>
    d8 t t.Keys 0 ok
  |e::tl,ok=>
    (if ok then((n4 e.Kind).bind fun r2=>
    some (!(r2==([]))))else some false).bind fun t4=>
    (eS t tl) t4

def j4(t:bo):Option Int:=
  (m2 t.Name).bind fun r=>
  (if((r&&(decide ((1:Int)≤(t.Columns.length:Int))))&&(decide ((t.Columns.length:Int)≤(4:Int))))then((jH t.Columns dN).bind fun r1=>
  some r1)else some false).bind fun t1=>
  eS t t.Columns t1

def iL(t:bo):Option Bool:=
 (j4 t).bind fun r=>
 some (r !=(0:Int))

def bG(f:(bo→Option Bool)):List bo→Nat→Option Int
 |[],i=>
  some (-1:Int)
 |e::tl,i=>
  (f e).bind fun r=>
  if r then
  (some (i:Int))
  else
  ((bG f tl) (i+1))

def cS(s:(List bo))(f:(bo→Option Bool)):Option Int:=
 bG f s 0

def eh(s:(List bo))(f:(bo→Option Bool)):Option Bool:=
 (cS s f).bind fun r=>
 some (decide ((0:Int)≤r))

def dU(of:(bo→Option ji))(name:ji)(p:bo):Option Bool:=
 (of p).bind fun r=>
 some (r==name)

def hJ(l:(List bo))(of:(bo→Option ji))(name:ji):Option (Int×Bool):=
 (cS l (dU of name)).bind fun r=>
 some ((max r (0:Int)),decide ((0:Int)≤r))

def eG(l:(List bo))(of:(bo→Option ji)):List bo→Nat→Option Bool
  |[],i=>
    some true
  |e::tl,i=>
    (of e).bind fun r=>
    (hJ l of r).bind fun r1=>
    (if(!(r1.1 !=(i:Int)))then((of e).bind fun r2=>
    (m2 r2).bind fun r3=>
    some (!r3))else some true).bind fun t=>
    if t then
    (some false)
    else
    ((eG l of tl) (i+1))

def j3(l:(List bo))(of:(bo→Option ji)):Option Bool:=
 eG l of l 0

def ee(t:bo):Option ji:=
 some t.Name

def ni(c:bz):Option Int:=
  (if(!(decide ((4:Int)<(c.Tables.length:Int))))then((eh c.Tables iL).bind fun r=>
  some r)else some true).bind fun t=>
  (if(!t)then((j3 c.Tables ee).bind fun r1=>
  some (!r1))else some true).bind fun t1=>
  if t1 then
  (some (210:Int))
  else
  (some (0:Int))

def dZ(root:(List Int))(c:Int):Option Bool:=
  (if(!((decide (c<(0:Int)))||(decide ((root.length:Int)≤c))))then((fe root c).bind fun e=>
  some (e==(4:Int)))else some true).bind fun t=>
  some t

def cE(f:(aB→Option Bool)):List aB→Nat→Option Int
 |[],i=>
  some (-1:Int)
 |e::tl,i=>
  (f e).bind fun r=>
  if r then
  (some (i:Int))
  else
  ((cE f tl) (i+1))

def dw(s:(List aB))(f:(aB→Option Bool)):Option Int:=
 cE f s 0

def dc(s:(List aB))(f:(aB→Option Bool)):Option Bool:=
 (dw s f).bind fun r=>
 some (decide ((0:Int)≤r))

def ca(s2:(List aU))(eq:(Int→aU→Option Bool)):List Int→Nat→Option Bool
 |[],i=>
  some true
 |e::tl,i=>
  (fe s2 (i:Int)).bind fun e1=>
  (eq e e1).bind fun r=>
  if(!r)then
  (some false)
  else
  ((ca s2 eq tl) (i+1))

def cG(s1:(List Int))(s2:(List aU))(eq:(Int→aU→Option Bool)):Option Bool:=
 if((s1.length:Int) !=(s2.length:Int))then
 (some false)
 else
 (ca s2 eq s1 0)

def iC(k:Int)(c:aU):Option Bool:=
 some (k==c.Kind)

def dY(f:cU)(p:(Option bH))(n:aB):Option Bool:=
  if(n.Op !=(1:Int))then
  (some false)
  else
  ((if(!(f.At !=(1:Int)))then((p).bind fun p1=>
  some (decide ((p1.c.Tables.length:Int)≤n.Table)))else some true).bind fun t=>
  if t then
  (some true)
  else
  ((p).bind fun p2=>
  (fe p2.c.Tables n.Table).bind fun e=>
  (cG n.Kinds e.Columns iC).bind fun r=>
  some (!r)))

def kE(p:(Option bH))(f:cU)(root:(List Int)):Option Bool:=
  if((((((f.At !=(1:Int))&&(f.At !=(2:Int)))||(decide (f.Way<(1:Int))))||(decide ((4:Int)<f.Way)))||((f.Way==(1:Int)) !=(decide ((0:Int)<(f.Cols.length:Int)))))||(decide ((16:Int)<(f.Cols.length:Int))))then
  (some false)
  else
  ((cW f.Cols (dZ root)).bind fun r=>
  if r then
  (some false)
  else
  ((dc f.Nodes (dY f p)).bind fun r1=>
  some (!r1)))

def ic{Sg:Type}(from1:Int)(yld:(Int×Int)→Sg→Option (Bool×Sg))(nx:Nat→Sg→Option Sg)(i:Nat):List aB→Nat→Sg→Option Sg
  |[],i1,s2=>
    nx (i+1) s2
  |e4::tl1,i1,s2=>
    if((e4.Op==(9:Int))&&(e4.Table==from1))then
    ((yld ((i:Int),(i1:Int)) s2).bind fun r=>
    if(!r.1)then
    (some r.2)
    else
    ((ic from1 yld nx i tl1) (i1+1) r.2))
    else
    ((ic from1 yld nx i tl1) (i1+1) s2)

def ie{Sg:Type}(from1:Int)(yld:(Int×Int)→Sg→Option (Bool×Sg)):List cU→Nat→Sg→Option Sg
 |[],i,s1=>
  some s1
 |e2::tl,i,s1=>
  ic from1 yld (ie from1 yld tl) i e2.Nodes 0 s1

def pf{Sg:Type}(p:eM)(from1:Int)(yld:(Int×Int)→Sg→Option (Bool×Sg))(s:Sg):Option Sg:=
 ie from1 yld p.Frags 0 s

def nu(p:eM)(from1:Int):Option (It (Int×Int)):=
 some (fun _=>pf p from1)

def ei(s2:(List Int)):List Int→Nat→Option Bool
 |[],i=>
  some true
 |e::tl,i=>
  (fe s2 (i:Int)).bind fun e1=>
  if(e !=e1)then
  (some false)
  else
  ((ei s2 tl) (i+1))

def ep(s1:(List Int))(s2:(List Int)):Option Bool:=
 if((s1.length:Int) !=(s2.length:Int))then
 (some false)
 else
 (ei s2 s1 0)

def dl(p:(Option bH))(frag:Int):Option (List Int):=
 (p).bind fun p1=>
 (fe p1.kinds frag).bind fun e=>
 (fe e (IntKind.i64.wrap ((e.length:Int)-(1:Int)))).bind fun e1=>
 some e1

def d6(p:(Option bH))(x:Int×Int)(one:Bool)(many:Int):Option (Bool×Int):=
 (p).bind fun p3=>
 (fe p3.Plan.Frags x.1).bind fun e2=>
 some ((e2.At==(2:Int)),(IntKind.i64.wrap (many+(1:Int))))

def eP(p:(Option bH))(at1:Int)(e:cU):List aB→Option Bool
  |[]=>
    (p).bind fun p2=>
    (nu p2.Plan at1).bind fun it=>
    (it (Bool×Int) (su (fun x s=>d6 p x s.1 s.2)) (false,(0:Int))).bind fun(x1,x2)=>
    (p).bind fun p4=>
    if(at1==(IntKind.i64.wrap ((p4.Plan.Frags.length:Int)-(1:Int))))then
    ((if(((e.Way==(4:Int))&&(e.At==(2:Int)))&&(x2==(0:Int)))then((dl p at1).bind fun r=>
    (c8 r (4:Int)).bind fun r1=>
    some (!r1))else some false).bind fun t=>
    some t)
    else
    (some (((e.Way !=(4:Int))&&(x2==(1:Int)))&&((e.Way==(3:Int))==x1)))
  |e1::tl=>
    (if(e1.Op==(9:Int))then((if(!(decide (at1≤e1.Table)))then((dl p e1.Table).bind fun r2=>
    (ep e1.Kinds r2).bind fun r3=>
    some (!r3))else some true).bind fun t2=>
    some t2)else some false).bind fun t1=>
    if t1 then
    (some false)
    else
    ((eP p at1 e tl))

def jV(p:(Option bH))(at1:Int):Option Bool:=
 (p).bind fun p1=>
 (fe p1.Plan.Frags at1).bind fun e=>
 eP p at1 e e.Nodes

def lw(x:bH):List cU→Nat→Option ((Option bH)×Int×Int×Int)
 |[],i1=>
  some ((some x),(0:Int),(0:Int),(0:Int))
 |e1::tl1,i1=>
  (jV (some x) (i1:Int)).bind fun r1=>
  if(!r1)then
  (some ((none:(Option bH)),(i1:Int),(0:Int),(290:Int)))
  else
  ((lw x tl1) (i1+1))

def lx(q:eM):List cU→Nat→bH→Option ((Option bH)×Int×Int×Int)
  |[],i,x=>
    lw x q.Frags 0
  |e::tl,i,x=>
    (ox e.Nodes).bind fun r2=>
    if(r2.2.2 !=(0:Int))then
    (some ((none:(Option bH)),(i:Int),r2.2.1,r2.2.2))
    else
    ((fe r2.1 (IntKind.i64.wrap ((r2.1.length:Int)-(1:Int)))).bind fun e2=>
    (kE (some x) e e2).bind fun r3=>
    if(!r3)then
    (some ((none:(Option bH)),(i:Int),(0:Int),(291:Int)))
    else
    ((nK x.kinds ([r2.1])).bind fun l1=>
    (lx q tl) (i+1) ({x with kinds:=l1}:bH)))

def kM(q:eM)(c:bz):Option ((Option bH)×Int×Int×Int):=
  (ni c).bind fun r=>
  if(r !=(0:Int))then
  (some ((none:(Option bH)),(0:Int),(0:Int),r))
  else
  (if((decide ((q.Frags.length:Int)<(1:Int)))||(decide ((30:Int)<(q.Frags.length:Int))))then
  (some ((none:(Option bH)),(0:Int),(0:Int),(290:Int)))
  else
  (lx q q.Frags 0 ({(⟨q,c,[]⟩:bH)with kinds:=([]:List (List (List Int)))}:bH)))

def lQ(p:eM)(c:bz):Option (Int×Int×Int):=
 (kM p c).bind fun r=>
 some (r.2.1,r.2.2.1,r.2.2.2)

def kJ(l:(Option co)):Option bp:=
  (l).bind fun p=>
  (p.checker).bind fun p1=>
  (l).bind fun p2=>
  (fe p1.c.Tables p2.n.Table).bind fun e=>
  if(decide ((0:Int)<(e.Keys.length:Int)))then
  ((cx e.Keys).bind fun r=>
  some (⟨(2:Int),r⟩:bp))
  else
  (some (⟨(1:Int),[]⟩:bp))

def ke(l:(Option co)):Option bp:=
  (l).bind fun p=>
  (p.checker).bind fun p1=>
  (l).bind fun p2=>
  (fe p1.Plan.Frags p2.n.Table).bind fun e=>
  if(e.Way==(1:Int))then
  ((cx e.Cols).bind fun r=>
  some (⟨(2:Int),r⟩:bp))
  else
  (some (⟨(3:Int),[]⟩:bp))

def kc(l:(Option co)):Option bp:=
  (l).bind fun p=>
  (if(p.a_.Kind==(2:Int))then((l).bind fun p1=>
  some (p1.b.Kind==(2:Int)))else some false).bind fun t=>
  (if t then((l).bind fun p2=>
  (l).bind fun p3=>
  (ep p2.a_.Cols p3.b.Cols).bind fun r=>
  some r)else some false).bind fun t1=>
  if t1 then
  ((l).bind fun p4=>
  some p4.a_)
  else
  (some (⟨(1:Int),[]⟩:bp))

def kK(at1:(Int→Option Int)):List Int→(List Int)→bp→Option bp
  |[],cols,x=>
    some (⟨(2:Int),cols⟩:bp)
  |e::tl,cols,x=>
    (at1 e).bind fun r=>
    if(decide (r<(0:Int)))then
    (some (⟨(1:Int),[]⟩:bp))
    else
    ((nK cols ([r])).bind fun cols1=>
    (kK at1 tl) cols1 x)

def nw(p:bp)(at1:(Int→Option Int)):Option bp:=
 if(p.Kind !=(2:Int))then
 (some p)
 else
 (kK at1 p.Cols ([]:List Int) (⟨(0:Int),[]⟩:bp))

def cM(f:(bk→Option Bool)):List bk→Nat→Option Int
 |[],i=>
  some (-1:Int)
 |e::tl,i=>
  (f e).bind fun r=>
  if r then
  (some (i:Int))
  else
  ((cM f tl) (i+1))

def dJ(s:(List bk))(f:(bk→Option Bool)):Option Int:=
 cM f s 0

def d5(c:Int)(e:bk):Option Bool:=
  (if((e.Nodes.length:Int)==(1:Int))then((fe e.Nodes (0:Int)).bind fun e1=>
  some (e1.Tag==(2:Int)))else some false).bind fun t=>
  (if t then((fe e.Nodes (0:Int)).bind fun e2=>
  some (e2.Col==c))else some false).bind fun t1=>
  some t1

def jo(l:(Option co))(c:Int):Option Int:=
 (l).bind fun p=>
 (dJ p.n.Items (d5 c)).bind fun r=>
 some r

def iQ(l:(Option co)):Option bp:=
 (l).bind fun p=>
 (nw p.a_ (jo l)).bind fun r=>
 some r

def kD(l:(Option co))(c:Int):Option Int:=
 (l).bind fun p=>
 (gv p.n.Keys c).bind fun r=>
 some r

def dx(l:(Option co)):Option bp:=
 (l).bind fun p=>
 (nw p.a_ (kD l)).bind fun r=>
 some r

def di(l:(Option co)):Option bp:=
 (l).bind fun p=>
 some p.a_

def nv:Option (List (Int×((Option co)→Option bp))):=
 some (gA (gA (gA (gA (gA (gA (gA (gA (gA (gA (gA ([]:List (Int×((Option co)→Option bp))) (1:Int) kJ) (9:Int) ke) (7:Int) kc) (5:Int) iQ) (4:Int) dx) (10:Int) dx) (11:Int) dx) (3:Int) di) (6:Int) di) (8:Int) di) (2:Int) di)

def fZ(nx:(List bp)→Option (List bp))(out:List bp)(x2:bp):Option (List bp):=
 (nK out ([x2])).bind fun out1=>
 nx out1

def f6(e:cU)(r:(List (Int×((Option co)→Option bp))))(nx:(List bp)→Option (List bp))(e1:aB)(out:List bp)(x1:co):Option (List bp):=
  if(e.At==(1:Int))then
  ((((nW r e1.Op).getD (fun _=>none)) (some x1)).bind fun r1=>
  fZ nx out r1)
  else
  (fZ nx out (⟨(4:Int),[]⟩:bp))

def eQ(e:cU)(r:(List (Int×((Option co)→Option bp))))(nx:(List bp)→Option (List bp))(e1:aB)(out:List bp)(x:co):Option (List bp):=
  if(decide ((0:Int)≤e1.B))then
  ((fe out e1.B).bind fun e2=>
  f6 e r nx e1 out (co.mk x.checker x.n x.a_ e2))
  else
  (f6 e r nx e1 out x)

def cC(p:(Option bH))(e:cU)(r:(List (Int×((Option co)→Option bp)))):List aB→(List bp)→Option (List bp)
  |[],out=>
    some out
  |e1::tl,out=>
    if(decide ((0:Int)≤e1.A))then
    ((fe out e1.A).bind fun e3=>
    eQ e r (cC p e r tl) e1 out (co.mk (⟨p,e1,(⟨(0:Int),[]⟩:bp),(⟨(0:Int),[]⟩:bp)⟩:co).checker (⟨p,e1,(⟨(0:Int),[]⟩:bp),(⟨(0:Int),[]⟩:bp)⟩:co).n e3 (⟨p,e1,(⟨(0:Int),[]⟩:bp),(⟨(0:Int),[]⟩:bp)⟩:co).b))
    else
    (eQ e r (cC p e r tl) e1 out (⟨p,e1,(⟨(0:Int),[]⟩:bp),(⟨(0:Int),[]⟩:bp)⟩:co))

def fb(p:(Option bH))(frag:Int):Option (List bp):=
 (p).bind fun p1=>
 (fe p1.Plan.Frags frag).bind fun e=>
 (nv).bind fun r=>
 cC p e r e.Nodes ([]:List bp)

def qX(x:Int×Int)(x1:Bool)(x2:Int)(x3:Int):Option (Option Nat×(Bool×Int×Int)):=
 some (some 0,(true,x.2,x.1))

def ny(p:eM)(from1:Int):Option (Int×Int×Bool):=
 (nu p from1).bind fun it=>
 ((itU it) (Option Nat×(Bool×Int×Int)) (zx (fun x s=>qX x s.1 s.2.1 s.2.2)) (none,(false,(0:Int),(0:Int)))).bind fun r=>
 if r.1.1.isNone then
 (some ((0:Int),(0:Int),false))
 else
 (some (r.1.2.2.2,r.1.2.2.1,r.1.2.1))

def lm(place:Int)(n:aB):Option Bool:=
 some ((n.A==place)||(n.B==place))

def iS(p:(Option bH))(frag:Int):Option aB:=
  (p).bind fun p1=>
  (ny p1.Plan frag).bind fun r=>
  if(!r.2.2)then
  (some (⟨(0:Int),(0:Int),(0:Int),(0:Int),[],false,(⟨[]⟩:bk),[],[],[],[],(0:Int)⟩:aB))
  else
  ((p).bind fun p2=>
  (fe p2.Plan.Frags r.1).bind fun e=>
  (dw e.Nodes (lm r.2.1)).bind fun r1=>
  if(decide (r1<(0:Int)))then
  (some (⟨(0:Int),(0:Int),(0:Int),(0:Int),[],false,(⟨[]⟩:bk),[],[],[],[],(0:Int)⟩:aB))
  else
  ((p).bind fun p3=>
  (fe p3.Plan.Frags r.1).bind fun e1=>
  (fe e1.Nodes r1).bind fun e2=>
  some e2))

def cY(s2:(List fU))(eq:(fU→fU→Option Bool)):List fU→Nat→Option Bool
 |[],i=>
  some true
 |e::tl,i=>
  (fe s2 (i:Int)).bind fun e1=>
  (eq e e1).bind fun r=>
  if(!r)then
  (some false)
  else
  ((cY s2 eq tl) (i+1))

def cA(s1:(List fU))(s2:(List fU))(eq:(fU→fU→Option Bool)):Option Bool:=
 if((s1.length:Int) !=(s2.length:Int))then
 (some false)
 else
 (cY s2 eq s1 0)

def kL(p:fU)(y:fU):Option Bool:=
 some (p.Tag==y.Tag)

def eg(f:(bq→Option Bool)):List bq→Nat→Option Int
 |[],i=>
  some (-1:Int)
 |e::tl,i=>
  (f e).bind fun r=>
  if r then
  (some (i:Int))
  else
  ((eg f tl) (i+1))

def gV(s:(List bq))(f:(bq→Option Bool)):Option Int:=
 eg f s 0

def gh(s:(List bq))(f:(bq→Option Bool)):Option Bool:=
 (gV s f).bind fun r=>
 some (decide ((0:Int)≤r))

def vt(n:bq):Option Bool:=
 (nJ n.Tag).bind fun r=>
 some r

def zj(e:bk):Option Bool:=
  (lU e).bind fun r=>
  (if(r==(0:Int))then((gh e.Nodes vt).bind fun r1=>
  some (!r1))else some false).bind fun t=>
  some t

def fE(s:(List bq)):Option (List bq):=
 (nK ([]:List bq) s).bind fun x=>
 some x

def qn(nx:(List bk)→(List Int)→Option (List bk))(out1:List bk)(open2:List Int):Option (List bk):=
 nx out1 open2

def qm(e3:Int)(nx1:Nat→bk→Option (List bk))(i:Nat)(part1:bk):Option (List bk):=
  (fe part1.Nodes (i:Int)).bind fun e6=>
  if(decide ((0:Int)≤e6.R))then
  ((some (part1.Nodes.set (i:Int).toNat ({e6 with R:=(IntKind.i64.wrap (e6.R-e3))}:bq))).bind fun st=>
  nx1 (i+1) ({part1 with Nodes:=st}:bk))
  else
  (nx1 (i+1) part1)

def mE(nx:(List bk)→(List Int)→Option (List bk))(out:List bk)(y:List Int)(e3:Int):List bq→Nat→bk→Option (List bk)
  |[],i,part=>
    (nK out ([part])).bind fun out2=>
    qn nx out2 y
  |e4::tl,i,part=>
    (fe part.Nodes (i:Int)).bind fun e5=>
    if(decide ((0:Int)≤e5.L))then
    ((some (part.Nodes.set (i:Int).toNat ({e5 with L:=(IntKind.i64.wrap (e5.L-e3))}:bq))).bind fun st1=>
    qm e3 (mE nx out y e3 tl) i ({part with Nodes:=st1}:bk))
    else
    (qm e3 (mE nx out y e3 tl) i part)

def jZ(e:bk)(r:(List Int)×Bool):Nat→(List bk)→(List Int)→Option (List bk)
  |0,_,_=>none
  |n+1,out,open1=>
    if(decide ((0:Int)<(open1.length:Int)))then
    ((fe open1 (IntKind.i64.wrap ((open1.length:Int)-(1:Int)))).bind fun e1=>
    (cy open1 0 (IntKind.i64.wrap ((open1.length:Int)-(1:Int)))).bind fun y=>
    (fe e.Nodes e1).bind fun e2=>
    if(e2.Tag==(22:Int))then
    ((nK y ([e2.R,e2.L])).bind fun open3=>
    qn (jZ e r n) out open3)
    else
    ((fe r.1 e1).bind fun e3=>
    (cy e.Nodes e3 (IntKind.i64.wrap (e1+(1:Int)))).bind fun y1=>
    (fE y1).bind fun r1=>
    mE (jZ e r n) out y e3 r1 0 ({(⟨r1⟩:bk)with Nodes:=r1}:bk)))
    else
    (some out)

def zl(e:bk):Option (List bk):=
 (oZ e).bind fun r=>
 if(!r.2)then
 (some ([]:List bk))
 else
 (jZ e r OA ([]:List bk) ([(IntKind.i64.wrap ((e.Nodes.length:Int)-(1:Int)))]))

def zk(e:bk)(left:Int):Option (Int×Int×Bool):=
  (lU e).bind fun r=>
  (if(!((r !=(0:Int))||((e.Nodes.length:Int) !=(3:Int))))then((fe e.Nodes (2:Int)).bind fun e1=>
  some (e1.Tag !=(16:Int)))else some true).bind fun t=>
  if t then
  (some ((0:Int),(0:Int),false))
  else
  ((fe e.Nodes (0:Int)).bind fun e2=>
  (fe e.Nodes (1:Int)).bind fun e3=>
  if((e2.Tag !=(2:Int))||(e3.Tag !=(2:Int)))then
  (some ((0:Int),(0:Int),false))
  else
  (if((decide (left≤(min e2.Col e3.Col)))||(decide ((max e2.Col e3.Col)<left)))then
  (some ((0:Int),(0:Int),false))
  else
  (some ((min e2.Col e3.Col),(IntKind.i64.wrap ((max e2.Col e3.Col)-left)),true))))

def ov(b:bp)(held:List ((Int×Int)×Bool)):List Int→Nat→Option Bool
 |[],i1=>
  some true
 |e1::tl1,i1=>
  (fe b.Cols (i1:Int)).bind fun e2=>
  if(!((nW held (k2 ([e1,e2]))).getD false))then
  (some false)
  else
  ((ov b held tl1) (i1+1))

def mw(a1:bp)(b:bp)(left:Int):List bk→(List ((Int×Int)×Bool))→Option Bool
 |[],held=>
  ov b held a1.Cols 0
 |e::tl,held=>
  (zk e left).bind fun r2=>
  if r2.2.2 then
  ((mw a1 b left tl) (gA held (k2 ([r2.1,r2.2.1])) true))
  else
  ((mw a1 b left tl) held)

def vk(n:aB)(a1:bp)(b:bp)(left:Int):Option Bool:=
  if(b.Kind==(3:Int))then
  (some (a1.Kind !=(3:Int)))
  else
  ((if(!(((a1.Kind !=(2:Int))||(b.Kind !=(2:Int)))||((a1.Cols.length:Int) !=(b.Cols.length:Int))))then((zj n.Cond).bind fun r=>
  some (!r))else some true).bind fun t=>
  if t then
  (some false)
  else
  ((zl n.Cond).bind fun r1=>
  mw a1 b left r1 ([]:List ((Int×Int)×Bool))))

def ow(keys:(List Int))(c:Int):Option Bool:=
 (c8 keys c).bind fun r=>
 some (!r)

def tz(a1:bp)(keys:(List Int)):Option Bool:=
  (if(a1.Kind==(2:Int))then((cW a1.Cols (ow keys)).bind fun r=>
  some (!r))else some false).bind fun t=>
  some t

def fS(s2:(List iA)):List iA→Nat→Option Bool
 |[],i=>
  some true
 |e::tl,i=>
  (fe s2 (i:Int)).bind fun e1=>
  if(!decide (e=e1))then
  (some false)
  else
  ((fS s2 tl) (i+1))

def ka(s1:(List iA))(s2:(List iA)):Option Bool:=
 if((s1.length:Int) !=(s2.length:Int))then
 (some false)
 else
 (fS s2 s1 0)

def kB(p:(Option bH))(frag:Int)(e:cU)(e1:aB)(e2:bp)(x:Bool):Option Bool:=
  if x then
  ((tz e2 e1.Keys).bind fun r1=>
  some r1)
  else
  (if(e1.Op==(6:Int))then
  (some (e2.Kind==(2:Int)))
  else
  (if(e1.Op==(10:Int))then
  (some (e2.Kind !=(3:Int)))
  else
  (if(e1.Op==(8:Int))then
  ((iS p frag).bind fun r2=>
  (if((((e2.Kind !=(3:Int))&&(e.Way==(3:Int)))&&(r2.Op==(8:Int)))&&(r2.Limit==e1.Limit))then((ka r2.Order e1.Order).bind fun r3=>
  some r3)else some false).bind fun t1=>
  some t1)
  else
  (some true))))

def iB(p:(Option bH))(frag:Int)(l:(List bp))(e:cU)(e1:aB):Option Bool:=
  if((e.At==(2:Int))||(decide (e1.A<(0:Int))))then
  (some true)
  else
  ((fe l e1.A).bind fun e2=>
  if(e1.Op==(2:Int))then
  ((fe l e1.B).bind fun e3=>
  (p).bind fun p2=>
  (fe p2.kinds frag).bind fun e4=>
  (fe e4 e1.A).bind fun e5=>
  (vk e1 e2 e3 (e5.length:Int)).bind fun r=>
  some r)
  else
  (if(e1.Op==(7:Int))then
  ((if(e2.Kind !=(3:Int))then((fe l e1.B).bind fun e6=>
  some (e6.Kind !=(3:Int)))else some false).bind fun t=>
  some t)
  else
  (if(e1.Op==(4:Int))then
  (kB p frag e e1 e2 (e1.Op==(4:Int)))
  else
  (kB p frag e e1 e2 (e1.Op==(11:Int))))))

def fa(p:(Option bH))(frag:Int)(at1:Int)(l:(List bp)):Option Bool:=
  (p).bind fun p1=>
  (fe p1.Plan.Frags frag).bind fun e=>
  (fe e.Nodes at1).bind fun e1=>
  if(e1.Op==(10:Int))then
  ((iS p frag).bind fun r4=>
  (cA e1.Aggs r4.Aggs kL).bind fun r5=>
  if(((r4.Op !=(11:Int))||(!r5))||((e1.Keys.length:Int) !=(r4.Keys.length:Int)))then
  (some false)
  else
  (iB p frag l e e1))
  else
  (iB p frag l e e1)

def ly(frag:Int)(place:Int):Option (Int×Int×Int):=
 if(decide ((0:Int)≤frag))then
 (some (frag,place,(280:Int)))
 else
 (some ((0:Int),(0:Int),(0:Int)))

def gp(r:(Option bH)×Int×Int×Int)(nx:Nat→Int→Int→Option (Int×Int×Int))(i:Nat)(r1:(List bp)):List aB→Nat→Int→Int→Option (Int×Int×Int)
 |[],i1,frag2,place2=>
  (fe r1 (IntKind.i64.wrap ((r1.length:Int)-(1:Int)))).bind fun e2=>
  if(e2.Kind==(3:Int))then
  (ly (i:Int) (IntKind.i64.wrap ((r1.length:Int)-(1:Int))))
  else
  (nx (i+1) frag2 place2)
 |e1::tl1,i1,frag2,place2=>
  (fa r.1 (i:Int) (i1:Int) r1).bind fun r2=>
  if(!r2)then
  (ly (i:Int) (i1:Int))
  else
  ((gp r nx i r1 tl1) (i1+1) frag2 place2)

def hY(r:(Option bH)×Int×Int×Int):List cU→Nat→Int→Int→Option (Int×Int×Int)
 |[],i,frag1,place1=>
  ly frag1 place1
 |e::tl,i,frag1,place1=>
  (fb r.1 (i:Int)).bind fun r1=>
  gp r (hY r tl) i r1 e.Nodes 0 frag1 place1

def kN(q:eM)(c:bz):Option (Int×Int×Int):=
 (kM q c).bind fun r=>
 if(r.2.2.2 !=(0:Int))then
 (some (r.2.1,r.2.2.1,r.2.2.2))
 else
 (hY r q.Frags 0 (-1:Int) (0:Int))

def lP(q:eM)(c:bz)(frag:Int):Option ((List bp)×Int):=
  (kM q c).bind fun r=>
  if(r.2.2.2 !=(0:Int))then
  (some ([],r.2.2.2))
  else
  (if((decide (frag<(0:Int)))||(decide ((q.Frags.length:Int)≤frag)))then
  (some ([],(2:Int)))
  else
  ((fb r.1 frag).bind fun r1=>
  some (r1,(0:Int))))

def vq:Option (bz×eM):=
 some ((⟨[(⟨[116],[(⟨[97],(2:Int)⟩:aU),(⟨[98],(2:Int)⟩:aU)],[(0:Int)]⟩:bo)]⟩:bz),(⟨[(⟨[(⟨(1:Int),(-1:Int),(-1:Int),(0:Int),[(2:Int),(2:Int)],false,(⟨[]⟩:bk),[],[],[],[],(0:Int)⟩:aB),(⟨(6:Int),(0:Int),(-1:Int),(0:Int),[],false,(⟨[]⟩:bk),[],[],[],[],(0:Int)⟩:aB)],(1:Int),(3:Int),[]⟩:cU),(⟨[(⟨(9:Int),(-1:Int),(-1:Int),(0:Int),[(2:Int),(2:Int)],false,(⟨[]⟩:bk),[],[],[],[],(0:Int)⟩:aB)],(2:Int),(4:Int),[]⟩:cU)]⟩:eM))

def q4:Option Bool:=
  (vq).bind fun r=>
  (kN r.2 r.1).bind fun r1=>
  (lP r.2 r.1 (0:Int)).bind fun r2=>
  (lQ (⟨[]⟩:eM) r.1).bind fun r3=>
  (ny r.2 (0:Int)).bind fun r4=>
  (if(((((((r1.2.2==(0:Int))&&(r2.2==(0:Int)))&&(r3.2.2==(290:Int)))&&r4.2.2)&&(r4.1==(1:Int)))&&(r4.2.1==(0:Int)))&&((r2.1.length:Int)==(2:Int)))then((fe r2.1 (1:Int)).bind fun e=>
  some (e.Kind==(2:Int)))else some false).bind fun t=>
  (if t then((fe r2.1 (1:Int)).bind fun e1=>
  some ((e1.Cols.length:Int)==(1:Int)))else some false).bind fun t1=>
  some t1

def jp(l:(List bo))(most:Int):Option (List bo):=
 (cy l 0 (min (l.length:Int) most)).bind fun y=>
 (nK ([]:List bo) y).bind fun x=>
 some x

def gC(l:(List aU))(most:Int):Option (List aU):=
 (cy l 0 (min (l.length:Int) most)).bind fun y=>
 (nK ([]:List aU) y).bind fun x=>
 some x

def fA(l:(List Int))(most:Int):Option (List Int):=
 (cy l 0 (min (l.length:Int) most)).bind fun y=>
 (nK ([]:List Int) y).bind fun x=>
 some x

def kU:List bo→Nat→bz→Option bz
 |[],i,out=>
  some out
 |e::tl,i,out=>
  (fe out.Tables (i:Int)).bind fun e1=>
  (fe out.Tables (i:Int)).bind fun e2=>
  (gC e2.Columns (5:Int)).bind fun r1=>
  (fA e2.Keys (5:Int)).bind fun r2=>
  (some (out.Tables.set (i:Int).toNat ({e2 with Columns:=r1}:bo))).bind fun st=>
  (fe st (i:Int)).bind fun e3=>
  (some (st.set (i:Int).toNat ({e3 with Keys:=r2}:bo))).bind fun st1=>
  (kU tl) (i+1) ({out with Tables:=st1}:bz)

def oT(c:bz):Option bz:=
 (jp c.Tables (5:Int)).bind fun r=>
 kU r 0 ({(⟨r⟩:bz)with Tables:=r}:bz)

def jq(l:(List aB))(most:Int):Option (List aB):=
 (cy l 0 (min (l.length:Int) most)).bind fun y=>
 (nK ([]:List aB) y).bind fun x=>
 some x

def kF(l:(List fU))(most:Int):Option (List fU):=
 (cy l 0 (min (l.length:Int) most)).bind fun y=>
 (nK ([]:List fU) y).bind fun x=>
 some x

def jW(l:(List bk))(most:Int):Option (List bk):=
 (cy l 0 (min (l.length:Int) most)).bind fun y=>
 (nK ([]:List bk) y).bind fun x=>
 some x

def iW(l:(List iA))(most:Int):Option (List iA):=
 (cy l 0 (min (l.length:Int) most)).bind fun y=>
 (nK ([]:List iA) y).bind fun x=>
 some x

def jr(l:(List bq))(most:Int):Option (List bq):=
 (cy l 0 (min (l.length:Int) most)).bind fun y=>
 (nK ([]:List bq) y).bind fun x=>
 some x

def kV:List bq→Nat→bk→Option bk
 |[],i,out=>
  some out
 |e1::tl,i,out=>
  (fe out.Nodes (i:Int)).bind fun e2=>
  (cy e2.Value.S 0 (min (e2.Value.S.length:Int) (41:Int))).bind fun y=>
  (some (out.Nodes.set (i:Int).toNat ({e2 with Value:=({e2.Value with S:=y}:cO)}:bq))).bind fun st=>
  (kV tl) (i+1) ({out with Nodes:=st}:bk)

def me(e:bk):Option bk:=
 (jr e.Nodes (60:Int)).bind fun r=>
 kV r 0 ({(⟨r⟩:bk)with Nodes:=r}:bk)

def jC(nx:Nat→(List aB)→Option (List aB))(i:Nat)(out:List aB):List bk→Nat→aB→Option (List aB)
 |[],i2,n1=>
  (me n1.Cond).bind fun r6=>
  (some (out.set (i:Int).toNat ({({({n1 with Cond:=r6}:aB)with Aggs:=n1.Aggs}:aB)with Items:=n1.Items}:aB))).bind fun st=>
  nx (i+1) st
 |e4::tl1,i2,n1=>
  (fe n1.Items (i2:Int)).bind fun e5=>
  (fe n1.Items (i2:Int)).bind fun e6=>
  (me e6).bind fun r7=>
  (some (n1.Items.set (i2:Int).toNat r7)).bind fun st1=>
  (jC nx i out tl1) (i2+1) ({n1 with Items:=st1}:aB)

def jD(nx:Nat→(List aB)→Option (List aB))(i:Nat)(out:List aB):List fU→Nat→aB→Option (List aB)
 |[],i1,n=>
  jC nx i out n.Items 0 n
 |e3::tl,i1,n=>
  (fe n.Aggs (i1:Int)).bind fun e7=>
  (fe n.Aggs (i1:Int)).bind fun e8=>
  (me e8.Arg).bind fun r8=>
  (some (n.Aggs.set (i1:Int).toNat ({e8 with Arg:=r8}:fU))).bind fun st2=>
  (jD nx i out tl) (i1+1) ({n with Aggs:=st2}:aB)

def gB:Nat→Nat→(List aB)→Option (List aB)
 |0,i,out=>
  some out
 |k1+1,i,out=>
  (fe out (i:Int)).bind fun e1=>
  (fe out (i:Int)).bind fun e2=>
  (fA e2.Kinds (17:Int)).bind fun r1=>
  (fA e2.Keys (6:Int)).bind fun r2=>
  (kF e2.Aggs (14:Int)).bind fun r3=>
  (jW e2.Items (17:Int)).bind fun r4=>
  (iW e2.Order (5:Int)).bind fun r5=>
  jD (gB k1) i out r3 0 ({({({(aB.mk e2.Op e2.A e2.B e2.Table r1 e2.Left e2.Cond r2 e2.Aggs e2.Items e2.Order e2.Limit)with Order:=r5}:aB)with Aggs:=r3}:aB)with Items:=r4}:aB)

def oU(l:(List aB)):Option (List aB):=
 (jq l (61:Int)).bind fun r=>
 gB r.length 0 r

def fc(r2:(List aB))(r5:Int×Int×Int):List bp→Nat→Option Bool
  |[],i1=>
    (if(!(r5.2.2==(0:Int)))then((fe ((⟨r2,(2:Int),(4:Int),[]⟩:cU).Nodes) (IntKind.i64.wrap ((((⟨r2,(2:Int),(4:Int),[]⟩:cU).Nodes).length:Int)-(1:Int)))).bind fun e3=>
    some (e3.Op==(10:Int)))else some true).bind fun t=>
    some t
  |e2::tl1,i1=>
    (if(!(e2.Kind !=(4:Int)))then((fe ((⟨r2,(2:Int),(4:Int),[]⟩:cU).Nodes) (i1:Int)).bind fun e4=>
    some ((e4.Op==(10:Int))&&(((r5.2.2 !=(280:Int))||(r5.1 !=(1:Int)))||(r5.2.1 !=(i1:Int)))))else some true).bind fun t1=>
    if t1 then
    (some false)
    else
    ((fc r2 r5 tl1) (i1+1))

def gb(r1:bz)(r2:(List aB)):List aU→(List Int)→Option Bool
  |[],kinds=>
    (lQ (⟨[(⟨[(⟨(1:Int),(-1:Int),(-1:Int),(0:Int),kinds,false,(⟨[]⟩:bk),[],[],[],[],(0:Int)⟩:aB)],(1:Int),(3:Int),[]⟩:cU),(⟨r2,(2:Int),(4:Int),[]⟩:cU)]⟩:eM) r1).bind fun r4=>
    (kN (⟨[(⟨[(⟨(1:Int),(-1:Int),(-1:Int),(0:Int),kinds,false,(⟨[]⟩:bk),[],[],[],[],(0:Int)⟩:aB)],(1:Int),(3:Int),[]⟩:cU),(⟨r2,(2:Int),(4:Int),[]⟩:cU)]⟩:eM) r1).bind fun r5=>
    if(r4.2.2 !=(0:Int))then
    (some (((r4.2.2==r5.2.2)&&(r4.1==r5.1))&&(r4.2.1==r5.2.1)))
    else
    ((lP (⟨[(⟨[(⟨(1:Int),(-1:Int),(-1:Int),(0:Int),kinds,false,(⟨[]⟩:bk),[],[],[],[],(0:Int)⟩:aB)],(1:Int),(3:Int),[]⟩:cU),(⟨r2,(2:Int),(4:Int),[]⟩:cU)]⟩:eM) r1 (1:Int)).bind fun r6=>
    if((r6.2 !=(0:Int))||((r6.1.length:Int) !=(((⟨r2,(2:Int),(4:Int),[]⟩:cU).Nodes).length:Int)))then
    (some false)
    else
    (fc r2 r5 r6.1 0))
  |e1::tl,kinds=>
    (nK kinds ([e1.Kind])).bind fun kinds1=>
    (gb r1 r2 tl) kinds1

def nG(p:bz)(y:(List aB)):Option Bool:=
  (q4).bind fun r=>
  if(!r)then
  (some false)
  else
  ((oT p).bind fun r1=>
  (oU y).bind fun r2=>
  (lQ (⟨[(⟨r2,(2:Int),(4:Int),[]⟩:cU)]⟩:eM) r1).bind fun r3=>
  if((r3.2.2==(0:Int))||((r1.Tables.length:Int)==(0:Int)))then
  (some (r3.2.2 !=(0:Int)))
  else
  ((fe r1.Tables (0:Int)).bind fun e=>
  gb r1 r2 e.Columns ([]:List Int)))

def ma(v:cO):Option Bool:=
  if(v.Kind==(0:Int))then
  (some (decide (v=(⟨(0:Int),(0:Int),(0:Int),[]⟩:cO))))
  else
  (if(v.Kind==(1:Int))then
  (some (((v.U==(0:Int))&&(v.S==([])))&&((v.N==(0:Int))||(v.N==(1:Int)))))
  else
  (if(v.Kind==(2:Int))then
  (some ((v.U==(0:Int))&&(v.S==([]))))
  else
  (if(v.Kind==(3:Int))then
  (some (((v.N==(0:Int))&&(v.U==(0:Int)))&&(decide ((v.S.length:Int)≤(40:Int)))))
  else
  (some ((v.Kind==(4:Int))&&(v.S==([])))))))

def qW(v:cO):Option Bool:=
 (ma v).bind fun r=>
 some (r&&(v.Kind !=(4:Int)))

def lc(n:bq):Option Bool:=
  if(n.Tag==(1:Int))then
  ((qW n.Value).bind fun r=>
  some (r&&(n.Col==(0:Int))))
  else
  (if(n.Tag==(2:Int))then
  (some (((decide (n.Value=(⟨(0:Int),(0:Int),(0:Int),[]⟩:cO)))&&(decide ((0:Int)≤n.Col)))&&(decide (n.Col<(16:Int)))))
  else
  (some ((decide (n.Value=(⟨(0:Int),(0:Int),(0:Int),[]⟩:cO)))&&(n.Col==(0:Int)))))

def oq(k:Int)(want:Int):Option Bool:=
 some ((k==want)||(k==(0:Int)))

def wY(tag:Int)(l:Int)(r:Int):Option (Int×Bool):=
  if((tag==(4:Int))||((decide ((12:Int)≤tag))&&(decide (tag≤(15:Int)))))then
  ((oq l (2:Int)).bind fun r1=>
  (if r1 then((oq r (2:Int)).bind fun r2=>
  some r2)else some false).bind fun t=>
  some ((2:Int),t))
  else
  (if((tag==(5:Int))||(decide ((22:Int)≤tag)))then
  ((oq l (1:Int)).bind fun r3=>
  (if r3 then((oq r (1:Int)).bind fun r4=>
  some r4)else some false).bind fun t1=>
  some ((1:Int),t1))
  else
  (if((tag==(6:Int))||(tag==(7:Int)))then
  (some ((1:Int),true))
  else
  (some ((1:Int),(((l==r)||(l==(0:Int)))||(r==(0:Int)))))))

end Go.Proofs.YtmogpgcfognefaaGreatDoor

